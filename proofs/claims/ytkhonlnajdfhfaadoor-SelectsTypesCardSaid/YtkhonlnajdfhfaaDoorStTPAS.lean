/- What the theorem leans on, part 19. -/
import Derived.Test.YtkhonlnajdfhfaaDoorStTPAR
set_option linter.unusedSimpArgs false
set_option linter.unusedVariables false
set_option maxRecDepth 8000
namespace Go.Proofs.YtkhonlnajdfhfaaDoor
def FS (n:Int) (L:List Se) (M:Nat) (x:Nat × Int × List Se):St:=⟨[(2,.po 0 0),(4,.po 1 0),(5,iv M),(6,.so 2 2 0 x.2.2.length),(7,iv x.2.1),(15,eU L),(16,iv L.length),(17,iv x.1)],[(0,.cell [iv n,eU L,iv 0]),(1,.cell [iv 0,.d (.lit (.slice none 0 0)),iv 0]),(2,dd x.2.2)],3⟩
def FO (n:Int) (m:ByteArray) (L:List Se) (x:Nat × Int):St:=⟨[(0,iv n),(5,iv x.2),(11,Bv m L),(12,iv L.length),(13,iv x.1)],[],0⟩
def FN (m:ByteArray) (L:List Se) (x:Nat × List Int):St:=⟨[(1,Bv m L),(7,md x.2),(8,iv (x.1 - 1))],[],0⟩
attribute [push_cast] FS.eq_def FO.eq_def FN.eq_def
theorem tf (n:Int) (m:ByteArray) (L:List Se) (h0:0<L.length) (hl:L.length≤64) (hm:m.size≤100000) (hn:0≤n∧n≤100000) (hb : ∀x∈L,0≤ak x∧ai x≤100000)
 (hM:(ae m 0).length≤100000) (hk:aM (n+cJ (ae m 0).length 0 L) (de (ae m 0).length 0 L)=0) :
 aG Tryd.prog G0 15 [BD n L,sv m] [] 0 (BD (n+cJ (ae m 0).length 0 L) (aK (de (ae m 0).length 0 L))) []:=by
 have r2:=dq m (by omega);have r5:=kL (n+cJ (ae m 0).length 0 L) (de (ae m 0).length 0 L) (by rw [b9];omega) hk;generalize ae m 0=rs at *
 refine vF ab [0,1,2,4,5,6,7,9,10,15,16,17,18,50] Tryd.func15 rfl Tryd.results15 Tryd.ntmps15 ?_;(refine' qj r2)
 refine vL (lv:=[0,1,2,4,5,6,7,9,10,15,16,17,18,50]) ab (FS n L rs.length) (fun x=>x.1≤L.length∧x.2.1=cJ rs.length 0 (L.take x.1)∧x.2.2=de rs.length 0 (L.take x.1)) (fun x=>L.length - x.1) ((0,0,[])) (a7.nil 6 2<|(a7.go [2,4,5,6,7,15,16,17] (by exact vT) rfl)) ?_ ?_
 ·exact ⟨Nat.zero_le _,rfl,rfl⟩
 rintro ⟨i,s,es⟩ ⟨hi,hs,he⟩;simp only at hi hs he;have hel:es.length=i:=by rw [he,b9,List.length_take];omega
 obtain ⟨b1,b2⟩:=kF (m:=rs.length) (by omega) (by omega) (L.take i) 0 (fun x hx=>hb x (List.mem_of_mem_take hx));rw [←hs,List.length_take,Nat.min_eq_left hi] at b1 b2;rcases Nat.lt_or_ge i L.length with hlt|hge
 ·obtain ⟨x,hx⟩ : ∃x,L[i]? = some x:=⟨_,List.getElem?_eq_getElem hlt⟩
  have hbx:=hb x (List.mem_of_getElem? hx);have hle:=aQ x;(repeat' (first|(with_reducible first|exact True.intro|refine vD ?_|refine vG ?_|refine vE ?_)|(with_reducible refine cj.is i x (by omega) hx ?_)|with_reducible refine vC (bM x) ?_|with_reducible refine vQ (bM x) ?_|refine vR ?_|refine v6 ?_|with_reducible refine vN ?_|((with_reducible first|refine vB (fun h =>?_) (fun h =>?_)|refine vM (fun h =>?_) (fun h =>?_))<;>(first|(exfalso;omega)|skip))))
  rw [cp];refine bA.go ((i+1,s+rs.length - (ai x - ak x),es++[(ak x+s+rs.length,ak x+s+rs.length)])) [2,4,5,6,7,15,16,17] (by exact vT) ?_ ?_
  ·show L.length - (i+1)<L.length - i;omega
  ·exact ⟨hlt,by rw [aX hx,jJ,←hs],by rw [aX hx,jI,←hs,←he]⟩
 ·rw [List.take_of_length_le hge] at hs he;subst hs he;have hgl:=b9 rs.length L 0;have hk2:n+cJ rs.length 0 L≤1099511627776:=by omega
  (refine' zg)
  refine ap.frz 2 rfl ?_;(refine' xZ r5)
theorem tc (n a b:Int) (h:0≤a∧a≤b∧b≤n):aG Tryd.prog G0 60 [iv n,iv a,iv b] [] 0 (bv true) []:=by
 refine vF ab [0,1,2,6] Tryd.func60 rfl Tryd.results60 Tryd.ntmps60 ?_;(refine' zo)
 all_goals (simp [h.1,h.2.1,h.2.2])
theorem tt (n:Int) (m:ByteArray) (L:List Se) (hl:L.length≤64) (ho:dY n 0 L):aG Tryd.prog G0 30 [iv n,Bv m L] [] 0 (iv 0) []:=by
 refine vF ab [0,1,4,5,7,10,11,12,13,14,23,27] Tryd.func30 rfl Tryd.results30 Tryd.ntmps30 ?_;(refine' zg)
 refine vL (lv:=[0,1,4,5,7,10,11,12,13,14,23,27]) ab (FO n m L) (fun x=>x.1≤L.length ∧ ∀y,L[x.1]? = some y→x.2≤ak y) (fun x=>L.length - x.1) ((0,0)) ((a7.go [0,5,11,12,13] (by exact vT) rfl)) ?_ ?_
 ·exact ⟨Nat.zero_le _,fun y hy=>(f8 L 0 y ho hy).1⟩
 rintro ⟨i,la⟩ ⟨hi,hla⟩;simp only at hi hla;rcases Nat.lt_or_ge i L.length with hlt|hge
 ·obtain ⟨x,hx⟩ : ∃x,L[i]? = some x:=⟨_,List.getElem?_eq_getElem hlt⟩
  obtain ⟨a1,a2,a3,_⟩:=f8 L i x ho hx;have a4:=hla x hx;have r1:=tc n (ak x) (ai x) ⟨a1,a2,a3⟩;(repeat' (first|(with_reducible first|exact True.intro|refine vD ?_|refine vG ?_|refine vE ?_)|(with_reducible refine cj.is i x (by omega) hx ?_)|with_reducible refine vC (r1) ?_|with_reducible refine vQ (r1) ?_|refine vR ?_|refine v6 ?_|with_reducible refine vN ?_|((with_reducible first|refine vB (fun h =>?_) (fun h =>?_)|refine vM (fun h =>?_) (fun h =>?_))<;>(first|(exfalso;omega)|skip))))
  refine bA.go ((i+1,ai x)) [0,5,11,12,13] (by exact vT) ?_ ?_
  ·show L.length - (i+1)<L.length - i;omega
  ·exact ⟨hlt,fun y hy=>(f8 L (i+1) y ho hy).2.2.2 x (by omega) hx⟩
 ·(refine' zo)
theorem Ar (l t:List Int) (a b:Nat) (hl:l.length≤100000000) (ht:t.length≤100000000) (ha:a≤l.length) (hb:b≤l.length) :
 aG Tryd.prog G0 31 [md l,.d (.agg [.lit (.int .i64 a),.lit (.int .i64 b)]),md t] [] 0 (md (l.take a++t++l.drop b)) []:=by
 refine vF ab [0,1,2,4,6,7] Tryd.func31 rfl Tryd.results31 Tryd.ntmps31 ?_;(refine' zg)
 refine ah.frz 76 (ah.out ?_);(refine' zg)
 all_goals (try rw [List.take_of_length_le (by simp)])
theorem ve:aG Tryd.prog G0 32 [] [] 0 (iv 20000) []:=by
 refine vF ab [0] Tryd.func32 rfl Tryd.results32 Tryd.ntmps32 ?_;(refine' zo)
theorem u7 (r:List Int) (m:ByteArray) (L:List Se) (hm:m.size≤100000) (hl:L.length≤64) (hr:r.length≤1000) (ho:dY r.length 0 L) (hM:(ae m 0).length≤100)
 (hs:(bN r (ae m 0) 0 L).length≤20000) :
 aG Tryd.prog G0 14 [md r,Bv m L] [] 0 (.tup [md (bN r (ae m 0) 0 L),iv 0]) []:=by
 have rc:=tt r.length m L hl ho;have rd:=dq m (by omega);have rm:=ve;generalize ae m 0=M at *
 refine vF ab [0,1,4,5,6,7,8,14,23,48] Tryd.func14 rfl Tryd.results14 Tryd.ntmps14 ?_;(refine' qj rc)
 refine vL (lv:=[0,1,4,5,6,7,8,14,23,48]) ab (FN m L) (fun x=>x.1≤L.length∧x.2=bN r M 0 (L.drop x.1)) (fun x=>x.1) ((L.length,r)) (a7.frz 48<|(a7.go [1,7,8] (by exact vT) rfl)) ?_ ?_
 ·exact ⟨Nat.le_refl _,by rw [List.drop_length,bN,List.drop_zero]⟩
 rintro ⟨k,out⟩ ⟨hk,he⟩;simp only at hk he;have hol:=yc r M L k hk ho (by omega) (by omega);rw [←he] at hol;rcases Nat.eq_zero_or_pos k with h0|h0
 ·subst h0;rw [List.drop_zero] at he;subst he;(refine' xZ rm)
 ·obtain ⟨x,hx⟩ : ∃x,L[k - 1]? = some x:=⟨_,List.getElem?_eq_getElem (by omega)⟩
  obtain ⟨a1,a2,a3,_⟩:=f8 L (k - 1) x ho hx;have hst:=tr r M L (k - 1) x ho hx;rw [show k - 1+1=k by omega,←he] at hst;have hlo:r.length≤out.length+100000∧ai x≤out.length:=by
   have h1:=f9 L (k - 1) ho;have hd:L.drop (k - 1)=x::L.drop k:=by
    obtain ⟨hk2,e⟩:=List.getElem?_eq_some_iff.1 hx;rw [List.drop_eq_getElem_cons hk2,e,show k - 1+1=k by omega]
   rw [hd] at h1;have h3:dY r.length (ai x).toNat (L.drop k):=by
    have:=h1.2.2;rwa [←Int.toNat_of_nonneg (show 0≤ai x by omega)] at this
   have e:=oI r M _ _ h3;rw [he,←e,List.length_append,List.length_take];omega
  have rp:=Ar out M (ak x).toNat (ai x).toNat (by omega) (by omega) (by omega) (by omega);rw [Int.toNat_of_nonneg (by omega),Int.toNat_of_nonneg (by omega),hst] at rp;(repeat' (first|(with_reducible first|exact True.intro|refine vD ?_|refine vG ?_|refine vE ?_)|(with_reducible refine cj.is (k - 1) x (by omega) hx ?_)|with_reducible refine vQ (rd) ?_|with_reducible refine vC (rd) ?_|with_reducible refine vQ (rp) ?_|with_reducible refine vC (rp) ?_|refine vR ?_|refine v6 ?_|with_reducible refine vN ?_|((with_reducible first|refine vB (fun h =>?_) (fun h =>?_)|refine vM (fun h =>?_) (fun h =>?_))<;>(first|(exfalso;omega)|skip))))
  refine bA.go ((k - 1,bN r M 0 (L.drop (k - 1)))) [1,7,8] (by exact vT) ?_ ?_
  ·show k - 1<k;omega
  ·exact ⟨by simp only;omega,rfl⟩
end Go.Proofs.YtkhonlnajdfhfaaDoor
