/- What the theorem leans on, part 39. -/
import Derived.Test.YtihghiojmhegoaaGreatDoorLtUPBL
set_option linter.unusedSimpArgs false
set_option linter.unusedVariables false
set_option maxRecDepth 8000
namespace Go.Proofs.YtihghiojmhegoaaGreatDoor
theorem rowSt_or (fr:Int) (r:List Cl):rowSt fr r=fr ∨ ∃c∈r,c.2.1≠5∧rowSt fr r=c.2.2.2:=by
  unfold rowSt
  cases h:r.find? (fun c=>c.2.1 != 5) with
  | none=>exact .inl rfl
  | some c=>exact .inr ⟨c,List.mem_of_find?_eq_some h,by simpa using List.find?_some h,rfl⟩
theorem cutN_mem : ∀(ns:List Nat) (C r:List Cl),r∈cutN C ns→r.length≤C.length ∧ ∀c∈r,c∈C
  | [],_,_,h=>by cases h
  | n::t,C,r,h=>by
    rw [cutN] at h
    rcases List.mem_cons.1 h with rfl|h
    · exact ⟨by rw [List.length_take];omega,fun c hc=>List.mem_of_mem_take hc⟩
    · obtain ⟨h1,h2⟩:=cutN_mem t _ r h
      rw [List.length_drop] at h1
      exact ⟨by omega,fun c hc=>List.mem_of_mem_drop (h2 c hc)⟩
theorem cutN_len : ∀(ns:List Nat) (C:List Cl),(cutN C ns).length=ns.length
  | [],_=>rfl
  | n::t,C=>by rw [cutN,List.length_cons,List.length_cons,cutN_len t]
theorem beh_mem (n:Nat) (p:List Cl):(behN n p).length≤p.length+n ∧ ∀c∈behN n p,c∈p∨(c.2.1=5∧cw c=1):=by
  cases p with
  | nil=>exact ⟨Nat.zero_le _,fun c hc=>by cases hc⟩
  | cons y t=>
    rw [behN]
    refine ⟨by rw [List.length_append,List.length_replicate];omega,fun c hc =>?_⟩
    rcases List.mem_append.1 hc with hc|hc
    · rw [(List.mem_replicate.1 hc).2];exact .inr ⟨rfl,rfl⟩
    · exact .inl hc
theorem rows_in {C:List Cl} {wd:Int} {r:List Cl} (h:r∈rowsN C wd):r.length≤C.length+8 ∧ ∀c∈r,c∈C∨(c.2.1=5∧cw c=1):=by
  have hh:hang C wd≤8:=by have:=indent_le C;unfold hang;split<;>omega
  rw [rowsN] at h
  rcases hpq:cutN C (takesL C wd) with _|⟨p,q⟩
  · rw [hpq] at h;cases h
  · have hm:=fun x hx=>cutN_mem (takesL C wd) C x (by rw [hpq];exact hx)
    rw [hpq] at h
    rcases List.mem_cons.1 h with rfl|h
    · obtain ⟨h1,h2⟩:=hm r List.mem_cons_self
      exact ⟨by omega,fun c hc=> .inl (h2 c hc)⟩
    · obtain ⟨x,hx,rfl⟩:=List.mem_map.1 h
      obtain ⟨h1,h2⟩:=hm x (List.mem_cons_of_mem _ hx)
      obtain ⟨h3,h4⟩:=beh_mem (hang C wd) x
      refine ⟨by omega,fun c hc =>?_⟩
      rcases h4 c hc with h5|h5
      · exact .inl (h2 c h5)
      · exact .inr h5
theorem rowsN_len (C:List Cl) (wd:Int):(rowsN C wd).length≤C.length+1:=by
  have h1:=takesL_len C wd
  have h2:=cutN_len (takesL C wd) C
  rw [rowsN]
  rcases hpq:cutN C (takesL C wd) with _|⟨p,q⟩
  · exact Nat.zero_le _
  · rw [hpq] at h2
    simp only [List.length_cons,List.length_map] at h2 ⊢
    omega
structure GdL (L:List Iy):Prop where
  len:L.length≤60
  so:SoI L
  at' : ∀y∈L,0≤y.2.1
  sz : ∀y∈L,y.2.2.2.2.size≤1000000
  nb : ∀y∈L,10∉runesAt y.2.2.2.2 0
  rs:inlB L≤12000
theorem runP_cnt {l:List Int} {L:List Iy} {H:List Sn} (g:GdL L) (hll:l.length≤20000) (hr:rgt l.length 0 H=true) {a:Nat} (ha:a≤l.length) (hb:a=0∨shB l H (a - 1)=true) :
    (∀z∈runP l L (endP l H a) a H,Qz z)∧(runP l L (endP l H a) a H).length≤(L.length+1)*(l.length+1):=by
  have h:=docA_all hll hr g.sz g.nb _ a [] (Nat.le_refl _) ha (fun z hz=>by cases hz)
  rw [docA_is g.so hr ha (beg_in hb hr)] at h
  refine ⟨h.1,Nat.le_trans h.2 ?_⟩
  simp only [List.length_nil,Nat.zero_add]
  exact Nat.mul_le_mul_left _ (by omega)
structure LnG (z w:List (Int × Int)) (tab:Nat) (wd:Int) (l:List Int) (L:List Iy) (H:List Sn) (x:Nat × Nat):Prop where
  fl:(flatL (runP l L x.2 x.1 H)).length≤4000000
  pz:PzOk (runP l L x.2 x.1 H)
  ok:ClOk (cellsR z w tab 0 (flatL (runP l L x.2 x.1 H)))
  q:(rowsN (cellsR z w tab 0 (flatL (runP l L x.2 x.1 H))) wd).length≤100000000
  s : ∀r∈rowsN (cellsR z w tab 0 (flatL (runP l L x.2 x.1 H))) wd,0≤rowSt x.1 r∧rowSt x.1 r≤l.length∧r.length≤100000000 ∧ ∀c∈r,cw c≤2
theorem ln_ok {l:List Int} {L:List Iy} {H:List Sn} (g:GdL L) (hl:l.length≤300) (hr:rgt l.length 0 H=true) (z w:List (Int × Int)) {tab:Nat} (ht:1≤tab∧tab≤16) (wd:Int) {x:Nat × Nat} (h1:x.1≤l.length) (h2:x.2=endP l H x.1) (h3:x.1=0∨shB l H (x.1 - 1)=true) :
    LnG z w tab wd l L H x:=by
  have hfl:=runP_len g.so hr h1 h3
  have hfl2:(inlB L+1)*(l.length+1)≤12001*301:=Nat.mul_le_mul (by have:=g.rs;omega) (by omega)
  have hC:=(runP_fl (L:=L) g.so hr h1 h3).cells (z:=z) (w:=w) (tab:=tab) 0
  have he:=endP_in l H h1
  obtain ⟨ha,hc⟩:=runP_cnt g (by omega) hr h1 h3
  have hc2:(L.length+1)*(l.length+1)≤61*301:=Nat.mul_le_mul (by have:=g.len;omega) (by omega)
  rw [←h2] at hfl hC he ha hc
  have hcl:=cellsR_len (z:=z) (w:=w) ht.1 ht.2 (flatL (runP l L x.2 x.1 H)) 0
  have hrl:=rowsN_len (cellsR z w tab 0 (flatL (runP l L x.2 x.1 H))) wd
  refine ⟨by omega,⟨by omega,fun k a rs hm =>?_,fun a hm =>?_,by omega⟩,⟨by omega,fun c hc=>(hC.kd c hc).2.1⟩,by omega,fun r hr' =>?_⟩
  · obtain ⟨⟨p1,p2,p3⟩,k1,_⟩:=ha _ hm
    exact ⟨k1,p1,by omega,by omega⟩
  · obtain ⟨⟨p1,p2⟩,_⟩:=ha _ hm
    exact ⟨p1,by omega⟩
  · obtain ⟨q1,q2⟩:=rows_in hr'
    have hst:0≤rowSt x.1 r∧rowSt x.1 r≤l.length:=by
      rcases rowSt_or x.1 r with e|⟨c,c1,c2,c3⟩
      · omega
      · rcases q2 c c1 with q|q
        · have:=hC.ins c q;omega
        · exact (c2 q.1).elim
    refine ⟨hst.1,hst.2,by omega,fun c hc =>?_⟩
    rcases q2 c hc with q|q
    · exact (hC.kd c q).2.1
    · omega
section
variable {l:List Int} {ps:List (List Int)} {t:Option T}
theorem lLine_all (R:Rp l ps t) (hl:l.length≤300) (X:D) (n:Int) {L:List Iy} {H:List Sn} {z w:List (Int × Int)} (hz:RgOk z) (hw:RgOk w) {tab:Nat} (ht:1≤tab∧tab≤16) {wd:Int} (hwd:0≤wd∧wd≤200) {x:Nat × Nat} (g:LnG z w tab wd l L H x) :
    OFn Tryz.prog G0 31 [.d (vwD (ropeD t) (inlD n X) (.sd 2 false (H.map snD)) z w tab wd),.d (lnD l L H x)] [] 0 (.d (.sd 7 false ((layL z w tab wd l (runP l L x.2 x.1 H) x.1 x.2).map rwD))) []:=
  lLine_fn l _ _ _ z w hz hw tab ht wd hwd _ g.pz g.fl _ _ (by omega) (fun s h1 h2=>by
    obtain ⟨k,rfl⟩ : ∃k:Nat,s=k:=⟨s.toNat,by omega⟩
    exact Ahead_fn R k (by omega)) g.ok g.q g.s
end
end Go.Proofs.YtihghiojmhegoaaGreatDoor
