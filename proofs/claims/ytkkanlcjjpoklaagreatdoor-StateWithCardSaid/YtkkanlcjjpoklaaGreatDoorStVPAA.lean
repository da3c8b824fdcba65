/- What the theorem leans on, part 1. -/
import Derived.WalkKit
import Derived.Below
import Derived.Laws.Tables
import Derived.Laws.Cells
import Derived.Laws.Small
import Derived.LaidEql
import Derived.Laws.AppendOwn
import Derived.Lib.Builder
import Derived.Lib.UnsafeStr
import Derived.Laws.BytesArg
import Derived.Calls
set_option linter.unusedSimpArgs false
namespace Go.Proofs.YtkkanlcjjpoklaaGreatDoor
abbrev IO:=@List.getElem?_eq_getElem
abbrev Or:=@List.length_append
abbrev aaV:=@Nat.le_refl
abbrev aaW:=@List.take_of_length_le
abbrev aaX:=@List.getElem?_eq_some_iff
abbrev aaY:=@if_neg
abbrev aaZ:=@Option.map_eq_some_iff
abbrev aa0:=@List.mem_of_getElem?
abbrev aa1:=@Nat.zero_le
abbrev aa2:=@Nat.lt_or_ge
abbrev aa3:=@if_pos
abbrev aa4:=@List.length_map
abbrev aa5:=@Option.some.injEq
abbrev aa6:=@List.length_cons
abbrev aa7:=@List.length_take
abbrev aa8:=@Bool.and_eq_true
abbrev aa9:=@Bool.false_eq_true
abbrev aba:=@List.append_assoc
abbrev abb:=@List.append_nil
abbrev abc:=@List.map_append
abbrev abd:=@List.mem_cons_of_mem
abbrev abe:=@List.mem_append
abbrev abf:=@List.take_append_drop
abbrev abg:=@List.length_drop
abbrev abh:=@List.map_cons
abbrev abi:=@List.mem_cons
abbrev abj:=@List.mem_cons_self
abbrev abk:=@List.length_singleton
abbrev abl:=@Prod.mk.injEq
abbrev abm:=@List.mem_of_mem_take
abbrev abn:=@List.take_succ_cons
abbrev abo:=@List.drop_of_length_le
abbrev abp:=@List.getElem?_map
abbrev abq:=@List.getElem?_cons_zero
abbrev abr:=@Array.length_toList
abbrev abs:=@decide_eq_true_eq
abbrev abt:=@List.length_nil
abbrev abu:=@List.eq_nil_of_length_eq_zero
abbrev abv:=@List.filter_cons_of_neg
abbrev abw:=@decide_eq_true
abbrev abx:=@Array.toList_inj
abbrev aby:=@List.length_pos_iff
abbrev abz:=@List.getElem?_eq_none
abbrev abA:=@List.filter_cons_of_pos
abbrev abB:=@List.getElem?_cons_succ
abbrev abC:=@List.take_length
abbrev abD:=@Nat.add_zero
abbrev abE:=@Array.getD_eq_getD_getElem?
abbrev abF:=@List.all_eq_true
abbrev abG:=@List.cons_append
abbrev abH:=@Nat.eq_zero_or_pos
abbrev abI:=@List.drop_eq_getElem_cons
abbrev abJ:=@List.getElem?_drop
abbrev abK:=@List.mem_singleton
abbrev abL:=@List.nil_append
abbrev abM:=@decide_eq_false
abbrev abN:=@Int.le_refl
abbrev abO:=@List.take_zero
abbrev abP:=@Bool.or_eq_true
abbrev abQ:=@Nat.mul_le_mul_right
abbrev abR:=@List.pairwise_cons
abbrev abS:=@List.length_replicate
abbrev abT:=@List.getD_eq_getElem?_getD
abbrev abU:=@List.mem_of_mem_drop
abbrev abV:=@Nat.add_mul
abbrev abW:=@List.getElem?_take
abbrev abX:=@Nat.mul_le_mul_left
abbrev abY:=@List.mem_map
abbrev abZ:=@List.getElem?_append_right
abbrev ab0:=@if_true
abbrev ab1:=@if_false
abbrev ab2:=@List.concat_eq_append
abbrev ab3:=@List.getElem?_append_left
abbrev ab4:=@List.getD_cons_zero
abbrev ab5:=@Nat.le_trans
abbrev ab6:=@List.getElem?_of_mem
abbrev ab7:=@List.cons.injEq
abbrev ab8:=@List.eq_nil_or_concat
abbrev ab9:=@decide_eq_false_iff_not
abbrev aca:=@beq_iff_eq
abbrev acb:=@Bool.not_eq_true'
abbrev acd:=@List.filter_eq_nil_iff
abbrev ace:=@List.flatMap_cons
abbrev acf:=@List.flatten_cons
abbrev acg:=@List.filter_append
abbrev ach:=@List.getD_cons_succ
abbrev aci:=@List.map_map
abbrev acj:=@List.mem_filter
abbrev ack:=@Int.toNat_natCast
abbrev acl:=@List.map_nil
abbrev acm:=@List.drop_drop
abbrev acn:=@List.map_take
abbrev aco:=@Nat.lt_succ_self
abbrev acp:=@List.length_filter_le
abbrev acq:=@List.reverse_cons
abbrev acr:=@List.replicate_succ'
abbrev acs:=@Nat.add_sub_cancel
abbrev act:=@Bool.eq_iff_iff
abbrev acu:=@List.sum_cons
abbrev acv:=@Option.isSome_iff_exists
abbrev acw:=@Nat.min_eq_left
abbrev acx:=@Ne.symm
abbrev acy:=@Bool.or_eq_false_iff
abbrev acz:=@List.getElem?_append
abbrev acA:=@Option.getD_some
abbrev acB:=@dif_pos
abbrev acC:=@Nat.zero_add
abbrev acD:=@beq_eq_false_iff_ne
abbrev acE:=@List.foldl_cons
abbrev acF:=@List.nodup_cons
abbrev acG:=@Array.getElem?_setIfInBounds_ne
abbrev acH:=@List.pairwise_iff_getElem
abbrev acI:=@Nat.add_assoc
abbrev acJ:=@List.foldl_nil
abbrev acK:=@List.pairwise_append
abbrev acL:=@List.foldl_append
abbrev acM:=@List.size_toArray
abbrev acN:=@Nat.lt_trichotomy
abbrev acO:=@of_decide_eq_true
abbrev acP:=@Option.some.inj
abbrev acQ:=@List.flatten_append
abbrev acR:=@Nat.mul_succ
abbrev acS:=@List.Perm.refl
abbrev acT:=@Option.map_some
abbrev acU:=@List.getLast?_concat
abbrev acV:=@List.sum_nil
abbrev acW:=@List.replicate_succ
abbrev acX:=@dif_neg
abbrev acY:=@List.drop_length
abbrev acZ:=@List.filter_cons
abbrev ac0:=@Nat.add_sub_cancel_left
abbrev ac1:=@Array.getElem?_eq_none
abbrev ac2:=@Int.sub_zero
abbrev ac3:=@List.length_eq_one_iff
abbrev ac4:=@Nat.sub_self
abbrev ac5:=@of_decide_eq_false
abbrev ac6:=@List.find?_cons
abbrev ac7:=@List.take_add_one
abbrev ac8:=@Bool.and_eq_true_iff
abbrev ac9:=@List.drop_zero
abbrev ada:=@List.getLast?_append
abbrev adb:=@List.mem_append_left
abbrev adc:=@and_true
abbrev ade:=@Nat.succ_pos
abbrev adf:=@List.mem_of_find?_eq_some
abbrev adg:=@List.filter_eq_self
abbrev adh:=@ByteArray.ext
abbrev adi:=@List.getElem?_take_of_lt
abbrev adj:=@List.map_drop
abbrev adk:=@Bool.decide_and
abbrev adl:=@List.mem_replicate
abbrev adm:=@Nat.mod_lt
abbrev adn:=@List.getLast?_singleton
abbrev ado:=@ByteArray.data_extract
abbrev adp:=@List.ext_getElem?
abbrev adq:=@List.getElem?_set
abbrev adr:=@List.getElem?_set_self
abbrev ads:=@List.take_left
abbrev adt:=@Nat.mul_le_mul
abbrev adu:=@Array.mem_of_getElem?
abbrev adv:=@List.mem_append_right
abbrev adw:=@List.singleton_append
abbrev adx:=@Array.eq_empty_of_size_eq_zero
abbrev ady:=@List.countP_cons
abbrev adz:=@decide_eq_decide
abbrev adA:=@List.take_add
abbrev adB:=@Array.toList_extract
abbrev adC:=@List.dropLast_concat
abbrev adD:=@Array.getElem?_setIfInBounds
abbrev adE:=@Int.natCast_add
abbrev adF:=@List.head?_cons
abbrev adG:=@Nat.div_add_mod
abbrev adH:=@List.flatMap_append
abbrev adI:=@List.map_congr_left
abbrev adJ:=@List.takeWhile_cons
abbrev adK:=@Array.foldl_toList
abbrev adL:=@Array.getElem?_eq_some_iff
abbrev adM:=@Array.toList_setIfInBounds
abbrev adN:=@ByteArray.mk.injEq
abbrev adO:=@List.find?_eq_none
abbrev adP:=@List.mem_range
abbrev adQ:=@List.nodup_nil
abbrev adR:=@List.perm_append_singleton
abbrev adS:=@Array.getElem?_eq_getElem
abbrev adT:=@List.extract_eq_take_drop
abbrev adU:=@List.getElem?_eq_none_iff
abbrev adV:=@Option.isNone_iff_eq_none
abbrev adW:=@Array.getElem?_push_size
abbrev adX:=@Bool.not_true
abbrev adY:=@List.take_nil
abbrev adZ:=@List.flatten_nil
abbrev ad0:=@List.getElem_mem
abbrev ad1:=@List.pairwise_singleton
abbrev ad2:=@List.toArray_inj
abbrev ad3:=@Nat.le_mul_of_pos_right
abbrev ad4:=@Nat.le_of_not_lt
abbrev ad5:=@Nat.sub_zero
abbrev ad6:=@Nat.succ_mul
abbrev ad7:=@List.filter_nil
abbrev ad8:=@List.find?_some
abbrev ad9:=@Nat.div_le_self
abbrev aea:=@Nat.not_lt_zero
abbrev aeb:=@and_congr_right
abbrev aec:=@Array.mk.injEq
abbrev aed:=@List.take_take
abbrev aee:=@Option.some_or
abbrev aef:=@Bool.true_and
abbrev aeg:=@Array.ext'
inductive D where
 | lit (v:Value)
 | agg (cs:List D)
 | sd (k:Nat) (full:Bool) (es:List D)
 | pd (k:Nat) (es:List D) (i j:Nat)
 | fn (f:Nat) (caps:List D)
 | ifc (t:Nat) (x:D)
 | bf (f:Nat) (fs:List D)
 | ne (k:Nat)
def D.cells:D→List D
 | .agg cs=>cs
 | x=>[x]
inductive ax (w:World) (I:Nat→Prop):D→Value→Prop
 | lit (v:Value):ax w I (.lit v) v
 | agg (cs:List D) (vs:List Value) (hl:cs.length=vs.length) (ho : ∀v∈vs,v.oneCell'=true) (h : ∀(i:Nat) c v,cs[i]? = some c→vs[i]? = some v→ax w I c v):ax w I (.agg cs) (.agg vs.toArray)
 | sd (k:Nat) (full:Bool) (es:List D) (b o cap:Nat) (val:Nat→Nat→Value) (hI:I b) (hk : ∀(i:Nat) e,es[i]? = some e→e.cells.length=k)
  (hc : ∀(i:Nat) e (j:Nat) c,es[i]? = some e→e.cells[j]? = some c→w.cell? ⟨b,o+i*k+j,none⟩=some (val i j))
  (ho : ∀(i:Nat) e (j:Nat) c,es[i]? = some e→e.cells[j]? = some c→(val i j).oneCell'=true)
  (hd : ∀(i:Nat) e (j:Nat) c,es[i]? = some e→e.cells[j]? = some c→ax w I c (val i j))
  (hcap:es.length≤cap) (hfull:full=true→cap=es.length):ax w I (.sd k full es) (.slice (some ⟨b,o,none⟩) es.length cap)
 | sd0 (k:Nat) (full:Bool) (a:Option Addr):ax w I (.sd k full []) (.slice a 0 0)
 | pd (k:Nat) (es:List D) (i j:Nat) (b o:Nat) (val:Nat→Nat→Value) (hI:I b) (hk : ∀(i:Nat) e,es[i]? = some e→e.cells.length=k)
  (hc : ∀(i:Nat) e (j:Nat) c,es[i]? = some e→e.cells[j]? = some c→w.cell? ⟨b,o+i*k+j,none⟩=some (val i j))
  (ho : ∀(i:Nat) e (j:Nat) c,es[i]? = some e→e.cells[j]? = some c→(val i j).oneCell'=true)
  (hd : ∀(i:Nat) e (j:Nat) c,es[i]? = some e→e.cells[j]? = some c→ax w I c (val i j)):ax w I (.pd k es i j) (.pointer (some ⟨b,o+i*k+j,none⟩))
 | fn (f:Nat) (caps:List D) (vs:List Value) (hl:caps.length=vs.length) (h : ∀(i:Nat) c v,caps[i]? = some c→vs[i]? = some v→ax w I c v):ax w I (.fn f caps) (.func (.func f) #[] vs.toArray)
 | ifc (t:Nat) (x:D) (v:Value) (h:ax w I x v):ax w I (.ifc t x) (.iface t v)
 | bf (f:Nat) (fs:List D) (vs:List Value) (hl:fs.length=vs.length) (h : ∀(i:Nat) c v,fs[i]? = some c→vs[i]? = some v→ax w I c v):ax w I (.bf f fs) (.func (.func f) vs.toArray #[])
 | ne (k:Nat) (a:Addr) (c:Nat):ax w I (.ne k) (.slice (some a) 0 c)
theorem mX {w w':World} {b:Nat} (h:w'.heap[b]? = w.heap[b]?) (o:Nat):w'.cell? ⟨b,o,none⟩=w.cell? ⟨b,o,none⟩:=by
 simp only [World.cell?,h]
theorem ax.keep {w w':World} {I I':Nat→Prop} (hb : ∀b,I b→w'.heap[b]? = w.heap[b]?) (hI : ∀b,I b→I' b) {x:D} {v:Value} (h:ax w I x v):ax w' I' x v:=by
 induction h with
 | lit v=>exact .lit v
 | agg cs vs hl ho _ ih=>exact .agg cs vs hl ho ih
 | sd k full es b o cap val hi hk hc ho _ hcap hfull ih=>
  exact .sd k full es b o cap val (hI b hi) hk (fun i e j c he hj=>(mX (hb b hi) _).trans (hc i e j c he hj)) ho ih hcap hfull
 | sd0 k full a=>exact .sd0 k full a
 | pd k es i j b o val hi hk hc ho _ ih=>exact .pd k es i j b o val (hI b hi) hk (fun i e j c he hj=>(mX (hb b hi) _).trans (hc i e j c he hj)) ho ih
 | fn f caps vs hl _ ih=>exact .fn f caps vs hl ih
 | ifc t x v _ ih=>exact .ifc t x v ih
 | bf f fs vs hl _ ih=>exact .bf f fs vs hl ih
 | ne k a c=>exact .ne k a c
inductive V where
 | d (x:D)
 | so (id k lo n:Nat)
 | po (id o:Nat)
 | pe (id k i j:Nat)
 | mo (id:Nat)
 | it (id:Nat)
 | yl (id:Nat)
 | unk
 | agg (cs:List V)
 | tup (vs:List V)
 | fn (f:Nat) (caps:List V)
abbrev co:=Nat→Option (Option (Nat × Nat))
def cg (w:World) (I:Nat→Prop) (β:co):V→Value→Prop
 | .d x,v=>ax w I x v
 | .so id k lo n,v=>(β id=some none∧lo=0∧n=0 ∧ ∃a,v = .slice a 0 0) ∨ ∃b cap c,β id=some (some (b,cap))∧lo+c≤cap∧n≤c∧v = .slice (some ⟨b,lo*k,none⟩) n c
 | .po id o,v=> ∃b cap,β id=some (some (b,cap))∧v = .pointer (some ⟨b,o,none⟩)
 | .pe id k i j,v=> ∃b cap,β id=some (some (b,cap))∧v = .pointer (some ⟨b,i*k+j,none⟩)
 | .mo id,v=> ∃b cap,β id=some (some (b,cap))∧v = .map (some b)
 | .it id,v=> ∃b cap,β id=some (some (b,cap))∧v = .pointer (some ⟨b,0,none⟩)
 | .yl id,v=> ∃b cap,β id=some (some (b,cap))∧v = .func (.yield b) #[] #[]
 | .unk,_=>True
 | _,_=>False
def bY (w:World) (I:Nat→Prop) (β:co) (cs:List V) (vs:List Value):Prop:=cs.length=vs.length ∧ ∀(i:Nat) c v,cs[i]? = some c→vs[i]? = some v→cg w I β c v
def aL (w:World) (I:Nat→Prop) (β:co):V→Value→Prop
 | .agg cs,v=> ∃vs:List Value,v = .agg vs.toArray∧(∀x∈vs,x.oneCell'=true)∧bY w I β cs vs
 | .tup cs,v=> ∃vs:List Value,v = .tuple vs.toArray∧bY w I β cs vs
 | .fn f cs,v=> ∃vs:List Value,v = .func (.func f) #[] vs.toArray∧bY w I β cs vs
 | .d x,v=>cg w I β (.d x) v
 | .so id k lo n,v=>cg w I β (.so id k lo n) v
 | .po id o,v=>cg w I β (.po id o) v
 | .pe id k i j,v=>cg w I β (.pe id k i j) v
 | .mo id,v=>cg w I β (.mo id) v
 | .it id,v=>cg w I β (.it id) v
 | .yl id,v=>cg w I β (.yl id) v
 | .unk,_=>True
section
variable {w w':World} {I I':Nat→Prop} {β β':co}
theorem cg.keep (hb : ∀b,I b→w'.heap[b]? = w.heap[b]?) (hI : ∀b,I b→I' b) (hβ : ∀id x,β id=some x→β' id=some x) {x:V} {v:Value} (h:cg w I β x v):cg w' I' β' x v:=by
 cases x with
 | d x=>exact ax.keep hb hI h
 | so id k lo n=>
  rcases h with ⟨h1,h2⟩|⟨b,cap,c,h1,h2⟩
  ·exact .inl ⟨hβ _ _ h1,h2⟩
  ·exact .inr ⟨b,cap,c,hβ _ _ h1,h2⟩
 | po id o=>obtain ⟨b,cap,h1,h2⟩:=h;exact ⟨b,cap,hβ _ _ h1,h2⟩
 | pe id k i j=>obtain ⟨b,cap,h1,h2⟩:=h;exact ⟨b,cap,hβ _ _ h1,h2⟩
 | mo id=>obtain ⟨b,cap,h1,h2⟩:=h;exact ⟨b,cap,hβ _ _ h1,h2⟩
 | it id=>obtain ⟨b,cap,h1,h2⟩:=h;exact ⟨b,cap,hβ _ _ h1,h2⟩
 | yl id=>obtain ⟨b,cap,h1,h2⟩:=h;exact ⟨b,cap,hβ _ _ h1,h2⟩
 | unk=>trivial
 | agg=>exact h
 | tup=>exact h
 | fn=>exact h
theorem bY.keep (hb : ∀b,I b→w'.heap[b]? = w.heap[b]?) (hI : ∀b,I b→I' b) (hβ : ∀id x,β id=some x→β' id=some x) {cs:List V} {vs:List Value} (h:bY w I β cs vs):bY w' I' β' cs vs:=
 ⟨h.1,fun i c v h1 h2=>cg.keep hb hI hβ (h.2 i c v h1 h2)⟩
theorem aL.keep (hb : ∀b,I b→w'.heap[b]? = w.heap[b]?) (hI : ∀b,I b→I' b) (hβ : ∀id x,β id=some x→β' id=some x) {x:V} {v:Value} (h:aL w I β x v):aL w' I' β' x v:=by
 cases x with
 | agg cs=>obtain ⟨vs,e,ho,h⟩:=h;exact ⟨vs,e,ho,h.keep hb hI hβ⟩
 | tup cs=>obtain ⟨vs,e,h⟩:=h;exact ⟨vs,e,h.keep hb hI hβ⟩
 | fn f cs=>obtain ⟨vs,e,h⟩:=h;exact ⟨vs,e,h.keep hb hI hβ⟩
 | unk=>trivial
 | d x=>exact cg.keep (x:= .d x) hb hI hβ h
 | so id k lo n=>exact cg.keep (x:= .so id k lo n) hb hI hβ h
 | po id o=>exact cg.keep (x:= .po id o) hb hI hβ h
 | pe id k i j=>exact cg.keep (x:= .pe id k i j) hb hI hβ h
 | mo id=>exact cg.keep (x:= .mo id) hb hI hβ h
 | it id=>exact cg.keep (x:= .it id) hb hI hβ h
 | yl id=>exact cg.keep (x:= .yl id) hb hI hβ h
end
abbrev aO:=List (Nat × V)
def aO.get:aO→Nat→V
 | [],_=> .unk
 | (k,v)::r,t=>if k=t then v else aO.get r t
structure Yd where
 n:Nat
 ps:Array Nat
 asg:Code
 body:Code
structure Qh (y:Yd) (j:Option Code) (r:Loop):Prop where
 state:r.state=if j.isNone then .ready else .done
 pending:r.pending=j
 n:r.tmps.size=y.n
 ps:r.params=y.ps
 asg:r.assign=y.asg
 body:r.body=y.body
inductive bN where
 | cell (cs:List V) (ty:Option Nat:=none)
 | row (k:Nat) (es:List D) (ty:Option Nat:=none)
 | map (es:List (Value × D))
 | iter (s:ByteArray) (pos:Nat)
 | rc (y:Yd) (j:Option Code) (e:aO)
abbrev ak:=List (Nat × bN)
def ak.get:ak→Nat→Option bN
 | [],_=>none
 | (i,b)::r,id=>if i=id then some b else ak.get r id
def ak.set:ak→Nat→bN→ak
 | [],_,_=>[]
 | (i,b)::r,id,c=>if i=id then (i,c)::r else (i,b)::ak.set r id c
def ak.del:ak→Nat→ak
 | [],_=>[]
 | (i,b)::r,id=>if i=id then ak.del r id else (i,b)::ak.del r id
theorem ak.get_set {σ:ak} {id:Nat} {c:bN} (h:(σ.get id).isSome=true) (j:Nat):(σ.set id c).get j=if j=id then some c else σ.get j:=by
 induction σ with
 | nil=>simp [ak.get] at h
 | cons x r ih=>
  obtain ⟨i,b⟩:=x;by_cases hi:i=id
  ·subst hi;simp only [ak.set,ab0,ak.get];by_cases hj:i=j
   ·simp [hj]
   ·simp [hj,acx hj]
  ·simp only [ak.set,hi,ab1,ak.get] at h ⊢;rw [ih h];by_cases hj:i=j
   ·subst hj;simp [hi]
   ·simp [hj]
theorem ak.get_del (σ:ak) (id j:Nat):(σ.del id).get j=if j=id then none else σ.get j:=by
 induction σ with
 | nil=>simp [ak.del,ak.get]
 | cons x r ih=>
  obtain ⟨i,b⟩:=x;by_cases hi:i=id
  ·subst hi;simp only [ak.del,ab0,ak.get];rw [ih];by_cases hj:i=j
   ·simp [hj]
   ·simp [hj,acx hj]
  ·simp only [ak.del,hi,ab1,ak.get];rw [ih];by_cases hj:i=j
   ·subst hj;simp [hi]
   ·simp [hj]
def jS (w:World) (I:Nat→Prop) (β:co) (id:Nat):bN→Prop
 | .cell cs ty=> ∃b cap cur t,β id=some (some (b,cap))∧w.heap[b]? = some (.cells cur (ty.getD t) (0,0)) ∧ ¬I b ∧ ∀(i:Nat) c,cs[i]? = some c → ∃v,cur[i]? = some v∧v.oneCell'=true∧aL w I β c v
 | .row k es ty=>(β id=some none∧es=[]) ∨ ∃b cap cur t,β id=some (some (b,cap))∧w.heap[b]? = some (.cells cur (ty.getD t) (0,0)) ∧ ¬I b∧es.length≤cap∧cap*k≤cur.size ∧
  ∀(i:Nat) e,es[i]? = some e→e.cells.length=k ∧ ∀(j:Nat) c,e.cells[j]? = some c → ∃v,cur[i*k+j]? = some v∧v.oneCell'=true∧ax w I c v
 | .map es=> ∃b cap ents clock,β id=some (some (b,cap))∧w.heap[b]? = some (.map ents clock) ∧ ¬I b∧ents.size=es.length ∧ ∀(i:Nat) k x,es[i]? = some (k,x) → ∃m,ents[i]? = some m∧m.key=k∧ax w I x m.val
 | .iter s pos=> ∃b cap,β id=some (some (b,cap))∧w.heap[b]? = some (.stringIter s pos) ∧ ¬I b
 | .rc y j e=> ∃b cap r,β id=some (some (b,cap))∧w.heap[b]? = some (.loop r) ∧ ¬I b∧Qh y j r ∧ ∀t,aL w I β (e.get t) (r.tmps.getD t undef)
def bK (σ:ak) (β:co) (b:Nat):Prop:= ∃id blk c,σ.get id=some blk∧β id=some (some (b,c))
structure de (w:World) (I:Nat→Prop) (β:co) (σ:ak) (nx:Nat):Prop where
 own : ∀id blk,σ.get id=some blk→jS w I β id blk
 inj : ∀id id' blk blk' b c c',σ.get id=some blk→σ.get id'=some blk'→β id=some (some (b,c))→β id'=some (some (b,c'))→id=id'
 free : ∀id,nx≤id→β id=none
 lt : ∀b,I b→b<w.heap.size
theorem jS.not_imm {w:World} {I:Nat→Prop} {β:co} {id:Nat} {blk:bN} (h:jS w I β id blk) {b c:Nat} (hb:β id=some (some (b,c))) : ¬I b∧b<w.heap.size:=by
 have key : ∀o,w.heap[b]? = some o→b<w.heap.size:=fun o h=>by
  rcases aa2 b w.heap.size with hlt|hge
  ·exact hlt
  ·rw [ac1 hge] at h;cases h
 cases blk with
 | cell cs ty=>obtain ⟨b',cap,cur,t,h1,h2,h3,_⟩:=h;rw [hb] at h1;injection h1 with h1;injection h1 with h1;injection h1 with h1 _;subst h1;exact ⟨h3,key _ h2⟩
 | row k es ty=>
  rcases h with ⟨h1,_⟩|⟨b',cap,cur,t,h1,h2,h3,_⟩
  ·rw [hb] at h1;cases h1
  ·rw [hb] at h1;injection h1 with h1;injection h1 with h1;injection h1 with h1 _;subst h1;exact ⟨h3,key _ h2⟩
 | map es=>obtain ⟨b',cap,ents,clock,h1,h2,h3,_⟩:=h;rw [hb] at h1;injection h1 with h1;injection h1 with h1;injection h1 with h1 _;subst h1;exact ⟨h3,key _ h2⟩
 | iter s pos=>obtain ⟨b',cap,h1,h2,h3⟩:=h;rw [hb] at h1;injection h1 with h1;injection h1 with h1;injection h1 with h1 _;subst h1;exact ⟨h3,key _ h2⟩
 | rc y j e=>obtain ⟨b',cap,r,h1,h2,h3,_⟩:=h;rw [hb] at h1;injection h1 with h1;injection h1 with h1;injection h1 with h1 _;subst h1;exact ⟨h3,key _ h2⟩
theorem de.not_owned {w:World} {I:Nat→Prop} {β:co} {σ:ak} {nx:Nat} (h:de w I β σ nx) {b:Nat} (hb:I b) : ¬bK σ β b:=by
 rintro ⟨id,blk,c,h1,h2⟩;exact ((h.own id blk h1).not_imm h2).1 hb
theorem de.owned_lt {w:World} {I:Nat→Prop} {β:co} {σ:ak} {nx:Nat} (h:de w I β σ nx) {b:Nat} (hb:bK σ β b):b<w.heap.size:=by
 obtain ⟨id,blk,c,h1,h2⟩:=hb;exact ((h.own id blk h1).not_imm h2).2
structure ay (w:World) (I:Nat→Prop) (β:co) (σ:ak) (nx:Nat) (w':World) (I':Nat→Prop) (β':co) (σ':ak) (nx':Nat):Prop where
 mem:de w' I' β' σ' nx'
 os:w'.os=w.os
 tape:w'.tape=w.tape
 output:w'.output=w.output
 size:w.heap.size≤w'.heap.size
 block : ∀b,b<w.heap.size → ¬bK σ β b→w'.heap[b]? = w.heap[b]?
 imm : ∀b,I b→I' b
 immn : ∀b,I' b→I b∨bK σ β b∨w.heap.size≤b
 bet : ∀id x,β id=some x→β' id=some x
 nx:nx≤nx'
 own' : ∀b,bK σ' β' b→bK σ β b∨w.heap.size≤b
section
variable {w w' w'':World} {I I' I'':Nat→Prop} {β β' β'':co} {σ σ' σ'':ak} {nx nx' nx'':Nat}
theorem ay.refl (h:de w I β σ nx):ay w I β σ nx w I β σ nx:=
 ⟨h,rfl,rfl,rfl,aaV _,fun _ _ _=>rfl,fun _ h=>h,fun _ h=> .inl h,fun _ _ h=>h,aaV _,fun _ h=> .inl h⟩
theorem ay.trans (h:ay w I β σ nx w' I' β' σ' nx') (k:ay w' I' β' σ' nx' w'' I'' β'' σ'' nx''):ay w I β σ nx w'' I'' β'' σ'' nx'' where
 mem:=k.mem
 os:=k.os.trans h.os
 tape:=k.tape.trans h.tape
 output:=k.output.trans h.output
 size:=ab5 h.size k.size
 block:=fun b hb ho=>(k.block b (Nat.lt_of_lt_of_le hb h.size) (fun ho'=>by rcases h.own' b ho' with h1|h1;exact ho h1;omega)).trans (h.block b hb ho)
 imm:=fun b hb=>k.imm b (h.imm b hb)
 immn:=fun b hb=>by
  rcases k.immn b hb with h1|h1|h1
  ·exact h.immn b h1
  ·rcases h.own' b h1 with h2|h2
   ·exact .inr (.inl h2)
   ·exact .inr (.inr h2)
  ·exact .inr (.inr (ab5 h.size h1))
 bet:=fun id x hx=>k.bet id x (h.bet id x hx)
 nx:=ab5 h.nx k.nx
 own':=fun b hb=>by
  rcases k.own' b hb with h1|h1
  ·exact h.own' b h1
  ·exact .inr (ab5 h.size h1)
theorem ay.imm_heap (hm:de w I β σ nx) (h:ay w I β σ nx w' I' β' σ' nx') : ∀b,I b→w'.heap[b]? = w.heap[b]? :=fun b hb=>h.block b (hm.lt b hb) (hm.not_owned hb)
theorem ay.denD (hm:de w I β σ nx) (h:ay w I β σ nx w' I' β' σ' nx') {x:D} {v:Value} (hd:ax w I x v):ax w' I' x v:=hd.keep (h.imm_heap hm) h.imm
theorem ay.denA (hm:de w I β σ nx) (h:ay w I β σ nx w' I' β' σ' nx') {x:V} {v:Value} (hd:cg w I β x v):cg w' I' β' x v:=hd.keep (h.imm_heap hm) h.imm h.bet
theorem ay.den (hm:de w I β σ nx) (h:ay w I β σ nx w' I' β' σ' nx') {x:V} {v:Value} (hd:aL w I β x v):aL w' I' β' x v:=hd.keep (h.imm_heap hm) h.imm h.bet
theorem jS.drew {id:Nat} {blk:bN} (h:jS w I β id blk):jS w.drew I β id blk:=by
 cases blk with
 | cell cs ty=>
  obtain ⟨b,cap,cur,t,h1,h2,h3,h4⟩:=h;refine ⟨b,cap,cur,t,h1,h2,h3,fun i c hi =>?_⟩;obtain ⟨v,hv,ho,hd⟩:=h4 i c hi;exact ⟨v,hv,ho,hd.keep (w:=w) (w':=w.drew) (fun _ _=>rfl) (fun _ h=>h) (fun _ _ h=>h)⟩
 | row k es ty=>
  rcases h with h|⟨b,cap,cur,t,h1,h2,h3,h4,h5,h6⟩
  ·exact .inl h
  ·refine .inr ⟨b,cap,cur,t,h1,h2,h3,h4,h5,fun i e hi=>⟨(h6 i e hi).1,fun j c hj =>?_⟩⟩;obtain ⟨v,hv,ho,hd⟩:=(h6 i e hi).2 j c hj;exact ⟨v,hv,ho,hd.keep (w:=w) (w':=w.drew) (fun _ _=>rfl) (fun _ h=>h)⟩
 | map es=>
  obtain ⟨b,cap,ents,clock,h1,h2,h3,h4,h5⟩:=h;refine ⟨b,cap,ents,clock,h1,h2,h3,h4,fun i k x hi =>?_⟩;obtain ⟨m,hm,he,hd⟩:=h5 i k x hi;exact ⟨m,hm,he,hd.keep (w:=w) (w':=w.drew) (fun _ _=>rfl) (fun _ h=>h)⟩
 | iter s pos=>exact h
 | rc y j e=>
  obtain ⟨b,cap,r,h1,h2,h3,h4,h5⟩:=h;exact ⟨b,cap,r,h1,h2,h3,h4,fun t=>(h5 t).keep (w:=w) (w':=w.drew) (fun _ _=>rfl) (fun _ h=>h) (fun _ _ h=>h)⟩
theorem de.drew (h:de w I β σ nx):de w.drew I β σ nx:=⟨fun id blk hi=>(h.own id blk hi).drew,h.inj,h.free,h.lt⟩
theorem ay.drew (h:de w I β σ nx):ay w I β σ nx w.drew I β σ nx:=
 ⟨h.drew,rfl,rfl,rfl,aaV _,fun _ _ _=>rfl,fun _ h=>h,fun _ h=> .inl h,fun _ _ h=>h,aaV _,fun _ h=> .inl h⟩
end
def Q6:TypeDesc→Bool
 | .struct _=>true
 | .array _ _=>true
 | _=>false
def cu (P:Program) (t:TypeId):Option (Nat × Bool):=
 match P.info? t,P.underlying t with
 | some i,some d=>some (i.size,Q6 d)
 | _,_=>none
def oe (P:Program) (t:TypeId):Option (Nat × Bool):=
 match P.underlying t with
 | some (.slice e)=>cu P e
 | _=>none
def Nl (P:Program) (t:TypeId):Option (Nat × Nat × Bool):=
 match P.underlying t with
 | some (.array n e)=>(cu P e).map fun x=>(n,x.1,x.2)
 | _=>none
def bi (P:Program) (t:TypeId) (f:Nat):Option (Nat × Nat × Bool):=
 match P.underlying t with
 | some (.struct fs)=>match fs[f]? with
  | some fd=>(cu P fd.type).map fun x=>(fd.offset,x.1,x.2)
  | none=>none
 | _=>none
def XJ (P:Program) (t:TypeId):Option (List Value):=((P.info? t).bind (·.zero)).map (·.cells.toList)
inductive Kd where
 | bool|int (k:IntKind)|string|pointer|slice|iface|func|map|other
 deriving DecidableEq
def cX (P:Program) (t:TypeId):Option Kd:=
 match P.underlying t with
 | some .bool=>some .bool
 | some (.int k)=>some (.int k)
 | some .string=>some .string
 | some (.pointer _)=>some .pointer
 | some (.slice _)=>some .slice
 | some (.interface _)=>some .iface
 | some (.func _ _ _)=>some .func
 | some (.map _ _)=>some .map
 | some _=>some .other
 | none=>none
inductive Tag.{u} {α:Sort u} (a:α):Type
 | mk
def pT (p q:Prop) (_u:Tag q:= .mk) (_h:True:=trivial):Prop:=p∧q
def jT (b:Bool) (p q:Prop) (_u:Tag p:= .mk) (_v:Tag q:= .mk) (_h:True:=trivial):Prop:=(b=true→p)∧(b=false→q)
def cG {α:Type} (o:Option α) (K:α→Prop):Prop:=match o with|some a=>K a|none=>False
def No (es:List D) (i:Nat) (K:D→Prop) (_u:Tag K:= .mk) (_h:True:=trivial):Prop:= ∀e,es[i]? = some e→K e
theorem BW (q:Prop):pT True q=q:=by simp [pT]
theorem rD (p q:Prop):jT true p q=p:=by simp [jT]
theorem ou (p q:Prop):jT false p q=q:=by simp [jT]
theorem IH {α:Type} (a:α) (K:α→Prop):cG (some a) K=K a:=rfl
theorem dw {α:Type} {o:Option α} {K:α→Prop} (h:cG o K) : ∃a,o=some a∧K a:=by
 cases o with
 | none=>exact h.elim
 | some a=>exact ⟨a,rfl,h⟩
def V.cellsV:V→List V
 | .d x=>x.cells.map .d
 | .agg cs=>cs
 | v=>[v]
def ql:List V→Option (List D)
 | []=>some []
 | .d x::r=>(ql r).map (x :: ·)
 | _::_=>none
def xg (cs:List V):V:=match ql cs with
 | some ds=> .d (.agg ds)
 | none=> .agg cs
def V.atom:V→Bool
 | .agg _ | .tup _ | .fn _ _=>false
 | _=>true
def D.asAgg (e:D):D:= .agg e.cells
def xn (ag:Bool) (off s k:Nat) (e:D):Option D:=
 if ag=true then (if off=0∧s=k then some e.asAgg else if off+s≤k then some (.agg ((e.cells.drop off).take s)) else none)
 else e.cells[off]?
def ky (ag:Bool) (off s:Nat) (cs:List V):Option V:=
 if ag=true then (if off+s≤cs.length∧cs.all V.atom=true then some (xg ((cs.drop off).take s)) else none) else cs[off]?
section
variable {w:World} {I:Nat→Prop} {β:co}
theorem gj : ∀ {cs:List V} {ds:List D},ql cs=some ds→cs=ds.map V.d
 | [],ds,h=>by simp [ql] at h;subst h;rfl
 | c::r,ds,h=>by
  cases c with
  | d x=>
   simp only [ql,aaZ] at h;obtain ⟨l,hl,rfl⟩:=h;simp [gj hl]
  | _=>simp [ql] at h
theorem iM {cs:List V} {vs:List Value} (h:bY w I β cs vs) (ho : ∀x∈vs,x.oneCell'=true):aL w I β (xg cs) (.agg vs.toArray):=by
 unfold xg;cases he:ql cs with
 | none=>exact ⟨vs,rfl,ho,h⟩
 | some ds=>
  have:=gj he;subst this;refine ax.agg ds vs (by simpa using h.1) ho fun i c v hi hv =>?_
  have:=h.2 i (.d c) v (by simp [hi]) hv;exact this
theorem bY.sub {cs:List V} {vs:List Value} (h:bY w I β cs vs) (off s:Nat):bY w I β ((cs.drop off).take s) ((vs.drop off).take s):=by
 refine ⟨by simp [h.1],fun i c v hi hv =>?_⟩;simp only [abW,abJ] at hi hv;split at hi
 ·rename_i hlt;rw [aa3 hlt] at hv;exact h.2 _ _ _ hi hv
 ·cases hi
end
theorem BL {P:Program} {t s:Nat} {ag:Bool} (h:cu P t=some (s,ag)) : ∃i d,P.info? t=some i∧P.underlying t=some d∧i.size=s∧Q6 d=ag:=by
 unfold cu at h;split at h
 ·rename_i i d h1 h2;simp at h;exact ⟨i,d,h1,h2,h.1,h.2⟩
 ·cases h
theorem o9 {P:Program} {t s:Nat} {ag:Bool} (h:cu P t=some (s,ag)) (w:World):(isAgg t).run P w = .ok ag w:=by
 obtain ⟨i,d,h1,h2,h3,h4⟩:=BL h;subst h4;unfold isAgg;simp only [underlying,Sem.run_bind,run_program,Result.andThen,h2];cases d<;>simp [Q6]
theorem cx {P:Program} {t s:Nat} {ag:Bool} (h:cu P t=some (s,ag)) (w:World):(sizeOf t).run P w = .ok s w:=by
 obtain ⟨i,d,h1,h2,h3,h4⟩:=BL h;simp [sizeOf,typeInfo,h1,h3]
section
variable {P:Program} {w:World}
theorem dP (b o n:Nat):(⟨b,o,none⟩:Addr).add n=⟨b,o+n,none⟩:=by
 unfold Addr.add;split
 ·rename_i h;subst h;rfl
 ·rfl
theorem gO {t s:Nat} (h:cu P t=some (s,true)) (b q:Nat) (vs:List Value) (hl:vs.length=s) (hc : ∀(m:Nat) v,vs[m]? = some v→w.cell? ⟨b,q+m,none⟩=some v) :
 (Instr.loadAt t (.pointer (some ⟨b,q,none⟩))).run P w = .ok (.agg vs.toArray) w:=by
 have hl2:=run_loadCells_list (P:=P) w ⟨b,q,none⟩ vs (fun j v hj=>by rw [dP];exact hc j v hj);simp only [Instr.loadAt,Instr.sureAddr,loadVar,Sem.run_bind,Sem.run_pure,Result.andThen,o9 h,ab0,cx h];rw [←hl,hl2]
theorem kE {t s:Nat} (h:cu P t=some (s,false)) (b q:Nat) (v:Value) (hc:w.cell? ⟨b,q,none⟩=some v) :
 (Instr.loadAt t (.pointer (some ⟨b,q,none⟩))).run P w = .ok v w:=by
 simp only [Instr.loadAt,Instr.sureAddr,loadVar,Sem.run_bind,Sem.run_pure,Result.andThen,o9 h,aa9,ab1,run_load,hc]
end
section
variable {P:Program} {w:World} {I:Nat→Prop} {β:co}
def lL (w:World) (I:Nat→Prop) (b q:Nat) (cs:List D):Prop:= ∀(m:Nat) c,cs[m]? = some c → ∃v,w.cell? ⟨b,q+m,none⟩=some v∧v.oneCell'=true∧ax w I c v
theorem lL.list : ∀ {cs:List D} {b q:Nat},lL w I b q cs → ∃vs:List Value,vs.length=cs.length∧(∀(m:Nat) v,vs[m]? = some v→w.cell? ⟨b,q+m,none⟩=some v)∧(∀x∈vs,x.oneCell'=true) ∧ ∀(m:Nat) c v,cs[m]? = some c→vs[m]? = some v→ax w I c v
 | [],b,q,_=>⟨[],rfl,by simp,by simp,by simp⟩
 | c::r,b,q,h=>by
  obtain ⟨v,hv,ho,hd⟩:=h 0 c rfl;obtain ⟨vs,h1,h2,h3,h4⟩:=lL.list (cs:=r) (b:=b) (q:=q+1) (fun m c hm=>by
   obtain ⟨v,hv,ho,hd⟩:=h (m+1) c (by simpa using hm);exact ⟨v,by rw [show q+1+m=q+(m+1) from by omega];exact hv,ho,hd⟩)
  refine ⟨v::vs,by simp [h1],?_,?_,?_⟩
  ·intro m x hm;cases m with
   | zero=>simp at hm;subst hm;simpa using hv
   | succ m=>rw [show q+(m+1)=q+1+m from by omega];exact h2 m x (by simpa using hm)
  ·intro x hx;rcases abi.1 hx with rfl|hx
   ·exact ho
   ·exact h3 x hx
  ·intro m c' x hc hx;cases m with
   | zero=>simp at hc hx;subst hc;subst hx;exact hd
   | succ m=>exact h4 m c' x (by simpa using hc) (by simpa using hx)
theorem lL.part {cs:List D} {b q:Nat} (h:lL w I b q cs) (off s:Nat):lL w I b (q+off) ((cs.drop off).take s):=by
 intro m c hm;rw [abW] at hm;split at hm
 ·rw [abJ] at hm;obtain ⟨v,h1,h2,h3⟩:=h _ c hm;exact ⟨v,by rw [acI];exact h1,h2,h3⟩
 ·cases hm
theorem xb {t s k:Nat} {ag:Bool} {e:D} {b q j:Nat} {y:D} (hl:cu P t=some (s,ag)) (hk:e.cells.length=k) (hc:lL w I b q e.cells) (hp:xn ag j s k e=some y) :
 ∃x,(Instr.loadAt t (.pointer (some ⟨b,q+j,none⟩))).run P w = .ok x w∧ax w I y x:=by
 unfold xn at hp;cases ag with
 | true=>
  simp only [ab0] at hp;split at hp
  ·rename_i h;obtain ⟨rfl,rfl⟩:=h;injection hp with hp;subst hp;obtain ⟨vs,h1,h2,h3,h4⟩:=hc.list;exact ⟨_,gO hl b (q+0) vs (by omega) h2,.agg _ _ h1.symm h3 h4⟩
  ·split at hp
   ·rename_i h;injection hp with hp;subst hp;obtain ⟨vs,h1,h2,h3,h4⟩:=(hc.part j s).list;exact ⟨_,gO hl b (q+j) vs (by rw [h1];simp;omega) h2,.agg _ _ h1.symm h3 h4⟩
   ·cases hp
 | false=>
  simp only [aa9,ab1] at hp;obtain ⟨v,h1,h2,h3⟩:=hc j y hp;exact ⟨v,kE hl b (q+j) v h1,h3⟩
end
def rI (b:bN) (K:List V→Prop):Prop:=match b with | .cell cs _=>K cs|_=>False
def I7 (b:bN) (K:Nat→List D→Prop):Prop:=match b with | .row k es _=>K k es|_=>False
def iQ (k:Nat) (es:List D) (i j:Nat) (x:Nat × Bool) (K:V→Prop):Prop:=pT (i<es.length) (No es i fun e=>cG (xn x.2 j x.1 k e) fun y=>K (.d y))
def fa (P:Program) (t:Nat) (a:V) (σ:ak) (K:V→Prop):Prop:=cG (cu P t) fun x=>
 match a with
 | .d (.pd k es i j)=>iQ k es i j x K
 | .po id o=>cG (σ.get id) fun b=>rI b fun cs=>cG (ky x.2 o x.1 cs) K
 | .pe id k i j=>cG (σ.get id) fun b=>I7 b fun k' es=>pT (k=k') (iQ k es i j x K)
 | _=>False
theorem j9 {k:Nat} {es:List D} {i j:Nat} {x:Nat × Bool} {K:V→Prop} (h:iQ k es i j x K) : ∃e y,es[i]? = some e∧xn x.2 j x.1 k e=some y∧K (.d y):=by
 obtain ⟨h1,h2⟩:=h;have he:es[i]? = some es[i]:=IO h1;obtain ⟨y,hy,hK⟩:=dw (h2 _ he);exact ⟨_,y,he,hy,hK⟩
section
variable {w:World} {I:Nat→Prop} {β:co} {σ:ak} {nx:Nat}
theorem ax.pd_inv {k:Nat} {es:List D} {i j:Nat} {val:Value} (h:ax w I (.pd k es i j) val) : ∃b o,val = .pointer (some ⟨b,o+i*k+j,none⟩)∧I b∧(∀(i:Nat) e,es[i]? = some e→e.cells.length=k∧lL w I b (o+i*k) e.cells):=by
 cases h with
 | pd k es i j b o val hI hk hc ho hd=>
  exact ⟨b,o,rfl,hI,fun i e he=>⟨hk i e he,fun m c hm=>⟨_,hc i e m c he hm,ho i e m c he hm,hd i e m c he hm⟩⟩⟩
theorem de.row_cells (hm:de w I β σ nx) {id k:Nat} {es:List D} {tq:Option Nat} (h:σ.get id=some (.row k es tq)) {b cap:Nat} (hb:β id=some (some (b,cap))) :
 ∃cur t,w.heap[b]? = some (.cells cur (tq.getD t) (0,0)) ∧ ¬I b∧es.length≤cap∧cap*k≤cur.size ∧ ∀(i:Nat) e,es[i]? = some e→e.cells.length=k∧lL w I b (i*k) e.cells:=by
 rcases hm.own id _ h with ⟨h1,_⟩|⟨b',cap',cur,t,h1,h2,h3,h4,h5,h6⟩
 ·rw [hb] at h1;cases h1
 ·rw [hb] at h1;injection h1 with h1;injection h1 with h1;injection h1 with h1 h1';subst h1;subst h1';refine ⟨cur,t,h2,h3,h4,h5,fun i e he=>⟨(h6 i e he).1,fun m c hc =>?_⟩⟩;obtain ⟨v,hv,ho,hd⟩:=(h6 i e he).2 m c hc;exact ⟨v,by simp [World.cell?,h2,hv],ho,hd⟩
theorem de.cell_cells (hm:de w I β σ nx) {id:Nat} {cs:List V} {tq:Option Nat} (h:σ.get id=some (.cell cs tq)) {b cap:Nat} (hb:β id=some (some (b,cap))) :
 ∃cur t,w.heap[b]? = some (.cells cur (tq.getD t) (0,0)) ∧ ¬I b ∧ ∀(i:Nat) c,cs[i]? = some c → ∃v,cur[i]? = some v∧v.oneCell'=true∧aL w I β c v:=by
 obtain ⟨b',cap',cur,t,h1,h2,h3,h4⟩:=hm.own id _ h;rw [hb] at h1;injection h1 with h1;injection h1 with h1;injection h1 with h1 h1';subst h1;exact ⟨cur,t,h2,h3,h4⟩
theorem aL.atomA {c:V} {v:Value} (ha:c.atom=true) (h:aL w I β c v):cg w I β c v:=by
 cases c<;>first|exact h|(simp [V.atom] at ha)
end
theorem rM {w:World} {I:Nat→Prop} {β:co} {cur:Array Value} : ∀ {cs:List V} (q:Nat),(∀(i:Nat) c,cs[i]? = some c → ∃v,cur[q+i]? = some v∧v.oneCell'=true∧aL w I β c v) →
 ∃vs:List Value,vs.length=cs.length∧(∀(m:Nat) v,vs[m]? = some v→cur[q+m]? = some v)∧(∀x∈vs,x.oneCell'=true) ∧ ∀(m:Nat) c v,cs[m]? = some c→vs[m]? = some v→aL w I β c v
 | [],q,_=>⟨[],rfl,by simp,by simp,by simp⟩
 | c::r,q,h=>by
  obtain ⟨v,hv,ho,hd⟩:=h 0 c rfl;obtain ⟨vs,h1,h2,h3,h4⟩:=rM (cs:=r) (q+1) (fun m c hm=>by
   obtain ⟨v,hv,ho,hd⟩:=h (m+1) c (by simpa using hm);exact ⟨v,by rw [show q+1+m=q+(m+1) from by omega];exact hv,ho,hd⟩)
  refine ⟨v::vs,by simp [h1],?_,?_,?_⟩
  ·intro m x hm;cases m with
   | zero=>simp at hm;subst hm;simpa using hv
   | succ m=>rw [show q+(m+1)=q+1+m from by omega];exact h2 m x (by simpa using hm)
  ·intro x hx;rcases abi.1 hx with rfl|hx
   ·exact ho
   ·exact h3 x hx
  ·intro m c' x hc hx;cases m with
   | zero=>simp at hc hx;subst hc;subst hx;exact hd
   | succ m=>exact h4 m c' x (by simpa using hc) (by simpa using hx)
theorem pR {P:Program} {t:Nat} {a:V} {σ0:ak} {K:V→Prop} (h:fa P t a σ0 K) :
 ∃v,K v ∧ ∀w I β σ nx val,de w I β σ nx→(∀i b,σ0.get i=some b→σ.get i=some b)→aL w I β a val → ∃x,(Instr.loadAt t val).run P w = .ok x w∧aL w I β v x:=by
 unfold fa at h;obtain ⟨⟨s,ag⟩,hl,h⟩:=dw h;match a,h with
 | .d (.pd k es i j),h=>
  obtain ⟨e,y,he,hy,hK⟩:=j9 h;refine ⟨_,hK,fun w I β σ nx val _ _ hd =>?_⟩;obtain ⟨b,o,rfl,hI,hcs⟩:=ax.pd_inv hd;obtain ⟨hk,hc⟩:=hcs i e he;exact xb hl hk hc hy
 | .po id o,h=>
  obtain ⟨blk,hb,h⟩:=dw h;cases blk with
  | cell cs tq=>
   obtain ⟨v,hp,hK⟩:=dw (show cG (ky ag o s cs) K from h);refine ⟨_,hK,fun w I β σ nx val hm hs hd =>?_⟩;obtain ⟨b,cap,hβ,rfl⟩:=hd;obtain ⟨cur,ty,hh,_,hcs⟩:=hm.cell_cells (hs _ _ hb) hβ;unfold ky at hp;cases ag with
   | false=>
    simp only [aa9,ab1] at hp;obtain ⟨x,hx,_,hxd⟩:=hcs o v hp;exact ⟨x,kE hl b o x (by simp [World.cell?,hh,hx]),hxd⟩
   | true=>
    simp only [ab0] at hp;split at hp
    ·rename_i hcond;injection hp with hp;subst hp;obtain ⟨vs,h1,h2,h3,h4⟩:=rM (w:=w) (I:=I) (β:=β) (cur:=cur) (cs:=(cs.drop o).take s) o (fun i c hi=>by
      rw [abW] at hi;split at hi
      ·rw [abJ] at hi;exact hcs _ c hi
      ·cases hi)
     refine ⟨_,gO hl b o vs (by rw [h1];simp;omega) (fun m x hm=>by simp [World.cell?,hh,h2 m x hm]),?_⟩;refine iM ⟨h1.symm,fun i c x hc hx =>?_⟩ h3;refine aL.atomA ?_ (h4 i c x hc hx);have hall:=abF.1 hcond.2;exact hall c (abU (abm (aa0 hc)))
    ·cases hp
  | row=>exact h.elim
  | map=>exact h.elim
  | iter=>exact h.elim
  | rc=>exact h.elim
 | .pe id k i j,h=>
  obtain ⟨blk,hb,h⟩:=dw h;cases blk with
  | row k' es tq=>
   obtain ⟨hkk,h'⟩:=(show pT (k=k') (iQ k es i j (s,ag) K) from h)
   subst hkk;obtain ⟨e,y,he,hy,hK⟩:=j9 h';refine ⟨_,hK,fun w I β σ nx val hm hs hd =>?_⟩;obtain ⟨b,cap,hβ,rfl⟩:=hd;obtain ⟨cur,ty,hh,_,_,_,hcs⟩:=hm.row_cells (hs _ _ hb) hβ;obtain ⟨hk,hc⟩:=hcs i e he;exact xb hl hk hc hy
  | cell=>exact h.elim
  | map=>exact h.elim
  | iter=>exact h.elim
  | rc=>exact h.elim
abbrev PV:=Option (Prop × V)
inductive CK where
 | int (k:IntKind)|bool|str
def CK.fits:CK→Value→Prop
 | .int k,v=> ∃n,v = .int k n
 | .bool,v=> ∃b,v = .bool b
 | .str,v=> ∃s,v = .string s
def se:Value→Value→Bool
 | .int _ a,.int _ b=>a==b
 | .bool a,.bool b=>a==b
 | .string a,.string b=>a==b
 | _,_=>false
def bG:List Value→List Value→Bool
 | [],[]=>true
 | x::xs,y::ys=>se x y&&bG xs ys
 | _,_=>false
def cq:List CK→List Value→Prop
 | [],[]=>True
 | c::cs,v::vs=>c.fits v∧cq cs vs
 | _,_=>False
def gU (P:Program) (t:Nat) (ks:List CK):Prop:=P.eqGuardType P.depth t=false ∧ ∀(xs ys:List Value) (w:World),cq ks xs→cq ks ys→(Op.equal t (.agg xs.toArray) (.agg ys.toArray)).run P w = .ok (bG xs ys) w
def NW:Value→Option CK
 | .int k _=>some (.int k)
 | .bool _=>some .bool
 | .string _=>some .str
 | _=>none
def TK:D→Option CK
 | .lit v=>NW v
 | _=>none
def BN:D→Option Value
 | .lit v=>some v
 | _=>none
def iH:List D→Option (List CK)
 | []=>some []
 | x::r=>match TK x,iH r with
  | some c,some cs=>some (c::cs)
  | _,_=>none
def df:List D→Option (List Value)
 | []=>some []
 | x::r=>match BN x,df r with
  | some c,some cs=>some (c::cs)
  | _,_=>none
def cN:List CK→List CK→Bool
 | [],[]=>true
 | .int k::r,.int k'::r'=>(k==k')&&cN r r'
 | .bool::r,.bool::r'=>cN r r'
 | .str::r,.str::r'=>cN r r'
 | _,_=>false
theorem jc : ∀ {a b:List CK},cN a b=true→a=b
 | [],[],_=>rfl
 | .int k::r,.int k'::r',h=>by simp [cN] at h;rw [h.1,jc h.2]
 | .bool::r,.bool::r',h=>by simp [cN] at h;rw [jc h]
 | .str::r,.str::r',h=>by simp [cN] at h;rw [jc h]
 | [],_::_,h=>by simp [cN] at h
 | .int _::_,[],h=>by simp [cN] at h
 | .int _::_,.bool::_,h=>by simp [cN] at h
 | .int _::_,.str::_,h=>by simp [cN] at h
 | .bool::_,[],h=>by simp [cN] at h
 | .bool::_,.int _::_,h=>by simp [cN] at h
 | .bool::_,.str::_,h=>by simp [cN] at h
 | .str::_,[],h=>by simp [cN] at h
 | .str::_,.int _::_,h=>by simp [cN] at h
 | .str::_,.bool::_,h=>by simp [cN] at h
def yf (k:IntKind) (a b:Int):Int:=k.wrap ((BitVec.ofInt k.bits a &&& BitVec.ofInt k.bits b).toNat)
def Nc (k:IntKind) (a b:Int):Int:=k.wrap ((BitVec.ofInt k.bits a ^^^ BitVec.ofInt k.bits b).toNat)
def sF (op:BinOp) (k:IntKind) (a b:Int):PV:=
 match op with
 | .and=>some (True,.d (.lit (.int k (yf k a b))))
 | .xor=>some (True,.d (.lit (.int k (Nc k a b))))
 | .add=>some (True,.d (.lit (.int k (k.wrap (a+b)))))
 | .sub=>some (True,.d (.lit (.int k (k.wrap (a - b)))))
 | .mul=>some (True,.d (.lit (.int k (k.wrap (a*b)))))
 | .quo=>some (b≠0,.d (.lit (.int k (k.wrap (a.tdiv b)))))
 | .rem=>some (b≠0,.d (.lit (.int k (a.tmod b))))
 | .eql=>some (True,.d (.lit (.bool (a==b))))
 | .neq=>some (True,.d (.lit (.bool (a != b))))
 | .lss=>some (True,.d (.lit (.bool (decide (a<b)))))
 | .leq=>some (True,.d (.lit (.bool (decide (a≤b)))))
 | .gtr=>some (True,.d (.lit (.bool (decide (b<a)))))
 | .geq=>some (True,.d (.lit (.bool (decide (b≤a)))))
 | _=>none
def kK (op:BinOp) (k:IntKind) (a b:Int):PV:=
 match op with
 | .shl=>some (0≤b,.d (.lit (.int k (k.wrap (a*2 ^ (min b.toNat k.bits))))))
 | .shr=>some (0≤b,.d (.lit (.int k (a.fdiv (2 ^ (min b.toNat k.bits))))))
 | _=>none
def Gf:BinOp→Bool
 | .shl=>true
 | .shr=>true
 | _=>false
def pu (op:BinOp) (a b:ByteArray):PV:=
 match op with
 | .add=>some (((a.size+b.size:Nat):Int)≤9223372036854775807,.d (.lit (.string (a++b))))
 | .eql=>some (True,.d (.lit (.bool (a.toList==b.toList))))
 | .neq=>some (True,.d (.lit (.bool (!(a.toList==b.toList)))))
 | _=>none
def e8:Operand→Bool
 | .const _=>true
 | _=>false
def Gn (kd:Kd) (cst:Bool) (x y:V):Option Bool:=
 match kd,x,y with
 | .pointer,.d (.lit (.pointer none)),.d (.lit (.pointer none))=>some true
 | .pointer,.d (.lit (.pointer none)),.d (.pd _ _ _ _)=>some false
 | .pointer,.d (.lit (.pointer none)),.po _ _=>some false
 | .pointer,.d (.lit (.pointer none)),.pe _ _ _ _=>some false
 | .pointer,.d (.pd _ _ _ _),.d (.lit (.pointer none))=>some false
 | .pointer,.po _ _,.d (.lit (.pointer none))=>some false
 | .pointer,.pe _ _ _ _,.d (.lit (.pointer none))=>some false
 | .iface,.d (.lit .nilIface),.d (.lit .nilIface)=>if cst=true then some true else none
 | .iface,.d (.lit .nilIface),.d (.ifc _ _)=>some false
 | .iface,.d (.ifc _ _),.d (.lit .nilIface)=>some false
 | .func,.d (.lit .nilFunc),.d (.lit .nilFunc)=>some true
 | .func,.d (.lit .nilFunc),.d (.fn _ _)=>some false
 | .func,.d (.fn _ _),.d (.lit .nilFunc)=>some false
 | .func,.fn _ _,.d (.lit .nilFunc)=>some false
 | .slice,.d (.lit (.slice none _ _)),.d (.lit (.slice none _ _))=>some true
 | .slice,.d (.sd _ _ (_::_)),.d (.lit (.slice none _ _))=>some false
 | .slice,.so _ _ _ (_+1),.d (.lit (.slice none _ _))=>some false
 | .slice,.d (.ne _),.d (.lit (.slice none _ _))=>some false
 | _,_,_=>none
def Yg (P:Program) (t:Nat):Bool:=match P.underlying t with
 | some (.pointer u)=>(P.info? u).isSome
 | _=>false
def RB (P:Program) (t:Nat) (cst:Bool) (x y:V):Option (Prop × Bool):=
 match x,y with
 | .d (.agg xs),.d (.agg ys)=>match iH xs,iH ys,df xs,df ys with
  | some ks,some ks',some vs,some us=>if cN ks ks'=true then some (gU P t ks,bG vs us) else none
  | _,_,_,_=>none
 | .d (.lit (.bool a)),.d (.lit (.bool b))=>if cX P t=some .bool then some (True,a==b) else none
 | .po i o,.po i' o'=>if (i=i'∧o=o')∧Yg P t=true then some (True,true) else none
 | x,y=>match cX P t with
  | some kd=>(Gn kd cst x y).map fun b=>(True,b)
  | none=>none
def uW (P:Program) (op:BinOp) (t:Nat) (cst:Bool) (x y:V):PV:=
 match x,y with
 | .d (.lit (.int k a)),.d (.lit (.int k' b))=>if Gf op=true then kK op k a b else if k=k' then sF op k a b else none
 | .d (.lit (.string a)),.d (.lit (.string b))=>pu op a b
 | x,y=>match op with
  | .eql=>(RB P t cst x y).map fun r=>(r.1,.d (.lit (.bool r.2)))
  | .neq=>(RB P t cst x y).map fun r=>(r.1,.d (.lit (.bool (!r.2))))
  | _=>none
section
variable {P:Program} {w:World} {I:Nat→Prop} {β:co}
theorem aA {v:Value} {x:Value} (h:aL w I β (.d (.lit v)) x):x=v:=by
 have h':ax w I (.lit v) x:=h;cases h';rfl
theorem Ei {op:BinOp} {k:IntKind} {a b:Int} {p:Prop} {v:V} {t:Nat} (h:sF op k a b=some (p,v)) (hp:p) :
 ∃x,(binOp op t (.int k a) (.int k b)).run P w = .ok x w∧aL w I β v x:=by
 cases op<;>simp only [sF,aa5,abl,reduceCtorEq] at h <;>
  (obtain ⟨rfl,rfl⟩:=h;refine ⟨_,?_,ax.lit _⟩;simp [binOp,Op.intArith,Op.intCmp,Op.intDiv,Op.intBits,yf,Nc]<;>simp_all)
theorem zE {op:BinOp} {k k':IntKind} {a b:Int} {p:Prop} {v:V} {t:Nat} (h:kK op k a b=some (p,v)) (hp:p) :
 ∃x,(binOp op t (.int k a) (.int k' b)).run P w = .ok x w∧aL w I β v x:=by
 cases op<;>simp only [kK,aa5,abl,reduceCtorEq] at h <;>
  (obtain ⟨rfl,rfl⟩:=h;refine ⟨_,?_,ax.lit _⟩;simp only [binOp,Op.shift];rw [aaY (by omega)];rfl)
theorem Fe {op:BinOp} {a b:ByteArray} {p:Prop} {v:V} {t:Nat} (h:pu op a b=some (p,v)) (hp:p) :
 ∃x,(binOp op t (.string a) (.string b)).run P w = .ok x w∧aL w I β v x:=by
 cases op<;>simp only [pu,aa5,abl,reduceCtorEq] at h
 case add=>
  obtain ⟨rfl,rfl⟩:=h;refine ⟨_,?_,ax.lit _⟩;have : ¬((a.size+b.size:Nat):Int) > IntKind.i64.max:=by
   have:IntKind.i64.max=9223372036854775807:=by decide
   omega
  simp only [binOp,Op.stringOp];rw [aaY this];rfl
 case eql=>obtain ⟨rfl,rfl⟩:=h;exact ⟨_,by simp [binOp,Op.stringOp],ax.lit _⟩
 case neq=>obtain ⟨rfl,rfl⟩:=h;exact ⟨_,by simp [binOp,Op.stringOp],ax.lit _⟩
theorem kh : ∀ {xs:List D} {us vs:List Value},df xs=some us→xs.length=vs.length→(∀(i:Nat) c v,xs[i]? = some c→vs[i]? = some v→ax w I c v)→vs=us
 | [],us,vs,h,hl,_=>by simp [df] at h;subst h;exact abu (by simpa using hl.symm)
 | x::r,us,[],h,hl,_=>by simp at hl
 | x::r,us,v::vs,h,hl,hd=>by
  cases x with
  | lit u=>
   cases hr:df r with
   | none=>simp [df,BN,hr] at h
   | some us'=>
    simp [df,BN,hr] at h;subst h;have h0:=hd 0 _ v rfl rfl;cases h0;rw [kh (us:=us') (vs:=vs) hr (by simpa using hl) (fun i c v hc hv=>hd (i+1) c v (by simpa using hc) (by simpa using hv))]
  | _=>simp [df,BN] at h
theorem mY : ∀ {xs:List D} {us:List Value} {ks:List CK},df xs=some us→iH xs=some ks→cq ks us
 | [],us,ks,h,hk=>by simp [df] at h;simp [iH] at hk;subst h;subst hk;trivial
 | x::r,us,ks,h,hk=>by
  cases x with
  | lit u=>
   cases hr:df r with
   | none=>simp [df,BN,hr] at h
   | some us'=>
    simp [df,BN,hr] at h;subst h;cases hc:NW u with
    | none=>simp [iH,TK,hc] at hk
    | some c=>
     cases hcr:iH r with
     | none=>simp [iH,TK,hc,hcr] at hk
     | some cs=>
      simp [iH,TK,hc,hcr] at hk;subst hk;refine ⟨?_,mY hr hcr⟩;cases u<;>simp [NW] at hc<;>subst hc<;>exact ⟨_,rfl⟩
  | _=>simp [df,BN] at h
theorem sK {t:Nat} {kd:Kd} (h:cX P t=some kd) : ∃d,P.underlying t=some d:=by
 unfold cX at h;cases hd:P.underlying t with
 | none=>simp [hd] at h
 | some d=>exact ⟨d,rfl⟩
theorem d5 {t:Nat} (h:cX P t=some .pointer) : ∃e,P.underlying t=some (.pointer e):=by
 unfold cX at h;split at h<;>simp at h;rename_i e hd;exact ⟨e,hd⟩
theorem OL {t:Nat} (h:cX P t=some .bool):P.underlying t=some .bool:=by
 unfold cX at h;split at h<;>simp at h;rename_i hd;exact hd
theorem sL {t:Nat} (h:cX P t=some .iface) : ∃e,P.underlying t=some (.interface e):=by
 unfold cX at h;split at h<;>simp at h;rename_i e hd;exact ⟨e,hd⟩
theorem qN {t:Nat} (h:cX P t=some .func) : ∃a b c,P.underlying t=some (.func a b c):=by
 unfold cX at h;split at h<;>simp at h;rename_i a b c hd;exact ⟨a,b,c,hd⟩
theorem fx {t:Nat} (h:cX P t=some .slice) : ∃e,P.underlying t=some (.slice e):=by
 unfold cX at h;split at h<;>simp at h;rename_i e hd;exact ⟨e,hd⟩
theorem jn {k:Nat} {es:List D} {i j:Nat} {v:Value} (h:aL w I β (.d (.pd k es i j)) v) : ∃a,v = .pointer (some a):=by
 obtain ⟨b,o,rfl,_⟩:=ax.pd_inv (show ax w I _ v from h);exact ⟨_,rfl⟩
theorem jp {id o:Nat} {v:Value} (h:aL w I β (.po id o) v) : ∃a,v = .pointer (some a):=by
 obtain ⟨b,cap,_,rfl⟩:=h;exact ⟨_,rfl⟩
theorem jo {id k i j:Nat} {v:Value} (h:aL w I β (.pe id k i j) v) : ∃a,v = .pointer (some a):=by
 obtain ⟨b,cap,_,rfl⟩:=h;exact ⟨_,rfl⟩
theorem m7 {t:Nat} {x:D} {v:Value} (h:aL w I β (.d (.ifc t x)) v) : ∃u,v = .iface t u∧ax w I x u:=by
 have h':ax w I (.ifc t x) v:=h;cases h' with
 | ifc _ _ u h2=>exact ⟨u,rfl,h2⟩
theorem m6 {f:Nat} {x:List D} {v:Value} (h:aL w I β (.d (.fn f x)) v) : ∃vs:List Value,v = .func (.func f) #[] vs.toArray∧x.length=vs.length ∧ ∀(i:Nat) c v,x[i]? = some c→vs[i]? = some v→ax w I c v:=by
 have h':ax w I (.fn f x) v:=h;cases h' with
 | fn _ _ vs hl h2=>exact ⟨vs,rfl,hl,h2⟩
theorem DU {f:Nat} {x:List D} {v:Value} (h:aL w I β (.d (.bf f x)) v) : ∃vs:List Value,v = .func (.func f) vs.toArray #[]∧x.length=vs.length ∧ ∀(i:Nat) c v,x[i]? = some c→vs[i]? = some v→ax w I c v:=by
 have h':ax w I (.bf f x) v:=h;cases h' with
 | bf _ _ vs hl h2=>exact ⟨vs,rfl,hl,h2⟩
theorem yy {k:Nat} {v:Value} (h:aL w I β (.d (.ne k)) v) : ∃a c,v = .slice (some a) 0 c:=by
 have h':ax w I (.ne k) v:=h;cases h' with
 | ne _ a c=>exact ⟨a,c,rfl⟩
theorem jm {x:List D} {v:Value} (h:aL w I β (.d (.agg x)) v) : ∃vs:List Value,v = .agg vs.toArray∧x.length=vs.length∧(∀v∈vs,v.oneCell'=true) ∧ ∀(i:Nat) c v,x[i]? = some c→vs[i]? = some v→ax w I c v:=by
 have h':ax w I (.agg x) v:=h;cases h' with
 | agg _ vs hl ho h2=>exact ⟨vs,rfl,hl,ho,h2⟩
theorem DV {k:Nat} {f:Bool} {es:List D} {v:Value} (h:aL w I β (.d (.sd k f es)) v) : ∃a n c,v = .slice a n c∧n=es.length∧n≤c∧(f=true→c=n)∧(es≠[]→a≠none):=by
 have h':ax w I (.sd k f es) v:=h;cases h' with
 | sd k f es b o cap val hI hk hc ho hd hcap hfull=>exact ⟨_,_,_,rfl,rfl,hcap,hfull,fun _=>by simp⟩
 | sd0 k f a=>exact ⟨_,_,_,rfl,rfl,aaV _,fun _=>rfl,fun h=>absurd rfl h⟩
theorem l8 {t d e:Nat} {a b:Option Addr} (h:P.underlying t=some (.pointer e)) (hn:a=none∨b=none):(Op.equalIn (d+1) t (.pointer a) (.pointer b)).run P w = .ok (a.isNone&&b.isNone) w:=by
 cases a<;>cases b<;>simp_all [Op.equalIn,underlying]
theorem KN {t d:Nat} {e:Array (String × TypeId)} (h:P.underlying t=some (.interface e)):(Op.equalIn (d+1) t .nilIface .nilIface).run P w = .ok true w:=by simp [Op.equalIn,underlying,h]
theorem KO {t d u:Nat} {e:Array (String × TypeId)} {v:Value} (h:P.underlying t=some (.interface e)):(Op.equalIn (d+1) t .nilIface (.iface u v)).run P w = .ok false w:=by simp [Op.equalIn,underlying,h]
theorem KP {t d u:Nat} {e:Array (String × TypeId)} {v:Value} (h:P.underlying t=some (.interface e)):(Op.equalIn (d+1) t (.iface u v) .nilIface).run P w = .ok false w:=by simp [Op.equalIn,underlying,h]
theorem Oe {t d:Nat} {e e':Array TypeId} {q:Bool} (h:P.underlying t=some (.func e e' q)):(Op.equalIn (d+1) t .nilFunc .nilFunc).run P w = .ok true w:=by simp [Op.equalIn,underlying,h]
theorem Of {t d:Nat} {e e':Array TypeId} {q:Bool} {f:Fn} {x y:Array Value} (h:P.underlying t=some (.func e e' q)):(Op.equalIn (d+1) t .nilFunc (.func f x y)).run P w = .ok false w:=by simp [Op.equalIn,underlying,h]
theorem FZ {t d:Nat} {e e':Array TypeId} {q:Bool} {f:Fn} {x y:Array Value} (h:P.underlying t=some (.func e e' q)):(Op.equalIn (d+1) t (.func f x y) .nilFunc).run P w = .ok false w:=by simp [Op.equalIn,underlying,h]
theorem Og {t d e n c n' c':Nat} (h:P.underlying t=some (.slice e)):(Op.equalIn (d+1) t (.slice none n c) (.slice none n' c')).run P w = .ok true w:=by simp [Op.equalIn,underlying,h]
theorem yJ {t d e n c n' c':Nat} {a:Addr} (h:P.underlying t=some (.slice e)):(Op.equalIn (d+1) t (.slice (some a) n c) (.slice none n' c')).run P w = .ok false w:=by simp [Op.equalIn,underlying,h]
def kZ:Value→Value→Bool
 | .nilIface,.nilIface=>false
 | .agg _,.agg _=>false
 | _,_=>true
theorem hJ {op:BinOp} {t:Nat} {ox oy:Operand} {vx vy:Value} (h:kZ vx vy=true):(eqGuard op t ox oy vx vy).run P w = .ok () w:=by
 unfold eqGuard;split<;>simp only [adX,Bool.not_false,aa9,ab1,ab0]
 ·split
  ·simp [kZ] at h
  ·simp [kZ] at h
  ·rfl
 ·split
  ·simp [kZ] at h
  ·simp [kZ] at h
  ·rfl
 ·rfl
def FY:Value→Value→Bool
 | .int _ _,.int _ _=>false
 | .float _ _,.float _ _=>false
 | .complex _ _ _,.complex _ _ _=>false
 | .string _,.string _=>false
 | _,_=>true
theorem qG {t:Nat} {vx vy:Value} {b:Bool} (h:FY vx vy=true) (he:(Op.equalIn (9999+1) t vx vy).run P w = .ok b w) :
 (binOp .eql t vx vy).run P w = .ok (.bool b) w∧(binOp .neq t vx vy).run P w = .ok (.bool (!b)) w:=by
 have e:(Op.equal t vx vy).run P w = .ok b w:=he;constructor
 ·have:binOp .eql t vx vy=(do pure (.bool (←Op.equal t vx vy))):=by
   cases vx<;>cases vy<;>first|rfl|(simp [FY] at h)
  rw [this,Sem.run_bind,e];rfl
 ·have:binOp .neq t vx vy=(do pure (.bool (!(←Op.equal t vx vy)))):=by
   cases vx<;>cases vy<;>first|rfl|(simp [FY] at h)
  rw [this,Sem.run_bind,e];rfl
theorem bD {t:Nat} {ox oy:Operand} {vx vy:Value} {b:Bool} (h1:kZ vx vy=true) (h2:FY vx vy=true) (he:(Op.equalIn (9999+1) t vx vy).run P w = .ok b w) :
 (∀op,(eqGuard op t ox oy vx vy).run P w = .ok () w)∧(binOp .eql t vx vy).run P w = .ok (.bool b) w∧(binOp .neq t vx vy).run P w = .ok (.bool (!b)) w:=
 ⟨fun _=>hJ h1,qG h2 he⟩
theorem Ix {t:Nat} {kd:Kd} {ox oy:Operand} {x y:V} {vx vy:Value} {b:Bool} (hk:cX P t=some kd) (h:Gn kd (e8 ox||e8 oy) x y=some b) (hx:aL w I β x vx) (hy:aL w I β y vy) :
 (∀op,(eqGuard op t ox oy vx vy).run P w = .ok () w)∧(binOp .eql t vx vy).run P w = .ok (.bool b) w∧(binOp .neq t vx vy).run P w = .ok (.bool (!b)) w:=by
 unfold Gn at h;split at h;case h_1=>obtain ⟨e,he⟩:=d5 hk;injection h with h;subst h;have:=aA hx;subst this;have:=aA hy;subst this;exact bD rfl rfl (l8 he (.inl rfl))
 case h_2=>obtain ⟨e,he⟩:=d5 hk;injection h with h;subst h;have:=aA hx;subst this;obtain ⟨a,rfl⟩:=jn hy;exact bD rfl rfl (l8 he (.inl rfl))
 case h_3=>obtain ⟨e,he⟩:=d5 hk;injection h with h;subst h;have:=aA hx;subst this;obtain ⟨a,rfl⟩:=jp hy;exact bD rfl rfl (l8 he (.inl rfl))
 case h_4=>obtain ⟨e,he⟩:=d5 hk;injection h with h;subst h;have:=aA hx;subst this;obtain ⟨a,rfl⟩:=jo hy;exact bD rfl rfl (l8 he (.inl rfl))
 case h_5=>obtain ⟨e,he⟩:=d5 hk;injection h with h;subst h;have:=aA hy;subst this;obtain ⟨a,rfl⟩:=jn hx;exact bD rfl rfl (l8 he (.inr rfl))
 case h_6=>obtain ⟨e,he⟩:=d5 hk;injection h with h;subst h;have:=aA hy;subst this;obtain ⟨a,rfl⟩:=jp hx;exact bD rfl rfl (l8 he (.inr rfl))
 case h_7=>obtain ⟨e,he⟩:=d5 hk;injection h with h;subst h;have:=aA hy;subst this;obtain ⟨a,rfl⟩:=jo hx;exact bD rfl rfl (l8 he (.inr rfl))
 case h_8=>
  obtain ⟨e,he⟩:=sL hk;split at h
  ·rename_i hc;injection h with h;subst h;have:=aA hx;subst this;have:=aA hy;subst this;refine ⟨fun op =>?_,qG rfl (KN he)⟩;cases ox<;>cases oy<;>simp_all [e8]<;>cases op<;>simp [eqGuard]
  ·cases h
 case h_9=>obtain ⟨e,he⟩:=sL hk;injection h with h;subst h;have:=aA hx;subst this;obtain ⟨a,rfl,_⟩:=m7 hy;exact bD rfl rfl (KO he)
 case h_10=>obtain ⟨e,he⟩:=sL hk;injection h with h;subst h;have:=aA hy;subst this;obtain ⟨a,rfl,_⟩:=m7 hx;exact bD rfl rfl (KP he)
 case h_11=>obtain ⟨e,e',e'',he⟩:=qN hk;injection h with h;subst h;have:=aA hx;subst this;have:=aA hy;subst this;exact bD rfl rfl (Oe he)
 case h_12=>obtain ⟨e,e',e'',he⟩:=qN hk;injection h with h;subst h;have:=aA hx;subst this;obtain ⟨a,rfl,_⟩:=m6 hy;exact bD rfl rfl (Of he)
 case h_13=>obtain ⟨e,e',e'',he⟩:=qN hk;injection h with h;subst h;have:=aA hy;subst this;obtain ⟨a,rfl,_⟩:=m6 hx;exact bD rfl rfl (FZ he)
 case h_14=>obtain ⟨e,e',e'',he⟩:=qN hk;injection h with h;subst h;have:=aA hy;subst this;obtain ⟨a,rfl,_⟩:=(show ∃vs:List Value,vx = .func (.func _) #[] vs.toArray∧bY w I β _ vs from hx);exact bD rfl rfl (FZ he)
 case h_15=>obtain ⟨e,he⟩:=fx hk;injection h with h;subst h;have:=aA hx;subst this;have:=aA hy;subst this;exact bD rfl rfl (Og he)
 case h_16=>
  obtain ⟨e,he⟩:=fx hk;injection h with h;subst h;have:=aA hy;subst this;obtain ⟨a,n,c,rfl,_,_,_,ha⟩:=DV hx;cases a with
  | none=>exact absurd rfl (ha (by simp))
  | some a=>exact bD rfl rfl (yJ he)
 case h_17=>
  obtain ⟨e,he⟩:=fx hk;injection h with h;subst h;have:=aA hy;subst this;rcases hx with ⟨_,_,h0,_⟩|⟨b,cap,c,_,_,_,rfl⟩
  ·omega
  ·exact bD rfl rfl (yJ he)
 case h_18=>obtain ⟨e,he⟩:=fx hk;injection h with h;subst h;have:=aA hy;subst this;obtain ⟨a,c,rfl⟩:=yy hx;exact bD rfl rfl (yJ he)
 case h_19=>cases h
theorem FX {t:Nat} {ox oy:Operand} {x y:V} {vx vy:Value} {p:Prop} {b:Bool} (h:RB P t (e8 ox||e8 oy) x y=some (p,b)) (hp:p) (hx:aL w I β x vx) (hy:aL w I β y vy) :
 (∀op,(eqGuard op t ox oy vx vy).run P w = .ok () w)∧(binOp .eql t vx vy).run P w = .ok (.bool b) w∧(binOp .neq t vx vy).run P w = .ok (.bool (!b)) w:=by
 unfold RB at h;split at h
 ·split at h
  ·rename_i xs ys _ _ _ _ ks ks' vs us h1 h2 h3 h4;split at h
   ·rename_i hs;have hkk:=jc hs;subst hkk;injection h with h;injection h with ha hb;subst ha;subst hb;obtain ⟨xv,rfl,hxl,_,hxd⟩:=jm hx;obtain ⟨yv,rfl,hyl,_,hyd⟩:=jm hy;have e1:=kh h3 hxl hxd;have e2:=kh h4 hyl hyd;subst e1;subst e2;obtain ⟨g1,g2⟩:=hp;have g3:=g2 _ _ w (mY h3 h1) (mY h4 h2);refine ⟨fun op =>?_,?_,?_⟩
    ·unfold eqGuard;split<;>simp only [adX,Bool.not_false,aa9,ab1,ab0]<;>simp [g1]
    ·exact (qG rfl g3).1
    ·exact (qG rfl g3).2
   ·cases h
  ·cases h
 ·split at h
  ·rename_i hk;injection h with h;injection h with ha hb;subst ha;subst hb;have:=aA hx;subst this;have:=aA hy;subst this;have hu:=OL hk;exact bD rfl rfl (run_equalIn_bool w 9999 t _ _ hu)
  ·cases h
 ·rename_i i o i' o';split at h
  ·rename_i hc;obtain ⟨⟨h1,h2⟩,hk⟩:=hc;subst h1;subst h2;injection h with h;injection h with ha hb;subst ha;subst hb;obtain ⟨b,cap,hb,rfl⟩:=hx;obtain ⟨b',cap',hb',rfl⟩:=hy;rw [hb] at hb';injection hb' with hb';injection hb' with hb';injection hb' with hb' _;subst hb';unfold Yg at hk;split at hk
   ·rename_i u hu;obtain ⟨j,hj⟩:=acv.1 hk;have key : ∀d:Nat,(Op.equalIn (d+1) t (.pointer (some ⟨b,o,none⟩)) (.pointer (some ⟨b,o,none⟩))).run P w = .ok true w:=fun d=>by
     simp [Op.equalIn,run_underlying hu,sizeOf,typeInfo,hj,run_sameAddr_same]
    exact bD rfl rfl (key 9999)
   ·cases hk
  ·cases h
 ·split at h
  ·rename_i kd hk;simp only [aaZ] at h;obtain ⟨b',hb',hh⟩:=h;injection hh with _ hh;subst hh;exact Ix hk hb' hx hy
  ·cases h
theorem J5 {op:BinOp} {t:Nat} {ox oy:Operand} {x y:V} {vx vy:Value} {p:Prop} {v:V} (h:uW P op t (e8 ox||e8 oy) x y=some (p,v)) (hp:p) (hx:aL w I β x vx) (hy:aL w I β y vy) :
 ∃u,((do eqGuard op t ox oy vx vy;binOp op t vx vy):Sem Value).run P w = .ok u w∧aL w I β v u:=by
 unfold uW at h;split at h
 ·split at h
  ·have:=aA hx;subst this;have:=aA hy;subst this;obtain ⟨u,h1,h2⟩:=zE (w:=w) (I:=I) (β:=β) (t:=t) (P:=P) h hp;refine ⟨u,?_,h2⟩;rw [Sem.run_bind,hJ rfl];exact h1
  split at h
  ·rename_i hk;subst hk;have:=aA hx;subst this;have:=aA hy;subst this;obtain ⟨u,h1,h2⟩:=Ei (w:=w) (I:=I) (β:=β) (t:=t) (P:=P) h hp;refine ⟨u,?_,h2⟩;rw [Sem.run_bind,hJ rfl];exact h1
  ·cases h
 ·have:=aA hx;subst this;have:=aA hy;subst this;obtain ⟨u,h1,h2⟩:=Fe (w:=w) (I:=I) (β:=β) (t:=t) (P:=P) h hp;refine ⟨u,?_,h2⟩;rw [Sem.run_bind,hJ rfl];exact h1
 ·split at h
  ·simp only [aaZ] at h;obtain ⟨⟨q,b⟩,hb,hh⟩:=h;injection hh with h1 h2;subst h1;subst h2;obtain ⟨g1,g2,g3⟩:=FX hb hp hx hy;exact ⟨_,by rw [Sem.run_bind,g1];exact g2,ax.lit _⟩
  ·simp only [aaZ] at h;obtain ⟨⟨q,b⟩,hb,hh⟩:=h;injection hh with h1 h2;subst h1;subst h2;obtain ⟨g1,g2,g3⟩:=FX hb hp hx hy;exact ⟨_,by rw [Sem.run_bind,g1];exact g3,ax.lit _⟩
  ·cases h
end
def RH (P:Program) (s f:Nat) (a:V):PV:=
 match bi P s f with
 | some (off,sz,_)=>if sz=0 then none else match a with
  | .d (.pd k es i j)=>some (True,.d (.pd k es i (j+off)))
  | .po id o=>some (True,.po id (o+off))
  | .pe id k i j=>some (True,.pe id k i (j+off))
  | _=>none
 | none=>none
def RI (P:Program) (t f:Nat) (a:V):PV:=
 match bi P t f with
 | some (off,sz,ag)=>match a with
  | .d (.agg cs)=>(ky ag off sz (cs.map .d)).map fun v=>(True,v)
  | .agg cs=>(ky ag off sz cs).map fun v=>(True,v)
  | _=>none
 | none=>none
def Ef (P:Program) (t:Nat) (a:V) (n:Int):PV:=
 match a,oe P t with
 | .d (.sd k _ es),some (k',_)=>if k=k' then some (0≤n∧n<es.length,.d (.pd k es n.toNat 0)) else none
 | .so id k lo m,some (k',_)=>if k=k' then some (0≤n∧n<m,.pe id k (lo+n.toNat) 0) else none
 | a,_=>match Nl P t with
  | some (len,s,_)=>match a with
   | .d (.pd k es i j)=>some (0≤n∧n<len,.d (.pd k es i (j+n.toNat*s)))
   | .po id o=>some (0≤n∧n<len,.po id (o+n.toNat*s))
   | .pe id k i j=>some (0≤n∧n<len,.pe id k i (j+n.toNat*s))
   | _=>none
  | none=>none
def sE (P:Program) (t:Nat) (a:V) (n:Int):PV:=
 match a with
 | .d (.lit (.string s))=>if cX P t=some .string then some (0≤n∧n<s.size,.d (.lit (.int .u8 (s.data.getD n.toNat 0).toNat))) else none
 | .d (.agg cs)=>match Nl P t with
  | some (len,s,ag)=>(ky ag (n.toNat*s) s (cs.map .d)).map fun v=>(0≤n∧n<len,v)
  | none=>none
 | _=>none
def S5 (op:UnOp) (x:V):PV:=
 match op,x with
 | .not,.d (.lit (.bool b))=>some (True,.d (.lit (.bool (!b))))
 | .neg,.d (.lit (.int k n))=>some (True,.d (.lit (.int k (k.wrap (0 - n)))))
 | _,_=>none
def Ru (P:Program) (src dst:Nat) (x:V):PV:=
 match cX P src with
 | none=>none
 | some _=>match cX P dst,x with
  | some (.int k),.d (.lit (.int _ n))=>some (True,.d (.lit (.int k (k.wrap n))))
  | some .string,.d (.lit (.int _ n))=>some (True,.d (.lit (.string (Utf8.encode n))))
  | some .string,.d (.lit (.string s))=>some (True,.d (.lit (.string s)))
  | _,_=>none
def R7 (P:Program) (t:Nat) (x:V):PV:=
 match cX P t,x with
 | some .iface,_=>none
 | some _,.d y=>some (True,.d (.ifc t y))
 | _,_=>none
def RE (i:Nat) (x:V):PV:=
 match x with
 | .tup vs=>(vs[i]?).map fun v=>(True,v)
 | _=>none
def Fp (x:V):PV:=
 match x with
 | .d (.lit (.slice none _ _))=>some (True,.d (.lit (.pointer none)))
 | .so id k lo n=>if 0<n then some (True,.pe id k lo 0) else none
 | _=>none
def If (x:V):PV:=
 match x with
 | .d (.lit (.string s))=>some (True,.d (.lit (.int .i64 s.size)))
 | .d (.lit (.slice none 0 _))=>some (True,.d (.lit (.int .i64 0)))
 | .d (.sd _ _ es)=>some (True,.d (.lit (.int .i64 es.length)))
 | .so _ _ _ n=>some (True,.d (.lit (.int .i64 n)))
 | _=>none
def Nq (mx:Bool) (x y:V):PV:=
 match x,y with
 | .d (.lit (.int k a)),.d (.lit (.int _ b))=>some (True,.d (.lit (.int k (if mx=true then max a b else min a b))))
 | _,_=>none
def mq (x:V):PV:=
 match x with
 | .d (.pd k es i j)=>some (True,.d (.pd k es i j))
 | .po id o=>some (True,.po id o)
 | .pe id k i j=>some (True,.pe id k i j)
 | .d (.ifc t y)=>some (True,.d (.ifc t y))
 | .d (.fn f cs)=>some (True,.d (.fn f cs))
 | .fn f cs=>some (True,.fn f cs)
 | .d (.bf f cs)=>some (True,.d (.bf f cs))
 | _=>none
section
variable {P:Program} {w:World} {I:Nat→Prop} {β:co}
theorem Bi {t f off sz:Nat} {ag:Bool} (h:bi P t f=some (off,sz,ag)) : ∃fs fd,P.underlying t=some (.struct fs)∧fs[f]? = some fd∧fd.offset=off∧cu P fd.type=some (sz,ag):=by
 unfold bi at h;split at h
 ·rename_i fs hu;split at h
  ·rename_i fd hf;simp only [aaZ] at h;obtain ⟨⟨a,b⟩,h1,h2⟩:=h;injection h2 with h3 h4;injection h4 with h4 h5;subst h3;subst h4;subst h5;exact ⟨fs,fd,hu,hf,rfl,h1⟩
  ·cases h
 ·cases h
theorem nU {t k:Nat} {ag:Bool} (h:oe P t=some (k,ag)) : ∃e,P.underlying t=some (.slice e)∧cu P e=some (k,ag):=by
 unfold oe at h;split at h
 ·rename_i e hu;exact ⟨e,hu,h⟩
 ·cases h
theorem AN {t n k:Nat} {ag:Bool} (h:Nl P t=some (n,k,ag)) : ∃e,P.underlying t=some (.array n e)∧cu P e=some (k,ag):=by
 unfold Nl at h;split at h
 ·rename_i m e hu;simp only [aaZ] at h;obtain ⟨⟨a,b⟩,h1,h2⟩:=h;injection h2 with h3 h4;injection h4 with h4 h5;subst h3;subst h4;subst h5;exact ⟨e,hu,h1⟩
 ·cases h
theorem kC {s f off sz:Nat} {ag:Bool} (h:bi P s f=some (off,sz,ag)) (hz:sz≠0) (b q:Nat) :
 (Instr.fieldAt s (.pointer (some ⟨b,q,none⟩)) f).run P w = .ok (.pointer (some ⟨b,q+off,none⟩)) w:=by
 obtain ⟨fs,fd,h1,h2,h3,h4⟩:=Bi h;subst h3;simp [Instr.fieldAt,underlying,h1,h2,Instr.sureAddr,fieldPlace,cx h4,hz,dP]
theorem Oq {s f:Nat} {a:V} {p:Prop} {v:V} {val:Value} (h:RH P s f a=some (p,v)) (hd:aL w I β a val) :
 ∃x,(Instr.fieldAt s val f).run P w = .ok x w∧aL w I β v x:=by
 unfold RH at h;split at h
 ·rename_i off sz ag hf;split at h
  ·cases h
  ·rename_i hz;split at h
   ·injection h with h;injection h with h1 h2;subst h2;have hd':ax w I _ val:=hd;cases hd' with
    | pd _ _ _ _ b o val hI hk hc ho hd2=>
     exact ⟨_,kC hf hz b _,by rw [acI];exact ax.pd _ _ _ _ b o val hI hk hc ho hd2⟩
   ·injection h with h;injection h with h1 h2;subst h2;obtain ⟨b,cap,hb,rfl⟩:=hd;exact ⟨_,kC hf hz b _,b,cap,hb,rfl⟩
   ·injection h with h;injection h with h1 h2;subst h2;obtain ⟨b,cap,hb,rfl⟩:=hd;exact ⟨_,kC hf hz b _,b,cap,hb,by rw [acI]⟩
   ·cases h
 ·cases h
theorem tD {t s:Nat} {ag:Bool} (h:cu P t=some (s,ag)) (cs:Array Value) (off:Nat) :
 (part t cs off).run P w=if ag=true then .ok (.agg (cs.extract off (off+s))) w else match cs[off]? with|some v=> .ok v w|none=> .halt (.stuck "part: no such cell") w:=by
 unfold part;simp only [Sem.run_bind,o9 h,Result.andThen_ok];cases ag with
 | true=>simp [cx h]
 | false=>
  simp only [aa9,ab1];cases cs[off]? <;> rfl
theorem s9 {t s:Nat} {ag:Bool} {off:Nat} {cs:List V} {vs:List Value} {v:V} (h:cu P t=some (s,ag)) (hp:ky ag off s cs=some v) (hd:bY w I β cs vs) (ho : ∀x∈vs,x.oneCell'=true) :
 ∃x,(part t vs.toArray off).run P w = .ok x w∧aL w I β v x:=by
 rw [tD h];unfold ky at hp;cases ag with
 | true=>
  simp only [ab0] at hp ⊢;split at hp
  ·rename_i hc;injection hp with hp;subst hp;refine ⟨_,rfl,?_⟩;have e:vs.toArray.extract off (off+s)=((vs.drop off).take s).toArray:=by
    simp [List.take_drop]
   rw [e];exact iM (hd.sub off s) (fun x hx=>ho x (abU (abm hx)))
  ·cases hp
 | false=>
  simp only [aa9,ab1] at hp ⊢;have hl:off<vs.length:=by
   have:=(aaX.1 hp).1;rw [hd.1] at this;exact this
  refine ⟨vs[off],by simp [hl],?_⟩;have:=hd.2 off v vs[off] hp (IO hl);cases v<;>first|exact this|exact this.elim
theorem jl {cs:List D} {vs:List Value} (hl:cs.length=vs.length) (h : ∀(i:Nat) c v,cs[i]? = some c→vs[i]? = some v→ax w I c v):bY w I β (cs.map V.d) vs:=by
 refine ⟨by simpa using hl,fun i c v hi hv =>?_⟩;simp only [abp,aaZ] at hi;obtain ⟨x,hx,rfl⟩:=hi;exact h i x v hx hv
theorem Ou {t f:Nat} {a:V} {p:Prop} {v:V} {val:Value} (h:RI P t f a=some (p,v)) (hd:aL w I β a val) :
 ∃x,(Instr.field t val f).run P w = .ok x w∧aL w I β v x:=by
 unfold RI at h;split at h
 ·rename_i off sz ag hf;obtain ⟨fs,fd,h1,h2,h3,h4⟩:=Bi hf;subst h3;split at h
  ·simp only [aaZ] at h;obtain ⟨u,hu,hh⟩:=h;injection hh with _ hh;subst hh;obtain ⟨vs,rfl,hl,ho,hds⟩:=jm hd;obtain ⟨x,hx,hxd⟩:=s9 (P:=P) (w:=w) h4 hu (jl hl hds) ho;exact ⟨x,by simp [Instr.field,underlying,h1,h2,asAgg,hx],hxd⟩
  ·simp only [aaZ] at h;obtain ⟨u,hu,hh⟩:=h;injection hh with _ hh;subst hh;obtain ⟨vs,rfl,ho,hds⟩:=hd;obtain ⟨x,hx,hxd⟩:=s9 (P:=P) (w:=w) h4 hu hds ho;exact ⟨x,by simp [Instr.field,underlying,h1,h2,asAgg,hx],hxd⟩
  ·cases h
 ·cases h
theorem kD {t k:Nat} {ag:Bool} (h:oe P t=some (k,ag)) (b q len cap:Nat) (kk:IntKind) (n:Int) (h0:0≤n) (h1:n<len) :
 (Instr.indexAt t (.slice (some ⟨b,q,none⟩) len cap) (.int kk n)).run P w = .ok (.pointer (some ⟨b,q+n.toNat*k,none⟩)) w:=by
 obtain ⟨e,h2,h3⟩:=nU h;simp [Instr.indexAt,asIntOf,underlying,h2,cx h3,h0,h1,dP]
theorem gN {t k len:Nat} {ag:Bool} (h:Nl P t=some (len,k,ag)) (b q:Nat) (kk:IntKind) (n:Int) (h0:0≤n) (h1:n<len) :
 (Instr.indexAt t (.pointer (some ⟨b,q,none⟩)) (.int kk n)).run P w = .ok (.pointer (some ⟨b,q+n.toNat*k,none⟩)) w:=by
 obtain ⟨e,h2,h3⟩:=AN h;simp [Instr.indexAt,asIntOf,underlying,h2,cx h3,h0,h1,dP,Instr.sureAddr]
theorem Lg {t:Nat} {a:V} {n:Int} {p:Prop} {v:V} {val:Value} {kk:IntKind} (h:Ef P t a n=some (p,v)) (hp:p) (hd:aL w I β a val) :
 ∃x,(Instr.indexAt t val (.int kk n)).run P w = .ok x w∧aL w I β v x:=by
 unfold Ef at h;split at h
 ·rename_i k f es k' ag hs;split at h
  ·rename_i hk;subst hk;injection h with h;injection h with h1 h2;subst h1;subst h2;have hd':ax w I _ val:=hd;cases hd' with
   | sd _ _ _ b o cap val hI hk hc ho hd2 hcap hfull=>
    exact ⟨_,kD hs b o _ _ kk n hp.1 hp.2,ax.pd _ _ n.toNat 0 b o val hI hk hc ho hd2⟩
   | sd0=>simp at hp;omega
  ·cases h
 ·rename_i id k lo m k' ag hs;split at h
  ·rename_i hk;subst hk;injection h with h;injection h with h1 h2;subst h1;subst h2;rcases hd with ⟨_,_,h3,_⟩|⟨b,cap,c,hb,h3,h4,rfl⟩
   ·subst h3;simp at hp;omega
   ·exact ⟨_,kD hs b _ _ _ kk n hp.1 (by omega),b,cap,hb,by rw [abV];rfl⟩
  ·cases h
 ·split at h
  ·rename_i len s ag hs;split at h
   ·injection h with h;injection h with h1 h2;subst h1;subst h2;have hd':ax w I _ val:=hd;cases hd' with
    | pd _ _ _ _ b o val hI hk hc ho hd2=>
     exact ⟨_,gN hs b _ kk n hp.1 hp.2,by rw [acI];exact ax.pd _ _ _ _ b o val hI hk hc ho hd2⟩
   ·injection h with h;injection h with h1 h2;subst h1;subst h2;obtain ⟨b,cap,hb,rfl⟩:=hd;exact ⟨_,gN hs b _ kk n hp.1 hp.2,b,cap,hb,rfl⟩
   ·injection h with h;injection h with h1 h2;subst h1;subst h2;obtain ⟨b,cap,hb,rfl⟩:=hd;exact ⟨_,gN hs b _ kk n hp.1 hp.2,b,cap,hb,by rw [acI]⟩
   ·cases h
  ·cases h
theorem dE {t:Nat} (h:cX P t=some .string):P.underlying t=some .string:=by
 unfold cX at h;split at h<;>simp at h;rename_i hd;exact hd
theorem R3 {t:Nat} {k:IntKind} (h:cX P t=some (.int k)):P.underlying t=some (.int k):=by
 unfold cX at h;split at h<;>simp at h;rename_i hd;subst h;exact hd
theorem H7 {t:Nat} {a:V} {n:Int} {p:Prop} {v:V} {val:Value} {kk:IntKind} (h:sE P t a n=some (p,v)) (hp:p) (hd:aL w I β a val) :
 ∃x,(Instr.index t val (.int kk n)).run P w = .ok x w∧aL w I β v x:=by
 unfold sE at h;split at h
 ·rename_i s;split at h
  ·rename_i hk;injection h with h;injection h with h1 h2;subst h1;subst h2;have:=aA hd;subst this;refine ⟨_,?_,ax.lit _⟩;have hu:=dE hk;have hlt:n.toNat<s.size:=by omega
   have hg:s[n.toNat]? = some (s.data.getD n.toNat 0):=by
    rw [getElem?_pos s n.toNat hlt];congr 1;show s.data[n.toNat]=_;show s.data[n.toNat]=if h:n.toNat<s.data.size then s.data[n.toNat] else 0
    exact (acB (show n.toNat<s.data.size from hlt)).symm
   simp [Instr.index,asIntOf,underlying,hu,hp.1,hg]
  ·cases h
 ·rename_i cs;split at h
  ·rename_i len s ag hs;simp only [aaZ] at h;obtain ⟨u,hu,hh⟩:=h;injection hh with h1 h2;subst h1;subst h2;obtain ⟨vs,rfl,hl,ho,hds⟩:=jm hd;obtain ⟨e,h3,h4⟩:=AN hs;obtain ⟨x,hx,hxd⟩:=s9 (P:=P) (w:=w) h4 hu (jl hl hds) ho;exact ⟨x,by simp [Instr.index,asIntOf,underlying,h3,cx h4,hp.1,hp.2,hx],hxd⟩
  ·cases h
 ·cases h
theorem PY {op:UnOp} {x:V} {p:Prop} {v:V} {val:Value} (h:S5 op x=some (p,v)) (hd:aL w I β x val) : ∃u,(Op.unary op val).run P w = .ok u w∧aL w I β v u:=by
 unfold S5 at h;split at h
 ·injection h with h;injection h with h1 h2;subst h2;have:=aA hd;subst this;exact ⟨_,rfl,ax.lit _⟩
 ·injection h with h;injection h with h1 h2;subst h2;have:=aA hd;subst this;exact ⟨_,rfl,ax.lit _⟩
 ·cases h
theorem N1 {src dst:Nat} {x:V} {p:Prop} {v:V} {val:Value} (h:Ru P src dst x=some (p,v)) (hd:aL w I β x val) : ∃u,(convert src dst val).run P w = .ok u w∧aL w I β v u:=by
 unfold Ru at h;split at h
 ·cases h
 ·rename_i kd hk;obtain ⟨d0,h0⟩:=sK hk;split at h
  ·rename_i k _ n hk2;injection h with h;injection h with h1 h2;subst h2;have:=aA hd;subst this;have hu:=R3 hk2;exact ⟨_,by simp [convert,underlying,h0,hu,Conv.intToInt],ax.lit _⟩
  ·rename_i _ n hk2;injection h with h;injection h with h1 h2;subst h2;have:=aA hd;subst this;have hu:=dE hk2;exact ⟨_,by simp [convert,underlying,h0,hu,Conv.intToString],ax.lit _⟩
  ·rename_i s hk2;injection h with h;injection h with h1 h2;subst h2;have:=aA hd;subst this;have hu:=dE hk2;exact ⟨_,by simp [convert,underlying,h0,hu],ax.lit _⟩
  ·cases h
theorem OZ {t:Nat} {x:V} {p:Prop} {v:V} {val:Value} (h:R7 P t x=some (p,v)) (hd:aL w I β x val) : ∃u,(Instr.makeInterface t val).run P w = .ok u w∧aL w I β v u:=by
 unfold R7 at h;split at h
 ·cases h
 ·rename_i kd y hn hk;injection h with h;injection h with h1 h2;subst h2;obtain ⟨d0,h0⟩:=sK hk;refine ⟨.iface t val,?_,ax.ifc t y val hd⟩;simp only [Instr.makeInterface,underlying,Sem.run_bind,run_program,Result.andThen,h0];cases d0<;>first|rfl|(exfalso;exact hn (by simp [cX,h0] at hk;exact hk.symm))
 ·cases h
theorem Oi {i:Nat} {x:V} {p:Prop} {v:V} {val:Value} (h:RE i x=some (p,v)) (hd:aL w I β x val) : ∃u,(Instr.extract val i).run P w = .ok u w∧aL w I β v u:=by
 unfold RE at h;split at h
 ·simp only [aaZ] at h;obtain ⟨u,hu,hh⟩:=h;injection hh with _ hh;subst hh;obtain ⟨vs,rfl,hl,hds⟩:=hd;have hlt:i<vs.length:=by
   have:=(aaX.1 hu).1;omega
  refine ⟨vs[i],by simp [Instr.extract,hlt],?_⟩;have:=hds i u vs[i] hu (IO hlt);cases u<;>first|exact this|exact this.elim
 ·cases h
theorem Ey {x:V} {p:Prop} {v:V} {val:Value} (h:mq x=some (p,v)) (hd:aL w I β x val) {o:Oper} {ox:Operand} {a:Act} (ho:o.op = .nilCheck ox) (hx:a.eval ox=val) :
 (execOp a.eval o).run P w = .ok (.value val) w∧aL w I β v val:=by
 unfold mq at h;split at h
 ·injection h with h;injection h with h1 h2;subst h2;obtain ⟨q,rfl⟩:=jn hd;exact ⟨by simp [execOp,ho,hx],hd⟩
 ·injection h with h;injection h with h1 h2;subst h2;obtain ⟨q,rfl⟩:=jp hd;exact ⟨by simp [execOp,ho,hx],hd⟩
 ·injection h with h;injection h with h1 h2;subst h2;obtain ⟨q,rfl⟩:=jo hd;exact ⟨by simp [execOp,ho,hx],hd⟩
 ·injection h with h;injection h with h1 h2;subst h2;obtain ⟨q,rfl,_⟩:=m7 hd;exact ⟨by simp [execOp,ho,hx],hd⟩
 ·injection h with h;injection h with h1 h2;subst h2;obtain ⟨q,rfl,_⟩:=m6 hd;exact ⟨by simp [execOp,ho,hx],hd⟩
 ·injection h with h;injection h with h1 h2;subst h2;obtain ⟨q,rfl,_⟩:=(show ∃vs:List Value,val = .func (.func _) #[] vs.toArray∧bY w I β _ vs from hd)
  exact ⟨by simp [execOp,ho,hx],hd⟩
 ·injection h with h;injection h with h1 h2;subst h2;obtain ⟨q,rfl,_⟩:=DU hd;exact ⟨by simp [execOp,ho,hx],hd⟩
 ·cases h
theorem M1 {x:V} {p:Prop} {v:V} {vx:Value} {ts:Array Nat} {t:Nat} (h:Fp x=some (p,v)) (hx:aL w I β x vx) : ∃u,(Builtin.unsafeSliceData_ ts t #[vx]).run P w = .ok u w∧aL w I β v u:=by
 unfold Fp at h;split at h
 ·injection h with h;injection h with h1 h2;subst h2;have:=aA hx;subst this;exact ⟨_,rfl,ax.lit _⟩
 ·rename_i id k lo n;split at h
  ·rename_i hn;injection h with h;injection h with h1 h2;subst h2;rcases hx with ⟨_,_,h0,_⟩|⟨b,cap,c,hb,g1,g2,rfl⟩
   ·omega
   ·refine ⟨.pointer (some ⟨b,lo*k,none⟩),?_,b,cap,hb,by simp⟩;obtain ⟨m,rfl⟩ : ∃m,c=m+1:=⟨c - 1,by omega⟩
    rfl
  ·cases h
 ·cases h
theorem Gj {mx:Bool} {x y:V} {p:Prop} {v:V} {vx vy:Value} {ts:Array Nat} {t:Nat} (h:Nq mx x y=some (p,v)) (hx:aL w I β x vx) (hy:aL w I β y vy) :
 ∃u,(if mx=true then Builtin.max_ ts t #[vx,vy] else Builtin.min_ ts t #[vx,vy]).run P w = .ok u w∧aL w I β v u:=by
 unfold Nq at h;split at h
 ·injection h with h;injection h with h1 h2;subst h2;have:=aA hx;subst this;have:=aA hy;subst this;cases mx with
  | true=>
   refine ⟨_,run_max_int2 w ts t _ _ _ _,?_⟩;rw [aa3 rfl];rename_i k a _ b;have:(if b > a then b else a)=max a b:=by omega
   rw [this];exact ax.lit _
  | false=>
   refine ⟨_,run_min_int2 w ts t _ _ _ _,?_⟩;rw [aaY (by simp)];rename_i k a _ b;have:(if b<a then b else a)=min a b:=by omega
   rw [this];exact ax.lit _
 ·cases h
theorem nr {x:V} {p:Prop} {v:V} {val:Value} {ts:Array Nat} {t t0:Nat} {kd:Kd} (h:If x=some (p,v)) (hk:cX P t0=some kd) (hkd:kd = .string∨kd = .slice) (hts:ts[0]? = some t0) (hd:aL w I β x val)
 (hfit:kd = .string ↔ ∃s,x = .d (.lit (.string s))) : ∃u,(Builtin.len_ ts t #[val]).run P w = .ok u w∧aL w I β v u:=by
 unfold If at h;split at h
 ·injection h with h;injection h with h1 h2;subst h2;have:=aA hd;subst this;have:kd = .string:=hfit.2 ⟨_,rfl⟩;subst this;exact ⟨_,by simp [Builtin.len_,hts,underlying,dE hk];rfl,ax.lit _⟩
 ·injection h with h;injection h with h1 h2;subst h2;have:=aA hd;subst this;rcases hkd with rfl|rfl
  ·obtain ⟨s,hs⟩:=hfit.1 rfl;cases hs
  ·obtain ⟨e,he⟩:=fx hk;exact ⟨_,by simp [Builtin.len_,hts,underlying,he];rfl,ax.lit _⟩
 ·injection h with h;injection h with h1 h2;subst h2;obtain ⟨a,n,c,rfl,rfl,_⟩:=DV hd;rcases hkd with rfl|rfl
  ·obtain ⟨s,hs⟩:=hfit.1 rfl;cases hs
  ·obtain ⟨e,he⟩:=fx hk;exact ⟨_,by simp [Builtin.len_,hts,underlying,he];rfl,ax.lit _⟩
 ·injection h with h;injection h with h1 h2;subst h2;rcases hkd with rfl|rfl
  ·obtain ⟨s,hs⟩:=hfit.1 rfl;cases hs
  ·obtain ⟨e,he⟩:=fx hk;rcases hd with ⟨_,_,rfl,a,rfl⟩|⟨b,cap,c,_,_,_,rfl⟩
   ·exact ⟨_,by simp [Builtin.len_,hts,underlying,he];rfl,ax.lit _⟩
   ·exact ⟨_,by simp [Builtin.len_,hts,underlying,he];rfl,ax.lit _⟩
 ·cases h
end
def lH:V→Option Int
 | .d (.lit (.int _ n))=>some n
 | _=>none
def vc:Option V→Option (Option Int)
 | none=>some none
 | some v=>(lH v).map some
def QN (P:Program) (t:Nat) (x:V) (lo hi mx:Option V):PV:=
 match vc lo,vc hi,vc mx with
 | some lo,some hi,some mx=>match x with
  | .d (.lit (.string s))=>if cX P t=some .string∧mx=none then
   some (0≤lo.getD 0∧lo.getD 0≤hi.getD s.size∧hi.getD s.size≤s.size,.d (.lit (.string (s.extract (lo.getD 0).toNat (hi.getD s.size).toNat)))) else none
  | .d (.sd k f es)=>match oe P t with
   | some (k',_)=>if k=k' then (match lo,hi,mx with
    | none,none,none=>some (True,.d (.sd k f es))
    | some l,none,none=>some (0≤l∧l≤es.length,.d (.sd k f (es.drop l.toNat)))
    | none,some h,none=>some (0≤h∧h≤es.length,.d (.sd k (f&&decide (h=es.length)) (es.take h.toNat)))
    | some l,some h,none=>some (0≤l∧l≤h∧h≤es.length,.d (.sd k (f&&decide (h=es.length)) ((es.take h.toNat).drop l.toNat)))
    | none,some h,some m=>some (0≤h∧h≤m∧m≤es.length,.d (.sd k false (es.take h.toNat)))
    | some l,some h,some m=>some (0≤l∧l≤h∧h≤m∧m≤es.length,.d (.sd k false ((es.take h.toNat).drop l.toNat)))
    | _,none,some _=>none) else none
   | none=>none
  | .so id k l0 n=>match oe P t with
   | some (k',_)=>if k=k'∧mx=none then some (0≤lo.getD 0∧lo.getD 0≤hi.getD n∧hi.getD n≤n∧(lo.getD 0<n∨lo.getD 0=0),.so id k (l0+(lo.getD 0).toNat) ((hi.getD n).toNat - (lo.getD 0).toNat)) else none
   | none=>none
  | _=>none
 | _,_,_=>none
def Qb (P:Program) (t:Nat):Option D:=
 match (P.info? t).bind (·.zero) with
 | some (.agg cs)=>if cs.toList.all (·.oneCell')=true then some (.agg (cs.toList.map .lit)) else none
 | some v=>some (.lit v)
 | none=>none
def S3 (P:Program) (x:V) (asserted:Nat) (ok:Bool):PV:=
 match cX P asserted with
 | none=>none
 | some .iface=>none
 | some _=>match x with
  | .d (.ifc t y)=>if t=asserted then some (True,if ok=true then .tup [.d y,.d (.lit (.bool true))] else .d y)
   else if ok=true then (Qb P asserted).map fun z=>(True,.tup [.d z,.d (.lit (.bool false))]) else none
  | .d (.lit .nilIface)=>if ok=true then (Qb P asserted).map fun z=>(True,.tup [.d z,.d (.lit (.bool false))]) else none
  | _=>none
def gT (P:Program) (t:Nat):Option (List Value × List (Nat × Nat)):=
 match P.info? t,P.underlying t with
 | some it,some (.struct fields)=>
  match it.zero,fields.toList.mapM (fun f=>(P.info? f.type).map fun i=>(f.offset,i.size)) with
  | some z,some places=>if z.cells.toList.all (·.oneCell')=true then some (z.cells.toList,places) else none
  | _,_=>none
 | some it,some (.array n e)=>
  match it.zero,P.info? e with
  | some z,some ie=>if z.cells.toList.all (·.oneCell')=true then some (z.cells.toList,(List.range n).map fun i=>(i*ie.size,ie.size)) else none
  | _,_=>none
 | _,_=>none
def V.cellOk:V→Bool
 | .d (.lit u)=>u.oneCell'
 | .d _=>true
 | .agg _=>true
 | .tup _=>false
 | .fn _ _=>false
 | .unk=>false
 | _=>true
def setAt {α:Type} (cs:List α) (off:Nat) (xs:List α):List α:=cs.take off++xs++cs.drop (off+xs.length)
def wP (places:List (Nat × Nat)):List V→List (Nat × V)→Option (List V)
 | cs,[]=>some cs
 | cs,(i,v)::r=>match places[i]? with
  | some (off,sz)=>if v.cellsV.length=sz∧off+sz≤cs.length∧v.cellOk=true then wP places (setAt cs off v.cellsV) r else none
  | none=>none
def Ra (P:Program) (t:Nat) (parts:List (Nat × V)):PV:=
 match gT P t with
 | some (z,places)=>(wP places (z.map fun v=> .d (.lit v)) parts).map fun cs=>(True,xg cs)
 | none=>none
def Tn (fn:Fn) (first caps:List V):PV:=
 match fn with
 | .func f=>match first with
  | []=>if caps.all V.atom=true then (match ql caps with
   | some ds=>some (True,.d (.fn f ds))
   | none=>some (True,.fn f caps)) else none
  | fs=>(match caps with
   | []=>(ql fs).map fun ds=>(True,.d (.bf f ds))
   | _=>none)
 | _=>none
section
variable {P:Program} {w:World} {I:Nat→Prop} {β:co}
theorem kn {v:V} {n:Int} {x:Value} (h:lH v=some n) (hd:aL w I β v x) : ∃k,x = .int k n:=by
 unfold lH at h;split at h
 ·injection h with h;subst h;exact ⟨_,aA hd⟩
 ·cases h
def Fw (o:Option Int) (x:Option Value):Prop:=match o,x with
 | none,none=>True
 | some n,some v=> ∃k,v = .int k n
 | _,_=>False
def TA (w:World) (I:Nat→Prop) (β:co) (o:Option V) (x:Option Value):Prop:=match o,x with
 | none,none=>True
 | some v,some x=>aL w I β v x
 | _,_=>False
theorem sW {v:Option V} {o:Option Int} {x:Option Value} (h:vc v=some o) (hx:TA w I β v x):Fw o x:=by
 cases v with
 | none=>simp [vc] at h;subst h;cases x<;>first|trivial|exact hx.elim
 | some v=>
  simp only [vc,aaZ] at h;obtain ⟨n,hn,rfl⟩:=h;cases x with
  | none=>exact hx.elim
  | some x=>exact kn hn hx
theorem gM (sl:Bool) (len cap:Nat) {lo hi mx:Option Int} {vl vh vm:Option Value} (h1:Fw lo vl) (h2:Fw hi vh) (h3:Fw mx vm) (hm:mx=none∨hi≠none)
 (l0:0≤lo.getD 0) (l1:lo.getD 0≤hi.getD len) (l2:hi.getD len≤mx.getD cap) (l3:mx.getD cap≤cap) :
 (Instr.sliceBounds sl len cap vl vh vm).run P w = .ok ((lo.getD 0).toNat,(hi.getD len).toNat,(mx.getD cap).toNat) w:=by
 unfold Instr.sliceBounds;cases mx with
 | none=>
  cases vm with
  | some _=>exact h3.elim
  | none=>
   cases hi with
   | none=>
    cases vh with
    | some _=>exact h2.elim
    | none=>
     cases lo with
     | none=>cases vl<;>first|exact h1.elim|simp
     | some l=>
      cases vl with
      | none=>exact h1.elim
      | some v=>
       obtain ⟨k,rfl⟩:=h1;simp at l0 l1;have hl:l≤(len:Int):=l1;simp [Instr.sliceBound,asIntOf,l0,hl]
   | some h=>
    cases vh with
    | none=>exact h2.elim
    | some v2=>
     obtain ⟨k2,rfl⟩:=h2;simp at l0 l1 l2;have hh0:0≤h:=by omega
     cases lo with
     | none=>cases vl<;>first|exact h1.elim|simp [Instr.sliceBound,asIntOf,hh0,l2]
     | some l=>
      cases vl with
      | none=>exact h1.elim
      | some v=>
       obtain ⟨k,rfl⟩:=h1;simp at l0 l1;have:l≤max h 0:=by omega
       simp [Instr.sliceBound,asIntOf,hh0,l2,l0,this]
 | some m=>
  cases vm with
  | none=>exact h3.elim
  | some v3=>
   obtain ⟨k3,rfl⟩:=h3;cases hi with
   | none=>rcases hm with hm|hm;cases hm;exact absurd rfl hm
   | some h=>
    cases vh with
    | none=>exact h2.elim
    | some v2=>
     obtain ⟨k2,rfl⟩:=h2;simp at l0 l1 l2 l3;have hh0:0≤h:=by omega
     have hm0:0≤m:=by omega
     have hhm:h≤max m 0:=by omega
     cases lo with
     | none=>cases vl<;>first|exact h1.elim|simp [Instr.sliceBound,asIntOf,hh0,l3,hm0,hhm]
     | some l=>
      cases vl with
      | none=>exact h1.elim
      | some v=>
       obtain ⟨k,rfl⟩:=h1;simp at l0 l1;have:l≤max h 0:=by omega
       simp [Instr.sliceBound,asIntOf,hh0,l3,hm0,hhm,l0,this]
theorem ax.piece {k:Nat} {f f':Bool} {es:List D} {b o cap:Nat} (h:ax w I (.sd k f es) (.slice (some ⟨b,o,none⟩) es.length cap)) (hIb:I b) (l hh m:Nat) (h1:l≤hh) (h2:hh≤es.length) (h3:hh≤m) (hf:f'=true→m=hh) :
 ax w I (.sd k f' ((es.take hh).drop l)) (.slice (if m=l then some ⟨b,o,none⟩ else some ⟨b,o+l*k,none⟩) (hh - l) (m - l)):=by
 generalize hv:Value.slice (some ⟨b,o,none⟩) es.length cap=v at h;cases h with
 | sd _ _ _ b' o' cap' val hI hk hc ho hd hcap hfull=>
  injection hv with e1 e2 e3;injection e1 with e1;injection e1 with e1 e4;subst e1;subst e4;have hlen:((es.take hh).drop l).length=hh - l:=by simp;omega
  have key : ∀(i:Nat) e,((es.take hh).drop l)[i]? = some e→es[i+l]? = some e:=by
   intro i e hi;simp only [abJ,abW] at hi;split at hi
   ·rw [Nat.add_comm];exact hi
   ·cases hi
  by_cases hml:m=l
  ·rw [aa3 hml];have hz:(es.take hh).drop l=[]:=abu (by omega);rw [hz];have e0:hh - l=([]:List D).length:=by simp;omega
   rw [e0];exact ax.sd k f' [] b o (m - l) val hI (by simp) (by simp) (by simp) (by simp) (by simp) (by simp;omega)
  ·rw [aaY hml,←hlen];refine ax.sd k f' _ b (o+l*k) (m - l) (fun i j=>val (i+l) j) hI (fun i e hi=>hk _ e (key i e hi)) (fun i e j c hi hj =>?_) (fun i e j c hi hj=>ho _ e j c (key i e hi) hj) (fun i e j c hi hj=>hd _ e j c (key i e hi) hj) (by omega) (fun hft=>by have:=hf hft;omega);have:=hc _ e j c (key i e hi) hj;rw [abV] at this;rw [show o+l*k+i*k+j=o+(i*k+l*k)+j from by omega];exact this
 | sd0=>
  have hh0:hh=0:=by simpa using h2
  have hl0:l=0:=by omega
  subst hh0;subst hl0;have mk : ∀o',ax w I (.sd k f' []) (.slice (some ⟨b,o',none⟩) 0 m):=fun o'=>
   ax.sd k f' [] b o' m (fun _ _=>undef) hIb (by simp) (by simp) (by simp) (by simp) (by simp) (fun hft=>by simpa using hf hft)
  simp only [adY,List.drop_nil,ad5];split
  ·exact mk _
  ·exact mk _
theorem Py {t:Nat} {x:V} {lo hi mx:Option V} {p:Prop} {v:V} {val:Value} {vl vh vm:Option Value} (h:QN P t x lo hi mx=some (p,v)) (hp:p) (hd:aL w I β x val)
 (hl:TA w I β lo vl) (hh:TA w I β hi vh) (hm:TA w I β mx vm) :
 ∃u,(Instr.sliceAt t val vl vh vm).run P w = .ok u w∧aL w I β v u:=by
 unfold QN at h;split at h
 ·rename_i lo' hi' mx' e1 e2 e3;have b1:=sW e1 hl;have b2:=sW e2 hh;have b3:=sW e3 hm;split at h
  ·rename_i s;split at h
   ·rename_i hc;obtain ⟨hk,rfl⟩:=hc;injection h with h;injection h with h1 h2;subst h1;subst h2;have:=aA hd;subst this;have hu:=dE hk;have hvm:vm=none:=by cases vm with|none=>rfl|some _=>exact b3.elim
    subst hvm;have:=gM (P:=P) (w:=w) false s.size s.size b1 b2 (mx:=none) (vm:=none) trivial (.inl rfl) hp.1 hp.2.1 hp.2.2 (abN _);exact ⟨_,by simp [Instr.sliceAt,Instr.slice,underlying,hu,this],ax.lit _⟩
   ·cases h
  ·rename_i k f es;split at h
   ·rename_i k' ag hs;split at h
    ·rename_i hk;subst hk;obtain ⟨e,hu,hle⟩:=nU hs;have hd':ax w I _ val:=hd;have main : ∀(f':Bool) (hmx:mx'=none∨hi'≠none) (l0:0≤lo'.getD 0) (l1:lo'.getD 0≤hi'.getD es.length) (l2:hi'.getD es.length≤es.length) (l3 : ∀m,mx'=some m→hi'.getD es.length≤m∧m≤es.length)
      (hf:f'=true→(mx'=none→f=true∧hi'.getD es.length=es.length)∧(∀m,mx'=some m→m=hi'.getD es.length)),
      ∃u,(Instr.sliceAt t val vl vh vm).run P w = .ok u w∧ax w I (.sd k f' ((es.take (hi'.getD es.length).toNat).drop (lo'.getD 0).toNat)) u:=by
      intro f' hmx l0 l1 l2 l3 hf;cases hd' with
      | sd0 _ _ a0=>
       have hh0:hi'.getD 0=0:=by simp at l1 l2;omega
       have hl0:lo'.getD 0=0:=by simp at l1 l2;omega
       have hm0:mx'.getD 0=0:=by
        cases mx' with
        | none=>rfl
        | some m=>have:=l3 m rfl;simp at this hh0 ⊢;omega
       have:=gM (P:=P) (w:=w) true 0 0 b1 b2 b3 hmx (by omega) (by simp [hh0,hl0]) (by simp [hh0,hm0]) (by simp [hm0]);refine ⟨.slice a0 0 0,?_,by simpa using ax.sd0 k f' a0⟩;simp [Instr.sliceAt,Instr.slice,underlying,hu,this,cx hle,hh0,hm0,hl0]
      | sd _ _ _ b o cap val' hI hk hc ho hdd hcap hfull=>
       have hmm:(mx'.getD cap)≤cap∧hi'.getD es.length≤mx'.getD cap:=by
        cases mx' with
        | none=>simp;omega
        | some m=>have:=l3 m rfl;simp;omega
       have:=gM (P:=P) (w:=w) true es.length cap b1 b2 b3 hmx l0 l1 hmm.2 hmm.1;refine ⟨.slice (if (mx'.getD cap).toNat=(lo'.getD 0).toNat then some ⟨b,o,none⟩ else some ⟨b,o+(lo'.getD 0).toNat*k,none⟩) ((hi'.getD es.length).toNat - (lo'.getD 0).toNat) ((mx'.getD cap).toNat - (lo'.getD 0).toNat),?_,?_⟩
       ·simp only [Instr.sliceAt,Instr.slice,underlying,Sem.run_bind,run_program,Result.andThen,hu,this,cx hle,Sem.run_pure];split<;>simp [dP]
       ·refine ax.piece (ax.sd k f es b o cap val' hI hk hc ho hdd hcap hfull) hI _ _ _ (by omega) (by omega) (by omega) (fun hft =>?_);obtain ⟨g1,g2⟩:=hf hft;cases mx' with
        | none=>
         obtain ⟨g3,g4⟩:=g1 rfl;have:=hfull g3;simp;omega
        | some m=>have:=g2 m rfl;simp at this ⊢;omega
     match lo',hi',mx',h with
     | none,none,none,h=>
      injection h with h;injection h with h1 h2;subst h2;obtain ⟨u,g1,g2⟩:=main f (.inl rfl) (by simp) (by simp) (by simp) (by simp) (fun hf=>⟨fun _=>⟨hf,rfl⟩,by simp⟩);exact ⟨u,g1,by show ax w I _ u;simpa using g2⟩
     | some l,none,none,h=>
      injection h with h;injection h with h1 h2;subst h1;subst h2;obtain ⟨u,g1,g2⟩:=main f (.inl rfl) hp.1 (by simpa using hp.2) (by simp) (by simp) (fun hf=>⟨fun _=>⟨hf,rfl⟩,by simp⟩);exact ⟨u,g1,by show ax w I _ u;simpa using g2⟩
     | none,some hh,none,h=>
      injection h with h;injection h with h1 h2;subst h1;subst h2;obtain ⟨u,g1,g2⟩:=main _ (.inl rfl) (by simp) (by simpa using hp.1) (by simpa using hp.2) (by simp) (fun hf=>⟨fun _=>⟨(ac8.1 hf).1,acO (ac8.1 hf).2⟩,by simp⟩);exact ⟨u,g1,by show ax w I _ u;simpa using g2⟩
     | some l,some hh,none,h=>
      injection h with h;injection h with h1 h2;subst h1;subst h2;obtain ⟨u,g1,g2⟩:=main _ (.inl rfl) hp.1 (by simpa using hp.2.1) (by simpa using hp.2.2) (by simp) (fun hf=>⟨fun _=>⟨(ac8.1 hf).1,acO (ac8.1 hf).2⟩,by simp⟩);exact ⟨u,g1,g2⟩
     | none,some hh,some m,h=>
      injection h with h;injection h with h1 h2;subst h1;subst h2;obtain ⟨u,g1,g2⟩:=main false (.inr (by simp)) (by simp) (by simpa using hp.1) (by simp;omega) (fun m' hm'=>by injection hm' with hm';subst hm';simp;omega) (fun hf=>by cases hf);exact ⟨u,g1,by show ax w I _ u;simpa using g2⟩
     | some l,some hh,some m,h=>
      injection h with h;injection h with h1 h2;subst h1;subst h2;obtain ⟨u,g1,g2⟩:=main false (.inr (by simp)) hp.1 (by simpa using hp.2.1) (by simp;omega) (fun m' hm'=>by injection hm' with hm';subst hm';simp;omega) (fun hf=>by cases hf);exact ⟨u,g1,g2⟩
     | none,none,some m,h=>cases h
     | some l,none,some m,h=>cases h
    ·cases h
   ·cases h
  ·rename_i id k l0 n;split at h
   ·rename_i k' ag hs;split at h
    ·rename_i hk;obtain ⟨rfl,rfl⟩:=hk;injection h with h;injection h with h1 h2;subst h1;subst h2;obtain ⟨e,hu,hle⟩:=nU hs;obtain ⟨q1,q2,q3,q4⟩:=hp;rcases hd with ⟨hb,g1,g2,a0,rfl⟩|⟨b,cap,c,hb,g1,g2,rfl⟩
     ·subst g1;subst g2;have hh0:hi'.getD 0=0:=by simp at q2 q3 q1 ⊢;omega
      have hl0:lo'.getD 0=0:=by simp at q2 q3 q1 ⊢;omega
      have:=gM (P:=P) (w:=w) true 0 0 b1 b2 b3 (.inl rfl) (by omega) (by simp [hh0,hl0]) (by simp [hh0]) (by simp);refine ⟨.slice a0 0 0,?_,.inl ⟨hb,by simp [hl0],by simp [hh0,hl0],a0,rfl⟩⟩;simp [Instr.sliceAt,Instr.slice,underlying,hu,this,cx hle,hh0,hl0]
     ·have:=gM (P:=P) (w:=w) true n c b1 b2 b3 (.inl rfl) q1 q2 (by simp;omega) (by simp);refine ⟨.slice (some ⟨b,(l0+(lo'.getD 0).toNat)*k,none⟩) ((hi'.getD n).toNat - (lo'.getD 0).toNat) (c - (lo'.getD 0).toNat),?_,.inr ⟨b,cap,_,hb,?_,?_,rfl⟩⟩
      ·simp only [Instr.sliceAt,Instr.slice,underlying,Sem.run_bind,run_program,Result.andThen,hu,this,cx hle,Sem.run_pure,Option.getD_none];rw [abV];split
       ·rename_i hcl;have h0:(lo'.getD 0).toNat=0:=by
         have:((c:Int).toNat)=c:=by simp
         omega
        simp [h0]
       ·simp [dP]
      ·omega
      ·omega
    ·cases h
   ·cases h
  ·cases h
 ·cases h
theorem qZ {t:Nat} {z:D} (h:Qb P t=some z) : ∃v,(zeroValue t).run P w = .ok v w∧ax w I z v:=by
 unfold Qb at h;cases hi:P.info? t with
 | none=>simp [hi] at h
 | some i=>
  simp only [hi,Option.bind_some] at h;split at h
  ·rename_i cs hz;split at h
   ·rename_i hall;injection h with h;subst h;refine ⟨.agg cs,by simp [zeroValue,typeInfo,hi,hz],?_⟩;have e:(Value.agg cs)=Value.agg cs.toList.toArray:=by simp
    rw [e];refine ax.agg _ _ (by simp) (fun v hv=>abF.1 hall v hv) (fun i c v hc hv =>?_);simp only [abp,aaZ] at hc;obtain ⟨x,hx,rfl⟩:=hc;rw [hx] at hv;injection hv with hv;subst hv;exact ax.lit _
   ·cases h
  ·rename_i v hz hn;injection h with h;subst h;exact ⟨v,by simp [zeroValue,typeInfo,hi,hn],ax.lit _⟩
  ·cases h
theorem Fm {x y:V} {a b:Value} (hx:cg w I β x a) (hy:cg w I β y b):aL w I β (.tup [x,y]) (.tuple #[a,b]):=by
 refine ⟨[a,b],rfl,rfl,fun i c v hc hv =>?_⟩;match i,hc,hv with
 | 0,hc,hv=>simp at hc hv;subst hc;subst hv;exact hx
 | 1,hc,hv=>simp at hc hv;subst hc;subst hv;exact hy
theorem PJ {x:V} {asserted xT:Nat} {ok:Bool} {p:Prop} {v:V} {val:Value} (h:S3 P x asserted ok=some (p,v)) (hd:aL w I β x val) :
 ∃u,(Instr.typeAssert val xT asserted ok).run P w = .ok u w∧aL w I β v u:=by
 unfold S3 at h;split at h
 ·cases h
 ·cases h
 ·rename_i kd hn hk;obtain ⟨d0,h0⟩:=sK hk;have hni : ∀ms,d0 ≠ .interface ms:=by
   intro ms e;subst e;simp [cX,h0] at hk;exact hn hk.symm
  split at h
  ·rename_i t y;obtain ⟨u,rfl,hu⟩:=m7 hd;split at h
   ·rename_i ht;subst ht;injection h with h;injection h with h1 h2;subst h2;cases ok with
    | true=>
     refine ⟨.tuple #[u,.bool true],?_,by rw [aa3 rfl];exact Fm hu (ax.lit _)⟩;simp only [Instr.typeAssert,underlying,Sem.run_bind,run_program,Result.andThen,h0];cases d0<;>first|rfl|(exact absurd rfl (hni _))|simp
    | false=>
     refine ⟨u,?_,by rw [aaY (by simp)];exact hu⟩;simp only [Instr.typeAssert,underlying,Sem.run_bind,run_program,Result.andThen,h0];cases d0<;>first|rfl|(exact absurd rfl (hni _))|simp
   ·rename_i ht;split at h
    ·rename_i hok;subst hok;simp only [aaZ] at h;obtain ⟨z,hz,hh⟩:=h;injection hh with _ hh;subst hh;obtain ⟨zv,hzv,hzd⟩:=qZ (w:=w) (I:=I) hz;refine ⟨.tuple #[zv,.bool false],?_,Fm hzd (ax.lit _)⟩;simp only [Instr.typeAssert,underlying,Sem.run_bind,run_program,Result.andThen,h0];cases d0<;>first|(exact absurd rfl (hni _))|simp [ht,hzv]
    ·cases h
  ·have:=aA hd;subst this;split at h
   ·rename_i hok;subst hok;simp only [aaZ] at h;obtain ⟨z,hz,hh⟩:=h;injection hh with _ hh;subst hh;obtain ⟨zv,hzv,hzd⟩:=qZ (w:=w) (I:=I) hz;refine ⟨.tuple #[zv,.bool false],?_,Fm hzd (ax.lit _)⟩;simp only [Instr.typeAssert,underlying,Sem.run_bind,run_program,Result.andThen,h0];cases d0<;>first|(exact absurd rfl (hni _))|simp [hzv]
   ·cases h
  ·cases h
theorem di {x:V} {a:Value} (h:cg w I β x a):bY w I β [x] [a]:=by
 refine ⟨rfl,fun i c v hc hv =>?_⟩;match i,hc,hv with
 | 0,hc,hv=>simp at hc hv;subst hc;subst hv;exact h
theorem l5 {v:V} {x:Value} (hd:aL w I β v x) (ha:v.cellOk=true):bY w I β v.cellsV x.cells.toList ∧ ∀y∈x.cells.toList,y.oneCell'=true:=by
 cases v with
 | d y=>
  cases y with
  | agg cs=>
   obtain ⟨vs,rfl,hl,ho,h⟩:=jm hd;exact ⟨by simpa [V.cellsV,D.cells,Value.cells] using jl hl h,by simpa [Value.cells] using ho⟩
  | lit u=>
   have:=aA hd;subst this;have ho:x.oneCell'=true:=ha;have e:x.cells = #[x]:=by cases x<;>first|rfl|(simp [Value.oneCell'] at ho)
   rw [e];exact ⟨di (ax.lit _),by simpa using ho⟩
  | sd k f es=>
   obtain ⟨a,n,c,rfl,_⟩:=DV hd;exact ⟨di hd,by simp [Value.cells,Value.oneCell']⟩
  | pd k es i j=>
   obtain ⟨a,rfl⟩:=jn hd;exact ⟨di hd,by simp [Value.cells,Value.oneCell']⟩
  | fn f cs=>
   obtain ⟨a,rfl,_⟩:=m6 hd;exact ⟨di hd,by simp [Value.cells,Value.oneCell']⟩
  | ifc t y=>
   obtain ⟨a,rfl,_⟩:=m7 hd;exact ⟨di hd,by simp [Value.cells,Value.oneCell']⟩
  | bf f cs=>
   obtain ⟨a,rfl,_⟩:=DU hd;exact ⟨di hd,by simp [Value.cells,Value.oneCell']⟩
  | ne k=>
   obtain ⟨a,c,rfl⟩:=yy hd;exact ⟨di hd,by simp [Value.cells,Value.oneCell']⟩
 | so id k lo n=>
  have h':cg w I β (.so id k lo n) x:=hd;rcases hd with ⟨_,_,_,a,rfl⟩|⟨b,cap,c,_,_,_,rfl⟩
  ·exact ⟨di h',by simp [Value.cells,Value.oneCell']⟩
  ·exact ⟨di h',by simp [Value.cells,Value.oneCell']⟩
 | po id o=>
  obtain ⟨a,rfl⟩:=jp hd;exact ⟨di hd,by simp [Value.cells,Value.oneCell']⟩
 | pe id k i j=>
  obtain ⟨a,rfl⟩:=jo hd;exact ⟨di hd,by simp [Value.cells,Value.oneCell']⟩
 | mo id=>
  have h':cg w I β (.mo id) x:=hd;obtain ⟨b,c,_,rfl⟩:=hd;exact ⟨di h',by simp [Value.cells,Value.oneCell']⟩
 | it id=>
  have h':cg w I β (.it id) x:=hd;obtain ⟨b,c,_,rfl⟩:=hd;exact ⟨di h',by simp [Value.cells,Value.oneCell']⟩
 | yl id=>
  have h':cg w I β (.yl id) x:=hd;obtain ⟨b,c,_,rfl⟩:=hd;exact ⟨di h',by simp [Value.cells,Value.oneCell']⟩
 | agg cs=>
  obtain ⟨vs,rfl,ho,h⟩:=hd;exact ⟨by simpa [V.cellsV,Value.cells] using h,by simpa [Value.cells] using ho⟩
 | unk=>simp [V.cellOk] at ha
 | tup=>simp [V.cellOk] at ha
 | fn=>simp [V.cellOk] at ha
theorem dG {α:Type} {cs xs:List α} {off:Nat} (h:off+xs.length≤cs.length):(setAt cs off xs).length=cs.length:=by
 unfold setAt;simp;omega
theorem bx {α:Type} {cs xs:List α} {off:Nat} (h:off+xs.length≤cs.length) (i:Nat):(setAt cs off xs)[i]? = if i<off then cs[i]? else if i<off+xs.length then xs[i - off]? else cs[i]? :=by
 unfold setAt;by_cases h1:i<off
 ·rw [aa3 h1,aba,ab3 (by simp;omega),abW,aa3 h1]
 ·rw [aaY h1,aba,abZ (by simp;omega)];have hl:(cs.take off).length=off:=by simp;omega
  rw [hl];by_cases h2:i<off+xs.length
  ·rw [aa3 h2,ab3 (by omega)]
  ·rw [aaY h2,abZ (by omega),abJ];congr 1;omega
theorem bY.setAt {cs xs:List V} {vs us:List Value} {off:Nat} (h:bY w I β cs vs) (k:bY w I β xs us) (hl:off+xs.length≤cs.length):bY w I β (setAt cs off xs) (setAt vs off us):=by
 have hl2:off+us.length≤vs.length:=by rw [←k.1,←h.1];exact hl
 refine ⟨by rw [dG hl,dG hl2,h.1],fun i c v hc hv =>?_⟩;rw [bx hl] at hc;rw [bx hl2] at hv;split at hc
 ·rename_i h1;rw [aa3 h1] at hv;exact h.2 i c v hc hv
 ·rename_i h1;rw [aaY h1] at hv;split at hc
  ·rename_i h2;rw [aa3 (by rw [←k.1];exact h2)] at hv;exact k.2 _ c v hc hv
  ·rename_i h2;rw [aaY (by rw [←k.1];exact h2)] at hv;exact h.2 i c v hc hv
theorem Is {α:Type} {cs xs:List α} {off:Nat} {x:α} (h:x∈setAt cs off xs):x∈cs∨x∈xs:=by
 unfold setAt at h;rcases abe.1 h with h|h
 ·rcases abe.1 h with h|h
  ·exact .inl (abm h)
  ·exact .inr h
 ·exact .inl (abU h)
theorem su {α:Type} : ∀(xs:List α) (off i:Nat) (cs:Array α),off+i+xs.length≤cs.size→((xs.zipIdx i).foldl (fun cs (p:α × Nat)=>cs.setIfInBounds (off+p.2) p.1) cs).toList=Go.Proofs.YtkkanlcjjpoklaaGreatDoor.setAt cs.toList (off+i) xs
 | [],off,i,cs,h=>by simp [Go.Proofs.YtkkanlcjjpoklaaGreatDoor.setAt]
 | x::xs,off,i,cs,h=>by
  have hh:off+i+(xs.length+1)≤cs.size:=by simpa using h
  rw [List.zipIdx_cons,acE,su xs off (i+1) _ (by simp;omega)];apply adp;intro j;rw [bx (cs:=cs.toList) (xs:=x::xs) (off:=off+i) (by simpa using hh),bx (by simp;omega)];simp only [adM,adq,aa6];by_cases h1:j<off+i
  ·rw [aa3 (by omega),aa3 h1,aaY (by omega)]
  ·rw [aaY h1];by_cases h2:j=off+i
   ·subst h2;have h4:off+i<off+(i+1):=by omega
    have h5:off+i<cs.size:=by omega
    have h6:off+i<off+i+(xs.length+1):=by omega
    rw [aa3 h4,aa3 h6];simp [h5]
   ·rw [aaY (by omega)];by_cases h3:j<off+i+(xs.length+1)
    ·rw [aa3 (by omega),aa3 h3];have:j - (off+i)=(j - (off+(i+1)))+1:=by omega
     rw [this];rfl
    ·rw [aaY (by omega),aaY h3,aaY (by omega)]
theorem sk {places:List (Nat × Nat)} {place:Nat→Option (Nat × Nat)} (hpl : ∀i x,places[i]? = some x→place i=some x) : ∀(parts:List (Nat × V)) (vals:List (Nat × Value)) (cs:List V) (cells:Array Value) (out:List V),
 wP places cs parts=some out→parts.length=vals.length→(∀(j:Nat) i v i' x,parts[j]? = some (i,v)→vals[j]? = some (i',x)→i=i'∧aL w I β v x)→bY w I β cs cells.toList→(∀y∈cells.toList,y.oneCell'=true) →
 ∃res:Array Value,Instr.fill place cells vals=some res∧bY w I β out res.toList ∧ ∀y∈res.toList,y.oneCell'=true
 | [],[],cs,cells,out,h,_,_,hd,ho=>by
  simp [wP] at h;subst h;exact ⟨cells,rfl,hd,ho⟩
 | [],_::_,_,_,_,_,hl,_,_,_=>by simp at hl
 | _::_,[],_,_,_,_,hl,_,_,_=>by simp at hl
 | (i,v)::parts,(i',x)::vals,cs,cells,out,h,hl,hds,hd,ho=>by
  obtain ⟨rfl,hv⟩:=hds 0 i v i' x rfl rfl;unfold wP at h;split at h
  ·rename_i off sz hp;split at h
   ·rename_i hc;obtain ⟨c1,c2,c3⟩:=hc;obtain ⟨g1,g2⟩:=l5 hv c3;have hsz:x.cells.size=sz:=by have:=g1.1;simp at this;omega
    have hcs:cs.length=cells.size:=by have:=hd.1;simpa using this
    have hle:off+0+x.cells.toList.length≤cells.size:=by simp;omega
    have hf:=su x.cells.toList off 0 cells hle;obtain ⟨res,r1,r2,r3⟩:=sk hpl parts vals (Go.Proofs.YtkkanlcjjpoklaaGreatDoor.setAt cs off v.cellsV) (Go.Proofs.YtkkanlcjjpoklaaGreatDoor.setAt cells.toList off x.cells.toList).toArray out h (by simpa using hl)
     (fun j a b a' b' e1 e2=>hds (j+1) a b a' b' (by simpa using e1) (by simpa using e2)) (by simpa using bY.setAt hd g1 (by omega)) (by
      intro y hy;rcases Is (by simpa using hy) with hy|hy
      ·exact ho y (by simpa using hy)
      ·exact g2 y (by simpa using hy))
    refine ⟨res,?_,r2,r3⟩;unfold Instr.fill;rw [hpl i _ hp];simp only [];rw [aaY (by simp;omega)];have e:Array.foldl (fun cs (p:Value × Nat)=>cs.setIfInBounds (off+p.2) p.1) cells x.cells.zipIdx=(Go.Proofs.YtkkanlcjjpoklaaGreatDoor.setAt cells.toList off x.cells.toList).toArray:=by
     apply abx.1;rw [←adK,Array.toList_zipIdx];simpa using hf
    rw [e];exact r1
   ·cases h
  ·cases h
theorem rT : ∀(vs:List Value),bY w I β (vs.map fun v=> .d (.lit v)) vs:=fun vs=>by
 refine ⟨by simp,fun i c v hc hv =>?_⟩;simp only [abp,aaZ] at hc;obtain ⟨x,hx,rfl⟩:=hc;rw [hx] at hv;injection hv with hv;subst hv;exact ax.lit _
theorem NN {t:Nat} {parts:List (Nat × V)} {vals:List (Nat × Value)} {p:Prop} {v:V} (h:Ra P t parts=some (p,v)) (hl:parts.length=vals.length)
 (hd : ∀(j:Nat) i v i' x,parts[j]? = some (i,v)→vals[j]? = some (i',x)→i=i'∧aL w I β v x) : ∃u,(Instr.build t vals.toArray).run P w = .ok u w∧aL w I β v u:=by
 unfold Ra at h;split at h
 ·rename_i z places hb;simp only [aaZ] at h;obtain ⟨cs,hf,hh⟩:=h;injection hh with _ hh;subst hh;unfold gT at hb;split at hb
  ·rename_i it fields h1 h2;split at hb
   ·rename_i z0 pl h3 h4;split at hb
    ·rename_i hone;injection hb with hb;injection hb with e1 e2;subst e1;subst e2;obtain ⟨res,r1,r2,r3⟩:=sk (place:=fun i=>pl.toArray[i]?) (fun i x hx=>by simpa using hx) parts vals _ z0.cells cs hf hl hd (rT _) (fun y hy=>abF.1 hone y hy);refine ⟨.agg res,run_build w t _ res ?_,by have:=iM r2 r3;simpa using this⟩;simp only [Program.built,h1,h2,h3,h4];exact r1
    ·cases hb
   ·cases hb
  ·rename_i it n e h1 h2;split at hb
   ·rename_i z0 ie h3 h4;split at hb
    ·rename_i hone;injection hb with hb;injection hb with e1 e2;subst e1;subst e2;obtain ⟨res,r1,r2,r3⟩:=sk (place:=fun i=>some (i*ie.size,ie.size)) (fun i x hx=>by
      simp only [abp,aaZ] at hx;obtain ⟨y,hy,rfl⟩:=hx;have:=aaX.1 hy;obtain ⟨_,rfl⟩:=this;simp) parts vals _ z0.cells cs hf hl hd (rT _) (fun y hy=>abF.1 hone y hy)
     refine ⟨.agg res,run_build w t _ res ?_,by have:=iM r2 r3;simpa using this⟩;simp only [Program.built,h1,h2,h3,h4];exact r1
    ·cases hb
   ·cases hb
  ·cases hb
 ·cases h
theorem OY {fn:Fn} {first caps:List V} {p:Prop} {v:V} {fvals vals:List Value} (h:Tn fn first caps=some (p,v)) (hl:caps.length=vals.length)
 (hd : ∀(i:Nat) c x,caps[i]? = some c→vals[i]? = some x→aL w I β c x) (hfl:first.length=fvals.length) (hfd : ∀(i:Nat) c x,first[i]? = some c→fvals[i]? = some x→aL w I β c x) :
 ∃u,(Instr.makeFunc fn fvals.toArray vals.toArray).run P w = .ok u w∧aL w I β v u:=by
 unfold Tn at h;split at h
 ·rename_i f;split at h
  ·have hf:fvals=[]:=by cases fvals with
    | nil=>rfl
    | cons=>simp at hfl
   subst hf;split at h
   ·rename_i hc;have hda:bY w I β caps vals:=⟨hl,fun i c x hci hx=>aL.atomA (abF.1 hc c (aa0 hci)) (hd i c x hci hx)⟩
    split at h
    ·rename_i ds hds;injection h with h;injection h with h1 h2;subst h2;have:=gj hds;subst this;refine ⟨.func (.func f) #[] vals.toArray,rfl,ax.fn f ds vals (by simpa using hl) (fun i c x hci hx =>?_)⟩;exact hda.2 i (.d c) x (by simp [hci]) hx
    ·injection h with h;injection h with h1 h2;subst h2;exact ⟨.func (.func f) #[] vals.toArray,rfl,vals,rfl,hda⟩
   ·cases h
  ·split at h
   ·have hf:vals=[]:=by cases vals with
     | nil=>rfl
     | cons=>simp at hl
    subst hf;simp only [aaZ] at h;obtain ⟨ds,hds,e⟩:=h;injection e with h1 h2;subst h2;have:=gj hds;subst this;exact ⟨.func (.func f) fvals.toArray #[],rfl,ax.bf f ds fvals (by simpa using hfl) (fun i c x hci hx=>hfd i (.d c) x (by simp [hci]) hx)⟩
   ·cases h
 ·cases h
end
def oh (β:co) (id:Nat) (x:Option (Nat × Nat)):co:=fun j=>if j=id then some x else β j
theorem aX (β:co) (id:Nat) (x:Option (Nat × Nat)):oh β id x id=some x:=by simp [oh]
theorem aP {β:co} {id j:Nat} {x:Option (Nat × Nat)} (h:j≠id):oh β id x j=β j:=by simp [oh,h]
theorem ii {β:co} {id:Nat} {x:Option (Nat × Nat)} (h:β id=none) : ∀j y,β j=some y→oh β id x j=some y:=by
 intro j y hj;by_cases e:j=id
 ·subst e;rw [h] at hj;cases hj
 ·rw [aP e];exact hj
section
variable {w w':World} {I I':Nat→Prop} {β β':co} {σ σ':ak} {nx:Nat}
theorem jS.keep {id:Nat} {blk:bN} (h:jS w I β id blk) (hb : ∀b,(I b ∨ ∃c,β id=some (some (b,c)))→w'.heap[b]? = w.heap[b]?) (hI : ∀b,I b→I' b) (hn : ∀b c,β id=some (some (b,c)) → ¬I' b)
 (hβ : ∀j y,β j=some y→β' j=some y):jS w' I' β' id blk:=by
 have hbI : ∀b,I b→w'.heap[b]? = w.heap[b]? :=fun b hi=>hb b (.inl hi)
 cases blk with
 | cell cs ty=>
  obtain ⟨b,cap,cur,t,h1,h2,h3,h4⟩:=h;refine ⟨b,cap,cur,t,hβ _ _ h1,(hb b (.inr ⟨cap,h1⟩)).trans h2,hn b cap h1,fun i c hi =>?_⟩;obtain ⟨v,hv,ho,hd⟩:=h4 i c hi;exact ⟨v,hv,ho,hd.keep hbI hI hβ⟩
 | row k es ty=>
  rcases h with ⟨h1,h2⟩|⟨b,cap,cur,t,h1,h2,h3,h4,h5,h6⟩
  ·exact .inl ⟨hβ _ _ h1,h2⟩
  ·refine .inr ⟨b,cap,cur,t,hβ _ _ h1,(hb b (.inr ⟨cap,h1⟩)).trans h2,hn b cap h1,h4,h5,fun i e hi=>⟨(h6 i e hi).1,fun j c hj =>?_⟩⟩;obtain ⟨v,hv,ho,hd⟩:=(h6 i e hi).2 j c hj;exact ⟨v,hv,ho,hd.keep hbI hI⟩
 | map es=>
  obtain ⟨b,cap,ents,clock,h1,h2,h3,h4,h5⟩:=h;refine ⟨b,cap,ents,clock,hβ _ _ h1,(hb b (.inr ⟨cap,h1⟩)).trans h2,hn b cap h1,h4,fun i k x hi =>?_⟩;obtain ⟨m,hm,he,hd⟩:=h5 i k x hi;exact ⟨m,hm,he,hd.keep hbI hI⟩
 | iter s pos=>
  obtain ⟨b,cap,h1,h2,h3⟩:=h;exact ⟨b,cap,hβ _ _ h1,(hb b (.inr ⟨cap,h1⟩)).trans h2,hn b cap h1⟩
 | rc y j e=>
  obtain ⟨b,cap,r,h1,h2,h3,h4,h5⟩:=h;exact ⟨b,cap,r,hβ _ _ h1,(hb b (.inr ⟨cap,h1⟩)).trans h2,hn b cap h1,h4,fun t=>(h5 t).keep hbI hI hβ⟩
theorem jS.bound {id:Nat} {blk:bN} (h:jS w I β id blk) : ∃x,β id=some x:=by
 cases blk with
 | cell cs ty=>obtain ⟨b,cap,cur,t,h1,_⟩:=h;exact ⟨_,h1⟩
 | row k es ty=>
  rcases h with ⟨h1,h2⟩|⟨b,cap,cur,t,h1,_⟩
  ·exact ⟨_,h1⟩
  ·exact ⟨_,h1⟩
 | map es=>obtain ⟨b,cap,ents,clock,h1,_⟩:=h;exact ⟨_,h1⟩
 | iter s pos=>obtain ⟨b,cap,h1,_⟩:=h;exact ⟨_,h1⟩
 | rc y j e=>obtain ⟨b,cap,r,h1,_⟩:=h;exact ⟨_,h1⟩
theorem de.get_none (hm:de w I β σ nx) {id:Nat} (h:β id=none):σ.get id=none:=by
 cases hg:σ.get id with
 | none=>rfl
 | some blk=>
  obtain ⟨x,hx⟩:=(hm.own id blk hg).bound;rw [h] at hx;cases hx
theorem get_cons (id:Nat) (blk:bN) (σ:ak) (j:Nat):ak.get ((id,blk)::σ) j=if id=j then some blk else σ.get j:=rfl
theorem ay.alloc (hm:de w I β σ nx) {id:Nat} (hid:β id=none) (hlt:id<nx) (o:Obj) (cap:Nat) (blk:bN) (hown:jS (w.alloc o) I (oh β id (some (w.heap.size,cap))) id blk) :
 ay w I β σ nx (w.alloc o) I (oh β id (some (w.heap.size,cap))) ((id,blk)::σ) nx where
 mem:=by
  have hx:=ii (x:=some (w.heap.size,cap)) hid;have hg:=hm.get_none hid;refine ⟨fun j b hj =>?_,fun j j' b b' k c c' h1 h2 h3 h4 =>?_,fun j hj =>?_,fun b hb =>?_⟩
  ·rw [get_cons] at hj;split at hj
   ·rename_i e;subst e;injection hj with hj;subst hj;exact hown
   ·refine (hm.own j b hj).keep (fun k hk =>?_) (fun _ h=>h) (fun k c hk=>((hm.own j b hj).not_imm hk).1) hx;have hk':k<w.heap.size:=by
     rcases hk with hk|⟨c,hk⟩
     ·exact hm.lt k hk
     ·exact ((hm.own j b hj).not_imm hk).2
    exact RowKit.Below.heap_alloc w o k hk'
  ·rw [get_cons] at h1 h2;by_cases e1:id=j
   ·by_cases e2:id=j'
    ·omega
    ·exfalso;rw [aaY e2] at h2;subst e1;rw [aX] at h3;injection h3 with h3;injection h3 with h3;injection h3 with h3 _;rw [aP (acx e2)] at h4;have:=((hm.own j' b' h2).not_imm h4).2;omega
   ·rw [aaY e1] at h1;rw [aP (acx e1)] at h3;by_cases e2:id=j'
    ·exfalso;subst e2;rw [aX] at h4;injection h4 with h4;injection h4 with h4;injection h4 with h4 _;have:=((hm.own j b h1).not_imm h3).2;omega
    ·rw [aaY e2] at h2;rw [aP (acx e2)] at h4;exact hm.inj j j' b b' k c c' h1 h2 h3 h4
  ·rw [aP (by omega)];exact hm.free j hj
  ·have:=hm.lt b hb;simp;omega
 os:=rfl
 tape:=rfl
 output:=rfl
 size:=by simp
 block:=fun b hb _=>RowKit.Below.heap_alloc w o b hb
 imm:=fun _ h=>h
 immn:=fun _ h=> .inl h
 bet:=ii hid
 nx:=aaV _
 own':=fun b ⟨j,blk',c,h1,h2⟩=>by
  rw [get_cons] at h1;split at h1
  ·rename_i e;subst e;rw [aX] at h2;injection h2 with h2;injection h2 with h2;injection h2 with h2 _;right;omega
  ·rename_i e;rw [aP (acx e)] at h2;exact .inl ⟨j,blk',c,h1,h2⟩
theorem ay.nilRow (hm:de w I β σ nx) {id:Nat} (hid:β id=none) (hlt:id<nx) (k:Nat) {tq:Option Nat} : ay w I β σ nx w I (oh β id none) ((id,.row k [] tq)::σ) nx where
 mem:=by
  have hx:=ii (x:=(none:Option (Nat × Nat))) hid;refine ⟨fun j b hj =>?_,fun j j' b b' k c c' h1 h2 h3 h4 =>?_,fun j hj =>?_,hm.lt⟩
  ·rw [get_cons] at hj;split at hj
   ·rename_i e;subst e;injection hj with hj;subst hj;exact .inl ⟨aX _ _ _,rfl⟩
   ·exact (hm.own j b hj).keep (fun k hk=>rfl) (fun _ h=>h) (fun k c hk=>((hm.own j b hj).not_imm hk).1) hx
  ·rw [get_cons] at h1 h2;by_cases e1:id=j
   ·subst e1;rw [aX] at h3;cases h3
   ·by_cases e2:id=j'
    ·subst e2;rw [aX] at h4;cases h4
    ·rw [aaY e1] at h1;rw [aaY e2] at h2;rw [aP (acx e1)] at h3;rw [aP (acx e2)] at h4;exact hm.inj j j' b b' _ c c' h1 h2 h3 h4
  ·rw [aP (by omega)];exact hm.free j hj
 os:=rfl
 tape:=rfl
 output:=rfl
 size:=aaV _
 block:=fun _ _ _=>rfl
 imm:=fun _ h=>h
 immn:=fun _ h=> .inl h
 bet:=ii hid
 nx:=aaV _
 own':=fun b ⟨j,blk',c,h1,h2⟩=>by
  rw [get_cons] at h1;split at h1
  ·rename_i e;subst e;rw [aX] at h2;cases h2
  ·rename_i e;rw [aP (acx e)] at h2;exact .inl ⟨j,blk',c,h1,h2⟩
theorem CG {w:World} {b:Nat} {cur:Array Value} {t:TypeId} {fr:Nat × Nat} (hg:w.heap[b]? = some (.cells cur t fr)):w.setRow b cur=w:=by
 have hlt:b<w.heap.size:=(adL.1 hg).1;have hv:w.heap[b] = .cells cur t fr:=(adL.1 hg).2;unfold World.setRow;cases w with
 | mk heap tape drawn os output=>
  congr 1;apply Array.ext
  ·simp
  ·intro k h1 h2;simp only [Array.getElem_modify];split
   ·rename_i e;subst e;simp only at hv;rw [hv]
   ·rfl
theorem dT {P:Program} (b:Nat) (t:TypeId) : ∀(vs:List Value) (q i:Nat) (cur:Array Value) (w:World),w.heap[b]? = some (.cells cur t (0,0))→q+i+vs.length≤cur.size→(∀v∈vs,v.oneCell'=true) →
 (storeCells ⟨b,q,none⟩ vs i).run P w = .ok () (w.setRow b (Go.Proofs.YtkkanlcjjpoklaaGreatDoor.setAt cur.toList (q+i) vs).toArray)
 | [],q,i,cur,w,hg,hl,_=>by
  have e:(Go.Proofs.YtkkanlcjjpoklaaGreatDoor.setAt cur.toList (q+i) ([]:List Value)).toArray=cur:=by simp [Go.Proofs.YtkkanlcjjpoklaaGreatDoor.setAt]
  rw [e];have:=CG hg;rw [this];rfl
 | v::vs,q,i,cur,w,hg,hl,ho=>by
  have hl':q+i+(vs.length+1)≤cur.size:=by simpa using hl
  have hc:w.cell? ⟨b,q+i,none⟩=some cur[q+i]:=by simp [World.cell?,hg,show q+i<cur.size by omega]
  have hf:w.frozen? ⟨b,q+i,none⟩=false:=by simp [World.frozen?,hg]
  have hs:=setCell_eq_setRow w b (q+i) cur t (0,0) v hg;simp only [storeCells,Sem.run_bind,dP];rw [run_store P w _ v _ (ho v (by simp)),hc];simp only [hf,aa9,ab1,Result.andThen_ok,hs];rw [dT b t vs q (i+1) (cur.setIfInBounds (q+i) v) _ (setRow_heap w b cur _ t (0,0) hg) (by simp;omega) (fun x hx=>ho x (by simp [hx])),setRow_setRow];congr 3;apply adp;intro j;rw [bx (by simp;omega),bx (by simpa using hl')];simp only [adM,adq,aa6,abr];by_cases h1:j<q+i
  ·rw [aa3 (by omega),aa3 h1,aaY (by omega)]
  ·rw [aaY h1];by_cases h2:j=q+i
   ·subst h2;have h4:q+i<q+(i+1):=by omega
    have h5:q+i<cur.size:=by omega
    have h6:q+i<q+i+(vs.length+1):=by omega
    rw [aa3 h4,aa3 h6];simp [h5]
   ·rw [aaY (by omega)];by_cases h3:j<q+i+(vs.length+1)
    ·rw [aa3 (by omega),aa3 h3];have:j - (q+i)=(j - (q+(i+1)))+1:=by omega
     rw [this];rfl
    ·rw [aaY (by omega),aaY h3,aaY (by omega)]
theorem ay.setRow (hm:de w I β σ nx) {id b cap:Nat} {blk blk':bN} {cur cur':Array Value} {t:TypeId} (hg:σ.get id=some blk) (hb:β id=some (some (b,cap))) (hh:w.heap[b]? = some (.cells cur t (0,0)))
 (hown:jS (w.setRow b cur') I β id blk'):ay w I β σ nx (w.setRow b cur') I β (σ.set id blk') nx where
 mem:=by
  have hs:(σ.get id).isSome=true:=by rw [hg];rfl
  have hnb : ∀k,k≠b→(w.setRow b cur').heap[k]? = w.heap[k]? :=fun k hk=>setRow_other w b k cur' hk
  refine ⟨fun j bl hj =>?_,fun j j' bl bl' k c c' h1 h2 h3 h4 =>?_,hm.free,fun k hk =>?_⟩
  ·rw [ak.get_set hs] at hj;split at hj
   ·rename_i e;subst e;injection hj with hj;subst hj;exact hown
   ·rename_i hne;refine (hm.own j bl hj).keep (fun k hk=>hnb k ?_) (fun _ h=>h) (fun k c hk=>((hm.own j bl hj).not_imm hk).1) (fun _ _ h=>h);rintro rfl;rcases hk with hk|⟨c,hk⟩
    ·exact ((hm.own id blk hg).not_imm hb).1 hk
    ·exact hne (hm.inj j id bl blk k c cap hj hg hk hb)
  ·rw [ak.get_set hs] at h1 h2;have g1 : ∃x,σ.get j=some x:=by
    split at h1
    ·rename_i e;subst e;exact ⟨_,hg⟩
    ·exact ⟨_,h1⟩
   have g2 : ∃x,σ.get j'=some x:=by
    split at h2
    ·rename_i e;subst e;exact ⟨_,hg⟩
    ·exact ⟨_,h2⟩
   obtain ⟨x,g1⟩:=g1;obtain ⟨y,g2⟩:=g2;exact hm.inj j j' x y k c c' g1 g2 h3 h4
  ·simpa using hm.lt k hk
 os:=rfl
 tape:=rfl
 output:=rfl
 size:=by simp
 block:=fun k _ ho=>setRow_other w b k cur' (fun e=>ho ⟨id,blk,cap,hg,by rw [e];exact hb⟩)
 imm:=fun _ h=>h
 immn:=fun _ h=> .inl h
 bet:=fun _ _ h=>h
 nx:=aaV _
 own':=fun k ⟨j,bl,c,h1,h2⟩=>by
  rw [ak.get_set (by rw [hg];rfl)] at h1;split at h1
  ·rename_i e;subst e;exact .inl ⟨j,blk,c,hg,h2⟩
  ·exact .inl ⟨j,bl,c,h1,h2⟩
end
def sN (P:Program) (t:Nat) (x:V):PV:=
 match cX P t with
 | some .string=>match x with
  | .d (.lit (.string s))=>some (True,.d (.lit (.int .i64 s.size)))
  | _=>none
 | some .slice=>match x with
  | .d (.lit (.slice none 0 _))=>some (True,.d (.lit (.int .i64 0)))
  | .d (.sd _ _ es)=>some (True,.d (.lit (.int .i64 es.length)))
  | .so _ _ _ n=>some (True,.d (.lit (.int .i64 n)))
  | _=>none
 | _=>none
def Ew (mx:Bool) (x y z:V):PV:=
 match x,y,z with
 | .d (.lit (.int k a)),.d (.lit (.int _ b)),.d (.lit (.int _ c))=>some (True,.d (.lit (.int k (if mx=true then max (max a b) c else min (min a b) c))))
 | _,_,_=>none
theorem BU {w:World} {I:Nat→Prop} {β:co} {P:Program} {mx:Bool} {x y z:V} {p:Prop} {v:V} {vx vy vz:Value} {ts:Array Nat} {t:Nat} (h:Ew mx x y z=some (p,v)) (hx:aL w I β x vx) (hy:aL w I β y vy) (hz:aL w I β z vz) :
 ∃u,(if mx=true then Builtin.max_ ts t #[vx,vy,vz] else Builtin.min_ ts t #[vx,vy,vz]).run P w = .ok u w∧aL w I β v u:=by
 unfold Ew at h;split at h
 ·injection h with h;injection h with h1 h2;subst h2;have:=aA hx;subst this;have:=aA hy;subst this;have:=aA hz;subst this;rename_i k a _ b _ c;cases mx with
  | true=>
   refine ⟨.int k (if c > (if b > a then b else a) then c else (if b > a then b else a)),by simp [Builtin.max_,Builtin.max2],?_⟩;rw [aa3 rfl];have:(if c > (if b > a then b else a) then c else (if b > a then b else a))=max (max a b) c:=by repeat' split<;>omega
   rw [this];exact ax.lit _
  | false=>
   refine ⟨.int k (if c<(if b<a then b else a) then c else (if b<a then b else a)),by simp [Builtin.min_,Builtin.min2],?_⟩;rw [aaY (by simp)];have:(if c<(if b<a then b else a) then c else (if b<a then b else a))=min (min a b) c:=by repeat' split<;>omega
   rw [this];exact ax.lit _
 ·cases h
def iK (P:Program) (c:Call) (g:Operand→V):PV:=
 match c.callee,c.args.toList,c.argTypes.toList with
 | .builtin .len,[x],[t]=>sN P t (g x)
 | .builtin .max,[x,y],_=>Nq true (g x) (g y)
 | .builtin .min,[x,y],_=>Nq false (g x) (g y)
 | .builtin .unsafeSliceData,[x],_=>Fp (g x)
 | .builtin .max,[x,y,z],_=>Ew true (g x) (g y) (g z)
 | .builtin .min,[x,y,z],_=>Ew false (g x) (g y) (g z)
 | _,_,_=>none
def ce (P:Program) (op:Op) (g:Operand→V):PV:=
 match op with
 | .move x=>some (True,g x)
 | .assign x=>some (True,g x)
 | .nilCheck x=>mq (g x)
 | .binOp op t x y _=>uW P op t (e8 x||e8 y) (g x) (g y)
 | .unOp op _ x=>S5 op (g x)
 | .convert s d x=>Ru P s d (g x)
 | .makeInterface t x=>R7 P t (g x)
 | .makeFunc fn first caps=>Tn fn (first.toList.map g) (caps.toList.map g)
 | .slice t x lo hi mx=>QN P t (g x) (lo.map g) (hi.map g) (mx.map g)
 | .fieldAddr t x f=>RH P t f (g x)
 | .field t x f=>RI P t f (g x)
 | .indexAddr t x i=>match lH (g i) with|some n=>Ef P t (g x) n|none=>none
 | .index t x i=>match lH (g i) with|some n=>sE P t (g x) n|none=>none
 | .typeAssert x _ t ok=>S3 P (g x) t ok
 | .extract x i=>RE i (g x)
 | .build t parts=>Ra P t (parts.toList.map fun p=>(p.1,g p.2))
 | .call c=>iK P c g
 | _=>none
section
variable {P:Program} {w:World} {I:Nat→Prop} {β:co}
theorem Ig {t:Nat} {x:V} {p:Prop} {v:V} {val:Value} {ts:Array Nat} {ty:Nat} (h:sN P t x=some (p,v)) (hts:ts[0]? = some t) (hd:aL w I β x val) :
 ∃u,(Builtin.len_ ts ty #[val]).run P w = .ok u w∧aL w I β v u:=by
 unfold sN at h;split at h
 ·rename_i hk;split at h
  ·rename_i s;exact nr (kd:= .string) (p:=p) (v:=v) (by simpa [If] using h) hk (.inl rfl) hts hd ⟨fun _=>⟨s,rfl⟩,fun _=>rfl⟩
  ·cases h
 ·rename_i hk;split at h
  ·exact nr (kd:= .slice) (p:=p) (v:=v) (by simpa [If] using h) hk (.inr rfl) hts hd ⟨fun e=>by simp at e,fun ⟨s,hs⟩=>by simp at hs⟩
  ·exact nr (kd:= .slice) (p:=p) (v:=v) (by simpa [If] using h) hk (.inr rfl) hts hd ⟨fun e=>by simp at e,fun ⟨s,hs⟩=>by simp at hs⟩
  ·exact nr (kd:= .slice) (p:=p) (v:=v) (by simpa [If] using h) hk (.inr rfl) hts hd ⟨fun e=>by simp at e,fun ⟨s,hs⟩=>by simp at hs⟩
  ·cases h
 ·cases h
theorem zh {g:Operand→V} {ρ:Operand→Value} (hg : ∀x,aL w I β (g x) (ρ x)) (o:Option Operand):TA w I β (o.map g) (o.map ρ):=by
 cases o with
 | none=>trivial
 | some x=>exact hg x
theorem Cj {o:Oper} {g:Operand→V} {a:Act} {p:Prop} {v:V} (h:ce P o.op g=some (p,v)) (hp:p) (hg : ∀x,aL w I β (g x) (a.eval x)) :
 ∃u,(execOp a.eval o).run P w = .ok (.value u) w∧aL w I β v u:=by
 unfold ce at h;split at h;case h_1 x ho=>injection h with h;injection h with _ h;subst h;exact ⟨_,by simp [execOp,ho],hg x⟩
 case h_2 x ho=>injection h with h;injection h with _ h;subst h;exact ⟨_,by simp [execOp,ho],hg x⟩
 case h_3 x ho=>exact ⟨_,Ey (P:=P) (w:=w) h (hg x) ho rfl⟩
 case h_4 op t x y _ ho=>
  obtain ⟨u,h1,h2⟩:=J5 h hp (hg x) (hg y);exact ⟨u,by simp only [execOp,ho,Sem.run_bind] at h1 ⊢;rw [h1];rfl,h2⟩
 case h_5 op t x ho=>
  obtain ⟨u,h1,h2⟩:=PY (w:=w) (P:=P) h (hg x);exact ⟨u,by simp [execOp,ho,h1],h2⟩
 case h_6 s d x ho=>
  obtain ⟨u,h1,h2⟩:=N1 h (hg x);exact ⟨u,by simp [execOp,ho,h1],h2⟩
 case h_7 t x ho=>
  obtain ⟨u,h1,h2⟩:=OZ h (hg x);exact ⟨u,by simp [execOp,ho,h1],h2⟩
 case h_8 fn first caps ho=>
  have hh : ∀(l:Array Operand) (i:Nat) (c:V) (x:Value),(l.toList.map g)[i]? = some c→(l.toList.map a.eval)[i]? = some x→aL w I β c x:=fun l i c x hc hx=>by
   simp only [abp,aaZ] at hc hx;obtain ⟨y,hy,rfl⟩:=hc;obtain ⟨z,hz,rfl⟩:=hx;rw [hy] at hz;injection hz with hz;subst hz;exact hg y
  obtain ⟨u,h1,h2⟩:=OY (P:=P) (w:=w) (I:=I) (β:=β) (fvals:=first.toList.map a.eval) (vals:=caps.toList.map a.eval) h (by simp) (hh caps) (by simp) (hh first);have e0:(first.toList.map a.eval).toArray=first.map a.eval:=by apply abx.1;simp
  rw [e0] at h1;have e:(caps.toList.map a.eval).toArray=caps.map a.eval:=by apply abx.1;simp
  rw [e] at h1;exact ⟨u,by simp [execOp,ho,h1],h2⟩
 case h_9 t x lo hi mx ho=>
  obtain ⟨u,h1,h2⟩:=Py h hp (hg x) (zh hg lo) (zh hg hi) (zh hg mx);exact ⟨u,by simp [execOp,ho,h1],h2⟩
 case h_10 t x f ho=>
  obtain ⟨u,h1,h2⟩:=Oq h (hg x);exact ⟨u,by simp [execOp,ho,h1],h2⟩
 case h_11 t x f ho=>
  obtain ⟨u,h1,h2⟩:=Ou h (hg x);exact ⟨u,by simp [execOp,ho,h1],h2⟩
 case h_12 t x i ho=>
  split at h
  ·rename_i n hn;obtain ⟨kk,hk⟩:=kn hn (hg i);obtain ⟨u,h1,h2⟩:=Lg (kk:=kk) h hp (hg x);exact ⟨u,by simp [execOp,ho,hk,h1],h2⟩
  ·cases h
 case h_13 t x i ho=>
  split at h
  ·rename_i n hn;obtain ⟨kk,hk⟩:=kn hn (hg i);obtain ⟨u,h1,h2⟩:=H7 (kk:=kk) h hp (hg x);exact ⟨u,by simp [execOp,ho,hk,h1],h2⟩
  ·cases h
 case h_14 x xT t ok ho=>
  obtain ⟨u,h1,h2⟩:=PJ (xT:=xT) h (hg x);exact ⟨u,by simp [execOp,ho,h1],h2⟩
 case h_15 x i ho=>
  obtain ⟨u,h1,h2⟩:=Oi (P:=P) (w:=w) h (hg x);exact ⟨u,by simp [execOp,ho,h1],h2⟩
 case h_16 t parts ho=>
  obtain ⟨u,h1,h2⟩:=NN (w:=w) (I:=I) (β:=β) (vals:=parts.toList.map fun q=>(q.1,a.eval q.2)) h (by simp) (fun j i c i' x hc hx=>by
   simp only [abp,aaZ] at hc hx;obtain ⟨y,hy,hyy⟩:=hc;obtain ⟨z,hz,hzz⟩:=hx;rw [hy] at hz;injection hz with hz;subst hz;injection hyy with e1 e2;injection hzz with e3 e4;subst e1;subst e2;subst e4;exact ⟨e3,hg _⟩)
  have e:(parts.toList.map fun q=>(q.1,a.eval q.2)).toArray=parts.map fun (i,x)=>(i,a.eval x):=by apply abx.1;simp
  rw [e] at h1;exact ⟨u,by simp [execOp,ho,h1],h2⟩
 case h_17 c ho=>
  unfold iK at h;split at h
  ·rename_i x t e1 e2 e3;have e2':c.args = #[x]:=by apply abx.1;simpa using e2
   have e3':c.argTypes = #[t]:=by apply abx.1;simpa using e3
   obtain ⟨u,h1,h2⟩:=Ig (ts:=c.argTypes) (ty:=o.type) h (by simp [e3']) (hg x);refine ⟨u,?_,h2⟩;simp only [execOp,ho,resolve,e1,e2'];simp [invoke,builtin,h1]
  ·rename_i x y e1 e2;have e2':c.args = #[x,y]:=by apply abx.1;simpa using e2
   obtain ⟨u,h1,h2⟩:=Gj (P:=P) (w:=w) (ts:=c.argTypes) (t:=o.type) h (hg x) (hg y);refine ⟨u,?_,h2⟩;simp only [execOp,ho,resolve,e1,e2'];simp at h1;simp [invoke,builtin,h1]
  ·rename_i x y e1 e2;have e2':c.args = #[x,y]:=by apply abx.1;simpa using e2
   obtain ⟨u,h1,h2⟩:=Gj (P:=P) (w:=w) (ts:=c.argTypes) (t:=o.type) h (hg x) (hg y);refine ⟨u,?_,h2⟩;simp only [execOp,ho,resolve,e1,e2'];simp at h1;simp [invoke,builtin,h1]
  ·rename_i x e1 e2;have e2':c.args = #[x]:=by apply abx.1;simpa using e2
   obtain ⟨u,h1,h2⟩:=M1 (P:=P) (w:=w) (ts:=c.argTypes) (t:=o.type) h (hg x);refine ⟨u,?_,h2⟩;simp only [execOp,ho,resolve,e1,e2'];simp [invoke,builtin,h1]
  ·rename_i x y z e1 e2;have e2':c.args = #[x,y,z]:=by apply abx.1;simpa using e2
   obtain ⟨u,h1,h2⟩:=BU (P:=P) (w:=w) (ts:=c.argTypes) (t:=o.type) h (hg x) (hg y) (hg z);refine ⟨u,?_,h2⟩;simp only [execOp,ho,resolve,e1,e2'];simp at h1;simp [invoke,builtin,h1]
  ·rename_i x y z e1 e2;have e2':c.args = #[x,y,z]:=by apply abx.1;simpa using e2
   obtain ⟨u,h1,h2⟩:=BU (P:=P) (w:=w) (ts:=c.argTypes) (t:=o.type) h (hg x) (hg y) (hg z);refine ⟨u,?_,h2⟩;simp only [execOp,ho,resolve,e1,e2'];simp at h1;simp [invoke,builtin,h1]
  ·cases h
 case h_18=>cases h
end
def aJ (w:World) (I:Nat→Prop) (k:Nat) (es:List D) (vs:List Value):Prop:=
 vs.length=es.length*k∧(∀x∈vs,x.oneCell'=true) ∧ ∀(i:Nat) e,es[i]? = some e→e.cells.length=k ∧ ∀(j:Nat) c,e.cells[j]? = some c → ∃v,vs[i*k+j]? = some v∧ax w I c v
section
variable {w w':World} {I I':Nat→Prop} {k:Nat}
theorem aJ.nil:aJ w I k [] []:=⟨by simp,by simp,by simp⟩
theorem aJ.keep {es:List D} {vs:List Value} (h:aJ w I k es vs) (hb : ∀b,I b→w'.heap[b]? = w.heap[b]?) (hI : ∀b,I b→I' b):aJ w' I' k es vs:=
 ⟨h.1,h.2.1,fun i e hi=>⟨(h.2.2 i e hi).1,fun j c hj=>by
  obtain ⟨v,h1,h2⟩:=(h.2.2 i e hi).2 j c hj;exact ⟨v,h1,h2.keep hb hI⟩⟩⟩
theorem aJ.append {es fs:List D} {vs us:List Value} (h:aJ w I k es vs) (h':aJ w I k fs us):aJ w I k (es++fs) (vs++us):=by
 obtain ⟨h1,h2,h3⟩:=h;obtain ⟨g1,g2,g3⟩:=h';refine ⟨by simp [h1,g1,abV],fun x hx =>?_,fun i e hi =>?_⟩
 ·rcases abe.1 hx with hx|hx
  ·exact h2 x hx
  ·exact g2 x hx
 ·rw [acz] at hi;split at hi
  ·rename_i hlt;obtain ⟨q1,q2⟩:=h3 i e hi;refine ⟨q1,fun j c hj =>?_⟩;obtain ⟨v,r1,r2⟩:=q2 j c hj;have hb:=(aaX.1 r1).1;exact ⟨v,by rw [ab3 hb];exact r1,r2⟩
  ·rename_i hlt;obtain ⟨q1,q2⟩:=g3 _ e hi;refine ⟨q1,fun j c hj =>?_⟩;obtain ⟨v,r1,r2⟩:=q2 j c hj;have hle:es.length*k≤i*k:=abQ k (by omega);refine ⟨v,?_,r2⟩;rw [abZ (by omega),h1];have:(i - es.length)*k=i*k - es.length*k:=Nat.sub_mul _ _ _;rw [this] at r1;rw [show i*k+j - es.length*k=i*k - es.length*k+j from by omega];exact r1
theorem aJ.one {e:D} {cs:List Value} (hl:e.cells.length=k) (h1:cs.length=k) (ho : ∀x∈cs,x.oneCell'=true) (hd : ∀(j:Nat) c v,e.cells[j]? = some c→cs[j]? = some v→ax w I c v):aJ w I k [e] cs:=by
 refine ⟨by simp [h1],ho,fun i e' hi =>?_⟩;match i,hi with
 | 0,hi=>
  simp at hi;subst hi;refine ⟨hl,fun j c hj =>?_⟩;have hlt:j<cs.length:=by
   have:=(aaX.1 hj).1;omega
  exact ⟨cs[j],by simp [hlt],hd j c _ hj (IO hlt)⟩
theorem aJ.of_cells {b q:Nat} : ∀ {es:List D},(∀(i:Nat) e,es[i]? = some e→e.cells.length=k∧lL w I b (q+i*k) e.cells) → ∃vs,aJ w I k es vs ∧ ∀(m:Nat) v,vs[m]? = some v→w.cell? ⟨b,q+m,none⟩=some v
 | [],_=>⟨[],aJ.nil,by simp⟩
 | e::es,h=>by
  obtain ⟨h1,h2⟩:=h 0 e rfl;obtain ⟨cs,c1,c2,c3,c4⟩:=h2.list;obtain ⟨vs,v1,v2⟩:=aJ.of_cells (b:=b) (q:=q+k) (es:=es) (fun i x hi=>by
   obtain ⟨g1,g2⟩:=h (i+1) x (by simpa using hi);exact ⟨g1,by rw [show q+k+i*k=q+(i+1)*k from by rw [abV];omega];exact g2⟩)
  have r:=aJ.append (aJ.one h1 (by omega) c3 c4) v1;refine ⟨cs++vs,r,fun m v hm =>?_⟩;rw [acz] at hm;split at hm
  ·have:=c2 m v hm;simpa using this
  ·rename_i hlt;have:=v2 _ v hm;rw [show q+k+(m - cs.length)=q+m from by omega] at this;exact this
theorem aJ.own {β:co} {id b cap:Nat} {t:TypeId} {tq:Option Nat} {es:List D} {vs:List Value} {cur:Array Value} (h:aJ w I k es vs) (hb:β id=some (some (b,cap))) (hh:w.heap[b]? = some (.cells cur t (0,0))) (hty:tq.getD t=t) (hI : ¬I b)
 (hcap:es.length≤cap) (hsz:cap*k≤cur.size) (hpre : ∀(m:Nat) v,vs[m]? = some v→cur[m]? = some v):jS w I β id (.row k es tq):=by
 refine .inr ⟨b,cap,cur,t,hb,by rw [hty];exact hh,hI,hcap,hsz,fun i e hi=>⟨(h.2.2 i e hi).1,fun j c hj =>?_⟩⟩;obtain ⟨v,h1,h2⟩:=(h.2.2 i e hi).2 j c hj;exact ⟨v,hpre _ _ h1,h.2.1 v (aa0 h1),h2⟩
theorem de.row_vals {β:co} {σ:ak} {nx id:Nat} {es:List D} {tq:Option Nat} (hm:de w I β σ nx) (h:σ.get id=some (.row k es tq)) {b cap:Nat} (hb:β id=some (some (b,cap))) :
 ∃cur t vs,w.heap[b]? = some (.cells cur (tq.getD t) (0,0)) ∧ ¬I b∧es.length≤cap∧cap*k≤cur.size∧aJ w I k es vs ∧ ∀(m:Nat) v,vs[m]? = some v→cur[m]? = some v:=by
 obtain ⟨cur,t,h1,h2,h3,h4,h5⟩:=hm.row_cells h hb;obtain ⟨vs,v1,v2⟩:=aJ.of_cells (w:=w) (I:=I) (k:=k) (b:=b) (q:=0) (es:=es) (fun i e hi=>by simpa using h5 i e hi);refine ⟨cur,t,vs,h1,h2,h3,h4,v1,fun m v hm =>?_⟩;have:=v2 m v hm;simpa [World.cell?,h1] using this
end
def fu (kk:IntKind) (n:Int):List (Value × D)→Option (Option D)
 | []=>some none
 | (.int kk' n',x)::r=>if kk=kk' then (if n=n' then some (some x) else fu kk n r) else none
 | _::_=>none
def Ip (P:Program) (t:Nat):Option (Nat × IntKind):=match P.underlying t with
 | some (.map k e)=>match P.underlying k with
  | some (.int kk)=>some (e,kk)
  | _=>none
 | _=>none
def iG (P:Program) (k:Nat) (ks:List CK):Prop:=gU P k ks ∧ ∀(b:Bool) (vs:List Value) (w:World),cq ks vs→(Instr.checkKey b 10000 k (.agg vs.toArray)).run P w = .ok () w
def Eu (P:Program) (t:Nat):Option (Nat × Nat):=match P.underlying t with
 | some (.map k e)=>match P.underlying k with
  | some (.struct _)=>some (e,k)
  | _=>none
 | _=>none
def eY:List CK→List Value→Bool
 | [],[]=>true
 | .int k::r,.int k' _::s=>(k==k')&&eY r s
 | .bool::r,.bool _::s=>eY r s
 | .str::r,.string _::s=>eY r s
 | _,_=>false
def eD (ks:List CK) (vs:List Value):List (Value × D)→Option (Option D)
 | []=>some none
 | (.agg cs,x)::r=>if eY ks cs.toList=true then (if bG vs cs.toList=true then some (some x) else eD ks vs r) else none
 | _::_=>none
def Uh (P:Program) (t:Nat) (m k:V) (ok:Bool) (σ:ak):Option (Prop × V × ak):=match Eu P t,m,k with
 | some (e,kt),.mo id,.d (.agg ds)=>match iH ds,df ds,σ.get id with
  | some ks,some vs,some (.map es)=>match eD ks vs es with
   | some (some x)=>if ok=true then some (iG P kt ks,.tup [.d x,.d (.lit (.bool true))],σ) else some (iG P kt ks,.d x,σ)
   | some none=>match Qb P e with
    | some z=>if ok=true then some (iG P kt ks,.tup [.d z,.d (.lit (.bool false))],σ) else some (iG P kt ks,.d z,σ)
    | none=>none
   | none=>none
  | _,_,_=>none
 | _,_,_=>none
def Ui (P:Program) (t:Nat) (m k x:V) (σ:ak):Option (Prop × V × ak):=match Eu P t,m,k,x with
 | some (_,kt),.mo id,.d (.agg ds),.d y=>match iH ds,df ds,σ.get id with
  | some ks,some vs,some (.map es)=>match eD ks vs es with
   | some none=>some (iG P kt ks,.unk,σ.set id (.map (es++[(.agg vs.toArray,y)])))
   | _=>none
  | _,_,_=>none
 | _,_,_,_=>none
def R6 (P:Program) (t:Nat) (m k:V) (ok:Bool) (σ:ak):Option (Prop × V × ak):=match Ip P t,m,k with
 | some (e,_),.mo id,.d (.lit (.int kk n))=>match σ.get id with
  | some (.map es)=>match fu kk n es with
   | some (some x)=>if ok=true then some (True,.tup [.d x,.d (.lit (.bool true))],σ) else some (True,.d x,σ)
   | some none=>match Qb P e with
    | some z=>if ok=true then some (True,.tup [.d z,.d (.lit (.bool false))],σ) else some (True,.d z,σ)
    | none=>none
   | none=>none
  | _=>none
 | _,_,_=>Uh P t m k ok σ
def Sa (P:Program) (t:Nat) (m k x:V) (σ:ak):Option (Prop × V × ak):=match Ip P t,m,k,x with
 | some _,.mo id,.d (.lit (.int kk n)),.d y=>match σ.get id with
  | some (.map es)=>match fu kk n es with
   | some none=>some (True,.unk,σ.set id (.map (es++[(.int kk n,y)])))
   | _=>none
  | _=>none
 | _,_,_,_=>Ui P t m k x σ
section
variable {P:Program} {w:World} {I:Nat→Prop} {β:co} {σ:ak} {nx:Nat}
theorem xe {t e:Nat} {kk:IntKind} (h:Ip P t=some (e,kk)) : ∃k,P.underlying t=some (.map k e)∧P.underlying k=some (.int kk):=by
 unfold Ip at h;split at h
 ·rename_i k e' hu;split at h
  ·rename_i kk' hk;injection h with h;injection h with h1 h2;subst h1;subst h2;exact ⟨k,hu,hk⟩
  ·cases h
 ·cases h
theorem nN {k:Nat} {kk q:IntKind} {n:Int} (h:P.underlying k=some (.int kk)) (b:Bool) (w:World) : ∀m,(Instr.checkKey b (m+1) k (.int q n)).run P w = .ok () w:=fun m=>by
 simp [Instr.checkKey,run_underlying h]
theorem l9 {kk q:IntKind} {n:Int} : ∀(es:List (Value × D)) (ents:List MapEntry) (i:Nat),ents.length=es.length→(∀(j:Nat) k x,es[j]? = some (k,x) → ∃m,ents[j]? = some m∧m.key=k∧ax w I x m.val) →
 (fu kk n es=some none→Instr.findNow (.int q) (.int kk n) ents i=some none) ∧ ∀x,fu kk n es=some (some x) → ∃j v,Instr.findNow (.int q) (.int kk n) ents i=some (some (j,v))∧ax w I x v
 | [],[],i,_,_=>⟨fun _=>rfl,fun x h=>by cases h⟩
 | [],_::_,_,h,_=>by simp at h
 | _::_,[],_,h,_=>by simp at h
 | (k,y)::es,m::ents,i,hl,hd=>by
  obtain ⟨m',h1,h2,h3⟩:=hd 0 k y rfl;simp only [abq,aa5] at h1;subst h1;have ih:=l9 (kk:=kk) (q:=q) (n:=n) es ents (i+1) (by simpa using hl) (fun j k x hj=>hd (j+1) k x (by simpa using hj));cases k with
  | int kk' n'=>
   by_cases hk:kk=kk'
   ·subst hk;by_cases hn:n=n'
    ·subst hn;refine ⟨fun h=>by simp [fu] at h,fun x h =>?_⟩;simp only [fu,ab0,aa5] at h;subst h;exact ⟨i,m.val,by simp [Instr.findNow,Instr.sameNow,h2],h3⟩
    ·refine ⟨fun h =>?_,fun x h =>?_⟩
     ·simp only [fu,ab0,hn,ab1] at h;simp only [Instr.findNow,Instr.sameNow,h2,ab0];rw [show (n==n')=false by simpa using hn];exact ih.1 h
     ·simp only [fu,ab0,hn,ab1] at h;obtain ⟨j,v,g1,g2⟩:=ih.2 x h;refine ⟨j,v,?_,g2⟩;simp only [Instr.findNow,Instr.sameNow,h2,ab0];rw [show (n==n')=false by simpa using hn];exact g1
   ·exact ⟨fun h=>by simp [fu,hk] at h,fun x h=>by simp [fu,hk] at h⟩
  | _=>exact ⟨fun h=>by simp [fu] at h,fun x h=>by simp [fu] at h⟩
theorem ay.setObj (hm:de w I β σ nx) {i b cap:Nat} {blk blk':bN} (hg:σ.get i=some blk) (hb:β i=some (some (b,cap))) (o:Obj) (hown:jS { w with heap:=w.heap.setIfInBounds b o } I β i blk') :
 ay w I β σ nx { w with heap:=w.heap.setIfInBounds b o } I β (σ.set i blk') nx:=by
 have hs:(σ.get i).isSome=true:=by rw [hg];rfl
 have hbl:=((hm.own i _ hg).not_imm hb)
 have hnb : ∀k,k≠b→({ w with heap:=w.heap.setIfInBounds b o } : World).heap[k]? = w.heap[k]? :=fun k hk=>by simp [acG (acx hk)]
 refine ⟨⟨fun j bl hj =>?_,fun j j' bl bl' k c c' h1 h2 h3 h4 =>?_,hm.free,fun k hk=>by simpa using hm.lt k hk⟩,rfl,rfl,rfl,by simp,fun k _ ho=>hnb k (fun e=>ho ⟨i,_,cap,hg,by rw [e];exact hb⟩),fun _ h=>h,fun _ h=> .inl h,fun _ _ h=>h,aaV _,fun k ⟨j,bl,c,h1,h2⟩ =>?_⟩
 ·rw [ak.get_set hs] at hj;split at hj
  ·rename_i e;subst e;injection hj with hj;subst hj;exact hown
  ·rename_i hne;refine (hm.own j bl hj).keep (fun k hk=>hnb k ?_) (fun _ h=>h) (fun k c hk=>((hm.own j bl hj).not_imm hk).1) (fun _ _ h=>h);rintro rfl;rcases hk with hk|⟨c,hk⟩
   ·exact hbl.1 hk
   ·exact hne (hm.inj j i bl _ k c cap hj hg hk hb)
 ·rw [ak.get_set hs] at h1 h2;have g1 : ∃x,σ.get j=some x:=by
   split at h1
   ·rename_i e;subst e;exact ⟨_,hg⟩
   ·exact ⟨_,h1⟩
  have g2 : ∃x,σ.get j'=some x:=by
   split at h2
   ·rename_i e;subst e;exact ⟨_,hg⟩
   ·exact ⟨_,h2⟩
  obtain ⟨x,g1⟩:=g1;obtain ⟨y,g2⟩:=g2;exact hm.inj j j' x y k c c' g1 g2 h3 h4
 ·rw [ak.get_set hs] at h1;split at h1
  ·rename_i e;subst e;exact .inl ⟨j,_,c,hg,h2⟩
  ·exact .inl ⟨j,bl,c,h1,h2⟩
theorem xd {t e k:Nat} (h:Eu P t=some (e,k)):P.underlying t=some (.map k e) ∧ ∃fs,P.underlying k=some (.struct fs):=by
 unfold Eu at h;split at h
 ·rename_i k' e' hu;split at h
  ·rename_i fs hk;injection h with h;injection h with h1 h2;subst h1;subst h2;exact ⟨hu,fs,hk⟩
  ·cases h
 ·cases h
theorem ni : ∀ {ks:List CK} {vs:List Value},eY ks vs=true→cq ks vs
 | [],[],_=>trivial
 | .int k::r,.int k' n::s,h=>by
  simp only [eY,aa8,aca] at h;exact ⟨⟨n,by rw [h.1]⟩,ni h.2⟩
 | .bool::r,.bool b::s,h=>⟨⟨b,rfl⟩,ni (by simpa only [eY] using h)⟩
 | .str::r,.string b::s,h=>⟨⟨b,rfl⟩,ni (by simpa only [eY] using h)⟩
 | [],_::_,h=>by simp [eY] at h
 | _::_,[],h=>by simp [eY] at h
 | .int k::r,.bool _::s,h=>by simp [eY] at h
 | .int k::r,.string _::s,h=>by simp [eY] at h
 | .bool::r,.int _ _::s,h=>by simp [eY] at h
 | .bool::r,.string _::s,h=>by simp [eY] at h
 | .str::r,.int _ _::s,h=>by simp [eY] at h
 | .str::r,.bool _::s,h=>by simp [eY] at h
theorem sn {kt:Nat} {ks:List CK} {vs:List Value} (hk:gU P kt ks) (hv:cq ks vs) : ∀(es:List (Value × D)) (ents:List MapEntry) (i:Nat),ents.length=es.length→(∀(j:Nat) k x,es[j]? = some (k,x) → ∃m,ents[j]? = some m∧m.key=k∧ax w I x m.val) →
 (eD ks vs es=some none→(Instr.findAsking kt (.agg vs.toArray) ents i).run P w = .ok none w) ∧ ∀x,eD ks vs es=some (some x) → ∃j v,(Instr.findAsking kt (.agg vs.toArray) ents i).run P w = .ok (some (j,v)) w∧ax w I x v
 | [],[],i,_,_=>⟨fun _=>rfl,fun x h=>by cases h⟩
 | [],_::_,_,h,_=>by simp at h
 | _::_,[],_,h,_=>by simp at h
 | (k,y)::es,m::ents,i,hl,hd=>by
  obtain ⟨m',h1,h2,h3⟩:=hd 0 k y rfl;simp only [abq,aa5] at h1;subst h1;have ih:=sn hk hv es ents (i+1) (by simpa using hl) (fun j k x hj=>hd (j+1) k x (by simpa using hj));cases k with
  | agg cs=>
   by_cases hf:eY ks cs.toList=true
   ·have he:=hk.2 vs cs.toList w hv (ni hf);rw [Array.toArray_toList] at he;by_cases hq:bG vs cs.toList=true
    ·refine ⟨fun h=>by simp [eD,hf,hq] at h,fun x h =>?_⟩;simp only [eD,hf,hq,ab0,aa5] at h;subst h;rw [hq] at he;exact ⟨i,m.val,by simp [Instr.findAsking,h2,he],h3⟩
    ·have hq':bG vs cs.toList=false:=by simpa using hq
     rw [hq'] at he;refine ⟨fun h =>?_,fun x h =>?_⟩
     ·simp only [eD,hf,hq',ab0,aa9,ab1] at h;simpa [Instr.findAsking,h2,he] using ih.1 h
     ·simp only [eD,hf,hq',ab0,aa9,ab1] at h;obtain ⟨j,v,g1,g2⟩:=ih.2 x h;exact ⟨j,v,by simpa [Instr.findAsking,h2,he] using g1,g2⟩
   ·exact ⟨fun h=>by simp [eD,hf] at h,fun x h=>by simp [eD,hf] at h⟩
  | _=>exact ⟨fun h=>by simp [eD] at h,fun x h=>by simp [eD] at h⟩
theorem wQ {kt:Nat} {fs:Array Field} {k:Value} (hu:P.underlying kt=some (.struct fs)) (ents:List MapEntry):(Instr.findKey kt k ents).run P w=(Instr.findAsking kt k ents).run P w:=by
 cases ents with
 | nil=>simp [Instr.findKey,run_underlying hu,Instr.findNow,Instr.findAsking]
 | cons e r=>
  have:Instr.findNow (.struct fs) k (e::r) 0=none:=by simp [Instr.findNow,Instr.sameNow]
  simp [Instr.findKey,run_underlying hu,this]
theorem In {t:Nat} {m k:V} {ok:Bool} {p:Prop} {v:V} {new:ak} {mv kv:Value} (h:Uh P t m k ok σ=some (p,v,new)) (hp:p) (hm:de w I β σ nx) (hdm:aL w I β m mv) (hdk:aL w I β k kv) :
 new=σ ∧ ∃u,(Instr.lookup t mv kv ok).run P w = .ok u w∧aL w I β v u:=by
 unfold Uh at h;split at h;rotate_left
 ·cases h
 rename_i e kt id ds ht;obtain ⟨hu,fs,hk⟩:=xd ht;obtain ⟨b,cap,hb,rfl⟩:=hdm;split at h;rotate_left
 ·cases h
 rename_i ks vs es hck hlt hg;have hfit:=mY hlt hck;obtain ⟨cs,rfl,hl,_,hcs⟩:=jm hdk;have hvs:=kh hlt hl hcs;subst hvs;obtain ⟨b',cap',ents,clock,q1,q2,q3,q4,q5⟩:=hm.own id _ hg;rw [hb] at q1;injection q1 with q1;injection q1 with q1;injection q1 with q1 _;subst q1;have hgo:(getObj b).run P w = .ok (.map ents clock) w:=by simp [getObj,Sem.run,q2]
 have key:iG P kt ks → ∃r,(eD ks cs es=some none→r=none)∧(∀x,eD ks cs es=some (some x) → ∃j v,r=some (j,v)∧ax w I x v)∧(eD ks cs es≠none→(Instr.findKey kt (.agg cs.toArray) ents.toList).run P w = .ok r w):=by
  intro hko;have F:=sn (w:=w) (I:=I) hko.1 hfit es ents.toList 0 (by simpa using q4) (fun j k x hj=>by
   obtain ⟨m,m1,m2,m3⟩:=q5 j k x hj;exact ⟨m,by simpa using m1,m2,m3⟩)
  rw [wQ hk];cases hf:eD ks cs es with
  | none=>exact ⟨none,fun h=>(nomatch h),fun x h=>(nomatch h),fun h=>(h rfl).elim⟩
  | some o=>
   cases o with
   | none=>exact ⟨none,fun _=>rfl,fun x h=>(nomatch h),fun _=>F.1 hf⟩
   | some x=>
    obtain ⟨j,v,g1,g2⟩:=F.2 x hf;exact ⟨some (j,v),fun h=>(nomatch h),fun y h=>(by injection h with h;injection h with h;subst h;exact ⟨j,v,rfl,g2⟩),fun _=>g1⟩
 split at h
 ·rename_i x hx;cases ok with
  | true=>
   simp only [ab0,aa5,abl] at h;obtain ⟨rfl,rfl,rfl⟩:=h;obtain ⟨r,k1,k2,k3⟩:=key hp;obtain ⟨j,u,rfl,g2⟩:=k2 x hx;have h3:=k3 (by rw [hx];simp);exact ⟨rfl,_,by simp [Instr.lookup,run_underlying hu,hgo,hp.2 _ _ w hfit,h3],Fm g2 (ax.lit _)⟩
  | false=>
   simp only [aa9,ab1,aa5,abl] at h;obtain ⟨rfl,rfl,rfl⟩:=h;obtain ⟨r,k1,k2,k3⟩:=key hp;obtain ⟨j,u,rfl,g2⟩:=k2 x hx;have h3:=k3 (by rw [hx];simp);exact ⟨rfl,u,by simp [Instr.lookup,run_underlying hu,hgo,hp.2 _ _ w hfit,h3],g2⟩
 ·rename_i hx;split at h
  ·rename_i z hz;obtain ⟨zv,hzv,hzd⟩:=qZ (w:=w) (I:=I) hz;cases ok with
   | true=>
    simp only [ab0,aa5,abl] at h;obtain ⟨rfl,rfl,rfl⟩:=h;obtain ⟨r,k1,k2,k3⟩:=key hp;have h3:=k3 (by rw [hx];simp);rw [k1 hx] at h3;exact ⟨rfl,_,by simp [Instr.lookup,run_underlying hu,hgo,hp.2 _ _ w hfit,h3,hzv],Fm hzd (ax.lit _)⟩
   | false=>
    simp only [aa9,ab1,aa5,abl] at h;obtain ⟨rfl,rfl,rfl⟩:=h;obtain ⟨r,k1,k2,k3⟩:=key hp;have h3:=k3 (by rw [hx];simp);rw [k1 hx] at h3;exact ⟨rfl,zv,by simp [Instr.lookup,run_underlying hu,hgo,hp.2 _ _ w hfit,h3,hzv],hzd⟩
  ·cases h
 ·cases h
theorem Iv {t:Nat} {m k x:V} {p:Prop} {v:V} {σ':ak} {mv kv xv:Value} (h:Ui P t m k x σ=some (p,v,σ')) (hp:p) (hm:de w I β σ nx) (hdm:aL w I β m mv) (hdk:aL w I β k kv) (hdx:aL w I β x xv) :
 ∃w',(Instr.mapUpdate t mv kv xv).run P w = .ok () w'∧v = .unk∧ay w I β σ nx w' I β σ' nx:=by
 unfold Ui at h;split at h;rotate_left
 ·cases h
 rename_i e kt id ds y ht;obtain ⟨hu,fs,hk⟩:=xd ht;obtain ⟨b,cap,hb,rfl⟩:=hdm;have hdy:ax w I y xv:=hdx;split at h;rotate_left
 ·cases h
 rename_i ks vs es hck hlt hg;have hfit:=mY hlt hck;obtain ⟨cs,rfl,hl,_,hcs⟩:=jm hdk;have hvs:=kh hlt hl hcs;subst hvs;obtain ⟨b',cap',ents,clock,q1,q2,q3,q4,q5⟩:=hm.own id _ hg;rw [hb] at q1;injection q1 with q1;injection q1 with q1;injection q1 with q1 _;subst q1;have hgo:(getObj b).run P w = .ok (.map ents clock) w:=by simp [getObj,Sem.run,q2]
 split at h;rotate_left
 ·cases h
 rename_i hx;simp only [aa5,abl] at h;obtain ⟨rfl,rfl,rfl⟩:=h;have F:=sn (w:=w) (I:=I) hp.1 hfit es ents.toList 0 (by simpa using q4) (fun j k x hj=>by
  obtain ⟨m,m1,m2,m3⟩:=q5 j k x hj;exact ⟨m,by simpa using m1,m2,m3⟩)
 have h3:(Instr.findKey kt (.agg cs.toArray) ents.toList).run P w = .ok none w:=by rw [wQ hk];exact F.1 hx
 have hck':=hp.2 false cs w hfit;have hlt':b<w.heap.size:=((hm.own id _ hg).not_imm hb).2;have hnb : ∀o:Obj,∀k,k≠b→({ w with heap:=w.heap.setIfInBounds b o } : World).heap[k]? = w.heap[k]? :=fun o k hk=>by simp [acG (acx hk)]
 have kp : ∀ {o:Obj} {z:D} {u:Value},ax w I z u→ax { w with heap:=w.heap.setIfInBounds b o } I z u:=fun {o} {z} {u} hd=>ax.keep (w:=w) (fun k hk=>hnb o k (fun e=>q3 (e▸hk))) (fun _ h=>h) hd
 refine ⟨{ w with heap:=w.heap.setIfInBounds b (.map (ents.push { key:= .agg cs.toArray,val:=xv,born:=clock }) (clock+1)) },?_,rfl,ay.setObj hm hg hb _ ⟨b,cap,ents.push { key:= .agg cs.toArray,val:=xv,born:=clock },clock+1,hb,by simp [hlt'],q3,by simp [q4],fun j k z hj =>?_⟩⟩
 ·simp only [Instr.mapUpdate,Sem.run_bind,run_underlying hu,Result.andThen_ok,hgo,hck',h3];simp only [setObj,Sem.run,q2]
 ·rcases acN j es.length with hj'|hj'|hj'
  ·rw [ab3 hj'] at hj;obtain ⟨m,m1,m2,m3⟩:=q5 j k z hj;refine ⟨m,?_,m2,kp m3⟩;rw [Array.getElem?_push,aaY (by omega)];exact m1
  ·subst hj';rw [abZ (aaV _)] at hj;simp only [ac4,abq,aa5,abl] at hj;obtain ⟨rfl,rfl⟩:=hj;exact ⟨{ key:= .agg cs.toArray,val:=xv,born:=clock },by rw [←q4];exact adW,rfl,kp hdy⟩
  ·rw [abz (by simp;omega)] at hj;cases hj
theorem Im {t:Nat} {m k:V} {ok:Bool} {p:Prop} {v:V} {new:ak} {mv kv:Value} (h:R6 P t m k ok σ=some (p,v,new)) (hp:p) (hm:de w I β σ nx) (hdm:aL w I β m mv) (hdk:aL w I β k kv) :
 new=σ ∧ ∃u,(Instr.lookup t mv kv ok).run P w = .ok u w∧aL w I β v u:=by
 unfold R6 at h;split at h;rotate_left
 ·exact In h hp hm hdm hdk
 rename_i e kq id kk n ht;obtain ⟨kt,hu,hk⟩:=xe ht;obtain ⟨b,cap,hb,rfl⟩:=hdm;have hkv:=aA hdk;subst hkv;split at h;rotate_left
 ·cases h
 rename_i es hg;obtain ⟨b',cap',ents,clock,q1,q2,q3,q4,q5⟩:=hm.own id _ hg;rw [hb] at q1;injection q1 with q1;injection q1 with q1;injection q1 with q1 _;subst q1;have F:=l9 (w:=w) (I:=I) (kk:=kk) (q:=kq) (n:=n) es ents.toList 0 (by simpa using q4) (fun j k x hj=>by
  obtain ⟨m,m1,m2,m3⟩:=q5 j k x hj;exact ⟨m,by simpa using m1,m2,m3⟩)
 have hck:=nN (P:=P) (q:=kk) (n:=n) hk ents.isEmpty w 9999;have hfk : ∀r,Instr.findNow (.int kq) (.int kk n) ents.toList 0=some r→(Instr.findKey kt (.int kk n) ents.toList).run P w = .ok r w:=fun r hr=>by
  simp [Instr.findKey,run_underlying hk,hr]
 have hgo:(getObj b).run P w = .ok (.map ents clock) w:=by simp [getObj,Sem.run,q2]
 split at h
 ·rename_i x hx;obtain ⟨j,u,g1,g2⟩:=F.2 x hx;have h3:=hfk _ g1;cases ok with
  | true=>
   simp only [ab0,aa5,abl] at h;obtain ⟨_,rfl,rfl⟩:=h;exact ⟨rfl,_,by simp [Instr.lookup,run_underlying hu,hgo,hck,h3],Fm g2 (ax.lit _)⟩
  | false=>
   simp only [aa9,ab1,aa5,abl] at h;obtain ⟨_,rfl,rfl⟩:=h;exact ⟨rfl,u,by simp [Instr.lookup,run_underlying hu,hgo,hck,h3],g2⟩
 ·rename_i hx;have h3:=hfk _ (F.1 hx);split at h
  ·rename_i z hz;obtain ⟨zv,hzv,hzd⟩:=qZ (w:=w) (I:=I) hz;cases ok with
   | true=>
    simp only [ab0,aa5,abl] at h;obtain ⟨_,rfl,rfl⟩:=h;exact ⟨rfl,_,by simp [Instr.lookup,run_underlying hu,hgo,hck,h3,hzv],Fm hzd (ax.lit _)⟩
   | false=>
    simp only [aa9,ab1,aa5,abl] at h;obtain ⟨_,rfl,rfl⟩:=h;exact ⟨rfl,zv,by simp [Instr.lookup,run_underlying hu,hgo,hck,h3,hzv],hzd⟩
  ·cases h
 ·cases h
theorem Iu {t:Nat} {m k x:V} {p:Prop} {v:V} {σ':ak} {mv kv xv:Value} (h:Sa P t m k x σ=some (p,v,σ')) (hp:p) (hm:de w I β σ nx) (hdm:aL w I β m mv) (hdk:aL w I β k kv) (hdx:aL w I β x xv) :
 ∃w',(Instr.mapUpdate t mv kv xv).run P w = .ok () w'∧v = .unk∧ay w I β σ nx w' I β σ' nx:=by
 unfold Sa at h;split at h;rotate_left
 ·exact Iv h hp hm hdm hdk hdx
 rename_i e id kk n y ht;obtain ⟨e,kq⟩:=e;obtain ⟨kt,hu,hk⟩:=xe ht;obtain ⟨b,cap,hb,rfl⟩:=hdm;have hkv:=aA hdk;subst hkv;have hdy:ax w I y xv:=hdx;split at h;rotate_left
 ·cases h
 rename_i es hg;obtain ⟨b',cap',ents,clock,q1,q2,q3,q4,q5⟩:=hm.own id _ hg;rw [hb] at q1;injection q1 with q1;injection q1 with q1;injection q1 with q1 _;subst q1;have F:=l9 (w:=w) (I:=I) (kk:=kk) (q:=kq) (n:=n) es ents.toList 0 (by simpa using q4) (fun j k x hj=>by
  obtain ⟨m,m1,m2,m3⟩:=q5 j k x hj;exact ⟨m,by simpa using m1,m2,m3⟩)
 have hck:=nN (P:=P) (q:=kk) (n:=n) hk false w 9999;have hgo:(getObj b).run P w = .ok (.map ents clock) w:=by simp [getObj,Sem.run,q2]
 split at h;rotate_left
 ·cases h
 rename_i hx;have h3:(Instr.findKey kt (.int kk n) ents.toList).run P w = .ok none w:=by simp [Instr.findKey,run_underlying hk,F.1 hx]
 simp only [aa5,abl] at h;obtain ⟨_,rfl,rfl⟩:=h;have hlt:b<w.heap.size:=((hm.own id _ hg).not_imm hb).2;have hnb : ∀o:Obj,∀k,k≠b→({ w with heap:=w.heap.setIfInBounds b o } : World).heap[k]? = w.heap[k]? :=fun o k hk=>by simp [acG (acx hk)]
 have kp : ∀ {o:Obj} {z:D} {u:Value},ax w I z u→ax { w with heap:=w.heap.setIfInBounds b o } I z u:=fun {o} {z} {u} hd=>ax.keep (w:=w) (fun k hk=>hnb o k (fun e=>q3 (e▸hk))) (fun _ h=>h) hd
 refine ⟨{ w with heap:=w.heap.setIfInBounds b (.map (ents.push { key:= .int kk n,val:=xv,born:=clock }) (clock+1)) },?_,rfl,ay.setObj hm hg hb _ ⟨b,cap,ents.push { key:= .int kk n,val:=xv,born:=clock },clock+1,hb,by simp [hlt],q3,by simp [q4],fun j k z hj =>?_⟩⟩
 ·simp only [Instr.mapUpdate,Sem.run_bind,run_underlying hu,Result.andThen_ok,hgo,hck,h3];simp only [setObj,Sem.run,q2]
 ·rcases acN j es.length with hj'|hj'|hj'
  ·rw [ab3 hj'] at hj;obtain ⟨m,m1,m2,m3⟩:=q5 j k z hj;refine ⟨m,?_,m2,kp m3⟩;rw [Array.getElem?_push,aaY (by omega)];exact m1
  ·subst hj';rw [abZ (aaV _)] at hj;simp only [ac4,abq,aa5,abl] at hj;obtain ⟨rfl,rfl⟩:=hj;exact ⟨{ key:= .int kk n,val:=xv,born:=clock },by rw [←q4];exact adW,rfl,kp hdy⟩
  ·rw [abz (by simp;omega)] at hj;cases hj
end
def JQ (k:Nat) (x:D):Prop:=x.cells.length=k∧(V.d x).cellOk=true
def jg (k:Nat):List D→Prop
 | []=>True
 | x::r=>JQ k x∧jg k r
def zD:Nat→List (Nat × V)→Option (List D)
 | _,[]=>some []
 | n,(i,.d x)::r=>if i=n then (zD (n+1) r).map (x :: ·) else none
 | _,_::_=>none
abbrev j3:=Option (Prop × V × ak)
def Hd (v:V):Option (List V):=if v.cellOk=true then some v.cellsV else match v with
 | .fn f cs=>some [.fn f cs]
 | _=>none
def ob (P:Program) (t:Nat):Option (Nat × Nat):=
 match P.underlying t with
 | some (.slice e)=>match P.info? e with
  | some i=>match i.zero with
   | some z=>if z.cells.size=i.size then some (i.size,i.bytes) else none
   | none=>none
  | none=>none
 | _=>none
def QD (P:Program) (t:Nat):Option (Nat × Nat × D):=
 match P.underlying t with
 | some (.slice e)=>match P.info? e with
  | some i=>match i.zero with
   | some z=>if z.cells.size=i.size∧z.cells.toList.all (·.oneCell')=true then some (i.size,i.bytes,match z with | .agg cs=> .agg (cs.toList.map .lit)|v=> .lit v) else none
   | none=>none
  | none=>none
 | _=>none
def fM (k:Nat) (σ:ak) (x:V):Option (Prop × List D):=
 match x with
 | .d (.sd k' _ es)=>if k'=k then some (True,es) else none
 | .d (.lit (.slice none 0 _))=>some (True,[])
 | .d (.ne _)=>some (True,[])
 | .so id k' lo n=>match σ.get id with
  | some (.row k'' es _)=>if k'=k∧k''=k then some (lo+n≤es.length,(es.drop lo).take n) else none
  | _=>none
 | .d (.lit (.string s))=>if k=1 then some (True,s.data.toList.map fun b=> .lit (.int .u8 b.toNat)) else none
 | _=>none
def mR (P:Program) (t:Nat) (x:V):Bool:=
 match cX P t,x with
 | some .string,.d (.lit (.string _))=>true
 | some .string,_=>false
 | some .slice,.d (.lit (.string _))=>false
 | some .slice,_=>true
 | _,_=>false
def fU (n bytes:Nat):Prop:=n≤140737488355328∧n*bytes≤140737488355328
def TR (P:Program) (t:Nat):Option Nat:=match P.underlying t with
 | some (.slice e)=>some e
 | _=>none
def Tq (P:Program) (t:Nat) (x:V):Option Nat:=match x with
 | .d (.lit (.string _))=>TR P t
 | _=>none
def R1 (P:Program) (t:Nat) (tq:Option Nat):Option Nat:=match tq with
 | none=>none
 | some e=>if TR P t=some e then some e else none
def Ns (P:Program) (t:Nat):Option Nat:=match P.underlying t with
 | some (.pointer u)=>some u
 | _=>none
def Mr (P:Program) (t:Nat):Option Nat:=match P.underlying t with
 | some (.struct fs)=>match fs.toList with
  | f::_=>if Ns P f.type=some t then some t else none
  | []=>none
 | _=>none
def jR (P:Program) (t:Nat):Option (List Value × Option Nat):=(XJ P t).map fun zs=>(zs,Mr P t)
theorem Ms {P:Program} {t:Nat} : (Mr P t).getD t=t:=by
 unfold Mr;split
 ·split
  ·split<;>rfl
  ·rfl
 ·rfl
theorem Nd {P:Program} {t:Nat} {zs:List Value} {tq:Option Nat} (h:jR P t=some (zs,tq)):XJ P t=some zs∧tq.getD t=t:=by
 unfold jR at h;simp only [aaZ,abl] at h;obtain ⟨a,h1,rfl,rfl⟩:=h;exact ⟨h1,Ms⟩
theorem SL {P:Program} {t e:Nat} (h:P.underlying t=some (.slice e)) (x:V):(Tq P t x).getD e=e:=by
 unfold Tq;split
 ·simp [TR,h]
 ·rfl
theorem R2 {P:Program} {t e:Nat} (h:P.underlying t=some (.slice e)) (tq:Option Nat):(R1 P t tq).getD e=e:=by
 unfold R1;split
 ·rfl
 ·split
  ·rename_i h1;simp only [TR,h,aa5] at h1;simp [h1]
  ·rfl
theorem Lm {P:Program} {t u:Nat} (tq:Option Nat):(R1 P t tq).getD (tq.getD u)=tq.getD u:=by
 unfold R1;split
 ·rfl
 ·split<;>rfl
def rq (P:Program) (t t':Nat) (s x:V) (σ:ak) (id:Nat):j3:=
 match ob P t with
 | some (k,bytes)=>if mR P t' x=true then (match fM k σ x with
  | some (p,new)=>match s with
   | .d (.lit (.slice none 0 0))=>some (p∧fU new.length bytes,.so id k 0 new.length,[(id,.row k new (Tq P t x))])
   | .d (.sd k' true es)=>if k'=k then some (p∧fU (es++new).length bytes∧(es=[]∨new≠[]),.so id k 0 (es++new).length,[(id,.row k (es++new) (Tq P t x))]) else none
   | _=>none
  | none=>none) else none
 | none=>none
def aR (P:Program) (op:Op) (g:Operand→V) (σ:ak) (id:Nat):j3:=
 match op with
 | .alloc t=>match jR P t with
  | some (zs,tq)=>if zs.all (·.oneCell')=true then some (True,.po id 0,[(id,.cell (zs.map fun v=> .d (.lit v)) tq)]) else none
  | none=>none
 | .box _ x=>match Hd (g x) with
  | some cs=>some (True,.po id 0,[(id,.cell cs)])
  | none=>none
 | .buildSlice t n parts=>match ob P t,zD 0 (parts.toList.map fun p=>(p.1,g p.2)) with
  | some (k,_),some es=>if es.length=n∧n*k≤16777216 then some (jg k es,.so id k 0 n,[(id,.row k es)]) else none
  | _,_=>none
 | .range t x=>match cX P t,g x with
  | some .string,.d (.lit (.string s))=>some (True,.it id,[(id,.iter s 0)])
  | _,_=>none
 | .makeSlice t l c=>match lH (g l),lH (g c),QD P t with
  | some l,some c,some (k,bytes,z)=>some (0≤l∧l≤c∧c≤1099511627776∧c*bytes≤140737488355328,.so id k 0 l.toNat,[(id,.row k (List.replicate l.toNat z))])
  | _,_,_=>none
 | .call c=>match c.callee,c.args.toList,c.argTypes.toList with
  | .builtin .append,[s,x],[t,t']=>rq P t t' (g s) (g x) σ id
  | _,_,_=>none
 | .makeMap _ none=>some (True,.mo id,[(id,.map [])])
 | _=>none
section
variable {P:Program} {w:World} {I:Nat→Prop} {β:co} {σ:ak} {nx:Nat}
theorem nP {t:Nat} {i:TypeInfo} {z:Value} (hi:P.info? t=some i) (hz:i.zero=some z) (w:World):(zeroValue t).run P w = .ok z w:=by simp [zeroValue,typeInfo,hi,hz]
theorem Nj {t:Nat} {zs:List Value} (h:XJ P t=some zs) : ∃i z,P.info? t=some i∧i.zero=some z∧z.cells.toList=zs:=by
 unfold XJ at h;cases hi:P.info? t with
 | none=>simp [hi] at h
 | some i=>
  cases hz:i.zero with
  | none=>simp [hi,hz] at h
  | some z=>simp [hi,hz] at h;exact ⟨i,z,rfl,hz,h⟩
theorem rC {v:V} {cs:List V} {x:Value} (h:Hd v=some cs) (hd:aL w I β v x):cs.length=x.cells.size ∧ ∀(i:Nat) c,cs[i]? = some c → ∃u,x.cells[i]? = some u∧u.oneCell'=true∧aL w I β c u:=by
 unfold Hd at h;split at h
 ·rename_i hc;injection h with h;subst h;obtain ⟨h1,h2⟩:=l5 hd hc;have hl:v.cellsV.length=x.cells.size:=by have:=h1.1;simpa using this
  refine ⟨hl,fun i c hi =>?_⟩;have hlt:i<x.cells.size:=by have:=(aaX.1 hi).1;omega
  refine ⟨x.cells[i],by simp [hlt],h2 _ (by simp),?_⟩;have:=h1.2 i c x.cells[i] hi (by simp [hlt]);cases c<;>first|exact this|exact this.elim
 ·split at h
  ·rename_i f cs' hn;injection h with h;subst h;obtain ⟨vs,rfl,hv⟩:=(show ∃vs:List Value,x = .func (.func f) #[] vs.toArray∧bY w I β cs' vs from hd)
   refine ⟨rfl,fun i c hi =>?_⟩;match i,hi with
   | 0,hi=>simp at hi;subst hi;exact ⟨_,rfl,rfl,vs,rfl,hv⟩
  ·cases h
theorem N6 {id:Nat} {x:Option (Nat × Nat)} (h:β id=none) {o:Obj} (hI : ∀b,I b→b<w.heap.size) {v:V} {u:Value} (hd:aL w I β v u):aL (w.alloc o) I (oh β id x) v u:=
 hd.keep (fun b hb=>RowKit.Below.heap_alloc w o b (hI b hb)) (fun _ h=>h) (ii h)
theorem nl (w:World) (o:Obj):(w.alloc o).heap[w.heap.size]? = some o:=by
 show (w.heap.push o)[w.heap.size]? = _;simp
theorem xj (hm:de w I β σ nx) {id:Nat} (hid:β id=none) (hlt:id<nx) (t:Nat) {tq:Option Nat} (hty:tq.getD t=t) {cs:List V} {cur:Array Value} (hcs : ∀(i:Nat) c,cs[i]? = some c → ∃u,cur[i]? = some u∧u.oneCell'=true∧aL w I β c u) :
 ay w I β σ nx (w.alloc (.cells cur t)) I (oh β id (some (w.heap.size,0))) ((id,.cell cs tq)::σ) nx:=by
 refine ay.alloc hm hid hlt _ 0 _ ⟨w.heap.size,0,cur,t,aX _ _ _,by rw [hty];exact nl _ _,fun h =>?_,fun i c hi =>?_⟩
 ·have:=hm.lt _ h;omega
 ·obtain ⟨u,h1,h2,h3⟩:=hcs i c hi;exact ⟨u,h1,h2,N6 hid hm.lt h3⟩
theorem zc (hm:de w I β σ nx) {id:Nat} (hid:β id=none) (hlt:id<nx) (t:Nat) {tq:Option Nat} (hty:tq.getD t=t) {k cap:Nat} {es:List D} {vs:List Value} {cur:Array Value} (hr:aJ w I k es vs) (hcap:es.length≤cap) (hsz:cap*k≤cur.size)
 (hpre : ∀(m:Nat) v,vs[m]? = some v→cur[m]? = some v) :
 ay w I β σ nx (w.alloc (.cells cur t)) I (oh β id (some (w.heap.size,cap))) ((id,.row k es tq)::σ) nx:=by
 refine ay.alloc hm hid hlt _ cap _ ?_;have hr':aJ (w.alloc (.cells cur t)) I k es vs:=hr.keep (fun b hb=>RowKit.Below.heap_alloc w _ b (hm.lt b hb)) (fun _ h=>h);exact hr'.own (aX _ _ _) (nl _ _) hty (by intro h;have:=hm.lt _ h;omega) hcap hsz hpre
theorem ro {t k bytes:Nat} (h:ob P t=some (k,bytes)) : ∃e i z,P.underlying t=some (.slice e)∧P.info? e=some i∧i.zero=some z∧z.cells.size=k∧i.size=k∧i.bytes=bytes:=by
 unfold ob at h;split at h
 ·rename_i e he;split at h
  ·rename_i i hi;split at h
   ·rename_i z hz;split at h
    ·rename_i hs;injection h with h;injection h with h1 h2;exact ⟨e,i,z,he,hi,hz,by omega,h1,h2⟩
    ·cases h
   ·cases h
  ·cases h
 ·cases h
structure Q1 (P:Program) (w:World) (I:Nat→Prop) (k:Nat) (t':Nat) (x:Value) (new:List D) (vs:List Value):Prop where
 vals:aJ w I k new vs
 ty : ∃d,P.underlying t'=some d ∧ ∀k,d ≠ .int k
 len : ∀w',(Builtin.lenOf x).run P w' = .ok new.length w'
 cells' : ∀(m:Nat) w',m≤new.length→(∀b o,w'.cell? ⟨b,o,none⟩=w.cell? ⟨b,o,none⟩)→(Builtin.firstCells k m x).run P w' = .ok (vs.take (m*k)).toArray w'
theorem Q1.cells {k t':Nat} {x:Value} {new:List D} {vs:List Value} (h:Q1 P w I k t' x new vs) (w':World) (hw : ∀b o,w'.cell? ⟨b,o,none⟩=w.cell? ⟨b,o,none⟩):(Builtin.firstCells k new.length x).run P w' = .ok vs.toArray w':=by
 have:=h.cells' new.length w' (aaV _) hw;rwa [aaW (by rw [h.vals.1];exact aaV _)] at this
theorem iu {k n b q len cap:Nat} {vs:List Value} (hl:vs.length=n*k) (h : ∀(m:Nat) v,vs[m]? = some v→w.cell? ⟨b,q+m,none⟩=some v) :
 (Builtin.firstCells k n (.slice (some ⟨b,q,none⟩) len cap)).run P w = .ok vs.toArray w:=
 run_firstCells_some w k n ⟨b,q,none⟩ len cap vs hl (fun j v hj=>by rw [dP];exact h j v hj)
theorem kb {k n m b q len cap:Nat} {vs:List Value} (hl:vs.length=n*k) (hmn:m≤n) (h : ∀(m:Nat) v,vs[m]? = some v→w.cell? ⟨b,q+m,none⟩=some v) :
 (Builtin.firstCells k m (.slice (some ⟨b,q,none⟩) len cap)).run P w = .ok (vs.take (m*k)).toArray w:=by
 refine iu (n:=m) ?_ (fun j v hj =>?_)
 ·have:m*k≤n*k:=abQ k hmn;simp;omega
 ·rw [abW] at hj;split at hj
  ·exact h j v hj
  ·cases hj
theorem sJ {t:Nat} {kd:Kd} (h:cX P t=some kd) (hk:kd = .string∨kd = .slice) : ∃d,P.underlying t=some d ∧ ∀k,d ≠ .int k:=by
 rcases hk with rfl|rfl
 ·exact ⟨_,dE h,fun k e=>by cases e⟩
 ·obtain ⟨e,he⟩:=fx h;exact ⟨_,he,fun k e=>by cases e⟩
theorem DE {t:Nat} {x:V} (h:mR P t x=true) : ∃d,P.underlying t=some d ∧ ∀k,d ≠ .int k:=by
 unfold mR at h;split at h
 ·rename_i hk;exact sJ hk (.inl rfl)
 ·cases h
 ·cases h
 ·rename_i hk _;exact sJ hk (.inr rfl)
 ·cases h
theorem aJ.piece {k:Nat} {es:List D} {vs:List Value} (h:aJ w I k es vs) (lo n:Nat):aJ w I k ((es.drop lo).take n) ((vs.drop (lo*k)).take (min n (es.length - lo)*k)):=by
 obtain ⟨h1,h2,h3⟩:=h;refine ⟨?_,fun x hx=>h2 x (abU (abm hx)),fun i e hi =>?_⟩
 ·simp only [aa7,abg,h1];rw [←Nat.sub_mul];have:min n (es.length - lo)*k≤(es.length - lo)*k:=abQ k (by omega);omega
 ·simp only [abW,abJ] at hi;split at hi
  ·rename_i hlt;obtain ⟨g1,g2⟩:=h3 _ e hi;refine ⟨g1,fun j c hj =>?_⟩;obtain ⟨v,hv,hd⟩:=g2 j c hj;refine ⟨v,?_,hd⟩;have hlo:lo+i<es.length:=(aaX.1 hi).1;have hjk:j<k:=by rw [←g1];exact (aaX.1 hj).1
   have hb:i*k+j<min n (es.length - lo)*k:=by
    have:(i+1)*k≤min n (es.length - lo)*k:=abQ k (by omega);rw [abV] at this;omega
   rw [abW,aa3 hb,abJ,←acI,←abV];exact hv
  ·cases hi
theorem zK {k:Nat} {σ0:ak} {x:V} {xv:Value} {new:List D} {t':Nat} (hm:de w I β σ nx) (hs : ∀i b,σ0.get i=some b→σ.get i=some b) {p:Prop} (h:fM k σ0 x=some (p,new)) (hp:p) (hk:mR P t' x=true) (hd:aL w I β x xv) : ∃vs,Q1 P w I k t' xv new vs:=by
 have hty:=DE hk;unfold fM at h;split at h
 ·split at h
  ·rename_i hkk;subst hkk;injection h with h;injection h with _ h;subst h;have hd':ax w I _ xv:=hd;cases hd' with
   | sd _ _ _ b o cap val hI hk2 hc ho hdd hcap hfull=>
    obtain ⟨vs,v1,v2⟩:=aJ.of_cells (w:=w) (I:=I) (k:=_) (b:=b) (q:=o) (fun i e hi=>⟨hk2 i e hi,fun m c hmm=>⟨_,hc i e m c hi hmm,ho i e m c hi hmm,hdd i e m c hi hmm⟩⟩);exact ⟨vs,v1,hty,fun w'=>rfl,fun m w' hmn hw=>kb v1.1 hmn (fun m v hv=>(hw _ _).trans (v2 m v hv))⟩
   | sd0 _ _ a=>
    refine ⟨[],aJ.nil,hty,fun w'=>rfl,fun m w' hmn _ =>?_⟩;have:m=0:=by simpa using hmn
    subst this;cases a with
    | none=>simp [Builtin.firstCells]
    | some a=>simp [Builtin.firstCells,loadCells,loadCellsFrom]
  ·cases h
 ·injection h with h;injection h with _ h;subst h;have:=aA hd;subst this;exact ⟨[],aJ.nil,hty,fun w'=>rfl,fun m w' hmn _=>by simp [Builtin.firstCells]⟩
 ·injection h with h;injection h with _ h;subst h;obtain ⟨a,c,rfl⟩:=yy hd;refine ⟨[],aJ.nil,hty,fun w'=>rfl,fun m w' hmn _ =>?_⟩;have:m=0:=by simpa using hmn
  subst this;simp [Builtin.firstCells,loadCells,loadCellsFrom]
 ·rename_i id k' lo n;split at h
  ·rename_i k'' es tq hg;split at h
   ·rename_i hkk;obtain ⟨rfl,rfl⟩:=hkk;injection h with h;injection h with hp' h;subst h;subst hp';rcases hd with ⟨hb,rfl,rfl,a,rfl⟩|⟨b,cap,c,hb,g1,g2,rfl⟩
    ·refine ⟨[],by simpa using aJ.nil,hty,fun w'=>by simp [Builtin.lenOf],fun m w' hmn _ =>?_⟩;have:m=0:=by simpa using hmn
     subst this;cases a with
     | none=>simp [Builtin.firstCells]
     | some a=>simp [Builtin.firstCells,loadCells,loadCellsFrom]
    ·obtain ⟨cur,t,vs,h1,h2,h3,h4,h5,h6⟩:=hm.row_vals (hs _ _ hg) hb;have hpc:=h5.piece lo n;refine ⟨_,hpc,hty,fun w'=>by simp [Builtin.lenOf];omega,fun m w' hmn hw =>?_⟩;have hl:((es.drop lo).take n).length=n:=by simp;omega
     refine kb hpc.1 hmn (fun m v hv =>?_);rw [hw];simp only [abW,abJ] at hv;split at hv
     ·simp [World.cell?,h1,h6 _ v hv]
     ·cases hv
   ·cases h
  ·cases h
 ·rename_i s;split at h
  ·rename_i hk1;subst hk1;injection h with h;injection h with _ h;subst h;have:=aA hd;subst this;refine ⟨s.data.toList.map fun b=> .int .u8 b.toNat,⟨by simp,by simp [Value.oneCell'],fun i e hi =>?_⟩,hty,fun w'=>by simp [Builtin.lenOf],fun m w' hmn _ =>?_⟩
   ·simp only [abp,aaZ] at hi;obtain ⟨y,hy,rfl⟩:=hi;refine ⟨rfl,fun j c hj =>?_⟩;match j,hj with
    | 0,hj=>
     simp [D.cells] at hj;subst hj;exact ⟨_,by simp [hy],ax.lit _⟩
   ·simp only [Builtin.firstCells];refine congrArg (fun z=>Result.ok z w') ?_;apply abx.1;simp
  ·cases h
 ·cases h
theorem AM {t t' ty:Nat} {k bytes:Nat} {e:Nat} {i:TypeInfo} {z:Value} (ht:P.underlying t=some (.slice e)) (hi:P.info? e=some i) (hz:i.zero=some z) (hk:i.size=k) (hby:i.bytes=bytes)
 {x:Value} {new:List D} {vs:List Value} (hs:Q1 P w I k t' x new vs) {base:Option Addr} {sLen sCap:Nat} {olds:List Value}
 (ho : ∀w',(∀b o,w'.cell? ⟨b,o,none⟩=w.cell? ⟨b,o,none⟩)→(Builtin.firstCells k sLen (.slice base sLen sCap)).run P w' = .ok olds.toArray w')
 (hn:sCap<sLen+new.length) (hf:fU (sLen+new.length) bytes) :
 (Builtin.append_ #[t,t'] ty #[.slice base sLen sCap,x]).run P w = .ok (.slice (some ⟨w.heap.size,0,none⟩) (sLen+new.length) (grownCap w (sLen+new.length) sCap e))
  (w.drew.alloc (.cells (olds.toArray++vs.toArray++Builtin.zeroCells z.cells (grownCap w (sLen+new.length) sCap e - (sLen+new.length))) e)):=by
 subst hk;subst hby;obtain ⟨d,hd,hnd⟩:=hs.ty;have h1 : ¬(sLen+new.length≤sCap):=by omega
 have h63' : ¬(9223372036854775807<((sLen:Int)+(new.length:Int))):=by have:=hf.1;omega
 have h48:=growslice_fits hn hf.2;have h48' : ¬(281474976710656<Builtin.nextslicecap (sLen+new.length) sCap*i.bytes):=by omega
 have hf1:=hs.cells w.drew (fun b o=>rfl);have hf2:=ho w.drew (fun b o=>rfl);have hl:=hs.len;simp [Builtin.append_,run_underlying ht,run_underlying hd,sizeOf,typeInfo,zeroValue,hi,hz,hl,h1,h63',h48',Question.forced,hf1,hf2,newRow,grownCap];congr 2;apply aeg;simp [aba]
theorem rr {t t' ty:Nat} {k:Nat} {e:Nat} {i:TypeInfo} (ht:P.underlying t=some (.slice e)) (hi:P.info? e=some i) (hk:i.size=k)
 {x:Value} {new:List D} {vs:List Value} (hs:Q1 P w I k t' x new vs) {base:Option Addr} {sLen sCap:Nat} {w1:World} (hn:sLen+new.length≤sCap)
 (hst:(match base with|some a=>storeCells (a.add (sLen*k)) vs|none=>pure ()).run P w = .ok () w1) :
 (Builtin.append_ #[t,t'] ty #[.slice base sLen sCap,x]).run P w = .ok (.slice base (sLen+new.length) sCap) w1:=by
 subst hk;obtain ⟨d,hd,hnd⟩:=hs.ty;have hf1:=hs.cells w (fun b o=>rfl);have hl:=hs.len;cases base with
 | none=>
  simp at hst;subst hst;simp [Builtin.append_,run_underlying ht,run_underlying hd,sizeOf,typeInfo,hi,hl,hn,hf1]
 | some a=>
  simp only at hst;simp [Builtin.append_,run_underlying ht,run_underlying hd,sizeOf,typeInfo,hi,hl,hn,hf1,hst]
theorem H1 {k:Nat} {e need sCap:Nat} {z:Value} {vs:List Value} (hz:z.cells.size=k) (hl:vs.length=need*k) :
 grownCap w need sCap e*k≤(vs.toArray++Builtin.zeroCells z.cells (grownCap w need sCap e - need)).size ∧ ∀(m:Nat) v,vs[m]? = some v→(vs.toArray++Builtin.zeroCells z.cells (grownCap w need sCap e - need))[m]? = some v:=by
 have hge:=grownCap_ge w need sCap e;constructor
 ·rw [Array.size_append,size_zeroCells,hz];simp only [acM,hl];rw [←abV];exact abQ k (by omega)
 ·intro m v hm;have hlt:=(aaX.1 hm).1;rw [Array.getElem?_append_left (by simpa using hlt)];simpa using hm
theorem Q1.drew {k t':Nat} {x:Value} {new:List D} {vs:List Value} (h:Q1 P w I k t' x new vs):aJ w.drew I k new vs:=h.vals.keep (fun _ _=>rfl) (fun _ h=>h)
theorem FB (hm:de w I β σ nx) {id:Nat} (hid:β id=none) (hlt:id<nx) {k e need sCap:Nat} {tq:Option Nat} (hty:tq.getD e=e) {z:Value} {es:List D} {vs:List Value} (hz:z.cells.size=k) (hr:aJ w I k es vs) (hn:es.length=need) :
 ay w I β σ nx (w.drew.alloc (.cells (vs.toArray++Builtin.zeroCells z.cells (grownCap w need sCap e - need)) e)) I (oh β id (some (w.heap.size,grownCap w need sCap e))) ((id,.row k es tq)::σ) nx:=by
 subst hn;obtain ⟨g1,g2⟩:=H1 (w:=w) (e:=e) (sCap:=sCap) (vs:=vs) hz hr.1;refine (ay.drew hm).trans ?_;exact zc hm.drew hid hlt e hty (hr.keep (fun _ _=>rfl) (fun _ h=>h)) (grownCap_ge w _ sCap e) g1 g2
theorem DC {t t' ty:Nat} {s x:V} {σ0:ak} {id:Nat} {p:Prop} {v:V} {new':ak} {sv xv:Value} (h:rq P t t' s x σ0 id=some (p,v,new')) (hp:p) (hm:de w I β σ nx) (hss : ∀i b,σ0.get i=some b→σ.get i=some b)
 (hid:β id=none) (hlt:id<nx) (hds:aL w I β s sv) (hdx:aL w I β x xv) :
 ∃u w' β',(Builtin.append_ #[t,t'] ty #[sv,xv]).run P w = .ok u w'∧aL w' I β' v u∧ay w I β σ nx w' I β' (new'++σ) nx ∧ ∀j,j≠id→β' j=β j:=by
 unfold rq at h;split at h
 ·rename_i k bytes hap;obtain ⟨e,i,z,ht,hi,hz,hzk,hik,hib⟩:=ro hap;split at h
  ·rename_i hkd;split at h
   ·rename_i p' new he;have fin : ∀(base:Option Addr) (es:List D) (olds:List Value),sv = .slice base es.length es.length→aJ w I k es olds →
     (∀w',(∀b o,w'.cell? ⟨b,o,none⟩=w.cell? ⟨b,o,none⟩)→(Builtin.firstCells k es.length (.slice base es.length es.length)).run P w' = .ok olds.toArray w') →
     p'→fU (es++new).length bytes→(es=[]∨new≠[]) →
     ∃u w' β',(Builtin.append_ #[t,t'] ty #[sv,xv]).run P w = .ok u w'∧aL w' I β' (.so id k 0 (es++new).length) u∧ay w I β σ nx w' I β' ([(id,.row k (es++new) (Tq P t x))]++σ) nx ∧ ∀j,j≠id→β' j=β j:=by
     intro base es olds hsv hr hfo hp' hfit hne;subst hsv;obtain ⟨vs,hsrc⟩:=zK (P:=P) (w:=w) (t':=t') hm hss he hp' hkd hdx;by_cases hnil:new=[]
     ·subst hnil;have hes:es=[]:=by rcases hne with h|h;exact h;exact absurd rfl h
      subst hes;have hvs:vs=[]:=abu (by have:=hsrc.vals.1;simpa using this);subst hvs;refine ⟨.slice base 0 0,w,oh β id none,?_,.inl ⟨aX _ _ _,rfl,rfl,base,rfl⟩,ay.nilRow hm hid hlt k,fun j hj=>aP hj⟩;have:=rr (w:=w) (ty:=ty) ht hi hik hsrc (base:=base) (sLen:=0) (sCap:=0) (w1:=w) (by simp) (by cases base<;>rfl);simpa using this
     ·have hpos:0<new.length:=aby.2 hnil;have hg:=AM (w:=w) (ty:=ty) ht hi hz hik hib hsrc (base:=base) (sLen:=es.length) (sCap:=es.length) (olds:=olds) hfo (by omega) (by simpa using hfit);have hr2:=hr.append hsrc.vals;have hst:=FB (e:=e) (sCap:=es.length) (z:=z) hm hid hlt (SL ht x) hzk hr2 (need:=es.length+new.length) (by simp);refine ⟨_,_,_,hg,.inr ⟨w.heap.size,grownCap w (es.length+new.length) es.length e,grownCap w (es.length+new.length) es.length e,aX _ _ _,by omega,by simp;exact grownCap_ge w _ _ e,by simp⟩,?_,fun j hj=>aP hj⟩;have e1:olds.toArray++vs.toArray=(olds++vs).toArray:=by simp
      rw [e1];exact hst
    split at h
    ·injection h with h;injection h with h1 h2;injection h2 with h2 h3;subst h1;subst h2;subst h3;have:=aA hds;subst this;have:=fin none [] [] rfl aJ.nil (fun w' _=>by simp [Builtin.firstCells]) hp.1 (by simpa using hp.2) (.inl rfl);simpa using this
    ·rename_i k' es;split at h
     ·rename_i hkk;subst hkk;injection h with h;injection h with h1 h2;injection h2 with h2 h3;subst h1;subst h2;subst h3;have hd':ax w I _ sv:=hds;cases hd' with
      | sd0 _ _ a=>exact fin a [] [] rfl aJ.nil (fun w' _=>by cases a<;>simp [Builtin.firstCells,loadCells,loadCellsFrom]) hp.1 hp.2.1 hp.2.2
      | sd _ _ _ b o cap val hI hk2 hc ho hdd hcap hfull=>
       have hcl:=hfull rfl;subst hcl;obtain ⟨vs,v1,v2⟩:=aJ.of_cells (w:=w) (I:=I) (k:=k') (b:=b) (q:=o) (es:=es) (fun i e hi=>⟨hk2 i e hi,fun m c hmm=>⟨_,hc i e m c hi hmm,ho i e m c hi hmm,hdd i e m c hi hmm⟩⟩);exact fin _ es vs rfl v1 (fun w' hw=>iu v1.1 (fun m v hv=>(hw _ _).trans (v2 m v hv))) hp.1 hp.2.1 hp.2.2
     ·cases h
    ·cases h
   ·cases h
  ·cases h
 ·cases h
end
def MI (P:Program) (t:Nat) (a x:V) (σ:ak):j3:=
 match cu P t,a with
 | some (s,_),.po i o=>match σ.get i,Hd x with
  | some (.cell cs tq),some xs=>if xs.length=s∧o+s≤cs.length then some (True,.unk,σ.set i (.cell (setAt cs o xs) tq)) else none
  | _,_=>none
 | some (s,_),.pe i k ix j=>match σ.get i,x with
  | some (.row k' es tq),.d y=>if k'=k then (if j=0∧s=k then some (ix<es.length∧JQ k y,.unk,σ.set i (.row k (es.set ix y) tq))
   else if j+s≤k then some (ix<es.length∧JQ s y,.unk,σ.set i (.row k (es.modify ix fun e=> .agg (setAt e.cells j y.cells)) tq)) else none) else none
  | _,_=>none
 | _,_=>none
def uV (P:Program) (t t':Nat) (s x:V) (σ:ak) (id:Nat):j3:=
 match ob P t,s with
 | some (k,bytes),.so i0 k0 lo n=>if mR P t' x=true∧k0=k then (match σ.get i0,fM k σ x with
  | some (.row k' es tq),some (p,new)=>if k'=k then some (p∧lo=0∧n=es.length∧fU (es++new).length bytes,.so id k 0 (es++new).length,(id,.row k (es++new) (R1 P t tq))::σ.del i0) else none
  | _,_=>none) else none
 | _,_=>none
def Qs (P:Program) (t t':Nat) (d x:V) (σ:ak):j3:=
 match oe P t,d with
 | some (k,_),.so i0 k0 lo n=>if mR P t' x=true∧k0=k then (match σ.get i0,fM k σ x with
  | some (.row k' es tq),some (p,new)=>if k'=k then some (p∧lo+n≤es.length,(.d (.lit (.int .i64 ((min new.length n:Nat):Int))):V),σ.set i0 (.row k (setAt es lo (new.take n)) tq)) else none
  | _,_=>none) else none
 | _,_=>none
def NR (P:Program) (t:Nat):Bool:=match P.underlying t with
 | some (.slice e)=>(match P.underlying e with
  | some (.int .u8)=>true
  | _=>false)
 | _=>false
theorem Ki {P:Program} {t:Nat} (h:NR P t=true) : ∃e,P.underlying t=some (.slice e)∧P.underlying e=some (.int .u8):=by
 unfold NR at h;split at h
 ·rename_i e hu;split at h
  ·rename_i he;exact ⟨e,hu,he⟩
  ·cases h
 ·cases h
def oM (y:D):Prop:= ∃n,y = .lit (.int .u8 n)
def jN:D→Int
 | .lit (.int _ n)=>n
 | _=>0
def jh (y:D):UInt8:=UInt8.ofNat (jN y).toNat
def Te (P:Program) (s d:Nat) (x:V) (σ:ak):j3:=
 if (NR P s&&mR P s x)=true∧cX P d=some .string then (match fM 1 σ x with
  | some (p,es)=>some (p ∧ ∀y∈es,oM y,.d (.lit (.string ⟨(es.map jh).toArray⟩)),σ)
  | none=>none) else none
section
variable {P:Program} {w:World} {I:Nat→Prop} {β:co} {σ:ak} {nx:Nat}
theorem qa {t s:Nat} {ag:Bool} (h:cu P t=some (s,ag)) {b q:Nat} {x:Value} {cur:Array Value} {ty:TypeId} (hs:x.cells.size=s) (hh:w.heap[b]? = some (.cells cur ty (0,0))) (hq:q+s≤cur.size) (ho : ∀y∈x.cells.toList,y.oneCell'=true) :
 (Instr.storeAt t (.pointer (some ⟨b,q,none⟩)) x).run P w = .ok () (w.setRow b (Go.Proofs.YtkkanlcjjpoklaaGreatDoor.setAt cur.toList q x.cells.toList).toArray):=by
 have:=dT (P:=P) b ty x.cells.toList q 0 cur w hh (by simp;omega) ho;simp only [Instr.storeAt,Instr.sureAddr,storeVar,Sem.run_bind,Sem.run_pure,Result.andThen_ok,cx h,hs];simpa using this
theorem gB (hm:de w I β σ nx) {id b cap:Nat} {blk:bN} (hg:σ.get id=some blk) (hb:β id=some (some (b,cap))) (cur':Array Value) : ∀k,I k→(w.setRow b cur').heap[k]? = w.heap[k]? :=fun k hk=>
 setRow_other w b k cur' (fun e=>((hm.own id blk hg).not_imm hb).1 (e▸hk))
theorem He {v:V} {cs:List V} {x:Value} (h:Hd v=some cs) (hd:aL w I β v x):(∀y∈x.cells.toList,y.oneCell'=true)∧cs.length=x.cells.toList.length:=by
 obtain ⟨h1,h2⟩:=rC h hd;refine ⟨fun y hy =>?_,by simpa using h1⟩;obtain ⟨i,hi,rfl⟩:=List.mem_iff_getElem.1 hy;have hi':i<x.cells.size:=by simpa using hi
 obtain ⟨u,hu,ho,_⟩:=h2 i cs[i] (IO (by omega));have:x.cells[i]? = some x.cells[i]:=by simp [hi']
 rw [this] at hu;injection hu with hu;simp [hu,ho]
theorem nh {k:Nat} {y:D} {x:Value} (h:JQ k y) (hd:ax w I y x):x.cells.size=k∧(∀u∈x.cells.toList,u.oneCell'=true) ∧ ∀(j:Nat) c,y.cells[j]? = some c → ∃v,x.cells.toList[j]? = some v∧v.oneCell'=true∧ax w I c v:=by
 obtain ⟨g1,g2⟩:=l5 (β:=fun _=>none) (show aL w I (fun _=>none) (.d y) x from hd) h.2;have hl:y.cells.length=x.cells.toList.length:=by have:=g1.1;simpa [V.cellsV] using this
 refine ⟨by have:=h.1;simp at hl;omega,g2,fun j c hj =>?_⟩;have hlt:j<x.cells.toList.length:=by have:=(aaX.1 hj).1;omega
 refine ⟨x.cells.toList[j],IO hlt,g2 _ (ad0 hlt),?_⟩;exact g1.2 j (.d c) _ (by simp [V.cellsV,hj]) (IO hlt)
theorem lj {i ix k n:Nat} (h:i<ix) (hk:n≤k):i*k+n≤ix*k:=by
 have:(i+1)*k≤ix*k:=abQ k h;rw [abV] at this;omega
theorem Jk {t:Nat} {a x:V} {p:Prop} {v:V} {σ':ak} {av xv:Value} (h:MI P t a x σ=some (p,v,σ')) (hp:p) (hm:de w I β σ nx) (hda:aL w I β a av) (hdx:aL w I β x xv) :
 ∃w',(Instr.storeAt t av xv).run P w = .ok () w'∧v = .unk∧ay w I β σ nx w' I β σ' nx:=by
 unfold MI at h;split at h
 ·rename_i s ag i o hld;split at h
  ·rename_i cs tq xs hg hbx;split at h
   ·rename_i hc;obtain ⟨hc1,hc2⟩:=hc;injection h with h;injection h with h1 h2;injection h2 with h2 h3;subst h1;subst h2;subst h3;obtain ⟨b,cap,hb,rfl⟩:=hda;obtain ⟨cur,ty,hh,hnI,hcs⟩:=hm.cell_cells hg hb;obtain ⟨l1,l2⟩:=He hbx hdx;obtain ⟨_,l3⟩:=rC hbx hdx;have hcur:cs.length≤cur.size:=by
     rcases aa2 cur.size cs.length with hlt|hge
     ·obtain ⟨u,hu,_⟩:=hcs cur.size cs[cur.size] (IO hlt);simp at hu
     ·exact hge
    have hx:xv.cells.size=s:=by simp at l2;omega
    refine ⟨_,qa hld hx hh (by omega) l1,rfl,?_⟩;refine ay.setRow hm hg hb hh ⟨b,cap,_,ty,hb,setRow_heap w b cur _ _ (0,0) hh,hnI,fun j c hj =>?_⟩;have kp : ∀ {c:V} {u:Value},aL w I β c u→aL (w.setRow b (Go.Proofs.YtkkanlcjjpoklaaGreatDoor.setAt cur.toList o xv.cells.toList).toArray) I β c u:=fun hd=>hd.keep (gB hm hg hb _) (fun _ h=>h) (fun _ _ h=>h)
    rw [bx (by omega)] at hj;have e:(Go.Proofs.YtkkanlcjjpoklaaGreatDoor.setAt cur.toList o xv.cells.toList).toArray[j]? = (Go.Proofs.YtkkanlcjjpoklaaGreatDoor.setAt cur.toList o xv.cells.toList)[j]? :=by simp
    rw [e,bx (by simp;omega)];split at hj
    ·rename_i h1;obtain ⟨u,u1,u2,u3⟩:=hcs j c hj;exact ⟨u,by rw [aa3 h1];simpa using u1,u2,kp u3⟩
    ·rename_i h1;rw [aaY h1];split at hj
     ·rename_i h2;obtain ⟨u,u1,u2,u3⟩:=l3 _ c hj;exact ⟨u,by rw [aa3 (by omega)];simpa using u1,u2,kp u3⟩
     ·rename_i h2;obtain ⟨u,u1,u2,u3⟩:=hcs j c hj;exact ⟨u,by rw [aaY (by omega)];simpa using u1,u2,kp u3⟩
   ·cases h
  ·cases h
 ·rename_i s ag i k ix j hld;split at h
  ·rename_i k' es tq y hg;split at h
   ·rename_i hk;subst hk;have main : ∀(off:Nat),off+s≤k'→(es':List D)→ix<es.length→JQ s y→es'.length=es.length →
     (∀(i:Nat) e,es'[i]? = some e→(i≠ix∧es[i]? = some e)∨(i=ix∧e.cells.length=k' ∧ ∃e0,es[ix]? = some e0 ∧ ∀(m:Nat) c,e.cells[m]? = some c→(off≤m∧m<off+s∧y.cells[m - off]? = some c)∨(¬(off≤m∧m<off+s)∧e0.cells[m]? = some c))) →
     j=off → ∃w',(Instr.storeAt t av xv).run P w = .ok () w'∧ay w I β σ nx w' I β (σ.set i (.row k' es' tq)) nx:=by
     intro off hoff es' hix hfit hlen hes hj;subst hj;obtain ⟨b,cap,hb,rfl⟩:=hda;obtain ⟨cur,ty,hh,hnI,hcap,hsz,hcs⟩:=hm.row_cells hg hb;obtain ⟨l1,l2,l3⟩:=nh hfit (show ax w I y xv from hdx);have hbnd:ix*k'+k'≤cur.size:=by
      have:(ix+1)*k'≤cap*k':=abQ k' (by omega);rw [abV] at this;omega
     refine ⟨_,qa hld l1 hh (by omega) l2,?_⟩;refine ay.setRow hm hg hb hh (.inr ⟨b,cap,_,ty,hb,setRow_heap w b cur _ _ (0,0) hh,hnI,by omega,?_,fun i e hi =>?_⟩)
     ·simp only [acM];rw [dG (by simp;omega)];simpa using hsz
     ·have kp : ∀ {c:D} {u:Value},ax w I c u→ax (w.setRow b (Go.Proofs.YtkkanlcjjpoklaaGreatDoor.setAt cur.toList (ix*k'+j) xv.cells.toList).toArray) I c u:=fun hd=>hd.keep (gB hm hg hb _) (fun _ h=>h)
      have old : ∀(i:Nat) e0 (m:Nat) c,es[i]? = some e0→e0.cells[m]? = some c→m<k' ∧ ∃v,cur[i*k'+m]? = some v∧v.oneCell'=true∧ax w I c v:=by
       intro i e0 m c h1 h2;obtain ⟨g1,g2⟩:=hcs i e0 h1;obtain ⟨v,v1,v2,v3⟩:=g2 m c h2;refine ⟨by rw [←g1];exact (aaX.1 h2).1,v,?_,v2,v3⟩;simpa [World.cell?,hh] using v1
      have getc : ∀(n:Nat),(Go.Proofs.YtkkanlcjjpoklaaGreatDoor.setAt cur.toList (ix*k'+j) xv.cells.toList).toArray[n]? = if n<ix*k'+j then cur[n]? else if n<ix*k'+j+s then xv.cells.toList[n - (ix*k'+j)]? else cur[n]? :=by
       intro n;have:(Go.Proofs.YtkkanlcjjpoklaaGreatDoor.setAt cur.toList (ix*k'+j) xv.cells.toList).toArray[n]? = (Go.Proofs.YtkkanlcjjpoklaaGreatDoor.setAt cur.toList (ix*k'+j) xv.cells.toList)[n]? :=by simp
       rw [this,bx (by simp;omega)];have hl:xv.cells.toList.length=s:=by simpa using l1
       rw [hl];simp
      rcases hes i e hi with ⟨hne,h0⟩|⟨rfl,hlk,e0,h0,hcell⟩
      ·refine ⟨(hcs i e h0).1,fun m c hm' =>?_⟩;obtain ⟨hmk,v,v1,v2,v3⟩:=old i e m c h0 hm';refine ⟨v,?_,v2,kp v3⟩;rw [getc];rcases Nat.lt_or_gt_of_ne hne with hlt|hgt
       ·have:=lj (n:=k') hlt (aaV _);rw [aa3 (by omega)];exact v1
       ·have:=lj (n:=k') hgt (aaV _);rw [aaY (by omega),aaY (by omega)];exact v1
      ·refine ⟨hlk,fun m c hm' =>?_⟩;rcases hcell m c hm' with ⟨q1,q2,q3⟩|⟨q1,q3⟩
       ·obtain ⟨v,v1,v2,v3⟩:=l3 _ c q3;refine ⟨v,?_,v2,kp v3⟩;rw [getc,aaY (by omega),aa3 (by omega),show i*k'+m - (i*k'+j)=m - j from by omega];exact v1
       ·obtain ⟨hmk,v,v1,v2,v3⟩:=old _ e0 m c h0 q3;refine ⟨v,?_,v2,kp v3⟩;rw [getc];by_cases hlt:i*k'+m<i*k'+j
        ·rw [aa3 hlt];exact v1
        ·rw [aaY hlt,aaY (by omega)];exact v1
    split at h
    ·rename_i hj;obtain ⟨rfl,rfl⟩:=hj;injection h with h;injection h with h1 h2;injection h2 with h2 h3;subst h1;subst h2;subst h3;obtain ⟨w',g1,g2⟩:=main 0 (by omega) (es.set ix y) hp.1 hp.2 (by simp) (fun i e hi=>by
      rw [adq] at hi;split at hi
      ·rename_i hii;subst hii;split at hi
       ·injection hi with hi;subst hi;right;refine ⟨rfl,hp.2.1,es[ix],IO hp.1,fun m c hm'=> .inl ⟨aa1 _,?_,by simpa using hm'⟩⟩;have:=(aaX.1 hm').1;have:=hp.2.1;omega
       ·cases hi
      ·rename_i hne;exact .inl ⟨acx hne,hi⟩) rfl
     exact ⟨w',g1,rfl,g2⟩
    ·split at h
     ·rename_i hjs;injection h with h;injection h with h1 h2;injection h2 with h2 h3;subst h1;subst h2;subst h3;have hix:=hp.1;obtain ⟨b,cap,hb,_⟩:=id hda;obtain ⟨cur,ty,hh,hnI,hcap,hsz,hcs⟩:=hm.row_cells hg hb;have hk0:=(hcs ix es[ix] (IO hix)).1;obtain ⟨w',g1,g2⟩:=main j hjs (es.modify ix fun e=> .agg (Go.Proofs.YtkkanlcjjpoklaaGreatDoor.setAt e.cells j y.cells)) hix hp.2 (by simp) (fun i e hi=>by
       rw [List.getElem?_modify] at hi;by_cases hii:ix=i
       ·subst hii;rw [IO hix] at hi;simp at hi;subst hi;right;have hyl:=hp.2.1;refine ⟨rfl,?_,es[ix],IO hix,fun m c hm' =>?_⟩
        ·show (Go.Proofs.YtkkanlcjjpoklaaGreatDoor.setAt es[ix].cells j y.cells).length=k';rw [dG (by omega),hk0]
        ·have hm2:(Go.Proofs.YtkkanlcjjpoklaaGreatDoor.setAt es[ix].cells j y.cells)[m]? = some c:=hm';rw [bx (by omega)] at hm2;split at hm2
         ·exact .inr ⟨by omega,hm2⟩
         ·split at hm2
          ·exact .inl ⟨by omega,by omega,hm2⟩
          ·exact .inr ⟨by omega,hm2⟩
       ·simp [hii] at hi;exact .inl ⟨acx hii,hi⟩) rfl
      exact ⟨w',g1,rfl,g2⟩
     ·cases h
   ·cases h
  ·cases h
 ·cases h
end
section
variable {P:Program} {w:World} {I:Nat→Prop} {β:co} {σ:ak} {nx:Nat}
theorem de.del (hm:de w I β σ nx) (i0:Nat):de w I β (σ.del i0) nx:=by
 have hg : ∀j b,(σ.del i0).get j=some b→σ.get j=some b:=by
  intro j b hj;rw [ak.get_del] at hj;split at hj
  ·cases hj
  ·exact hj
 exact ⟨fun j b hj=>hm.own j b (hg j b hj),fun j j' b b' k c c' h1 h2 h3 h4=>hm.inj j j' b b' k c c' (hg j b h1) (hg j' b' h2) h3 h4,hm.free,hm.lt⟩
theorem ay.del (hm:de w I β σ nx) (i0:Nat):ay w I β σ nx w I β (σ.del i0) nx where
 mem:=hm.del i0
 os:=rfl
 tape:=rfl
 output:=rfl
 size:=aaV _
 block:=fun _ _ _=>rfl
 imm:=fun _ h=>h
 immn:=fun _ h=> .inl h
 bet:=fun _ _ h=>h
 nx:=aaV _
 own':=fun b ⟨j,bl,c,h1,h2⟩=>by
  rw [ak.get_del] at h1;split at h1
  ·cases h1
  ·exact .inl ⟨j,bl,c,h1,h2⟩
theorem ay.take (hm:de w I β σ nx) {i0 id b cap:Nat} {blk blk':bN} {cur cur':Array Value} {t:TypeId} (hg:σ.get i0=some blk) (hb:β i0=some (some (b,cap))) (hid:β id=none) (hlt:id<nx) (hh:w.heap[b]? = some (.cells cur t (0,0)))
 (hown:jS (w.setRow b cur') I (oh β id (some (b,cap))) id blk'):ay w I β σ nx (w.setRow b cur') I (oh β id (some (b,cap))) ((id,blk')::σ.del i0) nx where
 mem:=by
  have hx:=ii (x:=some (b,cap)) hid;have hne:id≠i0:=by rintro rfl;rw [hid] at hb;cases hb
  have hdel : ∀j bl,(σ.del i0).get j=some bl→j≠i0∧σ.get j=some bl:=by
   intro j bl hj;rw [ak.get_del] at hj;split at hj
   ·cases hj
   ·rename_i h;exact ⟨h,hj⟩
  have hnb : ∀k,k≠b→(w.setRow b cur').heap[k]? = w.heap[k]? :=fun k hk=>setRow_other w b k cur' hk
  refine ⟨fun j bl hj =>?_,fun j j' bl bl' k c c' h1 h2 h3 h4 =>?_,fun j hj =>?_,fun k hk=>by simpa using hm.lt k hk⟩
  ·rw [get_cons] at hj;split at hj
   ·rename_i e;subst e;injection hj with hj;subst hj;exact hown
   ·obtain ⟨hj0,hj⟩:=hdel j bl hj;refine (hm.own j bl hj).keep (fun k hk=>hnb k ?_) (fun _ h=>h) (fun k c hk=>((hm.own j bl hj).not_imm hk).1) hx;rintro rfl;rcases hk with hk|⟨c,hk⟩
    ·exact ((hm.own i0 blk hg).not_imm hb).1 hk
    ·exact hj0 (hm.inj j i0 bl blk k c cap hj hg hk hb)
  ·rw [get_cons] at h1 h2;by_cases e1:id=j
   ·by_cases e2:id=j'
    ·omega
    ·exfalso;rw [aaY e2] at h2;obtain ⟨q1,q2⟩:=hdel j' bl' h2;subst e1;rw [aX] at h3;injection h3 with h3;injection h3 with h3;injection h3 with h3 _;rw [aP (acx e2)] at h4;subst h3;exact q1 (hm.inj j' i0 bl' blk b c' cap q2 hg h4 hb)
   ·rw [aaY e1] at h1;obtain ⟨q1,q2⟩:=hdel j bl h1;rw [aP (acx e1)] at h3;by_cases e2:id=j'
    ·exfalso;subst e2;rw [aX] at h4;injection h4 with h4;injection h4 with h4;injection h4 with h4 _;subst h4;exact q1 (hm.inj j i0 bl blk b c cap q2 hg h3 hb)
    ·rw [aaY e2] at h2;obtain ⟨q3,q4⟩:=hdel j' bl' h2;rw [aP (acx e2)] at h4;exact hm.inj j j' bl bl' k c c' q2 q4 h3 h4
  ·rw [aP (by omega)];exact hm.free j hj
 os:=rfl
 tape:=rfl
 output:=rfl
 size:=by simp
 block:=fun k _ ho=>setRow_other w b k cur' (fun e=>ho ⟨i0,blk,cap,hg,by rw [e];exact hb⟩)
 imm:=fun _ h=>h
 immn:=fun _ h=> .inl h
 bet:=ii hid
 nx:=aaV _
 own':=fun k ⟨j,bl,c,h1,h2⟩=>by
  rw [get_cons] at h1;split at h1
  ·rename_i e;subst e;rw [aX] at h2;injection h2 with h2;injection h2 with h2;injection h2 with h2 _;subst h2;exact .inl ⟨i0,blk,cap,hg,hb⟩
  ·rename_i e;rw [aP (acx e)] at h2;rw [ak.get_del] at h1;split at h1
   ·cases h1
   ·exact .inl ⟨j,bl,c,h1,h2⟩
set_option maxHeartbeats 400000 in
theorem DD {t t' ty:Nat} {s x:V} {id:Nat} {p:Prop} {v:V} {σ':ak} {sv xv:Value} (h:uV P t t' s x σ id=some (p,v,σ')) (hp:p) (hm:de w I β σ nx) (hid:β id=none) (hlt:id<nx) (hds:aL w I β s sv) (hdx:aL w I β x xv) :
 ∃u w' β',(Builtin.append_ #[t,t'] ty #[sv,xv]).run P w = .ok u w'∧aL w' I β' v u∧ay w I β σ nx w' I β' σ' nx ∧ ∀j,j≠id→β' j=β j:=by
 unfold uV at h;split at h
 ·rename_i k bytes i0 k0 lo n hap;obtain ⟨e,i,z,ht,hi,hz,hzk,hik,hib⟩:=ro hap;split at h
  ·rename_i hc;obtain ⟨hkd,rfl⟩:=hc;split at h
   ·rename_i k' es tq p' new hg he;split at h
    ·rename_i hkk;subst hkk;injection h with h;injection h with h1 h2;injection h2 with h2 h3;subst h1;subst h2;subst h3;obtain ⟨hp',rfl,rfl,hfit⟩:=hp;obtain ⟨vs,hsrc⟩:=zK (P:=P) (w:=w) (t':=t') hm (fun _ _ h=>h) he hp' hkd hdx;have grow : ∀(base:Option Addr) (c:Nat) (olds:List Value),sv = .slice base es.length c→aJ w I k' es olds →
      (∀w',(∀b o,w'.cell? ⟨b,o,none⟩=w.cell? ⟨b,o,none⟩)→(Builtin.firstCells k' es.length (.slice base es.length c)).run P w' = .ok olds.toArray w')→c<es.length+new.length →
      ∃u w' β',(Builtin.append_ #[t,t'] ty #[sv,xv]).run P w = .ok u w'∧aL w' I β' (.so id k' 0 (es++new).length) u∧ay w I β σ nx w' I β' ((id,.row k' (es++new) (R1 P t tq))::σ.del i0) nx ∧ ∀j,j≠id→β' j=β j:=by
      intro base c olds hsv hr hfo hgt;subst hsv;have hgr:=AM (w:=w) (ty:=ty) ht hi hz hik hib hsrc (base:=base) (sLen:=es.length) (sCap:=c) (olds:=olds) hfo hgt (by simpa using hfit);have hr2:=hr.append hsrc.vals;have hst:=FB (e:=e) (sCap:=c) (z:=z) (hm.del i0) hid hlt (R2 ht tq) hzk hr2 (need:=es.length+new.length) (by simp);refine ⟨_,_,_,hgr,.inr ⟨w.heap.size,grownCap w (es.length+new.length) c e,grownCap w (es.length+new.length) c e,aX _ _ _,by omega,by simp;exact grownCap_ge w _ _ e,by simp⟩,?_,fun j hj=>aP hj⟩;have e1:olds.toArray++vs.toArray=(olds++vs).toArray:=by simp
      rw [e1];exact (ay.del hm i0).trans hst
     rcases hds with ⟨hb,_,hn0,a,rfl⟩|⟨b,cap,c,hb,g1,g2,rfl⟩
     ·have hes:es=[]:=abu hn0;subst hes;by_cases hnil:new=[]
      ·subst hnil;have hvs:vs=[]:=abu (by have:=hsrc.vals.1;simpa using this);subst hvs;refine ⟨.slice a 0 0,w,oh β id none,?_,.inl ⟨aX _ _ _,rfl,rfl,a,rfl⟩,(ay.del hm i0).trans (ay.nilRow (hm.del i0) hid hlt k'),fun j hj=>aP hj⟩;have:=rr (w:=w) (ty:=ty) ht hi hik hsrc (base:=a) (sLen:=0) (sCap:=0) (w1:=w) (by simp) (by cases a<;>rfl);simpa using this
      ·have hpos:0<new.length:=aby.2 hnil;exact grow a 0 [] rfl aJ.nil (fun w' _=>by cases a<;>simp [Builtin.firstCells,loadCells,loadCellsFrom]) (by omega)
     ·obtain ⟨cur,ty0,olds,r1,r2,r3,r4,r5,r6⟩:=hm.row_vals hg hb;have hz0:(⟨b,0*k',none⟩:Addr)=⟨b,0,none⟩:=by simp
      rw [hz0] at grow ⊢;by_cases hroom:es.length+new.length≤c
      ·have hmul:(es.length+new.length)*k'≤cap*k':=abQ k' (by omega);rw [abV] at hmul;have hvl:=hsrc.vals.1;have hst:=dT (P:=P) b _ vs (es.length*k') 0 cur w r1 (by omega) hsrc.vals.2.1;have hap2:=rr (w:=w) (ty:=ty) ht hi hik hsrc (base:=some ⟨b,0,none⟩) (sLen:=es.length) (sCap:=c) hroom (by simp only [dP];simpa using hst);refine ⟨_,_,oh β id (some (b,cap)),hap2,.inr ⟨b,cap,c,aX _ _ _,by omega,by simpa using hroom,by simp⟩,?_,fun j hj=>aP hj⟩;refine ay.take hm hg hb hid hlt r1 ?_;have hr2:=(r5.append hsrc.vals).keep (w':=w.setRow b (Go.Proofs.YtkkanlcjjpoklaaGreatDoor.setAt cur.toList (es.length*k'+0) vs).toArray) (gB hm hg hb _) (fun _ h=>h);refine hr2.own (aX _ _ _) (setRow_heap w b cur _ _ (0,0) r1) (Lm tq) r2 (by simp;omega) ?_ (fun m u hu =>?_)
       ·simp only [acM];rw [dG (by simp;omega)];simpa using r4
       ·have hol:=r5.1;have e2:(Go.Proofs.YtkkanlcjjpoklaaGreatDoor.setAt cur.toList (es.length*k'+0) vs).toArray[m]? = (Go.Proofs.YtkkanlcjjpoklaaGreatDoor.setAt cur.toList (es.length*k'+0) vs)[m]? :=by simp
        rw [e2,bx (by simp;omega)];rw [acz] at hu;split at hu
        ·rename_i hlt2;rw [aa3 (by omega)];simpa using r6 m u hu
        ·rename_i hlt2;have:=(aaX.1 hu).1;rw [aaY (by omega),aa3 (by omega)];rw [hol] at hu;simpa using hu
      ·refine grow _ c olds rfl r5 (fun w' hw =>?_) (by omega);exact iu r5.1 (fun m v hv=>by rw [hw];simp [World.cell?,r1,r6 m v hv])
    ·cases h
   ·cases h
  ·cases h
 ·cases h
end
section
variable {P:Program} {w:World} {I:Nat→Prop} {β:co} {σ:ak} {nx:Nat}
theorem HC {t t' ty:Nat} {d x:V} {p:Prop} {v:V} {σ':ak} {dv xv:Value} (h:Qs P t t' d x σ=some (p,v,σ')) (hp:p) (hm:de w I β σ nx) (hdd:aL w I β d dv) (hdx:aL w I β x xv) :
 ∃u w',(Builtin.copy_ #[t,t'] ty #[dv,xv]).run P w = .ok u w'∧aL w' I β v u∧ay w I β σ nx w' I β σ' nx:=by
 unfold Qs at h;split at h
 ·rename_i k ag i0 k0 lo n hsl;obtain ⟨e,ht,hle⟩:=nU hsl;split at h
  ·rename_i hc;obtain ⟨hkd,rfl⟩:=hc;split at h
   ·rename_i k' es tq p' new hg he;split at h
    ·rename_i hkk;subst hkk;injection h with h;injection h with h1 h2;injection h2 with h2 h3;subst h1;subst h2;subst h3;obtain ⟨hp',hln⟩:=hp;obtain ⟨vs,hsrc⟩:=zK (P:=P) (w:=w) (t':=t') hm (fun _ _ h=>h) he hp' hkd hdx;have hmin:Nat.min new.length n=min new.length n:=rfl;have hf:=hsrc.cells' (min new.length n) w (by omega) (fun _ _=>rfl);have hl:=hsrc.len w;rcases hdd with ⟨hb,hl0,hn0,a,rfl⟩|⟨b,cap,c,hb,g1,g2,rfl⟩
     ·subst hl0;subst hn0;have h0:min new.length 0=0:=by omega
      rw [h0] at hf;have hes:es=[]:=by
       rcases hm.own i0 _ hg with ⟨_,h⟩|⟨b,cap,_,_,h,_⟩
       ·exact h
       ·rw [hb] at h;cases h
      subst hes;refine ⟨.int .i64 0,w,?_,by rw [h0];exact ax.lit _,?_⟩
      ·cases a with
       | none=>simp [Builtin.copy_,run_underlying ht,hl,cx hle,hf,goInt]
       | some a=>simp [Builtin.copy_,run_underlying ht,hl,cx hle,hf,goInt,storeCells]
      ·have e1:Go.Proofs.YtkkanlcjjpoklaaGreatDoor.setAt ([]:List D) 0 (new.take 0)=[]:=by simp [Go.Proofs.YtkkanlcjjpoklaaGreatDoor.setAt]
       rw [e1];have e2:σ.set i0 (.row k' [] tq)=σ:=by
        have : ∀(σ:ak),σ.get i0=some (.row k' [] tq)→σ.set i0 (.row k' [] tq)=σ:=by
         intro σ;induction σ with
         | nil=>intro h;simp [ak.get] at h
         | cons q r ih=>
          obtain ⟨i,bl⟩:=q;intro h;simp only [ak.get,ak.set] at h ⊢;split at h
          ·rename_i hi;injection h with h;subst h;rw [aa3 hi]
          ·rename_i hi;rw [aaY hi,ih h]
        exact this σ hg
       rw [e2];exact ay.refl hm
     ·obtain ⟨cur,ty0,olds,r1,r2,r3,r4,r5,r6⟩:=hm.row_vals hg hb;have hvl:=hsrc.vals.1;have hol:=r5.1;have hmk:min new.length n*k'≤new.length*k':=abQ k' (by omega);have hlen:(vs.take (min new.length n*k')).length=min new.length n*k':=by simp;omega
      have hfit:lo*k'+min new.length n*k'≤es.length*k':=by
       rw [←abV];exact abQ k' (by omega)
      have hcur:es.length*k'≤cur.size:=ab5 (abQ k' r3) r4;have hst:=dT (P:=P) b _ (vs.take (min new.length n*k')) (lo*k') 0 cur w r1 (by omega) (fun x hx=>hsrc.vals.2.1 x (abm hx));refine ⟨.int .i64 ((min new.length n:Nat):Int),w.setRow b (Go.Proofs.YtkkanlcjjpoklaaGreatDoor.setAt cur.toList (lo*k'+0) (vs.take (min new.length n*k'))).toArray,?_,ax.lit _,?_⟩
      ·simp only [Builtin.copy_,List.getElem?_toArray,abq,abB,Sem.run_bind,run_underlying ht,hl,cx hle,hmin,hf,Result.andThen_ok,hst];rfl
      ·refine ay.setRow hm hg hb r1 ?_;have hnew:aJ w I k' (new.take (min new.length n)) (vs.take (min new.length n*k')):=by
        have:=hsrc.vals.piece 0 (min new.length n);simpa [show min (min new.length n) new.length=min new.length n from by omega] using this
       have e1:new.take n=new.take (min new.length n):=by
        rw [List.take_eq_take_iff];omega
       rw [e1];generalize hnn:new.take (min new.length n)=ns at hnew;generalize hvn:vs.take (min new.length n*k')=us at hnew hst hlen;have hnl:ns.length=min new.length n:=by rw [←hnn];simp
       have kp:=gB hm hg hb (Go.Proofs.YtkkanlcjjpoklaaGreatDoor.setAt cur.toList (lo*k'+0) us).toArray;have hnew':=hnew.keep (w':=w.setRow b (Go.Proofs.YtkkanlcjjpoklaaGreatDoor.setAt cur.toList (lo*k'+0) us).toArray) kp (fun _ h=>h);have r5':=r5.keep (w':=w.setRow b (Go.Proofs.YtkkanlcjjpoklaaGreatDoor.setAt cur.toList (lo*k'+0) us).toArray) kp (fun _ h=>h);refine .inr ⟨b,cap,_,ty0,hb,setRow_heap w b cur _ _ (0,0) r1,r2,by rw [dG (by omega)];exact r3,?_,fun i x hi =>?_⟩
       ·simp only [acM];rw [dG (by simp;omega)];simpa using r4
       ·have getc : ∀(q:Nat),(Go.Proofs.YtkkanlcjjpoklaaGreatDoor.setAt cur.toList (lo*k'+0) us).toArray[q]? = if q<lo*k' then cur[q]? else if q<lo*k'+min new.length n*k' then us[q - lo*k']? else cur[q]? :=by
         intro q;have:(Go.Proofs.YtkkanlcjjpoklaaGreatDoor.setAt cur.toList (lo*k'+0) us).toArray[q]? = (Go.Proofs.YtkkanlcjjpoklaaGreatDoor.setAt cur.toList (lo*k'+0) us)[q]? :=by simp
         rw [this,bx (by simp;omega),hlen];simp
        rw [bx (by omega),hnl] at hi;split at hi
        ·rename_i h1;obtain ⟨q1,q2⟩:=r5'.2.2 i x hi;refine ⟨q1,fun j c hj =>?_⟩;obtain ⟨v,v1,v2⟩:=q2 j c hj;have hjk:j<k':=by rw [←q1];exact (aaX.1 hj).1
         have:=lj (n:=k') h1 (aaV _);refine ⟨v,?_,r5'.2.1 v (aa0 v1),v2⟩;rw [getc,aa3 (by omega)];exact r6 _ v v1
        ·rename_i h1;split at hi
         ·rename_i h2;obtain ⟨q1,q2⟩:=hnew'.2.2 _ x hi;refine ⟨q1,fun j c hj =>?_⟩;obtain ⟨v,v1,v2⟩:=q2 j c hj;have hb2:=(aaX.1 v1).1;have e3:(i - lo)*k'=i*k' - lo*k':=Nat.sub_mul _ _ _;have e4:lo*k'≤i*k':=abQ k' (by omega);refine ⟨v,?_,hnew'.2.1 v (aa0 v1),v2⟩;rw [getc,aaY (by omega),aa3 (by omega),show i*k'+j - lo*k'=(i - lo)*k'+j from by omega];exact v1
         ·rename_i h2;obtain ⟨q1,q2⟩:=r5'.2.2 i x hi;refine ⟨q1,fun j c hj =>?_⟩;obtain ⟨v,v1,v2⟩:=q2 j c hj;have e4:(lo+min new.length n)*k'≤i*k':=abQ k' (by omega);rw [abV] at e4;refine ⟨v,?_,r5'.2.1 v (aa0 v1),v2⟩;rw [getc,aaY (by omega),aaY (by omega)];exact r6 _ v v1
    ·cases h
   ·cases h
  ·cases h
 ·cases h
theorem xG : ∀ {n:Nat} {ps:List (Nat × V)} {es:List D},zD n ps=some es→es.length=ps.length ∧ ∀(j:Nat) i v,ps[j]? = some (i,v)→i=n+j ∧ ∃x,v = .d x∧es[j]? = some x
 | n,[],es,h=>by simp [zD] at h;subst h;simp
 | n,(i,v)::r,es,h=>by
  cases v with
  | d x=>
   simp only [zD] at h;split at h
   ·rename_i hi;subst hi;simp only [aaZ] at h;obtain ⟨fs,hf,rfl⟩:=h;obtain ⟨h1,h2⟩:=xG hf;refine ⟨by simp [h1],fun j i' v' hj =>?_⟩;cases j with
    | zero=>simp at hj;obtain ⟨rfl,rfl⟩:=hj;exact ⟨rfl,x,rfl,rfl⟩
    | succ j=>
     obtain ⟨q1,y,q2,q3⟩:=h2 j i' v' (by simpa using hj);exact ⟨by omega,y,q2,by simpa using q3⟩
   ·cases h
  | _=>simp [zD] at h
theorem rl {k:Nat} : ∀ {es:List D},jg k es → ∀(i:Nat) e,es[i]? = some e→JQ k e
 | x::r,h,0,e,hi=>by simp at hi;subst hi;exact h.1
 | x::r,h,i+1,e,hi=>rl h.2 i e (by simpa using hi)
theorem Bc {k:Nat} : ∀(vals:List (Nat × Value)) (n:Nat) (cells:Array Value),(∀(j:Nat) i x,vals[j]? = some (i,x)→i=n+j∧x.cells.size=k)→(n+vals.length)*k≤cells.size →
 Instr.fill (fun i=>some (i*k,k)) cells vals=some (Go.Proofs.YtkkanlcjjpoklaaGreatDoor.setAt cells.toList (n*k) (vals.flatMap fun p=>p.2.cells.toList)).toArray
 | [],n,cells,_,_=>by simp [Instr.fill,Go.Proofs.YtkkanlcjjpoklaaGreatDoor.setAt]
 | (i,x)::vals,n,cells,h,hl=>by
  obtain ⟨h1,h2⟩:=h 0 i x rfl;have h1':i=n:=by omega
  subst h1';have hl':(i+(vals.length+1))*k≤cells.size:=by simpa using hl
  have hl2:i*k+k+vals.length*k≤cells.size:=by
   rw [abV,abV] at hl';omega
  have hfl:(vals.flatMap fun p=>p.2.cells.toList).length=vals.length*k:=by
   have : ∀(l:List (Nat × Value)),(∀p∈l,p.2.cells.size=k)→(l.flatMap fun p=>p.2.cells.toList).length=l.length*k:=by
    intro l;induction l with
    | nil=>simp
    | cons p r ih=>
     intro hp;have:=hp p (by simp);rw [ace,Or,ih (fun q hq=>hp q (by simp [hq]))];simp [this,abV];omega
   refine this vals (fun p hp =>?_);obtain ⟨j,hj,rfl⟩:=List.mem_iff_getElem.1 hp;exact (h (j+1) vals[j].1 vals[j].2 (by simp [hj])).2
  unfold Instr.fill;simp only [];rw [aaY (by simp;omega)];have hf:=su x.cells.toList (i*k) 0 cells (by simp;omega);have e:Array.foldl (fun cs (p:Value × Nat)=>cs.setIfInBounds (i*k+p.2) p.1) cells x.cells.zipIdx=(Go.Proofs.YtkkanlcjjpoklaaGreatDoor.setAt cells.toList (i*k) x.cells.toList).toArray:=by
   apply abx.1;rw [←adK,Array.toList_zipIdx];simpa using hf
  have hA:(Go.Proofs.YtkkanlcjjpoklaaGreatDoor.setAt cells.toList (i*k) x.cells.toList).toArray.toList=Go.Proofs.YtkkanlcjjpoklaaGreatDoor.setAt cells.toList (i*k) x.cells.toList:=by simp
  have hAl:(Go.Proofs.YtkkanlcjjpoklaaGreatDoor.setAt cells.toList (i*k) x.cells.toList).length=cells.size:=by rw [dG (by simp;omega)];simp
  have e1:(i+1)*k=i*k+k:=by rw [abV];omega
  rw [e,Bc vals (i+1) _ (fun j a b hj=>by
   obtain ⟨q1,q2⟩:=h (j+1) a b (by simpa using hj);exact ⟨by omega,q2⟩) (by
   have:(i+1+vals.length)*k=i*k+k+vals.length*k:=by rw [abV,abV];omega
   simp only [acM];omega),hA,e1]
  congr 2;apply adp;intro j;simp only [ace];rw [bx (by omega),bx (cs:=cells.toList) (xs:=x.cells.toList++_) (by simp [hfl];omega),bx (by simp;omega),hfl];simp only [Or,hfl,abr,h2];by_cases q1:j<i*k
  ·rw [aa3 (by omega),aa3 q1,aa3 q1]
  ·rw [aaY q1,aaY q1];by_cases q2:j<i*k+k
   ·rw [aa3 q2,aa3 q2,aa3 (by omega),ab3 (by simp;omega)]
   ·rw [aaY q2,aaY q2];by_cases q3:j<i*k+k+vals.length*k
    ·rw [aa3 q3,aa3 (by omega),abZ (by simp;omega)];simp only [abr,h2];congr 1;omega
    ·rw [aaY q3,aaY (by omega)]
end
def Tu (P:Program) (t:Nat):Bool:=match P.underlying t with
 | some .unsafePointer=>true
 | _=>false
def U6 (P:Program) (t:Nat):Bool:=match P.info? t with
 | some i=> !(i.size==0)
 | none=>false
def MY (P:Program) (s d:Nat) (x:V) (σ:ak):j3:=match x with
 | .po id 0=>match σ.get id with
  | some (.cell cs (some t))=>if Ns P s=some t∧Tu P d=true∧U6 P t=true∧cs.isEmpty=false then some (True,.po id 0,σ)
   else if Tu P s=true∧Ns P d=some t∧U6 P t=true∧decide (0<P.cellsOf t)=true∧decide (P.cellsOf t≤cs.length)=true then some (True,.po id 0,σ) else none
  | _=>none
 | _=>none
def PZ (P:Program) (pt:Nat) (p n:V) (σ:ak):j3:=match p,n with
 | .d (.lit (.pointer none)),.d (.lit (.int .i64 0))=>some (True,.d (.lit (.string .empty)),σ)
 | .pe id k 0 0,.d (.lit (.int .i64 m))=>match σ.get id with
  | some (.row k' es (some e))=>if (k'=1∧k=1)∧Ns P pt=some e∧P.cellsOf e=1∧decide (0<m)=true∧decide (m.toNat≤es.length)=true∧decide (m≤9223372036854775807)=true
   then some (∀y∈es.take m.toNat,oM y,.d (.lit (.string ⟨((es.take m.toNat).map jh).toArray⟩)),σ.del id) else none
  | _=>none
 | _,_=>none
section
variable {P:Program} {w:World} {I:Nat→Prop} {β:co} {σ:ak} {nx:Nat}
theorem tj {t u:Nat} (h:Ns P t=some u):P.underlying t=some (.pointer u):=by
 unfold Ns at h;split at h
 ·rename_i hu;injection h with h;subst h;exact hu
 ·cases h
theorem Dj {t:Nat} (h:Tu P t=true):P.underlying t=some .unsafePointer:=by
 unfold Tu at h;split at h
 ·assumption
 ·cases h
theorem C8 {t:Nat} (h:U6 P t=true) : ∃i,P.info? t=some i∧i.size≠0:=by
 unfold U6 at h;split at h
 ·rename_i i hi;exact ⟨i,hi,by simpa using h⟩
 ·cases h
theorem Ih {t:Nat} (hc:0<P.cellsOf t) {count:Nat} (h1:1≤count):liesAt P P.depth t count 0 t 1=true:=by
 have hd:P.depth=(2*(P.types.size+Made.depth)+1)+1:=rfl;rw [hd];simp only [liesAt,abP];left;rw [hd];have hne : ¬P.cellsOf t=0:=by omega
 simp [rowAt,hne,h1,sameLayout]
theorem Fo {s d:Nat} {x:V} {p:Prop} {v:V} {σ':ak} {xv:Value} (h:MY P s d x σ=some (p,v,σ')) (hm:de w I β σ nx) (hd:aL w I β x xv) :
 (convert s d xv).run P w = .ok xv w∧v=x∧σ'=σ:=by
 unfold MY at h;split at h;rotate_left
 ·cases h
 split at h;rotate_left
 ·cases h
 rename_i id cs t hg;obtain ⟨b,cap,hb,rfl⟩:=hd;obtain ⟨cur,t0,hh,hnI,hcs⟩:=hm.cell_cells hg hb;simp only [acA] at hh;have hsh:w.shape? b=some (t,cur.size):=by simp [World.shape?,hh]
 have hle:cs.length≤cur.size:=by
  rcases aa2 cur.size cs.length with hlt|hge
  ·obtain ⟨u,hu,_⟩:=hcs cur.size cs[cur.size] (IO hlt);simp at hu
  ·exact hge
 split at h
 ·rename_i hc;obtain ⟨h1,h2,h3,h4⟩:=hc;injection h with h;injection h with _ h;injection h with e1 e2;obtain ⟨i,hi,hs⟩:=C8 h3;refine ⟨Lib.run_to_unsafe w ⟨b,0,none⟩ (tj h1) (Dj h2) hi hs hsh ?_,e1.symm,e2.symm⟩;have:cs≠[]:=fun e=>by subst e;simp at h4
  have:=aby.2 this;show 0<cur.size;omega
 ·split at h
  ·rename_i hc;obtain ⟨h1,h2,h3,h4,h5⟩:=hc;simp only [abs] at h4 h5;injection h with h;injection h with _ h;injection h with e1 e2;obtain ⟨i,hi,hs⟩:=C8 h3;refine ⟨Lib.run_from_unsafe w ⟨b,0,none⟩ (Dj h1) (tj h2) hi hsh (Ih h4 ?_),e1.symm,e2.symm⟩;exact (Nat.one_le_div_iff h4).2 (by omega)
  ·cases h
theorem nk (w:World) (b:Nat) (n k:Nat) (h:k≠b):(w.freeze ⟨b,0,none⟩ n).heap[k]? = w.heap[k]? :=by
 unfold World.freeze;split
 ·rfl
 ·simp [Array.getElem?_modify,acx h]
theorem pO (w:World) (a:Addr) (n:Nat):(w.freeze a n).heap.size=w.heap.size:=by
 unfold World.freeze;split
 ·rfl
 ·simp
theorem ay.freeze (hm:de w I β σ nx) {i b cap:Nat} {blk:bN} (hg:σ.get i=some blk) (hb:β i=some (some (b,cap))) (n:Nat) :
 ay w I β σ nx (w.freeze ⟨b,0,none⟩ n) I β (σ.del i) nx:=by
 have hbl:=((hm.own i _ hg).not_imm hb)
 have hdel : ∀j bl,(σ.del i).get j=some bl→j≠i∧σ.get j=some bl:=by
  intro j bl hj;rw [ak.get_del] at hj;split at hj
  ·cases hj
  ·rename_i h;exact ⟨h,hj⟩
 refine ⟨⟨fun j bl hj =>?_,fun j j' bl bl' k c c' h1 h2 h3 h4 =>?_,hm.free,fun k hk=>by rw [pO];exact hm.lt k hk⟩,?_,?_,?_,by rw [pO];exact aaV _,fun k _ ho=>nk w b n k (fun e=>ho ⟨i,_,cap,hg,by rw [e];exact hb⟩),fun _ h=>h,fun _ h=> .inl h,fun _ _ h=>h,aaV _,fun k ⟨j,bl,c,h1,h2⟩=> .inl ⟨j,bl,c,(hdel j bl h1).2,h2⟩⟩
 ·obtain ⟨hne,hj⟩:=hdel j bl hj;refine (hm.own j bl hj).keep (fun k hk=>nk w b n k ?_) (fun _ h=>h) (fun k c hk=>((hm.own j bl hj).not_imm hk).1) (fun _ _ h=>h);rintro rfl;rcases hk with hk|⟨c,hk⟩
  ·exact hbl.1 hk
  ·exact hne (hm.inj j i bl _ k c cap hj hg hk hb)
 ·exact hm.inj j j' bl bl' k c c' (hdel j bl h1).2 (hdel j' bl' h2).2 h3 h4
 all_goals (unfold World.freeze;split<;>rfl)
theorem nO (w:World) : ∀(l:List Int) (a:Addr) (acc:ByteArray),(∀j x,l[j]? = some x→w.cell? (a.add j)=some (.int .u8 x)) →
 (loadBytes a acc l.length).run P w = .ok ⟨acc.data++(l.map fun x=>UInt8.ofNat x.toNat).toArray⟩ w
 | [],a,acc,_=>by simp [loadBytes]
 | x::l,a,acc,h=>by
  have h0:w.cell? a=some (.int .u8 x):=by
   have:=h 0 x rfl;simpa [Addr.add] using this
  have ih:=nO w l (a.add 1) (acc.push (UInt8.ofNat x.toNat)) (fun j y hy=>by
   have:=h (j+1) y (by simpa using hy);have e:(a.add 1).add j=a.add (j+1):=by
    unfold Addr.add;by_cases hj:j=0
    ·subst hj;simp
    ·simp [hj];omega
   rw [e];exact this)
  simp only [aa6,loadBytes,Sem.run_bind,run_load,h0,Result.andThen];refine Eq.trans ih ?_;congr 1;apply adh;simp [ByteArray.push]
theorem tE (w:World) (pt it ty e:TypeId) (hp:P.underlying pt=some (.pointer e)) (hc:P.cellsOf e=1) (g cells:Nat) (hsh:w.shape? g=some (e,cells)) (l:List Int) (h0:l≠[]) (hn:l.length≤cells) (h63:l.length≤9223372036854775807)
 (hcell : ∀j x,l[j]? = some x→w.cell? ((⟨g,0,none⟩:Addr).add j)=some (.int .u8 x)) :
 (Builtin.unsafeString_ #[pt,it] ty #[.pointer (some ⟨g,0,none⟩),.int .i64 l.length]).run P w = .ok (.string ⟨(l.map fun x=>UInt8.ofNat x.toNat).toArray⟩) (w.freeze ⟨g,0,none⟩ l.length):=by
 have hl:l.length≠0:=by simpa using h0
 have hlb:=nO (P:=P) w l ⟨g,0,none⟩ .empty hcell;have hlies:=Lib.liesAt_bytes (P:=P) hc (cells / P.cellsOf e) l.length (by rw [hc];simpa using hn);have h63' : ¬(9223372036854775807:Int)<(l.length:Int):=by omega
 have hdef:Builtin.unsafeString_ #[pt,it] ty #[.pointer (some ⟨g,0,none⟩),.int .i64 l.length] =
  (do
   let n ←asInt (.int .i64 l.length)
   if n<0 then runtimePanic (.error "unsafe.String: len out of range")
   if n > IntKind.i64.max then unsupported (.unsafePointer "String: a length above the largest int")
   if n=0 then pure (.string .empty)
   else if ←variablesAt ⟨g,0,none⟩ (←elemOf pt) n.toNat then do
    let s ←loadBytes ⟨g,0,none⟩ .empty n.toNat
    freeze ⟨g,0,none⟩ n.toNat
    pure (.string s)
   else unsupported (.unsafePointer "String: not so many bytes at ptr")):=rfl
 rw [hdef];have hmax:IntKind.i64.max=9223372036854775807:=rfl;have hneg : ¬(l.length:Int)<0:=by omega
 simp [asInt,asIntOf,hmax,h63',hneg,hl,variablesAt,hsh,elemOf,run_underlying hp,hlies,hlb]
theorem Jv {pt it ty:Nat} {x n:V} {p:Prop} {v:V} {σ':ak} {xv nv:Value} (h:PZ P pt x n σ=some (p,v,σ')) (hp:p) (hm:de w I β σ nx) (hdx:aL w I β x xv) (hdn:aL w I β n nv) :
 ∃u w',(Builtin.unsafeString_ #[pt,it] ty #[xv,nv]).run P w = .ok u w'∧aL w' I β v u∧ay w I β σ nx w' I β σ' nx:=by
 unfold PZ at h;split at h
 ·injection h with h;injection h with _ h;injection h with e1 e2;subst e1;subst e2;have:=aA hdx;subst this;have:=aA hdn;subst this;exact ⟨_,w,Lib.run_unsafeString_none w pt it ty none,ax.lit _,ay.refl hm⟩
 ·rename_i id k m;split at h;rotate_left
  ·cases h
  rename_i k' es e hg;split at h;rotate_left
  ·cases h
  rename_i hc;obtain ⟨⟨rfl,rfl⟩,h2,h3,h4,h5,h6⟩:=hc;simp only [abs] at h4 h5 h6;injection h with h;injection h with e0 h;injection h with e1 e2;subst e0;subst e1;subst e2;have:=aA hdn;subst this;obtain ⟨b,cap,hb,rfl⟩:=hdx;obtain ⟨cur,t0,hh,hnI,hcap,hsz,hcs⟩:=hm.row_cells hg hb;simp only [acA] at hh;have hsh:w.shape? b=some (e,cur.size):=by simp [World.shape?,hh]
  have hl:((es.take m.toNat).map jN).length=m.toNat:=by simp;omega
  have hcell : ∀j x,((es.take m.toNat).map jN)[j]? = some x→w.cell? ((⟨b,0,none⟩:Addr).add j)=some (.int .u8 x):=by
   intro j x hj;simp only [abp,aaZ] at hj;obtain ⟨y,hy,rfl⟩:=hj;obtain ⟨q,rfl⟩:=hp y (aa0 hy);have hy2:es[j]? = some (.lit (.int .u8 q)):=by
    rw [abW] at hy;split at hy
    ·exact hy
    ·cases hy
   obtain ⟨v,v1,v2,v3⟩:=(hcs j _ hy2).2 0 _ rfl;have:=aA (β:=β) (show aL w I β (.d (.lit (.int .u8 q))) v from v3);subst this;rw [dP];show _=some (Value.int .u8 q);simpa using v1
  have hm2:(.int .i64 m:Value) = .int .i64 (((es.take m.toNat).map jN).length:Int):=by rw [hl];congr 1;omega
  refine ⟨_,_,?_,ax.lit _,ay.freeze hm hg hb ((es.take m.toNat).map jN).length⟩;rw [hm2];have:=tE (P:=P) w pt it ty e (tj h2) h3 b cur.size hsh ((es.take m.toNat).map jN) (by intro e;have:=congrArg List.length e;rw [hl] at this;simp at this;omega) (by rw [hl];omega) (by rw [hl];omega) hcell;have e3:(((es.take m.toNat).map jN).map fun x=>UInt8.ofNat x.toNat)=(es.take m.toNat).map jh:=by rw [aci];rfl
  rw [e3] at this;exact this
 ·cases h
end
def Tg (P:Program) (s d:Nat) (x:V) (σ:ak):j3:=match MY P s d x σ with
 | some r=>some r
 | none=>Te P s d x σ
def Rl (P:Program) (t:Nat) (x:V) (σ:ak):j3:=
 match QD P t,x with
 | some (k,_,_),.so i0 k0 lo n=>if k0=k then (match σ.get i0 with
  | some (.row k' es tq)=>if k'=k then some (lo+n=es.length,.tup [],σ.set i0 (.row k (es.take lo) tq)) else none
  | _=>none) else none
 | some _,.d (.lit (.slice none 0 0))=>some (True,.tup [],σ)
 | some _,.d (.sd _ _ [])=>some (True,.tup [],σ)
 | _,_=>none
def eR (P:Program) (op:Op) (g:Operand→V) (σ:ak) (id:Nat):j3:=
 match op with
 | .store t a x=>MI P t (g a) (g x) σ
 | .convert s d x=>Tg P s d (g x) σ
 | .call c=>match c.callee,c.args.toList,c.argTypes.toList with
  | .builtin .append,[s,x],[t,t']=>uV P t t' (g s) (g x) σ id
  | .builtin .copy,[d,x],[t,t']=>Qs P t t' (g d) (g x) σ
  | .builtin .unsafeString,[x,n],[t,_]=>PZ P t (g x) (g n) σ
  | .builtin .clear,[x],[t]=>Rl P t (g x) σ
  | _,_,_=>none
 | .mapUpdate t m k x=>Sa P t (g m) (g k) (g x) σ
 | .lookup t m k ok=>R6 P t (g m) (g k) ok σ
 | _=>none
section
variable {P:Program} {w:World} {I:Nat→Prop} {β:co} {σ:ak} {nx:Nat}
theorem mE : ∀ {k:Nat} {es:List D} {vals:List Value},es.length=vals.length→jg k es→(∀(j:Nat) e x,es[j]? = some e→vals[j]? = some x→ax w I e x)→aJ w I k es (vals.flatMap fun x=>x.cells.toList)
 | k,[],[],_,_,_=>aJ.nil
 | k,[],_::_,h,_,_=>by simp at h
 | k,_::_,[],h,_,_=>by simp at h
 | k,e::es,x::vals,hl,hf,hd=>by
  obtain ⟨g1,g2,g3⟩:=nh hf.1 (hd 0 e x rfl rfl);have ih:=mE (es:=es) (vals:=vals) (by simpa using hl) hf.2 (fun j a b ha hb=>hd (j+1) a b (by simpa using ha) (by simpa using hb));rw [ace];have:e::es=[e]++es:=rfl;rw [this];refine aJ.append (aJ.one hf.1.1 (by simpa using g1) g2 (fun j c v hj hv =>?_)) ih;obtain ⟨u,u1,_,u3⟩:=g3 j c hj;rw [u1] at hv;injection hv with hv;subst hv;exact u3
theorem nA {t k bytes:Nat} {z:D} (h:QD P t=some (k,bytes,z)) : ∃e i zv,P.underlying t=some (.slice e)∧P.info? e=some i∧i.zero=some zv∧zv.cells.size=k∧i.size=k∧i.bytes=bytes∧JQ k z ∧ ∀w I,ax w I z zv:=by
 unfold QD at h;split at h
 ·rename_i e he;split at h
  ·rename_i i hi;split at h
   ·rename_i zv hz;split at h
    ·rename_i hs;obtain ⟨hs1,hs2⟩:=hs;injection h with h;injection h with h1 h2;injection h2 with h2 h3;refine ⟨e,i,zv,he,hi,hz,by omega,h1,h2,?_,?_⟩
     ·subst h3;split
      ·rename_i cs;refine ⟨?_,rfl⟩;simp only [D.cells,aa4,abr];simp only [Value.cells] at hs1;omega
      ·rename_i hn;have hc:zv.cells = #[zv]:=by cases zv<;>first|rfl|exact absurd rfl (hn _)
       refine ⟨?_,?_⟩
       ·rw [hc] at hs1;simp [D.cells] at hs1 ⊢;omega
       ·rw [hc] at hs2;simpa [V.cellOk] using hs2
     ·intro w I;subst h3;split
      ·rename_i cs;have e1:(Value.agg cs)=Value.agg cs.toList.toArray:=by simp
       rw [e1];refine ax.agg _ _ (by simp) (fun v hv=>abF.1 hs2 v (by simpa [Value.cells] using hv)) (fun i c v hc hv =>?_);simp only [abp,aaZ] at hc;obtain ⟨x,hx,rfl⟩:=hc;rw [hx] at hv;injection hv with hv;subst hv;exact ax.lit _
      ·exact ax.lit _
    ·cases h
   ·cases h
  ·cases h
 ·cases h
theorem nj {α β:Type} (f:α→List β) (n:Nat) (x:α):((List.replicate n x).flatMap f).length=n*(f x).length:=by
 induction n with
 | zero=>simp
 | succ n ih=>rw [acW,ace,Or,ih,abV];omega
theorem xV (zs:List Value) : ∀(n m:Nat) v,((List.replicate n zs).flatten)[m]? = some v→zs[m % zs.length]? = some v
 | 0,m,v,h=>by simp at h
 | n+1,m,v,h=>by
  rw [acW,acf,acz] at h;split at h
  ·rename_i hlt;rw [Nat.mod_eq_of_lt hlt];exact h
  ·rename_i hge;have:=xV zs n _ v h;rw [Nat.mod_eq_sub_mod (by omega)];exact this
set_option maxHeartbeats 400000 in
theorem JY {o:Oper} {g:Operand→V} {σ0:ak} {id:Nat} {p:Prop} {v:V} {new:ak} (h:aR P o.op g σ0 id=some (p,v,new)) (hp:p) (hm:de w I β σ nx) (hs : ∀i b,σ0.get i=some b→σ.get i=some b)
 (hid:β id=none) (hlt:id<nx) {a:Act} (hg : ∀x,aL w I β (g x) (a.eval x)) :
 ∃u w' β',(execOp a.eval o).run P w = .ok (.value u) w'∧aL w' I β' v u∧ay w I β σ nx w' I β' (new++σ) nx ∧ ∀j,j≠id→β' j=β j:=by
 unfold aR at h;split at h;case h_1 t ho=>
  split at h
  ·rename_i zs tq hz0;obtain ⟨hz,hty⟩:=Nd hz0;split at h
   ·rename_i hone;injection h with h;injection h with h1 h2;injection h2 with h2 h3;subst h1;subst h2;subst h3;obtain ⟨i,z,hi,hzz,hzc⟩:=Nj hz;refine ⟨.pointer (some ⟨w.heap.size,0,none⟩),w.alloc (.cells z.cells t),oh β id (some (w.heap.size,0)),?_,⟨w.heap.size,0,aX _ _ _,rfl⟩,xj hm hid hlt t hty (fun i c hi =>?_),fun j hj=>aP hj⟩
    ·simp [execOp,ho,Instr.alloc,nP hi hzz,newVar,newRow]
    ·subst hzc;simp only [abp,aaZ] at hi;obtain ⟨x,hx,rfl⟩:=hi;exact ⟨x,by simpa using hx,abF.1 hone x (aa0 hx),ax.lit _⟩
   ·cases h
  ·cases h
 case h_2 t x ho=>
  split at h
  ·rename_i cs hb;injection h with h;injection h with h1 h2;injection h2 with h2 h3;subst h1;subst h2;subst h3;obtain ⟨b1,b2⟩:=rC hb (hg x);refine ⟨.pointer (some ⟨w.heap.size,0,none⟩),w.alloc (.cells (a.eval x).cells t),oh β id (some (w.heap.size,0)),?_,⟨w.heap.size,0,aX _ _ _,rfl⟩,xj hm hid hlt t rfl b2,fun j hj=>aP hj⟩;simp [execOp,ho,Instr.box,newVar,newRow]
  ·cases h
 case h_3 t n parts ho=>
  split at h
  ·rename_i k bytes es hap hsq;split at h
   ·rename_i hc;obtain ⟨hn,h24⟩:=hc;injection h with h;injection h with h1 h2;injection h2 with h2 h3;subst h1;subst h2;subst h3;obtain ⟨e,i,z,ht,hi,hz,hzk,hik,hib⟩:=ro hap;obtain ⟨q1,q2⟩:=xG hsq;have hpl:parts.size=n:=by simp at q1;omega
    have hvals : ∀(j:Nat) i x,(parts.toList.map fun q=>(q.1,a.eval q.2))[j]? = some (i,x)→i=j ∧ ∃e,es[j]? = some e∧ax w I e x:=by
     intro j i x hj;simp only [abp,aaZ] at hj;obtain ⟨y,hy,hyy⟩:=hj;injection hyy with e1 e2;subst e1;subst e2;obtain ⟨r1,y',r2,r3⟩:=q2 j y.1 (g y.2) (by simp [hy]);refine ⟨by omega,y',r3,?_⟩;have:=hg y.2;rw [r2] at this;exact this
    have hfitv : ∀(j:Nat) i x,(parts.toList.map fun q=>(q.1,a.eval q.2))[j]? = some (i,x)→i=0+j∧x.cells.size=k:=by
     intro j i x hj;obtain ⟨r1,e',r2,r3⟩:=hvals j i x hj;exact ⟨by omega,(nh (rl hp j e' r2) r3).1⟩
    have hrv:=mE (w:=w) (I:=I) (k:=k) (es:=es) (vals:=(parts.toList.map fun q=>(q.1,a.eval q.2)).map (·.2)) (by simp;omega) hp (fun j e' x he hx=>by
     simp only [abp,aaZ] at hx;obtain ⟨y,hy,rfl⟩:=hx;obtain ⟨y',hy',rfl⟩:=hy;obtain ⟨_,e2,r2,r3⟩:=hvals j y'.1 (a.eval y'.2) (by simp [hy']);rw [he] at r2;injection r2 with r2;subst r2;exact r3)
    have hfl:(((parts.toList.map fun q=>(q.1,a.eval q.2)).map (·.2)).flatMap fun x=>x.cells.toList)=((parts.toList.map fun q=>(q.1,a.eval q.2)).flatMap fun p=>p.2.cells.toList):=by
     rw [List.flatMap_map]
    rw [hfl] at hrv;have hflen:=hrv.1;have hfill:=Bc (k:=k) (parts.toList.map fun q=>(q.1,a.eval q.2)) 0 ((Array.range (n*k)).map ((if n*k=0 then #[] else z.cells)[· % (if n*k=0 then (#[]:Array Value) else z.cells).size]!)) hfitv (by simp [hpl]);have hcur:Go.Proofs.YtkkanlcjjpoklaaGreatDoor.setAt ((Array.range (n*k)).map ((if n*k=0 then #[] else z.cells)[· % (if n*k=0 then (#[]:Array Value) else z.cells).size]!)).toList (0*k) ((parts.toList.map fun q=>(q.1,a.eval q.2)).flatMap fun p=>p.2.cells.toList)=((parts.toList.map fun q=>(q.1,a.eval q.2)).flatMap fun p=>p.2.cells.toList):=by
     unfold Go.Proofs.YtkkanlcjjpoklaaGreatDoor.setAt;rw [Nat.zero_mul,abO,abL,abo (by rw [hflen,hn];simp),abb]
    rw [hcur] at hfill;refine ⟨.slice (some ⟨w.heap.size,0,none⟩) n n,w.alloc (.cells ((parts.toList.map fun q=>(q.1,a.eval q.2)).flatMap fun p=>p.2.cells.toList).toArray e),oh β id (some (w.heap.size,n)),?_,.inr ⟨w.heap.size,n,n,aX _ _ _,by omega,by omega,by simp⟩,?_,fun j hj=>aP hj⟩
    ·have h24' : ¬(n*k > 2 ^ 24):=by
      have:(2:Nat) ^ 24=16777216:=by decide
      omega
     have e1:(parts.map fun x=>(x.fst,a.eval x.snd)).toList=parts.toList.map fun q=>(q.1,a.eval q.2):=by simp
     have hsz:(sizeOf e).run P w = .ok k w:=by simp [sizeOf,typeInfo,hi,hik]
     simp only [execOp,ho,Instr.buildSlice,Sem.run_bind,run_underlying ht,Result.andThen_ok,hsz];rw [aaY h24',e1];by_cases h0:n*k=0
     ·simp only [h0,ab0,Sem.run_bind,Sem.run_pure,Result.andThen_ok] at hfill ⊢;rw [hfill];simp [newRow]
     ·simp only [h0,ab1] at hfill ⊢;simp only [Sem.run_bind,nP hi hz,Result.andThen_ok,Sem.run_pure];rw [hfill];simp [newRow]
    ·exact zc hm hid hlt e rfl hrv (by omega) (by simp only [acM];rw [hflen,hn];exact aaV _) (fun m u hu=>by simpa using hu)
   ·cases h
  ·cases h
 case h_4 t x ho=>
  split at h
  ·rename_i s hk hx;injection h with h;injection h with h1 h2;injection h2 with h2 h3;subst h1;subst h2;subst h3;have hgx:=hg x;rw [hx] at hgx;have hv:=aA hgx;refine ⟨.pointer (some ⟨w.heap.size,0,none⟩),w.alloc (.stringIter s 0),oh β id (some (w.heap.size,0)),?_,⟨w.heap.size,0,aX _ _ _,rfl⟩,ay.alloc hm hid hlt _ 0 _ ⟨w.heap.size,0,aX _ _ _,nl _ _,fun h =>?_⟩,fun j hj=>aP hj⟩
   ·simp [execOp,ho,Instr.range,underlying,dE hk,hv]
   ·have:=hm.lt _ h;omega
  ·cases h
 case h_5 t l c ho=>
  split at h
  ·rename_i ln cn k bytes z hl hc hmk;injection h with h;injection h with h1 h2;injection h2 with h2 h3;subst h1;subst h2;subst h3;obtain ⟨e,i,zv,ht,hi,hz,hzk,hik,hib,hfit,hzd⟩:=nA hmk;obtain ⟨kl,hl2⟩:=kn hl (hg l);obtain ⟨kc,hc2⟩:=kn hc (hg c);obtain ⟨p1,p2,p3,p4⟩:=hp;have hw1:IntKind.i64.wrap ln=ln:=IntWalk.i64_in _ (by omega);have hw2:IntKind.i64.wrap cn=cn:=IntWalk.i64_in _ (by omega);have hcells:((Array.range (cn.toNat*k)).map ((if cn.toNat*k=0 then #[] else zv.cells)[· % (if cn.toNat*k=0 then (#[]:Array Value) else zv.cells).size]!)).size=cn.toNat*k:=by simp
   have hrv:=mE (w:=w) (I:=I) (k:=k) (es:=List.replicate ln.toNat z) (vals:=List.replicate ln.toNat zv) (by simp) (by
    generalize ln.toNat=q;induction q with
    | zero=>exact trivial
    | succ q ih=>exact ⟨hfit,ih⟩) (fun j e' x he hx=>by
     have h1:=(aaX.1 he).2;have h2:=(aaX.1 hx).2;simp at h1 h2;subst h1;subst h2;exact hzd w I)
   refine ⟨.slice (some ⟨w.heap.size,0,none⟩) ln.toNat cn.toNat,w.alloc (.cells ((Array.range (cn.toNat*k)).map ((if cn.toNat*k=0 then #[] else zv.cells)[· % (if cn.toNat*k=0 then (#[]:Array Value) else zv.cells).size]!)) e),oh β id (some (w.heap.size,cn.toNat)),?_,.inr ⟨w.heap.size,cn.toNat,cn.toNat,aX _ _ _,by omega,by omega,by simp⟩,?_,fun j hj=>aP hj⟩
   ·have hbig : ¬(281474976710656<(i.bytes:Int)*cn):=by
     rw [Int.mul_comm,hib];omega
    have hsz:(sizeOf e).run P w = .ok k w:=by simp [sizeOf,typeInfo,hi,hik]
    have hti:(typeInfo e).run P w = .ok i w:=by simp [typeInfo,hi]
    have hg1 : ¬(cn<0):=by omega
    have hg2 : ¬(ln<0):=by omega
    have hg3 : ¬(ln > cn):=by omega
    simp only [execOp,ho,Instr.makeSlice,Sem.run_bind,run_underlying ht,Result.andThen_ok,hl2,hc2,asInt,asIntOf,Sem.run_pure,hti,hw1,hw2];by_cases h0:cn.toNat*k=0
    ·simp [h0,hbig,hg1,hg2,hg3,newRow,hsz]
    ·simp [h0,hbig,hg1,hg2,hg3,newRow,nP hi hz,hsz]
   ·refine zc hm hid hlt e rfl hrv (by simp;omega) (by rw [hcells];exact aaV _) (fun m u hu =>?_);have hml:=(aaX.1 hu).1;rw [nj] at hml;have hmk2:m<cn.toNat*k:=by
     have:ln.toNat*k≤cn.toNat*k:=abQ k (by omega);have e3:zv.cells.toList.length=k:=by simpa using hzk
     rw [e3] at hml;omega
    have hne : ¬(cn.toNat*k=0):=by omega
    have hg0:=xV zv.cells.toList ln.toNat m u (by
     have:(List.replicate ln.toNat zv).flatMap (fun x=>x.cells.toList)=(List.replicate ln.toNat zv.cells.toList).flatten:=by
      rw [List.flatMap_def,List.map_replicate]
     rw [←this];exact hu)
    simp only [hne,ab1];simp [hmk2];simp at hg0;simp [getElem!_def,hg0]
  ·cases h
 case h_6 c ho=>
  split at h
  ·rename_i s x t t' e1 e2 e3;have e2':c.args = #[s,x]:=by apply abx.1;simpa using e2
   have e3':c.argTypes = #[t,t']:=by apply abx.1;simpa using e3
   obtain ⟨u,w',β',h1,h2,h3,h4⟩:=DC (ty:=o.type) h hp hm hs hid hlt (hg s) (hg x);refine ⟨u,w',β',?_,h2,h3,h4⟩;simp only [execOp,ho,resolve,e1,e2',e3'];simp [invoke,builtin,h1]
  ·cases h
 case h_7 t ho=>
  injection h with h;injection h with h1 h2;injection h2 with h2 h3;subst h1;subst h2;subst h3;refine ⟨.map (some w.heap.size),w.alloc (.map #[] 0),oh β id (some (w.heap.size,0)),?_,⟨w.heap.size,0,aX _ _ _,rfl⟩,ay.alloc hm hid hlt _ 0 _ ⟨w.heap.size,0,#[],0,aX _ _ _,nl _ _,fun h =>?_,rfl,fun i k x hi=>by cases hi⟩,fun j hj=>aP hj⟩
  ·simp [execOp,ho,Instr.makeMap]
  ·have:=hm.lt _ h;omega
 case h_8=>cases h
theorem Hh {s d:Nat} {x:V} {p:Prop} {v:V} {σ':ak} {xv:Value} (h:Te P s d x σ=some (p,v,σ')) (hp:p) (hm:de w I β σ nx) (hd:aL w I β x xv) :
 (convert s d xv).run P w = .ok (match v with | .d (.lit u)=>u|_=>undef) w∧(∃u,v = .d (.lit u))∧σ'=σ:=by
 unfold Te at h;split at h;rotate_left
 ·cases h
 rename_i hc;simp only [aa8] at hc;obtain ⟨⟨hb,hk⟩,hs⟩:=hc;obtain ⟨e,hu,he⟩:=Ki hb;split at h;rotate_left
 ·cases h
 rename_i p0 es hes;injection h with h;injection h with h1 h2;injection h2 with h2 h3;subst h1 h2 h3;obtain ⟨hp0,hby⟩:=hp;obtain ⟨vs,S⟩:=zK hm (fun _ _ h=>h) hes hp0 hk hd;refine ⟨?_,⟨_,rfl⟩,rfl⟩;have hsl : ∃a l c,xv = .slice a l c:=by
  unfold fM at hes;split at hes
  ·have hd':ax w I _ xv:=hd;cases hd' with
   | sd=>exact ⟨_,_,_,rfl⟩
   | sd0=>exact ⟨_,_,_,rfl⟩
  ·have:=aA hd;subst this;exact ⟨_,_,_,rfl⟩
  ·obtain ⟨a,c,rfl⟩:=yy hd;exact ⟨_,_,_,rfl⟩
  ·rcases hd with ⟨_,_,_,a,rfl⟩|⟨b,cap,c,_,_,_,rfl⟩
   ·exact ⟨_,_,_,rfl⟩
   ·exact ⟨_,_,_,rfl⟩
  ·unfold mR at hk;have hks : ∃kd,cX P s=some kd:=by
    cases hkd:cX P s with
    | none=>rw [hkd] at hk;simp at hk
    | some kd=>exact ⟨kd,rfl⟩
   obtain ⟨kd,hkd⟩:=hks;exfalso;have:=dE (P:=P) (t:=s);rw [hkd] at hk;cases kd<;>simp at hk
   have:=this hkd;rw [hu] at this;cases this
  ·cases hes
 obtain ⟨a,l,c,rfl⟩:=hsl;have hvs:vs=(es.map jN).map (Value.int .u8):=by
  apply adp;intro i;have hl:vs.length=es.length:=by have:=S.vals.1;simpa using this
  rcases aa2 i es.length with hi|hi
  ·obtain ⟨n,hn⟩:=hby es[i] (ad0 hi);obtain ⟨_,g⟩:=S.vals.2.2 i es[i] (IO hi);obtain ⟨v,hv,hdv⟩:=g 0 (.lit (.int .u8 n)) (by rw [hn];rfl);have:v = .int .u8 n:=aA (β:=fun _=>none) (show aL w I _ (.d (.lit (.int .u8 n))) v from hdv);subst this;simp only [Nat.mul_one,abD] at hv;rw [hv];simp [IO hi,hn,jN]
  ·rw [abz (by omega),abz (by simpa using hi)]
 have hd2:P.underlying d=some .string:=dE hs;rw [run_convert_bytes_string w s d e a l c hu he hd2];have hln:=S.len w;simp only [Builtin.lenOf,Sem.run_pure,Result.ok.injEq,adc] at hln;have hcl:=S.cells w (fun _ _=>rfl);have hmm:(es.map jN).map (fun n=>UInt8.ofNat n.toNat)=es.map jh:=by rw [aci];rfl
 cases a with
 | none=>
  simp only [Builtin.firstCells,Sem.run_pure,Result.ok.injEq,adc] at hcl;have hv0:vs=[]:=by
   have:vs.toArray = #[]:=hcl.symm;simpa using this
  have he0:es=[]:=by
   have:=S.vals.1;rw [hv0] at this;exact abu (by simpa using this.symm)
  subst he0;first
   | (simp [Conv.bytesToString];done)
   | (simp [Conv.bytesToString];rfl)
 | some a=>
  simp only [Builtin.firstCells,Nat.mul_one] at hcl;rw [←hln,hvs] at hcl;rw [run_bytesToString w a l c (es.map jN) hcl,foldl_push_bytes,hmm];first
   | (simp;done)
   | (simp;rfl)
theorem Mu {σ:ak} {i:Nat} {b:bN} (hg:σ.get i=some b):σ.set i b=σ:=by
 have : ∀(σ:ak),σ.get i=some b→σ.set i b=σ:=by
  intro σ;induction σ with
  | nil=>intro h;simp [ak.get] at h
  | cons q r ih=>
   obtain ⟨j,bl⟩:=q;intro h;simp only [ak.get,ak.set] at h ⊢;split at h
   ·rename_i hi;injection h with h;subst h;rw [aa3 hi]
   ·rename_i hi;rw [aaY hi,ih h]
 exact this σ hg
theorem wq {zs:Array Value} {n:Nat} (h : ∀u∈zs.toList,u.oneCell'=true) : ∀u∈(Builtin.zeroCells zs n).toList,u.oneCell'=true:=by
 intro u hu;simp only [Builtin.zeroCells,Array.toList_map,abY] at hu;obtain ⟨i,hi,rfl⟩:=hu;have hi':i<n*zs.size:=by simpa using hi
 have hs:0<zs.size:=by
  rcases abH zs.size with h0|h0
  ·rw [h0,Nat.mul_zero] at hi';omega
  ·exact h0
 have hlt:i % zs.size<zs.size:=adm _ hs;have e:zs[i % zs.size]! = zs[i % zs.size]:=by simp [getElem!_def,adS hlt]
 rw [e];exact h _ (by simp)
theorem Hv {t ty:Nat} {x:V} {p:Prop} {v:V} {σ':ak} {xv:Value} (h:Rl P t x σ=some (p,v,σ')) (hp:p) (hm:de w I β σ nx) (hd:aL w I β x xv) :
 ∃u w',(Builtin.clear_ #[t] ty #[xv]).run P w = .ok u w'∧aL w' I β v u∧ay w I β σ nx w' I β σ' nx:=by
 have tupd : ∀w':World,aL w' I β (.tup []) (.tuple #[]):=fun _=>⟨[],rfl,rfl,fun i c v h=>by simp at h⟩
 unfold Rl at h;split at h
 ·rename_i k bytes z i0 k0 lo n hmk;obtain ⟨e,i,zv,ht,hi,hz,hzk,hik,hib,hfit,hzd⟩:=nA hmk;obtain ⟨f1,f2,f3⟩:=nh hfit (hzd w I);split at h
  ·rename_i hk0;split at h
   ·rename_i k' es tq hg;split at h
    ·rename_i hkk;subst hk0;subst hkk;injection h with h;injection h with h1 h2;injection h2 with h2 h3;subst h1;subst h2;subst h3;have stay:lo=es.length→σ.set i0 (.row k' (es.take lo) tq)=σ:=fun e0=>by
      rw [e0,aaW (aaV _)];exact Mu hg
     rcases hd with ⟨hb,hl0,hn0,a,rfl⟩|⟨b,cap,c,hb,g1,g2,rfl⟩
     ·subst hl0;subst hn0;refine ⟨.tuple #[],w,?_,tupd w,?_⟩
      ·cases a<;>simp [Builtin.clear_,run_underlying ht]
      ·rw [stay (by omega)];exact ay.refl hm
     ·rcases abH n with hn|hn
      ·subst hn;refine ⟨.tuple #[],w,by simp [Builtin.clear_,run_underlying ht],tupd w,?_⟩;rw [stay (by omega)];exact ay.refl hm
      ·obtain ⟨cur,ty0,olds,r1,r2,r3,r4,r5,r6⟩:=hm.row_vals hg hb;have hzl:(Builtin.zeroCells zv.cells n).toList.length=n*k':=by
        rw [abr,size_zeroCells,f1]
       have hfit2:lo*k'+n*k'≤cur.size:=by
        rw [←abV];exact ab5 (abQ k' (by omega)) r4
       have hst:=dT (P:=P) b _ (Builtin.zeroCells zv.cells n).toList (lo*k') 0 cur w r1 (by omega) (wq f2);refine ⟨.tuple #[],w.setRow b (Go.Proofs.YtkkanlcjjpoklaaGreatDoor.setAt cur.toList (lo*k'+0) (Builtin.zeroCells zv.cells n).toList).toArray,?_,tupd _,?_⟩
       ·obtain ⟨m,rfl⟩ : ∃m,n=m+1:=⟨n - 1,by omega⟩
        simp only [Builtin.clear_,List.getElem?_toArray,abq,Sem.run_bind,run_underlying ht,Result.andThen_ok,nP hi hz,hst,Sem.run_pure]
       ·refine ay.setRow hm hg hb r1 ?_;have kp:=gB hm hg hb (Go.Proofs.YtkkanlcjjpoklaaGreatDoor.setAt cur.toList (lo*k'+0) (Builtin.zeroCells zv.cells n).toList).toArray;have r5':=r5.keep (w':=w.setRow b (Go.Proofs.YtkkanlcjjpoklaaGreatDoor.setAt cur.toList (lo*k'+0) (Builtin.zeroCells zv.cells n).toList).toArray) kp (fun _ h=>h);refine .inr ⟨b,cap,_,ty0,hb,setRow_heap w b cur _ _ (0,0) r1,r2,by rw [aa7];omega,?_,fun i x hi =>?_⟩
        ·simp only [acM];rw [dG (by rw [hzl,abr];omega)];simpa using r4
        ·rw [abW] at hi;split at hi
         ·rename_i hlt;obtain ⟨q1,q2⟩:=r5'.2.2 i x hi;refine ⟨q1,fun j c hj =>?_⟩;obtain ⟨v,v1,v2⟩:=q2 j c hj;have hjk:j<k':=by rw [←q1];exact (aaX.1 hj).1
          have:=lj (n:=k') hlt (aaV _);refine ⟨v,?_,r5'.2.1 v (aa0 v1),v2⟩;have e9:(Go.Proofs.YtkkanlcjjpoklaaGreatDoor.setAt cur.toList (lo*k'+0) (Builtin.zeroCells zv.cells n).toList).toArray[i*k'+j]? = (Go.Proofs.YtkkanlcjjpoklaaGreatDoor.setAt cur.toList (lo*k'+0) (Builtin.zeroCells zv.cells n).toList)[i*k'+j]? :=by simp
          rw [e9,bx (by rw [hzl,abr];omega),aa3 (by omega)];have:=r6 _ v v1;simpa using this
         ·cases hi
    ·cases h
   ·cases h
  ·cases h
 ·rename_i r hmk;obtain ⟨k,bytes,z⟩:=r;obtain ⟨e,i,zv,ht,_⟩:=nA hmk;injection h with h;injection h with h1 h2;injection h2 with h2 h3;subst h1;subst h2;subst h3;have:=aA hd;subst this;exact ⟨.tuple #[],w,by simp [Builtin.clear_,run_underlying ht],tupd w,ay.refl hm⟩
 ·rename_i r _ _ hmk;obtain ⟨k,bytes,z⟩:=r;obtain ⟨e,i,zv,ht,_⟩:=nA hmk;injection h with h;injection h with h1 h2;injection h2 with h2 h3;subst h1;subst h2;subst h3;have key:(∃a c,xv = .slice (some a) 0 c) ∨ ∃a,xv = .slice a 0 0:=by
   cases (show ax w I _ xv from hd) with
   | sd k full es b o cap val=>exact .inl ⟨_,_,rfl⟩
   | sd0 k full a=>exact .inr ⟨_,rfl⟩
  rcases key with ⟨a,c,rfl⟩|⟨a,rfl⟩
  ·exact ⟨.tuple #[],w,by simp [Builtin.clear_,run_underlying ht],tupd w,ay.refl hm⟩
  ·refine ⟨.tuple #[],w,?_,tupd w,ay.refl hm⟩;cases a<;>simp [Builtin.clear_,run_underlying ht]
 ·cases h
theorem KI {o:Oper} {g:Operand→V} {id:Nat} {p:Prop} {v:V} {σ':ak} (h:eR P o.op g σ id=some (p,v,σ')) (hp:p) (hm:de w I β σ nx) (hid:β id=none) (hlt:id<nx) {a:Act} (hg : ∀x,aL w I β (g x) (a.eval x)) :
 ∃u w' β',((execOp a.eval o).run P w = .ok (.value u) w'∨((execOp a.eval o).run P w = .ok .skip w'∧u=undef))∧aL w' I β' v u∧ay w I β σ nx w' I β' σ' nx ∧ ∀j,j≠id→β' j=β j:=by
 unfold eR at h;split at h;case h_1 t x y ho=>
  obtain ⟨w',h1,h2,h3⟩:=Jk h hp hm (hg x) (hg y);subst h2;exact ⟨undef,w',β,.inr ⟨by simp [execOp,ho,h1],rfl⟩,trivial,h3,fun _ _=>rfl⟩
 case h_2 s d x ho=>
  unfold Tg at h;split at h
  ·rename_i r hu;injection h with h;subst h;obtain ⟨h1,rfl,rfl⟩:=Fo hu hm (hg x);exact ⟨a.eval x,w,β,.inl (by simp [execOp,ho,h1]),hg x,ay.refl hm,fun _ _=>rfl⟩
  obtain ⟨h1,⟨u,h2⟩,h3⟩:=Hh h hp hm (hg x);subst h2 h3;exact ⟨u,w,β,.inl (by simp only at h1;simp [execOp,ho,h1]),ax.lit u,ay.refl hm,fun _ _=>rfl⟩
 case h_3 c ho=>
  split at h
  ·rename_i s x t t' e1 e2 e3;have e2':c.args = #[s,x]:=by apply abx.1;simpa using e2
   have e3':c.argTypes = #[t,t']:=by apply abx.1;simpa using e3
   obtain ⟨u,w',β',h1,h2,h3,h4⟩:=DD (ty:=o.type) h hp hm hid hlt (hg s) (hg x);refine ⟨u,w',β',.inl ?_,h2,h3,h4⟩;simp only [execOp,ho,resolve,e1,e2',e3'];simp [invoke,builtin,h1]
  ·rename_i s x t t' e1 e2 e3;have e2':c.args = #[s,x]:=by apply abx.1;simpa using e2
   have e3':c.argTypes = #[t,t']:=by apply abx.1;simpa using e3
   obtain ⟨u,w',h1,h2,h3⟩:=HC (ty:=o.type) h hp hm (hg s) (hg x);refine ⟨u,w',β,.inl ?_,h2,h3,fun _ _=>rfl⟩;simp only [execOp,ho,resolve,e1,e2',e3'];simp [invoke,builtin,h1]
  ·rename_i x n t t' e1 e2 e3;have e2':c.args = #[x,n]:=by apply abx.1;simpa using e2
   have e3':c.argTypes = #[t,t']:=by apply abx.1;simpa using e3
   obtain ⟨u,w',h1,h2,h3⟩:=Jv (it:=t') (ty:=o.type) h hp hm (hg x) (hg n);refine ⟨u,w',β,.inl ?_,h2,h3,fun _ _=>rfl⟩;simp only [execOp,ho,resolve,e1,e2',e3'];simp [invoke,builtin,h1]
  ·rename_i x t e1 e2 e3;have e2':c.args = #[x]:=by apply abx.1;simpa using e2
   have e3':c.argTypes = #[t]:=by apply abx.1;simpa using e3
   obtain ⟨u,w',h1,h2,h3⟩:=Hv (ty:=o.type) h hp hm (hg x);refine ⟨u,w',β,.inl ?_,h2,h3,fun _ _=>rfl⟩;simp only [execOp,ho,resolve,e1,e2',e3'];simp [invoke,builtin,h1]
  ·cases h
 case h_4 t m k x ho=>
  obtain ⟨w',h1,h2,h3⟩:=Iu h hp hm (hg m) (hg k) (hg x);subst h2;exact ⟨undef,w',β,.inr ⟨by simp [execOp,ho,h1],rfl⟩,trivial,h3,fun _ _=>rfl⟩
 case h_5 t m k ok ho=>
  obtain ⟨rfl,u,h1,h2⟩:=Im h hp hm (hg m) (hg k);exact ⟨u,w,β,.inl (by simp [execOp,ho,h1]),h2,ay.refl hm,fun _ _=>rfl⟩
 case h_6=>cases h
end
section
variable {P:Program} {g g':Operand→V}
theorem xf {α:Type} {l:List α} {f f':α→V} (h : ∀x∈l,f x=f' x):l.map f=l.map f':=adI h
theorem Ci {op:Op} (h : ∀x∈op.operands.toList,g x=g' x):ce P op g=ce P op g':=by
 unfold ce;cases op with
 | move x=>simp only [h x (by simp [Op.operands])]
 | assign x=>simp only [h x (by simp [Op.operands])]
 | nilCheck x=>simp only [h x (by simp [Op.operands])]
 | binOp op t x y u=>simp only [h x (by simp [Op.operands]),h y (by simp [Op.operands])]
 | unOp op t x=>simp only [h x (by simp [Op.operands])]
 | convert s d x=>simp only [h x (by simp [Op.operands])]
 | makeInterface t x=>simp only [h x (by simp [Op.operands])]
 | makeFunc fn first caps=>
  have:caps.toList.map g=caps.toList.map g':=xf (fun x hx=>h x (by simp [Op.operands];right;simpa using hx));have this2:first.toList.map g=first.toList.map g':=xf (fun x hx=>h x (by simp [Op.operands];left;simpa using hx))
  simp only [this,this2]
 | slice t x lo hi mx=>
  have h1:lo.map g=lo.map g':=by cases lo with|none=>rfl|some y=>simp only [acT];rw [h y (by simp [Op.operands])]
  have h2:hi.map g=hi.map g':=by cases hi with|none=>rfl|some y=>simp only [acT];rw [h y (by simp [Op.operands])]
  have h3:mx.map g=mx.map g':=by cases mx with|none=>rfl|some y=>simp only [acT];rw [h y (by simp [Op.operands])]
  simp only [h x (by simp [Op.operands]),h1,h2,h3]
 | fieldAddr t x f=>simp only [h x (by simp [Op.operands])]
 | field t x f=>simp only [h x (by simp [Op.operands])]
 | indexAddr t x i=>simp only [h x (by simp [Op.operands]),h i (by simp [Op.operands])]
 | index t x i=>simp only [h x (by simp [Op.operands]),h i (by simp [Op.operands])]
 | typeAssert x xT t ok=>simp only [h x (by simp [Op.operands])]
 | extract x i=>simp only [h x (by simp [Op.operands])]
 | build t parts=>
  have:(parts.toList.map fun p=>(p.1,g p.2))=(parts.toList.map fun p=>(p.1,g' p.2)):=adI (fun p hp=>by rw [h p.2 (by simp [Op.operands];exact ⟨p.1,by simpa using hp⟩)]);simp only [this]
 | call c=>
  simp only [iK];split
  ·rename_i x t e1 e2 e3;rw [h x (by simp [Op.operands,Call.operands,e2])]
  ·rename_i x y e1 e2;rw [h x (by simp [Op.operands,Call.operands,e2]),h y (by simp [Op.operands,Call.operands,e2])]
  ·rename_i x y e1 e2;rw [h x (by simp [Op.operands,Call.operands,e2]),h y (by simp [Op.operands,Call.operands,e2])]
  ·rename_i x e1 e2;rw [h x (by simp [Op.operands,Call.operands,e2])]
  ·rename_i x y z e1 e2;rw [h x (by simp [Op.operands,Call.operands,e2]),h y (by simp [Op.operands,Call.operands,e2]),h z (by simp [Op.operands,Call.operands,e2])]
  ·rename_i x y z e1 e2;rw [h x (by simp [Op.operands,Call.operands,e2]),h y (by simp [Op.operands,Call.operands,e2]),h z (by simp [Op.operands,Call.operands,e2])]
  ·rfl
 | _=>rfl
theorem JW {op:Op} {σ:ak} {id:Nat} (h : ∀x∈op.operands.toList,g x=g' x):aR P op g σ id=aR P op g' σ id:=by
 unfold aR;cases op with
 | box t x=>simp only [h x (by simp [Op.operands])]
 | buildSlice t n parts=>
  have:(parts.toList.map fun p=>(p.1,g p.2))=(parts.toList.map fun p=>(p.1,g' p.2)):=adI (fun p hp=>by rw [h p.2 (by simp [Op.operands];exact ⟨p.1,by simpa using hp⟩)]);simp only [this]
 | range t x=>simp only [h x (by simp [Op.operands])]
 | makeSlice t l c=>simp only [h l (by simp [Op.operands]),h c (by simp [Op.operands])]
 | call c=>
  simp only [];split
  ·rename_i s x t t' e1 e2 e3;rw [h s (by simp [Op.operands,Call.operands,e2]),h x (by simp [Op.operands,Call.operands,e2])]
  ·rfl
 | makeMap t r=>cases r<;>rfl
 | _=>rfl
theorem KH {op:Op} {σ:ak} {id:Nat} (h : ∀x∈op.operands.toList,g x=g' x):eR P op g σ id=eR P op g' σ id:=by
 unfold eR;cases op with
 | store t a x=>simp only [h a (by simp [Op.operands]),h x (by simp [Op.operands])]
 | convert s d x=>simp only [h x (by simp [Op.operands])]
 | call c=>
  simp only [];split
  ·rename_i s x t t' e1 e2 e3;rw [h s (by simp [Op.operands,Call.operands,e2]),h x (by simp [Op.operands,Call.operands,e2])]
  ·rename_i s x t t' e1 e2 e3;rw [h s (by simp [Op.operands,Call.operands,e2]),h x (by simp [Op.operands,Call.operands,e2])]
  ·rename_i s x t t' e1 e2 e3;rw [h s (by simp [Op.operands,Call.operands,e2]),h x (by simp [Op.operands,Call.operands,e2])]
  ·rename_i x t e1 e2 e3;rw [h x (by simp [Op.operands,Call.operands,e2])]
  ·rfl
 | mapUpdate t m k x=>simp only [h m (by simp [Op.operands]),h k (by simp [Op.operands]),h x (by simp [Op.operands])]
 | lookup t m k ok=>simp only [h m (by simp [Op.operands]),h k (by simp [Op.operands])]
 | _=>rfl
end
def js (id:Nat) (blk:bN):V→V
 | .so i k lo n=>if i=id then (match blk with
  | .row k' es _=>if k'=k∧lo+n≤es.length then .d (.sd k false ((es.drop lo).take n)) else .unk
  | _=> .unk) else .so i k lo n
 | .po i o=>if i=id then (match blk with
  | .cell cs _=>(match ql cs with
   | some ds=> .d (.pd ds.length [.agg ds] 0 o)
   | none=> .unk)
  | _=> .unk) else .po i o
 | .pe i k ix j=>if i=id then (match blk with
  | .row k' es _=>if k'=k then .d (.pd k es ix j) else .unk
  | _=> .unk) else .pe i k ix j
 | .mo i=>if i=id then .unk else .mo i
 | .it i=>if i=id then .unk else .it i
 | .yl i=>if i=id then .unk else .yl i
 | v=>v
def V.frz (id:Nat) (blk:bN):V→V
 | .agg cs=>xg (cs.map (js id blk))
 | .tup cs=> .tup (cs.map (js id blk))
 | .fn f cs=>match ql (cs.map (js id blk)) with
  | some ds=> .d (.fn f ds)
  | none=> .fn f (cs.map (js id blk))
 | .d x=> .d x
 | .so i k lo n=>js id blk (.so i k lo n)
 | .po i o=>js id blk (.po i o)
 | .pe i k ix j=>js id blk (.pe i k ix j)
 | .mo i=>js id blk (.mo i)
 | .it i=>js id blk (.it i)
 | .yl i=>js id blk (.yl i)
 | .unk=> .unk
def aO.frz (id:Nat) (blk:bN):aO→aO
 | []=>[]
 | (k,v)::r=>(k,v.frz id blk)::aO.frz id blk r
def bN.frz (id:Nat) (blk:bN):bN→bN
 | .cell cs ty=> .cell (cs.map (V.frz id blk)) ty
 | .rc y j e=> .rc y j (e.frz id blk)
 | b=>b
def ak.frz (id:Nat) (blk:bN):ak→ak
 | []=>[]
 | (i,b)::r=>if i=id then ak.frz id blk r else (i,bN.frz id blk b)::ak.frz id blk r
theorem aO.get_frz (id:Nat) (blk:bN) (e:aO) (t:Nat):(e.frz id blk).get t=(e.get t).frz id blk:=by
 induction e with
 | nil=>rfl
 | cons x r ih=>
  obtain ⟨k,v⟩:=x;simp only [aO.frz,aO.get];split
  ·rfl
  ·exact ih
theorem ak.get_frz (id:Nat) (blk:bN) (σ:ak) (j:Nat):(σ.frz id blk).get j=if j=id then none else (σ.get j).map (bN.frz id blk):=by
 induction σ with
 | nil=>simp [ak.frz,ak.get]
 | cons x r ih=>
  obtain ⟨i,b⟩:=x;simp only [ak.frz];by_cases hi:i=id
  ·subst hi;rw [aa3 rfl,ih];by_cases hj:j=i
   ·simp [hj]
   ·rw [aaY hj,aaY hj];simp [ak.get,acx hj]
  ·rw [aaY hi];simp only [ak.get];by_cases hj:i=j
   ·subst hj;simp [hi]
   ·rw [aaY hj,aaY hj,ih]
section
variable {w:World} {I I':Nat→Prop} {β:co} {id:Nat} {blk:bN}
structure x9 (w:World) (I I':Nat→Prop) (β:co) (id:Nat) (blk:bN):Prop where
 imm : ∀b,I b→I' b
 own:jS w I β id blk
 now : ∀b c,β id=some (some (b,c))→I' b
theorem x9.atom (h:x9 w I I' β id blk) {v:V} {x:Value} (hd:cg w I β v x):cg w I' β (js id blk v) x:=by
 have keep : ∀ {v:V},cg w I β v x→cg w I' β v x:=fun hd=>hd.keep (fun _ _=>rfl) h.imm (fun _ _ h=>h)
 cases v with
 | so i k lo n=>
  simp only [js];split
  ·rename_i hi;subst hi;split
   ·rename_i k' es tq;split
    ·rename_i hk;obtain ⟨rfl,hln⟩:=hk;rcases hd with ⟨hb,rfl,rfl,a,rfl⟩|⟨b,cap,c,hb,g1,g2,rfl⟩
     ·have:(es.drop 0).take 0=[]:=by simp
      rw [this];exact ax.sd0 k' false a
     ·rcases h.own with ⟨h1,h2⟩|⟨b',cap',cur,t,h1,h2,h3,h4,h5,h6⟩
      ·rw [hb] at h1;cases h1
      ·rw [hb] at h1;injection h1 with h1;injection h1 with h1;injection h1 with h1 h1';subst h1;subst h1';have hl:((es.drop lo).take n).length=n:=by simp;omega
       have hget : ∀(i:Nat) e,((es.drop lo).take n)[i]? = some e→es[lo+i]? = some e:=by
        intro i e he;simp only [abW,abJ] at he;split at he
        ·exact he
        ·cases he
       show ax w I' _ _;have key:=ax.sd (w:=w) (I:=I') k' false ((es.drop lo).take n) b (lo*k') c (fun i j=>(cur[lo*k'+i*k'+j]?).getD undef) (h.now b cap hb) (fun i e he=>(h6 _ e (hget i e he)).1)
        (fun i e j c he hj=>by
         obtain ⟨v,v1,_,_⟩:=(h6 _ e (hget i e he)).2 j c hj;rw [abV] at v1;simp [World.cell?,h2,v1])
        (fun i e j c he hj=>by
         obtain ⟨v,v1,v2,_⟩:=(h6 _ e (hget i e he)).2 j c hj;rw [abV] at v1;simp [v1,v2])
        (fun i e j c he hj=>by
         obtain ⟨v,v1,_,v3⟩:=(h6 _ e (hget i e he)).2 j c hj;rw [abV] at v1;simp only [v1,acA];exact v3.keep (fun _ _=>rfl) h.imm) (by omega) (by simp)
       rw [hl] at key;exact key
    ·trivial
   ·trivial
  ·exact keep hd
 | po i o=>
  simp only [js];split
  ·rename_i hi;subst hi;split
   ·rename_i cs tq;split
    ·rename_i ds hds;have:=gj hds;subst this;obtain ⟨b,cap,hb,rfl⟩:=hd;obtain ⟨b',cap',cur,t,h1,h2,h3,h4⟩:=h.own;rw [hb] at h1;injection h1 with h1;injection h1 with h1;injection h1 with h1 h1';subst h1;have hc : ∀(j:Nat) c,ds[j]? = some c → ∃v,cur[j]? = some v∧v.oneCell'=true∧ax w I c v:=by
      intro j c hj;obtain ⟨v,v1,v2,v3⟩:=h4 j (.d c) (by simp [hj]);exact ⟨v,v1,v2,v3⟩
     show ax w I' _ _;have key:=ax.pd (w:=w) (I:=I') ds.length [.agg ds] 0 o b 0 (fun _ j=>(cur[j]?).getD undef) (h.now b cap hb) (fun i e he=>by
      match i,he with
      | 0,he=>simp at he;subst he;rfl)
      (fun i e j c he hj=>by
       match i,he with
       | 0,he=>
        simp at he;subst he;obtain ⟨v,v1,_,_⟩:=hc j c hj;simp [World.cell?,h2,v1])
      (fun i e j c he hj=>by
       match i,he with
       | 0,he=>
        simp at he;subst he;obtain ⟨v,v1,v2,_⟩:=hc j c hj;simp [v1,v2])
      (fun i e j c he hj=>by
       match i,he with
       | 0,he=>
        simp at he;subst he;obtain ⟨v,v1,_,v3⟩:=hc j c hj;simp only [v1,acA];exact v3.keep (fun _ _=>rfl) h.imm)
     simpa using key
    ·trivial
   ·trivial
  ·exact keep hd
 | pe i k ix j=>
  simp only [js];split
  ·rename_i hi;subst hi;split
   ·rename_i k' es tq;split
    ·rename_i hk;subst hk;obtain ⟨b,cap,hb,rfl⟩:=hd;rcases h.own with ⟨h1,h2⟩|⟨b',cap',cur,t,h1,h2,h3,h4,h5,h6⟩
     ·rw [hb] at h1;cases h1
     ·rw [hb] at h1;injection h1 with h1;injection h1 with h1;injection h1 with h1 h1';subst h1;subst h1';show ax w I' _ _;have key:=ax.pd (w:=w) (I:=I') k' es ix j b 0 (fun i j=>(cur[i*k'+j]?).getD undef) (h.now b cap hb) (fun i e he=>(h6 _ e he).1)
       (fun i e j c he hj=>by
        obtain ⟨v,v1,_,_⟩:=(h6 _ e he).2 j c hj;simp [World.cell?,h2,v1])
       (fun i e j c he hj=>by
        obtain ⟨v,v1,v2,_⟩:=(h6 _ e he).2 j c hj;simp [v1,v2])
       (fun i e j c he hj=>by
        obtain ⟨v,v1,_,v3⟩:=(h6 _ e he).2 j c hj;simp only [v1,acA];exact v3.keep (fun _ _=>rfl) h.imm)
      simpa using key
    ·trivial
   ·trivial
  ·exact keep hd
 | mo i=>
  simp only [js];split
  ·trivial
  ·exact keep hd
 | it i=>
  simp only [js];split
  ·trivial
  ·exact keep hd
 | yl i=>
  simp only [js];split
  ·trivial
  ·exact keep hd
 | _=>exact keep hd
theorem x9.atoms (h:x9 w I I' β id blk) {cs:List V} {vs:List Value} (hd:bY w I β cs vs):bY w I' β (cs.map (js id blk)) vs:=by
 refine ⟨by simpa using hd.1,fun i c v hc hv =>?_⟩;simp only [abp,aaZ] at hc;obtain ⟨c',hc',rfl⟩:=hc;exact h.atom (hd.2 i c' v hc' hv)
theorem ef {v:V} {x:Value} (hd:cg w I β v x):aL w I β v x:=by
 cases v<;>first|exact hd|exact hd.elim
theorem x9.den (h:x9 w I I' β id blk) {v:V} {x:Value} (hd:aL w I β v x):aL w I' β (v.frz id blk) x:=by
 cases v with
 | agg cs=>obtain ⟨vs,rfl,ho,hd⟩:=hd;exact iM (h.atoms hd) ho
 | tup cs=>obtain ⟨vs,e,hd⟩:=hd;exact ⟨vs,e,h.atoms hd⟩
 | fn f cs=>
  obtain ⟨vs,rfl,hd⟩:=hd;have hs:=h.atoms hd;simp only [V.frz];split
  ·rename_i ds hds;have:=gj hds;rw [this] at hs;exact ax.fn f ds vs (by simpa using hs.1) (fun i c v hc hv=>hs.2 i (.d c) v (by simp [hc]) hv)
  ·exact ⟨vs,rfl,hs⟩
 | unk=>trivial
 | d y=>exact ax.keep (x:=y) (fun _ _=>rfl) h.imm hd
 | so i k lo n=>exact ef (h.atom (v:= .so i k lo n) hd)
 | po i o=>exact ef (h.atom (v:= .po i o) hd)
 | pe i k ix j=>exact ef (h.atom (v:= .pe i k ix j) hd)
 | mo i=>exact ef (h.atom (v:= .mo i) hd)
 | it i=>exact ef (h.atom (v:= .it i) hd)
 | yl i=>exact ef (h.atom (v:= .yl i) hd)
end
section
variable {P:Program} {w:World} {I:Nat→Prop} {β:co} {σ:ak} {nx id:Nat} {blk:bN}
theorem Bp (h:de w I β σ nx) (hg:σ.get id=some blk):ay w I β σ nx w (fun b=>I b ∨ ∃c,β id=some (some (b,c))) β (σ.frz id blk) nx∧x9 w I (fun b=>I b ∨ ∃c,β id=some (some (b,c))) β id blk:=by
 have h1:=ay.refl h;have hown:=h1.mem.own id blk hg;let I':Nat→Prop:=fun b=>I b ∨ ∃c,β id=some (some (b,c))
 have hset:x9 w I I' β id blk:=⟨fun b hb=> .inl hb,hown,fun b c hb=> .inr ⟨c,hb⟩⟩
 refine ⟨⟨⟨fun j b hj =>?_,fun j j' b b' k c c' g1 g2 g3 g4 =>?_,h1.mem.free,fun b hb =>?_⟩,h1.os,h1.tape,h1.output,h1.size,h1.block,fun b hb=> .inl (h1.imm b hb),fun b hb =>?_,h1.bet,h1.nx,fun b ⟨j,bl,c,g1,g2⟩ =>?_⟩,hset⟩
 ·rw [ak.get_frz] at hj;split at hj
  ·cases hj
  ·rename_i hne;simp only [aaZ] at hj;obtain ⟨b0,hb0,rfl⟩:=hj;have ho:=h1.mem.own j b0 hb0;have hni : ∀b c,β j=some (some (b,c)) → ¬I' b:=by
    intro b c hb hI;rcases hI with hI|⟨c',hc'⟩
    ·exact (ho.not_imm hb).1 hI
    ·exact hne (h1.mem.inj j id b0 blk b c c' hb0 hg hb hc')
   cases b0 with
   | cell cs ty=>
    obtain ⟨b,cap,cur,t,q1,q2,q3,q4⟩:=ho;refine ⟨b,cap,cur,t,q1,q2,hni b cap q1,fun i c hi =>?_⟩;simp only [abp,aaZ] at hi;obtain ⟨c',hc',rfl⟩:=hi;obtain ⟨v,v1,v2,v3⟩:=q4 i c' hc';exact ⟨v,v1,v2,hset.den v3⟩
   | row k es ty=>exact ho.keep (fun _ _=>rfl) (fun b hb=> .inl hb) hni (fun _ _ h=>h)
   | map es=>exact ho.keep (fun _ _=>rfl) (fun b hb=> .inl hb) hni (fun _ _ h=>h)
   | iter s pos=>exact ho.keep (fun _ _=>rfl) (fun b hb=> .inl hb) hni (fun _ _ h=>h)
   | rc y q e=>
    obtain ⟨b,cap,r,q1,q2,q3,q4,q5⟩:=ho;refine ⟨b,cap,r,q1,q2,hni b cap q1,q4,fun t =>?_⟩;rw [aO.get_frz];exact hset.den (q5 t)
 ·rw [ak.get_frz] at g1 g2;split at g1
  ·cases g1
  ·split at g2
   ·cases g2
   ·simp only [aaZ] at g1 g2;obtain ⟨x,hx,_⟩:=g1;obtain ⟨y,hy,_⟩:=g2;exact h1.mem.inj j j' x y k c c' hx hy g3 g4
 ·rcases hb with hb|⟨c,hb⟩
  ·exact h1.mem.lt b hb
  ·exact (hown.not_imm hb).2
 ·rcases hb with hb|⟨c,hb⟩
  ·exact h1.immn b hb
  ·rcases h1.own' b ⟨id,blk,c,hg,hb⟩ with h|h
   ·exact .inr (.inl h)
   ·exact .inr (.inr h)
 ·rw [ak.get_frz] at g1;split at g1
  ·cases g1
  ·simp only [aaZ] at g1;obtain ⟨x,hx,_⟩:=g1;exact h1.own' b ⟨j,x,c,hx,g2⟩
end
def Ur:V→Option Nat
 | .so i _ _ _=>some i
 | _=>none
def Sz:List V→Option Nat
 | []=>none
 | v::r=>match Ur v with
  | some i=>some i
  | none=>Sz r
def Us (v:V):Option Nat:=match v with
 | .agg cs=>Sz cs
 | .so i _ _ _=>some i
 | _=>none
def Sy:List (Nat × V)→Option Nat
 | []=>none
 | (_,v)::r=>match Us v with
  | some i=>some i
  | none=>Sy r
def Xd (P:Program) (t n id:Nat) (ps:List (Nat × V)) (σ:ak):j3:=match ob P t,zD 0 ps with
 | some (k,_),some es=>if es.length=n∧n*k≤16777216 then some (jg k es,.so id k 0 n,σ++[(id,.row k es)]) else none
 | _,_=>none
def K1 (i:Nat) (blk:bN):List (Nat × V)→List (Nat × V)
 | []=>[]
 | (j,v)::r=>(j,v.frz i blk)::K1 i blk r
def Ts (F:List (Nat × V)→ak→j3) (ps:List (Nat × V)) (σ:ak):j3:=match Sy ps with
 | some i=>(match σ.get i with
  | some blk=>F (K1 i blk ps) (σ.frz i blk)
  | none=>none)
 | none=>F ps σ
def Yi (P:Program) (t n id:Nat) (ps:List (Nat × V)) (σ:ak):j3:=Ts (Ts (Ts (Xd P t n id))) ps σ
theorem Bo (i:Nat) (blk:bN) (g:Operand→V) : ∀ps:List (Nat × Operand),K1 i blk (ps.map fun p=>(p.1,g p.2))=ps.map fun p=>(p.1,(g p.2).frz i blk)
 | []=>rfl
 | p::r=>by rw [abh,K1,Bo i blk g r];rfl
end Go.Proofs.YtkkanlcjjpoklaaGreatDoor
