/- What the theorem leans on, part 18. -/
import Derived.Test.YthnooilghadjkaaGreatDoorSrPAA
import Derived.Test.YthnooilghadjkaaGreatDoorSrPAB
import Derived.Test.YthnooilghadjkaaGreatDoorSrPAC
import Derived.Test.YthnooilghadjkaaGreatDoorSrPAD
import Derived.Test.YthnooilghadjkaaGreatDoorSrPAE
import Derived.Test.YthnooilghadjkaaGreatDoorSrPAF
import Derived.Test.YthnooilghadjkaaGreatDoorSrPAG
import Derived.Test.YthnooilghadjkaaGreatDoorSrPAH
import Derived.Test.YthnooilghadjkaaGreatDoorSrPAI
import Derived.Test.YthnooilghadjkaaGreatDoorSrPAJ
import Derived.Test.YthnooilghadjkaaGreatDoorSrPAK
import Derived.Test.YthnooilghadjkaaGreatDoorSrPAL
import Derived.Test.YthnooilghadjkaaGreatDoorSrPAM
import Derived.Test.YthnooilghadjkaaGreatDoorSrPAN
import Derived.Test.YthnooilghadjkaaGreatDoorSrPAO
import Derived.Test.YthnooilghadjkaaGreatDoorSrPAP
import Derived.Test.YthnooilghadjkaaGreatDoorSrPAQ
set_option linter.unusedSimpArgs false
set_option linter.unusedVariables false
set_option maxRecDepth 8000
namespace Go.Proofs.YthnooilghadjkaaGreatDoor
theorem joined_run : OFn Tryz.prog G0 19 [] [] 0 (bv true) [] := getsG G0 MB 3000 (by kernel_rfl)
abbrev txV (s : ByteArray) (L : List Iy) (H : List Sn) (N : Int) : V := .d (.agg [.lit (.string s), .sd 5 false (L.map iyD), .sd 2 false (H.map snD), iD N])
abbrev tcC (s : ByteArray) (L : List Iy) (H : List Sn) (N : Int) : Blk := .cell [sv s, .d (.sd 5 false (L.map iyD)), .d (.sd 2 false (H.map snD)), iv N]
abbrev zeroT : D := .agg [nilD, nilD, nilSD]
abbrev zeroW : D := .agg [nilSD, iD 0, nilSD, iD 0, nilSD]
structure OkM (s : ByteArray) (L : List Iy) (H : List Sn) (N : Int) : Prop where
  s : s.size ≤ 400
  l : L.length ≤ 60
  h : H.length ≤ 100
  n1 : -400 ≤ N
  n2 : N ≤ 400
section
variable (s : ByteArray) (L : List Iy) (H : List Sn) (N : Int)
def mdS (i : Nat) : St := ⟨[(1, .po 0 0), (2, .po 1 0), (3, .po 2 0), (42, .d (.sd 5 false (L.map iyD))), (43, iv L.length), (44, iv i)], [(0, tcC s L H N), (1, .cell [.d nilD, .d nilD, .d nilSD]), (2, .cell [.d nilSD, iv 0, .d nilSD, iv 0, .d nilSD])], 3⟩
def noS (i : Nat) : St := ⟨[(1, .po 0 0), (33, .d (.sd 5 false (L.map iyD))), (34, iv L.length), (35, iv i)], [(0, tcC s L H N)], 1⟩
attribute [push_cast] mdS.eq_def noS.eq_def
def errN (n : Int) (L : List Iy) : Int := if n < 0 then 1 else inlErr n [] L
end
end Go.Proofs.YthnooilghadjkaaGreatDoor
