/- What the theorem leans on, part 47. -/
import Derived.Test.YtkkanlcjjpoklaaGreatDoorStVPAQ
import Derived.Test.YtkkanlcjjpoklaaGreatDoorStVPBT
set_option linter.unusedSimpArgs false
namespace Go.Proofs.YtkkanlcjjpoklaaGreatDoor
open Go
theorem Fa:fP Tryz.prog 25=true:=by kernel_rfl
theorem B5 {x:D} (hx:qk (.sl 5 true [.int .i64,.int .i64,.int .i64,.int .i64,.str]) x) : ∃l:List Iy,x = .sd 5 false (l.map cT):=by
 obtain ⟨e6,rfl,l6,g6⟩:=LJ hx;obtain ⟨is,rfl⟩ : ∃l:List Iy,e6=l.map cT:=Gi cT fun y hy=>by
  obtain ⟨ds,rfl,hd⟩:=g6 y hy;obtain ⟨p1,q1,rfl,u1,v1⟩:=eh hd;obtain ⟨p2,q2,rfl,u2,v2⟩:=eh v1;obtain ⟨p3,q3,rfl,u3,v3⟩:=eh v2;obtain ⟨p4,p5,rfl,u4,u5⟩:=LK v3;obtain ⟨m1,rfl⟩:=hY u1;obtain ⟨m2,rfl⟩:=hY u2;obtain ⟨m3,rfl⟩:=hY u3;obtain ⟨m4,rfl⟩:=hY u4;obtain ⟨s,rfl,_⟩:=Gq u5;exact ⟨(m1,m2,m3,m4,s),rfl⟩
 exact ⟨is,rfl⟩
theorem Gr {ds:List D} (h:bO [.str,.sl 5 true [.int .i64,.int .i64,.int .i64,.int .i64,.str],.sl 2 true [.int .i64,.int .i64],.int .i64,.int .i64] ds) : ∃(s:ByteArray) (L:List Iy) (F:List Sn) (a b:Int),ds=[.lit (.string s),.sd 5 false (L.map cT),.sd 2 false (F.map bA),iD a,iD b]:=by
 obtain ⟨x1,r1,rfl,h1,k1⟩:=eh h;obtain ⟨x2,r2,rfl,h2,k2⟩:=eh k1;obtain ⟨x3,r3,rfl,h3,k3⟩:=eh k2;obtain ⟨x4,x5,rfl,h4,h5⟩:=LK k3;obtain ⟨s,rfl,_⟩:=Gq h1;obtain ⟨L,rfl⟩:=B5 h2;obtain ⟨F,rfl⟩:=IC h3;obtain ⟨a,rfl⟩:=hY h4;obtain ⟨b,rfl⟩:=hY h5;exact ⟨s,L,F,a,b,rfl⟩
end Go.Proofs.YtkkanlcjjpoklaaGreatDoor
