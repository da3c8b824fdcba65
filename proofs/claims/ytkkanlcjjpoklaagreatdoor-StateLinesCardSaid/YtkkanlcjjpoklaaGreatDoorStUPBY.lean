/- What the theorem leans on, part 51. -/
import Derived.Test.YtkkanlcjjpoklaaGreatDoorStUPAQ
import Derived.Test.YtkkanlcjjpoklaaGreatDoorStUPBX
namespace Go.Proofs.YtkkanlcjjpoklaaGreatDoor
open Go
theorem KH:eT Tryz.prog 25=true:=by kernel_rfl
theorem Aj {x:D} (hx:pu (.sl 5 true [.int .i64,.int .i64,.int .i64,.int .i64,.str]) x) : ∃l:List Iy,x = .sd 5 false (l.map cS):=by
 obtain ⟨e6,rfl,l6,g6⟩:=JN hx;obtain ⟨is,rfl⟩ : ∃l:List Iy,e6=l.map cS:=Ej cS fun y hy=>by
  obtain ⟨ds,rfl,hd⟩:=g6 y hy;obtain ⟨p1,q1,rfl,u1,v1⟩:=dV hd;obtain ⟨p2,q2,rfl,u2,v2⟩:=dV v1;obtain ⟨p3,q3,rfl,u3,v3⟩:=dV v2;obtain ⟨p4,p5,rfl,u4,u5⟩:=JO v3;obtain ⟨m1,rfl⟩:=dG u1;obtain ⟨m2,rfl⟩:=dG u2;obtain ⟨m3,rfl⟩:=dG u3;obtain ⟨m4,rfl⟩:=dG u4;obtain ⟨s,rfl,_⟩:=Eu u5;exact ⟨(m1,m2,m3,m4,s),rfl⟩
 exact ⟨is,rfl⟩
theorem Of {ds:List D} (h:bG [.str,.sl 5 true [.int .i64,.int .i64,.int .i64,.int .i64,.str],.sl 2 true [.int .i64,.int .i64],.int .i64,.int .i64] ds) : ∃(s:ByteArray) (L:List Iy) (F:List Sn) (a b:Int),ds=[.lit (.string s),.sd 5 false (L.map cS),.sd 2 false (F.map bA),iD a,iD b]:=by
 obtain ⟨x1,r1,rfl,h1,k1⟩:=dV h;obtain ⟨x2,r2,rfl,h2,k2⟩:=dV k1;obtain ⟨x3,r3,rfl,h3,k3⟩:=dV k2;obtain ⟨x4,x5,rfl,h4,h5⟩:=JO k3;obtain ⟨s,rfl,_⟩:=Eu h1;obtain ⟨L,rfl⟩:=Aj h2;obtain ⟨F,rfl⟩:=GE h3;obtain ⟨a,rfl⟩:=dG h4;obtain ⟨b,rfl⟩:=dG h5;exact ⟨s,L,F,a,b,rfl⟩
end Go.Proofs.YtkkanlcjjpoklaaGreatDoor
