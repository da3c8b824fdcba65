/- What the theorem leans on, part 48. -/
import Derived.Test.YtkkanlcjjpoklaaGreatDoorSpTPAQ
import Derived.Test.YtkkanlcjjpoklaaGreatDoorSpTPBU
namespace Go.Proofs.YtkkanlcjjpoklaaGreatDoor
open Go
theorem J0:dH Tryz.prog 25=true:=by kernel_rfl
theorem vw {x:D} (hx:mP (.sl 5 true [.int .i64,.int .i64,.int .i64,.int .i64,.str]) x) : ∃l:List Iy,x = .sd 5 false (l.map ki):=by
 obtain ⟨e6,rfl,l6,g6⟩:=DV hx;obtain ⟨is,rfl⟩ : ∃l:List Iy,e6=l.map ki:=zG ki fun y hy=>by
  obtain ⟨ds,rfl,hd⟩:=g6 y hy;obtain ⟨p1,q1,rfl,u1,v1⟩:=cX hd;obtain ⟨p2,q2,rfl,u2,v2⟩:=cX v1;obtain ⟨p3,q3,rfl,u3,v3⟩:=cX v2;obtain ⟨p4,p5,rfl,u4,u5⟩:=zM v3;obtain ⟨m1,rfl⟩:=dB u1;obtain ⟨m2,rfl⟩:=dB u2;obtain ⟨m3,rfl⟩:=dB u3;obtain ⟨m4,rfl⟩:=dB u4;obtain ⟨s,rfl,_⟩:=zL u5;exact ⟨(m1,m2,m3,m4,s),rfl⟩
 exact ⟨is,rfl⟩
theorem Lc {ds:List D} (h:be [.str,.sl 5 true [.int .i64,.int .i64,.int .i64,.int .i64,.str],.sl 2 true [.int .i64,.int .i64],.int .i64,.int .i64] ds) : ∃(s:ByteArray) (L:List Iy) (F:List Sn) (a b:Int),ds=[.lit (.string s),.sd 5 false (L.map ki),.sd 2 false (F.map dk),iD a,iD b]:=by
 obtain ⟨x1,r1,rfl,h1,k1⟩:=cX h;obtain ⟨x2,r2,rfl,h2,k2⟩:=cX k1;obtain ⟨x3,r3,rfl,h3,k3⟩:=cX k2;obtain ⟨x4,x5,rfl,h4,h5⟩:=zM k3;obtain ⟨s,rfl,_⟩:=zL h1;obtain ⟨L,rfl⟩:=vw h2;obtain ⟨F,rfl⟩:=BD h3;obtain ⟨a,rfl⟩:=dB h4;obtain ⟨b,rfl⟩:=dB h5;exact ⟨s,L,F,a,b,rfl⟩
end Go.Proofs.YtkkanlcjjpoklaaGreatDoor
