/- What the theorem leans on, part 48. -/
import Derived.Test.YtkhonlnajdfhfaaGreatDoorLtYPAQ
import Derived.Test.YtkhonlnajdfhfaaGreatDoorLtYPBU
namespace Go.Proofs.YtkhonlnajdfhfaaGreatDoor
open Go
theorem st_doc:isStT Tryz.prog 25=true:=by kernel_rfl
theorem ofC_inlaysD {x:D} (hx:OfC (.sl 5 true [.int .i64,.int .i64,.int .i64,.int .i64,.str]) x) : ∃l:List Iy,x = .sd 5 false (l.map iyD):=by
 obtain ⟨e6,rfl,l6,g6⟩:=ofC_sl hx
 obtain ⟨is,rfl⟩ : ∃l:List Iy,e6=l.map iyD:=list_of iyD fun y hy=>by
  obtain ⟨ds,rfl,hd⟩:=g6 y hy
  obtain ⟨p1,q1,rfl,u1,v1⟩:=ofCs_cons hd
  obtain ⟨p2,q2,rfl,u2,v2⟩:=ofCs_cons v1
  obtain ⟨p3,q3,rfl,u3,v3⟩:=ofCs_cons v2
  obtain ⟨p4,p5,rfl,u4,u5⟩:=ofCs2 v3
  obtain ⟨m1,rfl⟩:=ofC_int u1
  obtain ⟨m2,rfl⟩:=ofC_int u2
  obtain ⟨m3,rfl⟩:=ofC_int u3
  obtain ⟨m4,rfl⟩:=ofC_int u4
  obtain ⟨s,rfl,_⟩:=ofC_str u5
  exact ⟨(m1,m2,m3,m4,s),rfl⟩
 exact ⟨is,rfl⟩
theorem ofDoc {ds:List D} (h:OfCs [.str,.sl 5 true [.int .i64,.int .i64,.int .i64,.int .i64,.str],.sl 2 true [.int .i64,.int .i64],.int .i64,.int .i64] ds) : ∃(s:ByteArray) (L:List Iy) (F:List Sn) (a b:Int),ds=[.lit (.string s),.sd 5 false (L.map iyD),.sd 2 false (F.map snD),iD a,iD b]:=by
 obtain ⟨x1,r1,rfl,h1,k1⟩:=ofCs_cons h
 obtain ⟨x2,r2,rfl,h2,k2⟩:=ofCs_cons k1
 obtain ⟨x3,r3,rfl,h3,k3⟩:=ofCs_cons k2
 obtain ⟨x4,x5,rfl,h4,h5⟩:=ofCs2 k3
 obtain ⟨s,rfl,_⟩:=ofC_str h1
 obtain ⟨L,rfl⟩:=ofC_inlaysD h2
 obtain ⟨F,rfl⟩:=ofC_spans h3
 obtain ⟨a,rfl⟩:=ofC_int h4
 obtain ⟨b,rfl⟩:=ofC_int h5
 exact ⟨s,L,F,a,b,rfl⟩
end Go.Proofs.YtkhonlnajdfhfaaGreatDoor
