/-
  Parts of the proof: C27a. Conditions: none.
-/
import Derived.Test.YtdblhepcmjecgaaGreatDoorGdc10
set_option maxRecDepth 100000
set_option maxHeartbeats 40000000
namespace Go.Proofs.YtdblhepcmjecgaaGreatDoor.V
open Go
theorem do_e1{p:Pt}{r:Mv}{L:List Stk}{k C s:Int}{o:Bool}(bc:b5n p r)(bm:b2b L)(_:0≤s)(hc:¬b1j p r L=0):DoG ((p,r,L),(k,C,s),o):=by
 have hE:doE k C s o p r L=b1j p r L:=Iw hc
 unfold DoG
 have hP:zP (doE k C s o p r L) (doP k C o p r)=⟨0,0,[]⟩:=Iy (by rw[hE];exact hc)
 have hR:zR (doE k C s o p r L) (doR k C s p r)=⟨0,0,0⟩:=Iy (by rw[hE];exact hc)
 have hL:zL (doE k C s o p r L) (doL k C s o L)=[]:=Iy (by rw[hE];exact hc)
 refine wlk _ ?_;(repeat' first|constructor|refine Iu fun hu=> ?_|intro h);all_goals refine Lm ?_
 all_goals(try simp only[I8,b00,RT.lst_row,b0f,b0s,I9]at*)
 all_goals(try first
  |exact A7
  |(rw[hP];done)
  |(rw[hR];done)
  |(rw[hL];done)
  |exact Ap)
theorem do_e2{p:Pt}{r:Mv}{L:List Stk}{k C s:Int}{o:Bool}(bc:b5n p r)(bm:b2b L)(_:0≤s)(hc:b1j p r L=0)(hf:¬b6x k C s=0):DoG ((p,r,L),(k,C,s),o):=by
 have hE:doE k C s o p r L=b6x k C s:=by unfold doE;rw[if_neg (fun h=>h hc),if_pos hf]
 unfold DoG
 have hP:zP (doE k C s o p r L) (doP k C o p r)=⟨0,0,[]⟩:=Iy (by rw[hE];exact hf)
 have hR:zR (doE k C s o p r L) (doR k C s p r)=⟨0,0,0⟩:=Iy (by rw[hE];exact hf)
 have hL:zL (doE k C s o p r L) (doL k C s o L)=[]:=Iy (by rw[hE];exact hf)
 refine wlk _ ?_;(repeat' first|constructor|refine Iu fun hu=> ?_|intro h);all_goals refine Lm ?_
 all_goals(try simp only[I8,b00,RT.lst_row,b0f,b0s,I9]at*)
 all_goals(try first
  |exact A7
  |(rw[hP];done)
  |(rw[hR];done)
  |(rw[hL];done)
  |exact Ap)
theorem do_e3{p:Pt}{r:Mv}{L:List Stk}{k C s:Int}{o:Bool}(bc:b5n p r)(bm:b2b L)(_:0≤s)(hc:b1j p r L=0)(hf:b6x k C s=0)(hq:¬psE k C p r=0):DoG ((p,r,L),(k,C,s),o):=by
 have hE:doE k C s o p r L=psE k C p r:=by unfold doE;rw[if_neg (fun h=>h hc),if_neg (fun h=>h hf),if_pos hq]
 unfold DoG
 have hP:zP (doE k C s o p r L) (doP k C o p r)=⟨0,0,[]⟩:=Iy (by rw[hE];exact hq)
 have hR:zR (doE k C s o p r L) (doR k C s p r)=⟨0,0,0⟩:=Iy (by rw[hE];exact hq)
 have hL:zL (doE k C s o p r L) (doL k C s o L)=[]:=Iy (by rw[hE];exact hq)
 refine wlk _ ?_;(repeat' first|constructor|refine Iu fun hu=> ?_|intro h);all_goals refine Lm ?_
 all_goals(try simp only[I8,b00,RT.lst_row,b0f,b0s,I9]at*)
 all_goals(try first
  |exact A7
  |(rw[hP];done)
  |(rw[hR];done)
  |(rw[hL];done)
  |exact Ap)
theorem do_e4{p:Pt}{r:Mv}{L:List Stk}{k C s:Int}{o:Bool}(bc:b5n p r)(bm:b2b L)(h0:0≤s)(hc:b1j p r L=0)(hf:b6x k C s=0)(hq:psE k C p r=0)(I:DoIn k C s p r L)(hu:(doU k C p r).length=0):DoG ((p,r,L),(k,C,s),o):=by
 have hE:doE k C s o p r L=7:=by unfold doE;rw[if_neg (fun h=>h hc),if_neg (fun h=>h hf),if_neg (fun h=>h hq),if_pos hu]
 unfold doU at hu
 unfold DoG
 have hP:zP (doE k C s o p r L) (doP k C o p r)=⟨0,0,[]⟩:=Iy (by rw[hE];decide)
 have hR:zR (doE k C s o p r L) (doR k C s p r)=⟨0,0,0⟩:=Iy (by rw[hE];decide)
 have hL:zL (doE k C s o p r L) (doL k C s o L)=[]:=Iy (by rw[hE];decide)
 refine wlk _ ?_;(repeat' first|constructor|refine Iu fun hu=> ?_|intro h);all_goals refine Lm ?_
 all_goals(try simp only[I8,b00,RT.lst_row,b0f,b0s,I9,zL,stZ,Iw hq,Iw I.D.spl]at*)
 all_goals(try first
  |exact A7
  |omega
  |(rw[hP];done)
  |(rw[hR];done)
  |(rw[hL];done)
  |exact Ap)
end Go.Proofs.YtdblhepcmjecgaaGreatDoor.V
