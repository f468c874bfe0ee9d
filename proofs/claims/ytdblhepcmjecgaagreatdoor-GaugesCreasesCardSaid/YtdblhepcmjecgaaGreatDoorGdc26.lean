/-
  Parts of the proof: L14 L15. Conditions: none.
-/
import Derived.Test.YtdblhepcmjecgaaGreatDoorGdc5
import Derived.Test.YtdblhepcmjecgaaGreatDoorGdc16
import Derived.Test.YtdblhepcmjecgaaGreatDoorGdc24
set_option maxRecDepth 100000
set_option maxHeartbeats 40000000
namespace Go.Proofs.YtdblhepcmjecgaaGreatDoor.V
open Go
def exS0:Sta:=(flP 4 1,r0,flL 4 1)
def exS:Sta:=c5h (c5h exS0 (1,2,1,true)) (1,1,0,true)
theorem d7w:c17 exS0:=c5a 3 0
theorem d74:c17 (c5h exS0 (1,2,1,true)):=c6f d7w (by show (0:Int)≤1;omega)
theorem exS_ok:c17 exS:=c6f d74 (by show (0:Int)≤0;omega)
abbrev d22:FuncId:=44
def kEx(s:Sta):Kon
 | []=>some (True,.agg (stC s.1 s.2.1 s.2.2))
 |_=>none
def FEx(s:Sta):Fam:=⟨Unit,fun _=>[],fun _=>True,fun _=>.agg (stC s.1 s.2.1 s.2.2)⟩
theorem ex_law(s:Sta):Law (FEx s) (kEx s):=by
 intro args pre t h hp
 unfold kEx at h
 split at h
 ·cases h
  exact⟨(),Ix,Ix,rfl⟩
 ·cases h
theorem g6e:PS d22 (kEx exS):=by
 refine con [(c56,c2e),(nDo,kDo)] (by simpa using⟨c9z,pDo⟩) (FEx exS) (fun _ _=>none) (kEx exS) (ex_law exS) ?_ Go.Proofs.Tryz.func44 Du Du Du ?_
 ·exact Cb
 ·rintro⟨⟩ _
  have h1:=b2r d7w.1 d7w.2
  have h2:=b2r d74.1 d74.2
  refine wlk _ ?_;(repeat' first|constructor|refine Iu fun hu=> ?_|intro h);all_goals refine Lm ?_
  all_goals(try simp only[b00,RT.lst_row,b0f,b0s])
  all_goals first
   |exact⟨h1,Dt⟩
   |exact⟨h2,Dt⟩
   |exact A5
   |skip
theorem d85{p:Pt}{r:Mv}{L:List Stk}(za:PS d22 (kEx (p,r,L)))(b6:c17 (p,r,L))(hc:b1j p r L=0)(hg:gcL p L=[(0,2),(1,0),(2,0)])(hv:ghV p r L 100 500=400)(hw:ndW p L 100=471)(ha:ndA p L 100=785):PS b5w b48:=by
 refine con [(d22,kEx (p,r,L)),(g1r,d4r),(g97,f19),(nGCr,g7n),(c48,b8v),(d58,c6q)] (by simpa using⟨za,g9s,pCreep,pGCr,d2k,d9s⟩) ⟨Unit,fun _=>[],fun _=>True,fun _=>.bool true⟩ (fun _ _=>none) b48 ?_ ?_ Go.Proofs.Tryz.func18 Du Du Du ?_
 ·intro args pre t h hp
  unfold b48 at h
  split at h
  ·cases h
   exact⟨(),Ix,Ix,rfl⟩
  ·cases h
 ·exact Cb
 ·rintro⟨⟩ _
  have bw:=b2r b6.1 b6.2
  have hX:ndX p r L 100 500=0:=by unfold ndX;rw[if_pos hc];rfl
  have hY:ghX p r L 100 500=0:=hX
  refine wlk _ ?_;(repeat' first|constructor|refine Iu fun hu=> ?_|intro h);all_goals refine Lm ?_
  all_goals(try simp only[b00,RT.lst_row,b0f,b0s,hc,hg,hv,hw,ha,hX,hY,keep,zL,Iw]at*)
  all_goals(try first
   |exact bw
   |trivial
   |exact B6
   |decide
   |(simp at*;done))
theorem ex_c:b1j exS.1 exS.2.1 exS.2.2=0:=Du
theorem ex_g:gcL exS.1 exS.2.2=[(0,2),(1,0),(2,0)]:=Du
theorem ex_v:ghV exS.1 exS.2.1 exS.2.2 100 500=400:=Du
theorem ex_w:ndW exS.1 exS.2.2 100=471:=Du
theorem ex_a:ndA exS.1 exS.2.2 100=785:=Du
theorem d0k:PS b5w b48:=d85 (p:=exS.1) (r:=exS.2.1) (L:=exS.2.2) g6e exS_ok ex_c ex_g ex_v ex_w ex_a
end Go.Proofs.YtdblhepcmjecgaaGreatDoor.V
