/-
  Parts of the proof: L13 R3 R3c. Conditions: none.
-/
import Derived.Test.YtdblhepcmjecgaaGreatDoorGdc3
import Derived.Test.YtdblhepcmjecgaaGreatDoorGdc5
import Derived.Test.YtdblhepcmjecgaaGreatDoorGdc16
import Derived.Test.YtdblhepcmjecgaaGreatDoorGdc24
import Derived.MakeChecks
set_option maxRecDepth 100000
set_option maxHeartbeats 40000000
namespace Go.Proofs.YtdblhepcmjecgaaGreatDoor.V
open Go
theorem j23{p:Pt}{r:Mv}(hr:0≤r.t):¬b1j p r []=0:=fun h=>by
 have S:=f3x (L:=[]) (c2g h) hr (fun s hs=>by cases hs)
 have hN:=b1b S.hs
 have:=S.all 0 Dt Dt
 simp[b0j]at this
theorem ge_fin{p:Pt}{r:Mv}{L:List Stk}{t s:Int}:(ndX p r L t s=if b1j p r L=0 then b4k t s else b1j p r L)∧ghX p r L t s=ndX p r L t s∧ftX p r L t s 1000=ndX p r L t s∧(¬ndX p r L t s=0→ghV p r L t s=0∧keep (ndX p r L t s) (ndW p L t)=0∧keep (ndX p r L t s) (ndA p L t)=0∧ftV p r L t s 1000=false)∧(¬b1j p r L=0→(zL (b1j p r L) (gcL p L)).length=0):=by
 have h3:ftX p r L t s 1000=ndX p r L t s:=by
  unfold ftX
  split
  ·rename_i h;rw[h];rfl
  ·rfl
 refine⟨rfl,rfl,h3,fun h=>⟨Iy (fun k=>h k),Iy h,Iy h,Iy (fun k=>h (h3▸k))⟩,fun h=>by simp[zL,h]⟩
abbrev GEi:=(Int×Int×List Int)×(Int×Int)×Bool
def FGE:Fam:=⟨GEi,fun((w,v,l),(t,s),b)=>[.agg (fSV w v l),.agg [.int .i64 t,.int .i64 s],.bool b],fun((w,v,l),(t,s),_)=>fOK w v l∧inK .i64 t∧inK .i64 s,fun _=>.bool true⟩
abbrev nGE:FuncId:=6
theorem pGE_of(zq:PS b5w b48):PS nGE (f5c FGE):=by
 refine con [(b5w,b48),(nFOf,kFOf),(c1f,b8d),(d15,b7x),(nGCr,g7n),(c48,b8v),(d58,c6q),(j4x,f80)] (by simpa using⟨zq,pFOf,d5j,c71,pGCr,d2k,d9s,pFits⟩) FGE (fun _ _=>none) (f5c FGE) ?_ ?_ Go.Proofs.Tryz.func6 Du Du Du ?_
 ·exact d7x FGE (fun _=>rfl) (fun i=>by simp[FGE,fSV,b2h,SV.le2,SV.le1,b24,SV.le0,b3q,d0g])
 ·exact Bw
 ·rintro⟨⟨w,v,l⟩,⟨t,s⟩,b⟩ ⟨⟨i1,i2,i3⟩,i4,i5⟩
  try dsimp only at i1 i2 i3 i4 i5
  have b6:=g0j w v l
  have cd:u8R.isL l.length (u8R.row l)∧(0≤w∧w≤255)∧(0≤v∧v≤255)∧∀b∈u8R.lst l.length (u8R.row l),0≤b∧b≤255:=⟨u8R.isL_row l,i1,i2,by rw[RT.lst_row];exact i3⟩
  have fin:=fun(p:Pt) (r:Mv) (L:List Stk)=>@ge_fin p r L t s
  have nil0:=@j23 (fOf w v l).1 (fOf w v l).2.1 b6.1.2.1
  have bw:=b2r b6.1 b6.2
  have v6:=b2r (L:=[]) b6.1 ⟨⟨Dv,fun c hc=>Ff⟩,fun c hc=>Ff,En⟩
  generalize hS:fOf w v l=S at nil0 bw v6
  obtain⟨p,r,L⟩:=S
  dsimp only at nil0 bw v6
  cases b
  all_goals
   all_goals refine wlk _ ?_;(repeat' first|constructor|refine Iu fun hu=> ?_|intro h);all_goals refine Lm ?_
   all_goals(try simp only[hS,b00,RT.lst_row,b0f,b0s,g8c]at*)
   all_goals(try first
    |exact cd
    |exact bw
    |exact⟨bw.1,⟨fun i hi=>absurd hi (Je _),Dt,fun s hs=>(by cases hs)⟩,fun s hs=>(by cases hs),En⟩)
   all_goals
    obtain⟨n1,g1,f1,k1,z1⟩:=fin p r L
    obtain⟨m1,g2,f2,k2,z2⟩:=fin p r []
    clear fin bw v6 cd b6 i1 i2 i3 i4 i5 hS
   all_goals(try(by_cases hc:b1j p r L=0<;>by_cases hg:b4k t s=0<;>simp_all<;>done))
theorem j3n{q:Int×Int×List Int}{p:Int×Int}{b:Bool}(h:fOK q.1 q.2.1 q.2.2)(k:inK .i64 p.1∧inK .i64 p.2)(_:True):FGE.pre (q,p,b):=⟨h,k.1,k.2⟩
end Go.Proofs.YtdblhepcmjecgaaGreatDoor.V
namespace Go.Proofs.YtdblhepcmjecgaaGreatDoor.V
open Go Go.RowKit Go.ChangeShapes Go.WideShapes Go.ChangeAt
abbrev g2x:List (String×DataW Unit):=[("crimp/moves.turns",Rows.laid_crimp_moves_turns),("crimp/cells.quarters",Rows.laid_crimp_cells_quarters)]
theorem b8p{W:World}(h:laidMetH Go.Proofs.Tryz.prog g2x W):∀g t,c73 g=some t→t.pure=true∧D W (fun _=>False) b0a t (.pointer (some ⟨g,0,none⟩)):=by
 have hA:∀b,¬(fun _:Nat=>False) b:=fun _ h=>h
 rw[Go.MakeChecks.laidMetH_plain _ _ _ Du]at h
 obtain⟨ps,⟨g0,t0,cs0,f0,p0,q0,hg0,ht0,Pn,gy,⟨g1,t1,cs1,f1,p1,q1,Mz,ht1,np,v9,_,_⟩,_⟩,_,_⟩:=h
 have r0:=c7n (A:=fun _=>False) hA (sz:=4) (m:=8) (f:=b41) hg0 ht0 Pn gy (g0:=1) Du Du Du Dt Du
 have r1:=c7n (A:=fun _=>False) hA (sz:=17) (m:=4) (f:=b40) Mz ht1 np v9 (g0:=0) Du Du Du Dt Du
 intro g t hgt
 unfold c73 at hgt
 split at hgt
 ·cases hgt;exact r0
 ·cases hgt;exact r1
 ·cases hgt
section
variable {H : Type} {enc : TypeId × Value → H} {w : World} {base : Nat} {sp : Nat → Bool} {held : Bool} {fuel : Nat} {cs : List Value} {x : DataW H × List MemPlace}
theorem j1t{v:Value}{d:DataW H}{ps:List MemPlace}(b6:Value.okWide Go.Proofs.Tryz.prog w .any base 3 v)(h:DataW.Trod enc Go.Proofs.Tryz.prog w 0 sp held 3 v d ps):∃n,inK .i64 n∧v=.int .i64 n:=by
 obtain⟨n,e,_,_,hw⟩:=open_int Go.Proofs.Tryz.underlying3 b6 h
 exact⟨n,d4i hw,e⟩
end
section
variable {H : Type} {enc : TypeId × Value → H} {w : World} {base : Nat} {sp : Nat → Bool} {held : Bool} {fuel : Nat} {cs : List Value} {x : DataW H × List MemPlace}
theorem rd_f(h:DataW.trod enc Go.Proofs.Tryz.prog w base sp held fuel 43 cs=some x):∃(q:Int×Int×List Int) (v:Value),fOK q.1 q.2.1 q.2.2∧cs=[.int .u8 q.1,.int .u8 q.2.1,v]∧D w (fun _=>False) b0a (.sl 1 q.2.2.length (u8R.row q.2.2) none) v:=by
 obtain⟨hl,hf⟩:=d4g Go.Proofs.Tryz.underlying43 h
 have hl:cs.length=3:=hl.trans Du
 match cs,hl with
 | [v0,v1,v2],_=>
   simp only[J8,forall_eq_or_imp,List.not_mem_nil,false_implies,implies_true,and_true]at hf
   obtain⟨⟨m0,y0,h0⟩,⟨m1,y1,h1⟩,⟨m2,y2,h2⟩⟩:=hf
   replace h0:DataW.trod enc Go.Proofs.Tryz.prog w base sp held m0 5 [v0]=some y0:=h0
   replace h1:DataW.trod enc Go.Proofs.Tryz.prog w base sp held m1 5 [v1]=some y1:=h1
   replace h2:DataW.trod enc Go.Proofs.Tryz.prog w base sp held m2 41 [v2]=some y2:=h2
   obtain⟨a,ea,ha⟩:=c5u Go.Proofs.Tryz.underlying5 h0
   obtain⟨b,eb,hb⟩:=c5u Go.Proofs.Tryz.underlying5 h1
   cases ea;cases eb
   obtain⟨l,v,ev,_,hD,b6⟩:=rd_sl u8R.d u8R.sv (fun q=>inK .u8 q) Go.Proofs.Tryz.underlying41 (sz:=1) Du Dt (A:=fun _=>False) (fun _ h=>h) (fun m R y hy=>by
    obtain⟨q,rfl,hq⟩:=c5u Go.Proofs.Tryz.underlying5 hy
    refine⟨q,hq,rfl,rfl,fun v hv=> ?_,fun j s v hs hv=> ?_⟩
    ·simp at hv;subst hv;rfl
    ·match j,hs,hv with
     |0,hs,hv=>simp[u8R]at hs hv;subst hs hv;exact .int) h2
   cases ev
   simp only[inK]at ha hb
   exact⟨(a,b,l),v2,⟨Dt,Dt,fun q hq=>by have:=b6 q hq;simp only[inK]at this;omega⟩,rfl,hD⟩
theorem j22{v:Value}{d:DataW H}{ps:List MemPlace}(b6:Value.okWide Go.Proofs.Tryz.prog w .any base 43 v)(h:DataW.Trod enc Go.Proofs.Tryz.prog w 0 sp held 43 v d ps):∃q:Int×Int×List Int,fOK q.1 q.2.1 q.2.2∧D w (fun _=>False) b0a (.agg (fSV q.1 q.2.1 q.2.2)) v:=by
 obtain⟨fuel,h⟩:=h
 obtain⟨q,u,hq,dx,hD⟩:=rd_f h
 unfold Value.okWide at b6
 rw[Go.Proofs.Tryz.underlying43]at b6
 obtain⟨ca,rfl,_,_⟩:=b6
 refine⟨q,hq,?_⟩
 have e:ca=[.int .u8 q.1,.int .u8 q.2.1,u].toArray:=by
  apply Array.ext'
  exact dx
 rw[e]
 refine .agg _ rfl (fun i s v hs hv=> ?_)
 match i,hs,hv with
 |0,hs,hv=>simp[fSV]at hs hv;subst hs hv;exact .int
 |1,hs,hv=>simp[fSV]at hs hv;subst hs hv;exact .int
 |2,hs,hv=>simp[fSV]at hs hv;subst hs hv;exact hD
theorem g6b(h:DataW.trod enc Go.Proofs.Tryz.prog w base sp held fuel 65 cs=some x):∃p:Int×Int,(inK .i64 p.1∧inK .i64 p.2)∧cs=[.int .i64 p.1,.int .i64 p.2]:=by
 obtain⟨hl,hf⟩:=d4g Go.Proofs.Tryz.underlying65 h
 have hl:cs.length=2:=hl.trans Du
 match cs,hl with
 | [v0,v1],_=>
   simp only[J8,forall_eq_or_imp,List.not_mem_nil,false_implies,implies_true,and_true]at hf
   obtain⟨⟨m0,y0,h0⟩,⟨m1,y1,h1⟩⟩:=hf
   replace h0:DataW.trod enc Go.Proofs.Tryz.prog w base sp held m0 3 [v0]=some y0:=h0
   replace h1:DataW.trod enc Go.Proofs.Tryz.prog w base sp held m1 3 [v1]=some y1:=h1
   obtain⟨a,ea,ha⟩:=c5u Go.Proofs.Tryz.underlying3 h0
   obtain⟨b,eb,hb⟩:=c5u Go.Proofs.Tryz.underlying3 h1
   cases ea;cases eb
   exact⟨(a,b),⟨ha,hb⟩,rfl⟩
theorem f8k{v:Value}{d:DataW H}{ps:List MemPlace}(b6:Value.okWide Go.Proofs.Tryz.prog w .any base 65 v)(h:DataW.Trod enc Go.Proofs.Tryz.prog w 0 sp held 65 v d ps):∃p:Int×Int,(inK .i64 p.1∧inK .i64 p.2)∧D w (fun _=>False) b0a (.agg [.int .i64 p.1,.int .i64 p.2]) v:=by
 obtain⟨fuel,h⟩:=h
 obtain⟨p,hp,dx⟩:=g6b h
 unfold Value.okWide at b6
 rw[Go.Proofs.Tryz.underlying65]at b6
 obtain⟨ca,rfl,_,_⟩:=b6
 refine⟨p,hp,?_⟩
 have e:ca=[.int .i64 p.1,.int .i64 p.2].toArray:=by
  apply Array.ext'
  exact dx
 rw[e]
 refine .agg _ rfl (fun i s v hs hv=> ?_)
 match i,hs,hv with
 |0,hs,hv=>simp at hs hv;subst hs hv;exact .int
 |1,hs,hv=>simp at hs hv;subst hs hv;exact .int
theorem g34{v:Value}{d:DataW H}{ps:List MemPlace}(b6:Value.okWide Go.Proofs.Tryz.prog w .any base 4 v)(h:DataW.Trod enc Go.Proofs.Tryz.prog w 0 sp held 4 v d ps):∃b:Bool,True∧D w (fun _=>False) b0a (.bool b) v:=by
 unfold Value.okWide at b6
 rw[Go.Proofs.Tryz.underlying4]at b6
 cases v<;>try exact b6.elim
 exact⟨_,Ix,.bool⟩
end
end Go.Proofs.YtdblhepcmjecgaaGreatDoor.V
