/-
  Parts of the proof: C27e. Conditions: none.
-/
import Derived.Test.YtdblhepcmjecgaaGreatDoorGdc10
set_option maxRecDepth 100000
set_option maxHeartbeats 40000000
namespace Go.Proofs.YtdblhepcmjecgaaGreatDoor.V
open Go
theorem do_1t{p:Pt}{r:Mv}{L:List Stk}{k C s:Int}(py:s=1)(bc:b5n p r)(bm:b2b L)(hc:b1j p r L=0)(hf:b6x k C s=0)(hq:psE k C p r=0)(I:DoIn k C s p r L)(hu:¬(doU k C p r).length=0):DoG ((p,r,L),(k,C,s),true):=by
 have D:=I.D
 have gu:=I.cr true
 unfold doU at gu
 have e1s:(1:Int)-s=0:=by rw[py];rfl
 have bv:¬s=0:=Dt
 have hA:b1q k C (1-s) L=b1q k C 0 L:=by rw[e1s]
 have hB:b1q k C s L=b1q k C 1 L:=(by rw[py])
 have ge:b2y (b1q k C 0 L):=by
  have:=D.skA
  rwa[hA]at this
 have kr:b2y (b1q k C 1 L):=by
  have:=D.skB
  rwa[hB]at this
 have gg:b2y ((b1q k C 1 L).map b5j)∧∀t∈(b1q k C 1 L).map b5j,inK .u8 t.c.q:=by
  have:=D.skR
  rwa[hB]at this
 have de:doL k C s true L=ovS (b1q k C 0 L++c89 ⟨keep (b08 k C) (ofT k),keep (b08 k C) (ofX k C),keep (b08 k C) (ofY k C)⟩ ((b1q k C 1 L).map b5j)):=by
  unfold doL doV
  rw[Iw rfl,hA,hB]
  rfl
 have F:=do_f (o:=true) bc I hc hf hq hu (M:=⟨keep (b08 k C) (ofT k),keep (b08 k C) (ofX k C),keep (b08 k C) (ofY k C)⟩) rfl hA hB de (pp:=⟨p.W,p.H,g5g p (psF p (psS k C p r) (b06 p.W p.H)) (upL p r) true⟩) rfl (T:=⟨thT r.t r.x r.y (keep (b08 k C) (ofT k)) (keep (b08 k C) (ofX k C)) (keep (b08 k C) (ofY k C)),thX r.t r.x r.y (keep (b08 k C) (ofT k)) (keep (b08 k C) (ofX k C)) (keep (b08 k C) (ofY k C)),thY r.t r.x r.y (keep (b08 k C) (ofT k)) (keep (b08 k C) (ofX k C)) (keep (b08 k C) (ofY k C))⟩) rfl
 obtain⟨s7,j6,nq,m9,nr,jw,nu,s8,s9⟩:=F
 dsimp only at nq jw
 have n0:=I.n0
 have sd:=I.sd
 have jq:=I.vm.2
 unfold doU at hu
 have di:¬(((psF p (psS k C p r) (b06 p.W p.H)).length:Nat):Int)=0:=Dt
 have bw:=b2r bc bm
 have ku:b2y L:=bm.1
 have v5:=d8x bc
 have me:∀s∈L,0≤s.c.q:=fun s hs=>Gk
 have kw:0≤keep (b08 k C) (ofT k):=jq.1
 have kz:keep (b08 k C) (ofT k)≤255:=jq.2
 have qu:(0≤r.t∧r.t≤255)∧0≤keep (b08 k C) (ofT k)∧keep (b08 k C) (ofT k)≤255:=⟨bc.2,jq⟩
 have m5:=I.D.spl
 clear I D hA hB e1s
 unfold DoG
 refine wlk _ ?_;(repeat' first|constructor|refine Iu fun hu=> ?_|intro h);all_goals refine Lm ?_
 all_goals(try simp only[I8,b00,RT.lst_row,b0f,b0s,I9,zL,stZ,Iw hq,Iw m5]at*)
 all_goals(try first
  |with_reducible contradiction
  |with_reducible exact bw
  |with_reducible exact v5
  |with_reducible exact Ix)
 all_goals(try first
  |(have e:=s7 Dw
    first
     |with_reducible exact e.symm
     |(simp[zP,zR,e];done))
  |(have e:=nq Dw Dw Dw
    first
     |with_reducible exact e.symm
     |(simp[zP,zR,e];done))
  |(have e:=(jw Dw Dw Dw).1 Dw
    first
     |with_reducible exact e.symm
     |(simp[zP,zR,e];done))
  |(have e:=(nu Dw Dw).1 Dw
    first
     |with_reducible exact e.symm
     |(simp[zP,zR,e];done))
  |(have e:=(jw Dw Dw Dw).2 Dw
    first
     |with_reducible exact e.symm
     |(simp only[zP,zR,Iw e,s8 Dw,de];first|done|exact A2))
  |(have e:=(nu Dw Dw).2 Dw
    first
     |with_reducible exact e.symm
     |(simp only[zP,zR,Iw e,s9 Dw,de];first|done|exact A2)))
 all_goals(try first
  |with_reducible exact b8a ku me
  |with_reducible exact d9w kr
  |with_reducible exact b8a gg.1 ⟨kw,kz,gg.2⟩
  |with_reducible exact qu
  |with_reducible exact c3t ge (j6 Dw).1 (j6 Dw).2.1
  |with_reducible exact c3t (j6 Dw).1 ge (j6 Dw).2.2
  |with_reducible exact d0i bc gu
  |with_reducible exact b2r (m9 Dw Dw).1 (m9 Dw Dw).2
  |with_reducible exact b2r (nr Dw Dw).1 (nr Dw Dw).2
  |exact A9
  |omega)
end Go.Proofs.YtdblhepcmjecgaaGreatDoor.V
