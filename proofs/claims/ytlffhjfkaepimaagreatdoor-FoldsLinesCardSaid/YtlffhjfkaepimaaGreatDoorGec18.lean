/-
  Further parts of the proof. Conditions: none.
-/
import Derived.Test.YtlffhjfkaepimaaGreatDoorGec8
set_option maxRecDepth 100000
set_option maxHeartbeats 40000000
namespace Go.Proofs.YtlffhjfkaepimaaGreatDoor.V
open Go
theorem do_1f{p:Pt}{r:Mv}{L:List Stk}{k C s:Int}(n:s=1)(a:prOK p r)(u:DV L)(K:CL p r L=0)(N:GA k C s=0)(v:IG k C p r=0)(I:DoIn k C s p r L)(i:¬(FZ k C p r).length=0):LN ((p,r,L),(k,C,s),false):=by
 have D:=I.D;have w:=I.cr false;unfold FZ at w;have b:(1:Int)-s=0:=by rw[n];rfl
 have c6:¬s=0:=Dz;have f:BE k C (1-s) L=BE k C 0 L:=by rw[b]
 have d:BE k C s L=BE k C 1 L:=(by rw[n])
 have z:CT (BE k C 0 L):=by have:=D.skA;rwa[f]at this
 have O:CT (BE k C 1 L):=by have:=D.skB;rwa[d]at this
 have A:CT ((BE k C 1 L).map DG)/\∀t∈(BE k C 1 L).map DG,AD .u8 t.c.q:=by have:=D.skR;rwa[d]at this
 have j:GP k C s false L=Fl (JY ⟨keep (AQ k C) (DZ k),keep (AQ k C) (GQ k C),keep (AQ k C) (GS k C)⟩ ((BE k C 1 L).map DG)++BE k C 0 L):=by unfold GP ID;rw[Jj Ng,f,d];rfl
 have F:=do_f (o:=false) a I K N v i (M:=⟨keep (AQ k C) (DZ k),keep (AQ k C) (GQ k C),keep (AQ k C) (GS k C)⟩) rfl f d j (pp:=⟨p.W,p.H,RI p (GO p (DY k C p r) (AY p.W p.H)) (FW p r) false⟩) rfl (T:=⟨OG r.t r.x r.y (keep (AQ k C) (DZ k)) (keep (AQ k C) (GQ k C)) (keep (AQ k C) (GS k C)),RJ r.t r.x r.y (keep (AQ k C) (DZ k)) (keep (AQ k C) (GQ k C)) (keep (AQ k C) (GS k C)),QV r.t r.x r.y (keep (AQ k C) (DZ k)) (keep (AQ k C) (GQ k C)) (keep (AQ k C) (GS k C))⟩) rfl;obtain⟨P,g,B,E,G,l,J,Q,R⟩:=F;dsimp only at B l;have n0:=I.n0;have sd:=I.sd;have m:=I.vm.2;unfold FZ at i;have gc:¬(((GO p (DY k C p r) (AY p.W p.H)).length:Nat):Int)=0:=Dz;have S:=JK a u;have U:CT L:=u.1;have V:=c9d a;have X:∀s∈L,0<=s.c.q:=λs hs=>H5;have Y:0<=keep (AQ k C) (DZ k):=m.1;have Z:keep (AQ k C) (DZ k)<=255:=m.2;have vz:(0<=r.t/\r.t<=255)/\0<=keep (AQ k C) (DZ k)/\keep (AQ k C) (DZ k)<=255:=⟨a.2,m⟩
 have qj:=I.D.spl;clear I D f d b;unfold LN;refine AB _ ?_;(repeat' first|constructor|refine Iu λi=> ?_|intro h)<;>refine Lm ?_
 all_goals(try simp only[Ir,CE,RT.lst_row,IV,IM,Is,zL,Qd,Ji v,Ji qj]at*)
 all_goals(try first
  |with_reducible contradiction
  |with_reducible exact S
  |with_reducible exact V
  |with_reducible exact Jm)
 all_goals(try first
  |(have e:=P E3
    first
     |with_reducible exact e.symm
     |(simp[zP,zR,e];done))
  |(have e:=B E3 E3 E3
    first
     |with_reducible exact e.symm
     |(simp[zP,zR,e];done))
  |(have e:=(l E3 E3 E3).1 E3
    first
     |with_reducible exact e.symm
     |(simp[zP,zR,e];done))
  |(have e:=(J E3 E3).1 E3
    first
     |with_reducible exact e.symm
     |(simp[zP,zR,e];done))
  |(have e:=(l E3 E3 E3).2 E3
    first
     |with_reducible exact e.symm
     |(simp only[zP,zR,Ji e,Q E3,j];first|done|exact A2))
  |(have e:=(J E3 E3).2 E3
    first
     |with_reducible exact e.symm
     |(simp only[zP,zR,Ji e,R E3,j];first|done|exact A2)))
 all_goals(try first
  |with_reducible exact TD U X
  |with_reducible exact c95 O
  |with_reducible exact TD A.1 ⟨Y,Z,A.2⟩
  |with_reducible exact vz
  |with_reducible exact TU z (g E3).1 (g E3).2.1
  |with_reducible exact TU (g E3).1 z (g E3).2.2
  |with_reducible exact c0n a w
  |with_reducible exact JK (E E3 E3).1 (E E3 E3).2
  |with_reducible exact JK (G E3 E3).1 (G E3 E3).2
  |exact A3
  |omega)
theorem do_1t{p:Pt}{r:Mv}{L:List Stk}{k C s:Int}(n:s=1)(a:prOK p r)(u:DV L)(K:CL p r L=0)(N:GA k C s=0)(v:IG k C p r=0)(I:DoIn k C s p r L)(i:¬(FZ k C p r).length=0):LN ((p,r,L),(k,C,s),true):=by
 have D:=I.D;have w:=I.cr true;unfold FZ at w;have b:(1:Int)-s=0:=by rw[n];rfl
 have c6:¬s=0:=Dz;have f:BE k C (1-s) L=BE k C 0 L:=by rw[b]
 have d:BE k C s L=BE k C 1 L:=(by rw[n])
 have z:CT (BE k C 0 L):=by have:=D.skA;rwa[f]at this
 have O:CT (BE k C 1 L):=by have:=D.skB;rwa[d]at this
 have A:CT ((BE k C 1 L).map DG)/\∀t∈(BE k C 1 L).map DG,AD .u8 t.c.q:=by have:=D.skR;rwa[d]at this
 have j:GP k C s true L=Fl (BE k C 0 L++JY ⟨keep (AQ k C) (DZ k),keep (AQ k C) (GQ k C),keep (AQ k C) (GS k C)⟩ ((BE k C 1 L).map DG)):=by unfold GP ID;rw[Ji rfl,f,d];rfl
 have F:=do_f (o:=true) a I K N v i (M:=⟨keep (AQ k C) (DZ k),keep (AQ k C) (GQ k C),keep (AQ k C) (GS k C)⟩) rfl f d j (pp:=⟨p.W,p.H,RI p (GO p (DY k C p r) (AY p.W p.H)) (FW p r) true⟩) rfl (T:=⟨OG r.t r.x r.y (keep (AQ k C) (DZ k)) (keep (AQ k C) (GQ k C)) (keep (AQ k C) (GS k C)),RJ r.t r.x r.y (keep (AQ k C) (DZ k)) (keep (AQ k C) (GQ k C)) (keep (AQ k C) (GS k C)),QV r.t r.x r.y (keep (AQ k C) (DZ k)) (keep (AQ k C) (GQ k C)) (keep (AQ k C) (GS k C))⟩) rfl;obtain⟨P,g,B,E,G,l,J,Q,R⟩:=F;dsimp only at B l;have n0:=I.n0;have sd:=I.sd;have m:=I.vm.2;unfold FZ at i;have gc:¬(((GO p (DY k C p r) (AY p.W p.H)).length:Nat):Int)=0:=Dz;have S:=JK a u;have U:CT L:=u.1;have V:=c9d a;have X:∀s∈L,0<=s.c.q:=λs hs=>H5;have Y:0<=keep (AQ k C) (DZ k):=m.1;have Z:keep (AQ k C) (DZ k)<=255:=m.2;have vz:(0<=r.t/\r.t<=255)/\0<=keep (AQ k C) (DZ k)/\keep (AQ k C) (DZ k)<=255:=⟨a.2,m⟩
 have qj:=I.D.spl;clear I D f d b;unfold LN;refine AB _ ?_;(repeat' first|constructor|refine Iu λi=> ?_|intro h)<;>refine Lm ?_
 all_goals(try simp only[Ir,CE,RT.lst_row,IV,IM,Is,zL,Qd,Ji v,Ji qj]at*)
 all_goals(try first
  |with_reducible contradiction
  |with_reducible exact S
  |with_reducible exact V
  |with_reducible exact Jm)
 all_goals(try first
  |(have e:=P E3
    first
     |with_reducible exact e.symm
     |(simp[zP,zR,e];done))
  |(have e:=B E3 E3 E3
    first
     |with_reducible exact e.symm
     |(simp[zP,zR,e];done))
  |(have e:=(l E3 E3 E3).1 E3
    first
     |with_reducible exact e.symm
     |(simp[zP,zR,e];done))
  |(have e:=(J E3 E3).1 E3
    first
     |with_reducible exact e.symm
     |(simp[zP,zR,e];done))
  |(have e:=(l E3 E3 E3).2 E3
    first
     |with_reducible exact e.symm
     |(simp only[zP,zR,Ji e,Q E3,j];first|done|exact A2))
  |(have e:=(J E3 E3).2 E3
    first
     |with_reducible exact e.symm
     |(simp only[zP,zR,Ji e,R E3,j];first|done|exact A2)))
 all_goals(try first
  |with_reducible exact TD U X
  |with_reducible exact c95 O
  |with_reducible exact TD A.1 ⟨Y,Z,A.2⟩
  |with_reducible exact vz
  |with_reducible exact TU z (g E3).1 (g E3).2.1
  |with_reducible exact TU (g E3).1 z (g E3).2.2
  |with_reducible exact c0n a w
  |with_reducible exact JK (E E3 E3).1 (E E3 E3).2
  |with_reducible exact JK (G E3 E3).1 (G E3 E3).2
  |exact A3
  |omega)
end Go.Proofs.YtlffhjfkaepimaaGreatDoor.V
