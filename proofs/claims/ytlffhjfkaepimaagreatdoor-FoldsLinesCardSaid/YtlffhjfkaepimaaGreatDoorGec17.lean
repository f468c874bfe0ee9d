/-
  Further parts of the proof. Conditions: none.
-/
import Derived.Test.YtlffhjfkaepimaaGreatDoorGec8
set_option maxRecDepth 100000
set_option maxHeartbeats 40000000
namespace Go.Proofs.YtlffhjfkaepimaaGreatDoor.V
open Go
theorem do_0f{p:Pt}{r:Mv}{L:List Stk}{k C:Int}(a:prOK p r)(n:DV L)(J:CL p r L=0)(K:GA k C 0=0)(u:IG k C p r=0)(I:DoIn k C 0 p r L)(i:¬(FZ k C p r).length=0):LN ((p,r,L),(k,C,0),false):=by
 have D:=I.D;have v:=I.cr false;unfold FZ at v;have b:(1:Int)-0=1:=rfl;have f:BE k C (1-0) L=BE k C 1 L:=by rw[b]
 have d:BE k C 0 L=BE k C 0 L:=rfl;have w:CT (BE k C 1 L):=by have:=D.skA;rwa[f]at this
 have N:CT (BE k C 0 L):=by have:=D.skB;rwa[d]at this
 have z:CT ((BE k C 0 L).map DG)/\∀t∈(BE k C 0 L).map DG,AD .u8 t.c.q:=by have:=D.skR;rwa[d]at this
 have j:GP k C 0 false L=Fl (JY ⟨keep (AQ k C) (DZ k),keep (AQ k C) (GQ k C),keep (AQ k C) (GS k C)⟩ ((BE k C 0 L).map DG)++BE k C 1 L):=by unfold GP ID;rw[Jj Ng,f,d];rfl
 have F:=do_f (o:=false) a I J K u i (M:=⟨keep (AQ k C) (DZ k),keep (AQ k C) (GQ k C),keep (AQ k C) (GS k C)⟩) rfl f d j (pp:=⟨p.W,p.H,RI p (GO p (DY k C p r) (AY p.W p.H)) (FW p r) false⟩) rfl (T:=⟨OG r.t r.x r.y (keep (AQ k C) (DZ k)) (keep (AQ k C) (GQ k C)) (keep (AQ k C) (GS k C)),RJ r.t r.x r.y (keep (AQ k C) (DZ k)) (keep (AQ k C) (GQ k C)) (keep (AQ k C) (GS k C)),QV r.t r.x r.y (keep (AQ k C) (DZ k)) (keep (AQ k C) (GQ k C)) (keep (AQ k C) (GS k C))⟩) rfl;obtain⟨O,g,A,B,E,l,G,P,Q⟩:=F;dsimp only at A l;have n0:=I.n0;have sd:=I.sd;have m:=I.vm.2;unfold FZ at i;have gc:¬(((GO p (DY k C p r) (AY p.W p.H)).length:Nat):Int)=0:=Dz;have R:=JK a n;have S:CT L:=n.1;have U:=c9d a;have V:∀s∈L,0<=s.c.q:=λs hs=>H5;have X:0<=keep (AQ k C) (DZ k):=m.1;have Y:keep (AQ k C) (DZ k)<=255:=m.2;have Z:(0<=r.t/\r.t<=255)/\0<=keep (AQ k C) (DZ k)/\keep (AQ k C) (DZ k)<=255:=⟨a.2,m⟩
 have qj:=I.D.spl;clear I D f d b;unfold LN;refine AB _ ?_;(repeat' first|constructor|refine Iu λi=> ?_|intro h)<;>refine Lm ?_
 all_goals(try simp only[Ir,CE,RT.lst_row,IV,IM,Is,zL,Qd,Ji u,Ji qj]at*)
 all_goals(try first
  |with_reducible contradiction
  |with_reducible exact R
  |with_reducible exact U
  |with_reducible exact Jm)
 all_goals(try first
  |(have e:=O E3
    first
     |with_reducible exact e.symm
     |(simp[zP,zR,e];done))
  |(have e:=A E3 E3 E3
    first
     |with_reducible exact e.symm
     |(simp[zP,zR,e];done))
  |(have e:=(l E3 E3 E3).1 E3
    first
     |with_reducible exact e.symm
     |(simp[zP,zR,e];done))
  |(have e:=(G E3 E3).1 E3
    first
     |with_reducible exact e.symm
     |(simp[zP,zR,e];done))
  |(have e:=(l E3 E3 E3).2 E3
    first
     |with_reducible exact e.symm
     |(simp only[zP,zR,Ji e,P E3,j];first|done|exact A2))
  |(have e:=(G E3 E3).2 E3
    first
     |with_reducible exact e.symm
     |(simp only[zP,zR,Ji e,Q E3,j];first|done|exact A2)))
 all_goals(try first
  |with_reducible exact TD S V
  |with_reducible exact c95 N
  |with_reducible exact TD z.1 ⟨X,Y,z.2⟩
  |with_reducible exact Z
  |with_reducible exact TU w (g E3).1 (g E3).2.1
  |with_reducible exact TU (g E3).1 w (g E3).2.2
  |with_reducible exact c0n a v
  |with_reducible exact JK (B E3 E3).1 (B E3 E3).2
  |with_reducible exact JK (E E3 E3).1 (E E3 E3).2
  |exact A3
  |omega)
theorem do_0t{p:Pt}{r:Mv}{L:List Stk}{k C:Int}(a:prOK p r)(n:DV L)(J:CL p r L=0)(K:GA k C 0=0)(u:IG k C p r=0)(I:DoIn k C 0 p r L)(i:¬(FZ k C p r).length=0):LN ((p,r,L),(k,C,0),true):=by
 have D:=I.D;have v:=I.cr true;unfold FZ at v;have b:(1:Int)-0=1:=rfl;have f:BE k C (1-0) L=BE k C 1 L:=by rw[b]
 have d:BE k C 0 L=BE k C 0 L:=rfl;have w:CT (BE k C 1 L):=by have:=D.skA;rwa[f]at this
 have N:CT (BE k C 0 L):=by have:=D.skB;rwa[d]at this
 have z:CT ((BE k C 0 L).map DG)/\∀t∈(BE k C 0 L).map DG,AD .u8 t.c.q:=by have:=D.skR;rwa[d]at this
 have j:GP k C 0 true L=Fl (BE k C 1 L++JY ⟨keep (AQ k C) (DZ k),keep (AQ k C) (GQ k C),keep (AQ k C) (GS k C)⟩ ((BE k C 0 L).map DG)):=by unfold GP ID;rw[Ji rfl,f,d];rfl
 have F:=do_f (o:=true) a I J K u i (M:=⟨keep (AQ k C) (DZ k),keep (AQ k C) (GQ k C),keep (AQ k C) (GS k C)⟩) rfl f d j (pp:=⟨p.W,p.H,RI p (GO p (DY k C p r) (AY p.W p.H)) (FW p r) true⟩) rfl (T:=⟨OG r.t r.x r.y (keep (AQ k C) (DZ k)) (keep (AQ k C) (GQ k C)) (keep (AQ k C) (GS k C)),RJ r.t r.x r.y (keep (AQ k C) (DZ k)) (keep (AQ k C) (GQ k C)) (keep (AQ k C) (GS k C)),QV r.t r.x r.y (keep (AQ k C) (DZ k)) (keep (AQ k C) (GQ k C)) (keep (AQ k C) (GS k C))⟩) rfl;obtain⟨O,g,A,B,E,l,G,P,Q⟩:=F;dsimp only at A l;have n0:=I.n0;have sd:=I.sd;have m:=I.vm.2;unfold FZ at i;have gc:¬(((GO p (DY k C p r) (AY p.W p.H)).length:Nat):Int)=0:=Dz;have R:=JK a n;have S:CT L:=n.1;have U:=c9d a;have V:∀s∈L,0<=s.c.q:=λs hs=>H5;have X:0<=keep (AQ k C) (DZ k):=m.1;have Y:keep (AQ k C) (DZ k)<=255:=m.2;have Z:(0<=r.t/\r.t<=255)/\0<=keep (AQ k C) (DZ k)/\keep (AQ k C) (DZ k)<=255:=⟨a.2,m⟩
 have qj:=I.D.spl;clear I D f d b;unfold LN;refine AB _ ?_;(repeat' first|constructor|refine Iu λi=> ?_|intro h)<;>refine Lm ?_
 all_goals(try simp only[Ir,CE,RT.lst_row,IV,IM,Is,zL,Qd,Ji u,Ji qj]at*)
 all_goals(try first
  |with_reducible contradiction
  |with_reducible exact R
  |with_reducible exact U
  |with_reducible exact Jm)
 all_goals(try first
  |(have e:=O E3
    first
     |with_reducible exact e.symm
     |(simp[zP,zR,e];done))
  |(have e:=A E3 E3 E3
    first
     |with_reducible exact e.symm
     |(simp[zP,zR,e];done))
  |(have e:=(l E3 E3 E3).1 E3
    first
     |with_reducible exact e.symm
     |(simp[zP,zR,e];done))
  |(have e:=(G E3 E3).1 E3
    first
     |with_reducible exact e.symm
     |(simp[zP,zR,e];done))
  |(have e:=(l E3 E3 E3).2 E3
    first
     |with_reducible exact e.symm
     |(simp only[zP,zR,Ji e,P E3,j];first|done|exact A2))
  |(have e:=(G E3 E3).2 E3
    first
     |with_reducible exact e.symm
     |(simp only[zP,zR,Ji e,Q E3,j];first|done|exact A2)))
 all_goals(try first
  |with_reducible exact TD S V
  |with_reducible exact c95 N
  |with_reducible exact TD z.1 ⟨X,Y,z.2⟩
  |with_reducible exact Z
  |with_reducible exact TU w (g E3).1 (g E3).2.1
  |with_reducible exact TU (g E3).1 w (g E3).2.2
  |with_reducible exact c0n a v
  |with_reducible exact JK (B E3 E3).1 (B E3 E3).2
  |with_reducible exact JK (E E3 E3).1 (E E3 E3).2
  |exact A3
  |omega)
end Go.Proofs.YtlffhjfkaepimaaGreatDoor.V
