/-
  Parts of the proof: L26 R3. Conditions: none.
-/
import Derived.Test.YtngppkidkigcbaaGreatDoorSfc3
import Derived.Test.YtngppkidkigcbaaGreatDoorSfc10
import Derived.Test.YtngppkidkigcbaaGreatDoorSfc12
import Derived.MakeChecks
set_option maxRecDepth 100000
set_option maxHeartbeats 40000000
namespace Go.Proofs.YtngppkidkigcbaaGreatDoor.V
open Go
def s25:MD:=VD (JR,Bl,BE 2 1) 1 1 1 true
def LP:Pt:=⟨2,1,[⟨1,0,2⟩]⟩
def IL:List Stk:=[⟨⟨0,0,0⟩,[0,4]⟩,⟨⟨0,0,1⟩,[1,7]⟩,⟨⟨0,0,2⟩,[2,6]⟩,⟨⟨0,0,3⟩,[3,5]⟩]
def t25:List Stk:=flpS IL 1 0
theorem s25_eq:s25=(LP,Bl,IL):=Dk
theorem fl25:StG JR Bl (BE 2 1) (AO JR Bl) 4000:=((f0d (W:=2) (H:=1) (B:=1) Dn Dj).pl Dj).mono Dj
theorem c9v:EL JR Bl/\FK (BE 2 1):=⟨by unfold EL JR Bl;simp,fl25.stIn⟩
theorem hfd25:HS 43 (Vu LP Bl IL (BE 2 1)):=by
 have a:HS 43 (Vu s25.1 s25.2.1 s25.2.2 (BE 2 1)):=hs_sub pHFd28 λargs own t h b=>by
  unfold Vu at h;split at h
  .cases h;obtain⟨rfl,rfl,rfl,rfl,rfl⟩:=b;obtain⟨q,e,c⟩:=Xo JR Bl (BE 2 1);have d:XW [.agg (EF JR Bl (BE 2 1)),.agg [.int .u8 1,.int .i64 1,.int .u8 1,.bool true]] []=some ⟨q/\fdOK JR Bl (BE 2 1) 1 1 1,VB (FA JR (AO JR Bl) 1 1 true) (EU JR (AO JR Bl) 1 1 1 0),TU (FA JR (AO JR Bl) 1 1 true) (JN true 1 1 1 (BE 2 1)),[]⟩:=by unfold XW;simp only[e,Option.map_some]
   exact⟨_,d,⟨c c9v.1 c9v.2,fl25,⟨Dn,Dn⟩,⟨Dn,Dn⟩,.inr rfl⟩,rfl,rfl,rfl⟩
  .cases h
 rw[s25_eq]at a;exact a
theorem hfl25:PS 14 (kFl3 (BE 2 1)):=c4x pFl28 λargs pre s h a=>by
 unfold kFl3 at h;split at h
 .cases h;obtain⟨rfl,rfl⟩:=a;exact⟨_,rfl,Dn⟩
 .cases h
theorem Qt:EL LP Bl/\FK IL:=by
 refine⟨⟨⟨Dn,λc a=> ?_⟩,Dn,Dn⟩,⟨Dn,λs hs=> ?_⟩,λs hs=> ?_,Dn⟩
 .obtain rfl:=J6.1 a;exact⟨Dn,Dn⟩
 .simp only[IL,Iv,List.not_mem_nil,or_false]at hs;rcases hs with rfl|rfl|rfl|rfl<;>decide
 .simp only[IL,Iv,List.not_mem_nil,or_false]at hs;rcases hs with rfl|rfl|rfl|rfl<;>exact⟨Dn,Dn⟩
theorem in25b:FK (IL.set 1 ⟨(IL.getD 1 AA.d).c,[7,1]⟩):=by
 refine⟨⟨Dn,λs hs=> ?_⟩,λs hs=> ?_,Dn⟩
 .simp only[IL,List.set,Iv,List.not_mem_nil,or_false]at hs;rcases hs with rfl|rfl|rfl|rfl<;>decide
 .simp only[IL,List.set,Iv,List.not_mem_nil,or_false]at hs;rcases hs with rfl|rfl|rfl|rfl<;>exact⟨Dn,Dn⟩
theorem up25a:Rs LP Bl IL 0=true/\Ov LP Bl IL 0=0:=⟨Dk,Dk⟩
theorem up25b:Rs LP Bl IL 4=false/\Ov LP Bl IL 4=0:=⟨Dk,Dk⟩
theorem hup25:PS 26 (d7n LP Bl IL true false 0):=c4x pStUp λargs pre s h a=>by
 obtain⟨q,e,b⟩:=Xo LP Bl IL;unfold d7n at h;split at h
 .split at h
  .rename_i g;subst g;cases h;subst a;refine⟨q,?_,b Qt.1 Qt.2⟩;unfold Vm;simp only[e,Ju,up25a.1,up25a.2]
  .split at h
   .rename_i g;subst g;cases h;subst a;refine⟨q,?_,b Qt.1 Qt.2⟩;unfold Vm;simp only[e,Ju,up25b.1,up25b.2]
   .cases h
 .cases h
theorem flp25:Nj LP Bl IL 1 0=0:=Dk
theorem hflp25:PS 27 (Pb (.agg (EF LP Bl IL)) (.agg [.int .u8 1,.int .i64 0]) (.tup [.agg (EF LP (GG Bl (EG 1 0)) t25),.int .i64 0])):=d26 pFlp (by obtain⟨q,e,a⟩:=Xo LP Bl IL;refine⟨q,?_,a Qt.1 Qt.2⟩;unfold kFlp;simp only[e,Ju];unfold rFlp zP zR zL;rw[flp25,Ih rfl,Ih rfl,Ih rfl];rfl)
theorem L25ok:L25 (BE 2 1) LP Bl IL t25:=
 ⟨Qt.1,Qt.2,⟨rfl,rfl⟩,Dk,Dk,Dk,Dk,Dk,Dk,Dk,Dk,in25b,Dk,Dk,Dk,Dk,Dk,Dk⟩
theorem d58:PS 12 Pp:=c23 (f2c (c6b Dn) (f0k Dn) (f1a Dn)) (d60 hfl25 hfd25) hup25 hflp25 rfl rfl rfl L25ok
section
open Go.RowKit Go.ChangeShapes Go.WideShapes Go.ChangeAt
abbrev laidL:List (String×DataW Unit):=[("crimp/moves.turns",Rows.laid_crimp_moves_turns),("crimp/cells.quarters",Rows.laid_crimp_cells_quarters)]
theorem c0d{W:World}(h:laidMetH Tryz.prog laidL W):∀g t,Oj g=some t->t.pure=true/\D W (λ_=>False) BM t (.pointer (some ⟨g,0,none⟩)):=by
 have j:∀b,¬(λ_:Nat=>False) b:=λ_ h=>h;rw[Go.MakeChecks.laidMetH_plain _ _ _ Dk]at h;obtain⟨ps,⟨g0,t0,cs0,f0,p0,q0,c,d,e,k,⟨g1,t1,cs1,f1,p1,q1,l,i,n,o,_,_⟩,_⟩,_,_⟩:=h;have r0:=b50 (A:=λ_=>False) j (sz:=4) (m:=8) (f:=Om) c d e k (g0:=0) Dk Dk Dk Dj Dk;have q:=b50 (A:=λ_=>False) j (sz:=17) (m:=4) (f:=Uv) l i n o (g0:=1) Dk Dk Dk Dj Dk;intro g t a;unfold Oj at a;split at a
 .cases a;exact r0
 .cases a;exact q
 .cases a
section
variable{H:Type}{enc:TypeId × Value->H}{w:World}{base:Nat}{sp:Nat->Bool}{held:Bool}{fuel:Nat}{cs:List Value}{x:DataW H × List MemPlace}
theorem d3t{v:Value}{d:DataW H}{ps:List MemPlace}(a:Value.okWide Tryz.prog w .any base 3 v)(h:DataW.Trod enc Tryz.prog w 0 sp held 3 v d ps):∃n,AD .i64 n/\v=.int .i64 n:=by obtain⟨n,e,_,_,b⟩:=open_int Tryz.underlying3 a h;exact⟨n,d37 b,e⟩
end
end
end Go.Proofs.YtngppkidkigcbaaGreatDoor.V
