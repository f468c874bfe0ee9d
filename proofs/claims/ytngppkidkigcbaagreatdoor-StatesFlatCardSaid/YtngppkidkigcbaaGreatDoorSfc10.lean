/-
  Parts of the proof: L24. Conditions: none.
-/
import Derived.Test.YtngppkidkigcbaaGreatDoorSfc5
import Derived.Test.YtngppkidkigcbaaGreatDoorSfc7
import Derived.Test.YtngppkidkigcbaaGreatDoorSfc9
set_option maxRecDepth 100000
set_option maxHeartbeats 40000000
namespace Go.Proofs.YtngppkidkigcbaaGreatDoor.V
open Go
theorem b4h(p:Pt)(r:Mv)(L:List Stk):∃q,KU (.agg (MH p r L))=some (q,p,r,L)/\(EL p r->FK L->q):=by
 have b:(⟨p.W,p.H,ED p.l.length (DS p.l)⟩:Pt)=p:=by rw[CL]
 have c:AA.lst L.length (AA.row L)=L:=RT.lst_row _ _;have a:∃q,KU (.agg (MH p r L))=some (q,⟨p.W,p.H,ED p.l.length (DS p.l)⟩,⟨r.t,r.x,r.y⟩,AA.lst L.length (AA.row L))/\(EL p r->FK L->q):=⟨_,rfl,λd e=>by have:=UU d e;simp only[RT.lst_row,CL];exact this⟩
 rw[b,c]at a;exact a
def FSF:Fam:=⟨Int×Int,λ(w,h)=>[.int .i64 w,.int .i64 h],λ(w,h)=>AD .i64 w/\AD .i64 h,λ_=>.bool true⟩
section
variable{W H:Int}
theorem f2c{p:Pt}{L:List Stk}{z:Int}(a:Jl W H=z)(b:LJ W H=p)(c:MA W H=L):PS 10 (Nc (.agg [.int .i64 W,.int .i64 H]) (.tup [.agg (MH p r0 L),.int .i64 z])):=d3h d5e (by subst a b c;exact⟨_,rfl,Im⟩)
theorem d9w{z:Int}(a:AM W H=z):PS 11 (Nc (.agg [.int .i64 W,.int .i64 H]) (.int .i64 z)):=d3h Ql (by subst a;exact⟨_,rfl,Im⟩)
theorem oFl28{L:List Stk}(hs:AM W H=0)(a:BE W H=L):PS 14 (Pb (.int .i64 W) (.int .i64 H) (.agg (EF ⟨W,H,[]⟩ Bl L))):=d26 pFl28 (by subst a;exact⟨_,rfl,hs⟩)
theorem f4u(r:PS 12 Pp)(hs:AM W H=0){z b c d:Int}(e:z=0)(f:b=0)(g:c=0)(j:d=0):PS 3 (SE [.int .i64 W,.int .i64 H] (.bool true)):=by
 have X:=XH hs;have s:=HE hs;have hN:=DB hs;have k:EL ⟨W,H,[]⟩ Bl:=by unfold EL Bl;simp
 have a:=X.stIn;have n:PS 15 (Nc (.agg (MH ⟨W,H,[]⟩ r0 (BE W H))) (.int .i64 d)):=d3h Xy (by subst j;obtain⟨q,l,m⟩:=b4h ⟨W,H,[]⟩ r0 (BE W H);refine⟨q,?_,m k a⟩;unfold RY;simp only[l,Ju];rw[show FJ ⟨W,H,[]⟩ r0 (BE W H)=0 from fl_chk hs])
 have o:PS 13 (Pb (.agg (MH ⟨W,H,[]⟩ r0 (BE W H))) (.agg (EF ⟨W,H,[]⟩ Bl (BE W H))) (.int .i64 c)):=d26 pDif (by subst g;obtain⟨q,l,m⟩:=b4h ⟨W,H,[]⟩ r0 (BE W H);obtain⟨t,u,v⟩:=Xo ⟨W,H,[]⟩ Bl (BE W H);refine⟨(q/\t)/\Bl=r0/\True,?_,⟨m k a,v k a⟩,rfl,Im⟩;unfold kDif;simp only[l,u];simp)
 have oF:=f2c (W:=W) (H:=H) (z:=z) (by rw[e];exact c6b hs) (f0k hs) (f1a hs);have w:=d9w (W:=W) (H:=H) (z:=b) (by rw[f];exact hs);have o2:=oFl28 hs (rfl:BE W H=BE W H);have x:(BE W H).length<=100000:=a.1.1;generalize BE W H=L at n o oF o2 x;refine con [(12,Pp),(10,Nc (.agg [.int .i64 W,.int .i64 H]) (.tup [.agg (MH ⟨W,H,[]⟩ r0 L),.int .i64 z])),(11,Nc (.agg [.int .i64 W,.int .i64 H]) (.int .i64 b)),(14,Pb (.int .i64 W) (.int .i64 H) (.agg (EF ⟨W,H,[]⟩ Bl L))),(13,Pb (.agg (MH ⟨W,H,[]⟩ r0 L)) (.agg (EF ⟨W,H,[]⟩ Bl L)) (.int .i64 c)),(15,Nc (.agg (MH ⟨W,H,[]⟩ r0 L)) (.int .i64 d))] (by simpa using⟨r,oF,w,o2,o,n⟩) (F1 [.int .i64 W,.int .i64 H] (.bool true)) (λ_ _=>none) (SE [.int .i64 W,.int .i64 H] (.bool true)) (law1 (by simp[BG,SV.le2,SV.le1,SV.le0])) ?_ Tryz.func3 Dk Dk Dk ?_
 .exact Bt
 .rintro⟨⟩ _;have X1:W*H<=256/\0<=W*H:=⟨s.2.2.2.2,Int.mul_nonneg Dj Dj⟩
  refine X0 _ ?_;(repeat' first|constructor|intro h)<;>refine Lm ?_
  all_goals first
   |rfl
   |exact⟨rfl,rfl⟩
   |exact λ_=>⟨rfl,rfl⟩
   |exact Bb
   |exact Ap
   |exact λ_=>Er
   |(exfalso;simp[f]at h;done)
   |(simp[e,g,j];done)
   |skip
theorem pSF_no(d:PS 12 Pp)(hs:¬AM W H=0){z:Int}(a:AM W H=z):PS 3 (SE [.int .i64 W,.int .i64 H] (.bool true)):=by
 obtain⟨e,f,g⟩:=fl_no hs;have oF:=f2c (W:=W) (H:=H) (z:=z) (by rw[e,a]) f g;have j:=d9w (W:=W) (H:=H) (z:=z) a;have b:¬z=0:=by rw[<-a];exact hs
 refine con [(12,Pp),(10,Nc (.agg [.int .i64 W,.int .i64 H]) (.tup [.agg (MH ⟨0,0,[]⟩ r0 []),.int .i64 z])),(11,Nc (.agg [.int .i64 W,.int .i64 H]) (.int .i64 z))] (by simpa using⟨d,oF,j⟩) (F1 [.int .i64 W,.int .i64 H] (.bool true)) (λ_ _=>none) (SE [.int .i64 W,.int .i64 H] (.bool true)) (law1 (by simp[BG,SV.le2,SV.le1,SV.le0])) ?_ Tryz.func3 Dk Dk Dk ?_
 .exact Bt
 .rintro⟨⟩ _;refine X0 _ ?_;(repeat' first|constructor|intro h)<;>refine Lm ?_
  all_goals first
   |rfl
   |exact⟨rfl,rfl⟩
   |omega
   |(exfalso;simp[b]at h;done)
   |(exfalso;have c:=‹(!decide (z=0))=false›;simp at c;exact b c)
   |(simp[];done)
   |skip
theorem pSF_of(a:PS 12 Pp):PS 3 (SN FSF):=top_of ⟨_,Tryz.func3,Dk,Dk⟩ λ(W,H) hp=>by
 by_cases hs:AM W H=0
 .exact f4u a hs rfl rfl rfl rfl
 .exact pSF_no a hs rfl
theorem f6h{w h:Int}(a:AD .i64 w)(b:AD .i64 h):FSF.pre (w,h):=⟨a,b⟩
end
end Go.Proofs.YtngppkidkigcbaaGreatDoor.V
