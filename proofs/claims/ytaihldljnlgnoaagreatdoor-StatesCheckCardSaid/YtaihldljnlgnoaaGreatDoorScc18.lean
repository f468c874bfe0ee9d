/-
  Parts of the proof: L31. Conditions: none.
-/
import Derived.Test.YtaihldljnlgnoaaGreatDoorScc7
import Derived.Test.YtaihldljnlgnoaaGreatDoorScc17
set_option maxRecDepth 100000
set_option maxHeartbeats 40000000
namespace Go.Proofs.YtaihldljnlgnoaaGreatDoor.V
open Go
abbrev RW:Type:=List (Int×Int×Int)
def g0y(m:RW):Prop:=∀q∈m,AE .u8 q.1/\AE .u8 q.2.1/\AE .u8 q.2.2
def WV(m:RW):SV:=.sl 3 m.length (DP.row m) none
def FSCk:Fam:=⟨(Int×Int×RW)×RW,λ((w,h,l),m)=>[.agg (KS w h l),WV m],λ((w,h,l),m)=>Qe w h l/\g0y m,λ_=>.bool true⟩
section
variable{w h:Int}{l m:RW}{p:Pt}{r:Mv}{L M:List Stk}{k a b:Nat}
def ckOw(w h:Int)(l:RW)(p:Pt)(r:Mv)(L M:List Stk):List Blk:=[.cells 24 (KS w h l),.row 51 3 p.l.length (CP.row p.l) none,.row CM 4 L.length (AA.row M) none,.cells 34 [.int .i64 p.W,.int .i64 p.H,.osl 1,.int .u8 r.t,.int .i64 r.x,.int .i64 r.y,.osl 2]]
def ckEn(m:RW)(i:Nat)(a:List Entry):List Entry:=a++[⟨6,none,.int .i64 i⟩,⟨5,none,.own 3 0⟩,⟨2,none,.own 0 0⟩,⟨1,none,WV m⟩]
def ISCk(w h:Int)(l m:RW)(p:Pt)(r:Mv)(L:List Stk):Nat->Option Inv
 |7=>some {β:=Nat×List Stk,ok:=λb=>b.1<=m.length/\Exg L b.2,st:=λb=>⟨ckEn m b.1 [],ckOw w h l p r L b.2⟩,μ:=λb=>m.length-b.1,sub:=λb=>some fun
  |11=>some {β:=Nat×Nat,ok:=λc=>c.1<L.length/\c.2<=L.length,st:=λc=>⟨ckEn m b.1 [⟨8,none,.int .i64 c.2⟩,⟨7,none,.int .i64 c.1⟩],ckOw w h l p r L b.2⟩,μ:=λc=>L.length-c.2}
  |_=>none}
 |_=>none
def Sk(l:List Int)(a b:Nat):List Int:=(l.set a (l.getD b 0)).set b (l.getD a 0)
theorem f1z{l:List Int}(c:a<l.length)(d:b<l.length):(Sk l a b).Perm l:=by
 have e:∀{i},(h:i<l.length)->l.getD i 0=l[i]:=λh=>by rw[Ix,Iy h];rfl
 unfold Sk;rw[e c,e d];exact List.set_set_perm c d
theorem g1x{l:List Int}:(Sk l a b).length=l.length:=by simp[Sk]
theorem f9g{l:List Int}(c:a<l.length)(d:b<l.length)(j:Nat):DC (decide (j=b)) (over (DC (decide (b=a)) (over (AC.row l a) 0 [.int .i64 (l.getD b 0)]) (AC.row l b)) 0 [.int .i64 (l.getD a 0)]) (DC (decide (j=a)) (over (AC.row l a) 0 [.int .i64 (l.getD b 0)]) (AC.row l j))=AC.row (Sk l a b) j:=by
 have f:∀(l:List Int) (x:Nat),AC.row l x=[SV.int .i64 (l.getD x 0)]:=λ_ _=>rfl;have e:(Sk l a b).getD j 0=bif decide (j=b)then l.getD a 0 else bif decide (j=a)then l.getD b 0 else l.getD j 0:=by
  unfold Sk;by_cases h:j=b
  .subst h;rw[Jf rfl,Ix (l:=(l.set a _).set j _),K4 (by rw[Kj];exact d)];rfl
  .rw[Ji h,Ix (l:=(l.set a _).set b _),Jh (Ne.symm h)];by_cases g:j=a
   .subst g;rw[Jf rfl,K4 c];rfl
   .rw[Ji g,Jh (Ne.symm g),<-Ix];rfl
 simp only[f,e,over,Ou,DC,RA,Ke];congr 1;cases decide (j=b)<;>cases decide (b=a)<;>cases decide (j=a)<;>rfl
theorem g1g{l:List Int}{c:Cl}{sz n:Nat}{g:Nat->List SV}{a:Option Nat}(b:k<M.length)(d:sz=1)(e:n=l.length)(f:∀j,j<n->g j=AC.row l j)(q:Nat):FU (DC (decide (q=k)) [.int .i64 c.x,.int .i64 c.y,.int .u8 c.q,.sl sz n g a] (AA.row M q)) (AA.row (M.set k ⟨c,l⟩) q):=by
 subst d e;rw[f7f b];by_cases h:q=k
 .rw[Jf h];refine .inr ⟨rfl,rfl,rfl,⟨rfl,?_,?_,?_⟩,J5⟩
  .exact J5
  .exact J5
  .exact f
 .rw[Ji h];exact .inl rfl
theorem g01(W:PS 10 UD)(hx:Qe w h l)(e:LH w h l=(p,r,L))(Y:g0y m):PS 7 (PR [.agg (KS w h l),WV m] (.bool true)):=by
 have S:=sts_of e;have Z:=pSO1 hx e;clear e;refine Np {l:=[(12,TA),(26,kErG p r),(10,UD)],h:=[(9,hSO1 (.agg (KS w h l)) p r L)],gr:=λid=>bif Nat.beq id 17 then [.fz 4,.flat 2]else []} ⟨by simpa using⟨c5u,pErG,W⟩,Dx,by simpa using Z⟩ (F1 [.agg (KS w h l),WV m] (.bool true)) (λ_=>ISCk w h l m p r L) (PR [.agg (KS w h l),WV m] (.bool true)) (law1 (by simp[WV,KS,BM,SV.le2,SV.le1,BH,SV.le0,GL,FU])) ?_ Tryz.func7 Dw Dw Dw ?_
 .exact Bz
 .rintro⟨⟩ _;have hn:=S.sn.1.1;have f9:=S.g.pos;have I:=SW S.pr S.sn;have Zy:=S.ck;have A:=er_ok S;have J:=S.erH;have v:EF p.l.length (CP.row p.l)=p.l:=CU p.l;have fq:AA.isL L.length (AA.row L):=AA.isL_row L;refine X0 _ ?_;(repeat' first|constructor|intro h)<;>refine Lm ?_
  all_goals(try first
   |(simp only[v,OC,Ns,RT.lst_row];exact I)
   |(simp only[v,OC,Ns,RT.lst_row];exact λ_=>⟨rfl,rfl,I.2.1,J⟩)
   |(exfalso;simp only[v,OC,Ns,RT.lst_row,Zy,A]at h;simp at h;done))
  have hm4:m.length<=4:=by have:=M6 ‹decide ((4:Int)<(m.length:Int))=false›;omega
  refine⟨((0:Nat),L),⟨Je _,Exg.rfl⟩,?_,?_⟩
  .exact X0g
  .rintro⟨i,M⟩ ⟨N,X⟩;replace N:i<=m.length:=N;replace X:Exg L M:=X;have K:=lst_of (L':=M) (n:=L.length) (f:=AA.row M) X.len.symm λ_ _=>rfl;have B:=X.stIn S.sn;have C:=pre3 K hn S.pr B;simp only[K.1]at C;have E:=J.exg X;have qm:=f3b S X;have F:i<m.length->AE .u8 (m.getD i DP.d).1/\AE .u8 (m.getD i DP.d).2.1/\AE .u8 (m.getD i DP.d).2.2:=λh=>Y _ (BW h);obtain⟨k0,sc,G⟩:∃k:Nat,k<L.length/\(i<m.length->(m.getD i DP.d).1.tmod (L.length:Int)=k):=by
    by_cases h:i<m.length
    .have o:=(F h).1;simp only[AE]at o;rw[K3 o.1];have O:=Ln (m.getD i DP.d).1 (show (L.length:Int)≠0 from Dv);have P:=Lg (m.getD i DP.d).1 (show (0:Int)<L.length from Dv);exact⟨((m.getD i DP.d).1%(L.length:Int)).toNat,Dv,λ_=>Dv⟩
    .exact⟨0,Dv,λg=>absurd g h⟩
   refine X0a _ ?_;(repeat' first|constructor|intro h)<;>refine Lm ?_
   all_goals(try simp only[v,OC,Ns,K.1,qm,Jk])
   all_goals(try first
    |exact Be
    |exact⟨Dv,by have:=K7 h;omega⟩
    |exact C
    |exact⟨rfl,rfl,C.2.1,E⟩
    |(have b8:i<m.length:=by have:=K7 h;omega
      have o:=(F b8).1;simp only[AE]at o⊢;show _<=(m.getD i DP.d).1/\(m.getD i DP.d).1<=_;omega)
    |(simp;done))
   all_goals
    have Q:i<m.length:=by have:=K7 ‹decide ((i:Int)<(m.length:Int))=true›;omega
    refine⟨(k0,(0:Nat)),⟨sc,Je _⟩,?_,?_⟩
    .refine X0a _ ?_;(repeat' first|constructor|intro h)<;>refine Lm ?_
     all_goals first|rfl|exact G Q|exact A4|skip
    .rintro⟨k,n⟩ ⟨t,R⟩;replace t:k<L.length:=t;replace R:n<=L.length:=R;have u:k<M.length:=by rw[X.len];exact t
     have lk:0<(M.getD k AA.d).l.length/\(M.getD k AA.d).l.length<=1024:=by rw[(X.pm k).length_eq];exact⟨List.length_pos_iff.2 (S.g.ne _ (BW t)),Kq (c0r (BW t)) S.fl.1⟩
     obtain⟨k1,gy,H⟩:∃j:Nat,j<L.length/\((k:Int)+1).tmod (L.length:Int)=j:=by rw[K3 Dv];have O:=Ln ((k:Int)+1) (show (L.length:Int)≠0 from Dv);have P:=Lg ((k:Int)+1) (show (0:Int)<L.length from Dv);exact⟨(((k:Int)+1)%(L.length:Int)).toNat,Dv,Dv⟩
     have T:∀x:Int,0<=x->∃j:Nat,j<(M.getD k AA.d).l.length/\x.tmod ((M.getD k AA.d).l.length:Int)=j:=λx hx=>by rw[K3 hx];have O:=Ln x (show ((M.getD k AA.d).l.length:Int)≠0 from Dv);have P:=Lg x (show (0:Int)<(M.getD k AA.d).l.length from Dv);exact⟨(x%((M.getD k AA.d).l.length:Int)).toNat,Dv,Dv⟩
     have o:=F Q;simp only[AE]at o;obtain⟨a,U,ea⟩:=T _ o.2.1.1;obtain⟨b,V,eb⟩:=T _ o.2.2.1;have g1:∀x y z:Int,[x,y,z].getD (Int.toNat 1) 0=y:=λ_ _ _=>rfl;have g2:∀x y z:Int,[x,y,z].getD (Int.toNat 2) 0=z:=λ_ _ _=>rfl;have d0:AC.d=0:=rfl;refine X0a _ ?_;(repeat' first|constructor|intro h)<;>refine Lm ?_
     all_goals(try simp only[Jk,g1,g2,Kv,Jq,if_false,Nat.sub_zero,ea,eb,H,d0])
     all_goals(try first
      |exact Be
      |exact B9
      |exact QQ rfl Dv
      |exact λ_=>QQ rfl Dv
      |exact A7
      |exact A9)
     all_goals first
      |(have b6:n<L.length:=by
         have hh:=‹(decide ((n:Int)<(L.length:Int))&&_)=true›;rw[Jt,Jb]at hh;omega
        refine⟨(k1,n+1),⟨gy,by show n+1<=_;omega⟩,by show _-(n+1)<_-n;omega,?_⟩;all_goals refine X0a _ ?_;(repeat' first|constructor|intro h)<;>refine Lm ?_
        all_goals first|exact B5|skip)
      |(refine⟨(i+1,M.set k ⟨(M.getD k AA.d).c,Sk (M.getD k AA.d).l a b⟩),⟨Ea,X.set u (f1z U V)⟩,E7,?_⟩
        all_goals refine X0a _ ?_;(repeat' first|constructor|intro h)<;>refine Lm ?_
        all_goals first|exact B5|exact λq _=>g1g u rfl g1x.symm (λj _=>f9g U V j) q|skip)
      |skip
theorem f8j(a:PS 10 UD):PS 7 (Tr FSCk):=top_of ⟨_,Tryz.func7,Dw,Dw⟩ λ((w,h,l),m) b=>by
 obtain⟨hx,c⟩:=b;cases e:LH w h l with
 |mk p s=>cases s with
  |mk r L=>exact g01 a hx e c
theorem d9a{w h:Int}{l m:RW}(hx:Qe w h l)(a:g0y m):FSCk.pre ((w,h,l),m):=⟨hx,a⟩
end
end Go.Proofs.YtaihldljnlgnoaaGreatDoor.V
