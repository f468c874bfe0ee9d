/-
  Parts of the proof: L27 D38 Y32 Y22 Y21 Y23 L28. Conditions: none.
-/
import Derived.Test.YtaihldljnlgnoaaGreatDoorScc7
import Derived.Test.YtaihldljnlgnoaaGreatDoorScc9
import Derived.Test.YtaihldljnlgnoaaGreatDoorScc11
import Derived.Test.YtaihldljnlgnoaaGreatDoorScc13
import Derived.Test.YtaihldljnlgnoaaGreatDoorScc14
import Derived.Test.YtaihldljnlgnoaaGreatDoorScc15
import Derived.Test.YtaihldljnlgnoaaGreatDoorScc16
set_option maxRecDepth 100000
set_option maxHeartbeats 40000000
namespace Go.Proofs.YtaihldljnlgnoaaGreatDoor.V
open Go
section
variable{p:Pt}{r:Mv}{L L':List Stk}{k m:Nat}{n:Nat}{f:Nat->List SV}
theorem pre3(K:AA.lst n f=L'/\AA.isL n f)(a:n<=100000)(b:prOK p r)(d:FK L'):((MN p.l.length (DZ p.l)/\p.l.length<=100000)/\(∀x∈p.l,AE .u8 x.e)/\0<=r.t/\r.t<=255)/\(AA.isL n f/\n<=100000/\∀s∈AA.lst n f,s.l.length<=100000)/\(∀x∈AA.lst n f,AE .u8 x.c.q)/\(BG (AA.lst n f)).length<=100000:=by obtain⟨e,h⟩:=K;have t:=SW b d;rw[e];exact⟨t.1,⟨h,a,t.2.1.2.2⟩,t.2.2⟩
theorem lst_of(a:n=L'.length)(h:∀i,i<n->f i=AA.row L' i):AA.lst n f=L'/\AA.isL n f:=by
 refine⟨?_,RT.isL_of AA L' a h⟩;subst a;have e:AA.lst L'.length f=AA.lst L'.length (AA.row L'):=by unfold RT.lst;exact List.map_congr_left λj b=>by rw[h j (Jn.1 b)]
 rw[e,RT.lst_row]
theorem c0r{s:Stk}(h:s∈L):s.l.length<=(BG L).length:=by obtain⟨A,B,rfl⟩:=List.append_of_mem h;rw[f0f];simp only[Jx];omega
theorem f2x(b:L.length<=100000)(d:∀x∈L,AE .u8 x.c.q)(a:(BG L).length<=100000):FK L:=⟨⟨b,λ_ hs=>Kq (c0r hs) a⟩,d,a⟩
theorem f7f(a:k<L.length)(s:Stk)(q:Nat):AA.row (L.set k s) q=DC (decide (q=k)) (AA.sv s) (AA.row L q):=by
 show AA.sv ((L.set k s).getD q AA.d)=_;by_cases h:q=k
 .subst h;rw[Jf rfl,Ix,K4 a];rfl
 .rw[Ji h,Ix,Jh (Ne.symm h),<-Ix];rfl
theorem StS.fl(S:StS p r L):(BG L).length<=1024/\(1<=p.W/\p.W<=256)/\0<=4*p.W*p.H/\4*p.W*p.H<=1024:=by have h:=S.g.flen;have hw:=GW S.g.hs;unfold EA at h;rw[Iz S.g.hs]at h;have e:4*p.W*p.H=4*(p.W*p.H):=Li _ _ _;have h2:0<=p.W*p.H:=Int.mul_nonneg Dv Dv;rw[e]at h⊢;omega
end
section
variable{w h:Int}{l:List (Int × Int × Int)}{p:Pt}{r:Mv}{L:List Stk}
end
section
variable{p:Pt}{r:Mv}{L M:List Stk}
structure Exg (L M:List Stk):Prop where
 len:M.length=L.length
 c:∀i,(M.getD i AA.d).c=(L.getD i AA.d).c
 pm:∀i,((M.getD i AA.d).l).Perm (L.getD i AA.d).l
theorem Exg.rfl:Exg L L:=⟨Eq.refl _,λ_=>Eq.refl _,λ_=>.refl _⟩
theorem Exg.set{k:Nat}{l:List Int}(X:Exg L M)(a:k<M.length)(h:l.Perm (M.getD k AA.d).l):Exg L (M.set k ⟨(M.getD k AA.d).c,l⟩):=by
 have e:∀i,(M.set k ⟨(M.getD k AA.d).c,l⟩).getD i AA.d=if i=k then⟨(M.getD k AA.d).c,l⟩else M.getD i AA.d:=λi=>by
  by_cases q:i=k
  .subst q;rw[Iz (Eq.refl _),Ix,K4 a];exact Eq.refl _
  .rw[J3 q,Ix,Jh (Ne.symm q),<-Ix]
 refine⟨by rw[Kj];exact X.len,λi=> ?_,λi=> ?_⟩
 .rw[e];split
  .rename_i q;subst q;exact X.c i
  .exact X.c i
 .rw[e];split
  .rename_i q;subst q;exact h.trans (X.pm i)
  .exact X.pm i
theorem Exg.flat:∀{L M:List Stk},Exg L M->(BG M).Perm (BG L)
 | [],M,X=>by obtain rfl:=Kp X.len;exact .refl _
 |s::L,[],X=>by have:=X.len;simp at this
 |s::L,t::M,X=>by
  have a:=X.pm 0;have b:=Exg.flat (L:=L) (M:=M) ⟨by have:=X.len;simpa using this,λi=>X.c (i+1),λi=>X.pm (i+1)⟩
  have d:BG (t::M)=t.l++BG M:=Eq.refl _;have e:BG (s::L)=s.l++BG L:=Eq.refl _;rw[d,e];exact List.Perm.append a b
theorem Exg.any(X:Exg L M){f:Stk->Bool}(h:∀i,f (M.getD i AA.d)=f (L.getD i AA.d)):M.any f=L.any f:=by
 have e:∀N:List Stk,N.any f=(List.range N.length).any λi=>f (N.getD i AA.d):=λN=>by
  have b:N=(List.range N.length).map λi=>N.getD i AA.d:=by
   apply Ms
   .simp
   .intro i c h2;rw[Ls,List.getElem_range,Ix,Iy c];exact Eq.refl _
  have a:=Mc (λl=>List.any l f) b;simp only[List.any_map]at a;exact a
 rw[e,e,X.len];simp only[h]
theorem Exg.sk(X:Exg L M):CS p r M=CS p r L:=by
 have e:∀{f:Int->Bool} (i),(M.getD i AA.d).l.any f=(L.getD i AA.d).l.any f:=λi=>by have h:=X.pm i;apply L7.2;simp only[Jj];exact⟨λ⟨x,a,b⟩=>⟨x,h.mem_iff.1 a,b⟩,λ⟨x,a,b⟩=>⟨x,h.mem_iff.2 a,b⟩⟩
 have g:JV p.W p.H M=JV p.W p.H L:=by
  have d:IL (BG M)=IL (BG L):=by have:=X.flat.nodup_iff;rw[<-f5r,<-f5r]at this;cases a:IL (BG M)<;>cases b:IL (BG L)<;>rw[a,b]at this<;>simp at this<;>exact Eq.refl _
  have s:∀n i,Kl n M i=Kl n L i:=λn i=>by unfold Kl;rw[X.c,X.c,e,(X.pm i).length_eq]
  unfold JV;rw[d,X.flat.length_eq,X.len];simp only[show Kl (EA p.W p.H) M=Kl (EA p.W p.H) L from funext (s _)]
 have j:M.any (Pj (CF p r))=L.any (Pj (CF p r)):=X.any λi=>by unfold Pj;rw[X.c,e]
 have k:M.any Ps=L.any Ps:=X.any λi=>by unfold Ps;rw[X.c]
 unfold CS;rw[g,j,k]
theorem Exg.mem(X:Exg L M){s:Stk}(h:s∈M):∃t∈L,s.c=t.c/\s.l.Perm t.l:=by
 obtain⟨i,a,e⟩:=HH (d:=AA.d) h;refine⟨L.getD i AA.d,BW (by rw[<-X.len];exact a),?_,?_⟩
 .rw[<-e];exact X.c i
 .rw[<-e];exact X.pm i
theorem Exg.stIn(X:Exg L M)(S:FK L):FK M:=
 f2x (by rw[X.len];exact S.1.1) (λs h=>by obtain⟨t,a,e,_⟩:=X.mem h;rw[e];exact S.2.1 t a) (by rw[X.flat.length_eq];exact S.2.2)
theorem ErH.exg(E:ErH p r L)(X:Exg L M):ErH p r M:=by
 obtain⟨⟨q,o,u,w,x⟩,⟨s1,y,z,A,B,C,F,G⟩,H,I⟩:=E;have lt:∀{i},i<M.length->i<L.length:=λh=>by rw[<-X.len];exact h
 have b:∀{i k},i<M.length->k<(M.getD i AA.d).l.length->∃m,m<(L.getD i AA.d).l.length/\(L.getD i AA.d).l.getD m 0=(M.getD i AA.d).l.getD k 0:=λ{i k} a f=>by have g:(M.getD i AA.d).l.getD k 0∈(M.getD i AA.d).l:=BW f;obtain⟨m,j,J⟩:=HH (d:=(0:Int)) ((X.pm i).mem_iff.1 g);exact⟨m,j,J⟩
 refine⟨⟨q,X.stIn o,u,λs h v K=> ?_,λs h=> ?_⟩,⟨(X.stIn o).1,λi a=> ?_,λi N a=> ?_,λi a=> ?_,λi a k f=> ?_,X.flat.nodup_iff.2 C,by rw[X.flat.length_eq];exact F,G⟩,λi a k f=> ?_,λi a=> ?_⟩
 .obtain⟨t,n,_,e⟩:=X.mem h;exact w t n v (e.mem_iff.1 K)
 .obtain⟨t,n,_,e⟩:=X.mem h;rw[e.length_eq];exact x t n
 .rw[X.c];exact y i (lt a)
 .rw[X.c,X.c];exact z i N (lt a)
 .rw[(X.pm i).length_eq];exact A i (lt a)
 .obtain⟨m,g,j⟩:=b a f;rw[<-j];exact B i (lt a) m g
 .obtain⟨m,g,j⟩:=b a f;rw[<-j,X.c];exact H i (lt a) m g
 .rw[X.c];exact I i (lt a)
theorem StS.erH(S:StS p r L):ErH p r L:=by
 have K:=S.g.skok Dv;have hN:=CR S.g.hs;have F:=S.fl;have n:=S.g.flat_mem;have fg:=(PJ S.pr.2.1 S.bo).pl;have fl:=S.g.flen;have o:∀{s v},s∈L->v∈s.l->v∈BG L:=λ{s v} hs f=>Lt.2 ⟨s,hs,f⟩;refine⟨⟨S.pr,S.sn,S.bo,λs h v f=>(n v).1 (o h f),λs h=>Kq (c0r h) F.1⟩,⟨S.sn.1,λi e=> ?_,λi h0 e=> ?_,λi e=>List.length_pos_iff.2 (S.g.ne _ (BW e)),λi e k j=> ?_,K.nd,?_,?_⟩,λi e k j=> ?_,λi e=> ?_⟩
 .have:=K.vc _ (BW (d:=AA.d) e);exact⟨this.1,this.2.1,this.2.2.2⟩
 .have:=K.lt (i-1) i Dv e;have m:∀a b:Cl,BC (BO a) (BO b)<0->UE (a.x,a.y,a.q) (b.x,b.y,b.q)=1:=λa b h=>by
   simp only[BO,BC]at h;unfold UE;dsimp only;have c1:=@Re a.y b.y;have c2:=@Re a.x b.x;have c3:=@Re a.q b.q;rw[Iz];repeat' split at h
   all_goals omega
  exact m _ _ this
 .have t:=(n _).1 (o (BW e) (BW (d:=(0:Int)) j));unfold AU at t;omega
 .unfold EA at fl;rw[Iz S.g.hs]at fl;omega
 .omega
 .have:=(S.g.S.mem (L.getD i AA.d).c ((L.getD i AA.d).l.getD k 0)).1 (by
   rw[Pu (b50 S.g.lt) (BW e)];exact BW j)
  exact this.2
 .exact(K.vc _ (BW (d:=AA.d) e)).2.2.1
theorem StS.h12(S:StS p r L):∀a k,BX p a k->AW p a k≠0->AW p a k=1\/AW p a k=2:=λa k h d=>by
 have X:=S.g;obtain⟨f,l2,l3⟩:=LS X.hs X.G h.1 h.2.1 h.2.2 d;obtain⟨i,m⟩:=IP X.hs h;have j:=LX X.hs X.hp h;have n:=(X.S.mem (AO p (AD p r) a) a).2 ⟨h.1,rfl⟩;have o:=(X.S.mem (AO p (AD p r) a) (AP p a k)).2 ⟨i.1,f⟩;have q:a≠AP p a k:=λe=>by have:=(JU X.hs h.1 h.2.1 h.2.2).2.1;have s:AG p.W p.H a k=a:=e.symm;rw[s]at this;exact UA (ML X.hs h.1) h.2.1 this.symm
 have c:∀b:Prop,[Decidable b]->∀x:Int,x=(if b then 1 else 2)->x=1\/x=2:=λb _ x e=>by
  rw[e];split
  .exact .inl rfl
  .exact .inr rfl
 rcases d1f n o q with b|b
 .exact c _ _ (X.D a k h d b)
 .have l:=X.D (AP p a k) k i (by rw[j];exact d) (by rw[m,f];exact b);rw[j]at l;exact c _ _ l
theorem f3b(S:StS p r L)(X:Exg L M):FS p r M=NN p r M:=by have a:=S.pr.2.1;refine chk_er (X.sk.trans (S.g.sk Dv)) a (λs h=> ?_) S.h12;exact(X.stIn S.sn).2.1 s h
theorem er_ok(S:StS p r L):NN p r L=0:=by rw[<-f3b S Exg.rfl];exact S.ck
end
theorem ps_any{f:FuncId}{k:AM}(hf:∃fn,Tryz.prog.funcs[f]?=some fn/\(fn.name== "runtime.NumGoroutine")=false/\fn.body.isNone=false)(h:∀args pre s,k args=some (pre,s)->pre->∃xs,BM args xs/\PS f (PR xs s)):PS f k:=⟨hf,λA w args vals pre s hA hg hD e hp=>by obtain⟨xs,h1,h2⟩:=h args pre s e hp;obtain⟨h3,h4⟩:=XA h1;refine h2.2 A w xs vals _ s hA hg ⟨by rw[<-h3];exact hD.1,λi t v ht hv=> ?_⟩ rfl rfl;obtain⟨u,hu,bi⟩:=h4 i t ht;exact QI (hD.2 i u v hu hv) bi⟩
def kErG(p:Pt)(r:Mv):AM
 | [a,b,z]=>(KJ z).map λs=>(a=Eo p/\b=ID r/\s.1/\ErH p r s.2,.int .i64 (NN p r s.2))
 |_=>none
theorem pErG{p:Pt}{r:Mv}:PS 26 (kErG p r):=ps_any ⟨_,Tryz.func26,Dw,Dw⟩ λargs pre s h c=>by
 unfold kErG at h;split at h
 .rename_i a b z;simp only[Ic]at h;obtain⟨⟨q,L⟩,d,rfl,rfl⟩:=h;obtain⟨rfl,rfl,e,X⟩:=c;refine⟨[Eo p,ID r,DJ L],?_,pEr25 X rfl rfl⟩;have:=(Oc d e).1;refine⟨?_,?_,this,J5⟩
  .simp[Eo,SV.le2,SV.le1,BH,SV.le0,GL,FU]
  .simp[ID,SV.le2,SV.le1,BH,SV.le0]
 .cases h
def d9p:HK:=λc own=>match c,own with
 | [.agg [.int .i64 W,.int .i64 H,.osl 0,.int .u8 t,.int .i64 a,.int .i64 b,.osl 1]],[.row T 3 n f _,.row S 4 m g _]=>if T=51/\S=CM then some ⟨(CP.isL n f/\AA.isL m g)/\(prOK ⟨W,H,CP.lst n f⟩ ⟨t,a,b⟩/\FK (AA.lst m g))/\CH ⟨W,H,CP.lst n f⟩ ⟨t,a,b⟩=0,rLn28 ⟨W,H,CP.lst n f⟩ ⟨t,a,b⟩,Mo ⟨W,H,CP.lst n f⟩ (AA.lst m g),[]⟩else none
 |_,_=>none
def FHLn28:FamH:=⟨Pt×Mv×List Stk,λ(p,r,_)=>[Oq p r],λ(p,_,L)=>Mo p L,λ(p,r,L)=>(prOK p r/\FK L)/\CH p r=0,λ(p,r,_)=>rLn28 p r,λ(p,_,L)=>Mo p L,[]⟩
def lhEn(p:Pt)(r:Mv)(i:Nat)(a:List Entry):List Entry:=a++[⟨5,none,.int .i64 i⟩,⟨4,none,.sl 2 (FA ((BF p r).take i)).length (HW.row (FA ((BF p r).take i))) none⟩,⟨3,none,.sl 4 (BF p r).length (EG.row (BF p r)) none⟩,⟨1,none,.own 2 0⟩]
def lhOw(p:Pt)(r:Mv)(L:List Stk)(a:List Blk):List Blk:=Mo p L++ .cells 34 [.int .i64 p.W,.int .i64 p.H,.osl 0,.int .u8 r.t,.int .i64 r.x,.int .i64 r.y,.osl 1]::a
def IHLn28:Pt×Mv×List Stk->Nat->Option Inv
 |(p,r,L),4=>some {β:=Nat,ok:=λi=>i<=(BF p r).length,st:=λi=>⟨lhEn p r i [],lhOw p r L []⟩,μ:=λi=>(BF p r).length-i,sub:=λi=>some fun
  |8=>some {β:=Nat,ok:=λk=>(i<(BF p r).length/\k<=(FA ((BF p r).take i)).length)/\∀j,j<k->KC ((FA ((BF p r).take i)).getD j HW.d) (KN ((BF p r).getD i EG.d))=true,st:=λk=>⟨lhEn p r i [⟨7,none,.int .i64 k⟩,⟨6,none,.own 3 0⟩],lhOw p r L [.cells 71 [.int .u8 ((BF p r).getD i EG.d).K,.int .i64 ((BF p r).getD i EG.d).C]]⟩,μ:=λk=>(FA ((BF p r).take i)).length-k}
  |_=>none}
 |_,_=>none
theorem pHLn28:HS 29 d9p:=by
 refine HG {fs:=[(66,Vp)],fsok:=by simpa using f58,gr:=λid=>bif Nat.beq id 11 then [.orders,.fz 4,.fz 5]else []} ⟨Dx,Dx,Dx⟩ FHLn28 IHLn28 d9p ?_ ?_ ?_ Tryz.func29 Dw Dw Dw ?_
 .intro args own s h P;unfold d9p at h;split at h
  .rename_i W H t a b T n f c1 S m g c2;split at h
   .rename_i Q;obtain⟨rfl,rfl⟩:=Q;cases h;obtain⟨⟨R,U⟩,V,X⟩:=P;exact⟨(⟨W,H,CP.lst n f⟩,⟨t,a,b⟩,AA.lst m g),⟨by simp[Oq,SV.le2,SV.le1,BH,SV.le0],J5⟩,rfl,⟨⟨Eh,(RT.lst_length CP n f).symm,J5,RT.row_isL CP R⟩,⟨Eh,(RT.lst_length AA m g).symm,J5,RT.row_isL AA U⟩,J5⟩,⟨V,X⟩,rfl,rfl,rfl⟩
   .cases h
  .cases h
 .exact C0
 .intro i;show 2<=2;decide
 .rintro⟨p,r,L⟩ μ ⟨⟨⟨⟨Y,Z⟩,hr⟩,E⟩,F⟩;have hs:=(FO (Qi F).1).1;have mw:EF p.l.length (CP.row p.l)=p.l:=CU p.l;have hN:=CR hs;have bc:(BF p r).length<=1000000:=by
   have:=@d3g p (AD p r) (3*AJ p.W p.H);have hw:=GW hs;show (HB p (AD p r) (3*AJ p.W p.H)).length<=_;omega
  refine X0 _ ?_;(repeat' first|constructor|intro h)<;>refine Lm ?_
  all_goals(try simp only[mw,RT.lst_row,OC,Ns]at*)
  all_goals(try exact⟨⟨⟨⟨FF _,Y⟩,Z,hr⟩,NT L E.1,E.2⟩,F⟩)
  refine⟨(0:Nat),Je _,?_,?_⟩
  .refine X0a _ ?_;(repeat' first|constructor|intro h)<;>refine Lm ?_
   all_goals first|exact A6|exact A4|skip
  .intro i G;replace G:i<=(BF p r).length:=G;refine X0a _ ?_;(repeat' first|constructor|intro h)<;>refine Lm ?_
   all_goals(try simp only[Ia]at*)
   all_goals(try first
    |exact Ap)
   .have y:i<(BF p r).length:=Dv;have e0:=@f11 (BF p r) i EG.d y;have jy:(FA ((BF p r).take i)).length<=1000000:=by
     have:=g0x ((BF p r).take i);rw[Nb]at this;omega
    refine⟨(0:Nat),⟨⟨y,Je _⟩,λj I=>absurd I (Jq _)⟩,?_,?_⟩
    .exact X0g
    .intro k z;replace z:(i<(BF p r).length/\k<=(FA ((BF p r).take i)).length)/\∀j,j<k->KC ((FA ((BF p r).take i)).getD j HW.d) (KN ((BF p r).getD i EG.d))=true:=z;obtain⟨⟨_,k1⟩,k2⟩:=z;have A:=c8u (x:=KN ((BF p r).getD i EG.d)) (FA ((BF p r).take i)) k k1 k2;have J:(KN ((BF p r).getD i EG.d)).1=((BF p r).getD i EG.d).K:=rfl;have M:(KN ((BF p r).getD i EG.d)).2=((BF p r).getD i EG.d).C:=rfl;by_cases w:k<(FA ((BF p r).take i)).length/\KC ((FA ((BF p r).take i)).getD k HW.d) (KN ((BF p r).getD i EG.d))=true
     .obtain⟨qq,N⟩:=w;have u:=b52.1 N;rw[J,M]at u;clear A;refine X0a _ ?_;(repeat' first|constructor|intro h)<;>refine Lm ?_
      all_goals(try simp only[Ia,If,Ii,Ib,Mm]at*)
      all_goals(try first
       |exact Ap
       |(intro _;omega))
      refine⟨k+1,⟨⟨y,Dv⟩,λj I=> ?_⟩,Eu,?_⟩
      .by_cases e:j=k
       .subst e;exact N
       .exact k2 j Dv
      .refine X0a _ ?_;(repeat' first|constructor|intro h)<;>refine Lm ?_
       all_goals first|exact B5|omega|skip
     .have u:¬(k<(FA ((BF p r).take i)).length/\(((FA ((BF p r).take i)).getD k HW.d).1<((BF p r).getD i EG.d).K\/((FA ((BF p r).take i)).getD k HW.d).1=((BF p r).getD i EG.d).K/\((FA ((BF p r).take i)).getD k HW.d).2<((BF p r).getD i EG.d).C)):=λq=>w ⟨q.1,b52.2 (by rw[J,M];exact q.2)⟩;have o:=A λq h=>w ⟨q,h⟩;rw[<-e0]at o;clear A k2 w;by_cases v:k<(FA ((BF p r).take i)).length/\(FA ((BF p r).take i)).getD k HW.d=KN ((BF p r).getD i EG.d)
      .rw[Iz v]at o;obtain⟨w3,O⟩:=v;have B:((FA ((BF p r).take i)).getD k HW.d).1=((BF p r).getD i EG.d).K:=by rw[O];rfl
       have hd4:((FA ((BF p r).take i)).getD k HW.d).2=((BF p r).getD i EG.d).C:=by rw[O];rfl
       refine X0a _ ?_;(repeat' first|constructor|intro h)<;>refine Lm ?_
       all_goals(try simp only[Ia,If,Ii,Ib,Mm]at*)
       all_goals(try first
        |exact Ap
        |(intro _;omega))
       refine⟨i+1,Ea,E7,?_⟩;all_goals refine X0a _ ?_;(repeat' first|constructor|intro h)<;>refine Lm ?_
       all_goals first|rfl|(rw[o];done)|(rw[o];exact λ_ _=>.inl rfl)|exact A4|omega|skip
      .rw[J3 v]at o;have B:¬(k<(FA ((BF p r).take i)).length/\((FA ((BF p r).take i)).getD k HW.d).1=((BF p r).getD i EG.d).K/\((FA ((BF p r).take i)).getD k HW.d).2=((BF p r).getD i EG.d).C):=λq=>v ⟨q.1,Prod.ext q.2.1 q.2.2⟩;clear v;refine X0a _ ?_;(repeat' first|constructor|intro h)<;>refine Lm ?_
       all_goals(try simp only[Ia,If,Ii,Ib,Mm]at*)
       all_goals(try first
        |exact Ap
        |(intro _;omega)
        |exact Bj
        |exact A9)
       all_goals
        refine⟨i+1,Ea,E7,?_⟩;all_goals refine X0a _ ?_;(repeat' first|constructor|intro h)<;>refine Lm ?_
        all_goals(try first|exact B5)
        all_goals rw[o]
        all_goals first
         |exact ln_len k1
         |exact λ_ h=>ln_ins rfl k1 h
         |skip
   all_goals(try exact λ_ _=>.inl rfl)
   all_goals
    have ei:i=(BF p r).length:=Dv;rw[ei,Kx];first|exact B5|skip
def hSOf:HK:=λa own=>match a,own with
 | [x],[]=>(asS x).map λq=>⟨q.1,Oq (LH q.2.1 q.2.2.1 q.2.2.2).1 (LH q.2.1 q.2.2.1 q.2.2.2).2.1,Mo (LH q.2.1 q.2.2.1 q.2.2.2).1 (LH q.2.1 q.2.2.1 q.2.2.2).2.2,[]⟩
 |_,_=>none
def FHSOf:FamH:=⟨Int×Int×List (Int×Int×Int),λ(w,h,l)=>[.agg (KS w h l)],λ_=>[],λ(w,h,l)=>Qe w h l,λ(w,h,l)=>Oq (LH w h l).1 (LH w h l).2.1,λ(w,h,l)=>Mo (LH w h l).1 (LH w h l).2.2,[]⟩
def IHSOf:Int×Int×List (Int×Int×Int)->Nat->Option Inv
 |(w,h,l),3=>some {β:=Nat×JF,ok:=λ(i,s)=>(i<=l.length/\i<=5)/\SOK s i/\((l.take 5).drop i).foldl MR s=LH w h l,st:=λ(i,s)=>⟨[⟨4,none,.int .i64 i⟩,⟨3,none,.own 3 0⟩,⟨2,none,.own 1 0⟩,⟨1,none,.own 0 0⟩],[.cells 24 (KS w h l),.cells 34 [.int .i64 0,.int .i64 0,.con (.slice none 0 0),.int .u8 0,.int .i64 0,.int .i64 0,.con (.slice none 0 0)],.row CM 4 s.2.2.length (AA.row s.2.2) none,.cells 34 [.int .i64 s.1.W,.int .i64 s.1.H,.osl 4,.int .u8 s.2.1.t,.int .i64 s.2.1.x,.int .i64 s.2.1.y,.osl 2],.row 51 3 s.1.l.length (CP.row s.1.l) none]⟩,μ:=λ(i,_)=>l.length-i,nl:=[.cell 3 2 51 3]}
 |_,_=>none
theorem pHSOf:HS 9 hSOf:=by
 refine HG {h:=[(28,d9s),(29,d9p),(30,Wq)],c2:=true,fz:=λd=>Nat.beq d 63,gr:=λid=>bif Nat.beq id 7 then [.sel [0,1,6,3,5]]else [],G:={gx:=λ_=>[.sel [4,2,1]]}} ⟨Dx,Dx,by simpa using⟨f3t,pHLn28,f4y⟩⟩ FHSOf IHSOf hSOf ?_ ?_ ?_ Tryz.func9 Dw Dw Dw ?_
 .intro args own s h J;unfold hSOf at h;split at h
  .rename_i x;simp only[J7]at h;obtain⟨⟨q,w,K,l⟩,hx,rfl⟩:=h;obtain⟨k,A⟩:=asS_le hx J;exact⟨(w,K,l),⟨k,J5⟩,rfl,J5,A,rfl,rfl,rfl⟩
  .cases h
 .exact C0
 .intro i;show 0<=2;decide
 .rintro⟨w,v,l⟩ μ ⟨⟨M,w2⟩,⟨N,v2⟩,O⟩;have hx:=sx_ok w v;have m:AV (1+w%4) (1+v%4)=0:=hx.g.hs;have P:=K3 (b:=4) M;have Q:=K3 (b:=4) N;refine X0 _ ?_;(repeat' first|constructor|intro h)<;>refine Lm ?_
  all_goals(try simp only[P,Q]at*)
  all_goals(try first
   |exact m
   |exact Ap)
  refine⟨((0:Nat),sxSt w v),⟨⟨Je _,Je _⟩,hx,rfl⟩,?_,?_⟩
  .refine X0a _ ?_;(repeat' first|constructor|intro h)<;>refine Lm ?_
   all_goals first|exact B5|exact λ_ h=>absurd h (Jq _)|skip
  .rintro⟨i,⟨p,r,L⟩⟩ o;replace o:(i<=l.length/\i<=5)/\SOK (p,r,L) i/\((l.take 5).drop i).foldl MR (p,r,L)=LH w v l:=o;obtain⟨⟨i1,t⟩,X,B⟩:=o;have j:=X.g;have tv:=c9a (i:=i) t;have C:=SW (X.prOK t) j.stIn;have E:=(j.places Dv).1;dsimp only at j C E;have R:EF p.l.length (CP.row p.l)=p.l:=CU p.l;have S:∀a b c:Int,[a,b,c].getD (Int.toNat 0) 0=a:=λ_ _ _=>rfl;have T:∀a b c:Int,[a,b,c].getD (Int.toNat 1) 0=b:=λ_ _ _=>rfl;have U:∀a b c:Int,[a,b,c].getD (Int.toNat 2) 0=c:=λ_ _ _=>rfl;have F:i<l.length->Py (l.getD i DP.d).1/\Py (l.getD i DP.d).2.1/\Py (l.getD i DP.d).2.2:=λh=>O _ (BW h);have u:(¬(i<l.length/\i<5))\/FA (BF p r)=[]->(p,r,L)=LH w v l:=λh=>by
    rw[<-B];rcases h with h|h
    .rw[List.drop_eq_nil_of_le Ex];rfl
    .exact(d7e _ _ (show OU (p,r,L)=[]from h)).symm
   have Yb:i<l.length->i<5->((l.take 5).drop (i+1)).foldl MR (MR (p,r,L) (l.getD i DP.d))=LH w v l:=λk A=>by rw[<-B,List.drop_eq_getElem_cons (i:=i) Ex];rw[M1,List.getElem_take,Ix,Iy k];rfl
   refine X0a _ ?_;(repeat' first|constructor|intro h)<;>refine Lm ?_
   all_goals(try simp only[R,RT.lst_row,OC,Ns,S,T,U,Ia,If]at*)
   all_goals(try first
    |exact⟨⟨RT.isL_row _ _,RT.isL_row _ _⟩,⟨X.prOK t,j.stIn⟩,E⟩
    |exact Aw
    |(have q:=F Dv;unfold Py at q;simp only[AE];omega))
   all_goals(try(
    have e:=u (by first|exact .inl Dv|exact .inr (Lp.1 Dv));rw[<-e];all_goals first|exact B5))
   all_goals
    have y:i<l.length:=Dv;have z:i<5:=Dv;have H:OU (p,r,L)≠[]:=λe=>by have e2:(FA (BF p r)).length=0:=Mc List.length e;omega
    obtain⟨⟨F1,_⟩,⟨V,_⟩,⟨W,_⟩⟩:=F y;have Y:=K3 (b:=((FA (BF p r)).length:Int)) F1;have Z:=K3 (b:=2) V;have ec:=K3 (b:=2) W;have m1:=Ln (l.getD i DP.d).1 (b:=((FA (BF p r)).length:Int)) Dv;have m2:=Lg (l.getD i DP.d).1 (b:=((FA (BF p r)).length:Int)) Dv;have pi:=(f41 X).1 (d1t (s:=(p,r,L)) (a:=(l.getD i DP.d).1) H);obtain⟨hK,I⟩:=on_bd j pi;have fo:MR (p,r,L) (l.getD i DP.d)=Ui (p,r,L) (YY (p,r,L) (l.getD i DP.d).1).1 (YY (p,r,L) (l.getD i DP.d).1).2 ((l.getD i DP.d).2.1%2) (decide ((l.getD i DP.d).2.2%2=1)):=by unfold MR;rw[J3 H]
    have hX:=X.next (f:=l.getD i DP.d) Dv;have wv:=Yb y z;simp only[Y,Z,ec]
   all_goals first
    |exact⟨m1,m2⟩
    |exact⟨C,j.mono Dv,hK,⟨Int.le_trans Dv I.1,Int.le_trans I.2 Dv⟩,md2 _⟩
    |(refine⟨(i+1,MR (p,r,L) (l.getD i DP.d)),⟨⟨y,by show i+1<=5;omega⟩,hX,wv⟩,by show l.length-(i+1)<l.length-i;omega,?_⟩
      rw[fo];all_goals refine X0a _ ?_;(repeat' first|constructor|intro h)<;>refine Lm ?_
      all_goals first
       |exact B5
       |skip)
    |skip
section
variable{w h:Int}{l:List (Int × Int × Int)}{p:Pt}{r:Mv}{L:List Stk}
def hSO1(x:SV)(p:Pt)(r:Mv)(L:List Stk):HK:=λa own=>match a,own with
 | [y],[]=>some ⟨y=x,Oq p r,Mo p L,[]⟩
 |_,_=>none
theorem pSO1(hx:Qe w h l)(e:LH w h l=(p,r,L)):HS 9 (hSO1 (.agg (KS w h l)) p r L):=f3x pHSOf λargs own t a b=>by
 unfold hSO1 at a;split at a
 .cases a;subst b;obtain⟨q,c,d⟩:=asS_sx w h l hx;refine⟨⟨q,Oq p r,Mo p L,[]⟩,?_,d,rfl,rfl,rfl⟩;unfold hSOf;simp only[c,Kb,e]
 .cases a
end
end Go.Proofs.YtaihldljnlgnoaaGreatDoor.V
