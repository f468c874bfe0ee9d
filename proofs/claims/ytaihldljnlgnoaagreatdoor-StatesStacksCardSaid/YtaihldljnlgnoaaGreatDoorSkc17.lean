/-
  Parts of the proof: L27. Conditions: none.
-/
import Derived.Test.YtaihldljnlgnoaaGreatDoorSkc7
import Derived.Test.YtaihldljnlgnoaaGreatDoorSkc13
import Derived.Test.YtaihldljnlgnoaaGreatDoorSkc15
import Derived.Test.YtaihldljnlgnoaaGreatDoorSkc16
set_option maxRecDepth 100000
set_option maxHeartbeats 40000000
namespace Go.Proofs.YtaihldljnlgnoaaGreatDoor.V
open Go
def XO:Fam:=⟨(Int×Int×List (Int×Int×Int))×Int×Int,λ((w,h,l),a,b)=>[.agg (GE w h l),.int .u8 a,.int .u8 b],λ((w,h,l),a,b)=>MI w h l/\AD .u8 a/\AD .u8 b,λ_=>.bool true⟩
section
variable{p:Pt}{r:Mv}{L L':List Stk}{k m:Nat}{n:Nat}{f:Nat->List SV}
theorem VI(K:AA.lst n f=L'/\AA.isL n f)(a:n<=100000)(b:prOK p r)(d:EG L'):((KZ p.l.length (DU p.l)/\p.l.length<=100000)/\(∀x∈p.l,AD .u8 x.e)/\0<=r.t/\r.t<=255)/\(AA.isL n f/\n<=100000/\∀s∈AA.lst n f,s.l.length<=100000)/\(∀x∈AA.lst n f,AD .u8 x.c.q)/\(Ao (AA.lst n f)).length<=100000:=by obtain⟨e,h⟩:=K;have t:=QF b d;rw[e];exact⟨t.1,⟨h,a,t.2.1.2.2⟩,t.2.2⟩
theorem UH{e:Int}(K:AA.lst n f=L'/\AA.isL n f)(h:CO p r L'=e):(decide (CO p r (AA.lst n f)=e)&&decide (CO p r (AA.lst n f)=e)&&true)=true:=by rw[K.1,h];simp
theorem f44(a:n=L'.length)(h:∀i,i<n->f i=AA.row L' i):AA.lst n f=L'/\AA.isL n f:=by
 refine⟨?_,RT.isL_of AA L' a h⟩;subst a;have e:AA.lst L'.length f=AA.lst L'.length (AA.row L'):=by unfold RT.lst;exact List.map_congr_left λj b=>by rw[h j (Ka.1 b)]
 rw[e,RT.lst_row]
theorem c8r{s:Stk}(h:s∈L):s.l.length<=(Ao L).length:=by obtain⟨A,B,rfl⟩:=List.append_of_mem h;rw[SL];simp only[K5];omega
theorem f2n(b:L.length<=100000)(d:∀x∈L,AD .u8 x.c.q)(a:(Ao L).length<=100000):EG L:=⟨⟨b,λ_ hs=>Kz (c8r hs) a⟩,d,a⟩
theorem c5j(a:k<L.length)(s:Stk):(Ao (L.set k s)).length<=(Ao L).length+s.l.length:=by
 obtain⟨b,c⟩:=RB a;rw[c,SL];have e:(Ao L).length=(Ao (L.take k)++((L.getD k AA.d).l++Ao (L.drop (k+1)))).length:=by rw[<-SL,<-b]
 simp only[K5]at e⊢;omega
theorem Yb{s:Stk}(S:EG L)(a:k<L.length)(b:AD .u8 s.c.q)(d:(Ao L).length+s.l.length<=100000):EG (L.set k s):=
 f2n (by rw[Kq];exact S.1.1) (λx hx=>(Ly hx).elim (S.2.1 x) (λe=>e▸b)) (Kz (c5j a s) d)
theorem cut_in(S:EG L)(a:k<L.length):EG (L.take k++L.drop (k+1)):=by
 have hs:(L.take k++L.drop (k+1)).Sublist L:=by rw[<-List.eraseIdx_eq_take_drop_succ];exact List.eraseIdx_sublist L k
 refine⟨⟨Kz hs.length_le S.1.1,λs h=>S.1.2 s (hs.subset h)⟩,λs h=>S.2.1 s (hs.subset h),?_⟩;refine Kz ?_ S.2.2;have b:(Ao L).length=(Ao (L.take k)++((L.getD k AA.d).l++Ao (L.drop (k+1)))).length:=by rw[<-SL,<-(RB a).1]
 have c:Ao (L.take k++L.drop (k+1))=Ao (L.take k)++Ao (L.drop (k+1)):=by unfold Ao;rw[List.flatMap_append]
 rw[b,c];simp only[K5];omega
theorem kq0(a:k<L.length):AA.lst L.length (λj=>Bl (decide (j=k)) (over (AA.row L k) 3 [.sl 1 (((L.getD k AA.d).l.length:Int)-1).toNat (λj=>AC.row (L.getD k AA.d).l (1+j)) none]) (AA.row L j))=L.set k ⟨(L.getD k AA.d).c,(L.getD k AA.d).l.tail⟩/\AA.isL L.length (λj=>Bl (decide (j=k)) (over (AA.row L k) 3 [.sl 1 (((L.getD k AA.d).l.length:Int)-1).toNat (λj=>AC.row (L.getD k AA.d).l (1+j)) none]) (AA.row L j)):=
 c6q a rfl (by rw[List.length_tail];omega) (λj _=>by generalize (L.getD k AA.d).l=l;show [SV.int .i64 (l.getD (1+j) 0)]=[SV.int .i64 (l.tail.getD j 0)];rw[J5,J5,List.getElem?_tail,Nat.add_comm]) (λq=>rfl)
theorem kq1{sz:Nat}{v:Int}{a:Option Nat}(b:sz=1)(e:k<L.length):AA.lst L.length (λq=>Bl (decide (q=k)) [.int .i64 (L.getD k AA.d).c.x,.int .i64 (L.getD k AA.d).c.y,.int .u8 (L.getD k AA.d).c.q,.sl sz ((L.getD k AA.d).l.length+1) (λj=>if j<(L.getD k AA.d).l.length then AC.row (L.getD k AA.d).l j else(List.map (λx:Nat×List SV=>x.snd) [(0,[SV.int .i64 v])].reverse).getD (j-(L.getD k AA.d).l.length) []) a] (AA.row L q))=L.set k ⟨(L.getD k AA.d).c,(L.getD k AA.d).l++[v]⟩/\AA.isL L.length (λq=>Bl (decide (q=k)) [.int .i64 (L.getD k AA.d).c.x,.int .i64 (L.getD k AA.d).c.y,.int .u8 (L.getD k AA.d).c.q,.sl sz ((L.getD k AA.d).l.length+1) (λj=>if j<(L.getD k AA.d).l.length then AC.row (L.getD k AA.d).l j else(List.map (λx:Nat×List SV=>x.snd) [(0,[SV.int .i64 v])].reverse).getD (j-(L.getD k AA.d).l.length) []) a] (AA.row L q)):=
 c6q e b (by rw[K5];rfl) (λj f=>by
  generalize (L.getD k AA.d).l=l at f⊢;by_cases h:j<l.length
  .rw[J7 h];show [SV.int .i64 (l.getD j 0)]=[SV.int .i64 ((l++[v]).getD j 0)];rw[J5,J5,Jg h]
  .rw[J8 h];obtain rfl:j=l.length:=Dx;rw[Kw];show [SV.int .i64 v]=[SV.int .i64 ((l++[v]).getD l.length 0)];simp) (λq=>rfl)
theorem kq5(a:k<L.length):AA.lst L.length (λj=>Bl (decide (j=k)) (over (AA.row L k) 2 [Vx (Value.int .u8 4)]) (AA.row L j))=L.set k ⟨⟨(L.getD k AA.d).c.x,(L.getD k AA.d).c.y,4⟩,(L.getD k AA.d).l⟩/\AA.isL L.length (λj=>Bl (decide (j=k)) (over (AA.row L k) 2 [Vx (Value.int .u8 4)]) (AA.row L j)):=
 c6q (c:=⟨(L.getD k AA.d).c.x,(L.getD k AA.d).c.y,4⟩) (l:=(L.getD k AA.d).l) a rfl rfl (λ_ _=>rfl) (λ_=>rfl)
theorem d2n(a:k<L.length)(s:Stk)(q:Nat):AA.row (L.set k s) q=Bl (decide (q=k)) (AA.sv s) (AA.row L q):=by
 show AA.sv ((L.set k s).getD q AA.d)=_;by_cases h:q=k
 .subst h;rw[Jr rfl,J5,Ki a];rfl
 .rw[Jq h,J5,Jk (Ne.symm h),<-J5];rfl
theorem kq3(a:k<L.length)(b:m<L.length)(e:m≠k):AA.lst L.length (λj=>Bl (decide (j=m)) (over (Bl (decide (m=k)) (over (AA.row L k) 3 [.sl 1 (L.getD m AA.d).l.length (AC.row (L.getD m AA.d).l) none]) (AA.row L m)) 3 [.sl 1 (L.getD k AA.d).l.length (AC.row (L.getD k AA.d).l) none]) (Bl (decide (j=k)) (over (AA.row L k) 3 [.sl 1 (L.getD m AA.d).l.length (AC.row (L.getD m AA.d).l) none]) (AA.row L j)))=(L.set k ⟨(L.getD k AA.d).c,(L.getD m AA.d).l⟩).set m ⟨(L.getD m AA.d).c,(L.getD k AA.d).l⟩/\AA.isL L.length (λj=>Bl (decide (j=m)) (over (Bl (decide (m=k)) (over (AA.row L k) 3 [.sl 1 (L.getD m AA.d).l.length (AC.row (L.getD m AA.d).l) none]) (AA.row L m)) 3 [.sl 1 (L.getD k AA.d).l.length (AC.row (L.getD k AA.d).l) none]) (Bl (decide (j=k)) (over (AA.row L k) 3 [.sl 1 (L.getD m AA.d).l.length (AC.row (L.getD m AA.d).l) none]) (AA.row L j))):=
 f44 (by simp only[Kq]) λq _=>by rw[d2n (by rw[Kq];exact b),d2n a];rw[Jq e];rfl
theorem kqe{u:Nat}{g:Nat->List SV}(hk:k<L.length):AA.lst (k+((L.length:Int)-((k:Int)+1)).toNat) (λj=>if j<k then Bl (decide (j=k)) (over (AA.row L k) 3 [.sl 1 u g none]) (AA.row L j)else Bl (decide (((k:Int)+1).toNat+(j-k)=k)) (over (AA.row L k) 3 [.sl 1 u g none]) (AA.row L (((k:Int)+1).toNat+(j-k))))=L.take k++L.drop (k+1)/\AA.isL (k+((L.length:Int)-((k:Int)+1)).toNat) (λj=>if j<k then Bl (decide (j=k)) (over (AA.row L k) 3 [.sl 1 u g none]) (AA.row L j)else Bl (decide (((k:Int)+1).toNat+(j-k)=k)) (over (AA.row L k) 3 [.sl 1 u g none]) (AA.row L (((k:Int)+1).toNat+(j-k)))):=
 f44 (by simp only[K5,Mj,List.length_drop];omega) λq _=>by
  by_cases h:q<k
  .rw[J7 h,Jq (by omega:¬q=k)];show AA.sv (L.getD q AA.d)=AA.sv ((L.take k++L.drop (k+1)).getD q AA.d);rw[J5,J5,Jg Ej,List.getElem?_take_of_lt h]
  .have e:((k:Int)+1).toNat=k+1:=Dx;rw[J8 h,e,Jq (by omega:¬k+1+(q-k)=k)];show AA.sv (L.getD (k+1+(q-k)) AA.d)=AA.sv ((L.take k++L.drop (k+1)).getD q AA.d);have a:(L.take k).length=k:=Ej;rw[J5,J5,Jm Dx,Np,a]
theorem StG.rx{b:Int}(X:StG p r L (AL p r) b): -(b+1)<=r.x/\r.x<=b+1:=by
 have hs:=X.hs;have hN:=CF hs;have d:AQ p 0:=⟨Lx _,Dx⟩
 have a:=(X.G.ok 0 d).1;have c:=X.bd 0 d;unfold AR at c;rw[X.r0]at a c;have e:AJ p.W p.H 0=⟨0,0,0⟩:=by simp[AJ,BW,BX,BZ]
 rw[e]at c;obtain⟨t,x,y⟩:=r;unfold EE at a;rcases LC a with h|h|h|h|h|h|h|h<;>(simp only at h;subst h;simp[BE,sq]at c⊢;omega)
theorem StS.fl(S:StS p r L):(Ao L).length<=1024/\(1<=p.W/\p.W<=256)/\0<=4*p.W*p.H/\4*p.W*p.H<=1024:=by have h:=S.g.flen;have hw:=HB S.g.hs;unfold DS at h;rw[J7 S.g.hs]at h;have e:4*p.W*p.H=4*(p.W*p.H):=M0 _ _ _;have h2:0<=p.W*p.H:=Int.mul_nonneg Dx Dx;rw[e]at h⊢;omega
end
section
variable{w h:Int}{l:List (Int × Int × Int)}{p:Pt}{r:Mv}{L:List Stk}
theorem d7q(I:PS 10 QB){a b:Int}(hx:MI w h l)(e:GK w h l=(p,r,L))(_:AD .u8 a)(E:AD .u8 b):PS 3 (TV [.agg (GE w h l),.int .u8 a,.int .u8 b] (.bool true)):=by
 have S:=f5c e;have J:=oSOf hx e;clear e;refine LL {l:=[(9,Ua (.agg (GE w h l)) (.agg (EO p r L))),(11,c2t),(12,Qc),(10,QB)],fz:=λd=>Nat.beq d 53||Nat.beq d 67||Nat.beq d 97,gr:=λid=>bif Nat.beq id 10 then [.fz 2]else bif Nat.beq id 11 then [.sel [0,1,3]]else bif Nat.beq id 13 then [.fz 3,.flat 2]else bif Nat.beq id 18 then [.fz 3,.flat 2]else bif Nat.beq id 27 then [.fz 2]else []} ⟨by simpa using⟨J,f2w,Uj,I⟩,Dz,Dz⟩ (F1 [.agg (GE w h l),.int .u8 a,.int .u8 b] (.bool true)) (λ_ _=>none) (TV [.agg (GE w h l),.int .u8 a,.int .u8 b] (.bool true)) (law1 Ia) ?_ Tryz.func3 Dy Dy Dy ?_
 .exact Bz
 .rintro⟨⟩ _;have K:Int.toNat 1=1:=rfl;have M:Int.toNat 0=0:=rfl;have d0:AC.d=0:=rfl;have ff:=S.g.pos;have s:=S.sn.1.1;have N:=S.fl;have hrx:=S.g.rx;have F:∀q,q<L.length->0<(L.getD q AA.d).l.length:=λq o=>List.length_pos_iff.2 (S.g.ne _ (CP o));have A:∀q,q<L.length->(L.getD q AA.d).l.length<=1024:=λq o=>Kz (c8r (CP o)) N.1;have u:∀q,q<L.length->AD .u8 (L.getD q AA.d).c.q:=λq o=>S.sn.2.1 _ (CP o);obtain⟨k,f,O⟩:∃k:Nat,k<L.length/\b.tmod (L.length:Int)=k:=by
   simp only[AD]at E;rw[Jy E.1];have h1:=Mc b (show (L.length:Int)≠0 from Dx);have G:=M4 b (show (0:Int)<L.length from Dx);exact⟨(b%(L.length:Int)).toNat,Dx,Dx⟩
  obtain⟨m,n,P,z⟩:∃m:Nat,m<L.length/\((k:Int)+1).tmod (L.length:Int)=m/\(2<=L.length->m≠k):=by
   rw[Jy Dx];by_cases Q:k+1<L.length
   .refine⟨k+1,Q,?_,λ_=>Dx⟩;rw[Int.emod_eq_of_lt Dx Dx];rfl
   .refine⟨0,Dx,?_,λ_=>Dx⟩;rw[show ((k:Int)+1)=(L.length:Int)from Dx,Int.emod_self];rfl
  have nk:=F k f;have nm:=F m n;have lk:=A k f;have lm:=A m n;have R:∀q,q<L.length->(L.getD q AA.d).l.tail.length<=1024:=λq o=>by rw[List.length_tail];have:=A q o;omega
  have T:∀v:Int,((L.getD k AA.d).l++[v]).length<=1025:=λv=>by rw[K5];show _+1<=_;omega
  have B:decide (((((L.getD k AA.d).l.length:Int)-1).toNat:Int)=0)=false->(L.getD k AA.d).l.tail≠[]:=λh e=>by have:=Mf List.length e;rw[List.length_tail]at this;have G:=Lu h;simp only[Mn]at this;omega
  have C:decide (((((L.getD k AA.d).l.length:Int)-1).toNat:Int)=0)=true->(L.getD k AA.d).l.tail=[]:=λh=>by refine Kv ?_;rw[List.length_tail];have G:=Kj h;omega
  have U:EG (L.set k ⟨(L.getD k AA.d).c,(L.getD k AA.d).l.tail⟩):=Yb S.sn f (u k f) (by have:=R k f;show _+(L.getD k AA.d).l.tail.length<=_;omega);have V:∀v,EG (L.set k ⟨(L.getD k AA.d).c,(L.getD k AA.d).l++[v]⟩):=λv=>Yb S.sn f (u k f) (by have:=T v;show _+((L.getD k AA.d).l++[v]).length<=_;omega);have W:EG (L.set k ⟨⟨(L.getD k AA.d).c.x,(L.getD k AA.d).c.y,4⟩,(L.getD k AA.d).l⟩):=Yb S.sn f ⟨(by decide:(0:Int)<=4),(by decide:(4:Int)<=255)⟩ (by show _+(L.getD k AA.d).l.length<=_;omega);have X:EG ((L.set k ⟨(L.getD k AA.d).c,(L.getD m AA.d).l⟩).set m ⟨(L.getD m AA.d).c,(L.getD k AA.d).l⟩):=Yb (Yb S.sn f (u k f) (by show _+(L.getD m AA.d).l.length<=_;omega)) (by rw[Kq];exact n) (u m n) (by have:=c5j f ⟨(L.getD k AA.d).c,(L.getD m AA.d).l⟩;dsimp only at this⊢;omega)
  have Y:prOK p ⟨r.t,r.x+2,r.y⟩:=⟨S.pr.1,S.pr.2⟩
  have H:AA.lst L.length (λj=>AA.row L j)=L/\AA.isL L.length (λj=>AA.row L j):=⟨RT.lst_row _ _,RT.isL_row _ _⟩
  have bk:(L.length:Int)-((k:Int)+1)<=100000:=Dx;refine X0b _ ?_;(repeat' first|constructor|intro h)<;>refine Lm ?_
  all_goals(try simp only[O,P,Int.sub_zero,Jn,Jv,if_false,Nat.sub_zero,L7,CI,M,K,d0,Option.map_none,Jo,JS,decide_true,N1]at*)
  all_goals(try first
   |(simp only[AD]at*;omega)
   |omega
   |exact As
   |exact A8
   |(refine⟨Ja,.inl trivial,Dx,?_⟩;exact LP Dy Dx)
   |exact⟨rfl,Dx,Dx,Dx⟩
   |exact RJ rfl Dx
   |exact VI (kq0 f) s S.pr U
   |exact UH (kq0 f) (sp0 S.g Dx f (B h))
   |exact VI (kqe f) Dx S.pr (cut_in S.sn f)
   |exact UH (kqe f) (sp0e S.g Dx f (C h))
   |exact VI (kq1 rfl f) s S.pr (V _)
   |exact UH (kq1 rfl f) (sp1 S.g Dx f n (z Gu) rfl)
   |exact UH (kq1 rfl f) (sp2 S.g Dx f)
   |exact VI (kq3 f n (z Gu)) s S.pr X
   |exact UH (kq3 f n (z Gu)) (sp3 S.g Dx f n (z Gu))
   |exact VI H s Y S.sn
   |exact UH H (spoil4 S.g Dx)
   |exact VI (kq5 f) s S.pr W
   |exact UH (kq5 f) (sp5 S.g Dx f))
theorem d8j(c:PS 10 QB):PS 3 (SB XO):=f55 ⟨_,Tryz.func3,Dy,Dy⟩ λ((w,h,l),a,b) d=>by
 obtain⟨hx,f,g⟩:=d;cases e:GK w h l with
 |mk p s=>cases s with
  |mk r L=>exact d7q c hx e f g
theorem d4u{w h a b:Int}{l:List (Int×Int×Int)}(hx:MI w h l)(c:AD .u8 a)(d:AD .u8 b):XO.pre ((w,h,l),a,b):=⟨hx,c,d⟩
end
end Go.Proofs.YtaihldljnlgnoaaGreatDoor.V
