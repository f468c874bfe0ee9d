/-
  Parts of the proof: Y17. Conditions: none.
-/
import Derived.Test.YtaihldljnlgnoaaGreatDoorSkc11
set_option maxRecDepth 100000
set_option maxHeartbeats 40000000
namespace Go.Proofs.YtaihldljnlgnoaaGreatDoor.V
open Go
def fdOK(p:Pt)(r:Mv)(L:List Stk)(K C sd:Int):Prop:=StG p r L (AL p r) 4000/\(1<=K/\K<=4)/\(-10000<=C/\C<=10000)/\(sd=0\/sd=1)
def rFd28(p:Pt)(r:Mv)(L:List Stk)(K C sd:Int)(over:Bool):SV:=.agg (EO (FK p (AL p r) K C over) (FD p (AL p r) K C sd 0) (JW over K C sd L))
def f8q:AK
 | [x,.agg [.int .u8 K,.int .i64 C,.int .u8 a,.bool over]]=>(MN x).map λq=>(q.1/\fdOK q.2.1 q.2.2.1 q.2.2.2 K C a,rFd28 q.2.1 q.2.2.1 q.2.2.2 K C a over)
 |_=>none
abbrev FdI:=(Pt×Mv×List Stk)×(Int×Int×Int)×Bool
def Oo(p:Pt)(r:Mv):SV:=.agg [.int .i64 p.W,.int .i64 p.H,.osl 0,.int .u8 r.t,.int .i64 r.x,.int .i64 r.y,.osl 1]
def MP(p:Pt)(L:List Stk):List Blk:=[.row 51 3 p.l.length (BK.row p.l) none,.row CG 4 L.length (AA.row L) none]
def UU:HK:=λa own=>match a,own with
 | [x,.agg [.int .u8 K,.int .i64 C,.int .u8 b,.bool over]],[]=>(MN x).map λq=>⟨q.1/\fdOK q.2.1 q.2.2.1 q.2.2.2 K C b,Oo (FK q.2.1 (AL q.2.1 q.2.2.1) K C over) (FD q.2.1 (AL q.2.1 q.2.2.1) K C b 0),MP (FK q.2.1 (AL q.2.1 q.2.2.1) K C over) (JW over K C b q.2.2.2),[]⟩
 |_,_=>none
def FFd28:FamH:=⟨FdI,λ((p,r,L),(K,C,a),over)=>[.agg (EO p r L),.agg [.int .u8 K,.int .i64 C,.int .u8 a,.bool over]],λ_=>[],λ((p,r,L),(K,C,a),_)=>(prOK p r/\EG L)/\fdOK p r L K C a,λ((p,r,_),(K,C,a),over)=>Oo (FK p (AL p r) K C over) (FD p (AL p r) K C a 0),λ((p,r,L),(K,C,a),over)=>MP (FK p (AL p r) K C over) (JW over K C a L),[]⟩
def fdEn(a:List Entry):List Entry:=a++[⟨24,none,.fp true 6 0 0⟩,⟨6,none,.own 5 0⟩,⟨5,none,.own 3 0⟩,⟨4,none,.own 2 0⟩,⟨3,none,.own 1 0⟩,⟨2,none,.own 0 0⟩]
def YJ(p:Pt)(r:Mv)(L:List Stk)(K C sd:Int)(over:Bool)(z:Bool)(stacks:SV)(b:List Cr)(a:List Blk):List Blk:=[.cells 34 (EO p r L),.cells 89 [.int .u8 K,.int .i64 C,.int .u8 sd,.bool over],.cells 34 [.int .i64 0,.int .i64 0,.con (.slice none 0 0),.int .u8 0,.int .i64 0,.int .i64 0,.con (.slice none 0 0)],.cells 31 (AE.sv (BJ K C)),.row 51 3 b.length (BK.row b) none,.cells 34 [.int .i64 p.W,.int .i64 p.H,.osl 4,.int .u8 (Wx z r (BJ K C)).t,.int .i64 (Wx z r (BJ K C)).x,.int .i64 (Wx z r (BJ K C)).y,stacks]]++a
def c8i(S A:List Stk)(hd:Nat->Value):Blk:=.pool 3 1 S.length hd (GG S A) (λq=>(S.getD q AA.d).l.length) (λq=>AC.row (S.getD q AA.d).l)
abbrev nilS:SV:=.con (.slice none 0 0)
def IFd28:FdI->Nat->Option Inv
 |((p,r,L),(K,C,a),over),5=>some {β:=Nat×(Nat->Value),ok:=λ(i,_)=>i<=L.length,st:=λ(i,hd)=>⟨fdEn [⟨9,none,.int .i64 i⟩,⟨8,none,.osl 8⟩,⟨7,none,.osl 7⟩],YJ p r L K C a over (JM K C a (L.take i)) nilS p.l [c8i (ED K C a (L.take i)) [] hd,.row CG 4 (DM K C a (L.take i)).length (AA.row (DM K C a (L.take i))) none,.row CG 4 (ED K C a (L.take i)).length (Rw hd (ED K C a (L.take i))) none]⟩,μ:=λ(i,_)=>L.length-i,nl:=[.slot 7 CG 4,.slot 8 CG 4],sub:=λ(i,hd)=>some fun
  |12=>some {β:=Nat,ok:=λj=>(i<L.length/\DJ K C (L.getD i AA.d).c=a)/\j<=(L.getD i AA.d).l.length,st:=λj=>⟨fdEn [⟨12,none,.int .i64 (((L.getD i AA.d).l.length:Int)-1-j)⟩,⟨11,none,.osl 10⟩,⟨10,none,.own 9 0⟩,⟨9,none,.int .i64 i⟩,⟨8,none,.osl 8⟩,⟨7,none,.osl 7⟩],YJ p r L K C a over (JM K C a (L.take i)||((L.getD i AA.d).l.reverse.take j).contains 0) nilS p.l [c8i (ED K C a (L.take i)) [] hd,.row CG 4 (DM K C a (L.take i)).length (AA.row (DM K C a (L.take i))) none,.row CG 4 (ED K C a (L.take i)).length (Rw hd (ED K C a (L.take i))) none,.cells CG (AA.sv (L.getD i AA.d)),.row 3 1 j (AC.row ((L.getD i AA.d).l.reverse.take j)) none]⟩,μ:=λj=>(L.getD i AA.d).l.length-j,nl:=[.slot 11 3 1]}
  |_=>none}
 |((p,r,L),(K,C,a),over),19=>some {β:=Nat×(Nat->Value),ok:=λ(i,_)=>i<=(DM K C a L).length,st:=λ(i,hd)=>⟨fdEn [⟨13,none,.int .i64 i⟩,⟨8,none,.osl 8⟩,⟨7,none,.sl 4 (DM K C a L).length (AA.row (DM K C a L)) none⟩],YJ p r L K C a over (JM K C a L) nilS p.l [c8i (ED K C a L) ((DM K C a L).take i) hd,.dead,.row CG 4 (AX over (ED K C a L) ((DM K C a L).take i)).length (GY hd (ED K C a L) ((DM K C a L).take i) (AX over (ED K C a L) ((DM K C a L).take i))) none]⟩,μ:=λ(i,_)=>(DM K C a L).length-i,sub:=λ(i,hd)=>some fun
  |23=>some {β:=Nat×Bool,ok:=λ(k,b)=>i<(DM K C a L).length/\k<=(AX over (ED K C a L) ((DM K C a L).take (if b=true then i+1 else i))).length/\(b=false->∀j,j<k->((AX over (ED K C a L) ((DM K C a L).take i)).getD j AA.d).c≠((DM K C a L).getD i AA.d).c),st:=λ(k,b)=>⟨fdEn [⟨15,none,.int .i64 k⟩,⟨14,none,.bool b⟩,⟨13,none,.int .i64 i⟩,⟨8,none,.osl 8⟩,⟨7,none,.sl 4 (DM K C a L).length (AA.row (DM K C a L)) none⟩],YJ p r L K C a over (JM K C a L) nilS p.l [c8i (ED K C a L) ((DM K C a L).take (if b=true then i+1 else i)) hd,.dead,.row CG 4 (AX over (ED K C a L) ((DM K C a L).take (if b=true then i+1 else i))).length (GY hd (ED K C a L) ((DM K C a L).take (if b=true then i+1 else i)) (AX over (ED K C a L) ((DM K C a L).take (if b=true then i+1 else i)))) none]⟩,μ:=λ(k,b)=>if b=true then 0 else(AX over (ED K C a L) ((DM K C a L).take i)).length-k+1}
  |_=>none}
 |((p,r,L),(K,C,a),over),36=>some {β:=Nat,ok:=λi=>i<=(AO p r).length,st:=λi=>⟨[⟨19,none,.int .i64 i⟩,⟨18,none,.sl 4 (AO p r).length (CH.row (AO p r)) none⟩,⟨16,none,.sl 3 (BC p r).length (AE.row (BC p r)) none⟩,⟨6,none,.own 5 0⟩,⟨4,none,.own 2 0⟩,⟨3,none,.own 1 0⟩,⟨2,none,.own 0 0⟩],YJ p r L K C a over (JM K C a L) (.osl 9) (p.l++(((AO p r).take i).filter (OZ K C)).map (Vd p (AL p r) over)) [.dead,.dead,.dead,.row CG 4 (JW over K C a L).length (AA.row (JW over K C a L)) none]⟩,μ:=λi=>(AO p r).length-i}
 |_,_=>none
theorem f9f{hd:Nat->Value}{v:Value}{S:List Stk}{x y q:Int}{l:List Int}{j:Nat}(hj:j<S.length+1):Fl (if j<S.length then Rw hd S j else(List.map (λx:Nat×List SV=>x.snd) [(0,[SV.int .i64 x,SV.int .i64 y,SV.int .u8 q,SV.con v])].reverse).getD (j-S.length) []) (Rw (λk=>if k=S.length then v else hd k) (S++[⟨⟨x,y,q⟩,l⟩]) j):=by
 left;by_cases e:j<S.length
 .have a:(S++[(⟨⟨x,y,q⟩,l⟩:Stk)]).getD j AA.d=S.getD j AA.d:=by
   rw[J5,J5,Jg e]
  simp only[Rw,a,J7 e,J8 (show¬j=S.length from Dx)]
 .have:j=S.length:=Dx;subst this;have a:(S++[(⟨⟨x,y,q⟩,l⟩:Stk)]).getD S.length AA.d=⟨⟨x,y,q⟩,l⟩:=by
   rw[J5,Jm (Jf _),Kw];rfl
  rw[J8 e,Kw];simp only[Rw,a,Kp];rfl
theorem f04{S:List Stk}{x:Stk}{q:Nat}:(S++[x]).getD q AA.d=if q<S.length then S.getD q AA.d else if q=S.length then x else AA.d:=by
 by_cases e:q<S.length
 .rw[J7 e,J5,J5,Jg e]
 .rw[J8 e];by_cases a:q=S.length
  .subst a;rw[J7 rfl,J5,Jm (Jf _),Kw];rfl
  .rw[J8 a,J5,Jm Dx,Li (by rw[M2];omega)];rfl
theorem fp_al{S:List Stk}{x:Stk}{q:Nat}(h:q<S.length+1):(decide (q=S.length)||GG S [] q)=GG (S++[x]) [] q:=by rw[d4j,d4j,K5,M2,Jr h,Kd,Jh,Jh];omega
theorem fp_ct{S:List Stk}{x:Stk}{a:Nat}{f:Nat->List SV}(b:a=x.l.length)(c:∀j,j<a->f j=AC.row x.l j){q:Nat}(h:q<S.length+1):(if q=S.length then a else(S.getD q AA.d).l.length)=((S++[x]).getD q AA.d).l.length/\∀j,j<(if q=S.length then a else(S.getD q AA.d).l.length)->(if q=S.length then f else AC.row (S.getD q AA.d).l) j=AC.row ((S++[x]).getD q AA.d).l j:=by
 rw[f04];by_cases e:q=S.length
 .rw[J7 e,J8 Dx,J7 e,J7 e];exact⟨b,c⟩
 .rw[J8 e,J7 Dx,J8 e];exact⟨rfl,λ_ _=>rfl⟩
theorem d58{l:List Int}{j:Nat}{v:Int}(a:j<l.length)(b:v=l.getD j 0){q:Nat}(hq:q<j+1):Fl (if q<j then AC.row (l.take j) q else(List.map (λx:Nat×List SV=>x.snd) [(0,[SV.int .i64 v])].reverse).getD (q-j) []) (AC.row (l.take (j+1)) q):=by
 left;have c:(l.take j).length=j:=Ej;rw[IE (d:=0) a];unfold RT.row;by_cases e:q<j
 .rw[J7 e,J5,J5,Jg Dx]
 .have:q=j:=Dx;subst this;rw[J8 e,Kw,J5 (l:=l.take q++_),Jm Dx,c,Kw,b];rfl
theorem g1a{L:List Stk}{K C sd:Int}(h:DC L):DC (ED K C sd L):=by unfold DC ED;exact Ns (List.filter_sublist.map _) h
theorem f9d{L:List Stk}{K C sd:Int}(h:DC L)(hq:∀s∈L,CD s.c):DC (DM K C sd L):=by unfold DC DM;rw[Mq];have d:((L.filter λs=>decide (DJ K C s.c=sd)).map (·.c)).Nodup:=Ns (List.filter_sublist.map _) h;rw[List.Nodup,L2]at d⊢;refine List.Pairwise.imp_of_mem (λ{a b} ha hb tu e=> ?_) d;exact Dt
theorem fdB_0{hd:Nat->Value}{S:List Stk}{q:Nat}(h:q<S.length):Fl (Rw hd S q) (GY hd S [] S q):=by left;unfold Rw GY;rw[d4j,J7 (Jr h)]
theorem d1u{a b:List Int}{j:Nat}:(if j<a.length then AC.row a j else AC.row b (j-a.length))=AC.row (a++b) j:=by
 unfold RT.row;by_cases e:j<a.length
 .rw[J7 e,J5,J5,Jg e]
 .rw[J8 e,J5,J5 (l:=a++b),Jm Dx]
theorem f1q{a b:List Int}{j:Nat}:(if j<0+a.length then if j<0 then []else AC.row a (j-0)else AC.row b (j-(0+a.length)))=AC.row (a++b) j:=by rw[<-d1u,L7,J8 (Jv _)];rfl
section
variable{over:Bool}{S A:List Stk}{hd:Nat->Value}{i k:Nat}
theorem d2x{n sz:Nat}{f:Nat->List SV}{c:Option Nat}{l:List Int}(o:DC S)(r:i<A.length)(s:k<S.length)(t:(S.getD k AA.d).c=(A.getD i AA.d).c)(u:GG S (A.take i) k=true)(v:AX over S (A.take (i+1))=(AX over S (A.take i)).set k ⟨((AX over S (A.take i)).getD k AA.d).c,l⟩)(w:sz=1)(z:n=l.length)(B:∀j,j<n->f j=AC.row l j){q:Nat}(C:q<(AX over S (A.take i)).length):Fl (Bl (decide (q=k)) [.int .i64 ((AX over S (A.take i)).getD k AA.d).c.x,.int .i64 ((AX over S (A.take i)).getD k AA.d).c.y,.int .u8 ((AX over S (A.take i)).getD k AA.d).c.q,.sl sz n f c] (GY hd S (A.take i) (AX over S (A.take i)) q)) (GY hd S (A.take (i+1)) (AX over S (A.take (i+1))) q):=by
 subst w;have a:=f4s o r s t (q:=q);rw[v];generalize AX over S (A.take i)=M at*;by_cases e:q=k
 .subst e;right;have b:(M.set q ⟨(M.getD q AA.d).c,l⟩).getD q AA.d=⟨(M.getD q AA.d).c,l⟩:=by
   rw[J5,Ki C];rfl
  rw[Jr rfl]at a⊢;have m:¬GG S (A.take (i+1)) q=true:=by rw[a];simp
  unfold GY;rw[J7 u,J8 m,b];exact⟨rfl,rfl,rfl,⟨z,Ew,Gr,B⟩,Ja⟩
 .left;rw[Jq e]at a⊢;have m:GG S (A.take (i+1)) q=GG S (A.take i) q:=by rw[a];simp
  have b:(M.set k ⟨(M.getD k AA.d).c,l⟩).getD q AA.d=M.getD q AA.d:=by simp only[J5];rw[Jk (λh=>e h.symm)]
  unfold GY;rw[m,b];by_cases g:GG S (A.take i) q=true
  .rw[J7 g];rfl
  .rw[J8 g];rfl
theorem f9i(a:i<A.length)(b:∀j,j<(AX over S (A.take i)).length->((AX over S (A.take i)).getD j AA.d).c≠(A.getD i AA.d).c)(f:AX over S (A.take (i+1))=AX over S (A.take i)++[A.getD i AA.d]){q:Nat}(hq:q<(AX over S (A.take i)).length+1):Fl (if q<(AX over S (A.take i)).length then GY hd S (A.take i) (AX over S (A.take i)) q else(List.map (λx:Nat×List SV=>x.snd) [(0,[SV.int .i64 (A.getD i AA.d).c.x,SV.int .i64 (A.getD i AA.d).c.y,SV.int .u8 (A.getD i AA.d).c.q,SV.sl 1 (A.getD i AA.d).l.length (AC.row (A.getD i AA.d).l) none])].reverse).getD (q-(AX over S (A.take i)).length) []) (GY hd S (A.take (i+1)) (AX over S (A.take (i+1))) q):=by
 left;have k:=d14 a b (q:=q);have hl:=(@Ur over (A.take i) S).1;rw[f];unfold GY;rw[k];by_cases e:q<(AX over S (A.take i)).length
 .rw[J7 e,J5 (l:=_++_),Jg e,<-J5]
 .have m:q=(AX over S (A.take i)).length:=Dx;have g:¬GG S (A.take i) q=true:=λh=>by
   have:=(SU.1 h).1;omega
  rw[J8 e,J8 g,m,Kw,J5 (l:=_++_),Jm (Jf _),Kw];rfl
end
theorem zmv_eq{p:Pt}{r:Mv}{L:List Stk}{P:Int->Mv}{B K C sd:Int}(X:StG p r L P B):JM K C sd L=decide (DJ K C (AR p P 0)=sd):=by
 have hN:=CF X.hs;have c:AQ p 0:=⟨Lx _,Dx⟩
 rw[Ls,Jh];unfold JM;rw[Jp];constructor
 .rintro⟨s,hs,h⟩;rw[K6,Jh,List.contains_iff_mem]at h;rw[(X.inSt hs h.2).2];exact h.1
 .intro h;have a:=(X.S.mem (AR p P 0) 0).2 ⟨c,rfl⟩;rcases RC L (AR p P 0)with⟨s,hs,e⟩|e
  .have b:=X.at_ hs;rw[e]at b;refine⟨s,hs,?_⟩;rw[K6,Jh,List.contains_iff_mem,<-b,e];exact⟨h,a⟩
  .rw[e]at a;cases a
theorem rt_fd{p:Pt}{r:Mv}{L:List Stk}{P:Int->Mv}{B K C sd:Int}(X:StG p r L P B):Wx (JM K C sd L) r (BJ K C)=FD p P K C sd 0:=by
 rw[rt_eq,zmv_eq X];unfold FD;rw[X.r0];by_cases h:DJ K C (AR p P 0)=sd
 .rw[J7 h,J7 (Jr h)]
 .rw[J8 h,J8 E4]
theorem ps_in{p:Pt}{r:Mv}{L:List Stk}{P:Int->Mv}{B:Int}(X:StG p r L P B){n:Nat}{x:Pas}(d:n=3*AG p.W p.H)(h:x∈GL p P n):AQ p x.a/\AQ p x.b:=by subst d;obtain⟨a,e,c,_,_,rfl⟩:=(YZ X.hp X.G).1 h;exact⟨c.1,(KG X.hs c.1 c.2.1 c.2.2).1⟩
theorem ps_len(p:Pt)(P:Int->Mv)(n:Nat):(GL p P n).length<=n:=by unfold GL;refine Kz (List.length_filterMap_le _ _) ?_;rw[List.length_range];exact C0
theorem f4f{A:List Cr}{x:Cr}{l:List SV}{j:Nat}(a:l=BK.sv x)(hj:j<A.length+1):Fl (if j<A.length then BK.row A j else(List.map (λx:Nat×List SV=>x.snd) [(0,l)].reverse).getD (j-A.length) []) (BK.row (A++[x]) j):=by
 left;by_cases e:j<A.length
 .rw[J7 e,b0a BK e]
 .have:j=A.length:=Dx;subst this;rw[J8 e,Kw,b09,a];rfl
theorem f6h{l:List Pas}{K C:Int}{i:Nat}(h:i<l.length)(hx:(l.getD i CH.d).K=K/\(l.getD i CH.d).C=C):(l.take (i+1)).filter (OZ K C)=(l.take i).filter (OZ K C)++[l.getD i CH.d]:=by rw[IE (d:=CH.d) h,Nc];generalize l.getD i CH.d=x at*;simp[OZ,hx.1,hx.2]
theorem d9p{l:List Pas}{K C:Int}{i:Nat}(h:i<l.length)(hx:¬(l.getD i CH.d).K=K\/¬(l.getD i CH.d).C=C):(l.take (i+1)).filter (OZ K C)=(l.take i).filter (OZ K C):=by rw[IE (d:=CH.d) h,Nc];generalize l.getD i CH.d=x at*;rcases hx with hx|hx<;>simp[OZ,hx]
theorem cl_dec(a b:Cl):(decide (a.x=b.x)&&(decide (a.y=b.y)&&decide (a.q=b.q)))=decide (a=b):=by
 rw[Ls,K6,K6,Jh,Jh,Jh,Jh];constructor
 .rintro⟨c,d,e⟩;exact Cl.ext' c d e
 .rintro rfl;exact⟨rfl,rfl,rfl⟩
theorem mi_bd{K C:Int}(_:1<=K/\K<=4)(hC: -10000<=C/\C<=10000):(0<=(HH K C).1/\(HH K C).1<=7)/\(-20000<=(HH K C).2.1/\(HH K C).2.1<=20000)/\ -20000<=(HH K C).2.2/\(HH K C).2.2<=20000:=by
 unfold HH;repeat' split
 all_goals(dsimp only;omega)
theorem d5w:HS 30 UU:=by
 refine FU {l:=[(24,f21),(67,f12),(18,Yp),(20,XX),(14,Vo),(66,Tg),(65,f1p)],h:=[(69,d9x),(68,f28)],G:={gx:=λ_=>[.sel [4,9,2]]},fz:=λd=>Nat.beq d 99||Nat.beq d 27||Nat.beq d 148,gr:=λid=>bif Nat.beq id 2 then [.poolN 3 1 24]else bif Nat.beq id 9 then [.orders]else bif Nat.beq id 2063 then [.poolPut 62 6 24]else bif Nat.beq id 18 then [.fz 7]else bif Nat.beq id 27 then [.poolTake 8 3 6 15 24]else bif Nat.beq id 28 then [.fz 9,.flat 8]else bif Nat.beq id 29 then [.fz 10,.flat 8]else bif Nat.beq id 1004 then [.poolSeal 8 3 6 24,.fz 8]else []} ⟨by simpa using⟨pMi28,pSi28,pImg,pTh25,f8x,pPs28,pEd28⟩,Dz,by simpa using⟨pOr28,pHSo28⟩⟩ FFd28 IFd28 UU ?_ ?_ ?_ Tryz.func30 Dy Dy Dy ?_
 .intro args own s h hp;unfold UU at h;split at h
  .rename_i x K C sd over;simp only[Jc]at h;obtain⟨⟨q,p,r,L⟩,hx,rfl⟩:=h;obtain⟨h1,Z,h3⟩:=QW hx hp.1;exact⟨((p,r,L),(K,C,sd),over),⟨h1,Ed,Ja⟩,rfl,Ja,⟨⟨Z,h3⟩,hp.2⟩,rfl,rfl,rfl⟩
  .cases h
 .exact Bx
 .intro i;show 0<=2;decide
 .rintro⟨⟨p,r,L⟩,⟨K,C,sd⟩,over⟩ μ ⟨⟨⟨⟨c8,cd⟩,M⟩,N⟩,X,hK,hC,hsd⟩;have B:=mi_bd hK hC;have O:=(X.places Dx).1;have hs:=X.hs;have hN:=CF hs;have cu:∀i,i<L.length->L.getD i AA.d∈L:=λi m=>CP m;have ba:L.length<=1024:=by have:=X.len;omega
  have wu:∀i,i<L.length->((-4000<=(L.getD i AA.d).c.x/\(L.getD i AA.d).c.x<=4000)/\ -4000<=(L.getD i AA.d).c.y/\(L.getD i AA.d).c.y<=4000)/\0<=(L.getD i AA.d).c.q/\(L.getD i AA.d).c.q<=3:=λi m=>by have h1:=X.cB (cu i m);have Z:=X.cQ (cu i m);unfold CD at Z;omega
  refine X0b _ ?_;(repeat' first|constructor|intro h)<;>refine Lm ?_
  all_goals(try first
   |exact As
   |(refine⟨rfl,.inl rfl,Dx,?_⟩;exact LP Dy Dx))
  refine⟨((0:Nat),λ_=>undef),Jj _,?_,?_⟩
  .refine X0b _ ?_;(repeat' first|constructor|intro h)<;>refine Lm ?_
   all_goals first
    |omega
    |exact Be
    |exact A5
    |exact λ_ _=>.inl (by rw[J8 (Jv _)];rfl)
    |exact Ai
    |skip
  .rintro⟨i,hd⟩ m;replace m:i<=L.length:=m;have P:=λh:i<L.length=>X.lay_len (cu i h);have j8:=@d9e L K C sd i;have Z6:=@d8s L K C sd i;have o:=wu i;have Zx:(if VA K C (L.getD i AA.d).c.x (L.getD i AA.d).c.y (L.getD i AA.d).c.q<6*C then(0:Int)else 1)=DJ K C (L.getD i AA.d).c:=rfl;refine X0b _ ?_;(repeat' first|constructor|intro h)<;>refine Lm ?_
   all_goals(try simp only[If,Ig,Zx]at*)
   all_goals(try first
    |omega
    |(have tn:=o Dx;first
       |exact As
       |exact⟨⟨Dx,Dx⟩,⟨Dx,Dx⟩,⟨Dx,Dx⟩,⟨Dx,Dx⟩,Dx,Dx⟩)
    |exact A4
    |(have we:=P Dx;refine⟨Dx,?_⟩;exact LP Dy Dx)
    |exact A8)
   all_goals(try(
    have f:i<L.length:=Dx;have Yt:¬DJ K C (L.getD i AA.d).c=sd:=E2;obtain⟨e1,e2⟩:=f6f f Yt;have e3:=z_stay f Yt;refine⟨(i+1,λk=>if k=(ED K C sd (L.take i)).length then(‹SlH›).val else hd k),Ec,Gp,?_⟩;rw[e1,e2,e3];all_goals refine X0b _ ?_;(repeat' first|constructor|intro h)<;>refine Lm ?_
    all_goals first
     |exact Ap
     |(rw[K5];rfl)
     |exact λ_ h=>fp_al h
     |exact λ_ h _=>⟨rfl,fp_ct Dx (λj hj=>by rw[J8 (Jv _)];rfl) h⟩
     |exact λ_ h=>f9f h
     |skip))
   ·-- what moves: its layers,the highest first
    have f:i<L.length:=Dx;have Q:DJ K C (L.getD i AA.d).c=sd:=E2;have Y4:=P f;have tn:=o f;clear P o Zx;have td:=(X.G.ok 0 ⟨Lx _,Dx⟩).1;have Yu:=(X.vm Dx (i:=0) ⟨Lx _,Dx⟩).1;rw[X.r0]at td Yu;have hrx:=PX Yu;unfold EE at td;have Zy:(0<=(BJ K C).t/\(BJ K C).t<=7)/\(-20000<=(BJ K C).x/\(BJ K C).x<=20000)/\ -20000<=(BJ K C).y/\(BJ K C).y<=20000:=B;refine⟨(0:Nat),⟨⟨f,Q⟩,Jj _⟩,?_,?_⟩
    .have E:(JM K C sd (L.take i)||((L.getD i AA.d).l.reverse.take 0).contains 0)=JM K C sd (L.take i):=Dz;rw[E];refine X0b _ ?_;(repeat' first|constructor|intro h)<;>refine Lm ?_
     all_goals first
      |exact Ap
      |exact Ai
      |exact Ag
      |skip
    .intro j hj;replace hj:(i<L.length/\DJ K C (L.getD i AA.d).c=sd)/\j<=(L.getD i AA.d).l.length:=hj;obtain⟨_,Y5⟩:=hj;have hix:j<(L.getD i AA.d).l.length->(((L.getD i AA.d).l.length:Int)-1-(j:Int)).toNat=(L.getD i AA.d).l.length-1-j:=λh=>Dx;refine X0b _ ?_;(repeat' first|constructor|intro h)<;>refine Lm ?_
     all_goals(try simp only[If]at*)
     all_goals(try first
      |exact B8
      |exact A8
      |exact⟨⟨td,⟨Dx,Dx⟩,Dx,Dx⟩,Zy.1,Zy.2⟩
      |exact⟨Zy.1,⟨⟨Dx,Dx⟩,Dx,Dx⟩,⟨Dx,Dx⟩,⟨Dx,Dx⟩,Dx,Dx⟩)
     all_goals first
      |(have u:j<(L.getD i AA.d).l.length:=by omega
        have R:=f79 u;rw[hix u]at*;refine⟨j+1,⟨⟨f,Q⟩,Dx⟩,Dx,?_⟩;have z9:=f0r (l:=(L.getD i AA.d).l.reverse) (j:=j) (by simpa using u);first
         |(have hz:(L.getD i AA.d).l.getD ((L.getD i AA.d).l.length-1-j) 0=0:=by assumption
           have E:(JM K C sd (L.take i)||((L.getD i AA.d).l.reverse.take (j+1)).contains 0)=true:=by rw[z9,R,Jr hz];simp
           rw[E];all_goals refine X0b _ ?_;(repeat' first|constructor|intro h)<;>refine Lm ?_
           all_goals first
            |exact Ap
            |exact λ_ h=>d58 (by simpa using u) R.symm h
            |exact Ag
            |skip)
         |(have hz:¬(L.getD i AA.d).l.getD ((L.getD i AA.d).l.length-1-j) 0=0:=by assumption
           have E:(JM K C sd (L.take i)||((L.getD i AA.d).l.reverse.take (j+1)).contains 0)=(JM K C sd (L.take i)||((L.getD i AA.d).l.reverse.take j).contains 0):=by rw[z9,R,Jq hz,N2]
           rw[E];all_goals refine X0b _ ?_;(repeat' first|constructor|intro h)<;>refine Lm ?_
           all_goals first
            |exact Ap
            |exact λ_ h=>d58 (by simpa using u) R.symm h
            |exact Ag
            |skip))
      |(have u:j=(L.getD i AA.d).l.length:=by omega
        obtain⟨e1,e2⟩:=f9y f Q;have e3:=z_away f Q;refine⟨(i+1,hd),Ec,Gp,?_⟩;rw[e1,e2,e3,<-u];all_goals refine X0b _ ?_;(repeat' first|constructor|intro h)<;>refine Lm ?_
        all_goals first
         |exact Ap
         |(rw[K5];rfl)
         |exact Ag
         |(intro q n;refine d60 Dy (by rw[List.length_reverse];exact u) (λk v=> ?_) n;rw[L9 (by rw[List.length_reverse];omega)])
         |skip)
      |skip
   ·-- what moved is laid over or under what stayed
    have bv:i=L.length:=Dx;subst bv;simp only[L8]at j8 Z6⊢;clear P o Zx;have T:=g1a (K:=K) (C:=C) (sd:=sd) X.cells;have U:=f9d (K:=K) (C:=C) (sd:=sd) X.cells (λs h=>X.cQ h);have V6:∀s∈ED K C sd L,s.l.length<=1024:=λs hs=>by have:=X.lay_len (Ku.1 hs).1;omega
    have R8:∀s∈DM K C sd L,s.l.length<=1024:=λs hs=>by obtain⟨t,ht,rfl⟩:=Js.1 hs;have:=X.lay_len (Ku.1 ht).1;show t.l.reverse.length<=_;rw[List.length_reverse];omega
    generalize hS:ED K C sd L=S at*;generalize hA:DM K C sd L=A at*;refine⟨((0:Nat),hd),Jj _,?_,?_⟩
    .refine X0b _ ?_;(repeat' first|constructor|intro h)<;>refine Lm ?_
     all_goals first
      |exact Ap
      |exact Ag
      |exact λ_ h=>fdB_0 h
      |skip
    .rintro⟨i,hd⟩ m;replace m:i<=A.length:=m;refine X0b _ ?_;(repeat' first|constructor|intro h)<;>refine Lm ?_
     all_goals(try simp only[If]at*)
     all_goals(try first
      |exact B8
      |(intro q _ _ ha;unfold GY;rw[if_pos ha];rfl)
      |(simp only[CI];exact⟨⟨⟨⟨Do _,c8⟩,cd⟩,M⟩,O⟩)
      |(simp only[CI,RT.lst_row];exact⟨⟨⟨⟨⟨Do _,c8⟩,cd⟩,M⟩,MH L N.1,N.2⟩,O⟩)
      |(simp only[CI,RT.lst_row];exact⟨⟨⟨⟨Do _,c8⟩,cd,M⟩,MH L N.1,N.2⟩,O⟩)
      |(have F:i=A.length:=by omega
        subst F;simp only[L8];exact⟨sel_is,by have:=(@Ur over A S).2;omega,λs hs=>by rw[d1q]at hs;have:=f5s T U V6 R8 s hs;omega⟩))
     .have f:i<A.length:=Dx;have hMl:=@Ur over (A.take i) S;have Y9:(A.take i).length=i:=Ej;refine⟨((0:Nat),false),⟨f,Jj _,λ_ j hj=>absurd hj (Jv _)⟩,?_,?_⟩
      .exact X2h
      .rintro⟨k,fd⟩ v;replace v:i<A.length/\k<=(AX over S (A.take (if fd=true then i+1 else i))).length/\(fd=false->∀j,j<k->((AX over S (A.take i)).getD j AA.d).c≠(A.getD i AA.d).c):=v;obtain⟨_,V,z⟩:=v;have hMb:(AX over S (A.take i)).length<=2048:=Dx;have hMb':(AX over S (A.take (i+1))).length<=4096:=by have:=(@Ur over (A.take (i+1)) S).2;rw[Mj]at this;omega
       cases fd with
       |true=>
        clear z;replace V:k<=(AX over S (A.take (i+1))).length:=V;all_goals refine X0b _ ?_;(repeat' first|constructor|intro h)<;>refine Lm ?_
        all_goals(try(have hh:=‹(decide _&& !_)=true›;simp at hh;done))
        all_goals(try first
         |exact Ak)
        refine⟨(i+1,hd),Ec,by show A.length-(i+1)<A.length-i;omega,?_⟩;all_goals exact X2h
       |false=>
        replace z:=z rfl;replace V:k<=(AX over S (A.take i)).length:=V;all_goals refine X0b _ ?_;(repeat' first|constructor|intro h)<;>refine Lm ?_
        all_goals(try simp only[If,cl_dec,Ir,Bool.not_false,Mr,Ig]at*)
        all_goals(try first
         |exact B8
         |(show k<(AX over S (A.take i)).length;omega)
         |(show k=k;rfl)
         |(have kq:=R8 _ (CP (d:=AA.d) f);refine⟨Ja,.inl trivial,Dx,?_⟩;exact LP Dy Dx)
         |(have n:=V6 _ (CP (d:=AA.d) (d2v (over:=over) (S:=S) (k:=k) U f Dx E2).1);have kq:=R8 _ (CP (d:=AA.d) f);first
            |exact A8
            |(refine⟨Dx,Dx,Dx,?_⟩;exact LP Dy Dx))
         |exact A8
         |(obtain⟨I,Y,m3,J⟩:=d2v (over:=over) (S:=S) (k:=k) U f Dx E2
           exact⟨Dx,I,J,by unfold GY;rw[if_pos J];rfl⟩))
        all_goals first
         |(have b9:((AX over S (A.take i)).getD k AA.d).c≠(A.getD i AA.d).c:=by assumption
           refine⟨(k+1,false),⟨f,by show k+1<=(AX over S (A.take i)).length;omega,λ_ j hj=> ?_⟩,by show (AX over S (A.take i)).length-(k+1)+1<_;omega,?_⟩
           .by_cases e:j=k
            .rw[e];exact b9
            .exact z j Dx
           .refine X0b _ ?_;(repeat' first|constructor|intro h)<;>refine Lm ?_
            all_goals first
             |exact Ap
             |exact Ag
             |skip)
         |(have jn:((AX over S (A.take i)).getD k AA.d).c=(A.getD i AA.d).c:=by assumption
           have m6:k<(AX over S (A.take i)).length:=Dx;obtain⟨I,Y,m3,J⟩:=d2v U f m6 jn;have w:AX over S (A.take (i+1))=(AX over S (A.take i)).set k ⟨((AX over S (A.take i)).getD k AA.d).c,NN over ((AX over S (A.take i)).getD k AA.d).l (A.getD i AA.d).l⟩:=(b4x f).trans (b48 _ k m6 z jn);have lM:(AX over S (A.take (i+1))).length=(AX over S (A.take i)).length:=by rw[w,Kq]
           refine⟨(k+1,true),⟨f,by show k+1<=(AX over S (A.take (i+1))).length;omega,λh=>E9⟩,by show 0<_;omega,?_⟩;all_goals refine X0b _ ?_;(repeat' first|constructor|intro h)<;>refine Lm ?_
           all_goals first
            |exact Ap
            |exact B3
            |exact lM.symm
            |exact λ_ _=>(f4s T f I Y).symm
            |exact λ_ _ _=>⟨rfl,rfl,λ_ _=>rfl⟩
            |(have wv:over=true:=by assumption
              have hl:NN over ((AX over S (A.take i)).getD k AA.d).l (A.getD i AA.d).l=(S.getD k AA.d).l++(A.getD i AA.d).l:=by rw[m3,wv];rfl
              rw[hl]at w;exact λ_ n=>d2x T f I Y J w rfl (K5).symm (λ_ _=>d1u) n)
            |(have wv:over=false:=by assumption
              have hl:NN over ((AX over S (A.take i)).getD k AA.d).l (A.getD i AA.d).l=(A.getD i AA.d).l++(S.getD k AA.d).l:=by rw[m3,wv];rfl
              rw[hl]at w;exact λ_ n=>d2x T f I Y J w Dy (by rw[K5];omega) (λ_ _=>f1q) n)
            |skip)
         |(have fm:∀j,j<(AX over S (A.take i)).length->((AX over S (A.take i)).getD j AA.d).c≠(A.getD i AA.d).c:=λj hj=>z j Dx
           have w:AX over S (A.take (i+1))=AX over S (A.take i)++[A.getD i AA.d]:=(b4x f).trans (YR _ fm);refine⟨(i+1,hd),Ec,by show A.length-(i+1)<A.length-i;omega,?_⟩;all_goals refine X0b _ ?_;(repeat' first|constructor|intro h)<;>refine Lm ?_
           all_goals first
            |exact Ap
            |exact B3
            |(rw[w,K5];rfl)
            |exact λ_ _=>(d14 f fm).symm
            |exact λ_ _ _=>⟨rfl,rfl,λ_ _=>rfl⟩
            |exact λ_ n=>f9i f fm w n
            |skip)
         |skip
     .have F:i=A.length:=Dx;subst F;have eS:JW over K C sd L=NJ (AX over S A):=by unfold JW;rw[hS,hA]
      simp only[L8,d1q]at*;refine⟨(0:Nat),Jj _,?_,?_⟩
      .rw[eS];refine X0b _ ?_;(repeat' first|constructor|intro h)<;>refine Lm ?_
       all_goals(try simp only[CI,List.take_zero,List.filter_nil,List.map_nil,List.append_nil])
       all_goals first
        |exact Ap
        |exact(f2g _).symm
        |skip
      .intro i m;replace m:i<=(AO p r).length:=m;have fk:(AO p r).length<=3*AG p.W p.H:=ps_len _ _ _;have Zv:i<(AO p r).length->AQ p ((AO p r).getD i CH.d).a/\AQ p ((AO p r).getD i CH.d).b:=λh=>ps_in X rfl (CP (d:=CH.d) h);have di:(p.l++List.map (Vd p (AL p r) over) (List.filter (OZ K C) (List.take i (AO p r)))).length<=103072:=by
        rw[K5,K8];have:=Nf (OZ K C) (List.take i (AO p r));rw[Mj]at this;omega
       have Zz:=Oy M.1 O;have wr:=Zz.pl;refine X0b _ ?_;(repeat' first|constructor|intro h)<;>refine Lm ?_
       all_goals(try simp only[If,Mr,Ig,Ik,RT.lst_row]at*)
       all_goals(try first
        |exact B8
        |(have n:=Zv Dx;unfold AQ at n;first|omega|exact⟨hs,n.1,n.2⟩)
        |exact A8
        |exact⟨RT.isL_row BK _,Dx⟩
        |(rw[rt_fd X];done)
        |exact A5)
       all_goals first
        |(have f:i<(AO p r).length:=by omega
          have B:=d9p f E2;refine⟨i+1,Ec,Ea,?_⟩;rw[B];all_goals refine X0b _ ?_;(repeat' first|constructor|intro h)<;>refine Lm ?_
          all_goals first
           |exact Ap
           |exact B3
           |skip)
        |(have f:i<(AO p r).length:=by omega
          have B:=f6h f E2;refine⟨i+1,Ec,Ea,?_⟩;rw[B,Lq,<-Ma];all_goals refine X0b _ ?_;(repeat' first|constructor|intro h)<;>refine Lm ?_
          all_goals first
           |exact Ap
           |exact B3
           |exact(@K5 _ (p.l++List.map _ _) (List.map _ [_])).symm
           |(intro j hj
             refine f4f ?_ hj;have o:=‹(decide _ !=over)=true›;have v:FdG.nkG (AL p r) over ((AO p r).getD i CH.d).a=1:=J8 (bne_iff_ne.1 o);show [SV.int .i64 _,SV.int .u8 _,SV.int .u8 1]=[SV.int .i64 _,SV.int .u8 _,SV.int .u8 (FdG.nkG (AL p r) over ((AO p r).getD i CH.d).a)];rw[v];rfl)
           |(intro j hj
             refine f4f ?_ hj;have o:=‹(decide _ !=over)=false›;have v:FdG.nkG (AL p r) over ((AO p r).getD i CH.d).a=2:=J7 (bne_eq_false_iff_eq.1 o);show [SV.int .i64 _,SV.int .u8 _,SV.int .u8 2]=[SV.int .i64 _,SV.int .u8 _,SV.int .u8 (FdG.nkG (AL p r) over ((AO p r).getD i CH.d).a)];rw[v];rfl)
           |skip)
        |(have F:i=(AO p r).length:=by omega
          subst F;simp only[L8];first
           |(show _=(NE _).length;rw[c77];rfl)
           |exact A5
           |skip)
        |skip
theorem pFd28:PS 30 f8q:=XZ (c8q d5w) λargs pre s h a=>by
 unfold f8q at h;split at h
 .rename_i x K C sd over;simp only[Ih]at h;obtain⟨⟨q,p,r,L⟩,hx,rfl,rfl⟩:=h;refine⟨_,?_,a⟩;unfold HK.view UU;simp only[hx,Kh,Lw];rfl
 .cases h
end Go.Proofs.YtaihldljnlgnoaaGreatDoor.V
