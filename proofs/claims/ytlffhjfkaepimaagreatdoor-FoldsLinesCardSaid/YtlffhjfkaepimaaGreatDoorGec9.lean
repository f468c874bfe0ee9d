/-
  Parts of the proof: D23 Y17 Y18. Conditions: none.
-/
import Derived.Test.YtlffhjfkaepimaaGreatDoorGec16
set_option maxRecDepth 100000
set_option maxHeartbeats 40000000
namespace Go.Proofs.YtlffhjfkaepimaaGreatDoor.V
open Go
def TC(hd:Nat->Value)(S:List Stk)(q:Nat):List SV:=[.int .i64 (S.getD q AA.d).c.x,.int .i64 (S.getD q AA.d).c.y,.int .u8 (S.getD q AA.d).c.q,.con (hd q)]
def HX(hd:Nat->Value)(S A M:List Stk)(q:Nat):List SV:=[.int .i64 (M.getD q AA.d).c.x,.int .i64 (M.getD q AA.d).c.y,.int .u8 (M.getD q AA.d).c.q,if HB S A q=true then .con (hd q)else .sl 1 (M.getD q AA.d).l.length (AC.row (M.getD q AA.d).l) none]
section
variable{over:Bool}{S A:List Stk}{hd:Nat->Value}
theorem f74{q:Nat}:(if q<S.length/\HB S A q=true then(HX hd S A (AX over S A) q).set 3 (.sl 1 (S.getD q AA.d).l.length (AC.row (S.getD q AA.d).l) none)else HX hd S A (AX over S A) q)=AA.row (AX over S A) q:=by
 by_cases h:q<S.length/\HB S A q=true
 .rw[Ji h];have e:=(@YW over A S q h.1).2 (Ti.1 h.2).2;unfold HX RT.row;rw[e];rfl
 .rw[Jj h];have a:¬HB S A q=true:=λk=>h ⟨(Ti.1 k).1,k⟩;unfold HX RT.row;rw[Jj a];rfl
theorem d3t:(AA.lst (AX over S A).length λq=>if q<S.length/\HB S A q=true then(HX hd S A (AX over S A) q).set 3 (.sl 1 (S.getD q AA.d).l.length (AC.row (S.getD q AA.d).l) none)else HX hd S A (AX over S A) q)=AX over S A:=by have:(λq=>if q<S.length/\HB S A q=true then(HX hd S A (AX over S A) q).set 3 (.sl 1 (S.getD q AA.d).l.length (AC.row (S.getD q AA.d).l) none)else HX hd S A (AX over S A) q)=AA.row (AX over S A):=Nn λq=>f74;rw[this,RT.lst_row]
theorem sel_is:AA.isL (AX over S A).length λq=>if q<S.length/\HB S A q=true then(HX hd S A (AX over S A) q).set 3 (.sl 1 (S.getD q AA.d).l.length (AC.row (S.getD q AA.d).l) none)else HX hd S A (AX over S A) q:=by have:(λq=>if q<S.length/\HB S A q=true then(HX hd S A (AX over S A) q).set 3 (.sl 1 (S.getD q AA.d).l.length (AC.row (S.getD q AA.d).l) none)else HX hd S A (AX over S A) q)=AA.row (AX over S A):=Nn λq=>f74;rw[this];exact RT.isL_row AA _
theorem f8d(a:CV S)(nA:CV A){n:Nat}(d:∀s∈S,s.l.length<=n)(f:∀s∈A,s.l.length<=n):∀s∈AX over S A,s.l.length<=2*n:=by
 intro s hs;have e:=PU (Xu (over:=over) A S a) hs;rw[XQ A S s.c nA]at e;have len:∀(L:List Stk),(∀t∈L,t.l.length<=n)->CV L->(AP L s.c).length<=n:=λL g h=>by
  rcases Qp L s.c with⟨t,b,e⟩|e
  .rw[<-e,PU h b];exact g t b
  .rw[e];simp
 have h1:=len S d a;have h2:=len A f nA;rw[<-e];unfold NJ;split<;>rw[K8]<;>omega
end
def fdOK(p:Pt)(r:Mv)(L:List Stk)(K C sd:Int):Prop:=StG p r L (AL p r) 4000/\(1<=K/\K<=4)/\(-10000<=C/\C<=10000)/\(sd=0\/sd=1)
def rFd28(p:Pt)(r:Mv)(L:List Stk)(K C sd:Int)(over:Bool):SV:=.agg (Co (GL p (AL p r) K C over) (FP p (AL p r) K C sd 0) (KD over K C sd L))
def f2m:AH
 | [x,.agg [.int .u8 K,.int .i64 C,.int .u8 a,.bool over]]=>(MZ x).map λq=>(q.1/\fdOK q.2.1 q.2.2.1 q.2.2.2 K C a,rFd28 q.2.1 q.2.2.1 q.2.2.2 K C a over)
 |_=>none
abbrev FdI:=(Pt×Mv×List Stk)×(Int×Int×Int)×Bool
def FFd28:Fam:=⟨FdI,λ((p,r,L),(K,C,a),over)=>[.agg (Co p r L),.agg [.int .u8 K,.int .i64 C,.int .u8 a,.bool over]],λ((p,r,L),(K,C,a),_)=>(prOK p r/\DV L)/\fdOK p r L K C a,λ((p,r,L),(K,C,a),over)=>rFd28 p r L K C a over⟩
def fdEn(a:List Entry):List Entry:=a++[⟨24,none,.fp true 6 0 0⟩,⟨6,none,.own 5 0⟩,⟨5,none,.own 3 0⟩,⟨4,none,.own 2 0⟩,⟨3,none,.own 1 0⟩,⟨2,none,.own 0 0⟩]
def fdOw(p:Pt)(r:Mv)(L:List Stk)(K C sd:Int)(over:Bool)(z:Bool)(stacks:SV)(b:List Cr)(a:List Blk):List Blk:=[.cells 39 (Co p r L),.cells 29 [.int .u8 K,.int .i64 C,.int .u8 sd,.bool over],.cells 39 [.int .i64 0,.int .i64 0,.con (.slice none 0 0),.int .u8 0,.int .i64 0,.int .i64 0,.con (.slice none 0 0)],.cells 36 (AG.sv (BJ K C)),.row 69 3 b.length (DB.row b) none,.cells 39 [.int .i64 p.W,.int .i64 p.H,.osl 4,.int .u8 (YP z r (BJ K C)).t,.int .i64 (YP z r (BJ K C)).x,.int .i64 (YP z r (BJ K C)).y,stacks]]++a
def d04(S A:List Stk)(hd:Nat->Value):Blk:=.pool 3 1 S.length hd (HB S A) (λq=>(S.getD q AA.d).l.length) (λq=>AC.row (S.getD q AA.d).l)
abbrev nilS:SV:=.con (.slice none 0 0)
def IFd28:FdI->Nat->Option Inv
 |((p,r,L),(K,C,a),over),5=>some {β:=Nat×(Nat->Value),ok:=λ(i,_)=>i<=L.length,st:=λ(i,hd)=>⟨fdEn [⟨9,none,.int .i64 i⟩,⟨8,none,.osl 8⟩,⟨7,none,.osl 7⟩],fdOw p r L K C a over (KN K C a (L.take i)) nilS p.l [d04 (Dl K C a (L.take i)) [] hd,.row DR 4 (CY K C a (L.take i)).length (AA.row (CY K C a (L.take i))) none,.row DR 4 (Dl K C a (L.take i)).length (TC hd (Dl K C a (L.take i))) none]⟩,μ:=λ(i,_)=>L.length-i,nl:=[.slot 7 DR 4,.slot 8 DR 4],sub:=λ(i,hd)=>some fun
  |12=>some {β:=Nat,ok:=λj=>(i<L.length/\CR K C (L.getD i AA.d).c=a)/\j<=(L.getD i AA.d).l.length,st:=λj=>⟨fdEn [⟨12,none,.int .i64 (((L.getD i AA.d).l.length:Int)-1-j)⟩,⟨11,none,.osl 10⟩,⟨10,none,.own 9 0⟩,⟨9,none,.int .i64 i⟩,⟨8,none,.osl 8⟩,⟨7,none,.osl 7⟩],fdOw p r L K C a over (KN K C a (L.take i)||((L.getD i AA.d).l.reverse.take j).contains 0) nilS p.l [d04 (Dl K C a (L.take i)) [] hd,.row DR 4 (CY K C a (L.take i)).length (AA.row (CY K C a (L.take i))) none,.row DR 4 (Dl K C a (L.take i)).length (TC hd (Dl K C a (L.take i))) none,.cells DR (AA.sv (L.getD i AA.d)),.row 3 1 j (AC.row ((L.getD i AA.d).l.reverse.take j)) none]⟩,μ:=λj=>(L.getD i AA.d).l.length-j,nl:=[.slot 11 3 1]}
  |_=>none}
 |((p,r,L),(K,C,a),over),19=>some {β:=Nat×(Nat->Value),ok:=λ(i,_)=>i<=(CY K C a L).length,st:=λ(i,hd)=>⟨fdEn [⟨13,none,.int .i64 i⟩,⟨8,none,.osl 8⟩,⟨7,none,.sl 4 (CY K C a L).length (AA.row (CY K C a L)) none⟩],fdOw p r L K C a over (KN K C a L) nilS p.l [d04 (Dl K C a L) ((CY K C a L).take i) hd,.dead,.row DR 4 (AX over (Dl K C a L) ((CY K C a L).take i)).length (HX hd (Dl K C a L) ((CY K C a L).take i) (AX over (Dl K C a L) ((CY K C a L).take i))) none]⟩,μ:=λ(i,_)=>(CY K C a L).length-i,sub:=λ(i,hd)=>some fun
  |23=>some {β:=Nat×Bool,ok:=λ(k,b)=>i<(CY K C a L).length/\k<=(AX over (Dl K C a L) ((CY K C a L).take (if b=true then i+1 else i))).length/\(b=false->∀j,j<k->((AX over (Dl K C a L) ((CY K C a L).take i)).getD j AA.d).c≠((CY K C a L).getD i AA.d).c),st:=λ(k,b)=>⟨fdEn [⟨15,none,.int .i64 k⟩,⟨14,none,.bool b⟩,⟨13,none,.int .i64 i⟩,⟨8,none,.osl 8⟩,⟨7,none,.sl 4 (CY K C a L).length (AA.row (CY K C a L)) none⟩],fdOw p r L K C a over (KN K C a L) nilS p.l [d04 (Dl K C a L) ((CY K C a L).take (if b=true then i+1 else i)) hd,.dead,.row DR 4 (AX over (Dl K C a L) ((CY K C a L).take (if b=true then i+1 else i))).length (HX hd (Dl K C a L) ((CY K C a L).take (if b=true then i+1 else i)) (AX over (Dl K C a L) ((CY K C a L).take (if b=true then i+1 else i)))) none]⟩,μ:=λ(k,b)=>if b=true then 0 else(AX over (Dl K C a L) ((CY K C a L).take i)).length-k+1}
  |_=>none}
 |((p,r,L),(K,C,a),over),36=>some {β:=Nat,ok:=λi=>i<=(BL p r).length,st:=λi=>⟨[⟨19,none,.int .i64 i⟩,⟨18,none,.sl 4 (BL p r).length (EL.row (BL p r)) none⟩,⟨16,none,.sl 3 (Bl p r).length (AG.row (Bl p r)) none⟩,⟨6,none,.own 5 0⟩,⟨4,none,.own 2 0⟩,⟨3,none,.own 1 0⟩,⟨2,none,.own 0 0⟩],fdOw p r L K C a over (KN K C a L) (EW (KD over K C a L)) (p.l++(((BL p r).take i).filter (PD K C)).map (Ws p (AL p r) over)) []⟩,μ:=λi=>(BL p r).length-i}
 |_,_=>none
theorem g27{hd:Nat->Value}{v:Value}{S:List Stk}{x y q:Int}{l:List Int}{j:Nat}(hj:j<S.length+1):Hl (if j<S.length then TC hd S j else(List.map (λx:Nat×List SV=>x.snd) [(0,[SV.int .i64 x,SV.int .i64 y,SV.int .u8 q,SV.con v])].reverse).getD (j-S.length) []) (TC (λk=>if k=S.length then v else hd k) (S++[⟨⟨x,y,q⟩,l⟩]) j):=by
 left;by_cases e:j<S.length
 .have a:(S++[(⟨⟨x,y,q⟩,l⟩:Stk)]).getD j AA.d=S.getD j AA.d:=by
   rw[Jg,Jg,Jt e]
  simp only[TC,a,Ji e,Jj (show¬j=S.length from Dz)]
 .have:j=S.length:=Dz;subst this;have a:(S++[(⟨⟨x,y,q⟩,l⟩:Stk)]).getD S.length AA.d=⟨⟨x,y,q⟩,l⟩:=by
   rw[Jg,Jy (Jp _),L3];rfl
  rw[Jj e,L3];simp only[TC,a,L1];rfl
theorem f2p{S:List Stk}{x:Stk}{q:Nat}:(S++[x]).getD q AA.d=if q<S.length then S.getD q AA.d else if q=S.length then x else AA.d:=by
 by_cases e:q<S.length
 .rw[Ji e,Jg,Jg,Jt e]
 .rw[Jj e];by_cases a:q=S.length
  .subst a;rw[Ji rfl,Jg,Jy (Jp _),L3];rfl
  .rw[Jj a,Jg,Jy Dz,Ly (by rw[M9];omega)];rfl
theorem fp_al{S:List Stk}{x:Stk}{q:Nat}(h:q<S.length+1):(decide (q=S.length)||HB S [] q)=HB (S++[x]) [] q:=by rw[d6u,d6u,K8,M9,K3 h,Kp,Ju,Ju];omega
theorem fp_ct{S:List Stk}{x:Stk}{a:Nat}{f:Nat->List SV}(b:a=x.l.length)(c:∀j,j<a->f j=AC.row x.l j){q:Nat}(h:q<S.length+1):(if q=S.length then a else(S.getD q AA.d).l.length)=((S++[x]).getD q AA.d).l.length/\∀j,j<(if q=S.length then a else(S.getD q AA.d).l.length)->(if q=S.length then f else AC.row (S.getD q AA.d).l) j=AC.row ((S++[x]).getD q AA.d).l j:=by
 rw[f2p];by_cases e:q=S.length
 .rw[Ji e,Jj Dz,Ji e,Ji e];exact⟨b,c⟩
 .rw[Jj e,Ji Dz,Jj e];exact⟨rfl,λ_ _=>rfl⟩
theorem d7j{l:List Int}{j:Nat}{v:Int}(a:j<l.length)(b:v=l.getD j 0){q:Nat}(hq:q<j+1):Hl (if q<j then AC.row (l.take j) q else(List.map (λx:Nat×List SV=>x.snd) [(0,[SV.int .i64 v])].reverse).getD (q-j) []) (AC.row (l.take (j+1)) q):=by
 left;have c:(l.take j).length=j:=Fb;rw[GF (d:=0) a];unfold RT.row;by_cases e:q<j
 .rw[Ji e,Jg,Jg,Jt Dz]
 .have:q=j:=Dz;subst this;rw[Jj e,L3,Jg (l:=l.take q++_),Jy Dz,c,L3,b];rfl
theorem g4a{L:List Stk}{K C sd:Int}(h:CV L):CV (Dl K C sd L):=by unfold CV Dl;exact N4 (List.filter_sublist.map _) h
theorem g25{L:List Stk}{K C sd:Int}(h:CV L)(hq:∀s∈L,DF s.c):CV (CY K C sd L):=by unfold CV CY;rw[M5];have d:((L.filter λs=>decide (CR K C s.c=sd)).map (·.c)).Nodup:=N4 (List.filter_sublist.map _) h;rw[List.Nodup,L2]at d⊢;refine List.Pairwise.imp_of_mem (λ{a b} ha hb w5 e=> ?_) d;exact D7
theorem fdB_0{hd:Nat->Value}{S:List Stk}{q:Nat}(h:q<S.length):Hl (TC hd S q) (HX hd S [] S q):=by left;unfold TC HX;rw[d6u,Ji (K3 h)]
theorem d3x{a b:List Int}{j:Nat}:(if j<a.length then AC.row a j else AC.row b (j-a.length))=AC.row (a++b) j:=by
 unfold RT.row;by_cases e:j<a.length
 .rw[Ji e,Jg,Jg,Jt e]
 .rw[Jj e,Jg,Jg (l:=a++b),Jy Dz]
theorem f4f{a b:List Int}{j:Nat}:(if j<0+a.length then if j<0 then []else AC.row a (j-0)else AC.row b (j-(0+a.length)))=AC.row (a++b) j:=by rw[<-d3x,L9,Jj (K5 _)];rfl
section
variable{over:Bool}{S A:List Stk}{hd:Nat->Value}{i k:Nat}
theorem d4w{n sz:Nat}{f:Nat->List SV}{c:Option Nat}{l:List Int}(o:CV S)(r:i<A.length)(s:k<S.length)(t:(S.getD k AA.d).c=(A.getD i AA.d).c)(u:HB S (A.take i) k=true)(v:AX over S (A.take (i+1))=(AX over S (A.take i)).set k ⟨((AX over S (A.take i)).getD k AA.d).c,l⟩)(w:sz=1)(z:n=l.length)(B:∀j,j<n->f j=AC.row l j){q:Nat}(C:q<(AX over S (A.take i)).length):Hl (EN (decide (q=k)) [.int .i64 ((AX over S (A.take i)).getD k AA.d).c.x,.int .i64 ((AX over S (A.take i)).getD k AA.d).c.y,.int .u8 ((AX over S (A.take i)).getD k AA.d).c.q,.sl sz n f c] (HX hd S (A.take i) (AX over S (A.take i)) q)) (HX hd S (A.take (i+1)) (AX over S (A.take (i+1))) q):=by
 subst w;have a:=f7d o r s t (q:=q);rw[v];generalize AX over S (A.take i)=M at*;by_cases e:q=k
 .subst e;right;have b:(M.set q ⟨(M.getD q AA.d).c,l⟩).getD q AA.d=⟨(M.getD q AA.d).c,l⟩:=by
   rw[Jg,Kv C];rfl
  rw[K3 rfl]at a⊢;have m:¬HB S (A.take (i+1)) q=true:=by rw[a];simp
  unfold HX;rw[Ji u,Jj m,b];exact⟨rfl,rfl,rfl,⟨z,Fc,H1,B⟩,Jm⟩
 .left;rw[K4 e]at a⊢;have m:HB S (A.take (i+1)) q=HB S (A.take i) q:=by rw[a];simp
  have b:(M.set k ⟨(M.getD k AA.d).c,l⟩).getD q AA.d=M.getD q AA.d:=by simp only[Jg];rw[Jz (λh=>e h.symm)]
  unfold HX;rw[m,b];by_cases g:HB S (A.take i) q=true
  .rw[Ji g];rfl
  .rw[Jj g];rfl
theorem g2a(a:i<A.length)(b:∀j,j<(AX over S (A.take i)).length->((AX over S (A.take i)).getD j AA.d).c≠(A.getD i AA.d).c)(f:AX over S (A.take (i+1))=AX over S (A.take i)++[A.getD i AA.d]){q:Nat}(hq:q<(AX over S (A.take i)).length+1):Hl (if q<(AX over S (A.take i)).length then HX hd S (A.take i) (AX over S (A.take i)) q else(List.map (λx:Nat×List SV=>x.snd) [(0,[SV.int .i64 (A.getD i AA.d).c.x,SV.int .i64 (A.getD i AA.d).c.y,SV.int .u8 (A.getD i AA.d).c.q,SV.sl 1 (A.getD i AA.d).l.length (AC.row (A.getD i AA.d).l) none])].reverse).getD (q-(AX over S (A.take i)).length) []) (HX hd S (A.take (i+1)) (AX over S (A.take (i+1))) q):=by
 left;have k:=d35 a b (q:=q);have hl:=(@WH over (A.take i) S).1;rw[f];unfold HX;rw[k];by_cases e:q<(AX over S (A.take i)).length
 .rw[Ji e,Jg (l:=_++_),Jt e,<-Jg]
 .have m:q=(AX over S (A.take i)).length:=Dz;have g:¬HB S (A.take i) q=true:=λh=>by
   have:=(Ti.1 h).1;omega
  rw[Jj e,Jj g,m,L3,Jg (l:=_++_),Jy (Jp _),L3];rfl
end
theorem zmv_eq{p:Pt}{r:Mv}{L:List Stk}{P:Int->Mv}{B K C sd:Int}(X:StG p r L P B):KN K C sd L=decide (CR K C (AU p P 0)=sd):=by
 have hN:=CG X.hs;have c:AW p 0:=⟨Ms _,Dz⟩
 rw[Lw,Ju];unfold KN;rw[K1];constructor
 .rintro⟨s,hs,h⟩;rw[Ke,Ju,List.contains_iff_mem]at h;rw[(X.inSt hs h.2).2];exact h.1
 .intro h;have a:=(X.S.mem (AU p P 0) 0).2 ⟨c,rfl⟩;rcases Qp L (AU p P 0)with⟨s,hs,e⟩|e
  .have b:=X.at_ hs;rw[e]at b;refine⟨s,hs,?_⟩;rw[Ke,Ju,List.contains_iff_mem,<-b,e];exact⟨h,a⟩
  .rw[e]at a;cases a
theorem rt_fd{p:Pt}{r:Mv}{L:List Stk}{P:Int->Mv}{B K C sd:Int}(X:StG p r L P B):YP (KN K C sd L) r (BJ K C)=FP p P K C sd 0:=by
 rw[rt_eq,zmv_eq X];unfold FP;rw[X.r0];by_cases h:CR K C (AU p P 0)=sd
 .rw[Ji h,Ji (K3 h)]
 .rw[Jj h,Jj E6]
theorem ps_in{p:Pt}{r:Mv}{L:List Stk}{P:Int->Mv}{B:Int}(X:StG p r L P B){n:Nat}{x:Pas}(d:n=3*AF p.W p.H)(h:x∈HV p P n):AW p x.a/\AW p x.b:=by subst d;obtain⟨a,e,c,_,_,rfl⟩:=(TX X.hp X.G).1 h;exact⟨c.1,(LD X.hs c.1 c.2.1 c.2.2).1⟩
theorem ps_len(p:Pt)(P:Int->Mv)(n:Nat):(HV p P n).length<=n:=by unfold HV;refine Lr (List.length_filterMap_le _ _) ?_;rw[List.length_range];exact C2
theorem f71{A:List Cr}{x:Cr}{l:List SV}{j:Nat}(a:l=DB.sv x)(hj:j<A.length+1):Hl (if j<A.length then DB.row A j else(List.map (λx:Nat×List SV=>x.snd) [(0,l)].reverse).getD (j-A.length) []) (DB.row (A++[x]) j):=by
 left;by_cases e:j<A.length
 .rw[Ji e,b0e DB e]
 .have:j=A.length:=Dz;subst this;rw[Jj e,L3,b0d,a];rfl
theorem f95{l:List Pas}{K C:Int}{i:Nat}(h:i<l.length)(hx:(l.getD i EL.d).K=K/\(l.getD i EL.d).C=C):(l.take (i+1)).filter (PD K C)=(l.take i).filter (PD K C)++[l.getD i EL.d]:=by rw[GF (d:=EL.d) h,Nj];generalize l.getD i EL.d=x at*;simp[PD,hx.1,hx.2]
theorem f2b{l:List Pas}{K C:Int}{i:Nat}(h:i<l.length)(hx:¬(l.getD i EL.d).K=K\/¬(l.getD i EL.d).C=C):(l.take (i+1)).filter (PD K C)=(l.take i).filter (PD K C):=by rw[GF (d:=EL.d) h,Nj];generalize l.getD i EL.d=x at*;rcases hx with hx|hx<;>simp[PD,hx]
theorem cl_dec(a b:Cl):(decide (a.x=b.x)&&(decide (a.y=b.y)&&decide (a.q=b.q)))=decide (a=b):=by
 rw[Lw,Ke,Ke,Ju,Ju,Ju,Ju];constructor
 .rintro⟨c,d,e⟩;exact Cl.ext' c d e
 .rintro rfl;exact⟨rfl,rfl,rfl⟩
theorem mi_bd{K C:Int}(_:1<=K/\K<=4)(hC: -10000<=C/\C<=10000):(0<=(HY K C).1/\(HY K C).1<=7)/\(-20000<=(HY K C).2.1/\(HY K C).2.1<=20000)/\ -20000<=(HY K C).2.2/\(HY K C).2.2<=20000:=by
 unfold HY;repeat' split
 all_goals(dsimp only;omega)
theorem pFd28:PS 14 f2m:=by
 refine LV {l:=[(44,d94),(48,f3p),(50,kImg),(49,Yl),(51,f2y),(52,d69),(45,d5h),(53,f4e)],h:=[(54,f2g)],fz:=λd=>Nat.beq d 99||Nat.beq d 27||Nat.beq d 148,gr:=λid=>bif Nat.beq id 2 then [.poolN 3 1 24]else bif Nat.beq id 9 then [.orders]else bif Nat.beq id 2063 then [.poolPut 62 6 24]else bif Nat.beq id 18 then [.fz 7]else bif Nat.beq id 27 then [.poolTake 8 3 6 15 24]else bif Nat.beq id 28 then [.fz 9,.flat 8]else bif Nat.beq id 29 then [.fz 10,.flat 8]else bif Nat.beq id 1004 then [.poolSeal 8 3 6 24,.fz 8]else []} ⟨by simpa using⟨pMi28,pSi28,pImg,pTh25,pSo28,pPl25,pPs28,pEd28⟩,E2,by simpa using pOr28⟩ FFd28 IFd28 f2m ?_ ?_ Tryz.func14 E1 E1 E1 ?_
 .intro args pre s h hp;unfold f2m at h;split at h
  .rename_i x K C sd over;simp only[It]at h;obtain⟨⟨q,p,r,L⟩,hx,rfl,rfl⟩:=h;obtain⟨h1,h2,h3⟩:=QQ hx hp.1;exact⟨((p,r,L),(K,C,sd),over),⟨h1,Ee,Jm⟩,⟨⟨h2,h3⟩,hp.2⟩,rfl⟩
  .cases h
 .exact Bz
 .rintro⟨⟨p,r,L⟩,⟨K,C,sd⟩,over⟩ ⟨⟨⟨⟨bm,bv⟩,Q⟩,R⟩,X,hK,hC,hsd⟩;have F:=mi_bd hK hC;have T:=(X.places Dz).1;have hs:=X.hs;have hN:=CG hs;have cm:∀i,i<L.length->L.getD i AA.d∈L:=λi m=>DP m;have bb:L.length<=1024:=by have:=X.len;omega
  have R1:∀i,i<L.length->((-4000<=(L.getD i AA.d).c.x/\(L.getD i AA.d).c.x<=4000)/\ -4000<=(L.getD i AA.d).c.y/\(L.getD i AA.d).c.y<=4000)/\0<=(L.getD i AA.d).c.q/\(L.getD i AA.d).c.q<=3:=λi m=>by have h1:=X.cB (cm i m);have h2:=X.cQ (cm i m);unfold DF at h2;omega
  refine X0b _ ?_;(repeat' first|constructor|intro h)<;>refine Lm ?_
  all_goals(try first
   |exact Aw
   |(refine⟨rfl,.inl rfl,Dz,?_⟩;exact MQ E1 Dz))
  refine⟨((0:Nat),λ_=>undef),Jw _,?_,?_⟩
  .refine X0b _ ?_;(repeat' first|constructor|intro h)<;>refine Lm ?_
   all_goals first
    |omega
    |exact Bp
    |exact A5
    |exact λ_ _=>.inl (by rw[Jj (K5 _)];rfl)
    |exact Af
    |skip
  .rintro⟨i,hd⟩ m;replace m:i<=L.length:=m;have U:=λh:i<L.length=>X.lay_len (cm i h);have j5:=@f1z L K C sd i;have hal:=@f1c L K C sd i;have o:=R1 i;have w:(if UH K C (L.getD i AA.d).c.x (L.getD i AA.d).c.y (L.getD i AA.d).c.q<6*C then(0:Int)else 1)=CR K C (L.getD i AA.d).c:=rfl;refine X0b _ ?_;(repeat' first|constructor|intro h)<;>refine Lm ?_
   all_goals(try simp only[Ir,Is,w]at*)
   all_goals(try first
    |omega
    |(have my:=o Dz;first
       |exact Aw
       |exact⟨⟨Dz,Dz⟩,⟨Dz,Dz⟩,⟨Dz,Dz⟩,⟨Dz,Dz⟩,Dz,Dz⟩)
    |exact A6
    |(have we:=U Dz;refine⟨Dz,?_⟩;exact MQ E1 Dz)
    |exact A7)
   all_goals(try(
    have f:i<L.length:=Dz;have I:¬CR K C (L.getD i AA.d).c=sd:=E5;obtain⟨e1,e2⟩:=f91 f I;have e3:=z_stay f I;refine⟨(i+1,λk=>if k=(Dl K C sd (L.take i)).length then(‹SlH›).val else hd k),Eg,H6,?_⟩;rw[e1,e2,e3];all_goals refine X0b _ ?_;(repeat' first|constructor|intro h)<;>refine Lm ?_
    all_goals first
     |exact As
     |(rw[K8];rfl)
     |exact λ_ h=>fp_al h
     |exact λ_ h _=>⟨rfl,fp_ct Dz (λj hj=>by rw[Jj (K5 _)];rfl) h⟩
     |exact λ_ h=>g27 h
     |skip))
   ·-- what moves: its layers,the highest first
    have f:i<L.length:=Dz;have V:CR K C (L.getD i AA.d).c=sd:=E5;have S0:=U f;have my:=o f;clear U o w;have wu:=(X.G.ok 0 ⟨Ms _,Dz⟩).1;have J:=(X.vm Dz (i:=0) ⟨Ms _,Dz⟩).1;rw[X.r0]at wu J;have hrx:=QI J;unfold GE at wu;have z:(0<=(BJ K C).t/\(BJ K C).t<=7)/\(-20000<=(BJ K C).x/\(BJ K C).x<=20000)/\ -20000<=(BJ K C).y/\(BJ K C).y<=20000:=F;refine⟨(0:Nat),⟨⟨f,V⟩,Jw _⟩,?_,?_⟩
    .have M:(KN K C sd (L.take i)||((L.getD i AA.d).l.reverse.take 0).contains 0)=KN K C sd (L.take i):=E2;rw[M];refine X0b _ ?_;(repeat' first|constructor|intro h)<;>refine Lm ?_
     all_goals first
      |exact As
      |exact Af
      |exact Aj
      |skip
    .intro j hj;replace hj:(i<L.length/\CR K C (L.getD i AA.d).c=sd)/\j<=(L.getD i AA.d).l.length:=hj;obtain⟨_,hj1⟩:=hj;have hix:j<(L.getD i AA.d).l.length->(((L.getD i AA.d).l.length:Int)-1-(j:Int)).toNat=(L.getD i AA.d).l.length-1-j:=λh=>Dz;refine X0b _ ?_;(repeat' first|constructor|intro h)<;>refine Lm ?_
     all_goals(try simp only[Ir]at*)
     all_goals(try first
      |exact B4
      |exact A7
      |exact⟨⟨wu,⟨Dz,Dz⟩,Dz,Dz⟩,z.1,z.2⟩
      |exact⟨z.1,⟨⟨Dz,Dz⟩,Dz,Dz⟩,⟨Dz,Dz⟩,⟨Dz,Dz⟩,Dz,Dz⟩)
     all_goals first
      |(have u:j<(L.getD i AA.d).l.length:=by omega
        have Y:=f9y u;rw[hix u]at*;refine⟨j+1,⟨⟨f,V⟩,Dz⟩,Dz,?_⟩;have qx:=f3a (l:=(L.getD i AA.d).l.reverse) (j:=j) (by simpa using u);first
         |(have hz:(L.getD i AA.d).l.getD ((L.getD i AA.d).l.length-1-j) 0=0:=by assumption
           have M:(KN K C sd (L.take i)||((L.getD i AA.d).l.reverse.take (j+1)).contains 0)=true:=by rw[qx,Y,K3 hz];simp
           rw[M];all_goals refine X0b _ ?_;(repeat' first|constructor|intro h)<;>refine Lm ?_
           all_goals first
            |exact As
            |exact λ_ h=>d7j (by simpa using u) Y.symm h
            |exact Aj
            |skip)
         |(have hz:¬(L.getD i AA.d).l.getD ((L.getD i AA.d).l.length-1-j) 0=0:=by assumption
           have M:(KN K C sd (L.take i)||((L.getD i AA.d).l.reverse.take (j+1)).contains 0)=(KN K C sd (L.take i)||((L.getD i AA.d).l.reverse.take j).contains 0):=by rw[qx,Y,K4 hz,N1]
           rw[M];all_goals refine X0b _ ?_;(repeat' first|constructor|intro h)<;>refine Lm ?_
           all_goals first
            |exact As
            |exact λ_ h=>d7j (by simpa using u) Y.symm h
            |exact Aj
            |skip))
      |(have u:j=(L.getD i AA.d).l.length:=by omega
        obtain⟨e1,e2⟩:=g2m f V;have e3:=z_away f V;refine⟨(i+1,hd),Eg,H6,?_⟩;rw[e1,e2,e3,<-u];all_goals refine X0b _ ?_;(repeat' first|constructor|intro h)<;>refine Lm ?_
        all_goals first
         |exact As
         |(rw[K8];rfl)
         |exact Aj
         |(intro q n;refine d8b E1 (by rw[O0];exact u) (λk Z=> ?_) n;rw[Lq (by rw[O0];omega)])
         |skip)
      |skip
   ·-- what moved is laid over or under what stayed
    have br:i=L.length:=Dz;subst br;simp only[Kw]at j5 hal⊢;clear U o w;have nS:=g4a (K:=K) (C:=C) (sd:=sd) X.cells;have nA:=g25 (K:=K) (C:=C) (sd:=sd) X.cells (λs h=>X.cQ h);have U4:∀s∈Dl K C sd L,s.l.length<=1024:=λs hs=>by have:=X.lay_len (Ki.1 hs).1;omega
    have B:∀s∈CY K C sd L,s.l.length<=1024:=λs hs=>by obtain⟨t,ht,rfl⟩:=Jx.1 hs;have:=X.lay_len (Ki.1 ht).1;show t.l.reverse.length<=_;rw[O0];omega
    generalize hS:Dl K C sd L=S at*;generalize hA:CY K C sd L=A at*;refine⟨((0:Nat),hd),Jw _,?_,?_⟩
    .refine X0b _ ?_;(repeat' first|constructor|intro h)<;>refine Lm ?_
     all_goals first
      |exact As
      |exact Aj
      |exact λ_ h=>fdB_0 h
      |skip
    .rintro⟨i,hd⟩ m;replace m:i<=A.length:=m;refine X0b _ ?_;(repeat' first|constructor|intro h)<;>refine Lm ?_
     all_goals(try simp only[Ir]at*)
     all_goals(try first
      |exact B4
      |(intro q _ _ ha;unfold HX;rw[if_pos ha];rfl)
      |(simp only[CE];exact⟨⟨⟨⟨FT _,bm⟩,bv⟩,Q⟩,T⟩)
      |(simp only[CE,RT.lst_row];exact⟨⟨⟨⟨⟨FT _,bm⟩,bv⟩,Q⟩,MS L R.1,R.2⟩,T⟩)
      |(simp only[CE,RT.lst_row];exact⟨⟨⟨⟨FT _,bm⟩,bv,Q⟩,MS L R.1,R.2⟩,T⟩)
      |(have N:i=A.length:=by omega
        subst N;simp only[Kw];exact⟨sel_is,by have:=(@WH over A S).2;omega,λs hs=>by rw[d3t]at hs;have:=f8d nS nA U4 B s hs;omega⟩))
     .have f:i<A.length:=Dz;have hMl:=@WH over (A.take i) S;have htl:(A.take i).length=i:=Fb;refine⟨((0:Nat),false),⟨f,Jw _,λ_ j hj=>absurd hj (K5 _)⟩,?_,?_⟩
      .exact X3d
      .rintro⟨k,fd⟩ ⟨_,jb,E⟩;have hMb:(AX over S (A.take i)).length<=2048:=Dz;have hMb':(AX over S (A.take (i+1))).length<=4096:=by have:=(@WH over (A.take (i+1)) S).2;rw[Mr]at this;omega
       cases fd with
       |true=>
        clear E;replace jb:k<=(AX over S (A.take (i+1))).length:=jb;all_goals refine X0b _ ?_;(repeat' first|constructor|intro h)<;>refine Lm ?_
        all_goals(try(have hh:=‹(decide _&& !_)=true›;simp at hh;done))
        all_goals(try first
         |exact Ap)
        refine⟨(i+1,hd),Eg,by show A.length-(i+1)<A.length-i;omega,?_⟩;all_goals exact X3d
       |false=>
        replace E:=E rfl;replace jb:k<=(AX over S (A.take i)).length:=jb;all_goals refine X0b _ ?_;(repeat' first|constructor|intro h)<;>refine Lm ?_
        all_goals(try simp only[Ir,cl_dec,J5,Bool.not_false,Me,Is]at*)
        all_goals(try first
         |exact B4
         |(show k<(AX over S (A.take i)).length;omega)
         |(show k=k;rfl)
         |(have ku:=B _ (DP (d:=AA.d) f);refine⟨Jm,.inl trivial,Dz,?_⟩;exact MQ E1 Dz)
         |(have n:=U4 _ (DP (d:=AA.d) (d4u (over:=over) (S:=S) (k:=k) nA f Dz E5).1);have ku:=B _ (DP (d:=AA.d) f);first
            |exact A7
            |(refine⟨Dz,Dz,Dz,?_⟩;exact MQ E1 Dz))
         |exact A7
         |(obtain⟨O,m2,m3,P⟩:=d4u (over:=over) (S:=S) (k:=k) nA f Dz E5
           exact⟨Dz,O,P,by unfold HX;rw[if_pos P];rfl⟩))
        all_goals first
         |(have b9:((AX over S (A.take i)).getD k AA.d).c≠(A.getD i AA.d).c:=by assumption
           refine⟨(k+1,false),⟨f,by show k+1<=(AX over S (A.take i)).length;omega,λ_ j hj=> ?_⟩,by show (AX over S (A.take i)).length-(k+1)+1<_;omega,?_⟩
           .by_cases e:j=k
            .rw[e];exact b9
            .exact E j Dz
           .refine X0b _ ?_;(repeat' first|constructor|intro h)<;>refine Lm ?_
            all_goals first
             |exact As
             |exact Aj
             |skip)
         |(have j7:((AX over S (A.take i)).getD k AA.d).c=(A.getD i AA.d).c:=by assumption
           have nf:k<(AX over S (A.take i)).length:=Dz;obtain⟨O,m2,m3,P⟩:=d4u nA f nf j7;have v:AX over S (A.take (i+1))=(AX over S (A.take i)).set k ⟨((AX over S (A.take i)).getD k AA.d).c,NJ over ((AX over S (A.take i)).getD k AA.d).l (A.getD i AA.d).l⟩:=(b5a f).trans (b4p _ k nf E j7);have lM:(AX over S (A.take (i+1))).length=(AX over S (A.take i)).length:=by rw[v,Li]
           refine⟨(k+1,true),⟨f,by show k+1<=(AX over S (A.take (i+1))).length;omega,λh=>E9⟩,by show 0<_;omega,?_⟩;all_goals refine X0b _ ?_;(repeat' first|constructor|intro h)<;>refine Lm ?_
           all_goals first
            |exact As
            |exact B3
            |exact lM.symm
            |exact λ_ _=>(f7d nS f O m2).symm
            |exact λ_ _ _=>⟨rfl,rfl,λ_ _=>rfl⟩
            |(have R2:over=true:=by assumption
              have hl:NJ over ((AX over S (A.take i)).getD k AA.d).l (A.getD i AA.d).l=(S.getD k AA.d).l++(A.getD i AA.d).l:=by rw[m3,R2];rfl
              rw[hl]at v;exact λ_ n=>d4w nS f O m2 P v rfl (K8).symm (λ_ _=>d3x) n)
            |(have R2:over=false:=by assumption
              have hl:NJ over ((AX over S (A.take i)).getD k AA.d).l (A.getD i AA.d).l=(A.getD i AA.d).l++(S.getD k AA.d).l:=by rw[m3,R2];rfl
              rw[hl]at v;exact λ_ n=>d4w nS f O m2 P v E1 (by rw[K8];omega) (λ_ _=>f4f) n)
            |skip)
         |(have fx:∀j,j<(AX over S (A.take i)).length->((AX over S (A.take i)).getD j AA.d).c≠(A.getD i AA.d).c:=λj hj=>E j Dz
           have v:AX over S (A.take (i+1))=AX over S (A.take i)++[A.getD i AA.d]:=(b5a f).trans (b18 _ fx);refine⟨(i+1,hd),Eg,by show A.length-(i+1)<A.length-i;omega,?_⟩;all_goals refine X0b _ ?_;(repeat' first|constructor|intro h)<;>refine Lm ?_
           all_goals first
            |exact As
            |exact B3
            |(rw[v,K8];rfl)
            |exact λ_ _=>(d35 f fx).symm
            |exact λ_ _ _=>⟨rfl,rfl,λ_ _=>rfl⟩
            |exact λ_ n=>g2a f fx v n
            |skip)
         |skip
     .have N:i=A.length:=Dz;subst N;have eS:KD over K C sd L=QL (AX over S A):=by unfold KD;rw[hS,hA]
      simp only[Kw,d3t]at*;refine⟨(0:Nat),Jw _,?_,?_⟩
      .rw[eS];refine X0b _ ?_;(repeat' first|constructor|intro h)<;>refine Lm ?_
       all_goals(try simp only[CE,List.take_zero,List.filter_nil,List.map_nil,List.append_nil])
       all_goals first
        |exact As
        |skip
      .intro i m;replace m:i<=(BL p r).length:=m;have gu:(BL p r).length<=3*AF p.W p.H:=ps_len _ _ _;have hpa:i<(BL p r).length->AW p ((BL p r).getD i EL.d).a/\AW p ((BL p r).getD i EL.d).b:=λh=>ps_in X rfl (DP (d:=EL.d) h);have dw:(p.l++List.map (Ws p (AL p r) over) (List.filter (PD K C) (List.take i (BL p r)))).length<=103072:=by
        rw[K8,Kh];have:=N3 (PD K C) (List.take i (BL p r));rw[Mr]at this;omega
       have hS2:=UO Q.1 T;have Zn:=hS2.pl;refine X0b _ ?_;(repeat' first|constructor|intro h)<;>refine Lm ?_
       all_goals(try simp only[Ir,Me,Is,Ix,RT.lst_row]at*)
       all_goals(try first
        |exact B4
        |(have n:=hpa Dz;unfold AW at n;first|omega|exact⟨hs,n.1,n.2⟩)
        |exact A7
        |exact⟨RT.isL_row DB _,Dz⟩
        |(rw[rt_fd X];done)
        |exact A5)
       all_goals first
        |(have f:i<(BL p r).length:=by omega
          have F:=f2b f E5;refine⟨i+1,Eg,Ed,?_⟩;rw[F];all_goals refine X0b _ ?_;(repeat' first|constructor|intro h)<;>refine Lm ?_
          all_goals first
           |exact As
           |exact B3
           |skip)
        |(have f:i<(BL p r).length:=by omega
          have F:=f95 f E5;refine⟨i+1,Eg,Ed,?_⟩;rw[F,Lv,<-Mx];all_goals refine X0b _ ?_;(repeat' first|constructor|intro h)<;>refine Lm ?_
          all_goals first
           |exact As
           |exact B3
           |exact(@K8 _ (p.l++List.map _ _) (List.map _ [_])).symm
           |(intro j hj
             refine f71 ?_ hj;have o:=‹(decide _ !=over)=true›;have Z:FdG.nkG (AL p r) over ((BL p r).getD i EL.d).a=1:=Jj (bne_iff_ne.1 o);show [SV.int .i64 _,SV.int .u8 _,SV.int .u8 1]=[SV.int .i64 _,SV.int .u8 _,SV.int .u8 (FdG.nkG (AL p r) over ((BL p r).getD i EL.d).a)];rw[Z];rfl)
           |(intro j hj
             refine f71 ?_ hj;have o:=‹(decide _ !=over)=false›;have Z:FdG.nkG (AL p r) over ((BL p r).getD i EL.d).a=2:=Ji (bne_eq_false_iff_eq.1 o);show [SV.int .i64 _,SV.int .u8 _,SV.int .u8 2]=[SV.int .i64 _,SV.int .u8 _,SV.int .u8 (FdG.nkG (AL p r) over ((BL p r).getD i EL.d).a)];rw[Z];rfl)
           |skip)
        |(have N:i=(BL p r).length:=by omega
          subst N;simp only[Kw];first
           |(show _=(OV _).length;rw[c8s];rfl)
           |exact A5
           |skip)
        |skip
def FH:RT (Int×Int×Int):=⟨3,λx=>[.int .u8 x.1,.int .u8 x.2.1,.int .u8 x.2.2],λl=>match l with
 | [.int _ a,.int _ b,.int _ c]=>(a,b,c)
 |_=>(0,0,0),(0,0,0),λ_=>rfl⟩
def KA(w h:Int)(l:List (Int×Int×Int)):List SV:=[.int .u8 w,.int .u8 h,.sl 3 l.length (FH.row l) none]
def QX(n:Int):Prop:=0<=n/\n<=255
def Ob(w h:Int)(l:List (Int×Int×Int)):Prop:=QX w/\QX h/\∀f∈l,QX f.1/\QX f.2.1/\QX f.2.2
def asS:SV->Option (Prop×Int×Int×List (Int×Int×Int))
 |.agg [.int .u8 w,.int .u8 h,x]=>(FH.as x).map λq=>(FH.isL q.1 q.2/\Ob w h (FH.lst q.1 q.2),w,h,FH.lst q.1 q.2)
 |_=>none
theorem asS_le{s:SV}{q:Prop}{w h:Int}{l:List (Int×Int×Int)}(k:asS s=some (q,w,h,l))(a:q):s.le2 (.agg (KA w h l))/\Ob w h l:=by
 unfold asS at k;split at k
 .rename_i w' h' x;simp only[It]at k;obtain⟨v,b,rfl,rfl,rfl,rfl⟩:=k;refine⟨?_,a.2⟩;have:=FH.as_leL b a.1;simp only[SV.le2,SV.le1,BH,KA];exact⟨E7,E7,this,Jm⟩
 .cases k
def stV(s:JQ):SV:=.agg (Co s.1 s.2.1 s.2.2)
def Ym:AH
 | [x]=>(asS x).map λq=>(q.1,stV (Pn q.2.1 q.2.2.1 q.2.2.2))
 |_=>none
def FSOf:Fam:=⟨Int×Int×List (Int×Int×Int),λ(w,h,l)=>[.agg (KA w h l)],λ(w,h,l)=>Ob w h l,λ(w,h,l)=>stV (Pn w h l)⟩
def ISOf:Int×Int×List (Int×Int×Int)->Nat->Option Inv
 |(w,h,l),3=>some {β:=Nat×JQ,ok:=λ(i,s)=>(i<=l.length/\i<=5)/\SOK s i/\((l.take 5).drop i).foldl NZ s=Pn w h l,st:=λ(i,s)=>⟨[⟨4,none,.int .i64 i⟩,⟨3,none,.own 2 0⟩,⟨2,none,.own 1 0⟩,⟨1,none,.own 0 0⟩],[.cells 24 (KA w h l),.cells 39 [.int .i64 0,.int .i64 0,.con (.slice none 0 0),.int .u8 0,.int .i64 0,.int .i64 0,.con (.slice none 0 0)],.cells 39 (Co s.1 s.2.1 s.2.2)]⟩,μ:=λ(i,_)=>l.length-i}
 |_,_=>none
theorem pSOf:PS 5 Ym:=by
 refine con [(13,f5a),(11,d5b),(14,f2m)] (by simpa using⟨pFl28,pLn28,pFd28⟩) FSOf ISOf Ym ?_ ?_ Tryz.func5 E1 E1 E1 ?_
 .intro args pre s h G;unfold Ym at h;split at h
  .rename_i x;simp only[It]at h;obtain⟨⟨q,w,H,l⟩,hx,rfl,rfl⟩:=h;obtain⟨k,y⟩:=asS_le hx G;exact⟨(w,H,l),⟨k,Jm⟩,y,rfl⟩
  .cases h
 .exact C0
 .rintro⟨w,v,l⟩ ⟨⟨I,w2⟩,⟨J,v2⟩,K⟩;have hx:=sx_ok w v;have M:AV (1+w%4) (1+v%4)=0:=hx.g.hs;have N:=Kq (b:=4) I;have O:=Kq (b:=4) J;refine X0a _ ?_;(repeat' first|constructor|intro h)<;>refine Lm ?_
  all_goals(try simp only[N,O]at*)
  all_goals(try first
   |exact M
   |exact Ap)
  refine⟨((0:Nat),sxSt w v),⟨⟨Jw _,Jw _⟩,hx,rfl⟩,?_,?_⟩
  .exact X2d
  .rintro⟨i,⟨p,r,L⟩⟩ k;replace k:(i<=l.length/\i<=5)/\SOK (p,r,L) i/\((l.take 5).drop i).foldl NZ (p,r,L)=Pn w v l:=k;obtain⟨⟨i1,z⟩,X,A⟩:=k;have j:=X.g;have wq:=d0x (i:=i) z;have n:=JK (X.prOK z) j.stIn;have B:=(j.places Dz).1;dsimp only at j n B;have P:∀a b c:Int,[a,b,c].getD (Int.toNat 0) 0=a:=λ_ _ _=>rfl;have Q:∀a b c:Int,[a,b,c].getD (Int.toNat 1) 0=b:=λ_ _ _=>rfl;have R:∀a b c:Int,[a,b,c].getD (Int.toNat 2) 0=c:=λ_ _ _=>rfl;have C:i<l.length->QX (l.getD i FH.d).1/\QX (l.getD i FH.d).2.1/\QX (l.getD i FH.d).2.2:=λh=>K _ (DP h);have o:(¬(i<l.length/\i<5))\/FB (BL p r)=[]->(p,r,L)=Pn w v l:=λh=>by
    rw[<-A];rcases h with h|h
    .rw[List.drop_eq_nil_of_le Fb];rfl
    .exact(d9u _ _ (show NA (p,r,L)=[]from h)).symm
   have nxt:i<l.length->i<5->((l.take 5).drop (i+1)).foldl NZ (NZ (p,r,L) (l.getD i FH.d))=Pn w v l:=λk y=>by rw[<-A,List.drop_eq_getElem_cons (i:=i) Fb];rw[Mk,List.getElem_take,Jg,Jh k];rfl
   refine X0b _ ?_;(repeat' first|constructor|intro h)<;>refine Lm ?_
   all_goals(try simp only[CE,RT.lst_row,IV,IM,P,Q,R,Ir,Ix]at*)
   all_goals(try first
    |exact⟨n,B⟩
    |exact B4
    |(have q:=C Dz;unfold QX at q;simp only[AD];omega))
   all_goals(try(
    have e:=o (by first|exact .inl Dz|exact .inr (M1.1 Dz));rw[<-e];all_goals first|exact Ba))
   all_goals
    have t:i<l.length:=Dz;have u:i<5:=Dz;have E:NA (p,r,L)≠[]:=λe=>by have e2:(FB (BL p r)).length=0:=Mj List.length e;omega
    obtain⟨⟨F1,_⟩,⟨S,_⟩,⟨T,_⟩⟩:=C t;have U:=Kq (b:=((FB (BL p r)).length:Int)) F1;have V:=Kq (b:=2) S;have W:=Kq (b:=2) T;have Y:=N6 (l.getD i FH.d).1 (b:=((FB (BL p r)).length:Int)) Dz;have Z:=N2 (l.getD i FH.d).1 (b:=((FB (BL p r)).length:Int)) Dz;have mv:=(d5r X).1 (d3r (s:=(p,r,L)) (a:=(l.getD i FH.d).1) E);obtain⟨hK,F⟩:=on_bd j mv;have fo:NZ (p,r,L) (l.getD i FH.d)=Xs (p,r,L) (foLn (p,r,L) (l.getD i FH.d).1).1 (foLn (p,r,L) (l.getD i FH.d).1).2 ((l.getD i FH.d).2.1%2) (decide ((l.getD i FH.d).2.2%2=1)):=by unfold NZ;rw[Jj E]
    have hX:=X.next (f:=l.getD i FH.d) Dz;have Z6:=nxt t u;simp only[U,V,W]
   all_goals first
    |exact⟨Y,Z⟩
    |exact⟨n,j.mono Dz,hK,⟨Int.le_trans Dz F.1,Int.le_trans F.2 Dz⟩,md2 _⟩
    |(refine⟨(i+1,NZ (p,r,L) (l.getD i FH.d)),⟨⟨t,by show i+1<=5;omega⟩,hX,Z6⟩,by show l.length-(i+1)<l.length-i;omega,?_⟩
      rw[fo];all_goals refine X0b _ ?_;(repeat' first|constructor|intro h)<;>refine Lm ?_
      all_goals first
       |exact Ba
       |skip)
    |skip
end Go.Proofs.YtlffhjfkaepimaaGreatDoor.V
