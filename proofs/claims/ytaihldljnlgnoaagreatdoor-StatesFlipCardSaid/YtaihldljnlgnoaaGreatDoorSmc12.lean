/-
  Parts of the proof: Y17. Conditions: none.
-/
import Derived.Test.YtaihldljnlgnoaaGreatDoorSmc11
set_option maxRecDepth 100000
set_option maxHeartbeats 40000000
namespace Go.Proofs.YtaihldljnlgnoaaGreatDoor.V
open Go
def fdOK(p:Pt)(r:Mv)(L:List Stk)(K C sd:Int):Prop:=StG p r L (AM p r) 4000/\(1<=K/\K<=4)/\(-10000<=C/\C<=10000)/\(sd=0\/sd=1)
def rFd28(p:Pt)(r:Mv)(L:List Stk)(K C sd:Int)(over:Bool):SV:=.agg (BD (FR p (AM p r) K C over) (FH p (AM p r) K C sd 0) (JV over K C sd L))
def f8f:AK
 | [x,.agg [.int .u8 K,.int .i64 C,.int .u8 a,.bool over]]=>(Fo x).map λq=>(q.1/\fdOK q.2.1 q.2.2.1 q.2.2.2 K C a,rFd28 q.2.1 q.2.2.1 q.2.2.2 K C a over)
 |_=>none
abbrev FdI:=(Pt×Mv×List Stk)×(Int×Int×Int)×Bool
def WT(p:Pt)(r:Mv):SV:=.agg [.int .i64 p.W,.int .i64 p.H,.osl 0,.int .u8 r.t,.int .i64 r.x,.int .i64 r.y,.osl 1]
def Ur(p:Pt)(L:List Stk):List Blk:=[.row 51 3 p.l.length (DR.row p.l) none,.row CI 4 L.length (AA.row L) none]
def WU:HK:=λa own=>match a,own with
 | [x,.agg [.int .u8 K,.int .i64 C,.int .u8 b,.bool over]],[]=>(Fo x).map λq=>⟨q.1/\fdOK q.2.1 q.2.2.1 q.2.2.2 K C b,WT (FR q.2.1 (AM q.2.1 q.2.2.1) K C over) (FH q.2.1 (AM q.2.1 q.2.2.1) K C b 0),Ur (FR q.2.1 (AM q.2.1 q.2.2.1) K C over) (JV over K C b q.2.2.2),[]⟩
 |_,_=>none
def FFd28:FamH:=⟨FdI,λ((p,r,L),(K,C,a),over)=>[.agg (BD p r L),.agg [.int .u8 K,.int .i64 C,.int .u8 a,.bool over]],λ_=>[],λ((p,r,L),(K,C,a),_)=>(prOK p r/\EV L)/\fdOK p r L K C a,λ((p,r,_),(K,C,a),over)=>WT (FR p (AM p r) K C over) (FH p (AM p r) K C a 0),λ((p,r,L),(K,C,a),over)=>Ur (FR p (AM p r) K C over) (JV over K C a L),[]⟩
def fdEn(a:List Entry):List Entry:=a++[⟨24,none,.fp true 6 0 0⟩,⟨6,none,.own 5 0⟩,⟨5,none,.own 3 0⟩,⟨4,none,.own 2 0⟩,⟨3,none,.own 1 0⟩,⟨2,none,.own 0 0⟩]
def YT(p:Pt)(r:Mv)(L:List Stk)(K C sd:Int)(over:Bool)(z:Bool)(stacks:SV)(b:List Cr)(a:List Blk):List Blk:=[.cells 34 (BD p r L),.cells 89 [.int .u8 K,.int .i64 C,.int .u8 sd,.bool over],.cells 34 [.int .i64 0,.int .i64 0,.con (.slice none 0 0),.int .u8 0,.int .i64 0,.int .i64 0,.con (.slice none 0 0)],.cells 31 (AE.sv (Al K C)),.row 51 3 b.length (DR.row b) none,.cells 34 [.int .i64 p.W,.int .i64 p.H,.osl 4,.int .u8 (Wv z r (Al K C)).t,.int .i64 (Wv z r (Al K C)).x,.int .i64 (Wv z r (Al K C)).y,stacks]]++a
def c88(S A:List Stk)(hd:Nat->Value):Blk:=.pool 3 1 S.length hd (GK S A) (λq=>(S.getD q AA.d).l.length) (λq=>AC.row (S.getD q AA.d).l)
abbrev nilS:SV:=.con (.slice none 0 0)
def IFd28:FdI->Nat->Option Inv
 |((p,r,L),(K,C,a),over),5=>some {β:=Nat×(Nat->Value),ok:=λ(i,_)=>i<=L.length,st:=λ(i,hd)=>⟨fdEn [⟨9,none,.int .i64 i⟩,⟨8,none,.osl 8⟩,⟨7,none,.osl 7⟩],YT p r L K C a over (JO K C a (L.take i)) nilS p.l [c88 (Dl K C a (L.take i)) [] hd,.row CI 4 (DH K C a (L.take i)).length (AA.row (DH K C a (L.take i))) none,.row CI 4 (Dl K C a (L.take i)).length (SF hd (Dl K C a (L.take i))) none]⟩,μ:=λ(i,_)=>L.length-i,nl:=[.slot 7 CI 4,.slot 8 CI 4],sub:=λ(i,hd)=>some fun
  |12=>some {β:=Nat,ok:=λj=>(i<L.length/\DF K C (L.getD i AA.d).c=a)/\j<=(L.getD i AA.d).l.length,st:=λj=>⟨fdEn [⟨12,none,.int .i64 (((L.getD i AA.d).l.length:Int)-1-j)⟩,⟨11,none,.osl 10⟩,⟨10,none,.own 9 0⟩,⟨9,none,.int .i64 i⟩,⟨8,none,.osl 8⟩,⟨7,none,.osl 7⟩],YT p r L K C a over (JO K C a (L.take i)||((L.getD i AA.d).l.reverse.take j).contains 0) nilS p.l [c88 (Dl K C a (L.take i)) [] hd,.row CI 4 (DH K C a (L.take i)).length (AA.row (DH K C a (L.take i))) none,.row CI 4 (Dl K C a (L.take i)).length (SF hd (Dl K C a (L.take i))) none,.cells CI (AA.sv (L.getD i AA.d)),.row 3 1 j (AC.row ((L.getD i AA.d).l.reverse.take j)) none]⟩,μ:=λj=>(L.getD i AA.d).l.length-j,nl:=[.slot 11 3 1]}
  |_=>none}
 |((p,r,L),(K,C,a),over),19=>some {β:=Nat×(Nat->Value),ok:=λ(i,_)=>i<=(DH K C a L).length,st:=λ(i,hd)=>⟨fdEn [⟨13,none,.int .i64 i⟩,⟨8,none,.osl 8⟩,⟨7,none,.sl 4 (DH K C a L).length (AA.row (DH K C a L)) none⟩],YT p r L K C a over (JO K C a L) nilS p.l [c88 (Dl K C a L) ((DH K C a L).take i) hd,.dead,.row CI 4 (AY over (Dl K C a L) ((DH K C a L).take i)).length (HD hd (Dl K C a L) ((DH K C a L).take i) (AY over (Dl K C a L) ((DH K C a L).take i))) none]⟩,μ:=λ(i,_)=>(DH K C a L).length-i,sub:=λ(i,hd)=>some fun
  |23=>some {β:=Nat×Bool,ok:=λ(k,b)=>i<(DH K C a L).length/\k<=(AY over (Dl K C a L) ((DH K C a L).take (if b=true then i+1 else i))).length/\(b=false->∀j,j<k->((AY over (Dl K C a L) ((DH K C a L).take i)).getD j AA.d).c≠((DH K C a L).getD i AA.d).c),st:=λ(k,b)=>⟨fdEn [⟨15,none,.int .i64 k⟩,⟨14,none,.bool b⟩,⟨13,none,.int .i64 i⟩,⟨8,none,.osl 8⟩,⟨7,none,.sl 4 (DH K C a L).length (AA.row (DH K C a L)) none⟩],YT p r L K C a over (JO K C a L) nilS p.l [c88 (Dl K C a L) ((DH K C a L).take (if b=true then i+1 else i)) hd,.dead,.row CI 4 (AY over (Dl K C a L) ((DH K C a L).take (if b=true then i+1 else i))).length (HD hd (Dl K C a L) ((DH K C a L).take (if b=true then i+1 else i)) (AY over (Dl K C a L) ((DH K C a L).take (if b=true then i+1 else i)))) none]⟩,μ:=λ(k,b)=>if b=true then 0 else(AY over (Dl K C a L) ((DH K C a L).take i)).length-k+1}
  |_=>none}
 |((p,r,L),(K,C,a),over),36=>some {β:=Nat,ok:=λi=>i<=(BF p r).length,st:=λi=>⟨[⟨19,none,.int .i64 i⟩,⟨18,none,.sl 4 (BF p r).length (EA.row (BF p r)) none⟩,⟨16,none,.sl 3 (BR p r).length (AE.row (BR p r)) none⟩,⟨6,none,.own 5 0⟩,⟨4,none,.own 2 0⟩,⟨3,none,.own 1 0⟩,⟨2,none,.own 0 0⟩],YT p r L K C a over (JO K C a L) (.osl 9) (p.l++(((BF p r).take i).filter (Og K C)).map (Vd p (AM p r) over)) [.dead,.dead,.dead,.row CI 4 (JV over K C a L).length (AA.row (JV over K C a L)) none]⟩,μ:=λi=>(BF p r).length-i}
 |_,_=>none
theorem f9a{hd:Nat->Value}{v:Value}{S:List Stk}{x y q:Int}{l:List Int}{j:Nat}(hj:j<S.length+1):GU (if j<S.length then SF hd S j else(List.map (λx:Nat×List SV=>x.snd) [(0,[SV.int .i64 x,SV.int .i64 y,SV.int .u8 q,SV.con v])].reverse).getD (j-S.length) []) (SF (λk=>if k=S.length then v else hd k) (S++[⟨⟨x,y,q⟩,l⟩]) j):=by
 left;by_cases e:j<S.length
 .have a:(S++[(⟨⟨x,y,q⟩,l⟩:Stk)]).getD j AA.d=S.getD j AA.d:=by
   rw[Jd,Jd,Jr e]
  simp only[SF,a,Jf e,Jg (show¬j=S.length from E4)]
 .have:j=S.length:=E4;subst this;have a:(S++[(⟨⟨x,y,q⟩,l⟩:Stk)]).getD S.length AA.d=⟨⟨x,y,q⟩,l⟩:=by
   rw[Jd,Jw (Jm _),L8];rfl
  rw[Jg e,L8];simp only[SF,a,Kt];rfl
theorem d9p{S:List Stk}{x:Stk}{q:Nat}:(S++[x]).getD q AA.d=if q<S.length then S.getD q AA.d else if q=S.length then x else AA.d:=by
 by_cases e:q<S.length
 .rw[Jf e,Jd,Jd,Jr e]
 .rw[Jg e];by_cases a:q=S.length
  .subst a;rw[Jf rfl,Jd,Jw (Jm _),L8];rfl
  .rw[Jg a,Jd,Jw E4,Lr (by rw[M2];omega)];rfl
theorem fp_al{S:List Stk}{x:Stk}{q:Nat}(h:q<S.length+1):(decide (q=S.length)||GK S [] q)=GK (S++[x]) [] q:=by rw[d47,d47,Kj,M2,K2 h,Kk,Jq,Jq];omega
theorem fp_ct{S:List Stk}{x:Stk}{a:Nat}{f:Nat->List SV}(b:a=x.l.length)(c:∀j,j<a->f j=AC.row x.l j){q:Nat}(h:q<S.length+1):(if q=S.length then a else(S.getD q AA.d).l.length)=((S++[x]).getD q AA.d).l.length/\∀j,j<(if q=S.length then a else(S.getD q AA.d).l.length)->(if q=S.length then f else AC.row (S.getD q AA.d).l) j=AC.row ((S++[x]).getD q AA.d).l j:=by
 rw[d9p];by_cases e:q=S.length
 .rw[Jf e,Jg E4,Jf e,Jf e];exact⟨b,c⟩
 .rw[Jg e,Jf E4,Jg e];exact⟨rfl,λ_ _=>rfl⟩
theorem d4u{l:List Int}{j:Nat}{v:Int}(a:j<l.length)(b:v=l.getD j 0){q:Nat}(hq:q<j+1):GU (if q<j then AC.row (l.take j) q else(List.map (λx:Nat×List SV=>x.snd) [(0,[SV.int .i64 v])].reverse).getD (q-j) []) (AC.row (l.take (j+1)) q):=by
 left;have c:(l.take j).length=j:=F7;rw[IZ (d:=0) a];unfold RT.row;by_cases e:q<j
 .rw[Jf e,Jd,Jd,Jr E4]
 .have:q=j:=E4;subst this;rw[Jg e,L8,Jd (l:=l.take q++_),Jw E4,c,L8,b];rfl
theorem g1c{L:List Stk}{K C sd:Int}(h:CK L):CK (Dl K C sd L):=by unfold CK Dl;exact Nw (List.filter_sublist.map _) h
theorem f98{L:List Stk}{K C sd:Int}(h:CK L)(hq:∀s∈L,BH s.c):CK (DH K C sd L):=by unfold CK DH;rw[Lh];have d:((L.filter λs=>decide (DF K C s.c=sd)).map (·.c)).Nodup:=Nw (List.filter_sublist.map _) h;rw[List.Nodup,Kw]at d⊢;refine List.Pairwise.imp_of_mem (λ{a b} ha hb tp e=> ?_) d;exact Dw
theorem fdB_0{hd:Nat->Value}{S:List Stk}{q:Nat}(h:q<S.length):GU (SF hd S q) (HD hd S [] S q):=by left;unfold SF HD;rw[d47,Jf (K2 h)]
theorem d1m{a b:List Int}{j:Nat}:(if j<a.length then AC.row a j else AC.row b (j-a.length))=AC.row (a++b) j:=by
 unfold RT.row;by_cases e:j<a.length
 .rw[Jf e,Jd,Jd,Jr e]
 .rw[Jg e,Jd,Jd (l:=a++b),Jw E4]
theorem f1f{a b:List Int}{j:Nat}:(if j<0+a.length then if j<0 then []else AC.row a (j-0)else AC.row b (j-(0+a.length)))=AC.row (a++b) j:=by rw[<-d1m,Lg,Jg (K3 _)];rfl
section
variable{over:Bool}{S A:List Stk}{hd:Nat->Value}{i k:Nat}
theorem d2p{n sz:Nat}{f:Nat->List SV}{c:Option Nat}{l:List Int}(o:CK S)(r:i<A.length)(s:k<S.length)(t:(S.getD k AA.d).c=(A.getD i AA.d).c)(u:GK S (A.take i) k=true)(v:AY over S (A.take (i+1))=(AY over S (A.take i)).set k ⟨((AY over S (A.take i)).getD k AA.d).c,l⟩)(w:sz=1)(z:n=l.length)(B:∀j,j<n->f j=AC.row l j){q:Nat}(C:q<(AY over S (A.take i)).length):GU (DW (decide (q=k)) [.int .i64 ((AY over S (A.take i)).getD k AA.d).c.x,.int .i64 ((AY over S (A.take i)).getD k AA.d).c.y,.int .u8 ((AY over S (A.take i)).getD k AA.d).c.q,.sl sz n f c] (HD hd S (A.take i) (AY over S (A.take i)) q)) (HD hd S (A.take (i+1)) (AY over S (A.take (i+1))) q):=by
 subst w;have a:=f4m o r s t (q:=q);rw[v];generalize AY over S (A.take i)=M at*;by_cases e:q=k
 .subst e;right;have b:(M.set q ⟨(M.getD q AA.d).c,l⟩).getD q AA.d=⟨(M.getD q AA.d).c,l⟩:=by
   rw[Jd,Kr C];rfl
  rw[K2 rfl]at a⊢;have m:¬GK S (A.take (i+1)) q=true:=by rw[a];simp
  unfold HD;rw[Jf u,Jg m,b];exact⟨rfl,rfl,rfl,⟨z,F5,Gx,B⟩,Ji⟩
 .left;rw[K5 e]at a⊢;have m:GK S (A.take (i+1)) q=GK S (A.take i) q:=by rw[a];simp
  have b:(M.set k ⟨(M.getD k AA.d).c,l⟩).getD q AA.d=M.getD q AA.d:=by simp only[Jd];rw[Ju (λh=>e h.symm)]
  unfold HD;rw[m,b];by_cases g:GK S (A.take i) q=true
  .rw[Jf g];rfl
  .rw[Jg g];rfl
theorem f9e(a:i<A.length)(b:∀j,j<(AY over S (A.take i)).length->((AY over S (A.take i)).getD j AA.d).c≠(A.getD i AA.d).c)(f:AY over S (A.take (i+1))=AY over S (A.take i)++[A.getD i AA.d]){q:Nat}(hq:q<(AY over S (A.take i)).length+1):GU (if q<(AY over S (A.take i)).length then HD hd S (A.take i) (AY over S (A.take i)) q else(List.map (λx:Nat×List SV=>x.snd) [(0,[SV.int .i64 (A.getD i AA.d).c.x,SV.int .i64 (A.getD i AA.d).c.y,SV.int .u8 (A.getD i AA.d).c.q,SV.sl 1 (A.getD i AA.d).l.length (AC.row (A.getD i AA.d).l) none])].reverse).getD (q-(AY over S (A.take i)).length) []) (HD hd S (A.take (i+1)) (AY over S (A.take (i+1))) q):=by
 left;have k:=d0u a b (q:=q);have hl:=(@Uw over (A.take i) S).1;rw[f];unfold HD;rw[k];by_cases e:q<(AY over S (A.take i)).length
 .rw[Jf e,Jd (l:=_++_),Jr e,<-Jd]
 .have m:q=(AY over S (A.take i)).length:=E4;have g:¬GK S (A.take i) q=true:=λh=>by
   have:=(Se.1 h).1;omega
  rw[Jg e,Jg g,m,L8,Jd (l:=_++_),Jw (Jm _),L8];rfl
end
theorem zmv_eq{p:Pt}{r:Mv}{L:List Stk}{P:Int->Mv}{B K C sd:Int}(X:StG p r L P B):JO K C sd L=decide (DF K C (AQ p P 0)=sd):=by
 have hN:=CQ X.hs;have c:AR p 0:=⟨M3 _,E4⟩
 rw[Ly,Jq];unfold JO;rw[Jz];constructor
 .rintro⟨s,hs,h⟩;rw[K9,Jq,List.contains_iff_mem]at h;rw[(X.inSt hs h.2).2];exact h.1
 .intro h;have a:=(X.S.mem (AQ p P 0) 0).2 ⟨c,rfl⟩;rcases RI L (AQ p P 0)with⟨s,hs,e⟩|e
  .have b:=X.at_ hs;rw[e]at b;refine⟨s,hs,?_⟩;rw[K9,Jq,List.contains_iff_mem,<-b,e];exact⟨h,a⟩
  .rw[e]at a;cases a
theorem rt_fd{p:Pt}{r:Mv}{L:List Stk}{P:Int->Mv}{B K C sd:Int}(X:StG p r L P B):Wv (JO K C sd L) r (Al K C)=FH p P K C sd 0:=by
 rw[rt_eq,zmv_eq X];unfold FH;rw[X.r0];by_cases h:DF K C (AQ p P 0)=sd
 .rw[Jf h,Jf (K2 h)]
 .rw[Jg h,Jg Ea]
theorem ps_in{p:Pt}{r:Mv}{L:List Stk}{P:Int->Mv}{B:Int}(X:StG p r L P B){n:Nat}{x:Pas}(d:n=3*AF p.W p.H)(h:x∈HC p P n):AR p x.a/\AR p x.b:=by subst d;obtain⟨a,e,c,_,_,rfl⟩:=(Yk X.hp X.G).1 h;exact⟨c.1,(LO X.hs c.1 c.2.1 c.2.2).1⟩
theorem ps_len(p:Pt)(P:Int->Mv)(n:Nat):(HC p P n).length<=n:=by unfold HC;refine Lk (List.length_filterMap_le _ _) ?_;rw[List.length_range];exact C6
theorem f49{A:List Cr}{x:Cr}{l:List SV}{j:Nat}(a:l=DR.sv x)(hj:j<A.length+1):GU (if j<A.length then DR.row A j else(List.map (λx:Nat×List SV=>x.snd) [(0,l)].reverse).getD (j-A.length) []) (DR.row (A++[x]) j):=by
 left;by_cases e:j<A.length
 .rw[Jf e,b0a DR e]
 .have:j=A.length:=E4;subst this;rw[Jg e,L8,b09,a];rfl
theorem f63{l:List Pas}{K C:Int}{i:Nat}(h:i<l.length)(hx:(l.getD i EA.d).K=K/\(l.getD i EA.d).C=C):(l.take (i+1)).filter (Og K C)=(l.take i).filter (Og K C)++[l.getD i EA.d]:=by rw[IZ (d:=EA.d) h,Ng];generalize l.getD i EA.d=x at*;simp[Og,hx.1,hx.2]
theorem d9b{l:List Pas}{K C:Int}{i:Nat}(h:i<l.length)(hx:¬(l.getD i EA.d).K=K\/¬(l.getD i EA.d).C=C):(l.take (i+1)).filter (Og K C)=(l.take i).filter (Og K C):=by rw[IZ (d:=EA.d) h,Ng];generalize l.getD i EA.d=x at*;rcases hx with hx|hx<;>simp[Og,hx]
theorem cl_dec(a b:Cl):(decide (a.x=b.x)&&(decide (a.y=b.y)&&decide (a.q=b.q)))=decide (a=b):=by
 rw[Ly,K9,K9,Jq,Jq,Jq,Jq];constructor
 .rintro⟨c,d,e⟩;exact Cl.ext' c d e
 .rintro rfl;exact⟨rfl,rfl,rfl⟩
theorem mi_bd{K C:Int}(_:1<=K/\K<=4)(hC: -10000<=C/\C<=10000):(0<=(DN K C).1/\(DN K C).1<=7)/\(-20000<=(DN K C).2.1/\(DN K C).2.1<=20000)/\ -20000<=(DN K C).2.2/\(DN K C).2.2<=20000:=by
 unfold DN;repeat' split
 all_goals(dsimp only;omega)
theorem f4i:HS 30 WU:=by
 refine HX {l:=[(24,d6a),(67,f0r),(18,UO),(20,TV),(14,YF),(66,Vb),(65,f1e)],h:=[(69,d9h),(68,f1y)],G:={gx:=λ_=>[.sel [4,9,2]]},fz:=λd=>Nat.beq d 99||Nat.beq d 27||Nat.beq d 148,gr:=λid=>bif Nat.beq id 2 then [.poolN 3 1 24]else bif Nat.beq id 9 then [.orders]else bif Nat.beq id 2063 then [.poolPut 62 6 24]else bif Nat.beq id 18 then [.fz 7]else bif Nat.beq id 27 then [.poolTake 8 3 6 15 24]else bif Nat.beq id 28 then [.fz 9,.flat 8]else bif Nat.beq id 29 then [.fz 10,.flat 8]else bif Nat.beq id 1004 then [.poolSeal 8 3 6 24,.fz 8]else []} ⟨by simpa using⟨pMi28,pSi28,pImg,d8e,pPl25,pPs28,pEd28⟩,E6,by simpa using⟨pOr28,pHSo28⟩⟩ FFd28 IFd28 WU ?_ ?_ ?_ Tryz.func30 E5 E5 E5 ?_
 .intro args own s h hp;unfold WU at h;split at h
  .rename_i x K C sd over;simp only[Jk]at h;obtain⟨⟨q,p,r,L⟩,hx,rfl⟩:=h;obtain⟨h1,Z,h3⟩:=Ll hx hp.1;exact⟨((p,r,L),(K,C,sd),over),⟨h1,Ej,Ji⟩,rfl,Ji,⟨⟨Z,h3⟩,hp.2⟩,rfl,rfl,rfl⟩
  .cases h
 .exact C3
 .intro i;show 0<=2;decide
 .rintro⟨⟨p,r,L⟩,⟨K,C,sd⟩,over⟩ μ ⟨⟨⟨⟨c9,bu⟩,M⟩,N⟩,X,hK,hC,hsd⟩;have B:=mi_bd hK hC;have O:=(X.places E4).1;have hs:=X.hs;have hN:=CQ hs;have cf:∀i,i<L.length->L.getD i AA.d∈L:=λi m=>CY m;have be:L.length<=1024:=by have:=X.len;omega
  have wr:∀i,i<L.length->((-4000<=(L.getD i AA.d).c.x/\(L.getD i AA.d).c.x<=4000)/\ -4000<=(L.getD i AA.d).c.y/\(L.getD i AA.d).c.y<=4000)/\0<=(L.getD i AA.d).c.q/\(L.getD i AA.d).c.q<=3:=λi m=>by have h1:=X.cB (cf i m);have Z:=X.cQ (cf i m);unfold BH at Z;omega
  refine X0b _ ?_;(repeat' first|constructor|intro h)<;>refine Lm ?_
  all_goals(try first
   |exact Au
   |(refine⟨rfl,.inl rfl,E4,?_⟩;exact MK E5 E4))
  refine⟨((0:Nat),λ_=>undef),Js _,?_,?_⟩
  .refine X0b _ ?_;(repeat' first|constructor|intro h)<;>refine Lm ?_
   all_goals first
    |omega
    |exact Bu
    |exact A8
    |exact λ_ _=>.inl (by rw[Jg (K3 _)];rfl)
    |exact Am
    |skip
  .rintro⟨i,hd⟩ m;replace m:i<=L.length:=m;have P:=λh:i<L.length=>X.lay_len (cf i h);have gy:=@d92 L K C sd i;have Z3:=@d8g L K C sd i;have o:=wr i;have Zu:(if VD K C (L.getD i AA.d).c.x (L.getD i AA.d).c.y (L.getD i AA.d).c.q<6*C then(0:Int)else 1)=DF K C (L.getD i AA.d).c:=rfl;refine X0b _ ?_;(repeat' first|constructor|intro h)<;>refine Lm ?_
   all_goals(try simp only[In,Ip,Zu]at*)
   all_goals(try first
    |omega
    |(have tk:=o E4;first
       |exact Au
       |exact⟨⟨E4,E4⟩,⟨E4,E4⟩,⟨E4,E4⟩,⟨E4,E4⟩,E4,E4⟩)
    |exact A9
    |(have Q9:=P E4;refine⟨E4,?_⟩;exact MK E5 E4)
    |exact Ae)
   all_goals(try(
    have f:i<L.length:=E4;have Yu:¬DF K C (L.getD i AA.d).c=sd:=E8;obtain⟨e1,e2⟩:=f61 f Yu;have e3:=z_stay f Yu;refine⟨(i+1,λk=>if k=(Dl K C sd (L.take i)).length then(‹SlH›).val else hd k),Ei,Gw,?_⟩;rw[e1,e2,e3];all_goals refine X0b _ ?_;(repeat' first|constructor|intro h)<;>refine Lm ?_
    all_goals first
     |exact Aq
     |(rw[Kj];rfl)
     |exact λ_ h=>fp_al h
     |exact λ_ h _=>⟨rfl,fp_ct E4 (λj hj=>by rw[Jg (K3 _)];rfl) h⟩
     |exact λ_ h=>f9a h
     |skip))
   ·-- what moves: its layers,the highest first
    have f:i<L.length:=E4;have Q:DF K C (L.getD i AA.d).c=sd:=E8;have Y2:=P f;have tk:=o f;clear P o Zu;have tc:=(X.G.ok 0 ⟨M3 _,E4⟩).1;have V4:=(X.vm E4 (i:=0) ⟨M3 _,E4⟩).1;rw[X.r0]at tc V4;have hrx:=KR V4;unfold CM at tc;have Zv:(0<=(Al K C).t/\(Al K C).t<=7)/\(-20000<=(Al K C).x/\(Al K C).x<=20000)/\ -20000<=(Al K C).y/\(Al K C).y<=20000:=B;refine⟨(0:Nat),⟨⟨f,Q⟩,Js _⟩,?_,?_⟩
    .have E:(JO K C sd (L.take i)||((L.getD i AA.d).l.reverse.take 0).contains 0)=JO K C sd (L.take i):=E6;rw[E];refine X0b _ ?_;(repeat' first|constructor|intro h)<;>refine Lm ?_
     all_goals first
      |exact Aq
      |exact Am
      |exact Aj
      |skip
    .intro j hj;replace hj:(i<L.length/\DF K C (L.getD i AA.d).c=sd)/\j<=(L.getD i AA.d).l.length:=hj;obtain⟨_,Y3⟩:=hj;have hix:j<(L.getD i AA.d).l.length->(((L.getD i AA.d).l.length:Int)-1-(j:Int)).toNat=(L.getD i AA.d).l.length-1-j:=λh=>E4;refine X0b _ ?_;(repeat' first|constructor|intro h)<;>refine Lm ?_
     all_goals(try simp only[In]at*)
     all_goals(try first
      |exact Ay
      |exact Ae
      |exact⟨⟨tc,⟨E4,E4⟩,E4,E4⟩,Zv.1,Zv.2⟩
      |exact⟨Zv.1,⟨⟨E4,E4⟩,E4,E4⟩,⟨E4,E4⟩,⟨E4,E4⟩,E4,E4⟩)
     all_goals first
      |(have u:j<(L.getD i AA.d).l.length:=by omega
        have R:=f6z u;rw[hix u]at*;refine⟨j+1,⟨⟨f,Q⟩,E4⟩,E4,?_⟩;have wz:=f0c (l:=(L.getD i AA.d).l.reverse) (j:=j) (by simpa using u);first
         |(have hz:(L.getD i AA.d).l.getD ((L.getD i AA.d).l.length-1-j) 0=0:=by assumption
           have E:(JO K C sd (L.take i)||((L.getD i AA.d).l.reverse.take (j+1)).contains 0)=true:=by rw[wz,R,K2 hz];simp
           rw[E];all_goals refine X0b _ ?_;(repeat' first|constructor|intro h)<;>refine Lm ?_
           all_goals first
            |exact Aq
            |exact λ_ h=>d4u (by simpa using u) R.symm h
            |exact Aj
            |skip)
         |(have hz:¬(L.getD i AA.d).l.getD ((L.getD i AA.d).l.length-1-j) 0=0:=by assumption
           have E:(JO K C sd (L.take i)||((L.getD i AA.d).l.reverse.take (j+1)).contains 0)=(JO K C sd (L.take i)||((L.getD i AA.d).l.reverse.take j).contains 0):=by rw[wz,R,K5 hz,N3]
           rw[E];all_goals refine X0b _ ?_;(repeat' first|constructor|intro h)<;>refine Lm ?_
           all_goals first
            |exact Aq
            |exact λ_ h=>d4u (by simpa using u) R.symm h
            |exact Aj
            |skip))
      |(have u:j=(L.getD i AA.d).l.length:=by omega
        obtain⟨e1,e2⟩:=f9u f Q;have e3:=z_away f Q;refine⟨(i+1,hd),Ei,Gw,?_⟩;rw[e1,e2,e3,<-u];all_goals refine X0b _ ?_;(repeat' first|constructor|intro h)<;>refine Lm ?_
        all_goals first
         |exact Aq
         |(rw[Kj];rfl)
         |exact Aj
         |(intro q n;refine d5j E5 (by rw[N7];exact u) (λk v=> ?_) n;rw[Lp (by rw[N7];omega)])
         |skip)
      |skip
   ·-- what moved is laid over or under what stayed
    have br:i=L.length:=E4;subst br;simp only[Lj]at gy Z3⊢;clear P o Zu;have T:=g1c (K:=K) (C:=C) (sd:=sd) X.cells;have U:=f98 (K:=K) (C:=C) (sd:=sd) X.cells (λs h=>X.cQ h);have V6:∀s∈Dl K C sd L,s.l.length<=1024:=λs hs=>by have:=X.lay_len (Kv.1 hs).1;omega
    have Zw:∀s∈DH K C sd L,s.l.length<=1024:=λs hs=>by obtain⟨t,ht,rfl⟩:=Jx.1 hs;have:=X.lay_len (Kv.1 ht).1;show t.l.reverse.length<=_;rw[N7];omega
    generalize hS:Dl K C sd L=S at*;generalize hA:DH K C sd L=A at*;refine⟨((0:Nat),hd),Js _,?_,?_⟩
    .refine X0b _ ?_;(repeat' first|constructor|intro h)<;>refine Lm ?_
     all_goals first
      |exact Aq
      |exact Aj
      |exact λ_ h=>fdB_0 h
      |skip
    .rintro⟨i,hd⟩ m;replace m:i<=A.length:=m;refine X0b _ ?_;(repeat' first|constructor|intro h)<;>refine Lm ?_
     all_goals(try simp only[In]at*)
     all_goals(try first
      |exact Ay
      |(intro q _ _ ha;unfold HD;rw[if_pos ha];rfl)
      |(simp only[CR];exact⟨⟨⟨⟨EC _,c9⟩,bu⟩,M⟩,O⟩)
      |(simp only[CR,RT.lst_row];exact⟨⟨⟨⟨⟨EC _,c9⟩,bu⟩,M⟩,LH L N.1,N.2⟩,O⟩)
      |(simp only[CR,RT.lst_row];exact⟨⟨⟨⟨EC _,c9⟩,bu,M⟩,LH L N.1,N.2⟩,O⟩)
      |(have F:i=A.length:=by omega
        subst F;simp only[Lj];exact⟨sel_is,by have:=(@Uw over A S).2;omega,λs hs=>by rw[d1h]at hs;have:=f5h T U V6 Zw s hs;omega⟩))
     .have f:i<A.length:=E4;have hMl:=@Uw over (A.take i) S;have Y8:(A.take i).length=i:=F7;refine⟨((0:Nat),false),⟨f,Js _,λ_ j hj=>absurd hj (K3 _)⟩,?_,?_⟩
      .exact X2e
      .rintro⟨k,fd⟩ v;replace v:i<A.length/\k<=(AY over S (A.take (if fd=true then i+1 else i))).length/\(fd=false->∀j,j<k->((AY over S (A.take i)).getD j AA.d).c≠(A.getD i AA.d).c):=v;obtain⟨_,V,z⟩:=v;have hMb:(AY over S (A.take i)).length<=2048:=E4;have hMb':(AY over S (A.take (i+1))).length<=4096:=by have:=(@Uw over (A.take (i+1)) S).2;rw[Nq]at this;omega
       cases fd with
       |true=>
        clear z;replace V:k<=(AY over S (A.take (i+1))).length:=V;all_goals refine X0b _ ?_;(repeat' first|constructor|intro h)<;>refine Lm ?_
        all_goals(try(have hh:=‹(decide _&& !_)=true›;simp at hh;done))
        all_goals(try first
         |exact As)
        refine⟨(i+1,hd),Ei,by show A.length-(i+1)<A.length-i;omega,?_⟩;all_goals exact X2e
       |false=>
        replace z:=z rfl;replace V:k<=(AY over S (A.take i)).length:=V;all_goals refine X0b _ ?_;(repeat' first|constructor|intro h)<;>refine Lm ?_
        all_goals(try simp only[In,cl_dec,Iz,Bool.not_false,N4,Ip]at*)
        all_goals(try first
         |exact Ay
         |(show k<(AY over S (A.take i)).length;omega)
         |(show k=k;rfl)
         |(have jy:=Zw _ (CY (d:=AA.d) f);refine⟨Ji,.inl trivial,E4,?_⟩;exact MK E5 E4)
         |(have n:=V6 _ (CY (d:=AA.d) (d2m (over:=over) (S:=S) (k:=k) U f E4 E8).1);have jy:=Zw _ (CY (d:=AA.d) f);first
            |exact Ae
            |(refine⟨E4,E4,E4,?_⟩;exact MK E5 E4))
         |exact Ae
         |(obtain⟨I,Y,m3,J⟩:=d2m (over:=over) (S:=S) (k:=k) U f E4 E8
           exact⟨E4,I,J,by unfold HD;rw[if_pos J];rfl⟩))
        all_goals first
         |(have ba:((AY over S (A.take i)).getD k AA.d).c≠(A.getD i AA.d).c:=by assumption
           refine⟨(k+1,false),⟨f,by show k+1<=(AY over S (A.take i)).length;omega,λ_ j hj=> ?_⟩,by show (AY over S (A.take i)).length-(k+1)+1<_;omega,?_⟩
           .by_cases e:j=k
            .rw[e];exact ba
            .exact z j E4
           .refine X0b _ ?_;(repeat' first|constructor|intro h)<;>refine Lm ?_
            all_goals first
             |exact Aq
             |exact Aj
             |skip)
         |(have jg:((AY over S (A.take i)).getD k AA.d).c=(A.getD i AA.d).c:=by assumption
           have ku:k<(AY over S (A.take i)).length:=E4;obtain⟨I,Y,m3,J⟩:=d2m U f ku jg;have w:AY over S (A.take (i+1))=(AY over S (A.take i)).set k ⟨((AY over S (A.take i)).getD k AA.d).c,NK over ((AY over S (A.take i)).getD k AA.d).l (A.getD i AA.d).l⟩:=(b4t f).trans (b47 _ k ku z jg);have lM:(AY over S (A.take (i+1))).length=(AY over S (A.take i)).length:=by rw[w,L5]
           refine⟨(k+1,true),⟨f,by show k+1<=(AY over S (A.take (i+1))).length;omega,λh=>Eg⟩,by show 0<_;omega,?_⟩;all_goals refine X0b _ ?_;(repeat' first|constructor|intro h)<;>refine Lm ?_
           all_goals first
            |exact Aq
            |exact Be
            |exact lM.symm
            |exact λ_ _=>(f4m T f I Y).symm
            |exact λ_ _ _=>⟨rfl,rfl,λ_ _=>rfl⟩
            |(have ws:over=true:=by assumption
              have hl:NK over ((AY over S (A.take i)).getD k AA.d).l (A.getD i AA.d).l=(S.getD k AA.d).l++(A.getD i AA.d).l:=by rw[m3,ws];rfl
              rw[hl]at w;exact λ_ n=>d2p T f I Y J w rfl (Kj).symm (λ_ _=>d1m) n)
            |(have ws:over=false:=by assumption
              have hl:NK over ((AY over S (A.take i)).getD k AA.d).l (A.getD i AA.d).l=(A.getD i AA.d).l++(S.getD k AA.d).l:=by rw[m3,ws];rfl
              rw[hl]at w;exact λ_ n=>d2p T f I Y J w E5 (by rw[Kj];omega) (λ_ _=>f1f) n)
            |skip)
         |(have fq:∀j,j<(AY over S (A.take i)).length->((AY over S (A.take i)).getD j AA.d).c≠(A.getD i AA.d).c:=λj hj=>z j E4
           have w:AY over S (A.take (i+1))=AY over S (A.take i)++[A.getD i AA.d]:=(b4t f).trans (Yb _ fq);refine⟨(i+1,hd),Ei,by show A.length-(i+1)<A.length-i;omega,?_⟩;all_goals refine X0b _ ?_;(repeat' first|constructor|intro h)<;>refine Lm ?_
           all_goals first
            |exact Aq
            |exact Be
            |(rw[w,Kj];rfl)
            |exact λ_ _=>(d0u f fq).symm
            |exact λ_ _ _=>⟨rfl,rfl,λ_ _=>rfl⟩
            |exact λ_ n=>f9e f fq w n
            |skip)
         |skip
     .have F:i=A.length:=E4;subst F;have eS:JV over K C sd L=NI (AY over S A):=by unfold JV;rw[hS,hA]
      simp only[Lj,d1h]at*;refine⟨(0:Nat),Js _,?_,?_⟩
      .rw[eS];refine X0b _ ?_;(repeat' first|constructor|intro h)<;>refine Lm ?_
       all_goals(try simp only[CR,List.take_zero,List.filter_nil,List.map_nil,List.append_nil])
       all_goals first
        |exact Aq
        |exact(f27 _).symm
        |skip
      .intro i m;replace m:i<=(BF p r).length:=m;have fw:(BF p r).length<=3*AF p.W p.H:=ps_len _ _ _;have Zt:i<(BF p r).length->AR p ((BF p r).getD i EA.d).a/\AR p ((BF p r).getD i EA.d).b:=λh=>ps_in X rfl (CY (d:=EA.d) h);have dq:(p.l++List.map (Vd p (AM p r) over) (List.filter (Og K C) (List.take i (BF p r)))).length<=103072:=by
        rw[Kj,Ke];have:=Ni (Og K C) (List.take i (BF p r));rw[Nq]at this;omega
       have Zx:=Rt M.1 O;have wn:=Zx.pl;refine X0b _ ?_;(repeat' first|constructor|intro h)<;>refine Lm ?_
       all_goals(try simp only[In,N4,Ip,It,RT.lst_row]at*)
       all_goals(try first
        |exact Ay
        |(have n:=Zt E4;unfold AR at n;first|omega|exact⟨hs,n.1,n.2⟩)
        |exact Ae
        |exact⟨RT.isL_row DR _,E4⟩
        |(rw[rt_fd X];done)
        |exact A8)
       all_goals first
        |(have f:i<(BF p r).length:=by omega
          have B:=d9b f E8;refine⟨i+1,Ei,Ef,?_⟩;rw[B];all_goals refine X0b _ ?_;(repeat' first|constructor|intro h)<;>refine Lm ?_
          all_goals first
           |exact Aq
           |exact Be
           |skip)
        |(have f:i<(BF p r).length:=by omega
          have B:=f63 f E8;refine⟨i+1,Ei,Ef,?_⟩;rw[B,Mf,<-N1];all_goals refine X0b _ ?_;(repeat' first|constructor|intro h)<;>refine Lm ?_
          all_goals first
           |exact Aq
           |exact Be
           |exact(@Kj _ (p.l++List.map _ _) (List.map _ [_])).symm
           |(intro j hj
             refine f49 ?_ hj;have o:=‹(decide _ !=over)=true›;have v:FdG.nkG (AM p r) over ((BF p r).getD i EA.d).a=1:=Jg (bne_iff_ne.1 o);show [SV.int .i64 _,SV.int .u8 _,SV.int .u8 1]=[SV.int .i64 _,SV.int .u8 _,SV.int .u8 (FdG.nkG (AM p r) over ((BF p r).getD i EA.d).a)];rw[v];rfl)
           |(intro j hj
             refine f49 ?_ hj;have o:=‹(decide _ !=over)=false›;have v:FdG.nkG (AM p r) over ((BF p r).getD i EA.d).a=2:=Jf (bne_eq_false_iff_eq.1 o);show [SV.int .i64 _,SV.int .u8 _,SV.int .u8 2]=[SV.int .i64 _,SV.int .u8 _,SV.int .u8 (FdG.nkG (AM p r) over ((BF p r).getD i EA.d).a)];rw[v];rfl)
           |skip)
        |(have F:i=(BF p r).length:=by omega
          subst F;simp only[Lj];first
           |(show _=(ND _).length;rw[c71];rfl)
           |exact A8
           |skip)
        |skip
theorem pFd28:PS 30 f8f:=XY (c8f f4i) λargs pre s h a=>by
 unfold f8f at h;split at h
 .rename_i x K C sd over;simp only[Iq]at h;obtain⟨⟨q,p,r,L⟩,hx,rfl,rfl⟩:=h;refine⟨_,?_,a⟩;unfold HK.view WU;simp only[hx,Kn,M0];rfl
 .cases h
end Go.Proofs.YtaihldljnlgnoaaGreatDoor.V
