/-
  Parts of the proof: Y17. Conditions: none.
-/
import Derived.Test.YtaihldljnlgnoaaGreatDoorScc13
set_option maxRecDepth 100000
set_option maxHeartbeats 40000000
namespace Go.Proofs.YtaihldljnlgnoaaGreatDoor.V
open Go
def fdOK(p:Pt)(r:Mv)(L:List Stk)(K C sd:Int):Prop:=StG p r L (AD p r) 4000/\(1<=K/\K<=4)/\(-10000<=C/\C<=10000)/\(sd=0\/sd=1)
abbrev FdI:=(Pt×Mv×List Stk)×(Int×Int×Int)×Bool
def Oq(p:Pt)(r:Mv):SV:=.agg [.int .i64 p.W,.int .i64 p.H,.osl 0,.int .u8 r.t,.int .i64 r.x,.int .i64 r.y,.osl 1]
def Mo(p:Pt)(L:List Stk):List Blk:=[.row 51 3 p.l.length (CP.row p.l) none,.row CM 4 L.length (AA.row L) none]
def Wq:HK:=λa own=>match a,own with
 | [x,.agg [.int .u8 K,.int .i64 C,.int .u8 b,.bool over]],[]=>(Ox x).map λq=>⟨q.1/\fdOK q.2.1 q.2.2.1 q.2.2.2 K C b,Oq (FV q.2.1 (AD q.2.1 q.2.2.1) K C over) (FH q.2.1 (AD q.2.1 q.2.2.1) K C b 0),Mo (FV q.2.1 (AD q.2.1 q.2.2.1) K C over) (KU over K C b q.2.2.2),[]⟩
 |_,_=>none
def FFd28:FamH:=⟨FdI,λ((p,r,L),(K,C,a),over)=>[.agg (Fo p r L),.agg [.int .u8 K,.int .i64 C,.int .u8 a,.bool over]],λ_=>[],λ((p,r,L),(K,C,a),_)=>(prOK p r/\FK L)/\fdOK p r L K C a,λ((p,r,_),(K,C,a),over)=>Oq (FV p (AD p r) K C over) (FH p (AD p r) K C a 0),λ((p,r,L),(K,C,a),over)=>Mo (FV p (AD p r) K C over) (KU over K C a L),[]⟩
def fdEn(a:List Entry):List Entry:=a++[⟨24,none,.fp true 6 0 0⟩,⟨6,none,.own 5 0⟩,⟨5,none,.own 3 0⟩,⟨4,none,.own 2 0⟩,⟨3,none,.own 1 0⟩,⟨2,none,.own 0 0⟩]
def fdOw(p:Pt)(r:Mv)(L:List Stk)(K C sd:Int)(over:Bool)(z:Bool)(stacks:SV)(b:List Cr)(a:List Blk):List Blk:=[.cells 34 (Fo p r L),.cells 89 [.int .u8 K,.int .i64 C,.int .u8 sd,.bool over],.cells 34 [.int .i64 0,.int .i64 0,.con (.slice none 0 0),.int .u8 0,.int .i64 0,.int .i64 0,.con (.slice none 0 0)],.cells 31 (AH.sv (BP K C)),.row 51 3 b.length (CP.row b) none,.cells 34 [.int .i64 p.W,.int .i64 p.H,.osl 4,.int .u8 (XP z r (BP K C)).t,.int .i64 (XP z r (BP K C)).x,.int .i64 (XP z r (BP K C)).y,stacks]]++a
def c8p(S A:List Stk)(hd:Nat->Value):Blk:=.pool 3 1 S.length hd (GQ S A) (λq=>(S.getD q AA.d).l.length) (λq=>AC.row (S.getD q AA.d).l)
abbrev nilS:SV:=.con (.slice none 0 0)
def IFd28:FdI->Nat->Option Inv
 |((p,r,L),(K,C,a),over),5=>some {β:=Nat×(Nat->Value),ok:=λ(i,_)=>i<=L.length,st:=λ(i,hd)=>⟨fdEn [⟨9,none,.int .i64 i⟩,⟨8,none,.osl 8⟩,⟨7,none,.osl 7⟩],fdOw p r L K C a over (JT K C a (L.take i)) nilS p.l [c8p (ED K C a (L.take i)) [] hd,.row CM 4 (DQ K C a (L.take i)).length (AA.row (DQ K C a (L.take i))) none,.row CM 4 (ED K C a (L.take i)).length (SH hd (ED K C a (L.take i))) none]⟩,μ:=λ(i,_)=>L.length-i,nl:=[.slot 7 CM 4,.slot 8 CM 4],sub:=λ(i,hd)=>some fun
  |12=>some {β:=Nat,ok:=λj=>(i<L.length/\DM K C (L.getD i AA.d).c=a)/\j<=(L.getD i AA.d).l.length,st:=λj=>⟨fdEn [⟨12,none,.int .i64 (((L.getD i AA.d).l.length:Int)-1-j)⟩,⟨11,none,.osl 10⟩,⟨10,none,.own 9 0⟩,⟨9,none,.int .i64 i⟩,⟨8,none,.osl 8⟩,⟨7,none,.osl 7⟩],fdOw p r L K C a over (JT K C a (L.take i)||((L.getD i AA.d).l.reverse.take j).contains 0) nilS p.l [c8p (ED K C a (L.take i)) [] hd,.row CM 4 (DQ K C a (L.take i)).length (AA.row (DQ K C a (L.take i))) none,.row CM 4 (ED K C a (L.take i)).length (SH hd (ED K C a (L.take i))) none,.cells CM (AA.sv (L.getD i AA.d)),.row 3 1 j (AC.row ((L.getD i AA.d).l.reverse.take j)) none]⟩,μ:=λj=>(L.getD i AA.d).l.length-j,nl:=[.slot 11 3 1]}
  |_=>none}
 |((p,r,L),(K,C,a),over),19=>some {β:=Nat×(Nat->Value),ok:=λ(i,_)=>i<=(DQ K C a L).length,st:=λ(i,hd)=>⟨fdEn [⟨13,none,.int .i64 i⟩,⟨8,none,.osl 8⟩,⟨7,none,.sl 4 (DQ K C a L).length (AA.row (DQ K C a L)) none⟩],fdOw p r L K C a over (JT K C a L) nilS p.l [c8p (ED K C a L) ((DQ K C a L).take i) hd,.dead,.row CM 4 (Al over (ED K C a L) ((DQ K C a L).take i)).length (HD hd (ED K C a L) ((DQ K C a L).take i) (Al over (ED K C a L) ((DQ K C a L).take i))) none]⟩,μ:=λ(i,_)=>(DQ K C a L).length-i,sub:=λ(i,hd)=>some fun
  |23=>some {β:=Nat×Bool,ok:=λ(k,b)=>i<(DQ K C a L).length/\k<=(Al over (ED K C a L) ((DQ K C a L).take (if b=true then i+1 else i))).length/\(b=false->∀j,j<k->((Al over (ED K C a L) ((DQ K C a L).take i)).getD j AA.d).c≠((DQ K C a L).getD i AA.d).c),st:=λ(k,b)=>⟨fdEn [⟨15,none,.int .i64 k⟩,⟨14,none,.bool b⟩,⟨13,none,.int .i64 i⟩,⟨8,none,.osl 8⟩,⟨7,none,.sl 4 (DQ K C a L).length (AA.row (DQ K C a L)) none⟩],fdOw p r L K C a over (JT K C a L) nilS p.l [c8p (ED K C a L) ((DQ K C a L).take (if b=true then i+1 else i)) hd,.dead,.row CM 4 (Al over (ED K C a L) ((DQ K C a L).take (if b=true then i+1 else i))).length (HD hd (ED K C a L) ((DQ K C a L).take (if b=true then i+1 else i)) (Al over (ED K C a L) ((DQ K C a L).take (if b=true then i+1 else i)))) none]⟩,μ:=λ(k,b)=>if b=true then 0 else(Al over (ED K C a L) ((DQ K C a L).take i)).length-k+1}
  |_=>none}
 |((p,r,L),(K,C,a),over),36=>some {β:=Nat,ok:=λi=>i<=(BF p r).length,st:=λi=>⟨[⟨19,none,.int .i64 i⟩,⟨18,none,.sl 4 (BF p r).length (EG.row (BF p r)) none⟩,⟨16,none,.sl 3 (BL p r).length (AH.row (BL p r)) none⟩,⟨6,none,.own 5 0⟩,⟨4,none,.own 2 0⟩,⟨3,none,.own 1 0⟩,⟨2,none,.own 0 0⟩],fdOw p r L K C a over (JT K C a L) (.osl 9) (p.l++(((BF p r).take i).filter (Od K C)).map (Vq p (AD p r) over)) [.dead,.dead,.dead,.row CM 4 (KU over K C a L).length (AA.row (KU over K C a L)) none]⟩,μ:=λi=>(BF p r).length-i}
 |_,_=>none
theorem f9m{hd:Nat->Value}{v:Value}{S:List Stk}{x y q:Int}{l:List Int}{j:Nat}(hj:j<S.length+1):FU (if j<S.length then SH hd S j else(List.map (λx:Nat×List SV=>x.snd) [(0,[SV.int .i64 x,SV.int .i64 y,SV.int .u8 q,SV.con v])].reverse).getD (j-S.length) []) (SH (λk=>if k=S.length then v else hd k) (S++[⟨⟨x,y,q⟩,l⟩]) j):=by
 left;by_cases e:j<S.length
 .have a:(S++[(⟨⟨x,y,q⟩,l⟩:Stk)]).getD j AA.d=S.getD j AA.d:=by
   rw[Ix,Ix,Jc e]
  simp only[SH,a,Iz e,J3 (show¬j=S.length from Dv)]
 .have:j=S.length:=Dv;subst this;have a:(S++[(⟨⟨x,y,q⟩,l⟩:Stk)]).getD S.length AA.d=⟨⟨x,y,q⟩,l⟩:=by
   rw[Ix,Jm (J9 _),Ks];rfl
  rw[J3 e,Ks];simp only[SH,a,Ke];rfl
theorem f03{S:List Stk}{x:Stk}{q:Nat}:(S++[x]).getD q AA.d=if q<S.length then S.getD q AA.d else if q=S.length then x else AA.d:=by
 by_cases e:q<S.length
 .rw[Iz e,Ix,Ix,Jc e]
 .rw[J3 e];by_cases a:q=S.length
  .subst a;rw[Iz rfl,Ix,Jm (J9 _),Ks];rfl
  .rw[J3 a,Ix,Jm Dv,L9 (by rw[L1];omega)];rfl
theorem fp_al{S:List Stk}{x:Stk}{q:Nat}(h:q<S.length+1):(decide (q=S.length)||GQ S [] q)=GQ (S++[x]) [] q:=by rw[d4j,d4j,Jx,L1,Jf h,K1,Jb,Jb];omega
theorem fp_ct{S:List Stk}{x:Stk}{a:Nat}{f:Nat->List SV}(b:a=x.l.length)(c:∀j,j<a->f j=AC.row x.l j){q:Nat}(h:q<S.length+1):(if q=S.length then a else(S.getD q AA.d).l.length)=((S++[x]).getD q AA.d).l.length/\∀j,j<(if q=S.length then a else(S.getD q AA.d).l.length)->(if q=S.length then f else AC.row (S.getD q AA.d).l) j=AC.row ((S++[x]).getD q AA.d).l j:=by
 rw[f03];by_cases e:q=S.length
 .rw[Iz e,J3 Dv,Iz e,Iz e];exact⟨b,c⟩
 .rw[J3 e,Iz Dv,J3 e];exact⟨rfl,λ_ _=>rfl⟩
theorem d5a{l:List Int}{j:Nat}{v:Int}(a:j<l.length)(b:v=l.getD j 0){q:Nat}(hq:q<j+1):FU (if q<j then AC.row (l.take j) q else(List.map (λx:Nat×List SV=>x.snd) [(0,[SV.int .i64 v])].reverse).getD (q-j) []) (AC.row (l.take (j+1)) q):=by
 left;have c:(l.take j).length=j:=Ex;rw[JD (d:=0) a];unfold RT.row;by_cases e:q<j
 .rw[Iz e,Ix,Ix,Jc Dv]
 .have:q=j:=Dv;subst this;rw[J3 e,Ks,Ix (l:=l.take q++_),Jm Dv,c,Ks,b];rfl
theorem g1q{L:List Stk}{K C sd:Int}(h:DS L):DS (ED K C sd L):=by unfold DS ED;exact Nh (List.filter_sublist.map _) h
theorem f9j{L:List Stk}{K C sd:Int}(h:DS L)(hq:∀s∈L,CO s.c):DS (DQ K C sd L):=by unfold DS DQ;rw[Ma];have d:((L.filter λs=>decide (DM K C s.c=sd)).map (·.c)).Nodup:=Nh (List.filter_sublist.map _) h;rw[List.Nodup,L4]at d⊢;refine List.Pairwise.imp_of_mem (λ{a b} ha hb zw e=> ?_) d;exact Dr
theorem fdB_0{hd:Nat->Value}{S:List Stk}{q:Nat}(h:q<S.length):FU (SH hd S q) (HD hd S [] S q):=by left;unfold SH HD;rw[d4j,Iz (Jf h)]
theorem d1z{a b:List Int}{j:Nat}:(if j<a.length then AC.row a j else AC.row b (j-a.length))=AC.row (a++b) j:=by
 unfold RT.row;by_cases e:j<a.length
 .rw[Iz e,Ix,Ix,Jc e]
 .rw[J3 e,Ix,Ix (l:=a++b),Jm Dv]
theorem f1y{a b:List Int}{j:Nat}:(if j<0+a.length then if j<0 then []else AC.row a (j-0)else AC.row b (j-(0+a.length)))=AC.row (a++b) j:=by rw[<-d1z,Kv,J3 (Jq _)];rfl
section
variable{over:Bool}{S A:List Stk}{hd:Nat->Value}{i k:Nat}
theorem d30{n sz:Nat}{f:Nat->List SV}{c:Option Nat}{l:List Int}(o:DS S)(r:i<A.length)(s:k<S.length)(t:(S.getD k AA.d).c=(A.getD i AA.d).c)(u:GQ S (A.take i) k=true)(v:Al over S (A.take (i+1))=(Al over S (A.take i)).set k ⟨((Al over S (A.take i)).getD k AA.d).c,l⟩)(w:sz=1)(z:n=l.length)(B:∀j,j<n->f j=AC.row l j){q:Nat}(C:q<(Al over S (A.take i)).length):FU (DC (decide (q=k)) [.int .i64 ((Al over S (A.take i)).getD k AA.d).c.x,.int .i64 ((Al over S (A.take i)).getD k AA.d).c.y,.int .u8 ((Al over S (A.take i)).getD k AA.d).c.q,.sl sz n f c] (HD hd S (A.take i) (Al over S (A.take i)) q)) (HD hd S (A.take (i+1)) (Al over S (A.take (i+1))) q):=by
 subst w;have a:=f50 o r s t (q:=q);rw[v];generalize Al over S (A.take i)=M at*;by_cases e:q=k
 .subst e;right;have b:(M.set q ⟨(M.getD q AA.d).c,l⟩).getD q AA.d=⟨(M.getD q AA.d).c,l⟩:=by
   rw[Ix,K4 C];rfl
  rw[Jf rfl]at a⊢;have m:¬GQ S (A.take (i+1)) q=true:=by rw[a];simp
  unfold HD;rw[Iz u,J3 m,b];exact⟨rfl,rfl,rfl,⟨z,Et,Gp,B⟩,J5⟩
 .left;rw[Ji e]at a⊢;have m:GQ S (A.take (i+1)) q=GQ S (A.take i) q:=by rw[a];simp
  have b:(M.set k ⟨(M.getD k AA.d).c,l⟩).getD q AA.d=M.getD q AA.d:=by simp only[Ix];rw[Jh (λh=>e h.symm)]
  unfold HD;rw[m,b];by_cases g:GQ S (A.take i) q=true
  .rw[Iz g];rfl
  .rw[J3 g];rfl
theorem f9q(a:i<A.length)(b:∀j,j<(Al over S (A.take i)).length->((Al over S (A.take i)).getD j AA.d).c≠(A.getD i AA.d).c)(f:Al over S (A.take (i+1))=Al over S (A.take i)++[A.getD i AA.d]){q:Nat}(hq:q<(Al over S (A.take i)).length+1):FU (if q<(Al over S (A.take i)).length then HD hd S (A.take i) (Al over S (A.take i)) q else(List.map (λx:Nat×List SV=>x.snd) [(0,[SV.int .i64 (A.getD i AA.d).c.x,SV.int .i64 (A.getD i AA.d).c.y,SV.int .u8 (A.getD i AA.d).c.q,SV.sl 1 (A.getD i AA.d).l.length (AC.row (A.getD i AA.d).l) none])].reverse).getD (q-(Al over S (A.take i)).length) []) (HD hd S (A.take (i+1)) (Al over S (A.take (i+1))) q):=by
 left;have k:=d16 a b (q:=q);have hl:=(@VG over (A.take i) S).1;rw[f];unfold HD;rw[k];by_cases e:q<(Al over S (A.take i)).length
 .rw[Iz e,Ix (l:=_++_),Jc e,<-Ix]
 .have m:q=(Al over S (A.take i)).length:=Dv;have g:¬GQ S (A.take i) q=true:=λh=>by
   have:=(Sn.1 h).1;omega
  rw[J3 e,J3 g,m,Ks,Ix (l:=_++_),Jm (J9 _),Ks];rfl
end
theorem zmv_eq{p:Pt}{r:Mv}{L:List Stk}{P:Int->Mv}{B K C sd:Int}(X:StG p r L P B):JT K C sd L=decide (DM K C (AO p P 0)=sd):=by
 have hN:=CR X.hs;have c:AU p 0:=⟨Mt _,Dv⟩
 rw[L7,Jb];unfold JT;rw[Jj];constructor
 .rintro⟨s,hs,h⟩;rw[Jt,Jb,List.contains_iff_mem]at h;rw[(X.inSt hs h.2).2];exact h.1
 .intro h;have a:=(X.S.mem (AO p P 0) 0).2 ⟨c,rfl⟩;rcases RJ L (AO p P 0)with⟨s,hs,e⟩|e
  .have b:=X.at_ hs;rw[e]at b;refine⟨s,hs,?_⟩;rw[Jt,Jb,List.contains_iff_mem,<-b,e];exact⟨h,a⟩
  .rw[e]at a;cases a
theorem rt_fd{p:Pt}{r:Mv}{L:List Stk}{P:Int->Mv}{B K C sd:Int}(X:StG p r L P B):XP (JT K C sd L) r (BP K C)=FH p P K C sd 0:=by
 rw[rt_eq,zmv_eq X];unfold FH;rw[X.r0];by_cases h:DM K C (AO p P 0)=sd
 .rw[Iz h,Iz (Jf h)]
 .rw[J3 h,J3 E2]
theorem ps_in{p:Pt}{r:Mv}{L:List Stk}{P:Int->Mv}{B:Int}(X:StG p r L P B){n:Nat}{x:Pas}(d:n=3*AJ p.W p.H)(h:x∈HB p P n):AU p x.a/\AU p x.b:=by subst d;obtain⟨a,e,c,_,_,rfl⟩:=(b6k X.hp X.G).1 h;exact⟨c.1,(JU X.hs c.1 c.2.1 c.2.2).1⟩
theorem ps_len(p:Pt)(P:Int->Mv)(n:Nat):(HB p P n).length<=n:=by unfold HB;refine Kq (List.length_filterMap_le _ _) ?_;rw[List.length_range];exact C2
theorem f4p{A:List Cr}{x:Cr}{l:List SV}{j:Nat}(a:l=CP.sv x)(hj:j<A.length+1):FU (if j<A.length then CP.row A j else(List.map (λx:Nat×List SV=>x.snd) [(0,l)].reverse).getD (j-A.length) []) (CP.row (A++[x]) j):=by
 left;by_cases e:j<A.length
 .rw[Iz e,b0a CP e]
 .have:j=A.length:=Dv;subst this;rw[J3 e,Ks,b09,a];rfl
theorem f6j{l:List Pas}{K C:Int}{i:Nat}(h:i<l.length)(hx:(l.getD i EG.d).K=K/\(l.getD i EG.d).C=C):(l.take (i+1)).filter (Od K C)=(l.take i).filter (Od K C)++[l.getD i EG.d]:=by rw[JD (d:=EG.d) h,N0];generalize l.getD i EG.d=x at*;simp[Od,hx.1,hx.2]
theorem d9q{l:List Pas}{K C:Int}{i:Nat}(h:i<l.length)(hx:¬(l.getD i EG.d).K=K\/¬(l.getD i EG.d).C=C):(l.take (i+1)).filter (Od K C)=(l.take i).filter (Od K C):=by rw[JD (d:=EG.d) h,N0];generalize l.getD i EG.d=x at*;rcases hx with hx|hx<;>simp[Od,hx]
theorem cl_dec(a b:Cl):(decide (a.x=b.x)&&(decide (a.y=b.y)&&decide (a.q=b.q)))=decide (a=b):=by
 rw[L7,Jt,Jt,Jb,Jb,Jb,Jb];constructor
 .rintro⟨c,d,e⟩;exact Cl.ext' c d e
 .rintro rfl;exact Ce
theorem mi_bd{K C:Int}(_:1<=K/\K<=4)(hC: -10000<=C/\C<=10000):(0<=(HQ K C).1/\(HQ K C).1<=7)/\(-20000<=(HQ K C).2.1/\(HQ K C).2.1<=20000)/\ -20000<=(HQ K C).2.2/\(HQ K C).2.2<=20000:=by
 unfold HQ;repeat' split
 all_goals(dsimp only;omega)
theorem f4y:HS 30 Wq:=by
 refine HG {l:=[(24,f2a),(67,f15),(18,Ua),(20,Xt),(14,Vy),(66,Vp),(65,f1x)],h:=[(69,d9x),(68,f2i)],G:={gx:=λ_=>[.sel [4,9,2]]},fz:=λd=>Nat.beq d 99||Nat.beq d 27||Nat.beq d 148,gr:=λid=>bif Nat.beq id 2 then [.poolN 3 1 24]else bif Nat.beq id 9 then [.orders]else bif Nat.beq id 2063 then [.poolPut 62 6 24]else bif Nat.beq id 18 then [.fz 7]else bif Nat.beq id 27 then [.poolTake 8 3 6 15 24]else bif Nat.beq id 28 then [.fz 9,.flat 8]else bif Nat.beq id 29 then [.fz 10,.flat 8]else bif Nat.beq id 1004 then [.poolSeal 8 3 6 24,.fz 8]else []} ⟨by simpa using⟨pMi28,pSi28,pImg,pTh25,f8x,pPs28,pEd28⟩,Dx,by simpa using⟨pOr28,pHSo28⟩⟩ FFd28 IFd28 Wq ?_ ?_ ?_ Tryz.func30 Dw Dw Dw ?_
 .intro args own s h hp;unfold Wq at h;split at h
  .rename_i x K C sd over;simp only[J7]at h;obtain⟨⟨q,p,r,L⟩,hx,rfl⟩:=h;obtain⟨h1,h2,h3⟩:=Sx hx hp.1;exact⟨((p,r,L),(K,C,sd),over),⟨h1,Eb,J5⟩,rfl,J5,⟨⟨h2,h3⟩,hp.2⟩,rfl,rfl,rfl⟩
  .cases h
 .exact Bz
 .intro i;show 0<=2;decide
 .rintro⟨⟨p,r,L⟩,⟨K,C,sd⟩,over⟩ μ ⟨⟨⟨⟨c9,c8⟩,O⟩,P⟩,X,hK,hC,hsd⟩;have B:=mi_bd hK hC;have Q:=(X.places Dv).1;have hs:=X.hs;have hN:=CR hs;have cf:∀i,i<L.length->L.getD i AA.d∈L:=λi m=>BW m;have bc:L.length<=1024:=by have:=X.len;omega
  have tw:∀i,i<L.length->((-4000<=(L.getD i AA.d).c.x/\(L.getD i AA.d).c.x<=4000)/\ -4000<=(L.getD i AA.d).c.y/\(L.getD i AA.d).c.y<=4000)/\0<=(L.getD i AA.d).c.q/\(L.getD i AA.d).c.q<=3:=λi m=>by have h1:=X.cB (cf i m);have h2:=X.cQ (cf i m);unfold CO at h2;omega
  refine X0a _ ?_;(repeat' first|constructor|intro h)<;>refine Lm ?_
  all_goals(try first
   |exact Ae
   |(refine⟨rfl,.inl rfl,Dv,?_⟩;exact MU Dw Dv))
  refine⟨((0:Nat),λ_=>undef),Je _,?_,?_⟩
  .refine X0a _ ?_;(repeat' first|constructor|intro h)<;>refine Lm ?_
   all_goals first
    |omega
    |exact Bp
    |exact A4
    |exact λ_ _=>.inl (by rw[J3 (Jq _)];rfl)
    |exact Ah
    |skip
  .rintro⟨i,hd⟩ m;replace m:i<=L.length:=m;have R:=λh:i<L.length=>X.lay_len (cf i h);have j8:=@d9f L K C sd i;have Zk:=@d8u L K C sd i;have o:=tw i;have U3:(if VO K C (L.getD i AA.d).c.x (L.getD i AA.d).c.y (L.getD i AA.d).c.q<6*C then(0:Int)else 1)=DM K C (L.getD i AA.d).c:=rfl;refine X0a _ ?_;(repeat' first|constructor|intro h)<;>refine Lm ?_
   all_goals(try simp only[Ia,Ib,U3]at*)
   all_goals(try first
    |omega
    |(have vn:=o Dv;first
       |exact Ae
       |exact⟨⟨Dv,Dv⟩,⟨Dv,Dv⟩,⟨Dv,Dv⟩,⟨Dv,Dv⟩,Dv,Dv⟩)
    |exact A7
    |(have S3:=R Dv;refine⟨Dv,?_⟩;exact MU Dw Dv)
    |exact A9)
   all_goals(try(
    have f:i<L.length:=Dv;have E:¬DM K C (L.getD i AA.d).c=sd:=Dz;obtain⟨e1,e2⟩:=f6h f E;have e3:=z_stay f E;refine⟨(i+1,λk=>if k=(ED K C sd (L.take i)).length then(‹SlH›).val else hd k),Ea,Gr,?_⟩;rw[e1,e2,e3];all_goals refine X0a _ ?_;(repeat' first|constructor|intro h)<;>refine Lm ?_
    all_goals first
     |exact Aq
     |(rw[Jx];rfl)
     |exact λ_ h=>fp_al h
     |exact λ_ h _=>⟨rfl,fp_ct Dv (λj hj=>by rw[J3 (Jq _)];rfl) h⟩
     |exact λ_ h=>f9m h
     |skip))
   ·-- what moves: its layers,the highest first
    have f:i<L.length:=Dv;have T:DM K C (L.getD i AA.d).c=sd:=Dz;have S2:=R f;have vn:=o f;clear R o U3;have v7:=(X.G.ok 0 ⟨Mt _,Dv⟩).1;have F:=(X.vm Dv (i:=0) ⟨Mt _,Dv⟩).1;rw[X.r0]at v7 F;have hrx:=Nz F;unfold FR at v7;have U4:(0<=(BP K C).t/\(BP K C).t<=7)/\(-20000<=(BP K C).x/\(BP K C).x<=20000)/\ -20000<=(BP K C).y/\(BP K C).y<=20000:=B;refine⟨(0:Nat),⟨⟨f,T⟩,Je _⟩,?_,?_⟩
    .have I:(JT K C sd (L.take i)||((L.getD i AA.d).l.reverse.take 0).contains 0)=JT K C sd (L.take i):=Dx;rw[I];refine X0a _ ?_;(repeat' first|constructor|intro h)<;>refine Lm ?_
     all_goals first
      |exact Aq
      |exact Ah
      |exact Ai
      |skip
    .intro j hj;replace hj:(i<L.length/\DM K C (L.getD i AA.d).c=sd)/\j<=(L.getD i AA.d).l.length:=hj;obtain⟨_,Yy⟩:=hj;have hix:j<(L.getD i AA.d).l.length->(((L.getD i AA.d).l.length:Int)-1-(j:Int)).toNat=(L.getD i AA.d).l.length-1-j:=λh=>Dv;refine X0a _ ?_;(repeat' first|constructor|intro h)<;>refine Lm ?_
     all_goals(try simp only[Ia]at*)
     all_goals(try first
      |exact Aw
      |exact A9
      |exact⟨⟨v7,⟨Dv,Dv⟩,Dv,Dv⟩,U4.1,U4.2⟩
      |exact⟨U4.1,⟨⟨Dv,Dv⟩,Dv,Dv⟩,⟨Dv,Dv⟩,⟨Dv,Dv⟩,Dv,Dv⟩)
     all_goals first
      |(have u:j<(L.getD i AA.d).l.length:=by omega
        have U:=f7d u;rw[hix u]at*;refine⟨j+1,⟨⟨f,T⟩,Dv⟩,Dv,?_⟩;have zq:=f0r (l:=(L.getD i AA.d).l.reverse) (j:=j) (by simpa using u);first
         |(have hz:(L.getD i AA.d).l.getD ((L.getD i AA.d).l.length-1-j) 0=0:=by assumption
           have I:(JT K C sd (L.take i)||((L.getD i AA.d).l.reverse.take (j+1)).contains 0)=true:=by rw[zq,U,Jf hz];simp
           rw[I];all_goals refine X0a _ ?_;(repeat' first|constructor|intro h)<;>refine Lm ?_
           all_goals first
            |exact Aq
            |exact λ_ h=>d5a (by simpa using u) U.symm h
            |exact Ai
            |skip)
         |(have hz:¬(L.getD i AA.d).l.getD ((L.getD i AA.d).l.length-1-j) 0=0:=by assumption
           have I:(JT K C sd (L.take i)||((L.getD i AA.d).l.reverse.take (j+1)).contains 0)=(JT K C sd (L.take i)||((L.getD i AA.d).l.reverse.take j).contains 0):=by rw[zq,U,Ji hz,Mb]
           rw[I];all_goals refine X0a _ ?_;(repeat' first|constructor|intro h)<;>refine Lm ?_
           all_goals first
            |exact Aq
            |exact λ_ h=>d5a (by simpa using u) U.symm h
            |exact Ai
            |skip))
      |(have u:j=(L.getD i AA.d).l.length:=by omega
        obtain⟨e1,e2⟩:=g03 f T;have e3:=z_away f T;refine⟨(i+1,hd),Ea,Gr,?_⟩;rw[e1,e2,e3,<-u];all_goals refine X0a _ ?_;(repeat' first|constructor|intro h)<;>refine Lm ?_
        all_goals first
         |exact Aq
         |(rw[Jx];rfl)
         |exact Ai
         |(intro q n;refine d61 Dw (by rw[List.length_reverse];exact u) (λk v=> ?_) n;rw[L6 (by rw[List.length_reverse];omega)])
         |skip)
      |skip
   ·-- what moved is laid over or under what stayed
    have br:i=L.length:=Dv;subst br;simp only[Kx]at j8 Zk⊢;clear R o U3;have V:=g1q (K:=K) (C:=C) (sd:=sd) X.cells;have Y:=f9j (K:=K) (C:=C) (sd:=sd) X.cells (λs h=>X.cQ h);have W8:∀s∈ED K C sd L,s.l.length<=1024:=λs hs=>by have:=X.lay_len (Kf.1 hs).1;omega
    have U5:∀s∈DQ K C sd L,s.l.length<=1024:=λs hs=>by obtain⟨t,ht,rfl⟩:=Jp.1 hs;have:=X.lay_len (Kf.1 ht).1;show t.l.reverse.length<=_;rw[List.length_reverse];omega
    generalize hS:ED K C sd L=S at*;generalize hA:DQ K C sd L=A at*;refine⟨((0:Nat),hd),Je _,?_,?_⟩
    .refine X0a _ ?_;(repeat' first|constructor|intro h)<;>refine Lm ?_
     all_goals first
      |exact Aq
      |exact Ai
      |exact λ_ h=>fdB_0 h
      |skip
    .rintro⟨i,hd⟩ m;replace m:i<=A.length:=m;refine X0a _ ?_;(repeat' first|constructor|intro h)<;>refine Lm ?_
     all_goals(try simp only[Ia]at*)
     all_goals(try first
      |exact Aw
      |(intro q _ _ ha;unfold HD;rw[if_pos ha];rfl)
      |(simp only[CU];exact⟨⟨⟨⟨FF _,c9⟩,c8⟩,O⟩,Q⟩)
      |(simp only[CU,RT.lst_row];exact⟨⟨⟨⟨⟨FF _,c9⟩,c8⟩,O⟩,NT L P.1,P.2⟩,Q⟩)
      |(simp only[CU,RT.lst_row];exact⟨⟨⟨⟨FF _,c9⟩,c8,O⟩,NT L P.1,P.2⟩,Q⟩)
      |(have J:i=A.length:=by omega
        subst J;simp only[Kx];exact⟨sel_is,by have:=(@VG over A S).2;omega,λs hs=>by rw[d1v]at hs;have:=f5z V Y W8 U5 s hs;omega⟩))
     .have f:i<A.length:=Dv;have hMl:=@VG over (A.take i) S;have U1:(A.take i).length=i:=Ex;refine⟨((0:Nat),false),⟨f,Je _,λ_ j hj=>absurd hj (Jq _)⟩,?_,?_⟩
      .exact X3
      .rintro⟨k,fd⟩ v;replace v:i<A.length/\k<=(Al over S (A.take (if fd=true then i+1 else i))).length/\(fd=false->∀j,j<k->((Al over S (A.take i)).getD j AA.d).c≠(A.getD i AA.d).c):=v;obtain⟨_,Z,z⟩:=v;have hMb:(Al over S (A.take i)).length<=2048:=Dv;have hMb':(Al over S (A.take (i+1))).length<=4096:=by have:=(@VG over (A.take (i+1)) S).2;rw[Nb]at this;omega
       cases fd with
       |true=>
        clear z;replace Z:k<=(Al over S (A.take (i+1))).length:=Z;all_goals refine X0a _ ?_;(repeat' first|constructor|intro h)<;>refine Lm ?_
        all_goals(try(have hh:=‹(decide _&& !_)=true›;simp at hh;done))
        all_goals(try first
         |exact Ap)
        refine⟨(i+1,hd),Ea,by show A.length-(i+1)<A.length-i;omega,?_⟩;all_goals exact X3
       |false=>
        replace z:=z rfl;replace Z:k<=(Al over S (A.take i)).length:=Z;all_goals refine X0a _ ?_;(repeat' first|constructor|intro h)<;>refine Lm ?_
        all_goals(try simp only[Ia,cl_dec,Ik,Bool.not_false,Mm,Ib]at*)
        all_goals(try first
         |exact Aw
         |(show k<(Al over S (A.take i)).length;omega)
         |(show k=k;rfl)
         |(have kg:=U5 _ (BW (d:=AA.d) f);refine⟨J5,.inl trivial,Dv,?_⟩;exact MU Dw Dv)
         |(have n:=W8 _ (BW (d:=AA.d) (d2y (over:=over) (S:=S) (k:=k) Y f Dv Dz).1);have kg:=U5 _ (BW (d:=AA.d) f);first
            |exact A9
            |(refine⟨Dv,Dv,Dv,?_⟩;exact MU Dw Dv))
         |exact A9
         |(obtain⟨M,m2,m3,N⟩:=d2y (over:=over) (S:=S) (k:=k) Y f Dv Dz
           exact⟨Dv,M,N,by unfold HD;rw[if_pos N];rfl⟩))
        all_goals first
         |(have b9:((Al over S (A.take i)).getD k AA.d).c≠(A.getD i AA.d).c:=by assumption
           refine⟨(k+1,false),⟨f,by show k+1<=(Al over S (A.take i)).length;omega,λ_ j hj=> ?_⟩,by show (Al over S (A.take i)).length-(k+1)+1<_;omega,?_⟩
           .by_cases e:j=k
            .rw[e];exact b9
            .exact z j Dv
           .refine X0a _ ?_;(repeat' first|constructor|intro h)<;>refine Lm ?_
            all_goals first
             |exact Aq
             |exact Ai
             |skip)
         |(have jn:((Al over S (A.take i)).getD k AA.d).c=(A.getD i AA.d).c:=by assumption
           have gz:k<(Al over S (A.take i)).length:=Dv;obtain⟨M,m2,m3,N⟩:=d2y Y f gz jn;have w:Al over S (A.take (i+1))=(Al over S (A.take i)).set k ⟨((Al over S (A.take i)).getD k AA.d).c,NW over ((Al over S (A.take i)).getD k AA.d).l (A.getD i AA.d).l⟩:=(b51 f).trans (b4c _ k gz z jn);have lM:(Al over S (A.take (i+1))).length=(Al over S (A.take i)).length:=by rw[w,Kj]
           refine⟨(k+1,true),⟨f,by show k+1<=(Al over S (A.take (i+1))).length;omega,λh=>E8⟩,by show 0<_;omega,?_⟩;all_goals refine X0a _ ?_;(repeat' first|constructor|intro h)<;>refine Lm ?_
           all_goals first
            |exact Aq
            |exact B8
            |exact lM.symm
            |exact λ_ _=>(f50 V f M m2).symm
            |exact λ_ _ _=>⟨rfl,rfl,λ_ _=>rfl⟩
            |(have zf:over=true:=by assumption
              have hl:NW over ((Al over S (A.take i)).getD k AA.d).l (A.getD i AA.d).l=(S.getD k AA.d).l++(A.getD i AA.d).l:=by rw[m3,zf];rfl
              rw[hl]at w;exact λ_ n=>d30 V f M m2 N w rfl (Jx).symm (λ_ _=>d1z) n)
            |(have zf:over=false:=by assumption
              have hl:NW over ((Al over S (A.take i)).getD k AA.d).l (A.getD i AA.d).l=(A.getD i AA.d).l++(S.getD k AA.d).l:=by rw[m3,zf];rfl
              rw[hl]at w;exact λ_ n=>d30 V f M m2 N w Dw (by rw[Jx];omega) (λ_ _=>f1y) n)
            |skip)
         |(have fx:∀j,j<(Al over S (A.take i)).length->((Al over S (A.take i)).getD j AA.d).c≠(A.getD i AA.d).c:=λj hj=>z j Dv
           have w:Al over S (A.take (i+1))=Al over S (A.take i)++[A.getD i AA.d]:=(b51 f).trans (b16 _ fx);refine⟨(i+1,hd),Ea,by show A.length-(i+1)<A.length-i;omega,?_⟩;all_goals refine X0a _ ?_;(repeat' first|constructor|intro h)<;>refine Lm ?_
           all_goals first
            |exact Aq
            |exact B8
            |(rw[w,Jx];rfl)
            |exact λ_ _=>(d16 f fx).symm
            |exact λ_ _ _=>⟨rfl,rfl,λ_ _=>rfl⟩
            |exact λ_ n=>f9q f fx w n
            |skip)
         |skip
     .have J:i=A.length:=Dv;subst J;have eS:KU over K C sd L=NU (Al over S A):=by unfold KU;rw[hS,hA]
      simp only[Kx,d1v]at*;refine⟨(0:Nat),Je _,?_,?_⟩
      .rw[eS];refine X0a _ ?_;(repeat' first|constructor|intro h)<;>refine Lm ?_
       all_goals(try simp only[CU,List.take_zero,List.filter_nil,List.map_nil,List.append_nil])
       all_goals first
        |exact Aq
        |exact(f2r _).symm
        |skip
      .intro i m;replace m:i<=(BF p r).length:=m;have fg:(BF p r).length<=3*AJ p.W p.H:=ps_len _ _ _;have S8:i<(BF p r).length->AU p ((BF p r).getD i EG.d).a/\AU p ((BF p r).getD i EG.d).b:=λh=>ps_in X rfl (BW (d:=EG.d) h);have dp:(p.l++List.map (Vq p (AD p r) over) (List.filter (Od K C) (List.take i (BF p r)))).length<=103072:=by
        rw[Jx,Jv];have:=N3 (Od K C) (List.take i (BF p r));rw[Nb]at this;omega
       have O8:=PJ O.1 Q;have zd:=O8.pl;refine X0a _ ?_;(repeat' first|constructor|intro h)<;>refine Lm ?_
       all_goals(try simp only[Ia,Mm,Ib,If,RT.lst_row]at*)
       all_goals(try first
        |exact Aw
        |(have n:=S8 Dv;unfold AU at n;first|omega|exact⟨hs,n.1,n.2⟩)
        |exact A9
        |exact⟨RT.isL_row CP _,Dv⟩
        |(rw[rt_fd X];done)
        |exact A4)
       all_goals first
        |(have f:i<(BF p r).length:=by omega
          have B:=d9q f Dz;refine⟨i+1,Ea,E7,?_⟩;rw[B];all_goals refine X0a _ ?_;(repeat' first|constructor|intro h)<;>refine Lm ?_
          all_goals first
           |exact Aq
           |exact B8
           |skip)
        |(have f:i<(BF p r).length:=by omega
          have B:=f6j f Dz;refine⟨i+1,Ea,E7,?_⟩;rw[B,Lk,<-M8];all_goals refine X0a _ ?_;(repeat' first|constructor|intro h)<;>refine Lm ?_
          all_goals first
           |exact Aq
           |exact B8
           |exact(@Jx _ (p.l++List.map _ _) (List.map _ [_])).symm
           |(intro j hj
             refine f4p ?_ hj;have o:=‹(decide _ !=over)=true›;have v:FdG.nkG (AD p r) over ((BF p r).getD i EG.d).a=1:=J3 (bne_iff_ne.1 o);show [SV.int .i64 _,SV.int .u8 _,SV.int .u8 1]=[SV.int .i64 _,SV.int .u8 _,SV.int .u8 (FdG.nkG (AD p r) over ((BF p r).getD i EG.d).a)];rw[v];rfl)
           |(intro j hj
             refine f4p ?_ hj;have o:=‹(decide _ !=over)=false›;have v:FdG.nkG (AD p r) over ((BF p r).getD i EG.d).a=2:=Iz (bne_eq_false_iff_eq.1 o);show [SV.int .i64 _,SV.int .u8 _,SV.int .u8 2]=[SV.int .i64 _,SV.int .u8 _,SV.int .u8 (FdG.nkG (AD p r) over ((BF p r).getD i EG.d).a)];rw[v];rfl)
           |skip)
        |(have J:i=(BF p r).length:=by omega
          subst J;simp only[Kx];first
           |(show _=(NP _).length;rw[c7j];rfl)
           |exact A4
           |skip)
        |skip
end Go.Proofs.YtaihldljnlgnoaaGreatDoor.V
