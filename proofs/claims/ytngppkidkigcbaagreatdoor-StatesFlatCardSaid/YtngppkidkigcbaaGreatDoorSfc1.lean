/-
  Parts of the proof: V1 V2 V3 V4 V5 V6 V7 V8 V9 V10 M1 V11 V12 V13 V14 H0. Conditions: none.
-/
import Derived.WalkKit
import Derived.ChangeKeysEq
import Derived.MapKept
set_option maxRecDepth 100000
set_option maxHeartbeats 40000000
namespace Go.Proofs.YtngppkidkigcbaaGreatDoor.V
open Go
theorem If:type_of% @List.getD_eq_getElem?_getD:=@List.getD_eq_getElem?_getD
theorem Ig:type_of% @List.getElem?_eq_getElem:=@List.getElem?_eq_getElem
theorem Ih:type_of% @if_pos:=@if_pos
theorem Ii:type_of% @if_neg:=@if_neg
theorem Ij:type_of% @List.getElem?_eq_some_iff:=@List.getElem?_eq_some_iff
theorem Ik:type_of% @List.mem_of_getElem?:=@List.mem_of_getElem?
theorem Im:type_of% @trivial:=@trivial
theorem In:type_of% @Option.map_eq_some_iff:=@Option.map_eq_some_iff
theorem Ip:type_of% @Option.bind_eq_some_iff:=@Option.bind_eq_some_iff
theorem Iq:type_of% @List.all_eq_true:=@List.all_eq_true
theorem Ir:type_of% @Nat.le_refl:=@Nat.le_refl
theorem Is:type_of% @decide_eq_true_eq:=@decide_eq_true_eq
theorem It:type_of% @List.getElem?_append_left:=@List.getElem?_append_left
theorem Iv:type_of% @List.mem_cons:=@List.mem_cons
theorem Iw:type_of% @List.getElem?_set_ne:=@List.getElem?_set_ne
theorem Ix:type_of% @Nat.zero_le:=@Nat.zero_le
theorem Iy:type_of% @Int.toNat_natCast:=@Int.toNat_natCast
theorem Iz:type_of% @List.getElem?_append_right:=@List.getElem?_append_right
theorem J3:type_of% @List.any_eq_true:=@List.any_eq_true
theorem J4:type_of% @List.mem_map:=@List.mem_map
theorem J5:type_of% @List.any_eq_false:=@List.any_eq_false
theorem J6:type_of% @List.mem_singleton:=@List.mem_singleton
theorem J7:type_of% @decide_eq_true:=@decide_eq_true
theorem J8:type_of% @Option.some.injEq:=@Option.some.injEq
theorem J9:type_of% @decide_eq_false:=@decide_eq_false
theorem Ja:type_of% @Nat.not_lt_zero:=@Nat.not_lt_zero
theorem Jb:type_of% @List.getElem?_map:=@List.getElem?_map
theorem Jc:type_of% @Bool.and_eq_true:=@Bool.and_eq_true
theorem Jd:type_of% @List.mem_append:=@List.mem_append
theorem Je:type_of% @List.mem_cons_of_mem:=@List.mem_cons_of_mem
theorem Jf:type_of% @Nat.lt_of_lt_of_le:=@Nat.lt_of_lt_of_le
theorem Jg:type_of% @List.mem_iff_getElem:=@List.mem_iff_getElem
theorem Jh:type_of% @run_underlying:=@run_underlying
theorem Ji:type_of% @List.getElem_mem:=@List.getElem_mem
theorem Jj:type_of% @Option.some.inj:=@Option.some.inj
theorem Jk:type_of% @List.mem_range:=@List.mem_range
theorem Jm:type_of% @List.length_append:=@List.length_append
theorem Jn:type_of% @Bool.or_eq_true:=@Bool.or_eq_true
theorem Jp:type_of% @List.length_map:=@List.length_map
theorem Jq:type_of% @List.getElem?_set_self:=@List.getElem?_set_self
theorem Jr:type_of% @List.pairwise_iff_getElem:=@List.pairwise_iff_getElem
theorem Js:type_of% @Nat.mul_le_mul_right:=@Nat.mul_le_mul_right
theorem Jt:type_of% @Array.getElem?_eq_some_iff:=@Array.getElem?_eq_some_iff
theorem Ju:type_of% @Option.map_some:=@Option.map_some
theorem Jv:type_of% @if_true:=@if_true
theorem Jw:type_of% @of_decide_eq_true:=@of_decide_eq_true
theorem Jx:type_of% @List.mem_filter:=@List.mem_filter
theorem Jy:type_of% @List.length_cons:=@List.length_cons
theorem Jz:type_of% @Nat.eq_zero_or_pos:=@Nat.eq_zero_or_pos
theorem K0:type_of% @List.pairwise_cons:=@List.pairwise_cons
theorem K1:type_of% @List.map_cons:=@List.map_cons
theorem K2:type_of% @Option.getD_some:=@Option.getD_some
theorem K3:type_of% @List.findIdx?_eq_some_iff_getElem:=@List.findIdx?_eq_some_iff_getElem
theorem K4:type_of% @List.length_set:=@List.length_set
theorem K5:type_of% @List.mem_iff_getElem?:=@List.mem_iff_getElem?
theorem K6:type_of% @Sem.run_bind:=@Sem.run_bind
theorem K7:type_of% @Int.tmod_eq_emod_of_nonneg:=@Int.tmod_eq_emod_of_nonneg
theorem K8:type_of% @List.eq_nil_of_length_eq_zero:=@List.eq_nil_of_length_eq_zero
theorem K9:type_of% @Addr.add_lit:=@Addr.add_lit
theorem Ka:type_of% @Nat.sub_self:=@Nat.sub_self
theorem Kb:type_of% @List.nodup_cons:=@List.nodup_cons
theorem Kd:type_of% @Array.getElem?_toList:=@Array.getElem?_toList
theorem Ke:type_of% @Nat.le_trans:=@Nat.le_trans
theorem Kf:type_of% @List.pairwise_map:=@List.pairwise_map
theorem Kg:type_of% @List.findIdx?_eq_none_iff:=@List.findIdx?_eq_none_iff
theorem Kh:type_of% @List.take_of_length_le:=@List.take_of_length_le
theorem Ki:type_of% @Nat.zero_add:=@Nat.zero_add
theorem Kj:type_of% @List.take_length:=@List.take_length
theorem Kk:type_of% @Array.length_toList:=@Array.length_toList
theorem Km:type_of% @List.getElem?_eq_none:=@List.getElem?_eq_none
theorem Kn:type_of% @List.getElem?_cons_succ:=@List.getElem?_cons_succ
theorem Kp:type_of% @decide_eq_false_iff_not:=@decide_eq_false_iff_not
theorem Kq:type_of% @Nat.add_assoc:=@Nat.add_assoc
theorem Kr:type_of% @run_sliceBound:=@run_sliceBound
theorem Ks:type_of% @Int.tdiv_eq_ediv_of_nonneg:=@Int.tdiv_eq_ediv_of_nonneg
theorem Kt:type_of% @getElem!_pos:=@getElem!_pos
theorem Ku:type_of% @Bool.eq_iff_iff:=@Bool.eq_iff_iff
theorem Kv:type_of% @Bool.or_eq_false_iff:=@Bool.or_eq_false_iff
theorem Kw:type_of% @Option.bind_some:=@Option.bind_some
theorem Kx:type_of% @beq_iff_eq:=@beq_iff_eq
theorem Kz:type_of% @Int.mul_assoc:=@Int.mul_assoc
theorem L1:type_of% @Array.getElem?_setIfInBounds_ne:=@Array.getElem?_setIfInBounds_ne
theorem L2:type_of% @List.mapM_cons:=@List.mapM_cons
theorem L3:type_of% @Nat.add_mul:=@Nat.add_mul
theorem L4:type_of% @List.ext_getElem?:=@List.ext_getElem?
theorem L5:type_of% @List.map_append:=@List.map_append
theorem L6:type_of% @List.mem_or_eq_of_mem_set:=@List.mem_or_eq_of_mem_set
theorem L7:type_of% @Nat.add_zero:=@Nat.add_zero
theorem L8:type_of% @List.cons_append:=@List.cons_append
theorem L9:type_of% @List.length_eq_zero_iff:=@List.length_eq_zero_iff
theorem La:type_of% @List.take_add_one:=@List.take_add_one
theorem Lb:type_of% @List.foldl_cons:=@List.foldl_cons
theorem Lc:type_of% @Int.toNat_of_nonneg:=@Int.toNat_of_nonneg
theorem Lg:type_of% @Nat.lt_irrefl:=@Nat.lt_irrefl
theorem Lh:type_of% @List.getElem_map:=@List.getElem_map
theorem Li:type_of% @Array.getElem?_modify:=@Array.getElem?_modify
theorem Lj:type_of% @Int.mul_ediv_add_emod:=@Int.mul_ediv_add_emod
theorem Lk:type_of% @Array.getElem?_eq_getElem:=@Array.getElem?_eq_getElem
theorem Ln:type_of% @Nat.succ_mul:=@Nat.succ_mul
theorem Lp:type_of% @Nat.mul_comm:=@Nat.mul_comm
theorem Lq:type_of% @List.map_map:=@List.map_map
theorem Lr:type_of% @Result.andThen_ok:=@Result.andThen_ok
theorem Ls:type_of% @List.append_assoc:=@List.append_assoc
theorem Lt:type_of% @Nat.lt_trichotomy:=@Nat.lt_trichotomy
theorem Lu:type_of% @Bool.or_false:=@Bool.or_false
theorem Lv:type_of% @RowKit.Below.heap_alloc:=@RowKit.Below.heap_alloc
theorem Lw:type_of% @List.getElem?_cons_zero:=@List.getElem?_cons_zero
theorem Lx:type_of% @Array.getElem?_setIfInBounds:=@Array.getElem?_setIfInBounds
theorem Ly:type_of% @heap_alloc_new:=@heap_alloc_new
theorem Lz:type_of% @congrArg:=@congrArg
theorem M0:type_of% @Int.emod_lt_of_pos:=@Int.emod_lt_of_pos
theorem M1:type_of% @Array.getD_eq_getD_getElem?:=@Array.getD_eq_getD_getElem?
theorem M2:type_of% @List.mem_filterMap:=@List.mem_filterMap
theorem M3:type_of% @List.mem_cons_self:=@List.mem_cons_self
theorem M4:type_of% @cond_true:=@cond_true
theorem M5:type_of% @of_decide_eq_false:=@of_decide_eq_false
theorem M6:type_of% @List.filter_append:=@List.filter_append
theorem M7:type_of% @Int.emod_nonneg:=@Int.emod_nonneg
theorem M8:type_of% @List.nil_append:=@List.nil_append
theorem M9:type_of% @List.length_nil:=@List.length_nil
theorem Ma:type_of% @List.length_filter_le:=@List.length_filter_le
theorem Mb:type_of% @List.length_singleton:=@List.length_singleton
theorem Mc:type_of% @Bool.false_or:=@Bool.false_or
theorem Md:type_of% @funext:=@funext
theorem Me:type_of% @List.contains_eq_mem:=@List.contains_eq_mem
theorem Mf:type_of% @List.nodup_nil:=@List.nodup_nil
theorem Mg:type_of% @Nat.lt_or_ge:=@Nat.lt_or_ge
theorem Mh:type_of% @List.ext_getElem:=@List.ext_getElem
theorem Mi:type_of% @List.getElem?_range:=@List.getElem?_range
theorem Mj:type_of% @grownCap_le_maxLen:=@grownCap_le_maxLen
theorem Mk:type_of% @Nat.add_sub_cancel:=@Nat.add_sub_cancel
theorem Mm:type_of% @List.Nodup.sublist:=@List.Nodup.sublist
theorem Mn:type_of% @true_and:=@true_and
theorem Mp:type_of% @Int.le_refl:=@Int.le_refl
theorem Mq:type_of% @size_zeroCells:=@size_zeroCells
theorem Mr:type_of% @Nat.mod_lt:=@Nat.mod_lt
theorem A0{p:Prop}(h:p:=by first|(exfalso;omega)|omega|exact⟨by decide,by decide⟩|exact⟨by omega,by omega⟩|(simp only[AD];omega)|(show _<l.length;omega)|(intro _;show _<l.length;omega)|exact⟨pq _ rfl,h0,by omega,by omega,by omega,by omega⟩|exact⟨pq _ sR.1,h0,by omega,by omega,by omega,by omega,by omega,λs hs=>h5 s (sR.2 s hs)⟩|exact⟨pq _ sQ.1,h0,by omega,by omega,by omega,by omega,by omega,λs hs=>h5 s (sQ.2 s hs)⟩):p:=h
theorem A2{p:Prop}(h:p:=by first|rfl|exact λ_ _=>rfl|exact λ_ _=>Im):p:=h
theorem A3{p:Prop}(h:p:=by first|(exfalso;omega)|omega|exact⟨by decide,by decide⟩|exact⟨by omega,by omega⟩|(simp only[AD];omega)|(show _<l.length;omega)|(intro _;show _<l.length;omega)):p:=h
theorem A4{p:Prop}(h:p:=by simp only[AD];omega):p:=h
theorem A5{p:Prop}(h:p:=by exact λ_ _=>.inl rfl):p:=h
theorem A6{p:Prop}(h:p:=by first|exact⟨by omega,by omega⟩|exact A4):p:=h
theorem A7{p:Prop}(h:p:=by first|exact A3|exact⟨⟨AC.isL_row _,AC.isL_row _⟩,hq _ (by omega),hq _ (by omega)⟩|exact λ_=>⟨⟨AC.isL_row _,AC.isL_row _⟩,hq _ (by omega),hq _ (by omega)⟩):p:=h
theorem A8{p:Prop}(h:p:=by first|rfl|exact λ_ _=>rfl):p:=h
theorem A9{p:Prop}(h:p:=by rw[HY vm (by simp[AP,DR,DU,DW,tb];omega)];simp[AP,sq,tq,DR,DU,DW,tb];omega):p:=h
theorem Aa{p:Prop}(h:p:=by refine⟨by omega,?_⟩;exact LC (by kernel_rfl) (by omega)):p:=h
theorem Ab{p:Prop}(h:p:=by first|rfl|omega|exact A5|(intro q _;left;exact d21 (by omega) (by omega))):p:=h
theorem Ad{p:Prop}(h:p:=by first|exact A8|exact λ_=>rfl|exact λ_ _=>Im):p:=h
theorem Ae{p:Prop}(h:p:=by first|omega|exact A4|exact⟨hs,by omega,by omega⟩|exact⟨by omega,by omega⟩|(intro _;exact RB rfl wb)|exact RB rfl wb|exact RB rfl N8|(intro _;exact RB rfl N8)|exact⟨⟨by omega,by omega,by omega,by omega⟩,by omega,by omega,by omega,by omega⟩|exact⟨⟨⟨by omega,by omega⟩,⟨by omega,by omega⟩,by omega,by omega⟩,⟨by omega,by omega⟩,⟨by omega,by omega⟩,by omega,by omega⟩|exact⟨mv,⟨by omega,by omega⟩,⟨by omega,by omega⟩,by omega,by omega⟩):p:=h
theorem Af{p:Prop}(h:p:=by first|exact A6|(intro _;exact⟨by omega,by omega⟩)|(intro _;simp only[AD];omega)|(intro _;show j<L.length;omega)|(intro _;show j-1<L.length;omega)):p:=h
theorem Ag{p:Prop}(h:p:=by first|exact λ_ _=>rfl|exact λ_ _ _=>⟨rfl,rfl,λ_ _=>rfl⟩):p:=h
theorem Ah{p:Prop}(h:p:=by first|omega|exact NV K gb|exact A4|exact⟨⟨BV.is_row _,BR.is_row _,AC.is_row _⟩,AC.isL_row _,⟨c9,c8⟩,sj _,.inl rfl⟩|exact⟨⟨BV.is_row _,BR.is_row _,AC.is_row _⟩,AC.isL_row _,⟨c9,c8⟩,sj _,.inr rfl⟩|exact λ_=>⟨BR.isL_row _,c8⟩|exact(show (0:Nat)<2 by decide)|exact(show (1:Nat)<2 by decide)|exact(Ih h).symm|exact crE_1 (dq (Ir 1)) h):p:=h
theorem Ai{p:Prop}(h:p:=by intro j hj;exact absurd hj (Ja _)):p:=h
theorem Aj{p:Prop}(h:p:=by first|(exfalso;omega)|omega|exact⟨by decide,by decide⟩|exact A6):p:=h
theorem Ak{p:Prop}(h:p:=by first|rfl|omega|exact A5):p:=h
theorem Am{p:Prop}(h:p:=by intro _;simp only[AD];omega):p:=h
theorem An{p:Prop}(h:p:=by first|exact A2|omega):p:=h
theorem Ap{p:Prop}(h:p:=by first|omega|exact A4):p:=h
theorem Aq{p:Prop}(h:p:=by first|exact⟨rfl,by omega,by omega,by omega,by omega⟩|omega):p:=h
theorem Ar{p:Prop}(h:p:=by refine⟨by omega,by omega,?_,by omega⟩;exact Qg (by kernel_rfl) (by omega) (by omega)):p:=h
theorem As{p:Prop}(h:p:=by first|omega|exact hu|exact du|(intro i hi;rw[Ii (Ja i)];exact du (i-0) (by omega))|(intro i hi;omega)|exact Aa):p:=h
theorem At{p:Prop}(h:p:=by exact⟨by omega,by omega⟩):p:=h
theorem Au{p:Prop}(h:p:=by first|exact Aj|exact⟨pq _ k1.1,h0,by omega,by omega,by omega,by omega,by omega,λs hs=>h5 s (k1.2 s hs)⟩):p:=h
theorem Av{p:Prop}(h:p:=by first|(exfalso;omega)|omega|exact A6|exact⟨pq,h0,by omega,by omega,by omega,by omega,by omega⟩):p:=h
theorem Aw{p:Prop}(h:p:=by first|exact A8|omega):p:=h
theorem Ax{p:Prop}(h:p:=by exact⟨by omega,by omega,by omega,by omega⟩):p:=h
theorem Ay{p:Prop}(h:p:=by first|omega|exact A6|(simp only[AD,Wt];simp;omega)|(simp only[Wt];simp;omega)):p:=h
theorem Az{p:Prop}(h:p:=by first|omega|(exfalso;omega)|exact A6|(intro _;exact⟨by omega,by omega⟩)|exact Am|(intro _;show j<l.length;omega)|(intro _;show j-1<l.length;omega)):p:=h
theorem B1{p:Prop}(h:p:=by first|exact⟨⟨⟨⟨EY _,c9.1.1⟩,c9.1.2⟩,c9.2⟩,NV L c8.1,c8.2⟩|exact⟨⟨⟨EY _,c9.1.1⟩,c9.1.2⟩,c9.2⟩):p:=h
theorem B2{p:Prop}(h:p:=by first|rfl|exact λi hi=>absurd hi (Ja _)):p:=h
theorem B3{p:Prop}(h:p:=by dsimp only;omega):p:=h
theorem B4{p:Prop}(h:p:=by first|omega|exact A6):p:=h
theorem B5{p:Prop}(h:p:=by first|exact⟨⟨⟨EY _,hp.1.1⟩,hp.1.2⟩,hp.2⟩|exact A2):p:=h
theorem B6{p:Prop}(h:p:=by first|exact Iy _|exact Lz some (Iy _)):p:=h
theorem B7{p:Prop}(h:p:=by exact λ_ _=>Sh _):p:=h
theorem B8{p:Prop}(h:p:=by exact λ_ _=>rfl):p:=h
theorem B9{p:Prop}(h:p:=by first|rfl|omega|(show (j:Int)-1=((j-1:Nat):Int);omega)):p:=h
theorem Ba{p:Prop}(h:p:=by first|exact f12|exact d9s hk|exact at_len|exact at_row|exact at_mem|(rw[e1];exact λ_=>f5s hk)):p:=h
theorem Bb{p:Prop}(h:p:=by exact λ_=>rfl):p:=h
theorem Bc{p:Prop}(h:p:=by first|exact Aj|exact⟨pq _ k1.1,h0,by omega,by omega,by omega,by omega,λs hs=>h5 s (k1.2 s hs)⟩):p:=h
theorem Be{p:Prop}(h:p:=by first|exact hu|(intro i hi;omega)|exact Aa):p:=h
theorem Bf{p:Prop}(h:p:=by first|exact(b5 (by rw[e2,e];assumption)).1|exact(b5 (by rw[e2,e];assumption)).2|(rw[e2,e];rfl)):p:=h
theorem Bg{p:Prop}(h:p:=by first|(exfalso;omega)|contradiction|exact B4|exact⟨hp.2.1,hp.2.2.1,hQ⟩|exact hp.1.2 _ (hm b6)):p:=h
theorem Bh{p:Prop}(h:p:=by intro q _;left;exact d21 (by omega) (by omega)):p:=h
theorem Bi{p:Prop}(h:p:=by exact(d4g λj hj=>br j (by omega)).symm):p:=h
theorem Bj{p:Prop}(h:p:=by exact λ_=>⟨⟨AC.isL_row _,AC.isL_row _⟩,hq _ (by omega),hq _ (by omega)⟩):p:=h
theorem Bk{p:Prop}(h:p:=by first|exact(h1 (by rw[e];assumption)).1|exact(h1 (by rw[e];assumption)).2|exact e.symm):p:=h
theorem Bm{p:Prop}(h:p:=by first|rfl|exact A5):p:=h
theorem Bn{p:Prop}(h:p:=by first|omega|exact A5|rfl):p:=h
theorem Bp{p:Prop}(h:p:=by first|exact An|exact((Uh s K true 0 (by decide) hs).trans (Bool.or_true _)).symm):p:=h
theorem Bq{p:Prop}(h:p:=by first|exact An|exact((Uh s K true 1 (by decide) hs).trans (Bool.or_true _)).symm):p:=h
theorem Bs{p:Prop}(h:p:=by exfalso;omega):p:=h
theorem Bt{p:Prop}(h:p:=by intro i;show 2<=_;decide):p:=h
theorem Bu{p:Prop}(h:p:=by intro i;show 1<=_;decide):p:=h
theorem Bv{p:Prop}(h:p:=by intro i;show 3<=_;decide):p:=h
theorem Bw{p:Prop}(h:p:=by exact Ir _):p:=h
theorem Bx{p:Prop}(h:p:=by exact⟨(n,f),⟨IX (d18 _),Im⟩,hp,rfl⟩):p:=h
theorem By{p:Prop}(h:p:=by exact⟨u,by simp[execOp,h1],h2⟩):p:=h
theorem Bz{p:Prop}(h:p:=by intro i;show 1<=1;decide):p:=h
theorem C0{p:Prop}(h:p:=by exact⟨(0,λ_=>[]),⟨IX (c6u _),Im⟩,Ix _,rfl⟩):p:=h
theorem C1{p:Prop}(h:p:=by exact h.fresh j (by omega)):p:=h
theorem C2{p:Prop}(h:p:=by exact absurd hx (nohas b)):p:=h
theorem C3{p:Prop}(h:p:=by exact⟨_,_,rfl⟩):p:=h
theorem C4{p:Prop}(h:p:=by rw[Ih ⟨rfl,rfl⟩];trivial):p:=h
theorem C5{p:Prop}(h:p:=by exact .clo vs hl (λi s v h=>by simp at h)):p:=h
theorem C6{p:Prop}(h:p:=by intro i;show 0<=1;decide):p:=h
theorem C7{p:Prop}(h:p:=by intro i;show 5<=_;decide):p:=h
theorem C9{p:Prop}(h:p:=by unfold DA;rw[if_pos];simp only;omega):p:=h
theorem Ca{p:Prop}(h:p:=by exact .inl (two 1 (by rw[h];decide))):p:=h
theorem Cb{p:Prop}(h:p:=by exact .inr (two 2 (by rw[h];decide))):p:=h
theorem Cc{p:Prop}(h:p:=by obtain⟨_,_,_,_,_,rfl⟩:=h;rfl):p:=h
theorem Cd{p:Prop}(h:p:=by rw[K9,Qw hh];exact gc):p:=h
theorem Ce{p:Prop}(h:p:=by exact λhp=>.clo vs hl (λi s v hs hv=>ih i s v hs hv (d8h (Iq.1 hp s (Ik hs))))):p:=h
theorem Cf{p:Prop}(h:p:=by exact⟨o2.size,o2.block,o2.less,o2.own⟩):p:=h
theorem Cg{p:Prop}(h:p:=by exact .sl _ 0 0 0 (λ_ _=>undef) hn hm hc (λh=>absurd h (by omega)) hl (λi j s hi=>absurd hi (by omega))):p:=h
theorem Ch{p:Prop}(h:p:=by exact⟨Im,h1 _ (Ji this)⟩):p:=h
theorem Ci{p:Prop}(h:p:=by exact⟨j,hj,dj,(CR bi).2 (.inr hL)⟩):p:=h
theorem Cj{p:Prop}(h:p:=by exact(CR bi).2 (.inr (h.closed j o' l hj hL hw))):p:=h
theorem Ck{p:Prop}(h:p:=by rename_i hu;simp only[I3]at h;exact⟨_,hu,λ_=>h.1⟩):p:=h
theorem Cm{p:Prop}(h:p:=by rename_i hu;simp only[I3]at h;exact flat _ hu rfl trivial (by omega)):p:=h
theorem Cn{p:Prop}(h:p:=by exact ih (λy hy=>h y (by simp[hy])) hk):p:=h
theorem Cp{p:Prop}(h:p:=by exact⟨p,⟨(Oq hx hp.1).1,Im⟩,⟨(Oq hx hp.1).2,hp.2⟩,rfl⟩):p:=h
theorem Cq{p:Prop}(h:p:=by exact .inr ⟨b,o,vs,c7,rfl,hh,ho,h1,λi j s v hi=>absurd hi (by omega)⟩):p:=h
theorem Ct{p:Prop}(h:p:=by exact⟨(0,λ_=>[]),⟨IX (c6u _),Im⟩,⟨Ix _,λi hi=>absurd hi (Ja _)⟩,rfl⟩):p:=h
theorem Cu{p:Prop}(h:p:=by exact⟨_,w,_,b03 ht hi wc,.osl (by simp[Mu.set]),.inl ⟨rfl,⟨o1,Fr.refl _ _ _,o2⟩,λj hj=>by simp[Mu.set,hj]⟩⟩):p:=h
theorem Cv{p:Prop}(h:p:=by exact⟨_,_,_,hr,.osl (by simp[Mu.set]),.inr ⟨rfl,ha,λj hj=>by simp[Mu.set,hj]⟩⟩):p:=h
theorem Cw{p:Prop}(h:p:=by exact⟨p,e1,e2,by simp[Io,e3],by simp only[this,if_false];exact e4⟩):p:=h
theorem Cx{p:Prop}(h:p:=by exact λ_=>.mp r g (λhh=>hb (hH _ hh)) hm hl (λq i s v hq hs hv=>ih q i s v hq hs hv (Iq.1 (hl q hq).2 s (Ik hs)))):p:=h
theorem Cy{p:Prop}(h:p:=by exact λ_=>.rel b o g hi (λhh=>hb (hH _ hh)) b7 hl (λi j s hi hs=>ih i j s hi hs (Iq.1 (hl i hi).2 s (Ik hs)))):p:=h
theorem Cz{p:Prop}(h:p:=by exact hK _ w' μ ⟨ha.own,h.fr.trans ha.fr,Ke h.base ha.fr.size,LU ha.keeps h.glo,h.dfr,h.size,h.env.keep ha.keeps,λk hk=>h.fresh k (by rw[<-bf];exact hk),h.anc⟩):p:=h
theorem D0{p:Prop}(h:p:=by exact⟨ps,qs,rfl,h.keep (ps:=ps) ⟨Ir _,λ_ _ _=>rfl,λb _=>hH b⟩ (λ_ _=>rfl)⟩):p:=h
theorem D1{p:Prop}(h:p:=by subst e1;rw[m1]at hy;exact .inl ⟨rfl,(Jj hy).symm⟩):p:=h
theorem D2{p:Prop}(h:p:=by exact .sl a b o m g hm hx (VS hc fw) (λh=>absurd h (Lg _)) (λi hi=>absurd hi (Ja _)) (λi j s hi=>absurd hi (Ja _))):p:=h
theorem D3{p:Prop}(h:p:=by exact .sl none 0 0 0 (λ_ _=>undef) (Ir _) (by simp[maxLen]) (VS hc (.inr rfl)) (λh=>absurd h (Lg _)) (λi hi=>absurd hi (Ja _)) (λi j s hi=>absurd hi (Ja _))):p:=h
theorem D4{p:Prop}(h:p:=by exact .mp r g hb hm (λq hq=>by rw[<-h2 q hq];exact hl q hq) (λq i s v hq hs hv=>hd q i s v hq (by rw[h2 q hq];exact hs) hv)):p:=h
theorem D5{p:Prop}(h:p:=by exact hK undef w μ (calls (Fr.refl _ _ _)) (λ_ _=>rfl) (no s λhb=>dm (hw.2 hb))):p:=h
theorem D6{p:Prop}(h:p:=by exact⟨e₂,a₂,w₂,hq₂,.of_steps (Steps.trans f8 (.one step_inLoop)) harr₂⟩):p:=h
theorem D7{p:Prop}(h:p:=by exact FV (λb hb=>by rcases hb with hb|⟨k,x,hk,_⟩;exact hb;cases hk) (hg g s re).2 (hg g s re).1):p:=h
theorem D8{p:Prop}(h:p:=by exact this.keep ⟨Ir _,λ_ _ _=>rfl,λb _ hb=>(by rcases hb with hb|⟨k,x,hk,_⟩;exact hb;cases hk),λ_ _ h=>(by cases h)⟩):p:=h
theorem D9{p:Prop}(h:p:=by exact⟨by simp[SV.le0],by simp[SV.le0],Qz h1 q1.1,AE.as_le h2 q2,CO.as_le h3 q3,by simp[SV.le0],by simp[SV.le0],by simp[SV.le0],Im⟩):p:=h
theorem Da{p:Prop}(h:p:=by exact⟨e,λhk=>by simp[DN,e,hk,NR,NF,ge],λhk=>by simp[DN,e,hk]⟩):p:=h
theorem Db{p:Prop}(h:p:=by exact⟨(p,i,e),⟨(Oq hx hp.1).1,by simp[SV.le2,SV.le1,SV.le0],by simp[SV.le2,SV.le1,SV.le0],Im⟩,⟨(Oq hx hp.1).2,hp.2⟩,rfl⟩):p:=h
theorem Dc{p:Prop}(h:p:=by exact c1q (λt ht=>d7d hk N9 ht) (λv hv=>h1 v (by simpa using hv)) (Array.mem_toList_iff.1 hv)):p:=h
theorem Dd{p:Prop}(h:p:=by exact⟨(AC.lst n f,(im,cp),c,z),⟨IX (AC.as_leL hx hp.2.1.1),⟨rfl,rfl⟩,Im⟩,⟨by simp only[RT.lst_length];exact hp.2.1.2,hp.2.2⟩,rfl⟩):p:=h
theorem De{p:Prop}(h:p:=by exact⟨(p,r,L),⟨a1.1,a1.2.1,b1,Im⟩,⟨a2,b2,hp.2.2⟩,rfl⟩):p:=h
theorem Df{p:Prop}(h:p:=by exact⟨⟨⟨EY _,c9.1.1⟩,c9.1.2,c9.2⟩,NV L c8.1,c8.2⟩):p:=h
theorem Dg{p:Prop}(h:p:=by exact wd (f4q IZ (hq a (Jx.1 ha).1) (hq b (Jx.1 hb).1) e)):p:=h
theorem Dh{p:Prop}(h:p:=by rw[<-i4,show L.length-i=(L.length-(i+1))+1 by omega];rfl):p:=h
theorem Di{p:Prop}(h:p:=by exact⟨L,⟨h1,by simp[SV.le2,SV.le1,SV.le0],Im⟩,h2,rfl⟩):p:=h
theorem Dj{p:Prop}(h:p:=by omega):p:=h
theorem Dk{p:Prop}(h:p:=by kernel_rfl):p:=h
theorem Dm{p:Prop}(h:p:=by simp):p:=h
theorem Dn{p:Prop}(h:p:=by decide):p:=h
theorem Dp{p:Prop}(h:p:=by assumption):p:=h
theorem Dq{p:Prop}(h:p:=by simp[SV.le0]):p:=h
theorem Dr{p:Prop}(h:p:=by simpa using h):p:=h
theorem Ds{p:Prop}(h:p:=by cases e):p:=h
theorem Dt{p:Prop}(h:p:=by simp[SV.le2,SV.le1,SV.le0]):p:=h
theorem Du{p:Prop}(h:p:=by simp;omega):p:=h
theorem Dv{p:Prop}(h:p:=by simp at h):p:=h
theorem Dw{p:Prop}(h:p:=by cases h):p:=h
theorem Dx{p:Prop}(h:p:=by simpa using hl):p:=h
theorem Dy{p:Prop}(h:p:=by show _-(i+1)<_-i;omega):p:=h
theorem Dz{p:Prop}(h:p:=by simp[SV.le2,SV.le1,BJ,SV.le0]):p:=h
theorem E1{p:Prop}(h:p:=by show i+1<=_;omega):p:=h
theorem E2{p:Prop}(h:p:=by show f<f+1;omega):p:=h
theorem E3{p:Prop}(h:p:=by simp[Mu.set]):p:=h
theorem E4{p:Prop}(h:p:=by simp[hx]):p:=h
theorem E5{p:Prop}(h:p:=by simpa[SV.cells]using hc.symm):p:=h
theorem E6{p:Prop}(h:p:=by simp[SV.le2,SV.le1,SV.le0];omega):p:=h
theorem E7{p:Prop}(h:p:=by simp[Mu.set,hj]):p:=h
theorem E8{p:Prop}(h:p:=by simpa using hj):p:=h
theorem E9{p:Prop}(h:p:=by simp[h1]):p:=h
theorem Ea{p:Prop}(h:p:=by rw[Ih ⟨rfl,rfl⟩];trivial):p:=h
theorem Eb{p:Prop}(h:p:=by show k+1<=3;omega):p:=h
theorem Ec{p:Prop}(h:p:=by show 3-(k+1)<3-k;omega):p:=h
theorem Ed{p:Prop}(h:p:=by simpa using hc):p:=h
theorem Ee{p:Prop}(h:p:=by simpa using h1):p:=h
theorem Ef{p:Prop}(h:p:=by rw[Ih rfl];trivial):p:=h
theorem Eg{p:Prop}(h:p:=by simpa using hi):p:=h
theorem Eh{p:Prop}(h:p:=by simp[Region.wanted,jv]):p:=h
theorem Ei{p:Prop}(h:p:=by rw[hs.1];omega):p:=h
theorem Ej{p:Prop}(h:p:=by rw[sR.1];omega):p:=h
theorem Ek{p:Prop}(h:p:=by simpa[Mu.set]using hj.symm):p:=h
theorem Em{p:Prop}(h:p:=by simp only[maxLen];omega):p:=h
theorem En{p:Prop}(h:p:=by apply Array.ext';simp):p:=h
theorem Ep{p:Prop}(h:p:=by simpa[SV.ro1]using hr.symm):p:=h
theorem Er{p:Prop}(h:p:=by simp only[AD];omega):p:=h
theorem Es{p:Prop}(h:p:=by rw[h.kl];exact gq):p:=h
theorem Et{p:Prop}(h:p:=by simpa[Mu.set,e]using hj):p:=h
theorem Eu{p:Prop}(h:p:=by simp[maxLen]):p:=h
theorem Ev{p:Prop}(h:p:=by simpa using ht):p:=h
theorem Ew{p:Prop}(h:p:=by simpa using rz):p:=h
theorem Ex{p:Prop}(h:p:=by simp[hy]):p:=h
theorem Ey{p:Prop}(h:p:=by simpa using e):p:=h
theorem Ez{p:Prop}(h:p:=by rw[jw];omega):p:=h
theorem F0{p:Prop}(h:p:=by simpa using h4):p:=h
theorem F2{p:Prop}(h:p:=by simp only[fB,Tg r]):p:=h
theorem F3{p:Prop}(h:p:=by rw[bp];exact(Jt.1 ho).1):p:=h
theorem F4{p:Prop}(h:p:=by simp[AZ]at h):p:=h
theorem F5{p:Prop}(h:p:=by simp[AP,DR,DU,DW,tb];omega):p:=h
theorem F6{p:Prop}(h:p:=by simp[EW]):p:=h
theorem F7{p:Prop}(h:p:=by simp[OL]):p:=h
theorem F8{p:Prop}(h:p:=by rw[<-(jp i b8).1];exact(Ij.1 hs).1):p:=h
theorem F9{p:Prop}(h:p:=by simpa using hs):p:=h
theorem Fa{p:Prop}(h:p:=by rw[Us];exact Ir _):p:=h
theorem Fb{p:Prop}(h:p:=by simpa[SV.in0]using hi):p:=h
theorem Fc{p:Prop}(h:p:=by simpa using bm):p:=h
theorem Fd{p:Prop}(h:p:=by show (i+j)/2+1<=j;omega):p:=h
theorem Fe{p:Prop}(h:p:=by show i<=(i+j)/2;omega):p:=h
theorem Ff{p:Prop}(h:p:=by simpa[gu]using hi):p:=h
theorem Fg{p:Prop}(h:p:=by unfold vC;omega):p:=h
theorem Fh{p:Prop}(h:p:=by rw[h.ol];exact gq):p:=h
theorem Fi{p:Prop}(h:p:=by show _-(k+1)<_-k;omega):p:=h
theorem Fj{p:Prop}(h:p:=by rw[List.length_take];omega):p:=h
theorem Fk{p:Prop}(h:p:=by simpa using hv):p:=h
theorem Fm{p:Prop}(h:p:=by simp[Program.elem,hT]):p:=h
theorem Fn{p:Prop}(h:p:=by simp[GT]at h):p:=h
theorem Fp{p:Prop}(h:p:=by simpa using hq):p:=h
theorem Fq{p:Prop}(h:p:=by rw[jn.1,mw];omega):p:=h
theorem Fs{p:Prop}(h:p:=by rw[<-(hl i hi).1];exact(Ij.1 hs).1):p:=h
theorem Ft{p:Prop}(h:p:=by simpa using gq):p:=h
theorem Fu{p:Prop}(h:p:=by rw[<-(du i b8).1];exact(Ij.1 hs).1):p:=h
theorem Fv{p:Prop}(h:p:=by rw[gq];omega):p:=h
theorem Fw{p:Prop}(h:p:=by rw[<-l1];exact(Ij.1 hs).1):p:=h
theorem Fx{p:Prop}(h:p:=by subst e;simp[DQ]at hj):p:=h
theorem Fy{p:Prop}(h:p:=by rw[<-hf i hi];exact hl i hi):p:=h
theorem Fz{p:Prop}(h:p:=by rw[hf i hi];exact hs):p:=h
theorem G1{p:Prop}(h:p:=by simp[execOp,cx]):p:=h
theorem G2{p:Prop}(h:p:=by simpa[IE]using f7):p:=h
theorem G3{p:Prop}(h:p:=by simpa using h3):p:=h
theorem G4{p:Prop}(h:p:=by show 3-(e+1)<3-e;omega):p:=h
theorem G5{p:Prop}(h:p:=by simp[Ms,SV.le2,SV.le1,BJ,SV.le0]):p:=h
theorem G6{p:Prop}(h:p:=by unfold EH;rw[if_pos];omega):p:=h
theorem G7{p:Prop}(h:p:=by simp[AP,DR,DU,DW,tb]):p:=h
theorem G8{p:Prop}(h:p:=by show L.length-(i+1)<L.length-i;omega):p:=h
theorem G9{p:Prop}(h:p:=by cases c<;>trivial):p:=h
theorem Ga{p:Prop}(h:p:=by show j-((i+j)/2+1)<=f;omega):p:=h
theorem Gb{p:Prop}(h:p:=by show (i+j)/2-i<=f;omega):p:=h
theorem Gc{p:Prop}(h:p:=by rw[b1q];exact Ir _):p:=h
theorem Gd{p:Prop}(h:p:=by rw[jx,we];exact hT):p:=h
theorem Ge{p:Prop}(h:p:=by rw[NI];exact ho):p:=h
theorem Gf{p:Prop}(h:p:=by rw[<-h.pl];exact(Ij.1 e1).1):p:=h
theorem Gg{p:Prop}(h:p:=by rw[<-l1];exact(Ij.1 ht).1):p:=h
theorem Gh{p:Prop}(h:p:=by simpa[Io,ep]using hp):p:=h
theorem Gi{p:Prop}(h:p:=by subst e;rw[Env.an_ak hx]at pe;cases pe):p:=h
theorem Gj{p:Prop}(h:p:=by subst e;rw[Env.an_ak hx]at gf;cases gf):p:=h
theorem Gk{p:Prop}(h:p:=by rw[Jq bi]):p:=h
theorem Gm{p:Prop}(h:p:=by rw[Iw e];exact g2):p:=h
theorem Gn{p:Prop}(h:p:=by simp[Region.wanted,(b9y hf).2]):p:=h
theorem Gp{p:Prop}(h:p:=by rw[hD.1,l1];exact bf i):p:=h
theorem Gq{p:Prop}(h:p:=by rw[hD.1,l1];exact b6):p:=h
theorem Gr{p:Prop}(h:p:=by simp only[RT.lst_length];exact hq.2.1):p:=h
theorem Gs{p:Prop}(h:p:=by simp only[RE];exact q1.2):p:=h
theorem Gt{p:Prop}(h:p:=by simpa using b0t):p:=h
theorem Gu{p:Prop}(h:p:=by have:=Jk.1 hj;omega):p:=h
theorem Gv{p:Prop}(h:p:=by rw[<-hL];exact(Ij.1 hs).1):p:=h
theorem Gw{p:Prop}(h:p:=by rw[hr,b7c e3,h1];rfl):p:=h
theorem Gx{p:Prop}(h:p:=by simp[If,hj]):p:=h
theorem Gy{p:Prop}(h:p:=by show _-(q+1)<_-q;omega):p:=h
theorem Gz{p:Prop}(h:p:=by show (GC _ _).length<=_;rw[QG];omega):p:=h
theorem H0{p:Prop}(h:p:=by have:=hi.1;have:=hi.2;omega):p:=h
theorem H1{p:Prop}(h:p:=by simpa[TX]using hj):p:=h
theorem H2{p:Prop}(h:p:=by rw[If,Ig h,K2];exact Ji h):p:=h
theorem H3{p:Prop}(h:p:=by show (i+j)/2<=m;omega):p:=h
theorem H4{p:Prop}(h:p:=by show a<=(i+j)/2+1;omega):p:=h
theorem H5{p:Prop}(h:p:=by unfold ET;rw[List.length_mapIdx]):p:=h
theorem H6{p:Prop}(h:p:=by unfold DH;exact⟨rfl,λh=>h,λq s h=>⟨s,h,λh=>h⟩⟩):p:=h
theorem H7{p:Prop}(h:p:=by rw[<-Ln];exact Js _ b6):p:=h
theorem H8{p:Prop}(h:p:=by rw[<-Ln];exact Js _ rf):p:=h
theorem H9{p:Prop}(h:p:=by have:=List.isEmpty_iff.1 hc;subst this;rfl):p:=h
theorem Ha{p:Prop}(h:p:=by simp only[J3];exact⟨_,Ji b6,h⟩):p:=h
theorem Hb{p:Prop}(h:p:=by subst e;rw[hμk]at hx;exact P0 _ _ (Jj hx).symm):p:=h
theorem Hd{p:Prop}(h:p:=by rw[Jq (Ij.1 hk).1]):p:=h
theorem He{p:Prop}(h:p:=by rw[L2,K6,hv,Lr,K6,ve,Lr,Sem.run_pure]):p:=h
theorem Hf{p:Prop}(h:p:=by have:=Env.ak_lt (Env.an_ak hx);rw[P1]at this;omega):p:=h
theorem Hg{p:Prop}(h:p:=by simp[RT.row,RT.lst,If,hi]):p:=h
theorem Hh{p:Prop}(h:p:=by simpa using ‹(!decide (AQ b.p.W b.p.H u e=0))=false›):p:=h
theorem Hi{p:Prop}(h:p:=by simpa[Go.Sort.putRow,mapBlock,Sort.ahead]using hi):p:=h
theorem Hj{p:Prop}(h:p:=by cases a;cases b;simp at*;exact⟨h1,h2,h3⟩):p:=h
theorem Hk{p:Prop}(h:p:=by simpa using ‹(!decide (AQ p.W p.H i e=0))=false›):p:=h
theorem Hm{p:Prop}(h:p:=by simpa using ‹(!decide (AM W H=0))=false›):p:=h
theorem Hn{p:Prop}(h:p:=by show (kb.set (BB p.W p.H a k).toNat true).count false<=kn.count false;omega):p:=h
theorem Hp{p:Prop}(h:p:=by show (kb.set (BB p.W p.H a k).toNat true).count false<kn.count false;omega):p:=h
theorem Hq{p:Prop}(h:p:=by rw[<-Ln];exact Js _ Dj):p:=h
theorem Hr{p:Prop}(h:p:=by rw[show HL W H a b 0=false from h 0 Dn];decide):p:=h
theorem Hs{p:Prop}(h:p:=by rw[Iz (by rw[cq.pl];exact Ir _),cq.pl,Ka];rfl):p:=h
theorem Ht{p:Prop}(h:p:=by rw[show HL W H a b 1=false from h 1 Dn];decide):p:=h
theorem Hv:type_of% @Int.toNat_natCast/\type_of% @decide_eq_false_iff_not/\type_of% @decide_eq_true_eq:=⟨@Int.toNat_natCast,@decide_eq_false_iff_not,@decide_eq_true_eq⟩
theorem Hw:type_of% @Bool.not_eq_false'/\type_of% @Bool.not_eq_true':=⟨@Bool.not_eq_false',@Bool.not_eq_true'⟩
theorem Hx:type_of% @Option.map_eq_some_iff.{0,0}/\type_of% @Prod.mk.injEq.{0,0}:=⟨@Option.map_eq_some_iff,@Prod.mk.injEq⟩
theorem Hy:type_of% @Option.some.injEq.{0}/\type_of% @Prod.mk.injEq.{0,0}:=⟨@Option.some.injEq,@Prod.mk.injEq⟩
theorem Hz:type_of% @Result.andThen_ok/\type_of% @Sem.run_bind/\type_of% @Sem.run_pure:=⟨@Result.andThen_ok,@Sem.run_bind,@Sem.run_pure⟩
theorem I0:type_of% @decide_eq_false_iff_not/\type_of% @decide_eq_true_eq:=⟨@decide_eq_false_iff_not,@decide_eq_true_eq⟩
theorem I1:type_of% @Bool.and_eq_false_iff/\type_of% @Bool.and_eq_true:=⟨@Bool.and_eq_false_iff,@Bool.and_eq_true⟩
theorem I2:type_of% @List.getElem?_map.{0,0}/\type_of% @Option.map_eq_some_iff.{0,0}:=⟨@List.getElem?_map,@Option.map_eq_some_iff⟩
theorem I3:type_of% @Bool.and_eq_true/\type_of% @decide_eq_true_eq:=⟨@Bool.and_eq_true,@decide_eq_true_eq⟩
theorem I4:type_of% @Bool.false_eq_true/\type_of% @if_false.{1}:=⟨@Bool.false_eq_true,@if_false⟩
theorem I5:type_of% @Option.bind_eq_bind.{0}/\type_of% @Option.bind_eq_some_iff.{0,0}:=⟨@Option.bind_eq_bind,@Option.bind_eq_some_iff⟩
theorem I6:type_of% @List.getD_eq_getElem?_getD.{0}/\type_of% @Option.getD_some.{0}:=⟨@List.getD_eq_getElem?_getD,@Option.getD_some⟩
theorem I7:type_of% @Bool.or_eq_false_iff/\type_of% @Bool.or_eq_true:=⟨@Bool.or_eq_false_iff,@Bool.or_eq_true⟩
theorem I8:type_of% @List.length_append.{0}/\type_of% @List.length_cons.{0}/\type_of% @List.length_nil.{0}:=⟨@List.length_append,@List.length_cons,@List.length_nil⟩
theorem I9:type_of% @Option.getD_some.{0}/\type_of% @Option.map_some.{0,0}:=⟨@Option.getD_some,@Option.map_some⟩
theorem Ia:type_of% @List.cons.injEq.{0}/\type_of% @and_true:=⟨@List.cons.injEq,@and_true⟩
theorem Ib:type_of% @Bool.and_eq_true/\type_of% @beq_iff_eq.{0}:=⟨@Bool.and_eq_true,@beq_iff_eq⟩
theorem Ic:type_of% @Result.andThen_ok/\type_of% @Sem.run_bind:=⟨@Result.andThen_ok,@Sem.run_bind⟩
theorem Id:type_of% @Bool.and_eq_true/\type_of% @Bool.not_eq_true':=⟨@Bool.and_eq_true,@Bool.not_eq_true'⟩
theorem Ie:type_of% @List.length_append.{0}/\type_of% @Nat.zero_add:=⟨@List.length_append,@Nat.zero_add⟩
inductive KT where
 |int1 (k:IntKind)
 |ints (ks:List IntKind)
 |str
 deriving DecidableEq
inductive SV where
 |int (k:IntKind) (n:Int)
 |bool (b:Bool)
 |con (v:Value)
 |own (k off:Nat)
 |osl (k:Nat)
 |oel (k sz i off:Nat)
 |sl (sz n:Nat) (f:Nat->List SV) (c:Option Nat)
 |rel (sz n:Nat) (f:Nat->List SV) (i off:Nat)
 |agg (cs:List SV)
 |tup (vs:List SV)
 |clo (fn:FuncId) (cs:List SV)
 |omp (k:Nat)
 |mp (K:KT) (ag:Bool) (has:List Int->Bool) (val:List Int->List SV)
 |fp (ok:Bool) (k i off:Nat)
 |ub (p q:Prop)
 |any
def SV.pure0:SV->Bool
 |.own _ _|.osl _|.oel _ _ _ _|.agg _|.tup _|.omp _|.fp _ _ _ _=>false
 |.clo _ a=>a.isEmpty
 |_=>true
def SV.pure:SV->Bool
 |.clo _ a=>a.all SV.pure0
 |s=>s.pure0
theorem d8h{s:SV}(h:s.pure0=true):s.pure=true:=by cases s<;>simp_all[SV.pure0,SV.pure]
def EP:Value->Option Nat
 |.pointer (some a)=>some a.block
 |.slice (some a) _ (_+1)=>some a.block
 |.map (some r)=>some r
 |_=>none
theorem Mo{b o n m:Nat}{s:Option _}(h:0<m):EP (.slice (some ⟨b,o,s⟩) n m)=some b:=by
 cases m with
 |zero=>omega
 |succ m=>rfl
theorem Vb{a:Option Addr}{n:Nat}:EP (.slice a n 0)=none:=by cases a<;>rfl
def BD(ps:List Value)(a:List (List Value)):Value:=.tuple #[.tuple ps.toArray,.tuple (a.map λb=>Value.tuple b.toArray).toArray]
theorem Nd{ps b:List Value}{d a:List (List Value)}(h:BD ps d=BD b a):ps=b/\d=a:=by
 unfold BD at h;simp only[Value.tuple.injEq,Array.mk.injEq,Ia]at h;obtain⟨e,c⟩:=h;refine⟨e,?_⟩;clear e;induction d generalizing a with
 |nil=>
  cases a with
  |nil=>rfl
  |cons _ _=>simp at c
 |cons u q f=>
  cases a with
  |nil=>simp at c
  |cons u' q'=>
   simp only[K1,List.cons.injEq,Value.tuple.injEq,Array.mk.injEq]at c;rw[c.1,f c.2]
def CA(x:Value)(b:Nat):Prop:=EP x=some b\/∃d a c u,x=BD d a/\c∈a/\u∈c/\EP u=some b
theorem RS{a:Option Addr}{n m b:Nat}:CA (.slice a n m) b↔EP (.slice a n m)=some b:=by
 constructor
 .rintro(h|⟨ps,qs,us,u,h,_⟩)
  .exact h
  .cases h
 .exact .inl
theorem JC{b o n m:Nat}{s:Option _}(h:0<m):CA (.slice (some ⟨b,o,s⟩) n m) b:=.inl (Mo h)
theorem Wb{b o n m c:Nat}{s:Option _}(h:0<m):CA (.slice (some ⟨b,o,s⟩) n m) c↔c=b:=by rw[RS,Mo h];exact⟨λe=>(Jj e).symm,λe=>by rw[e]⟩
theorem b81{a:Option Addr}{n b:Nat}:¬CA (.slice a n 0) b:=by rw[RS,Vb];intro h;cases h
theorem c3s{a:Addr}{b:Nat}:CA (.pointer (some a)) b↔a.block=b:=by
 constructor
 .rintro(h|⟨ps,qs,us,u,h,_⟩)
  .cases h;rfl
  .cases h
 .rintro rfl;exact .inl rfl
theorem d0d{r b:Nat}:CA (.map (some r)) b↔r=b:=by
 constructor
 .rintro(h|⟨ps,qs,us,u,h,_⟩)
  .cases h;rfl
  .cases h
 .rintro rfl;exact .inl rfl
theorem MT{ps:List Value}{c:List (List Value)}{b:Nat}:CA (BD ps c) b↔∃a u,a∈c/\u∈a/\EP u=some b:=by
 constructor
 .rintro(h|⟨ps',qs',a,u,h,d,e,f⟩)
  .cases h
  .obtain⟨_,rfl⟩:=Nd h;exact⟨a,u,d,e,f⟩
 .rintro⟨a,u,d,e,f⟩;exact .inr ⟨ps,c,a,u,rfl,d,e,f⟩
def GY:List IntKind->List Int->List Value
 |k::a,n::b=>.int k n::GY a b
 |_,_=>[]
def f7m(q:List Int):ByteArray:=⟨(q.map λn=>UInt8.ofNat n.toNat).toArray⟩
def kv:KT->List Int->Value
 |.int1 k,q=>.int k (q.getD 0 0)
 |.ints a,q=>.agg (GY a q).toArray
 |.str,q=>.string (f7m q)
def KA:KT->List Int->Prop
 |.int1 _,q=>q.length=1
 |.ints a,q=>q.length=a.length
 |.str,q=>∀n∈q,0<=n/\n<256
def HD(a:Bool)(us:List Value):Value:=if a then .agg us.toArray else us.getD 0 undef
structure MapAt (w:World) (r:Nat) (K:KT) (ag:Bool) (has:List Int->Bool) (g:List Int->List Value):Prop where
 ex:∃es clock,w.heap[r]?=some (.map es clock)/\(∀e∈es.toList,∃q,e.key=kv K q/\KA K q/\has q=true/\e.val=HD ag (g q))/\
  (∀q,has q=true->KA K q/\∃e∈es.toList,e.key=kv K q)/\es.toList.Pairwise (λa b=>a.key≠b.key)
theorem MapAt.lt{w:World}{r:Nat}{K:KT}{a:Bool}{has:List Int->Bool}{g:List Int->List Value}(h:MapAt w r K a has g):r<w.heap.size:=by obtain⟨es,c,h,_⟩:=h.ex;exact(Jt.1 h).1
theorem MapAt.keep{w w':World}{r:Nat}{K:KT}{a:Bool}{has:List Int->Bool}{g:List Int->List Value}(h:MapAt w r K a has g)(b:w'.heap[r]?=w.heap[r]?):MapAt w' r K a has g:=by obtain⟨d,c,h,k⟩:=h.ex;exact⟨d,c,b.trans h,k⟩
abbrev Mu:=Nat->Option Value
def held(A:Nat->Prop)(μ:Mu)(b:Nat):Prop:=A b\/∃k x,μ k=some x/\CA x b
def UV(w:World)(b o sz n:Nat)(g:Nat->Nat->Value):Prop:=
 b<w.heap.size/\∀i j,i<n->j<sz->w.cell? ⟨b,o+i*sz+j,none⟩=some (g i j)/\(g i j).oneCell'=true
inductive D (w:World) (H:Nat->Prop) (μ:Mu):SV->Value->Prop
 |int {k:IntKind} {n:Int}:D w H μ (.int k n) (.int k n)
 |bool {b:Bool}:D w H μ (.bool b) (.bool b)
 |con {v:Value}:D w H μ (.con v) v
 |own {k off b:Nat} (h:μ k=some (.pointer (some ⟨b,0,none⟩))):D w H μ (.own k off) (.pointer (some ⟨b,off,none⟩))
 |osl {k n m:Nat} {a:Option Addr} (h:μ k=some (.slice a n m)):D w H μ (.osl k) (.slice a n m)
 |oel {k sz i off b o n m:Nat} (h:μ k=some (.slice (some ⟨b,o,none⟩) n m)):D w H μ (.oel k sz i off) (.pointer (some ⟨b,o+i*sz+off,none⟩))
 |sl {sz n:Nat} {f:Nat->List SV} {c:Option Nat} (a:Option Addr) (b o m:Nat) (g:Nat->Nat->Value) (hm:n<=m) (hx:m<=maxLen) (hc:c=none\/c=some m)
  (b7:0<n->a=some ⟨b,o,none⟩/\¬H b/\UV w b o sz n g) (hl:∀i,i<n->(f i).length=sz/\(f i).all SV.pure=true)
  (hd:∀(i j:Nat) (s:SV),i<n->(f i)[j]?=some s->D w H μ s (g i j)):D w H μ (.sl sz n f c) (.slice a n m)
 |rel {sz n i off:Nat} {f:Nat->List SV} (b o:Nat) (g:Nat->Nat->Value) (hi:i<n) (hb:¬H b) (b7:UV w b o sz n g) (hl:∀i,i<n->(f i).length=sz/\(f i).all SV.pure=true)
  (hd:∀(i j:Nat) (s:SV),i<n->(f i)[j]?=some s->D w H μ s (g i j)):D w H μ (.rel sz n f i off) (.pointer (some ⟨b,o+i*sz+off,none⟩))
 |agg {cs:List SV} (vs:List Value) (hl:vs.length=cs.length) (hd:∀(i:Nat) (s:SV) (v:Value),cs[i]?=some s->vs[i]?=some v->D w H μ s v):D w H μ (.agg cs) (.agg vs.toArray)
 |tup {cs:List SV} (vs:List Value) (hl:vs.length=cs.length) (hd:∀(i:Nat) (s:SV) (v:Value),cs[i]?=some s->vs[i]?=some v->D w H μ s v):D w H μ (.tup cs) (.tuple vs.toArray)
 |clo {fn:FuncId} {cs:List SV} (vs:List Value) (hl:vs.length=cs.length) (hd:∀(i:Nat) (s:SV) (v:Value),cs[i]?=some s->vs[i]?=some v->D w H μ s v):D w H μ (.clo fn cs) (.func (.func fn) #[] vs.toArray)
 |omp {k:Nat} {r:Option Nat} (h:μ k=some (.map r)):D w H μ (.omp k) (.map r)
 |mp {K:KT} {ag:Bool} {has:List Int->Bool} {val:List Int->List SV} (r:Nat) (g:List Int->List Value) (hb:¬H r) (hm:MapAt w r K ag has g)
  (hl:∀q,has q=true->(g q).length=(val q).length/\(val q).all SV.pure=true)
  (hd:∀(q:List Int) (i:Nat) (s:SV) (v:Value),has q=true->(val q)[i]?=some s->(g q)[i]?=some v->D w H μ s v):D w H μ (.mp K ag has val) (.map (some r))
 |fp {ok:Bool} {k i off:Nat} {v:Value} (h:if ok=true then∃ps qs b,μ k=some (BD ps qs)/\ps[i]?=some (.pointer (some ⟨b,0,none⟩))/\v=.pointer (some ⟨b,off,none⟩)else v=.pointer none):D w H μ (.fp ok k i off) v
 |ub {b:Bool} {p q:Prop} (h1:b=true->p) (h2:b=false->q):D w H μ (.ub p q) (.bool b)
 |any {v:Value}:D w H μ .any v
theorem D.fp_mk{w':World}{H':Nat->Prop}{μ μ':Mu}{ok:Bool}{k i off:Nat}{v:Value}(g:∀c f,μ k=some (BD c f)->∃a d,μ' k=some (BD a d)/\∀p,c[i]?=some p->a[i]?=some p)
 (h:if ok=true then∃c f b,μ k=some (BD c f)/\c[i]?=some (.pointer (some ⟨b,0,none⟩))/\v=.pointer (some ⟨b,off,none⟩)else v=.pointer none):D w' H' μ' (.fp ok k i off) v:=by
 refine .fp ?_;split
 .rename_i e;rw[Ih e]at h;obtain⟨c,f,b,j,l,m⟩:=h;obtain⟨a,d,n,o⟩:=g c f j;exact⟨a,d,b,n,o _ l,m⟩
 .rename_i e;rwa[Ii e]at h
theorem D.fp_keep{w w':World}{H H':Nat->Prop}{μ μ':Mu}{ok:Bool}{k i off:Nat}{v:Value}(d:∀c e,μ k=some (BD c e)->∃a b,μ' k=some (BD a b)/\∀p,c[i]?=some p->a[i]?=some p)
 (h:D w H μ (.fp ok k i off) v):D w' H' μ' (.fp ok k i off) v:=by
 cases h with
 |fp h=>exact D.fp_mk d h
structure Keeps (w w':World) (H H':Nat->Prop) (μ μ':Mu):Prop where
 size:w.heap.size<=w'.heap.size
 block:∀b,b<w.heap.size->¬H b->w'.heap[b]?=w.heap[b]?
 less:∀b,b<w.heap.size->H' b->H b
 own:∀k x,μ k=some x->μ' k=some x
theorem c0z{w w':World}{a:Addr}(h:w'.heap[a.block]?=w.heap[a.block]?):w'.cell? a=w.cell? a:=by unfold World.cell?;rw[h]
theorem UV.keep{w w':World}{b o sz n:Nat}{g:Nat->Nat->Value}(h:UV w b o sz n g)(hs:w.heap.size<=w'.heap.size)(e:w'.heap[b]?=w.heap[b]?):UV w' b o sz n g:=
 ⟨Jf h.1 hs,λi j c d=>⟨(c0z (a:=⟨b,_,none⟩) e).trans (h.2 i j c d).1,(h.2 i j c d).2⟩⟩
theorem D.keep{w w':World}{H H':Nat->Prop}{μ μ':Mu}{s:SV}{v:Value}(c:Keeps w w' H H' μ μ')(h:D w H μ s v):D w' H' μ' s v:=by
 induction h with
 |int=>exact .int
 |bool=>exact .bool
 |con=>exact .con
 |own h=>exact .own (c.own _ _ h)
 |osl h=>exact .osl (c.own _ _ h)
 |oel h=>exact .oel (c.own _ _ h)
 |sl a b o m g j hx t k d l f=>
  exact .sl a b o m g j hx t (λu=>by obtain⟨e,i,q⟩:=k u;exact⟨e,λn=>i (c.less _ q.1 n),q.keep c.size (c.block _ q.1 i)⟩) d f
 |rel b o g x i k d l f=>exact .rel b o g x (λn=>i (c.less _ k.1 n)) (k.keep c.size (c.block _ k.1 i)) d f
 |agg p d l f=>exact .agg p d f
 |tup p d l f=>exact .tup p d f
 |clo p d l f=>exact .clo p d f
 |omp h=>exact .omp (c.own _ _ h)
 |mp r g i j d l f=>exact .mp r g (λn=>i (c.less _ j.lt n)) (j.keep (c.block _ j.lt i)) d f
 |fp h=>exact D.fp_mk (λy z e=>⟨y,z,c.own _ _ e,λ_ h=>h⟩) h
 |ub A B=>exact .ub A B
 |any=>exact .any
structure Mem where
 cs:List SV
 rows:List (Nat×(Nat->List SV))
inductive Blk where
 |cells (T:TypeId) (cs:List SV)
 |row (T:TypeId) (sz n:Nat) (f:Nat->List SV) (c:Option Nat)
 |map (K:KT) (ag:Bool) (has:List Int->Bool) (val:List Int->List SV)
 |fam (T:TypeId) (Ts:List (TypeId×Nat)) (n:Nat) (bt:Option (Nat×Nat)) (F:Nat->Mem)
 |pmap (K:KT) (k:Nat) (has:List Int->Bool) (BH:List Int->Nat)
 |rowh (T:TypeId) (sz n:Nat) (f:Nat->List SV) (c:Option Nat) (i:Nat) (u:List SV)
 |pool (T:TypeId) (sz n:Nat) (hd:Nat->Value) (al:Nat->Bool) (ln:Nat->Nat) (ct:Nat->Nat->List SV)
 |dead
def QA(w:World)(H:Nat->Prop)(μ:Mu)(x:Value)(T:TypeId)(cs:List SV):Prop:=
 ∃b a,x=.pointer (some ⟨b,0,none⟩)/\w.heap[b]?=some (.cells (List.toArray a) T (0,0))/\a.length=cs.length/\(∀v∈a,v.oneCell'=true)/\∀(i:Nat) (s:SV) (v:Value),cs[i]?=some s->a[i]?=some v->D w H μ s v
def IA(w:World)(H:Nat->Prop)(μ:Mu)(x:Value)(T:TypeId)(sz n:Nat)(f:Nat->List SV)(c:Option Nat):Prop:=
 ∃a m,x=.slice a n m/\n<=m/\m<=maxLen/\(c=none\/c=some m)/\(∀i,i<n->(f i).length=sz/\(f i).all SV.pure=true)/\
    (m=0\/∃b o d,0<m/\a=some ⟨b,o,none⟩/\w.heap[b]?=some (.cells (List.toArray d) T (0,0))/\o+m*sz<=d.length/\(∀v∈d,v.oneCell'=true)/\
      ∀(i j:Nat) (s:SV) (v:Value),i<n->(f i)[j]?=some s->d[o+i*sz+j]?=some v->D w H μ s v)
def Mt(w:World)(H:Nat->Prop)(μ:Mu)(x:Value)(T:TypeId)(sz n:Nat)(f:Nat->List SV)(c:Option Nat)(i:Nat)(u:List SV):Prop:=
 ∃b o m a,x=.slice (some ⟨b,o,none⟩) n m/\n<=m/\m<=maxLen/\(c=none\/c=some m)/\i<n/\u.length=sz/\(∀q,q<n->q≠i->(f q).length=sz/\(f q).all SV.pure=true)/\
  w.heap[b]?=some (.cells (List.toArray a) T (0,0))/\o+m*sz<=a.length/\(∀v∈a,v.oneCell'=true)/\
  (∀(q j:Nat) (s:SV) (v:Value),q<n->q≠i->(f q)[j]?=some s->a[o+q*sz+j]?=some v->D w H μ s v)/\
  ∀(j:Nat) (s:SV) (v:Value),u[j]?=some s->a[o+i*sz+j]?=some v->D w H μ s v
theorem Mt.to{w w':World}{H H':Nat->Prop}{μ μ':Mu}{x:Value}{T:TypeId}{sz n:Nat}{f:Nat->List SV}{c:Option Nat}{i:Nat}{u:List SV}(g:SV->SV)(l:∀b,EP x=some b->w'.heap[b]?=w.heap[b]?)
 (r:∀s v,s.pure=true->D w H μ s v->D w' H' μ' s v) (t:∀s v,D w H μ s v->D w' H' μ' (g s) v) (h:Mt w H μ x T sz n f c i u):Mt w' H' μ' x T sz n f c i (u.map g):=by
 obtain⟨b,o,m,y,rfl,z,A,B,C,E,d,F,G,I,J,K⟩:=h;refine⟨b,o,m,y,rfl,z,A,B,C,by simpa using E,d,(l b (Mo Dj)).trans F,G,I,λq j s v e k hs a=>r _ _ (Iq.1 (d q e k).2 s (Ik hs)) (J q j s v e k hs a),λj s v hs a=> ?_⟩;simp only[I2]at hs;obtain⟨L,M,rfl⟩:=hs;exact t _ _ (K j L v M a)
structure PoolOK (w:World) (H:Nat->Prop) (T:TypeId) (sz n:Nat) (hd:Nat->Value) (al:Nat->Bool) (ln:Nat->Nat) (ct:Nat->Nat->List SV) (qs:List (List Value)):Prop where
 ql:qs.length=n
 nd:∀(i j i' j':Nat) (us us':List Value) (u u':Value) (b:Nat),qs[i]?=some us->us[j]?=some u->EP u=some b->qs[i']?=some us'->us'[j']?=some u'->EP u'=some b->i=i'
 mem:∀i,i<n->(al i=false/\qs[i]?=some [])\/(al i=true/\qs[i]?=some [hd i]/\IA w H (λ_=>none) (hd i) T sz (ln i) (ct i) none)
def WM(us:List Value):Mu:=λj=>us[j]?
def SV.memc:SV->Bool
 |.osl _=>true
 |s=>s.pure
structure MemOK (w:World) (H:Nat->Prop) (T:TypeId) (Ts:List (TypeId×Nat)) (m:Mem) (p:Value) (us:List Value):Prop where
 cells:QA w H (WM us) p T m.cs
 memc:m.cs.all SV.memc=true
 len:us.length=Ts.length
 rlen:m.rows.length=Ts.length
 rows:∀(j:Nat) (t:TypeId×Nat) (r:Nat×(Nat->List SV)) (u:Value),Ts[j]?=some t->m.rows[j]?=some r->us[j]?=some u->IA w H (WM us) u t.1 t.2 r.1 r.2 none
structure FamOK (w:World) (H:Nat->Prop) (T:TypeId) (Ts:List (TypeId×Nat)) (n:Nat) (bt:Option Nat) (F:Nat->Mem) (ps:List Value) (qs:List (List Value)):Prop where
 pl:ps.length=n
 ql:qs.length=n
 nd:∀(i j i' j':Nat) (us us':List Value) (u u':Value) (b:Nat),qs[i]?=some us->us[j]?=some u->EP u=some b->qs[i']?=some us'->us'[j']?=some u'->EP u'=some b->i=i'/\j=j'
 mem:∀i,i<n->∃b us,ps[i]?=some (.pointer (some ⟨b,0,none⟩))/\qs[i]?=some us/\((bt=some i/\us=[])\/(bt≠some i/\∃us',us=.pointer (some ⟨b,0,none⟩)::us'/\MemOK w H T Ts (F i) (.pointer (some ⟨b,0,none⟩)) us'))
def c6y(μ:Mu)(a:Option (Nat×Nat))(ps:List Value):Prop:=∀i c,a=some (i,c)->∃p,ps[i]?=some p/\μ c=some p
theorem c6y.keep{μ μ':Mu}{a:Option (Nat×Nat)}{ps:List Value}(h:c6y μ a ps)(b:∀i c p,a=some (i,c)->μ c=some p->μ' c=some p):c6y μ' a ps:=λi c e=>by obtain⟨p,d,f⟩:=h i c e;exact⟨p,d,b i c p e f⟩
def CT(w:World)(H:Nat->Prop)(μ:Mu)(x:Value):Blk->Prop
 |.cells T y=>∃b e,x=.pointer (some ⟨b,0,none⟩)/\w.heap[b]?=some (.cells (List.toArray e) T (0,0))/\e.length=y.length/\(∀v∈e,v.oneCell'=true)/\∀(i:Nat) (s:SV) (v:Value),y[i]?=some s->e[i]?=some v->D w H μ s v
 |.row T h n f c=>∃a m,x=.slice a n m/\n<=m/\m<=maxLen/\(c=none\/c=some m)/\(∀i,i<n->(f i).length=h/\(f i).all SV.pure=true)/\
  (m=0\/∃b o e,0<m/\a=some ⟨b,o,none⟩/\w.heap[b]?=some (.cells (List.toArray e) T (0,0))/\o+m*h<=e.length/\(∀v∈e,v.oneCell'=true)/\
    ∀(i j:Nat) (s:SV) (v:Value),i<n->(f i)[j]?=some s->e[o+i*h+j]?=some v->D w H μ s v)
 |.map K A d val=>∃r g,x=.map (some r)/\MapAt w r K A d g/\(∀q,d q=true->(g q).length=(val q).length/\(val q).all SV.pure=true)/\
  ∀(q:List Int) (i:Nat) (s:SV) (v:Value),d q=true->(val q)[i]?=some s->(g q)[i]?=some v->D w H μ s v
 |.fam T B n z F=>∃l t,x=BD l t/\FamOK w H T B n (z.map (·.1)) F l t/\c6y μ z l
 |.pmap K k d BH=>(∃l t,μ k=some (BD l t))/\∃r g,x=.map (some r)/\MapAt w r K false d g/\∀q,d q=true->∃p,g q=[p]/\D w H μ (.fp true k (BH q) 0) p
 |.rowh T h n f c i u=>Mt w H μ x T h n f c i u
 |.pool T h n C E G I=>∃l t,x=BD l t/\PoolOK w H T h n C E G I t
 |.dead=>True
structure Own (B0:Nat) (X A:Nat->Prop) (w:World) (μ:Mu) (own:List Blk):Prop where
 blk:∀k x,μ k=some x->∃bl,own[k]?=some bl/\CT w (held A μ) μ x bl
 inj:∀k k' x x' b,μ k=some x->μ k'=some x'->CA x b->CA x' b->k=k'
 rng:∀k x b,μ k=some x->CA x b->b<w.heap.size/\¬A b/\(B0<=b\/X b)
 bnd:∀b,A b->b<w.heap.size
abbrev dwOn:Prop:=True
structure Fr (B0:Nat) (X:Nat->Prop) (w0 w:World):Prop where
 os:w.os=w0.os
 tape:w.tape=w0.tape
 output:w.output=w0.output
 drawn:dwOn->w0.drawn<=w.drawn
 size:w0.heap.size<=w.heap.size
 block:∀i,i<B0->¬X i->w.heap[i]?=w0.heap[i]?
theorem Fr.refl(a:Nat)(X:Nat->Prop)(w:World):Fr a X w w:=⟨rfl,rfl,rfl,λ_=>Ir _,Ir _,λ_ _ _=>rfl⟩
theorem Fr.trans{e:Nat}{X:Nat->Prop}{a b c:World}(h:Fr e X a b)(k:Fr e X b c):Fr e X a c:=
 ⟨k.os.trans h.os,k.tape.trans h.tape,k.output.trans h.output,λd=>Ke (h.drawn d) (k.drawn d),Ke h.size k.size,λi f hx=>(k.block i f hx).trans (h.block i f hx)⟩
theorem QA.keep{w w':World}{H H':Nat->Prop}{μ μ':Mu}{x:Value}{T:TypeId}{cs:List SV}(a:Keeps w w' H H' μ μ')(c:∀b,EP x=some b->w'.heap[b]?=w.heap[b]?)(h:QA w H μ x T cs):QA w' H' μ' x T cs:=by obtain⟨b,d,rfl,e,f,g,j⟩:=h;exact⟨b,d,rfl,(c b rfl).trans e,f,g,λi s v hs k=>(j i s v hs k).keep a⟩
theorem IA.keep{w w':World}{H H':Nat->Prop}{μ μ':Mu}{x:Value}{T:TypeId}{sz n:Nat}{f:Nat->List SV}{c:Option Nat}(e:Keeps w w' H H' μ μ')(g:∀b,EP x=some b->w'.heap[b]?=w.heap[b]?)(h:IA w H μ x T sz n f c):IA w' H' μ' x T sz n f c:=by
 obtain⟨a,m,rfl,k,l,p,q,h⟩:=h;refine⟨a,m,rfl,k,l,p,q,?_⟩;rcases h with h|⟨b,o,r,d,rfl,t,u,y,z⟩
 .exact .inl h
 .exact .inr ⟨b,o,r,d,rfl,(g b (Mo d)).trans t,u,y,λi j s v A hs B=>(z i j s v A hs B).keep e⟩
structure Keeps0 (w w':World) (H H':Nat->Prop):Prop where
 size:w.heap.size<=w'.heap.size
 block:∀b,b<w.heap.size->¬H b->w'.heap[b]?=w.heap[b]?
 less:∀b,b<w.heap.size->H' b->H b
theorem Keeps0.any{w w':World}{H H':Nat->Prop}(h:Keeps0 w w' H H')(μ:Mu):Keeps w w' H H' μ μ:=⟨h.size,h.block,h.less,λ_ _ h=>h⟩
theorem Keeps.k0{w w':World}{H H':Nat->Prop}{μ μ':Mu}(h:Keeps w w' H H' μ μ'):Keeps0 w w' H H':=⟨h.size,h.block,h.less⟩
theorem MemOK.keep{w w':World}{H H':Nat->Prop}{T:TypeId}{a:List (TypeId×Nat)}{m:Mem}{p:Value}{us:List Value}(c:Keeps0 w w' H H')(d:∀u b,u=p\/u∈us->EP u=some b->w'.heap[b]?=w.heap[b]?)(h:MemOK w H T a m p us):MemOK w' H' T a m p us:=
 ⟨h.cells.keep (c.any _) (λb=>d p b (.inl rfl)),h.memc,h.len,h.rlen,λj t r u f g e=>(h.rows j t r u f g e).keep (c.any _) (λb=>d u b (.inr (Ik e)))⟩
theorem FamOK.keep{w w':World}{H H':Nat->Prop}{T:TypeId}{g:List (TypeId×Nat)}{n:Nat}{j:Option Nat}{F:Nat->Mem}{ps:List Value}{d:List (List Value)}(l:Keeps0 w w' H H')(m:∀b,CA (BD ps d) b->w'.heap[b]?=w.heap[b]?)
 (h:FamOK w H T g n j F ps d):FamOK w' H' T g n j F ps d:=by
 refine⟨h.pl,h.ql,h.nd,λi o=> ?_⟩;obtain⟨b,p,q,k,a⟩:=h.mem i o;refine⟨b,p,q,k,?_⟩;rcases a with a|⟨a,e,rfl,r⟩
 .exact .inl a
 .refine .inr ⟨a,e,rfl,r.keep l (λu c f s=>m c (MT.2 ⟨_,u,Ik k,?_,s⟩))⟩;rcases f with rfl|f
  .simp
  .simp[f]
theorem PoolOK.keep{w w':World}{H H':Nat->Prop}{T:TypeId}{sz n:Nat}{d:Nat->Value}{e:Nat->Bool}{f:Nat->Nat}{g:Nat->Nat->List SV}{ps:List Value}{a:List (List Value)}(k:Keeps0 w w' H H')(l:∀b,CA (BD ps a) b->w'.heap[b]?=w.heap[b]?)
 (h:PoolOK w H T sz n d e f g a):PoolOK w' H' T sz n d e f g a:=by
 refine⟨h.ql,h.nd,λi m=> ?_⟩;rcases h.mem i m with c|⟨c,j,o⟩
 .exact .inl c
 .exact .inr ⟨c,j,o.keep (k.any _) (λb q=>l b (MT.2 ⟨_,_,Ik j,Dm,q⟩))⟩
theorem CT.keep{w w':World}{H H':Nat->Prop}{μ μ':Mu}{x:Value}{bl:Blk}(a:Keeps w w' H H' μ μ')(d:∀b,CA x b->w'.heap[b]?=w.heap[b]?)(h:CT w H μ x bl):CT w' H' μ' x bl:=by
 cases bl with
 |cells T cs=>exact QA.keep a (λb hx=>d b (.inl hx)) h
 |row T z n f c=>exact IA.keep a (λb hx=>d b (.inl hx)) h
 |map K ag o val=>
  obtain⟨r,g,rfl,t,A,m⟩:=h;exact⟨r,g,rfl,t.keep (d r (.inl rfl)),A,λq i s v y hs B=>(m q i s v y hs B).keep a⟩
 |fam T Ts n bt F=>
  obtain⟨j,l,rfl,h,C⟩:=h;exact⟨j,l,rfl,h.keep a.k0 d,C.keep (λ_ _ _ _ e=>a.own _ _ e)⟩
 |pmap K k o BH=>
  obtain⟨⟨j,l,E⟩,r,g,rfl,t,m⟩:=h;exact⟨⟨j,l,a.own _ _ E⟩,r,g,rfl,t.keep (d r (.inl rfl)),λq y=>by obtain⟨p,e,h⟩:=m q y;exact⟨p,e,h.keep a⟩⟩
 |rowh T z n f c i u=>
  have:=Mt.to id (λb hx=>d b (.inl hx)) (λs v _ h=>h.keep a) (λs v h=>h.keep a) h;rwa[List.map_id]at this
 |pool T z n m al ln ct=>
  obtain⟨j,l,rfl,h⟩:=h;exact⟨j,l,rfl,h.keep a.k0 d⟩
 |dead=>exact Im
theorem Keeps.drew{w:World}{H:Nat->Prop}{μ:Mu}:Keeps w w.drew H H μ μ:=⟨Ir _,λ_ _ _=>rfl,λ_ _ h=>h,λ_ _ h=>h⟩
theorem Fr.drew{a:Nat}{X:Nat->Prop}{w:World}:Fr a X w w.drew:=⟨rfl,rfl,rfl,λ_=>Nat.le_succ _,Ir _,λ_ _ _=>rfl⟩
theorem Own.drew{a:Nat}{X A:Nat->Prop}{w:World}{μ:Mu}{own:List Blk}(h:Own a X A w μ own):Own a X A w.drew μ own:=
 ⟨λk x hx=>by obtain⟨b,e,c⟩:=h.blk k x hx;exact⟨b,e,c.keep Keeps.drew (λ_ _=>rfl)⟩,h.inj,h.rng,h.bnd⟩
theorem Keeps.alloc{w:World}{H:Nat->Prop}{μ:Mu}(o:Obj):Keeps w (w.alloc o) H H μ μ:=
 ⟨Dm,λb a _=>Lv w o b a,λ_ _ h=>h,λ_ _ h=>h⟩
theorem Fr.alloc{a:Nat}{X:Nat->Prop}{w:World}(o:Obj)(hB:a<=w.heap.size):Fr a X w (w.alloc o):=
 ⟨rfl,rfl,rfl,λ_=>Ir _,Dm,λi hi _=>Lv w o i Dj⟩
def Mu.set(μ:Mu)(k:Nat)(x:Value):Mu:=λj=>if j=k then some x else μ j
theorem SJ{l:Nat}{X A:Nat->Prop}{w:World}{μ:Mu}{own:List Blk}(h:Own l X A w μ own)(v:l<=w.heap.size){k:Nat}{bl:Blk}(z:μ k=none)(B:own[k]?=some bl)(o:Obj)(x:Value)
 (hx:∀b,CA x b->b=w.heap.size) (C:∀c,c=μ.set k x->Keeps w (w.alloc o) (held A μ) (held A c) μ c->CT (w.alloc o) (held A c) c x bl):
 Own l X A (w.alloc o) (μ.set k x) own/\Keeps w (w.alloc o) (held A μ) (held A (μ.set k x)) μ (μ.set k x):=by
 have m:Keeps w (w.alloc o) (held A μ) (held A (μ.set k x)) μ (μ.set k x):=by
  refine⟨Dm,λb d _=>Lv w o b d,λb d n=> ?_,λj y a=> ?_⟩
  .rcases n with n|⟨j,y,hj,a⟩
   .exact .inl n
   .unfold Mu.set at hj;split at hj
    .cases hj;have:=hx _ a;omega
    .exact .inr ⟨j,y,hj,a⟩
  .unfold Mu.set;split
   .subst_vars;rw[z]at a;cases a
   .exact a
 refine⟨⟨λj y hj=> ?_,λj q y r b hj f a s=> ?_,λj y b hj a=> ?_,λb d=>by have:=h.bnd b d;simp;omega⟩,m⟩
 .by_cases e:j=k
  .subst e;have:y=x:=Ek;subst this;exact⟨bl,B,C _ rfl m⟩
  .have f:μ j=some y:=Et;obtain⟨t,E,d⟩:=h.blk j y f;exact⟨t,E,d.keep m (λb F=>Lv w o b (h.rng j y b f F).1)⟩
 .have g:∀j y,Mu.set μ k x j=some y->CA y b->(j=k/\b=w.heap.size)\/(j≠k/\μ j=some y):=by
   intro j y hj a;by_cases e:j=k
   .subst e;have:y=x:=Ek;subst this;exact .inl ⟨rfl,hx _ a⟩
   .exact .inr ⟨e,Et⟩
  rcases g j y hj a with⟨e,eb⟩|⟨e,em⟩<;>rcases g q r f s with⟨u,eb'⟩|⟨u,i⟩
  .rw[e,u]
  .have:=(h.rng q r b i s).1;omega
  .have:=(h.rng j y b em a).1;omega
  .exact h.inj j q y r b em i a s
 .by_cases e:j=k
  .subst e;have:y=x:=Ek;subst this;have:=hx _ a;subst this;exact⟨Dm,λG=>Lg _ (h.bnd _ G),.inl v⟩
  .have f:μ j=some y:=Et;obtain⟨r1,H,I⟩:=h.rng j y b f a;exact⟨Du,H,I⟩
def GT:TypeDesc->Bool
 |.struct _|.array _ _=>true
 |_=>false
section
variable{P:Program}{w:World}
theorem b2t(a:Addr)(us:List Value):∀(i:Nat) (b:Array Value),(∀(j:Nat) (u:Value),us[j]?=some u->w.cell? (a.add (i+j))=some u)->
 (loadCellsFrom a i us.length b).run P w=.ok (b++us.toArray) w:=by
 induction us with
 |nil=>intro i b _;simp[loadCellsFrom]
 |cons u us c=>
  intro i b h;have d:w.cell? (a.add i)=some u:=by simpa using h 0 u rfl
  have:=c (i+1) (b.push u) (λj v hv=>by have:=h (j+1) v Fk;rwa[Kq,Nat.add_comm 1 j]);simp[loadCellsFrom,Go.load,Sem.run,d,this]
theorem b1y(a:Addr)(us:List Value)(n:Nat)(b:us.length=n)(h:∀(j:Nat) (u:Value),us[j]?=some u->w.cell? (a.add j)=some u):
 (loadCells a n).run P w=.ok us.toArray w:=by
 subst b;have:=b2t (P:=P) (w:=w) a us 0 #[] (λj u c=>by simpa using h j u c);simpa[loadCells]using this
theorem Wp{T:TypeId}{d:TypeDesc}(h:P.underlying T=some d):(isAgg T).run P w=.ok (GT d) w:=by cases d<;>simp[isAgg,Jh h,GT]
theorem GX{T:TypeId}{i:TypeInfo}(h:P.info? T=some i):(sizeOf T).run P w=.ok i.size w:=by simp[sizeOf,typeInfo,h]
theorem d7a(a:Addr)(u:Value)(h:w.cell? a=some u):(Go.load a).run P w=.ok u w:=by simp[Go.load,Sem.run,h]
theorem Ta{T:TypeId}{i:TypeInfo}{z:Value}(h:P.info? T=some i)(a:i.zero=some z):(zeroValue T).run P w=.ok z w:=by simp[zeroValue,typeInfo,h,a]
def putRow(w:World)(b:Nat)(vs:List Value)(T:TypeId):World:={w with heap:=w.heap.setIfInBounds b (.cells vs.toArray T (0,0))}
theorem Xb{b:Nat}{vs:List Value}{T:TypeId}(h:b<w.heap.size):(putRow w b vs T).heap[b]?=some (.cells vs.toArray T (0,0)):=by simp[putRow,h]
theorem b0a{b i:Nat}{vs:List Value}{T:TypeId}(h:i≠b):(putRow w b vs T).heap[i]?=w.heap[i]?:=by simp[putRow,L1 (Ne.symm h)]
theorem b1q{b:Nat}{vs:List Value}{T:TypeId}:(putRow w b vs T).heap.size=w.heap.size:=by simp[putRow]
theorem Nz{b:Nat}{c:Array Value}{T:TypeId}{z:Nat×Nat}(h:w.heap[b]?=some (.cells c T z)):b<w.heap.size:=by
 rcases Mg b w.heap.size with a|a
 .exact a
 .rw[Array.getElem?_eq_none a]at h;cases h
theorem Qw{b:Nat}{vs:List Value}{T:TypeId}{z:Nat×Nat}(h:w.heap[b]?=some (.cells vs.toArray T z))(j:Nat):w.cell? ⟨b,j,none⟩=vs[j]?:=by simp[World.cell?,h]
theorem c20{b j:Nat}{vs:List Value}{T:TypeId}{v:Value}(h:w.heap[b]?=some (.cells vs.toArray T (0,0))):w.setCell ⟨b,j,none⟩ v=putRow w b (vs.set j v) T:=by
 have a:=Nz h;unfold World.setCell putRow;congr 1;apply Array.ext_getElem?;intro i;rw[Li,Lx];by_cases e:b=i
 .subst e;rw[Ih rfl,Ih rfl,Ih a,h];simp
 .simp[e]
theorem b8u{b:Nat}{vs us:List Value}{T U:TypeId}:putRow (putRow w b vs T) b us U=putRow w b us U:=by unfold putRow;simp
theorem c27{b:Nat}{vs:List Value}{T:TypeId}(h:w.heap[b]?=some (.cells vs.toArray T (0,0))):putRow w b vs T=w:=by
 have a:=Nz h;unfold putRow;have:w.heap.setIfInBounds b (.cells vs.toArray T (0,0))=w.heap:=by
  apply Array.ext_getElem?;intro i;rw[Lx];by_cases e:b=i
  .subst e;rw[Ih rfl,Ih a,h]
  .simp[e]
 rw[this]
theorem c8i{a:Addr}{v u:Value}(b:v.oneCell'=true)(c:w.cell? a=some u)(d:w.frozen? a=false):(Go.store a v).run P w=.ok () (w.setCell a v):=by have:(Go.store a v).run P w=stored P w a v .plain:=run_store P w a _ _ b;rw[this];simp[stored,c,d]
def OL{α:Type}:List α->List α->List α
 |_::a,u::b=>u::OL a b
 |a,_=>a
def over{α:Type}:List α->Nat->List α->List α
 |a,0,b=>OL a b
 |v::a,n+1,b=>v::over a n b
 | [],_+1,_=>[]
theorem b0b{α:Type}:∀(vs us:List α),(OL vs us).length=vs.length
 | [],us=>F7
 |_::_,[]=>F7
 |_::vs,_::us=>by simp[OL,b0b vs us]
theorem b51{α:Type}:∀(vs us:List α) (j:Nat),us.length<=vs.length->(OL vs us)[j]?=if j<us.length then us[j]? else vs[j]?
 | [],[],j,_=>F7
 | [],_::_,_,h=>Dv
 |_::_,[],j,_=>F7
 |v::vs,u::us,0,_=>F7
 |v::vs,u::us,j+1,h=>by
  simp only[Jy]at h;simp only[OL,Kn,b51 vs us j Dj,Jy];by_cases e:j<us.length
  .rw[Ih e,Ih Dj]
  .rw[Ii e,Ii Dj]
theorem NI{α:Type}(us:List α):∀(vs:List α) (off:Nat),(over vs off us).length=vs.length
 | [],0=>by simp[over,b0b]
 |v::vs,0=>by simp only[over,b0b]
 |v::vs,n+1=>by simp[over,NI us vs n]
 | [],_+1=>by simp[over]
theorem LR{α:Type}(us:List α):∀(vs:List α) (off j:Nat),off+us.length<=vs.length->(over vs off us)[j]?=if off<=j/\j<off+us.length then us[j-off]? else vs[j]?
 |vs,0,j,h=>by
  have e:over vs 0 us=OL vs us:=by cases vs<;>rfl
  rw[e,b51 _ _ _ Dj];by_cases q:j<us.length
  .rw[Ih q,Ih Dj];rfl
  .rw[Ii q,Ii Dj]
 |v::vs,n+1,0,h=>by rw[Ii Dj];rfl
 |v::vs,n+1,j+1,h=>by
  simp only[Jy]at h;simp only[over,Kn,LR us vs n j Dj];by_cases q:n<=j/\j<n+us.length
  .rw[Ih q,Ih Dj,show j+1-(n+1)=j-n from Dj]
  .rw[Ii q,Ii Dj]
 | [],n+1,j,h=>Dv
theorem c6q{α:Type}(vs:List α)(off:Nat)(h:off<=vs.length):over vs off []=vs:=by refine L4 λj=> ?_;rw[LR _ _ _ _ Dr,Ii (by simp<;>omega)]
theorem c1f{α:Type}(u:α)(us vs:List α)(off:Nat)(h:off+(us.length+1)<=vs.length):over vs off (u::us)=over (vs.set off u) (off+1) us:=by
 refine L4 λj=> ?_;rw[LR _ _ _ _ Dr,LR _ _ _ _ Du,List.getElem?_set];simp only[Jy];by_cases e:off=j
 .subst e;rw[Ih Dj,Ii Dj,Ih rfl,Ih Dj];simp
 .by_cases a:off+1<=j/\j<off+1+us.length
  .rw[Ih a,Ih Dj];have:j-off=(j-(off+1))+1:=Dj;rw[this];rfl
  .rw[Ii a,Ii e,Ii Dj]
theorem Vr(b o:Nat)(T:TypeId)(us:List Value):∀(w:World) (vs:List Value) (i:Nat),w.heap[b]?=some (.cells vs.toArray T (0,0))->o+i+us.length<=vs.length->(∀u∈us,u.oneCell'=true)->
 (storeCells ⟨b,o,none⟩ us i).run P w=.ok () (putRow w b (over vs (o+i) us) T):=by
 induction us with
 |nil=>intro w vs i h hl _;rw[c6q _ _ Dx];simp[storeCells,c27 h]
 |cons u us d=>
  intro w vs i h hl a;simp only[Jy]at hl;have e:w.cell? ⟨b,o+i,none⟩=some (vs[o+i]'Dj):=by rw[Qw h];exact Ig Dj
  have f:w.frozen? ⟨b,o+i,none⟩=false:=by simp[World.frozen?,h]
  have c:=c8i (P:=P) (a u Dm) e f;rw[c20 h]at c;have g:=Nz h;have:=d (putRow w b (vs.set (o+i) u) T) (vs.set (o+i) u) (i+1) (Xb g) Du (λx hx=>a x E4);rw[b8u]at this;simp only[storeCells,K9,Ic,c];rw[c1f _ _ _ _ Dj];simpa[Kq]using this
end
theorem Keeps.put{w:World}{A:Nat->Prop}{μ:Mu}{b k:Nat}{x:Value}{vs:List Value}{T:TypeId}(a:μ k=some x)(hx:CA x b):Keeps w (putRow w b vs T) (held A μ) (held A μ) μ μ:=
 ⟨Gc,λc _ d=>b0a (λe=>d (by subst e;exact .inr ⟨k,x,a,hx⟩)),λ_ _ h=>h,λ_ _ h=>h⟩
theorem YN{l:Nat}{X A:Nat->Prop}{w:World}{μ:Mu}{own:List Blk}(h:Own l X A w μ own){k b:Nat}{x:Value}{vs:List Value}{T:TypeId}{bl:Blk}(f:μ k=some x)(hx:CA x b)
 (m:CT (putRow w b vs T) (held A μ) μ x bl):Own l X A (putRow w b vs T) μ (own.set k bl):=by
 have n:Keeps w (putRow w b vs T) (held A μ) (held A μ) μ μ:=Keeps.put f hx;refine⟨λj y a=> ?_,h.inj,λj y c a o=>by rw[b1q];exact h.rng j y c a o,λc g=>by rw[b1q];exact h.bnd c g⟩;by_cases e:j=k
 .subst e;have:y=x:=by rw[f]at a;exact(Jj a).symm
  subst this;obtain⟨d,i,_⟩:=h.blk j y f;have p:j<own.length:=(Ij.1 i).1;exact⟨bl,by simp[p],m⟩
 .obtain⟨d,i,q⟩:=h.blk j y a;refine⟨d,by rw[Iw (Ne.symm e)];exact i,q.keep n (λc g=>b0a (λr=> ?_))⟩;subst r;exact e (h.inj j k y x c a f g hx)
theorem Fr.put{c:Nat}{X:Nat->Prop}{w:World}{b:Nat}{vs:List Value}{T:TypeId}(a:c<=b\/X b):Fr c X w (putRow w b vs T):=
 ⟨rfl,rfl,rfl,λ_=>Ir _,Gc,λi hi d=>b0a (λe=>by subst e;rcases a with a|a;omega;exact d a)⟩
def AD:IntKind->Int->Prop
 |.i8,n=> -128<=n/\n<=127
 |.i16,n=> -32768<=n/\n<=32767
 |.i32,n=> -2147483648<=n/\n<=2147483647
 |.i64,n=> -9223372036854775808<=n/\n<=9223372036854775807
 |.u8,n=>0<=n/\n<=255
 |.u16,n=>0<=n/\n<=65535
 |.u32,n=>0<=n/\n<=4294967295
 |.u64,n=>0<=n/\n<=18446744073709551615
theorem PE{k:IntKind}{n:Int}(h:AD k n):k.wrap n=n:=by cases k<;>simp only[AD]at h<;>simp only[IntKind.wrap,IntKind.bits,IntKind.signed]<;>simp<;>omega
def Sz:Value->SV
 |.int k n=>.int k n
 |.bool b=>.bool b
 |.func (.func f) ⟨[]⟩ ⟨[]⟩=>.clo f []
 |v=>.con v
def f5w:Value->SV
 |.agg a=>.agg (a.toList.map Sz)
 |v=>Sz v
section
variable{w:World}{H:Nat->Prop}{μ:Mu}
theorem c3y(v:Value):D w H μ (Sz v) v:=by
 unfold Sz;split
 .exact .int
 .exact .bool
 .exact .clo [] rfl (λi s v h _=>Dv)
 .exact .con
theorem b3e(vs:List Value):∀(i:Nat) (s:SV) (v:Value),(vs.map Sz)[i]?=some s->vs[i]?=some v->D w H μ s v:=by intro i s v hs a;simp[a]at hs;subst hs;exact c3y v
theorem f3p(v:Value):D w H μ (f5w v) v:=by
 unfold f5w;split
 .rename_i a;obtain⟨a⟩:=a;exact .agg a Dm (b3e a)
 .exact c3y v
end
def SV.isCell:SV->Bool
 |.con v=>v.oneCell'
 |.agg _|.tup _|.any=>false
 |_=>true
def SV.cells:SV->Option (List SV)
 |.agg a=>some a
 |.tup _|.any=>none
 |.con v=>if v.oneCell' then some [.con v]else none
 |s=>some [s]
theorem D.one{w:World}{H:Nat->Prop}{μ:Mu}{s:SV}{v:Value}(h:D w H μ s v)(hc:s.isCell=true):v.oneCell'=true:=by
 cases h with
 |fp h=>
  split at h
  .exact Cc
  .subst h;rfl
 |_=>simp_all[SV.isCell,Value.oneCell']
theorem D.cells{w:World}{H:Nat->Prop}{μ:Mu}{s:SV}{v:Value}{cs:List SV}(h:D w H μ s v)(hc:s.cells=some cs):
 v.cells.toList.length=cs.length/\∀(i:Nat) (t:SV) (u:Value),cs[i]?=some t->v.cells.toList[i]?=some u->D w H μ t u:=by
 have one:∀{s:SV} {v:Value},D w H μ s v->v.cells= #[v]->cs=[s]->v.cells.toList.length=cs.length/\∀(i:Nat) (t:SV) (u:Value),cs[i]?=some t->v.cells.toList[i]?=some u->D w H μ t u:=by
  intro s v c k e;subst e;rw[k];refine⟨rfl,λi t u f j=> ?_⟩;match i with
  |0=>simp at f j;subst f j;exact c
  |i+1=>simp at f
 cases h with
 |agg x d c=>
  simp[SV.cells]at hc;subst hc;exact⟨by simpa[Value.cells]using d,λi t u f j=>c i t u f (by simpa[Value.cells]using j)⟩
 |tup=>simp[SV.cells]at hc
 |any=>simp[SV.cells]at hc
 |ub y z=>exact one (.ub y z) rfl E5
 |con=>
  simp only[SV.cells]at hc;split at hc
  .rename_i y;exact one .con (by cases v<;>simp_all[Value.cells,Value.oneCell']) (by simpa using hc.symm)
  .cases hc
 |int=>exact one .int rfl E5
 |bool=>exact one .bool rfl E5
 |own h=>exact one (.own h) rfl E5
 |osl h=>exact one (.osl h) rfl E5
 |oel h=>exact one (.oel h) rfl E5
 |sl a b o m g l hx A n d c=>exact one (.sl a b o m g l hx A n d c) rfl E5
 |rel b o g B q n d c=>exact one (.rel b o g B q n d c) rfl E5
 |clo x d c=>exact one (.clo x d c) rfl E5
 |omp h=>exact one (.omp h) rfl E5
 |fp h=>
  have k:v.cells= #[v]:=by
   split at h
   .exact Cc
   .subst h;rfl
  exact one (.fp h) k E5
 |mp r g q l d c=>exact one (.mp r g q l d c) rfl E5
theorem flat_len{α:Type}{F:Nat->List α}{sz:Nat}:∀{m k:Nat},(∀i,k<=i->i<k+m->(F i).length=sz)->((List.range' k m).flatMap F).length=m*sz
 |0,_,_=>Dm
 |m+1,k,h=>by rw[List.range'_succ,List.flatMap_cons,Jm,h k (Ir _) Dj,flat_len (m:=m) (k:=k+1) (λi h1 h2=>h i Dj Dj),Ln,Nat.add_comm]
theorem b43{α:Type}{F:Nat->List α}{sz:Nat}:∀{m k x:Nat} {a:α},(∀i,k<=i->i<k+m->(F i).length=sz)->((List.range' k m).flatMap F)[x]?=some a->∃i j,i<m/\j<sz/\x=i*sz+j/\(F (k+i))[j]?=some a
 |0,k,x,a,_,h=>Dv
 |m+1,k,x,a,b,h=>by
  rw[List.range'_succ,List.flatMap_cons]at h;have c:=b k (Ir _) Dj;by_cases hx:x<sz
  .rw[It Dj]at h;exact⟨0,x,Dj,hx,Dj,h⟩
  .rw[Iz Dj,c]at h;obtain⟨i,j,hi,d,e,f⟩:=b43 (m:=m) (k:=k+1) (λi h1 h2=>b i Dj Dj) h;refine⟨i+1,j,Dj,d,?_,by rw[show k+(i+1)=k+1+i from Dj];exact f⟩;rw[Ln];omega
def UB(own:List Blk)(n:Nat):SV->Option (List SV)
 |.own k a=>match own[k]? with
  |some (.cells _ d)=>if a+n<=d.length then some ((d.drop a).take n)else none
  |_=>none
 |.rel c m f i a=>if a+n<=(f i).length then some (((f i).drop a).take n)else if i=0/\a=0/\n=m*c then some ((List.range' 0 m).flatMap f)else none
 |.oel k c i a=>match own[k]? with
  |some (.row _ b _ f _)=>if c=b/\a+n<=c then some (((f i).drop a).take n)else none
  |some (.rowh _ b _ _ _ _ u)=>if c=b/\a+n<=c then some ((u.drop a).take n)else none
  |_=>none
 |_=>none
def Ug(own:List Blk):SV->Prop
 |.oel k _ i _=>match own[k]? with
  |some (.row _ _ n _ _)=>i<n
  |some (.rowh _ _ _ _ _ a _)=>i=a
  |_=>False
 |_=>True
section
variable{B0:Nat}{X A:Nat->Prop}{w:World}{μ:Mu}{own ownN:List Blk}
theorem GJ{α:Type}{l:List α}{off n j:Nat}{s:α}(h:((l.drop off).take n)[j]?=some s):j<n/\l[off+j]?=some s:=by
 rw[List.getElem?_take]at h;split at h
 .rename_i a;exact⟨a,Dr⟩
 .cases h
theorem c8e(O:Own B0 X A w μ ownN)(P:∀(k:Nat) (bl:Blk),own[k]?=some bl->ownN[k]?=some bl){p:SV}{v:Value}{n:Nat}{cs:List SV}
 (hd:D w (held A μ) μ p v) (d:UB own n p=some cs) (z:Ug own p):
 ∃(a:Addr) (us:List Value),v=.pointer (some a)/\a.spot=none/\us.length=n/\cs.length=n/\(∀(j:Nat) (u:Value),us[j]?=some u->w.cell? (a.add j)=some u)/\
  ∀(i:Nat) (s:SV) (u:Value),cs[i]?=some s->us[i]?=some u->D w (held A μ) μ s u:=by
 cases hd with
 |own h=>
  rename_i k l b;simp only[UB]at d;split at d
  .rename_i T cs0 t;split at d
   .rename_i B;simp only[J8]at d;subst d;obtain⟨bl,e,I⟩:=O.blk k _ h;rw[P _ _ t]at e;cases e;obtain⟨V,C,E,hh,H,K,F⟩:=I;cases E;refine⟨⟨b,l,none⟩,(C.drop l).take n,rfl,rfl,Du,Du,λj u r=> ?_,λi s u hs r=> ?_⟩
    .obtain⟨_,gc⟩:=GJ r;exact Cd
    .obtain⟨_,hs'⟩:=GJ hs;obtain⟨_,gc⟩:=GJ r;exact F _ _ _ hs' gc
   .cases d
  .cases d
 |rel b o g L hb W H F=>
  rename_i q Q i l f;simp only[UB]at d;split at d
  .rename_i B;simp only[J8]at d;subst d;have Z4:=(H i L).1;refine⟨⟨b,o+i*q+l,none⟩,((List.range q).map (g i) |>.drop l).take n,rfl,rfl,Du,Du,λj u r=> ?_,λj s u hs r=> ?_⟩
   .obtain⟨_,gc⟩:=GJ r;simp only[I2]at gc;obtain⟨x,hx,e⟩:=gc;have cw:x=l+j/\l+j<q:=by
     rw[Ij]at hx;obtain⟨G,y⟩:=hx;simp at G y;exact⟨y.symm,G⟩
    obtain⟨rfl,G⟩:=cw;rw[K9,<-e,<-(W.2 i (l+j) L G).1];simp[Kq]
   .obtain⟨_,hs'⟩:=GJ hs;obtain⟨_,gc⟩:=GJ r;simp only[I2]at gc;obtain⟨x,hx,e⟩:=gc;rw[Ij]at hx;obtain⟨G,y⟩:=hx;simp at y;subst y e;exact F i _ _ L hs'
  .split at d
   .rename_i hw;obtain⟨rfl,rfl,rfl⟩:=hw;simp only[J8]at d;subst d;have R:∀i,0<=i->i<0+Q->((List.range q).map (g i)).length=q:=λi _ _=>Dm;have Y:∀i,0<=i->i<0+Q->(f i).length=q:=λi _ h=>(H i Dj).1;refine⟨⟨b,o+0*q+0,none⟩,(List.range' 0 Q).flatMap λi=>(List.range q).map (g i),rfl,rfl,flat_len R,flat_len Y,λj u r=> ?_,λj s u hs r=> ?_⟩
    .obtain⟨i,k,S,t,rfl,e⟩:=b43 R r;simp only[Ki,I2]at e;obtain⟨x,hx,rfl⟩:=e;have:x=k:=by
      rw[Ij]at hx;obtain⟨G,y⟩:=hx;simp at y;exact y.symm
     subst this;rw[K9,<-(W.2 i x S t).1];congr 2;omega
    .obtain⟨i,k,S,t,E,e⟩:=b43 R r;obtain⟨M,k2,br,dw,N,Z⟩:=b43 Y hs;have J:i=M/\k=k2:=by
      have K:(i*q+k)/q=i:=by rw[Lp,Nat.mul_add_div Dj,Nat.div_eq_of_lt t,L7]
      have h2:(M*q+k2)/q=M:=by rw[Lp,Nat.mul_add_div Dj,Nat.div_eq_of_lt dw,L7]
      have h3:i=M:=by rw[<-K,<-h2,<-E,<-N]
      subst h3;exact⟨rfl,Dj⟩
     obtain⟨rfl,rfl⟩:=J;simp only[Ki,I2]at e Z;obtain⟨x,hx,rfl⟩:=e;have:x=k:=by rw[Ij]at hx;obtain⟨G,y⟩:=hx;simp at y;exact y.symm
     subst this;exact F i x s S Z
   .cases d
 |oel h=>
  rename_i k q i l b o n1 m1;simp only[UB]at d;simp only[Ug]at z;split at d
  .rename_i T U n' f c t;rw[t]at z;simp only at z;split at d
   .rename_i B;obtain⟨rfl,B⟩:=B;simp only[J8]at d;subst d;obtain⟨bl,e,I⟩:=O.blk k _ h;rw[P _ _ t]at e;cases e;obtain⟨a,m,E,hn,hm,hc,H,bb⟩:=I;cases E;rcases bb with N|⟨V,o',C,c7,N,hh,ho,K,F⟩
    .omega
    cases N;have Z4:=(H i z).1;have gy:o+i*q+q<=C.length:=by have:i*q+q<=m1*q:=Hq;omega
    refine⟨⟨b,o+i*q+l,none⟩,(C.drop (o+i*q+l)).take n,rfl,rfl,Du,Du,λj u r=> ?_,λj s u hs r=> ?_⟩
    .obtain⟨_,gc⟩:=GJ r;exact Cd
    .obtain⟨_,hs'⟩:=GJ hs;obtain⟨_,gc⟩:=GJ r;exact F i _ _ _ z hs' (by rw[<-gc];congr 1;omega)
   .cases d
  .rename_i T U n' f c i' u0 t;rw[t]at z;simp only at z;split at d
   .rename_i B;obtain⟨rfl,B⟩:=B;simp only[J8]at d;subst d;subst z;obtain⟨bl,e,I⟩:=O.blk k _ h;rw[P _ _ t]at e;cases e;obtain⟨V,o',m',C,E,hn,hm,hc,L,vg,H,hh,ho,K,F,Z5⟩:=I;cases E;have gy:o+i*q+q<=C.length:=by
     have:i*q+q<=m1*q:=Hq;omega
    refine⟨⟨b,o+i*q+l,none⟩,(C.drop (o+i*q+l)).take n,rfl,rfl,Du,Du,λj u r=> ?_,λj s u hs r=> ?_⟩
    .obtain⟨_,gc⟩:=GJ r;exact Cd
    .obtain⟨_,hs'⟩:=GJ hs;obtain⟨_,gc⟩:=GJ r;exact Z5 _ _ _ hs' (by rw[<-gc];congr 1;omega)
   .cases d
  .cases d
 |_=>simp[UB]at d
end
def HT(P:Program)(T:TypeId):Option Bool:=(P.underlying T).map GT
def CH(P:Program)(T:TypeId):Option Nat:=(P.info? T).map (·.size)
def TL(P:Program)(T:TypeId)(cs:List SV):Option SV:=
 match HT P T,cs with
 |some true,cs=>some (.agg cs)
 |some false,[s]=>some s
 |_,_=>none
def Sf(P:Program)(own:List Blk)(T:TypeId)(p:SV):Option (Prop×SV):=do
 let n<-CH P T
 let a<-UB own n p
 let s<-TL P T a
 some (Ug own p,s)
def c6d(P:Program)(T:TypeId)(f:Nat):Option (Nat×TypeId×Nat):=
 match P.underlying T with
 |some (.struct b)=>match b[f]? with
  |some a=>(CH P a.type).map λn=>(a.offset,a.type,n)
  |none=>none
 |_=>none
def SV.plus(off:Nat):SV->Option SV
 |.own k o=>some (.own k (o+off))
 |.oel k a i o=>some (.oel k a i (o+off))
 |.rel a n f i o=>some (.rel a n f i (o+off))
 |_=>none
def b1r(P:Program)(T:TypeId)(f:Nat)(p:SV):Option (Prop×SV):=do
 let (off,_,n)<-c6d P T f
 if n=0 then none else
 let s<-p.plus off
 some (True,s)
def c30(P:Program)(T:TypeId)(f:Nat)(x:SV):Option (Prop×SV):=do
 let (off,U,n)<-c6d P T f
 match x with
 |.agg a=>if off+n<=a.length then(TL P U ((a.drop off).take n)).map λs=>(True,s)else none
 |_=>none
section
variable{P:Program}{B0:Nat}{X A:Nat->Prop}{w:World}{μ:Mu}{own ownN:List Blk}
theorem XQ{H:Nat->Prop}{T:TypeId}{cs:List SV}{us:List Value}{s:SV}(hs:TL P T cs=some s)(a:us.length=cs.length)(b:∀(i:Nat) (s:SV) (u:Value),cs[i]?=some s->us[i]?=some u->D w H μ s u):
 ∃d,P.underlying T=some d/\((GT d=true/\D w H μ s (.agg us.toArray))\/(GT d=false/\∃u,us=[u]/\D w H μ s u)):=by
 unfold TL HT at hs;cases hu:P.underlying T with
 |none=>simp[hu]at hs
 |some d=>
  refine⟨d,rfl,?_⟩;simp only[hu,Ju]at hs;cases hb:GT d with
  |true=>
   rw[hb]at hs;simp at hs;subst hs;exact .inl ⟨rfl,.agg us a b⟩
  |false=>
   rw[hb]at hs;match cs,us,a,hs with
   | [t],[u],_,hs=>
     simp at hs;subst hs;exact .inr ⟨rfl,u,rfl,b 0 t u rfl rfl⟩
   | [],_,_,hs=>simp at hs
   |_::_::_,_,_,hs=>simp at hs
   | [t],[],a,_=>simp at a
   | [t],_::_::_,a,_=>simp at a
theorem b2z(i:Own B0 X A w μ ownN)(j:∀(k:Nat) (bl:Blk),own[k]?=some bl->ownN[k]?=some bl){T:TypeId}{p s:SV}{v:Value}{b:Prop}
 (l:D w (held A μ) μ p v) (e:Sf P own T p=some (b,s)) (m:b):∃u,(Instr.loadAt T v).run P w=.ok u w/\D w (held A μ) μ s u:=by
 simp only[Sf,CH,I5,Hx,J8]at e;obtain⟨n,⟨c,o,rfl⟩,cs,q,s',hs,rfl,rfl⟩:=e;obtain⟨a,r,rfl,_,t,fh,f,x⟩:=c8e i j l q m;obtain⟨d,g,h|h⟩:=XQ hs Dj x
 .refine⟨_,?_,h.2⟩;simp[Instr.loadAt,Instr.sureAddr,loadVar,Wp g,h.1,GX o,b1y a r c.size t f]
 .obtain⟨y,u,rfl,z⟩:=h;refine⟨u,?_,z⟩;have B:w.cell? a=some u:=by have:=f 0 u rfl;rwa[Addr.add_zero']at this
  simp only[Instr.loadAt,Instr.sureAddr,loadVar,Hz,Wp g,y];simpa using d7a a u B
theorem c7x{H:Nat->Prop}{off:Nat}{p s:SV}{v:Value}(c:D w H μ p v)(hs:p.plus off=some s):∃a,v=.pointer (some a)/\a.spot=none/\D w H μ s (.pointer (some (a.add off))):=by
 cases c<;>simp[SV.plus]at hs
 case own h=>subst hs;exact⟨_,rfl,rfl,by rw[K9];exact .own h⟩
 case oel h=>subst hs;exact⟨_,rfl,rfl,by rw[K9,Kq];exact .oel h⟩
 case rel b o g d e f i j=>subst hs;exact⟨_,rfl,rfl,by rw[K9,Kq];exact .rel b o g d e f i j⟩
theorem b3a{T:TypeId}{f off n:Nat}{U:TypeId}(h:c6d P T f=some (off,U,n)):∃c b a,P.underlying T=some (.struct c)/\c[f]?=some b/\P.info? U=some a/\a.size=n/\b.type=U/\b.offset=off:=by
 unfold c6d CH at h;split at h
 .rename_i c d;split at h
  .rename_i b e;simp only[Hx]at h;obtain⟨_,⟨a,g,rfl⟩,rfl,rfl,rfl⟩:=h;exact⟨c,b,a,d,e,g,rfl,rfl,rfl⟩
  .cases h
 .cases h
theorem b5x{H:Nat->Prop}{T:TypeId}{f:Nat}{p s:SV}{v:Value}{c:Prop}(d:D w H μ p v)(b:b1r P T f p=some (c,s)):∃u,(Instr.fieldAt T v f).run P w=.ok u w/\D w H μ s u:=by
 simp only[b1r,I5]at b;obtain⟨⟨off,U,n⟩,e,b⟩:=b;simp only at b;split at b
 .cases b
 rename_i g;simp only[Ip,Hy]at b;obtain⟨s',hs,rfl,rfl⟩:=b;obtain⟨fs,fd,inf,h,i,j,rfl,rfl,rfl⟩:=b3a e;obtain⟨a,rfl,_,k⟩:=c7x d hs;refine⟨_,?_,k⟩;simp[Instr.fieldAt,Jh h,i,Instr.sureAddr,fieldPlace,GX j,g]
theorem c3a{H:Nat->Prop}{T:TypeId}{f:Nat}{x s:SV}{v:Value}{j:Prop}(m:D w H μ x v)(a:c30 P T f x=some (j,s)):∃u,(Instr.field T v f).run P w=.ok u w/\D w H μ s u:=by
 simp only[c30,I5]at a;obtain⟨⟨off,U,n⟩,o,a⟩:=a;obtain⟨fs,c,b,k,l,q,rfl,rfl,rfl⟩:=b3a o;simp only at a;split at a
 .rename_i cs;split at a
  .rename_i cy;simp only[Hx]at a;obtain⟨s',hs,rfl,rfl⟩:=a;cases m with
   |agg e hl r=>
    obtain⟨d,g,h|h⟩:=XQ (w:=w) (H:=H) (μ:=μ) (us:=(e.drop c.offset).take b.size) hs Du (λi s u hs g=>by obtain⟨_,hs'⟩:=GJ hs;obtain⟨_,t⟩:=GJ g;exact r _ _ _ hs' t)
    .refine⟨_,?_,h.2⟩;have a:e.toArray.extract c.offset (c.offset+b.size)=((e.drop c.offset).take b.size).toArray:=by
      simp[List.take_drop]
     simp only[Instr.field,Hz,Jh k,l,asAgg,part,Wp g,h.1,Jv,GX q,a]
    .obtain⟨y,u,z,A⟩:=h;refine⟨u,?_,A⟩;have B:e[c.offset]?=some u:=by
      have:((e.drop c.offset).take b.size)[0]?=some u:=by rw[z];rfl
      simpa using(GJ this).2
     simp only[Instr.field,Hz,Jh k,l,asAgg,part,Wp g,y,I4];simp[B]
  .cases a
 .cases a
end
def f2m(d:BinOp)(x y:SV):Option (Prop×SV):=
 match d,x,y with
 |.add,.int k a,.int c b=>if k=c then some (AD k (a+b),.int k (a+b))else none
 |.sub,.int k a,.int c b=>if k=c then some (AD k (a-b),.int k (a-b))else none
 |.mul,.int k a,.int c b=>if k=c then some (AD k (a*b),.int k (a*b))else none
 |.quo,.int k a,.int c b=>if k=c then some (b≠0/\AD k (a.tdiv b),.int k (a.tdiv b))else none
 |.rem,.int k a,.int c b=>if k=c then some (b≠0,.int k (a.tmod b))else none
 |.eql,.int k a,.int c b=>if k=c then some (True,.bool (decide (a=b)))else none
 |.neq,.int k a,.int c b=>if k=c then some (True,.bool (!decide (a=b)))else none
 |.lss,.int k a,.int c b=>if k=c then some (True,.bool (decide (a<b)))else none
 |.leq,.int k a,.int c b=>if k=c then some (True,.bool (decide (a<=b)))else none
 |.gtr,.int k a,.int c b=>if k=c then some (True,.bool (decide (b<a)))else none
 |.geq,.int k a,.int c b=>if k=c then some (True,.bool (decide (b<=a)))else none
 |_,_,_=>none
section
variable{P:Program}{w:World}{H:Nat->Prop}{μ:Mu}
theorem d3k{d:BinOp}{T:TypeId}{xo yo:Operand}{x y s:SV}{v u:Value}{b:Prop}(hx:D w H μ x v)(e:D w H μ y u)(c:f2m d x y=some (b,s))(a:b):
 ∃r,(do eqGuard d T xo yo v u;binOp d T v u).run P w=.ok r w/\D w H μ s r:=by
 unfold f2m at c;split at c<;>(try cases c)
 all_goals
  cases hx;cases e;split at c<;>(try cases c)
  rename_i f;subst f
 case h_1=>refine⟨_,?_,.int⟩;simp[go_sem,PE a]
 case h_2=>refine⟨_,?_,.int⟩;simp[go_sem,PE a]
 case h_3=>refine⟨_,?_,.int⟩;simp[go_sem,PE a]
 case h_4=>refine⟨_,?_,.int⟩;simp[go_sem,PE a.2,a.1]
 case h_5=>refine⟨_,?_,.int⟩;simp[go_sem,show¬_ from a]
 case h_6=>refine⟨_,?_,.bool⟩;simp[go_sem];rfl
 case h_7=>refine⟨_,?_,.bool⟩;simp[go_sem];rfl
 case h_8=>refine⟨_,?_,.bool⟩;simp[go_sem]
 case h_9=>refine⟨_,?_,.bool⟩;simp[go_sem]
 case h_10=>refine⟨_,?_,.bool⟩;simp[go_sem]
 case h_11=>refine⟨_,?_,.bool⟩;simp[go_sem]
def evUn(c:UnOp)(x:SV):Option (Prop×SV):=
 match c,x with
 |.neg,.int k a=>some (AD k (-a),.int k (-a))
 |.not,.bool b=>some (True,.bool (!b))
 |_,_=>none
theorem d51{c:UnOp}{x s:SV}{v:Value}{a:Prop}(hx:D w H μ x v)(b:evUn c x=some (a,s))(d:a):∃r,(Op.unary c v).run P w=.ok r w/\D w H μ s r:=by
 unfold evUn at b;split at b
 .cases hx;cases b;refine⟨_,?_,.int⟩;simp[Op.unary,go_sem,PE d]
 .cases hx;cases b;refine⟨_,?_,.bool⟩;simp[Op.unary]
 .cases b
def d46(P:Program)(S T:TypeId)(x:SV):Option (Prop×SV):=
 match P.underlying S,P.underlying T,x with
 |some _,some (.int k),.int _ n=>some (AD k n,.int k n)
 |_,_,_=>none
theorem c8f{S T:TypeId}{x s:SV}{v:Value}{a:Prop}(hx:D w H μ x v)(b:d46 P S T x=some (a,s))(f:a):∃r,(convert S T v).run P w=.ok r w/\D w H μ s r:=by
 unfold d46 at b;split at b
 .rename_i d k g n h c;cases b;cases hx;refine⟨_,?_,.int⟩;have e:P.intKind T=k:=by simp[Program.intKind,c]
  have:=run_convert_int (P:=P) w S T g n (by simp[h]) (by rw[e];exact c);rw[this,e,PE f]
 .cases b
def b4t(x:SV)(i:Nat):Option (Prop×SV):=
 match x with
 |.tup a=>(a[i]?).map λs=>(True,s)
 |_=>none
theorem b80{x s:SV}{v:Value}{i:Nat}{b:Prop}(hx:D w H μ x v)(a:b4t x i=some (b,s)):∃r,(Instr.extract v i).run P w=.ok r w/\D w H μ s r:=by
 unfold b4t at a;split at a
 .rename_i vs;simp only[Hx]at a;obtain⟨s',hs,rfl,rfl⟩:=a;cases hx with
  |tup c e f=>
   have d:i<c.length:=by rw[e];exact(Ij.1 hs).1
   refine⟨c[i],?_,f i _ _ hs (Ig d)⟩;simp[Instr.extract,d]
 .cases a
def UZ(own:List Blk):SV->Option Nat
 |.con (.slice none 0 0)=>some 0
 |.sl _ n _ _=>some n
 |.osl k=>match own[k]? with
  |some (.row _ _ n _ _)=>some n
  |_=>none
 |_=>none
def TM(own:List Blk):SV->Option Nat
 |.con (.slice none 0 0)=>some 0
 |.sl _ _ _ c=>c
 |.osl k=>match own[k]? with
  |some (.row _ _ _ _ c)=>c
  |_=>none
 |_=>none
theorem c1t{l:Nat}{X A:Nat->Prop}{own i:List Blk}(q:Own l X A w μ i)(r:∀(k:Nat) (bl:Blk),own[k]?=some bl->i[k]?=some bl){x:SV}{v:Value}{n:Nat}
 (hx:D w (held A μ) μ x v) (d:UZ own x=some n):∃a m,v=.slice a n m/\n<=m/\m<=maxLen:=by
 cases hx with
 |sl a b o m g j hx hc b7 hl hd=>simp[UZ]at d;subst d;exact⟨a,m,rfl,j,hx⟩
 |osl h=>
  simp only[UZ]at d;split at d
  .rename_i T sz n' f c s;simp only[J8]at d;subst d;obtain⟨bl,e,t⟩:=q.blk _ _ h;rw[r _ _ s]at e;cases e;obtain⟨a,m,u,y,j,_⟩:=t;cases u;exact⟨_,_,rfl,y,j⟩
  .cases d
 |con=>
  unfold UZ at d;split at d<;>first
   |(rename_i z;cases z;cases d;exact⟨none,0,rfl,Ir _,Eu⟩)
   |simp_all
 |_=>simp[UZ]at d
theorem c3n{l:Nat}{X A:Nat->Prop}{own j:List Blk}(p:Own l X A w μ j)(q:∀(k:Nat) (bl:Blk),own[k]?=some bl->j[k]?=some bl){x:SV}{v:Value}{m:Nat}
 (hx:D w (held A μ) μ x v) (d:TM own x=some m):∃a n,v=.slice a n m:=by
 cases hx with
 |sl a b o r g s hx i b7 hl hd=>
  rename_i t n f c;simp only[TM]at d;rcases i with i|i
  .rw[i]at d;cases d
  .rw[i]at d;cases d;exact⟨a,n,rfl⟩
 |osl h=>
  simp only[TM]at d;split at d
  .rename_i T t n' f c u;subst d;obtain⟨bl,e,y⟩:=p.blk _ _ h;rw[q _ _ u]at e;cases e;obtain⟨a,r,z,hn,s,i,_⟩:=y;cases z;rcases i with i|i
   .cases i
   .cases i;exact⟨_,_,rfl⟩
  .cases d
 |con=>
  unfold TM at d;split at d<;>first
   |(rename_i B;cases B;cases d;exact⟨none,0,rfl⟩)
   |simp_all
 |_=>simp[TM]at d
def NG(P:Program)(T:TypeId):Option TypeId:=match P.underlying T with
 |some (.slice e)=>some e
 |_=>none
theorem On{T e:TypeId}(h:NG P T=some e):P.underlying T=some (.slice e):=by unfold NG at h;split at h<;>simp_all
def b5a(P:Program)(own:List Blk)(b:Builtin)(ts:List TypeId)(xs:List SV):Option (Prop×SV):=
 match b,ts,xs with
 |.len,[T],[x]=>match NG P T with
  |some _=>(UZ own x).map λ(n:Nat)=>(True,.int .i64 (n:Int))
  |none=>none
 |.cap,[T],[x]=>match NG P T with
  |some _=>(TM own x).map λ(n:Nat)=>(True,.int .i64 (n:Int))
  |none=>none
 |.min,_,[.int k a,.int _ b]=>some (True,.int k (min a b))
 |.max,_,[.int k a,.int _ b]=>some (True,.int k (max a b))
 |_,_,_=>none
theorem d6c(k c:IntKind)(a b:Int)(ts:Array TypeId)(ty:TypeId):(Builtin.min_ ts ty #[.int k a,.int c b]).run P w=.ok (.int k (min a b)) w:=by
 simp only[Builtin.min_];have:(if b<a then b else a)=min a b:=by split<;>omega
 simp[Builtin.min2,this]
theorem d8v(k c:IntKind)(a b:Int)(ts:Array TypeId)(ty:TypeId):(Builtin.max_ ts ty #[.int k a,.int c b]).run P w=.ok (.int k (max a b)) w:=by
 simp only[Builtin.max_];have:(if b>a then b else a)=max a b:=by split<;>omega
 simp[Builtin.max2,this]
def UN(k:IntKind):List SV->Option (List Int)
 | []=>some []
 |.int a n::r=>if k=a then(UN k r).map (n:: ·)else none
 |_=>none
theorem b4c{k:IntKind}:∀{l:List SV} {a:List Int},UN k l=some a->l=a.map (SV.int k)
 | [],a,h=>by simp[UN]at h;simp[h]
 |.int k' n::r,a,h=>by
  simp only[UN]at h;split at h
  .rename_i e;subst e;rw[In]at h;obtain⟨ms,b,rfl⟩:=h;rw[b4c b];rfl
  .cases h
 |.bool _::_,_,h|.con _::_,_,h|.own _ _::_,_,h|.osl _::_,_,h|.oel _ _ _ _::_,_,h|.sl _ _ _ _::_,_,h|.rel _ _ _ _ _::_,_,h|.agg _::_,_,h|.tup _::_,_,h|.clo _ _::_,_,h|.any::_,_,h=>by simp[UN]at h
def f84:List SV->Option (Nat->SV)
 |.int k n::r=>(UN k (.int k n::r)).map λa j=>.int k (a.getD j 0)
 |_=>none
theorem c81{l:List SV}{f:Nat->SV}(h:f84 l=some f):∀j s,l[j]?=some s->f j=s/\s.pure=true:=by
 unfold f84 at h;split at h
 .rename_i k n r;rw[In]at h;obtain⟨ns,a,rfl⟩:=h;have e:=b4c a;intro j s hs;rw[e,Jb,In]at hs;obtain⟨m,b,rfl⟩:=hs;exact⟨by simp[b],rfl⟩
 .cases h
def Vq(l:List SV)(sz:Nat):Nat->Nat->List SV
 |_,0=>[]
 |a,n+1=>l.getD a .any::Vq l sz (a+sz) n
theorem b67{l:List SV}{sz:Nat}:∀{n off j:Nat},j<n->(Vq l sz off n)[j]?=some (l.getD (off+j*sz) .any)
 |n+1,off,0,_=>by simp[Vq]
 |n+1,off,j+1,h=>by simp only[Vq,Kn];rw[b67 Dj];congr 2;rw[Ln];omega
def WJ(l:List SV)(off sz len:Nat):Nat->Option (List (Nat->SV))
 |0=>some []
 |c+1=>(WJ l off sz len c).bind λa=>(f84 (Vq l sz (off+c) len)).map λf=>a++[f]
theorem b4v{l:List SV}{off sz len:Nat}:∀{c:Nat} {fs:List (Nat->SV)},WJ l off sz len c=some fs->fs.length=c/\∀(i j:Nat) (s:SV),i<c->j<len->l[off+j*sz+i]?=some s->(fs.map (· j))[i]?=some s/\s.pure=true
 |0,fs,h=>by simp[WJ]at h;subst h;exact⟨rfl,λi j s k=>Dj⟩
 |c+1,fs,h=>by
  simp only[WJ,Ip,In]at h;obtain⟨cs,m,f,n,rfl⟩:=h;obtain⟨h1,o⟩:=b4v m;refine⟨E9,λi j s k d hs=> ?_⟩;by_cases e:i=c
  .subst e;have g:=b67 (l:=l) (sz:=sz) (off:=off+i) d;have q:off+i+j*sz=off+j*sz+i:=Dj;rw[q,If,hs]at g;obtain⟨a,b⟩:=c81 n j s g;refine⟨?_,b⟩;rw[L5,Iz E9];simp[h1,a]
  .obtain⟨a,b⟩:=o i j s Dj d hs;refine⟨?_,b⟩;rw[L5,It (by simp[h1];omega)];exact a
def b1p(P:Program)(own:List Blk)(T:TypeId)(x i:SV):Option (Prop×SV):=
 match i with
 |.int _ n=>match P.underlying T with
  |some (.slice e)=>match x with
   |.sl a len f _=>if CH P e=some a\/len=0 then some (0<=n/\n<len,.rel a len f n.toNat 0)else none
   |.osl k=>match own[k]? with
    |some (.row _ a len _ _)=>if CH P e=some a then some (0<=n/\n<len,.oel k a n.toNat 0)else none
    |some (.rowh _ a len _ _ _ _)=>if CH P e=some a then some (0<=n/\n<len,.oel k a n.toNat 0)else none
    |_=>none
   |_=>none
  |some (.array len e)=>match x with
   |.rel d c f j b=>match CH P e with
    |some a=>if a=d then(if len=c/\j=0/\b=0 then some (0<=n/\n<len,.rel a len f n.toNat 0)else none)else if b+len*a<=(f j).length then(WJ (f j) b a len a).map λg=>(0<=n/\n<len,.rel a len (λj=>g.map (· j)) n.toNat 0)else none
    |none=>none
   |.own k b=>match CH P e with
    |some a=>if n.toNat<len then some (0<=n,.own k (b+n.toNat*a))else none
    |none=>none
   |_=>none
  |_=>none
 |_=>none
theorem b4q{B0:Nat}{X A:Nat->Prop}{own E:List Blk}(hO:Own B0 X A w μ E)(be:∀(k:Nat) (bl:Blk),own[k]?=some bl->E[k]?=some bl){T:TypeId}{x i s:SV}{v u:Value}{H:Prop}
 (hx:D w (held A μ) μ x v) (hi:D w (held A μ) μ i u) (d:b1p P own T x i=some (H,s)) (I:H):∃r,(Instr.indexAt T v u).run P w=.ok r w/\D w (held A μ) μ s r:=by
 unfold b1p at d;split at d;rotate_left
 .cases d
 rename_i ki n;cases hi;split at d
 .rename_i e hT;have jx:P.elem T=e:=Fm;split at d
  .rename_i J len f c;split at d;rotate_left
   .cases d
   rename_i q;simp only[Hy]at d;obtain⟨rfl,rfl⟩:=d;have R:n.toNat<len:=Dj;have q:CH P e=some J:=by rcases q with h|h;exact h;omega
   simp only[CH,In]at q;obtain⟨l,y,rfl⟩:=q;cases hx with
   |sl a b o m g hm gz t b7 F K=>
    obtain⟨rfl,L,G⟩:=b7 Dj;refine⟨_,?_,.rel (off:=0) b o g R L G F K⟩;rw[run_indexAt_slice w T _ _ _ _ _ (by rw[jx];exact hT),Ih I,jx,GX y];simp[K9]
  .rename_i k;split at d
   .rename_i T' J len f c S;split at d;rotate_left
    .cases d
    rename_i q;simp only[Hy]at d;obtain⟨rfl,rfl⟩:=d;simp only[CH,In]at q;obtain⟨l,y,rfl⟩:=q;cases hx with
    |osl h=>
     obtain⟨bl,M,U⟩:=hO.blk _ _ h;rw[be _ _ S]at M;cases M;obtain⟨a,m',B,R,hm,t,F,bb⟩:=U;cases B;rcases bb with rfl|⟨b,o,vs,c7,rfl,hh,ho,h1,hD⟩
     .omega
     refine⟨_,?_,.oel (off:=0) h⟩;rw[run_indexAt_slice w T _ _ _ _ _ (by rw[jx];exact hT),Ih I,jx,GX y];simp[K9]
   .rename_i T' J len f c i' u S;split at d;rotate_left
    .cases d
    rename_i q;simp only[Hy]at d;obtain⟨rfl,rfl⟩:=d;simp only[CH,In]at q;obtain⟨l,y,rfl⟩:=q;cases hx with
    |osl h=>
     obtain⟨bl,M,U⟩:=hO.blk _ _ h;rw[be _ _ S]at M;cases M;obtain⟨b,o,m',vs,B,R,hm,t,b8,hu,F,hh,ho,h1,hD,Z5⟩:=U;cases B;refine⟨_,?_,.oel (off:=0) h⟩;rw[run_indexAt_slice w T _ _ _ _ _ (by rw[jx];exact hT),Ih I,jx,GX y];simp[K9]
   .cases d
  .cases d
 .rename_i len e hT;have jx:P.elem T=e:=Fm;have we:P.arrayLen T=len:=by simp[Program.arrayLen,hT]
  split at d
  .rename_i C len0 f j off;split at d;rotate_left
   .cases d
   rename_i J q;split at d
   .rename_i V;subst V;split at d;rotate_left
    .cases d
    rename_i t;obtain⟨rfl,rfl,rfl⟩:=t;simp only[Hy]at d;obtain⟨rfl,rfl⟩:=d;simp only[CH,In]at q;obtain⟨l,y,rfl⟩:=q;cases hx with
    |rel b o g hi L G F K=>
     refine⟨_,?_,.rel (off:=0) b o g Dj L G F K⟩;rw[run_indexAt_array w T _ _ _ Gd,Ih (by rw[we];exact I),jx,GX y];simp[K9]
   split at d;rotate_left
   .cases d
   rename_i bf;simp only[Hx]at d;obtain⟨fs,kx,rfl,rfl⟩:=d;simp only[CH,In]at q;obtain⟨l,y,rfl⟩:=q;obtain⟨W,c2⟩:=b4v kx;cases hx with
   |rel b o g Y L G F K=>
    have hlj:=(F j Y).1;have N:∀(a c:Nat),a<len->c<l.size->off+a*l.size+c<C:=by intro a c z t;have:(a+1)*l.size<=len*l.size:=Js _ z;rw[Ln]at this;omega
    have O:∀(a c:Nat),a<len->c<l.size->∃s,(f j)[off+a*l.size+c]?=some s:=by intro a c z t;have:=N a c z t;exact⟨_,Ig Dj⟩
    refine⟨_,?_,.rel (off:=0) b (o+j*C+off) (λa c=>g j (off+a*l.size+c)) Dj L ⟨G.1,λa c z t=> ?_⟩ (λa z=>⟨by simp[W],?_⟩) (λa c s z hs=> ?_)⟩
    .rw[run_indexAt_array w T _ _ _ Gd,Ih (by rw[we];exact I),jx,GX y];simp[K9]
    .have:=G.2 j _ Y (N a c z t);rw[show o+j*C+off+a*l.size+c=o+j*C+(off+a*l.size+c)from Dj];exact this
    .rw[Iq];intro s hs;obtain⟨c,t⟩:=K5.1 hs;have Q:c<l.size:=by
      have:=(Ij.1 t).1;simpa[W]using this
     obtain⟨Z,hs'⟩:=O a c z Q;obtain⟨B,e2⟩:=c2 c a Z Q z hs';rw[t]at B;cases B;exact e2
    .have Q:c<l.size:=by
      have:=(Ij.1 hs).1;simpa[W]using this
     obtain⟨Z,hs'⟩:=O a c z Q;obtain⟨B,e2⟩:=c2 c a Z Q z hs';rw[hs]at B;cases B;exact K j _ s Y hs'
  .rename_i k off;split at d;rotate_left
   .cases d
   rename_i J q;split at d;rotate_left
   .cases d
   rename_i b6;simp only[Hy]at d;obtain⟨rfl,rfl⟩:=d;simp only[CH,In]at q;obtain⟨l,y,rfl⟩:=q;cases hx with
   |own h=>
    refine⟨_,?_,.own h⟩;rw[run_indexAt_array w T _ _ _ Gd,Ih (by rw[we];omega),jx,GX y];simp[K9]
  .cases d
 .cases d
end
structure HRes where
 pre:Prop
 res:SV
 own:List Blk
 chg:List Nat
abbrev HK:=List SV->List Blk->Option HRes
structure KLaw (P:Program) (key:TypeId) (K:KT):Prop where
 check:∀(w:World) (em:Bool) (q:List Int),KA K q->(Instr.checkKey em 10000 key (kv K q)).run P w=.ok () w
 find:∀(w:World) (q:List Int) (es:List MapEntry),KA K q->(∀e∈es,∃q',KA K q'/\e.key=kv K q')->
  ∃r,(Instr.findKey key (kv K q) es).run P w=.ok r w/\((r=none/\∀e∈es,e.key≠kv K q)\/∃(j:Nat) (e:MapEntry),r=some (j,e.val)/\es[j]?=some e/\e.key=kv K q)
 stays:∀(w:World) (q:List Int),KA K q->(Instr.keyThatStays (kv K q) (kv K q)).run P w=.ok (kv K q) w
 inj:∀(q q':List Int),KA K q->KA K q'->kv K q=kv K q'->q=q'
abbrev JT:=TypeId->Nat->Nat->(Nat->List SV)->List SV->Option (Prop×(Nat->List SV)×Bool)
inductive Ghost where
 |focus (t:Nat)
 |unfocus (k:Nat)
 |newFam (m:Nat) (T:TypeId) (Ts:List (TypeId×Nat))
 |nil (t:Nat) (T:TypeId) (sz:Nat)
 |sel (ks:List Nat)
 |fz (k:Nat)
 |keep (l:List Nat)
 |flat (k:Nat)
 |orders
 |two (t:Nat)
 |poolN (T:TypeId) (sz t:Nat)
 |poolPut (t p wt:Nat)
 |poolTake (k j p t wt:Nat)
 |poolSeal (k j p wt:Nat)
structure Env where
 P:Program
 C:FuncId->Option (List SV->Option (Prop×SV))
 glob:Nat->Option SV
 ng:Nat
 st:TypeId->Bool
 X:FuncId->Option JT:=λ_=>none
 fz:Nat->Bool:=λ_=>false
 na:Nat:=0
 ax:Nat->Bool:=λ_=>true
 av:Nat->Option Value:=λ_=>none
 kt:TypeId->Option KT:=λ_=>none
 Hc:FuncId->Option HK:=λ_=>none
 c2:Bool:=false
 gr:Nat->List Ghost:=λ_=>[]
 fs:FuncId->Bool:=λ_=>false
def Env.ak(E:Env)(k:Nat):Bool:=decide (k<E.na)&&E.ax k
def Env.an(E:Env)(k:Nat):Option Value:=if E.ak k then E.av k else none
theorem Env.an_ak{E:Env}{k:Nat}{x:Value}(h:E.an k=some x):E.ak k=true:=by
 unfold Env.an at h;split at h
 .assumption
 .cases h
theorem Env.ak_lt{E:Env}{k:Nat}(h:E.ak k=true):k<E.na:=by unfold Env.ak at h;simp only[I3]at h;exact h.1
structure EnvOK (E:Env):Prop where
 st:∀T,E.st T=true->E.P.stoodInHeld T=false/\E.P.eqGuardType E.P.depth T=false/\∃fs,E.P.underlying T=some (.struct fs)/\∀f∈fs.toList,f.name≠ "_"
 kt:∀T K,E.kt T=some K->∃key elem,E.P.underlying T=some (.map key elem)/\KLaw E.P key K
def eqItems(a:List SV->List SV->Option Bool)(sz:Nat)(xs c:List SV):Nat->Nat->Option Bool
 |0,_=>some true
 |n+1,i=>match a ((xs.drop (i*sz)).take sz) ((c.drop (i*sz)).take sz)with
  |some b=>match eqItems a sz xs c n (i+1)with
   |some r=>some (b&&r)
   |none=>none
  |none=>none
def Vi(P:Program)(c:TypeId->List SV->List SV->Option Bool)(xs a:List SV):List Field->Option Bool
 | []=>some true
 |f::d=>match CH P f.type with
  |some n=>if f.offset+n<=xs.length/\f.offset+n<=a.length then
   match c f.type ((xs.drop f.offset).take n) ((a.drop f.offset).take n)with
   |some b=>match Vi P c xs a d with
    |some r=>some (b&&r)
    |none=>none
   |none=>none
   else none
  |none=>none
def Ll(E:Env):Nat->TypeId->List SV->List SV->Option Bool
 |0,_,_,_=>none
 |d+1,T,c,f=>match E.P.underlying T with
  |some .bool=>match c,f with
   | [.bool a],[.bool b]=>some (a==b)
   |_,_=>none
  |some (.int _)=>match c,f with
   | [.int k a],[.int h b]=>if k=h then some (decide (a=b))else none
   |_,_=>none
  |some (.struct i)=>if E.st T then Vi E.P (Ll E d) c f i.toList else none
  |some (.array n e)=>match CH E.P e with
   |some g=>if c.length=n*g/\f.length=n*g then eqItems (Ll E d e) g c f n 0 else none
   |none=>none
  |_=>none
def GM(P:Program)(T:TypeId)(us:List Value):Value:=if(HT P T).getD false then .agg us.toArray else us.getD 0 undef
section
variable{E:Env}{w:World}{H:Nat->Prop}{μ:Mu}
theorem SY{P:Program}{T:TypeId}{a:TypeInfo}{d:TypeDesc}(b:P.underlying T=some d)(hi:P.info? T=some a)(us:List Value)(off:Nat)(c:off+a.size<=us.length)(e:GT d=false->a.size=1):
 (part T us.toArray off).run P w=.ok (GM P T ((us.drop off).take a.size)) w:=by
 unfold GM HT;simp only[part,Ic,Wp b,b,I9];cases hb:GT d with
 |true=>
  have f:us.toArray.extract off (off+a.size)=((us.drop off).take a.size).toArray:=by simp[List.take_drop]
  simp only[Jv,Hz,GX hi,f]
 |false=>
  have g:=e hb;rw[g]at c⊢;have i:off<us.length:=Dj;simp[Ig i]
theorem b65(_:EnvOK E)(m:Nat)(eq:TypeId->List SV->List SV->Option Bool)
 (ih:∀T xs ys b us vs,eq T xs ys=some b->us.length=xs.length->vs.length=ys.length->
   (∀(i:Nat) (s:SV) (v:Value),xs[i]?=some s->us[i]?=some v->D w H μ s v)->(∀(i:Nat) (s:SV) (v:Value),ys[i]?=some s->vs[i]?=some v->D w H μ s v)->
   (∃d,E.P.underlying T=some d/\(GT d=false->xs.length=1))/\(Op.equalIn m T (GM E.P T us) (GM E.P T vs)).run E.P w=.ok b w)
 {xs ys:List SV} {us vs:List Value} (pt:us.length=xs.length) (sw:vs.length=ys.length)
 (hx:∀(i:Nat) (s:SV) (v:Value),xs[i]?=some s->us[i]?=some v->D w H μ s v) (hy:∀(i:Nat) (s:SV) (v:Value),ys[i]?=some s->vs[i]?=some v->D w H μ s v):
 ∀(fs:List Field) (b:Bool),(∀f∈fs,f.name≠ "_")->Vi E.P eq xs ys fs=some b->(Op.eqFields m us.toArray vs.toArray fs).run E.P w=.ok b w:=by
 intro fs;induction fs with
 |nil=>intro b _ h;simp[Vi]at h;subst h;simp[Op.eqFields]
 |cons f fs ihf=>
  intro b hn h;simp only[Vi]at h;split at h;rotate_left
  .cases h
  rename_i n bp;split at h;rotate_left
  .cases h
  rename_i cy;split at h;rotate_left
  .cases h
  rename_i b1 jg;split at h;rotate_left
  .cases h
  rename_i r hr;cases h;simp only[CH,In]at bp;obtain⟨inf,bq,rfl⟩:=bp;have cf:∀{l:List SV} {l':List Value},l'.length=l.length->(∀(i:Nat) (s:SV) (v:Value),l[i]?=some s->l'[i]?=some v->D w H μ s v)->
   ∀(i:Nat) (s:SV) (v:Value),((l.drop f.offset).take inf.size)[i]?=some s->((l'.drop f.offset).take inf.size)[i]?=some v->D w H μ s v:=by
   intro l l' _ hd i s v hs hv;exact hd _ _ _ (GJ hs).2 (GJ hv).2
  obtain⟨⟨d,hu,h1⟩,bn⟩:=ih f.type _ _ b1 ((us.drop f.offset).take inf.size) ((vs.drop f.offset).take inf.size) jg Du Du (cf pt hx) (cf sw hy);have j5:GT d=false->inf.size=1:=λhb=>by have:=h1 hb;simp at this;omega
  have p1:=SY (w:=w) hu bq us f.offset Dj j5;have p2:=SY (w:=w) hu bq vs f.offset Dj j5;have bb:=ihf r (λf hf=>hn f (by simp[hf])) hr;have pu:f.name≠ "_" :=hn f Dm;simp only[Op.eqFields,Ih pu,Ic,p1,p2,bn];cases b1<;>simp[bb]
theorem b78(G:EnvOK E):∀(d:Nat) (T:TypeId) (xs g:List SV) (b:Bool) (us vs:List Value) (m:Nat),Ll E d T xs g=some b->us.length=xs.length->vs.length=g.length->
 (∀(i:Nat) (s:SV) (v:Value),xs[i]?=some s->us[i]?=some v->D w H μ s v)->(∀(i:Nat) (s:SV) (v:Value),g[i]?=some s->vs[i]?=some v->D w H μ s v)->
 (∃d,E.P.underlying T=some d/\(GT d=false->xs.length=1))/\(Op.equalIn (d+m) T (GM E.P T us) (GM E.P T vs)).run E.P w=.ok b w:=by
 intro d;induction d with
 |zero=>intro T xs g b us vs m h;simp[Ll]at h
 |succ d I=>
  intro T xs g b us vs m h A B hx x;simp only[Ll]at h;have y:d+1+m=(d+m)+1:=Dj;split at h
  .rename_i f;split at h
   .rename_i a U;cases h;match us,vs,A,B with
    | [u],[v],_,_=>
      have o:=hx 0 _ u rfl rfl;have t:=x 0 _ v rfl rfl;cases o;cases t;refine⟨⟨_,f,λ_=>rfl⟩,?_⟩;simp only[GM,HT,f,I9,GT,I4,List.getD_cons_zero];rw[y,run_equalIn_bool' w _ T _ _ f]
   .cases h
  .rename_i k0 f;split at h
   .rename_i k a k' U;split at h
    .rename_i V;cases h;subst V;match us,vs,A,B with
     | [u],[v],_,_=>
       have o:=hx 0 _ u rfl rfl;have t:=x 0 _ v rfl rfl;cases o;cases t;refine⟨⟨_,f,λ_=>rfl⟩,?_⟩;simp only[GM,HT,f,I9,GT,I4,List.getD_cons_zero];rw[y,run_equalIn_int w _ T _ _ _ _ f];rfl
    .cases h
   .cases h
  .rename_i J f;split at h
   .rename_i W;obtain⟨X,s2,fs',K,Y⟩:=G.st T W;rw[f]at K;cases K;refine⟨⟨_,f,λh=>Fn⟩,?_⟩;have L:E.P.fieldsOf T=J:=by simp[Program.fieldsOf,f]
    have:=b65 (w:=w) (H:=H) (μ:=μ) G (d+m) (Ll E d) (λT xs g b us vs Z o t h3 h4=>I T xs g b us vs m Z o t h3 h4) A B hx x J.toList b Y h;simp only[GM,HT,f,I9,GT,Jv];rw[y,run_equalIn_struct w _ T _ _ (by rw[L];exact f) X,L];exact this
   .cases h
  .rename_i n e f;split at h;rotate_left
   .cases h
   rename_i sz M;split at h;rotate_left
   .cases h
   rename_i bf;simp only[CH,In]at M;obtain⟨c,z,rfl⟩:=M;refine⟨⟨_,f,λh=>Fn⟩,?_⟩;have hc:E.P.cellsOf e=c.size:=by simp[Program.cellsOf,z]
   simp only[GM,HT,f,I9,GT,Jv];rw[y,run_equalIn_array w (d+m) _ _ f z,hc];have C:∀(q i:Nat) (b:Bool),i+q=n->eqItems (Ll E d e) c.size xs g q i=some b->(Op.eqItems (d+m) e c.size us.toArray vs.toArray (List.range' i q)).run E.P w=.ok b w:=by
    intro q;induction q with
    |zero=>intro i b _ h;simp[eqItems]at h;subst h;simp[Op.eqItems]
    |succ q F=>
     intro i b hi h;simp only[eqItems]at h;split at h;rotate_left
     .cases h
     rename_i N jg;split at h;rotate_left
     .cases h
     rename_i r hr;cases h;have m8:i*c.size+c.size<=n*c.size:=Hq;have O:∀{l:List SV} {Q:List Value},(∀(i:Nat) (s:SV) (v:Value),l[i]?=some s->Q[i]?=some v->D w H μ s v)->
      ∀(j:Nat) (s:SV) (v:Value),((l.drop (i*c.size)).take c.size)[j]?=some s->((Q.drop (i*c.size)).take c.size)[j]?=some v->D w H μ s v:=
      λhd j s v hs hv=>hd _ _ _ (GJ hs).2 (GJ hv).2
     obtain⟨⟨dd,R,o⟩,bn⟩:=I e _ _ N ((us.drop (i*c.size)).take c.size) ((vs.drop (i*c.size)).take c.size) m jg Du Du (O hx) (O x);have S:GT dd=false->c.size=1:=λhb=>by have:=o hb;simp at this;omega
     have p1:=SY (w:=w) R z us (i*c.size) Dj S;have p2:=SY (w:=w) R z vs (i*c.size) Dj S;have bb:=F (i+1) r Dj hr;simp only[List.range'_succ,Op.eqItems,Ic,p1,p2,bn];cases N<;>simp[bb]
   rw[List.range_eq_range'];exact C n 0 b Dj h
  .cases h
def c4w(E:Env)(c:BinOp)(T:TypeId)(x y:SV):Option (Prop×SV):=
 match c,x,y with
 |.eql,.agg d,.agg e=>if E.st T then(Ll E 8 T d e).map λb=>(True,.bool b)else none
 |.neq,.agg d,.agg e=>if E.st T then(Ll E 8 T d e).map λb=>(True,.bool (!b))else none
 |.eql,.bool a,.bool b=>match E.P.underlying T with
  |some .bool=>some (True,.bool (a==b))
  |_=>none
 |.neq,.bool a,.bool b=>match E.P.underlying T with
  |some .bool=>some (True,.bool (a !=b))
  |_=>none
 |.eql,.sl _ n _ _,.con (.slice none 0 0)=>match E.P.underlying T with
  |some (.slice _)=>some (True,.ub (n=0) True)
  |_=>none
 |.neq,.sl _ n _ _,.con (.slice none 0 0)=>match E.P.underlying T with
  |some (.slice _)=>some (True,.ub True (n=0))
  |_=>none
 |.eql,.con (.slice none 0 0),.con (.slice none 0 0)=>match E.P.underlying T with
  |some (.slice _)=>some (True,.bool true)
  |_=>none
 |.neq,.con (.slice none 0 0),.con (.slice none 0 0)=>match E.P.underlying T with
  |some (.slice _)=>some (True,.bool false)
  |_=>none
 |.eql,.fp f _ _ _,.con (.pointer none)=>match E.P.underlying T with
  |some (.pointer _)=>some (True,.bool (!f))
  |_=>none
 |.neq,.fp f _ _ _,.con (.pointer none)=>match E.P.underlying T with
  |some (.pointer _)=>some (True,.bool f)
  |_=>none
 |.and,.int k a,.int g b=>if k=g then some (b=1,.int k (a%2))else none
 |.shl,.int k a,.int _ b=>some (0<=b/\b.toNat<=k.bits/\AD k (a*2^b.toNat),.int k (a*2^b.toNat))
 |.shr,.int k a,.int _ b=>some (0<=b/\b.toNat<=k.bits,.int k (a/2^b.toNat))
 |c,x,y=>f2m c x y
theorem f3c(k:IntKind)(a:Int):k.wrap ((BitVec.ofInt k.bits a &&& BitVec.ofInt k.bits 1).toNat:Int)=a%2:=by
 have d:(BitVec.ofInt k.bits a &&& BitVec.ofInt k.bits 1).toNat=(a%2).toNat:=by
  have b:(BitVec.ofInt k.bits 1).toNat=1:=by cases k<;>rfl
  rw[BitVec.toNat_and,b,Nat.and_one_is_mod,BitVec.toNat_ofInt];have e:(2:Int)∣((2^k.bits:Nat):Int):=by cases k<;>decide
  have c:0<=a%((2^k.bits:Nat):Int):=M7 _ (by cases k<;>decide);have h3:(a%((2^k.bits:Nat):Int))%2=a%2:=Int.emod_emod_of_dvd a e;omega
 rw[d];have c:0<=a%2:=M7 _ Dn;have b:a%2<2:=M0 _ Dn;rw[Lc c];exact PE (by cases k<;>simp only[AD]<;>omega)
theorem c1i{T:TypeId}{fs:Array Field}(a:E.P.underlying T=some (.struct fs))(us:List Value):GM E.P T us=.agg us.toArray:=by simp[GM,HT,a,GT]
theorem b1f{P:Program}{w:World}{T e:TypeId}(a:P.underlying T=some (.pointer e))(p:Option Addr):(Op.equalIn 10000 T (.pointer p) (.pointer none)).run P w=.ok p.isNone w:=by rw[Op.equalIn,K6,Jh a,Lr];cases p<;>rfl
theorem b0q{P:Program}{w:World}{T e:TypeId}(b:P.underlying T=some (.slice e))(a:Option Addr)(n m:Nat):(Op.equalIn 10000 T (.slice a n m) (.slice none 0 0)).run P w=.ok a.isNone w:=by rw[Op.equalIn,K6,Jh b,Lr];cases a<;>rfl
theorem b1s{P:Program}{w:World}{T e:TypeId}(c:P.underlying T=some (.slice e))(xo yo:Operand)(a:Option Addr)(n m:Nat):(do eqGuard .eql T xo yo (.slice a n m) (.slice none 0 0);binOp .eql T (.slice a n m) (.slice none 0 0):Sem Value).run P w=.ok (.bool a.isNone) w:=by rw[show (do eqGuard .eql T xo yo (.slice a n m) (.slice none 0 0);binOp .eql T (.slice a n m) (.slice none 0 0):Sem Value)=(do pure ();(do let b<-Op.equalIn 10000 T (.slice a n m) (.slice none 0 0);pure (.bool b):Sem Value))from rfl];simp only[Hz,b0q c]
theorem b1x{P:Program}{w:World}{T e:TypeId}(c:P.underlying T=some (.slice e))(xo yo:Operand)(a:Option Addr)(n m:Nat):(do eqGuard .neq T xo yo (.slice a n m) (.slice none 0 0);binOp .neq T (.slice a n m) (.slice none 0 0):Sem Value).run P w=.ok (.bool (!a.isNone)) w:=by rw[show (do eqGuard .neq T xo yo (.slice a n m) (.slice none 0 0);binOp .neq T (.slice a n m) (.slice none 0 0):Sem Value)=(do pure ();(do let b<-Op.equalIn 10000 T (.slice a n m) (.slice none 0 0);pure (.bool (!b)):Sem Value))from rfl];simp only[Hz,b0q c]
theorem c8j(J:EnvOK E){K:BinOp}{T:TypeId}{xo yo:Operand}{x y s:SV}{v u:Value}{C:Prop}(hx:D w H μ x v)(f:D w H μ y u)(c:c4w E K T x y=some (C,s))(j:C):
 ∃r,(do eqGuard K T xo yo v u;binOp K T v u).run E.P w=.ok r w/\D w H μ s r:=by
 have agg:∀{q t:List SV} {v u:Value} {b:Bool},E.st T=true->Ll E 8 T q t=some b->D w H μ (.agg q) v->D w H μ (.agg t) u->
  ∃z A:List Value,v=.agg z.toArray/\u=.agg A.toArray/\(Op.equalIn 10000 T v u).run E.P w=.ok b w:=by
  intro q t v u b n h hx f;cases hx with
  |agg z S U=>
   cases f with
   |agg A V W=>
    obtain⟨_,B⟩:=b78 (w:=w) (H:=H) (μ:=μ) J 8 T q t b z A 9992 h S V U W;obtain⟨s1,s2,fs,d,s3⟩:=J.st T n;rw[c1i d,c1i d]at B;exact⟨z,A,rfl,rfl,B⟩
 unfold c4w at c;split at c
 .rename_i q t;split at c;rotate_left
  .cases c
  rename_i n;simp only[Hx]at c;obtain⟨b,L,rfl,rfl⟩:=c;obtain⟨z,A,rfl,rfl,B⟩:=agg n L hx f;refine⟨_,?_,.bool⟩;rw[K6,run_eqGuard_agg w _ _ _ _ _ _ (J.st T n).2.1,Lr,run_eql_struct,B,Lr]
 .rename_i q t;split at c;rotate_left
  .cases c
  rename_i n;simp only[Hx]at c;obtain⟨b,L,rfl,rfl⟩:=c;obtain⟨z,A,rfl,rfl,B⟩:=agg n L hx f;refine⟨_,?_,.bool⟩;rw[K6,run_eqGuard_agg w _ _ _ _ _ _ (J.st T n).2.1,Lr,run_neq_struct,B,Lr]
 .split at c
  .rename_i d;cases c;cases hx;cases f;refine⟨_,?_,.bool⟩;simp only[eqGuard_at_bool,Hz,binOp,Op.equal,Op.maxDepth];rw[run_equalIn_bool' w 9999 T _ _ d];rfl
  .cases c
 .split at c
  .rename_i d;cases c;cases hx;cases f;refine⟨_,?_,.bool⟩;simp only[eqGuard_at_bool,Hz,binOp,Op.equal,Op.maxDepth];rw[run_equalIn_bool' w 9999 T _ _ d];rfl
  .cases c
 .split at c;rotate_left
  .cases c
  rename_i e d;cases c;cases f;cases hx with
  |sl a b o m g F hx X M Y N=>exact⟨_,b1s d xo yo _ _ _,.ub (λe=>Nat.eq_zero_of_not_pos (λG=>by rw[(M G).1]at e;cases e)) (λ_=>Im)⟩
 .split at c;rotate_left
  .cases c
  rename_i e d;cases c;cases f;cases hx with
  |sl a b o m g F hx X M Y N=>exact⟨_,b1x d xo yo _ _ _,.ub (λ_=>Im) (λe=>Nat.eq_zero_of_not_pos (λG=>by rw[(M G).1]at e;cases e))⟩
 .split at c;rotate_left
  .cases c
  rename_i e d;cases c;cases f;cases hx;exact⟨_,b1s d xo yo _ _ _,.bool⟩
 .split at c;rotate_left
  .cases c
  rename_i e d;cases c;cases f;cases hx;exact⟨_,b1x d xo yo _ _ _,.bool⟩
 .rename_i I k i O;split at c;rotate_left
  .cases c
  rename_i e d;cases c;cases f;cases hx with
  |fp h=>
  refine⟨_,?_,.bool⟩;have Q:∃p,v=.pointer p/\p.isNone= !I:=by
   cases I with
   |true=>
    simp only[Jv]at h;obtain⟨_,_,b,_,_,rfl⟩:=h;exact⟨_,rfl,rfl⟩
   |false=>
    simp only[I4]at h;exact⟨none,h,rfl⟩
  obtain⟨p,rfl,j⟩:=Q;rw[show (do eqGuard .eql T xo yo (Value.pointer p) (Value.pointer none);binOp .eql T (Value.pointer p) (Value.pointer none):Sem Value)=(do pure ();(do let b<-Op.equalIn 10000 T (.pointer p) (.pointer none);pure (.bool b):Sem Value))from rfl];simp only[Hz,b1f d,j]
 .rename_i I k i O;split at c;rotate_left
  .cases c
  rename_i e d;cases c;cases f;cases hx with
  |fp h=>
  refine⟨_,?_,.bool⟩;have Q:∃p,v=.pointer p/\p.isNone= !I:=by
   cases I with
   |true=>
    simp only[Jv]at h;obtain⟨_,_,b,_,_,rfl⟩:=h;exact⟨_,rfl,rfl⟩
   |false=>
    simp only[I4]at h;exact⟨none,h,rfl⟩
  obtain⟨p,rfl,j⟩:=Q;rw[show (do eqGuard .neq T xo yo (Value.pointer p) (Value.pointer none);binOp .neq T (Value.pointer p) (Value.pointer none):Sem Value)=(do pure ();(do let b<-Op.equalIn 10000 T (.pointer p) (.pointer none);pure (.bool (!b)):Sem Value))from rfl];simp only[Hz,b1f d,j];simp
 .rename_i k a l b;split at c;rotate_left
  .cases c
  rename_i Z;subst Z;simp only[Hy]at c;obtain⟨rfl,rfl⟩:=c;cases hx;cases f;subst j;refine⟨_,?_,.int⟩;rw[show (do eqGuard .and T xo yo (Value.int k a) (Value.int k 1);binOp .and T (Value.int k a) (Value.int k 1):Sem Value)=(do pure ();Op.intBits .and k a 1)from by simp[eqGuard,binOp]];simp only[Op.intBits,Hz,f3c]
 .rename_i k a l b;simp only[Hy]at c;obtain⟨rfl,rfl⟩:=c;cases hx;cases f;obtain⟨G,h1,h2⟩:=j;refine⟨_,?_,.int⟩;have R:¬b<0:=Dj;have F:min b.toNat k.bits=b.toNat:=Dj;rw[show (do eqGuard .shl T xo yo (Value.int k a) (Value.int l b);binOp .shl T (Value.int k a) (Value.int l b):Sem Value)=(do pure ();Op.shift .shl k a l b)from by simp[eqGuard,binOp]];simp only[Op.shift,Ii R,F,Hz,PE h2]
 .rename_i k a l b;simp only[Hy]at c;obtain⟨rfl,rfl⟩:=c;cases hx;cases f;obtain⟨G,h1⟩:=j;refine⟨_,?_,.int⟩;have R:¬b<0:=Dj;have F:min b.toNat k.bits=b.toNat:=Dj;have N:a.fdiv (2^b.toNat)=a/2^b.toNat:=Int.fdiv_eq_ediv_of_nonneg _ (Int.pow_nonneg Dn);rw[show (do eqGuard .shr T xo yo (Value.int k a) (Value.int l b);binOp .shr T (Value.int k a) (Value.int l b):Sem Value)=(do pure ();Op.shift .shr k a l b)from by simp[eqGuard,binOp]];simp only[Op.shift,Ii R,F,Hz,N]
 .exact d3k hx f c j
end
def Wq(a:Nat->Option (Nat×Nat))(cells:List SV):List (Nat×SV)->Option (List SV)
 | []=>some cells
 |(i,s)::c=>match a i,s.cells with
  |some (d,b),some e=>if e.length=b/\d+b<=cells.length then Wq a (over cells d e) c else none
  |_,_=>none
def Nb(P:Program)(T:TypeId):Option (List SV):=match P.info? T with
 |some i=>i.zero.map λz=>z.cells.toList.map Sz
 |none=>none
def f0u(P:Program)(T:TypeId):Option (Nat->Option (Nat×Nat)):=match P.underlying T with
 |some (.struct a)=>if a.toList.all (λf=>(CH P f.type).isSome)then some λi=>(a[i]?).map λf=>(f.offset,(CH P f.type).getD 0)else none
 |some (.array _ e)=>(CH P e).map λb=>λi=>some (i*b,b)
 |_=>none
def c3g(P:Program)(T:TypeId)(a:List (Nat×SV)):Option (Prop×SV):=do
 let z<-Nb P T
 let pl<-f0u P T
 let b<-Wq pl z a
 some (True,.agg b)
section
variable{P:Program}{w:World}{H:Nat->Prop}{μ:Mu}
def DL(w:World)(H:Nat->Prop)(μ:Mu)(cs:List SV)(vs:List Value):Prop:=
 vs.length=cs.length/\∀(i:Nat) (s:SV) (v:Value),cs[i]?=some s->vs[i]?=some v->D w H μ s v
theorem DL.over{cs us:List SV}{vs xs:List Value}{off:Nat}(h:DL w H μ cs vs)(k:DL w H μ us xs)(c:off+us.length<=cs.length):DL w H μ (over cs off us) (over vs off xs):=by
 refine⟨by rw[NI,NI];exact h.1,λi s v hs a=> ?_⟩;rw[LR _ _ _ _ c]at hs;rw[LR _ _ _ _ (by rw[k.1,h.1];exact c),k.1]at a;split at hs
 .rename_i b;rw[Ih b]at a;exact k.2 _ _ _ hs a
 .rename_i b;rw[Ii b]at a;exact h.2 _ _ _ hs a
theorem b6i(vs:List Value):∀(k off:Nat) (cs:List Value),off+k+vs.length<=cs.length->(vs.zipIdx k).foldl (λ(cs:Array Value) (p:Value×Nat)=>cs.setIfInBounds (off+p.2) p.1) cs.toArray=(over cs (off+k) vs).toArray:=by
 induction vs with
 |nil=>intro k off cs h;rw[c6q _ _ Dr];rfl
 |cons v vs a=>
  intro k off cs h;simp only[Jy]at h;simp only[List.zipIdx_cons,Lb];have:cs.toArray.setIfInBounds (off+k) v=(cs.set (off+k) v).toArray:=Dm;rw[this,a _ _ _ (by rw[K4];omega),c1f _ _ _ _ Dj];rfl
theorem c82{b:Nat->Option (Nat×Nat)}:∀(a:List (Nat×SV)) (cs out:List SV) (vs:List Value) (ps:List (Nat×Value)),DL w H μ cs vs->Wq b cs a=some out->ps.length=a.length->
 (∀(i j:Nat) (s:SV),a[i]?=some (j,s)->∃v,ps[i]?=some (j,v)/\D w H μ s v)->∃d,Instr.fill b vs.toArray ps=some (List.toArray d)/\DL w H μ out d:=by
 intro a;induction a with
 |nil=>
  intro cs out vs ps f h hl _;cases ps with
  |nil=>simp[Wq]at h;subst h;exact⟨vs,rfl,f⟩
  |cons _ _=>simp at hl
 |cons p a n=>
  intro cs out vs ps f h hl m;obtain⟨i,s⟩:=p;cases ps with
  |nil=>simp at hl
  |cons q ps=>
   obtain⟨v,e,o⟩:=m 0 i s rfl;simp only[Lw,J8]at e;subst e;simp only[Wq]at h;split at h;rotate_left
   .cases h
   rename_i c size d r u;split at h;rotate_left
   .cases h
   rename_i y;obtain⟨rfl,z⟩:=y;obtain⟨g,A⟩:=o.cells u;have B:=f.over (xs:=v.cells.toList) ⟨g,A⟩ z;obtain⟨l,C,E⟩:=n _ out _ ps B h Dx (λk j t ht=>by simpa using m (k+1) j t Ev);refine⟨l,?_,E⟩;simp only[Instr.fill,r];have F:v.cells.size=d.length:=by simpa using g
   rw[F];have G:¬(c+d.length>vs.toArray.size):=by simp[f.1];omega
   simp only[ne_eq,not_true_eq_false,decide_false,J9 G,Bool.or_self,I4];have:(v.cells.zipIdx.foldl (λcs x=>cs.setIfInBounds (c+x.2) x.1) vs.toArray)=(over vs c v.cells.toList).toArray:=by have:=b6i v.cells.toList 0 c vs (by have q:=f.1;have q2:v.cells.toList.length=d.length:=(by simpa using g);omega);rw[<-Array.foldl_toList];simpa using this
   rw[this];exact C
theorem b63(fs:List Field)(h:∀f∈fs,(CH P f.type).isSome=true):
 (fs.mapM λ(f:Field)=>(do pure (f.offset,<-sizeOf f.type):Sem (Nat×Nat))).run P w=.ok (fs.map λf=>(f.offset,(CH P f.type).getD 0)) w:=by
 induction fs with
 |nil=>simp
 |cons f fs c=>
  have d:=h f Dm;have a:=c (λf e=>h f (by simp[e]));obtain⟨n,b⟩:=Option.isSome_iff_exists.1 d;have hs:=b;simp only[CH,In]at hs;obtain⟨inf,g,rfl⟩:=hs;simp only[L2,Hz,GX g,a,K1,b,K2]
theorem Qm{T:TypeId}{z:List SV}(h:Nb P T=some z):∃(a:TypeInfo) (b:Value),P.info? T=some a/\a.zero=some b/\z=b.cells.toList.map Sz/\DL w H μ z b.cells.toList:=by
 unfold Nb at h;split at h
 .rename_i a c;simp only[In]at h;obtain⟨b,d,rfl⟩:=h;exact⟨a,b,c,d,rfl,Dm,b3e _⟩
 .cases h
theorem c3f{T:TypeId}{a:List (Nat×SV)}{ps:List (Nat×Value)}{s:SV}{o:Prop}(q:c3g P T a=some (o,s))(A:ps.length=a.length)
 (B:∀(i j:Nat) (s:SV),a[i]?=some (j,s)->∃v,ps[i]?=some (j,v)/\D w H μ s v):∃r,(Instr.build T ps.toArray).run P w=.ok r w/\D w H μ s r:=by
 simp only[c3g,I5,Hy]at q;obtain⟨z,C,pl,c,t,E,rfl,rfl⟩:=q;obtain⟨inf,F,u,x,rfl,G⟩:=Qm (w:=w) (H:=H) (μ:=μ) C;have g:∀b,b=pl->∃d:List Value,Instr.fill b F.cells ps=some d.toArray/\DL w H μ t d:=by intro b e;subst e;obtain⟨d,I,J⟩:=c82 a _ t _ ps G E A B;exact⟨d,by simpa using I,J⟩
 unfold f0u at c;split at c
 .rename_i m p;split at c;rotate_left
  .cases c
  rename_i K;simp only[J8]at c;have L:(m.mapM λ(f:Field)=>(do pure (f.offset,<-sizeOf f.type):Sem (Nat×Nat))).run P w=.ok (m.map λf=>(f.offset,(CH P f.type).getD 0)) w:=by rw[Array.mapM_eq_mapM_toList,Sem.run_map,b63 m.toList (λf h=>by simpa using Iq.1 K f h)];simp only[Lr];congr 1;apply Array.ext';simp
  have k:(λi=>(m.map λf=>(f.offset,(CH P f.type).getD 0))[i]?)=pl:=by rw[<-c];funext i;simp
  obtain⟨d,h,l⟩:=g _ k;refine⟨.agg d.toArray,?_,.agg d l.1 l.2⟩;simp only[Instr.build,Hz,Ta u x,Jh p,L,h]
 .rename_i n e p;simp only[In]at c;obtain⟨sz,y,c⟩:=c;simp only[CH,In]at y;obtain⟨inf',M,rfl⟩:=y;obtain⟨d,h,l⟩:=g _ c;refine⟨.agg d.toArray,?_,.agg d l.1 l.2⟩;simp only[Instr.build,Hz,Ta u x,Jh p,GX M,h]
 .cases c
def Uw(P:Program)(own:List Blk)(ρ:Operand->Option SV)(h:Op):Option (Prop×SV×Blk):=
 match h with
 |.alloc T=>(Nb P T).bind λz=>if z.all SV.isCell then some (True,.own own.length 0,.cells T z)else none
 |.box T x=>(ρ x).bind λs=>s.cells.bind λf=>if f.all SV.isCell then some (True,.own own.length 0,.cells T f)else none
 |.buildSlice T 0 ⟨[]⟩=>(NG P T).bind λe=>(CH P e).map λb=>(True,.osl own.length,.row e b 0 (λ_=>[]) (some 0))
 |.buildSlice T n d=>(NG P T).bind λe=>(CH P e).bind λb=>(Nb P e).bind λz=>
  (d.toList.mapM λ(p:Nat×Operand)=>(ρ p.2).bind λs=>s.cells.map λf=>(p.1,f)).bind λg=>
    if g.map (·.1)=List.range n/\0<n/\0<b/\n*b<=16777216/\z.length=b/\z.all SV.isCell/\g.all (λp=>p.2.all SV.isCell&&p.2.all SV.pure&&decide (p.2.length=b))then
     some (True,.osl own.length,.row e b n (λi=>(g.map (·.2)).getD i []) (some n))
    else none
 |.makeSlice T l c=>(NG P T).bind λe=>(P.info? e).bind λa=>(Nb P e).bind λz=>
  match ρ l,ρ c with
  |some (.int _ n),some (.int _ m)=>if z.length=a.size/\z.all SV.isCell/\z.all SV.pure/\0<a.size then
   some (0<=n/\n<=m/\(a.bytes:Int)*m<=281474976710656/\m<=9223372036854775807,.osl own.length,.row e a.size n.toNat (λ_=>z) (some m.toNat))else none
  |_,_=>none
 |_=>none
structure After (B0:Nat) (X A:Nat->Prop) (w w':World) (μ μ':Mu) (own':List Blk):Prop where
 own:Own B0 X A w' μ' own'
 fr:Fr B0 X w w'
 keeps:Keeps w w' (held A μ) (held A μ') μ μ'
theorem Qr{cs:List SV}{vs:List Value}(h:DL w H μ cs vs)(c:cs.all SV.isCell=true):∀v∈vs,v.oneCell'=true:=by
 intro v d;obtain⟨i,a,e⟩:=Jg.1 d;have b:i<cs.length:=by rw[<-h.1];exact a
 have f:=h.2 i cs[i] vs[i] (Ig b) (Ig a);rw[<-e];exact f.one (Iq.1 c _ (Ji b))
variable{B0:Nat}{X A:Nat->Prop}{own ownN:List Blk}
theorem c16(f:Own B0 X A w μ ownN)(d:B0<=w.heap.size)(g:μ own.length=none){T:TypeId}{cs:List SV}{vs:List Value}(k:ownN[own.length]?=some (.cells T cs))(c:DL w (held A μ) μ cs vs)(l:cs.all SV.isCell=true):
 ∃a,After B0 X A w (w.alloc (.cells vs.toArray T)) μ a ownN/\(∀j,j≠own.length->a j=μ j)/\D (w.alloc (.cells vs.toArray T)) (held A a) a (.own own.length 0) (.pointer (some ⟨w.heap.size,0,none⟩)):=by
 obtain⟨o1,o2⟩:=SJ f d g k (.cells vs.toArray T) (.pointer (some ⟨w.heap.size,0,none⟩)) (λb h=>(c3s.1 h).symm) (λa e m=>by refine⟨w.heap.size,vs,rfl,Ly w _,c.1,Qr c l,λi s v hs n=>(c.2 i s v hs n).keep m⟩)
 exact⟨_,⟨o1,Fr.alloc _ d,o2⟩,λj hj=>E7,.own E3⟩
theorem c2v(q:Own B0 X A w μ ownN)(d:B0<=w.heap.size)(r:μ own.length=none){T:TypeId}{sz n m:Nat}{f:Nat->List SV}{vs:List Value}(t:ownN[own.length]?=some (.row T sz n f (some m)))(g:n<=m)(k:m<=maxLen)
 (l:∀i,i<n->(f i).length=sz/\(f i).all SV.pure=true) (bf:m*sz<=vs.length) (u:∀v∈vs,v.oneCell'=true) (x:∀(i j:Nat) (s:SV) (v:Value),i<n->(f i)[j]?=some s->vs[i*sz+j]?=some v->D w (held A μ) μ s v):
 ∃a,After B0 X A w (w.alloc (.cells vs.toArray T)) μ a ownN/\(∀j,j≠own.length->a j=μ j)/\D (w.alloc (.cells vs.toArray T)) (held A a) a (.osl own.length) (.slice (some ⟨w.heap.size,0,none⟩) n m):=by
 obtain⟨o1,o2⟩:=SJ q d r t (.cells vs.toArray T) (.slice (some ⟨w.heap.size,0,none⟩) n m) (by
  intro b o;rcases Jz m with c|c
  .subst c;exact absurd o b81
  .exact(Wb c).1 o) (λa e y=>by
  rcases Jz m with c|c
  .exact⟨_,m,rfl,g,k,.inr rfl,l,.inl c⟩
  refine⟨_,m,rfl,g,k,.inr rfl,l,.inr ⟨w.heap.size,0,vs,c,rfl,Ly w _,Dj,u,λi j s v z hs hv=>(x i j s v z hs Fk).keep y⟩⟩)
 exact⟨_,⟨o1,Fr.alloc _ d,o2⟩,λj hj=>E7,.osl E3⟩
end
section
variable{P:Program}{w:World}{μ:Mu}{B0:Nat}{X A:Nat->Prop}{own ownN:List Blk}
theorem MY{α β:Type}{f:α->Option β}:∀{l:List α} {r:List β},l.mapM f=some r->r.length=l.length/\∀(i:Nat) (x:α),l[i]?=some x->∃y,r[i]?=some y/\f x=some y:=by
 intro l;induction l with
 |nil=>intro r h;simp at h;subst h;exact⟨rfl,λi x h=>Dv⟩
 |cons a l c=>
  intro r h;simp only[L2,I5,Option.pure_def,J8]at h;obtain⟨b,d,r',e,rfl⟩:=h;obtain⟨h1,g⟩:=c e;refine⟨E9,λi x hx=> ?_⟩;match i with
  |0=>simp at hx;subst hx;exact⟨b,rfl,d⟩
  |i+1=>simpa using g i x (by simpa using hx)
theorem c2w(c:Own B0 X A w μ ownN)(d:B0<=w.heap.size)(e:μ own.length=none){T:TypeId}{z:List SV}(f:Nb P T=some z)(g:z.all SV.isCell=true)(h:ownN[own.length]?=some (.cells T z)):
 ∃r b a,(Instr.alloc T true (.tuple #[])).run P w=.ok r b/\After B0 X A w b μ a ownN/\(∀j,j≠own.length->a j=μ j)/\D b (held A a) a (.own own.length 0) r:=by
 obtain⟨inf,zv,i,k,rfl,l⟩:=Qm (w:=w) (H:=held A μ) (μ:=μ) f;obtain⟨a,m,n,o⟩:=c16 c d e h l g;refine⟨_,_,a,?_,m,n,o⟩;simp[Instr.alloc,Ta i k,newVar,newRow]
theorem c8y(c:Own B0 X A w μ ownN)(d:B0<=w.heap.size)(e:μ own.length=none){T:TypeId}{s:SV}{v:Value}{cs:List SV}(f:D w (held A μ) μ s v)(hs:s.cells=some cs)(g:cs.all SV.isCell=true)(h:ownN[own.length]?=some (.cells T cs)):
 ∃r b a,(Instr.box T v).run P w=.ok r b/\After B0 X A w b μ a ownN/\(∀j,j≠own.length->a j=μ j)/\D b (held A a) a (.own own.length 0) r:=by
 obtain⟨a,i,k,l⟩:=c16 c d e (vs:=v.cells.toList) h (f.cells hs) g;refine⟨_,_,a,?_,i,k,l⟩;simp[Instr.box,newVar,newRow]
theorem b2n(z:Array Value)(n i:Nat)(u:Value)(h:(madeCells z n).toList[i]?=some u):i<n/\u=z[i%z.size]!:=by simp only[madeCells,Array.toList_map,I2]at h;obtain⟨x,hx,rfl⟩:=h;rw[Kd]at hx;obtain⟨a,e⟩:=Jt.1 hx;simp at a e;subst e;exact⟨a,rfl⟩
theorem c8k(t:Own B0 X A w μ ownN)(x:B0<=w.heap.size)(y:μ own.length=none){T e:TypeId}{a:TypeInfo}{z:List SV}{kl kc:IntKind}{n m:Int}(B:NG P T=some e)(hi:P.info? e=some a)(C:Nb P e=some z)
 (rz:z.length=a.size) (E:z.all SV.isCell=true) (F:z.all SV.pure=true) (G:0<a.size) (I:0<=n) (J:n<=m) (K:(a.bytes:Int)*m<=281474976710656) (L:m<=9223372036854775807) (M:ownN[own.length]?=some (.row e a.size n.toNat (λ_=>z) (some m.toNat))):
 ∃r d b,(Instr.makeSlice T (.int kl n) (.int kc m)).run P w=.ok r d/\After B0 X A w d μ b ownN/\(∀j,j≠own.length->b j=μ j)/\D d (held A b) b (.osl own.length) r:=by
 obtain⟨inf',c,g,N,rfl,k⟩:=Qm (w:=w) (H:=held A μ) (μ:=μ) C;rw[hi]at g;cases g;have l:c.cells.size=a.size:=Ew;have O:=run_make (P:=P) w T e a c (On B) hi N kl kc n m I J K L;have Q:∀v∈c.cells.toList,v.oneCell'=true:=Qr k E;have o:∀i u,(madeCells c.cells (m.toNat*a.size)).toList[i]?=some u->c.cells.toList[i%a.size]?=some u:=by
  intro i u h;obtain⟨_,rfl⟩:=b2n _ _ _ _ h;rw[l];have q:i%a.size<c.cells.size:=by rw[l];exact Mr _ G
  rw[Kd,Kt c.cells (i%a.size) q,Lk q]
 obtain⟨b,R,S,U⟩:=c2v t x y (vs:=(madeCells c.cells (m.toNat*a.size)).toList) M Dj Em (λi _=>⟨Ew,F⟩) (by simp[size_madeCells]) (λv f=>by
  obtain⟨i,hi,e⟩:=Jg.1 f;exact Q v (Ik (o i v (by rw[<-e];exact Ig hi)))) (λi j s v hi hs f=>by
  have V:j<a.size:=by rw[<-rz];exact(Ij.1 hs).1
  have:=o _ _ f;rw[Lp,Nat.mul_add_mod,Nat.mod_eq_of_lt V]at this;exact k.2 j s v hs this)
 refine⟨_,_,b,?_,R,S,U⟩;rw[O]
def Qh(b:Bool):SV->SV->SV
 |.int k n,.int e m=>if k=e then .int k (bif b then n else m)else .any
 |.bool x,.bool y=>.bool (bif b then x else y)
 |.sl d n f c,.sl a g h j=>if d=a then .sl d (bif b then n else g) (λi=>bif b then f i else h i) (bif b then c else j)else .any
 |s,t=>if b then s else t
def DH(b:Bool):List SV->List SV->List SV
 |s::r,t::q=>Qh b s t::DH b r q
 |l,a=>if b then l else a
theorem d4d(b:Bool)(s t:SV):(∀{w:World} {H:Nat->Prop} {μ:Mu} {v:Value},D w H μ (if b then s else t) v->D w H μ (Qh b s t) v)/\((if b then s else t).pure=true->(Qh b s t).pure=true):=by
 have a:(∀{w:World} {H:Nat->Prop} {μ:Mu} {v:Value},D w H μ (cond b s t) v->D w H μ (Qh b s t) v)/\((cond b s t).pure=true->(Qh b s t).pure=true):=by
  unfold Qh;split
  .split
   .rename_i e;subst e;cases b<;>exact⟨λh=>h,λh=>h⟩
   .exact⟨λ_=>.any,λ_=>rfl⟩
  .cases b<;>exact⟨λh=>h,λh=>h⟩
  .split
   .rename_i e;subst e;cases b<;>exact⟨λh=>h,λh=>h⟩
   .exact⟨λ_=>.any,λ_=>rfl⟩
  .cases b<;>exact⟨λh=>h,λh=>h⟩
 cases b<;>exact a
theorem WU(b:Bool):∀l a:List SV,(DH b l a).length=(if b then l else a).length/\((if b then l else a).all SV.pure=true->(DH b l a).all SV.pure=true)/\
 ∀(q:Nat) (c:SV),(DH b l a)[q]?=some c->∃s,(if b then l else a)[q]?=some s/\∀{w:World} {H:Nat->Prop} {μ:Mu} {v:Value},D w H μ s v->D w H μ c v
 | [],a=>H6
 |s::r,[]=>H6
 |s::r,t::l=>by
  obtain⟨e,i2,f⟩:=WU b r l;obtain⟨d,m2⟩:=d4d b s t;unfold DH;refine⟨by cases b<;>simpa using e,λh=> ?_,λq c hq=> ?_⟩
  .cases b<;>simp_all
  .match q with
   |0=>
    simp at hq;subst hq;cases b
    .exact⟨t,rfl,λh=>d h⟩
    .exact⟨s,rfl,λh=>d h⟩
   |q+1=>
    obtain⟨x,hx,g⟩:=f q c Fp;refine⟨x,?_,g⟩;cases b<;>simpa using hx
theorem CT.row_weak{w:World}{H:Nat->Prop}{μ:Mu}{x:Value}{T:TypeId}{sz n:Nat}{f d:Nat->List SV}{c:Option Nat}(g:∀j,(d j).length=(f j).length/\((f j).all SV.pure=true->(d j).all SV.pure=true)/\∀(q:Nat) (k:SV),(d j)[q]?=some k->∃s,(f j)[q]?=some s/\∀{w:World} {H:Nat->Prop} {μ:Mu} {v:Value},D w H μ s v->D w H μ k v)
 (h:CT w H μ x (.row T sz n f c)):CT w H μ x (.row T sz n d c):=by
 obtain⟨a,m,rfl,p,r,t,l,u⟩:=h;refine⟨a,m,rfl,p,r,t,λi e=>⟨(g i).1.trans (l i e).1,(g i).2.1 (l i e).2⟩,?_⟩;rcases u with h|⟨b,o,y,z,rfl,A,B,C,E⟩
 .exact .inl h
 .refine .inr ⟨b,o,y,z,rfl,A,B,C,λi j s v e hs F=> ?_⟩;obtain⟨G,I,J⟩:=(g i).2.2 j s hs;exact J (E i j G v e I F)
def Rw(P:Program)(own:List Blk)(T:TypeId)(p x:SV):Option (Prop×List Blk):=do
 let n<-CH P T
 let e<-x.cells
 if e.length=n/\e.all SV.isCell then
  match p with
  |.own k a=>match own[k]? with
   |some (.cells g h)=>if a+n<=h.length then some (True,own.set k (.cells g (over h a e)))else none
   |_=>none
  |.oel k b i a=>match own[k]? with
   |some (.row g d m f c)=>if b=d/\a+n<=b/\e.all SV.pure then some (i<m,own.set k (.row g b m (λj=>DH (decide (j=i)) (over (f i) a e) (f j)) c))else if b=d/\a+n<=b then some (i<m,own.set k (.rowh g b m f c i (over (f i) a e)))else none
   |some (.rowh g d m f c l u)=>if b=d/\a+n<=b then some (i=l,own.set k (.rowh g b m f c i (over u a e)))else none
   |_=>none
  |_=>none
 else none
theorem b1k{α:Type}{p:α->Prop}:∀(vs us:List α),(∀v∈vs,p v)->(∀u∈us,p u)->∀v∈OL vs us,p v
 | [],us,h,_,v,a=>by simp[OL]at a
 |_::_,[],h,_,v,a=>h v a
 |x::vs,u::us,h,k,v,a=>by
  simp only[OL,Iv]at a;rcases a with rfl|a
  .exact k v Dm
  .exact b1k vs us (λy hy=>h y Ex) (λy hy=>k y Ex) v a
theorem Rq{α:Type}{p:α->Prop}(us:List α):∀(vs:List α) (off:Nat),(∀v∈vs,p v)->(∀u∈us,p u)->∀v∈over vs off us,p v
 | [],0,h,k,v,a=>b1k [] us h k v (by simpa[over]using a)
 |x::vs,0,h,k,v,a=>b1k (x::vs) us h k v (by simpa only[over]using a)
 |x::vs,n+1,h,k,v,a=>by
  simp only[over,Iv]at a;rcases a with rfl|a
  .exact h v Dm
  .exact Rq us vs n (λy hy=>h y Ex) k v a
 | [],_+1,_,_,v,a=>by simp[over]at a
theorem c5q{w:World}{H:Nat->Prop}{μ:Mu}{T:TypeId}{sz n m b o off i:Nat}{f:Nat->List SV}{c:Option Nat}{e us:List SV}{vs vals:List Value}(x:n<=m)(y:m<=maxLen)(z:c=none\/c=some m)(hi:i<n)(g:e.length=sz)
 (t:∀q,q<n->q≠i->(f q).length=sz/\(f q).all SV.pure=true) (A:w.heap[b]?=some (.cells vs.toArray T (0,0))) (ho:o+m*sz<=vs.length) (B:∀v∈vs,v.oneCell'=true)
 (C:∀(q j:Nat) (s:SV) (v:Value),q<n->q≠i->(f q)[j]?=some s->vs[o+q*sz+j]?=some v->D w H μ s v) (E:∀(j:Nat) (s:SV) (v:Value),e[j]?=some s->vs[o+i*sz+j]?=some v->D w H μ s v)
 (d:DL w H μ us vals) (cy:off+us.length<=sz) (F:∀v∈vals,v.oneCell'=true) (k:Keeps w (putRow w b (over vs (o+i*sz+off) vals) T) H H μ μ):
 Mt (putRow w b (over vs (o+i*sz+off) vals) T) H μ (.slice (some ⟨b,o,none⟩) n m) T sz n f c i (over e off us):=by
 have gy:o+i*sz+sz<=vs.length:=by have:i*sz+sz<=m*sz:=Hq;omega
 refine⟨b,o,m,_,rfl,x,y,z,hi,by rw[NI];exact g,t,Xb (Nz A),Ge,Rq _ _ _ B F,λq j s v u l hs a=> ?_,λj s v hs a=> ?_⟩
 .have G:j<sz:=by rw[<-(t q u l).1];exact(Ij.1 hs).1
  rw[LR _ _ _ _ (by rw[d.1];omega),d.1,Ii]at a
  .exact(C q j s v u l hs a).keep k
  .intro r;rcases Nat.lt_or_gt_of_ne l with b6|rf
   .have:q*sz+sz<=i*sz:=H7;omega
   .have:i*sz+sz<=q*sz:=H8;omega
 .have G:j<sz:=by
   have:=(Ij.1 hs).1;rw[NI,g]at this;exact this
  rw[LR _ _ _ _ (by rw[g];omega)]at hs;rw[LR _ _ _ _ (by rw[d.1];omega),d.1]at a;by_cases r:off<=j/\j<off+us.length
  .rw[Ih r]at hs;rw[Ih Dj,show o+i*sz+j-(o+i*sz+off)=j-off from Dj]at a;exact(d.2 _ _ _ hs a).keep k
  .rw[Ii r]at hs;rw[Ii Dj]at a;exact(E _ _ _ hs a).keep k
theorem b4z(z:Own B0 X A w μ own){T:TypeId}{p x:SV}{v u:Value}{own':List Blk}{R:Prop}(hp:D w (held A μ) μ p v)(hx:D w (held A μ) μ x u)(l:Rw P own T p x=some (R,own'))(I:R):
 ∃w',(Instr.storeAt T v u).run P w=.ok () w'/\After B0 X A w w' μ μ own':=by
 simp only[Rw,I5]at l;obtain⟨n,hn,K,jq,l⟩:=l;split at l;rotate_left
 .cases l
 rename_i hc;obtain⟨mw,dv⟩:=hc;simp only[CH,In]at hn;obtain⟨S,hi,rfl⟩:=hn;have jn:DL w (held A μ) μ K u.cells.toList:=hx.cells jq;have J:=Qr jn dv;have U:u.cells.size=S.size:=by simpa[mw]using jn.1
 have bn:∀a:Addr,(Instr.storeAt T (.pointer (some a)) u).run P w=(storeCells a u.cells.toList).run P w:=by intro a;simp only[Instr.storeAt,Instr.sureAddr,Hz,storeVar,GX hi,U,ne_eq,not_true_eq_false,if_false]
 split at l
 .rename_i k d;split at l;rotate_left
  .cases l
  rename_i F cs O;split at l;rotate_left
  .cases l
  rename_i C;simp only[Hy]at l;obtain⟨rfl,rfl⟩:=l;cases hp with
  |own h=>
   rename_i b;obtain⟨bl,e,L⟩:=z.blk k _ h;rw[O]at e;cases e;obtain⟨b',t,M,E,r,N,G⟩:=L;cases M;have hs:=Vr (P:=P) b d F u.cells.toList w t 0 E (by rw[jn.1,r,mw];omega) J;refine⟨_,(bn _).trans hs,?_⟩;rw[L7];have y:Keeps w (putRow w b (over t d u.cells.toList) F) (held A μ) (held A μ) μ μ:=Keeps.put h (.inl rfl);refine⟨YN z h (.inl rfl) ⟨b,_,rfl,Xb (Nz E),by rw[NI,NI];exact r,Rq _ _ _ N J,?_⟩,Fr.put (z.rng k _ b h (.inl rfl)).2.2,y⟩;intro i s v hs H;exact((DL.over (w:=w) ⟨r,G⟩ jn (by rw[mw];omega)).2 i s v hs H).keep y
 .rename_i k g i d;split at l;rotate_left
  .rename_i F sz' m f c i' u0 O;split at l;rotate_left
   .cases l
   rename_i C;obtain⟨rfl,C⟩:=C;simp only[Hy]at l;obtain⟨rfl,rfl⟩:=l;subst I;cases hp with
   |oel h=>
    rename_i b o n1 Q;obtain⟨bl,e,L⟩:=z.blk k _ h;rw[O]at e;cases e;obtain⟨b',o',m2,t,M,V,W,Y,b8,vg,r,E,ho,N,G,su⟩:=L;cases M;have B:0<Q:=Dj;have gy:o+i*g+g<=t.length:=by have:i*g+g<=Q*g:=Hq;omega
    have hs:=Vr (P:=P) b (o+i*g+d) F u.cells.toList w t 0 E Fq J;refine⟨_,(bn _).trans hs,?_⟩;rw[L7];have y:Keeps w (putRow w b (over t (o+i*g+d) u.cells.toList) F) (held A μ) (held A μ) μ μ:=Keeps.put h (JC B);exact⟨YN z h (JC B) (c5q V W Y b8 vg r E ho N G su jn (by rw[mw];exact C) J y),Fr.put (z.rng k _ b h (JC B)).2.2,y⟩
  .cases l
  rename_i F sz' m f c O;split at l;rotate_left
  .split at l;rotate_left
   .cases l
   rename_i C;obtain⟨rfl,C⟩:=C;simp only[Hy]at l;obtain⟨rfl,rfl⟩:=l;cases hp with
   |oel h=>
    rename_i b o n1 Q;obtain⟨bl,e,L⟩:=z.blk k _ h;rw[O]at e;cases e;obtain⟨a,m2,M,V,W,Y,r,bb⟩:=L;cases M;rcases bb with Z|⟨b',o',t,B,Z,E,ho,N,G⟩
    .omega
    cases Z;have gy:o+i*g+g<=t.length:=by have:i*g+g<=Q*g:=Hq;omega
    have hs:=Vr (P:=P) b (o+i*g+d) F u.cells.toList w t 0 E Fq J;refine⟨_,(bn _).trans hs,?_⟩;rw[L7];have y:Keeps w (putRow w b (over t (o+i*g+d) u.cells.toList) F) (held A μ) (held A μ) μ μ:=Keeps.put h (JC B);exact⟨YN z h (JC B) (c5q V W Y I (r i I).1 (λq hq _=>r q hq) E ho N (λq j s v hq _=>G q j s v hq) (λj s v=>G i j s v I) jn (by rw[mw];exact C) J y),Fr.put (z.rng k _ b h (JC B)).2.2,y⟩
  rename_i C;obtain⟨rfl,C,pv⟩:=C;simp only[Hy]at l;obtain⟨rfl,rfl⟩:=l;cases hp with
  |oel h=>
   rename_i b o n1 Q;obtain⟨bl,e,L⟩:=z.blk k _ h;rw[O]at e;cases e;obtain⟨a,m2,M,V,W,Y,r,bb⟩:=L;cases M;rcases bb with Z|⟨b',o',t,B,Z,E,ho,N,G⟩
   .omega
   cases Z;have gy:o+i*g+g<=t.length:=by have:i*g+g<=Q*g:=Hq;omega
   have hs:=Vr (P:=P) b (o+i*g+d) F u.cells.toList w t 0 E Fq J;refine⟨_,(bn _).trans hs,?_⟩;rw[L7];have y:Keeps w (putRow w b (over t (o+i*g+d) u.cells.toList) F) (held A μ) (held A μ) μ μ:=Keeps.put h (JC B);refine⟨YN z h (JC B) (CT.row_weak (f:=λj=>if j=i then over (f i) d K else f j) (λj=>by have:=WU (decide (j=i)) (over (f i) d K) (f j);simpa only[Is]using this) ⟨_,_,rfl,V,W,Y,λj hj=> ?_,.inr ⟨b,o,_,B,rfl,Xb (Nz E),Ge,Rq _ _ _ N J,?_⟩⟩),Fr.put (z.rng k _ b h (JC B)).2.2,y⟩
   .show (if j=i then over (f i) d K else f j).length=g/\(if j=i then over (f i) d K else f j).all SV.pure=true;split
    .rw[NI];exact⟨(r _ I).1,Iq.2 (Rq K (f i) d (Iq.1 (r _ I).2) (Iq.1 pv))⟩
    .exact r j hj
   intro j q s v hj hs H;replace hs:(if j=i then over (f i) d K else f j)[q]?=some s:=hs;rw[LR _ _ _ _ Fq,jn.1,mw]at H;have hq:q<g:=by
    split at hs
    .have:=(Ij.1 hs).1;rw[NI,(r _ I).1]at this;exact this
    .have:=(Ij.1 hs).1;rw[(r j hj).1]at this;exact this
   by_cases e:j=i
   .subst e;rw[Ih rfl,LR _ _ _ _ (by rw[mw,(r _ I).1];omega),mw]at hs;by_cases bh:d<=q/\q<d+S.size
    .rw[Ih bh]at hs;rw[Ih Dj,show o+j*g+q-(o+j*g+d)=q-d from Dj]at H;exact(jn.2 _ _ _ hs H).keep y
    .rw[Ii bh]at hs;rw[Ii Dj]at H;exact(G _ _ _ _ hj hs H).keep y
   .rw[Ii e]at hs;rw[Ii]at H
    .exact(G _ _ _ _ hj hs H).keep y
    .intro bh;rcases Nat.lt_or_gt_of_ne e with b6|rf
     .have:j*g+g<=i*g:=H7;omega
     .have:i*g+g<=j*g:=H8;omega
 .cases l
end
def SV.kill0(S:List Nat):SV->SV
 |.osl j=>if S.contains j then .any else .osl j
 |.oel j d i b=>if S.contains j then .any else .oel j d i b
 |.fp e j i o=>if S.contains j then .any else .fp e j i o
 |.own j o=>.own j o
 |.agg _=>.any
 |.tup _=>.any
 |.clo f a=>if a.all (λc=>match c with|.osl j=> !S.contains j|.fp _ j _ _=> !S.contains j|.oel _ _ _ _=>false|.agg _|.tup _=>false|.clo _ a=>a.isEmpty|_=>true)then .clo f a else .any
 |s=>s
def SV.kill1(S:List Nat):SV->SV
 |.agg a=>.agg (a.map (SV.kill0 S))
 |s=>s.kill0 S
def SV.kill2(S:List Nat):SV->SV
 |.tup a=>.tup (a.map (SV.kill1 S))
 |s=>s.kill1 S
def Blk.kill(S:List Nat):Blk->Blk
 |.cells T d=>.cells T (d.map (SV.kill0 S))
 |.pmap K k a BH=>if S.contains k then .dead else .pmap K k a BH
 |.rowh T e n f c i u=>.rowh T e n f c i (u.map (SV.kill0 S))
 |b=>b
structure Keeps' (S:List Nat) (w w':World) (H H':Nat->Prop) (μ μ':Mu):Prop where
 size:w.heap.size<=w'.heap.size
 block:∀b,b<w.heap.size->¬H b->w'.heap[b]?=w.heap[b]?
 less:∀b,b<w.heap.size->H' b->H b
 own:∀j x,j∉S->μ j=some x->μ' j=some x
 ptr:∀k x,k∈S->μ k=some x->(∃a n m,x=.slice a n m)\/∃ps qs,x=BD ps qs
section
variable{w w':World}{H H':Nat->Prop}{μ μ':Mu}{S:List Nat}
theorem JF{s:SV}{v:Value}(c:Keeps' S w w' H H' μ μ')(h:D w H μ s v):s.pure=true->D w' H' μ' s v:=by
 induction h with
 |int=>exact λ_=>.int
 |bool=>exact λ_=>.bool
 |con=>exact λ_=>.con
 |own h=>intro hp;simp[SV.pure,SV.pure0]at hp
 |osl h=>intro hp;simp[SV.pure,SV.pure0]at hp
 |oel h=>intro hp;simp[SV.pure,SV.pure0]at hp
 |omp h=>intro hp;simp[SV.pure,SV.pure0]at hp
 |fp h=>intro hp;simp[SV.pure,SV.pure0]at hp
 |mp r g d k hl l ih=>
  exact λ_=>.mp r g (λn=>d (c.less _ k.lt n)) (k.keep (c.block _ k.lt d)) hl (λq i s v x hs hv=>ih q i s v x hs hv (Iq.1 (hl q x).2 s (Ik hs)))
 |sl a b o m g k hx y t hl l ih=>
  exact λ_=>.sl a b o m g k hx y (λz=>by obtain⟨e,d,u⟩:=t z;exact⟨e,λn=>d (c.less _ u.1 n),u.keep c.size (c.block _ u.1 d)⟩) hl (λi j s f hs=>ih i j s f hs (Iq.1 (hl i f).2 s (Ik hs)))
 |rel b o g f d t hl l ih=>
  exact λ_=>.rel b o g f (λn=>d (c.less _ t.1 n)) (t.keep c.size (c.block _ t.1 d)) hl (λi j s f hs=>ih i j s f hs (Iq.1 (hl i f).2 s (Ik hs)))
 |agg vs hl l ih=>intro hp;simp[SV.pure,SV.pure0]at hp
 |tup vs hl l ih=>intro hp;simp[SV.pure,SV.pure0]at hp
 |clo vs hl l ih=>
  exact Ce
 |ub A B=>exact λ_=>.ub A B
 |any=>exact λ_=>.any
theorem b2c{ok:Bool}{k i off:Nat}{v:Value}(a:Keeps' S w w' H H' μ μ')(b:k∉S)(h:D w H μ (.fp ok k i off) v):D w' H' μ' (.fp ok k i off) v:=
 D.fp_keep (λc d e=>⟨c,d,a.own _ _ b e,λ_ h=>h⟩) h
theorem Vx{s:SV}{v:Value}(c:Keeps' S w w' H H' μ μ')(h:D w H μ s v):D w' H' μ' (s.kill0 S) v:=by
 have k:∀{j:Nat} {b:Nat},μ j=some (.pointer (some ⟨b,0,none⟩))->j∉S:=λh x=>by rcases c.ptr _ _ x h with⟨a,n,m,e⟩|⟨_,_,e⟩<;>cases e
 have l:∀{j:Nat} {r:Option Nat},μ j=some (.map r)->j∉S:=λh x=>by rcases c.ptr _ _ x h with⟨a,n,m,e⟩|⟨_,_,e⟩<;>cases e
 cases h with
 |fp h=>
  simp only[SV.kill0];split
  .exact .any
  .rename_i e;exact b2c c Ey (.fp h)
 |omp h=>exact .omp (c.own _ _ (l h) h)
 |mp r g q t d f=>exact JF c (.mp r g q t d f) rfl
 |int=>exact .int
 |bool=>exact .bool
 |con=>exact .con
 |own h=>
  exact .own (c.own _ _ (k h) h)
 |osl h=>
  rename_i j n m a;simp only[SV.kill0];split
  .exact .any
  .rename_i e;exact .osl (c.own _ _ Ey h)
 |oel h=>
  simp only[SV.kill0];split
  .exact .any
  .rename_i e;exact .oel (c.own _ _ Ey h)
 |sl a b o m g t hx hc u d f=>exact JF c (.sl a b o m g t hx hc u d f) rfl
 |rel b o g y q u d f=>exact JF c (.rel b o g y q u d f) rfl
 |agg z d f=>exact .any
 |tup z d f=>exact .any
 |clo z d f=>
  simp only[SV.kill0];split
  .rename_i C;refine .clo z d (λi s v hs E=> ?_);have hc:=Iq.1 C s (Ik hs);have F:=f i s v hs E;cases F with
   |own h=>
    exact .own (c.own _ _ (k h) h)
   |omp h=>exact .omp (c.own _ _ (l h) h)
   |fp h=>exact b2c c Ed (.fp h)
   |mp r g q t d f=>exact JF c (.mp r g q t d f) rfl
   |osl h=>exact .osl (c.own _ _ Ed h)
   |oel h=>simp at hc
   |agg=>simp at hc
   |tup=>simp at hc
   |clo G I J=>exact JF c (.clo G I J) H9
   |int=>exact .int
   |bool=>exact .bool
   |con=>exact .con
   |ub A B=>exact .ub A B
   |any=>exact .any
   |sl a b o m g t hx K u d f=>exact JF c (.sl a b o m g t hx K u d f) rfl
   |rel b o g y q u d f=>exact JF c (.rel b o g y q u d f) rfl
  .exact .any
 |ub A B=>exact .ub A B
 |any=>exact .any
theorem b39{s:SV}{v:Value}(a:Keeps' S w w' H H' μ μ')(h:D w H μ s v):D w' H' μ' (s.kill1 S) v:=by
 unfold SV.kill1;split
 .cases h with
  |agg b hl c=>
   refine .agg b Dx (λi s v hs d=> ?_);simp only[I2]at hs;obtain⟨e,f,rfl⟩:=hs;exact Vx a (c i e v f d)
 .exact Vx a h
theorem b34{s:SV}{v:Value}(a:Keeps' S w w' H H' μ μ')(h:D w H μ s v):D w' H' μ' (s.kill2 S) v:=by
 unfold SV.kill2;split
 .cases h with
  |tup b hl c=>
   refine .tup b Dx (λi s v hs d=> ?_);simp only[I2]at hs;obtain⟨e,f,rfl⟩:=hs;exact b39 a (c i e v f d)
 .exact b39 a h
theorem CT.change{x:Value}{bl:Blk}(d:Keeps' S w w' H H' μ μ')(t:∀b,CA x b->w'.heap[b]?=w.heap[b]?)(h:CT w H μ x bl):CT w' H' μ' x (bl.kill S):=by
 cases bl with
 |cells T cs=>
  obtain⟨b,L,rfl,y,hl,M,l⟩:=h;refine⟨b,L,rfl,(t b (.inl rfl)).trans y,Dx,M,λi s v hs z=> ?_⟩;simp only[I2]at hs;obtain⟨U,V,rfl⟩:=hs;exact Vx d (l i U v V z)
 |row T O n f c=>
  obtain⟨a,m,rfl,W,A,B,hl,h⟩:=h;refine⟨a,m,rfl,W,A,B,hl,?_⟩;rcases h with h|⟨b,o,L,P,rfl,y,X,M,l⟩
  .exact .inl h
  .exact .inr ⟨b,o,L,P,rfl,(t b (JC P)).trans y,X,M,λi j s v G hs z=>JF d (l i j s v G hs z) (Iq.1 (hl i G).2 s (Ik hs))⟩
 |map K ag N val=>
  obtain⟨r,g,rfl,A,hl,l⟩:=h;exact⟨r,g,rfl,A.keep (t r (.inl rfl)),hl,λq i s v I hs z=>JF d (l q i s v I hs z) (Iq.1 (hl q I).2 s (Ik hs))⟩
 |fam T Ts n bt F=>
  obtain⟨C,E,rfl,h,y⟩:=h;refine⟨C,E,rfl,h.keep ⟨d.size,d.block,d.less⟩ t,y.keep (λi c p e B=>d.own _ _ (λJ=> ?_) B)⟩;obtain⟨p',e1,Q⟩:=y i c e;rw[B]at Q;cases Q;have G:i<n:=Gf;obtain⟨b,us,R,_⟩:=h.mem i G;rw[e1]at R;cases R;rcases d.ptr _ _ J B with⟨a,n,m,e⟩|⟨_,_,e⟩<;>cases e
 |pmap K k N BH=>
  simp only[Blk.kill];split
  .exact Im
  rename_i J;obtain⟨⟨C,E,Y⟩,r,g,rfl,A,l⟩:=h;exact⟨⟨C,E,d.own _ _ (by simpa using J) Y⟩,r,g,rfl,A.keep (t r (.inl rfl)),λq I=>by obtain⟨p,e,h⟩:=l q I;exact⟨p,e,b2c d (by simpa using J) h⟩⟩
 |rowh T O n f c i u=>exact Mt.to (SV.kill0 S) (λb hx=>t b (.inl hx)) (λs v Z h=>JF d h Z) (λs v h=>Vx d h) h
 |pool T O n l al ln ct=>
  obtain⟨C,E,rfl,h⟩:=h;exact⟨C,E,rfl,h.keep ⟨d.size,d.block,d.less⟩ t⟩
 |dead=>exact Im
end
structure After' (S:List Nat) (B0:Nat) (X A:Nat->Prop) (w w':World) (μ μ':Mu) (own':List Blk):Prop where
 own:Own B0 X A w' μ' own'
 fr:Fr B0 X w w'
 keeps:Keeps' S w w' (held A μ) (held A μ') μ μ'
theorem b0y{B0:Nat}{X A:Nat->Prop}{w w':World}{μ:Mu}{own:List Blk}(h:Own B0 X A w μ own)(S:B0<=w.heap.size){k:Nat}{x y:Value}{bl:Blk}(l:μ k=some x)(W:∃a n m,x=.slice a n m)
 (Y:∃a n m,y=.slice a n m) (d:EP y=none\/EP y=EP x\/(∃b,EP y=some b/\w.heap.size<=b/\b<w'.heap.size/\B0<=b)) (u:w.heap.size<=w'.heap.size) (H:∀b,b<w.heap.size->EP x≠some b->w'.heap[b]?=w.heap[b]?)
 (Z:w'.os=w.os) (t5:w'.tape=w.tape) (R1:w'.output=w.output)
 (bc:Keeps' [k] w w' (held A μ) (held A (μ.set k y)) μ (μ.set k y)->CT w' (held A (μ.set k y)) (μ.set k y) y bl) (R2:w.drawn<=w'.drawn:=by first|exact Ir _|exact Nat.le_succ _):
 After' [k] B0 X A w w' μ (μ.set k y) ((own.map (Blk.kill [k])).set k bl):=by
 obtain⟨xa,xn,xm,rfl⟩:=W;obtain⟨o,q,r,rfl⟩:=Y;have v:=h.rng;have I:Keeps' [k] w w' (held A μ) (held A (μ.set k (.slice o q r))) μ (μ.set k (.slice o q r)):=by
  refine⟨u,λb f B=>H b f (λe=>B (.inr ⟨k,_,l,.inl e⟩)),λb f B=> ?_,λj z hj c=>by simp only[J6]at hj;simp[Mu.set,hj,c],λj z hj c=>by simp only[J6]at hj;subst hj;rw[l]at c;cases c;exact .inl ⟨_,_,_,rfl⟩⟩;rcases B with B|⟨j,z,hj,c⟩
  .exact .inl B
  .unfold Mu.set at hj;split at hj
   .cases hj;rw[RS]at c;rcases d with d|d|⟨T,d,J,_⟩
    .rw[d]at c;cases c
    .rw[d]at c;exact .inr ⟨k,_,l,.inl c⟩
    .rw[d]at c;cases c;omega
   .exact .inr ⟨j,z,hj,c⟩
 have U:∀j z b,j≠k->μ j=some z->CA z b->EP (Value.slice xa xn xm)≠some b:=λj z b hj c f e=>hj (h.inj j k z _ b c l f (.inl e));refine⟨⟨λj z hj=> ?_,λj K z L b hj s c M=> ?_,λj z b hj c=> ?_,λb f=>Jf (h.bnd b f) u⟩,⟨Z,t5,R1,λ_=>R2,u,λi hi hX=> ?_⟩,I⟩
 .by_cases e:j=k
  .subst e;have:z=.slice o q r:=Ek;subst this;obtain⟨C,N,_⟩:=h.blk j _ l;have E:j<own.length:=(Ij.1 N).1;exact⟨bl,by simp[E],bc I⟩
  .have s:μ j=some z:=Et;obtain⟨C,N,pf⟩:=h.blk j z s;refine⟨C.kill [k],by rw[Iw (Ne.symm e),Jb,N];rfl,pf.change I (λb f=>H b (v j z b s f).1 (U j z b e s f))⟩
 .have F:∀j z,Mu.set μ k (.slice o q r) j=some z->(j=k/\z=.slice o q r)\/(j≠k/\μ j=some z):=by
   intro j z hj;by_cases e:j=k
   .subst e;exact .inl ⟨rfl,Ek⟩
   .exact .inr ⟨e,Et⟩
  have g:∀j z,j≠k->μ j=some z->CA z b->CA (.slice o q r) b->False:=by
   intro j z hj c f t;rw[RS]at t;rcases d with d|d|⟨T,d,J,_⟩
   .rw[d]at t;cases t
   .rw[d]at t;exact U j z b hj c f t
   .rw[d]at t;cases t;have:=(v j z b c f).1;omega
  rcases F j z hj with⟨e,rfl⟩|⟨e,em⟩<;>rcases F K L s with⟨O,e2⟩|⟨O,G⟩
  .rw[e,O]
  .exact(g K L O G M c).elim
  .subst e2;exact(g j z e em c M).elim
  .exact h.inj j K z L b em G c M
 .by_cases e:j=k
  .subst e;have:z=.slice o q r:=Ek;subst this;rw[RS]at c;rcases d with d|d|⟨T,d,J,E,S⟩
   .rw[d]at c;cases c
   .rw[d]at c;obtain⟨P,Q,R⟩:=v j _ b l (.inl c);exact⟨Jf P u,Q,R⟩
   .rw[d]at c;cases c;exact⟨E,λha=>by have:=h.bnd _ ha;omega,.inl S⟩
  .have s:μ j=some z:=Et;obtain⟨P,Q,R⟩:=v j z b s c;exact⟨Jf P u,Q,R⟩
 .rcases Mg i w.heap.size with E|J
  .refine H i E (λe=> ?_);rcases(v k _ i l (.inl e)).2.2 with V|V
   .omega
   .exact hX V
  .omega
theorem b2u{B0:Nat}{X A:Nat->Prop}{w w':World}{μ:Mu}{own:List Blk}(h:Own B0 X A w μ own)(c:B0<=w.heap.size){k:Nat}{x y:Value}{bl:Blk}(d:μ k=some x)(e:∃a n m,x=.slice a n m)
 (f:∃a n m,y=.slice a n m) (g:EP y=EP x\/(∃b,EP y=some b/\w.heap.size<=b/\b<w'.heap.size/\B0<=b)) (i:w.heap.size<=w'.heap.size) (j:∀b,b<w.heap.size->EP x≠some b->w'.heap[b]?=w.heap[b]?)
 (l:w'.os=w.os) (o:w'.tape=w.tape) (p:w'.output=w.output)
 (q:Keeps' [k] w w' (held A μ) (held A (μ.set k y)) μ (μ.set k y)->CT w' (held A (μ.set k y)) (μ.set k y) y bl) (r:w.drawn<=w'.drawn:=by first|exact Ir _|exact Nat.le_succ _):
 After' [k] B0 X A w w' μ (μ.set k y) ((own.map (Blk.kill [k])).set k bl):=
 b0y h c d e f (.inr g) i j l o p q r
def QR(own:List Blk)(sz:Nat):SV->Option (Nat×(Nat->List SV))
 |.con (.slice none 0 0)=>some (0,λ_=>[])
 |.sl a n f _=>if sz=a then some (n,f)else none
 |.osl k=>match own[k]? with
  |some (.row _ a n f _)=>if sz=a then some (n,f)else none
  |_=>none
 |_=>none
section
variable{P:Program}{w:World}{μ:Mu}{B0:Nat}{X A:Nat->Prop}{own ownN:List Blk}
theorem b0g(S:Own B0 X A w μ ownN)(U:∀(k:Nat) (bl:Blk),own[k]?=some bl->ownN[k]?=some bl){y:SV}{v:Value}{sz n:Nat}{f:Nat->List SV}(z:D w (held A μ) μ y v)(d:QR own sz y=some (n,f)):
 ∃(a:Option Addr) (m:Nat) (news:List Value),v=.slice a n m/\n<=m/\m<=maxLen/\news.length=n*sz/\(∀v∈news,v.oneCell'=true)/\(∀i,i<n->(f i).length=sz/\(f i).all SV.pure=true)/\
  (0<n->∃E,a=some E/\E.spot=none/\∀(j:Nat) (u:Value),news[j]?=some u->w.cell? (E.add j)=some u)/\
  ∀(i j:Nat) (s:SV) (u:Value),i<n->(f i)[j]?=some s->news[i*sz+j]?=some u->D w (held A μ) μ s u:=by
 cases z with
 |con=>
  unfold QR at d;split at d<;>first
   |(rename_i V;cases V;cases d;exact⟨none,0,[],rfl,Ir _,Eu,Dm,Dm,λi h=>absurd h (Ja _),λh=>absurd h (Lg _),λi j s u h=>absurd h (Ja _)⟩)
   |simp_all
 |sl a b o m g F hx W N hl G=>
  rename_i H q Y c;simp only[QR]at d;split at d;rotate_left
  .cases d
  rename_i e;subst e;simp only[Hy]at d;obtain⟨rfl,rfl⟩:=d;have BH:∀(x:Nat) (u:Value),((List.range (q*sz)).map λx=>g (x/sz) (x%sz))[x]?=some u->x<q*sz/\u=g (x/sz) (x%sz):=by intro x u l;simp only[I2]at l;obtain⟨y,z,rfl⟩:=l;rw[Ij]at z;obtain⟨O,e⟩:=z;simp at O e;subst e;exact⟨O,rfl⟩
  have split_:∀x,x<q*sz->x/sz<q/\x%sz<sz/\x/sz*sz+x%sz=x:=by
   intro x hx;have Z:0<sz:=by
    rcases Jz sz with I|I
    .subst I;omega
    .exact I
   refine⟨Nat.div_lt_of_lt_mul (by rwa[Lp]),Mr _ Z,?_⟩;have:=Nat.div_add_mod x sz;rw[Lp]at this;exact this
  refine⟨a,m,(List.range (q*sz)).map λx=>g (x/sz) (x%sz),rfl,F,hx,Dm,?_,hl,?_,?_⟩
  .intro v J;obtain⟨x,cw,e⟩:=Jg.1 J;obtain⟨r,t⟩:=BH x v (by rw[<-e];exact Ig cw);obtain⟨B,K,_⟩:=split_ x r;rw[t];exact((N (Nat.lt_of_le_of_lt (Ix _) B)).2.2.2 _ _ B K).2
  .intro C;obtain⟨rfl,hb,hr⟩:=N C;refine⟨_,rfl,rfl,λx u l=> ?_⟩;obtain⟨r,t⟩:=BH x u l;obtain⟨B,K,s3⟩:=split_ x r;have:=(hr.2 _ _ B K).1;rw[K9,t,<-this,Kq,s3]
  .intro i j s u hi hs l;obtain⟨r,t⟩:=BH _ u l;have P:j<sz:=Fs;have L:(i*sz+j)/sz=i:=by rw[Lp,Nat.mul_add_div Dj,Nat.div_eq_of_lt P];rfl
   have e2:(i*sz+j)%sz=j:=by rw[Lp,Nat.mul_add_mod,Nat.mod_eq_of_lt P]
   rw[L,e2]at t;rw[t];exact G i j s hi hs
 |osl h=>
  rename_i k M Q a0;simp only[QR]at d;split at d;rotate_left
  .cases d
  rename_i T H q Y c hk;split at d;rotate_left
  .cases d
  rename_i e;subst e;simp only[Hy]at d;obtain⟨rfl,rfl⟩:=d;obtain⟨bl,R,bc⟩:=S.blk _ _ h;rw[U _ _ hk]at R;cases R;obtain⟨a,m,L,C,F,W,hl,bb⟩:=bc;cases L;rcases bb with rfl|⟨b,o,vs,c7,rfl,hh,ho,r,G⟩
  .obtain rfl:M=0:=Dj;exact⟨_,0,[],rfl,Ir _,Eu,Dm,Dm,hl,λh=>absurd h (Lg _),λi j s u h=>absurd h (Ja _)⟩
  .have bj:M*sz<=Q*sz:=Js _ C;refine⟨_,Q,(vs.drop o).take (M*sz),rfl,C,F,Du,λv J=>r v (List.mem_of_mem_drop (List.mem_of_mem_take J)),hl,λ_=>⟨_,rfl,rfl,λj u l=> ?_⟩,λi j s u hi hs l=> ?_⟩
   .rw[K9,Qw hh];exact(GJ l).2
   .exact G i j s u hi hs (by rw[Kq];exact(GJ l).2)
 |_=>simp[QR]at d
def OI(d:Int):Option (Option SV)->Option Int
 |none=>some d
 |some (some (.int _ n))=>some n
 |_=>none
def c2i(P:Program)(_:List Blk)(T:TypeId)(x:SV)(lo hi mx:Option (Option SV)):Option (Prop×SV):=
 match P.underlying T with
 |some (.slice e)=>match x,mx with
  |.sl a n f c,none=>do
   let l<-OI 0 lo
   let h<-OI n hi
   some (CH P e=some a/\0<=l/\l<=h/\h<=n,.sl a (h-l).toNat (λj=>f (l.toNat+j)) (c.map λm=>m-l.toNat))
  |.sl a n f _,some m=>do
   let l<-OI 0 lo
   let h<-OI n hi
   let m<-OI n (some m)
   if hi.isNone then none else
   some (CH P e=some a/\0<=l/\l<=h/\h<=m/\m<=n,.sl a (h-l).toNat (λj=>f (l.toNat+j)) (some (m-l).toNat))
  |_,_=>none
 |some (.array n e)=>match x,lo,hi,mx with
  |.rel a b f 0 0,none,none,none=>if CH P e=some a/\n=b/\n<=1000000 then some (True,.sl a n f (some n))else none
  |_,_,_,_=>none
 |_=>none
end
section
variable{P:Program}{w:World}{μ:Mu}{B0:Nat}{X A:Nat->Prop}{own ownN:List Blk}
def DO(w:World)(H:Nat->Prop)(μ:Mu)(o:Option (Option SV))(v:Option Value):Prop:=
 match o,v with
 |none,none=>True
 |some (some s),some u=>D w H μ s u
 |some none,some _=>True
 |_,_=>False
theorem d4b{H:Nat->Prop}{sz n:Nat}{f:Nat->List SV}{a:Option Addr}{b o m l h m':Nat}{g:Nat->Nat->Value}(_:n<=m)(hx:m<=maxLen)
 (k:0<n->a=some ⟨b,o,none⟩/\¬H b/\UV w b o sz n g) (q:∀i,i<n->(f i).length=sz/\(f i).all SV.pure=true) (r:∀(i j:Nat) (s:SV),i<n->(f i)[j]?=some s->D w H μ s (g i j))
 (h1:l<=h) (h2:h<=n) (h3:h<=m') (h4:m'<=m) {c:Option Nat} (t:c=none\/c=some (m'-l)):
 D w H μ (.sl sz (h-l) (λj=>f (l+j)) c) (.slice (if m'=l then a else a.map (·.add (l*sz))) (h-l) (m'-l)):=by
 refine .sl _ b (o+l*sz) (m'-l) (λi j=>g (l+i) j) Dj Dj t (λhn=> ?_) (λi d=>q _ Dj) (λi j s d hs=>r _ _ _ Dj hs);obtain⟨rfl,u,e⟩:=k Dj;rw[Ii Dj];refine⟨by simp[K9],u,e.1,λi j d v=> ?_⟩;have:=e.2 (l+i) j Dj v;rwa[show o+(l+i)*sz+j=o+l*sz+i*sz+j from by rw[L3];omega]at this
theorem c2j{H:Nat->Prop}{T:TypeId}{x s:SV}{v:Value}{lo hi mx:Option (Option SV)}{A B vm:Option Value}{C:Prop}(hx:D w H μ x v)(K:DO w H μ lo A)(L:DO w H μ hi B)(M:DO w H μ mx vm)
 (i:c2i P own T x lo hi mx=some (C,s)) (W:C):∃r,(Instr.sliceAt T v A B vm).run P w=.ok r w/\D w H μ s r:=by
 have j:∀{d:Int} {o:Option (Option SV)} {u:Option Value} {n:Int},DO w H μ o u->OI d o=some n->(u=none/\o=none/\n=d)\/∃k,u=some (.int k n)/\o.isNone=false:=by
  intro d o u n q z;unfold OI at z;split at z
  .cases z;cases u with
   |none=>exact .inl ⟨rfl,rfl,rfl⟩
   |some _=>simp[DO]at q
  .cases z;cases u with
   |none=>simp[DO]at q
   |some u=>simp only[DO]at q;cases q;exact .inr ⟨_,rfl,rfl⟩
  .cases z
 unfold c2i at i;split at i
 .rename_i e hT;have jx:P.elem T=e:=Fm;split at i
  .rename_i X n f c;simp only[I5,Hy]at i;obtain⟨l,N,h,O,rfl,rfl⟩:=i;obtain⟨y,h0,h1,h2⟩:=W;simp only[CH,In]at y;obtain⟨t,E,rfl⟩:=y;cases vm with
   |some _=>simp[DO]at M
   |none=>
   cases hx with
   |sl a b o m g Q R G S F q=>
    have U:(Instr.sliceBounds true n m A B none).run P w=.ok (l.toNat,h.toNat,m) w:=by
     rcases j K N with⟨rfl,_,rfl⟩|⟨I,rfl,_⟩<;>rcases j L O with⟨rfl,_,rfl⟩|⟨J,rfl,_⟩
     .simp[Instr.sliceBounds]
     .simp[Instr.sliceBounds,Kr w J h m _ Dj Dj]
     .simp[Instr.sliceBounds,Kr w I l n _ Dj Dj]
     .have:=Kr (P:=P) w I l h.toNat .sliceB Dj Dj;simp[Instr.sliceBounds,Kr w J h m _ Dj Dj,this]
    refine⟨.slice (if m=l.toNat then a else a.map (·.add (l.toNat*t.size))) (h.toNat-l.toNat) (m-l.toNat),?_,?_⟩;rotate_left
    .have:=d4b (w:=w) (H:=H) (μ:=μ) (l:=l.toNat) (h:=h.toNat) (m':=m) Q R S F q Dj Dj Dj (Ir _) (c:=c.map λm=>m-l.toNat) (by rcases G with rfl|rfl;exact .inl rfl;exact .inr rfl);rw[show (h-l).toNat=h.toNat-l.toNat from Dj];exact this
    .simp only[Instr.sliceAt,Hz,Jh hT,Instr.slice,U,GX E]
  .rename_i X n f c m;simp only[I5]at i;obtain⟨l,N,h,O,mm,md,i⟩:=i;split at i
   .cases i
   rename_i V;simp only[Hy]at i;obtain⟨rfl,rfl⟩:=i;obtain⟨y,h0,h1,h2,h3⟩:=W;simp only[CH,In]at y;obtain⟨t,E,rfl⟩:=y;cases hx with
   |sl a b o Y g Q R G S F q=>
    have U:(Instr.sliceBounds true n Y A B vm).run P w=.ok (l.toNat,h.toNat,mm.toNat) w:=by
     rcases j M md with⟨rfl,e,rfl⟩|⟨km,rfl,_⟩
     .cases e
     rcases j L O with⟨rfl,e,rfl⟩|⟨J,rfl,_⟩
     .simp[e]at V
     have Z:=Kr (P:=P) w km mm Y .slice3Acap Dj Dj;have e2:=Kr (P:=P) w J h mm.toNat .slice3B Dj Dj;rcases j K N with⟨rfl,_,rfl⟩|⟨I,rfl,_⟩
     .simp[Instr.sliceBounds,Z,e2]
     .have e3:=Kr (P:=P) w I l h.toNat .slice3C Dj Dj;simp[Instr.sliceBounds,Z,e2,e3]
    refine⟨.slice (if mm.toNat=l.toNat then a else a.map (·.add (l.toNat*t.size))) (h.toNat-l.toNat) (mm.toNat-l.toNat),?_,?_⟩;rotate_left
    .have:=d4b (w:=w) (H:=H) (μ:=μ) (l:=l.toNat) (h:=h.toNat) (m':=mm.toNat) Q R S F q Dj Dj Dj Dj (c:=some (mm-l).toNat) (.inr (by congr 1;omega));rw[show (h-l).toNat=h.toNat-l.toNat from Dj];exact this
    .simp only[Instr.sliceAt,Hz,Jh hT,Instr.slice,U,GX E]
  .cases i
 .rename_i n e hT;have jx:P.elem T=e:=Fm;have we:P.arrayLen T=n:=by simp[Program.arrayLen,hT]
  split at i
  .rename_i X n' f;split at i;rotate_left
   .cases i
   rename_i G;obtain⟨y,rfl,hn⟩:=G;simp only[Hy]at i;obtain⟨rfl,rfl⟩:=i;simp only[CH,In]at y;obtain⟨t,E,rfl⟩:=y;cases hx with
   |rel b o g hi z hr F q=>
    cases A<;>cases B<;>cases vm<;>simp[DO]at K L M
    refine⟨.slice (some ⟨b,o,none⟩) n n,?_,.sl _ b o n g (Ir _) Em (.inr rfl) (λ_=>⟨rfl,z,hr⟩) F q⟩;simp[Instr.sliceAt,Jh hT,Instr.sureAddr,Instr.sliceBounds,GX E,Addr.add_zero']
  .cases i
 .cases i
def Nh(c:Option Nat)(n:Nat):Option Nat:=c.bind λa=>if n<=a then some a else none
theorem c09{c:Option Nat}{n m:Nat}(h:c=none\/c=some m):Nh c n=none\/Nh c n=some m:=by
 rcases h with rfl|rfl
 .exact .inl rfl
 .unfold Nh;simp only[Kw];split
  .exact .inr rfl
  .exact .inl rfl
theorem d4k{c:Option Nat}{n m:Nat}(h:c=none\/c=some m)(hm:m<n):Nh c n=none:=by
 rcases h with rfl|rfl
 .rfl
 .unfold Nh;simp only[Kw];rw[Ii Dj]
def b41(own:List Blk)(e:TypeId)(a:TypeInfo)(m:Nat)(g:Nat->List SV):SV->Option (Prop×Nat×List Blk×Bool)
 |.con (.slice none 0 0)=>some (m<=9223372036854775807/\m*a.bytes<=140737488355328,own.length,own++[.row e a.size m g none],true)
 |.sl b n f c=>if b=a.size then
  some ((match c with|some c=>n=c|none=>False)/\(n=0\/0<m)/\n+m<=9223372036854775807/\(n+m)*a.bytes<=140737488355328,own.length,own++[.row e a.size (n+m) (λj=>if j<n then f j else g (j-n)) none],true)
  else none
 |.osl k=>match own[k]? with
  |some (.row d b n f c)=>if d=e/\b=a.size then
   some (n+m<=9223372036854775807/\(n+m)*a.bytes<=140737488355328,k,(own.map (Blk.kill [k])).set k (.row e b (n+m) (λj=>if j<n then f j else g (j-n)) (Nh c (n+m))),false)
   else none
  |_=>none
 |_=>none
def Rl(P:Program)(own:List Blk)(T:TypeId)(x y:SV):Option (Prop×Nat×List Blk×Bool):=
 (NG P T).bind λe=>(P.info? e).bind λa=>(Nb P e).bind λz=>(QR own a.size y).bind λb=>
   if z.length=a.size/\0<a.size/\z.all SV.isCell then b41 own e a b.1 b.2 x else none
theorem RP{b n:Nat}{a:Option Addr}{c:Nat}{news:List Value}(hl:news.length=n*b)(h:0<n->∃d,a=some d/\d.spot=none/\∀(j:Nat) (u:Value),news[j]?=some u->w.cell? (d.add j)=some u):
 (Builtin.firstCells b n (.slice a n c)).run P w=.ok news.toArray w:=by
 rcases Jz n with e|e
 .subst e;have:news=[]:=K8 Dx;subst this;cases a with
  |none=>simp[Builtin.firstCells]
  |some d=>simp[Builtin.firstCells,loadCells,loadCellsFrom]
 .obtain⟨d,rfl,_,f⟩:=h e;simp only[Builtin.firstCells];exact b1y d news (n*b) hl f
theorem Tr{a:Value}(d:∀v∈a.cells.toList,v.oneCell'=true)(n:Nat):∀v∈(Builtin.zeroCells a.cells n).toList,v.oneCell'=true:=by
 intro v c;simp only[Builtin.zeroCells,Array.toList_map,J4]at c;obtain⟨i,hi,rfl⟩:=c;have e:i<n*a.cells.size:=Eg;have f:0<a.cells.size:=by
  rcases Jz a.cells.size with b|b
  .rw[b]at e;omega
  .exact b
 have g:i%a.cells.size<a.cells.size:=Mr _ f;rw[Kt a.cells _ g];exact d _ Dm
theorem b00{T ty e:TypeId}{b:TypeInfo}{f:Value}(g:P.underlying T=some (.slice e))(hi:P.info? e=some b)(i:b.zero=some f)
 {a a':Option Addr} {n m k c:Nat} {olds news:List Value} (j:(Builtin.firstCells b.size n (.slice a n c)).run P w.drew=.ok olds.toArray w.drew) (l:(Builtin.firstCells b.size m (.slice a' m k)).run P w.drew=.ok news.toArray w.drew)
 (o:c<n+m) (qy:n+m<=9223372036854775807) (q:(n+m)*b.bytes<=140737488355328):
 (Builtin.append_ #[T,T] ty #[.slice a n c,.slice a' m k]).run P w=.ok (.slice (some ⟨w.heap.size,0,none⟩) (n+m) (grownCap w (n+m) c e))
   (w.drew.alloc (.cells (olds++news++(Builtin.zeroCells f.cells (grownCap w (n+m) c e-(n+m))).toList).toArray e)):=by
 have r:¬(n+m<=c):=Dj;have d:¬(9223372036854775807<((n:Int)+(m:Int))):=Dj;have h48:=growslice_fits o q;have s:¬(281474976710656<Builtin.nextslicecap (n+m) c*b.bytes):=Dj;simp[Builtin.append_,Jh g,sizeOf,typeInfo,zeroValue,hi,i,Builtin.lenOf,r,d,s,Question.forced,j,l,newRow,grownCap];congr 1;congr 1;apply Array.ext';simp
theorem b7h{T ty e:TypeId}{a:TypeInfo}(f:P.underlying T=some (.slice e))(hi:P.info? e=some a){d:TypeId}
 {b o:Nat} {vs:List Value} {a':Option Addr} {n m k c:Nat} {news:List Value} (g:w.heap[b]?=some (.cells vs.toArray d (0,0))) (i:(Builtin.firstCells a.size m (.slice a' m k)).run P w=.ok news.toArray w)
 (j:n+m<=c) (hl:o+n*a.size+news.length<=vs.length) (l:∀u∈news,u.oneCell'=true):
 (Builtin.append_ #[T,T] ty #[.slice (some ⟨b,o,none⟩) n c,.slice a' m k]).run P w=.ok (.slice (some ⟨b,o,none⟩) (n+m) c) (putRow w b (over vs (o+n*a.size) news) d):=by
 have hs:=Vr (P:=P) b (o+n*a.size) d news w vs 0 g Dj l;rw[L7]at hs;simp[Builtin.append_,Jh f,sizeOf,typeInfo,hi,Builtin.lenOf,j,i,K9,hs]
theorem b03{T ty e:TypeId}{b:TypeInfo}(c:P.underlying T=some (.slice e))(hi:P.info? e=some b){a a':Option Addr}{k:Nat}(d:(Builtin.firstCells b.size 0 (.slice a' 0 k)).run P w=.ok #[] w):
 (Builtin.append_ #[T,T] ty #[.slice a 0 0,.slice a' 0 k]).run P w=.ok (.slice a 0 0) w:=by
 cases a<;>simp[Builtin.append_,Jh c,sizeOf,typeInfo,hi,Builtin.lenOf,d,storeCells]
theorem b9b(h:Own B0 X A w μ ownN){k:Nat}{e:TypeId}{sz:Nat}{f:Nat->List SV}(u:μ k=none)(v:ownN[k]?=some (.row e sz 0 f none)){a:Option Addr}:
 Own B0 X A w (μ.set k (.slice a 0 0)) ownN/\Keeps w w (held A μ) (held A (μ.set k (.slice a 0 0))) μ (μ.set k (.slice a 0 0)):=by
 have n:Keeps w w (held A μ) (held A (μ.set k (.slice a 0 0))) μ (μ.set k (.slice a 0 0)):=by
  refine⟨Ir _,λ_ _ _=>rfl,λb o g=> ?_,λj y c=> ?_⟩
  .rcases g with g|⟨j,y,hj,c⟩
   .exact .inl g
   .unfold Mu.set at hj;split at hj
    .cases hj;exact absurd c b81
    .exact .inr ⟨j,y,hj,c⟩
  .unfold Mu.set;split
   .subst_vars;rw[u]at c;cases c
   .exact c
 have d:∀j y b,Mu.set μ k (.slice a 0 0) j=some y->CA y b->μ j=some y:=by
  intro j y b hj c;unfold Mu.set at hj;split at hj
  .cases hj;exact absurd c b81
  .exact hj
 refine⟨⟨λj y hj=> ?_,λj q y r b hj l c s=>h.inj j q y r b (d j y b hj c) (d q r b l s) c s,λj y b hj c=>h.rng j y b (d j y b hj c) c,h.bnd⟩,n⟩;by_cases t:j=k
 .subst t;have:y=.slice a 0 0:=Ek;subst this;exact⟨_,v,a,0,rfl,Ir _,Eu,.inl rfl,λi x=>absurd x (Ja _),.inl rfl⟩
 .have l:μ j=some y:=by simpa[Mu.set,t]using hj
  obtain⟨m,z,o⟩:=h.blk j y l;exact⟨m,z,o.keep n (λ_ _=>rfl)⟩
theorem Own.more{own':List Blk}(h:Own B0 X A w μ own)(hs:∀(k:Nat) (bl:Blk),own[k]?=some bl->own'[k]?=some bl):Own B0 X A w μ own':=
 ⟨λk x hx=>by obtain⟨bl,e,a⟩:=h.blk k x hx;exact⟨bl,hs _ _ e,a⟩,h.inj,h.rng,h.bnd⟩
theorem Ua{own:List Blk}{bl:Blk}(k:Nat)(b:Blk)(h:own[k]?=some b):(own++[bl])[k]?=some b:=by rw[It (Ij.1 h).1];exact h
theorem b26{w':World}{H':Nat->Prop}{μ':Mu}{sz n m:Nat}{f g:Nat->List SV}{us:List Value}{o:Nat}(a:∀i,i<n->(f i).length=sz/\(f i).all SV.pure=true)(b:∀i,i<m->(g i).length=sz/\(g i).all SV.pure=true)
 (d:∀(i j:Nat) (s:SV) (v:Value),i<n->(f i)[j]?=some s->us[o+i*sz+j]?=some v->D w' H' μ' s v) (e:∀(i j:Nat) (s:SV) (v:Value),i<m->(g i)[j]?=some s->us[o+(n+i)*sz+j]?=some v->D w' H' μ' s v):
 (∀i,i<n+m->((λj=>if j<n then f j else g (j-n)) i).length=sz/\((λj=>if j<n then f j else g (j-n)) i).all SV.pure=true)/\
   ∀(i j:Nat) (s:SV) (v:Value),i<n+m->((λj=>if j<n then f j else g (j-n)) i)[j]?=some s->us[o+i*sz+j]?=some v->D w' H' μ' s v:=by
 refine⟨λi k=> ?_,λi j s v k hs c=> ?_⟩
 .show (if i<n then f i else g (i-n)).length=sz/\(if i<n then f i else g (i-n)).all SV.pure=true;split
  .exact a i ‹_›
  .exact b _ Dj
 .replace hs:(if i<n then f i else g (i-n))[j]?=some s:=hs;split at hs
  .exact d i j s v ‹_› hs c
  .exact e (i-n) j s v Dj hs (by rw[show n+(i-n)=i from Dj];exact c)
end
section
variable{P:Program}{w:World}{μ:Mu}{B0:Nat}{X A:Nat->Prop}{own ownN:List Blk}
theorem UX{α:Type}{a b c:List α}{i:Nat}{v:α}(h:(a++b++c)[i]?=some v):(i<a.length->a[i]?=some v)/\(a.length<=i->i<a.length+b.length->b[i-a.length]?=some v):=by
 refine⟨λd=> ?_,λe h2=> ?_⟩
 .rwa[Ls,It d]at h
 .rwa[Ls,Iz e,It Dj]at h
theorem KV{i j n sz:Nat}(hi:i<n)(hj:j<sz):i*sz+j<n*sz:=by
 have:i*sz+sz<=n*sz:=by rw[<-Ln];exact Js _ hi
 omega
theorem c0n(I:Own B0 X A w μ own)(J:B0<=w.heap.size)(d8:μ own.length=none){T ty:TypeId}{x y:SV}{v u:Value}{R:Prop}{k:Nat}{own':List Blk}{M:Bool}(hx:D w (held A μ) μ x v)(hy:D w (held A μ) μ y u)
 (B:Rl P own T x y=some (R,k,own',M)) (hp:R):
 ∃r w' μ',(Builtin.append_ #[T,T] ty #[v,u]).run P w=.ok r w'/\D w' (held A μ') μ' (.osl k) r/\
  ((M=true/\After B0 X A w w' μ μ' own'/\∀j,j≠own.length->μ' j=μ j)\/(M=false/\After' [k] B0 X A w w' μ μ' own'/\∀j,j≠k->μ' j=μ j)):=by
 simp only[Rl,Ip]at B;obtain⟨e,hT,d,hi,z,hz,⟨m,g⟩,R3,B⟩:=B;have ht:=On hT;split at B;rotate_left
 .cases B
 rename_i me;obtain⟨rz,g9,me⟩:=me;obtain⟨inf',F,b8,m5,rfl,np⟩:=Qm (w:=w) (H:=held A μ) (μ:=μ) hz;rw[hi]at b8;cases b8;have jr:F.cells.size=d.size:=Ew;have fk:∀v∈F.cells.toList,v.oneCell'=true:=Qr np me;obtain⟨a',O,news,rfl,s5,R4,gq,S,jp,wm,vp⟩:=b0g I (λ_ _ h=>h) hy R3;have wc:(Builtin.firstCells d.size m (.slice a' m O)).run P w=.ok news.toArray w:=RP gq wm;have fi:(Builtin.firstCells d.size m (.slice a' m O)).run P w.drew=.ok news.toArray w.drew:=RP gq wm;unfold b41 at B;split at B
 ·-- nil
  simp only[Hy]at B;obtain⟨rfl,rfl,rfl,rfl⟩:=B;obtain⟨qy,G⟩:=hp;cases hx;have U:Own B0 X A w μ (own++[.row e d.size m g none]):=I.more Ua;have V:(own++[Blk.row e d.size m g none])[own.length]?=some (.row e d.size m g none):=Dm;rcases Jz m with K|K
  .subst K;obtain rfl:news=[]:=K8 Ft;obtain⟨o1,o2⟩:=b9b U d8 V (a:=none);exact Cu
  .have hr:=b00 (P:=P) (w:=w) (ty:=ty) ht hi m5 (a:=none) (a':=a') (n:=0) (m:=m) (k:=O) (c:=0) (olds:=[]) (news:=news) (by simp[Builtin.firstCells]) fi Dj Dj (by simpa using G);simp only[Ki,M8]at hr;have wn:=U.drew;have W:=grownCap_ge w m 0 e;have Y:=Mj w m 0 e Em;obtain⟨o1,o2⟩:=SJ (x:=.slice (some ⟨w.heap.size,0,none⟩) m (grownCap w m 0 e)) wn J d8 V (.cells (news++(Builtin.zeroCells F.cells (grownCap w m 0 e-m)).toList).toArray e) (λb G=>(Wb Dj).1 G) (λμ' _ E=>by
    refine⟨_,_,rfl,W,Y,.inl rfl,jp,.inr ⟨w.heap.size,0,_,Dj,rfl,Ly w.drew _,?_,λv l=> ?_,λi j s v b8 hs l=> ?_⟩⟩
    .simp only[Ie,gq,Kk,Mq,jr,<-L3];rw[show m+(grownCap w m 0 e-m)=grownCap w m 0 e from Dj];exact Bw
    .rcases Jd.1 l with l|l
     .exact S v l
     .exact Tr fk _ v l
    .have hj:j<d.size:=F8;rw[Ki,It (by rw[gq];exact KV b8 hj)]at l;exact((vp i j s v b8 hs l).keep Keeps.drew).keep E)
   refine⟨_,_,_,hr,.osl E3,.inl ⟨rfl,⟨o1,Fr.drew.trans (Fr.alloc _ J),?_⟩,λj hj=>E7⟩⟩;exact Cf
 ·-- a view without room
  rename_i sz n f c;split at B;rotate_left
  .cases B
  rename_i bp;subst bp;simp only[Hy]at B;obtain⟨rfl,rfl,rfl,rfl⟩:=B;obtain⟨Q,fj,qy,G⟩:=hp;obtain⟨c,rfl⟩:∃O,c=some O:=by
   cases c with
   |none=>exact Q.elim
   |some c=>exact⟨c,rfl⟩
  replace Q:n=c:=Q;obtain⟨a,t,olds,rfl,hnc0,hcx0,jw,ta,du,my,wq⟩:=b0g I (λ_ _ h=>h) hx (sz:=d.size) (n:=n) (f:=f) (by simp[QR]);have wr:t=n:=by
   cases hx with
   |sl a b o m g hm hx Z b7 hl hd=>
    rcases Z with Z|Z
    .cases Z
    .cases Z;exact Q.symm
  subst wr;have U:Own B0 X A w μ (own++[.row e d.size (t+m) (λj=>if j<t then f j else g (j-t)) none]):=I.more Ua;have V:(own++[Blk.row e d.size (t+m) (λj=>if j<t then f j else g (j-t)) none])[own.length]?=some (.row e d.size (t+m) (λj=>if j<t then f j else g (j-t)) none):=Dm;rcases Jz m with K|K
  .subst K;obtain rfl:t=0:=Dj;obtain rfl:news=[]:=K8 Ft;obtain⟨o1,o2⟩:=b9b U d8 V (a:=a);exact Cu
  .have ws:(Builtin.firstCells d.size t (.slice a t t)).run P w.drew=.ok olds.toArray w.drew:=RP jw my;have hr:=b00 (P:=P) (w:=w) (ty:=ty) ht hi m5 (olds:=olds) (news:=news) ws fi Dj qy G;have wn:=U.drew;have W:=grownCap_ge w (t+m) t e;have Y:=Mj w (t+m) t e Em;obtain⟨o1,o2⟩:=SJ (x:=.slice (some ⟨w.heap.size,0,none⟩) (t+m) (grownCap w (t+m) t e)) wn J d8 V (.cells (olds++news++(Builtin.zeroCells F.cells (grownCap w (t+m) t e-(t+m))).toList).toArray e) (λb G=>(Wb Dj).1 G) (λμ' _ E=>by
    have L:=b26 (w':=w.drew.alloc (.cells (olds++news++(Builtin.zeroCells F.cells (grownCap w (t+m) t e-(t+m))).toList).toArray e)) (H':=held A μ') (μ':=μ') (o:=0) (us:=olds++news++(Builtin.zeroCells F.cells (grownCap w (t+m) t e-(t+m))).toList) du jp
     (λi j s v b8 hs l=>by have hj:j<d.size:=Fu;have N:=KV b8 hj;have gn:=(UX l).1 Ez;rw[Ki]at gn;exact((wq i j s v b8 hs gn).keep Keeps.drew).keep E)
     (λi j s v b8 hs l=>by have hj:j<d.size:=F8;have N:=KV b8 hj;have m8:(t+i)*d.size=t*d.size+i*d.size:=L3 _ _ _;have:=(UX l).2 Ez (by rw[jw,gq];omega);rw[jw,show 0+(t+i)*d.size+j-t*d.size=i*d.size+j from Dj]at this;exact((vp i j s v b8 hs this).keep Keeps.drew).keep E)
    refine⟨_,_,rfl,W,Y,.inl rfl,L.1,.inr ⟨w.heap.size,0,_,Dj,rfl,Ly w.drew _,?_,λv l=> ?_,L.2⟩⟩
    .simp only[Ie,jw,gq,Kk,Mq,jr,<-L3];rw[show t+m+(grownCap w (t+m) t e-(t+m))=grownCap w (t+m) t e from Dj];exact Bw
    .rcases Jd.1 l with l|l
     .rcases Jd.1 l with l|l
      .exact ta v l
      .exact S v l
     .exact Tr fk _ v l)
   refine⟨_,_,_,hr,.osl E3,.inl ⟨rfl,⟨o1,Fr.drew.trans (Fr.alloc _ J),?_⟩,λj hj=>E7⟩⟩;exact Cf
 .rename_i k0;split at B;rotate_left
  .cases B
  rename_i C sz n f c hk;split at B;rotate_left
  .cases B
  rename_i ra;obtain⟨rfl,rfl⟩:=ra;simp only[Hy]at B;obtain⟨rfl,rfl,rfl,rfl⟩:=B;obtain⟨qy,G⟩:=hp;cases hx with
  |osl h=>
   obtain⟨bl,e1,bc⟩:=I.blk _ _ h;rw[hk]at e1;cases e1;obtain⟨a,q,e2,Q,hcm,fw,du,bb⟩:=bc;cases e2;rename_i q a;have grow:q<n+m->∀(olds:List Value),olds.length=n*d.size->(∀v∈olds,v.oneCell'=true)->(Builtin.firstCells d.size n (.slice a n q)).run P w.drew=.ok olds.toArray w.drew->
    (∀(i j:Nat) (s:SV) (v:Value),i<n->(f i)[j]?=some s->olds[i*d.size+j]?=some v->D w (held A μ) μ s v)->
    ∃r w' μ',(Builtin.append_ #[T,T] ty #[.slice a n q,.slice a' m O]).run P w=.ok r w'/\D w' (held A μ') μ' (.osl k0) r/\
     ((false=true/\After B0 X A w w' μ μ' ((own.map (Blk.kill [k0])).set k0 (.row C d.size (n+m) (λj=>if j<n then f j else g (j-n)) (Nh c (n+m))))/\∀j,j≠own.length->μ' j=μ j)\/
       (false=false/\After' [k0] B0 X A w w' μ μ' ((own.map (Blk.kill [k0])).set k0 (.row C d.size (n+m) (λj=>if j<n then f j else g (j-n)) (Nh c (n+m))))/\∀j,j≠k0->μ' j=μ j)):=by
    intro hg olds jw ta ws wq;have hr:=b00 (P:=P) (w:=w) (ty:=ty) ht hi m5 (olds:=olds) (news:=news) ws fi hg qy G;have W:=grownCap_ge w (n+m) q C;have Y:=Mj w (n+m) q C Em;have ha:=b2u (w':=w.drew.alloc (.cells (olds++news++(Builtin.zeroCells F.cells (grownCap w (n+m) q C-(n+m))).toList).toArray C)) (y:=.slice (some ⟨w.heap.size,0,none⟩) (n+m) (grownCap w (n+m) q C))
     (bl:=.row C d.size (n+m) (λj=>if j<n then f j else g (j-n)) (Nh c (n+m))) I J h ⟨_,_,_,rfl⟩ ⟨_,_,_,rfl⟩
     (.inr ⟨w.heap.size,Mo Dj,Ir _,Dm,J⟩) Dm (λb jb _=>Lv w.drew _ b jb) rfl rfl rfl (λE=>by
       have L:=b26 (w':=w.drew.alloc (.cells (olds++news++(Builtin.zeroCells F.cells (grownCap w (n+m) q C-(n+m))).toList).toArray C))
        (H':=held A (μ.set k0 (.slice (some ⟨w.heap.size,0,none⟩) (n+m) (grownCap w (n+m) q C)))) (μ':=μ.set k0 (.slice (some ⟨w.heap.size,0,none⟩) (n+m) (grownCap w (n+m) q C))) (o:=0) (us:=olds++news++(Builtin.zeroCells F.cells (grownCap w (n+m) q C-(n+m))).toList) du jp
        (λi j s v b8 hs l=>by have hj:j<d.size:=Fu;have N:=KV b8 hj;have gn:=(UX l).1 Ez;rw[Ki]at gn;exact JF E (wq i j s v b8 hs gn) (Iq.1 (du i b8).2 s (Ik hs)))
        (λi j s v b8 hs l=>by have hj:j<d.size:=F8;have N:=KV b8 hj;have m8:(n+i)*d.size=n*d.size+i*d.size:=L3 _ _ _;have:=(UX l).2 Ez (by rw[jw,gq];omega);rw[jw,show 0+(n+i)*d.size+j-n*d.size=i*d.size+j from Dj]at this;exact JF E (vp i j s v b8 hs this) (Iq.1 (jp i b8).2 s (Ik hs)))
       refine⟨_,_,rfl,W,Y,.inl (d4k fw Dj),L.1,.inr ⟨w.heap.size,0,_,Dj,rfl,Ly w.drew _,?_,λv l=> ?_,L.2⟩⟩
       .simp only[Ie,jw,gq,Kk,Mq,jr,<-L3];rw[show n+m+(grownCap w (n+m) q C-(n+m))=grownCap w (n+m) q C from Dj];exact Bw
       .rcases Jd.1 l with l|l
        .rcases Jd.1 l with l|l
         .exact ta v l
         .exact S v l
        .exact Tr fk _ v l)
    exact Cv
   rcases bb with rfl|⟨b,o,vs,c7,rfl,hh,ho,h1,hd⟩
   .obtain rfl:n=0:=Dj;rcases Jz m with K|K
    .subst K;obtain rfl:news=[]:=K8 Ft;have ha:=b2u (w':=w) (y:=.slice a 0 0) (bl:=.row C d.size (0+0) (λj=>if j<0 then f j else g (j-0)) (Nh c (0+0))) I J h ⟨_,_,_,rfl⟩ ⟨_,_,_,rfl⟩ (.inl rfl) (Ir _) (λ_ _ _=>rfl) rfl rfl rfl
      (λ_=>⟨a,0,rfl,Ir _,Eu,c09 fw,λi hi=>absurd hi (Ja _),.inl rfl⟩)
     exact⟨_,w,_,b03 ht hi wc,.osl E3,.inr ⟨rfl,ha,λj hj=>E7⟩⟩
    .exact grow Dj [] Dm Dm (RP (w:=w.drew) Dm (λh=>absurd h (Lg _))) (λi j s v b8=>absurd b8 (Ja _))
   .by_cases pz:n+m<=q
    .have bj:(n+m)*d.size<=q*d.size:=Js _ pz;have wu:(n+m)*d.size=n*d.size+m*d.size:=L3 _ _ _;have hr:=b7h (P:=P) (ty:=ty) (o:=o) ht hi hh wc pz Fv S;have N:=Nz hh;have ha:=b2u (w':=putRow w b (over vs (o+n*d.size) news) C) (y:=.slice (some ⟨b,o,none⟩) (n+m) q)
      (bl:=.row C d.size (n+m) (λj=>if j<n then f j else g (j-n)) (Nh c (n+m))) I J h ⟨_,_,_,rfl⟩ ⟨_,_,_,rfl⟩ (.inl ((Mo c7).trans (Mo c7).symm)) Gc (λi _ ba=>b0a (λe=>ba (by subst e;exact Mo c7))) rfl rfl rfl (λE=>by
        have L:=b26 (w':=putRow w b (over vs (o+n*d.size) news) C) (H':=held A (μ.set k0 (.slice (some ⟨b,o,none⟩) (n+m) q))) (μ':=μ.set k0 (.slice (some ⟨b,o,none⟩) (n+m) q)) (o:=o)
         (us:=over vs (o+n*d.size) news) du jp
         (λi j s v b8 hs l=>by have hj:j<d.size:=Fu;have N:=KV b8 hj;rw[LR _ _ _ _ Fv,Ii Dj]at l;exact JF E (hd i j s v b8 hs l) (Iq.1 (du i b8).2 s (Ik hs)))
         (λi j s v b8 hs l=>by have hj:j<d.size:=F8;have N:=KV b8 hj;have m8:(n+i)*d.size=n*d.size+i*d.size:=L3 _ _ _;rw[LR _ _ _ _ Fv,Ih Fv,show o+(n+i)*d.size+j-(o+n*d.size)=i*d.size+j from Dj]at l;exact JF E (vp i j s v b8 hs l) (Iq.1 (jp i b8).2 s (Ik hs)))
        exact⟨_,_,rfl,pz,hcm,c09 fw,L.1,.inr ⟨b,o,_,c7,rfl,Xb N,Ge,Rq _ _ _ h1 S,L.2⟩⟩)
     exact Cv
    .have bj:n*d.size<=q*d.size:=Js _ Q;refine grow Dj ((vs.drop o).take (n*d.size)) Du (λv l=>h1 v (List.mem_of_mem_drop (List.mem_of_mem_take l))) ?_ (λi j s v b8 hs l=>hd i j s v b8 hs (by rw[Kq];exact(GJ l).2));refine RP (w:=w.drew) Du (λ_=>⟨_,rfl,rfl,λj u hu=> ?_⟩);rw[K9,Qw (w:=w.drew) hh];exact(GJ hu).2
 .cases B
def b52(P:Program)(own:List Blk)(T:TypeId)(k:Nat)(lo hi:Option (Option SV)):Option (Prop×List Blk):=
 (NG P T).bind λe=>match own[k]? with
 |some (.row b a n f c)=>(OI 0 lo).bind λl=>(OI n hi).bind λh=>
  if CH P e=some a then some (0<=l/\l<=h/\h<=n,(own.map (Blk.kill [k])).set k (.row b a (h-l).toNat (λj=>f (l.toNat+j)) (c.map λm=>m-l.toNat)))else none
 |_=>none
theorem b97(G:Own B0 X A w μ own)(W:B0<=w.heap.size){T:TypeId}{k:Nat}{v:Value}{lo hi:Option (Option SV)}{E F:Option Value}{z:Prop}{own':List Blk}(hx:D w (held A μ) μ (.osl k) v)
 (Y:DO w (held A μ) μ lo E) (Z:DO w (held A μ) μ hi F) (t:b52 P own T k lo hi=some (z,own')) (hp:z):
 ∃r x,(Instr.sliceAt T v E F none).run P w=.ok r w/\D w (held A x) x (.osl k) r/\After' [k] B0 X A w w μ x own'/\own'.length=own.length/\k<own.length/\∀j,j≠k->x j=μ j:=by
 have B:∀{d:Int} {o:Option (Option SV)} {u:Option Value} {n:Int},DO w (held A μ) μ o u->OI d o=some n->(u=none/\o=none/\n=d)\/∃k,u=some (.int k n)/\o.isNone=false:=by
  intro d o u n y C;unfold OI at C;split at C
  .cases C;cases u with
   |none=>exact .inl ⟨rfl,rfl,rfl⟩
   |some _=>simp[DO]at y
  .cases C;cases u with
   |none=>simp[DO]at y
   |some u=>simp only[DO]at y;cases y;exact .inr ⟨_,rfl,rfl⟩
  .cases C
 simp only[b52,Ip]at t;obtain⟨e,hT,t⟩:=t;have H:=On hT;have jx:P.elem T=e:=by simp[Program.elem,H]
 split at t;rotate_left
 .cases t
 rename_i e' sz n f c I;simp only[Ip]at t;obtain⟨l,m6,h,t6,t⟩:=t;split at t;rotate_left
 .cases t
 rename_i J;simp only[Hy]at t;obtain⟨rfl,rfl⟩:=t;obtain⟨h0,h1,h2⟩:=hp;simp only[CH,In]at J;obtain⟨g,bq,rfl⟩:=J;cases hx with
 |osl K=>
  obtain⟨bl,L,bc⟩:=G.blk _ _ K;rw[I]at L;cases L;obtain⟨a,m,e2,fj,gz,hc,M,N⟩:=bc;cases e2;rename_i m a;have jg:(Instr.sliceBounds true n m E F none).run P w=.ok (l.toNat,h.toNat,m) w:=by
   rcases B Y m6 with⟨rfl,_,rfl⟩|⟨O,rfl,_⟩<;>rcases B Z t6 with⟨rfl,_,rfl⟩|⟨Q,rfl,_⟩
   .simp[Instr.sliceBounds]
   .simp[Instr.sliceBounds,Kr w Q h m _ Dj Dj]
   .simp[Instr.sliceBounds,Kr w O l n _ Dj Dj]
   .have:=Kr (P:=P) w O l h.toNat .sliceB Dj Dj;simp[Instr.sliceBounds,Kr w Q h m _ Dj Dj,this]
  have bj:l.toNat<=m:=Dj;refine⟨.slice (if m=l.toNat then a else a.map (·.add (l.toNat*g.size))) (h.toNat-l.toNat) (m-l.toNat),μ.set k (.slice (if m=l.toNat then a else a.map (·.add (l.toNat*g.size))) (h.toNat-l.toNat) (m-l.toNat)),?_,.osl E3,b0y G W K ⟨_,_,_,rfl⟩ ⟨_,_,_,rfl⟩ ?_ (Ir _) (λ_ _ _=>rfl) rfl rfl rfl (λbv=> ?_),Dm,(Ij.1 I).1,λj hj=>E7⟩
  .simp only[Instr.sliceAt,Hz,Jh H,Instr.slice,jg,GX bq]
  .by_cases q:m=l.toNat
   .left;rw[q,Ka];exact Vb
   .right;left;rw[Ii q];rcases N with h3|⟨b,o,R,S,rfl,U,ho,V,y⟩
    .omega
    .simp only[Ju,K9];exact(Mo Dj).trans (Mo S).symm
  .have eh:(h-l).toNat=h.toNat-l.toNat:=Dj;rw[eh];refine⟨if m=l.toNat then a else a.map (·.add (l.toNat*g.size)),m-l.toNat,rfl,Dj,Dj,?_,λi hi=>M _ Dj,?_⟩
   .rcases hc with rfl|rfl
    .exact .inl rfl
    .exact .inr rfl
   .by_cases q:m=l.toNat
    .left;omega
    .right;rcases N with h3|⟨b,o,R,S,rfl,U,ho,V,y⟩
     .omega
     .have m8:(m-l.toNat)*g.size=m*g.size-l.toNat*g.size:=Nat.sub_mul _ _ _;have hmle:l.toNat*g.size<=m*g.size:=Js _ bj;refine⟨b,o+l.toNat*g.size,R,Dj,by rw[Ii q];simp[K9],U,Dj,V,λi j s v hi hs hv=> ?_⟩;refine JF bv (y (l.toNat+i) j s v Dj hs ?_) (Iq.1 (M _ Dj).2 s (Ik hs));rwa[show o+(l.toNat+i)*g.size+j=o+l.toNat*g.size+i*g.size+j from by rw[L3];omega]
end
def Qx:List IntKind->List SV->Option (List Int)
 | [],[]=>some []
 |k::a,.int b n::r=>if k=b then(Qx a r).map (n:: ·)else none
 |_,_=>none
def VJ:KT->SV->Option (List Int)
 |.int1 k,.int a n=>if k=a then some [n]else none
 |.ints c,.agg d=>Qx c d
 |.str,.con (.string s)=>some (s.data.toList.map λb=>(b.toNat:Int))
 |_,_=>none
section
variable{w:World}{H:Nat->Prop}{μ:Mu}
theorem c1s:∀{ks:List IntKind} {cs:List SV} {q:List Int} {vs:List Value},Qx ks cs=some q->vs.length=cs.length->(∀(i:Nat) (s:SV) (v:Value),cs[i]?=some s->vs[i]?=some v->D w H μ s v)->
 vs=GY ks q/\q.length=ks.length:=by
 intro ks;induction ks with
 |nil=>
  intro cs q vs h hl _;match cs,h with
  | [],h=>simp[Qx]at h;subst h;simp at hl;subst hl;exact⟨rfl,rfl⟩
  |s::_,h=>simp[Qx]at h
 |cons k ks b=>
  intro cs q vs h hl a;match cs,h with
  | [],h=>simp[Qx]at h
  |.int k' n::r,h=>
   simp only[Qx]at h;split at h
   .rename_i e;subst e;simp only[In]at h;obtain⟨q',c,rfl⟩:=h;match vs,hl with
    |v::vs,hl=>
     have d:=a 0 _ v rfl rfl;cases d;obtain⟨f,g⟩:=b (vs:=vs) c Dx (λi s u hs j=>a (i+1) s u F9 (by simpa using j));exact⟨by simp[GY,<-f],by simp[g]⟩
   .cases h
  |.bool _::_,h|.con _::_,h|.own _ _::_,h|.osl _::_,h|.oel _ _ _ _::_,h|.sl _ _ _ _::_,h|.rel _ _ _ _ _::_,h|.agg _::_,h|.tup _::_,h|.clo _ _::_,h|.omp _::_,h|.mp _ _ _ _::_,h|.any::_,h=>simp[Qx]at h
theorem c21(s:ByteArray):f7m (s.data.toList.map λb=>(b.toNat:Int))=s:=by
 obtain⟨⟨l⟩⟩:=s;simp only[f7m,Lq];congr 1;apply Lz;induction l with
 |nil=>rfl
 |cons a l c=>simp[c]
theorem b16{K:KT}{s:SV}{v:Value}{q:List Int}(h:VJ K s=some q)(a:D w H μ s v):v=kv K q/\KA K q:=by
 unfold VJ at h;split at h
 .split at h
  .rename_i e;cases h;subst e;cases a;exact⟨rfl,rfl⟩
  .cases h
 .cases a with
  |agg vs d f=>
   obtain⟨g,i⟩:=c1s h d f;exact⟨by rw[g];rfl,i⟩
 .cases a;simp only[J8]at h;subst h;refine⟨by simp only[kv,c21],λn c=> ?_⟩;simp only[J4]at c;obtain⟨b,_,rfl⟩:=c;have:=b.toNat_lt;omega
 .cases h
end
section
variable{P:Program}{w:World}
theorem b75{r:Nat}{K:KT}{k:Bool}{has:List Int->Bool}{g:List Int->List Value}{key:TypeId}(p:KLaw P key K)(h:MapAt w r K k has g){q:List Int}(s:KA K q):
 ∃d c,w.heap[r]?=some (.map d c)/\(∀e∈d.toList,∃q,e.key=kv K q/\KA K q/\has q=true/\e.val=HD k (g q))/\d.toList.Pairwise (λa b=>a.key≠b.key)/\(∀q,has q=true->KA K q/\∃e∈d.toList,e.key=kv K q)/\
  ∃x,(Instr.findKey key (kv K q) d.toList).run P w=.ok x w/\((x=none/\has q=false/\∀e∈d.toList,e.key≠kv K q)\/∃(j:Nat) (e:MapEntry),x=some (j,HD k (g q))/\has q=true/\d.toList[j]?=some e/\e.key=kv K q):=by
 obtain⟨d,c,y,l,t,z⟩:=h.ex;refine⟨d,c,y,l,z,t,?_⟩;obtain⟨x,A,hx⟩:=p.find w q d.toList s (λe m=>by obtain⟨f,n,o,_⟩:=l e m;exact⟨f,o,n⟩);refine⟨x,A,?_⟩;rcases hx with⟨rfl,u⟩|⟨j,e,rfl,v,i⟩
 .refine .inl ⟨rfl,?_,u⟩;cases hb:has q with
  |false=>rfl
  |true=>
   obtain⟨_,e,m,i⟩:=t q hb;exact absurd i (u e m)
 .obtain⟨f,n,o,B,C⟩:=l e (Ik v);have:f=q:=p.inj f q o s (n.symm.trans i);subst this;exact .inr ⟨j,e,by rw[C],B,v,i⟩
theorem b7t{r:Nat}{b:Array MapEntry}{a:Nat}(h:w.heap[r]?=some (.map b a)):(getObj r).run P w=.ok (.map b a) w:=by simp[getObj,Sem.run,h]
theorem b7a{T key a:TypeId}{r:Nat}{K:KT}{c:Bool}{has:List Int->Bool}{g:List Int->List Value}{q:List Int}{ok:Bool}(i:P.underlying T=some (.map key a))(d:KLaw P key K)(h:MapAt w r K c has g)(f:KA K q)
 {z:Value} (k:has q=false->(zeroValue a).run P w=.ok z w):
 (Instr.lookup T (.map (some r)) (kv K q) ok).run P w=.ok (if ok then .tuple #[if has q then HD c (g q)else z,.bool (has q)]else if has q then HD c (g q)else z) w:=by
 obtain⟨l,clock,m,_,_,_,x,n,hx⟩:=b75 d h f;simp only[Instr.lookup,Hz,Jh i,b7t m,d.check w l.isEmpty q f,n];rcases hx with⟨rfl,b,_⟩|⟨j,e,rfl,b,_⟩
 .simp only[b,Hz,k b,I4]
 .simp only[b,Hz,Jv]
def Io(has:List Int->Bool)(q:List Int):List Int->Bool:=λp=>decide (p=q)||has p
def LO(w:World)(r:Nat)(o:Obj):World:={w with heap:=w.heap.setIfInBounds r o}
theorem b4x{r:Nat}{o:Obj}(h:r<w.heap.size):(LO w r o).heap[r]?=some o:=by simp[LO,h]
theorem Rf{r i:Nat}{o:Obj}(h:i≠r):(LO w r o).heap[i]?=w.heap[i]?:=by simp[LO,Ne.symm h]
theorem Us{r:Nat}{o:Obj}:(LO w r o).heap.size=w.heap.size:=by simp[LO]
theorem b6j{r:Nat}{c:Array MapEntry}{a:Nat}{b:Obj}(h:w.heap[r]?=some (.map c a)):(setObj r b).run P w=.ok () (LO w r b):=by simp[setObj,Sem.run,LO,h]
theorem b2g{T key t:TypeId}{r:Nat}{K:KT}{k:Bool}{has:List Int->Bool}{g:List Int->List Value}{q:List Int}{us:List Value}{v:Value}(X:v=HD k us)(I:P.underlying T=some (.map key t))(u:KLaw P key K)(h:MapAt w r K k has g)(n:KA K q):
 ∃o,(Instr.mapUpdate T (.map (some r)) (kv K q) v).run P w=.ok () (LO w r o)/\MapAt (LO w r o) r K k (Io has q) (λp=>if p=q then us else g p):=by
 have J:=h.lt;obtain⟨d,c,y,L,A,B,x,M,hx⟩:=b75 u h n;subst X;rcases hx with⟨rfl,N,O⟩|⟨j,e,rfl,N,hj,z⟩
 .refine⟨.map (d.push {key:=kv K q,val:=HD k us,born:=c}) (c+1),?_,⟨_,_,b4x J,λe f=> ?_,λp l=> ?_,?_⟩⟩
  .simp only[Instr.mapUpdate,Ic,Jh I,b7t y,u.check w false q n,M,b6j y]
  .simp only[Array.toList_push,Jd,J6]at f;rcases f with f|rfl
   .obtain⟨p,e1,e2,e3,e4⟩:=L e f;have:p≠q:=λC=>O e f (by rw[e1,C]);exact Cw
   .exact⟨q,rfl,n,by simp[Io],Dm⟩
  .simp only[Io,Jn,Is]at l;rcases l with rfl|l
   .exact⟨n,{key:=kv K p,val:=HD k us,born:=c},Dm,rfl⟩
   .obtain⟨a,e,f,Y⟩:=B p l;exact⟨a,e,by simp[f],Y⟩
  .simp only[Array.toList_push];rw[List.pairwise_append];exact⟨A,List.pairwise_singleton _ _,λa Z b Q=>by simp at Q;subst Q;exact O a Z⟩
 .refine⟨.map (d.modify j λe=>{e with key:=kv K q,val:=HD k us}) c,?_,?_⟩
  .have bm:d[j]?=some e:=E8;have db:=u.stays w q n;simp only[Instr.mapUpdate,Ic,Jh I,b7t y,u.check w false q n,M,bm,I9,z,db,b6j y]
  .have E:(d.modify j λe=>{e with key:=kv K q,val:=HD k us}).toList=d.toList.set j {e with key:=kv K q,val:=HD k us}:=by
    apply L4;intro i;rw[Kd,Li,List.getElem?_set];have s:j<d.toList.length:=(Ij.1 hj).1;by_cases e1:j=i
    .subst e1;rw[Ih rfl,Ih rfl,Ih s,<-Kd,hj];rfl
    .rw[Ii e1,Ii e1,Kd]
   have R:(d.toList.set j {e with key:=kv K q,val:=HD k us}).map (·.key)=d.toList.map (·.key):=by
    apply L4;intro i;rw[Jb,Jb,List.getElem?_set];have s:j<d.toList.length:=(Ij.1 hj).1;by_cases e1:j=i
    .subst e1;rw[Ih rfl,Ih s,hj];simp[z]
    .rw[Ii e1]
   have F:(d.toList.map (·.key)).Pairwise (· ≠ ·):=Kf.2 A;refine⟨_,_,b4x J,λG f=> ?_,λp l=> ?_,?_⟩
   .rw[E]at f;obtain⟨i,hi,eg⟩:=Jg.1 f;have m:(d.toList.set j {e with key:=kv K q,val:=HD k us})[i]?=some G:=by rw[Ig hi,eg]
    rw[List.getElem?_set]at m;split at m
    .split at m
     .cases m;exact⟨q,rfl,n,by simp[Io],Dm⟩
     .cases m
    .rename_i ba;obtain⟨p,e1,e2,e3,e4⟩:=L G (Ik m);have:p≠q:=λC=>by
      subst C;have S:i<d.toList.length:=(Ij.1 m).1;have s:j<d.toList.length:=(Ij.1 hj).1;have U:=Jr.1 A;have V:d.toList[i]=G:=(Ij.1 m).2;have W:d.toList[j]=e:=(Ij.1 hj).2;rcases Nat.lt_or_gt_of_ne ba with H|H
      .exact U j i s S H (by rw[V,W,z];exact e1.symm)
      .exact U i j S s H (by rw[V,W,z];exact e1)
     exact Cw
   .have vq:KA K p/\∃e∈d.toList,e.key=kv K p:=by
     simp only[Io,Jn,Is]at l;rcases l with rfl|l
     .exact B p N
     .exact B p l
    obtain⟨a,e0,f,R5⟩:=vq;have:kv K p∈(d.toList.set j {e with key:=kv K q,val:=HD k us}).map (·.key):=by rw[R];exact J4.2 ⟨e0,f,R5⟩
    obtain⟨e1,vu,gv⟩:=J4.1 this;exact⟨a,e1,by rw[E];exact vu,gv⟩
   .rw[E];exact Kf.1 (by rw[R];exact F)
end
def Ny(ρ:Operand->Option SV):Option Operand->Option (Option SV)
 |none=>none
 |some x=>some (ρ x)
def d4i(E:Env)(own:List Blk)(ρ:Operand->Option SV)(c:Call):Option (Prop×SV):=
 match c.callee with
 |.builtin b=>(c.args.toList.mapM ρ).bind λa=>b5a E.P own b c.argTypes.toList a
 |_=>none
def WO(own:List Blk):SV->Option (KT×Bool×(List Int->Bool)×(List Int->List SV))
 |.mp K b a val=>some (K,b,a,val)
 |.omp k=>match own[k]? with
  |some (.map K b a val)=>some (K,b,a,val)
  |_=>none
 |_=>none
def zAgg(P:Program)(T:TypeId):Option Bool:=(P.info? T).bind λi=>i.zero.map λz=>match z with
 |.agg _=>true
 |_=>false
def YI(E:Env)(own:List Blk)(T:TypeId)(m i:SV)(ok:Bool):Option (Prop×SV):=
 match E.P.underlying T with
 |some (.map _ a)=>(WO own m).bind λ(K,c,b,val)=>if E.kt T=some K/\HT E.P a=some c/\zAgg E.P a=some c then
  (VJ K i).bind λq=>(TL E.P a (val q)).map λs=>(b q=false->Nb E.P a=some (val q),if ok then .tup [s,.bool (b q)]else s)
  else none
 |_=>none
def zPtr(P:Program)(T:TypeId):Bool:=match (P.info? T).bind (·.zero)with
 |some (.pointer none)=>true
 |_=>false
def b5b(E:Env)(own:List Blk)(T:TypeId)(m i:SV)(ok:Bool):Option (Prop×SV):=
 match m with
 |.omp j=>match own[j]? with
  |some (.pmap K k b BH)=>match E.P.underlying T with
   |some (.map _ a)=>if E.kt T=some K/\HT E.P a=some false/\zPtr E.P a=true then
    (VJ K i).map λq=>(True,if ok then .tup [.fp (b q) k (BH q) 0,.bool (b q)]else .fp (b q) k (BH q) 0)else none
   |_=>none
  |_=>YI E own T m i ok
 |_=>YI E own T m i ok
def c2h(P:Program)(T:TypeId)(x i:SV):Option (Prop×SV):=
 match i with
 |.int _ n=>match P.underlying T with
  |some (.array len e)=>match x with
   |.agg b=>match CH P e with
    |some a=>if n.toNat<len/\b.length=len*a then(TL P e ((b.drop (n.toNat*a)).take a)).map λs=>(0<=n,s)else none
    |none=>none
   |_=>none
  |some .string=>match x with
   |.con (.string s)=>some (0<=n/\n.toNat<s.size,.int .u8 (((s.data.toList.getD n.toNat 0).toNat:Nat):Int))
   |_=>none
  |_=>none
 |_=>none
def d2f(P:Program)(own:List Blk)(b:BinOp)(T:TypeId):SV->SV->Option (Prop×SV)
 |.osl k,.con (.slice none 0 0)=>match own[k]?,P.underlying T with
  |some (.row _ _ n _ _),some (.slice _)=>match b with
   |.eql=>some (True,.ub (n=0) True)
   |.neq=>some (True,.ub True (n=0))
   |_=>none
  |_,_=>none
 |_,_=>none
def Wx(E:Env)(own:List Blk)(ρ:Operand->Option SV)(h:Op):Option (Prop×SV):=
 match h with
 |.move x=>(ρ x).map λs=>(True,s)
 |.assign x=>(ρ x).map λs=>(True,s)
 |.nilCheck x=>match ρ x with
  |some (.own k o)=>some (True,.own k o)
  |some (.oel k e i o)=>some (True,.oel k e i o)
  |some (.rel e n f i o)=>some (True,.rel e n f i o)
  |some (.clo f g)=>some (True,.clo f g)
  |_=>none
 |.load T x=>(ρ x).bind λp=>Sf E.P own T p
 |.fieldAddr T x f=>(ρ x).bind λp=>b1r E.P T f p
 |.field T x f=>(ρ x).bind λp=>c30 E.P T f p
 |.indexAddr T x i=>(ρ x).bind λp=>(ρ i).bind λn=>b1p E.P own T p n
 |.binOp b T x y _=>(ρ x).bind λs=>(ρ y).bind λt=>match d2f E.P own b T s t with
  |some r=>some r
  |none=>c4w E b T s t
 |.unOp u _ x=>(ρ x).bind λs=>evUn u s
 |.convert S T x=>(ρ x).bind λs=>d46 E.P S T s
 |.extract x i=>(ρ x).bind λs=>b4t s i
 |.build T a=>(a.toList.mapM λ(p:Nat×Operand)=>(ρ p.2).map λs=>(p.1,s)).bind λj=>c3g E.P T j
 |.slice T x l q v=>(ρ x).bind λs=>c2i E.P own T s (Ny ρ l) (Ny ρ q) (Ny ρ v)
 |.makeFunc (.func f) first d=>if first.isEmpty then(d.toList.mapM ρ).map λg=>(True,.clo f g)else none
 |.call c=>d4i E own ρ c
 |.index T x i=>(ρ x).bind λs=>(ρ i).bind λt=>c2h E.P T s t
 |.lookup T m i w=>(ρ m).bind λs=>(ρ i).bind λt=>b5b E own T s t w
 |_=>none
section
variable{E:Env}{w:World}{μ:Mu}{B0:Nat}{X A:Nat->Prop}{own ownN:List Blk}{a:Act}{ρ:Operand->Option SV}
theorem SQ(b:∀(x:Operand) (s:SV),ρ x=some s->D w (held A μ) μ s (a.eval x)){xs:List Operand}{c:List SV}(h:xs.mapM ρ=some c):
 DL w (held A μ) μ c (xs.map a.eval):=by
 obtain⟨h1,g⟩:=MY h;refine⟨E9,λi s v hs d=> ?_⟩;simp only[I2]at d;obtain⟨x,hx,rfl⟩:=d;obtain⟨y,f,e⟩:=g i x hx;rw[hs]at f;cases f;exact b x s e
theorem b84(q:Own B0 X A w μ ownN)(t:∀(k:Nat) (bl:Blk),own[k]?=some bl->ownN[k]?=some bl){b:Builtin}{ts:List TypeId}{ty:TypeId}{y:List SV}{vs:List Value}{s:SV}{f:Prop}{cs:Array Bool}
 (c:DL w (held A μ) μ y vs) (d:b5a E.P own b ts y=some (f,s)):∃r,(builtin b ts.toArray ty cs vs.toArray).run E.P w=.ok (.value r) w/\D w (held A μ) μ s r:=by
 unfold b5a at d;split at d
 .rename_i T x;split at d
  .rename_i e g;have i:=On g;simp only[Hx]at d;obtain⟨n,j,rfl,rfl⟩:=d;match vs,c with
   | [v],c=>
     obtain⟨z,m,rfl,_,_⟩:=c1t q t (c.2 0 x v rfl rfl) j;refine⟨_,?_,.int⟩;simp[builtin,Builtin.len_,Jh i,goInt]
   | [],c=>exact absurd c.1 Dm
   |_::_::_,c=>exact absurd c.1 Dm
  .cases d
 .rename_i T x;split at d
  .rename_i e g;have i:=On g;simp only[Hx]at d;obtain⟨n,j,rfl,rfl⟩:=d;match vs,c with
   | [v],c=>
     obtain⟨z,m,rfl⟩:=c3n q t (c.2 0 x v rfl rfl) j;refine⟨_,?_,.int⟩;simp[builtin,Builtin.cap_,Jh i,goInt]
   | [],c=>exact absurd c.1 Dm
   |_::_::_,c=>exact absurd c.1 Dm
  .cases d
 .rename_i k a B b;cases d;match vs,c with
  | [u,v],c=>
    have l:=c.2 0 _ u rfl rfl;have o:=c.2 1 _ v rfl rfl;cases l;cases o;refine⟨_,?_,.int⟩;simp[builtin,d6c]
  | [],c=>exact absurd c.1 Dm
  | [_],c=>exact absurd c.1 Dm
  |_::_::_::_,c=>exact absurd c.1 Dm
 .rename_i k a B b;cases d;match vs,c with
  | [u,v],c=>
    have l:=c.2 0 _ u rfl rfl;have o:=c.2 1 _ v rfl rfl;cases l;cases o;refine⟨_,?_,.int⟩;simp[builtin,d8v]
  | [],c=>exact absurd c.1 Dm
  | [_],c=>exact absurd c.1 Dm
  |_::_::_::_,c=>exact absurd c.1 Dm
 .cases d
theorem c2s{P:Program}{H:Nat->Prop}{T:TypeId}{x i s:SV}{v u:Value}{c:Prop}(hx:D w H μ x v)(hi:D w H μ i u)(b:c2h P T x i=some (c,s))(o:c):∃r,(Instr.index T v u).run P w=.ok r w/\D w H μ s r:=by
 unfold c2h at b;split at b;rotate_left
 .cases b
 rename_i k n;cases hi;split at b
 .rename_i len e f;split at b;rotate_left
  .cases b
  rename_i cs;split at b;rotate_left
  .cases b
  rename_i sz q;split at b;rotate_left
  .cases b
  rename_i A;obtain⟨B,hl⟩:=A;simp only[Hx]at b;obtain⟨C,hs,rfl,rfl⟩:=b;simp only[CH,In]at q;obtain⟨a,t,rfl⟩:=q;cases hx with
  |agg j s4 E=>
   have m8:n.toNat*a.size+a.size<=len*a.size:=by rw[<-Ln];exact Js _ B
   obtain⟨d,y,h⟩:=XQ (w:=w) (H:=H) (μ:=μ) (us:=(j.drop (n.toNat*a.size)).take a.size) hs Du (λi s u hs f=>E _ _ _ (GJ hs).2 (GJ f).2);have g:GT d=false->a.size=1:=λz=>by
    rcases h with h|⟨_,u,l,_⟩
    .rw[h.1]at z;cases z
    .have:=Lz List.length l;simp at this;omega
   have F:=SY (w:=w) y t j (n.toNat*a.size) Dj g;have G:D w H μ C (GM P e ((j.drop (n.toNat*a.size)).take a.size)):=by
    unfold GM HT;rw[y];rcases h with⟨m,h⟩|⟨m,u,l,h⟩
    .simp only[I9,m,Jv];exact h
    .simp only[I9,m,I4,l,List.getD_cons_zero];exact h
   refine⟨_,?_,G⟩;have I:n<(len:Int):=Dj;have J:(0<=n/\n<(len:Int)):=⟨o,I⟩
   simp only[Instr.index,Hz,asIntOf,Jh f];rw[Ih J];simp only[Ic,GX (w:=w) t,F]
 .rename_i f;split at b;rotate_left
  .cases b
  rename_i s;simp only[Hy]at b;obtain⟨rfl,rfl⟩:=b;cases hx;obtain⟨K,g⟩:=o;refine⟨_,?_,.int⟩;have L:s[n.toNat]?=some s[n.toNat]:=getElem?_pos s n.toNat g;simp only[Instr.index,Hz,asIntOf,Jh f];rw[Ih K,L,Sem.run_pure];congr 1;have:s[n.toNat]=s.data.toList.getD n.toNat 0:=by
   have M:n.toNat<s.data.toList.length:=by rw[Kk];exact g
   rw[If,Ig M];rfl
  rw[this]
 .cases b
theorem c2e(j:Own B0 X A w μ ownN)(l:∀(k:Nat) (bl:Blk),own[k]?=some bl->ownN[k]?=some bl){s:SV}{v:Value}(a:D w (held A μ) μ s v){K:KT}{f:Bool}{has:List Int->Bool}{val:List Int->List SV}(h:WO own s=some (K,f,has,val)):
 ∃r g,v=.map (some r)/\MapAt w r K f has g/\(∀q,has q=true->(g q).length=(val q).length/\(val q).all SV.pure=true)/\∀(q:List Int) (i:Nat) (s:SV) (v:Value),has q=true->(val q)[i]?=some s->(g q)[i]?=some v->D w (held A μ) μ s v:=by
 cases a with
 |mp r g hb b c a=>
  simp only[WO,Hy]at h;obtain⟨rfl,rfl,rfl,rfl⟩:=h;exact⟨r,g,rfl,b,c,a⟩
 |omp d=>
  simp only[WO]at h;split at h
  .rename_i m;simp only[Hy]at h;obtain⟨rfl,rfl,rfl,rfl⟩:=h;obtain⟨bl,e,n⟩:=j.blk _ _ d;rw[l _ _ m]at e;cases e;obtain⟨r,g,o,b,c,a⟩:=n;cases o;exact⟨r,g,rfl,b,c,a⟩
  .cases h
 |_=>simp[WO]at h
theorem b3d(U:EnvOK E)(V:Own B0 X A w μ ownN)(W:∀(k:Nat) (bl:Blk),own[k]?=some bl->ownN[k]?=some bl){T:TypeId}{m i s:SV}{ok:Bool}{v u:Value}{f:Prop}(Y:D w (held A μ) μ m v)(hi:D w (held A μ) μ i u)
 (b:YI E own T m i ok=some (f,s)) (Z:f):∃r,(Instr.lookup T v u ok).run E.P w=.ok r w/\D w (held A μ) μ s r:=by
 unfold YI at b;split at b;rotate_left
 .cases b
 rename_i ky j L;simp only[Ip]at b;obtain⟨⟨K,c,a,val⟩,C,b⟩:=b;simp only at b;split at b;rotate_left
 .cases b
 rename_i hc;obtain⟨tc,o,M⟩:=hc;simp only[Ip,Hx]at b;obtain⟨q,hq,s0,N,rfl,rfl⟩:=b;obtain⟨r,g,rfl,qd,hl,hd⟩:=c2e V W Y C;obtain⟨ky',elem',O,jz⟩:=U.kt T K tc;rw[L]at O;cases O;obtain⟨rfl,mf⟩:=b16 hq hi;have ff:∃x,(a q=true->x=HD c (g q))/\(a q=false->(zeroValue j).run E.P w=.ok x w)/\D w (held A μ) μ s0 x:=by
  cases l:a q with
  |true=>
   refine⟨HD c (g q),λ_=>rfl,λh=>Dw,?_⟩;obtain⟨d,e,h|h⟩:=XQ (w:=w) (H:=held A μ) (μ:=μ) (us:=g q) N (hl q l).1 (λi s u hs e=>hd q i s u l hs e)
   .have:c=true:=by simpa[HT,e,h.1]using o.symm
    rw[this];exact h.2
   .obtain⟨F,u,t,G⟩:=h;have:c=false:=by simpa[HT,e,F]using o.symm
    rw[this,t];exact G
  |false=>
   obtain⟨inf,y,I,J,hze,Q⟩:=Qm (w:=w) (H:=held A μ) (μ:=μ) (Z l);refine⟨y,λh=>Dw,λ_=>Ta I J,?_⟩;obtain⟨d,e,h|h⟩:=XQ (w:=w) (H:=held A μ) (μ:=μ) (us:=y.cells.toList) N Q.1 Q.2
   .have h2:=h.2;have:c=true:=by simpa[HT,e,h.1]using o.symm
    subst this;cases y<;>simp[zAgg,I,J]at M
    simpa[Value.cells]using h2
   .obtain⟨F,u,t,G⟩:=h;have:c=false:=by simpa[HT,e,F]using o.symm
    subst this;cases y<;>simp[zAgg,I,J]at M
    all_goals
     simp only[Value.cells,Ia]at t;subst t;exact G
 obtain⟨x,vw,rh,R⟩:=ff;have S:=b7a (w:=w) (ok:=ok) L jz qd mf (z:=x) rh;have n:(if a q then HD c (g q)else x)=x:=by
  cases l:a q with
  |true=>simp[vw l]
  |false=>simp
 rw[n]at S;refine⟨_,S,?_⟩;cases ok with
 |true=>
  refine .tup [x,.bool (a q)] rfl (λi s v hs B=> ?_);match i with
  |0=>simp at hs B;subst hs B;exact R
  |1=>simp at hs B;subst hs B;exact .bool
  |i+2=>simp at hs
 |false=>exact R
theorem b9k(o:EnvOK E)(t:Own B0 X A w μ ownN)(x:∀(k:Nat) (bl:Blk),own[k]?=some bl->ownN[k]?=some bl){T:TypeId}{m i s:SV}{ok:Bool}{v u:Value}{c:Prop}(y:D w (held A μ) μ m v)(hi:D w (held A μ) μ i u)
 (a:b5b E own T m i ok=some (c,s)) (F:c):∃r,(Instr.lookup T v u ok).run E.P w=.ok r w/\D w (held A μ) μ s r:=by
 unfold b5b at a;split at a;rotate_left
 .exact b3d o t x y hi a F
 rename_i j;split at a;rotate_left
 .exact b3d o t x y hi a F
 rename_i K k b BH I;split at a;rotate_left
 .cases a
 rename_i ky d G;split at a;rotate_left
 .cases a
 rename_i J;obtain⟨L,qc,B⟩:=J;simp only[Hx]at a;obtain⟨q,M,rfl,rfl⟩:=a;obtain⟨ky',elem',H,N⟩:=o.kt T K L;rw[G]at H;cases H;obtain⟨rfl,O⟩:=b16 M hi;cases y with
 |omp C=>
 obtain⟨bl,e,Q⟩:=t.blk _ _ C;rw[x _ _ I]at e;cases e;obtain⟨_,r,g,R,S,U⟩:=Q;cases R;have l:(E.P.info? d).bind (·.zero)=some (.pointer none):=by
  unfold zPtr at B;split at B
  .assumption
  .cases B
 simp only[Ip]at l;obtain⟨inf,V,l⟩:=l;have W:=b7a (w:=w) (ok:=ok) G N S O (z:=.pointer none) (λ_=>Ta V l);refine⟨_,W,?_⟩;have f:D w (held A μ) μ (.fp (b q) k (BH q) 0) (if b q then HD false (g q)else .pointer none):=by
  cases hh:b q with
  |true=>
   obtain⟨p,e,h⟩:=U q hh;simp only[Jv,HD,e,I4,List.getD_cons_zero];exact h
  |false=>
   simp only[I4];exact .fp rfl
 cases ok with
 |true=>
  refine .tup [_,.bool (b q)] rfl (λi s v hs n=> ?_);match i with
  |0=>simp at hs n;subst hs n;exact f
  |1=>simp at hs n;subst hs n;exact .bool
  |i+2=>simp at hs
 |false=>exact f
theorem d1k(V:EnvOK E)(I:Own B0 X A w μ ownN)(J:∀(k:Nat) (bl:Blk),own[k]?=some bl->ownN[k]?=some bl)(g:∀(x:Operand) (s:SV),ρ x=some s->D w (held A μ) μ s (a.eval x)){o:Oper}{s:SV}{z:Prop}
 (d:Wx E own ρ o.op=some (z,s)) (B:z):∃r,(execOp a.eval o).run E.P w=.ok (.value r) w/\D w (held A μ) μ s r:=by
 obtain⟨dst,op,K,pos,after,guard⟩:=o;simp only at d;unfold Wx at d;split at d
 .simp only[Hx]at d;obtain⟨t,L,rfl,rfl⟩:=d;exact⟨_,by simp[execOp],g _ _ L⟩
 .simp only[Hx]at d;obtain⟨t,L,rfl,rfl⟩:=d;exact⟨_,by simp[execOp],g _ _ L⟩
 .rename_i x;split at d<;>try cases d
  all_goals
   have R:=g _ _ Dp;refine⟨_,?_,R⟩;generalize hv:a.eval x=v at R;cases R;simp[execOp,hv]
 .simp only[Ip]at d;obtain⟨p,hx,d⟩:=d;obtain⟨u,h1,h2⟩:=b2z I J (g _ _ hx) d B;exact By
 .simp only[Ip]at d;obtain⟨p,hx,d⟩:=d;obtain⟨u,h1,h2⟩:=b5x (w:=w) (g _ _ hx) d;exact By
 .simp only[Ip]at d;obtain⟨p,hx,d⟩:=d;obtain⟨u,h1,h2⟩:=c3a (w:=w) (g _ _ hx) d;exact By
 .simp only[Ip]at d;obtain⟨p,hx,n,M,d⟩:=d;obtain⟨u,h1,h2⟩:=b4q I J (g _ _ hx) (g _ _ M) d B;exact By
 .rename_i b T x y t;simp only[Ip]at d;obtain⟨W,hx,Y,C,d⟩:=d;have d:d2f E.P own b T W Y=some (z,s)\/c4w E b T W Y=some (z,s):=by
   split at d
   .rename_i r G;cases d;exact .inl G
   .exact .inr d
  obtain⟨u,h1,h2⟩:∃r,(do eqGuard b T x y (a.eval x) (a.eval y);binOp b T (a.eval x) (a.eval y)).run E.P w=.ok r w/\D w (held A μ) μ s r:=by
   rcases d with d|d;rotate_left
   .exact c8j V (xo:=x) (yo:=y) (g _ _ hx) (g _ _ C) d B
   .have Z:=g _ _ hx;have d2:=g _ _ C;generalize a.eval x=v1 at Z⊢;generalize a.eval y=v2 at d2⊢;unfold d2f at d;split at d;rotate_left
    .cases d
    split at d;rotate_left
    .cases d
    rename_i hk hu;cases d2;cases Z with
    | @osl k n0 m0 S h=>
    obtain⟨bl,e,bc⟩:=I.blk _ _ h;rw[J _ _ hk]at e;cases e;obtain⟨a',m',O,U,_,_,_,G⟩:=bc;simp only[Value.slice.injEq]at O;obtain⟨ea,en,em⟩:=O;rw[<-ea]at G;rw[<-em]at U G;have hz:S=none->∀{q:Nat},q<=m0->q=0:=λe q hq=>by
     rcases G with G|⟨b,o,vs,c7,e2,_⟩
     .omega
     .rw[e]at e2;cases e2
    split at d
    .cases d;exact⟨_,b1s hu x y _ _ _,.ub (λe=>hz (by cases S<;>first|rfl|cases e) U) (λ_=>Im)⟩
    .cases d;exact⟨_,b1x hu x y _ _ _,.ub (λ_=>Im) (λe=>hz (by cases S<;>first|rfl|cases e) U)⟩
    .cases d
  refine⟨u,?_,h2⟩;simp only[execOp];rw[K6,h1];simp
 .simp only[Ip]at d;obtain⟨p,hx,d⟩:=d;obtain⟨u,h1,h2⟩:=d51 (P:=E.P) (g _ _ hx) d B;exact By
 .simp only[Ip]at d;obtain⟨p,hx,d⟩:=d;obtain⟨u,h1,h2⟩:=c8f (g _ _ hx) d B;exact By
 .simp only[Ip]at d;obtain⟨p,hx,d⟩:=d;obtain⟨u,h1,h2⟩:=b80 (P:=E.P) (g _ _ hx) d;exact By
 .rename_i T l;simp only[Ip]at d;obtain⟨ps,R6,d⟩:=d;obtain⟨l1,l2⟩:=MY R6;obtain⟨u,h1,h2⟩:=c3f (w:=w) (H:=held A μ) (μ:=μ) (ps:=l.toList.map λp=>(p.1,a.eval p.2)) d (by simp[l1]) (λi j s hs=>by
   have b6:i<l.toList.length:=Fw;obtain⟨y,C,e⟩:=l2 i _ (Ig b6);rw[hs]at C;cases C;simp only[Hx]at e;obtain⟨t,L,O,rfl⟩:=e;refine⟨a.eval (l.toList[i]).2,?_,g _ _ L⟩;rw[Jb,Ig b6,<-O];rfl)
  refine⟨u,?_,h2⟩;have N:(l.map λ(p:Nat×Operand)=>(p.1,a.eval p.2))=(l.toList.map λp=>(p.1,a.eval p.2)).toArray:=by apply Array.ext';simp
  simp only[execOp,N];rw[K6,h1];simp
 .rename_i T x lo hi mx;simp only[Ip]at d;obtain⟨p,hx,d⟩:=d;have F:∀o:Option Operand,DO w (held A μ) μ (Ny ρ o) (o.map a.eval):=by
   intro o;cases o with
   |none=>simp[DO,Ny]
   |some y=>
    simp only[Ny,Ju];cases C:ρ y with
    |none=>simp[DO]
    |some t=>simpa[DO]using g _ _ C
  obtain⟨u,h1,h2⟩:=c2j (w:=w) (H:=held A μ) (μ:=μ) (g _ _ hx) (F lo) (F hi) (F mx) d B;exact By
 .rename_i f first m
  split at d;rotate_left
  .cases d
  rename_i hf;simp only[Hx]at d;obtain⟨cs,gh,rfl,rfl⟩:=d;have Q:=SQ (a:=a) g gh;have td:first= #[]:=by simpa using hf
  refine⟨.func (.func f) #[] (m.toList.map a.eval).toArray,?_,.clo _ Q.1 Q.2⟩;have N:m.map a.eval=(m.toList.map a.eval).toArray:=En;simp only[execOp,Instr.makeFunc,td,N];simp
 .rename_i c;unfold d4i at d;split at d
  .rename_i b hb;simp only[Ip]at d;obtain⟨xs,jy,d⟩:=d;have Q:=SQ (a:=a) g jy;obtain⟨u,h1,h2⟩:=b84 (ts:=c.argTypes.toList) (ty:=K) (cs:=c.args.map fun|.const _=>true|_=>false) I J Q d;refine⟨u,?_,h2⟩;have N:c.args.map a.eval=(c.args.toList.map a.eval).toArray:=En;simp only[execOp,resolve,hb,Hz,invoke,N];rw[show c.argTypes.toList.toArray=c.argTypes from Dm]at h1;exact h1
  .cases d
 .simp only[Ip]at d;obtain⟨p,hx,n,M,d⟩:=d;obtain⟨u,h1,h2⟩:=c2s (w:=w) (g _ _ hx) (g _ _ M) d B;exact By
 .simp only[Ip]at d;obtain⟨p,hx,n,M,d⟩:=d;obtain⟨u,h1,h2⟩:=b9k V I J (g _ _ hx) (g _ _ M) d B;exact By
 .cases d
end
structure Entry where
 slot:Nat
 guard:Option (Nat×Bool)
 sv:SV
structure St where
 ρ:List Entry
 own:List Blk
def BW(t:Nat):List Entry->Option Entry
 | []=>none
 |e::r=>if e.slot=t then some e else BW t r
def BZ(E:Env)(ρ:List Entry)(g:Option (Nat×Bool)):Operand->Option SV
 |.tmp t=>match BW t ρ with
  |some e=>match e.guard with
   |none=>some e.sv
   |some q=>if g=some q then some e.sv else none
  |none=>none
 |.const v=>some (f5w v)
 |.global n=>E.glob n
 |.func f=>some (.clo f [])
def Sl(d:Nat)(e:Entry):Entry:=match e.guard with
 |some (g,_)=>if g=d then {e with guard:=none,sv:=.any}else e
 |none=>e
def JI(d:Option Nat)(g:Option (Nat×Bool))(s:SV)(ρ:List Entry):List Entry:=match d with
 |none=>ρ
 |some d=>⟨d,g,s⟩::(if ρ.any (λe=>match e.guard with|some (q,_)=>q==d|none=>false)then ρ.map (Sl d)else ρ)
def Si(k:List Nat)(ρ:List Entry):List Entry:=ρ.map λe=>{e with sv:=e.sv.kill2 k}
def CK(w:World)(H:Nat->Prop)(μ:Mu)(tmps:Array Value)(e:Entry):Prop:=
 match e.guard with
 |none=>D w H μ e.sv (tmps.getD e.slot undef)
 |some (g,b)=>(tmps.getD g undef=.bool b->D w H μ e.sv (tmps.getD e.slot undef))/\(tmps.getD g undef≠.bool b->tmps.getD e.slot undef=undef)
def DY(w:World)(H:Nat->Prop)(μ:Mu)(tmps:Array Value)(ρ:List Entry):Prop:=∀t e,BW t ρ=some e->CK w H μ tmps e
structure SD (E:Env) (B0:Nat) (X A:Nat->Prop) (w0:World) (nt:Nat) (st:St) (a:Act) (w:World) (μ:Mu):Prop where
 own:Own B0 X A w μ st.own
 fr:Fr B0 X w0 w
 base:B0<=w.heap.size
 glo:∀g s,E.glob g=some s->s.pure=true/\D w (held A μ) μ s (.pointer (some ⟨g,0,none⟩))
 dfr:a.defers=[]
 size:a.tmps.size=nt
 env:DY w (held A μ) μ a.tmps st.ρ
 fresh:∀k,st.own.length<=k->μ k=none
 anc:∀k x,E.an k=some x->μ k=some x
theorem LG{t:Nat}{ρ:List Entry}{e:Entry}(h:BW t ρ=some e):e.slot=t:=by
 induction ρ with
 |nil=>simp[BW]at h
 |cons x r a=>
  simp only[BW]at h;split at h
  .cases h;assumption
  .exact a h
theorem So{t:Nat}{f:Entry->Entry}(a:∀e,(f e).slot=e.slot)(ρ:List Entry):BW t (ρ.map f)=(BW t ρ).map f:=by
 induction ρ with
 |nil=>rfl
 |cons x r b=>
  simp only[K1,BW,a];split<;>simp[b]
theorem c2c(d:Nat)(e:Entry):(Sl d e).slot=e.slot:=by unfold Sl;split<;>(try split)<;>rfl
section
variable{w w':World}{H H':Nat->Prop}{μ μ':Mu}{tmps:Array Value}{ρ:List Entry}
theorem DY.keep(a:Keeps w w' H H' μ μ')(h:DY w H μ tmps ρ):DY w' H' μ' tmps ρ:=by
 intro t e b;have:=h t e b;unfold CK at this⊢;split at this
 .exact this.keep a
 .exact⟨λc=>(this.1 c).keep a,this.2⟩
theorem DY.change{k:List Nat}(a:Keeps' k w w' H H' μ μ')(h:DY w H μ tmps ρ):DY w' H' μ' tmps (Si k ρ):=by
 intro t e b;rw[Si,So (f:=λ(e:Entry)=>{e with sv:=e.sv.kill2 k}) (λ_=>rfl),In]at b;obtain⟨c,d,rfl⟩:=b;have:=h t c d;unfold CK at this⊢;simp only;split at this
 .exact b34 a this
 .exact⟨λg=>b34 a (this.1 g),this.2⟩
theorem LV{tmps:Array Value}{d t:Nat}{v:Value}(a:d<tmps.size):(tmps.setIfInBounds d v).getD t undef=if t=d then v else tmps.getD t undef:=by
 by_cases e:t=d
 .subst e;simp[a]
 .simp[e,L1 (Ne.symm e)]
theorem DY.put(h:DY w H μ tmps ρ){d:Nat}(j:d<tmps.size){g:Option (Nat×Bool)}{s:SV}{v:Value}(_:∀q b,g=some (q,b)->q≠d)
 (m:CK w H μ (tmps.setIfInBounds d v) ⟨d,g,s⟩):DY w H μ (tmps.setIfInBounds d v) (JI (some d) g s ρ):=by
 have c:∀t e,t≠d->BW t ρ=some e->CK w H μ (tmps.setIfInBounds d v) (Sl d e):=by
  intro t e f a;have hs:=LG a;have:=h t e a;unfold Sl;split
  .rename_i q b i;split
   .unfold CK;exact .any
   .rename_i k;unfold CK at this⊢;rw[i]at this⊢;simp only at this⊢;rw[LV j,LV j,Ii k,Ii (by rw[hs];exact f)];exact this
  .rename_i i;unfold CK at this⊢;rw[i]at this⊢;simp only at this⊢;rw[LV j,Ii (by rw[hs];exact f)];exact this
 intro t e a;simp only[JI,BW]at a;split at a
 .cases a;exact m
 .rename_i f;split at a
  .rw[So (c2c d),In]at a;obtain⟨n,o,rfl⟩:=a;exact c t n (Ne.symm f) o
  .rename_i l;have:=c t e (Ne.symm f) a;have p:Sl d e=e:=by
    unfold Sl;split
    .rename_i q b i;split
     .rename_i k;exfalso;apply l;rw[J3];have u:e∈ρ:=by
       clear l c this h;induction ρ with
       |nil=>simp[BW]at a
       |cons x r y=>
        simp only[BW]at a;split at a
        .cases a;simp
        .exact Je _ (y a)
      exact⟨e,u,by rw[i];simpa using k⟩
     .rfl
    .rfl
   rwa[p]at this
theorem PW{E:Env}{a:Act}{g:Option (Nat×Bool)}(k:∀n s,E.glob n=some s->D w H μ s (.pointer (some ⟨n,0,none⟩)))(l:DY w H μ a.tmps ρ)
 (m:∀q b,g=some (q,b)->a.tmps.getD q undef=.bool b):∀(x:Operand) (s:SV),BZ E ρ g x=some s->D w H μ s (a.eval x):=by
 intro x s h;cases x with
 |tmp t=>
  simp only[BZ]at h;split at h
  .rename_i e j;have hs:=LG j;have c:=l t e j;unfold CK at c;split at h
   .rename_i o;cases h;rw[o]at c;simp only at c;rw[hs]at c;exact c
   .rename_i q r;split at h
    .rename_i d;cases h;rw[r]at c;obtain⟨u,y⟩:=q;simp only at c;have:=c.1 (m u y d);rw[hs]at this;exact this
    .cases h
  .cases h
 |const v=>simp only[BZ,J8]at h;subst h;exact f3p v
 |global n=>exact k n s h
 |func f=>simp only[BZ,J8]at h;subst h;exact .clo [] rfl (λi s v h _=>Dv)
end
def SV.ro00(own:List Blk):SV->SV
 |.osl k=>match own[k]? with
  |some (.row _ b n f c)=>.sl b n f c
  |_=>.any
 |.omp k=>match own[k]? with
  |some (.map K d a val)=>.mp K d a val
  |_=>.any
 |.own _ _|.oel _ _ _ _|.agg _|.tup _|.fp _ _ _ _=>.any
 |.clo f e=>if e.isEmpty then .clo f []else .any
 |s=>s
def SV.ro0(own:List Blk):SV->SV
 |.own k a=>match own[k]? with
  |some (.cells _ b)=>.rel b.length 1 (λ_=>b.map (SV.ro00 own)) 0 a
  |_=>.any
 |s=>s.ro00 own
def SV.ro1(own:List Blk):SV->Option SV
 |.osl k=>match own[k]? with
  |some (.row _ e n f c)=>some (.sl e n f c)
  |_=>none
 |.omp k=>match own[k]? with
  |some (.map K g b val)=>some (.mp K g b val)
  |_=>none
 |.own k d=>match own[k]? with
  |some (.cells _ a)=>some (.rel a.length 1 (λ_=>a.map (SV.ro0 own)) 0 d)
  |_=>none
 |.oel _ _ _ _|.agg _|.tup _|.fp _ _ _ _|.any=>none
 |.clo f a=>if a.isEmpty then some (.clo f [])else none
 |s=>some s
def SV.ro(own:List Blk):SV->Option SV
 |.clo f a=>(a.mapM (SV.ro1 own)).map (.clo f)
 |s=>s.ro1 own
def SV.roA(own:List Blk):SV->Option SV
 |.agg a=>(a.mapM (SV.ro own)).map .agg
 |s=>s.ro own
def SV.isOsl0:SV->Bool
 |.osl _|.omp _|.own _ _=>true
 |_=>false
def SV.isOsl:SV->Bool
 |.clo _ a=>a.any SV.isOsl0
 |s=>s.isOsl0
def SV.hasOsl:SV->Bool
 |.agg a=>a.any SV.isOsl
 |s=>s.isOsl
def SV.flat0:SV->Bool
 |.int _ _|.bool _|.con _=>true
 |.clo _ a=>a.isEmpty
 |_=>false
def SV.flat1:SV->Bool
 |.agg a=>a.all SV.flat0
 |s=>s.flat0
def SV.flat2:SV->Bool
 |.tup a=>a.all SV.flat1
 |s=>s.flat1
section
variable{w:World}{H H':Nat->Prop}{μ μ':Mu}
theorem VR{s:SV}{v:Value}{w':World}(a:s.flat0=true)(h:D w H μ s v):D w' H' μ' s v:=by
 cases h<;>simp[SV.flat0]at a
 .exact .int
 .exact .bool
 .exact .con
 .rename_i vs hl hd;subst a;exact C5
theorem d07{s:SV}{v:Value}{w':World}(a:s.flat1=true)(h:D w H μ s v):D w' H' μ' s v:=by
 unfold SV.flat1 at a;split at a
 .cases h with
  |agg b c d=>exact .agg b c (λi s v hs e=>VR (Iq.1 a s (Ik hs)) (d i s v hs e))
 .exact VR a h
theorem f3d{s:SV}{v:Value}{w':World}(a:s.flat2=true)(h:D w H μ s v):D w' H' μ' s v:=by
 unfold SV.flat2 at a;split at a
 .cases h with
  |tup b c d=>exact .tup b c (λi s v hs e=>d07 (Iq.1 a s (Ik hs)) (d i s v hs e))
 .exact d07 a h
theorem FV(hH:∀b,H' b->H b){s:SV}{v:Value}(h:D w H μ s v):s.pure=true->D w H' μ' s v:=by
 induction h with
 |int=>exact λ_=>.int
 |bool=>exact λ_=>.bool
 |con=>exact λ_=>.con
 |own h=>intro hp;simp[SV.pure,SV.pure0]at hp
 |osl h=>intro hp;simp[SV.pure,SV.pure0]at hp
 |oel h=>intro hp;simp[SV.pure,SV.pure0]at hp
 |omp h=>intro hp;simp[SV.pure,SV.pure0]at hp
 |fp h=>intro hp;simp[SV.pure,SV.pure0]at hp
 |mp r g hb hm hl c ih=>
  exact Cx
 |sl a b o m g hm hx d b7 hl c ih=>
  exact λ_=>.sl a b o m g hm hx d (λf=>by obtain⟨e,hb,k⟩:=b7 f;exact⟨e,λhh=>hb (hH _ hh),k⟩) hl (λi j s hi hs=>ih i j s hi hs (Iq.1 (hl i hi).2 s (Ik hs)))
 |rel b o g hi hb b7 hl c ih=>
  exact Cy
 |agg vs hl c ih=>intro hp;simp[SV.pure,SV.pure0]at hp
 |tup vs hl c ih=>intro hp;simp[SV.pure,SV.pure0]at hp
 |clo vs hl c ih=>
  exact Ce
 |ub l n=>exact λ_=>.ub l n
 |any=>exact λ_=>.any
theorem GU(hH:∀b,H' b->H b){s:SV}{v:Value}(h:D w H μ s v):s.pure=true->D w H' μ' s v:=by
 induction h with
 |int=>exact λ_=>.int
 |bool=>exact λ_=>.bool
 |con=>exact λ_=>.con
 |own h=>intro hp;simp[SV.pure,SV.pure0]at hp
 |osl h=>intro hp;simp[SV.pure,SV.pure0]at hp
 |oel h=>intro hp;simp[SV.pure,SV.pure0]at hp
 |omp h=>intro hp;simp[SV.pure,SV.pure0]at hp
 |fp h=>intro hp;simp[SV.pure,SV.pure0]at hp
 |mp r g hb hm hl c ih=>
  exact Cx
 |sl a b o m g hm hx d b7 hl c ih=>
  exact λ_=>.sl a b o m g hm hx d (λf=>by obtain⟨e,hb,k⟩:=b7 f;exact⟨e,λhh=>hb (hH _ hh),k⟩) hl (λi j s hi hs=>ih i j s hi hs (Iq.1 (hl i hi).2 s (Ik hs)))
 |rel b o g hi hb b7 hl c ih=>
  exact Cy
 |agg vs hl c ih=>intro hp;simp[SV.pure,SV.pure0]at hp
 |tup vs hl c ih=>intro hp;simp[SV.pure,SV.pure0]at hp
 |clo vs hl c ih=>
  exact Ce
 |ub l n=>exact λ_=>.ub l n
 |any=>exact λ_=>.any
end
def BM:Mu:=λ_=>none
def c6f(P:Program)(glob:Nat->Option SV)(f:FuncId)(c:List SV->Option (Prop×SV)):Prop:=
 (∃fn,P.funcs[f]?=some fn/\(fn.name== "runtime.NumGoroutine")=false/\fn.body.isNone=false)/\
 ∀(A:Nat->Prop) (w:World) (args:List SV) (vals:List Value) (pre:Prop) (s:SV),(∀b,A b->b<w.heap.size)->(∀g t,glob g=some t->t.pure=true/\D w A BM t (.pointer (some ⟨g,0,none⟩)))->
  DL w A BM args vals->c args=some (pre,s)->pre->
  Calls P f vals.toArray w λe w'=>∃v,e=.returned v/\D w' A BM s v/\Fr w.heap.size (λ_=>False) w w'
section
variable{E:Env}{w:World}{μ:Mu}{B0:Nat}{X A:Nat->Prop}{own ownN:List Blk}
theorem c4e(g:Own B0 X A w μ ownN)(u:∀(k:Nat) (bl:Blk),own[k]?=some bl->ownN[k]?=some bl){A':Nat->Prop}(v:∀b,A' b->held A μ b)(x:∀b,A' b->A b){k n m:Nat}{a:Option Addr}(h:μ k=some (.slice a n m)){T:TypeId}{sz l:Nat}{f:Nat->List SV}{c:Option Nat}
 (y:own[k]?=some (.row T sz l f c)):D w A' BM (.sl sz l f c) (.slice a n m):=by
 obtain⟨bl,e,z⟩:=g.blk _ _ h;rw[u _ _ y]at e;cases e;obtain⟨a',m',B,hn,hm,hc,hl,C⟩:=z;cases B;rcases C with rfl|⟨b,o,q,E,rfl,r,ho,h1,F⟩
 .exact Cg
 .have G:¬A' b:=λH=>(g.rng _ _ b h (JC E)).2.1 (x b H);have t:∀i j,i<n->j<sz->o+i*sz+j<q.length:=λi j hi d=>by
   have:=KV hi d;have:n*sz<=m*sz:=Js _ hn;omega
  refine .sl _ b o m (λi j=>q.getD (o+i*sz+j) undef) hn hm hc (λ_=>⟨rfl,G,Nz r,λi j hi d=> ?_⟩) hl (λi j s hi hs=> ?_)
  .have:=t i j hi d;rw[Qw r,Ig this];simp only[I6,Ig this];exact Ch
  .have d:j<sz:=Fs;have:=t i j hi d;simp only[I6,Ig this];exact FV v (F i j s _ hi hs (Ig this)) (Iq.1 (hl i hi).2 s (Ik hs))
theorem c52(a:Own B0 X A w μ ownN)(l:∀(k:Nat) (bl:Blk),own[k]?=some bl->ownN[k]?=some bl){A':Nat->Prop}(m:∀b,A' b->held A μ b)(n:∀b,A' b->A b){k:Nat}{r:Option Nat}(h:μ k=some (.map r)){K:KT}{c:Bool}{has:List Int->Bool}{val:List Int->List SV}
 (o:own[k]?=some (.map K c has val)):D w A' BM (.mp K c has val) (.map r):=by
 obtain⟨bl,e,p⟩:=a.blk _ _ h;rw[l _ _ o]at e;cases e;obtain⟨d,g,t,u,f,x⟩:=p;cases t;exact .mp d g (λy=>(a.rng _ _ d h (.inl rfl)).2.1 (n _ y)) u f (λq i s v j hs z=>FV m (x q i s v j hs z) (Iq.1 (f q j).2 s (Ik hs)))
theorem b6f(l:Own B0 X A w μ ownN)(n:∀(k:Nat) (bl:Blk),own[k]?=some bl->ownN[k]?=some bl){A':Nat->Prop}(f:∀b,A' b->held A μ b)(q:∀b,A' b->A b){s:SV}{v:Value}(d:D w (held A μ) μ s v):D w A' BM (s.ro00 own) v:=by
 have c:s.pure=true->s.ro00 own=s->D w A' BM (s.ro00 own) v:=λu e=>by rw[e];exact FV f d u
 cases d with
 |osl h=>
  simp only[SV.ro00];split
  .rename_i j;exact c4e l n f q h j
  .exact .any
 |fp h=>exact .any
 |omp h=>
  simp only[SV.ro00];split
  .rename_i j;exact c52 l n f q h j
  .exact .any
 |own h=>exact .any
 |oel h=>exact .any
 |agg vs hl d=>exact .any
 |tup vs hl d=>exact .any
 |clo vs hl d=>
  simp only[SV.ro00];split
  .rename_i t;have x:=List.isEmpty_iff.1 t;subst x;exact C5
  .exact .any
 |int=>exact c rfl rfl
 |bool=>exact c rfl rfl
 |con=>exact c rfl rfl
 |sl a b o m g y hx t z hl d=>exact c rfl rfl
 |rel b o g hi B z hl d=>exact c rfl rfl
 |mp r g B y hl d=>exact c rfl rfl
 |ub C E=>exact .ub C E
 |any=>exact .any
theorem b9s(own:List Blk)(s:SV):(s.ro00 own).pure=true:=by
 cases s with
 |osl k=>simp only[SV.ro00];split<;>rfl
 |omp k=>simp only[SV.ro00];split<;>rfl
 |clo f cs=>simp only[SV.ro00];split<;>rfl
 |_=>rfl
theorem d5q(own:List Blk)(s:SV):(s.ro0 own).pure=true:=by
 unfold SV.ro0;split
 .split<;>rfl
 .exact b9s own s
theorem b69(l:Own B0 X A w μ ownN)(q:∀(k:Nat) (bl:Blk),own[k]?=some bl->ownN[k]?=some bl){A':Nat->Prop}(r:∀b,A' b->A b){k off b:Nat}(h:μ k=some (.pointer (some ⟨b,0,none⟩))){T:TypeId}{cs:List SV}(t:own[k]?=some (.cells T cs))
 {g:SV->SV} (u:∀s,(g s).pure=true) (y:∀s v,D w (held A μ) μ s v->D w A' BM (g s) v):D w A' BM (.rel cs.length 1 (λ_=>cs.map g) 0 off) (.pointer (some ⟨b,off,none⟩)):=by
 obtain⟨bl,e,z⟩:=l.blk _ _ h;rw[q _ _ t]at e;cases e;obtain⟨b',c,B,m,C,E,F⟩:=z;cases B;have:=D.rel (w:=w) (H:=A') (μ:=BM) (sz:=cs.length) (n:=1) (i:=0) (off:=off) (f:=λ_=>cs.map g) b 0 (λ_ j=>c.getD j undef) Dj (λG=>(l.rng _ _ b h (.inl rfl)).2.1 (r _ G)) ⟨Nz m,λi j I hj=> ?_⟩
  (λi _=>⟨Dm,by simp only[List.all_map,Iq];intro x _;exact u x⟩) (λi j s I hs=> ?_)
 .simpa using this
 .have d:i=0:=Dj;subst d;have a:j<c.length:=Dj;have J:(0+0*cs.length+j)=j:=Dj;rw[J,Qw m,Ig a];simp only[I6,Ig a];exact⟨Im,E _ (Ji a)⟩
 .simp only[I2]at hs;obtain⟨K,o,rfl⟩:=hs;have a:j<c.length:=by rw[C];exact(Ij.1 o).1
  simp only[I6,Ig a];exact y _ _ (F j K _ o (Ig a))
theorem c95(c:Own B0 X A w μ ownN)(d:∀(k:Nat) (bl:Blk),own[k]?=some bl->ownN[k]?=some bl){A':Nat->Prop}(f:∀b,A' b->held A μ b)(e:∀b,A' b->A b){s:SV}{v:Value}(a:D w (held A μ) μ s v):D w A' BM (s.ro0 own) v:=by
 unfold SV.ro0;split
 .rename_i k off;split
  .rename_i T cs g;cases a with
   |own h=>exact b69 c d e h g (b9s own) (λs v a=>b6f c d f e a)
  .exact .any
 .exact b6f c d f e a
theorem c14(j:Own B0 X A w μ ownN)(l:∀(k:Nat) (bl:Blk),own[k]?=some bl->ownN[k]?=some bl){A':Nat->Prop}(n:∀b,A' b->held A μ b){s t:SV}{v:Value}(d:D w (held A μ) μ s v)(hr:s.ro1 own=some t)(q:s.isOsl0=true->∀b,A' b->A b):D w A' BM t v:=by
 have c:s.pure=true->t=s->D w A' BM t v:=λy e=>by subst e;exact FV n d y
 cases d with
 |osl h=>
  simp only[SV.ro1]at hr;split at hr
  .rename_i f;cases hr;exact c4e j l n (q rfl) h f
  .cases hr
 |omp h=>
  simp only[SV.ro1]at hr;split at hr
  .rename_i f;cases hr;exact c52 j l n (q rfl) h f
  .cases hr
 |own h=>
  rename_i k off b;simp only[SV.ro1]at hr;split at hr
  .rename_i T cs f;cases hr;have u:=q rfl;exact b69 j l u h f (d5q own) (λs v d=>c95 j l n u d)
  .cases hr
 |int=>exact c rfl Ep
 |bool=>exact c rfl Ep
 |ub h1 h2=>exact c rfl Ep
 |con=>exact c rfl Ep
 |sl a b o m g z hx x B hl d=>exact c rfl Ep
 |rel b o g hi C B hl d=>exact c rfl Ep
 |mp r g C z hl d=>exact c rfl Ep
 |clo vs hl d=>
  simp only[SV.ro1]at hr;split at hr
  .rename_i x;cases hr;have E:=List.isEmpty_iff.1 x;subst E;exact C5
  .cases hr
 |_=>simp[SV.ro1]at hr
theorem c4y(j:Own B0 X A w μ ownN)(l:∀(k:Nat) (bl:Blk),own[k]?=some bl->ownN[k]?=some bl){A':Nat->Prop}(m:∀b,A' b->held A μ b){s t:SV}{v:Value}(c:D w (held A μ) μ s v)(a:s.ro own=some t)(n:s.isOsl=true->∀b,A' b->A b):D w A' BM t v:=by
 unfold SV.ro at a;split at a
 .rename_i f d;simp only[In]at a;obtain⟨ts,q,rfl⟩:=a;obtain⟨l1,r⟩:=MY q;cases c with
  |clo u x c=>
   refine .clo u (by rw[x,l1]) (λi t v ht z=> ?_);have g:i<d.length:=Gg;obtain⟨y,o,e⟩:=r i _ (Ig g);rw[ht]at o;cases o;exact c14 j l m (c i _ v (Ig g) z) e (λh=>n (by simp only[SV.isOsl,J3];exact⟨_,Ji g,h⟩))
 .rename_i B;refine c14 j l m c a (λh=>n ?_);unfold SV.isOsl;split
  .rename_i f d;exact absurd rfl (B f d)
  .exact h
theorem VI(g:Own B0 X A w μ ownN)(j:∀(k:Nat) (bl:Blk),own[k]?=some bl->ownN[k]?=some bl){A':Nat->Prop}(l:∀b,A' b->held A μ b){s t:SV}{v:Value}(c:D w (held A μ) μ s v)(a:s.roA own=some t)(m:s.hasOsl=true->∀b,A' b->A b):D w A' BM t v:=by
 unfold SV.roA at a;split at a
 .rename_i d;simp only[In]at a;obtain⟨ts,o,rfl⟩:=a;obtain⟨l1,q⟩:=MY o;cases c with
  |agg r u c=>
   refine .agg r (by rw[u,l1]) (λi t v ht x=> ?_);have f:i<d.length:=Gg;obtain⟨y,n,e⟩:=q i _ (Ig f);rw[ht]at n;cases n;exact c4y g j l (c i _ v (Ig f) x) e (λh=>m (by simp only[SV.hasOsl,J3];exact⟨_,Ji f,h⟩))
 .rename_i z;exact c4y g j l c a (λh=>m (by
   unfold SV.hasOsl;split
   .rename_i d;exact absurd rfl (z d)
   .exact h))
def c94(E:Env)(own:List Blk)(ρ:Operand->Option SV)(c:Call):Option (Prop×SV):=
 match c.callee with
 |.value f=>match ρ f with
  |some (.clo b a)=>(c.args.toList.mapM ρ).bind λd=>((d++a).mapM (SV.roA own)).bind λe=>(E.C b).bind λk=>(k e).bind λr=>
   if !((d++a).any SV.hasOsl)||r.2.flat2||E.fs b then some r else none
  |_=>none
 |_=>none
def FR(v:Value):Mu:=λk=>if k=0 then some v else none
def f23(P:Program)(glob:Nat->Option SV)(f:FuncId)(e:JT):Prop:=
 (∃fn,P.funcs[f]?=some fn/\(fn.name== "runtime.NumGoroutine")=false/\fn.body.isNone=false)/\
 ∀(A:Nat->Prop) (w:World) (v:Value) (T:TypeId) (sz n:Nat) (g:Nat->List SV) (c:Option Nat) (rest:List SV) (vals:List Value) (pre:Prop) (g':Nat->List SV) (r:Bool),
  (∀b,A b->b<w.heap.size)->(∀b,CA v b->b<w.heap.size/\¬A b)->(∀q t,glob q=some t->t.pure=true/\D w (held A (FR v)) BM t (.pointer (some ⟨q,0,none⟩)))->
  CT w (held A (FR v)) (FR v) v (.row T sz n g c)->DL w (held A (FR v)) BM rest vals->e T sz n g rest=some (pre,g',r)->pre->
  Calls P f (v::vals).toArray w λx w'=>∃res,x=.returned res/\(r=true->res=v)/\(r=false->res=.tuple #[])/\CT w' (held A (FR v)) (FR v) v (.row T sz n g' c)/\Fr w.heap.size (λb=>CA v b) w w'
def c65(P:Program)(glob:Nat->Option SV)(f:FuncId)(c:List SV->Option (Prop×SV)):Prop:=
 ∀(A:Nat->Prop) (w:World) (a:List SV) (d:List Value) (h:Prop) (s:SV),(∀b,A b->b<w.heap.size)->(∀g t,glob g=some t->t.pure=true/\D w A BM t (.pointer (some ⟨g,0,none⟩)))->
  DL w A BM a d->c a=some (h,s)->h->
  Calls P f d.toArray w λe i=>∃v,e=.returned v/\D i (λb=>b<w.heap.size) BM s v/\Fr w.heap.size (λ_=>False) w i
def Ti(μ:Mu)(b:Nat):Prop:=∃k x,μ k=some x/\CA x b
def d2b(P:Program)(glob:Nat->Option SV)(f:FuncId)(h:HK):Prop:=
 (∃fn,P.funcs[f]?=some fn/\(fn.name== "runtime.NumGoroutine")=false/\fn.body.isNone=false)/\
 ∀(A:Nat->Prop) (w:World) (args:List SV) (vals:List Value) (own:List Blk) (μ:Mu) (r:HRes),(∀b,A b->b<w.heap.size)->(∀g t,glob g=some t->t.pure=true/\D w (held A μ) BM t (.pointer (some ⟨g,0,none⟩)))->
  Own 0 (λ_=>True) A w μ own->(∀k,own.length<=k->μ k=none)->DL w (held A μ) μ args vals->h args own=some r->r.pre->
  Calls P f vals.toArray w λx w'=>∃v μ',x=.returned v/\Own w.heap.size (Ti μ) A w' μ' r.own/\(∀k,r.own.length<=k->μ' k=none)/\D w' (held A μ') μ' r.res v/\
   (∀k x,k<own.length->r.chg.contains k=false->μ k=some x->μ' k=some x)/\Fr w.heap.size (Ti μ) w w'
def XSound(E:Env):Prop:=∀f e,E.X f=some e->f23 E.P E.glob f e
def FU(E:Env):Prop:=(∀f c,E.C f=some c->c6f E.P E.glob f c/\(E.fs f=true->c65 E.P E.glob f c))/\XSound E/\∀f h,E.Hc f=some h->d2b E.P E.glob f h
theorem c45{H:Nat->Prop}{xs b:List SV}{us vs:List Value}(h:DL w H μ xs us)(k:DL w H μ b vs):DL w H μ (xs++b) (us++vs):=by
 refine⟨by simp[h.1,k.1],λi s v hs a=> ?_⟩;by_cases c:i<xs.length
 .rw[It c]at hs;rw[It (by rw[h.1];exact c)]at a;exact h.2 i s v hs a
 .rw[Iz Dj]at hs;rw[Iz (by rw[h.1];omega),h.1]at a;exact k.2 _ s v hs a
theorem c7e(hC:FU E)(z:Own B0 X A w μ ownN)(be:∀(k:Nat) (bl:Blk),own[k]?=some bl->ownN[k]?=some bl)(n:∀g s,E.glob g=some s->s.pure=true/\D w (held A μ) μ s (.pointer (some ⟨g,0,none⟩))){a:Act}{ρ:Operand->Option SV}
 (B:∀(x:Operand) (s:SV),ρ x=some s->D w (held A μ) μ s (a.eval x)) {o:Oper} {c:Call} (ho:o.op=.call c) {C:Prop} {s:SV} (l:c94 E own ρ c=some (C,s)) (O:C):
 ∃f r,(execOp a.eval o).run E.P w=.ok (.enter f r) w/\Calls E.P f r w λe F=>∃v,e=.returned v/\D F (held A μ) μ s v/\Fr w.heap.size (λ_=>False) w F:=by
 unfold c94 at l;split at l;rotate_left
 .cases l
 rename_i f hf;split at l;rotate_left
 .cases l
 rename_i G d H;simp only[Ip]at l;obtain⟨Q,jy,M,pw,k,R,⟨p,t⟩,S,l⟩:=l;split at l;rotate_left
 .cases l
 rename_i T;simp only[Hy]at l;obtain⟨rfl,rfl⟩:=l;have U:=B _ _ H;generalize rj:a.eval f=vf at U;obtain⟨⟨⟨fn,h1,h2,h3⟩,V⟩,R8⟩:=hC.1 G k R;cases U with
 |clo u fh pg=>
  have W:=c45 (SQ (a:=a) B jy) (⟨fh,pg⟩:DL w (held A μ) μ d u);refine⟨G,((c.args.toList.map a.eval)++u).toArray,?_,?_⟩
  .have hm:c.args.map a.eval=(c.args.toList.map a.eval).toArray:=En;simp only[execOp,ho,resolve,hf,rj,Deferred.ofValue,hm,Hz,invoke,callFunc,run_program,h1,h2,I4,h3];simp
  .obtain⟨l1,l2⟩:=MY pw;have conv:∀N:Nat->Prop,(∀b,N b->held A μ b)->(((Q++d).any SV.hasOsl)=true->∀b,N b->A b)->DL w N BM M ((c.args.toList.map a.eval)++u):=by
    intro N hA j7;refine⟨by rw[W.1,l1],λi s v hs hv=> ?_⟩;have b6:i<(Q++d).length:=Fw;obtain⟨y,Y,e⟩:=l2 i _ (Ig b6);rw[hs]at Y;cases Y;exact VI z be hA (W.2 i _ v (Ig b6) hv) e (λh=>j7 Ha)
   have Z:∀b,held A μ b->b<w.heap.size:=λb I=>by
    rcases I with I|⟨k,x,R,hx⟩
    .exact z.bnd b I
    .exact(z.rng k x b R hx).1
   cases vn:(Q++d).any SV.hasOsl with
   |false=>
    refine(V (held A μ) w M _ p t Z (λg q m=>⟨(n g q m).1,FV (λ_ h=>h) (n g q m).2 (n g q m).1⟩) (conv _ (λ_ h=>h) (λh=>by rw[vn]at h;cases h)) S O).mono ?_;rintro e F ⟨v,rfl,J,K⟩;exact⟨v,rfl,J.keep ⟨Ir _,λ_ _ _=>rfl,λ_ _ h=>h,λj x hx=>by cases hx⟩,K⟩
   |true=>
    rw[vn]at T;simp only[Bool.not_true,Mc,Jn]at T;rcases T with du|L;rotate_left
    .refine(R8 L A w M _ p t z.bnd (λg q m=>⟨(n g q m).1,FV (λ_ h=>.inl h) (n g q m).2 (n g q m).1⟩) (conv A (λ_ h=>.inl h) (λ_ _ h=>h)) S O).mono ?_;rintro e F ⟨v,rfl,J,K⟩;exact⟨v,rfl,J.keep ⟨Ir _,λ_ _ _=>rfl,λb _ I=>Z b I,λj x hx=>by cases hx⟩,K⟩
    refine(V A w M _ p t z.bnd (λg q m=>⟨(n g q m).1,FV (λ_ h=>.inl h) (n g q m).2 (n g q m).1⟩) (conv A (λ_ h=>.inl h) (λ_ _ h=>h)) S O).mono ?_;rintro e F ⟨v,rfl,J,K⟩;exact⟨v,rfl,f3d du J,K⟩
theorem Fr.keeps{w':World}(h:Fr w.heap.size (λ_=>False) w w'){H:Nat->Prop}:Keeps w w' H H μ μ:=
 ⟨h.size,λb a _=>h.block b a (λh=>h),λ_ _ h=>h,λ_ _ h=>h⟩
theorem Own.calls{w':World}(c:Own B0 X A w μ own)(h:Fr w.heap.size (λ_=>False) w w'):Own B0 X A w' μ own:=
 ⟨λk x hx=>by
   obtain⟨d,e,a⟩:=c.blk k x hx;exact⟨d,e,a.keep h.keeps (λb a=>h.block b (c.rng k x b hx a).1 (λh=>h))⟩,c.inj,
   λk x b f a=>by obtain⟨g,i⟩:=c.rng k x b f a;exact⟨Jf g h.size,i⟩,λb a=>Jf (c.bnd b a) h.size⟩
end
def Wd(x y:Option SV):Option SV:=match x with
 |some s=>some s
 |none=>y
def d25(b:Bool)(x y:Operand)(a c:SV):Option SV:=match a,c with
 |.bool s,.bool t=>match x,y with
  |.const (.bool true),_=>some (.bool (b||t))
  |_,.const (.bool false)=>some (.bool (b&&s))
  |_,_=>some (.bool (bif b then s else t))
 |.int k n,.int d m=>if k=d then some (.int k (bif b then n else m))else none
 |_,_=>none
def f1u(E:Env)(ρ:List Entry)(g:Option (Nat×Bool))(c x y:Operand):Option (Prop×SV):=match c with
 |.tmp a=>match BZ E ρ g (.tmp a)with
  |some (.bool b)=>(Wd (BZ E ρ g x) (BZ E ρ (some (a,true)) x)).bind λd=>(Wd (BZ E ρ g y) (BZ E ρ (some (a,false)) y)).bind λe=>(d25 b x y d e).map λs=>(True,s)
  |_=>none
 |_=>none
def QF(E:Env)(st:St)(g:Option (Nat×Bool))(a:Op):Option (Prop×SV):=match a with
 |.pick c x y=>f1u E st.ρ g c x y
 |.call c=>match c.callee with
  |.value _=>c94 E st.own (BZ E st.ρ g) c
  |_=>Wx E st.own (BZ E st.ρ g) a
 |a=>Wx E st.own (BZ E st.ρ g) a
def Ux(ρ:List Entry):Nat->Nat->Bool->Option Prop
 |0,_,_=>none
 |n+1,g,p=>match BW g ρ with
  |some e=>match e.sv with
   |.bool b=>match e.guard with
    |none=>some (b=p)
    |some (a,d)=>(Ux ρ n a d).map λc=>c/\b=p
   |_=>none
  |none=>none
def IP(nt:Nat)(d:Option Nat):Bool:=match d with
 |some d=>decide (d<nt)
 |none=>true
def c6v(E:Env)(ρ:Operand->Option SV)(T:TypeId)(r:Option Operand):Option Blk:=
 match E.P.underlying T with
 |some (.map _ a)=>(E.kt T).bind λK=>(HT E.P a).bind λb=>(Nb E.P a).bind λz=>
  match r with
  |none=>some (.map K b (λ_=>false) (λ_=>z))
  |some x=>match ρ x with
   |some (.int _ _)=>some (.map K b (λ_=>false) (λ_=>z))
   |_=>none
 |_=>none
def f2v:SV->Bool
 |.agg _=>true
 |_=>false
def b8e(E:Env)(own:List Blk)(T:TypeId)(m i x:SV):Option (List Blk):=
 match E.P.underlying T,m with
 |some (.map _ _),.omp k=>match own[k]? with
  |some (.map K b a val)=>if E.kt T=some K/\f2v x=b then(VJ K i).bind λq=>x.cells.bind λc=>
   if c.all SV.pure then some (own.set k (.map K b (Io a q) (λp=>DH (decide (p=q)) c (val p))))else none
   else none
  |_=>none
 |_,_=>none
def d7t(E:Env)(nt:Nat)(ops:Array Oper)(st:St)(o:Oper):Option (Prop×St):=
 if !IP nt o.dst then none else
 match o.guard with
 |some (j,p)=>match o.dst,(ops[j]?).bind (·.dst)with
  |some d,some g=>if g<nt/\g≠d then(Ux st.ρ 5 g p).bind λc=>(QF E st (some (g,p)) o.op).map λr=>(c->r.1,{st with ρ:=JI (some d) (some (g,p)) r.2 st.ρ})else none
  |_,_=>none
 |none=>match o.op with
  |.store T p x=>(BZ E st.ρ none p).bind λi=>(BZ E st.ρ none x).bind λa=>(Rw E.P st.own T i a).bind λr=>if o.dst=none then some (r.1,{st with own:=r.2})else none
  |.alloc _|.box _ _|.buildSlice _ _ _|.makeSlice _ _ _=>(Uw E.P st.own (BZ E st.ρ none) o.op).map λr=>(r.1,{ρ:=JI o.dst none r.2.1 st.ρ,own:=st.own++[r.2.2]})
  |.makeMap T r=>(c6v E (BZ E st.ρ none) T r).map λb=>(True,{ρ:=JI o.dst none (.omp st.own.length) st.ρ,own:=st.own++[b]})
  |.mapUpdate T m k x|.insert T m k x=>(BZ E st.ρ none m).bind λl=>(BZ E st.ρ none k).bind λsk=>(BZ E st.ρ none x).bind λa=>(b8e E st.own T l sk a).bind λe=>if o.dst=none then some (True,{st with own:=e})else none
  |.call {callee:=.builtin .append,args:=⟨[x,y]⟩,argTypes:=⟨[T,U]⟩}=>if T=U then(BZ E st.ρ none x).bind λa=>(BZ E st.ρ none y).bind λn=>(Rl E.P st.own T a n).bind λr=>
   if !r.2.2.2&&E.ak r.2.1 then none else some (r.1,{ρ:=JI o.dst none (.osl r.2.1) (if r.2.2.2 then st.ρ else Si [r.2.1] st.ρ),own:=r.2.2.1})else none
  |.slice T x f h none=>(match BZ E st.ρ none x with
   |some (.osl k)=>(b52 E.P st.own T k (Ny (BZ E st.ρ none) f) (Ny (BZ E st.ρ none) h)).bind λr=>if E.ak k then none else some (r.1,{ρ:=JI o.dst none (.osl k) (Si [k] st.ρ),own:=r.2})
   |_=>(QF E st none (.slice T x f h none)).map λr=>(r.1,{st with ρ:=JI o.dst none r.2 st.ρ}))
  |q=>(QF E st none q).map λr=>(r.1,{st with ρ:=JI o.dst none r.2 st.ρ})
section
variable{E:Env}{B0:Nat}{X A:Nat->Prop}{w0:World}{nt:Nat}{st:St}{a:Act}{w:World}{μ:Mu}
theorem SD.opds(h:SD E B0 X A w0 nt st a w μ){g:Option (Nat×Bool)}(c:∀q b,g=some (q,b)->a.tmps.getD q undef=.bool b):∀(x:Operand) (s:SV),BZ E st.ρ g x=some s->D w (held A μ) μ s (a.eval x):=
 PW (λn s d=>(h.glo n s d).2) h.env c
theorem c05{H:Nat->Prop}{b:Bool}{x y:Operand}{e f s:SV}{u v:Value}(hx:b=true->D w H μ e u)(c:b=false->D w H μ f v)(g:∀z,x=.const z->u=z)(d:∀z,y=.const z->v=z)(a:d25 b x y e f=some s):
 D w H μ s (if b then u else v):=by
 unfold d25 at a;split at a
 .rename_i s1 t1;split at a
  .cases a;have:=g _ rfl;subst this;cases b
   .have:=c rfl;cases this;exact .bool
   .exact .bool
  .cases a;have:=d _ rfl;subst this;cases b
   .exact .bool
   .have:=hx rfl;cases this;exact .bool
  .cases a;cases b
   .have:=c rfl;cases this;exact .bool
   .have:=hx rfl;cases this;exact .bool
 .split at a
  .rename_i h;cases a;subst h;cases b
   .have:=c rfl;cases this;exact .int
   .have:=hx rfl;cases this;exact .int
  .cases a
 .cases a
theorem c98{x y:Option SV}{s:SV}(h:Wd x y=some s):x=some s\/y=some s:=by unfold Wd at h;split at h<;>simp_all
theorem b1j(U:EnvOK E)(V:FU E){ρ:List Entry}{own j:List Blk}(L:Own B0 X A w μ j)(M:∀(k:Nat) (bl:Blk),own[k]?=some bl->j[k]?=some bl)(N:∀g s,E.glob g=some s->s.pure=true/\D w (held A μ) μ s (.pointer (some ⟨g,0,none⟩)))
 (W:DY w (held A μ) μ a.tmps ρ) {g:Option (Nat×Bool)} (F:∀q b,g=some (q,b)->a.tmps.getD q undef=.bool b) {o:Oper} {m:Prop} {s:SV} (d:QF E ⟨ρ,own⟩ g o.op=some (m,s)) (O:m)
 {K:Act->World->Prop} {Q:Exit->Act->World->Prop} (R:∀v t,D t (held A μ) μ s v->Fr w.heap.size (λ_=>False) w t->K (a.put o.dst v) t):o.wp E.P a w K Q:=by
 have opds:∀{g:Option (Nat×Bool)},(∀q b,g=some (q,b)->a.tmps.getD q undef=.bool b)->∀(x:Operand) (s:SV),BZ E ρ g x=some s->D w (held A μ) μ s (a.eval x):=λF=>PW (λn s Y=>(N n s Y).2) W F;have i:=opds F;have h:∀v,(execOp a.eval o).run E.P w=.ok (.value v) w->D w (held A μ) μ s v->o.wp E.P a w K Q:=by intro v u B;unfold Oper.wp;rw[u];exact R v w B ⟨rfl,rfl,rfl,λ_=>Ir _,Ir _,λ_ _ _=>rfl⟩
 have val:Wx E own (BZ E ρ g) o.op=some (m,s)->o.wp E.P a w K Q:=by intro d;obtain⟨v,u,B⟩:=d1k U L M i d O;exact h v u B
 unfold QF at d;split at d
 .rename_i c x y G;unfold f1u at d;split at d;rotate_left
  .cases d
  rename_i C;split at d;rotate_left
  .cases d
  rename_i b Z;simp only[Ip,Hx]at d;obtain⟨r,hx,sy,hy,s',hs,rfl,rfl⟩:=d;have S:=i _ _ Z;generalize T:a.eval (.tmp C)=cv at S;cases S;have H:a.tmps.getD C undef=.bool b:=T;have l:∀(p:Bool) (x:Operand) (r:SV),Wd (BZ E ρ g x) (BZ E ρ (some (C,p)) x)=some r->b=p->D w (held A μ) μ r (a.eval x):=by
   intro p x r hx I;rcases c98 hx with hx|hx
   .exact i x r hx
   .exact opds (g:=some (C,p)) (λq p' e=>by cases e;rw[H,I]) x r hx
  refine h (if b then a.eval x else a.eval y) ?_ (c05 (l true x r hx) (l false y sy hy) (λz J=>by subst J;rfl) (λz J=>by subst J;rfl) hs);simp only[execOp,G,T];cases b<;>simp[asBool]
 .rename_i c G;split at d
  .obtain⟨f,vals,u,hc⟩:=c7e V L M N i (o:=o) G d O;unfold Oper.wp;rw[u];refine hc.mono ?_;rintro e t ⟨v,rfl,B,bk⟩;exact R v t B bk
  .exact val d
 .rename_i op h1 h2;exact val d
theorem b71(e:EnvOK E)(f:FU E)(h:SD E B0 X A w0 nt st a w μ){g:Option (Nat×Bool)}(i:∀q b,g=some (q,b)->a.tmps.getD q undef=.bool b){o:Oper}{c:Prop}{s:SV}(j:QF E st g o.op=some (c,s))(k:c)
 {K:Act->World->Prop} {Q:Exit->Act->World->Prop} (l:∀v d,D d (held A μ) μ s v->Fr w.heap.size (λ_=>False) w d->K (a.put o.dst v) d):o.wp E.P a w K Q:=
 b1j e f h.own (λ_ _ h=>h) h.glo h.env i j k l
theorem SD.put(h:SD E B0 X A w0 nt st a w μ){w':World}{μ':Mu}{own':List Blk}{c:List Entry}(l:Own B0 X A w' μ' own')(f:Fr B0 X w w')(m:∀g s,E.glob g=some s->s.pure=true/\D w' (held A μ') μ' s (.pointer (some ⟨g,0,none⟩)))
 (i:DY w' (held A μ') μ' a.tmps c) (n:∀k,own'.length<=k->μ' k=none) (o:∀k x,E.an k=some x->μ' k=some x) {d:Option Nat} (r:IP nt d=true) {s:SV} {v:Value} (t:D w' (held A μ') μ' s v):
 SD E B0 X A w0 nt {ρ:=JI d none s c,own:=own'} (a.put d v) w' μ':=by
 refine⟨l,h.fr.trans f,Ke h.base f.size,m,?_,?_,?_,n,o⟩
 .cases d<;>exact h.dfr
 .cases d<;>simp[Act.put,h.size]
 .cases d with
  |none=>exact i
  |some d=>
   have j:d<a.tmps.size:=by rw[h.size];simpa[IP]using r
   refine i.put j (λq b e=>Ds) ?_;unfold CK;simp only;rw[LV j,Ih rfl];exact t
theorem LU{w':World}{μ':Mu}{H H':Nat->Prop}(b:Keeps w w' H H' μ μ')(h:∀g s,E.glob g=some s->s.pure=true/\D w H μ s (.pointer (some ⟨g,0,none⟩))):∀g s,E.glob g=some s->s.pure=true/\D w' H' μ' s (.pointer (some ⟨g,0,none⟩)):=
 λg s a=>⟨(h g s a).1,(h g s a).2.keep b⟩
theorem b1a{w':World}{μ':Mu}{H H':Nat->Prop}{k:List Nat}(b:Keeps' k w w' H H' μ μ')(h:∀g s,E.glob g=some s->s.pure=true/\D w H μ s (.pointer (some ⟨g,0,none⟩))):∀g s,E.glob g=some s->s.pure=true/\D w' H' μ' s (.pointer (some ⟨g,0,none⟩)):=
 λg s a=>⟨(h g s a).1,JF b (h g s a).2 (h g s a).1⟩
theorem b05{H:Nat->Prop}{tmps:Array Value}{ρ:List Entry}(o:DY w H μ tmps ρ):∀(n g:Nat) (p:Bool) (c:Prop),Ux ρ n g p=some c->tmps.getD g undef=.bool p->c:=by
 intro n;induction n with
 |zero=>intro g p c h;simp[Ux]at h
 |succ n q=>
  intro g p c h i;simp only[Ux]at h;split at h;rotate_left
  .cases h
  rename_i e j;have hs:=LG j;have a:=o g e j;unfold CK at a;split at h;rotate_left
  .cases h
  rename_i b k;split at h
  .rename_i d;cases h;rw[d,k,hs,i]at a;simp only at a;cases a;rfl
  .rename_i l m d;simp only[In]at h;obtain⟨r,s,rfl⟩:=h;rw[d,k,hs,i]at a;simp only at a;by_cases f:tmps.getD l undef=.bool m
   .have:=a.1 f;cases this;exact⟨q l m r s f,rfl⟩
   .have:=a.2 f;cases this
theorem b6u{ops:Array Oper}{o:Oper}{j g:Nat}{p:Bool}(d:o.guard=some (j,p))(e:(ops[j]?).bind (·.dst)=some g)(f:g<a.tmps.size):
 Region.wanted o (yielded ops a.tmps)=true↔a.tmps.getD g undef=.bool p:=by
 simp only[Region.wanted,d,yielded,e,Kw,M1,Lk f,K2];split
 .rename_i b c;rw[J8]at c;rw[c];simp
 .rename_i i;simp only[Kx];constructor
  .intro h;cases h
  .intro h;exact absurd (by rw[h]) (i p)
theorem d06(sz:Nat):∀(ps:List (Nat×Value)) (b:Nat) (vs:List Value),ps.map (·.1)=List.range' b ps.length->(∀p∈ps,p.2.cells.size=sz)->(b+ps.length)*sz<=vs.length->
 (∀v∈vs,v.oneCell'=true)->(∀p∈ps,∀v∈p.2.cells.toList,v.oneCell'=true)->
 ∃d:List Value,Instr.fill (λi=>some (i*sz,sz)) vs.toArray ps=some d.toArray/\d.length=vs.length/\(∀v∈d,v.oneCell'=true)/\
  (∀x,x<b*sz->d[x]?=vs[x]?)/\∀(i j:Nat) (p:Nat×Value),ps[i]?=some p->j<sz->d[(b+i)*sz+j]?=p.2.cells.toList[j]?:=by
 intro ps;induction ps with
 |nil=>intro b vs _ _ _ k _;exact⟨vs,rfl,rfl,k,λ_ _=>rfl,λi j p h=>Dv⟩
 |cons q ps t=>
  intro b vs g hs l k n;obtain⟨a,c⟩:=q;simp only[K1,Jy,List.range'_succ,List.cons.injEq]at g;obtain⟨rfl,g⟩:=g;have f:c.cells.size=sz:=hs (a,c) Dm;have m:a*sz+sz<=vs.length:=by have:(a+1)*sz<=(a+(ps.length+1))*sz:=Js _ Dj;rw[Ln]at this;simp only[Jy]at l;omega
  obtain⟨d,u,w,y,o,z⟩:=t (a+1) (over vs (a*sz) c.cells.toList) g (λp e=>hs p (by simp[e])) (by rw[NI];simp only[Jy]at l;rw[show a+1+ps.length=a+(ps.length+1)from Dj];exact l)
   (Rq _ _ _ k (n (a,c) Dm)) (λp e=>n p (by simp[e]))
  have r:=λx=>LR c.cells.toList vs (a*sz) x (by simp[f];exact m);refine⟨d,?_,by rw[w,NI],y,λx hx=> ?_,λi j p e s=> ?_⟩
  .simp only[Instr.fill];have A:¬(a*sz+c.cells.size>vs.toArray.size):=by rw[f];simp;exact m
   rw[Ii (by rw[J9 A];simp[f])];have:(c.cells.zipIdx.foldl (λB x=>B.setIfInBounds (a*sz+x.2) x.1) vs.toArray)=(over vs (a*sz) c.cells.toList).toArray:=by have:=b6i c.cells.toList 0 (a*sz) vs (by simp only[Kk,L7,f];exact m);rw[<-Array.foldl_toList];simpa using this
   rw[this];exact u
  .rw[o x (by rw[Ln];omega),r,Ii Dj]
  .match i with
   |0=>
    simp at e;subst e;rw[L7,o _ (by rw[Ln];omega),r,Ih (by simp[f];exact s),Nat.add_sub_cancel_left]
   |i+1=>
    have:=z i j p (by simpa using e) s;rwa[show a+1+i=a+(i+1)from Dj]at this
theorem b5r{own B:List Blk}(W:Own B0 X A w μ B)(Y:B0<=w.heap.size)(Z:μ own.length=none){ρ:Operand->Option SV}(F:∀(x:Operand) (s:SV),ρ x=some s->D w (held A μ) μ s (a.eval x)){o:Oper}{pre:Prop}{s:SV}{b:Blk}
 (f:Uw E.P own ρ o.op=some (pre,s,b)) (M:pre) (cz:B[own.length]?=some b):
 ∃r G k,(execOp a.eval o).run E.P w=.ok (.value r) G/\After B0 X A w G μ k B/\(∀j,j≠own.length->k j=μ j)/\D G (held A k) k s r:=by
 unfold Uw at f;split at f
 .rename_i T I;simp only[Ip]at f;obtain⟨z,hz,f⟩:=f;split at f;rotate_left
  .cases f
  rename_i N;simp only[Hy]at f;obtain⟨rfl,rfl,rfl⟩:=f;obtain⟨r,G,k,J,K,L,h4⟩:=c2w (P:=E.P) W Y Z hz N cz;exact⟨r,G,k,by simp[execOp,I,J],K,L,h4⟩
 .rename_i T x I;simp only[Ip]at f;obtain⟨sx,hx,t,gh,f⟩:=f;split at f;rotate_left
  .cases f
  rename_i N;simp only[Hy]at f;obtain⟨rfl,rfl,rfl⟩:=f;obtain⟨r,G,k,J,K,L,h4⟩:=c8y (P:=E.P) W Y Z (F _ _ hx) gh N cz;exact⟨r,G,k,by simp[execOp,I,J],K,L,h4⟩
 .rename_i T I;simp only[Ip,Hx]at f;obtain⟨e,hT,sz,bp,rfl,rfl,rfl⟩:=f;simp only[CH,In]at bp;obtain⟨g,O,rfl⟩:=bp;obtain⟨k,J,K,L⟩:=c2v W Y Z (vs:=[]) cz (Ir _) (Ix _) (λi hi=>absurd hi (Ja _)) Dm Dm (λi j s v hi=>absurd hi (Ja _));refine⟨_,_,k,?_,J,K,L⟩;simp[execOp,I,Instr.buildSlice,Jh (On hT),GX O,Instr.fill,newRow];congr 2;apply Array.ext';simp
 .rename_i T n d hnp I;simp only[Ip]at f;obtain⟨e,hT,sz,bp,z,hz,ps,R6,f⟩:=f;split at f;rotate_left
  .cases f
  rename_i N;obtain⟨wx,S0,bu,hbig,rz,me,bw⟩:=N;simp only[Hy]at f;obtain⟨rfl,rfl,rfl⟩:=f;simp only[CH,In]at bp;obtain⟨g,O,rfl⟩:=bp;obtain⟨inf',C,Q,m5,rfl,np⟩:=Qm (w:=w) (H:=held A μ) (μ:=μ) hz;rw[O]at Q;cases Q;have jr:C.cells.size=g.size:=Ew;obtain⟨l1,l2⟩:=MY R6;have bf:ps.length=n:=by have:=Lz List.length wx;simpa using this
  have part:∀(i:Nat) (q:Nat×Operand),d.toList[i]?=some q->∃t:List SV,ps[i]?=some (q.1,t)/\t.all SV.isCell=true/\t.all SV.pure=true/\t.length=g.size/\DL w (held A μ) μ t (a.eval q.2).cells.toList:=by intro i q R;obtain⟨y,hy,u⟩:=l2 i q R;simp only[Ip,In]at u;obtain⟨sq,Z9,t,gh,rfl⟩:=u;have U:=Iq.1 bw _ (Ik hy);simp only[I3]at U;exact⟨t,hy,U.1.1,U.1.2,U.2,(F _ _ Z9).cells gh⟩
  have ff:∀p∈d.toList.map λ(q:Nat×Operand)=>(q.1,a.eval q.2),p.2.cells.size=g.size/\∀v∈p.2.cells.toList,v.oneCell'=true:=by
   intro p M;obtain⟨i,hi,u⟩:=Jg.1 M;have Q:i<d.toList.length:=Eg;obtain⟨t,V,c2,c3,c4,c5⟩:=part i _ (Ig Q);have:p=(d.toList[i].1,a.eval d.toList[i].2):=by rw[<-u];simp
   subst this;exact⟨by have:=c5.1;rw[Kk]at this;exact this.trans c4,Qr c5 c2⟩
  have fk:∀v∈C.cells.toList,v.oneCell'=true:=Qr np me;have S:∀v∈(madeCells C.cells (n*g.size)).toList,v.oneCell'=true:=by intro v hv;obtain⟨i,hi,u⟩:=Jg.1 hv;obtain⟨_,rfl⟩:=b2n _ _ i v (by rw[<-u];exact Ig hi);have b6:i%C.cells.size<C.cells.size:=Mr _ Dj;rw[Kt C.cells _ b6];exact fk _ Dm
  have fq:(d.toList.map λ(q:Nat×Operand)=>(q.1,a.eval q.2)).length=n:=by rw[Jp,<-l1,bf]
  have hfst:(d.toList.map λ(q:Nat×Operand)=>(q.1,a.eval q.2)).map (·.1)=List.range' 0 (d.toList.map λ(q:Nat×Operand)=>(q.1,a.eval q.2)).length:=by
   rw[fq,<-List.range_eq_range',<-wx];apply L4;intro i;simp only[Jb,Lq];cases R:d.toList[i]? with
   |none=>
    have:ps[i]?=none:=by rw[List.getElem?_eq_none_iff]at R⊢;rw[l1];exact R
    simp[this]
   |some q=>
    obtain⟨t,V,_⟩:=part i q R;simp[V]
  obtain⟨us,f1,f2,f3,f4,f5⟩:=d06 g.size _ 0 (madeCells C.cells (n*g.size)).toList hfst (λp M=>(ff p M).1) (by rw[fq];simp[size_madeCells]) S (λp M=>(ff p M).2);have dn:∀i,i<n->∃(q:Nat×Operand) (t:List SV),d.toList[i]?=some q/\(ps.map (·.2)).getD i []=t/\t.all SV.pure=true/\t.length=g.size/\DL w (held A μ) μ t (a.eval q.2).cells.toList:=by
   intro i hi;have Q:i<d.toList.length:=by rw[<-l1,bf];exact hi
   obtain⟨t,V,c2,c3,c4,c5⟩:=part i _ (Ig Q);exact⟨_,t,Ig Q,by simp[V],c3,c4,c5⟩
  obtain⟨k,J,K,L⟩:=c2v W Y Z (vs:=us) cz (Ir _) (by
   have:n*1<=n*g.size:=Nat.mul_le_mul_left _ bu;simp only[maxLen];omega) (λi hi=>by obtain⟨q,t,_,u,e2,e3,_⟩:=dn i hi;rw[u];exact⟨e3,e2⟩) (by rw[f2];simp[size_madeCells]) f3 (λi j s v hi hs hv=>by
   obtain⟨q,t,R,u,e2,e3,e4⟩:=dn i hi;rw[u]at hs;have hj:j<g.size:=by rw[<-e3];exact(Ij.1 hs).1
   have:=f5 i j (q.1,a.eval q.2) (by rw[Jb,R];rfl) hj;rw[Ki,hv]at this;exact e4.2 j s v hs this.symm)
  refine⟨_,_,k,?_,J,K,L⟩;have U:(d.map λ(q:Nat×Operand)=>(q.1,a.eval q.2))=(d.toList.map λq=>(q.1,a.eval q.2)).toArray:=by apply Array.ext';simp
  have s5:(Array.range (n*g.size)).map (λi=>C.cells[i%C.cells.size]!)=(madeCells C.cells (n*g.size)).toList.toArray:=by apply Array.ext';simp[madeCells]
  have hnz:¬(n*g.size=0):=by have:1*1<=n*g.size:=Nat.mul_le_mul S0 bu;omega
  simp only[execOp,I,U,Instr.buildSlice,Hz,Jh (On hT),GX O,Ii (by omega:¬n*g.size>2^24),Ii hnz,Ta O m5,s5,f1,newRow];simp
 .rename_i T l c I;simp only[Ip]at f;obtain⟨e,hT,g,O,z,hz,f⟩:=f;split at f;rotate_left
  .cases f
  rename_i kl n kc m hl N;split at f;rotate_left
  .cases f
  rename_i dp;obtain⟨V,c2,c3,c4⟩:=dp;simp only[Hy]at f;obtain⟨rfl,rfl,rfl⟩:=f;obtain⟨p1,p2,p3,p4⟩:=M;obtain⟨r,G,k,J,K,L,h4⟩:=c8k (P:=E.P) (kl:=kl) (kc:=kc) W Y Z hT O hz V c2 c3 c4 p1 p2 p3 p4 cz;have d1:=F _ _ hl;have d2:=F _ _ N;generalize u:a.eval l=v1 at d1;generalize e2:a.eval c=v2 at d2;cases d1;cases d2;exact⟨r,G,k,by simp[execOp,I,u,e2,J],K,L,h4⟩
 .cases f
theorem b1g(_:EnvOK E){own c:List Blk}(t:Own B0 X A w μ c)(m:B0<=w.heap.size)(u:μ own.length=none){ρ:Operand->Option SV}(g:∀(x:Operand) (s:SV),ρ x=some s->D w (held A μ) μ s (a.eval x)){o:Oper}{T:TypeId}{r:Option Operand}(y:o.op=.makeMap T r){b:Blk}
 (d:c6v E ρ T r=some b) (B:c[own.length]?=some b):
 ∃v k f,(execOp a.eval o).run E.P w=.ok (.value v) k/\After B0 X A w k μ f c/\(∀j,j≠own.length->f j=μ j)/\D k (held A f) f (.omp own.length) v:=by
 unfold c6v at d;split at d;rotate_left
 .cases d
 rename_i ky elem C;simp only[Ip]at d;obtain⟨K,hK,F,qc,z,hz,d⟩:=d;have l:b=.map K F (λ_=>false) (λ_=>z)/\(Instr.makeMap T (r.map a.eval)).run E.P w=.ok (.map (some w.heap.size)) (w.alloc (.map #[] 0)):=by
  split at d
  .cases d;exact⟨rfl,by simp[Instr.makeMap]⟩
  .rename_i x;split at d
   .rename_i hx;cases d;have n:=g _ _ hx;generalize G:a.eval x=v at n;cases n;exact⟨rfl,by simp[Instr.makeMap,G,Jh C,asInt,asIntOf]⟩
   .cases d
 obtain⟨rfl,H⟩:=l;obtain⟨I,J⟩:=SJ t m u B (.map #[] 0) (.map (some w.heap.size)) (λb l=>(d0d.1 l).symm) (λf _ _=>⟨w.heap.size,λ_=>[],rfl,⟨#[],0,Ly w _,λe h=>Dv,λq h=>Dw,Dm⟩,λq h=>Dw,λq i s v h=>Dw⟩);refine⟨.map (some w.heap.size),_,_,by simp[execOp,y,H],⟨I,Fr.alloc _ m,J⟩,λj hj=>E7,.omp E3⟩
theorem b8v(hE:EnvOK E){own:List Blk}(d:Own B0 X A w μ own){T:TypeId}{m i x:SV}{vm N n:Value}{own':List Blk}(hm:D w (held A μ) μ m vm)(hi:D w (held A μ) μ i N)(hx:D w (held A μ) μ x n)(a:b8e E own T m i x=some own'):
 ∃O,(Instr.mapUpdate T vm N n).run E.P w=.ok () O/\After B0 X A w O μ μ own'/\own'.length=own.length:=by
 unfold b8e at a;split at a;rotate_left
 .cases a
 rename_i ky elem k Q;split at a;rotate_left
 .cases a
 rename_i K t f val R;split at a;rotate_left
 .cases a
 rename_i l;obtain⟨tc,G⟩:=l;simp only[Ip]at a;obtain⟨q,hq,J,u,a⟩:=a;split at a;rotate_left
 .cases a
 rename_i pv;cases a;obtain⟨ky',elem',S,jz⟩:=hE.kt T K tc;rw[Q]at S;cases S;obtain⟨rfl,mf⟩:=b16 hq hi;cases hm with
 |omp b=>
  obtain⟨bl,e,bc⟩:=d.blk _ _ b;rw[R]at e;cases e;obtain⟨r,g,e1,U,L,V⟩:=bc;cases e1;obtain⟨fh,pg⟩:=hx.cells u;have z:n=HD t n.cells.toList:=by
   cases hx with
   |agg vs L V=>
    have:t=true:=G.symm;subst this;simp[HD,Value.cells]
   |con=>
    have:t=false:=G.symm;subst this;simp only[SV.cells]at u;split at u
    .rename_i h1;cases n<;>first|rfl|simp[Value.oneCell']at h1
    .cases u
   |tup=>simp[SV.cells]at u
   |any=>simp[SV.cells]at u
   |fp h=>
    have:t=false:=G.symm;subst this;split at h
    .exact Cc
    .subst h;rfl
   |_=>
    have:t=false:=G.symm;subst this;rfl
  obtain⟨o,bn,tf⟩:=b2g (w:=w) z Q jz U mf;have b6:=U.lt;have H:Keeps w (LO w r o) (held A μ) (held A μ) μ μ:=⟨Fa,λc _ l=>Rf (λe=>l (by subst e;exact .inr ⟨k,_,b,.inl rfl⟩)),λ_ _ h=>h,λ_ _ h=>h⟩
  have hB:=(d.rng k _ r b (.inl rfl)).2.2;refine⟨_,bn,⟨⟨λj y B=> ?_,d.inj,λj y c B hy=>by rw[Us];exact d.rng j y c B hy,λc l=>by rw[Us];exact d.bnd c l⟩,
   ⟨rfl,rfl,rfl,λ_=>Ir _,Fa,λi hi hX=>Rf (λe=>by subst e;rcases hB with W|W;omega;exact hX W)⟩,H⟩,Dm⟩
  have bf:k<own.length:=(Ij.1 R).1;by_cases e:j=k
  .subst e;have:y=.map (some r):=by rw[b]at B;exact(Jj B).symm
   subst this;refine⟨.map K t (Io f q) (λp=>DH (decide (p=q)) J (val p)),by simp[bf],r,λp=>if p=q then n.cells.toList else g p,rfl,tf,λp hp=> ?_,λp i s v hp hs z=> ?_⟩
   .obtain⟨Y,C,_⟩:=WU (decide (p=q)) J (val p);simp only[Is]at Y C;rw[Y];by_cases ep:p=q
    .simp only[ep,Jv];rw[ep]at C;simp only[Jv]at C;exact⟨fh,C pv⟩
    .have I:f p=true:=Gh;simp only[ep,if_false];simp only[ep,if_false]at C;exact⟨(L p I).1,C (L p I).2⟩
   .obtain⟨Z,F,t4⟩:=(WU (decide (p=q)) J (val p)).2.2 i s hs;simp only[Is]at F;refine t4 ?_;by_cases ep:p=q
    .simp only[ep,Jv]at F z;exact(pg i Z v F z).keep H
    .have I:f p=true:=Gh;simp only[ep,if_false]at F z;exact(V p i Z v I F z).keep H
  .obtain⟨M,e0,pf⟩:=d.blk j y B;refine⟨M,by rw[Iw (Ne.symm e)];exact e0,pf.keep H (λc l=>Rf (λec=> ?_))⟩;subst ec;exact e (d.inj j k y _ c B b l (.inl rfl))
theorem b79(hE:EnvOK E)(hC:FU E)(h:SD E B0 X A w0 nt st a w μ){ops:Array Oper}{o:Oper}{F:Prop}{st':St}(f:d7t E nt ops st o=some (F,st'))(J:F)
 {K:Act->World->Prop} {Q:Exit->Act->World->Prop} (hK:∀a' w' l,SD E B0 X A w0 nt st' a' w' l->K a' w'):
 if Region.wanted o (yielded ops a.tmps)then o.wp E.P a w K Q else K (a.put o.dst undef) w:=by
 unfold d7t at f;split at f
 .cases f
 rename_i ft;have O:IP nt o.dst=true:=by simpa using ft
 split at f
 .rename_i j p jv;split at f;rotate_left
  .cases f
  rename_i d g nw wy;split at f;rotate_left
  .cases f
  rename_i b6;obtain⟨b6,ba⟩:=b6;simp only[Ip,Hx]at f;obtain⟨c,hc,⟨W,s⟩,hs,rfl,rfl⟩:=f;have Y:d<a.tmps.size:=by rw[h.size];simpa[IP,nw]using O
  have hw:=b6u (a:=a) jv wy (by rw[h.size];exact b6);split
  .rename_i dm;have R:=hw.1 dm;have fw:=b05 h.env 5 g p c hc R;refine b71 hE hC h (g:=some (g,p)) (λq b e=>by cases e;exact R) hs (J fw) (λv w' H C=>hK _ w' μ ?_);have hO:=h.own.calls C;have hk:Keeps w w' (held A μ) (held A μ) μ μ:=C.keeps;rw[nw];refine⟨hO,h.fr.trans ⟨C.os,C.tape,C.output,C.drawn,C.size,λi hi _=>C.block i (Jf hi h.base) (λh=>h)⟩,Ke h.base C.size,LU hk h.glo,h.dfr,by simp[Act.put,h.size],?_,h.fresh,h.anc⟩;refine(h.env.keep hk).put Y (λq b e=>by cases e;exact ba) ?_;unfold CK;simp only;rw[LV Y,LV Y,Ih rfl,Ii ba];exact⟨λ_=>H,λZ=>absurd R Z⟩
  .rename_i dm;have R:¬a.tmps.getD g undef=.bool p:=λR=>dm (hw.2 R);refine hK _ w μ ?_;rw[nw];refine⟨h.own,h.fr,h.base,h.glo,h.dfr,by simp[Act.put,h.size],?_,h.fresh,h.anc⟩;refine h.env.put Y (λq b e=>by cases e;exact ba) ?_;unfold CK;simp only;rw[LV Y,LV Y,Ih rfl,Ii ba];exact⟨λhh=>absurd hh R,λ_=>rfl⟩
 .rename_i jv;rw[Ih Eh];have t:=h.opds (g:=none) (λq b e=>Ds);have M:∀{s:SV} {F:Prop},QF E st none o.op=some (F,s)->F->(∀a' w' l,SD E B0 X A w0 nt {st with ρ:=JI o.dst none s st.ρ} a' w' l->K a' w')->o.wp E.P a w K Q:=by
   intro s F hs J hK;refine b71 hE hC h (g:=none) (λq b e=>Ds) hs J (λv w' H C=>hK _ w' μ ?_);have hk:Keeps w w' (held A μ) (held A μ) μ μ:=C.keeps;exact h.put (h.own.calls C) ⟨C.os,C.tape,C.output,C.drawn,C.size,λi hi _=>C.block i (Jf hi h.base) (λh=>h)⟩ (LU hk h.glo) (h.env.keep hk) h.fresh h.anc O H
  have L:∀{r:Value} {w':World},(execOp a.eval o).run E.P w=.ok (.value r) w'->K (a.put o.dst r) w'->o.wp E.P a w K Q:=by intro r w' G hk;unfold Oper.wp;rw[G];exact hk
  split at f
  .rename_i T p x I;simp only[Ip]at f;obtain⟨sp,th,sx,S,⟨W,own'⟩,N,f⟩:=f;split at f;rotate_left
   .cases f
   rename_i p9;simp only[Hy]at f;obtain⟨rfl,rfl⟩:=f;obtain⟨w',G,ha⟩:=b4z h.own (t _ _ th) (t _ _ S) N J;have V:(execOp a.eval o).run E.P w=.ok .skip w':=by simp[execOp,I,G]
   unfold Oper.wp;rw[V];show K (a.put o.dst undef) w';rw[p9];have bf:own'.length=st.own.length:=by
    unfold Rw at N;simp only[I5]at N;obtain⟨n,Z,us,jq,N⟩:=N;repeat' split at N
    all_goals first|(cases N;simp;done)|cases N
   exact Cz
  iterate 4
   .rename_i I;simp only[Hx]at f;obtain⟨⟨W,s,b⟩,Z,rfl,rfl⟩:=f;obtain⟨r,w',l,G,ha,u,H⟩:=b5r (h.own.more (own':=st.own++[b]) Ua) h.base (h.fresh _ (Ir _)) t Z J Dm;refine L G (hK _ w' l ?_);refine h.put ha.own ha.fr (LU ha.keeps h.glo) (h.env.keep ha.keeps) (λk hk=> ?_) (λj x hx=>ha.keeps.own _ _ (h.anc j x hx)) O H;simp only[I8]at hk;rw[u k Dj];exact h.fresh k Dj
  .rename_i T r I;simp only[Hx]at f;obtain⟨b,Z,rfl,rfl⟩:=f;obtain⟨r,w',l,G,ha,u,H⟩:=b1g hE (h.own.more (own':=st.own++[b]) Ua) h.base (h.fresh _ (Ir _)) t I Z Dm;refine L G (hK _ w' l ?_);refine h.put ha.own ha.fr (LU ha.keeps h.glo) (h.env.keep ha.keeps) (λk hk=> ?_) (λj x hx=>ha.keeps.own _ _ (h.anc j x hx)) O H;simp only[I8]at hk;rw[u k Dj];exact h.fresh k Dj
  iterate 2
   .rename_i T m k x I;simp only[Ip]at f;obtain⟨sm,mv,sk,g8,sx,S,own',wz,f⟩:=f;split at f;rotate_left
    .cases f
    rename_i p9;simp only[Hy]at f;obtain⟨rfl,rfl⟩:=f;obtain⟨w',G,ha,bf⟩:=b8v hE h.own (t _ _ mv) (t _ _ g8) (t _ _ S) wz;have V:(execOp a.eval o).run E.P w=.ok .skip w':=by simp[execOp,I,G]
    unfold Oper.wp;rw[V];show K (a.put o.dst undef) w';rw[p9];exact Cz
  .rename_i x y T U I;split at f;rotate_left
   .cases f
   rename_i S1;subst S1;simp only[Ip]at f;obtain⟨sx,S,sy,S2,⟨W,k,own',new⟩,B,f⟩:=f;split at f
   .cases f
   rename_i qg;simp only[Hy]at f;obtain⟨rfl,rfl⟩:=f;obtain⟨r,w',l,G,H,hafter⟩:=c0n (ty:=o.type) h.own h.base (h.fresh _ (Ir _)) (t _ _ S) (t _ _ S2) B J;have V:(execOp a.eval o).run E.P w=.ok (.value r) w':=by simp only[execOp,I,resolve,Hz,invoke,builtin];rw[show (⟨[x,y]⟩:Array Operand).map a.eval= #[a.eval x,a.eval y]from Dm,G];simp
   have bf:new=true/\own'.length=st.own.length+1\/new=false/\own'.length=st.own.length/\k<st.own.length:=by
    simp only[Rl,Ip]at B;obtain⟨e,_,inf,_,z,_,mg,_,B⟩:=B;split at B;rotate_left
    .cases B
    unfold b41 at B;split at B
    .cases B;exact .inl ⟨rfl,Dm⟩
    .split at B
     .simp only[Hy]at B;obtain⟨_,rfl,rfl,rfl⟩:=B;exact .inl ⟨rfl,Dm⟩
     .cases B
    .split at B
     .rename_i hk;split at B
      .cases B;exact .inr ⟨rfl,Dm,(Ij.1 hk).1⟩
      .cases B
     .cases B
    .cases B
   refine L V (hK _ w' l ?_);rcases hafter with⟨rfl,ha,u⟩|⟨rfl,ha,u⟩
   .refine h.put ha.own ha.fr (LU ha.keeps h.glo) (h.env.keep ha.keeps) (λj hj=> ?_) (λj x hx=>ha.keeps.own _ _ (h.anc j x hx)) O H;rcases bf with⟨_,hl⟩|⟨hf,_⟩
    .rw[u j Dj];exact C1
    .cases hf
   .have qf:∀j x,E.an j=some x->j=k->False:=λj x hx e=>qg (by subst e;simp[Env.an_ak hx]);refine h.put ha.own ha.fr (b1a ha.keeps h.glo) (h.env.change ha.keeps) (λj hj=> ?_) (λj x hx=>ha.keeps.own _ _ (λe=>qf j x hx Ey) (h.anc j x hx)) O H;rcases bf with⟨hf,_⟩|⟨_,hl,jz⟩
    .cases hf
    .rw[u j Dj];exact C1
  .rename_i T x lo hi I;split at f
   .rename_i k S;simp only[Ip]at f;obtain⟨⟨W,own'⟩,hrs,f⟩:=f;split at f
    .cases f
    rename_i qg;simp only[Hy]at f;obtain⟨rfl,rfl⟩:=f;have opt:∀y:Option Operand,DO w (held A μ) μ (Ny (BZ E st.ρ none) y) (y.map a.eval):=by
     intro y;cases y with
     |none=>simp[DO,Ny]
     |some y=>
      simp only[Ny,Ju];cases hy:BZ E st.ρ none y with
      |none=>simp[DO]
      |some s=>simpa[DO]using t _ _ hy
    obtain⟨r,l,G,H,ha,bf,hk,u⟩:=b97 h.own h.base (t _ _ S) (opt lo) (opt hi) hrs J;have V:(execOp a.eval o).run E.P w=.ok (.value r) w:=by simp[execOp,I,G]
    have qf:∀j x,E.an j=some x->j=k->False:=λj x hx e=>qg (by subst e;simp[Env.an_ak hx]);refine L V (hK _ w l ?_);refine h.put ha.own ha.fr (b1a ha.keeps h.glo) (h.env.change ha.keeps) (λj hj=> ?_) (λj x hx=>ha.keeps.own _ _ (λe=>qf j x hx Ey) (h.anc j x hx)) O H;rw[bf]at hj;rw[u j Dj];exact C1
   .simp only[Hx]at f;obtain⟨⟨W,s⟩,hs,rfl,rfl⟩:=f;rw[<-I]at hs;exact M hs J hK
  .simp only[Hx]at f;obtain⟨⟨W,s⟩,hs,rfl,rfl⟩:=f;exact M hs J hK
end
def QP:List Nat->Bool
 | []=>true
 |x::r=> !r.contains x&&QP r
def BH(k:Nat):List Nat->Option Nat
 | []=>none
 |a::r=>if a=k then some 0 else(BH k r).map (· +1)
theorem Ol{k j:Nat}:∀{l:List Nat},BH k l=some j->l[j]?=some k:=by
 intro l;induction l generalizing j with
 |nil=>intro h;simp[BH]at h
 |cons a r b=>
  intro h;simp only[BH]at h;split at h
  .rename_i e;cases h;simp[e]
  .simp only[In]at h;obtain⟨i,c,rfl⟩:=h;simpa using b c
theorem VX{k:Nat}:∀{l:List Nat},BH k l=none->k∉l:=by
 intro l;induction l with
 |nil=>intro _ h;simp at h
 |cons a r c=>
  intro h;simp only[BH]at h;split at h
  .cases h
  .rename_i e;simp only[Option.map_eq_none_iff]at h;intro b;rcases Iv.1 b with b|b
   .exact e b.symm
   .exact c h b
theorem XT{l:List Nat}(h:l.Nodup){k j:Nat}(b:l[j]?=some k):BH k l=some j:=by
 cases hi:BH k l with
 |none=>exact absurd (Ik b) (VX hi)
 |some i=>
  have m:=Ol hi;obtain⟨c,d⟩:=Ij.1 m;obtain⟨e,f⟩:=Ij.1 b;have g:=Jr.1 h;rcases Lt i j with a|rfl|a
  .exact absurd (d.trans f.symm) (g i j c e a)
  .rfl
  .exact absurd (f.trans d.symm) (g j i e c a)
def SV.ren00(g:Nat->Option Nat):SV->SV
 |.own k o=>match g k with|some j=>.own j o|none=>.any
 |.osl k=>match g k with|some j=>.osl j|none=>.any
 |.omp k=>match g k with|some j=>.omp j|none=>.any
 |.oel k a i o=>match g k with|some j=>.oel j a i o|none=>.any
 |.fp b k i o=>match g k with|some j=>.fp b j i o|none=>.any
 |.agg _|.tup _=>.any
 |.clo f c=>if c.isEmpty then .clo f []else .any
 |s=>s
def SV.ren0(g:Nat->Option Nat):SV->SV
 |.clo f a=>.clo f (a.map (SV.ren00 g))
 |s=>s.ren00 g
def SV.ren1(g:Nat->Option Nat):SV->SV
 |.agg a=>.agg (a.map (SV.ren0 g))
 |s=>s.ren0 g
def SV.ren2(g:Nat->Option Nat):SV->SV
 |.tup a=>.tup (a.map (SV.ren1 g))
 |s=>s.ren1 g
def Blk.ren(g:Nat->Option Nat):Blk->Blk
 |.cells T d=>.cells T (d.map (SV.ren0 g))
 |.pmap K k a BH=>match g k with|some j=>.pmap K j a BH|none=>.dead
 |.fam T e n (some (i,c)) F=>match g c with|some j=>.fam T e n (some (i,j)) F|none=>.dead
 |.rowh T h n f c i u=>.rowh T h n f c i (u.map (SV.ren0 g))
 |b=>b
section
variable{w:World}{H H':Nat->Prop}{μ μ':Mu}{g:Nat->Option Nat}
theorem b54 (u : ∀ b, H' b → H b) (f : ∀ k j x, g k = some j → μ k = some x → μ' j = some x) {s : SV} {v : Value} (h : D w H μ s v) : D w H' μ' (s.ren00 g) v := by
  have c : s.pure = true → s.ren00 g = s → D w H' μ' (s.ren00 g) v := λy e => by
    rw [e]
    exact GU u h y
  cases h with
  | own h => simp only [SV.ren00]; split; · rename_i d; exact .own (f _ _ _ d h)
             · exact .any
  | osl h => simp only [SV.ren00]; split; · rename_i d; exact .osl (f _ _ _ d h)
             · exact .any
  | omp h => simp only [SV.ren00]; split; · rename_i d; exact .omp (f _ _ _ d h)
             · exact .any
  | oel h => simp only [SV.ren00]; split; · rename_i d; exact .oel (f _ _ _ d h)
             · exact .any
  | fp h =>
    simp only [SV.ren00]
    split
    · rename_i d; cases (D.fp h : D w H μ _ _) with
      | fp h =>
        refine .fp ?_
        split
        · rename_i e
          rw [Ih e] at h
          obtain ⟨z, A, b, l, n, B⟩ := h
          exact ⟨z, A, b, f _ _ _ d l, n, B⟩
        · rename_i e
          rwa [Ii e] at h
    · exact .any
  | agg => exact .any
  | tup => exact .any
  | clo vs hl q =>
    simp only [SV.ren00]
    split
    · rename_i t
      have := List.isEmpty_iff.1 t
      subst this
      exact C5
    · exact .any
  | int => exact .int
  | bool => exact .bool
  | con => exact .con
  | ub l n => exact .ub l n
  | any => exact .any
  | sl a b o m g C hx t E hl q => exact c rfl rfl
  | rel b o g hi F E hl q => exact c rfl rfl
  | mp r g F C hl q => exact c rfl rfl
theorem VC(a:∀b,H' b->H b)(c:∀k j x,g k=some j->μ k=some x->μ' j=some x){s:SV}{v:Value}(h:D w H μ s v):D w H' μ' (s.ren0 g) v:=by
 unfold SV.ren0;split
 .cases h with
  |clo d hl e=>
   refine .clo d Dx (λi s v hs f=> ?_);simp only[I2]at hs;obtain⟨l,m,rfl⟩:=hs;exact b54 a c (e i l v m f)
 .exact b54 a c h
theorem b12(a:∀b,H' b->H b)(c:∀k j x,g k=some j->μ k=some x->μ' j=some x){s:SV}{v:Value}(h:D w H μ s v):D w H' μ' (s.ren1 g) v:=by
 unfold SV.ren1;split
 .cases h with
  |agg d hl e=>
   refine .agg d Dx (λi s v hs f=> ?_);simp only[I2]at hs;obtain⟨l,m,rfl⟩:=hs;exact VC a c (e i l v m f)
 .exact VC a c h
theorem YC(a:∀b,H' b->H b)(c:∀k j x,g k=some j->μ k=some x->μ' j=some x){s:SV}{v:Value}(h:D w H μ s v):D w H' μ' (s.ren2 g) v:=by
 unfold SV.ren2;split
 .cases h with
  |tup d hl e=>
   refine .tup d Dx (λi s v hs f=> ?_);simp only[I2]at hs;obtain⟨l,m,rfl⟩:=hs;exact b12 a c (e i l v m f)
 .exact b12 a c h
theorem CT.ren(hH:∀b,H' b->H b)(t:∀k j x,g k=some j->μ k=some x->μ' j=some x){x:Value}{bl:Blk}(h:CT w H μ x bl):CT w H' μ' x (bl.ren g):=by
 have G:∀{s:SV} {v:Value},s.pure=true->D w H μ s v->D w H' μ' s v:=λI h=>GU hH h I;cases bl with
 |cells T cs=>
  obtain⟨b,J,rfl,d,hl,y,l⟩:=h;refine⟨b,J,rfl,d,Dx,y,λi s v hs z=> ?_⟩;simp only[I2]at hs;obtain⟨O,P,rfl⟩:=hs;exact VC hH t (l i O v P z)
 |row T M n f c=>
  obtain⟨a,m,rfl,Q,A,R,hl,S⟩:=h;refine⟨a,m,rfl,Q,A,R,hl,?_⟩;rcases S with h|⟨b,o,J,U,rfl,d,V,y,l⟩
  .exact .inl h
  .exact .inr ⟨b,o,J,U,rfl,d,V,y,λi j s v N hs z=>G (Iq.1 (hl i N).2 s (Ik hs)) (l i j s v N hs z)⟩
 |map K ag L val=>
  obtain⟨r,g,rfl,A,hl,l⟩:=h;exact⟨r,g,rfl,A,hl,λq i s v C hs z=>G (Iq.1 (hl q C).2 s (Ik hs)) (l q i s v C hs z)⟩
 |fam T Ts n W F=>
  obtain⟨ps,qs,rfl,h,d⟩:=h;have B:=h.keep (H':=H') ⟨Ir _,λ_ _ _=>rfl,λb _=>hH b⟩ (λ_ _=>rfl);match W,B,d with
  |none,B,d=>exact⟨ps,qs,rfl,B,λi c e=>Ds⟩
  |some (i,c),B,d=>
   simp only[Blk.ren];split
   .rename_i j E;refine⟨ps,qs,rfl,B,λi' c' e=> ?_⟩;cases e;obtain⟨p,X,Y⟩:=d i c rfl;exact⟨p,X,t _ _ _ E Y⟩
   .exact Im
 |pmap K k L BH=>
  simp only[Blk.ren];split
  .rename_i j E;obtain⟨⟨ps,qs,Z⟩,r,g,rfl,A,l⟩:=h;refine⟨⟨ps,qs,t _ _ _ E Z⟩,r,g,rfl,A,λq C=> ?_⟩;obtain⟨p,e,h⟩:=l q C;refine⟨p,e,?_⟩;cases h with
   |fp h=>
    simp only[Jv]at h;obtain⟨ps,qs,b,y,h2,h3⟩:=h;exact .fp (by simp only[Jv];exact⟨ps,qs,b,t _ _ _ E y,h2,h3⟩)
  .exact Im
 |rowh T M n f c i u=>exact Mt.to (SV.ren0 g) (λ_ _=>rfl) (λs v I h=>G I h) (λs v h=>VC hH t h) h
 |pool T M n l al ln ct=>
  obtain⟨ps,qs,rfl,h⟩:=h;exact D0
 |dead=>exact Im
end
def SV.refs0:SV->List Nat
 |.own k _|.osl k|.omp k|.oel k _ _ _|.fp _ k _ _=>[k]
 |_=>[]
def SV.refs1:SV->List Nat
 |.agg a=>a.flatMap SV.refs0
 |.clo _ a=>a.flatMap SV.refs0
 |s=>s.refs0
def Blk.refs:Blk->List Nat
 |.cells _ a=>a.flatMap SV.refs1
 |.pmap _ k _ _=>[k]
 |_=>[]
def WT:List Nat->List Nat->List Nat
 |a,[]=>a
 |a,k::r=>WT (if a.contains k then a else a++[k]) r
def close(own:List Blk):Nat->List Nat->List Nat
 |0,l=>l
 |n+1,l=>close own n (WT l (l.flatMap λk=>match own[k]? with|some b=>b.refs|none=>[]))
def MS(own:List Blk)(xs:List SV):List Nat:=close own 2 (WT [] (xs.flatMap SV.refs1))
def PQ(g:Nat->Blk->Blk):Nat->List Blk->List Blk
 |_,[]=>[]
 |k,b::r=>g k b::PQ g (k+1) r
theorem Vw{g:Nat->Blk->Blk}:∀{l:List Blk} {k i:Nat},(PQ g k l)[i]?=(l[i]?).map (g (k+i)):=by
 intro l;induction l with
 |nil=>intro k i;simp[PQ]
 |cons b r a=>
  intro k i;match i with
  |0=>simp[PQ]
  |i+1=>simp only[PQ,Kn,a];rw[show k+1+i=k+(i+1)from Dj]
theorem Rx{g:Nat->Blk->Blk}:∀{l:List Blk} {k:Nat},(PQ g k l).length=l.length:=by
 intro l;induction l with
 |nil=>intro k;rfl
 |cons b r a=>intro k;simp[PQ,a]
def QV:Option Blk->Bool
 |some (.row _ _ _ _ _)=>true
 |some (.fam _ _ _ _ _)=>true
 |_=>false
def OA(sel:List Nat)(n:Nat)(j:Nat):Option Nat:=some (if j<sel.length then sel.getD j 0 else n+(j-sel.length))
def Pz(sel:List Nat)(own:List Blk)(r:HRes)(a:List Nat):List Blk:=
 PQ (λk b=>match BH k sel with|some j=>(r.own.getD j b).ren (OA sel own.length)|none=>b.kill a) 0 own++(r.own.drop sel.length).map (Blk.ren (OA sel own.length))
def LI{α:Sort _}(n:Nat)(K:Nat->α):α:=
 match Nat.beq n 0 with|true=>K 0|false=>match Nat.beq n 1 with|true=>K 1|false=>match Nat.beq n 2 with|true=>K 2|false=>match Nat.beq n 3 with|true=>K 3|false=>match Nat.beq n 4 with|true=>K 4|false=>match Nat.beq n 5 with|true=>K 5|false=>match Nat.beq n 6 with|true=>K 6|false=>match Nat.beq n 7 with|true=>K 7|false=>match Nat.beq n 8 with|true=>K 8|false=>match Nat.beq n 9 with|true=>K 9|false=>match Nat.beq n 10 with|true=>K 10|false=>match Nat.beq n 11 with|true=>K 11|false=>match Nat.beq n 12 with|true=>K 12|false=>match Nat.beq n 13 with|true=>K 13|false=>match Nat.beq n 14 with|true=>K 14|false=>match Nat.beq n 15 with|true=>K 15|false=>match Nat.beq n 16 with|true=>K 16|false=>match Nat.beq n 17 with|true=>K 17|false=>match Nat.beq n 18 with|true=>K 18|false=>match Nat.beq n 19 with|true=>K 19|false=>match Nat.beq n 20 with|true=>K 20|false=>match Nat.beq n 21 with|true=>K 21|false=>match Nat.beq n 22 with|true=>K 22|false=>match Nat.beq n 23 with|true=>K 23|false=>K n
theorem Xi{α:Sort _}(n:Nat)(K:Nat->α):LI n K=K n:=by
 unfold LI;repeat' split
 all_goals first
  |rfl
  |(rename_i h;rw[Nat.eq_of_beq_eq_true h])
def UD{α:Sort _}:List Nat->(List Nat->α)->α
 | [],K=>K []
 |n::r,K=>LI n λn=>UD r λr=>K (n::r)
theorem b42{α:Sort _}:∀(l:List Nat) (K:List Nat->α),UD l K=K l
 | [],_=>rfl
 |n::r,K=>by simp only[UD,Xi,b42 r]
def SV.g0{α:Sort _}(s:SV)(K:SV->α):α:=match s with
 |.own k o=>LI k λk=>LI o λo=>K (.own k o)
 |.osl k=>LI k λk=>K (.osl k)
 |.oel k a i o=>LI k λk=>LI o λo=>K (.oel k a i o)
 |.rel a n f i o=>LI o λo=>K (.rel a n f i o)
 |.omp k=>LI k λk=>K (.omp k)
 |.fp b k i o=>LI k λk=>LI o λo=>K (.fp b k i o)
 |s=>K s
theorem SV.g0_eq{α:Sort _}(s:SV)(K:SV->α):s.g0 K=K s:=by cases s<;>simp only[SV.g0,Xi]
def gL{α:Sort _}:List SV->(List SV->α)->α
 | [],K=>K []
 |s::r,K=>s.g0 λs=>gL r λr=>K (s::r)
theorem f2a{α:Sort _}:∀(l:List SV) (K:List SV->α),gL l K=K l
 | [],_=>rfl
 |s::r,K=>by simp only[gL,SV.g0_eq,f2a r]
def SV.g1{α:Sort _}(s:SV)(K:SV->α):α:=match s with
 |.agg a=>gL a λa=>K (.agg a)
 |.clo f a=>gL a λa=>K (.clo f a)
 |s=>s.g0 K
theorem SV.g1_eq{α:Sort _}(s:SV)(K:SV->α):s.g1 K=K s:=by cases s<;>simp only[SV.g1,f2a,SV.g0_eq]
def Vc{α:Sort _}:List SV->(List SV->α)->α
 | [],K=>K []
 |s::r,K=>s.g1 λs=>Vc r λr=>K (s::r)
theorem f0t{α:Sort _}:∀(l:List SV) (K:List SV->α),Vc l K=K l
 | [],_=>rfl
 |s::r,K=>by simp only[Vc,SV.g1_eq,f0t r]
def gBlk{α:Sort _}(b:Blk)(K:Blk->α):α:=match b with
 |.cells T d=>gL d λd=>K (.cells T d)
 |.row T a n f c=>K (.row T a n f c)
 |.map T e h v=>K (.map T e h v)
 |.fam T g n j F=>K (.fam T g n j F)
 |.pmap T k h v=>LI k λk=>K (.pmap T k h v)
 |.rowh T a n f c i u=>gL u λu=>K (.rowh T a n f c i u)
 |.pool T a n l m o p=>K (.pool T a n l m o p)
 |.dead=>K .dead
theorem f4x{α:Sort _}(b:Blk)(K:Blk->α):gBlk b K=K b:=by cases b<;>simp only[gBlk,f2a,Xi]
def memN:List Nat->Nat->Bool
 | [],_=>false
 |x::r,n=>match Nat.beq x n with
  |true=>true
  |false=>memN r n
theorem d0h:∀(l:List Nat) (n:Nat),memN l n=l.contains n
 | [],_=>rfl
 |x::r,n=>by
  simp only[memN,d0h r,List.contains_cons];split
  .rename_i h;simp[Nat.eq_of_beq_eq_true h]
  .rename_i h;have:¬n=x:=λe=>by rw[e,Nat.beq_refl]at h;cases h
   simp[this]
def Uc{α:Sort _}:List Nat->List Nat->(List Nat->α)->α
 |a,[],K=>K a
 |a,k::r,K=>LI k λk=>match memN a k with
  |true=>Uc a r K
  |false=>UD (a++[k]) λa=>Uc a r K
theorem b8i{α:Sort _}:∀(l a:List Nat) (K:List Nat->α),Uc a l K=K (WT a l)
 | [],_,_=>rfl
 |k::r,a,K=>by
  simp only[Uc,Xi,b42,WT,d0h];split
  .rename_i h;rw[Ih h];exact b8i r _ K
  .rename_i h;rw[Ii (by rw[h];exact Bool.false_ne_true)];exact b8i r _ K
def c4m{α:Sort _}(own:List Blk):Nat->List Nat->(List Nat->α)->α
 |0,l,K=>K l
 |n+1,l,K=>Uc l (l.flatMap λk=>match own[k]? with|some b=>b.refs|none=>[]) λl=>c4m own n l K
theorem c0b{α:Sort _}{own:List Blk}:∀(n:Nat) (l:List Nat) (K:List Nat->α),c4m own n l K=K (close own n l)
 |0,_,_=>rfl
 |n+1,l,K=>by simp only[c4m,b8i,close,c0b n]
def selF{α:Sort _}(own:List Blk)(xs:List SV)(K:List Nat->α):α:=Uc [] (xs.flatMap SV.refs1) λl=>c4m own 2 l K
theorem f6w{α:Sort _}(own:List Blk)(xs:List SV)(K:List Nat->α):selF own xs K=K (MS own xs):=by simp only[selF,b8i,c0b,MS]
def WA{β:Type _}(own:List Blk)(g:Nat->Option Nat):List Nat->(List Blk->Option β)->Option β
 | [],K=>K []
 |k::r,K=>match own[k]? with
  |some b=>gBlk (b.ren g) λb=>WA own g r λa=>K (b::a)
  |none=>none
theorem c67{β:Type _}{own:List Blk}{g:Nat->Option Nat}:∀(l:List Nat) (K:List Blk->Option β),WA own g l K=(l.mapM λk=>(own[k]?).map (Blk.ren g)).bind K
 | [],K=>by simp[WA]
 |k::r,K=>by
  simp only[WA,f4x];split
  .rename_i b a;rw[c67 r];simp[a,Option.bind_assoc]
  .rename_i a;simp[a]
def WE{β:Type _}(ρ:Operand->Option SV):List Operand->(List SV->Option β)->Option β
 | [],K=>K []
 |x::r,K=>match ρ x with
  |some s=>s.g1 λs=>WE ρ r λa=>K (s::a)
  |none=>none
theorem c5b{β:Type _}{ρ:Operand->Option SV}:∀(l:List Operand) (K:List SV->Option β),WE ρ l K=(l.mapM ρ).bind K
 | [],K=>by simp[WE]
 |x::r,K=>by
  simp only[WE,SV.g1_eq];split
  .rename_i s hs;rw[c5b r];simp[hs,Option.bind_assoc]
  .rename_i hs;simp[hs]
def Vo(E:Env)(own:List Blk)(ρ:Operand->Option SV)(g:Op):Option (Prop×SV×List Blk×List Nat):=
 match g with
 |.call c=>match c.callee with
  |.value f=>match ρ f with
   |some (.clo e a)=>(E.Hc e).bind λh=>(c.args.toList.mapM ρ).bind λd=>
    (((MS own (d++a)).mapM λk=>(own[k]?).map (Blk.ren λk=>BH k (MS own (d++a))))).bind λb=>
      (h ((d++a).map (SV.ren1 λk=>BH k (MS own (d++a)))) b).bind λr=>
        if QP (MS own (d++a))&&decide (b.length<=r.own.length)&&r.chg.all (λj=>QV b[j]?&& !E.ak ((MS own (d++a)).getD j 0))then
         some (r.pre,r.res.ren2 (OA (MS own (d++a)) own.length),Pz (MS own (d++a)) own r (r.chg.map λj=>(MS own (d++a)).getD j 0),r.chg.map λj=>(MS own (d++a)).getD j 0)
        else none
   |_=>none
  |_=>none
 |_=>none
def b7j(E:Env)(own:List Blk)(ρ:Operand->Option SV)(g:Op):Option (Prop×SV×List Blk×List Nat):=
 match g with
 |.call c=>match c.callee with
  |.value f=>match ρ f with
   |some (.clo d b)=>match E.Hc d with
    |some h=>WE ρ c.args.toList λi=>Vc (i++b) λe=>selF own e λsel=>
     WA own (λk=>BH k sel) sel λa=>Vc (e.map (SV.ren1 λk=>BH k sel)) λl=>match h l a with
      |some r=>match QP sel&&decide (a.length<=r.own.length)&&r.chg.all (λj=>QV a[j]?&& !E.ak (sel.getD j 0))with
       |true=>some (r.pre,r.res.ren2 (OA sel own.length),Pz sel own r (r.chg.map λj=>sel.getD j 0),r.chg.map λj=>sel.getD j 0)
       |false=>none
      |none=>none
    |none=>none
   |_=>none
  |_=>none
 |_=>none
theorem b7d(E:Env)(own:List Blk)(ρ:Operand->Option SV)(e:Op):b7j E own ρ e=Vo E own ρ e:=by
 unfold b7j Vo;split
 .rename_i c;split
  .rename_i f;split
   .rename_i b a hf;cases hh:E.Hc b with
    |none=>simp
    |some h=>
     simp only[c5b,f0t,f6w,c67,Kw];congr 1;funext xs;congr 1;funext lown;cases h (List.map (SV.ren1 λk=>BH k (MS own (xs++a))) (xs++a)) lown with
     |none=>simp
     |some r=>
      simp only[Kw];split
      .rename_i d;rw[Ih d]
      .rename_i d;rw[Ii (by rw[d];exact Bool.false_ne_true)]
   .rfl
  .rfl
 .rfl
section
variable{E:Env}{B0:Nat}{X A:Nat->Prop}{w0:World}{nt:Nat}{st:St}{a:Act}{w:World}{μ:Mu}
theorem b0s:∀{l:List Nat},QP l=true->l.Nodup
 | [],_=>Mf
 |x::r,h=>by simp only[QP,Id,Me,Kp]at h;exact Kb.2 ⟨h.1,b0s h.2⟩
theorem c0w(hC:FU E)(h:SD E B0 X A w0 nt st a w μ){o:Oper}{pre:Prop}{s:SV}{own':List Blk}{M:List Nat}(G:Vo E st.own (BZ E st.ρ none) o.op=some (pre,s,own',M))(hp:pre)
 {K:Act->World->Prop} {Q:Exit->Act->World->Prop} (hK:∀v H μ',Own B0 X A H μ' own'->Fr B0 X w H->Keeps' M w H (held A μ) (held A μ') μ μ'->(∀k,own'.length<=k->μ' k=none)->(∀k x,E.an k=some x->μ' k=some x)->D H (held A μ') μ' s v->K (a.put o.dst v) H):o.wp E.P a w K Q:=by
 have hρ:=h.opds (g:=none) (λq b e=>Ds);unfold Vo at G;split at G;rotate_left
 .cases G
 rename_i c cx;split at G;rotate_left
 .cases G
 rename_i f hf;split at G;rotate_left
 .cases G
 rename_i fid N hρf;simp only[Ip]at G;obtain⟨l,S3,xs,jy,I,s8,r,hr,G⟩:=G;generalize hsel:MS st.own (xs++N)=sel at G s8 hr;split at G;rotate_left
 .cases G
 rename_i dp;simp only[I3]at dp;obtain⟨⟨p9,bf⟩,z8⟩:=dp;simp only[Hy]at G;obtain⟨rfl,rfl,rfl,rfl⟩:=G;have mn:=b0s p9;obtain⟨m1,m2⟩:=MY s8;have fi:=hρ _ _ hρf;generalize rj:a.eval f=vf at fi;obtain⟨⟨fn,h1,h2,h3⟩,hS⟩:=hC.2.2 fid l S3;cases fi with
 |clo cvs fh pg=>
 have hD:=c45 (SQ (a:=a) hρ jy) (⟨fh,pg⟩:DL w (held A μ) μ N cvs);have hm:c.args.map a.eval=(c.args.toList.map a.eval).toArray:=En;have bn:(execOp a.eval o).run E.P w=.ok (.enter fid ((c.args.toList.map a.eval)++cvs).toArray) w:=by simp only[execOp,cx,resolve,hf,rj,Deferred.ofValue,hm,Hz,invoke,callFunc,run_program,h1,h2,I4,h3];simp
 let u:Mu:=λj=>(sel[j]?).bind μ
 let Z:Nat->Prop:=λb=>A b\/∃k x,k∉sel/\μ k=some x/\CA x b
 have z:∀{j x},u j=some x->∃k,sel[j]?=some k/\μ k=some x:=λd=>by simpa[u,Ip]using d
 have b9:∀b,held Z u b↔held A μ b:=by
  intro b;constructor
  .rintro((C|⟨k,x,_,l,hx⟩)|⟨j,x,d,hx⟩)
   .exact .inl C
   .exact .inr ⟨k,x,l,hx⟩
   .obtain⟨k,_,l⟩:=z d;exact .inr ⟨k,x,l,hx⟩
  .rintro(C|⟨k,x,l,hx⟩)
   .exact .inl (.inl C)
   .by_cases ti:k∈sel
    .obtain⟨j,d,e⟩:=Jg.1 ti;exact .inr ⟨j,x,by simp[u,Ig d,e,l],hx⟩
    .exact .inl (.inr ⟨k,x,ti,l,hx⟩)
 have jp:∀k j x,BH k sel=some j->μ k=some x->u j=some x:=λk j x d l=>by have:=Ol d;simp[u,this,l]
 have z9:∀b,Z b->b<w.heap.size:=by
  rintro b (C|⟨k,x,_,l,hx⟩)
  .exact h.own.bnd b C
  .exact(h.own.rng k x b l hx).1
 have S4:Own 0 (λ_=>True) Z w u I:=by
  refine⟨λj x d=> ?_,λj j' x x' b d bm hx cw=> ?_,λj x b d hx=> ?_,z9⟩
  .obtain⟨k,l,hx⟩:=z d;obtain⟨bl,e,bc⟩:=h.own.blk k x hx;obtain⟨y,Y,J⟩:=m2 j k l;rw[e]at J;simp only[Ju,J8]at J;subst J;exact⟨_,Y,bc.ren (λb C=>(b9 b).1 C) jp⟩
  .obtain⟨k,l,U⟩:=z d;obtain⟨V,L,tj⟩:=z bm;have:=h.own.inj k V x x' b U tj hx cw;subst this;have e1:=XT mn l;have J:=XT mn L;rw[e1]at J;cases J;rfl
  .obtain⟨k,l,U⟩:=z d;obtain⟨r1,r2,W⟩:=h.own.rng k x b U hx;refine⟨r1,?_,.inl (Ix _)⟩;rintro(C|⟨V,x',ti,L,cw⟩)
   .exact r2 C
   .have:=h.own.inj k V x x' b U L hx cw;subst this;exact ti (Ik l)
 have S5:DL w (held Z u) u ((xs++N).map (SV.ren1 λk=>BH k sel)) ((c.args.toList.map a.eval)++cvs):=by refine⟨by simpa using hD.1,λi s v hs hv=> ?_⟩;simp only[I2]at hs;obtain⟨s0,bu,rfl⟩:=hs;exact b12 (λb C=>(b9 b).1 C) jp (hD.2 i s0 v bu hv)
 have hfreshc:∀j,I.length<=j->u j=none:=λj d=>by have:sel[j]?=none:=Km Dj;simp[u,this]
 have qh:∀g t,E.glob g=some t->t.pure=true/\D w (held Z u) BM t (.pointer (some ⟨g,0,none⟩)):=λg t hg=>
  ⟨(h.glo g t hg).1,FV (λb C=>(b9 b).1 C) (h.glo g t hg).2 (h.glo g t hg).1⟩
 unfold Oper.wp;rw[bn];refine(hS Z w _ _ I u r z9 qh S4 hfreshc S5 hr hp).mono ?_;rintro e H ⟨v,μ',rfl,gm,rk,fu,hsame,O⟩;suffices h5:∃m:Mu,Own B0 X A H m (Pz sel st.own r (r.chg.map λj=>sel.getD j 0))/\Fr B0 X w H/\Keeps' (r.chg.map λj=>sel.getD j 0) w H (held A μ) (held A m) μ m/\(∀k,(Pz sel st.own r (r.chg.map λj=>sel.getD j 0)).length<=k->m k=none)/\(∀k x,E.an k=some x->m k=some x)/\D H (held A m) m (r.res.ren2 (OA sel st.own.length)) v by
  obtain⟨m,q1,q2,q3,q4,q5,q6⟩:=h5;exact hK v H m q1 q2 q3 q4 q5 q6
 refine⟨λk=>match BH k sel with|some j=>μ' j|none=>if st.own.length<=k then μ' (k-st.own.length+sel.length)else μ k,?_⟩;generalize R:(λk=>match BH k sel with|some j=>μ' j|none=>if st.own.length<=k then μ' (k-st.own.length+sel.length)else μ k:Mu)=m;have hsel_lt:∀{k},k∈sel->k<st.own.length:=λl=>by obtain⟨j,d⟩:=K5.1 l;obtain⟨y,_,J⟩:=m2 j _ d;simp only[In]at J;obtain⟨b,C,_⟩:=J;exact(Ij.1 C).1
 have c1:∀{k j},BH k sel=some j->m k=μ' j:=λd=>by rw[<-R];simp[d]
 have c2:∀{k},st.own.length<=k->m k=μ' (k-st.own.length+sel.length):=λ{k} l=>by
  have:BH k sel=none:=by
   cases e:BH k sel with
   |none=>rfl
   |some j=>have:=hsel_lt (Ik (Ol e));omega
  rw[<-R];simp[this,l]
 have c3:∀{k},BH k sel=none->k<st.own.length->m k=μ k:=λ{k} h1 h2=>by rw[<-R];simp[h1,show¬st.own.length<=k from Dj]
 have ke:∀k j x,OA sel st.own.length k=some j->μ' k=some x->m j=some x:=by
  intro k j x d hx;simp only[OA,J8]at d;split at d
  .rename_i b6;have:sel[k]?=some j:=by rw[<-d];simp[Ig b6]
   rw[c1 (XT mn this)];exact hx
  .rename_i qz;rw[c2 Dj,<-d,show st.own.length+(k-sel.length)-st.own.length+sel.length=k from Dj];exact hx
 have bg:∀{k x},m k=some x->(∃j,μ' j=some x/\(BH k sel=some j\/(BH k sel=none/\st.own.length<=k/\j=k-st.own.length+sel.length)))\/(BH k sel=none/\k<st.own.length/\μ k=some x):=by
  intro k x hx;cases B:BH k sel with
  |some j=>exact .inl ⟨j,by rw[<-c1 B];exact hx,.inl rfl⟩
  |none=>
   by_cases l:st.own.length<=k
   .exact .inl ⟨_,by rw[<-c2 l];exact hx,.inr ⟨rfl,l,rfl⟩⟩
   .exact .inr ⟨rfl,Dj,by rw[<-c3 B Dj];exact hx⟩
 have hX:∀{j x b},μ' j=some x->CA x b->b<H.heap.size/\¬Z b/\(w.heap.size<=b\/∃k y,k∈sel/\μ k=some y/\CA y b):=by
  intro j x b d C;obtain⟨r1,r2,W⟩:=gm.rng j x b d C;refine⟨r1,r2,?_⟩;rcases W with W|⟨i,y,B,Y⟩
  .exact .inl W
  .obtain⟨k,l,U⟩:=z B;exact .inr ⟨k,y,Ik l,U,Y⟩
 have hless:∀b,b<w.heap.size->held A m b->held A μ b:=by
  rintro b C (hA|⟨k,x,l,hx⟩)
  .exact .inl hA
  .rcases bg l with⟨j,d,_⟩|⟨_,_,L⟩
   .rcases(hX d hx).2.2 with h'|⟨V,y,_,Y,nr⟩
    .omega
    .exact .inr ⟨V,y,Y,nr⟩
   .exact .inr ⟨k,x,L,hx⟩
 have j8:∀b,held A m b->held Z μ' b:=by
  rintro b (hA|⟨k,x,l,hx⟩)
  .exact .inl (.inl hA)
  .rcases bg l with⟨j,d,_⟩|⟨B,_,L⟩
   .exact .inr ⟨j,x,d,hx⟩
   .exact .inl (.inr ⟨k,x,VX B,L,hx⟩)
 have bv:Keeps' (r.chg.map λj=>sel.getD j 0) w H (held A μ) (held A m) μ m:=by
  refine⟨O.size,λb C hh=>O.block b C (λ⟨j,x,d,hx⟩=> ?_),hless,λk x l hx=> ?_,λk x l hx=> ?_⟩
  .obtain⟨k,_,U⟩:=z d;exact hh (.inr ⟨k,x,U,hx⟩)
  .have b6:k<st.own.length:=by
    rcases Mg k st.own.length with h'|h'
    .exact h'
    .rw[h.fresh k h']at hx;cases hx
   cases B:BH k sel with
   |none=>rw[c3 B b6];exact hx
   |some j=>
    have d:=Ol B;have jh:j<sel.length:=(Ij.1 d).1;have nv:r.chg.contains j=false:=by
     cases hc:r.chg.contains j with
     |false=>rfl
     |true=>
      exfalso;apply l;simp only[J4];refine⟨j,Ed,?_⟩;simp[d]
    rw[c1 B];exact hsame j x Dj nv (by simp[u,d,hx])
  .simp only[J4]at l;obtain⟨j,d,rfl⟩:=l;have w4:=Iq.1 z8 j d;simp only[Jc]at w4;obtain⟨S,_⟩:=w4;obtain⟨bl,e,bc⟩:=h.own.blk _ _ hx;cases S6:sel[j]? with
   |none=>
    have:I[j]?=none:=Km (by have:=List.getElem?_eq_none_iff.1 S6;omega);rw[this]at S;cases S
   |some k0=>
    rw[show sel.getD j 0=k0 by simp[S6]]at e;obtain⟨y,Y,J⟩:=m2 j k0 S6;rw[e]at J;simp only[Ju,J8]at J;subst J;rw[Y]at S;cases bl with
    |row T sz n f c=>
     obtain⟨a',m',e1,_⟩:=bc;exact .inl ⟨_,_,_,e1⟩
    |fam T Ts n bt F=>
     obtain⟨ps,qs,e1,_,_⟩:=bc;exact .inr ⟨ps,qs,e1⟩
    |cells=>simp[QV,Blk.ren]at S
    |map=>simp[QV,Blk.ren]at S
    |pmap K k has BH=>
     simp only[Blk.ren]at S;split at S<;>simp[QV]at S
    |rowh=>simp[QV,Blk.ren]at S
    |pool=>simp[QV,Blk.ren]at S
    |dead=>simp[QV,Blk.ren]at S
 have R8:Fr B0 X w H:=by
  refine⟨O.os,O.tape,O.output,O.drawn,O.size,λi B hx=>O.block i (Jf B h.base) (λ⟨j,x,d,P3⟩=> ?_)⟩;obtain⟨k,_,U⟩:=z d;rcases(h.own.rng k x i U P3).2.2 with h'|h'
  .omega
  .exact hx h'
 refine⟨⟨λk x l=> ?_,λk V x x' b l L hx cw=> ?_,λk x b l hx=> ?_,λb C=>Jf (h.own.bnd b C) O.size⟩,R8,bv,λk l=> ?_,λk x hx=> ?_,YC j8 ke fu⟩
 .rcases bg l with⟨j,d,P4⟩|⟨B,b6,L⟩
  .obtain⟨bl,e,bc⟩:=gm.blk j x d;refine⟨bl.ren (OA sel st.own.length),?_,bc.ren j8 ke⟩;rcases P4 with B|⟨B,qz,rfl⟩
   .have ti:=hsel_lt (Ik (Ol B));unfold Pz;rw[It (by rw[Rx];exact ti),Vw,Ig ti];simp[B,e]
   .unfold Pz;rw[Iz (by rw[Rx];exact qz),Rx,Jb,List.getElem?_drop,Nat.add_comm,e];rfl
  .obtain⟨bl,e,bc⟩:=h.own.blk k x L;refine⟨bl.kill _,?_,bc.change bv (λb C=> ?_)⟩
   .unfold Pz;rw[It (by rw[Rx];exact b6),Vw,e];simp[B]
   .refine O.block b (h.own.rng k x b L C).1 (λ⟨j,y,d,nr⟩=> ?_);obtain⟨k2,dw,hkx2⟩:=z d;have:=h.own.inj k k2 x y b L hkx2 C nr;subst this;exact VX B (Ik dw)
 .rcases bg l with⟨j,d,P4⟩|⟨B,b6,gv⟩<;>rcases bg L with⟨j',bm,hj2'⟩|⟨b8,fe,za⟩
  .have:=gm.inj j j' x x' b d bm hx cw;subst this;rcases P4 with B|⟨B,qz,e⟩<;>rcases hj2' with b8|⟨b8,hge',e'⟩
   .have a1:=Ol B;have a2:=Ol b8;rw[a1]at a2;cases a2;rfl
   .have:=(Ij.1 (Ol B)).1;omega
   .have:=(Ij.1 (Ol b8)).1;omega
   .omega
  .exact((hX d hx).2.1 (.inr ⟨V,x',VX b8,za,cw⟩)).elim
  .exact((hX bm cw).2.1 (.inr ⟨k,x,VX B,gv,hx⟩)).elim
  .exact h.own.inj k V x x' b gv za hx cw
 .rcases bg l with⟨j,d,P4⟩|⟨B,b6,gv⟩
  .obtain⟨r1,r2,W⟩:=hX d hx;refine⟨r1,λhA=>r2 (.inl hA),?_⟩;rcases W with W|⟨V,y,_,Y,nr⟩
   .exact .inl (Ke h.base W)
   .exact(h.own.rng V y b Y nr).2.2
  .obtain⟨r1,r2,W⟩:=h.own.rng k x b gv hx;exact⟨Jf r1 O.size,r2,W⟩
 .have dw:(Pz sel st.own r (r.chg.map λj=>sel.getD j 0)).length=st.own.length+(r.own.length-sel.length):=by
   unfold Pz;simp[Rx]
  rw[dw]at l;rw[c2 Dj];exact rk _ Dj
 .have hx0:=h.anc k x hx;have pe:=Env.an_ak hx;refine bv.own k x (λl=> ?_) hx0;simp only[J4]at l;obtain⟨j,d,rfl⟩:=l;have w4:=Iq.1 z8 j d;simp only[Id]at w4;rw[pe]at w4;cases w4.2
theorem c8p(g:FU E)(h:SD E B0 X A w0 nt st a w μ){o:Oper}{c:Prop}{s:SV}{own':List Blk}{b:List Nat}(i:Vo E st.own (BZ E st.ρ none) o.op=some (c,s,own',b))(j:c)(k:IP nt o.dst=true)
 {K:Act->World->Prop} {Q:Exit->Act->World->Prop} (l:∀e d μ',SD E B0 X A w0 nt ⟨JI o.dst none s (Si b st.ρ),own'⟩ e d μ'->K e d):o.wp E.P a w K Q:=
 c0w g h i j (λ_ d μ' m n f p q r=>l _ d μ' (h.put m n (b1a f h.glo) (h.env.change f) p q k r))
end
end Go.Proofs.YtngppkidkigcbaaGreatDoor.V
