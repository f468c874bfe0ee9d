/-
  Parts of the proof: V1 V2 V3 V4 V5 V6 V7. Conditions: none.
-/
import Derived.WalkKit
import Derived.ChangeKeysEq
set_option maxRecDepth 100000
set_option maxHeartbeats 40000000
namespace Go.Proofs.YtaihldljnlgnoaaGreatDoor.V
open Go
theorem Ix:type_of% @List.getD_eq_getElem?_getD:=@List.getD_eq_getElem?_getD
theorem Iy:type_of% @List.getElem?_eq_getElem:=@List.getElem?_eq_getElem
theorem Iz:type_of% @if_pos:=@if_pos
theorem J3:type_of% @if_neg:=@if_neg
theorem J4:type_of% @List.getElem?_eq_some_iff:=@List.getElem?_eq_some_iff
theorem J5:type_of% @trivial:=@trivial
theorem J6:type_of% @List.mem_of_getElem?:=@List.mem_of_getElem?
theorem J7:type_of% @Option.map_eq_some_iff:=@Option.map_eq_some_iff
theorem J8:type_of% @Option.bind_eq_some_iff:=@Option.bind_eq_some_iff
theorem J9:type_of% @Nat.le_refl:=@Nat.le_refl
theorem Ja:type_of% @List.all_eq_true:=@List.all_eq_true
theorem Jb:type_of% @decide_eq_true_eq:=@decide_eq_true_eq
theorem Jc:type_of% @List.getElem?_append_left:=@List.getElem?_append_left
theorem Jd:type_of% @List.mem_cons:=@List.mem_cons
theorem Je:type_of% @Nat.zero_le:=@Nat.zero_le
theorem Jf:type_of% @decide_eq_true:=@decide_eq_true
theorem Jg:type_of% @List.any_eq_false:=@List.any_eq_false
theorem Jh:type_of% @List.getElem?_set_ne:=@List.getElem?_set_ne
theorem Ji:type_of% @decide_eq_false:=@decide_eq_false
theorem Jj:type_of% @List.any_eq_true:=@List.any_eq_true
theorem Jk:type_of% @Int.toNat_natCast:=@Int.toNat_natCast
theorem Jm:type_of% @List.getElem?_append_right:=@List.getElem?_append_right
theorem Jn:type_of% @List.mem_range:=@List.mem_range
theorem Jp:type_of% @List.mem_map:=@List.mem_map
theorem Jq:type_of% @Nat.not_lt_zero:=@Nat.not_lt_zero
theorem Jr:type_of% @List.getElem?_map:=@List.getElem?_map
theorem Js:type_of% @List.mem_singleton:=@List.mem_singleton
theorem Jt:type_of% @Bool.and_eq_true:=@Bool.and_eq_true
theorem Ju:type_of% @Option.some.injEq:=@Option.some.injEq
theorem Jv:type_of% @List.length_map:=@List.length_map
theorem Jw:type_of% @List.mem_iff_getElem:=@List.mem_iff_getElem
theorem Jx:type_of% @List.length_append:=@List.length_append
theorem Jy:type_of% @List.mem_append:=@List.mem_append
theorem Jz:type_of% @List.mem_cons_of_mem:=@List.mem_cons_of_mem
theorem K0:type_of% @Nat.lt_of_lt_of_le:=@Nat.lt_of_lt_of_le
theorem K1:type_of% @Bool.or_eq_true:=@Bool.or_eq_true
theorem K2:type_of% @List.getElem_mem:=@List.getElem_mem
theorem K3:type_of% @Int.tmod_eq_emod_of_nonneg:=@Int.tmod_eq_emod_of_nonneg
theorem K4:type_of% @List.getElem?_set_self:=@List.getElem?_set_self
theorem K5:type_of% @run_underlying:=@run_underlying
theorem K6:type_of% @Option.some.inj:=@Option.some.inj
theorem K7:type_of% @of_decide_eq_true:=@of_decide_eq_true
theorem K8:type_of% @List.pairwise_iff_getElem:=@List.pairwise_iff_getElem
theorem K9:type_of% @Array.getElem?_eq_some_iff:=@Array.getElem?_eq_some_iff
theorem Ka:type_of% @Nat.mul_le_mul_right:=@Nat.mul_le_mul_right
theorem Kb:type_of% @Option.map_some:=@Option.map_some
theorem Kd:type_of% @List.findIdx?_eq_some_iff_getElem:=@List.findIdx?_eq_some_iff_getElem
theorem Ke:type_of% @if_true:=@if_true
theorem Kf:type_of% @List.mem_filter:=@List.mem_filter
theorem Kg:type_of% @Nat.eq_zero_or_pos:=@Nat.eq_zero_or_pos
theorem Kh:type_of% @List.length_cons:=@List.length_cons
theorem Ki:type_of% @List.pairwise_cons:=@List.pairwise_cons
theorem Kj:type_of% @List.length_set:=@List.length_set
theorem Kk:type_of% @Bool.or_eq_false_iff:=@Bool.or_eq_false_iff
theorem Km:type_of% @List.map_cons:=@List.map_cons
theorem Kn:type_of% @Option.getD_some:=@Option.getD_some
theorem Kp:type_of% @List.eq_nil_of_length_eq_zero:=@List.eq_nil_of_length_eq_zero
theorem Kq:type_of% @Nat.le_trans:=@Nat.le_trans
theorem Kr:type_of% @List.mem_iff_getElem?:=@List.mem_iff_getElem?
theorem Ks:type_of% @Nat.sub_self:=@Nat.sub_self
theorem Kt:type_of% @Sem.run_bind:=@Sem.run_bind
theorem Ku:type_of% @Addr.add_lit:=@Addr.add_lit
theorem Kv:type_of% @Nat.zero_add:=@Nat.zero_add
theorem Kw:type_of% @List.nodup_cons:=@List.nodup_cons
theorem Kx:type_of% @List.take_length:=@List.take_length
theorem Kz:type_of% @Array.getElem?_toList:=@Array.getElem?_toList
theorem L1:type_of% @List.length_singleton:=@List.length_singleton
theorem L2:type_of% @Nat.add_assoc:=@Nat.add_assoc
theorem L3:type_of% @decide_eq_false_iff_not:=@decide_eq_false_iff_not
theorem L4:type_of% @List.pairwise_map:=@List.pairwise_map
theorem L5:type_of% @List.findIdx?_eq_none_iff:=@List.findIdx?_eq_none_iff
theorem L6:type_of% @List.take_of_length_le:=@List.take_of_length_le
theorem L7:type_of% @Bool.eq_iff_iff:=@Bool.eq_iff_iff
theorem L8:type_of% @Array.length_toList:=@Array.length_toList
theorem L9:type_of% @List.getElem?_eq_none:=@List.getElem?_eq_none
theorem La:type_of% @List.getElem?_cons_succ:=@List.getElem?_cons_succ
theorem Lb:type_of% @run_sliceBound:=@run_sliceBound
theorem Lc:type_of% @Int.tdiv_eq_ediv_of_nonneg:=@Int.tdiv_eq_ediv_of_nonneg
theorem Lg:type_of% @Int.emod_lt_of_pos:=@Int.emod_lt_of_pos
theorem Lh:type_of% @getElem!_pos:=@getElem!_pos
theorem Li:type_of% @Int.mul_assoc:=@Int.mul_assoc
theorem Lj:type_of% @Bool.and_eq_false_iff:=@Bool.and_eq_false_iff
theorem Lk:type_of% @List.map_append:=@List.map_append
theorem Ln:type_of% @Int.emod_nonneg:=@Int.emod_nonneg
theorem Lp:type_of% @List.length_eq_zero_iff:=@List.length_eq_zero_iff
theorem Lq:type_of% @Option.bind_some:=@Option.bind_some
theorem Lr:type_of% @beq_iff_eq:=@beq_iff_eq
theorem Ls:type_of% @List.getElem_map:=@List.getElem_map
theorem Lt:type_of% @List.mem_flatMap:=@List.mem_flatMap
theorem Lu:type_of% @Nat.add_zero:=@Nat.add_zero
theorem Lv:type_of% @Array.getElem?_setIfInBounds_ne:=@Array.getElem?_setIfInBounds_ne
theorem Lw:type_of% @List.mapM_cons:=@List.mapM_cons
theorem Lx:type_of% @Nat.add_mul:=@Nat.add_mul
theorem Ly:type_of% @List.ext_getElem?:=@List.ext_getElem?
theorem Lz:type_of% @Nat.lt_trichotomy:=@Nat.lt_trichotomy
theorem M0:type_of% @List.take_add_one:=@List.take_add_one
theorem M1:type_of% @List.foldl_cons:=@List.foldl_cons
theorem M2:type_of% @Array.getElem?_eq_getElem:=@Array.getElem?_eq_getElem
theorem M3:type_of% @List.mem_or_eq_of_mem_set:=@List.mem_or_eq_of_mem_set
theorem M4:type_of% @List.mem_of_find?_eq_some:=@List.mem_of_find?_eq_some
theorem M5:type_of% @List.cons_append:=@List.cons_append
theorem M6:type_of% @of_decide_eq_false:=@of_decide_eq_false
theorem M7:type_of% @Nat.lt_irrefl:=@Nat.lt_irrefl
theorem M8:type_of% @List.append_assoc:=@List.append_assoc
theorem M9:type_of% @Int.toNat_of_nonneg:=@Int.toNat_of_nonneg
theorem Ma:type_of% @List.map_map:=@List.map_map
theorem Mb:type_of% @Bool.or_false:=@Bool.or_false
theorem Mc:type_of% @congrArg:=@congrArg
theorem Md:type_of% @Array.getElem?_modify:=@Array.getElem?_modify
theorem Me:type_of% @List.mem_filterMap:=@List.mem_filterMap
theorem Mf:type_of% @Int.mul_ediv_add_emod:=@Int.mul_ediv_add_emod
theorem Mg:type_of% @Nat.succ_mul:=@Nat.succ_mul
theorem Mh:type_of% @Nat.mul_comm:=@Nat.mul_comm
theorem Mi:type_of% @List.length_nil:=@List.length_nil
theorem Mj:type_of% @List.range_succ:=@List.range_succ
theorem Mk:type_of% @Result.andThen_ok:=@Result.andThen_ok
theorem Mm:type_of% @Bool.and_true:=@Bool.and_true
theorem Mn:type_of% @RowKit.Below.heap_alloc:=@RowKit.Below.heap_alloc
theorem Mp:type_of% @List.getElem?_cons_zero:=@List.getElem?_cons_zero
theorem Mq:type_of% @Array.getElem?_setIfInBounds:=@Array.getElem?_setIfInBounds
theorem Mr:type_of% @heap_alloc_new:=@heap_alloc_new
theorem Ms:type_of% @List.ext_getElem:=@List.ext_getElem
theorem Mt:type_of% @Int.le_refl:=@Int.le_refl
theorem Mw:type_of% @funext:=@funext
theorem Mx:type_of% @Array.getD_eq_getD_getElem?:=@Array.getD_eq_getD_getElem?
theorem My:type_of% @List.mem_cons_self:=@List.mem_cons_self
theorem Mz:type_of% @cond_true:=@cond_true
theorem N0:type_of% @List.filter_append:=@List.filter_append
theorem N1:type_of% @List.nil_append:=@List.nil_append
theorem N2:type_of% @List.any_append:=@List.any_append
theorem N3:type_of% @List.length_filter_le:=@List.length_filter_le
theorem N4:type_of% @Bool.false_or:=@Bool.false_or
theorem N5:type_of% @List.nodup_append:=@List.nodup_append
theorem N6:type_of% @List.contains_eq_mem:=@List.contains_eq_mem
theorem N7:type_of% @List.mem_append_left:=@List.mem_append_left
theorem N8:type_of% @List.nodup_nil:=@List.nodup_nil
theorem N9:type_of% @Nat.lt_or_ge:=@Nat.lt_or_ge
theorem Na:type_of% @List.not_mem_nil:=@List.not_mem_nil
theorem Nb:type_of% @List.length_take:=@List.length_take
theorem Nc:type_of% @List.getElem?_range:=@List.getElem?_range
theorem Nd:type_of% @Nat.lt_or_gt_of_ne:=@Nat.lt_or_gt_of_ne
theorem Nf:type_of% @grownCap_le_maxLen:=@grownCap_le_maxLen
theorem Ng:type_of% @Nat.add_sub_cancel:=@Nat.add_sub_cancel
theorem Nh:type_of% @List.Nodup.sublist:=@List.Nodup.sublist
theorem Ni:type_of% @true_and:=@true_and
theorem Nj:type_of% @size_zeroCells:=@size_zeroCells
theorem Nk:type_of% @Nat.mod_lt:=@Nat.mod_lt
theorem A0{p:Prop}(h:p:=by first|(exfalso;omega)|omega|exact⟨by decide,by decide⟩|exact⟨by omega,by omega⟩|(simp only[AE];omega)|(show _<l.length;omega)|(intro _;show _<l.length;omega)|exact⟨qr _ rfl,h0,by omega,by omega,by omega,by omega⟩|exact⟨qr _ sR.1,h0,by omega,by omega,by omega,by omega,by omega,λs hs=>h5 s (sR.2 s hs)⟩|exact⟨qr _ sQ.1,h0,by omega,by omega,by omega,by omega,by omega,λs hs=>h5 s (sQ.2 s hs)⟩):p:=h
theorem A2{p:Prop}(h:p:=by first|rfl|exact λ_ _=>rfl|exact λ_ _=>J5):p:=h
theorem A3{p:Prop}(h:p:=by first|exact⟨by omega,by omega⟩|(simp only[AE];omega)):p:=h
theorem A4{p:Prop}(h:p:=by exact λ_ _=>.inl rfl):p:=h
theorem A5{p:Prop}(h:p:=by first|(exfalso;omega)|omega|exact⟨by decide,by decide⟩|exact A3|(show _<l.length;omega)|(intro _;show _<l.length;omega)):p:=h
theorem A6{p:Prop}(h:p:=by first|rfl|exact λ_ _=>rfl):p:=h
theorem A7{p:Prop}(h:p:=by simp only[AE];omega):p:=h
theorem A8{p:Prop}(h:p:=by first|exact A5|exact⟨⟨AC.isL_row _,AC.isL_row _⟩,hq _ (by omega),hq _ (by omega)⟩|exact λ_=>⟨⟨AC.isL_row _,AC.isL_row _⟩,hq _ (by omega),hq _ (by omega)⟩):p:=h
theorem A9{p:Prop}(h:p:=by refine⟨by omega,?_⟩;exact MU (by kernel_rfl) (by omega)):p:=h
theorem Aa{p:Prop}(h:p:=by rw[JG vm (by simp[AQ,EK,EL,EN,tb];omega)];simp[AQ,sq,tq,EK,EL,EN,tb];omega):p:=h
theorem Ab{p:Prop}(h:p:=by first|rfl|omega|exact A4|(intro q _;left;exact d4e (by omega) (by omega))):p:=h
theorem Ad{p:Prop}(h:p:=by first|exact A6|exact λ_=>rfl|exact λ_ _=>J5):p:=h
theorem Ae{p:Prop}(h:p:=by exact⟨by omega,by omega⟩):p:=h
theorem Af{p:Prop}(h:p:=by first|omega|exact A7|exact⟨hs,by omega,by omega⟩|exact Ae|(intro _;exact QQ rfl zt)|exact QQ rfl zt|exact QQ rfl T6|(intro _;exact QQ rfl T6)|exact⟨⟨by omega,by omega,by omega,by omega⟩,by omega,by omega,by omega,by omega⟩|exact⟨⟨⟨by omega,by omega⟩,⟨by omega,by omega⟩,by omega,by omega⟩,⟨by omega,by omega⟩,⟨by omega,by omega⟩,by omega,by omega⟩|exact⟨pb,⟨by omega,by omega⟩,⟨by omega,by omega⟩,by omega,by omega⟩):p:=h
theorem Ag{p:Prop}(h:p:=by first|exact A3|(intro _;exact⟨by omega,by omega⟩)|(intro _;simp only[AE];omega)|(intro _;show j<L.length;omega)|(intro _;show j-1<L.length;omega)):p:=h
theorem Ah{p:Prop}(h:p:=by intro j hj;exact absurd hj (Jq _)):p:=h
theorem Ai{p:Prop}(h:p:=by first|exact λ_ _=>rfl|exact λ_ _ _=>⟨rfl,rfl,λ_ _=>rfl⟩):p:=h
theorem Aj{p:Prop}(h:p:=by first|exact A6|exact A4|omega):p:=h
theorem Ak{p:Prop}(h:p:=by first|omega|exact NT K g9|exact A7|exact⟨⟨BT.is_row _,CA.is_row _,AC.is_row _⟩,AC.isL_row _,⟨c9,c8⟩,vu _,.inl rfl⟩|exact⟨⟨BT.is_row _,CA.is_row _,AC.is_row _⟩,AC.isL_row _,⟨c9,c8⟩,vu _,.inr rfl⟩|exact λ_=>⟨CA.isL_row _,c8⟩|exact(show (0:Nat)<2 by decide)|exact(show (1:Nat)<2 by decide)|exact(Iz h).symm|exact crE_1 (dv (J9 1)) h):p:=h
theorem Am{p:Prop}(h:p:=by first|(exfalso;omega)|omega|exact⟨by decide,by decide⟩|exact A3):p:=h
theorem An{p:Prop}(h:p:=by intro _;simp only[AE];omega):p:=h
theorem Ap{p:Prop}(h:p:=by first|omega|exact A7):p:=h
theorem Aq{p:Prop}(h:p:=by first|rfl|omega|exact A4):p:=h
theorem Ar{p:Prop}(h:p:=by first|exact A2|omega):p:=h
theorem As{p:Prop}(h:p:=by first|exact⟨rfl,by omega,by omega,by omega,by omega⟩|omega):p:=h
theorem At{p:Prop}(h:p:=by refine⟨by omega,by omega,?_,by omega⟩;exact Qz (by kernel_rfl) (by omega) (by omega)):p:=h
theorem Au{p:Prop}(h:p:=by exact⟨by omega,by omega,by omega,by omega⟩):p:=h
theorem Av{p:Prop}(h:p:=by first|omega|exact hu|exact dp|(intro i hi;rw[J3 (Jq i)];exact dp (i-0) (by omega))|(intro i hi;omega)|exact A9):p:=h
theorem Aw{p:Prop}(h:p:=by first|omega|exact A3):p:=h
theorem Ax{p:Prop}(h:p:=by first|exact Am|exact⟨qr _ k1.1,h0,by omega,by omega,by omega,by omega,by omega,λs hs=>h5 s (k1.2 s hs)⟩):p:=h
theorem Ay{p:Prop}(h:p:=by first|exact A6|omega):p:=h
theorem Az{p:Prop}(h:p:=by first|(exfalso;omega)|exact Aw|exact⟨qr,h0,by omega,by omega,by omega,by omega,by omega⟩):p:=h
theorem B1{p:Prop}(h:p:=by first|omega|(exfalso;omega)|exact A3|(intro _;exact⟨by omega,by omega⟩)|exact An|(intro _;show j<l.length;omega)|(intro _;show j-1<l.length;omega)):p:=h
theorem B2{p:Prop}(h:p:=by first|exact Aw|(simp only[AE,d5b];simp;omega)|(simp only[d5b];simp;omega)):p:=h
theorem B3{p:Prop}(h:p:=by first|exact A6|exact A4|exact λ_ _=>J5):p:=h
theorem B4{p:Prop}(h:p:=by first|exact⟨⟨⟨⟨FF _,c9.1.1⟩,c9.1.2⟩,c9.2⟩,NT L c8.1,c8.2⟩|exact⟨⟨⟨FF _,c9.1.1⟩,c9.1.2⟩,c9.2⟩):p:=h
theorem B5{p:Prop}(h:p:=by first|rfl|exact A4):p:=h
theorem B6{p:Prop}(h:p:=by first|rfl|exact λi hi=>absurd hi (Jq _)):p:=h
theorem B7{p:Prop}(h:p:=by dsimp only;omega):p:=h
theorem B8{p:Prop}(h:p:=by exact λ_ _=>rfl):p:=h
theorem B9{p:Prop}(h:p:=by exact λ_=>⟨by omega,by omega⟩):p:=h
theorem Ba{p:Prop}(h:p:=by first|exact Jk _|exact Mc some (Jk _)):p:=h
theorem Bb{p:Prop}(h:p:=by first|exact⟨⟨⟨FF _,hp.1.1⟩,hp.1.2⟩,hp.2⟩|exact A2):p:=h
theorem Bc{p:Prop}(h:p:=by exact λ_ _=>UM _):p:=h
theorem Be{p:Prop}(h:p:=by first|omega|exact Ae):p:=h
theorem Bf{p:Prop}(h:p:=by first|rfl|omega|(show (j:Int)-1=((j-1:Nat):Int);omega)):p:=h
theorem Bg{p:Prop}(h:p:=by first|exact f4g|exact f33 hk|exact at_len|exact at_row|exact at_mem|(rw[e1];exact λ_=>f9b hk)):p:=h
theorem Bh{p:Prop}(h:p:=by first|exact Am|exact⟨qr _ k1.1,h0,by omega,by omega,by omega,by omega,λs hs=>h5 s (k1.2 s hs)⟩):p:=h
theorem Bi{p:Prop}(h:p:=by first|exact hu|(intro i hi;omega)|exact A9):p:=h
theorem Bj{p:Prop}(h:p:=by exact⟨by kernel_rfl,by omega,by omega,by omega⟩):p:=h
theorem Bk{p:Prop}(h:p:=by first|exact(b5 (by rw[e2,e];assumption)).1|exact(b5 (by rw[e2,e];assumption)).2|(rw[e2,e];rfl)):p:=h
theorem Bm{p:Prop}(h:p:=by first|(exfalso;omega)|contradiction|exact Aw|exact⟨hp.2.1,hp.2.2.1,hQ⟩|exact hp.1.2 _ (hm b6)):p:=h
theorem Bn{p:Prop}(h:p:=by intro q _;left;exact d4e (by omega) (by omega)):p:=h
theorem Bp{p:Prop}(h:p:=by exact λ_=>rfl):p:=h
theorem Bq{p:Prop}(h:p:=by exact(d77 λj hj=>br j (by omega)).symm):p:=h
theorem Bs{p:Prop}(h:p:=by exact λ_=>⟨⟨AC.isL_row _,AC.isL_row _⟩,hq _ (by omega),hq _ (by omega)⟩):p:=h
theorem Bt{p:Prop}(h:p:=by first|exact(h1 (by rw[e];assumption)).1|exact(h1 (by rw[e];assumption)).2|exact e.symm):p:=h
theorem Bu{p:Prop}(h:p:=by first|omega|exact A4|rfl):p:=h
theorem Bv{p:Prop}(h:p:=by first|exact Ar|exact((WP s K true 0 (by decide) hs).trans (Bool.or_true _)).symm):p:=h
theorem Bw{p:Prop}(h:p:=by first|exact Ar|exact((WP s K true 1 (by decide) hs).trans (Bool.or_true _)).symm):p:=h
theorem Bx{p:Prop}(h:p:=by exact⟨⟨by omega,by omega⟩,⟨by omega,by omega⟩,by omega,by omega⟩):p:=h
theorem By{p:Prop}(h:p:=by exfalso;omega):p:=h
theorem Bz{p:Prop}(h:p:=by intro i;show 2<=_;decide):p:=h
theorem C0{p:Prop}(h:p:=by intro i;show 1<=_;decide):p:=h
theorem C1{p:Prop}(h:p:=by intro i;show 3<=_;decide):p:=h
theorem C2{p:Prop}(h:p:=by exact J9 _):p:=h
theorem C3{p:Prop}(h:p:=by exact⟨(n,f),⟨Hl (d3n _),J5⟩,hp,rfl⟩):p:=h
theorem C4{p:Prop}(h:p:=by exact⟨u,by simp[execOp,h1],h2⟩):p:=h
theorem C5{p:Prop}(h:p:=by intro i;show 1<=1;decide):p:=h
theorem C6{p:Prop}(h:p:=by exact⟨(0,λ_=>[]),⟨Hl (c8y _),J5⟩,Je _,rfl⟩):p:=h
theorem C7{p:Prop}(h:p:=by exact h.fresh j (by omega)):p:=h
theorem C9{p:Prop}(h:p:=by exact absurd hx (nohas b)):p:=h
theorem Ca{p:Prop}(h:p:=by exact⟨_,_,rfl⟩):p:=h
theorem Cb{p:Prop}(h:p:=by rw[Iz ⟨rfl,rfl⟩];trivial):p:=h
theorem Cc{p:Prop}(h:p:=by exact .clo vs hl (λi s v h=>by simp at h)):p:=h
theorem Cd{p:Prop}(h:p:=by intro i;show 0<=1;decide):p:=h
theorem Ce{p:Prop}(h:p:=by exact⟨rfl,rfl,rfl⟩):p:=h
theorem Cf{p:Prop}(h:p:=by intro i;show 5<=_;decide):p:=h
theorem Cg{p:Prop}(h:p:=by unfold DV;rw[if_pos];simp only;omega):p:=h
theorem Ch{p:Prop}(h:p:=by exact .inl (two 1 (by rw[h];decide))):p:=h
theorem Ci{p:Prop}(h:p:=by exact .inr (two 2 (by rw[h];decide))):p:=h
theorem Cj{p:Prop}(h:p:=by obtain⟨_,_,_,_,_,rfl⟩:=h;rfl):p:=h
theorem Ck{p:Prop}(h:p:=by rw[Ku,SX hh];exact gp):p:=h
theorem Cm{p:Prop}(h:p:=by exact λhp=>.clo vs hl (λi s v hs hv=>ih i s v hs hv (f1q (Ja.1 hp s (J6 hs))))):p:=h
theorem Cn{p:Prop}(h:p:=by exact⟨o2.size,o2.block,o2.less,o2.own⟩):p:=h
theorem Cp{p:Prop}(h:p:=by exact .sl _ 0 0 0 (λ_ _=>undef) hn hm hc (λh=>absurd h (by omega)) hl (λi j s hi=>absurd hi (by omega))):p:=h
theorem Cq{p:Prop}(h:p:=by exact⟨J5,h1 _ (K2 this)⟩):p:=h
theorem Ct{p:Prop}(h:p:=by exact⟨j,hj,dn,(DH bj).2 (.inr hL)⟩):p:=h
theorem Cu{p:Prop}(h:p:=by exact(DH bj).2 (.inr (h.closed j o' l hj hL hw))):p:=h
theorem Cv{p:Prop}(h:p:=by rename_i hu;simp only[Ij]at h;exact⟨_,hu,λ_=>h.1⟩):p:=h
theorem Cw{p:Prop}(h:p:=by rename_i hu;simp only[Ij]at h;exact flat _ hu rfl trivial (by omega)):p:=h
theorem Cx{p:Prop}(h:p:=by exact ih (λy hy=>h y (by simp[hy])) hk):p:=h
theorem Cy{p:Prop}(h:p:=by exact⟨p,⟨(QX hx hp.1).1,J5⟩,⟨(QX hx hp.1).2,hp.2⟩,rfl⟩):p:=h
theorem Cz{p:Prop}(h:p:=by exact .inr ⟨b,o,vs,c7,rfl,hh,ho,h1,λi j s v hi=>absurd hi (by omega)⟩):p:=h
theorem D2{p:Prop}(h:p:=by exact⟨(0,λ_=>[]),⟨Hl (c8y _),J5⟩,⟨Je _,λi hi=>absurd hi (Jq _)⟩,rfl⟩):p:=h
theorem D3{p:Prop}(h:p:=by exact⟨_,w,_,b04 ht hi zu,.osl (by simp[Mu.set]),.inl ⟨rfl,⟨o1,Fr.refl _ _ _,o2⟩,λj hj=>by simp[Mu.set,hj]⟩⟩):p:=h
theorem D4{p:Prop}(h:p:=by exact⟨_,_,_,hr,.osl (by simp[Mu.set]),.inr ⟨rfl,ha,λj hj=>by simp[Mu.set,hj]⟩⟩):p:=h
theorem D5{p:Prop}(h:p:=by exact⟨p,e1,e2,by simp[KA,e3],by simp only[this,if_false];exact e4⟩):p:=h
theorem D6{p:Prop}(h:p:=by exact λ_=>.mp r g (λhh=>hb (hH _ hh)) hm hl (λq i s v hq hs hv=>ih q i s v hq hs hv (Ja.1 (hl q hq).2 s (J6 hs)))):p:=h
theorem D7{p:Prop}(h:p:=by exact λ_=>.rel b o g hi (λhh=>hb (hH _ hh)) b7 hl (λi j s hi hs=>ih i j s hi hs (Ja.1 (hl i hi).2 s (J6 hs)))):p:=h
theorem D8{p:Prop}(h:p:=by exact hK _ w' μ ⟨ha.own,h.fr.trans ha.fr,Kq h.base ha.fr.size,NH ha.keeps h.glo,h.dfr,h.size,h.env.keep ha.keeps,λk hk=>h.fresh k (by rw[<-bc];exact hk),h.anc⟩):p:=h
theorem D9{p:Prop}(h:p:=by exact⟨ps,qs,rfl,h.keep (ps:=ps) ⟨J9 _,λ_ _ _=>rfl,λb _=>hH b⟩ (λ_ _=>rfl)⟩):p:=h
theorem Da{p:Prop}(h:p:=by subst e1;rw[m1]at hy;exact .inl ⟨rfl,(K6 hy).symm⟩):p:=h
theorem Db{p:Prop}(h:p:=by exact .sl a b o m g hm hx (XI hc ge) (λh=>absurd h (M7 _)) (λi hi=>absurd hi (Jq _)) (λi j s hi=>absurd hi (Jq _))):p:=h
theorem Dc{p:Prop}(h:p:=by exact .sl none 0 0 0 (λ_ _=>undef) (J9 _) (by simp[maxLen]) (XI hc (.inr rfl)) (λh=>absurd h (M7 _)) (λi hi=>absurd hi (Jq _)) (λi j s hi=>absurd hi (Jq _))):p:=h
theorem Dd{p:Prop}(h:p:=by exact .mp r g hb hm (λq hq=>by rw[<-h2 q hq];exact hl q hq) (λq i s v hq hs hv=>hd q i s v hq (by rw[h2 q hq];exact hs) hv)):p:=h
theorem De{p:Prop}(h:p:=by exact hK undef w μ (calls (Fr.refl _ _ _)) (λ_ _=>rfl) (no s λhb=>dq (hw.2 hb))):p:=h
theorem Df{p:Prop}(h:p:=by exact⟨e₂,a₂,w₂,hq₂,.of_steps (Steps.trans fh (.one step_inLoop)) harr₂⟩):p:=h
theorem Dg{p:Prop}(h:p:=by exact GS (λb hb=>by rcases hb with hb|⟨k,x,hk,_⟩;exact hb;cases hk) (hg g s sh).2 (hg g s sh).1):p:=h
theorem Dh{p:Prop}(h:p:=by exact this.keep ⟨J9 _,λ_ _ _=>rfl,λb _ hb=>(by rcases hb with hb|⟨k,x,hk,_⟩;exact hb;cases hk),λ_ _ h=>(by cases h)⟩):p:=h
theorem Di{p:Prop}(h:p:=by exact⟨(p,i,e),⟨(QX hx hp.1).1,by simp[SV.le2,SV.le1,SV.le0],by simp[SV.le2,SV.le1,SV.le0],J5⟩,⟨(QX hx hp.1).2,hp.2⟩,rfl⟩):p:=h
theorem Dj{p:Prop}(h:p:=by exact c3e (λt ht=>f0i hk T7 ht) (λv hv=>h1 v (by simpa using hv)) (Array.mem_toList_iff.1 hv)):p:=h
theorem Dk{p:Prop}(h:p:=by exact⟨by simp[SV.le0],by simp[SV.le0],Sa h1 q1.1,AH.as_le h2 q2,DE.as_le h3 q3,by simp[SV.le0],by simp[SV.le0],by simp[SV.le0],J5⟩):p:=h
theorem Dm{p:Prop}(h:p:=by exact⟨e,λhk=>by simp[Co,e,hk,Oj,OY,f6],λhk=>by simp[Co,e,hk]⟩):p:=h
theorem Dn{p:Prop}(h:p:=by exact⟨(AC.lst n f,(im,cp),c,z),⟨Hl (AC.as_leL hx hp.2.1.1),⟨rfl,rfl⟩,J5⟩,⟨by simp only[RT.lst_length];exact hp.2.1.2,hp.2.2⟩,rfl⟩):p:=h
theorem Dp{p:Prop}(h:p:=by exact⟨(p,r,L),⟨a1.1,a1.2.1,b1,J5⟩,⟨a2,b2,hp.2.2⟩,rfl⟩):p:=h
theorem Dq{p:Prop}(h:p:=by exact⟨⟨⟨FF _,c9.1.1⟩,c9.1.2,c9.2⟩,NT L c8.1,c8.2⟩):p:=h
theorem Dr{p:Prop}(h:p:=by exact zw (f87 Jl (hq a (Kf.1 ha).1) (hq b (Kf.1 hb).1) e)):p:=h
theorem Ds{p:Prop}(h:p:=by exact⟨L,⟨h1,by simp[SV.le2,SV.le1,SV.le0],J5⟩,h2,rfl⟩):p:=h
theorem Dt{p:Prop}(h:p:=by rw[<-i4,show L.length-i=(L.length-(i+1))+1 by omega];rfl):p:=h
theorem Du{p:Prop}(h:p:=by exact(UZ (IA hs hE.1.1 hE.1.2).2.2.1 hE.2.1 ry.2.1 c2).symm):p:=h
theorem Dv{p:Prop}(h:p:=by omega):p:=h
theorem Dw{p:Prop}(h:p:=by kernel_rfl):p:=h
theorem Dx{p:Prop}(h:p:=by simp):p:=h
theorem Dy{p:Prop}(h:p:=by decide):p:=h
theorem Dz{p:Prop}(h:p:=by assumption):p:=h
theorem E1{p:Prop}(h:p:=by simp[SV.le0]):p:=h
theorem E2{p:Prop}(h:p:=by simpa using h):p:=h
theorem E3{p:Prop}(h:p:=by cases e):p:=h
theorem E4{p:Prop}(h:p:=by simp[SV.le2,SV.le1,SV.le0]):p:=h
theorem E5{p:Prop}(h:p:=by simp;omega):p:=h
theorem E6{p:Prop}(h:p:=by simp at h):p:=h
theorem E7{p:Prop}(h:p:=by show _-(i+1)<_-i;omega):p:=h
theorem E8{p:Prop}(h:p:=by cases h):p:=h
theorem E9{p:Prop}(h:p:=by simpa using hl):p:=h
theorem Ea{p:Prop}(h:p:=by show i+1<=_;omega):p:=h
theorem Eb{p:Prop}(h:p:=by simp[SV.le2,SV.le1,BH,SV.le0]):p:=h
theorem Ec{p:Prop}(h:p:=by show f<f+1;omega):p:=h
theorem Ed{p:Prop}(h:p:=by simp[Mu.set]):p:=h
theorem Ee{p:Prop}(h:p:=by show 3-(k+1)<3-k;omega):p:=h
theorem Ef{p:Prop}(h:p:=by simp[hx]):p:=h
theorem Eg{p:Prop}(h:p:=by simpa[SV.cells]using hc.symm):p:=h
theorem Eh{p:Prop}(h:p:=by rw[Iz ⟨rfl,rfl⟩];trivial):p:=h
theorem Ei{p:Prop}(h:p:=by simp[SV.le2,SV.le1,SV.le0];omega):p:=h
theorem Ej{p:Prop}(h:p:=by show k+1<=3;omega):p:=h
theorem Ek{p:Prop}(h:p:=by simp[Mu.set,hj]):p:=h
theorem Em{p:Prop}(h:p:=by simpa using hj):p:=h
theorem En{p:Prop}(h:p:=by simp[h1]):p:=h
theorem Ep{p:Prop}(h:p:=by simpa using hc):p:=h
theorem Er{p:Prop}(h:p:=by simpa using hi):p:=h
theorem Es{p:Prop}(h:p:=by simpa using h1):p:=h
theorem Et{p:Prop}(h:p:=by rw[Iz rfl];trivial):p:=h
theorem Eu{p:Prop}(h:p:=by show _-(k+1)<_-k;omega):p:=h
theorem Ev{p:Prop}(h:p:=by simp[Region.wanted,kq]):p:=h
theorem Ew{p:Prop}(h:p:=by rw[hs.1];omega):p:=h
theorem Ex{p:Prop}(h:p:=by rw[Nb];omega):p:=h
theorem Ey{p:Prop}(h:p:=by rw[sR.1];omega):p:=h
theorem Ez{p:Prop}(h:p:=by simpa[Mu.set]using hj.symm):p:=h
theorem F0{p:Prop}(h:p:=by simp only[maxLen];omega):p:=h
theorem F4{p:Prop}(h:p:=by apply Array.ext';simp):p:=h
theorem F5{p:Prop}(h:p:=by simpa[SV.ro1]using hr.symm):p:=h
theorem F6{p:Prop}(h:p:=by rw[h.kl];exact j7):p:=h
theorem F7{p:Prop}(h:p:=by simpa[Mu.set,e]using hj):p:=h
theorem F8{p:Prop}(h:p:=by simp[maxLen]):p:=h
theorem F9{p:Prop}(h:p:=by simpa using ht):p:=h
theorem Fa{p:Prop}(h:p:=by simpa using tk):p:=h
theorem Fb{p:Prop}(h:p:=by simp[hy]):p:=h
theorem Fc{p:Prop}(h:p:=by simpa using e):p:=h
theorem Fd{p:Prop}(h:p:=by rw[jy];omega):p:=h
theorem Fe{p:Prop}(h:p:=by simpa using h4):p:=h
theorem Ff{p:Prop}(h:p:=by simp only[AE];omega):p:=h
theorem Fg{p:Prop}(h:p:=by simp only[fB,VL r]):p:=h
theorem Fh{p:Prop}(h:p:=by rw[bn];exact(K9.1 ho).1):p:=h
theorem Fi{p:Prop}(h:p:=by simp[BC]at h):p:=h
theorem Fj{p:Prop}(h:p:=by simp[AQ,EK,EL,EN,tb];omega):p:=h
theorem Fk{p:Prop}(h:p:=by simp[FQ]):p:=h
theorem Fm{p:Prop}(h:p:=by simp[Ou]):p:=h
theorem Fn{p:Prop}(h:p:=by rw[<-(jz i b8).1];exact(J4.1 hs).1):p:=h
theorem Fp{p:Prop}(h:p:=by simpa using hs):p:=h
theorem Fq{p:Prop}(h:p:=by rw[Wd];exact J9 _):p:=h
theorem Fs{p:Prop}(h:p:=by simpa[SV.in0]using hi):p:=h
theorem Ft{p:Prop}(h:p:=by simpa using bm):p:=h
theorem Fu{p:Prop}(h:p:=by show (i+j)/2+1<=j;omega):p:=h
theorem Fv{p:Prop}(h:p:=by show i<=(i+j)/2;omega):p:=h
theorem Fw{p:Prop}(h:p:=by simpa[j8]using hi):p:=h
theorem Fx{p:Prop}(h:p:=by unfold vC;omega):p:=h
theorem Fy{p:Prop}(h:p:=by rw[h.ol];exact j7):p:=h
theorem Fz{p:Prop}(h:p:=by simpa using hv):p:=h
theorem G1{p:Prop}(h:p:=by simp[Program.elem,hT]):p:=h
theorem G2{p:Prop}(h:p:=by simp[HR]at h):p:=h
theorem G3{p:Prop}(h:p:=by simpa using hq):p:=h
theorem G4{p:Prop}(h:p:=by rw[jv.1,pd];omega):p:=h
theorem G5{p:Prop}(h:p:=by rw[<-(hl i hi).1];exact(J4.1 hs).1):p:=h
theorem G6{p:Prop}(h:p:=by simpa using j7):p:=h
theorem G7{p:Prop}(h:p:=by rw[<-(dp i b8).1];exact(J4.1 hs).1):p:=h
theorem G8{p:Prop}(h:p:=by rw[j7];omega):p:=h
theorem G9{p:Prop}(h:p:=by rw[<-l1];exact(J4.1 hs).1):p:=h
theorem Ga{p:Prop}(h:p:=by subst e;simp[EJ]at hj):p:=h
theorem Gb{p:Prop}(h:p:=by rw[<-hf i hi];exact hl i hi):p:=h
theorem Gc{p:Prop}(h:p:=by rw[hf i hi];exact hs):p:=h
theorem Gd{p:Prop}(h:p:=by simp[execOp,cy]):p:=h
theorem Ge{p:Prop}(h:p:=by simpa[JN]using ff):p:=h
theorem Gf{p:Prop}(h:p:=by simpa using h3):p:=h
theorem Gg{p:Prop}(h:p:=by show 3-(e+1)<3-e;omega):p:=h
theorem Gh{p:Prop}(h:p:=by simp[ID,SV.le2,SV.le1,BH,SV.le0]):p:=h
theorem Gi{p:Prop}(h:p:=by unfold EY;rw[if_pos];omega):p:=h
theorem Gj{p:Prop}(h:p:=by simp[AQ,EK,EL,EN,tb]):p:=h
theorem Gk{p:Prop}(h:p:=by rw[n2];omega):p:=h
theorem Gm{p:Prop}(h:p:=by show j-((i+j)/2+1)<=f;omega):p:=h
theorem Gn{p:Prop}(h:p:=by show (i+j)/2-i<=f;omega):p:=h
theorem Gp{p:Prop}(h:p:=by cases c<;>trivial):p:=h
theorem Gq{p:Prop}(h:p:=by show a+1<=_;omega):p:=h
theorem Gr{p:Prop}(h:p:=by show L.length-(i+1)<L.length-i;omega):p:=h
theorem Gs{p:Prop}(h:p:=by rw[b27];exact J9 _):p:=h
theorem Gt{p:Prop}(h:p:=by rw[kr,zx];exact hT):p:=h
theorem Gu{p:Prop}(h:p:=by rw[Oa];exact ho):p:=h
theorem Gv{p:Prop}(h:p:=by rw[<-h.pl];exact(J4.1 e1).1):p:=h
theorem Gw{p:Prop}(h:p:=by rw[<-l1];exact(J4.1 ht).1):p:=h
theorem Gx{p:Prop}(h:p:=by simpa[KA,ep]using hp):p:=h
theorem Gy{p:Prop}(h:p:=by subst e;rw[Env.an_ak hx]at qf;cases qf):p:=h
theorem Gz{p:Prop}(h:p:=by subst e;rw[Env.an_ak hx]at gq;cases gq):p:=h
theorem H0{p:Prop}(h:p:=by rw[K4 bj]):p:=h
theorem H1{p:Prop}(h:p:=by rw[Jh e];exact g2):p:=h
theorem H2{p:Prop}(h:p:=by simp[Region.wanted,(c1f hf).2]):p:=h
theorem H3{p:Prop}(h:p:=by rw[hD.1,l1];exact bc i):p:=h
theorem H4{p:Prop}(h:p:=by rw[hD.1,l1];exact b6):p:=h
theorem H5{p:Prop}(h:p:=by simp only[RT.lst_length];exact hq.2.1):p:=h
theorem H6{p:Prop}(h:p:=by have:=Jn.1 hj;omega):p:=h
theorem H7{p:Prop}(h:p:=by rw[hr,b8m e3,h1];rfl):p:=h
theorem H8{p:Prop}(h:p:=by rw[Ix,Iy h,Kn];exact K2 h):p:=h
theorem H9{p:Prop}(h:p:=by rw[<-hL];exact(J4.1 hs).1):p:=h
theorem Ha{p:Prop}(h:p:=by simp only[Sh];exact q1.2):p:=h
theorem Hb{p:Prop}(h:p:=by simpa using b11):p:=h
theorem Hd{p:Prop}(h:p:=by simp[Ix,hj]):p:=h
theorem He{p:Prop}(h:p:=by show _-(q+1)<_-q;omega):p:=h
theorem Hf{p:Prop}(h:p:=by show (GZ _ _).length<=_;rw[Rf];omega):p:=h
theorem Hg{p:Prop}(h:p:=by simpa[VF]using hj):p:=h
theorem Hh{p:Prop}(h:p:=by have:=hi.1;have:=hi.2;omega):p:=h
theorem Hi{p:Prop}(h:p:=by show (i+j)/2<=m;omega):p:=h
theorem Hj{p:Prop}(h:p:=by show a<=(i+j)/2+1;omega):p:=h
theorem Hk{p:Prop}(h:p:=by unfold FG;rw[List.length_mapIdx]):p:=h
theorem Hm{p:Prop}(h:p:=by unfold DC;exact⟨rfl,λh=>h,λq s h=>⟨s,h,λh=>h⟩⟩):p:=h
theorem Hn{p:Prop}(h:p:=by rw[<-Mg];exact Ka _ b6):p:=h
theorem Hp{p:Prop}(h:p:=by rw[<-Mg];exact Ka _ si):p:=h
theorem Hq{p:Prop}(h:p:=by have:=List.isEmpty_iff.1 hc;subst this;rfl):p:=h
theorem Hr{p:Prop}(h:p:=by simp only[Jj];exact⟨_,K2 b6,h⟩):p:=h
theorem Hs{p:Prop}(h:p:=by subst e;rw[hμk]at hx;exact T8 _ _ (K6 hx).symm):p:=h
theorem Ht{p:Prop}(h:p:=by rw[K4 (J4.1 hk).1]):p:=h
theorem Hv{p:Prop}(h:p:=by rw[Lw,Kt,hv,Mk,Kt,z8,Mk,Sem.run_pure]):p:=h
theorem Hw{p:Prop}(h:p:=by have:=Env.ak_lt (Env.an_ak hx);rw[T9]at this;omega):p:=h
theorem Hx{p:Prop}(h:p:=by simp[RT.row,RT.lst,Ix,hi]):p:=h
theorem Hy{p:Prop}(h:p:=by simpa using ‹(!decide (AX p.W p.H i e=0))=false›):p:=h
theorem Hz{p:Prop}(h:p:=by simpa using ‹(!decide (AX b.p.W b.p.H u e=0))=false›):p:=h
theorem I0{p:Prop}(h:p:=by simpa[Go.Sort.putRow,mapBlock,Sort.ahead]using hi):p:=h
theorem I1{p:Prop}(h:p:=by cases a;cases b;simp at*;exact⟨h1,h2,h3⟩):p:=h
theorem I2{p:Prop}(h:p:=by simpa using ‹(!decide (AV W H=0))=false›):p:=h
theorem I3{p:Prop}(h:p:=by rw[S.P.pl];have:=g1.1;unfold AU at this;omega):p:=h
theorem I4{p:Prop}(h:p:=by show (kb.set (BK p.W p.H a k).toNat true).count false<=kn.count false;omega):p:=h
theorem I5{p:Prop}(h:p:=by show (kb.set (BK p.W p.H a k).toNat true).count false<kn.count false;omega):p:=h
theorem I6{p:Prop}(h:p:=by rw[<-Mg];exact Ka _ Dv):p:=h
theorem I7{p:Prop}(h:p:=by rw[show IU W H a b 0=false from h 0 Dy];decide):p:=h
theorem I8{p:Prop}(h:p:=by rw[Jm (by rw[cu.pl];exact J9 _),cu.pl,Ks];rfl):p:=h
theorem I9{p:Prop}(h:p:=by rw[show IU W H a b 1=false from h 1 Dy];decide):p:=h
theorem Ia:type_of% @Int.toNat_natCast/\type_of% @decide_eq_false_iff_not/\type_of% @decide_eq_true_eq:=⟨@Int.toNat_natCast,@decide_eq_false_iff_not,@decide_eq_true_eq⟩
theorem Ib:type_of% @Bool.not_eq_false'/\type_of% @Bool.not_eq_true':=⟨@Bool.not_eq_false',@Bool.not_eq_true'⟩
theorem Ic:type_of% @Option.map_eq_some_iff.{0,0}/\type_of% @Prod.mk.injEq.{0,0}:=⟨@Option.map_eq_some_iff,@Prod.mk.injEq⟩
theorem Id:type_of% @Option.some.injEq.{0}/\type_of% @Prod.mk.injEq.{0,0}:=⟨@Option.some.injEq,@Prod.mk.injEq⟩
theorem Ie:type_of% @Result.andThen_ok/\type_of% @Sem.run_bind/\type_of% @Sem.run_pure:=⟨@Result.andThen_ok,@Sem.run_bind,@Sem.run_pure⟩
theorem If:type_of% @Bool.and_eq_false_iff/\type_of% @Bool.and_eq_true:=⟨@Bool.and_eq_false_iff,@Bool.and_eq_true⟩
theorem Ig:type_of% @decide_eq_false_iff_not/\type_of% @decide_eq_true_eq:=⟨@decide_eq_false_iff_not,@decide_eq_true_eq⟩
theorem Ih:type_of% @List.getElem?_map.{0,0}/\type_of% @Option.map_eq_some_iff.{0,0}:=⟨@List.getElem?_map,@Option.map_eq_some_iff⟩
theorem Ii:type_of% @Bool.or_eq_false_iff/\type_of% @Bool.or_eq_true:=⟨@Bool.or_eq_false_iff,@Bool.or_eq_true⟩
theorem Ij:type_of% @Bool.and_eq_true/\type_of% @decide_eq_true_eq:=⟨@Bool.and_eq_true,@decide_eq_true_eq⟩
theorem Ik:type_of% @Bool.false_eq_true/\type_of% @if_false.{1}:=⟨@Bool.false_eq_true,@if_false⟩
theorem Im:type_of% @Option.bind_eq_bind.{0}/\type_of% @Option.bind_eq_some_iff.{0,0}:=⟨@Option.bind_eq_bind,@Option.bind_eq_some_iff⟩
theorem In:type_of% @List.getD_eq_getElem?_getD.{0}/\type_of% @Option.getD_some.{0}:=⟨@List.getD_eq_getElem?_getD,@Option.getD_some⟩
theorem Ip:type_of% @List.length_append.{0}/\type_of% @List.length_cons.{0}/\type_of% @List.length_nil.{0}:=⟨@List.length_append,@List.length_cons,@List.length_nil⟩
theorem Iq:type_of% @Option.getD_some.{0}/\type_of% @Option.map_some.{0,0}:=⟨@Option.getD_some,@Option.map_some⟩
theorem Ir:type_of% @List.cons.injEq.{0}/\type_of% @and_true:=⟨@List.cons.injEq,@and_true⟩
theorem Is:type_of% @Bool.and_eq_true/\type_of% @beq_iff_eq.{0}:=⟨@Bool.and_eq_true,@beq_iff_eq⟩
theorem It:type_of% @Result.andThen_ok/\type_of% @Sem.run_bind:=⟨@Result.andThen_ok,@Sem.run_bind⟩
theorem Iv:type_of% @Bool.and_eq_true/\type_of% @Bool.not_eq_true':=⟨@Bool.and_eq_true,@Bool.not_eq_true'⟩
theorem Iw:type_of% @List.length_append.{0}/\type_of% @Nat.zero_add:=⟨@List.length_append,@Nat.zero_add⟩
inductive KT where
 |int1 (k:IntKind)
 |ints (ks:List IntKind)
 |str
 deriving DecidableEq
inductive SV where
 |int (k:IntKind) (n:Int)
 |bool (b:Bool)
 |con (v:Value)
 |own (k off:Nat)
 |osl (k:Nat)
 |oel (k sz i off:Nat)
 |sl (sz n:Nat) (f:Nat->List SV) (c:Option Nat)
 |rel (sz n:Nat) (f:Nat->List SV) (i off:Nat)
 |agg (cs:List SV)
 |tup (vs:List SV)
 |clo (fn:FuncId) (cs:List SV)
 |omp (k:Nat)
 |mp (K:KT) (ag:Bool) (has:List Int->Bool) (val:List Int->List SV)
 |fp (ok:Bool) (k i off:Nat)
 |ub (p q:Prop)
 |any
def SV.pure0:SV->Bool
 |.own _ _|.osl _|.oel _ _ _ _|.agg _|.tup _|.omp _|.fp _ _ _ _=>false
 |.clo _ a=>a.isEmpty
 |_=>true
def SV.pure:SV->Bool
 |.clo _ a=>a.all SV.pure0
 |s=>s.pure0
theorem f1q{s:SV}(h:s.pure0=true):s.pure=true:=by cases s<;>simp_all[SV.pure0,SV.pure]
def FD:Value->Option Nat
 |.pointer (some a)=>some a.block
 |.slice (some a) _ (_+1)=>some a.block
 |.map (some r)=>some r
 |_=>none
theorem OM{b o n m:Nat}{s:Option _}(h:0<m):FD (.slice (some ⟨b,o,s⟩) n m)=some b:=by
 cases m with
 |zero=>omega
 |succ m=>rfl
theorem XV{a:Option Addr}{n:Nat}:FD (.slice a n 0)=none:=by cases a<;>rfl
def BR(ps:List Value)(a:List (List Value)):Value:=.tuple #[.tuple ps.toArray,.tuple (a.map λb=>Value.tuple b.toArray).toArray]
theorem Ow{ps b:List Value}{d a:List (List Value)}(h:BR ps d=BR b a):ps=b/\d=a:=by
 unfold BR at h;simp only[Value.tuple.injEq,Array.mk.injEq,Ir]at h;obtain⟨e,c⟩:=h;refine⟨e,?_⟩;clear e;induction d generalizing a with
 |nil=>
  cases a with
  |nil=>rfl
  |cons _ _=>simp at c
 |cons u q f=>
  cases a with
  |nil=>simp at c
  |cons u' q'=>
   simp only[Km,List.cons.injEq,Value.tuple.injEq,Array.mk.injEq]at c;rw[c.1,f c.2]
def CN(x:Value)(b:Nat):Prop:=FD x=some b\/∃d a c u,x=BR d a/\c∈a/\u∈c/\FD u=some b
theorem Sv{a:Option Addr}{n m b:Nat}:CN (.slice a n m) b↔FD (.slice a n m)=some b:=by
 constructor
 .rintro(h|⟨ps,qs,us,u,h,_⟩)
  .exact h
  .cases h
 .exact .inl
theorem KD{b o n m:Nat}{s:Option _}(h:0<m):CN (.slice (some ⟨b,o,s⟩) n m) b:=.inl (OM h)
theorem Ya{b o n m c:Nat}{s:Option _}(h:0<m):CN (.slice (some ⟨b,o,s⟩) n m) c↔c=b:=by rw[Sv,OM h];exact⟨λe=>(K6 e).symm,λe=>by rw[e]⟩
theorem b9i{a:Option Addr}{n b:Nat}:¬CN (.slice a n 0) b:=by rw[Sv,XV];intro h;cases h
theorem c5n{a:Addr}{b:Nat}:CN (.pointer (some a)) b↔a.block=b:=by
 constructor
 .rintro(h|⟨ps,qs,us,u,h,_⟩)
  .cases h;rfl
  .cases h
 .rintro rfl;exact .inl rfl
theorem d2p{r b:Nat}:CN (.map (some r)) b↔r=b:=by
 constructor
 .rintro(h|⟨ps,qs,us,u,h,_⟩)
  .cases h;rfl
  .cases h
 .rintro rfl;exact .inl rfl
theorem OD{ps:List Value}{c:List (List Value)}{b:Nat}:CN (BR ps c) b↔∃a u,a∈c/\u∈a/\FD u=some b:=by
 constructor
 .rintro(h|⟨ps',qs',a,u,h,d,e,f⟩)
  .cases h
  .obtain⟨_,rfl⟩:=Ow h;exact⟨a,u,d,e,f⟩
 .rintro⟨a,u,d,e,f⟩;exact .inr ⟨ps,c,a,u,rfl,d,e,f⟩
def HZ:List IntKind->List Int->List Value
 |k::a,n::b=>.int k n::HZ a b
 |_,_=>[]
def g1c(q:List Int):ByteArray:=⟨(q.map λn=>UInt8.ofNat n.toNat).toArray⟩
def kv:KT->List Int->Value
 |.int1 k,q=>.int k (q.getD 0 0)
 |.ints a,q=>.agg (HZ a q).toArray
 |.str,q=>.string (g1c q)
def LO:KT->List Int->Prop
 |.int1 _,q=>q.length=1
 |.ints a,q=>q.length=a.length
 |.str,q=>∀n∈q,0<=n/\n<256
def IC(a:Bool)(us:List Value):Value:=if a then .agg us.toArray else us.getD 0 undef
structure MapAt (w:World) (r:Nat) (K:KT) (ag:Bool) (has:List Int->Bool) (g:List Int->List Value):Prop where
 ex:∃es clock,w.heap[r]?=some (.map es clock)/\(∀e∈es.toList,∃q,e.key=kv K q/\LO K q/\has q=true/\e.val=IC ag (g q))/\
  (∀q,has q=true->LO K q/\∃e∈es.toList,e.key=kv K q)/\es.toList.Pairwise (λa b=>a.key≠b.key)
theorem MapAt.lt{w:World}{r:Nat}{K:KT}{a:Bool}{has:List Int->Bool}{g:List Int->List Value}(h:MapAt w r K a has g):r<w.heap.size:=by obtain⟨es,c,h,_⟩:=h.ex;exact(K9.1 h).1
theorem MapAt.keep{w w':World}{r:Nat}{K:KT}{a:Bool}{has:List Int->Bool}{g:List Int->List Value}(h:MapAt w r K a has g)(b:w'.heap[r]?=w.heap[r]?):MapAt w' r K a has g:=by obtain⟨d,c,h,k⟩:=h.ex;exact⟨d,c,b.trans h,k⟩
abbrev Mu:=Nat->Option Value
def held(A:Nat->Prop)(μ:Mu)(b:Nat):Prop:=A b\/∃k x,μ k=some x/\CN x b
def WB(w:World)(b o sz n:Nat)(g:Nat->Nat->Value):Prop:=
 b<w.heap.size/\∀i j,i<n->j<sz->w.cell? ⟨b,o+i*sz+j,none⟩=some (g i j)/\(g i j).oneCell'=true
inductive D (w:World) (H:Nat->Prop) (μ:Mu):SV->Value->Prop
 |int {k:IntKind} {n:Int}:D w H μ (.int k n) (.int k n)
 |bool {b:Bool}:D w H μ (.bool b) (.bool b)
 |con {v:Value}:D w H μ (.con v) v
 |own {k off b:Nat} (h:μ k=some (.pointer (some ⟨b,0,none⟩))):D w H μ (.own k off) (.pointer (some ⟨b,off,none⟩))
 |osl {k n m:Nat} {a:Option Addr} (h:μ k=some (.slice a n m)):D w H μ (.osl k) (.slice a n m)
 |oel {k sz i off b o n m:Nat} (h:μ k=some (.slice (some ⟨b,o,none⟩) n m)):D w H μ (.oel k sz i off) (.pointer (some ⟨b,o+i*sz+off,none⟩))
 |sl {sz n:Nat} {f:Nat->List SV} {c:Option Nat} (a:Option Addr) (b o m:Nat) (g:Nat->Nat->Value) (hm:n<=m) (hx:m<=maxLen) (hc:c=none\/c=some m)
  (b7:0<n->a=some ⟨b,o,none⟩/\¬H b/\WB w b o sz n g) (hl:∀i,i<n->(f i).length=sz/\(f i).all SV.pure=true)
  (hd:∀(i j:Nat) (s:SV),i<n->(f i)[j]?=some s->D w H μ s (g i j)):D w H μ (.sl sz n f c) (.slice a n m)
 |rel {sz n i off:Nat} {f:Nat->List SV} (b o:Nat) (g:Nat->Nat->Value) (hi:i<n) (hb:¬H b) (b7:WB w b o sz n g) (hl:∀i,i<n->(f i).length=sz/\(f i).all SV.pure=true)
  (hd:∀(i j:Nat) (s:SV),i<n->(f i)[j]?=some s->D w H μ s (g i j)):D w H μ (.rel sz n f i off) (.pointer (some ⟨b,o+i*sz+off,none⟩))
 |agg {cs:List SV} (vs:List Value) (hl:vs.length=cs.length) (hd:∀(i:Nat) (s:SV) (v:Value),cs[i]?=some s->vs[i]?=some v->D w H μ s v):D w H μ (.agg cs) (.agg vs.toArray)
 |tup {cs:List SV} (vs:List Value) (hl:vs.length=cs.length) (hd:∀(i:Nat) (s:SV) (v:Value),cs[i]?=some s->vs[i]?=some v->D w H μ s v):D w H μ (.tup cs) (.tuple vs.toArray)
 |clo {fn:FuncId} {cs:List SV} (vs:List Value) (hl:vs.length=cs.length) (hd:∀(i:Nat) (s:SV) (v:Value),cs[i]?=some s->vs[i]?=some v->D w H μ s v):D w H μ (.clo fn cs) (.func (.func fn) #[] vs.toArray)
 |omp {k:Nat} {r:Option Nat} (h:μ k=some (.map r)):D w H μ (.omp k) (.map r)
 |mp {K:KT} {ag:Bool} {has:List Int->Bool} {val:List Int->List SV} (r:Nat) (g:List Int->List Value) (hb:¬H r) (hm:MapAt w r K ag has g)
  (hl:∀q,has q=true->(g q).length=(val q).length/\(val q).all SV.pure=true)
  (hd:∀(q:List Int) (i:Nat) (s:SV) (v:Value),has q=true->(val q)[i]?=some s->(g q)[i]?=some v->D w H μ s v):D w H μ (.mp K ag has val) (.map (some r))
 |fp {ok:Bool} {k i off:Nat} {v:Value} (h:if ok=true then∃ps qs b,μ k=some (BR ps qs)/\ps[i]?=some (.pointer (some ⟨b,0,none⟩))/\v=.pointer (some ⟨b,off,none⟩)else v=.pointer none):D w H μ (.fp ok k i off) v
 |ub {b:Bool} {p q:Prop} (h1:b=true->p) (h2:b=false->q):D w H μ (.ub p q) (.bool b)
 |any {v:Value}:D w H μ .any v
theorem D.fp_mk{w':World}{H':Nat->Prop}{μ μ':Mu}{ok:Bool}{k i off:Nat}{v:Value}(g:∀c f,μ k=some (BR c f)->∃a d,μ' k=some (BR a d)/\∀p,c[i]?=some p->a[i]?=some p)
 (h:if ok=true then∃c f b,μ k=some (BR c f)/\c[i]?=some (.pointer (some ⟨b,0,none⟩))/\v=.pointer (some ⟨b,off,none⟩)else v=.pointer none):D w' H' μ' (.fp ok k i off) v:=by
 refine .fp ?_;split
 .rename_i e;rw[Iz e]at h;obtain⟨c,f,b,j,l,m⟩:=h;obtain⟨a,d,n,o⟩:=g c f j;exact⟨a,d,b,n,o _ l,m⟩
 .rename_i e;rwa[J3 e]at h
theorem D.fp_keep{w w':World}{H H':Nat->Prop}{μ μ':Mu}{ok:Bool}{k i off:Nat}{v:Value}(d:∀c e,μ k=some (BR c e)->∃a b,μ' k=some (BR a b)/\∀p,c[i]?=some p->a[i]?=some p)
 (h:D w H μ (.fp ok k i off) v):D w' H' μ' (.fp ok k i off) v:=by
 cases h with
 |fp h=>exact D.fp_mk d h
structure Keeps (w w':World) (H H':Nat->Prop) (μ μ':Mu):Prop where
 size:w.heap.size<=w'.heap.size
 block:∀b,b<w.heap.size->¬H b->w'.heap[b]?=w.heap[b]?
 less:∀b,b<w.heap.size->H' b->H b
 own:∀k x,μ k=some x->μ' k=some x
theorem c2m{w w':World}{a:Addr}(h:w'.heap[a.block]?=w.heap[a.block]?):w'.cell? a=w.cell? a:=by unfold World.cell?;rw[h]
theorem WB.keep{w w':World}{b o sz n:Nat}{g:Nat->Nat->Value}(h:WB w b o sz n g)(hs:w.heap.size<=w'.heap.size)(e:w'.heap[b]?=w.heap[b]?):WB w' b o sz n g:=
 ⟨K0 h.1 hs,λi j c d=>⟨(c2m (a:=⟨b,_,none⟩) e).trans (h.2 i j c d).1,(h.2 i j c d).2⟩⟩
theorem D.keep{w w':World}{H H':Nat->Prop}{μ μ':Mu}{s:SV}{v:Value}(c:Keeps w w' H H' μ μ')(h:D w H μ s v):D w' H' μ' s v:=by
 induction h with
 |int=>exact .int
 |bool=>exact .bool
 |con=>exact .con
 |own h=>exact .own (c.own _ _ h)
 |osl h=>exact .osl (c.own _ _ h)
 |oel h=>exact .oel (c.own _ _ h)
 |sl a b o m g j hx t k d l f=>
  exact .sl a b o m g j hx t (λu=>by obtain⟨e,i,q⟩:=k u;exact⟨e,λn=>i (c.less _ q.1 n),q.keep c.size (c.block _ q.1 i)⟩) d f
 |rel b o g x i k d l f=>exact .rel b o g x (λn=>i (c.less _ k.1 n)) (k.keep c.size (c.block _ k.1 i)) d f
 |agg p d l f=>exact .agg p d f
 |tup p d l f=>exact .tup p d f
 |clo p d l f=>exact .clo p d f
 |omp h=>exact .omp (c.own _ _ h)
 |mp r g i j d l f=>exact .mp r g (λn=>i (c.less _ j.lt n)) (j.keep (c.block _ j.lt i)) d f
 |fp h=>exact D.fp_mk (λy z e=>⟨y,z,c.own _ _ e,λ_ h=>h⟩) h
 |ub A B=>exact .ub A B
 |any=>exact .any
structure Mem where
 cs:List SV
 rows:List (Nat×(Nat->List SV))
inductive Blk where
 |cells (T:TypeId) (cs:List SV)
 |row (T:TypeId) (sz n:Nat) (f:Nat->List SV) (c:Option Nat)
 |map (K:KT) (ag:Bool) (has:List Int->Bool) (val:List Int->List SV)
 |fam (T:TypeId) (Ts:List (TypeId×Nat)) (n:Nat) (bt:Option (Nat×Nat)) (F:Nat->Mem)
 |pmap (K:KT) (k:Nat) (has:List Int->Bool) (BV:List Int->Nat)
 |rowh (T:TypeId) (sz n:Nat) (f:Nat->List SV) (c:Option Nat) (i:Nat) (u:List SV)
 |pool (T:TypeId) (sz n:Nat) (hd:Nat->Value) (al:Nat->Bool) (ln:Nat->Nat) (ct:Nat->Nat->List SV)
 |dead
def RV(w:World)(H:Nat->Prop)(μ:Mu)(x:Value)(T:TypeId)(cs:List SV):Prop:=
 ∃b a,x=.pointer (some ⟨b,0,none⟩)/\w.heap[b]?=some (.cells (List.toArray a) T (0,0))/\a.length=cs.length/\(∀v∈a,v.oneCell'=true)/\∀(i:Nat) (s:SV) (v:Value),cs[i]?=some s->a[i]?=some v->D w H μ s v
def JI(w:World)(H:Nat->Prop)(μ:Mu)(x:Value)(T:TypeId)(sz n:Nat)(f:Nat->List SV)(c:Option Nat):Prop:=
 ∃a m,x=.slice a n m/\n<=m/\m<=maxLen/\(c=none\/c=some m)/\(∀i,i<n->(f i).length=sz/\(f i).all SV.pure=true)/\
    (m=0\/∃b o d,0<m/\a=some ⟨b,o,none⟩/\w.heap[b]?=some (.cells (List.toArray d) T (0,0))/\o+m*sz<=d.length/\(∀v∈d,v.oneCell'=true)/\
      ∀(i j:Nat) (s:SV) (v:Value),i<n->(f i)[j]?=some s->d[o+i*sz+j]?=some v->D w H μ s v)
def OO(w:World)(H:Nat->Prop)(μ:Mu)(x:Value)(T:TypeId)(sz n:Nat)(f:Nat->List SV)(c:Option Nat)(i:Nat)(u:List SV):Prop:=
 ∃b o m a,x=.slice (some ⟨b,o,none⟩) n m/\n<=m/\m<=maxLen/\(c=none\/c=some m)/\i<n/\u.length=sz/\(∀q,q<n->q≠i->(f q).length=sz/\(f q).all SV.pure=true)/\
  w.heap[b]?=some (.cells (List.toArray a) T (0,0))/\o+m*sz<=a.length/\(∀v∈a,v.oneCell'=true)/\
  (∀(q j:Nat) (s:SV) (v:Value),q<n->q≠i->(f q)[j]?=some s->a[o+q*sz+j]?=some v->D w H μ s v)/\
  ∀(j:Nat) (s:SV) (v:Value),u[j]?=some s->a[o+i*sz+j]?=some v->D w H μ s v
theorem OO.to{w w':World}{H H':Nat->Prop}{μ μ':Mu}{x:Value}{T:TypeId}{sz n:Nat}{f:Nat->List SV}{c:Option Nat}{i:Nat}{u:List SV}(g:SV->SV)(l:∀b,FD x=some b->w'.heap[b]?=w.heap[b]?)
 (r:∀s v,s.pure=true->D w H μ s v->D w' H' μ' s v) (t:∀s v,D w H μ s v->D w' H' μ' (g s) v) (h:OO w H μ x T sz n f c i u):OO w' H' μ' x T sz n f c i (u.map g):=by
 obtain⟨b,o,m,y,rfl,z,A,B,C,E,d,F,G,I,J,K⟩:=h;refine⟨b,o,m,y,rfl,z,A,B,C,by simpa using E,d,(l b (OM Dv)).trans F,G,I,λq j s v e k hs a=>r _ _ (Ja.1 (d q e k).2 s (J6 hs)) (J q j s v e k hs a),λj s v hs a=> ?_⟩;simp only[Ih]at hs;obtain⟨L,M,rfl⟩:=hs;exact t _ _ (K j L v M a)
structure PoolOK (w:World) (H:Nat->Prop) (T:TypeId) (sz n:Nat) (hd:Nat->Value) (al:Nat->Bool) (ln:Nat->Nat) (ct:Nat->Nat->List SV) (qs:List (List Value)):Prop where
 ql:qs.length=n
 nd:∀(i j i' j':Nat) (us us':List Value) (u u':Value) (b:Nat),qs[i]?=some us->us[j]?=some u->FD u=some b->qs[i']?=some us'->us'[j']?=some u'->FD u'=some b->i=i'
 mem:∀i,i<n->(al i=false/\qs[i]?=some [])\/(al i=true/\qs[i]?=some [hd i]/\JI w H (λ_=>none) (hd i) T sz (ln i) (ct i) none)
def YK(us:List Value):Mu:=λj=>us[j]?
def SV.memc:SV->Bool
 |.osl _=>true
 |s=>s.pure
structure MemOK (w:World) (H:Nat->Prop) (T:TypeId) (Ts:List (TypeId×Nat)) (m:Mem) (p:Value) (us:List Value):Prop where
 cells:RV w H (YK us) p T m.cs
 memc:m.cs.all SV.memc=true
 len:us.length=Ts.length
 rlen:m.rows.length=Ts.length
 rows:∀(j:Nat) (t:TypeId×Nat) (r:Nat×(Nat->List SV)) (u:Value),Ts[j]?=some t->m.rows[j]?=some r->us[j]?=some u->JI w H (YK us) u t.1 t.2 r.1 r.2 none
structure FamOK (w:World) (H:Nat->Prop) (T:TypeId) (Ts:List (TypeId×Nat)) (n:Nat) (bt:Option Nat) (F:Nat->Mem) (ps:List Value) (qs:List (List Value)):Prop where
 pl:ps.length=n
 ql:qs.length=n
 nd:∀(i j i' j':Nat) (us us':List Value) (u u':Value) (b:Nat),qs[i]?=some us->us[j]?=some u->FD u=some b->qs[i']?=some us'->us'[j']?=some u'->FD u'=some b->i=i'/\j=j'
 mem:∀i,i<n->∃b us,ps[i]?=some (.pointer (some ⟨b,0,none⟩))/\qs[i]?=some us/\((bt=some i/\us=[])\/(bt≠some i/\∃us',us=.pointer (some ⟨b,0,none⟩)::us'/\MemOK w H T Ts (F i) (.pointer (some ⟨b,0,none⟩)) us'))
def c93(μ:Mu)(a:Option (Nat×Nat))(ps:List Value):Prop:=∀i c,a=some (i,c)->∃p,ps[i]?=some p/\μ c=some p
theorem c93.keep{μ μ':Mu}{a:Option (Nat×Nat)}{ps:List Value}(h:c93 μ a ps)(b:∀i c p,a=some (i,c)->μ c=some p->μ' c=some p):c93 μ' a ps:=λi c e=>by obtain⟨p,d,f⟩:=h i c e;exact⟨p,d,b i c p e f⟩
def DK(w:World)(H:Nat->Prop)(μ:Mu)(x:Value):Blk->Prop
 |.cells T y=>∃b e,x=.pointer (some ⟨b,0,none⟩)/\w.heap[b]?=some (.cells (List.toArray e) T (0,0))/\e.length=y.length/\(∀v∈e,v.oneCell'=true)/\∀(i:Nat) (s:SV) (v:Value),y[i]?=some s->e[i]?=some v->D w H μ s v
 |.row T h n f c=>∃a m,x=.slice a n m/\n<=m/\m<=maxLen/\(c=none\/c=some m)/\(∀i,i<n->(f i).length=h/\(f i).all SV.pure=true)/\
  (m=0\/∃b o e,0<m/\a=some ⟨b,o,none⟩/\w.heap[b]?=some (.cells (List.toArray e) T (0,0))/\o+m*h<=e.length/\(∀v∈e,v.oneCell'=true)/\
    ∀(i j:Nat) (s:SV) (v:Value),i<n->(f i)[j]?=some s->e[o+i*h+j]?=some v->D w H μ s v)
 |.map K A d val=>∃r g,x=.map (some r)/\MapAt w r K A d g/\(∀q,d q=true->(g q).length=(val q).length/\(val q).all SV.pure=true)/\
  ∀(q:List Int) (i:Nat) (s:SV) (v:Value),d q=true->(val q)[i]?=some s->(g q)[i]?=some v->D w H μ s v
 |.fam T B n z F=>∃l t,x=BR l t/\FamOK w H T B n (z.map (·.1)) F l t/\c93 μ z l
 |.pmap K k d BV=>(∃l t,μ k=some (BR l t))/\∃r g,x=.map (some r)/\MapAt w r K false d g/\∀q,d q=true->∃p,g q=[p]/\D w H μ (.fp true k (BV q) 0) p
 |.rowh T h n f c i u=>OO w H μ x T h n f c i u
 |.pool T h n C E G I=>∃l t,x=BR l t/\PoolOK w H T h n C E G I t
 |.dead=>True
structure Own (B0:Nat) (X A:Nat->Prop) (w:World) (μ:Mu) (own:List Blk):Prop where
 blk:∀k x,μ k=some x->∃bl,own[k]?=some bl/\DK w (held A μ) μ x bl
 inj:∀k k' x x' b,μ k=some x->μ k'=some x'->CN x b->CN x' b->k=k'
 rng:∀k x b,μ k=some x->CN x b->b<w.heap.size/\¬A b/\(B0<=b\/X b)
 bnd:∀b,A b->b<w.heap.size
abbrev dwOn:Prop:=True
structure Fr (B0:Nat) (X:Nat->Prop) (w0 w:World):Prop where
 os:w.os=w0.os
 tape:w.tape=w0.tape
 output:w.output=w0.output
 drawn:dwOn->w0.drawn<=w.drawn
 size:w0.heap.size<=w.heap.size
 block:∀i,i<B0->¬X i->w.heap[i]?=w0.heap[i]?
theorem Fr.refl(a:Nat)(X:Nat->Prop)(w:World):Fr a X w w:=⟨rfl,rfl,rfl,λ_=>J9 _,J9 _,λ_ _ _=>rfl⟩
theorem Fr.trans{e:Nat}{X:Nat->Prop}{a b c:World}(h:Fr e X a b)(k:Fr e X b c):Fr e X a c:=
 ⟨k.os.trans h.os,k.tape.trans h.tape,k.output.trans h.output,λd=>Kq (h.drawn d) (k.drawn d),Kq h.size k.size,λi f hx=>(k.block i f hx).trans (h.block i f hx)⟩
theorem RV.keep{w w':World}{H H':Nat->Prop}{μ μ':Mu}{x:Value}{T:TypeId}{cs:List SV}(a:Keeps w w' H H' μ μ')(c:∀b,FD x=some b->w'.heap[b]?=w.heap[b]?)(h:RV w H μ x T cs):RV w' H' μ' x T cs:=by obtain⟨b,d,rfl,e,f,g,j⟩:=h;exact⟨b,d,rfl,(c b rfl).trans e,f,g,λi s v hs k=>(j i s v hs k).keep a⟩
theorem JI.keep{w w':World}{H H':Nat->Prop}{μ μ':Mu}{x:Value}{T:TypeId}{sz n:Nat}{f:Nat->List SV}{c:Option Nat}(e:Keeps w w' H H' μ μ')(g:∀b,FD x=some b->w'.heap[b]?=w.heap[b]?)(h:JI w H μ x T sz n f c):JI w' H' μ' x T sz n f c:=by
 obtain⟨a,m,rfl,k,l,p,q,h⟩:=h;refine⟨a,m,rfl,k,l,p,q,?_⟩;rcases h with h|⟨b,o,r,d,rfl,t,u,y,z⟩
 .exact .inl h
 .exact .inr ⟨b,o,r,d,rfl,(g b (OM d)).trans t,u,y,λi j s v A hs B=>(z i j s v A hs B).keep e⟩
structure Keeps0 (w w':World) (H H':Nat->Prop):Prop where
 size:w.heap.size<=w'.heap.size
 block:∀b,b<w.heap.size->¬H b->w'.heap[b]?=w.heap[b]?
 less:∀b,b<w.heap.size->H' b->H b
theorem Keeps0.any{w w':World}{H H':Nat->Prop}(h:Keeps0 w w' H H')(μ:Mu):Keeps w w' H H' μ μ:=⟨h.size,h.block,h.less,λ_ _ h=>h⟩
theorem Keeps.k0{w w':World}{H H':Nat->Prop}{μ μ':Mu}(h:Keeps w w' H H' μ μ'):Keeps0 w w' H H':=⟨h.size,h.block,h.less⟩
theorem MemOK.keep{w w':World}{H H':Nat->Prop}{T:TypeId}{a:List (TypeId×Nat)}{m:Mem}{p:Value}{us:List Value}(c:Keeps0 w w' H H')(d:∀u b,u=p\/u∈us->FD u=some b->w'.heap[b]?=w.heap[b]?)(h:MemOK w H T a m p us):MemOK w' H' T a m p us:=
 ⟨h.cells.keep (c.any _) (λb=>d p b (.inl rfl)),h.memc,h.len,h.rlen,λj t r u f g e=>(h.rows j t r u f g e).keep (c.any _) (λb=>d u b (.inr (J6 e)))⟩
theorem FamOK.keep{w w':World}{H H':Nat->Prop}{T:TypeId}{g:List (TypeId×Nat)}{n:Nat}{j:Option Nat}{F:Nat->Mem}{ps:List Value}{d:List (List Value)}(l:Keeps0 w w' H H')(m:∀b,CN (BR ps d) b->w'.heap[b]?=w.heap[b]?)
 (h:FamOK w H T g n j F ps d):FamOK w' H' T g n j F ps d:=by
 refine⟨h.pl,h.ql,h.nd,λi o=> ?_⟩;obtain⟨b,p,q,k,a⟩:=h.mem i o;refine⟨b,p,q,k,?_⟩;rcases a with a|⟨a,e,rfl,r⟩
 .exact .inl a
 .refine .inr ⟨a,e,rfl,r.keep l (λu c f s=>m c (OD.2 ⟨_,u,J6 k,?_,s⟩))⟩;rcases f with rfl|f
  .simp
  .simp[f]
theorem PoolOK.keep{w w':World}{H H':Nat->Prop}{T:TypeId}{sz n:Nat}{d:Nat->Value}{e:Nat->Bool}{f:Nat->Nat}{g:Nat->Nat->List SV}{ps:List Value}{a:List (List Value)}(k:Keeps0 w w' H H')(l:∀b,CN (BR ps a) b->w'.heap[b]?=w.heap[b]?)
 (h:PoolOK w H T sz n d e f g a):PoolOK w' H' T sz n d e f g a:=by
 refine⟨h.ql,h.nd,λi m=> ?_⟩;rcases h.mem i m with c|⟨c,j,o⟩
 .exact .inl c
 .exact .inr ⟨c,j,o.keep (k.any _) (λb q=>l b (OD.2 ⟨_,_,J6 j,Dx,q⟩))⟩
theorem DK.keep{w w':World}{H H':Nat->Prop}{μ μ':Mu}{x:Value}{bl:Blk}(a:Keeps w w' H H' μ μ')(d:∀b,CN x b->w'.heap[b]?=w.heap[b]?)(h:DK w H μ x bl):DK w' H' μ' x bl:=by
 cases bl with
 |cells T cs=>exact RV.keep a (λb hx=>d b (.inl hx)) h
 |row T z n f c=>exact JI.keep a (λb hx=>d b (.inl hx)) h
 |map K ag o val=>
  obtain⟨r,g,rfl,t,A,m⟩:=h;exact⟨r,g,rfl,t.keep (d r (.inl rfl)),A,λq i s v y hs B=>(m q i s v y hs B).keep a⟩
 |fam T Ts n bt F=>
  obtain⟨j,l,rfl,h,C⟩:=h;exact⟨j,l,rfl,h.keep a.k0 d,C.keep (λ_ _ _ _ e=>a.own _ _ e)⟩
 |pmap K k o BV=>
  obtain⟨⟨j,l,E⟩,r,g,rfl,t,m⟩:=h;exact⟨⟨j,l,a.own _ _ E⟩,r,g,rfl,t.keep (d r (.inl rfl)),λq y=>by obtain⟨p,e,h⟩:=m q y;exact⟨p,e,h.keep a⟩⟩
 |rowh T z n f c i u=>
  have:=OO.to id (λb hx=>d b (.inl hx)) (λs v _ h=>h.keep a) (λs v h=>h.keep a) h;rwa[List.map_id]at this
 |pool T z n m al ln ct=>
  obtain⟨j,l,rfl,h⟩:=h;exact⟨j,l,rfl,h.keep a.k0 d⟩
 |dead=>exact J5
theorem Keeps.drew{w:World}{H:Nat->Prop}{μ:Mu}:Keeps w w.drew H H μ μ:=⟨J9 _,λ_ _ _=>rfl,λ_ _ h=>h,λ_ _ h=>h⟩
theorem Fr.drew{a:Nat}{X:Nat->Prop}{w:World}:Fr a X w w.drew:=⟨rfl,rfl,rfl,λ_=>Nat.le_succ _,J9 _,λ_ _ _=>rfl⟩
theorem Own.drew{a:Nat}{X A:Nat->Prop}{w:World}{μ:Mu}{own:List Blk}(h:Own a X A w μ own):Own a X A w.drew μ own:=
 ⟨λk x hx=>by obtain⟨b,e,c⟩:=h.blk k x hx;exact⟨b,e,c.keep Keeps.drew (λ_ _=>rfl)⟩,h.inj,h.rng,h.bnd⟩
theorem Keeps.alloc{w:World}{H:Nat->Prop}{μ:Mu}(o:Obj):Keeps w (w.alloc o) H H μ μ:=
 ⟨Dx,λb a _=>Mn w o b a,λ_ _ h=>h,λ_ _ h=>h⟩
theorem Fr.alloc{a:Nat}{X:Nat->Prop}{w:World}(o:Obj)(hB:a<=w.heap.size):Fr a X w (w.alloc o):=
 ⟨rfl,rfl,rfl,λ_=>J9 _,Dx,λi hi _=>Mn w o i Dv⟩
def Mu.set(μ:Mu)(k:Nat)(x:Value):Mu:=λj=>if j=k then some x else μ j
theorem Tn{l:Nat}{X A:Nat->Prop}{w:World}{μ:Mu}{own:List Blk}(h:Own l X A w μ own)(v:l<=w.heap.size){k:Nat}{bl:Blk}(z:μ k=none)(B:own[k]?=some bl)(o:Obj)(x:Value)
 (hx:∀b,CN x b->b=w.heap.size) (C:∀c,c=μ.set k x->Keeps w (w.alloc o) (held A μ) (held A c) μ c->DK (w.alloc o) (held A c) c x bl):
 Own l X A (w.alloc o) (μ.set k x) own/\Keeps w (w.alloc o) (held A μ) (held A (μ.set k x)) μ (μ.set k x):=by
 have m:Keeps w (w.alloc o) (held A μ) (held A (μ.set k x)) μ (μ.set k x):=by
  refine⟨Dx,λb d _=>Mn w o b d,λb d n=> ?_,λj y a=> ?_⟩
  .rcases n with n|⟨j,y,hj,a⟩
   .exact .inl n
   .unfold Mu.set at hj;split at hj
    .cases hj;have:=hx _ a;omega
    .exact .inr ⟨j,y,hj,a⟩
  .unfold Mu.set;split
   .subst_vars;rw[z]at a;cases a
   .exact a
 refine⟨⟨λj y hj=> ?_,λj q y r b hj f a s=> ?_,λj y b hj a=> ?_,λb d=>by have:=h.bnd b d;simp;omega⟩,m⟩
 .by_cases e:j=k
  .subst e;have:y=x:=Ez;subst this;exact⟨bl,B,C _ rfl m⟩
  .have f:μ j=some y:=F7;obtain⟨t,E,d⟩:=h.blk j y f;exact⟨t,E,d.keep m (λb F=>Mn w o b (h.rng j y b f F).1)⟩
 .have g:∀j y,Mu.set μ k x j=some y->CN y b->(j=k/\b=w.heap.size)\/(j≠k/\μ j=some y):=by
   intro j y hj a;by_cases e:j=k
   .subst e;have:y=x:=Ez;subst this;exact .inl ⟨rfl,hx _ a⟩
   .exact .inr ⟨e,F7⟩
  rcases g j y hj a with⟨e,eb⟩|⟨e,em⟩<;>rcases g q r f s with⟨u,eb'⟩|⟨u,i⟩
  .rw[e,u]
  .have:=(h.rng q r b i s).1;omega
  .have:=(h.rng j y b em a).1;omega
  .exact h.inj j q y r b em i a s
 .by_cases e:j=k
  .subst e;have:y=x:=Ez;subst this;have:=hx _ a;subst this;exact⟨Dx,λG=>M7 _ (h.bnd _ G),.inl v⟩
  .have f:μ j=some y:=F7;obtain⟨r1,H,I⟩:=h.rng j y b f a;exact⟨E5,H,I⟩
def HR:TypeDesc->Bool
 |.struct _|.array _ _=>true
 |_=>false
section
variable{P:Program}{w:World}
theorem b3g(a:Addr)(us:List Value):∀(i:Nat) (b:Array Value),(∀(j:Nat) (u:Value),us[j]?=some u->w.cell? (a.add (i+j))=some u)->
 (loadCellsFrom a i us.length b).run P w=.ok (b++us.toArray) w:=by
 induction us with
 |nil=>intro i b _;simp[loadCellsFrom]
 |cons u us c=>
  intro i b h;have d:w.cell? (a.add i)=some u:=by simpa using h 0 u rfl
  have:=c (i+1) (b.push u) (λj v hv=>by have:=h (j+1) v Fz;rwa[L2,Nat.add_comm 1 j]);simp[loadCellsFrom,Go.load,Sem.run,d,this]
theorem b2g(a:Addr)(us:List Value)(n:Nat)(b:us.length=n)(h:∀(j:Nat) (u:Value),us[j]?=some u->w.cell? (a.add j)=some u):
 (loadCells a n).run P w=.ok us.toArray w:=by
 subst b;have:=b3g (P:=P) (w:=w) a us 0 #[] (λj u c=>by simpa using h j u c);simpa[loadCells]using this
theorem b14{T:TypeId}{d:TypeDesc}(h:P.underlying T=some d):(isAgg T).run P w=.ok (HR d) w:=by cases d<;>simp[isAgg,K5 h,HR]
theorem HY{T:TypeId}{i:TypeInfo}(h:P.info? T=some i):(sizeOf T).run P w=.ok i.size w:=by simp[sizeOf,typeInfo,h]
theorem f0g(a:Addr)(u:Value)(h:w.cell? a=some u):(Go.load a).run P w=.ok u w:=by simp[Go.load,Sem.run,h]
theorem VH{T:TypeId}{i:TypeInfo}{z:Value}(h:P.info? T=some i)(a:i.zero=some z):(zeroValue T).run P w=.ok z w:=by simp[zeroValue,typeInfo,h,a]
def putRow(w:World)(b:Nat)(vs:List Value)(T:TypeId):World:={w with heap:=w.heap.setIfInBounds b (.cells vs.toArray T (0,0))}
theorem b07{b:Nat}{vs:List Value}{T:TypeId}(h:b<w.heap.size):(putRow w b vs T).heap[b]?=some (.cells vs.toArray T (0,0)):=by simp[putRow,h]
theorem b0e{b i:Nat}{vs:List Value}{T:TypeId}(h:i≠b):(putRow w b vs T).heap[i]?=w.heap[i]?:=by simp[putRow,Lv (Ne.symm h)]
theorem b27{b:Nat}{vs:List Value}{T:TypeId}:(putRow w b vs T).heap.size=w.heap.size:=by simp[putRow]
theorem PY{b:Nat}{c:Array Value}{T:TypeId}{z:Nat×Nat}(h:w.heap[b]?=some (.cells c T z)):b<w.heap.size:=by
 rcases N9 b w.heap.size with a|a
 .exact a
 .rw[Array.getElem?_eq_none a]at h;cases h
theorem SX{b:Nat}{vs:List Value}{T:TypeId}{z:Nat×Nat}(h:w.heap[b]?=some (.cells vs.toArray T z))(j:Nat):w.cell? ⟨b,j,none⟩=vs[j]?:=by simp[World.cell?,h]
theorem c3q{b j:Nat}{vs:List Value}{T:TypeId}{v:Value}(h:w.heap[b]?=some (.cells vs.toArray T (0,0))):w.setCell ⟨b,j,none⟩ v=putRow w b (vs.set j v) T:=by
 have a:=PY h;unfold World.setCell putRow;congr 1;apply Array.ext_getElem?;intro i;rw[Md,Mq];by_cases e:b=i
 .subst e;rw[Iz rfl,Iz rfl,Iz a,h];simp
 .simp[e]
theorem c09{b:Nat}{vs us:List Value}{T U:TypeId}:putRow (putRow w b vs T) b us U=putRow w b us U:=by unfold putRow;simp
theorem c3x{b:Nat}{vs:List Value}{T:TypeId}(h:w.heap[b]?=some (.cells vs.toArray T (0,0))):putRow w b vs T=w:=by
 have a:=PY h;unfold putRow;have:w.heap.setIfInBounds b (.cells vs.toArray T (0,0))=w.heap:=by
  apply Array.ext_getElem?;intro i;rw[Mq];by_cases e:b=i
  .subst e;rw[Iz rfl,Iz a,h]
  .simp[e]
 rw[this]
theorem d0m{a:Addr}{v u:Value}(b:v.oneCell'=true)(c:w.cell? a=some u)(d:w.frozen? a=false):(Go.store a v).run P w=.ok () (w.setCell a v):=by have:(Go.store a v).run P w=stored P w a v .plain:=run_store P w a _ _ b;rw[this];simp[stored,c,d]
def Ou{α:Type}:List α->List α->List α
 |_::a,u::b=>u::Ou a b
 |a,_=>a
def over{α:Type}:List α->Nat->List α->List α
 |a,0,b=>Ou a b
 |v::a,n+1,b=>v::over a n b
 | [],_+1,_=>[]
theorem b0g{α:Type}:∀(vs us:List α),(Ou vs us).length=vs.length
 | [],us=>Fm
 |_::_,[]=>Fm
 |_::vs,_::us=>by simp[Ou,b0g vs us]
theorem b5w{α:Type}:∀(vs us:List α) (j:Nat),us.length<=vs.length->(Ou vs us)[j]?=if j<us.length then us[j]? else vs[j]?
 | [],[],j,_=>Fm
 | [],_::_,_,h=>E6
 |_::_,[],j,_=>Fm
 |v::vs,u::us,0,_=>Fm
 |v::vs,u::us,j+1,h=>by
  simp only[Kh]at h;simp only[Ou,La,b5w vs us j Dv,Kh];by_cases e:j<us.length
  .rw[Iz e,Iz Dv]
  .rw[J3 e,J3 Dv]
theorem Oa{α:Type}(us:List α):∀(vs:List α) (off:Nat),(over vs off us).length=vs.length
 | [],0=>by simp[over,b0g]
 |v::vs,0=>by simp only[over,b0g]
 |v::vs,n+1=>by simp[over,Oa us vs n]
 | [],_+1=>by simp[over]
theorem NF{α:Type}(us:List α):∀(vs:List α) (off j:Nat),off+us.length<=vs.length->(over vs off us)[j]?=if off<=j/\j<off+us.length then us[j-off]? else vs[j]?
 |vs,0,j,h=>by
  have e:over vs 0 us=Ou vs us:=by cases vs<;>rfl
  rw[e,b5w _ _ _ Dv];by_cases q:j<us.length
  .rw[Iz q,Iz Dv];rfl
  .rw[J3 q,J3 Dv]
 |v::vs,n+1,0,h=>by rw[J3 Dv];rfl
 |v::vs,n+1,j+1,h=>by
  simp only[Kh]at h;simp only[over,La,NF us vs n j Dv];by_cases q:n<=j/\j<n+us.length
  .rw[Iz q,Iz Dv,show j+1-(n+1)=j-n from Dv]
  .rw[J3 q,J3 Dv]
 | [],n+1,j,h=>E6
theorem c8t{α:Type}(vs:List α)(off:Nat)(h:off<=vs.length):over vs off []=vs:=by refine Ly λj=> ?_;rw[NF _ _ _ _ E2,J3 (by simp<;>omega)]
theorem c33{α:Type}(u:α)(us vs:List α)(off:Nat)(h:off+(us.length+1)<=vs.length):over vs off (u::us)=over (vs.set off u) (off+1) us:=by
 refine Ly λj=> ?_;rw[NF _ _ _ _ E2,NF _ _ _ _ E5,List.getElem?_set];simp only[Kh];by_cases e:off=j
 .subst e;rw[Iz Dv,J3 Dv,Iz rfl,Iz Dv];simp
 .by_cases a:off+1<=j/\j<off+1+us.length
  .rw[Iz a,Iz Dv];have:j-off=(j-(off+1))+1:=Dv;rw[this];rfl
  .rw[J3 a,J3 e,J3 Dv]
theorem Xn(b o:Nat)(T:TypeId)(us:List Value):∀(w:World) (vs:List Value) (i:Nat),w.heap[b]?=some (.cells vs.toArray T (0,0))->o+i+us.length<=vs.length->(∀u∈us,u.oneCell'=true)->
 (storeCells ⟨b,o,none⟩ us i).run P w=.ok () (putRow w b (over vs (o+i) us) T):=by
 induction us with
 |nil=>intro w vs i h hl _;rw[c8t _ _ E9];simp[storeCells,c3x h]
 |cons u us d=>
  intro w vs i h hl a;simp only[Kh]at hl;have e:w.cell? ⟨b,o+i,none⟩=some (vs[o+i]'Dv):=by rw[SX h];exact Iy Dv
  have f:w.frozen? ⟨b,o+i,none⟩=false:=by simp[World.frozen?,h]
  have c:=d0m (P:=P) (a u Dx) e f;rw[c3q h]at c;have g:=PY h;have:=d (putRow w b (vs.set (o+i) u) T) (vs.set (o+i) u) (i+1) (b07 g) E5 (λx hx=>a x Ef);rw[c09]at this;simp only[storeCells,Ku,It,c];rw[c33 _ _ _ _ Dv];simpa[L2]using this
end
theorem Keeps.put{w:World}{A:Nat->Prop}{μ:Mu}{b k:Nat}{x:Value}{vs:List Value}{T:TypeId}(a:μ k=some x)(hx:CN x b):Keeps w (putRow w b vs T) (held A μ) (held A μ) μ μ:=
 ⟨Gs,λc _ d=>b0e (λe=>d (by subst e;exact .inr ⟨k,x,a,hx⟩)),λ_ _ h=>h,λ_ _ h=>h⟩
theorem b8y{l:Nat}{X A:Nat->Prop}{w:World}{μ:Mu}{own:List Blk}(h:Own l X A w μ own){k b:Nat}{x:Value}{vs:List Value}{T:TypeId}{bl:Blk}(f:μ k=some x)(hx:CN x b)
 (m:DK (putRow w b vs T) (held A μ) μ x bl):Own l X A (putRow w b vs T) μ (own.set k bl):=by
 have n:Keeps w (putRow w b vs T) (held A μ) (held A μ) μ μ:=Keeps.put f hx;refine⟨λj y a=> ?_,h.inj,λj y c a o=>by rw[b27];exact h.rng j y c a o,λc g=>by rw[b27];exact h.bnd c g⟩;by_cases e:j=k
 .subst e;have:y=x:=by rw[f]at a;exact(K6 a).symm
  subst this;obtain⟨d,i,_⟩:=h.blk j y f;have p:j<own.length:=(J4.1 i).1;exact⟨bl,by simp[p],m⟩
 .obtain⟨d,i,q⟩:=h.blk j y a;refine⟨d,by rw[Jh (Ne.symm e)];exact i,q.keep n (λc g=>b0e (λr=> ?_))⟩;subst r;exact e (h.inj j k y x c a f g hx)
theorem Fr.put{c:Nat}{X:Nat->Prop}{w:World}{b:Nat}{vs:List Value}{T:TypeId}(a:c<=b\/X b):Fr c X w (putRow w b vs T):=
 ⟨rfl,rfl,rfl,λ_=>J9 _,Gs,λi hi d=>b0e (λe=>by subst e;rcases a with a|a;omega;exact d a)⟩
def AE:IntKind->Int->Prop
 |.i8,n=> -128<=n/\n<=127
 |.i16,n=> -32768<=n/\n<=32767
 |.i32,n=> -2147483648<=n/\n<=2147483647
 |.i64,n=> -9223372036854775808<=n/\n<=9223372036854775807
 |.u8,n=>0<=n/\n<=255
 |.u16,n=>0<=n/\n<=65535
 |.u32,n=>0<=n/\n<=4294967295
 |.u64,n=>0<=n/\n<=18446744073709551615
theorem Qj{k:IntKind}{n:Int}(h:AE k n):k.wrap n=n:=by cases k<;>simp only[AE]at h<;>simp only[IntKind.wrap,IntKind.bits,IntKind.signed]<;>simp<;>omega
def Uf:Value->SV
 |.int k n=>.int k n
 |.bool b=>.bool b
 |.func (.func f) ⟨[]⟩ ⟨[]⟩=>.clo f []
 |v=>.con v
def f9f:Value->SV
 |.agg a=>.agg (a.toList.map Uf)
 |v=>Uf v
section
variable{w:World}{H:Nat->Prop}{μ:Mu}
theorem c5w(v:Value):D w H μ (Uf v) v:=by
 unfold Uf;split
 .exact .int
 .exact .bool
 .exact .clo [] rfl (λi s v h _=>E6)
 .exact .con
theorem b43(vs:List Value):∀(i:Nat) (s:SV) (v:Value),(vs.map Uf)[i]?=some s->vs[i]?=some v->D w H μ s v:=by intro i s v hs a;simp[a]at hs;subst hs;exact c5w v
theorem f76(v:Value):D w H μ (f9f v) v:=by
 unfold f9f;split
 .rename_i a;obtain⟨a⟩:=a;exact .agg a Dx (b43 a)
 .exact c5w v
end
def SV.isCell:SV->Bool
 |.con v=>v.oneCell'
 |.agg _|.tup _|.any=>false
 |_=>true
def SV.cells:SV->Option (List SV)
 |.agg a=>some a
 |.tup _|.any=>none
 |.con v=>if v.oneCell' then some [.con v]else none
 |s=>some [s]
theorem D.one{w:World}{H:Nat->Prop}{μ:Mu}{s:SV}{v:Value}(h:D w H μ s v)(hc:s.isCell=true):v.oneCell'=true:=by
 cases h with
 |fp h=>
  split at h
  .exact Cj
  .subst h;rfl
 |_=>simp_all[SV.isCell,Value.oneCell']
theorem D.cells{w:World}{H:Nat->Prop}{μ:Mu}{s:SV}{v:Value}{cs:List SV}(h:D w H μ s v)(hc:s.cells=some cs):
 v.cells.toList.length=cs.length/\∀(i:Nat) (t:SV) (u:Value),cs[i]?=some t->v.cells.toList[i]?=some u->D w H μ t u:=by
 have one:∀{s:SV} {v:Value},D w H μ s v->v.cells= #[v]->cs=[s]->v.cells.toList.length=cs.length/\∀(i:Nat) (t:SV) (u:Value),cs[i]?=some t->v.cells.toList[i]?=some u->D w H μ t u:=by
  intro s v c k e;subst e;rw[k];refine⟨rfl,λi t u f j=> ?_⟩;match i with
  |0=>simp at f j;subst f j;exact c
  |i+1=>simp at f
 cases h with
 |agg x d c=>
  simp[SV.cells]at hc;subst hc;exact⟨by simpa[Value.cells]using d,λi t u f j=>c i t u f (by simpa[Value.cells]using j)⟩
 |tup=>simp[SV.cells]at hc
 |any=>simp[SV.cells]at hc
 |ub y z=>exact one (.ub y z) rfl Eg
 |con=>
  simp only[SV.cells]at hc;split at hc
  .rename_i y;exact one .con (by cases v<;>simp_all[Value.cells,Value.oneCell']) (by simpa using hc.symm)
  .cases hc
 |int=>exact one .int rfl Eg
 |bool=>exact one .bool rfl Eg
 |own h=>exact one (.own h) rfl Eg
 |osl h=>exact one (.osl h) rfl Eg
 |oel h=>exact one (.oel h) rfl Eg
 |sl a b o m g l hx A n d c=>exact one (.sl a b o m g l hx A n d c) rfl Eg
 |rel b o g B q n d c=>exact one (.rel b o g B q n d c) rfl Eg
 |clo x d c=>exact one (.clo x d c) rfl Eg
 |omp h=>exact one (.omp h) rfl Eg
 |fp h=>
  have k:v.cells= #[v]:=by
   split at h
   .exact Cj
   .subst h;rfl
  exact one (.fp h) k Eg
 |mp r g q l d c=>exact one (.mp r g q l d c) rfl Eg
theorem flat_len{α:Type}{F:Nat->List α}{sz:Nat}:∀{m k:Nat},(∀i,k<=i->i<k+m->(F i).length=sz)->((List.range' k m).flatMap F).length=m*sz
 |0,_,_=>Dx
 |m+1,k,h=>by rw[List.range'_succ,List.flatMap_cons,Jx,h k (J9 _) Dv,flat_len (m:=m) (k:=k+1) (λi h1 h2=>h i Dv Dv),Mg,Nat.add_comm]
theorem b4x{α:Type}{F:Nat->List α}{sz:Nat}:∀{m k x:Nat} {a:α},(∀i,k<=i->i<k+m->(F i).length=sz)->((List.range' k m).flatMap F)[x]?=some a->∃i j,i<m/\j<sz/\x=i*sz+j/\(F (k+i))[j]?=some a
 |0,k,x,a,_,h=>E6
 |m+1,k,x,a,b,h=>by
  rw[List.range'_succ,List.flatMap_cons]at h;have c:=b k (J9 _) Dv;by_cases hx:x<sz
  .rw[Jc Dv]at h;exact⟨0,x,Dv,hx,Dv,h⟩
  .rw[Jm Dv,c]at h;obtain⟨i,j,hi,d,e,f⟩:=b4x (m:=m) (k:=k+1) (λi h1 h2=>b i Dv Dv) h;refine⟨i+1,j,Dv,d,?_,by rw[show k+(i+1)=k+1+i from Dv];exact f⟩;rw[Mg];omega
def Vi(own:List Blk)(n:Nat):SV->Option (List SV)
 |.own k a=>match own[k]? with
  |some (.cells _ d)=>if a+n<=d.length then some ((d.drop a).take n)else none
  |_=>none
 |.rel c m f i a=>if a+n<=(f i).length then some (((f i).drop a).take n)else if i=0/\a=0/\n=m*c then some ((List.range' 0 m).flatMap f)else none
 |.oel k c i a=>match own[k]? with
  |some (.row _ b _ f _)=>if c=b/\a+n<=c then some (((f i).drop a).take n)else none
  |some (.rowh _ b _ _ _ _ u)=>if c=b/\a+n<=c then some ((u.drop a).take n)else none
  |_=>none
 |_=>none
def WN(own:List Blk):SV->Prop
 |.oel k _ i _=>match own[k]? with
  |some (.row _ _ n _ _)=>i<n
  |some (.rowh _ _ _ _ _ a _)=>i=a
  |_=>False
 |_=>True
section
variable{B0:Nat}{X A:Nat->Prop}{w:World}{μ:Mu}{own ownN:List Blk}
theorem HE{α:Type}{l:List α}{off n j:Nat}{s:α}(h:((l.drop off).take n)[j]?=some s):j<n/\l[off+j]?=some s:=by
 rw[List.getElem?_take]at h;split at h
 .rename_i a;exact⟨a,E2⟩
 .cases h
theorem d0h(O:Own B0 X A w μ ownN)(P:∀(k:Nat) (bl:Blk),own[k]?=some bl->ownN[k]?=some bl){p:SV}{v:Value}{n:Nat}{cs:List SV}
 (hd:D w (held A μ) μ p v) (d:Vi own n p=some cs) (z:WN own p):
 ∃(a:Addr) (us:List Value),v=.pointer (some a)/\a.spot=none/\us.length=n/\cs.length=n/\(∀(j:Nat) (u:Value),us[j]?=some u->w.cell? (a.add j)=some u)/\
  ∀(i:Nat) (s:SV) (u:Value),cs[i]?=some s->us[i]?=some u->D w (held A μ) μ s u:=by
 cases hd with
 |own h=>
  rename_i k l b;simp only[Vi]at d;split at d
  .rename_i T cs0 t;split at d
   .rename_i B;simp only[Ju]at d;subst d;obtain⟨bl,e,I⟩:=O.blk k _ h;rw[P _ _ t]at e;cases e;obtain⟨V,C,E,hh,H,K,F⟩:=I;cases E;refine⟨⟨b,l,none⟩,(C.drop l).take n,rfl,rfl,E5,E5,λj u r=> ?_,λi s u hs r=> ?_⟩
    .obtain⟨_,gp⟩:=HE r;exact Ck
    .obtain⟨_,hs'⟩:=HE hs;obtain⟨_,gp⟩:=HE r;exact F _ _ _ hs' gp
   .cases d
  .cases d
 |rel b o g L hb W H F=>
  rename_i q Q i l f;simp only[Vi]at d;split at d
  .rename_i B;simp only[Ju]at d;subst d;have U8:=(H i L).1;refine⟨⟨b,o+i*q+l,none⟩,((List.range q).map (g i) |>.drop l).take n,rfl,rfl,E5,E5,λj u r=> ?_,λj s u hs r=> ?_⟩
   .obtain⟨_,gp⟩:=HE r;simp only[Ih]at gp;obtain⟨x,hx,e⟩:=gp;have cm:x=l+j/\l+j<q:=by
     rw[J4]at hx;obtain⟨G,y⟩:=hx;simp at G y;exact⟨y.symm,G⟩
    obtain⟨rfl,G⟩:=cm;rw[Ku,<-e,<-(W.2 i (l+j) L G).1];simp[L2]
   .obtain⟨_,hs'⟩:=HE hs;obtain⟨_,gp⟩:=HE r;simp only[Ih]at gp;obtain⟨x,hx,e⟩:=gp;rw[J4]at hx;obtain⟨G,y⟩:=hx;simp at y;subst y e;exact F i _ _ L hs'
  .split at d
   .rename_i hw;obtain⟨rfl,rfl,rfl⟩:=hw;simp only[Ju]at d;subst d;have R:∀i,0<=i->i<0+Q->((List.range q).map (g i)).length=q:=λi _ _=>Dx;have Y:∀i,0<=i->i<0+Q->(f i).length=q:=λi _ h=>(H i Dv).1;refine⟨⟨b,o+0*q+0,none⟩,(List.range' 0 Q).flatMap λi=>(List.range q).map (g i),rfl,rfl,flat_len R,flat_len Y,λj u r=> ?_,λj s u hs r=> ?_⟩
    .obtain⟨i,k,S,t,rfl,e⟩:=b4x R r;simp only[Kv,Ih]at e;obtain⟨x,hx,rfl⟩:=e;have:x=k:=by
      rw[J4]at hx;obtain⟨G,y⟩:=hx;simp at y;exact y.symm
     subst this;rw[Ku,<-(W.2 i x S t).1];congr 2;omega
    .obtain⟨i,k,S,t,E,e⟩:=b4x R r;obtain⟨M,k2,br,f8,N,Z⟩:=b4x Y hs;have J:i=M/\k=k2:=by
      have K:(i*q+k)/q=i:=by rw[Mh,Nat.mul_add_div Dv,Nat.div_eq_of_lt t,Lu]
      have h2:(M*q+k2)/q=M:=by rw[Mh,Nat.mul_add_div Dv,Nat.div_eq_of_lt f8,Lu]
      have h3:i=M:=by rw[<-K,<-h2,<-E,<-N]
      subst h3;exact⟨rfl,Dv⟩
     obtain⟨rfl,rfl⟩:=J;simp only[Kv,Ih]at e Z;obtain⟨x,hx,rfl⟩:=e;have:x=k:=by rw[J4]at hx;obtain⟨G,y⟩:=hx;simp at y;exact y.symm
     subst this;exact F i x s S Z
   .cases d
 |oel h=>
  rename_i k q i l b o n1 m1;simp only[Vi]at d;simp only[WN]at z;split at d
  .rename_i T U n' f c t;rw[t]at z;simp only at z;split at d
   .rename_i B;obtain⟨rfl,B⟩:=B;simp only[Ju]at d;subst d;obtain⟨bl,e,I⟩:=O.blk k _ h;rw[P _ _ t]at e;cases e;obtain⟨a,m,E,hn,hm,hc,H,be⟩:=I;cases E;rcases be with N|⟨V,o',C,c7,N,hh,ho,K,F⟩
    .omega
    cases N;have U8:=(H i z).1;have jb:o+i*q+q<=C.length:=by have:i*q+q<=m1*q:=I6;omega
    refine⟨⟨b,o+i*q+l,none⟩,(C.drop (o+i*q+l)).take n,rfl,rfl,E5,E5,λj u r=> ?_,λj s u hs r=> ?_⟩
    .obtain⟨_,gp⟩:=HE r;exact Ck
    .obtain⟨_,hs'⟩:=HE hs;obtain⟨_,gp⟩:=HE r;exact F i _ _ _ z hs' (by rw[<-gp];congr 1;omega)
   .cases d
  .rename_i T U n' f c i' u0 t;rw[t]at z;simp only at z;split at d
   .rename_i B;obtain⟨rfl,B⟩:=B;simp only[Ju]at d;subst d;subst z;obtain⟨bl,e,I⟩:=O.blk k _ h;rw[P _ _ t]at e;cases e;obtain⟨V,o',m',C,E,hn,hm,hc,L,z9,H,hh,ho,K,F,U9⟩:=I;cases E;have jb:o+i*q+q<=C.length:=by
     have:i*q+q<=m1*q:=I6;omega
    refine⟨⟨b,o+i*q+l,none⟩,(C.drop (o+i*q+l)).take n,rfl,rfl,E5,E5,λj u r=> ?_,λj s u hs r=> ?_⟩
    .obtain⟨_,gp⟩:=HE r;exact Ck
    .obtain⟨_,hs'⟩:=HE hs;obtain⟨_,gp⟩:=HE r;exact U9 _ _ _ hs' (by rw[<-gp];congr 1;omega)
   .cases d
  .cases d
 |_=>simp[Vi]at d
end
def Io(P:Program)(T:TypeId):Option Bool:=(P.underlying T).map HR
def CX(P:Program)(T:TypeId):Option Nat:=(P.info? T).map (·.size)
def Ut(P:Program)(T:TypeId)(cs:List SV):Option SV:=
 match Io P T,cs with
 |some true,cs=>some (.agg cs)
 |some false,[s]=>some s
 |_,_=>none
def UK(P:Program)(own:List Blk)(T:TypeId)(p:SV):Option (Prop×SV):=do
 let n<-CX P T
 let a<-Vi own n p
 let s<-Ut P T a
 some (WN own p,s)
def c8d(P:Program)(T:TypeId)(f:Nat):Option (Nat×TypeId×Nat):=
 match P.underlying T with
 |some (.struct b)=>match b[f]? with
  |some a=>(CX P a.type).map λn=>(a.offset,a.type,n)
  |none=>none
 |_=>none
def SV.plus(off:Nat):SV->Option SV
 |.own k o=>some (.own k (o+off))
 |.oel k a i o=>some (.oel k a i (o+off))
 |.rel a n f i o=>some (.rel a n f i (o+off))
 |_=>none
def b28(P:Program)(T:TypeId)(f:Nat)(p:SV):Option (Prop×SV):=do
 let (off,_,n)<-c8d P T f
 if n=0 then none else
 let s<-p.plus off
 some (True,s)
def c4s(P:Program)(T:TypeId)(f:Nat)(x:SV):Option (Prop×SV):=do
 let (off,U,n)<-c8d P T f
 match x with
 |.agg a=>if off+n<=a.length then(Ut P U ((a.drop off).take n)).map λs=>(True,s)else none
 |_=>none
section
variable{P:Program}{B0:Nat}{X A:Nat->Prop}{w:World}{μ:Mu}{own ownN:List Blk}
theorem b06{H:Nat->Prop}{T:TypeId}{cs:List SV}{us:List Value}{s:SV}(hs:Ut P T cs=some s)(a:us.length=cs.length)(b:∀(i:Nat) (s:SV) (u:Value),cs[i]?=some s->us[i]?=some u->D w H μ s u):
 ∃d,P.underlying T=some d/\((HR d=true/\D w H μ s (.agg us.toArray))\/(HR d=false/\∃u,us=[u]/\D w H μ s u)):=by
 unfold Ut Io at hs;cases hu:P.underlying T with
 |none=>simp[hu]at hs
 |some d=>
  refine⟨d,rfl,?_⟩;simp only[hu,Kb]at hs;cases hb:HR d with
  |true=>
   rw[hb]at hs;simp at hs;subst hs;exact .inl ⟨rfl,.agg us a b⟩
  |false=>
   rw[hb]at hs;match cs,us,a,hs with
   | [t],[u],_,hs=>
     simp at hs;subst hs;exact .inr ⟨rfl,u,rfl,b 0 t u rfl rfl⟩
   | [],_,_,hs=>simp at hs
   |_::_::_,_,_,hs=>simp at hs
   | [t],[],a,_=>simp at a
   | [t],_::_::_,a,_=>simp at a
theorem b3n(i:Own B0 X A w μ ownN)(j:∀(k:Nat) (bl:Blk),own[k]?=some bl->ownN[k]?=some bl){T:TypeId}{p s:SV}{v:Value}{b:Prop}
 (l:D w (held A μ) μ p v) (e:UK P own T p=some (b,s)) (m:b):∃u,(Instr.loadAt T v).run P w=.ok u w/\D w (held A μ) μ s u:=by
 simp only[UK,CX,Im,Ic,Ju]at e;obtain⟨n,⟨c,o,rfl⟩,cs,q,s',hs,rfl,rfl⟩:=e;obtain⟨a,r,rfl,_,t,fu,f,x⟩:=d0h i j l q m;obtain⟨d,g,h|h⟩:=b06 hs Dv x
 .refine⟨_,?_,h.2⟩;simp[Instr.loadAt,Instr.sureAddr,loadVar,b14 g,h.1,HY o,b2g a r c.size t f]
 .obtain⟨y,u,rfl,z⟩:=h;refine⟨u,?_,z⟩;have B:w.cell? a=some u:=by have:=f 0 u rfl;rwa[Addr.add_zero']at this
  simp only[Instr.loadAt,Instr.sureAddr,loadVar,Ie,b14 g,y];simpa using f0g a u B
theorem d00{H:Nat->Prop}{off:Nat}{p s:SV}{v:Value}(c:D w H μ p v)(hs:p.plus off=some s):∃a,v=.pointer (some a)/\a.spot=none/\D w H μ s (.pointer (some (a.add off))):=by
 cases c<;>simp[SV.plus]at hs
 case own h=>subst hs;exact⟨_,rfl,rfl,by rw[Ku];exact .own h⟩
 case oel h=>subst hs;exact⟨_,rfl,rfl,by rw[Ku,L2];exact .oel h⟩
 case rel b o g d e f i j=>subst hs;exact⟨_,rfl,rfl,by rw[Ku,L2];exact .rel b o g d e f i j⟩
theorem b3z{T:TypeId}{f off n:Nat}{U:TypeId}(h:c8d P T f=some (off,U,n)):∃c b a,P.underlying T=some (.struct c)/\c[f]?=some b/\P.info? U=some a/\a.size=n/\b.type=U/\b.offset=off:=by
 unfold c8d CX at h;split at h
 .rename_i c d;split at h
  .rename_i b e;simp only[Ic]at h;obtain⟨_,⟨a,g,rfl⟩,rfl,rfl,rfl⟩:=h;exact⟨c,b,a,d,e,g,rfl,rfl,rfl⟩
  .cases h
 .cases h
theorem b74{H:Nat->Prop}{T:TypeId}{f:Nat}{p s:SV}{v:Value}{c:Prop}(d:D w H μ p v)(b:b28 P T f p=some (c,s)):∃u,(Instr.fieldAt T v f).run P w=.ok u w/\D w H μ s u:=by
 simp only[b28,Im]at b;obtain⟨⟨off,U,n⟩,e,b⟩:=b;simp only at b;split at b
 .cases b
 rename_i g;simp only[J8,Id]at b;obtain⟨s',hs,rfl,rfl⟩:=b;obtain⟨fs,fd,inf,h,i,j,rfl,rfl,rfl⟩:=b3z e;obtain⟨a,rfl,_,k⟩:=d00 d hs;refine⟨_,?_,k⟩;simp[Instr.fieldAt,K5 h,i,Instr.sureAddr,fieldPlace,HY j,g]
theorem c51{H:Nat->Prop}{T:TypeId}{f:Nat}{x s:SV}{v:Value}{j:Prop}(m:D w H μ x v)(a:c4s P T f x=some (j,s)):∃u,(Instr.field T v f).run P w=.ok u w/\D w H μ s u:=by
 simp only[c4s,Im]at a;obtain⟨⟨off,U,n⟩,o,a⟩:=a;obtain⟨fs,c,b,k,l,q,rfl,rfl,rfl⟩:=b3z o;simp only at a;split at a
 .rename_i cs;split at a
  .rename_i cz;simp only[Ic]at a;obtain⟨s',hs,rfl,rfl⟩:=a;cases m with
   |agg e hl r=>
    obtain⟨d,g,h|h⟩:=b06 (w:=w) (H:=H) (μ:=μ) (us:=(e.drop c.offset).take b.size) hs E5 (λi s u hs g=>by obtain⟨_,hs'⟩:=HE hs;obtain⟨_,t⟩:=HE g;exact r _ _ _ hs' t)
    .refine⟨_,?_,h.2⟩;have a:e.toArray.extract c.offset (c.offset+b.size)=((e.drop c.offset).take b.size).toArray:=by
      simp[List.take_drop]
     simp only[Instr.field,Ie,K5 k,l,asAgg,part,b14 g,h.1,Ke,HY q,a]
    .obtain⟨y,u,z,A⟩:=h;refine⟨u,?_,A⟩;have B:e[c.offset]?=some u:=by
      have:((e.drop c.offset).take b.size)[0]?=some u:=by rw[z];rfl
      simpa using(HE this).2
     simp only[Instr.field,Ie,K5 k,l,asAgg,part,b14 g,y,Ik];simp[B]
  .cases a
 .cases a
end
def f63(d:BinOp)(x y:SV):Option (Prop×SV):=
 match d,x,y with
 |.add,.int k a,.int c b=>if k=c then some (AE k (a+b),.int k (a+b))else none
 |.sub,.int k a,.int c b=>if k=c then some (AE k (a-b),.int k (a-b))else none
 |.mul,.int k a,.int c b=>if k=c then some (AE k (a*b),.int k (a*b))else none
 |.quo,.int k a,.int c b=>if k=c then some (b≠0/\AE k (a.tdiv b),.int k (a.tdiv b))else none
 |.rem,.int k a,.int c b=>if k=c then some (b≠0,.int k (a.tmod b))else none
 |.eql,.int k a,.int c b=>if k=c then some (True,.bool (decide (a=b)))else none
 |.neq,.int k a,.int c b=>if k=c then some (True,.bool (!decide (a=b)))else none
 |.lss,.int k a,.int c b=>if k=c then some (True,.bool (decide (a<b)))else none
 |.leq,.int k a,.int c b=>if k=c then some (True,.bool (decide (a<=b)))else none
 |.gtr,.int k a,.int c b=>if k=c then some (True,.bool (decide (b<a)))else none
 |.geq,.int k a,.int c b=>if k=c then some (True,.bool (decide (b<=a)))else none
 |_,_,_=>none
section
variable{P:Program}{w:World}{H:Nat->Prop}{μ:Mu}
theorem d64{d:BinOp}{T:TypeId}{xo yo:Operand}{x y s:SV}{v u:Value}{b:Prop}(hx:D w H μ x v)(e:D w H μ y u)(c:f63 d x y=some (b,s))(a:b):
 ∃r,(do eqGuard d T xo yo v u;binOp d T v u).run P w=.ok r w/\D w H μ s r:=by
 unfold f63 at c;split at c<;>(try cases c)
 all_goals
  cases hx;cases e;split at c<;>(try cases c)
  rename_i f;subst f
 case h_1=>refine⟨_,?_,.int⟩;simp[go_sem,Qj a]
 case h_2=>refine⟨_,?_,.int⟩;simp[go_sem,Qj a]
 case h_3=>refine⟨_,?_,.int⟩;simp[go_sem,Qj a]
 case h_4=>refine⟨_,?_,.int⟩;simp[go_sem,Qj a.2,a.1]
 case h_5=>refine⟨_,?_,.int⟩;simp[go_sem,show¬_ from a]
 case h_6=>refine⟨_,?_,.bool⟩;simp[go_sem];rfl
 case h_7=>refine⟨_,?_,.bool⟩;simp[go_sem];rfl
 case h_8=>refine⟨_,?_,.bool⟩;simp[go_sem]
 case h_9=>refine⟨_,?_,.bool⟩;simp[go_sem]
 case h_10=>refine⟨_,?_,.bool⟩;simp[go_sem]
 case h_11=>refine⟨_,?_,.bool⟩;simp[go_sem]
def evUn(c:UnOp)(x:SV):Option (Prop×SV):=
 match c,x with
 |.neg,.int k a=>some (AE k (-a),.int k (-a))
 |.not,.bool b=>some (True,.bool (!b))
 |_,_=>none
theorem d7u{c:UnOp}{x s:SV}{v:Value}{a:Prop}(hx:D w H μ x v)(b:evUn c x=some (a,s))(d:a):∃r,(Op.unary c v).run P w=.ok r w/\D w H μ s r:=by
 unfold evUn at b;split at b
 .cases hx;cases b;refine⟨_,?_,.int⟩;simp[Op.unary,go_sem,Qj d]
 .cases hx;cases b;refine⟨_,?_,.bool⟩;simp[Op.unary]
 .cases b
def d6u(P:Program)(S T:TypeId)(x:SV):Option (Prop×SV):=
 match P.underlying S,P.underlying T,x with
 |some _,some (.int k),.int _ n=>some (AE k n,.int k n)
 |_,_,_=>none
theorem d0i{S T:TypeId}{x s:SV}{v:Value}{a:Prop}(hx:D w H μ x v)(b:d6u P S T x=some (a,s))(f:a):∃r,(convert S T v).run P w=.ok r w/\D w H μ s r:=by
 unfold d6u at b;split at b
 .rename_i d k g n hS c;cases b;cases hx;refine⟨_,?_,.int⟩;have e:P.intKind T=k:=by simp[Program.intKind,c]
  have:=run_convert_int (P:=P) w S T g n (by simp[hS]) (by rw[e];exact c);rw[this,e,Qj f]
 .cases b
def b5n(x:SV)(i:Nat):Option (Prop×SV):=
 match x with
 |.tup a=>(a[i]?).map λs=>(True,s)
 |_=>none
theorem b9h{x s:SV}{v:Value}{i:Nat}{b:Prop}(hx:D w H μ x v)(a:b5n x i=some (b,s)):∃r,(Instr.extract v i).run P w=.ok r w/\D w H μ s r:=by
 unfold b5n at a;split at a
 .rename_i vs;simp only[Ic]at a;obtain⟨s',hs,rfl,rfl⟩:=a;cases hx with
  |tup c e f=>
   have d:i<c.length:=by rw[e];exact(J4.1 hs).1
   refine⟨c[i],?_,f i _ _ hs (Iy d)⟩;simp[Instr.extract,d]
 .cases a
def WF(own:List Blk):SV->Option Nat
 |.con (.slice none 0 0)=>some 0
 |.sl _ n _ _=>some n
 |.osl k=>match own[k]? with
  |some (.row _ _ n _ _)=>some n
  |_=>none
 |_=>none
def Uu(own:List Blk):SV->Option Nat
 |.con (.slice none 0 0)=>some 0
 |.sl _ _ _ c=>c
 |.osl k=>match own[k]? with
  |some (.row _ _ _ _ c)=>c
  |_=>none
 |_=>none
theorem c3h{l:Nat}{X A:Nat->Prop}{own i:List Blk}(q:Own l X A w μ i)(r:∀(k:Nat) (bl:Blk),own[k]?=some bl->i[k]?=some bl){x:SV}{v:Value}{n:Nat}
 (hx:D w (held A μ) μ x v) (d:WF own x=some n):∃a m,v=.slice a n m/\n<=m/\m<=maxLen:=by
 cases hx with
 |sl a b o m g j hx hc b7 hl hd=>simp[WF]at d;subst d;exact⟨a,m,rfl,j,hx⟩
 |osl h=>
  simp only[WF]at d;split at d
  .rename_i T sz n' f c s;simp only[Ju]at d;subst d;obtain⟨bl,e,t⟩:=q.blk _ _ h;rw[r _ _ s]at e;cases e;obtain⟨a,m,u,y,j,_⟩:=t;cases u;exact⟨_,_,rfl,y,j⟩
  .cases d
 |con=>
  unfold WF at d;split at d<;>first
   |(rename_i z;cases z;cases d;exact⟨none,0,rfl,J9 _,F8⟩)
   |simp_all
 |_=>simp[WF]at d
theorem c5f{l:Nat}{X A:Nat->Prop}{own j:List Blk}(p:Own l X A w μ j)(q:∀(k:Nat) (bl:Blk),own[k]?=some bl->j[k]?=some bl){x:SV}{v:Value}{m:Nat}
 (hx:D w (held A μ) μ x v) (d:Uu own x=some m):∃a n,v=.slice a n m:=by
 cases hx with
 |sl a b o r g s hx i b7 hl hd=>
  rename_i t n f c;simp only[Uu]at d;rcases i with i|i
  .rw[i]at d;cases d
  .rw[i]at d;cases d;exact⟨a,n,rfl⟩
 |osl h=>
  simp only[Uu]at d;split at d
  .rename_i T t n' f c u;subst d;obtain⟨bl,e,y⟩:=p.blk _ _ h;rw[q _ _ u]at e;cases e;obtain⟨a,r,z,hn,s,i,_⟩:=y;cases z;rcases i with i|i
   .cases i
   .cases i;exact⟨_,_,rfl⟩
  .cases d
 |con=>
  unfold Uu at d;split at d<;>first
   |(rename_i B;cases B;cases d;exact⟨none,0,rfl⟩)
   |simp_all
 |_=>simp[Uu]at d
def OZ(P:Program)(T:TypeId):Option TypeId:=match P.underlying T with
 |some (.slice e)=>some e
 |_=>none
theorem QT{T e:TypeId}(h:OZ P T=some e):P.underlying T=some (.slice e):=by unfold OZ at h;split at h<;>simp_all
def b65(P:Program)(own:List Blk)(b:Builtin)(ts:List TypeId)(xs:List SV):Option (Prop×SV):=
 match b,ts,xs with
 |.len,[T],[x]=>match OZ P T with
  |some _=>(WF own x).map λ(n:Nat)=>(True,.int .i64 (n:Int))
  |none=>none
 |.cap,[T],[x]=>match OZ P T with
  |some _=>(Uu own x).map λ(n:Nat)=>(True,.int .i64 (n:Int))
  |none=>none
 |.min,_,[.int k a,.int _ b]=>some (True,.int k (min a b))
 |.max,_,[.int k a,.int _ b]=>some (True,.int k (max a b))
 |_,_,_=>none
theorem d9e(k c:IntKind)(a b:Int)(ts:Array TypeId)(ty:TypeId):(Builtin.min_ ts ty #[.int k a,.int c b]).run P w=.ok (.int k (min a b)) w:=by
 simp only[Builtin.min_];have:(if b<a then b else a)=min a b:=by split<;>omega
 simp[Builtin.min2,this]
theorem f24(k c:IntKind)(a b:Int)(ts:Array TypeId)(ty:TypeId):(Builtin.max_ ts ty #[.int k a,.int c b]).run P w=.ok (.int k (max a b)) w:=by
 simp only[Builtin.max_];have:(if b>a then b else a)=max a b:=by split<;>omega
 simp[Builtin.max2,this]
def Vt(k:IntKind):List SV->Option (List Int)
 | []=>some []
 |.int a n::r=>if k=a then(Vt k r).map (n:: ·)else none
 |_=>none
theorem b58{k:IntKind}:∀{l:List SV} {a:List Int},Vt k l=some a->l=a.map (SV.int k)
 | [],a,h=>by simp[Vt]at h;simp[h]
 |.int k' n::r,a,h=>by
  simp only[Vt]at h;split at h
  .rename_i e;subst e;rw[J7]at h;obtain⟨ms,b,rfl⟩:=h;rw[b58 b];rfl
  .cases h
 |.bool _::_,_,h|.con _::_,_,h|.own _ _::_,_,h|.osl _::_,_,h|.oel _ _ _ _::_,_,h|.sl _ _ _ _::_,_,h|.rel _ _ _ _ _::_,_,h|.agg _::_,_,h|.tup _::_,_,h|.clo _ _::_,_,h|.any::_,_,h=>by simp[Vt]at h
def g1w:List SV->Option (Nat->SV)
 |.int k n::r=>(Vt k (.int k n::r)).map λa j=>.int k (a.getD j 0)
 |_=>none
theorem d04{l:List SV}{f:Nat->SV}(h:g1w l=some f):∀j s,l[j]?=some s->f j=s/\s.pure=true:=by
 unfold g1w at h;split at h
 .rename_i k n r;rw[J7]at h;obtain⟨ns,a,rfl⟩:=h;have e:=b58 a;intro j s hs;rw[e,Jr,J7]at hs;obtain⟨m,b,rfl⟩:=hs;exact⟨by simp[b],rfl⟩
 .cases h
def Xm(l:List SV)(sz:Nat):Nat->Nat->List SV
 |_,0=>[]
 |a,n+1=>l.getD a .any::Xm l sz (a+sz) n
theorem b7f{l:List SV}{sz:Nat}:∀{n off j:Nat},j<n->(Xm l sz off n)[j]?=some (l.getD (off+j*sz) .any)
 |n+1,off,0,_=>by simp[Xm]
 |n+1,off,j+1,h=>by simp only[Xm,La];rw[b7f Dv];congr 2;rw[Mg];omega
def YG(l:List SV)(off sz len:Nat):Nat->Option (List (Nat->SV))
 |0=>some []
 |c+1=>(YG l off sz len c).bind λa=>(g1w (Xm l sz (off+c) len)).map λf=>a++[f]
theorem b5q{l:List SV}{off sz len:Nat}:∀{c:Nat} {fs:List (Nat->SV)},YG l off sz len c=some fs->fs.length=c/\∀(i j:Nat) (s:SV),i<c->j<len->l[off+j*sz+i]?=some s->(fs.map (· j))[i]?=some s/\s.pure=true
 |0,fs,h=>by simp[YG]at h;subst h;exact⟨rfl,λi j s k=>Dv⟩
 |c+1,fs,h=>by
  simp only[YG,J8,J7]at h;obtain⟨cs,m,f,n,rfl⟩:=h;obtain⟨h1,o⟩:=b5q m;refine⟨En,λi j s k d hs=> ?_⟩;by_cases e:i=c
  .subst e;have g:=b7f (l:=l) (sz:=sz) (off:=off+i) d;have q:off+i+j*sz=off+j*sz+i:=Dv;rw[q,Ix,hs]at g;obtain⟨a,b⟩:=d04 n j s g;refine⟨?_,b⟩;rw[Lk,Jm En];simp[h1,a]
  .obtain⟨a,b⟩:=o i j s Dv d hs;refine⟨?_,b⟩;rw[Lk,Jc (by simp[h1];omega)];exact a
def b26(P:Program)(own:List Blk)(T:TypeId)(x i:SV):Option (Prop×SV):=
 match i with
 |.int _ n=>match P.underlying T with
  |some (.slice e)=>match x with
   |.sl a len f _=>if CX P e=some a\/len=0 then some (0<=n/\n<len,.rel a len f n.toNat 0)else none
   |.osl k=>match own[k]? with
    |some (.row _ a len _ _)=>if CX P e=some a then some (0<=n/\n<len,.oel k a n.toNat 0)else none
    |some (.rowh _ a len _ _ _ _)=>if CX P e=some a then some (0<=n/\n<len,.oel k a n.toNat 0)else none
    |_=>none
   |_=>none
  |some (.array len e)=>match x with
   |.rel d c f j b=>match CX P e with
    |some a=>if a=d then(if len=c/\j=0/\b=0 then some (0<=n/\n<len,.rel a len f n.toNat 0)else none)else if b+len*a<=(f j).length then(YG (f j) b a len a).map λg=>(0<=n/\n<len,.rel a len (λj=>g.map (· j)) n.toNat 0)else none
    |none=>none
   |.own k b=>match CX P e with
    |some a=>if n.toNat<len then some (0<=n,.own k (b+n.toNat*a))else none
    |none=>none
   |_=>none
  |_=>none
 |_=>none
theorem b5j{B0:Nat}{X A:Nat->Prop}{own E:List Blk}(hO:Own B0 X A w μ E)(bf:∀(k:Nat) (bl:Blk),own[k]?=some bl->E[k]?=some bl){T:TypeId}{x i s:SV}{v u:Value}{H:Prop}
 (hx:D w (held A μ) μ x v) (hi:D w (held A μ) μ i u) (d:b26 P own T x i=some (H,s)) (I:H):∃r,(Instr.indexAt T v u).run P w=.ok r w/\D w (held A μ) μ s r:=by
 unfold b26 at d;split at d;rotate_left
 .cases d
 rename_i ki n;cases hi;split at d
 .rename_i e hT;have kr:P.elem T=e:=G1;split at d
  .rename_i J len f c;split at d;rotate_left
   .cases d
   rename_i q;simp only[Id]at d;obtain⟨rfl,rfl⟩:=d;have R:n.toNat<len:=Dv;have q:CX P e=some J:=by rcases q with h|h;exact h;omega
   simp only[CX,J7]at q;obtain⟨l,y,rfl⟩:=q;cases hx with
   |sl a b o m g hm jc t b7 F K=>
    obtain⟨rfl,L,G⟩:=b7 Dv;refine⟨_,?_,.rel (off:=0) b o g R L G F K⟩;rw[run_indexAt_slice w T _ _ _ _ _ (by rw[kr];exact hT),Iz I,kr,HY y];simp[Ku]
  .rename_i k;split at d
   .rename_i T' J len f c S;split at d;rotate_left
    .cases d
    rename_i q;simp only[Id]at d;obtain⟨rfl,rfl⟩:=d;simp only[CX,J7]at q;obtain⟨l,y,rfl⟩:=q;cases hx with
    |osl h=>
     obtain⟨bl,M,U⟩:=hO.blk _ _ h;rw[bf _ _ S]at M;cases M;obtain⟨a,m',B,R,hm,t,F,be⟩:=U;cases B;rcases be with rfl|⟨b,o,vs,c7,rfl,hh,ho,h1,hD⟩
     .omega
     refine⟨_,?_,.oel (off:=0) h⟩;rw[run_indexAt_slice w T _ _ _ _ _ (by rw[kr];exact hT),Iz I,kr,HY y];simp[Ku]
   .rename_i T' J len f c i' u S;split at d;rotate_left
    .cases d
    rename_i q;simp only[Id]at d;obtain⟨rfl,rfl⟩:=d;simp only[CX,J7]at q;obtain⟨l,y,rfl⟩:=q;cases hx with
    |osl h=>
     obtain⟨bl,M,U⟩:=hO.blk _ _ h;rw[bf _ _ S]at M;cases M;obtain⟨b,o,m',vs,B,R,hm,t,b8,hu,F,hh,ho,h1,hD,U9⟩:=U;cases B;refine⟨_,?_,.oel (off:=0) h⟩;rw[run_indexAt_slice w T _ _ _ _ _ (by rw[kr];exact hT),Iz I,kr,HY y];simp[Ku]
   .cases d
  .cases d
 .rename_i len e hT;have kr:P.elem T=e:=G1;have zx:P.arrayLen T=len:=by simp[Program.arrayLen,hT]
  split at d
  .rename_i C len0 f j off;split at d;rotate_left
   .cases d
   rename_i J q;split at d
   .rename_i V;subst V;split at d;rotate_left
    .cases d
    rename_i t;obtain⟨rfl,rfl,rfl⟩:=t;simp only[Id]at d;obtain⟨rfl,rfl⟩:=d;simp only[CX,J7]at q;obtain⟨l,y,rfl⟩:=q;cases hx with
    |rel b o g hi L G F K=>
     refine⟨_,?_,.rel (off:=0) b o g Dv L G F K⟩;rw[run_indexAt_array w T _ _ _ Gt,Iz (by rw[zx];exact I),kr,HY y];simp[Ku]
   split at d;rotate_left
   .cases d
   rename_i bc;simp only[Ic]at d;obtain⟨fs,mh,rfl,rfl⟩:=d;simp only[CX,J7]at q;obtain⟨l,y,rfl⟩:=q;obtain⟨W,c2⟩:=b5q mh;cases hx with
   |rel b o g Y L G F K=>
    have hlj:=(F j Y).1;have N:∀(a c:Nat),a<len->c<l.size->off+a*l.size+c<C:=by intro a c z t;have:(a+1)*l.size<=len*l.size:=Ka _ z;rw[Mg]at this;omega
    have O:∀(a c:Nat),a<len->c<l.size->∃s,(f j)[off+a*l.size+c]?=some s:=by intro a c z t;have:=N a c z t;exact⟨_,Iy Dv⟩
    refine⟨_,?_,.rel (off:=0) b (o+j*C+off) (λa c=>g j (off+a*l.size+c)) Dv L ⟨G.1,λa c z t=> ?_⟩ (λa z=>⟨by simp[W],?_⟩) (λa c s z hs=> ?_)⟩
    .rw[run_indexAt_array w T _ _ _ Gt,Iz (by rw[zx];exact I),kr,HY y];simp[Ku]
    .have:=G.2 j _ Y (N a c z t);rw[show o+j*C+off+a*l.size+c=o+j*C+(off+a*l.size+c)from Dv];exact this
    .rw[Ja];intro s hs;obtain⟨c,t⟩:=Kr.1 hs;have Q:c<l.size:=by
      have:=(J4.1 t).1;simpa[W]using this
     obtain⟨Z,hs'⟩:=O a c z Q;obtain⟨B,e2⟩:=c2 c a Z Q z hs';rw[t]at B;cases B;exact e2
    .have Q:c<l.size:=by
      have:=(J4.1 hs).1;simpa[W]using this
     obtain⟨Z,hs'⟩:=O a c z Q;obtain⟨B,e2⟩:=c2 c a Z Q z hs';rw[hs]at B;cases B;exact K j _ s Y hs'
  .rename_i k off;split at d;rotate_left
   .cases d
   rename_i J q;split at d;rotate_left
   .cases d
   rename_i b6;simp only[Id]at d;obtain⟨rfl,rfl⟩:=d;simp only[CX,J7]at q;obtain⟨l,y,rfl⟩:=q;cases hx with
   |own h=>
    refine⟨_,?_,.own h⟩;rw[run_indexAt_array w T _ _ _ Gt,Iz (by rw[zx];omega),kr,HY y];simp[Ku]
  .cases d
 .cases d
end
structure HRes where
 pre:Prop
 res:SV
 own:List Blk
 chg:List Nat
abbrev HK:=List SV->List Blk->Option HRes
structure KLaw (P:Program) (key:TypeId) (K:KT):Prop where
 check:∀(w:World) (em:Bool) (q:List Int),LO K q->(Instr.checkKey em 10000 key (kv K q)).run P w=.ok () w
 find:∀(w:World) (q:List Int) (es:List MapEntry),LO K q->(∀e∈es,∃q',LO K q'/\e.key=kv K q')->
  ∃r,(Instr.findKey key (kv K q) es).run P w=.ok r w/\((r=none/\∀e∈es,e.key≠kv K q)\/∃(j:Nat) (e:MapEntry),r=some (j,e.val)/\es[j]?=some e/\e.key=kv K q)
 stays:∀(w:World) (q:List Int),LO K q->(Instr.keyThatStays (kv K q) (kv K q)).run P w=.ok (kv K q) w
 inj:∀(q q':List Int),LO K q->LO K q'->kv K q=kv K q'->q=q'
abbrev LD:=TypeId->Nat->Nat->(Nat->List SV)->List SV->Option (Prop×(Nat->List SV)×Bool)
inductive Ghost where
 |focus (t:Nat)
 |unfocus (k:Nat)
 |newFam (m:Nat) (T:TypeId) (Ts:List (TypeId×Nat))
 |nil (t:Nat) (T:TypeId) (sz:Nat)
 |sel (ks:List Nat)
 |fz (k:Nat)
 |keep (l:List Nat)
 |flat (k:Nat)
 |orders
 |two (t:Nat)
 |poolN (T:TypeId) (sz t:Nat)
 |poolPut (t p wt:Nat)
 |poolTake (k j p t wt:Nat)
 |poolSeal (k j p wt:Nat)
structure Env where
 P:Program
 C:FuncId->Option (List SV->Option (Prop×SV))
 glob:Nat->Option SV
 ng:Nat
 st:TypeId->Bool
 X:FuncId->Option LD:=λ_=>none
 fz:Nat->Bool:=λ_=>false
 na:Nat:=0
 ax:Nat->Bool:=λ_=>true
 av:Nat->Option Value:=λ_=>none
 kt:TypeId->Option KT:=λ_=>none
 Hc:FuncId->Option HK:=λ_=>none
 c2:Bool:=false
 gr:Nat->List Ghost:=λ_=>[]
 fs:FuncId->Bool:=λ_=>false
def Env.ak(E:Env)(k:Nat):Bool:=decide (k<E.na)&&E.ax k
def Env.an(E:Env)(k:Nat):Option Value:=if E.ak k then E.av k else none
theorem Env.an_ak{E:Env}{k:Nat}{x:Value}(h:E.an k=some x):E.ak k=true:=by
 unfold Env.an at h;split at h
 .assumption
 .cases h
theorem Env.ak_lt{E:Env}{k:Nat}(h:E.ak k=true):k<E.na:=by unfold Env.ak at h;simp only[Ij]at h;exact h.1
structure EnvOK (E:Env):Prop where
 st:∀T,E.st T=true->E.P.stoodInHeld T=false/\E.P.eqGuardType E.P.depth T=false/\∃fs,E.P.underlying T=some (.struct fs)/\∀f∈fs.toList,f.name≠ "_"
 kt:∀T K,E.kt T=some K->∃key elem,E.P.underlying T=some (.map key elem)/\KLaw E.P key K
def eqItems(a:List SV->List SV->Option Bool)(sz:Nat)(xs c:List SV):Nat->Nat->Option Bool
 |0,_=>some true
 |n+1,i=>match a ((xs.drop (i*sz)).take sz) ((c.drop (i*sz)).take sz)with
  |some b=>match eqItems a sz xs c n (i+1)with
   |some r=>some (b&&r)
   |none=>none
  |none=>none
def Xd(P:Program)(c:TypeId->List SV->List SV->Option Bool)(xs a:List SV):List Field->Option Bool
 | []=>some true
 |f::d=>match CX P f.type with
  |some n=>if f.offset+n<=xs.length/\f.offset+n<=a.length then
   match c f.type ((xs.drop f.offset).take n) ((a.drop f.offset).take n)with
   |some b=>match Xd P c xs a d with
    |some r=>some (b&&r)
    |none=>none
   |none=>none
   else none
  |none=>none
def NO(E:Env):Nat->TypeId->List SV->List SV->Option Bool
 |0,_,_,_=>none
 |d+1,T,c,f=>match E.P.underlying T with
  |some .bool=>match c,f with
   | [.bool a],[.bool b]=>some (a==b)
   |_,_=>none
  |some (.int _)=>match c,f with
   | [.int k a],[.int h b]=>if k=h then some (decide (a=b))else none
   |_,_=>none
  |some (.struct i)=>if E.st T then Xd E.P (NO E d) c f i.toList else none
  |some (.array n e)=>match CX E.P e with
   |some g=>if c.length=n*g/\f.length=n*g then eqItems (NO E d e) g c f n 0 else none
   |none=>none
  |_=>none
def HI(P:Program)(T:TypeId)(us:List Value):Value:=if(Io P T).getD false then .agg us.toArray else us.getD 0 undef
section
variable{E:Env}{w:World}{H:Nat->Prop}{μ:Mu}
theorem UB{P:Program}{T:TypeId}{a:TypeInfo}{d:TypeDesc}(b:P.underlying T=some d)(hi:P.info? T=some a)(us:List Value)(off:Nat)(c:off+a.size<=us.length)(e:HR d=false->a.size=1):
 (part T us.toArray off).run P w=.ok (HI P T ((us.drop off).take a.size)) w:=by
 unfold HI Io;simp only[part,It,b14 b,b,Iq];cases hb:HR d with
 |true=>
  have f:us.toArray.extract off (off+a.size)=((us.drop off).take a.size).toArray:=by simp[List.take_drop]
  simp only[Ke,Ie,HY hi,f]
 |false=>
  have g:=e hb;rw[g]at c⊢;have i:off<us.length:=Dv;simp[Iy i]
theorem b7d(_:EnvOK E)(m:Nat)(eq:TypeId->List SV->List SV->Option Bool)
 (ih:∀T xs ys b us vs,eq T xs ys=some b->us.length=xs.length->vs.length=ys.length->
   (∀(i:Nat) (s:SV) (v:Value),xs[i]?=some s->us[i]?=some v->D w H μ s v)->(∀(i:Nat) (s:SV) (v:Value),ys[i]?=some s->vs[i]?=some v->D w H μ s v)->
   (∃d,E.P.underlying T=some d/\(HR d=false->xs.length=1))/\(Op.equalIn m T (HI E.P T us) (HI E.P T vs)).run E.P w=.ok b w)
 {xs ys:List SV} {us vs:List Value} (pt:us.length=xs.length) (vz:vs.length=ys.length)
 (hx:∀(i:Nat) (s:SV) (v:Value),xs[i]?=some s->us[i]?=some v->D w H μ s v) (hy:∀(i:Nat) (s:SV) (v:Value),ys[i]?=some s->vs[i]?=some v->D w H μ s v):
 ∀(fs:List Field) (b:Bool),(∀f∈fs,f.name≠ "_")->Xd E.P eq xs ys fs=some b->(Op.eqFields m us.toArray vs.toArray fs).run E.P w=.ok b w:=by
 intro fs;induction fs with
 |nil=>intro b _ h;simp[Xd]at h;subst h;simp[Op.eqFields]
 |cons f fs ihf=>
  intro b hn h;simp only[Xd]at h;split at h;rotate_left
  .cases h
  rename_i n bn;split at h;rotate_left
  .cases h
  rename_i cz;split at h;rotate_left
  .cases h
  rename_i b1 jq;split at h;rotate_left
  .cases h
  rename_i r hr;cases h;simp only[CX,J7]at bn;obtain⟨inf,bq,rfl⟩:=bn;have cf:∀{l:List SV} {l':List Value},l'.length=l.length->(∀(i:Nat) (s:SV) (v:Value),l[i]?=some s->l'[i]?=some v->D w H μ s v)->
   ∀(i:Nat) (s:SV) (v:Value),((l.drop f.offset).take inf.size)[i]?=some s->((l'.drop f.offset).take inf.size)[i]?=some v->D w H μ s v:=by
   intro l l' _ hd i s v hs hv;exact hd _ _ _ (HE hs).2 (HE hv).2
  obtain⟨⟨d,hu,h1⟩,bp⟩:=ih f.type _ _ b1 ((us.drop f.offset).take inf.size) ((vs.drop f.offset).take inf.size) jq E5 E5 (cf pt hx) (cf vz hy);have jd:HR d=false->inf.size=1:=λhb=>by have:=h1 hb;simp at this;omega
  have p1:=UB (w:=w) hu bq us f.offset Dv jd;have p2:=UB (w:=w) hu bq vs f.offset Dv jd;have be:=ihf r (λf hf=>hn f (by simp[hf])) hr;have qt:f.name≠ "_" :=hn f Dx;simp only[Op.eqFields,Iz qt,It,p1,p2,bp];cases b1<;>simp[be]
theorem b8h(G:EnvOK E):∀(d:Nat) (T:TypeId) (xs g:List SV) (b:Bool) (us vs:List Value) (m:Nat),NO E d T xs g=some b->us.length=xs.length->vs.length=g.length->
 (∀(i:Nat) (s:SV) (v:Value),xs[i]?=some s->us[i]?=some v->D w H μ s v)->(∀(i:Nat) (s:SV) (v:Value),g[i]?=some s->vs[i]?=some v->D w H μ s v)->
 (∃d,E.P.underlying T=some d/\(HR d=false->xs.length=1))/\(Op.equalIn (d+m) T (HI E.P T us) (HI E.P T vs)).run E.P w=.ok b w:=by
 intro d;induction d with
 |zero=>intro T xs g b us vs m h;simp[NO]at h
 |succ d I=>
  intro T xs g b us vs m h A B hx x;simp only[NO]at h;have y:d+1+m=(d+m)+1:=Dv;split at h
  .rename_i f;split at h
   .rename_i a U;cases h;match us,vs,A,B with
    | [u],[v],_,_=>
      have o:=hx 0 _ u rfl rfl;have t:=x 0 _ v rfl rfl;cases o;cases t;refine⟨⟨_,f,λ_=>rfl⟩,?_⟩;simp only[HI,Io,f,Iq,HR,Ik,List.getD_cons_zero];rw[y,run_equalIn_bool' w _ T _ _ f]
   .cases h
  .rename_i k0 f;split at h
   .rename_i k a k' U;split at h
    .rename_i V;cases h;subst V;match us,vs,A,B with
     | [u],[v],_,_=>
       have o:=hx 0 _ u rfl rfl;have t:=x 0 _ v rfl rfl;cases o;cases t;refine⟨⟨_,f,λ_=>rfl⟩,?_⟩;simp only[HI,Io,f,Iq,HR,Ik,List.getD_cons_zero];rw[y,run_equalIn_int w _ T _ _ _ _ f];rfl
    .cases h
   .cases h
  .rename_i J f;split at h
   .rename_i W;obtain⟨X,s2,fs',K,Y⟩:=G.st T W;rw[f]at K;cases K;refine⟨⟨_,f,λh=>G2⟩,?_⟩;have L:E.P.fieldsOf T=J:=by simp[Program.fieldsOf,f]
    have:=b7d (w:=w) (H:=H) (μ:=μ) G (d+m) (NO E d) (λT xs g b us vs Z o t h3 h4=>I T xs g b us vs m Z o t h3 h4) A B hx x J.toList b Y h;simp only[HI,Io,f,Iq,HR,Ke];rw[y,run_equalIn_struct w _ T _ _ (by rw[L];exact f) X,L];exact this
   .cases h
  .rename_i n e f;split at h;rotate_left
   .cases h
   rename_i sz M;split at h;rotate_left
   .cases h
   rename_i bc;simp only[CX,J7]at M;obtain⟨c,z,rfl⟩:=M;refine⟨⟨_,f,λh=>G2⟩,?_⟩;have hc:E.P.cellsOf e=c.size:=by simp[Program.cellsOf,z]
   simp only[HI,Io,f,Iq,HR,Ke];rw[y,run_equalIn_array w (d+m) _ _ f z,hc];have C:∀(q i:Nat) (b:Bool),i+q=n->eqItems (NO E d e) c.size xs g q i=some b->(Op.eqItems (d+m) e c.size us.toArray vs.toArray (List.range' i q)).run E.P w=.ok b w:=by
    intro q;induction q with
    |zero=>intro i b _ h;simp[eqItems]at h;subst h;simp[Op.eqItems]
    |succ q F=>
     intro i b hi h;simp only[eqItems]at h;split at h;rotate_left
     .cases h
     rename_i N jq;split at h;rotate_left
     .cases h
     rename_i r hr;cases h;have mz:i*c.size+c.size<=n*c.size:=I6;have O:∀{l:List SV} {Q:List Value},(∀(i:Nat) (s:SV) (v:Value),l[i]?=some s->Q[i]?=some v->D w H μ s v)->
      ∀(j:Nat) (s:SV) (v:Value),((l.drop (i*c.size)).take c.size)[j]?=some s->((Q.drop (i*c.size)).take c.size)[j]?=some v->D w H μ s v:=
      λhd j s v hs hv=>hd _ _ _ (HE hs).2 (HE hv).2
     obtain⟨⟨dd,R,o⟩,bp⟩:=I e _ _ N ((us.drop (i*c.size)).take c.size) ((vs.drop (i*c.size)).take c.size) m jq E5 E5 (O hx) (O x);have S:HR dd=false->c.size=1:=λhb=>by have:=o hb;simp at this;omega
     have p1:=UB (w:=w) R z us (i*c.size) Dv S;have p2:=UB (w:=w) R z vs (i*c.size) Dv S;have be:=F (i+1) r Dv hr;simp only[List.range'_succ,Op.eqItems,It,p1,p2,bp];cases N<;>simp[be]
   rw[List.range_eq_range'];exact C n 0 b Dv h
  .cases h
def c6y(E:Env)(c:BinOp)(T:TypeId)(x y:SV):Option (Prop×SV):=
 match c,x,y with
 |.eql,.agg d,.agg e=>if E.st T then(NO E 8 T d e).map λb=>(True,.bool b)else none
 |.neq,.agg d,.agg e=>if E.st T then(NO E 8 T d e).map λb=>(True,.bool (!b))else none
 |.eql,.bool a,.bool b=>match E.P.underlying T with
  |some .bool=>some (True,.bool (a==b))
  |_=>none
 |.neq,.bool a,.bool b=>match E.P.underlying T with
  |some .bool=>some (True,.bool (a !=b))
  |_=>none
 |.eql,.sl _ n _ _,.con (.slice none 0 0)=>match E.P.underlying T with
  |some (.slice _)=>some (True,.ub (n=0) True)
  |_=>none
 |.neq,.sl _ n _ _,.con (.slice none 0 0)=>match E.P.underlying T with
  |some (.slice _)=>some (True,.ub True (n=0))
  |_=>none
 |.eql,.con (.slice none 0 0),.con (.slice none 0 0)=>match E.P.underlying T with
  |some (.slice _)=>some (True,.bool true)
  |_=>none
 |.neq,.con (.slice none 0 0),.con (.slice none 0 0)=>match E.P.underlying T with
  |some (.slice _)=>some (True,.bool false)
  |_=>none
 |.eql,.fp f _ _ _,.con (.pointer none)=>match E.P.underlying T with
  |some (.pointer _)=>some (True,.bool (!f))
  |_=>none
 |.neq,.fp f _ _ _,.con (.pointer none)=>match E.P.underlying T with
  |some (.pointer _)=>some (True,.bool f)
  |_=>none
 |.and,.int k a,.int g b=>if k=g then some (b=1,.int k (a%2))else none
 |.shl,.int k a,.int _ b=>some (0<=b/\b.toNat<=k.bits/\AE k (a*2^b.toNat),.int k (a*2^b.toNat))
 |.shr,.int k a,.int _ b=>some (0<=b/\b.toNat<=k.bits,.int k (a/2^b.toNat))
 |c,x,y=>f63 c x y
theorem f6v(k:IntKind)(a:Int):k.wrap ((BitVec.ofInt k.bits a &&& BitVec.ofInt k.bits 1).toNat:Int)=a%2:=by
 have d:(BitVec.ofInt k.bits a &&& BitVec.ofInt k.bits 1).toNat=(a%2).toNat:=by
  have b:(BitVec.ofInt k.bits 1).toNat=1:=by cases k<;>rfl
  rw[BitVec.toNat_and,b,Nat.and_one_is_mod,BitVec.toNat_ofInt];have e:(2:Int)∣((2^k.bits:Nat):Int):=by cases k<;>decide
  have c:0<=a%((2^k.bits:Nat):Int):=Ln _ (by cases k<;>decide);have h3:(a%((2^k.bits:Nat):Int))%2=a%2:=Int.emod_emod_of_dvd a e;omega
 rw[d];have c:0<=a%2:=Ln _ Dy;have b:a%2<2:=Lg _ Dy;rw[M9 c];exact Qj (by cases k<;>simp only[AE]<;>omega)
theorem c36{T:TypeId}{fs:Array Field}(a:E.P.underlying T=some (.struct fs))(us:List Value):HI E.P T us=.agg us.toArray:=by simp[HI,Io,a,HR]
theorem b1x{P:Program}{w:World}{T e:TypeId}(a:P.underlying T=some (.pointer e))(p:Option Addr):(Op.equalIn 10000 T (.pointer p) (.pointer none)).run P w=.ok p.isNone w:=by rw[Op.equalIn,Kt,K5 a,Mk];cases p<;>rfl
theorem b0y{P:Program}{w:World}{T e:TypeId}(b:P.underlying T=some (.slice e))(a:Option Addr)(n m:Nat):(Op.equalIn 10000 T (.slice a n m) (.slice none 0 0)).run P w=.ok a.isNone w:=by rw[Op.equalIn,Kt,K5 b,Mk];cases a<;>rfl
theorem b29{P:Program}{w:World}{T e:TypeId}(c:P.underlying T=some (.slice e))(xo yo:Operand)(a:Option Addr)(n m:Nat):(do eqGuard .eql T xo yo (.slice a n m) (.slice none 0 0);binOp .eql T (.slice a n m) (.slice none 0 0):Sem Value).run P w=.ok (.bool a.isNone) w:=by rw[show (do eqGuard .eql T xo yo (.slice a n m) (.slice none 0 0);binOp .eql T (.slice a n m) (.slice none 0 0):Sem Value)=(do pure ();(do let b<-Op.equalIn 10000 T (.slice a n m) (.slice none 0 0);pure (.bool b):Sem Value))from rfl];simp only[Ie,b0y c]
theorem b2e{P:Program}{w:World}{T e:TypeId}(c:P.underlying T=some (.slice e))(xo yo:Operand)(a:Option Addr)(n m:Nat):(do eqGuard .neq T xo yo (.slice a n m) (.slice none 0 0);binOp .neq T (.slice a n m) (.slice none 0 0):Sem Value).run P w=.ok (.bool (!a.isNone)) w:=by rw[show (do eqGuard .neq T xo yo (.slice a n m) (.slice none 0 0);binOp .neq T (.slice a n m) (.slice none 0 0):Sem Value)=(do pure ();(do let b<-Op.equalIn 10000 T (.slice a n m) (.slice none 0 0);pure (.bool (!b)):Sem Value))from rfl];simp only[Ie,b0y c]
theorem d0n(J:EnvOK E){K:BinOp}{T:TypeId}{xo yo:Operand}{x y s:SV}{v u:Value}{C:Prop}(hx:D w H μ x v)(f:D w H μ y u)(c:c6y E K T x y=some (C,s))(j:C):
 ∃r,(do eqGuard K T xo yo v u;binOp K T v u).run E.P w=.ok r w/\D w H μ s r:=by
 have agg:∀{q t:List SV} {v u:Value} {b:Bool},E.st T=true->NO E 8 T q t=some b->D w H μ (.agg q) v->D w H μ (.agg t) u->
  ∃z A:List Value,v=.agg z.toArray/\u=.agg A.toArray/\(Op.equalIn 10000 T v u).run E.P w=.ok b w:=by
  intro q t v u b n h hx f;cases hx with
  |agg z S U=>
   cases f with
   |agg A V W=>
    obtain⟨_,B⟩:=b8h (w:=w) (H:=H) (μ:=μ) J 8 T q t b z A 9992 h S V U W;obtain⟨s1,s2,fs,d,s3⟩:=J.st T n;rw[c36 d,c36 d]at B;exact⟨z,A,rfl,rfl,B⟩
 unfold c6y at c;split at c
 .rename_i q t;split at c;rotate_left
  .cases c
  rename_i n;simp only[Ic]at c;obtain⟨b,L,rfl,rfl⟩:=c;obtain⟨z,A,rfl,rfl,B⟩:=agg n L hx f;refine⟨_,?_,.bool⟩;rw[Kt,run_eqGuard_agg w _ _ _ _ _ _ (J.st T n).2.1,Mk,run_eql_struct,B,Mk]
 .rename_i q t;split at c;rotate_left
  .cases c
  rename_i n;simp only[Ic]at c;obtain⟨b,L,rfl,rfl⟩:=c;obtain⟨z,A,rfl,rfl,B⟩:=agg n L hx f;refine⟨_,?_,.bool⟩;rw[Kt,run_eqGuard_agg w _ _ _ _ _ _ (J.st T n).2.1,Mk,run_neq_struct,B,Mk]
 .split at c
  .rename_i d;cases c;cases hx;cases f;refine⟨_,?_,.bool⟩;simp only[eqGuard_at_bool,Ie,binOp,Op.equal,Op.maxDepth];rw[run_equalIn_bool' w 9999 T _ _ d];rfl
  .cases c
 .split at c
  .rename_i d;cases c;cases hx;cases f;refine⟨_,?_,.bool⟩;simp only[eqGuard_at_bool,Ie,binOp,Op.equal,Op.maxDepth];rw[run_equalIn_bool' w 9999 T _ _ d];rfl
  .cases c
 .split at c;rotate_left
  .cases c
  rename_i e d;cases c;cases f;cases hx with
  |sl a b o m g F hx X M Y N=>exact⟨_,b29 d xo yo _ _ _,.ub (λe=>Nat.eq_zero_of_not_pos (λG=>by rw[(M G).1]at e;cases e)) (λ_=>J5)⟩
 .split at c;rotate_left
  .cases c
  rename_i e d;cases c;cases f;cases hx with
  |sl a b o m g F hx X M Y N=>exact⟨_,b2e d xo yo _ _ _,.ub (λ_=>J5) (λe=>Nat.eq_zero_of_not_pos (λG=>by rw[(M G).1]at e;cases e))⟩
 .split at c;rotate_left
  .cases c
  rename_i e d;cases c;cases f;cases hx;exact⟨_,b29 d xo yo _ _ _,.bool⟩
 .split at c;rotate_left
  .cases c
  rename_i e d;cases c;cases f;cases hx;exact⟨_,b2e d xo yo _ _ _,.bool⟩
 .rename_i I k i O;split at c;rotate_left
  .cases c
  rename_i e d;cases c;cases f;cases hx with
  |fp h=>
  refine⟨_,?_,.bool⟩;have Q:∃p,v=.pointer p/\p.isNone= !I:=by
   cases I with
   |true=>
    simp only[Ke]at h;obtain⟨_,_,b,_,_,rfl⟩:=h;exact⟨_,rfl,rfl⟩
   |false=>
    simp only[Ik]at h;exact⟨none,h,rfl⟩
  obtain⟨p,rfl,j⟩:=Q;rw[show (do eqGuard .eql T xo yo (Value.pointer p) (Value.pointer none);binOp .eql T (Value.pointer p) (Value.pointer none):Sem Value)=(do pure ();(do let b<-Op.equalIn 10000 T (.pointer p) (.pointer none);pure (.bool b):Sem Value))from rfl];simp only[Ie,b1x d,j]
 .rename_i I k i O;split at c;rotate_left
  .cases c
  rename_i e d;cases c;cases f;cases hx with
  |fp h=>
  refine⟨_,?_,.bool⟩;have Q:∃p,v=.pointer p/\p.isNone= !I:=by
   cases I with
   |true=>
    simp only[Ke]at h;obtain⟨_,_,b,_,_,rfl⟩:=h;exact⟨_,rfl,rfl⟩
   |false=>
    simp only[Ik]at h;exact⟨none,h,rfl⟩
  obtain⟨p,rfl,j⟩:=Q;rw[show (do eqGuard .neq T xo yo (Value.pointer p) (Value.pointer none);binOp .neq T (Value.pointer p) (Value.pointer none):Sem Value)=(do pure ();(do let b<-Op.equalIn 10000 T (.pointer p) (.pointer none);pure (.bool (!b)):Sem Value))from rfl];simp only[Ie,b1x d,j];simp
 .rename_i k a l b;split at c;rotate_left
  .cases c
  rename_i Z;subst Z;simp only[Id]at c;obtain⟨rfl,rfl⟩:=c;cases hx;cases f;subst j;refine⟨_,?_,.int⟩;rw[show (do eqGuard .and T xo yo (Value.int k a) (Value.int k 1);binOp .and T (Value.int k a) (Value.int k 1):Sem Value)=(do pure ();Op.intBits .and k a 1)from by simp[eqGuard,binOp]];simp only[Op.intBits,Ie,f6v]
 .rename_i k a l b;simp only[Id]at c;obtain⟨rfl,rfl⟩:=c;cases hx;cases f;obtain⟨G,h1,h2⟩:=j;refine⟨_,?_,.int⟩;have R:¬b<0:=Dv;have F:min b.toNat k.bits=b.toNat:=Dv;rw[show (do eqGuard .shl T xo yo (Value.int k a) (Value.int l b);binOp .shl T (Value.int k a) (Value.int l b):Sem Value)=(do pure ();Op.shift .shl k a l b)from by simp[eqGuard,binOp]];simp only[Op.shift,J3 R,F,Ie,Qj h2]
 .rename_i k a l b;simp only[Id]at c;obtain⟨rfl,rfl⟩:=c;cases hx;cases f;obtain⟨G,h1⟩:=j;refine⟨_,?_,.int⟩;have R:¬b<0:=Dv;have F:min b.toNat k.bits=b.toNat:=Dv;have N:a.fdiv (2^b.toNat)=a/2^b.toNat:=Int.fdiv_eq_ediv_of_nonneg _ (Int.pow_nonneg Dy);rw[show (do eqGuard .shr T xo yo (Value.int k a) (Value.int l b);binOp .shr T (Value.int k a) (Value.int l b):Sem Value)=(do pure ();Op.shift .shr k a l b)from by simp[eqGuard,binOp]];simp only[Op.shift,J3 R,F,Ie,N]
 .exact d64 hx f c j
end
def c2j(a:Nat->Option (Nat×Nat))(cells:List SV):List (Nat×SV)->Option (List SV)
 | []=>some cells
 |(i,s)::c=>match a i,s.cells with
  |some (d,b),some e=>if e.length=b/\d+b<=cells.length then c2j a (over cells d e) c else none
  |_,_=>none
def Ov(P:Program)(T:TypeId):Option (List SV):=match P.info? T with
 |some i=>i.zero.map λz=>z.cells.toList.map Uf
 |none=>none
def f48(P:Program)(T:TypeId):Option (Nat->Option (Nat×Nat)):=match P.underlying T with
 |some (.struct a)=>if a.toList.all (λf=>(CX P f.type).isSome)then some λi=>(a[i]?).map λf=>(f.offset,(CX P f.type).getD 0)else none
 |some (.array _ e)=>(CX P e).map λb=>λi=>some (i*b,b)
 |_=>none
def c59(P:Program)(T:TypeId)(a:List (Nat×SV)):Option (Prop×SV):=do
 let z<-Ov P T
 let pl<-f48 P T
 let b<-c2j pl z a
 some (True,.agg b)
section
variable{P:Program}{w:World}{H:Nat->Prop}{μ:Mu}
def DL(w:World)(H:Nat->Prop)(μ:Mu)(cs:List SV)(vs:List Value):Prop:=
 vs.length=cs.length/\∀(i:Nat) (s:SV) (v:Value),cs[i]?=some s->vs[i]?=some v->D w H μ s v
theorem DL.over{cs us:List SV}{vs xs:List Value}{off:Nat}(h:DL w H μ cs vs)(k:DL w H μ us xs)(c:off+us.length<=cs.length):DL w H μ (over cs off us) (over vs off xs):=by
 refine⟨by rw[Oa,Oa];exact h.1,λi s v hs a=> ?_⟩;rw[NF _ _ _ _ c]at hs;rw[NF _ _ _ _ (by rw[k.1,h.1];exact c),k.1]at a;split at hs
 .rename_i b;rw[Iz b]at a;exact k.2 _ _ _ hs a
 .rename_i b;rw[J3 b]at a;exact h.2 _ _ _ hs a
theorem b7s(vs:List Value):∀(k off:Nat) (cs:List Value),off+k+vs.length<=cs.length->(vs.zipIdx k).foldl (λ(cs:Array Value) (p:Value×Nat)=>cs.setIfInBounds (off+p.2) p.1) cs.toArray=(over cs (off+k) vs).toArray:=by
 induction vs with
 |nil=>intro k off cs h;rw[c8t _ _ E2];rfl
 |cons v vs a=>
  intro k off cs h;simp only[Kh]at h;simp only[List.zipIdx_cons,M1];have:cs.toArray.setIfInBounds (off+k) v=(cs.set (off+k) v).toArray:=Dx;rw[this,a _ _ _ (by rw[Kj];omega),c33 _ _ _ _ Dv];rfl
theorem d05{b:Nat->Option (Nat×Nat)}:∀(a:List (Nat×SV)) (cs out:List SV) (vs:List Value) (ps:List (Nat×Value)),DL w H μ cs vs->c2j b cs a=some out->ps.length=a.length->
 (∀(i j:Nat) (s:SV),a[i]?=some (j,s)->∃v,ps[i]?=some (j,v)/\D w H μ s v)->∃d,Instr.fill b vs.toArray ps=some (List.toArray d)/\DL w H μ out d:=by
 intro a;induction a with
 |nil=>
  intro cs out vs ps f h hl _;cases ps with
  |nil=>simp[c2j]at h;subst h;exact⟨vs,rfl,f⟩
  |cons _ _=>simp at hl
 |cons p a n=>
  intro cs out vs ps f h hl m;obtain⟨i,s⟩:=p;cases ps with
  |nil=>simp at hl
  |cons q ps=>
   obtain⟨v,e,o⟩:=m 0 i s rfl;simp only[Mp,Ju]at e;subst e;simp only[c2j]at h;split at h;rotate_left
   .cases h
   rename_i c size d r u;split at h;rotate_left
   .cases h
   rename_i y;obtain⟨rfl,z⟩:=y;obtain⟨g,A⟩:=o.cells u;have B:=f.over (xs:=v.cells.toList) ⟨g,A⟩ z;obtain⟨l,C,E⟩:=n _ out _ ps B h E9 (λk j t ht=>by simpa using m (k+1) j t F9);refine⟨l,?_,E⟩;simp only[Instr.fill,r];have F:v.cells.size=d.length:=by simpa using g
   rw[F];have G:¬(c+d.length>vs.toArray.size):=by simp[f.1];omega
   simp only[ne_eq,not_true_eq_false,decide_false,Ji G,Bool.or_self,Ik];have:(v.cells.zipIdx.foldl (λcs x=>cs.setIfInBounds (c+x.2) x.1) vs.toArray)=(over vs c v.cells.toList).toArray:=by have:=b7s v.cells.toList 0 c vs (by have q:=f.1;have q2:v.cells.toList.length=d.length:=(by simpa using g);omega);rw[<-Array.foldl_toList];simpa using this
   rw[this];exact C
theorem b7b(fs:List Field)(h:∀f∈fs,(CX P f.type).isSome=true):
 (fs.mapM λ(f:Field)=>(do pure (f.offset,<-sizeOf f.type):Sem (Nat×Nat))).run P w=.ok (fs.map λf=>(f.offset,(CX P f.type).getD 0)) w:=by
 induction fs with
 |nil=>simp
 |cons f fs c=>
  have d:=h f Dx;have a:=c (λf e=>h f (by simp[e]));obtain⟨n,b⟩:=Option.isSome_iff_exists.1 d;have hs:=b;simp only[CX,J7]at hs;obtain⟨inf,g,rfl⟩:=hs;simp only[Lw,Ie,HY g,a,Km,b,Kn]
theorem SI{T:TypeId}{z:List SV}(h:Ov P T=some z):∃(a:TypeInfo) (b:Value),P.info? T=some a/\a.zero=some b/\z=b.cells.toList.map Uf/\DL w H μ z b.cells.toList:=by
 unfold Ov at h;split at h
 .rename_i a c;simp only[J7]at h;obtain⟨b,d,rfl⟩:=h;exact⟨a,b,c,d,rfl,Dx,b43 _⟩
 .cases h
theorem c57{T:TypeId}{a:List (Nat×SV)}{ps:List (Nat×Value)}{s:SV}{o:Prop}(q:c59 P T a=some (o,s))(A:ps.length=a.length)
 (B:∀(i j:Nat) (s:SV),a[i]?=some (j,s)->∃v,ps[i]?=some (j,v)/\D w H μ s v):∃r,(Instr.build T ps.toArray).run P w=.ok r w/\D w H μ s r:=by
 simp only[c59,Im,Id]at q;obtain⟨z,C,pl,c,t,E,rfl,rfl⟩:=q;obtain⟨inf,F,u,x,rfl,G⟩:=SI (w:=w) (H:=H) (μ:=μ) C;have g:∀b,b=pl->∃d:List Value,Instr.fill b F.cells ps=some d.toArray/\DL w H μ t d:=by intro b e;subst e;obtain⟨d,I,J⟩:=d05 a _ t _ ps G E A B;exact⟨d,by simpa using I,J⟩
 unfold f48 at c;split at c
 .rename_i m p;split at c;rotate_left
  .cases c
  rename_i K;simp only[Ju]at c;have L:(m.mapM λ(f:Field)=>(do pure (f.offset,<-sizeOf f.type):Sem (Nat×Nat))).run P w=.ok (m.map λf=>(f.offset,(CX P f.type).getD 0)) w:=by rw[Array.mapM_eq_mapM_toList,Sem.run_map,b7b m.toList (λf h=>by simpa using Ja.1 K f h)];simp only[Mk];congr 1;apply Array.ext';simp
  have k:(λi=>(m.map λf=>(f.offset,(CX P f.type).getD 0))[i]?)=pl:=by rw[<-c];funext i;simp
  obtain⟨d,h,l⟩:=g _ k;refine⟨.agg d.toArray,?_,.agg d l.1 l.2⟩;simp only[Instr.build,Ie,VH u x,K5 p,L,h]
 .rename_i n e p;simp only[J7]at c;obtain⟨sz,y,c⟩:=c;simp only[CX,J7]at y;obtain⟨inf',M,rfl⟩:=y;obtain⟨d,h,l⟩:=g _ c;refine⟨.agg d.toArray,?_,.agg d l.1 l.2⟩;simp only[Instr.build,Ie,VH u x,K5 p,HY M,h]
 .cases c
def Wj(P:Program)(own:List Blk)(ρ:Operand->Option SV)(h:Op):Option (Prop×SV×Blk):=
 match h with
 |.alloc T=>(Ov P T).bind λz=>if z.all SV.isCell then some (True,.own own.length 0,.cells T z)else none
 |.box T x=>(ρ x).bind λs=>s.cells.bind λf=>if f.all SV.isCell then some (True,.own own.length 0,.cells T f)else none
 |.buildSlice T 0 ⟨[]⟩=>(OZ P T).bind λe=>(CX P e).map λb=>(True,.osl own.length,.row e b 0 (λ_=>[]) (some 0))
 |.buildSlice T n d=>(OZ P T).bind λe=>(CX P e).bind λb=>(Ov P e).bind λz=>
  (d.toList.mapM λ(p:Nat×Operand)=>(ρ p.2).bind λs=>s.cells.map λf=>(p.1,f)).bind λg=>
    if g.map (·.1)=List.range n/\0<n/\0<b/\n*b<=16777216/\z.length=b/\z.all SV.isCell/\g.all (λp=>p.2.all SV.isCell&&p.2.all SV.pure&&decide (p.2.length=b))then
     some (True,.osl own.length,.row e b n (λi=>(g.map (·.2)).getD i []) (some n))
    else none
 |.makeSlice T l c=>(OZ P T).bind λe=>(P.info? e).bind λa=>(Ov P e).bind λz=>
  match ρ l,ρ c with
  |some (.int _ n),some (.int _ m)=>if z.length=a.size/\z.all SV.isCell/\z.all SV.pure/\0<a.size then
   some (0<=n/\n<=m/\(a.bytes:Int)*m<=281474976710656/\m<=9223372036854775807,.osl own.length,.row e a.size n.toNat (λ_=>z) (some m.toNat))else none
  |_,_=>none
 |_=>none
structure After (B0:Nat) (X A:Nat->Prop) (w w':World) (μ μ':Mu) (own':List Blk):Prop where
 own:Own B0 X A w' μ' own'
 fr:Fr B0 X w w'
 keeps:Keeps w w' (held A μ) (held A μ') μ μ'
theorem SO{cs:List SV}{vs:List Value}(h:DL w H μ cs vs)(c:cs.all SV.isCell=true):∀v∈vs,v.oneCell'=true:=by
 intro v d;obtain⟨i,a,e⟩:=Jw.1 d;have b:i<cs.length:=by rw[<-h.1];exact a
 have f:=h.2 i cs[i] vs[i] (Iy b) (Iy a);rw[<-e];exact f.one (Ja.1 c _ (K2 b))
variable{B0:Nat}{X A:Nat->Prop}{own ownN:List Blk}
theorem c2v(f:Own B0 X A w μ ownN)(d:B0<=w.heap.size)(g:μ own.length=none){T:TypeId}{cs:List SV}{vs:List Value}(k:ownN[own.length]?=some (.cells T cs))(c:DL w (held A μ) μ cs vs)(l:cs.all SV.isCell=true):
 ∃a,After B0 X A w (w.alloc (.cells vs.toArray T)) μ a ownN/\(∀j,j≠own.length->a j=μ j)/\D (w.alloc (.cells vs.toArray T)) (held A a) a (.own own.length 0) (.pointer (some ⟨w.heap.size,0,none⟩)):=by
 obtain⟨o1,o2⟩:=Tn f d g k (.cells vs.toArray T) (.pointer (some ⟨w.heap.size,0,none⟩)) (λb h=>(c5n.1 h).symm) (λa e m=>by refine⟨w.heap.size,vs,rfl,Mr w _,c.1,SO c l,λi s v hs n=>(c.2 i s v hs n).keep m⟩)
 exact⟨_,⟨o1,Fr.alloc _ d,o2⟩,λj hj=>Ek,.own Ed⟩
theorem c4k(q:Own B0 X A w μ ownN)(d:B0<=w.heap.size)(r:μ own.length=none){T:TypeId}{sz n m:Nat}{f:Nat->List SV}{vs:List Value}(t:ownN[own.length]?=some (.row T sz n f (some m)))(g:n<=m)(k:m<=maxLen)
 (l:∀i,i<n->(f i).length=sz/\(f i).all SV.pure=true) (bc:m*sz<=vs.length) (u:∀v∈vs,v.oneCell'=true) (x:∀(i j:Nat) (s:SV) (v:Value),i<n->(f i)[j]?=some s->vs[i*sz+j]?=some v->D w (held A μ) μ s v):
 ∃a,After B0 X A w (w.alloc (.cells vs.toArray T)) μ a ownN/\(∀j,j≠own.length->a j=μ j)/\D (w.alloc (.cells vs.toArray T)) (held A a) a (.osl own.length) (.slice (some ⟨w.heap.size,0,none⟩) n m):=by
 obtain⟨o1,o2⟩:=Tn q d r t (.cells vs.toArray T) (.slice (some ⟨w.heap.size,0,none⟩) n m) (by
  intro b o;rcases Kg m with c|c
  .subst c;exact absurd o b9i
  .exact(Ya c).1 o) (λa e y=>by
  rcases Kg m with c|c
  .exact⟨_,m,rfl,g,k,.inr rfl,l,.inl c⟩
  refine⟨_,m,rfl,g,k,.inr rfl,l,.inr ⟨w.heap.size,0,vs,c,rfl,Mr w _,Dv,u,λi j s v z hs hv=>(x i j s v z hs Fz).keep y⟩⟩)
 exact⟨_,⟨o1,Fr.alloc _ d,o2⟩,λj hj=>Ek,.osl Ed⟩
end
section
variable{P:Program}{w:World}{μ:Mu}{B0:Nat}{X A:Nat->Prop}{own ownN:List Blk}
theorem OI{α β:Type}{f:α->Option β}:∀{l:List α} {r:List β},l.mapM f=some r->r.length=l.length/\∀(i:Nat) (x:α),l[i]?=some x->∃y,r[i]?=some y/\f x=some y:=by
 intro l;induction l with
 |nil=>intro r h;simp at h;subst h;exact⟨rfl,λi x h=>E6⟩
 |cons a l c=>
  intro r h;simp only[Lw,Im,Option.pure_def,Ju]at h;obtain⟨b,d,r',e,rfl⟩:=h;obtain⟨h1,g⟩:=c e;refine⟨En,λi x hx=> ?_⟩;match i with
  |0=>simp at hx;subst hx;exact⟨b,rfl,d⟩
  |i+1=>simpa using g i x (by simpa using hx)
theorem c4m(c:Own B0 X A w μ ownN)(d:B0<=w.heap.size)(e:μ own.length=none){T:TypeId}{z:List SV}(f:Ov P T=some z)(g:z.all SV.isCell=true)(h:ownN[own.length]?=some (.cells T z)):
 ∃r b a,(Instr.alloc T true (.tuple #[])).run P w=.ok r b/\After B0 X A w b μ a ownN/\(∀j,j≠own.length->a j=μ j)/\D b (held A a) a (.own own.length 0) r:=by
 obtain⟨inf,zv,i,k,rfl,l⟩:=SI (w:=w) (H:=held A μ) (μ:=μ) f;obtain⟨a,m,n,o⟩:=c2v c d e h l g;refine⟨_,_,a,?_,m,n,o⟩;simp[Instr.alloc,VH i k,newVar,newRow]
theorem d12(c:Own B0 X A w μ ownN)(d:B0<=w.heap.size)(e:μ own.length=none){T:TypeId}{s:SV}{v:Value}{cs:List SV}(f:D w (held A μ) μ s v)(hs:s.cells=some cs)(g:cs.all SV.isCell=true)(h:ownN[own.length]?=some (.cells T cs)):
 ∃r b a,(Instr.box T v).run P w=.ok r b/\After B0 X A w b μ a ownN/\(∀j,j≠own.length->a j=μ j)/\D b (held A a) a (.own own.length 0) r:=by
 obtain⟨a,i,k,l⟩:=c2v c d e (vs:=v.cells.toList) h (f.cells hs) g;refine⟨_,_,a,?_,i,k,l⟩;simp[Instr.box,newVar,newRow]
theorem b3a(z:Array Value)(n i:Nat)(u:Value)(h:(madeCells z n).toList[i]?=some u):i<n/\u=z[i%z.size]!:=by simp only[madeCells,Array.toList_map,Ih]at h;obtain⟨x,hx,rfl⟩:=h;rw[Kz]at hx;obtain⟨a,e⟩:=K9.1 hx;simp at a e;subst e;exact⟨a,rfl⟩
theorem d0p(t:Own B0 X A w μ ownN)(x:B0<=w.heap.size)(y:μ own.length=none){T e:TypeId}{a:TypeInfo}{z:List SV}{kl kc:IntKind}{n m:Int}(B:OZ P T=some e)(hi:P.info? e=some a)(C:Ov P e=some z)
 (tk:z.length=a.size) (E:z.all SV.isCell=true) (F:z.all SV.pure=true) (G:0<a.size) (I:0<=n) (J:n<=m) (K:(a.bytes:Int)*m<=281474976710656) (L:m<=9223372036854775807) (M:ownN[own.length]?=some (.row e a.size n.toNat (λ_=>z) (some m.toNat))):
 ∃r d b,(Instr.makeSlice T (.int kl n) (.int kc m)).run P w=.ok r d/\After B0 X A w d μ b ownN/\(∀j,j≠own.length->b j=μ j)/\D d (held A b) b (.osl own.length) r:=by
 obtain⟨inf',c,g,N,rfl,k⟩:=SI (w:=w) (H:=held A μ) (μ:=μ) C;rw[hi]at g;cases g;have l:c.cells.size=a.size:=Fa;have O:=run_make (P:=P) w T e a c (QT B) hi N kl kc n m I J K L;have Q:∀v∈c.cells.toList,v.oneCell'=true:=SO k E;have o:∀i u,(madeCells c.cells (m.toNat*a.size)).toList[i]?=some u->c.cells.toList[i%a.size]?=some u:=by
  intro i u h;obtain⟨_,rfl⟩:=b3a _ _ _ _ h;rw[l];have q:i%a.size<c.cells.size:=by rw[l];exact Nk _ G
  rw[Kz,Lh c.cells (i%a.size) q,M2 q]
 obtain⟨b,R,S,U⟩:=c4k t x y (vs:=(madeCells c.cells (m.toNat*a.size)).toList) M Dv F0 (λi _=>⟨Fa,F⟩) (by simp[size_madeCells]) (λv f=>by
  obtain⟨i,hi,e⟩:=Jw.1 f;exact Q v (J6 (o i v (by rw[<-e];exact Iy hi)))) (λi j s v hi hs f=>by
  have V:j<a.size:=by rw[<-tk];exact(J4.1 hs).1
  have:=o _ _ f;rw[Mh,Nat.mul_add_mod,Nat.mod_eq_of_lt V]at this;exact k.2 j s v hs this)
 refine⟨_,_,b,?_,R,S,U⟩;rw[O]
def RA(b:Bool):SV->SV->SV
 |.int k n,.int e m=>if k=e then .int k (bif b then n else m)else .any
 |.bool x,.bool y=>.bool (bif b then x else y)
 |.sl d n f c,.sl a g h j=>if d=a then .sl d (bif b then n else g) (λi=>bif b then f i else h i) (bif b then c else j)else .any
 |s,t=>if b then s else t
def DC(b:Bool):List SV->List SV->List SV
 |s::r,t::q=>RA b s t::DC b r q
 |l,a=>if b then l else a
theorem d73(b:Bool)(s t:SV):(∀{w:World} {H:Nat->Prop} {μ:Mu} {v:Value},D w H μ (if b then s else t) v->D w H μ (RA b s t) v)/\((if b then s else t).pure=true->(RA b s t).pure=true):=by
 have a:(∀{w:World} {H:Nat->Prop} {μ:Mu} {v:Value},D w H μ (cond b s t) v->D w H μ (RA b s t) v)/\((cond b s t).pure=true->(RA b s t).pure=true):=by
  unfold RA;split
  .split
   .rename_i e;subst e;cases b<;>exact⟨λh=>h,λh=>h⟩
   .exact⟨λ_=>.any,λ_=>rfl⟩
  .cases b<;>exact⟨λh=>h,λh=>h⟩
  .split
   .rename_i e;subst e;cases b<;>exact⟨λh=>h,λh=>h⟩
   .exact⟨λ_=>.any,λ_=>rfl⟩
  .cases b<;>exact⟨λh=>h,λh=>h⟩
 cases b<;>exact a
theorem YU(b:Bool):∀l a:List SV,(DC b l a).length=(if b then l else a).length/\((if b then l else a).all SV.pure=true->(DC b l a).all SV.pure=true)/\
 ∀(q:Nat) (c:SV),(DC b l a)[q]?=some c->∃s,(if b then l else a)[q]?=some s/\∀{w:World} {H:Nat->Prop} {μ:Mu} {v:Value},D w H μ s v->D w H μ c v
 | [],a=>Hm
 |s::r,[]=>Hm
 |s::r,t::l=>by
  obtain⟨e,i2,f⟩:=YU b r l;obtain⟨d,m2⟩:=d73 b s t;unfold DC;refine⟨by cases b<;>simpa using e,λh=> ?_,λq c hq=> ?_⟩
  .cases b<;>simp_all
  .match q with
   |0=>
    simp at hq;subst hq;cases b
    .exact⟨t,rfl,λh=>d h⟩
    .exact⟨s,rfl,λh=>d h⟩
   |q+1=>
    obtain⟨x,hx,g⟩:=f q c G3;refine⟨x,?_,g⟩;cases b<;>simpa using hx
theorem DK.row_weak{w:World}{H:Nat->Prop}{μ:Mu}{x:Value}{T:TypeId}{sz n:Nat}{f d:Nat->List SV}{c:Option Nat}(g:∀j,(d j).length=(f j).length/\((f j).all SV.pure=true->(d j).all SV.pure=true)/\∀(q:Nat) (k:SV),(d j)[q]?=some k->∃s,(f j)[q]?=some s/\∀{w:World} {H:Nat->Prop} {μ:Mu} {v:Value},D w H μ s v->D w H μ k v)
 (h:DK w H μ x (.row T sz n f c)):DK w H μ x (.row T sz n d c):=by
 obtain⟨a,m,rfl,p,r,t,l,u⟩:=h;refine⟨a,m,rfl,p,r,t,λi e=>⟨(g i).1.trans (l i e).1,(g i).2.1 (l i e).2⟩,?_⟩;rcases u with h|⟨b,o,y,z,rfl,A,B,C,E⟩
 .exact .inl h
 .refine .inr ⟨b,o,y,z,rfl,A,B,C,λi j s v e hs F=> ?_⟩;obtain⟨G,I,J⟩:=(g i).2.2 j s hs;exact J (E i j G v e I F)
def Ta(P:Program)(own:List Blk)(T:TypeId)(p x:SV):Option (Prop×List Blk):=do
 let n<-CX P T
 let e<-x.cells
 if e.length=n/\e.all SV.isCell then
  match p with
  |.own k a=>match own[k]? with
   |some (.cells g h)=>if a+n<=h.length then some (True,own.set k (.cells g (over h a e)))else none
   |_=>none
  |.oel k b i a=>match own[k]? with
   |some (.row g d m f c)=>if b=d/\a+n<=b/\e.all SV.pure then some (i<m,own.set k (.row g b m (λj=>DC (decide (j=i)) (over (f i) a e) (f j)) c))else if b=d/\a+n<=b then some (i<m,own.set k (.rowh g b m f c i (over (f i) a e)))else none
   |some (.rowh g d m f c l u)=>if b=d/\a+n<=b then some (i=l,own.set k (.rowh g b m f c i (over u a e)))else none
   |_=>none
  |_=>none
 else none
theorem b23{α:Type}{p:α->Prop}:∀(vs us:List α),(∀v∈vs,p v)->(∀u∈us,p u)->∀v∈Ou vs us,p v
 | [],us,h,_,v,a=>by simp[Ou]at a
 |_::_,[],h,_,v,a=>h v a
 |x::vs,u::us,h,k,v,a=>by
  simp only[Ou,Jd]at a;rcases a with rfl|a
  .exact k v Dx
  .exact b23 vs us (λy hy=>h y Fb) (λy hy=>k y Fb) v a
theorem TV{α:Type}{p:α->Prop}(us:List α):∀(vs:List α) (off:Nat),(∀v∈vs,p v)->(∀u∈us,p u)->∀v∈over vs off us,p v
 | [],0,h,k,v,a=>b23 [] us h k v (by simpa[over]using a)
 |x::vs,0,h,k,v,a=>b23 (x::vs) us h k v (by simpa only[over]using a)
 |x::vs,n+1,h,k,v,a=>by
  simp only[over,Jd]at a;rcases a with rfl|a
  .exact h v Dx
  .exact TV us vs n (λy hy=>h y Fb) k v a
 | [],_+1,_,_,v,a=>by simp[over]at a
theorem c7u{w:World}{H:Nat->Prop}{μ:Mu}{T:TypeId}{sz n m b o off i:Nat}{f:Nat->List SV}{c:Option Nat}{e us:List SV}{vs vals:List Value}(x:n<=m)(y:m<=maxLen)(z:c=none\/c=some m)(hi:i<n)(g:e.length=sz)
 (t:∀q,q<n->q≠i->(f q).length=sz/\(f q).all SV.pure=true) (A:w.heap[b]?=some (.cells vs.toArray T (0,0))) (ho:o+m*sz<=vs.length) (B:∀v∈vs,v.oneCell'=true)
 (C:∀(q j:Nat) (s:SV) (v:Value),q<n->q≠i->(f q)[j]?=some s->vs[o+q*sz+j]?=some v->D w H μ s v) (E:∀(j:Nat) (s:SV) (v:Value),e[j]?=some s->vs[o+i*sz+j]?=some v->D w H μ s v)
 (d:DL w H μ us vals) (cz:off+us.length<=sz) (F:∀v∈vals,v.oneCell'=true) (k:Keeps w (putRow w b (over vs (o+i*sz+off) vals) T) H H μ μ):
 OO (putRow w b (over vs (o+i*sz+off) vals) T) H μ (.slice (some ⟨b,o,none⟩) n m) T sz n f c i (over e off us):=by
 have jb:o+i*sz+sz<=vs.length:=by have:i*sz+sz<=m*sz:=I6;omega
 refine⟨b,o,m,_,rfl,x,y,z,hi,by rw[Oa];exact g,t,b07 (PY A),Gu,TV _ _ _ B F,λq j s v u l hs a=> ?_,λj s v hs a=> ?_⟩
 .have G:j<sz:=by rw[<-(t q u l).1];exact(J4.1 hs).1
  rw[NF _ _ _ _ (by rw[d.1];omega),d.1,J3]at a
  .exact(C q j s v u l hs a).keep k
  .intro r;rcases Nd l with b6|si
   .have:q*sz+sz<=i*sz:=Hn;omega
   .have:i*sz+sz<=q*sz:=Hp;omega
 .have G:j<sz:=by
   have:=(J4.1 hs).1;rw[Oa,g]at this;exact this
  rw[NF _ _ _ _ (by rw[g];omega)]at hs;rw[NF _ _ _ _ (by rw[d.1];omega),d.1]at a;by_cases r:off<=j/\j<off+us.length
  .rw[Iz r]at hs;rw[Iz Dv,show o+i*sz+j-(o+i*sz+off)=j-off from Dv]at a;exact(d.2 _ _ _ hs a).keep k
  .rw[J3 r]at hs;rw[J3 Dv]at a;exact(E _ _ _ hs a).keep k
theorem b5u(z:Own B0 X A w μ own){T:TypeId}{p x:SV}{v u:Value}{own':List Blk}{R:Prop}(hp:D w (held A μ) μ p v)(hx:D w (held A μ) μ x u)(l:Ta P own T p x=some (R,own'))(I:R):
 ∃w',(Instr.storeAt T v u).run P w=.ok () w'/\After B0 X A w w' μ μ own':=by
 simp only[Ta,Im]at l;obtain⟨n,hn,K,ke,l⟩:=l;split at l;rotate_left
 .cases l
 rename_i hc;obtain⟨pd,df⟩:=hc;simp only[CX,J7]at hn;obtain⟨S,hi,rfl⟩:=hn;have jv:DL w (held A μ) μ K u.cells.toList:=hx.cells ke;have J:=SO jv df;have U:u.cells.size=S.size:=by simpa[pd]using jv.1
 have bp:∀a:Addr,(Instr.storeAt T (.pointer (some a)) u).run P w=(storeCells a u.cells.toList).run P w:=by intro a;simp only[Instr.storeAt,Instr.sureAddr,Ie,storeVar,HY hi,U,ne_eq,not_true_eq_false,if_false]
 split at l
 .rename_i k d;split at l;rotate_left
  .cases l
  rename_i F cs O;split at l;rotate_left
  .cases l
  rename_i C;simp only[Id]at l;obtain⟨rfl,rfl⟩:=l;cases hp with
  |own h=>
   rename_i b;obtain⟨bl,e,L⟩:=z.blk k _ h;rw[O]at e;cases e;obtain⟨b',t,M,E,r,N,G⟩:=L;cases M;have hs:=Xn (P:=P) b d F u.cells.toList w t 0 E (by rw[jv.1,r,pd];omega) J;refine⟨_,(bp _).trans hs,?_⟩;rw[Lu];have y:Keeps w (putRow w b (over t d u.cells.toList) F) (held A μ) (held A μ) μ μ:=Keeps.put h (.inl rfl);refine⟨b8y z h (.inl rfl) ⟨b,_,rfl,b07 (PY E),by rw[Oa,Oa];exact r,TV _ _ _ N J,?_⟩,Fr.put (z.rng k _ b h (.inl rfl)).2.2,y⟩;intro i s v hs H;exact((DL.over (w:=w) ⟨r,G⟩ jv (by rw[pd];omega)).2 i s v hs H).keep y
 .rename_i k g i d;split at l;rotate_left
  .rename_i F sz' m f c i' u0 O;split at l;rotate_left
   .cases l
   rename_i C;obtain⟨rfl,C⟩:=C;simp only[Id]at l;obtain⟨rfl,rfl⟩:=l;subst I;cases hp with
   |oel h=>
    rename_i b o n1 Q;obtain⟨bl,e,L⟩:=z.blk k _ h;rw[O]at e;cases e;obtain⟨b',o',m2,t,M,V,W,Y,b8,z9,r,E,ho,N,G,vw⟩:=L;cases M;have B:0<Q:=Dv;have jb:o+i*g+g<=t.length:=by have:i*g+g<=Q*g:=I6;omega
    have hs:=Xn (P:=P) b (o+i*g+d) F u.cells.toList w t 0 E G4 J;refine⟨_,(bp _).trans hs,?_⟩;rw[Lu];have y:Keeps w (putRow w b (over t (o+i*g+d) u.cells.toList) F) (held A μ) (held A μ) μ μ:=Keeps.put h (KD B);exact⟨b8y z h (KD B) (c7u V W Y b8 z9 r E ho N G vw jv (by rw[pd];exact C) J y),Fr.put (z.rng k _ b h (KD B)).2.2,y⟩
  .cases l
  rename_i F sz' m f c O;split at l;rotate_left
  .split at l;rotate_left
   .cases l
   rename_i C;obtain⟨rfl,C⟩:=C;simp only[Id]at l;obtain⟨rfl,rfl⟩:=l;cases hp with
   |oel h=>
    rename_i b o n1 Q;obtain⟨bl,e,L⟩:=z.blk k _ h;rw[O]at e;cases e;obtain⟨a,m2,M,V,W,Y,r,be⟩:=L;cases M;rcases be with Z|⟨b',o',t,B,Z,E,ho,N,G⟩
    .omega
    cases Z;have jb:o+i*g+g<=t.length:=by have:i*g+g<=Q*g:=I6;omega
    have hs:=Xn (P:=P) b (o+i*g+d) F u.cells.toList w t 0 E G4 J;refine⟨_,(bp _).trans hs,?_⟩;rw[Lu];have y:Keeps w (putRow w b (over t (o+i*g+d) u.cells.toList) F) (held A μ) (held A μ) μ μ:=Keeps.put h (KD B);exact⟨b8y z h (KD B) (c7u V W Y I (r i I).1 (λq hq _=>r q hq) E ho N (λq j s v hq _=>G q j s v hq) (λj s v=>G i j s v I) jv (by rw[pd];exact C) J y),Fr.put (z.rng k _ b h (KD B)).2.2,y⟩
  rename_i C;obtain⟨rfl,C,pv⟩:=C;simp only[Id]at l;obtain⟨rfl,rfl⟩:=l;cases hp with
  |oel h=>
   rename_i b o n1 Q;obtain⟨bl,e,L⟩:=z.blk k _ h;rw[O]at e;cases e;obtain⟨a,m2,M,V,W,Y,r,be⟩:=L;cases M;rcases be with Z|⟨b',o',t,B,Z,E,ho,N,G⟩
   .omega
   cases Z;have jb:o+i*g+g<=t.length:=by have:i*g+g<=Q*g:=I6;omega
   have hs:=Xn (P:=P) b (o+i*g+d) F u.cells.toList w t 0 E G4 J;refine⟨_,(bp _).trans hs,?_⟩;rw[Lu];have y:Keeps w (putRow w b (over t (o+i*g+d) u.cells.toList) F) (held A μ) (held A μ) μ μ:=Keeps.put h (KD B);refine⟨b8y z h (KD B) (DK.row_weak (f:=λj=>if j=i then over (f i) d K else f j) (λj=>by have:=YU (decide (j=i)) (over (f i) d K) (f j);simpa only[Jb]using this) ⟨_,_,rfl,V,W,Y,λj hj=> ?_,.inr ⟨b,o,_,B,rfl,b07 (PY E),Gu,TV _ _ _ N J,?_⟩⟩),Fr.put (z.rng k _ b h (KD B)).2.2,y⟩
   .show (if j=i then over (f i) d K else f j).length=g/\(if j=i then over (f i) d K else f j).all SV.pure=true;split
    .rw[Oa];exact⟨(r _ I).1,Ja.2 (TV K (f i) d (Ja.1 (r _ I).2) (Ja.1 pv))⟩
    .exact r j hj
   intro j q s v hj hs H;replace hs:(if j=i then over (f i) d K else f j)[q]?=some s:=hs;rw[NF _ _ _ _ G4,jv.1,pd]at H;have hq:q<g:=by
    split at hs
    .have:=(J4.1 hs).1;rw[Oa,(r _ I).1]at this;exact this
    .have:=(J4.1 hs).1;rw[(r j hj).1]at this;exact this
   by_cases e:j=i
   .subst e;rw[Iz rfl,NF _ _ _ _ (by rw[pd,(r _ I).1];omega),pd]at hs;by_cases bg:d<=q/\q<d+S.size
    .rw[Iz bg]at hs;rw[Iz Dv,show o+j*g+q-(o+j*g+d)=q-d from Dv]at H;exact(jv.2 _ _ _ hs H).keep y
    .rw[J3 bg]at hs;rw[J3 Dv]at H;exact(G _ _ _ _ hj hs H).keep y
   .rw[J3 e]at hs;rw[J3]at H
    .exact(G _ _ _ _ hj hs H).keep y
    .intro bg;rcases Nd e with b6|si
     .have:j*g+g<=i*g:=Hn;omega
     .have:i*g+g<=j*g:=Hp;omega
 .cases l
end
end Go.Proofs.YtaihldljnlgnoaaGreatDoor.V
