/-
  Parts of the proof: V1 V2 V3 V4 V5 V6 V7 V8 V9 V10 M1 V11 V12 V13 V14 H0. Conditions: none.
-/
import Derived.WalkKit
import Derived.ChangeKeysEq
import Derived.MapKept
set_option maxRecDepth 100000
set_option maxHeartbeats 40000000
namespace Go.Proofs.YtlffhjfkaepimaaGreatDoor.V
open Go
theorem Jg:type_of% @List.getD_eq_getElem?_getD:=@List.getD_eq_getElem?_getD
theorem Jh:type_of% @List.getElem?_eq_getElem:=@List.getElem?_eq_getElem
theorem Ji:type_of% @if_pos:=@if_pos
theorem Jj:type_of% @if_neg:=@if_neg
theorem Jk:type_of% @List.getElem?_eq_some_iff:=@List.getElem?_eq_some_iff
theorem Jm:type_of% @trivial:=@trivial
theorem Jn:type_of% @List.mem_of_getElem?:=@List.mem_of_getElem?
theorem Jp:type_of% @Nat.le_refl:=@Nat.le_refl
theorem Jq:type_of% @Option.map_eq_some_iff:=@Option.map_eq_some_iff
theorem Jr:type_of% @List.all_eq_true:=@List.all_eq_true
theorem Js:type_of% @Option.bind_eq_some_iff:=@Option.bind_eq_some_iff
theorem Jt:type_of% @List.getElem?_append_left:=@List.getElem?_append_left
theorem Ju:type_of% @decide_eq_true_eq:=@decide_eq_true_eq
theorem Jv:type_of% @List.mem_cons:=@List.mem_cons
theorem Jw:type_of% @Nat.zero_le:=@Nat.zero_le
theorem Jx:type_of% @List.mem_map:=@List.mem_map
theorem Jy:type_of% @List.getElem?_append_right:=@List.getElem?_append_right
theorem Jz:type_of% @List.getElem?_set_ne:=@List.getElem?_set_ne
theorem K0:type_of% @Int.toNat_natCast:=@Int.toNat_natCast
theorem K1:type_of% @List.any_eq_true:=@List.any_eq_true
theorem K2:type_of% @List.any_eq_false:=@List.any_eq_false
theorem K3:type_of% @decide_eq_true:=@decide_eq_true
theorem K4:type_of% @decide_eq_false:=@decide_eq_false
theorem K5:type_of% @Nat.not_lt_zero:=@Nat.not_lt_zero
theorem K6:type_of% @List.mem_append:=@List.mem_append
theorem K7:type_of% @Array.getElem?_eq_some_iff:=@Array.getElem?_eq_some_iff
theorem K8:type_of% @List.length_append:=@List.length_append
theorem K9:type_of% @List.getElem?_map:=@List.getElem?_map
theorem Ka:type_of% @Option.some.injEq:=@Option.some.injEq
theorem Kb:type_of% @List.mem_singleton:=@List.mem_singleton
theorem Kd:type_of% @List.mem_cons_of_mem:=@List.mem_cons_of_mem
theorem Ke:type_of% @Bool.and_eq_true:=@Bool.and_eq_true
theorem Kf:type_of% @Nat.lt_of_lt_of_le:=@Nat.lt_of_lt_of_le
theorem Kg:type_of% @List.mem_iff_getElem:=@List.mem_iff_getElem
theorem Kh:type_of% @List.length_map:=@List.length_map
theorem Ki:type_of% @List.mem_filter:=@List.mem_filter
theorem Kj:type_of% @List.getElem_mem:=@List.getElem_mem
theorem Kk:type_of% @List.mem_range:=@List.mem_range
theorem Km:type_of% @Option.some.inj:=@Option.some.inj
theorem Kn:type_of% @run_underlying:=@run_underlying
theorem Kp:type_of% @Bool.or_eq_true:=@Bool.or_eq_true
theorem Kq:type_of% @Int.tmod_eq_emod_of_nonneg:=@Int.tmod_eq_emod_of_nonneg
theorem Kr:type_of% @Nat.mul_le_mul_right:=@Nat.mul_le_mul_right
theorem Ks:type_of% @Option.map_some:=@Option.map_some
theorem Kt:type_of% @Nat.eq_zero_or_pos:=@Nat.eq_zero_or_pos
theorem Ku:type_of% @List.pairwise_cons:=@List.pairwise_cons
theorem Kv:type_of% @List.getElem?_set_self:=@List.getElem?_set_self
theorem Kw:type_of% @List.take_length:=@List.take_length
theorem Kx:type_of% @List.pairwise_iff_getElem:=@List.pairwise_iff_getElem
theorem Kz:type_of% @List.length_cons:=@List.length_cons
theorem L0:type_of% @of_decide_eq_true:=@of_decide_eq_true
theorem L1:type_of% @if_true:=@if_true
theorem L2:type_of% @List.pairwise_map:=@List.pairwise_map
theorem L3:type_of% @Nat.sub_self:=@Nat.sub_self
theorem L4:type_of% @List.map_cons:=@List.map_cons
theorem L5:type_of% @Option.getD_some:=@Option.getD_some
theorem L6:type_of% @getElem!_pos:=@getElem!_pos
theorem L7:type_of% @List.findIdx?_eq_some_iff_getElem:=@List.findIdx?_eq_some_iff_getElem
theorem L8:type_of% @decide_eq_false_iff_not:=@decide_eq_false_iff_not
theorem L9:type_of% @Nat.zero_add:=@Nat.zero_add
theorem Lg:type_of% @List.mem_iff_getElem?:=@List.mem_iff_getElem?
theorem Lh:type_of% @Sem.run_bind:=@Sem.run_bind
theorem Li:type_of% @List.length_set:=@List.length_set
theorem Lj:type_of% @List.eq_nil_of_length_eq_zero:=@List.eq_nil_of_length_eq_zero
theorem Lk:type_of% @Array.getElem?_toList:=@Array.getElem?_toList
theorem Ln:type_of% @Addr.add_lit:=@Addr.add_lit
theorem Lp:type_of% @List.nodup_cons:=@List.nodup_cons
theorem Lq:type_of% @List.take_of_length_le:=@List.take_of_length_le
theorem Lr:type_of% @Nat.le_trans:=@Nat.le_trans
theorem Ls:type_of% @Array.length_toList:=@Array.length_toList
theorem Lt:type_of% @Nat.add_assoc:=@Nat.add_assoc
theorem Lu:type_of% @List.findIdx?_eq_none_iff:=@List.findIdx?_eq_none_iff
theorem Lv:type_of% @List.map_append:=@List.map_append
theorem Lw:type_of% @Bool.eq_iff_iff:=@Bool.eq_iff_iff
theorem Lx:type_of% @List.cons_append:=@List.cons_append
theorem Ly:type_of% @List.getElem?_eq_none:=@List.getElem?_eq_none
theorem Lz:type_of% @List.take_add_one:=@List.take_add_one
theorem M0:type_of% @List.getElem?_cons_succ:=@List.getElem?_cons_succ
theorem M1:type_of% @List.length_eq_zero_iff:=@List.length_eq_zero_iff
theorem M2:type_of% @run_sliceBound:=@run_sliceBound
theorem M3:type_of% @Int.tdiv_eq_ediv_of_nonneg:=@Int.tdiv_eq_ediv_of_nonneg
theorem M4:type_of% @List.mem_of_mem_take:=@List.mem_of_mem_take
theorem M5:type_of% @List.map_map:=@List.map_map
theorem M6:type_of% @Bool.or_eq_false_iff:=@Bool.or_eq_false_iff
theorem M7:type_of% @Option.bind_some:=@Option.bind_some
theorem M8:type_of% @Array.getElem?_modify:=@Array.getElem?_modify
theorem M9:type_of% @List.length_singleton:=@List.length_singleton
theorem Ma:type_of% @Nat.add_mul:=@Nat.add_mul
theorem Mb:type_of% @List.mem_cons_self:=@List.mem_cons_self
theorem Mc:type_of% @beq_iff_eq:=@beq_iff_eq
theorem Md:type_of% @Int.mul_assoc:=@Int.mul_assoc
theorem Me:type_of% @Bool.and_true:=@Bool.and_true
theorem Mf:type_of% @Array.getElem?_setIfInBounds_ne:=@Array.getElem?_setIfInBounds_ne
theorem Mg:type_of% @List.mapM_cons:=@List.mapM_cons
theorem Mh:type_of% @List.ext_getElem?:=@List.ext_getElem?
theorem Mi:type_of% @Int.toNat_of_nonneg:=@Int.toNat_of_nonneg
theorem Mj:type_of% @congrArg:=@congrArg
theorem Mk:type_of% @List.foldl_cons:=@List.foldl_cons
theorem Mm:type_of% @Array.getElem?_eq_getElem:=@Array.getElem?_eq_getElem
theorem Mn:type_of% @List.mem_or_eq_of_mem_set:=@List.mem_or_eq_of_mem_set
theorem Mp:type_of% @Nat.add_zero:=@Nat.add_zero
theorem Mq:type_of% @List.getElem_map:=@List.getElem_map
theorem Mr:type_of% @List.length_take:=@List.length_take
theorem Ms:type_of% @Int.le_refl:=@Int.le_refl
theorem Mt:type_of% @heap_alloc_new:=@heap_alloc_new
theorem Mw:type_of% @Result.andThen_ok:=@Result.andThen_ok
theorem Mx:type_of% @List.append_assoc:=@List.append_assoc
theorem My:type_of% @Nat.lt_trichotomy:=@Nat.lt_trichotomy
theorem Mz:type_of% @List.nodup_append:=@List.nodup_append
theorem N0:type_of% @Nat.lt_irrefl:=@Nat.lt_irrefl
theorem N1:type_of% @Bool.or_false:=@Bool.or_false
theorem N2:type_of% @Int.emod_lt_of_pos:=@Int.emod_lt_of_pos
theorem N3:type_of% @List.length_filter_le:=@List.length_filter_le
theorem N4:type_of% @List.Nodup.sublist:=@List.Nodup.sublist
theorem N5:type_of% @Nat.succ_mul:=@Nat.succ_mul
theorem N6:type_of% @Int.emod_nonneg:=@Int.emod_nonneg
theorem N7:type_of% @List.length_nil:=@List.length_nil
theorem N8:type_of% @Bool.not_eq_true':=@Bool.not_eq_true'
theorem N9:type_of% @cond_true:=@cond_true
theorem Na:type_of% @RowKit.Below.heap_alloc:=@RowKit.Below.heap_alloc
theorem Nb:type_of% @List.getElem?_cons_zero:=@List.getElem?_cons_zero
theorem Nc:type_of% @Array.getElem?_setIfInBounds:=@Array.getElem?_setIfInBounds
theorem Nd:type_of% @Nat.lt_or_ge:=@Nat.lt_or_ge
theorem Nf:type_of% @Array.getD_eq_getD_getElem?:=@Array.getD_eq_getD_getElem?
theorem Ng:type_of% @Bool.false_ne_true:=@Bool.false_ne_true
theorem Nh:type_of% @List.mem_filterMap:=@List.mem_filterMap
theorem Ni:type_of% @of_decide_eq_false:=@of_decide_eq_false
theorem Nj:type_of% @List.filter_append:=@List.filter_append
theorem Nk:type_of% @List.nil_append:=@List.nil_append
theorem Nm:type_of% @Bool.false_or:=@Bool.false_or
theorem Nn:type_of% @funext:=@funext
theorem Np:type_of% @Decidable.not_not:=@Decidable.not_not
theorem Nq:type_of% @Nat.mod_lt:=@Nat.mod_lt
theorem Nr:type_of% @List.mem_of_mem_drop:=@List.mem_of_mem_drop
theorem Ns:type_of% @List.contains_eq_mem:=@List.contains_eq_mem
theorem Nt:type_of% @List.nodup_nil:=@List.nodup_nil
theorem Nu:type_of% @Array.toList_map:=@Array.toList_map
theorem Nw:type_of% @Nat.div_add_mod':=@Nat.div_add_mod'
theorem Nx:type_of% @List.ext_getElem:=@List.ext_getElem
theorem Ny:type_of% @List.getElem?_range:=@List.getElem?_range
theorem Nz:type_of% @Array.toList_append:=@Array.toList_append
theorem O0:type_of% @List.length_reverse:=@List.length_reverse
theorem O1:type_of% @grownCap_le_maxLen:=@grownCap_le_maxLen
theorem O2:type_of% @List.any_append:=@List.any_append
theorem O3:type_of% @Nat.add_sub_cancel:=@Nat.add_sub_cancel
theorem O4:type_of% @List.range_succ:=@List.range_succ
theorem O5:type_of% @true_and:=@true_and
theorem O6:type_of% @Nat.mul_comm:=@Nat.mul_comm
theorem O7:type_of% @size_zeroCells:=@size_zeroCells
theorem A0{p:Prop}(h:p:=by first|(exfalso;omega)|omega|exact⟨by decide,by decide⟩|exact⟨by omega,by omega⟩|(simp only[AD];omega)|(show _<l.length;omega)|(intro _;show _<l.length;omega)|exact⟨sw _ rfl,h0,by omega,by omega,by omega,by omega⟩|exact⟨sw _ sR.1,h0,by omega,by omega,by omega,by omega,by omega,λs hs=>h5 s (sR.2 s hs)⟩|exact⟨sw _ sQ.1,h0,by omega,by omega,by omega,by omega,by omega,λs hs=>h5 s (sQ.2 s hs)⟩):p:=h
theorem A2{p:Prop}(h:p:=by first|rfl|exact λ_ _=>rfl|exact λ_ _=>Jm):p:=h
theorem A3{p:Prop}(h:p:=by first|exact⟨by omega,by omega⟩|(simp only[AD];omega)):p:=h
theorem A4{p:Prop}(h:p:=by first|(exfalso;omega)|omega|exact⟨by decide,by decide⟩|exact A3|(show _<l.length;omega)|(intro _;show _<l.length;omega)):p:=h
theorem A5{p:Prop}(h:p:=by exact λ_ _=>.inl rfl):p:=h
theorem A6{p:Prop}(h:p:=by simp only[AD];omega):p:=h
theorem A7{p:Prop}(h:p:=by refine⟨by omega,?_⟩;exact MQ (by kernel_rfl) (by omega)):p:=h
theorem A8{p:Prop}(h:p:=by first|rfl|exact λ_ _=>rfl):p:=h
theorem A9{p:Prop}(h:p:=by first|exact A4|exact⟨⟨AC.isL_row _,AC.isL_row _⟩,hq _ (by omega),hq _ (by omega)⟩|exact λ_=>⟨⟨AC.isL_row _,AC.isL_row _⟩,hq _ (by omega),hq _ (by omega)⟩):p:=h
theorem Aa{p:Prop}(h:p:=by rw[JR vm (by simp[AO,EP,ER,EY,tb];omega)];simp[AO,sq,tq,EP,ER,EY,tb];omega):p:=h
theorem Ab{p:Prop}(h:p:=by first|rfl|omega|exact A5|(intro q _;left;exact d6n (by omega) (by omega))):p:=h
theorem Ad{p:Prop}(h:p:=by first|exact A8|exact λ_=>rfl|exact λ_ _=>Jm):p:=h
theorem Ae{p:Prop}(h:p:=by first|contradiction|exact⟨⟨⟨FT _,bm.1.1⟩,bm.1.2,bm.2⟩,MS L bv.1,bv.2⟩):p:=h
theorem Af{p:Prop}(h:p:=by intro j hj;exact absurd hj (K5 _)):p:=h
theorem Ag{p:Prop}(h:p:=by first|omega|exact A6|exact⟨hs,by omega,by omega⟩|exact⟨by omega,by omega⟩|(intro _;exact TS rfl S7)|exact TS rfl S7|exact TS rfl Zh|(intro _;exact TS rfl Zh)|exact⟨⟨by omega,by omega,by omega,by omega⟩,by omega,by omega,by omega,by omega⟩|exact⟨⟨⟨by omega,by omega⟩,⟨by omega,by omega⟩,by omega,by omega⟩,⟨by omega,by omega⟩,⟨by omega,by omega⟩,by omega,by omega⟩|exact⟨qk,⟨by omega,by omega⟩,⟨by omega,by omega⟩,by omega,by omega⟩):p:=h
theorem Ah{p:Prop}(h:p:=by first|omega|exact hu|exact dw|(intro i hi;rw[Jj (K5 i)];exact dw (i-0) (by omega))|(intro i hi;omega)|exact A7):p:=h
theorem Ai{p:Prop}(h:p:=by first|exact A3|(intro _;exact⟨by omega,by omega⟩)|(intro _;simp only[AD];omega)|(intro _;show j<L.length;omega)|(intro _;show j-1<L.length;omega)):p:=h
theorem Aj{p:Prop}(h:p:=by first|exact λ_ _=>rfl|exact λ_ _ _=>⟨rfl,rfl,λ_ _=>rfl⟩):p:=h
theorem Ak{p:Prop}(h:p:=by first|omega|exact MS K gm|exact A6|exact⟨⟨CK.is_row _,CB.is_row _,AC.is_row _⟩,AC.isL_row _,⟨bm,bv⟩,w4 _,.inl rfl⟩|exact⟨⟨CK.is_row _,CB.is_row _,AC.is_row _⟩,AC.isL_row _,⟨bm,bv⟩,w4 _,.inr rfl⟩|exact λ_=>⟨CB.isL_row _,bv⟩|exact(show (0:Nat)<2 by decide)|exact(show (1:Nat)<2 by decide)|exact(Ji h).symm|exact crE_1 (dj (Jp 1)) h):p:=h
theorem Am{p:Prop}(h:p:=by first|(exfalso;omega)|omega|exact⟨by decide,by decide⟩|exact A3):p:=h
theorem An{p:Prop}(h:p:=by first|exact A2|omega):p:=h
theorem Ap{p:Prop}(h:p:=by first|omega|exact A6):p:=h
theorem Aq{p:Prop}(h:p:=by intro _;simp only[AD];omega):p:=h
theorem Ar{p:Prop}(h:p:=by first|exact⟨rfl,by omega,by omega,by omega,by omega⟩|omega):p:=h
theorem As{p:Prop}(h:p:=by first|rfl|omega|exact A5):p:=h
theorem At{p:Prop}(h:p:=by first|omega|exact⟨⟨FT _,bm.1.1⟩,bm.1.2,by omega,by omega⟩|(show ((AY p.W p.H).getD j DJ.d).1.toNat<(Al p r).length;omega)|(show (AE p.W p.H ((AY p.W p.H).getD j DJ.d).1 ((AY p.W p.H).getD j DJ.d).2).toNat<(Al p r).length;omega)):p:=h
theorem Au{p:Prop}(h:p:=by refine⟨by omega,by omega,?_,by omega⟩;exact Rj (by kernel_rfl) (by omega) (by omega)):p:=h
theorem Av{p:Prop}(h:p:=by first|(rw[hP];rfl)|(rw[hR];rfl)|(rw[hL];rfl)|exact hE.symm|exact λ_ _=>rfl|rfl):p:=h
theorem Aw{p:Prop}(h:p:=by exact⟨by omega,by omega⟩):p:=h
theorem Ay{p:Prop}(h:p:=by first|exact Am|exact⟨sw _ k1.1,h0,by omega,by omega,by omega,by omega,by omega,λs hs=>h5 s (k1.2 s hs)⟩):p:=h
theorem Az{p:Prop}(h:p:=by first|exact A8|omega):p:=h
theorem B1{p:Prop}(h:p:=by first|(exfalso;omega)|omega|exact A3|exact⟨sw,h0,by omega,by omega,by omega,by omega,by omega⟩):p:=h
theorem B2{p:Prop}(h:p:=by exact⟨by omega,by omega,by omega,by omega⟩):p:=h
theorem B3{p:Prop}(h:p:=by exact λ_ _=>rfl):p:=h
theorem B4{p:Prop}(h:p:=by first|omega|exact A3):p:=h
theorem B5{p:Prop}(h:p:=by exact⟨⟨⟨FT _,bm.1.1⟩,bm.1.2⟩,bm.2⟩):p:=h
theorem B6{p:Prop}(h:p:=by first|omega|(exfalso;omega)|exact A3|(intro _;exact⟨by omega,by omega⟩)|exact Aq|(intro _;show j<l.length;omega)|(intro _;show j-1<l.length;omega)):p:=h
theorem B7{p:Prop}(h:p:=by first|exact B4|(simp only[AD,d7k];simp;omega)|(simp only[d7k];simp;omega)):p:=h
theorem B8{p:Prop}(h:p:=by exact⟨by kernel_rfl,by omega,by omega,by omega⟩):p:=h
theorem B9{p:Prop}(h:p:=by dsimp only;omega):p:=h
theorem Ba{p:Prop}(h:p:=by first|rfl|exact A5):p:=h
theorem Bb{p:Prop}(h:p:=by first|exact⟨⟨⟨FT _,hp.1.1⟩,hp.1.2⟩,hp.2⟩|exact A2):p:=h
theorem Bc{p:Prop}(h:p:=by exact λ_ _=>VK _):p:=h
theorem Be{p:Prop}(h:p:=by first|rfl|omega|(show (j:Int)-1=((j-1:Nat):Int);omega)):p:=h
theorem Bf{p:Prop}(h:p:=by first|exact f6u|exact f5g hk|exact at_len|exact at_row|exact at_mem|(rw[e1];exact λ_=>g1y hk)):p:=h
theorem Bg{p:Prop}(h:p:=by first|exact Am|exact⟨sw _ k1.1,h0,by omega,by omega,by omega,by omega,λs hs=>h5 s (k1.2 s hs)⟩):p:=h
theorem Bh{p:Prop}(h:p:=by first|exact hu|(intro i hi;omega)|exact A7):p:=h
theorem Bi{p:Prop}(h:p:=by first|exact(b5 (by rw[e2,e];assumption)).1|exact(b5 (by rw[e2,e];assumption)).2|(rw[e2,e];rfl)):p:=h
theorem Bj{p:Prop}(h:p:=by first|exact⟨⟨⟨⟨FT _,bm.1.1⟩,bm.1.2⟩,bm.2⟩,MS L bv.1,bv.2⟩|exact B5):p:=h
theorem Bk{p:Prop}(h:p:=by first|(exfalso;omega)|contradiction|exact B4|exact⟨hp.2.1,hp.2.2.1,hQ⟩|exact hp.1.2 _ (hm b6)):p:=h
theorem Bm{p:Prop}(h:p:=by intro q _;left;exact d6n (by omega) (by omega)):p:=h
theorem Bn{p:Prop}(h:p:=by exact⟨⟨⟨rfl,rfl⟩,rfl⟩,hv (by omega)⟩):p:=h
theorem Bp{p:Prop}(h:p:=by exact λ_=>rfl):p:=h
theorem Bq{p:Prop}(h:p:=by exact(d9k λj hj=>br j (by omega)).symm):p:=h
theorem Bs{p:Prop}(h:p:=by exact λ_ _=>Jm):p:=h
theorem Bt{p:Prop}(h:p:=by exact λ_=>⟨⟨AC.isL_row _,AC.isL_row _⟩,hq _ (by omega),hq _ (by omega)⟩):p:=h
theorem Bu{p:Prop}(h:p:=by first|exact(h1 (by rw[e];assumption)).1|exact(h1 (by rw[e];assumption)).2|exact e.symm):p:=h
theorem Bv{p:Prop}(h:p:=by first|omega|exact A5|rfl):p:=h
theorem Bw{p:Prop}(h:p:=by first|exact An|exact((XT s K true 0 (by decide) hs).trans (Bool.or_true _)).symm):p:=h
theorem By{p:Prop}(h:p:=by first|exact An|exact((XT s K true 1 (by decide) hs).trans (Bool.or_true _)).symm):p:=h
theorem Bz{p:Prop}(h:p:=by intro i;show 2<=_;decide):p:=h
theorem C0{p:Prop}(h:p:=by intro i;show 1<=_;decide):p:=h
theorem C1{p:Prop}(h:p:=by intro i;show 3<=_;decide):p:=h
theorem C2{p:Prop}(h:p:=by exact Jp _):p:=h
theorem C3{p:Prop}(h:p:=by exact⟨(n,f),⟨JL (d5i _),Jm⟩,hp,rfl⟩):p:=h
theorem C4{p:Prop}(h:p:=by exact⟨u,by simp[execOp,h1],h2⟩):p:=h
theorem C5{p:Prop}(h:p:=by intro i;show 1<=1;decide):p:=h
theorem C6{p:Prop}(h:p:=by exact⟨(0,λ_=>[]),⟨JL (d0h _),Jm⟩,Jw _,rfl⟩):p:=h
theorem C7{p:Prop}(h:p:=by exact⟨rfl,rfl⟩):p:=h
theorem C9{p:Prop}(h:p:=by exact h.fresh j (by omega)):p:=h
theorem Ca{p:Prop}(h:p:=by exact absurd hx (nohas b)):p:=h
theorem Cb{p:Prop}(h:p:=by exact⟨_,_,rfl⟩):p:=h
theorem Cc{p:Prop}(h:p:=by rw[Ji ⟨rfl,rfl⟩];trivial):p:=h
theorem Cd{p:Prop}(h:p:=by exact .clo vs hl (λi s v h=>by simp at h)):p:=h
theorem Ce{p:Prop}(h:p:=by exact⟨(0,λ_=>[]),⟨JL (d0h _),Jm⟩,⟨Jw _,λi hi=>absurd hi (K5 _)⟩,rfl⟩):p:=h
theorem Cf{p:Prop}(h:p:=by intro i;show 5<=_;decide):p:=h
theorem Cg{p:Prop}(h:p:=by unfold Do;rw[if_pos];simp only;omega):p:=h
theorem Ch{p:Prop}(h:p:=by exact Lr (N3 _ _) (by rw[Mr];omega)):p:=h
theorem Ci{p:Prop}(h:p:=by exact⟨(p,r,L),⟨h1,Jm⟩,⟨h2,h3⟩,rfl⟩):p:=h
theorem Cj{p:Prop}(h:p:=by intro i;show 0<=1;decide):p:=h
theorem Ck{p:Prop}(h:p:=by simp only[Kz];omega):p:=h
theorem Cm{p:Prop}(h:p:=by exact .inl (two 1 (by rw[h];decide))):p:=h
theorem Cn{p:Prop}(h:p:=by exact .inr (two 2 (by rw[h];decide))):p:=h
theorem Cp{p:Prop}(h:p:=by obtain⟨_,_,_,_,_,rfl⟩:=h;rfl):p:=h
theorem Cq{p:Prop}(h:p:=by rw[Ln,TM hh];exact gc):p:=h
theorem Ct{p:Prop}(h:p:=by exact λhp=>.clo vs hl (λi s v hs hv=>ih i s v hs hv (f49 (Jr.1 hp s (Jn hs))))):p:=h
theorem Cu{p:Prop}(h:p:=by exact⟨o2.size,o2.block,o2.less,o2.own⟩):p:=h
theorem Cv{p:Prop}(h:p:=by exact .sl _ 0 0 0 (λ_ _=>undef) hn hm hc (λh=>absurd h (by omega)) hl (λi j s hi=>absurd hi (by omega))):p:=h
theorem Cw{p:Prop}(h:p:=by exact⟨Jm,h1 _ (Kj this)⟩):p:=h
theorem Cx{p:Prop}(h:p:=by exact⟨j,hj,f8,(DS bp).2 (.inr hL)⟩):p:=h
theorem Cy{p:Prop}(h:p:=by exact(DS bp).2 (.inr (h.closed j o' l hj hL hw))):p:=h
theorem Cz{p:Prop}(h:p:=by rename_i hu;simp only[J3]at h;exact⟨_,hu,λ_=>h.1⟩):p:=h
theorem D3{p:Prop}(h:p:=by rename_i hu;simp only[J3]at h;exact flat _ hu rfl trivial (by omega)):p:=h
theorem D4{p:Prop}(h:p:=by exact ih (λy hy=>h y (by simp[hy])) hk):p:=h
theorem D5{p:Prop}(h:p:=by exact⟨p,⟨(RC hx hp.1).1,Jm⟩,⟨(RC hx hp.1).2,hp.2⟩,rfl⟩):p:=h
theorem D6{p:Prop}(h:p:=by exact .inr ⟨b,o,vs,c9,rfl,hh,ho,h1,λi j s v hi=>absurd hi (by omega)⟩):p:=h
theorem D7{p:Prop}(h:p:=by exact w5 (g0q KB (hq a (Ki.1 ha).1) (hq b (Ki.1 hb).1) e)):p:=h
theorem D8{p:Prop}(h:p:=by exact⟨_,w,_,b08 ht hi S8,.osl (by simp[Mu.set]),.inl ⟨rfl,⟨o1,Fr.refl _ _ _,o2⟩,λj hj=>by simp[Mu.set,hj]⟩⟩):p:=h
theorem D9{p:Prop}(h:p:=by exact⟨_,_,_,hr,.osl (by simp[Mu.set]),.inr ⟨rfl,ha,λj hj=>by simp[Mu.set,hj]⟩⟩):p:=h
theorem Da{p:Prop}(h:p:=by exact⟨p,e1,e2,by simp[KV,e3],by simp only[this,if_false];exact e4⟩):p:=h
theorem Db{p:Prop}(h:p:=by exact λ_=>.mp r g (λhh=>hb (hH _ hh)) hm hl (λq i s v hq hs hv=>ih q i s v hq hs hv (Jr.1 (hl q hq).2 s (Jn hs)))):p:=h
theorem Dc{p:Prop}(h:p:=by exact λ_=>.rel b o g hi (λhh=>hb (hH _ hh)) b7 hl (λi j s hi hs=>ih i j s hi hs (Jr.1 (hl i hi).2 s (Jn hs)))):p:=h
theorem Dd{p:Prop}(h:p:=by exact hK _ w' μ ⟨ha.own,h.fr.trans ha.fr,Lr h.base ha.fr.size,NW ha.keeps h.glo,h.dfr,h.size,h.env.keep ha.keeps,λk hk=>h.fresh k (by rw[<-bb];exact hk),h.anc⟩):p:=h
theorem De{p:Prop}(h:p:=by exact⟨ps,qs,rfl,h.keep (ps:=ps) ⟨Jp _,λ_ _ _=>rfl,λb _=>hH b⟩ (λ_ _=>rfl)⟩):p:=h
theorem Df{p:Prop}(h:p:=by subst e1;rw[m1]at hy;exact .inl ⟨rfl,(Km hy).symm⟩):p:=h
theorem Dg{p:Prop}(h:p:=by exact .sl a b o m g hm hx (YI hc gq) (λh=>absurd h (N0 _)) (λi hi=>absurd hi (K5 _)) (λi j s hi=>absurd hi (K5 _))):p:=h
theorem Dh{p:Prop}(h:p:=by exact .sl none 0 0 0 (λ_ _=>undef) (Jp _) (by simp[maxLen]) (YI hc (.inr rfl)) (λh=>absurd h (N0 _)) (λi hi=>absurd hi (K5 _)) (λi j s hi=>absurd hi (K5 _))):p:=h
theorem Di{p:Prop}(h:p:=by exact .mp r g hb hm (λq hq=>by rw[<-h2 q hq];exact hl q hq) (λq i s v hq hs hv=>hd q i s v hq (by rw[h2 q hq];exact hs) hv)):p:=h
theorem Dj{p:Prop}(h:p:=by exact hK undef w μ (calls (Fr.refl _ _ _)) (λ_ _=>rfl) (no s λhb=>f9 (hw.2 hb))):p:=h
theorem Dk{p:Prop}(h:p:=by exact⟨e₂,a₂,w₂,hq₂,.of_steps (Steps.trans fy (.one step_inLoop)) harr₂⟩):p:=h
theorem Dm{p:Prop}(h:p:=by exact GW (λb hb=>by rcases hb with hb|⟨k,x,hk,_⟩;exact hb;cases hk) (hg g s w6).2 (hg g s w6).1):p:=h
theorem Dn{p:Prop}(h:p:=by exact this.keep ⟨Jp _,λ_ _ _=>rfl,λb _ hb=>(by rcases hb with hb|⟨k,x,hk,_⟩;exact hb;cases hk),λ_ _ h=>(by cases h)⟩):p:=h
theorem Dp{p:Prop}(h:p:=by exact⟨by simp[SV.le0],by simp[SV.le0],TP h1 q1.1,AG.as_le h2 q2,CJ.as_le h3 q3,by simp[SV.le0],by simp[SV.le0],by simp[SV.le0],Jm⟩):p:=h
theorem Dq{p:Prop}(h:p:=by exact⟨e,λhk=>by simp[EK,e,hk,PK,Oz,g8],λhk=>by simp[EK,e,hk]⟩):p:=h
theorem Dr{p:Prop}(h:p:=by exact⟨(p,i,e),⟨(RC hx hp.1).1,by simp[SV.le2,SV.le1,SV.le0],by simp[SV.le2,SV.le1,SV.le0],Jm⟩,⟨(RC hx hp.1).2,hp.2⟩,rfl⟩):p:=h
theorem Ds{p:Prop}(h:p:=by exact b4d (λt ht=>c9c hk w7 ht) (λv hv=>h1 v (by simpa using hv)) (Array.mem_toList_iff.1 hv)):p:=h
theorem Dt{p:Prop}(h:p:=by exact⟨(AC.lst n f,(im,cp),c,z),⟨JL (AC.as_leL hx hp.2.1.1),⟨rfl,rfl⟩,Jm⟩,⟨by simp only[RT.lst_length];exact hp.2.1.2,hp.2.2⟩,rfl⟩):p:=h
theorem Du{p:Prop}(h:p:=by exact⟨(p,r,L),⟨a1.1,a1.2.1,b1,Jm⟩,⟨a2,b2,hp.2.2⟩,rfl⟩):p:=h
theorem Dv{p:Prop}(h:p:=by exact⟨(n,f),⟨JL (d5i _),Jm⟩,rfl,Jm,hp,rfl,rfl,rfl⟩):p:=h
theorem Dw{p:Prop}(h:p:=by exact⟨L,⟨h1,by simp[SV.le2,SV.le1,SV.le0],Jm⟩,h2,rfl⟩):p:=h
theorem Dx{p:Prop}(h:p:=by exact⟨(p,r,L),⟨h1,Jm⟩,⟨⟨h2,h3⟩,hp.2⟩,rfl⟩):p:=h
theorem Dy{p:Prop}(h:p:=by rw[<-i4,show L.length-i=(L.length-(i+1))+1 by omega];rfl):p:=h
theorem Dz{p:Prop}(h:p:=by omega):p:=h
theorem E1{p:Prop}(h:p:=by kernel_rfl):p:=h
theorem E2{p:Prop}(h:p:=by simp):p:=h
theorem E3{p:Prop}(h:p:=by with_reducible assumption):p:=h
theorem E4{p:Prop}(h:p:=by decide):p:=h
theorem E5{p:Prop}(h:p:=by assumption):p:=h
theorem E6{p:Prop}(h:p:=by simpa using h):p:=h
theorem E7{p:Prop}(h:p:=by simp[SV.le0]):p:=h
theorem E8{p:Prop}(h:p:=by cases e):p:=h
theorem E9{p:Prop}(h:p:=by cases h):p:=h
theorem Ea{p:Prop}(h:p:=by simp[SV.le2,SV.le1,SV.le0]):p:=h
theorem Eb{p:Prop}(h:p:=by simp;omega):p:=h
theorem Ec{p:Prop}(h:p:=by simp at h):p:=h
theorem Ed{p:Prop}(h:p:=by show _-(i+1)<_-i;omega):p:=h
theorem Ee{p:Prop}(h:p:=by simp[SV.le2,SV.le1,BH,SV.le0]):p:=h
theorem Ef{p:Prop}(h:p:=by simpa using hl):p:=h
theorem Eg{p:Prop}(h:p:=by show i+1<=_;omega):p:=h
theorem Eh{p:Prop}(h:p:=by simp[Mu.set]):p:=h
theorem Ei{p:Prop}(h:p:=by show f<f+1;omega):p:=h
theorem Ej{p:Prop}(h:p:=by simp[hx]):p:=h
theorem Ek{p:Prop}(h:p:=by simpa[SV.cells]using hc.symm):p:=h
theorem Em{p:Prop}(h:p:=by rw[Ji ⟨rfl,rfl⟩];trivial):p:=h
theorem En{p:Prop}(h:p:=by simp[SV.le2,SV.le1,SV.le0];omega):p:=h
theorem Ep{p:Prop}(h:p:=by simp[Mu.set,hj]):p:=h
theorem Er{p:Prop}(h:p:=by simpa using hj):p:=h
theorem Es{p:Prop}(h:p:=by simp[h1]):p:=h
theorem Et{p:Prop}(h:p:=by simpa using hi):p:=h
theorem Eu{p:Prop}(h:p:=by show k+1<=3;omega):p:=h
theorem Ev{p:Prop}(h:p:=by show 3-(k+1)<3-k;omega):p:=h
theorem Ew{p:Prop}(h:p:=by simp only[maxLen];omega):p:=h
theorem Ex{p:Prop}(h:p:=by simpa using hc):p:=h
theorem Ey{p:Prop}(h:p:=by simpa using e):p:=h
theorem Ez{p:Prop}(h:p:=by simp[Region.wanted,mz]):p:=h
theorem F0{p:Prop}(h:p:=by simp only[AD];omega):p:=h
theorem F4{p:Prop}(h:p:=by rw[hs.1];omega):p:=h
theorem F5{p:Prop}(h:p:=by rw[sR.1];omega):p:=h
theorem F6{p:Prop}(h:p:=by simpa[Mu.set]using hj.symm):p:=h
theorem F7{p:Prop}(h:p:=by apply Array.ext';simp):p:=h
theorem F8{p:Prop}(h:p:=by simpa[SV.ro1]using hr.symm):p:=h
theorem F9{p:Prop}(h:p:=by simpa using bi):p:=h
theorem Fa{p:Prop}(h:p:=by rw[h.kl];exact jd):p:=h
theorem Fb{p:Prop}(h:p:=by rw[Mr];omega):p:=h
theorem Fc{p:Prop}(h:p:=by rw[Ji rfl];trivial):p:=h
theorem Fe{p:Prop}(h:p:=by simpa[Mu.set,e]using hj):p:=h
theorem Ff{p:Prop}(h:p:=by simp[maxLen]):p:=h
theorem Fg{p:Prop}(h:p:=by simpa using ht):p:=h
theorem Fh{p:Prop}(h:p:=by simpa using rz):p:=h
theorem Fi{p:Prop}(h:p:=by simp[hy]):p:=h
theorem Fj{p:Prop}(h:p:=by rw[me];omega):p:=h
theorem Fk{p:Prop}(h:p:=by simpa using h4):p:=h
theorem Fm{p:Prop}(h:p:=by simp only[fB,WM r]):p:=h
theorem Fn{p:Prop}(h:p:=by simpa using h1):p:=h
theorem Fp{p:Prop}(h:p:=by rw[bq];exact(K7.1 ho).1):p:=h
theorem Fq{p:Prop}(h:p:=by simpa using h3):p:=h
theorem Fs{p:Prop}(h:p:=by simp[BA]at h):p:=h
theorem Ft{p:Prop}(h:p:=by simp[AO,EP,ER,EY,tb];omega):p:=h
theorem Fu{p:Prop}(h:p:=by simp[FY]):p:=h
theorem Fv{p:Prop}(h:p:=by unfold CM;rw[if_pos hs]):p:=h
theorem Fw{p:Prop}(h:p:=by show j+1<=_;omega):p:=h
theorem Fx{p:Prop}(h:p:=by show _-(j+1)<_-j;omega):p:=h
theorem Fy{p:Prop}(h:p:=by simp[BD]):p:=h
theorem Fz{p:Prop}(h:p:=by simpa using hu):p:=h
theorem G1{p:Prop}(h:p:=by simpa using hv):p:=h
theorem G2{p:Prop}(h:p:=by simp[QO]):p:=h
theorem G3{p:Prop}(h:p:=by rw[<-(mf i b8).1];exact(Jk.1 hs).1):p:=h
theorem G4{p:Prop}(h:p:=by simpa using hs):p:=h
theorem G5{p:Prop}(h:p:=by rw[Xe];exact Jp _):p:=h
theorem G6{p:Prop}(h:p:=by simpa[SV.in0]using hi):p:=h
theorem G7{p:Prop}(h:p:=by show (i+j)/2+1<=j;omega):p:=h
theorem G8{p:Prop}(h:p:=by show i<=(i+j)/2;omega):p:=h
theorem G9{p:Prop}(h:p:=by simpa[j5]using hi):p:=h
theorem Ga{p:Prop}(h:p:=by unfold vC;omega):p:=h
theorem Gb{p:Prop}(h:p:=by rw[h.ol];exact jd):p:=h
theorem Gc{p:Prop}(h:p:=by show _-(k+1)<_-k;omega):p:=h
theorem Gd{p:Prop}(h:p:=by simp[Program.elem,hT]):p:=h
theorem Ge{p:Prop}(h:p:=by simp[IJ]at h):p:=h
theorem Gf{p:Prop}(h:p:=by rw[m7.1,jy];omega):p:=h
theorem Gg{p:Prop}(h:p:=by rwa[O6]):p:=h
theorem Gh{p:Prop}(h:p:=by rw[<-(hl i hi).1];exact(Jk.1 hs).1):p:=h
theorem Gi{p:Prop}(h:p:=by simpa using jd):p:=h
theorem Gj{p:Prop}(h:p:=by simpa using hb):p:=h
theorem Gk{p:Prop}(h:p:=by rw[<-(dw i b8).1];exact(Jk.1 hs).1):p:=h
theorem Gm{p:Prop}(h:p:=by rw[jd];omega):p:=h
theorem Gn{p:Prop}(h:p:=by rw[<-l1];exact(Jk.1 hs).1):p:=h
theorem Gp{p:Prop}(h:p:=by subst e;simp[EM]at hj):p:=h
theorem Gq{p:Prop}(h:p:=by rw[<-hf i hi];exact hl i hi):p:=h
theorem Gr{p:Prop}(h:p:=by rw[hf i hi];exact hs):p:=h
theorem Gs{p:Prop}(h:p:=by simp[execOp,da]):p:=h
theorem Gt{p:Prop}(h:p:=by simpa[Jo]using fw):p:=h
theorem Gu{p:Prop}(h:p:=by simpa using pAlong):p:=h
theorem Gv{p:Prop}(h:p:=by rw[<-hL];exact(Jk.1 hs).1):p:=h
theorem Gw{p:Prop}(h:p:=by show 3-(e+1)<3-e;omega):p:=h
theorem Gx{p:Prop}(h:p:=by rw[e];decide):p:=h
theorem Gy{p:Prop}(h:p:=by unfold BG;rw[if_pos];omega):p:=h
theorem Gz{p:Prop}(h:p:=by simp[AO,EP,ER,EY,tb]):p:=h
theorem H0{p:Prop}(h:p:=by unfold CM;rw[if_pos jz]):p:=h
theorem H1{p:Prop}(h:p:=by cases c<;>trivial):p:=h
theorem H2{p:Prop}(h:p:=by show j-((i+j)/2+1)<=f;omega):p:=h
theorem H3{p:Prop}(h:p:=by show (i+j)/2-i<=f;omega):p:=h
theorem H4{p:Prop}(h:p:=by rw[Kh];omega):p:=h
theorem H5{p:Prop}(h:p:=by have:=I.S.vc s hs;unfold vC at this;omega):p:=h
theorem H6{p:Prop}(h:p:=by show L.length-(i+1)<L.length-i;omega):p:=h
theorem H7{p:Prop}(h:p:=by rw[b27];exact Jp _):p:=h
theorem H8{p:Prop}(h:p:=by rw[n8,zd];exact hT):p:=h
theorem H9{p:Prop}(h:p:=by rw[PB];exact ho):p:=h
theorem Ha{p:Prop}(h:p:=by rw[<-h.pl];exact(Jk.1 e1).1):p:=h
theorem Hb{p:Prop}(h:p:=by simpa[KV,ep]using hp):p:=h
theorem Hd{p:Prop}(h:p:=by subst e;rw[Env.an_ak hx]at s4;cases s4):p:=h
theorem He{p:Prop}(h:p:=by subst e;rw[Env.an_ak hx]at j6;cases j6):p:=h
theorem Hf{p:Prop}(h:p:=by rw[Kv bp]):p:=h
theorem Hg{p:Prop}(h:p:=by rw[Jz e];exact g2):p:=h
theorem Hh{p:Prop}(h:p:=by simp[Region.wanted,(c29 hf).2]):p:=h
theorem Hi{p:Prop}(h:p:=by rw[hD.1,l1];exact bb i):p:=h
theorem Hj{p:Prop}(h:p:=by rw[hD.1,l1];exact b6):p:=h
theorem Hk{p:Prop}(h:p:=by simp only[RT.lst_length];exact hq.2.1):p:=h
theorem Hm{p:Prop}(h:p:=by simpa using Vu):p:=h
theorem Hn{p:Prop}(h:p:=by simp only[TY];exact q1.2):p:=h
theorem Hp{p:Prop}(h:p:=by simpa using b14):p:=h
theorem Hq{p:Prop}(h:p:=by have:=Kk.1 hj;omega):p:=h
theorem Hr{p:Prop}(h:p:=by rw[hr,b94 e3,h1];rfl):p:=h
theorem Hs{p:Prop}(h:p:=by simp[Pb,SV.le2,SV.le1,BH,SV.le0]):p:=h
theorem Ht{p:Prop}(h:p:=by simp[Jg,hj]):p:=h
theorem Hv{p:Prop}(h:p:=by show _-(q+1)<_-q;omega):p:=h
theorem Hw{p:Prop}(h:p:=by show (FD _ _).length<=_;rw[NM];omega):p:=h
theorem Hx{p:Prop}(h:p:=by simpa[WC]using hj):p:=h
theorem Hy{p:Prop}(h:p:=by rw[Jg,Jh h,L5];exact Kj h):p:=h
theorem Hz{p:Prop}(h:p:=by show (i+j)/2<=m;omega):p:=h
theorem I0{p:Prop}(h:p:=by show a<=(i+j)/2+1;omega):p:=h
theorem I1{p:Prop}(h:p:=by have:=hi.1;have:=hi.2;omega):p:=h
theorem I3{p:Prop}(h:p:=by unfold EN;exact⟨rfl,λh=>h,λq s h=>⟨s,h,λh=>h⟩⟩):p:=h
theorem I4{p:Prop}(h:p:=by rw[<-N5];exact Kr _ b6):p:=h
theorem I5{p:Prop}(h:p:=by rw[<-N5];exact Kr _ w8):p:=h
theorem I6{p:Prop}(h:p:=by have:=List.isEmpty_iff.1 hc;subst this;rfl):p:=h
theorem I7{p:Prop}(h:p:=by rw[<-l1];exact(Jk.1 ht).1):p:=h
theorem I8{p:Prop}(h:p:=by simp only[K1];exact⟨_,Kj b6,h⟩):p:=h
theorem I9{p:Prop}(h:p:=by subst e;rw[hμk]at hx;exact Zi _ _ (Km hx).symm):p:=h
theorem Ia{p:Prop}(h:p:=by rw[Kv (Jk.1 hk).1]):p:=h
theorem Ib{p:Prop}(h:p:=by rw[Mg,Lh,hv,Mw,Lh,Q5,Mw,Sem.run_pure]):p:=h
theorem Ic{p:Prop}(h:p:=by have:=Env.ak_lt (Env.an_ak hx);rw[Zj]at this;omega):p:=h
theorem Id{p:Prop}(h:p:=by simp[RT.row,RT.lst,Jg,hi]):p:=h
theorem Ie{p:Prop}(h:p:=by simpa using ‹(!decide (AR b.p.W b.p.H u e=0))=false›):p:=h
theorem If{p:Prop}(h:p:=by simpa[Go.Sort.putRow,mapBlock,Sort.ahead]using hi):p:=h
theorem Ig{p:Prop}(h:p:=by cases a;cases b;simp at*;exact⟨h1,h2,h3⟩):p:=h
theorem Ih{p:Prop}(h:p:=by simpa using ‹(!decide (AR p.W p.H i e=0))=false›):p:=h
theorem Ii{p:Prop}(h:p:=by simpa using ‹(!decide (AV W H=0))=false›):p:=h
theorem Ij{p:Prop}(h:p:=by show (kb.set (BP p.W p.H a k).toNat true).count false<=kn.count false;omega):p:=h
theorem Ik{p:Prop}(h:p:=by show (kb.set (BP p.W p.H a k).toNat true).count false<kn.count false;omega):p:=h
theorem Im{p:Prop}(h:p:=by rw[<-N5];exact Kr _ Dz):p:=h
theorem In{p:Prop}(h:p:=by rw[show JC W H a b 0=false from h 0 E4];decide):p:=h
theorem Ip{p:Prop}(h:p:=by rw[Jy (by rw[db.pl];exact Jp _),db.pl,L3];rfl):p:=h
theorem Iq{p:Prop}(h:p:=by rw[show JC W H a b 1=false from h 1 E4];decide):p:=h
theorem Ir:type_of% @Int.toNat_natCast/\type_of% @decide_eq_false_iff_not/\type_of% @decide_eq_true_eq:=⟨@Int.toNat_natCast,@decide_eq_false_iff_not,@decide_eq_true_eq⟩
theorem Is:type_of% @Bool.not_eq_false'/\type_of% @Bool.not_eq_true':=⟨@Bool.not_eq_false',@Bool.not_eq_true'⟩
theorem It:type_of% @Option.map_eq_some_iff.{0,0}/\type_of% @Prod.mk.injEq.{0,0}:=⟨@Option.map_eq_some_iff,@Prod.mk.injEq⟩
theorem Iv:type_of% @Option.some.injEq.{0}/\type_of% @Prod.mk.injEq.{0,0}:=⟨@Option.some.injEq,@Prod.mk.injEq⟩
theorem Iw:type_of% @Result.andThen_ok/\type_of% @Sem.run_bind/\type_of% @Sem.run_pure:=⟨@Result.andThen_ok,@Sem.run_bind,@Sem.run_pure⟩
theorem Ix:type_of% @Bool.and_eq_false_iff/\type_of% @Bool.and_eq_true:=⟨@Bool.and_eq_false_iff,@Bool.and_eq_true⟩
theorem Iy:type_of% @List.getElem?_map.{0,0}/\type_of% @Option.map_eq_some_iff.{0,0}:=⟨@List.getElem?_map,@Option.map_eq_some_iff⟩
theorem Iz:type_of% @decide_eq_false_iff_not/\type_of% @decide_eq_true_eq:=⟨@decide_eq_false_iff_not,@decide_eq_true_eq⟩
theorem J3:type_of% @Bool.and_eq_true/\type_of% @decide_eq_true_eq:=⟨@Bool.and_eq_true,@decide_eq_true_eq⟩
theorem J4:type_of% @List.length_append.{0}/\type_of% @List.length_cons.{0}/\type_of% @List.length_nil.{0}:=⟨@List.length_append,@List.length_cons,@List.length_nil⟩
theorem J5:type_of% @Bool.false_eq_true/\type_of% @if_false.{1}:=⟨@Bool.false_eq_true,@if_false⟩
theorem J6:type_of% @Bool.or_eq_false_iff/\type_of% @Bool.or_eq_true:=⟨@Bool.or_eq_false_iff,@Bool.or_eq_true⟩
theorem J7:type_of% @Option.bind_eq_bind.{0}/\type_of% @Option.bind_eq_some_iff.{0,0}:=⟨@Option.bind_eq_bind,@Option.bind_eq_some_iff⟩
theorem J8:type_of% @List.getD_eq_getElem?_getD.{0}/\type_of% @Option.getD_some.{0}:=⟨@List.getD_eq_getElem?_getD,@Option.getD_some⟩
theorem J9:type_of% @List.cons.injEq.{0}/\type_of% @and_true:=⟨@List.cons.injEq,@and_true⟩
theorem Ja:type_of% @Option.getD_some.{0}/\type_of% @Option.map_some.{0,0}:=⟨@Option.getD_some,@Option.map_some⟩
theorem Jb:type_of% @Bool.and_eq_true/\type_of% @beq_iff_eq.{0}:=⟨@Bool.and_eq_true,@beq_iff_eq⟩
theorem Jc:type_of% @Array.replicate_succ.{0}/\type_of% @Array.replicate_zero.{0}/\type_of% @List.append_toArray.{0}/\type_of% @List.cons_append.{0}/\type_of% @List.length_cons.{0}/\type_of% @List.length_nil.{0}/\type_of% @List.nil_append.{0}/\type_of% @List.push_toArray.{0}/\type_of% @List.size_toArray.{0}:=⟨@Array.replicate_succ,@Array.replicate_zero,@List.append_toArray,@List.cons_append,@List.length_cons,@List.length_nil,@List.nil_append,@List.push_toArray,@List.size_toArray⟩
theorem Jd:type_of% @Result.andThen_ok/\type_of% @Sem.run_bind:=⟨@Result.andThen_ok,@Sem.run_bind⟩
theorem Je:type_of% @Bool.and_eq_true/\type_of% @Bool.not_eq_true':=⟨@Bool.and_eq_true,@Bool.not_eq_true'⟩
theorem Jf:type_of% @List.length_append.{0}/\type_of% @Nat.zero_add:=⟨@List.length_append,@Nat.zero_add⟩
inductive KT where
 |int1 (k:IntKind)
 |ints (ks:List IntKind)
 |str
 deriving DecidableEq
inductive SV where
 |int (k:IntKind) (n:Int)
 |bool (b:Bool)
 |con (v:Value)
 |own (k off:Nat)
 |osl (k:Nat)
 |oel (k sz i off:Nat)
 |sl (sz n:Nat) (f:Nat->List SV) (c:Option Nat)
 |rel (sz n:Nat) (f:Nat->List SV) (i off:Nat)
 |agg (cs:List SV)
 |tup (vs:List SV)
 |clo (fn:FuncId) (cs:List SV)
 |omp (k:Nat)
 |mp (K:KT) (ag:Bool) (has:List Int->Bool) (val:List Int->List SV)
 |fp (ok:Bool) (k i off:Nat)
 |ub (p q:Prop)
 |any
def SV.pure0:SV->Bool
 |.own _ _|.osl _|.oel _ _ _ _|.agg _|.tup _|.omp _|.fp _ _ _ _=>false
 |.clo _ a=>a.isEmpty
 |_=>true
def SV.pure:SV->Bool
 |.clo _ a=>a.all SV.pure0
 |s=>s.pure0
theorem f49{s:SV}(h:s.pure0=true):s.pure=true:=by cases s<;>simp_all[SV.pure0,SV.pure]
def FO:Value->Option Nat
 |.pointer (some a)=>some a.block
 |.slice (some a) _ (_+1)=>some a.block
 |.map (some r)=>some r
 |_=>none
theorem Ok{b o n m:Nat}{s:Option _}(h:0<m):FO (.slice (some ⟨b,o,s⟩) n m)=some b:=by
 cases m with
 |zero=>omega
 |succ m=>rfl
theorem WD{a:Option Addr}{n:Nat}:FO (.slice a n 0)=none:=by cases a<;>rfl
def BQ(ps:List Value)(a:List (List Value)):Value:=.tuple #[.tuple ps.toArray,.tuple (a.map λb=>Value.tuple b.toArray).toArray]
theorem PW{ps b:List Value}{d a:List (List Value)}(h:BQ ps d=BQ b a):ps=b/\d=a:=by
 unfold BQ at h;simp only[Value.tuple.injEq,Array.mk.injEq,J9]at h;obtain⟨e,c⟩:=h;refine⟨e,?_⟩;clear e;induction d generalizing a with
 |nil=>
  cases a with
  |nil=>rfl
  |cons _ _=>simp at c
 |cons u q f=>
  cases a with
  |nil=>simp at c
  |cons u' q'=>
   simp only[L4,List.cons.injEq,Value.tuple.injEq,Array.mk.injEq]at c;rw[c.1,f c.2]
def CS(x:Value)(b:Nat):Prop:=FO x=some b\/∃d a c u,x=BQ d a/\c∈a/\u∈c/\FO u=some b
theorem SX{a:Option Addr}{n m b:Nat}:CS (.slice a n m) b↔FO (.slice a n m)=some b:=by
 constructor
 .rintro(h|⟨ps,qs,us,u,h,_⟩)
  .exact h
  .cases h
 .exact .inl
theorem KG{b o n m:Nat}{s:Option _}(h:0<m):CS (.slice (some ⟨b,o,s⟩) n m) b:=.inl (Ok h)
theorem XD{b o n m c:Nat}{s:Option _}(h:0<m):CS (.slice (some ⟨b,o,s⟩) n m) c↔c=b:=by rw[SX,Ok h];exact⟨λe=>(Km e).symm,λe=>by rw[e]⟩
theorem c04{a:Option Addr}{n b:Nat}:¬CS (.slice a n 0) b:=by rw[SX,WD];intro h;cases h
theorem c6t{a:Addr}{b:Nat}:CS (.pointer (some a)) b↔a.block=b:=by
 constructor
 .rintro(h|⟨ps,qs,us,u,h,_⟩)
  .cases h;rfl
  .cases h
 .rintro rfl;exact .inl rfl
theorem d4h{r b:Nat}:CS (.map (some r)) b↔r=b:=by
 constructor
 .rintro(h|⟨ps,qs,us,u,h,_⟩)
  .cases h;rfl
  .cases h
 .rintro rfl;exact .inl rfl
theorem Oc{ps:List Value}{c:List (List Value)}{b:Nat}:CS (BQ ps c) b↔∃a u,a∈c/\u∈a/\FO u=some b:=by
 constructor
 .rintro(h|⟨ps',qs',a,u,h,d,e,f⟩)
  .cases h
  .obtain⟨_,rfl⟩:=PW h;exact⟨a,u,d,e,f⟩
 .rintro⟨a,u,d,e,f⟩;exact .inr ⟨ps,c,a,u,rfl,d,e,f⟩
def IQ:List IntKind->List Int->List Value
 |k::a,n::b=>.int k n::IQ a b
 |_,_=>[]
def g3x(q:List Int):ByteArray:=⟨(q.map λn=>UInt8.ofNat n.toNat).toArray⟩
def kv:KT->List Int->Value
 |.int1 k,q=>.int k (q.getD 0 0)
 |.ints a,q=>.agg (IQ a q).toArray
 |.str,q=>.string (g3x q)
def MC:KT->List Int->Prop
 |.int1 _,q=>q.length=1
 |.ints a,q=>q.length=a.length
 |.str,q=>∀n∈q,0<=n/\n<256
def IX(a:Bool)(us:List Value):Value:=if a then .agg us.toArray else us.getD 0 undef
structure MapAt (w:World) (r:Nat) (K:KT) (ag:Bool) (has:List Int->Bool) (g:List Int->List Value):Prop where
 ex:∃es clock,w.heap[r]?=some (.map es clock)/\(∀e∈es.toList,∃q,e.key=kv K q/\MC K q/\has q=true/\e.val=IX ag (g q))/\
  (∀q,has q=true->MC K q/\∃e∈es.toList,e.key=kv K q)/\es.toList.Pairwise (λa b=>a.key≠b.key)
theorem MapAt.lt{w:World}{r:Nat}{K:KT}{a:Bool}{has:List Int->Bool}{g:List Int->List Value}(h:MapAt w r K a has g):r<w.heap.size:=by obtain⟨es,c,h,_⟩:=h.ex;exact(K7.1 h).1
theorem MapAt.keep{w w':World}{r:Nat}{K:KT}{a:Bool}{has:List Int->Bool}{g:List Int->List Value}(h:MapAt w r K a has g)(b:w'.heap[r]?=w.heap[r]?):MapAt w' r K a has g:=by obtain⟨d,c,h,k⟩:=h.ex;exact⟨d,c,b.trans h,k⟩
abbrev Mu:=Nat->Option Value
def held(A:Nat->Prop)(μ:Mu)(b:Nat):Prop:=A b\/∃k x,μ k=some x/\CS x b
def XE(w:World)(b o sz n:Nat)(g:Nat->Nat->Value):Prop:=
 b<w.heap.size/\∀i j,i<n->j<sz->w.cell? ⟨b,o+i*sz+j,none⟩=some (g i j)/\(g i j).oneCell'=true
inductive D (w:World) (H:Nat->Prop) (μ:Mu):SV->Value->Prop
 |int {k:IntKind} {n:Int}:D w H μ (.int k n) (.int k n)
 |bool {b:Bool}:D w H μ (.bool b) (.bool b)
 |con {v:Value}:D w H μ (.con v) v
 |own {k off b:Nat} (h:μ k=some (.pointer (some ⟨b,0,none⟩))):D w H μ (.own k off) (.pointer (some ⟨b,off,none⟩))
 |osl {k n m:Nat} {a:Option Addr} (h:μ k=some (.slice a n m)):D w H μ (.osl k) (.slice a n m)
 |oel {k sz i off b o n m:Nat} (h:μ k=some (.slice (some ⟨b,o,none⟩) n m)):D w H μ (.oel k sz i off) (.pointer (some ⟨b,o+i*sz+off,none⟩))
 |sl {sz n:Nat} {f:Nat->List SV} {c:Option Nat} (a:Option Addr) (b o m:Nat) (g:Nat->Nat->Value) (hm:n<=m) (hx:m<=maxLen) (hc:c=none\/c=some m)
  (b7:0<n->a=some ⟨b,o,none⟩/\¬H b/\XE w b o sz n g) (hl:∀i,i<n->(f i).length=sz/\(f i).all SV.pure=true)
  (hd:∀(i j:Nat) (s:SV),i<n->(f i)[j]?=some s->D w H μ s (g i j)):D w H μ (.sl sz n f c) (.slice a n m)
 |rel {sz n i off:Nat} {f:Nat->List SV} (b o:Nat) (g:Nat->Nat->Value) (hi:i<n) (hb:¬H b) (b7:XE w b o sz n g) (hl:∀i,i<n->(f i).length=sz/\(f i).all SV.pure=true)
  (hd:∀(i j:Nat) (s:SV),i<n->(f i)[j]?=some s->D w H μ s (g i j)):D w H μ (.rel sz n f i off) (.pointer (some ⟨b,o+i*sz+off,none⟩))
 |agg {cs:List SV} (vs:List Value) (hl:vs.length=cs.length) (hd:∀(i:Nat) (s:SV) (v:Value),cs[i]?=some s->vs[i]?=some v->D w H μ s v):D w H μ (.agg cs) (.agg vs.toArray)
 |tup {cs:List SV} (vs:List Value) (hl:vs.length=cs.length) (hd:∀(i:Nat) (s:SV) (v:Value),cs[i]?=some s->vs[i]?=some v->D w H μ s v):D w H μ (.tup cs) (.tuple vs.toArray)
 |clo {fn:FuncId} {cs:List SV} (vs:List Value) (hl:vs.length=cs.length) (hd:∀(i:Nat) (s:SV) (v:Value),cs[i]?=some s->vs[i]?=some v->D w H μ s v):D w H μ (.clo fn cs) (.func (.func fn) #[] vs.toArray)
 |omp {k:Nat} {r:Option Nat} (h:μ k=some (.map r)):D w H μ (.omp k) (.map r)
 |mp {K:KT} {ag:Bool} {has:List Int->Bool} {val:List Int->List SV} (r:Nat) (g:List Int->List Value) (hb:¬H r) (hm:MapAt w r K ag has g)
  (hl:∀q,has q=true->(g q).length=(val q).length/\(val q).all SV.pure=true)
  (hd:∀(q:List Int) (i:Nat) (s:SV) (v:Value),has q=true->(val q)[i]?=some s->(g q)[i]?=some v->D w H μ s v):D w H μ (.mp K ag has val) (.map (some r))
 |fp {ok:Bool} {k i off:Nat} {v:Value} (h:if ok=true then∃ps qs b,μ k=some (BQ ps qs)/\ps[i]?=some (.pointer (some ⟨b,0,none⟩))/\v=.pointer (some ⟨b,off,none⟩)else v=.pointer none):D w H μ (.fp ok k i off) v
 |ub {b:Bool} {p q:Prop} (h1:b=true->p) (h2:b=false->q):D w H μ (.ub p q) (.bool b)
 |any {v:Value}:D w H μ .any v
theorem D.fp_mk{w':World}{H':Nat->Prop}{μ μ':Mu}{ok:Bool}{k i off:Nat}{v:Value}(g:∀c f,μ k=some (BQ c f)->∃a d,μ' k=some (BQ a d)/\∀p,c[i]?=some p->a[i]?=some p)
 (h:if ok=true then∃c f b,μ k=some (BQ c f)/\c[i]?=some (.pointer (some ⟨b,0,none⟩))/\v=.pointer (some ⟨b,off,none⟩)else v=.pointer none):D w' H' μ' (.fp ok k i off) v:=by
 refine .fp ?_;split
 .rename_i e;rw[Ji e]at h;obtain⟨c,f,b,j,l,m⟩:=h;obtain⟨a,d,n,o⟩:=g c f j;exact⟨a,d,b,n,o _ l,m⟩
 .rename_i e;rwa[Jj e]at h
theorem D.fp_keep{w w':World}{H H':Nat->Prop}{μ μ':Mu}{ok:Bool}{k i off:Nat}{v:Value}(d:∀c e,μ k=some (BQ c e)->∃a b,μ' k=some (BQ a b)/\∀p,c[i]?=some p->a[i]?=some p)
 (h:D w H μ (.fp ok k i off) v):D w' H' μ' (.fp ok k i off) v:=by
 cases h with
 |fp h=>exact D.fp_mk d h
structure Keeps (w w':World) (H H':Nat->Prop) (μ μ':Mu):Prop where
 size:w.heap.size<=w'.heap.size
 block:∀b,b<w.heap.size->¬H b->w'.heap[b]?=w.heap[b]?
 less:∀b,b<w.heap.size->H' b->H b
 own:∀k x,μ k=some x->μ' k=some x
theorem c3r{w w':World}{a:Addr}(h:w'.heap[a.block]?=w.heap[a.block]?):w'.cell? a=w.cell? a:=by unfold World.cell?;rw[h]
theorem XE.keep{w w':World}{b o sz n:Nat}{g:Nat->Nat->Value}(h:XE w b o sz n g)(hs:w.heap.size<=w'.heap.size)(e:w'.heap[b]?=w.heap[b]?):XE w' b o sz n g:=
 ⟨Kf h.1 hs,λi j c d=>⟨(c3r (a:=⟨b,_,none⟩) e).trans (h.2 i j c d).1,(h.2 i j c d).2⟩⟩
theorem D.keep{w w':World}{H H':Nat->Prop}{μ μ':Mu}{s:SV}{v:Value}(c:Keeps w w' H H' μ μ')(h:D w H μ s v):D w' H' μ' s v:=by
 induction h with
 |int=>exact .int
 |bool=>exact .bool
 |con=>exact .con
 |own h=>exact .own (c.own _ _ h)
 |osl h=>exact .osl (c.own _ _ h)
 |oel h=>exact .oel (c.own _ _ h)
 |sl a b o m g j hx t k d l f=>
  exact .sl a b o m g j hx t (λu=>by obtain⟨e,i,q⟩:=k u;exact⟨e,λn=>i (c.less _ q.1 n),q.keep c.size (c.block _ q.1 i)⟩) d f
 |rel b o g x i k d l f=>exact .rel b o g x (λn=>i (c.less _ k.1 n)) (k.keep c.size (c.block _ k.1 i)) d f
 |agg p d l f=>exact .agg p d f
 |tup p d l f=>exact .tup p d f
 |clo p d l f=>exact .clo p d f
 |omp h=>exact .omp (c.own _ _ h)
 |mp r g i j d l f=>exact .mp r g (λn=>i (c.less _ j.lt n)) (j.keep (c.block _ j.lt i)) d f
 |fp h=>exact D.fp_mk (λy z e=>⟨y,z,c.own _ _ e,λ_ h=>h⟩) h
 |ub A B=>exact .ub A B
 |any=>exact .any
structure Mem where
 cs:List SV
 rows:List (Nat×(Nat->List SV))
inductive Blk where
 |cells (T:TypeId) (cs:List SV)
 |row (T:TypeId) (sz n:Nat) (f:Nat->List SV) (c:Option Nat)
 |map (K:KT) (ag:Bool) (has:List Int->Bool) (val:List Int->List SV)
 |fam (T:TypeId) (Ts:List (TypeId×Nat)) (n:Nat) (bz:Option (Nat×Nat)) (F:Nat->Mem)
 |pmap (K:KT) (k:Nat) (has:List Int->Bool) (BU:List Int->Nat)
 |rowh (T:TypeId) (sz n:Nat) (f:Nat->List SV) (c:Option Nat) (i:Nat) (u:List SV)
 |pool (T:TypeId) (sz n:Nat) (hd:Nat->Value) (al:Nat->Bool) (ln:Nat->Nat) (ct:Nat->Nat->List SV)
 |dead
def SE(w:World)(H:Nat->Prop)(μ:Mu)(x:Value)(T:TypeId)(cs:List SV):Prop:=
 ∃b a,x=.pointer (some ⟨b,0,none⟩)/\w.heap[b]?=some (.cells (List.toArray a) T (0,0))/\a.length=cs.length/\(∀v∈a,v.oneCell'=true)/\∀(i:Nat) (s:SV) (v:Value),cs[i]?=some s->a[i]?=some v->D w H μ s v
def JW(w:World)(H:Nat->Prop)(μ:Mu)(x:Value)(T:TypeId)(sz n:Nat)(f:Nat->List SV)(c:Option Nat):Prop:=
 ∃a m,x=.slice a n m/\n<=m/\m<=maxLen/\(c=none\/c=some m)/\(∀i,i<n->(f i).length=sz/\(f i).all SV.pure=true)/\
    (m=0\/∃b o d,0<m/\a=some ⟨b,o,none⟩/\w.heap[b]?=some (.cells (List.toArray d) T (0,0))/\o+m*sz<=d.length/\(∀v∈d,v.oneCell'=true)/\
      ∀(i j:Nat) (s:SV) (v:Value),i<n->(f i)[j]?=some s->d[o+i*sz+j]?=some v->D w H μ s v)
def Om(w:World)(H:Nat->Prop)(μ:Mu)(x:Value)(T:TypeId)(sz n:Nat)(f:Nat->List SV)(c:Option Nat)(i:Nat)(u:List SV):Prop:=
 ∃b o m a,x=.slice (some ⟨b,o,none⟩) n m/\n<=m/\m<=maxLen/\(c=none\/c=some m)/\i<n/\u.length=sz/\(∀q,q<n->q≠i->(f q).length=sz/\(f q).all SV.pure=true)/\
  w.heap[b]?=some (.cells (List.toArray a) T (0,0))/\o+m*sz<=a.length/\(∀v∈a,v.oneCell'=true)/\
  (∀(q j:Nat) (s:SV) (v:Value),q<n->q≠i->(f q)[j]?=some s->a[o+q*sz+j]?=some v->D w H μ s v)/\
  ∀(j:Nat) (s:SV) (v:Value),u[j]?=some s->a[o+i*sz+j]?=some v->D w H μ s v
theorem Om.to{w w':World}{H H':Nat->Prop}{μ μ':Mu}{x:Value}{T:TypeId}{sz n:Nat}{f:Nat->List SV}{c:Option Nat}{i:Nat}{u:List SV}(g:SV->SV)(l:∀b,FO x=some b->w'.heap[b]?=w.heap[b]?)
 (r:∀s v,s.pure=true->D w H μ s v->D w' H' μ' s v) (t:∀s v,D w H μ s v->D w' H' μ' (g s) v) (h:Om w H μ x T sz n f c i u):Om w' H' μ' x T sz n f c i (u.map g):=by
 obtain⟨b,o,m,y,rfl,z,A,B,C,hu,d,E,F,G,I,J⟩:=h;refine⟨b,o,m,y,rfl,z,A,B,C,Fz,d,(l b (Ok Dz)).trans E,F,G,λq j s v e k hs a=>r _ _ (Jr.1 (d q e k).2 s (Jn hs)) (I q j s v e k hs a),λj s v hs a=> ?_⟩;simp only[Iy]at hs;obtain⟨K,L,rfl⟩:=hs;exact t _ _ (J j K v L a)
structure PoolOK (w:World) (H:Nat->Prop) (T:TypeId) (sz n:Nat) (hd:Nat->Value) (al:Nat->Bool) (ln:Nat->Nat) (ct:Nat->Nat->List SV) (qs:List (List Value)):Prop where
 ql:qs.length=n
 nd:∀(i j i' j':Nat) (us us':List Value) (u u':Value) (b:Nat),qs[i]?=some us->us[j]?=some u->FO u=some b->qs[i']?=some us'->us'[j']?=some u'->FO u'=some b->i=i'
 mem:∀i,i<n->(al i=false/\qs[i]?=some [])\/(al i=true/\qs[i]?=some [hd i]/\JW w H (λ_=>none) (hd i) T sz (ln i) (ct i) none)
def loc(us:List Value):Mu:=λj=>us[j]?
def SV.memc:SV->Bool
 |.osl _=>true
 |s=>s.pure
structure MemOK (w:World) (H:Nat->Prop) (T:TypeId) (Ts:List (TypeId×Nat)) (m:Mem) (p:Value) (us:List Value):Prop where
 cells:SE w H (loc us) p T m.cs
 memc:m.cs.all SV.memc=true
 len:us.length=Ts.length
 rlen:m.rows.length=Ts.length
 rows:∀(j:Nat) (t:TypeId×Nat) (r:Nat×(Nat->List SV)) (u:Value),Ts[j]?=some t->m.rows[j]?=some r->us[j]?=some u->JW w H (loc us) u t.1 t.2 r.1 r.2 none
structure FamOK (w:World) (H:Nat->Prop) (T:TypeId) (Ts:List (TypeId×Nat)) (n:Nat) (bz:Option Nat) (F:Nat->Mem) (ps:List Value) (qs:List (List Value)):Prop where
 pl:ps.length=n
 ql:qs.length=n
 nd:∀(i j i' j':Nat) (us us':List Value) (u u':Value) (b:Nat),qs[i]?=some us->us[j]?=some u->FO u=some b->qs[i']?=some us'->us'[j']?=some u'->FO u'=some b->i=i'/\j=j'
 mem:∀i,i<n->∃b us,ps[i]?=some (.pointer (some ⟨b,0,none⟩))/\qs[i]?=some us/\((bz=some i/\us=[])\/(bz≠some i/\∃us',us=.pointer (some ⟨b,0,none⟩)::us'/\MemOK w H T Ts (F i) (.pointer (some ⟨b,0,none⟩)) us'))
def d0n(μ:Mu)(a:Option (Nat×Nat))(ps:List Value):Prop:=∀i c,a=some (i,c)->∃p,ps[i]?=some p/\μ c=some p
theorem d0n.keep{μ μ':Mu}{a:Option (Nat×Nat)}{ps:List Value}(h:d0n μ a ps)(b:∀i c p,a=some (i,c)->μ c=some p->μ' c=some p):d0n μ' a ps:=λi c e=>by obtain⟨p,d,f⟩:=h i c e;exact⟨p,d,b i c p e f⟩
def DX(w:World)(H:Nat->Prop)(μ:Mu)(x:Value):Blk->Prop
 |.cells T y=>∃b e,x=.pointer (some ⟨b,0,none⟩)/\w.heap[b]?=some (.cells (List.toArray e) T (0,0))/\e.length=y.length/\(∀v∈e,v.oneCell'=true)/\∀(i:Nat) (s:SV) (v:Value),y[i]?=some s->e[i]?=some v->D w H μ s v
 |.row T h n f c=>∃a m,x=.slice a n m/\n<=m/\m<=maxLen/\(c=none\/c=some m)/\(∀i,i<n->(f i).length=h/\(f i).all SV.pure=true)/\
  (m=0\/∃b o e,0<m/\a=some ⟨b,o,none⟩/\w.heap[b]?=some (.cells (List.toArray e) T (0,0))/\o+m*h<=e.length/\(∀v∈e,v.oneCell'=true)/\
    ∀(i j:Nat) (s:SV) (v:Value),i<n->(f i)[j]?=some s->e[o+i*h+j]?=some v->D w H μ s v)
 |.map K A d val=>∃r g,x=.map (some r)/\MapAt w r K A d g/\(∀q,d q=true->(g q).length=(val q).length/\(val q).all SV.pure=true)/\
  ∀(q:List Int) (i:Nat) (s:SV) (v:Value),d q=true->(val q)[i]?=some s->(g q)[i]?=some v->D w H μ s v
 |.fam T B n z F=>∃l t,x=BQ l t/\FamOK w H T B n (z.map (·.1)) F l t/\d0n μ z l
 |.pmap K k d BU=>(∃l t,μ k=some (BQ l t))/\∃r g,x=.map (some r)/\MapAt w r K false d g/\∀q,d q=true->∃p,g q=[p]/\D w H μ (.fp true k (BU q) 0) p
 |.rowh T h n f c i u=>Om w H μ x T h n f c i u
 |.pool T h n C E G I=>∃l t,x=BQ l t/\PoolOK w H T h n C E G I t
 |.dead=>True
structure Own (B0:Nat) (X A:Nat->Prop) (w:World) (μ:Mu) (own:List Blk):Prop where
 blk:∀k x,μ k=some x->∃bl,own[k]?=some bl/\DX w (held A μ) μ x bl
 inj:∀k k' x x' b,μ k=some x->μ k'=some x'->CS x b->CS x' b->k=k'
 rng:∀k x b,μ k=some x->CS x b->b<w.heap.size/\¬A b/\(B0<=b\/X b)
 bnd:∀b,A b->b<w.heap.size
abbrev dwOn:Prop:=True
structure Fr (B0:Nat) (X:Nat->Prop) (w0 w:World):Prop where
 os:w.os=w0.os
 tape:w.tape=w0.tape
 output:w.output=w0.output
 drawn:dwOn->w0.drawn<=w.drawn
 size:w0.heap.size<=w.heap.size
 block:∀i,i<B0->¬X i->w.heap[i]?=w0.heap[i]?
theorem Fr.refl(a:Nat)(X:Nat->Prop)(w:World):Fr a X w w:=⟨rfl,rfl,rfl,λ_=>Jp _,Jp _,λ_ _ _=>rfl⟩
theorem Fr.trans{e:Nat}{X:Nat->Prop}{a b c:World}(h:Fr e X a b)(k:Fr e X b c):Fr e X a c:=
 ⟨k.os.trans h.os,k.tape.trans h.tape,k.output.trans h.output,λd=>Lr (h.drawn d) (k.drawn d),Lr h.size k.size,λi f hx=>(k.block i f hx).trans (h.block i f hx)⟩
theorem SE.keep{w w':World}{H H':Nat->Prop}{μ μ':Mu}{x:Value}{T:TypeId}{cs:List SV}(a:Keeps w w' H H' μ μ')(c:∀b,FO x=some b->w'.heap[b]?=w.heap[b]?)(h:SE w H μ x T cs):SE w' H' μ' x T cs:=by obtain⟨b,d,rfl,e,f,g,j⟩:=h;exact⟨b,d,rfl,(c b rfl).trans e,f,g,λi s v hs k=>(j i s v hs k).keep a⟩
theorem JW.keep{w w':World}{H H':Nat->Prop}{μ μ':Mu}{x:Value}{T:TypeId}{sz n:Nat}{f:Nat->List SV}{c:Option Nat}(e:Keeps w w' H H' μ μ')(g:∀b,FO x=some b->w'.heap[b]?=w.heap[b]?)(h:JW w H μ x T sz n f c):JW w' H' μ' x T sz n f c:=by
 obtain⟨a,m,rfl,k,l,p,q,h⟩:=h;refine⟨a,m,rfl,k,l,p,q,?_⟩;rcases h with h|⟨b,o,r,d,rfl,t,u,y,z⟩
 .exact .inl h
 .exact .inr ⟨b,o,r,d,rfl,(g b (Ok d)).trans t,u,y,λi j s v A hs B=>(z i j s v A hs B).keep e⟩
structure Keeps0 (w w':World) (H H':Nat->Prop):Prop where
 size:w.heap.size<=w'.heap.size
 block:∀b,b<w.heap.size->¬H b->w'.heap[b]?=w.heap[b]?
 less:∀b,b<w.heap.size->H' b->H b
theorem Keeps0.any{w w':World}{H H':Nat->Prop}(h:Keeps0 w w' H H')(μ:Mu):Keeps w w' H H' μ μ:=⟨h.size,h.block,h.less,λ_ _ h=>h⟩
theorem Keeps.k0{w w':World}{H H':Nat->Prop}{μ μ':Mu}(h:Keeps w w' H H' μ μ'):Keeps0 w w' H H':=⟨h.size,h.block,h.less⟩
theorem MemOK.keep{w w':World}{H H':Nat->Prop}{T:TypeId}{a:List (TypeId×Nat)}{m:Mem}{p:Value}{us:List Value}(c:Keeps0 w w' H H')(d:∀u b,u=p\/u∈us->FO u=some b->w'.heap[b]?=w.heap[b]?)(h:MemOK w H T a m p us):MemOK w' H' T a m p us:=
 ⟨h.cells.keep (c.any _) (λb=>d p b (.inl rfl)),h.memc,h.len,h.rlen,λj t r u f g e=>(h.rows j t r u f g e).keep (c.any _) (λb=>d u b (.inr (Jn e)))⟩
theorem FamOK.keep{w w':World}{H H':Nat->Prop}{T:TypeId}{g:List (TypeId×Nat)}{n:Nat}{j:Option Nat}{F:Nat->Mem}{ps:List Value}{d:List (List Value)}(l:Keeps0 w w' H H')(m:∀b,CS (BQ ps d) b->w'.heap[b]?=w.heap[b]?)
 (h:FamOK w H T g n j F ps d):FamOK w' H' T g n j F ps d:=by
 refine⟨h.pl,h.ql,h.nd,λi o=> ?_⟩;obtain⟨b,p,q,k,a⟩:=h.mem i o;refine⟨b,p,q,k,?_⟩;rcases a with a|⟨a,e,rfl,r⟩
 .exact .inl a
 .refine .inr ⟨a,e,rfl,r.keep l (λu c f s=>m c (Oc.2 ⟨_,u,Jn k,?_,s⟩))⟩;rcases f with rfl|f
  .simp
  .simp[f]
theorem PoolOK.keep{w w':World}{H H':Nat->Prop}{T:TypeId}{sz n:Nat}{d:Nat->Value}{e:Nat->Bool}{f:Nat->Nat}{g:Nat->Nat->List SV}{ps:List Value}{a:List (List Value)}(k:Keeps0 w w' H H')(l:∀b,CS (BQ ps a) b->w'.heap[b]?=w.heap[b]?)
 (h:PoolOK w H T sz n d e f g a):PoolOK w' H' T sz n d e f g a:=by
 refine⟨h.ql,h.nd,λi m=> ?_⟩;rcases h.mem i m with c|⟨c,j,o⟩
 .exact .inl c
 .exact .inr ⟨c,j,o.keep (k.any _) (λb q=>l b (Oc.2 ⟨_,_,Jn j,E2,q⟩))⟩
theorem DX.keep{w w':World}{H H':Nat->Prop}{μ μ':Mu}{x:Value}{bl:Blk}(a:Keeps w w' H H' μ μ')(d:∀b,CS x b->w'.heap[b]?=w.heap[b]?)(h:DX w H μ x bl):DX w' H' μ' x bl:=by
 cases bl with
 |cells T cs=>exact SE.keep a (λb hx=>d b (.inl hx)) h
 |row T z n f c=>exact JW.keep a (λb hx=>d b (.inl hx)) h
 |map K ag o val=>
  obtain⟨r,g,rfl,t,A,m⟩:=h;exact⟨r,g,rfl,t.keep (d r (.inl rfl)),A,λq i s v y hs B=>(m q i s v y hs B).keep a⟩
 |fam T Ts n bz F=>
  obtain⟨j,l,rfl,h,C⟩:=h;exact⟨j,l,rfl,h.keep a.k0 d,C.keep (λ_ _ _ _ e=>a.own _ _ e)⟩
 |pmap K k o BU=>
  obtain⟨⟨j,l,E⟩,r,g,rfl,t,m⟩:=h;exact⟨⟨j,l,a.own _ _ E⟩,r,g,rfl,t.keep (d r (.inl rfl)),λq y=>by obtain⟨p,e,h⟩:=m q y;exact⟨p,e,h.keep a⟩⟩
 |rowh T z n f c i u=>
  have:=Om.to id (λb hx=>d b (.inl hx)) (λs v _ h=>h.keep a) (λs v h=>h.keep a) h;rwa[List.map_id]at this
 |pool T z n m al ln ct=>
  obtain⟨j,l,rfl,h⟩:=h;exact⟨j,l,rfl,h.keep a.k0 d⟩
 |dead=>exact Jm
theorem Keeps.drew{w:World}{H:Nat->Prop}{μ:Mu}:Keeps w w.drew H H μ μ:=⟨Jp _,λ_ _ _=>rfl,λ_ _ h=>h,λ_ _ h=>h⟩
theorem Fr.drew{a:Nat}{X:Nat->Prop}{w:World}:Fr a X w w.drew:=⟨rfl,rfl,rfl,λ_=>Nat.le_succ _,Jp _,λ_ _ _=>rfl⟩
theorem Own.drew{a:Nat}{X A:Nat->Prop}{w:World}{μ:Mu}{own:List Blk}(h:Own a X A w μ own):Own a X A w.drew μ own:=
 ⟨λk x hx=>by obtain⟨b,e,c⟩:=h.blk k x hx;exact⟨b,e,c.keep Keeps.drew (λ_ _=>rfl)⟩,h.inj,h.rng,h.bnd⟩
theorem Keeps.alloc{w:World}{H:Nat->Prop}{μ:Mu}(o:Obj):Keeps w (w.alloc o) H H μ μ:=
 ⟨E2,λb a _=>Na w o b a,λ_ _ h=>h,λ_ _ h=>h⟩
theorem Fr.alloc{a:Nat}{X:Nat->Prop}{w:World}(o:Obj)(hB:a<=w.heap.size):Fr a X w (w.alloc o):=
 ⟨rfl,rfl,rfl,λ_=>Jp _,E2,λi hi _=>Na w o i Dz⟩
def Mu.set(μ:Mu)(k:Nat)(x:Value):Mu:=λj=>if j=k then some x else μ j
theorem Uk{l:Nat}{X A:Nat->Prop}{w:World}{μ:Mu}{own:List Blk}(h:Own l X A w μ own)(v:l<=w.heap.size){k:Nat}{bl:Blk}(z:μ k=none)(B:own[k]?=some bl)(o:Obj)(x:Value)
 (hx:∀b,CS x b->b=w.heap.size) (C:∀c,c=μ.set k x->Keeps w (w.alloc o) (held A μ) (held A c) μ c->DX (w.alloc o) (held A c) c x bl):
 Own l X A (w.alloc o) (μ.set k x) own/\Keeps w (w.alloc o) (held A μ) (held A (μ.set k x)) μ (μ.set k x):=by
 have m:Keeps w (w.alloc o) (held A μ) (held A (μ.set k x)) μ (μ.set k x):=by
  refine⟨E2,λb d _=>Na w o b d,λb d n=> ?_,λj y a=> ?_⟩
  .rcases n with n|⟨j,y,hj,a⟩
   .exact .inl n
   .unfold Mu.set at hj;split at hj
    .cases hj;have:=hx _ a;omega
    .exact .inr ⟨j,y,hj,a⟩
  .unfold Mu.set;split
   .subst_vars;rw[z]at a;cases a
   .exact a
 refine⟨⟨λj y hj=> ?_,λj q y r b hj f a s=> ?_,λj y b hj a=> ?_,λb d=>by have:=h.bnd b d;simp;omega⟩,m⟩
 .by_cases e:j=k
  .subst e;have:y=x:=F6;subst this;exact⟨bl,B,C _ rfl m⟩
  .have f:μ j=some y:=Fe;obtain⟨t,E,d⟩:=h.blk j y f;exact⟨t,E,d.keep m (λb F=>Na w o b (h.rng j y b f F).1)⟩
 .have g:∀j y,Mu.set μ k x j=some y->CS y b->(j=k/\b=w.heap.size)\/(j≠k/\μ j=some y):=by
   intro j y hj a;by_cases e:j=k
   .subst e;have:y=x:=F6;subst this;exact .inl ⟨rfl,hx _ a⟩
   .exact .inr ⟨e,Fe⟩
  rcases g j y hj a with⟨e,eb⟩|⟨e,em⟩<;>rcases g q r f s with⟨u,eb'⟩|⟨u,i⟩
  .rw[e,u]
  .have:=(h.rng q r b i s).1;omega
  .have:=(h.rng j y b em a).1;omega
  .exact h.inj j q y r b em i a s
 .by_cases e:j=k
  .subst e;have:y=x:=F6;subst this;have:=hx _ a;subst this;exact⟨E2,λG=>N0 _ (h.bnd _ G),.inl v⟩
  .have f:μ j=some y:=Fe;obtain⟨r1,H,I⟩:=h.rng j y b f a;exact⟨Eb,H,I⟩
def IJ:TypeDesc->Bool
 |.struct _|.array _ _=>true
 |_=>false
section
variable{P:Program}{w:World}
theorem b3p(a:Addr)(us:List Value):∀(i:Nat) (b:Array Value),(∀(j:Nat) (u:Value),us[j]?=some u->w.cell? (a.add (i+j))=some u)->
 (loadCellsFrom a i us.length b).run P w=.ok (b++us.toArray) w:=by
 induction us with
 |nil=>intro i b _;simp[loadCellsFrom]
 |cons u us c=>
  intro i b h;have d:w.cell? (a.add i)=some u:=by simpa using h 0 u rfl
  have:=c (i+1) (b.push u) (λj v hv=>by have:=h (j+1) v G1;rwa[Lt,Nat.add_comm 1 j]);simp[loadCellsFrom,Go.load,Sem.run,d,this]
theorem b2j(a:Addr)(us:List Value)(n:Nat)(b:us.length=n)(h:∀(j:Nat) (u:Value),us[j]?=some u->w.cell? (a.add j)=some u):
 (loadCells a n).run P w=.ok us.toArray w:=by
 subst b;have:=b3p (P:=P) (w:=w) a us 0 #[] (λj u c=>by simpa using h j u c);simpa[loadCells]using this
theorem b16{T:TypeId}{d:TypeDesc}(h:P.underlying T=some d):(isAgg T).run P w=.ok (IJ d) w:=by cases d<;>simp[isAgg,Kn h,IJ]
theorem IP{T:TypeId}{i:TypeInfo}(h:P.info? T=some i):(sizeOf T).run P w=.ok i.size w:=by simp[sizeOf,typeInfo,h]
theorem f32(a:Addr)(u:Value)(h:w.cell? a=some u):(Go.load a).run P w=.ok u w:=by simp[Go.load,Sem.run,h]
theorem WI{T:TypeId}{i:TypeInfo}{z:Value}(h:P.info? T=some i)(a:i.zero=some z):(zeroValue T).run P w=.ok z w:=by simp[zeroValue,typeInfo,h,a]
def putRow(w:World)(b:Nat)(vs:List Value)(T:TypeId):World:={w with heap:=w.heap.setIfInBounds b (.cells vs.toArray T (0,0))}
theorem b0b{b:Nat}{vs:List Value}{T:TypeId}(h:b<w.heap.size):(putRow w b vs T).heap[b]?=some (.cells vs.toArray T (0,0)):=by simp[putRow,h]
theorem b0i{b i:Nat}{vs:List Value}{T:TypeId}(h:i≠b):(putRow w b vs T).heap[i]?=w.heap[i]?:=by simp[putRow,Mf (Ne.symm h)]
theorem b27{b:Nat}{vs:List Value}{T:TypeId}:(putRow w b vs T).heap.size=w.heap.size:=by simp[putRow]
theorem Pz{b:Nat}{c:Array Value}{T:TypeId}{z:Nat×Nat}(h:w.heap[b]?=some (.cells c T z)):b<w.heap.size:=by
 rcases Nd b w.heap.size with a|a
 .exact a
 .rw[Array.getElem?_eq_none a]at h;cases h
theorem TM{b:Nat}{vs:List Value}{T:TypeId}{z:Nat×Nat}(h:w.heap[b]?=some (.cells vs.toArray T z))(j:Nat):w.cell? ⟨b,j,none⟩=vs[j]?:=by simp[World.cell?,h]
theorem c4w{b j:Nat}{vs:List Value}{T:TypeId}{v:Value}(h:w.heap[b]?=some (.cells vs.toArray T (0,0))):w.setCell ⟨b,j,none⟩ v=putRow w b (vs.set j v) T:=by
 have a:=Pz h;unfold World.setCell putRow;congr 1;apply Array.ext_getElem?;intro i;rw[M8,Nc];by_cases e:b=i
 .subst e;rw[Ji rfl,Ji rfl,Ji a,h];simp
 .simp[e]
theorem c12{b:Nat}{vs us:List Value}{T U:TypeId}:putRow (putRow w b vs T) b us U=putRow w b us U:=by unfold putRow;simp
theorem c53{b:Nat}{vs:List Value}{T:TypeId}(h:w.heap[b]?=some (.cells vs.toArray T (0,0))):putRow w b vs T=w:=by
 have a:=Pz h;unfold putRow;have:w.heap.setIfInBounds b (.cells vs.toArray T (0,0))=w.heap:=by
  apply Array.ext_getElem?;intro i;rw[Nc];by_cases e:b=i
  .subst e;rw[Ji rfl,Ji a,h]
  .simp[e]
 rw[this]
theorem d2h{a:Addr}{v u:Value}(b:v.oneCell'=true)(c:w.cell? a=some u)(d:w.frozen? a=false):(Go.store a v).run P w=.ok () (w.setCell a v):=by have:(Go.store a v).run P w=stored P w a v .plain:=run_store P w a _ _ b;rw[this];simp[stored,c,d]
def QO{α:Type}:List α->List α->List α
 |_::a,u::b=>u::QO a b
 |a,_=>a
def over{α:Type}:List α->Nat->List α->List α
 |a,0,b=>QO a b
 |v::a,n+1,b=>v::over a n b
 | [],_+1,_=>[]
theorem b0j{α:Type}:∀(vs us:List α),(QO vs us).length=vs.length
 | [],us=>G2
 |_::_,[]=>G2
 |_::vs,_::us=>by simp[QO,b0j vs us]
theorem b65{α:Type}:∀(vs us:List α) (j:Nat),us.length<=vs.length->(QO vs us)[j]?=if j<us.length then us[j]? else vs[j]?
 | [],[],j,_=>G2
 | [],_::_,_,h=>Ec
 |_::_,[],j,_=>G2
 |v::vs,u::us,0,_=>G2
 |v::vs,u::us,j+1,h=>by
  simp only[Kz]at h;simp only[QO,M0,b65 vs us j Dz,Kz];by_cases e:j<us.length
  .rw[Ji e,Ji Dz]
  .rw[Jj e,Jj Dz]
theorem PB{α:Type}(us:List α):∀(vs:List α) (off:Nat),(over vs off us).length=vs.length
 | [],0=>by simp[over,b0j]
 |v::vs,0=>by simp only[over,b0j]
 |v::vs,n+1=>by simp[over,PB us vs n]
 | [],_+1=>by simp[over]
theorem NU{α:Type}(us:List α):∀(vs:List α) (off j:Nat),off+us.length<=vs.length->(over vs off us)[j]?=if off<=j/\j<off+us.length then us[j-off]? else vs[j]?
 |vs,0,j,h=>by
  have e:over vs 0 us=QO vs us:=by cases vs<;>rfl
  rw[e,b65 _ _ _ Dz];by_cases q:j<us.length
  .rw[Ji q,Ji Dz];rfl
  .rw[Jj q,Jj Dz]
 |v::vs,n+1,0,h=>by rw[Jj Dz];rfl
 |v::vs,n+1,j+1,h=>by
  simp only[Kz]at h;simp only[over,M0,NU us vs n j Dz];by_cases q:n<=j/\j<n+us.length
  .rw[Ji q,Ji Dz,show j+1-(n+1)=j-n from Dz]
  .rw[Jj q,Jj Dz]
 | [],n+1,j,h=>Ec
theorem d08{α:Type}(vs:List α)(off:Nat)(h:off<=vs.length):over vs off []=vs:=by refine Mh λj=> ?_;rw[NU _ _ _ _ E6,Jj (by simp<;>omega)]
theorem c4c{α:Type}(u:α)(us vs:List α)(off:Nat)(h:off+(us.length+1)<=vs.length):over vs off (u::us)=over (vs.set off u) (off+1) us:=by
 refine Mh λj=> ?_;rw[NU _ _ _ _ E6,NU _ _ _ _ Eb,List.getElem?_set];simp only[Kz];by_cases e:off=j
 .subst e;rw[Ji Dz,Jj Dz,Ji rfl,Ji Dz];simp
 .by_cases a:off+1<=j/\j<off+1+us.length
  .rw[Ji a,Ji Dz];have:j-off=(j-(off+1))+1:=Dz;rw[this];rfl
  .rw[Jj a,Jj e,Jj Dz]
theorem Yh(b o:Nat)(T:TypeId)(us:List Value):∀(w:World) (vs:List Value) (i:Nat),w.heap[b]?=some (.cells vs.toArray T (0,0))->o+i+us.length<=vs.length->(∀u∈us,u.oneCell'=true)->
 (storeCells ⟨b,o,none⟩ us i).run P w=.ok () (putRow w b (over vs (o+i) us) T):=by
 induction us with
 |nil=>intro w vs i h hl _;rw[d08 _ _ Ef];simp[storeCells,c53 h]
 |cons u us d=>
  intro w vs i h hl a;simp only[Kz]at hl;have e:w.cell? ⟨b,o+i,none⟩=some (vs[o+i]'Dz):=by rw[TM h];exact Jh Dz
  have f:w.frozen? ⟨b,o+i,none⟩=false:=by simp[World.frozen?,h]
  have c:=d2h (P:=P) (a u E2) e f;rw[c4w h]at c;have g:=Pz h;have:=d (putRow w b (vs.set (o+i) u) T) (vs.set (o+i) u) (i+1) (b0b g) Eb (λx hx=>a x Ej);rw[c12]at this;simp only[storeCells,Ln,Jd,c];rw[c4c _ _ _ _ Dz];simpa[Lt]using this
end
theorem Keeps.put{w:World}{A:Nat->Prop}{μ:Mu}{b k:Nat}{x:Value}{vs:List Value}{T:TypeId}(a:μ k=some x)(hx:CS x b):Keeps w (putRow w b vs T) (held A μ) (held A μ) μ μ:=
 ⟨H7,λc _ d=>b0i (λe=>d (by subst e;exact .inr ⟨k,x,a,hx⟩)),λ_ _ h=>h,λ_ _ h=>h⟩
theorem b9h{l:Nat}{X A:Nat->Prop}{w:World}{μ:Mu}{own:List Blk}(h:Own l X A w μ own){k b:Nat}{x:Value}{vs:List Value}{T:TypeId}{bl:Blk}(f:μ k=some x)(hx:CS x b)
 (m:DX (putRow w b vs T) (held A μ) μ x bl):Own l X A (putRow w b vs T) μ (own.set k bl):=by
 have n:Keeps w (putRow w b vs T) (held A μ) (held A μ) μ μ:=Keeps.put f hx;refine⟨λj y a=> ?_,h.inj,λj y c a o=>by rw[b27];exact h.rng j y c a o,λc g=>by rw[b27];exact h.bnd c g⟩;by_cases e:j=k
 .subst e;have:y=x:=by rw[f]at a;exact(Km a).symm
  subst this;obtain⟨d,i,_⟩:=h.blk j y f;have p:j<own.length:=(Jk.1 i).1;exact⟨bl,by simp[p],m⟩
 .obtain⟨d,i,q⟩:=h.blk j y a;refine⟨d,by rw[Jz (Ne.symm e)];exact i,q.keep n (λc g=>b0i (λr=> ?_))⟩;subst r;exact e (h.inj j k y x c a f g hx)
theorem Fr.put{c:Nat}{X:Nat->Prop}{w:World}{b:Nat}{vs:List Value}{T:TypeId}(a:c<=b\/X b):Fr c X w (putRow w b vs T):=
 ⟨rfl,rfl,rfl,λ_=>Jp _,H7,λi hi d=>b0i (λe=>by subst e;rcases a with a|a;omega;exact d a)⟩
def AD:IntKind->Int->Prop
 |.i8,n=> -128<=n/\n<=127
 |.i16,n=> -32768<=n/\n<=32767
 |.i32,n=> -2147483648<=n/\n<=2147483647
 |.i64,n=> -9223372036854775808<=n/\n<=9223372036854775807
 |.u8,n=>0<=n/\n<=255
 |.u16,n=>0<=n/\n<=65535
 |.u32,n=>0<=n/\n<=4294967295
 |.u64,n=>0<=n/\n<=18446744073709551615
theorem RO{k:IntKind}{n:Int}(h:AD k n):k.wrap n=n:=by cases k<;>simp only[AD]at h<;>simp only[IntKind.wrap,IntKind.bits,IntKind.signed]<;>simp<;>omega
def Vb:Value->SV
 |.int k n=>.int k n
 |.bool b=>.bool b
 |.func (.func f) ⟨[]⟩ ⟨[]⟩=>.clo f []
 |v=>.con v
def g22:Value->SV
 |.agg a=>.agg (a.toList.map Vb)
 |v=>Vb v
section
variable{w:World}{H:Nat->Prop}{μ:Mu}
theorem c71(v:Value):D w H μ (Vb v) v:=by
 unfold Vb;split
 .exact .int
 .exact .bool
 .exact .clo [] rfl (λi s v h _=>Ec)
 .exact .con
theorem b4c(vs:List Value):∀(i:Nat) (s:SV) (v:Value),(vs.map Vb)[i]?=some s->vs[i]?=some v->D w H μ s v:=by intro i s v hs a;simp[a]at hs;subst hs;exact c71 v
theorem f9s(v:Value):D w H μ (g22 v) v:=by
 unfold g22;split
 .rename_i a;obtain⟨a⟩:=a;exact .agg a E2 (b4c a)
 .exact c71 v
end
def SV.isCell:SV->Bool
 |.con v=>v.oneCell'
 |.agg _|.tup _|.any=>false
 |_=>true
def SV.cells:SV->Option (List SV)
 |.agg a=>some a
 |.tup _|.any=>none
 |.con v=>if v.oneCell' then some [.con v]else none
 |s=>some [s]
theorem D.one{w:World}{H:Nat->Prop}{μ:Mu}{s:SV}{v:Value}(h:D w H μ s v)(hc:s.isCell=true):v.oneCell'=true:=by
 cases h with
 |fp h=>
  split at h
  .exact Cp
  .subst h;rfl
 |_=>simp_all[SV.isCell,Value.oneCell']
theorem D.cells{w:World}{H:Nat->Prop}{μ:Mu}{s:SV}{v:Value}{cs:List SV}(h:D w H μ s v)(hc:s.cells=some cs):
 v.cells.toList.length=cs.length/\∀(i:Nat) (t:SV) (u:Value),cs[i]?=some t->v.cells.toList[i]?=some u->D w H μ t u:=by
 have one:∀{s:SV} {v:Value},D w H μ s v->v.cells= #[v]->cs=[s]->v.cells.toList.length=cs.length/\∀(i:Nat) (t:SV) (u:Value),cs[i]?=some t->v.cells.toList[i]?=some u->D w H μ t u:=by
  intro s v c k e;subst e;rw[k];refine⟨rfl,λi t u f j=> ?_⟩;match i with
  |0=>simp at f j;subst f j;exact c
  |i+1=>simp at f
 cases h with
 |agg x d c=>
  simp[SV.cells]at hc;subst hc;exact⟨by simpa[Value.cells]using d,λi t u f j=>c i t u f (by simpa[Value.cells]using j)⟩
 |tup=>simp[SV.cells]at hc
 |any=>simp[SV.cells]at hc
 |ub y z=>exact one (.ub y z) rfl Ek
 |con=>
  simp only[SV.cells]at hc;split at hc
  .rename_i y;exact one .con (by cases v<;>simp_all[Value.cells,Value.oneCell']) (by simpa using hc.symm)
  .cases hc
 |int=>exact one .int rfl Ek
 |bool=>exact one .bool rfl Ek
 |own h=>exact one (.own h) rfl Ek
 |osl h=>exact one (.osl h) rfl Ek
 |oel h=>exact one (.oel h) rfl Ek
 |sl a b o m g l hx A n d c=>exact one (.sl a b o m g l hx A n d c) rfl Ek
 |rel b o g B q n d c=>exact one (.rel b o g B q n d c) rfl Ek
 |clo x d c=>exact one (.clo x d c) rfl Ek
 |omp h=>exact one (.omp h) rfl Ek
 |fp h=>
  have k:v.cells= #[v]:=by
   split at h
   .exact Cp
   .subst h;rfl
  exact one (.fp h) k Ek
 |mp r g q l d c=>exact one (.mp r g q l d c) rfl Ek
theorem flat_len{α:Type}{F:Nat->List α}{sz:Nat}:∀{m k:Nat},(∀i,k<=i->i<k+m->(F i).length=sz)->((List.range' k m).flatMap F).length=m*sz
 |0,_,_=>E2
 |m+1,k,h=>by rw[List.range'_succ,List.flatMap_cons,K8,h k (Jp _) Dz,flat_len (m:=m) (k:=k+1) (λi h1 h2=>h i Dz Dz),N5,Nat.add_comm]
theorem b56{α:Type}{F:Nat->List α}{sz:Nat}:∀{m k x:Nat} {a:α},(∀i,k<=i->i<k+m->(F i).length=sz)->((List.range' k m).flatMap F)[x]?=some a->∃i j,i<m/\j<sz/\x=i*sz+j/\(F (k+i))[j]?=some a
 |0,k,x,a,_,h=>Ec
 |m+1,k,x,a,b,h=>by
  rw[List.range'_succ,List.flatMap_cons]at h;have c:=b k (Jp _) Dz;by_cases hx:x<sz
  .rw[Jt Dz]at h;exact⟨0,x,Dz,hx,Dz,h⟩
  .rw[Jy Dz,c]at h;obtain⟨i,j,hi,d,e,f⟩:=b56 (m:=m) (k:=k+1) (λi h1 h2=>b i Dz Dz) h;refine⟨i+1,j,Dz,d,?_,by rw[show k+(i+1)=k+1+i from Dz];exact f⟩;rw[N5];omega
def Wh(own:List Blk)(n:Nat):SV->Option (List SV)
 |.own k a=>match own[k]? with
  |some (.cells _ d)=>if a+n<=d.length then some ((d.drop a).take n)else none
  |_=>none
 |.rel c m f i a=>if a+n<=(f i).length then some (((f i).drop a).take n)else if i=0/\a=0/\n=m*c then some ((List.range' 0 m).flatMap f)else none
 |.oel k c i a=>match own[k]? with
  |some (.row _ b _ f _)=>if c=b/\a+n<=c then some (((f i).drop a).take n)else none
  |some (.rowh _ b _ _ _ _ u)=>if c=b/\a+n<=c then some ((u.drop a).take n)else none
  |_=>none
 |_=>none
def XR(own:List Blk):SV->Prop
 |.oel k _ i _=>match own[k]? with
  |some (.row _ _ n _ _)=>i<n
  |some (.rowh _ _ _ _ _ a _)=>i=a
  |_=>False
 |_=>True
section
variable{B0:Nat}{X A:Nat->Prop}{w:World}{μ:Mu}{own ownN:List Blk}
theorem HZ{α:Type}{l:List α}{off n j:Nat}{s:α}(h:((l.drop off).take n)[j]?=some s):j<n/\l[off+j]?=some s:=by
 rw[List.getElem?_take]at h;split at h
 .rename_i a;exact⟨a,E6⟩
 .cases h
theorem d2c(O:Own B0 X A w μ ownN)(P:∀(k:Nat) (bl:Blk),own[k]?=some bl->ownN[k]?=some bl){p:SV}{v:Value}{n:Nat}{cs:List SV}
 (hd:D w (held A μ) μ p v) (d:Wh own n p=some cs) (z:XR own p):
 ∃(a:Addr) (us:List Value),v=.pointer (some a)/\a.spot=none/\us.length=n/\cs.length=n/\(∀(j:Nat) (u:Value),us[j]?=some u->w.cell? (a.add j)=some u)/\
  ∀(i:Nat) (s:SV) (u:Value),cs[i]?=some s->us[i]?=some u->D w (held A μ) μ s u:=by
 cases hd with
 |own h=>
  rename_i k l b;simp only[Wh]at d;split at d
  .rename_i T cs0 t;split at d
   .rename_i B;simp only[Ka]at d;subst d;obtain⟨bl,e,I⟩:=O.blk k _ h;rw[P _ _ t]at e;cases e;obtain⟨Y,C,E,hh,H,K,F⟩:=I;cases E;refine⟨⟨b,l,none⟩,(C.drop l).take n,rfl,rfl,Eb,Eb,λj u r=> ?_,λi s u hs r=> ?_⟩
    .obtain⟨_,gc⟩:=HZ r;exact Cq
    .obtain⟨_,hs'⟩:=HZ hs;obtain⟨_,gc⟩:=HZ r;exact F _ _ _ hs' gc
   .cases d
  .cases d
 |rel b o g L hb Z H F=>
  rename_i q Q i l f;simp only[Wh]at d;split at d
  .rename_i B;simp only[Ka]at d;subst d;have R:=(H i L).1;refine⟨⟨b,o+i*q+l,none⟩,((List.range q).map (g i) |>.drop l).take n,rfl,rfl,Eb,Eb,λj u r=> ?_,λj s u hs r=> ?_⟩
   .obtain⟨_,gc⟩:=HZ r;simp only[Iy]at gc;obtain⟨x,hx,e⟩:=gc;have cx:x=l+j/\l+j<q:=by
     rw[Jk]at hx;obtain⟨G,y⟩:=hx;simp at G y;exact⟨y.symm,G⟩
    obtain⟨rfl,G⟩:=cx;rw[Ln,<-e,<-(Z.2 i (l+j) L G).1];simp[Lt]
   .obtain⟨_,hs'⟩:=HZ hs;obtain⟨_,gc⟩:=HZ r;simp only[Iy]at gc;obtain⟨x,hx,e⟩:=gc;rw[Jk]at hx;obtain⟨G,y⟩:=hx;simp at y;subst y e;exact F i _ _ L hs'
  .split at d
   .rename_i hw;obtain⟨rfl,rfl,rfl⟩:=hw;simp only[Ka]at d;subst d;have S:∀i,0<=i->i<0+Q->((List.range q).map (g i)).length=q:=λi _ _=>E2;have dw:∀i,0<=i->i<0+Q->(f i).length=q:=λi _ h=>(H i Dz).1;refine⟨⟨b,o+0*q+0,none⟩,(List.range' 0 Q).flatMap λi=>(List.range q).map (g i),rfl,rfl,flat_len S,flat_len dw,λj u r=> ?_,λj s u hs r=> ?_⟩
    .obtain⟨i,k,U,t,rfl,e⟩:=b56 S r;simp only[L9,Iy]at e;obtain⟨x,hx,rfl⟩:=e;have:x=k:=by
      rw[Jk]at hx;obtain⟨G,y⟩:=hx;simp at y;exact y.symm
     subst this;rw[Ln,<-(Z.2 i x U t).1];congr 2;omega
    .obtain⟨i,k,U,t,E,e⟩:=b56 S r;obtain⟨M,k2,br,fe,N,e3⟩:=b56 dw hs;have J:i=M/\k=k2:=by
      have K:(i*q+k)/q=i:=by rw[O6,Nat.mul_add_div Dz,Nat.div_eq_of_lt t,Mp]
      have h2:(M*q+k2)/q=M:=by rw[O6,Nat.mul_add_div Dz,Nat.div_eq_of_lt fe,Mp]
      have h3:i=M:=by rw[<-K,<-h2,<-E,<-N]
      subst h3;exact⟨rfl,Dz⟩
     obtain⟨rfl,rfl⟩:=J;simp only[L9,Iy]at e e3;obtain⟨x,hx,rfl⟩:=e;have:x=k:=by rw[Jk]at hx;obtain⟨G,y⟩:=hx;simp at y;exact y.symm
     subst this;exact F i x s U e3
   .cases d
 |oel h=>
  rename_i k q i l b o n1 m1;simp only[Wh]at d;simp only[XR]at z;split at d
  .rename_i T V n' f c t;rw[t]at z;simp only at z;split at d
   .rename_i B;obtain⟨rfl,B⟩:=B;simp only[Ka]at d;subst d;obtain⟨bl,e,I⟩:=O.blk k _ h;rw[P _ _ t]at e;cases e;obtain⟨a,m,E,hn,hm,hc,H,bc⟩:=I;cases E;rcases bc with N|⟨Y,o',C,c9,N,hh,ho,K,F⟩
    .omega
    cases N;have R:=(H i z).1;have jh:o+i*q+q<=C.length:=by have:i*q+q<=m1*q:=Im;omega
    refine⟨⟨b,o+i*q+l,none⟩,(C.drop (o+i*q+l)).take n,rfl,rfl,Eb,Eb,λj u r=> ?_,λj s u hs r=> ?_⟩
    .obtain⟨_,gc⟩:=HZ r;exact Cq
    .obtain⟨_,hs'⟩:=HZ hs;obtain⟨_,gc⟩:=HZ r;exact F i _ _ _ z hs' (by rw[<-gc];congr 1;omega)
   .cases d
  .rename_i T V n' f c i' u0 t;rw[t]at z;simp only at z;split at d
   .rename_i B;obtain⟨rfl,B⟩:=B;simp only[Ka]at d;subst d;subst z;obtain⟨bl,e,I⟩:=O.blk k _ h;rw[P _ _ t]at e;cases e;obtain⟨Y,o',m',C,E,hn,hm,hc,L,Q6,H,hh,ho,K,F,W⟩:=I;cases E;have jh:o+i*q+q<=C.length:=by
     have:i*q+q<=m1*q:=Im;omega
    refine⟨⟨b,o+i*q+l,none⟩,(C.drop (o+i*q+l)).take n,rfl,rfl,Eb,Eb,λj u r=> ?_,λj s u hs r=> ?_⟩
    .obtain⟨_,gc⟩:=HZ r;exact Cq
    .obtain⟨_,hs'⟩:=HZ hs;obtain⟨_,gc⟩:=HZ r;exact W _ _ _ hs' (by rw[<-gc];congr 1;omega)
   .cases d
  .cases d
 |_=>simp[Wh]at d
end
def JI(P:Program)(T:TypeId):Option Bool:=(P.underlying T).map IJ
def DC(P:Program)(T:TypeId):Option Nat:=(P.info? T).map (·.size)
def Vr(P:Program)(T:TypeId)(cs:List SV):Option SV:=
 match JI P T,cs with
 |some true,cs=>some (.agg cs)
 |some false,[s]=>some s
 |_,_=>none
def VH(P:Program)(own:List Blk)(T:TypeId)(p:SV):Option (Prop×SV):=do
 let n<-DC P T
 let a<-Wh own n p
 let s<-Vr P T a
 some (XR own p,s)
def c9u(P:Program)(T:TypeId)(f:Nat):Option (Nat×TypeId×Nat):=
 match P.underlying T with
 |some (.struct b)=>match b[f]? with
  |some a=>(DC P a.type).map λn=>(a.offset,a.type,n)
  |none=>none
 |_=>none
def SV.plus(off:Nat):SV->Option SV
 |.own k o=>some (.own k (o+off))
 |.oel k a i o=>some (.oel k a i (o+off))
 |.rel a n f i o=>some (.rel a n f i (o+off))
 |_=>none
def b28(P:Program)(T:TypeId)(f:Nat)(p:SV):Option (Prop×SV):=do
 let (off,_,n)<-c9u P T f
 if n=0 then none else
 let s<-p.plus off
 some (True,s)
def c5z(P:Program)(T:TypeId)(f:Nat)(x:SV):Option (Prop×SV):=do
 let (off,U,n)<-c9u P T f
 match x with
 |.agg a=>if off+n<=a.length then(Vr P U ((a.drop off).take n)).map λs=>(True,s)else none
 |_=>none
section
variable{P:Program}{B0:Nat}{X A:Nat->Prop}{w:World}{μ:Mu}{own ownN:List Blk}
theorem b0a{H:Nat->Prop}{T:TypeId}{cs:List SV}{us:List Value}{s:SV}(hs:Vr P T cs=some s)(a:us.length=cs.length)(b:∀(i:Nat) (s:SV) (u:Value),cs[i]?=some s->us[i]?=some u->D w H μ s u):
 ∃d,P.underlying T=some d/\((IJ d=true/\D w H μ s (.agg us.toArray))\/(IJ d=false/\∃u,us=[u]/\D w H μ s u)):=by
 unfold Vr JI at hs;cases hu:P.underlying T with
 |none=>simp[hu]at hs
 |some d=>
  refine⟨d,rfl,?_⟩;simp only[hu,Ks]at hs;cases hb:IJ d with
  |true=>
   rw[hb]at hs;simp at hs;subst hs;exact .inl ⟨rfl,.agg us a b⟩
  |false=>
   rw[hb]at hs;match cs,us,a,hs with
   | [t],[u],_,hs=>
     simp at hs;subst hs;exact .inr ⟨rfl,u,rfl,b 0 t u rfl rfl⟩
   | [],_,_,hs=>simp at hs
   |_::_::_,_,_,hs=>simp at hs
   | [t],[],a,_=>simp at a
   | [t],_::_::_,a,_=>simp at a
theorem b3y(i:Own B0 X A w μ ownN)(j:∀(k:Nat) (bl:Blk),own[k]?=some bl->ownN[k]?=some bl){T:TypeId}{p s:SV}{v:Value}{b:Prop}
 (l:D w (held A μ) μ p v) (e:VH P own T p=some (b,s)) (m:b):∃u,(Instr.loadAt T v).run P w=.ok u w/\D w (held A μ) μ s u:=by
 simp only[VH,DC,J7,It,Ka]at e;obtain⟨n,⟨c,o,rfl⟩,cs,q,s',hs,rfl,rfl⟩:=e;obtain⟨a,r,rfl,_,t,dt,f,x⟩:=d2c i j l q m;obtain⟨d,g,h|h⟩:=b0a hs Dz x
 .refine⟨_,?_,h.2⟩;simp[Instr.loadAt,Instr.sureAddr,loadVar,b16 g,h.1,IP o,b2j a r c.size t f]
 .obtain⟨y,u,rfl,z⟩:=h;refine⟨u,?_,z⟩;have B:w.cell? a=some u:=by have:=f 0 u rfl;rwa[Addr.add_zero']at this
  simp only[Instr.loadAt,Instr.sureAddr,loadVar,Iw,b16 g,y];simpa using f32 a u B
theorem d1u{H:Nat->Prop}{off:Nat}{p s:SV}{v:Value}(c:D w H μ p v)(hs:p.plus off=some s):∃a,v=.pointer (some a)/\a.spot=none/\D w H μ s (.pointer (some (a.add off))):=by
 cases c<;>simp[SV.plus]at hs
 case own h=>subst hs;exact⟨_,rfl,rfl,by rw[Ln];exact .own h⟩
 case oel h=>subst hs;exact⟨_,rfl,rfl,by rw[Ln,Lt];exact .oel h⟩
 case rel b o g d e f i j=>subst hs;exact⟨_,rfl,rfl,by rw[Ln,Lt];exact .rel b o g d e f i j⟩
theorem b49{T:TypeId}{f off n:Nat}{U:TypeId}(h:c9u P T f=some (off,U,n)):∃c b a,P.underlying T=some (.struct c)/\c[f]?=some b/\P.info? U=some a/\a.size=n/\b.type=U/\b.offset=off:=by
 unfold c9u DC at h;split at h
 .rename_i c d;split at h
  .rename_i b e;simp only[It]at h;obtain⟨_,⟨a,g,rfl⟩,rfl,rfl,rfl⟩:=h;exact⟨c,b,a,d,e,g,rfl,rfl,rfl⟩
  .cases h
 .cases h
theorem b7i{H:Nat->Prop}{T:TypeId}{f:Nat}{p s:SV}{v:Value}{c:Prop}(d:D w H μ p v)(b:b28 P T f p=some (c,s)):∃u,(Instr.fieldAt T v f).run P w=.ok u w/\D w H μ s u:=by
 simp only[b28,J7]at b;obtain⟨⟨off,U,n⟩,e,b⟩:=b;simp only at b;split at b
 .cases b
 rename_i g;simp only[Js,Iv]at b;obtain⟨s',hs,rfl,rfl⟩:=b;obtain⟨fs,fd,inf,h,i,j,rfl,rfl,rfl⟩:=b49 e;obtain⟨a,rfl,_,k⟩:=d1u d hs;refine⟨_,?_,k⟩;simp[Instr.fieldAt,Kn h,i,Instr.sureAddr,fieldPlace,IP j,g]
theorem c6b{H:Nat->Prop}{T:TypeId}{f:Nat}{x s:SV}{v:Value}{j:Prop}(m:D w H μ x v)(a:c5z P T f x=some (j,s)):∃u,(Instr.field T v f).run P w=.ok u w/\D w H μ s u:=by
 simp only[c5z,J7]at a;obtain⟨⟨off,U,n⟩,o,a⟩:=a;obtain⟨fs,c,b,k,l,q,rfl,rfl,rfl⟩:=b49 o;simp only at a;split at a
 .rename_i cs;split at a
  .rename_i di;simp only[It]at a;obtain⟨s',hs,rfl,rfl⟩:=a;cases m with
   |agg e hl r=>
    obtain⟨d,g,h|h⟩:=b0a (w:=w) (H:=H) (μ:=μ) (us:=(e.drop c.offset).take b.size) hs Eb (λi s u hs g=>by obtain⟨_,hs'⟩:=HZ hs;obtain⟨_,t⟩:=HZ g;exact r _ _ _ hs' t)
    .refine⟨_,?_,h.2⟩;have a:e.toArray.extract c.offset (c.offset+b.size)=((e.drop c.offset).take b.size).toArray:=by
      simp[List.take_drop]
     simp only[Instr.field,Iw,Kn k,l,asAgg,part,b16 g,h.1,L1,IP q,a]
    .obtain⟨y,u,z,A⟩:=h;refine⟨u,?_,A⟩;have B:e[c.offset]?=some u:=by
      have:((e.drop c.offset).take b.size)[0]?=some u:=by rw[z];rfl
      simpa using(HZ this).2
     simp only[Instr.field,Iw,Kn k,l,asAgg,part,b16 g,y,J5];simp[B]
  .cases a
 .cases a
end
def f8i(d:BinOp)(x y:SV):Option (Prop×SV):=
 match d,x,y with
 |.add,.int k a,.int c b=>if k=c then some (AD k (a+b),.int k (a+b))else none
 |.sub,.int k a,.int c b=>if k=c then some (AD k (a-b),.int k (a-b))else none
 |.mul,.int k a,.int c b=>if k=c then some (AD k (a*b),.int k (a*b))else none
 |.quo,.int k a,.int c b=>if k=c then some (b≠0/\AD k (a.tdiv b),.int k (a.tdiv b))else none
 |.rem,.int k a,.int c b=>if k=c then some (b≠0,.int k (a.tmod b))else none
 |.eql,.int k a,.int c b=>if k=c then some (True,.bool (decide (a=b)))else none
 |.neq,.int k a,.int c b=>if k=c then some (True,.bool (!decide (a=b)))else none
 |.lss,.int k a,.int c b=>if k=c then some (True,.bool (decide (a<b)))else none
 |.leq,.int k a,.int c b=>if k=c then some (True,.bool (decide (a<=b)))else none
 |.gtr,.int k a,.int c b=>if k=c then some (True,.bool (decide (b<a)))else none
 |.geq,.int k a,.int c b=>if k=c then some (True,.bool (decide (b<=a)))else none
 |_,_,_=>none
section
variable{P:Program}{w:World}{H:Nat->Prop}{μ:Mu}
theorem d8e{d:BinOp}{T:TypeId}{xo yo:Operand}{x y s:SV}{v u:Value}{b:Prop}(hx:D w H μ x v)(e:D w H μ y u)(c:f8i d x y=some (b,s))(a:b):
 ∃r,(do eqGuard d T xo yo v u;binOp d T v u).run P w=.ok r w/\D w H μ s r:=by
 unfold f8i at c;split at c<;>(try cases c)
 all_goals
  cases hx;cases e;split at c<;>(try cases c)
  rename_i f;subst f
 case h_1=>refine⟨_,?_,.int⟩;simp[go_sem,RO a]
 case h_2=>refine⟨_,?_,.int⟩;simp[go_sem,RO a]
 case h_3=>refine⟨_,?_,.int⟩;simp[go_sem,RO a]
 case h_4=>refine⟨_,?_,.int⟩;simp[go_sem,RO a.2,a.1]
 case h_5=>refine⟨_,?_,.int⟩;simp[go_sem,show¬_ from a]
 case h_6=>refine⟨_,?_,.bool⟩;simp[go_sem];rfl
 case h_7=>refine⟨_,?_,.bool⟩;simp[go_sem];rfl
 case h_8=>refine⟨_,?_,.bool⟩;simp[go_sem]
 case h_9=>refine⟨_,?_,.bool⟩;simp[go_sem]
 case h_10=>refine⟨_,?_,.bool⟩;simp[go_sem]
 case h_11=>refine⟨_,?_,.bool⟩;simp[go_sem]
def evUn(c:UnOp)(x:SV):Option (Prop×SV):=
 match c,x with
 |.neg,.int k a=>some (AD k (-a),.int k (-a))
 |.not,.bool b=>some (True,.bool (!b))
 |_,_=>none
theorem f0d{c:UnOp}{x s:SV}{v:Value}{a:Prop}(hx:D w H μ x v)(b:evUn c x=some (a,s))(d:a):∃r,(Op.unary c v).run P w=.ok r w/\D w H μ s r:=by
 unfold evUn at b;split at b
 .cases hx;cases b;refine⟨_,?_,.int⟩;simp[Op.unary,go_sem,RO d]
 .cases hx;cases b;refine⟨_,?_,.bool⟩;simp[Op.unary]
 .cases b
def d99(P:Program)(S T:TypeId)(x:SV):Option (Prop×SV):=
 match P.underlying S,P.underlying T,x with
 |some _,some (.int k),.int _ n=>some (AD k n,.int k n)
 |_,_,_=>none
theorem d2e{S T:TypeId}{x s:SV}{v:Value}{a:Prop}(hx:D w H μ x v)(b:d99 P S T x=some (a,s))(f:a):∃r,(convert S T v).run P w=.ok r w/\D w H μ s r:=by
 unfold d99 at b;split at b
 .rename_i d k g n h c;cases b;cases hx;refine⟨_,?_,.int⟩;have e:P.intKind T=k:=by simp[Program.intKind,c]
  have:=run_convert_int (P:=P) w S T g n (by simp[h]) (by rw[e];exact c);rw[this,e,RO f]
 .cases b
def b5x(x:SV)(i:Nat):Option (Prop×SV):=
 match x with
 |.tup a=>(a[i]?).map λs=>(True,s)
 |_=>none
theorem c02{x s:SV}{v:Value}{i:Nat}{b:Prop}(hx:D w H μ x v)(a:b5x x i=some (b,s)):∃r,(Instr.extract v i).run P w=.ok r w/\D w H μ s r:=by
 unfold b5x at a;split at a
 .rename_i vs;simp only[It]at a;obtain⟨s',hs,rfl,rfl⟩:=a;cases hx with
  |tup c e f=>
   have d:i<c.length:=by rw[e];exact(Jk.1 hs).1
   refine⟨c[i],?_,f i _ _ hs (Jh d)⟩;simp[Instr.extract,d]
 .cases a
def XK(own:List Blk):SV->Option Nat
 |.con (.slice none 0 0)=>some 0
 |.sl _ n _ _=>some n
 |.osl k=>match own[k]? with
  |some (.row _ _ n _ _)=>some n
  |_=>none
 |_=>none
def Vs(own:List Blk):SV->Option Nat
 |.con (.slice none 0 0)=>some 0
 |.sl _ _ _ c=>c
 |.osl k=>match own[k]? with
  |some (.row _ _ _ _ c)=>c
  |_=>none
 |_=>none
theorem c4q{l:Nat}{X A:Nat->Prop}{own i:List Blk}(q:Own l X A w μ i)(r:∀(k:Nat) (bl:Blk),own[k]?=some bl->i[k]?=some bl){x:SV}{v:Value}{n:Nat}
 (hx:D w (held A μ) μ x v) (d:XK own x=some n):∃a m,v=.slice a n m/\n<=m/\m<=maxLen:=by
 cases hx with
 |sl a b o m g j hx hc b7 hl hd=>simp[XK]at d;subst d;exact⟨a,m,rfl,j,hx⟩
 |osl h=>
  simp only[XK]at d;split at d
  .rename_i T sz n' f c s;simp only[Ka]at d;subst d;obtain⟨bl,e,t⟩:=q.blk _ _ h;rw[r _ _ s]at e;cases e;obtain⟨a,m,u,y,j,_⟩:=t;cases u;exact⟨_,_,rfl,y,j⟩
  .cases d
 |con=>
  unfold XK at d;split at d<;>first
   |(rename_i z;cases z;cases d;exact⟨none,0,rfl,Jp _,Ff⟩)
   |simp_all
 |_=>simp[XK]at d
theorem c6m{l:Nat}{X A:Nat->Prop}{own j:List Blk}(p:Own l X A w μ j)(q:∀(k:Nat) (bl:Blk),own[k]?=some bl->j[k]?=some bl){x:SV}{v:Value}{m:Nat}
 (hx:D w (held A μ) μ x v) (d:Vs own x=some m):∃a n,v=.slice a n m:=by
 cases hx with
 |sl a b o r g s hx i b7 hl hd=>
  rename_i t n f c;simp only[Vs]at d;rcases i with i|i
  .rw[i]at d;cases d
  .rw[i]at d;cases d;exact⟨a,n,rfl⟩
 |osl h=>
  simp only[Vs]at d;split at d
  .rename_i T t n' f c u;subst d;obtain⟨bl,e,y⟩:=p.blk _ _ h;rw[q _ _ u]at e;cases e;obtain⟨a,r,z,hn,s,i,_⟩:=y;cases z;rcases i with i|i
   .cases i
   .cases i;exact⟨_,_,rfl⟩
  .cases d
 |con=>
  unfold Vs at d;split at d<;>first
   |(rename_i B;cases B;cases d;exact⟨none,0,rfl⟩)
   |simp_all
 |_=>simp[Vs]at d
def PA(P:Program)(T:TypeId):Option TypeId:=match P.underlying T with
 |some (.slice e)=>some e
 |_=>none
theorem RA{T e:TypeId}(h:PA P T=some e):P.underlying T=some (.slice e):=by unfold PA at h;split at h<;>simp_all
def b6k(P:Program)(own:List Blk)(b:Builtin)(ts:List TypeId)(xs:List SV):Option (Prop×SV):=
 match b,ts,xs with
 |.len,[T],[x]=>match PA P T with
  |some _=>(XK own x).map λ(n:Nat)=>(True,.int .i64 (n:Int))
  |none=>none
 |.cap,[T],[x]=>match PA P T with
  |some _=>(Vs own x).map λ(n:Nat)=>(True,.int .i64 (n:Int))
  |none=>none
 |.min,_,[.int k a,.int _ b]=>some (True,.int k (min a b))
 |.max,_,[.int k a,.int _ b]=>some (True,.int k (max a b))
 |_,_,_=>none
theorem f1w(k c:IntKind)(a b:Int)(ts:Array TypeId)(ty:TypeId):(Builtin.min_ ts ty #[.int k a,.int c b]).run P w=.ok (.int k (min a b)) w:=by
 simp only[Builtin.min_];have:(if b<a then b else a)=min a b:=by split<;>omega
 simp[Builtin.min2,this]
theorem f4j(k c:IntKind)(a b:Int)(ts:Array TypeId)(ty:TypeId):(Builtin.max_ ts ty #[.int k a,.int c b]).run P w=.ok (.int k (max a b)) w:=by
 simp only[Builtin.max_];have:(if b>a then b else a)=max a b:=by split<;>omega
 simp[Builtin.max2,this]
def Wx(k:IntKind):List SV->Option (List Int)
 | []=>some []
 |.int a n::r=>if k=a then(Wx k r).map (n:: ·)else none
 |_=>none
theorem b5h{k:IntKind}:∀{l:List SV} {a:List Int},Wx k l=some a->l=a.map (SV.int k)
 | [],a,h=>by simp[Wx]at h;simp[h]
 |.int k' n::r,a,h=>by
  simp only[Wx]at h;split at h
  .rename_i e;subst e;rw[Jq]at h;obtain⟨ms,b,rfl⟩:=h;rw[b5h b];rfl
  .cases h
 |.bool _::_,_,h|.con _::_,_,h|.own _ _::_,_,h|.osl _::_,_,h|.oel _ _ _ _::_,_,h|.sl _ _ _ _::_,_,h|.rel _ _ _ _ _::_,_,h|.agg _::_,_,h|.tup _::_,_,h|.clo _ _::_,_,h|.any::_,_,h=>by simp[Wx]at h
def g4i:List SV->Option (Nat->SV)
 |.int k n::r=>(Wx k (.int k n::r)).map λa j=>.int k (a.getD j 0)
 |_=>none
theorem d20{l:List SV}{f:Nat->SV}(h:g4i l=some f):∀j s,l[j]?=some s->f j=s/\s.pure=true:=by
 unfold g4i at h;split at h
 .rename_i k n r;rw[Jq]at h;obtain⟨ns,a,rfl⟩:=h;have e:=b5h a;intro j s hs;rw[e,K9,Jq]at hs;obtain⟨m,b,rfl⟩:=hs;exact⟨by simp[b],rfl⟩
 .cases h
def Yg(l:List SV)(sz:Nat):Nat->Nat->List SV
 |_,0=>[]
 |a,n+1=>l.getD a .any::Yg l sz (a+sz) n
theorem b7y{l:List SV}{sz:Nat}:∀{n off j:Nat},j<n->(Yg l sz off n)[j]?=some (l.getD (off+j*sz) .any)
 |n+1,off,0,_=>by simp[Yg]
 |n+1,off,j+1,h=>by simp only[Yg,M0];rw[b7y Dz];congr 2;rw[N5];omega
def c2x(l:List SV)(off sz len:Nat):Nat->Option (List (Nat->SV))
 |0=>some []
 |c+1=>(c2x l off sz len c).bind λa=>(g4i (Yg l sz (off+c) len)).map λf=>a++[f]
theorem b5z{l:List SV}{off sz len:Nat}:∀{c:Nat} {fs:List (Nat->SV)},c2x l off sz len c=some fs->fs.length=c/\∀(i j:Nat) (s:SV),i<c->j<len->l[off+j*sz+i]?=some s->(fs.map (· j))[i]?=some s/\s.pure=true
 |0,fs,h=>by simp[c2x]at h;subst h;exact⟨rfl,λi j s k=>Dz⟩
 |c+1,fs,h=>by
  simp only[c2x,Js,Jq]at h;obtain⟨cs,m,f,n,rfl⟩:=h;obtain⟨h1,o⟩:=b5z m;refine⟨Es,λi j s k d hs=> ?_⟩;by_cases e:i=c
  .subst e;have g:=b7y (l:=l) (sz:=sz) (off:=off+i) d;have q:off+i+j*sz=off+j*sz+i:=Dz;rw[q,Jg,hs]at g;obtain⟨a,b⟩:=d20 n j s g;refine⟨?_,b⟩;rw[Lv,Jy Es];simp[h1,a]
  .obtain⟨a,b⟩:=o i j s Dz d hs;refine⟨?_,b⟩;rw[Lv,Jt (by simp[h1];omega)];exact a
def b26(P:Program)(own:List Blk)(T:TypeId)(x i:SV):Option (Prop×SV):=
 match i with
 |.int _ n=>match P.underlying T with
  |some (.slice e)=>match x with
   |.sl a len f _=>if DC P e=some a\/len=0 then some (0<=n/\n<len,.rel a len f n.toNat 0)else none
   |.osl k=>match own[k]? with
    |some (.row _ a len _ _)=>if DC P e=some a then some (0<=n/\n<len,.oel k a n.toNat 0)else none
    |some (.rowh _ a len _ _ _ _)=>if DC P e=some a then some (0<=n/\n<len,.oel k a n.toNat 0)else none
    |_=>none
   |_=>none
  |some (.array len e)=>match x with
   |.rel d c f j b=>match DC P e with
    |some a=>if a=d then(if len=c/\j=0/\b=0 then some (0<=n/\n<len,.rel a len f n.toNat 0)else none)else if b+len*a<=(f j).length then(c2x (f j) b a len a).map λg=>(0<=n/\n<len,.rel a len (λj=>g.map (· j)) n.toNat 0)else none
    |none=>none
   |.own k b=>match DC P e with
    |some a=>if n.toNat<len then some (0<=n,.own k (b+n.toNat*a))else none
    |none=>none
   |_=>none
  |_=>none
 |_=>none
theorem b5u{B0:Nat}{X A:Nat->Prop}{own E:List Blk}(Z:Own B0 X A w μ E)(bf:∀(k:Nat) (bl:Blk),own[k]?=some bl->E[k]?=some bl){T:TypeId}{x i s:SV}{v u:Value}{H:Prop}
 (hx:D w (held A μ) μ x v) (hi:D w (held A μ) μ i u) (d:b26 P own T x i=some (H,s)) (I:H):∃r,(Instr.indexAt T v u).run P w=.ok r w/\D w (held A μ) μ s r:=by
 unfold b26 at d;split at d;rotate_left
 .cases d
 rename_i ki n;cases hi;split at d
 .rename_i e hT;have n8:P.elem T=e:=Gd;split at d
  .rename_i J len f c;split at d;rotate_left
   .cases d
   rename_i q;simp only[Iv]at d;obtain⟨rfl,rfl⟩:=d;have R:n.toNat<len:=Dz;have q:DC P e=some J:=by rcases q with h|h;exact h;omega
   simp only[DC,Jq]at q;obtain⟨l,y,rfl⟩:=q;cases hx with
   |sl a b o m g hm j9 t b7 F K=>
    obtain⟨rfl,L,G⟩:=b7 Dz;refine⟨_,?_,.rel (off:=0) b o g R L G F K⟩;rw[run_indexAt_slice w T _ _ _ _ _ (by rw[n8];exact hT),Ji I,n8,IP y];simp[Ln]
  .rename_i k;split at d
   .rename_i T' J len f c S;split at d;rotate_left
    .cases d
    rename_i q;simp only[Iv]at d;obtain⟨rfl,rfl⟩:=d;simp only[DC,Jq]at q;obtain⟨l,y,rfl⟩:=q;cases hx with
    |osl h=>
     obtain⟨bl,M,U⟩:=Z.blk _ _ h;rw[bf _ _ S]at M;cases M;obtain⟨a,m',B,R,hm,t,F,bc⟩:=U;cases B;rcases bc with rfl|⟨b,o,vs,c9,rfl,hh,ho,h1,hD⟩
     .omega
     refine⟨_,?_,.oel (off:=0) h⟩;rw[run_indexAt_slice w T _ _ _ _ _ (by rw[n8];exact hT),Ji I,n8,IP y];simp[Ln]
   .rename_i T' J len f c i' u S;split at d;rotate_left
    .cases d
    rename_i q;simp only[Iv]at d;obtain⟨rfl,rfl⟩:=d;simp only[DC,Jq]at q;obtain⟨l,y,rfl⟩:=q;cases hx with
    |osl h=>
     obtain⟨bl,M,U⟩:=Z.blk _ _ h;rw[bf _ _ S]at M;cases M;obtain⟨b,o,m',vs,B,R,hm,t,b8,hu,F,hh,ho,h1,hD,hDu⟩:=U;cases B;refine⟨_,?_,.oel (off:=0) h⟩;rw[run_indexAt_slice w T _ _ _ _ _ (by rw[n8];exact hT),Ji I,n8,IP y];simp[Ln]
   .cases d
  .cases d
 .rename_i len e hT;have n8:P.elem T=e:=Gd;have zd:P.arrayLen T=len:=by simp[Program.arrayLen,hT]
  split at d
  .rename_i C len0 f j off;split at d;rotate_left
   .cases d
   rename_i J q;split at d
   .rename_i V;subst V;split at d;rotate_left
    .cases d
    rename_i t;obtain⟨rfl,rfl,rfl⟩:=t;simp only[Iv]at d;obtain⟨rfl,rfl⟩:=d;simp only[DC,Jq]at q;obtain⟨l,y,rfl⟩:=q;cases hx with
    |rel b o g hi L G F K=>
     refine⟨_,?_,.rel (off:=0) b o g Dz L G F K⟩;rw[run_indexAt_array w T _ _ _ H8,Ji (by rw[zd];exact I),n8,IP y];simp[Ln]
   split at d;rotate_left
   .cases d
   rename_i bb;simp only[It]at d;obtain⟨fs,m8,rfl,rfl⟩:=d;simp only[DC,Jq]at q;obtain⟨l,y,rfl⟩:=q;obtain⟨c1,c2⟩:=b5z m8;cases hx with
   |rel b o g W L G F K=>
    have hlj:=(F j W).1;have N:∀(a c:Nat),a<len->c<l.size->off+a*l.size+c<C:=by intro a c z t;have:(a+1)*l.size<=len*l.size:=Kr _ z;rw[N5]at this;omega
    have O:∀(a c:Nat),a<len->c<l.size->∃s,(f j)[off+a*l.size+c]?=some s:=by intro a c z t;have:=N a c z t;exact⟨_,Jh Dz⟩
    refine⟨_,?_,.rel (off:=0) b (o+j*C+off) (λa c=>g j (off+a*l.size+c)) Dz L ⟨G.1,λa c z t=> ?_⟩ (λa z=>⟨by simp[c1],?_⟩) (λa c s z hs=> ?_)⟩
    .rw[run_indexAt_array w T _ _ _ H8,Ji (by rw[zd];exact I),n8,IP y];simp[Ln]
    .have:=G.2 j _ W (N a c z t);rw[show o+j*C+off+a*l.size+c=o+j*C+(off+a*l.size+c)from Dz];exact this
    .rw[Jr];intro s hs;obtain⟨c,t⟩:=Lg.1 hs;have Q:c<l.size:=by
      have:=(Jk.1 t).1;simpa[c1]using this
     obtain⟨Y,hs'⟩:=O a c z Q;obtain⟨B,e2⟩:=c2 c a Y Q z hs';rw[t]at B;cases B;exact e2
    .have Q:c<l.size:=by
      have:=(Jk.1 hs).1;simpa[c1]using this
     obtain⟨Y,hs'⟩:=O a c z Q;obtain⟨B,e2⟩:=c2 c a Y Q z hs';rw[hs]at B;cases B;exact K j _ s W hs'
  .rename_i k off;split at d;rotate_left
   .cases d
   rename_i J q;split at d;rotate_left
   .cases d
   rename_i b6;simp only[Iv]at d;obtain⟨rfl,rfl⟩:=d;simp only[DC,Jq]at q;obtain⟨l,y,rfl⟩:=q;cases hx with
   |own h=>
    refine⟨_,?_,.own h⟩;rw[run_indexAt_array w T _ _ _ H8,Ji (by rw[zd];omega),n8,IP y];simp[Ln]
  .cases d
 .cases d
end
structure HRes where
 pre:Prop
 res:SV
 own:List Blk
 chg:List Nat
abbrev HK:=List SV->List Blk->Option HRes
structure KLaw (P:Program) (key:TypeId) (K:KT):Prop where
 check:∀(w:World) (em:Bool) (q:List Int),MC K q->(Instr.checkKey em 10000 key (kv K q)).run P w=.ok () w
 find:∀(w:World) (q:List Int) (es:List MapEntry),MC K q->(∀e∈es,∃q',MC K q'/\e.key=kv K q')->
  ∃r,(Instr.findKey key (kv K q) es).run P w=.ok r w/\((r=none/\∀e∈es,e.key≠kv K q)\/∃(j:Nat) (e:MapEntry),r=some (j,e.val)/\es[j]?=some e/\e.key=kv K q)
 stays:∀(w:World) (q:List Int),MC K q->(Instr.keyThatStays (kv K q) (kv K q)).run P w=.ok (kv K q) w
 inj:∀(q q':List Int),MC K q->MC K q'->kv K q=kv K q'->q=q'
abbrev KI:=TypeId->Nat->Nat->(Nat->List SV)->List SV->Option (Prop×(Nat->List SV)×Bool)
inductive Ghost where
 |focus (t:Nat)
 |unfocus (k:Nat)
 |newFam (m:Nat) (T:TypeId) (Ts:List (TypeId×Nat))
 |nil (t:Nat) (T:TypeId) (sz:Nat)
 |sel (ks:List Nat)
 |fz (k:Nat)
 |keep (l:List Nat)
 |flat (k:Nat)
 |orders
 |two (t:Nat)
 |poolN (T:TypeId) (sz t:Nat)
 |poolPut (t p wt:Nat)
 |poolTake (k j p t wt:Nat)
 |poolSeal (k j p wt:Nat)
structure Env where
 P:Program
 C:FuncId->Option (List SV->Option (Prop×SV))
 glob:Nat->Option SV
 ng:Nat
 st:TypeId->Bool
 X:FuncId->Option KI:=λ_=>none
 fz:Nat->Bool:=λ_=>false
 na:Nat:=0
 ax:Nat->Bool:=λ_=>true
 av:Nat->Option Value:=λ_=>none
 kt:TypeId->Option KT:=λ_=>none
 Hc:FuncId->Option HK:=λ_=>none
 c2:Bool:=false
 gr:Nat->List Ghost:=λ_=>[]
 fs:FuncId->Bool:=λ_=>false
def Env.ak(E:Env)(k:Nat):Bool:=decide (k<E.na)&&E.ax k
def Env.an(E:Env)(k:Nat):Option Value:=if E.ak k then E.av k else none
theorem Env.an_ak{E:Env}{k:Nat}{x:Value}(h:E.an k=some x):E.ak k=true:=by
 unfold Env.an at h;split at h
 .assumption
 .cases h
theorem Env.ak_lt{E:Env}{k:Nat}(h:E.ak k=true):k<E.na:=by unfold Env.ak at h;simp only[J3]at h;exact h.1
structure EnvOK (E:Env):Prop where
 st:∀T,E.st T=true->E.P.stoodInHeld T=false/\E.P.eqGuardType E.P.depth T=false/\∃fs,E.P.underlying T=some (.struct fs)/\∀f∈fs.toList,f.name≠ "_"
 kt:∀T K,E.kt T=some K->∃key elem,E.P.underlying T=some (.map key elem)/\KLaw E.P key K
def eqItems(a:List SV->List SV->Option Bool)(sz:Nat)(xs c:List SV):Nat->Nat->Option Bool
 |0,_=>some true
 |n+1,i=>match a ((xs.drop (i*sz)).take sz) ((c.drop (i*sz)).take sz)with
  |some b=>match eqItems a sz xs c n (i+1)with
   |some r=>some (b&&r)
   |none=>none
  |none=>none
def YX(P:Program)(c:TypeId->List SV->List SV->Option Bool)(xs a:List SV):List Field->Option Bool
 | []=>some true
 |f::d=>match DC P f.type with
  |some n=>if f.offset+n<=xs.length/\f.offset+n<=a.length then
   match c f.type ((xs.drop f.offset).take n) ((a.drop f.offset).take n)with
   |some b=>match YX P c xs a d with
    |some r=>some (b&&r)
    |none=>none
   |none=>none
   else none
  |none=>none
def Nl(E:Env):Nat->TypeId->List SV->List SV->Option Bool
 |0,_,_,_=>none
 |d+1,T,c,f=>match E.P.underlying T with
  |some .bool=>match c,f with
   | [.bool a],[.bool b]=>some (a==b)
   |_,_=>none
  |some (.int _)=>match c,f with
   | [.int k a],[.int h b]=>if k=h then some (decide (a=b))else none
   |_,_=>none
  |some (.struct i)=>if E.st T then YX E.P (Nl E d) c f i.toList else none
  |some (.array n e)=>match DC E.P e with
   |some g=>if c.length=n*g/\f.length=n*g then eqItems (Nl E d e) g c f n 0 else none
   |none=>none
  |_=>none
def IA(P:Program)(T:TypeId)(us:List Value):Value:=if(JI P T).getD false then .agg us.toArray else us.getD 0 undef
section
variable{E:Env}{w:World}{H:Nat->Prop}{μ:Mu}
theorem Ux{P:Program}{T:TypeId}{a:TypeInfo}{d:TypeDesc}(b:P.underlying T=some d)(hi:P.info? T=some a)(us:List Value)(off:Nat)(c:off+a.size<=us.length)(e:IJ d=false->a.size=1):
 (part T us.toArray off).run P w=.ok (IA P T ((us.drop off).take a.size)) w:=by
 unfold IA JI;simp only[part,Jd,b16 b,b,Ja];cases hb:IJ d with
 |true=>
  have f:us.toArray.extract off (off+a.size)=((us.drop off).take a.size).toArray:=by simp[List.take_drop]
  simp only[L1,Iw,IP hi,f]
 |false=>
  have g:=e hb;rw[g]at c⊢;have i:off<us.length:=Dz;simp[Jh i]
theorem b7w(_:EnvOK E)(m:Nat)(eq:TypeId->List SV->List SV->Option Bool)
 (ih:∀T xs ys b us vs,eq T xs ys=some b->us.length=xs.length->vs.length=ys.length->
   (∀(i:Nat) (s:SV) (v:Value),xs[i]?=some s->us[i]?=some v->D w H μ s v)->(∀(i:Nat) (s:SV) (v:Value),ys[i]?=some s->vs[i]?=some v->D w H μ s v)->
   (∃d,E.P.underlying T=some d/\(IJ d=false->xs.length=1))/\(Op.equalIn m T (IA E.P T us) (IA E.P T vs)).run E.P w=.ok b w)
 {xs ys:List SV} {us vs:List Value} (r9:us.length=xs.length) (zf:vs.length=ys.length)
 (hx:∀(i:Nat) (s:SV) (v:Value),xs[i]?=some s->us[i]?=some v->D w H μ s v) (hy:∀(i:Nat) (s:SV) (v:Value),ys[i]?=some s->vs[i]?=some v->D w H μ s v):
 ∀(fs:List Field) (b:Bool),(∀f∈fs,f.name≠ "_")->YX E.P eq xs ys fs=some b->(Op.eqFields m us.toArray vs.toArray fs).run E.P w=.ok b w:=by
 intro fs;induction fs with
 |nil=>intro b _ h;simp[YX]at h;subst h;simp[Op.eqFields]
 |cons f fs ihf=>
  intro b hn h;simp only[YX]at h;split at h;rotate_left
  .cases h
  rename_i n bq;split at h;rotate_left
  .cases h
  rename_i di;split at h;rotate_left
  .cases h
  rename_i b1 ke;split at h;rotate_left
  .cases h
  rename_i r hr;cases h;simp only[DC,Jq]at bq;obtain⟨inf,bu,rfl⟩:=bq;have cm:∀{l:List SV} {l':List Value},l'.length=l.length->(∀(i:Nat) (s:SV) (v:Value),l[i]?=some s->l'[i]?=some v->D w H μ s v)->
   ∀(i:Nat) (s:SV) (v:Value),((l.drop f.offset).take inf.size)[i]?=some s->((l'.drop f.offset).take inf.size)[i]?=some v->D w H μ s v:=by
   intro l l' _ hd i s v hs hv;exact hd _ _ _ (HZ hs).2 (HZ hv).2
  obtain⟨⟨d,hu,h1⟩,bt⟩:=ih f.type _ _ b1 ((us.drop f.offset).take inf.size) ((vs.drop f.offset).take inf.size) ke Eb Eb (cm r9 hx) (cm zf hy);have ji:IJ d=false->inf.size=1:=λhb=>by have:=h1 hb;simp at this;omega
  have p1:=Ux (w:=w) hu bu us f.offset Dz ji;have p2:=Ux (w:=w) hu bu vs f.offset Dz ji;have bc:=ihf r (λf hf=>hn f (by simp[hf])) hr;have t5:f.name≠ "_" :=hn f E2;simp only[Op.eqFields,Ji t5,Jd,p1,p2,bt];cases b1<;>simp[bc]
theorem b90(G:EnvOK E):∀(d:Nat) (T:TypeId) (xs g:List SV) (b:Bool) (us vs:List Value) (m:Nat),Nl E d T xs g=some b->us.length=xs.length->vs.length=g.length->
 (∀(i:Nat) (s:SV) (v:Value),xs[i]?=some s->us[i]?=some v->D w H μ s v)->(∀(i:Nat) (s:SV) (v:Value),g[i]?=some s->vs[i]?=some v->D w H μ s v)->
 (∃d,E.P.underlying T=some d/\(IJ d=false->xs.length=1))/\(Op.equalIn (d+m) T (IA E.P T us) (IA E.P T vs)).run E.P w=.ok b w:=by
 intro d;induction d with
 |zero=>intro T xs g b us vs m h;simp[Nl]at h
 |succ d I=>
  intro T xs g b us vs m h A B hx x;simp only[Nl]at h;have y:d+1+m=(d+m)+1:=Dz;split at h
  .rename_i f;split at h
   .rename_i a U;cases h;match us,vs,A,B with
    | [u],[v],_,_=>
      have o:=hx 0 _ u rfl rfl;have t:=x 0 _ v rfl rfl;cases o;cases t;refine⟨⟨_,f,λ_=>rfl⟩,?_⟩;simp only[IA,JI,f,Ja,IJ,J5,List.getD_cons_zero];rw[y,run_equalIn_bool' w _ T _ _ f]
   .cases h
  .rename_i k0 f;split at h
   .rename_i k a k' U;split at h
    .rename_i V;cases h;subst V;match us,vs,A,B with
     | [u],[v],_,_=>
       have o:=hx 0 _ u rfl rfl;have t:=x 0 _ v rfl rfl;cases o;cases t;refine⟨⟨_,f,λ_=>rfl⟩,?_⟩;simp only[IA,JI,f,Ja,IJ,J5,List.getD_cons_zero];rw[y,run_equalIn_int w _ T _ _ _ _ f];rfl
    .cases h
   .cases h
  .rename_i J f;split at h
   .rename_i W;obtain⟨X,s2,fs',K,Y⟩:=G.st T W;rw[f]at K;cases K;refine⟨⟨_,f,λh=>Ge⟩,?_⟩;have L:E.P.fieldsOf T=J:=by simp[Program.fieldsOf,f]
    have:=b7w (w:=w) (H:=H) (μ:=μ) G (d+m) (Nl E d) (λT xs g b us vs Z o t h3 h4=>I T xs g b us vs m Z o t h3 h4) A B hx x J.toList b Y h;simp only[IA,JI,f,Ja,IJ,L1];rw[y,run_equalIn_struct w _ T _ _ (by rw[L];exact f) X,L];exact this
   .cases h
  .rename_i n e f;split at h;rotate_left
   .cases h
   rename_i sz M;split at h;rotate_left
   .cases h
   rename_i bb;simp only[DC,Jq]at M;obtain⟨c,z,rfl⟩:=M;refine⟨⟨_,f,λh=>Ge⟩,?_⟩;have hc:E.P.cellsOf e=c.size:=by simp[Program.cellsOf,z]
   simp only[IA,JI,f,Ja,IJ,L1];rw[y,run_equalIn_array w (d+m) _ _ f z,hc];have C:∀(q i:Nat) (b:Bool),i+q=n->eqItems (Nl E d e) c.size xs g q i=some b->(Op.eqItems (d+m) e c.size us.toArray vs.toArray (List.range' i q)).run E.P w=.ok b w:=by
    intro q;induction q with
    |zero=>intro i b _ h;simp[eqItems]at h;subst h;simp[Op.eqItems]
    |succ q F=>
     intro i b hi h;simp only[eqItems]at h;split at h;rotate_left
     .cases h
     rename_i N ke;split at h;rotate_left
     .cases h
     rename_i r hr;cases h;have pn:i*c.size+c.size<=n*c.size:=Im;have O:∀{l:List SV} {Q:List Value},(∀(i:Nat) (s:SV) (v:Value),l[i]?=some s->Q[i]?=some v->D w H μ s v)->
      ∀(j:Nat) (s:SV) (v:Value),((l.drop (i*c.size)).take c.size)[j]?=some s->((Q.drop (i*c.size)).take c.size)[j]?=some v->D w H μ s v:=
      λhd j s v hs hv=>hd _ _ _ (HZ hs).2 (HZ hv).2
     obtain⟨⟨dd,R,o⟩,bt⟩:=I e _ _ N ((us.drop (i*c.size)).take c.size) ((vs.drop (i*c.size)).take c.size) m ke Eb Eb (O hx) (O x);have S:IJ dd=false->c.size=1:=λhb=>by have:=o hb;simp at this;omega
     have p1:=Ux (w:=w) R z us (i*c.size) Dz S;have p2:=Ux (w:=w) R z vs (i*c.size) Dz S;have bc:=F (i+1) r Dz hr;simp only[List.range'_succ,Op.eqItems,Jd,p1,p2,bt];cases N<;>simp[bc]
   rw[List.range_eq_range'];exact C n 0 b Dz h
  .cases h
def c87(E:Env)(c:BinOp)(T:TypeId)(x y:SV):Option (Prop×SV):=
 match c,x,y with
 |.eql,.agg d,.agg e=>if E.st T then(Nl E 8 T d e).map λb=>(True,.bool b)else none
 |.neq,.agg d,.agg e=>if E.st T then(Nl E 8 T d e).map λb=>(True,.bool (!b))else none
 |.eql,.bool a,.bool b=>match E.P.underlying T with
  |some .bool=>some (True,.bool (a==b))
  |_=>none
 |.neq,.bool a,.bool b=>match E.P.underlying T with
  |some .bool=>some (True,.bool (a !=b))
  |_=>none
 |.eql,.sl _ n _ _,.con (.slice none 0 0)=>match E.P.underlying T with
  |some (.slice _)=>some (True,.ub (n=0) True)
  |_=>none
 |.neq,.sl _ n _ _,.con (.slice none 0 0)=>match E.P.underlying T with
  |some (.slice _)=>some (True,.ub True (n=0))
  |_=>none
 |.eql,.con (.slice none 0 0),.con (.slice none 0 0)=>match E.P.underlying T with
  |some (.slice _)=>some (True,.bool true)
  |_=>none
 |.neq,.con (.slice none 0 0),.con (.slice none 0 0)=>match E.P.underlying T with
  |some (.slice _)=>some (True,.bool false)
  |_=>none
 |.eql,.fp f _ _ _,.con (.pointer none)=>match E.P.underlying T with
  |some (.pointer _)=>some (True,.bool (!f))
  |_=>none
 |.neq,.fp f _ _ _,.con (.pointer none)=>match E.P.underlying T with
  |some (.pointer _)=>some (True,.bool f)
  |_=>none
 |.and,.int k a,.int g b=>if k=g then some (b=1,.int k (a%2))else none
 |.shl,.int k a,.int _ b=>some (0<=b/\b.toNat<=k.bits/\AD k (a*2^b.toNat),.int k (a*2^b.toNat))
 |.shr,.int k a,.int _ b=>some (0<=b/\b.toNat<=k.bits,.int k (a/2^b.toNat))
 |c,x,y=>f8i c x y
theorem f9g(k:IntKind)(a:Int):k.wrap ((BitVec.ofInt k.bits a &&& BitVec.ofInt k.bits 1).toNat:Int)=a%2:=by
 have d:(BitVec.ofInt k.bits a &&& BitVec.ofInt k.bits 1).toNat=(a%2).toNat:=by
  have b:(BitVec.ofInt k.bits 1).toNat=1:=by cases k<;>rfl
  rw[BitVec.toNat_and,b,Nat.and_one_is_mod,BitVec.toNat_ofInt];have e:(2:Int)∣((2^k.bits:Nat):Int):=by cases k<;>decide
  have c:0<=a%((2^k.bits:Nat):Int):=N6 _ (by cases k<;>decide);have h3:(a%((2^k.bits:Nat):Int))%2=a%2:=Int.emod_emod_of_dvd a e;omega
 rw[d];have c:0<=a%2:=N6 _ E4;have b:a%2<2:=N2 _ E4;rw[Mi c];exact RO (by cases k<;>simp only[AD]<;>omega)
theorem c4g{T:TypeId}{fs:Array Field}(a:E.P.underlying T=some (.struct fs))(us:List Value):IA E.P T us=.agg us.toArray:=by simp[IA,JI,a,IJ]
theorem b1x{P:Program}{w:World}{T e:TypeId}(a:P.underlying T=some (.pointer e))(p:Option Addr):(Op.equalIn 10000 T (.pointer p) (.pointer none)).run P w=.ok p.isNone w:=by rw[Op.equalIn,Lh,Kn a,Mw];cases p<;>rfl
theorem b11{P:Program}{w:World}{T e:TypeId}(b:P.underlying T=some (.slice e))(a:Option Addr)(n m:Nat):(Op.equalIn 10000 T (.slice a n m) (.slice none 0 0)).run P w=.ok a.isNone w:=by rw[Op.equalIn,Lh,Kn b,Mw];cases a<;>rfl
theorem b29{P:Program}{w:World}{T e:TypeId}(c:P.underlying T=some (.slice e))(xo yo:Operand)(a:Option Addr)(n m:Nat):(do eqGuard .eql T xo yo (.slice a n m) (.slice none 0 0);binOp .eql T (.slice a n m) (.slice none 0 0):Sem Value).run P w=.ok (.bool a.isNone) w:=by rw[show (do eqGuard .eql T xo yo (.slice a n m) (.slice none 0 0);binOp .eql T (.slice a n m) (.slice none 0 0):Sem Value)=(do pure ();(do let b<-Op.equalIn 10000 T (.slice a n m) (.slice none 0 0);pure (.bool b):Sem Value))from rfl];simp only[Iw,b11 c]
theorem b2e{P:Program}{w:World}{T e:TypeId}(c:P.underlying T=some (.slice e))(xo yo:Operand)(a:Option Addr)(n m:Nat):(do eqGuard .neq T xo yo (.slice a n m) (.slice none 0 0);binOp .neq T (.slice a n m) (.slice none 0 0):Sem Value).run P w=.ok (.bool (!a.isNone)) w:=by rw[show (do eqGuard .neq T xo yo (.slice a n m) (.slice none 0 0);binOp .neq T (.slice a n m) (.slice none 0 0):Sem Value)=(do pure ();(do let b<-Op.equalIn 10000 T (.slice a n m) (.slice none 0 0);pure (.bool (!b)):Sem Value))from rfl];simp only[Iw,b11 c]
theorem d2i(J:EnvOK E){K:BinOp}{T:TypeId}{xo yo:Operand}{x y s:SV}{v u:Value}{C:Prop}(hx:D w H μ x v)(f:D w H μ y u)(c:c87 E K T x y=some (C,s))(j:C):
 ∃r,(do eqGuard K T xo yo v u;binOp K T v u).run E.P w=.ok r w/\D w H μ s r:=by
 have agg:∀{q t:List SV} {v u:Value} {b:Bool},E.st T=true->Nl E 8 T q t=some b->D w H μ (.agg q) v->D w H μ (.agg t) u->
  ∃z A:List Value,v=.agg z.toArray/\u=.agg A.toArray/\(Op.equalIn 10000 T v u).run E.P w=.ok b w:=by
  intro q t v u b n h hx f;cases hx with
  |agg z S U=>
   cases f with
   |agg A V W=>
    obtain⟨_,B⟩:=b90 (w:=w) (H:=H) (μ:=μ) J 8 T q t b z A 9992 h S V U W;obtain⟨s1,s2,fs,d,s3⟩:=J.st T n;rw[c4g d,c4g d]at B;exact⟨z,A,rfl,rfl,B⟩
 unfold c87 at c;split at c
 .rename_i q t;split at c;rotate_left
  .cases c
  rename_i n;simp only[It]at c;obtain⟨b,L,rfl,rfl⟩:=c;obtain⟨z,A,rfl,rfl,B⟩:=agg n L hx f;refine⟨_,?_,.bool⟩;rw[Lh,run_eqGuard_agg w _ _ _ _ _ _ (J.st T n).2.1,Mw,run_eql_struct,B,Mw]
 .rename_i q t;split at c;rotate_left
  .cases c
  rename_i n;simp only[It]at c;obtain⟨b,L,rfl,rfl⟩:=c;obtain⟨z,A,rfl,rfl,B⟩:=agg n L hx f;refine⟨_,?_,.bool⟩;rw[Lh,run_eqGuard_agg w _ _ _ _ _ _ (J.st T n).2.1,Mw,run_neq_struct,B,Mw]
 .split at c
  .rename_i d;cases c;cases hx;cases f;refine⟨_,?_,.bool⟩;simp only[eqGuard_at_bool,Iw,binOp,Op.equal,Op.maxDepth];rw[run_equalIn_bool' w 9999 T _ _ d];rfl
  .cases c
 .split at c
  .rename_i d;cases c;cases hx;cases f;refine⟨_,?_,.bool⟩;simp only[eqGuard_at_bool,Iw,binOp,Op.equal,Op.maxDepth];rw[run_equalIn_bool' w 9999 T _ _ d];rfl
  .cases c
 .split at c;rotate_left
  .cases c
  rename_i e d;cases c;cases f;cases hx with
  |sl a b o m g F hx X M Y N=>exact⟨_,b29 d xo yo _ _ _,.ub (λe=>Nat.eq_zero_of_not_pos (λG=>by rw[(M G).1]at e;cases e)) (λ_=>Jm)⟩
 .split at c;rotate_left
  .cases c
  rename_i e d;cases c;cases f;cases hx with
  |sl a b o m g F hx X M Y N=>exact⟨_,b2e d xo yo _ _ _,.ub (λ_=>Jm) (λe=>Nat.eq_zero_of_not_pos (λG=>by rw[(M G).1]at e;cases e))⟩
 .split at c;rotate_left
  .cases c
  rename_i e d;cases c;cases f;cases hx;exact⟨_,b29 d xo yo _ _ _,.bool⟩
 .split at c;rotate_left
  .cases c
  rename_i e d;cases c;cases f;cases hx;exact⟨_,b2e d xo yo _ _ _,.bool⟩
 .rename_i I k i O;split at c;rotate_left
  .cases c
  rename_i e d;cases c;cases f;cases hx with
  |fp h=>
  refine⟨_,?_,.bool⟩;have Q:∃p,v=.pointer p/\p.isNone= !I:=by
   cases I with
   |true=>
    simp only[L1]at h;obtain⟨_,_,b,_,_,rfl⟩:=h;exact⟨_,rfl,rfl⟩
   |false=>
    simp only[J5]at h;exact⟨none,h,rfl⟩
  obtain⟨p,rfl,j⟩:=Q;rw[show (do eqGuard .eql T xo yo (Value.pointer p) (Value.pointer none);binOp .eql T (Value.pointer p) (Value.pointer none):Sem Value)=(do pure ();(do let b<-Op.equalIn 10000 T (.pointer p) (.pointer none);pure (.bool b):Sem Value))from rfl];simp only[Iw,b1x d,j]
 .rename_i I k i O;split at c;rotate_left
  .cases c
  rename_i e d;cases c;cases f;cases hx with
  |fp h=>
  refine⟨_,?_,.bool⟩;have Q:∃p,v=.pointer p/\p.isNone= !I:=by
   cases I with
   |true=>
    simp only[L1]at h;obtain⟨_,_,b,_,_,rfl⟩:=h;exact⟨_,rfl,rfl⟩
   |false=>
    simp only[J5]at h;exact⟨none,h,rfl⟩
  obtain⟨p,rfl,j⟩:=Q;rw[show (do eqGuard .neq T xo yo (Value.pointer p) (Value.pointer none);binOp .neq T (Value.pointer p) (Value.pointer none):Sem Value)=(do pure ();(do let b<-Op.equalIn 10000 T (.pointer p) (.pointer none);pure (.bool (!b)):Sem Value))from rfl];simp only[Iw,b1x d,j];simp
 .rename_i k a l b;split at c;rotate_left
  .cases c
  rename_i Z;subst Z;simp only[Iv]at c;obtain⟨rfl,rfl⟩:=c;cases hx;cases f;subst j;refine⟨_,?_,.int⟩;rw[show (do eqGuard .and T xo yo (Value.int k a) (Value.int k 1);binOp .and T (Value.int k a) (Value.int k 1):Sem Value)=(do pure ();Op.intBits .and k a 1)from by simp[eqGuard,binOp]];simp only[Op.intBits,Iw,f9g]
 .rename_i k a l b;simp only[Iv]at c;obtain⟨rfl,rfl⟩:=c;cases hx;cases f;obtain⟨G,h1,h2⟩:=j;refine⟨_,?_,.int⟩;have R:¬b<0:=Dz;have F:min b.toNat k.bits=b.toNat:=Dz;rw[show (do eqGuard .shl T xo yo (Value.int k a) (Value.int l b);binOp .shl T (Value.int k a) (Value.int l b):Sem Value)=(do pure ();Op.shift .shl k a l b)from by simp[eqGuard,binOp]];simp only[Op.shift,Jj R,F,Iw,RO h2]
 .rename_i k a l b;simp only[Iv]at c;obtain⟨rfl,rfl⟩:=c;cases hx;cases f;obtain⟨G,h1⟩:=j;refine⟨_,?_,.int⟩;have R:¬b<0:=Dz;have F:min b.toNat k.bits=b.toNat:=Dz;have N:a.fdiv (2^b.toNat)=a/2^b.toNat:=Int.fdiv_eq_ediv_of_nonneg _ (Int.pow_nonneg E4);rw[show (do eqGuard .shr T xo yo (Value.int k a) (Value.int l b);binOp .shr T (Value.int k a) (Value.int l b):Sem Value)=(do pure ();Op.shift .shr k a l b)from by simp[eqGuard,binOp]];simp only[Op.shift,Jj R,F,Iw,N]
 .exact d8e hx f c j
end
def c3k(a:Nat->Option (Nat×Nat))(cells:List SV):List (Nat×SV)->Option (List SV)
 | []=>some cells
 |(i,s)::c=>match a i,s.cells with
  |some (d,b),some e=>if e.length=b/\d+b<=cells.length then c3k a (over cells d e) c else none
  |_,_=>none
def PT(P:Program)(T:TypeId):Option (List SV):=match P.info? T with
 |some i=>i.zero.map λz=>z.cells.toList.map Vb
 |none=>none
def f6m(P:Program)(T:TypeId):Option (Nat->Option (Nat×Nat)):=match P.underlying T with
 |some (.struct a)=>if a.toList.all (λf=>(DC P f.type).isSome)then some λi=>(a[i]?).map λf=>(f.offset,(DC P f.type).getD 0)else none
 |some (.array _ e)=>(DC P e).map λb=>λi=>some (i*b,b)
 |_=>none
def c6f(P:Program)(T:TypeId)(a:List (Nat×SV)):Option (Prop×SV):=do
 let z<-PT P T
 let pl<-f6m P T
 let b<-c3k pl z a
 some (True,.agg b)
section
variable{P:Program}{w:World}{H:Nat->Prop}{μ:Mu}
def DL(w:World)(H:Nat->Prop)(μ:Mu)(cs:List SV)(vs:List Value):Prop:=
 vs.length=cs.length/\∀(i:Nat) (s:SV) (v:Value),cs[i]?=some s->vs[i]?=some v->D w H μ s v
theorem DL.over{cs us:List SV}{vs xs:List Value}{off:Nat}(h:DL w H μ cs vs)(k:DL w H μ us xs)(c:off+us.length<=cs.length):DL w H μ (over cs off us) (over vs off xs):=by
 refine⟨by rw[PB,PB];exact h.1,λi s v hs a=> ?_⟩;rw[NU _ _ _ _ c]at hs;rw[NU _ _ _ _ (by rw[k.1,h.1];exact c),k.1]at a;split at hs
 .rename_i b;rw[Ji b]at a;exact k.2 _ _ _ hs a
 .rename_i b;rw[Jj b]at a;exact h.2 _ _ _ hs a
theorem b89(vs:List Value):∀(k off:Nat) (cs:List Value),off+k+vs.length<=cs.length->(vs.zipIdx k).foldl (λ(cs:Array Value) (p:Value×Nat)=>cs.setIfInBounds (off+p.2) p.1) cs.toArray=(over cs (off+k) vs).toArray:=by
 induction vs with
 |nil=>intro k off cs h;rw[d08 _ _ E6];rfl
 |cons v vs a=>
  intro k off cs h;simp only[Kz]at h;simp only[List.zipIdx_cons,Mk];have:cs.toArray.setIfInBounds (off+k) v=(cs.set (off+k) v).toArray:=E2;rw[this,a _ _ _ (by rw[Li];omega),c4c _ _ _ _ Dz];rfl
theorem d21{b:Nat->Option (Nat×Nat)}:∀(a:List (Nat×SV)) (cs out:List SV) (vs:List Value) (ps:List (Nat×Value)),DL w H μ cs vs->c3k b cs a=some out->ps.length=a.length->
 (∀(i j:Nat) (s:SV),a[i]?=some (j,s)->∃v,ps[i]?=some (j,v)/\D w H μ s v)->∃d,Instr.fill b vs.toArray ps=some (List.toArray d)/\DL w H μ out d:=by
 intro a;induction a with
 |nil=>
  intro cs out vs ps f h hl _;cases ps with
  |nil=>simp[c3k]at h;subst h;exact⟨vs,rfl,f⟩
  |cons _ _=>simp at hl
 |cons p a n=>
  intro cs out vs ps f h hl m;obtain⟨i,s⟩:=p;cases ps with
  |nil=>simp at hl
  |cons q ps=>
   obtain⟨v,e,o⟩:=m 0 i s rfl;simp only[Nb,Ka]at e;subst e;simp only[c3k]at h;split at h;rotate_left
   .cases h
   rename_i c size d r u;split at h;rotate_left
   .cases h
   rename_i y;obtain⟨rfl,z⟩:=y;obtain⟨g,A⟩:=o.cells u;have B:=f.over (xs:=v.cells.toList) ⟨g,A⟩ z;obtain⟨l,C,E⟩:=n _ out _ ps B h Ef (λk j t ht=>by simpa using m (k+1) j t Fg);refine⟨l,?_,E⟩;simp only[Instr.fill,r];have F:v.cells.size=d.length:=by simpa using g
   rw[F];have G:¬(c+d.length>vs.toArray.size):=by simp[f.1];omega
   simp only[ne_eq,not_true_eq_false,decide_false,K4 G,Bool.or_self,J5];have:(v.cells.zipIdx.foldl (λcs x=>cs.setIfInBounds (c+x.2) x.1) vs.toArray)=(over vs c v.cells.toList).toArray:=by have:=b89 v.cells.toList 0 c vs (by have q:=f.1;have q2:v.cells.toList.length=d.length:=(by simpa using g);omega);rw[<-Array.foldl_toList];simpa using this
   rw[this];exact C
theorem b7u(fs:List Field)(h:∀f∈fs,(DC P f.type).isSome=true):
 (fs.mapM λ(f:Field)=>(do pure (f.offset,<-sizeOf f.type):Sem (Nat×Nat))).run P w=.ok (fs.map λf=>(f.offset,(DC P f.type).getD 0)) w:=by
 induction fs with
 |nil=>simp
 |cons f fs c=>
  have d:=h f E2;have a:=c (λf e=>h f (by simp[e]));obtain⟨n,b⟩:=Option.isSome_iff_exists.1 d;have hs:=b;simp only[DC,Jq]at hs;obtain⟨inf,g,rfl⟩:=hs;simp only[Mg,Iw,IP g,a,L4,b,L5]
theorem TF{T:TypeId}{z:List SV}(h:PT P T=some z):∃(a:TypeInfo) (b:Value),P.info? T=some a/\a.zero=some b/\z=b.cells.toList.map Vb/\DL w H μ z b.cells.toList:=by
 unfold PT at h;split at h
 .rename_i a c;simp only[Jq]at h;obtain⟨b,d,rfl⟩:=h;exact⟨a,b,c,d,rfl,E2,b4c _⟩
 .cases h
theorem c6e{T:TypeId}{a:List (Nat×SV)}{ps:List (Nat×Value)}{s:SV}{o:Prop}(q:c6f P T a=some (o,s))(A:ps.length=a.length)
 (B:∀(i j:Nat) (s:SV),a[i]?=some (j,s)->∃v,ps[i]?=some (j,v)/\D w H μ s v):∃r,(Instr.build T ps.toArray).run P w=.ok r w/\D w H μ s r:=by
 simp only[c6f,J7,Iv]at q;obtain⟨z,C,pl,c,t,E,rfl,rfl⟩:=q;obtain⟨inf,F,u,x,rfl,G⟩:=TF (w:=w) (H:=H) (μ:=μ) C;have g:∀b,b=pl->∃d:List Value,Instr.fill b F.cells ps=some d.toArray/\DL w H μ t d:=by intro b e;subst e;obtain⟨d,I,J⟩:=d21 a _ t _ ps G E A B;exact⟨d,by simpa using I,J⟩
 unfold f6m at c;split at c
 .rename_i m p;split at c;rotate_left
  .cases c
  rename_i K;simp only[Ka]at c;have L:(m.mapM λ(f:Field)=>(do pure (f.offset,<-sizeOf f.type):Sem (Nat×Nat))).run P w=.ok (m.map λf=>(f.offset,(DC P f.type).getD 0)) w:=by rw[Array.mapM_eq_mapM_toList,Sem.run_map,b7u m.toList (λf h=>by simpa using Jr.1 K f h)];simp only[Mw];congr 1;apply Array.ext';simp
  have k:(λi=>(m.map λf=>(f.offset,(DC P f.type).getD 0))[i]?)=pl:=by rw[<-c];funext i;simp
  obtain⟨d,h,l⟩:=g _ k;refine⟨.agg d.toArray,?_,.agg d l.1 l.2⟩;simp only[Instr.build,Iw,WI u x,Kn p,L,h]
 .rename_i n e p;simp only[Jq]at c;obtain⟨sz,y,c⟩:=c;simp only[DC,Jq]at y;obtain⟨inf',M,rfl⟩:=y;obtain⟨d,h,l⟩:=g _ c;refine⟨.agg d.toArray,?_,.agg d l.1 l.2⟩;simp only[Instr.build,Iw,WI u x,Kn p,IP M,h]
 .cases c
def Xj(P:Program)(own:List Blk)(ρ:Operand->Option SV)(h:Op):Option (Prop×SV×Blk):=
 match h with
 |.alloc T=>(PT P T).bind λz=>if z.all SV.isCell then some (True,.own own.length 0,.cells T z)else none
 |.box T x=>(ρ x).bind λs=>s.cells.bind λf=>if f.all SV.isCell then some (True,.own own.length 0,.cells T f)else none
 |.buildSlice T 0 ⟨[]⟩=>(PA P T).bind λe=>(DC P e).map λb=>(True,.osl own.length,.row e b 0 (λ_=>[]) (some 0))
 |.buildSlice T n d=>(PA P T).bind λe=>(DC P e).bind λb=>(PT P e).bind λz=>
  (d.toList.mapM λ(p:Nat×Operand)=>(ρ p.2).bind λs=>s.cells.map λf=>(p.1,f)).bind λg=>
    if g.map (·.1)=List.range n/\0<n/\0<b/\n*b<=16777216/\z.length=b/\z.all SV.isCell/\g.all (λp=>p.2.all SV.isCell&&p.2.all SV.pure&&decide (p.2.length=b))then
     some (True,.osl own.length,.row e b n (λi=>(g.map (·.2)).getD i []) (some n))
    else none
 |.makeSlice T l c=>(PA P T).bind λe=>(P.info? e).bind λa=>(PT P e).bind λz=>
  match ρ l,ρ c with
  |some (.int _ n),some (.int _ m)=>if z.length=a.size/\z.all SV.isCell/\z.all SV.pure/\0<a.size then
   some (0<=n/\n<=m/\(a.bytes:Int)*m<=281474976710656/\m<=9223372036854775807,.osl own.length,.row e a.size n.toNat (λ_=>z) (some m.toNat))else none
  |_,_=>none
 |_=>none
structure After (B0:Nat) (X A:Nat->Prop) (w w':World) (μ μ':Mu) (own':List Blk):Prop where
 own:Own B0 X A w' μ' own'
 fr:Fr B0 X w w'
 keeps:Keeps w w' (held A μ) (held A μ') μ μ'
theorem TJ{cs:List SV}{vs:List Value}(h:DL w H μ cs vs)(c:cs.all SV.isCell=true):∀v∈vs,v.oneCell'=true:=by
 intro v d;obtain⟨i,a,e⟩:=Kg.1 d;have b:i<cs.length:=by rw[<-h.1];exact a
 have f:=h.2 i cs[i] vs[i] (Jh b) (Jh a);rw[<-e];exact f.one (Jr.1 c _ (Kj b))
variable{B0:Nat}{X A:Nat->Prop}{own ownN:List Blk}
theorem c40(f:Own B0 X A w μ ownN)(d:B0<=w.heap.size)(g:μ own.length=none){T:TypeId}{cs:List SV}{vs:List Value}(k:ownN[own.length]?=some (.cells T cs))(c:DL w (held A μ) μ cs vs)(l:cs.all SV.isCell=true):
 ∃a,After B0 X A w (w.alloc (.cells vs.toArray T)) μ a ownN/\(∀j,j≠own.length->a j=μ j)/\D (w.alloc (.cells vs.toArray T)) (held A a) a (.own own.length 0) (.pointer (some ⟨w.heap.size,0,none⟩)):=by
 obtain⟨o1,o2⟩:=Uk f d g k (.cells vs.toArray T) (.pointer (some ⟨w.heap.size,0,none⟩)) (λb h=>(c6t.1 h).symm) (λa e m=>by refine⟨w.heap.size,vs,rfl,Mt w _,c.1,TJ c l,λi s v hs n=>(c.2 i s v hs n).keep m⟩)
 exact⟨_,⟨o1,Fr.alloc _ d,o2⟩,λj hj=>Ep,.own Eh⟩
theorem c5u(q:Own B0 X A w μ ownN)(d:B0<=w.heap.size)(r:μ own.length=none){T:TypeId}{sz n m:Nat}{f:Nat->List SV}{vs:List Value}(t:ownN[own.length]?=some (.row T sz n f (some m)))(g:n<=m)(k:m<=maxLen)
 (l:∀i,i<n->(f i).length=sz/\(f i).all SV.pure=true) (bb:m*sz<=vs.length) (u:∀v∈vs,v.oneCell'=true) (x:∀(i j:Nat) (s:SV) (v:Value),i<n->(f i)[j]?=some s->vs[i*sz+j]?=some v->D w (held A μ) μ s v):
 ∃a,After B0 X A w (w.alloc (.cells vs.toArray T)) μ a ownN/\(∀j,j≠own.length->a j=μ j)/\D (w.alloc (.cells vs.toArray T)) (held A a) a (.osl own.length) (.slice (some ⟨w.heap.size,0,none⟩) n m):=by
 obtain⟨o1,o2⟩:=Uk q d r t (.cells vs.toArray T) (.slice (some ⟨w.heap.size,0,none⟩) n m) (by
  intro b o;rcases Kt m with c|c
  .subst c;exact absurd o c04
  .exact(XD c).1 o) (λa e y=>by
  rcases Kt m with c|c
  .exact⟨_,m,rfl,g,k,.inr rfl,l,.inl c⟩
  refine⟨_,m,rfl,g,k,.inr rfl,l,.inr ⟨w.heap.size,0,vs,c,rfl,Mt w _,Dz,u,λi j s v z hs hv=>(x i j s v z hs G1).keep y⟩⟩)
 exact⟨_,⟨o1,Fr.alloc _ d,o2⟩,λj hj=>Ep,.osl Eh⟩
end
section
variable{P:Program}{w:World}{μ:Mu}{B0:Nat}{X A:Nat->Prop}{own ownN:List Blk}
theorem PX{α β:Type}{f:α->Option β}:∀{l:List α} {r:List β},l.mapM f=some r->r.length=l.length/\∀(i:Nat) (x:α),l[i]?=some x->∃y,r[i]?=some y/\f x=some y:=by
 intro l;induction l with
 |nil=>intro r h;simp at h;subst h;exact⟨rfl,λi x h=>Ec⟩
 |cons a l c=>
  intro r h;simp only[Mg,J7,Option.pure_def,Ka]at h;obtain⟨b,d,r',e,rfl⟩:=h;obtain⟨h1,g⟩:=c e;refine⟨Es,λi x hx=> ?_⟩;match i with
  |0=>simp at hx;subst hx;exact⟨b,rfl,d⟩
  |i+1=>simpa using g i x (by simpa using hx)
theorem c5v(c:Own B0 X A w μ ownN)(d:B0<=w.heap.size)(e:μ own.length=none){T:TypeId}{z:List SV}(f:PT P T=some z)(g:z.all SV.isCell=true)(h:ownN[own.length]?=some (.cells T z)):
 ∃r b a,(Instr.alloc T true (.tuple #[])).run P w=.ok r b/\After B0 X A w b μ a ownN/\(∀j,j≠own.length->a j=μ j)/\D b (held A a) a (.own own.length 0) r:=by
 obtain⟨inf,zv,i,k,rfl,l⟩:=TF (w:=w) (H:=held A μ) (μ:=μ) f;obtain⟨a,m,n,o⟩:=c40 c d e h l g;refine⟨_,_,a,?_,m,n,o⟩;simp[Instr.alloc,WI i k,newVar,newRow]
theorem d2z(c:Own B0 X A w μ ownN)(d:B0<=w.heap.size)(e:μ own.length=none){T:TypeId}{s:SV}{v:Value}{cs:List SV}(f:D w (held A μ) μ s v)(hs:s.cells=some cs)(g:cs.all SV.isCell=true)(h:ownN[own.length]?=some (.cells T cs)):
 ∃r b a,(Instr.box T v).run P w=.ok r b/\After B0 X A w b μ a ownN/\(∀j,j≠own.length->a j=μ j)/\D b (held A a) a (.own own.length 0) r:=by
 obtain⟨a,i,k,l⟩:=c40 c d e (vs:=v.cells.toList) h (f.cells hs) g;refine⟨_,_,a,?_,i,k,l⟩;simp[Instr.box,newVar,newRow]
theorem b3h(z:Array Value)(n i:Nat)(u:Value)(h:(madeCells z n).toList[i]?=some u):i<n/\u=z[i%z.size]!:=by simp only[madeCells,Nu,Iy]at h;obtain⟨x,hx,rfl⟩:=h;rw[Lk]at hx;obtain⟨a,e⟩:=K7.1 hx;simp at a e;subst e;exact⟨a,rfl⟩
theorem d2j(t:Own B0 X A w μ ownN)(x:B0<=w.heap.size)(y:μ own.length=none){T e:TypeId}{a:TypeInfo}{z:List SV}{kl kc:IntKind}{n m:Int}(B:PA P T=some e)(hi:P.info? e=some a)(C:PT P e=some z)
 (rz:z.length=a.size) (E:z.all SV.isCell=true) (F:z.all SV.pure=true) (G:0<a.size) (I:0<=n) (J:n<=m) (K:(a.bytes:Int)*m<=281474976710656) (L:m<=9223372036854775807) (M:ownN[own.length]?=some (.row e a.size n.toNat (λ_=>z) (some m.toNat))):
 ∃r d b,(Instr.makeSlice T (.int kl n) (.int kc m)).run P w=.ok r d/\After B0 X A w d μ b ownN/\(∀j,j≠own.length->b j=μ j)/\D d (held A b) b (.osl own.length) r:=by
 obtain⟨inf',c,g,N,rfl,k⟩:=TF (w:=w) (H:=held A μ) (μ:=μ) C;rw[hi]at g;cases g;have l:c.cells.size=a.size:=Fh;have O:=run_make (P:=P) w T e a c (RA B) hi N kl kc n m I J K L;have Q:∀v∈c.cells.toList,v.oneCell'=true:=TJ k E;have o:∀i u,(madeCells c.cells (m.toNat*a.size)).toList[i]?=some u->c.cells.toList[i%a.size]?=some u:=by
  intro i u h;obtain⟨_,rfl⟩:=b3h _ _ _ _ h;rw[l];have q:i%a.size<c.cells.size:=by rw[l];exact Nq _ G
  rw[Lk,L6 c.cells (i%a.size) q,Mm q]
 obtain⟨b,R,S,U⟩:=c5u t x y (vs:=(madeCells c.cells (m.toNat*a.size)).toList) M Dz Ew (λi _=>⟨Fh,F⟩) (by simp[size_madeCells]) (λv f=>by
  obtain⟨i,hi,e⟩:=Kg.1 f;exact Q v (Jn (o i v (by rw[<-e];exact Jh hi)))) (λi j s v hi hs f=>by
  have V:j<a.size:=by rw[<-rz];exact(Jk.1 hs).1
  have:=o _ _ f;rw[O6,Nat.mul_add_mod,Nat.mod_eq_of_lt V]at this;exact k.2 j s v hs this)
 refine⟨_,_,b,?_,R,S,U⟩;rw[O]
def Sz(b:Bool):SV->SV->SV
 |.int k n,.int e m=>if k=e then .int k (bif b then n else m)else .any
 |.bool x,.bool y=>.bool (bif b then x else y)
 |.sl d n f c,.sl a g h j=>if d=a then .sl d (bif b then n else g) (λi=>bif b then f i else h i) (bif b then c else j)else .any
 |s,t=>if b then s else t
def EN(b:Bool):List SV->List SV->List SV
 |s::r,t::q=>Sz b s t::EN b r q
 |l,a=>if b then l else a
theorem d9h(b:Bool)(s t:SV):(∀{w:World} {H:Nat->Prop} {μ:Mu} {v:Value},D w H μ (if b then s else t) v->D w H μ (Sz b s t) v)/\((if b then s else t).pure=true->(Sz b s t).pure=true):=by
 have a:(∀{w:World} {H:Nat->Prop} {μ:Mu} {v:Value},D w H μ (cond b s t) v->D w H μ (Sz b s t) v)/\((cond b s t).pure=true->(Sz b s t).pure=true):=by
  unfold Sz;split
  .split
   .rename_i e;subst e;cases b<;>exact⟨λh=>h,λh=>h⟩
   .exact⟨λ_=>.any,λ_=>rfl⟩
  .cases b<;>exact⟨λh=>h,λh=>h⟩
  .split
   .rename_i e;subst e;cases b<;>exact⟨λh=>h,λh=>h⟩
   .exact⟨λ_=>.any,λ_=>rfl⟩
  .cases b<;>exact⟨λh=>h,λh=>h⟩
 cases b<;>exact a
theorem b2t(b:Bool):∀l a:List SV,(EN b l a).length=(if b then l else a).length/\((if b then l else a).all SV.pure=true->(EN b l a).all SV.pure=true)/\
 ∀(q:Nat) (c:SV),(EN b l a)[q]?=some c->∃s,(if b then l else a)[q]?=some s/\∀{w:World} {H:Nat->Prop} {μ:Mu} {v:Value},D w H μ s v->D w H μ c v
 | [],a=>I3
 |s::r,[]=>I3
 |s::r,t::l=>by
  obtain⟨f,i2,g⟩:=b2t b r l;obtain⟨e,m2⟩:=d9h b s t;unfold EN;refine⟨by cases b<;>simpa using f,λh=> ?_,λq c d=> ?_⟩
  .cases b<;>simp_all
  .match q with
   |0=>
    simp at d;subst d;cases b
    .exact⟨t,rfl,λh=>e h⟩
    .exact⟨s,rfl,λh=>e h⟩
   |q+1=>
    obtain⟨x,hx,i⟩:=g q c (by simpa using d);refine⟨x,?_,i⟩;cases b<;>simpa using hx
theorem DX.row_weak{w:World}{H:Nat->Prop}{μ:Mu}{x:Value}{T:TypeId}{sz n:Nat}{f d:Nat->List SV}{c:Option Nat}(g:∀j,(d j).length=(f j).length/\((f j).all SV.pure=true->(d j).all SV.pure=true)/\∀(q:Nat) (k:SV),(d j)[q]?=some k->∃s,(f j)[q]?=some s/\∀{w:World} {H:Nat->Prop} {μ:Mu} {v:Value},D w H μ s v->D w H μ k v)
 (h:DX w H μ x (.row T sz n f c)):DX w H μ x (.row T sz n d c):=by
 obtain⟨a,m,rfl,p,r,t,l,u⟩:=h;refine⟨a,m,rfl,p,r,t,λi e=>⟨(g i).1.trans (l i e).1,(g i).2.1 (l i e).2⟩,?_⟩;rcases u with h|⟨b,o,y,z,rfl,A,B,C,E⟩
 .exact .inl h
 .refine .inr ⟨b,o,y,z,rfl,A,B,C,λi j s v e hs F=> ?_⟩;obtain⟨G,I,J⟩:=(g i).2.2 j s hs;exact J (E i j G v e I F)
def UX(P:Program)(own:List Blk)(T:TypeId)(p x:SV):Option (Prop×List Blk):=do
 let n<-DC P T
 let e<-x.cells
 if e.length=n/\e.all SV.isCell then
  match p with
  |.own k a=>match own[k]? with
   |some (.cells g h)=>if a+n<=h.length then some (True,own.set k (.cells g (over h a e)))else none
   |_=>none
  |.oel k b i a=>match own[k]? with
   |some (.row g d m f c)=>if b=d/\a+n<=b/\e.all SV.pure then some (i<m,own.set k (.row g b m (λj=>EN (decide (j=i)) (over (f i) a e) (f j)) c))else if b=d/\a+n<=b then some (i<m,own.set k (.rowh g b m f c i (over (f i) a e)))else none
   |some (.rowh g d m f c l u)=>if b=d/\a+n<=b then some (i=l,own.set k (.rowh g b m f c i (over u a e)))else none
   |_=>none
  |_=>none
 else none
theorem b22{α:Type}{p:α->Prop}:∀(vs us:List α),(∀v∈vs,p v)->(∀u∈us,p u)->∀v∈QO vs us,p v
 | [],us,h,_,v,a=>by simp[QO]at a
 |_::_,[],h,_,v,a=>h v a
 |x::vs,u::us,h,k,v,a=>by
  simp only[QO,Jv]at a;rcases a with rfl|a
  .exact k v E2
  .exact b22 vs us (λy hy=>h y Fi) (λy hy=>k y Fi) v a
theorem UP{α:Type}{p:α->Prop}(us:List α):∀(vs:List α) (off:Nat),(∀v∈vs,p v)->(∀u∈us,p u)->∀v∈over vs off us,p v
 | [],0,h,k,v,a=>b22 [] us h k v (by simpa[over]using a)
 |x::vs,0,h,k,v,a=>b22 (x::vs) us h k v (by simpa only[over]using a)
 |x::vs,n+1,h,k,v,a=>by
  simp only[over,Jv]at a;rcases a with rfl|a
  .exact h v E2
  .exact UP us vs n (λy hy=>h y Fi) k v a
 | [],_+1,_,_,v,a=>by simp[over]at a
theorem c93{w:World}{H:Nat->Prop}{μ:Mu}{T:TypeId}{sz n m b o off i:Nat}{f:Nat->List SV}{c:Option Nat}{e us:List SV}{vs vals:List Value}(x:n<=m)(y:m<=maxLen)(z:c=none\/c=some m)(hi:i<n)(g:e.length=sz)
 (t:∀q,q<n->q≠i->(f q).length=sz/\(f q).all SV.pure=true) (A:w.heap[b]?=some (.cells vs.toArray T (0,0))) (ho:o+m*sz<=vs.length) (B:∀v∈vs,v.oneCell'=true)
 (C:∀(q j:Nat) (s:SV) (v:Value),q<n->q≠i->(f q)[j]?=some s->vs[o+q*sz+j]?=some v->D w H μ s v) (E:∀(j:Nat) (s:SV) (v:Value),e[j]?=some s->vs[o+i*sz+j]?=some v->D w H μ s v)
 (d:DL w H μ us vals) (di:off+us.length<=sz) (F:∀v∈vals,v.oneCell'=true) (k:Keeps w (putRow w b (over vs (o+i*sz+off) vals) T) H H μ μ):
 Om (putRow w b (over vs (o+i*sz+off) vals) T) H μ (.slice (some ⟨b,o,none⟩) n m) T sz n f c i (over e off us):=by
 have jh:o+i*sz+sz<=vs.length:=by have:i*sz+sz<=m*sz:=Im;omega
 refine⟨b,o,m,_,rfl,x,y,z,hi,by rw[PB];exact g,t,b0b (Pz A),H9,UP _ _ _ B F,λq j s v u l hs a=> ?_,λj s v hs a=> ?_⟩
 .have G:j<sz:=by rw[<-(t q u l).1];exact(Jk.1 hs).1
  rw[NU _ _ _ _ (by rw[d.1];omega),d.1,Jj]at a
  .exact(C q j s v u l hs a).keep k
  .intro r;rcases Nat.lt_or_gt_of_ne l with b6|w8
   .have:q*sz+sz<=i*sz:=I4;omega
   .have:i*sz+sz<=q*sz:=I5;omega
 .have G:j<sz:=by
   have:=(Jk.1 hs).1;rw[PB,g]at this;exact this
  rw[NU _ _ _ _ (by rw[g];omega)]at hs;rw[NU _ _ _ _ (by rw[d.1];omega),d.1]at a;by_cases r:off<=j/\j<off+us.length
  .rw[Ji r]at hs;rw[Ji Dz,show o+i*sz+j-(o+i*sz+off)=j-off from Dz]at a;exact(d.2 _ _ _ hs a).keep k
  .rw[Jj r]at hs;rw[Jj Dz]at a;exact(E _ _ _ hs a).keep k
theorem b63(z:Own B0 X A w μ own){T:TypeId}{p x:SV}{v u:Value}{own':List Blk}{R:Prop}(hp:D w (held A μ) μ p v)(hx:D w (held A μ) μ x u)(l:UX P own T p x=some (R,own'))(I:R):
 ∃w',(Instr.storeAt T v u).run P w=.ok () w'/\After B0 X A w w' μ μ own':=by
 simp only[UX,J7]at l;obtain⟨n,hn,K,mh,l⟩:=l;split at l;rotate_left
 .cases l
 rename_i hc;obtain⟨jy,cw⟩:=hc;simp only[DC,Jq]at hn;obtain⟨S,hi,rfl⟩:=hn;have m7:DL w (held A μ) μ K u.cells.toList:=hx.cells mh;have J:=TJ m7 cw;have U:u.cells.size=S.size:=by simpa[jy]using m7.1
 have bt:∀a:Addr,(Instr.storeAt T (.pointer (some a)) u).run P w=(storeCells a u.cells.toList).run P w:=by intro a;simp only[Instr.storeAt,Instr.sureAddr,Iw,storeVar,IP hi,U,ne_eq,not_true_eq_false,if_false]
 split at l
 .rename_i k d;split at l;rotate_left
  .cases l
  rename_i F cs O;split at l;rotate_left
  .cases l
  rename_i C;simp only[Iv]at l;obtain⟨rfl,rfl⟩:=l;cases hp with
  |own h=>
   rename_i b;obtain⟨bl,e,L⟩:=z.blk k _ h;rw[O]at e;cases e;obtain⟨b',t,M,E,r,N,G⟩:=L;cases M;have hs:=Yh (P:=P) b d F u.cells.toList w t 0 E (by rw[m7.1,r,jy];omega) J;refine⟨_,(bt _).trans hs,?_⟩;rw[Mp];have y:Keeps w (putRow w b (over t d u.cells.toList) F) (held A μ) (held A μ) μ μ:=Keeps.put h (.inl rfl);refine⟨b9h z h (.inl rfl) ⟨b,_,rfl,b0b (Pz E),by rw[PB,PB];exact r,UP _ _ _ N J,?_⟩,Fr.put (z.rng k _ b h (.inl rfl)).2.2,y⟩;intro i s v hs H;exact((DL.over (w:=w) ⟨r,G⟩ m7 (by rw[jy];omega)).2 i s v hs H).keep y
 .rename_i k g i d;split at l;rotate_left
  .rename_i F sz' m f c i' u0 O;split at l;rotate_left
   .cases l
   rename_i C;obtain⟨rfl,C⟩:=C;simp only[Iv]at l;obtain⟨rfl,rfl⟩:=l;subst I;cases hp with
   |oel h=>
    rename_i b o n1 Q;obtain⟨bl,e,L⟩:=z.blk k _ h;rw[O]at e;cases e;obtain⟨b',o',m2,t,M,V,W,Y,b8,Q6,r,E,ho,N,G,ze⟩:=L;cases M;have B:0<Q:=Dz;have jh:o+i*g+g<=t.length:=by have:i*g+g<=Q*g:=Im;omega
    have hs:=Yh (P:=P) b (o+i*g+d) F u.cells.toList w t 0 E Gf J;refine⟨_,(bt _).trans hs,?_⟩;rw[Mp];have y:Keeps w (putRow w b (over t (o+i*g+d) u.cells.toList) F) (held A μ) (held A μ) μ μ:=Keeps.put h (KG B);exact⟨b9h z h (KG B) (c93 V W Y b8 Q6 r E ho N G ze m7 (by rw[jy];exact C) J y),Fr.put (z.rng k _ b h (KG B)).2.2,y⟩
  .cases l
  rename_i F sz' m f c O;split at l;rotate_left
  .split at l;rotate_left
   .cases l
   rename_i C;obtain⟨rfl,C⟩:=C;simp only[Iv]at l;obtain⟨rfl,rfl⟩:=l;cases hp with
   |oel h=>
    rename_i b o n1 Q;obtain⟨bl,e,L⟩:=z.blk k _ h;rw[O]at e;cases e;obtain⟨a,m2,M,V,W,Y,r,bc⟩:=L;cases M;rcases bc with Z|⟨b',o',t,B,Z,E,ho,N,G⟩
    .omega
    cases Z;have jh:o+i*g+g<=t.length:=by have:i*g+g<=Q*g:=Im;omega
    have hs:=Yh (P:=P) b (o+i*g+d) F u.cells.toList w t 0 E Gf J;refine⟨_,(bt _).trans hs,?_⟩;rw[Mp];have y:Keeps w (putRow w b (over t (o+i*g+d) u.cells.toList) F) (held A μ) (held A μ) μ μ:=Keeps.put h (KG B);exact⟨b9h z h (KG B) (c93 V W Y I (r i I).1 (λq hq _=>r q hq) E ho N (λq j s v hq _=>G q j s v hq) (λj s v=>G i j s v I) m7 (by rw[jy];exact C) J y),Fr.put (z.rng k _ b h (KG B)).2.2,y⟩
  rename_i C;obtain⟨rfl,C,t6⟩:=C;simp only[Iv]at l;obtain⟨rfl,rfl⟩:=l;cases hp with
  |oel h=>
   rename_i b o n1 Q;obtain⟨bl,e,L⟩:=z.blk k _ h;rw[O]at e;cases e;obtain⟨a,m2,M,V,W,Y,r,bc⟩:=L;cases M;rcases bc with Z|⟨b',o',t,B,Z,E,ho,N,G⟩
   .omega
   cases Z;have jh:o+i*g+g<=t.length:=by have:i*g+g<=Q*g:=Im;omega
   have hs:=Yh (P:=P) b (o+i*g+d) F u.cells.toList w t 0 E Gf J;refine⟨_,(bt _).trans hs,?_⟩;rw[Mp];have y:Keeps w (putRow w b (over t (o+i*g+d) u.cells.toList) F) (held A μ) (held A μ) μ μ:=Keeps.put h (KG B);refine⟨b9h z h (KG B) (DX.row_weak (f:=λj=>if j=i then over (f i) d K else f j) (λj=>by have:=b2t (decide (j=i)) (over (f i) d K) (f j);simpa only[Ju]using this) ⟨_,_,rfl,V,W,Y,λj hj=> ?_,.inr ⟨b,o,_,B,rfl,b0b (Pz E),H9,UP _ _ _ N J,?_⟩⟩),Fr.put (z.rng k _ b h (KG B)).2.2,y⟩
   .show (if j=i then over (f i) d K else f j).length=g/\(if j=i then over (f i) d K else f j).all SV.pure=true;split
    .rw[PB];exact⟨(r _ I).1,Jr.2 (UP K (f i) d (Jr.1 (r _ I).2) (Jr.1 t6))⟩
    .exact r j hj
   intro j q s v hj hs H;replace hs:(if j=i then over (f i) d K else f j)[q]?=some s:=hs;rw[NU _ _ _ _ Gf,m7.1,jy]at H;have hq:q<g:=by
    split at hs
    .have:=(Jk.1 hs).1;rw[PB,(r _ I).1]at this;exact this
    .have:=(Jk.1 hs).1;rw[(r j hj).1]at this;exact this
   by_cases e:j=i
   .subst e;rw[Ji rfl,NU _ _ _ _ (by rw[jy,(r _ I).1];omega),jy]at hs;by_cases bg:d<=q/\q<d+S.size
    .rw[Ji bg]at hs;rw[Ji Dz,show o+j*g+q-(o+j*g+d)=q-d from Dz]at H;exact(m7.2 _ _ _ hs H).keep y
    .rw[Jj bg]at hs;rw[Jj Dz]at H;exact(G _ _ _ _ hj hs H).keep y
   .rw[Jj e]at hs;rw[Jj]at H
    .exact(G _ _ _ _ hj hs H).keep y
    .intro bg;rcases Nat.lt_or_gt_of_ne e with b6|w8
     .have:j*g+g<=i*g:=I4;omega
     .have:i*g+g<=j*g:=I5;omega
 .cases l
end
def SV.kill0(S:List Nat):SV->SV
 |.osl j=>if S.contains j then .any else .osl j
 |.oel j d i b=>if S.contains j then .any else .oel j d i b
 |.fp e j i o=>if S.contains j then .any else .fp e j i o
 |.own j o=>.own j o
 |.agg _=>.any
 |.tup _=>.any
 |.clo f a=>if a.all (λc=>match c with|.osl j=> !S.contains j|.fp _ j _ _=> !S.contains j|.oel _ _ _ _=>false|.agg _|.tup _=>false|.clo _ a=>a.isEmpty|_=>true)then .clo f a else .any
 |s=>s
def SV.kill1(S:List Nat):SV->SV
 |.agg a=>.agg (a.map (SV.kill0 S))
 |s=>s.kill0 S
def SV.kill2(S:List Nat):SV->SV
 |.tup a=>.tup (a.map (SV.kill1 S))
 |s=>s.kill1 S
def Blk.kill(S:List Nat):Blk->Blk
 |.cells T d=>.cells T (d.map (SV.kill0 S))
 |.pmap K k a BU=>if S.contains k then .dead else .pmap K k a BU
 |.rowh T e n f c i u=>.rowh T e n f c i (u.map (SV.kill0 S))
 |b=>b
structure Keeps' (S:List Nat) (w w':World) (H H':Nat->Prop) (μ μ':Mu):Prop where
 size:w.heap.size<=w'.heap.size
 block:∀b,b<w.heap.size->¬H b->w'.heap[b]?=w.heap[b]?
 less:∀b,b<w.heap.size->H' b->H b
 own:∀j x,j∉S->μ j=some x->μ' j=some x
 ptr:∀k x,k∈S->μ k=some x->(∃a n m,x=.slice a n m)\/∃ps qs,x=BQ ps qs
section
variable{w w':World}{H H':Nat->Prop}{μ μ':Mu}{S:List Nat}
theorem LA{s:SV}{v:Value}(c:Keeps' S w w' H H' μ μ')(h:D w H μ s v):s.pure=true->D w' H' μ' s v:=by
 induction h with
 |int=>exact λ_=>.int
 |bool=>exact λ_=>.bool
 |con=>exact λ_=>.con
 |own h=>intro hp;simp[SV.pure,SV.pure0]at hp
 |osl h=>intro hp;simp[SV.pure,SV.pure0]at hp
 |oel h=>intro hp;simp[SV.pure,SV.pure0]at hp
 |omp h=>intro hp;simp[SV.pure,SV.pure0]at hp
 |fp h=>intro hp;simp[SV.pure,SV.pure0]at hp
 |mp r g d k hl l ih=>
  exact λ_=>.mp r g (λn=>d (c.less _ k.lt n)) (k.keep (c.block _ k.lt d)) hl (λq i s v x hs hv=>ih q i s v x hs hv (Jr.1 (hl q x).2 s (Jn hs)))
 |sl a b o m g k hx y t hl l ih=>
  exact λ_=>.sl a b o m g k hx y (λz=>by obtain⟨e,d,u⟩:=t z;exact⟨e,λn=>d (c.less _ u.1 n),u.keep c.size (c.block _ u.1 d)⟩) hl (λi j s f hs=>ih i j s f hs (Jr.1 (hl i f).2 s (Jn hs)))
 |rel b o g f d t hl l ih=>
  exact λ_=>.rel b o g f (λn=>d (c.less _ t.1 n)) (t.keep c.size (c.block _ t.1 d)) hl (λi j s f hs=>ih i j s f hs (Jr.1 (hl i f).2 s (Jn hs)))
 |agg vs hl l ih=>intro hp;simp[SV.pure,SV.pure0]at hp
 |tup vs hl l ih=>intro hp;simp[SV.pure,SV.pure0]at hp
 |clo vs hl l ih=>
  exact Ct
 |ub A B=>exact λ_=>.ub A B
 |any=>exact λ_=>.any
theorem b32{ok:Bool}{k i off:Nat}{v:Value}(a:Keeps' S w w' H H' μ μ')(b:k∉S)(h:D w H μ (.fp ok k i off) v):D w' H' μ' (.fp ok k i off) v:=
 D.fp_keep (λc d e=>⟨c,d,a.own _ _ b e,λ_ h=>h⟩) h
theorem Yo{s:SV}{v:Value}(c:Keeps' S w w' H H' μ μ')(h:D w H μ s v):D w' H' μ' (s.kill0 S) v:=by
 have k:∀{j:Nat} {b:Nat},μ j=some (.pointer (some ⟨b,0,none⟩))->j∉S:=λh x=>by rcases c.ptr _ _ x h with⟨a,n,m,e⟩|⟨_,_,e⟩<;>cases e
 have l:∀{j:Nat} {r:Option Nat},μ j=some (.map r)->j∉S:=λh x=>by rcases c.ptr _ _ x h with⟨a,n,m,e⟩|⟨_,_,e⟩<;>cases e
 cases h with
 |fp h=>
  simp only[SV.kill0];split
  .exact .any
  .rename_i e;exact b32 c Ey (.fp h)
 |omp h=>exact .omp (c.own _ _ (l h) h)
 |mp r g q t d f=>exact LA c (.mp r g q t d f) rfl
 |int=>exact .int
 |bool=>exact .bool
 |con=>exact .con
 |own h=>
  exact .own (c.own _ _ (k h) h)
 |osl h=>
  rename_i j n m a;simp only[SV.kill0];split
  .exact .any
  .rename_i e;exact .osl (c.own _ _ Ey h)
 |oel h=>
  simp only[SV.kill0];split
  .exact .any
  .rename_i e;exact .oel (c.own _ _ Ey h)
 |sl a b o m g t hx hc u d f=>exact LA c (.sl a b o m g t hx hc u d f) rfl
 |rel b o g y q u d f=>exact LA c (.rel b o g y q u d f) rfl
 |agg z d f=>exact .any
 |tup z d f=>exact .any
 |clo z d f=>
  simp only[SV.kill0];split
  .rename_i C;refine .clo z d (λi s v hs E=> ?_);have hc:=Jr.1 C s (Jn hs);have F:=f i s v hs E;cases F with
   |own h=>
    exact .own (c.own _ _ (k h) h)
   |omp h=>exact .omp (c.own _ _ (l h) h)
   |fp h=>exact b32 c Ex (.fp h)
   |mp r g q t d f=>exact LA c (.mp r g q t d f) rfl
   |osl h=>exact .osl (c.own _ _ Ex h)
   |oel h=>simp at hc
   |agg=>simp at hc
   |tup=>simp at hc
   |clo G I J=>exact LA c (.clo G I J) I6
   |int=>exact .int
   |bool=>exact .bool
   |con=>exact .con
   |ub A B=>exact .ub A B
   |any=>exact .any
   |sl a b o m g t hx K u d f=>exact LA c (.sl a b o m g t hx K u d f) rfl
   |rel b o g y q u d f=>exact LA c (.rel b o g y q u d f) rfl
  .exact .any
 |ub A B=>exact .ub A B
 |any=>exact .any
theorem b48{s:SV}{v:Value}(a:Keeps' S w w' H H' μ μ')(h:D w H μ s v):D w' H' μ' (s.kill1 S) v:=by
 unfold SV.kill1;split
 .cases h with
  |agg b hl c=>
   refine .agg b Ef (λi s v hs d=> ?_);simp only[Iy]at hs;obtain⟨e,f,rfl⟩:=hs;exact Yo a (c i e v f d)
 .exact Yo a h
theorem b42{s:SV}{v:Value}(a:Keeps' S w w' H H' μ μ')(h:D w H μ s v):D w' H' μ' (s.kill2 S) v:=by
 unfold SV.kill2;split
 .cases h with
  |tup b hl c=>
   refine .tup b Ef (λi s v hs d=> ?_);simp only[Iy]at hs;obtain⟨e,f,rfl⟩:=hs;exact b48 a (c i e v f d)
 .exact b48 a h
theorem DX.change{x:Value}{bl:Blk}(d:Keeps' S w w' H H' μ μ')(t:∀b,CS x b->w'.heap[b]?=w.heap[b]?)(h:DX w H μ x bl):DX w' H' μ' x (bl.kill S):=by
 cases bl with
 |cells T cs=>
  obtain⟨b,L,rfl,y,hl,M,l⟩:=h;refine⟨b,L,rfl,(t b (.inl rfl)).trans y,Ef,M,λi s v hs z=> ?_⟩;simp only[Iy]at hs;obtain⟨U,V,rfl⟩:=hs;exact Yo d (l i U v V z)
 |row T O n f c=>
  obtain⟨a,m,rfl,W,A,B,hl,h⟩:=h;refine⟨a,m,rfl,W,A,B,hl,?_⟩;rcases h with h|⟨b,o,L,P,rfl,y,X,M,l⟩
  .exact .inl h
  .exact .inr ⟨b,o,L,P,rfl,(t b (KG P)).trans y,X,M,λi j s v G hs z=>LA d (l i j s v G hs z) (Jr.1 (hl i G).2 s (Jn hs))⟩
 |map K ag N val=>
  obtain⟨r,g,rfl,A,hl,l⟩:=h;exact⟨r,g,rfl,A.keep (t r (.inl rfl)),hl,λq i s v I hs z=>LA d (l q i s v I hs z) (Jr.1 (hl q I).2 s (Jn hs))⟩
 |fam T Ts n bz F=>
  obtain⟨C,E,rfl,h,y⟩:=h;refine⟨C,E,rfl,h.keep ⟨d.size,d.block,d.less⟩ t,y.keep (λi c p e B=>d.own _ _ (λJ=> ?_) B)⟩;obtain⟨p',e1,Q⟩:=y i c e;rw[B]at Q;cases Q;have G:i<n:=Ha;obtain⟨b,us,R,_⟩:=h.mem i G;rw[e1]at R;cases R;rcases d.ptr _ _ J B with⟨a,n,m,e⟩|⟨_,_,e⟩<;>cases e
 |pmap K k N BU=>
  simp only[Blk.kill];split
  .exact Jm
  rename_i J;obtain⟨⟨C,E,Y⟩,r,g,rfl,A,l⟩:=h;exact⟨⟨C,E,d.own _ _ (by simpa using J) Y⟩,r,g,rfl,A.keep (t r (.inl rfl)),λq I=>by obtain⟨p,e,h⟩:=l q I;exact⟨p,e,b32 d (by simpa using J) h⟩⟩
 |rowh T O n f c i u=>exact Om.to (SV.kill0 S) (λb hx=>t b (.inl hx)) (λs v Z h=>LA d h Z) (λs v h=>Yo d h) h
 |pool T O n l al ln ct=>
  obtain⟨C,E,rfl,h⟩:=h;exact⟨C,E,rfl,h.keep ⟨d.size,d.block,d.less⟩ t⟩
 |dead=>exact Jm
end
structure After' (S:List Nat) (B0:Nat) (X A:Nat->Prop) (w w':World) (μ μ':Mu) (own':List Blk):Prop where
 own:Own B0 X A w' μ' own'
 fr:Fr B0 X w w'
 keeps:Keeps' S w w' (held A μ) (held A μ') μ μ'
theorem b1a{B0:Nat}{X A:Nat->Prop}{w w':World}{μ:Mu}{own:List Blk}(h:Own B0 X A w μ own)(S:B0<=w.heap.size){k:Nat}{x y:Value}{bl:Blk}(l:μ k=some x)(W:∃a n m,x=.slice a n m)
 (Y:∃a n m,y=.slice a n m) (d:FO y=none\/FO y=FO x\/(∃b,FO y=some b/\w.heap.size<=b/\b<w'.heap.size/\B0<=b)) (u:w.heap.size<=w'.heap.size) (H:∀b,b<w.heap.size->FO x≠some b->w'.heap[b]?=w.heap[b]?)
 (Z:w'.os=w.os) (zi:w'.tape=w.tape) (Y0:w'.output=w.output)
 (ba:Keeps' [k] w w' (held A μ) (held A (μ.set k y)) μ (μ.set k y)->DX w' (held A (μ.set k y)) (μ.set k y) y bl) (Y1:w.drawn<=w'.drawn:=by first|exact Jp _|exact Nat.le_succ _):
 After' [k] B0 X A w w' μ (μ.set k y) ((own.map (Blk.kill [k])).set k bl):=by
 obtain⟨xa,xn,xm,rfl⟩:=W;obtain⟨o,q,r,rfl⟩:=Y;have v:=h.rng;have I:Keeps' [k] w w' (held A μ) (held A (μ.set k (.slice o q r))) μ (μ.set k (.slice o q r)):=by
  refine⟨u,λb f B=>H b f (λe=>B (.inr ⟨k,_,l,.inl e⟩)),λb f B=> ?_,λj z hj c=>by simp only[Kb]at hj;simp[Mu.set,hj,c],λj z hj c=>by simp only[Kb]at hj;subst hj;rw[l]at c;cases c;exact .inl ⟨_,_,_,rfl⟩⟩;rcases B with B|⟨j,z,hj,c⟩
  .exact .inl B
  .unfold Mu.set at hj;split at hj
   .cases hj;rw[SX]at c;rcases d with d|d|⟨T,d,J,_⟩
    .rw[d]at c;cases c
    .rw[d]at c;exact .inr ⟨k,_,l,.inl c⟩
    .rw[d]at c;cases c;omega
   .exact .inr ⟨j,z,hj,c⟩
 have U:∀j z b,j≠k->μ j=some z->CS z b->FO (Value.slice xa xn xm)≠some b:=λj z b hj c f e=>hj (h.inj j k z _ b c l f (.inl e));refine⟨⟨λj z hj=> ?_,λj K z L b hj s c M=> ?_,λj z b hj c=> ?_,λb f=>Kf (h.bnd b f) u⟩,⟨Z,zi,Y0,λ_=>Y1,u,λi hi hX=> ?_⟩,I⟩
 .by_cases e:j=k
  .subst e;have:z=.slice o q r:=F6;subst this;obtain⟨C,N,_⟩:=h.blk j _ l;have E:j<own.length:=(Jk.1 N).1;exact⟨bl,by simp[E],ba I⟩
  .have s:μ j=some z:=Fe;obtain⟨C,N,s7⟩:=h.blk j z s;refine⟨C.kill [k],by rw[Jz (Ne.symm e),K9,N];rfl,s7.change I (λb f=>H b (v j z b s f).1 (U j z b e s f))⟩
 .have F:∀j z,Mu.set μ k (.slice o q r) j=some z->(j=k/\z=.slice o q r)\/(j≠k/\μ j=some z):=by
   intro j z hj;by_cases e:j=k
   .subst e;exact .inl ⟨rfl,F6⟩
   .exact .inr ⟨e,Fe⟩
  have g:∀j z,j≠k->μ j=some z->CS z b->CS (.slice o q r) b->False:=by
   intro j z hj c f t;rw[SX]at t;rcases d with d|d|⟨T,d,J,_⟩
   .rw[d]at t;cases t
   .rw[d]at t;exact U j z b hj c f t
   .rw[d]at t;cases t;have:=(v j z b c f).1;omega
  rcases F j z hj with⟨e,rfl⟩|⟨e,em⟩<;>rcases F K L s with⟨O,e2⟩|⟨O,G⟩
  .rw[e,O]
  .exact(g K L O G M c).elim
  .subst e2;exact(g j z e em c M).elim
  .exact h.inj j K z L b em G c M
 .by_cases e:j=k
  .subst e;have:z=.slice o q r:=F6;subst this;rw[SX]at c;rcases d with d|d|⟨T,d,J,E,S⟩
   .rw[d]at c;cases c
   .rw[d]at c;obtain⟨P,Q,R⟩:=v j _ b l (.inl c);exact⟨Kf P u,Q,R⟩
   .rw[d]at c;cases c;exact⟨E,λha=>by have:=h.bnd _ ha;omega,.inl S⟩
  .have s:μ j=some z:=Fe;obtain⟨P,Q,R⟩:=v j z b s c;exact⟨Kf P u,Q,R⟩
 .rcases Nd i w.heap.size with E|J
  .refine H i E (λe=> ?_);rcases(v k _ i l (.inl e)).2.2 with V|V
   .omega
   .exact hX V
  .omega
theorem b3q{B0:Nat}{X A:Nat->Prop}{w w':World}{μ:Mu}{own:List Blk}(h:Own B0 X A w μ own)(c:B0<=w.heap.size){k:Nat}{x y:Value}{bl:Blk}(d:μ k=some x)(e:∃a n m,x=.slice a n m)
 (f:∃a n m,y=.slice a n m) (g:FO y=FO x\/(∃b,FO y=some b/\w.heap.size<=b/\b<w'.heap.size/\B0<=b)) (i:w.heap.size<=w'.heap.size) (j:∀b,b<w.heap.size->FO x≠some b->w'.heap[b]?=w.heap[b]?)
 (l:w'.os=w.os) (o:w'.tape=w.tape) (p:w'.output=w.output)
 (q:Keeps' [k] w w' (held A μ) (held A (μ.set k y)) μ (μ.set k y)->DX w' (held A (μ.set k y)) (μ.set k y) y bl) (r:w.drawn<=w'.drawn:=by first|exact Jp _|exact Nat.le_succ _):
 After' [k] B0 X A w w' μ (μ.set k y) ((own.map (Blk.kill [k])).set k bl):=
 b1a h c d e f (.inr g) i j l o p q r
def Se(own:List Blk)(sz:Nat):SV->Option (Nat×(Nat->List SV))
 |.con (.slice none 0 0)=>some (0,λ_=>[])
 |.sl a n f _=>if sz=a then some (n,f)else none
 |.osl k=>match own[k]? with
  |some (.row _ a n f _)=>if sz=a then some (n,f)else none
  |_=>none
 |_=>none
section
variable{P:Program}{w:World}{μ:Mu}{B0:Nat}{X A:Nat->Prop}{own ownN:List Blk}
theorem b0u(S:Own B0 X A w μ ownN)(U:∀(k:Nat) (bl:Blk),own[k]?=some bl->ownN[k]?=some bl){y:SV}{v:Value}{sz n:Nat}{f:Nat->List SV}(z:D w (held A μ) μ y v)(d:Se own sz y=some (n,f)):
 ∃(a:Option Addr) (m:Nat) (news:List Value),v=.slice a n m/\n<=m/\m<=maxLen/\news.length=n*sz/\(∀v∈news,v.oneCell'=true)/\(∀i,i<n->(f i).length=sz/\(f i).all SV.pure=true)/\
  (0<n->∃E,a=some E/\E.spot=none/\∀(j:Nat) (u:Value),news[j]?=some u->w.cell? (E.add j)=some u)/\
  ∀(i j:Nat) (s:SV) (u:Value),i<n->(f i)[j]?=some s->news[i*sz+j]?=some u->D w (held A μ) μ s u:=by
 cases z with
 |con=>
  unfold Se at d;split at d<;>first
   |(rename_i V;cases V;cases d;exact⟨none,0,[],rfl,Jp _,Ff,E2,E2,λi h=>absurd h (K5 _),λh=>absurd h (N0 _),λi j s u h=>absurd h (K5 _)⟩)
   |simp_all
 |sl a b o m g F hx W N hl G=>
  rename_i H q Y c;simp only[Se]at d;split at d;rotate_left
  .cases d
  rename_i e;subst e;simp only[Iv]at d;obtain⟨rfl,rfl⟩:=d;have BU:∀(x:Nat) (u:Value),((List.range (q*sz)).map λx=>g (x/sz) (x%sz))[x]?=some u->x<q*sz/\u=g (x/sz) (x%sz):=by intro x u l;simp only[Iy]at l;obtain⟨y,z,rfl⟩:=l;rw[Jk]at z;obtain⟨O,e⟩:=z;simp at O e;subst e;exact⟨O,rfl⟩
  have split_:∀x,x<q*sz->x/sz<q/\x%sz<sz/\x/sz*sz+x%sz=x:=by
   intro x hx;have Z:0<sz:=by
    rcases Kt sz with I|I
    .subst I;omega
    .exact I
   refine⟨Nat.div_lt_of_lt_mul Gg,Nq _ Z,?_⟩;have:=Nat.div_add_mod x sz;rw[O6]at this;exact this
  refine⟨a,m,(List.range (q*sz)).map λx=>g (x/sz) (x%sz),rfl,F,hx,E2,?_,hl,?_,?_⟩
  .intro v J;obtain⟨x,cx,e⟩:=Kg.1 J;obtain⟨r,t⟩:=BU x v (by rw[<-e];exact Jh cx);obtain⟨B,K,_⟩:=split_ x r;rw[t];exact((N (Nat.lt_of_le_of_lt (Jw _) B)).2.2.2 _ _ B K).2
  .intro C;obtain⟨rfl,hb,hr⟩:=N C;refine⟨_,rfl,rfl,λx u l=> ?_⟩;obtain⟨r,t⟩:=BU x u l;obtain⟨B,K,s3⟩:=split_ x r;have:=(hr.2 _ _ B K).1;rw[Ln,t,<-this,Lt,s3]
  .intro i j s u hi hs l;obtain⟨r,t⟩:=BU _ u l;have P:j<sz:=Gh;have L:(i*sz+j)/sz=i:=by rw[O6,Nat.mul_add_div Dz,Nat.div_eq_of_lt P];rfl
   have e2:(i*sz+j)%sz=j:=by rw[O6,Nat.mul_add_mod,Nat.mod_eq_of_lt P]
   rw[L,e2]at t;rw[t];exact G i j s hi hs
 |osl h=>
  rename_i k M Q a0;simp only[Se]at d;split at d;rotate_left
  .cases d
  rename_i T H q Y c hk;split at d;rotate_left
  .cases d
  rename_i e;subst e;simp only[Iv]at d;obtain⟨rfl,rfl⟩:=d;obtain⟨bl,R,ba⟩:=S.blk _ _ h;rw[U _ _ hk]at R;cases R;obtain⟨a,m,L,C,F,W,hl,bc⟩:=ba;cases L;rcases bc with rfl|⟨b,o,vs,c9,rfl,hh,ho,r,G⟩
  .obtain rfl:M=0:=Dz;exact⟨_,0,[],rfl,Jp _,Ff,E2,E2,hl,λh=>absurd h (N0 _),λi j s u h=>absurd h (K5 _)⟩
  .have bj:M*sz<=Q*sz:=Kr _ C;refine⟨_,Q,(vs.drop o).take (M*sz),rfl,C,F,Eb,λv J=>r v (Nr (M4 J)),hl,λ_=>⟨_,rfl,rfl,λj u l=> ?_⟩,λi j s u hi hs l=> ?_⟩
   .rw[Ln,TM hh];exact(HZ l).2
   .exact G i j s u hi hs (by rw[Lt];exact(HZ l).2)
 |_=>simp[Se]at d
def QK(d:Int):Option (Option SV)->Option Int
 |none=>some d
 |some (some (.int _ n))=>some n
 |_=>none
def c5i(P:Program)(_:List Blk)(T:TypeId)(x:SV)(lo hi mx:Option (Option SV)):Option (Prop×SV):=
 match P.underlying T with
 |some (.slice e)=>match x,mx with
  |.sl a n f c,none=>do
   let l<-QK 0 lo
   let h<-QK n hi
   some (DC P e=some a/\0<=l/\l<=h/\h<=n,.sl a (h-l).toNat (λj=>f (l.toNat+j)) (c.map λm=>m-l.toNat))
  |.sl a n f _,some m=>do
   let l<-QK 0 lo
   let h<-QK n hi
   let m<-QK n (some m)
   if hi.isNone then none else
   some (DC P e=some a/\0<=l/\l<=h/\h<=m/\m<=n,.sl a (h-l).toNat (λj=>f (l.toNat+j)) (some (m-l).toNat))
  |_,_=>none
 |some (.array n e)=>match x,lo,hi,mx with
  |.rel a b f 0 0,none,none,none=>if DC P e=some a/\n=b/\n<=1000000 then some (True,.sl a n f (some n))else none
  |_,_,_,_=>none
 |_=>none
end
section
variable{P:Program}{w:World}{μ:Mu}{B0:Nat}{X A:Nat->Prop}{own ownN:List Blk}
def DO(w:World)(H:Nat->Prop)(μ:Mu)(o:Option (Option SV))(v:Option Value):Prop:=
 match o,v with
 |none,none=>True
 |some (some s),some u=>D w H μ s u
 |some none,some _=>True
 |_,_=>False
theorem d9f{H:Nat->Prop}{sz n:Nat}{f:Nat->List SV}{a:Option Addr}{b o m l h m':Nat}{g:Nat->Nat->Value}(_:n<=m)(hx:m<=maxLen)
 (k:0<n->a=some ⟨b,o,none⟩/\¬H b/\XE w b o sz n g) (q:∀i,i<n->(f i).length=sz/\(f i).all SV.pure=true) (r:∀(i j:Nat) (s:SV),i<n->(f i)[j]?=some s->D w H μ s (g i j))
 (h1:l<=h) (h2:h<=n) (h3:h<=m') (h4:m'<=m) {c:Option Nat} (t:c=none\/c=some (m'-l)):
 D w H μ (.sl sz (h-l) (λj=>f (l+j)) c) (.slice (if m'=l then a else a.map (·.add (l*sz))) (h-l) (m'-l)):=by
 refine .sl _ b (o+l*sz) (m'-l) (λi j=>g (l+i) j) Dz Dz t (λhn=> ?_) (λi d=>q _ Dz) (λi j s d hs=>r _ _ _ Dz hs);obtain⟨rfl,u,e⟩:=k Dz;rw[Jj Dz];refine⟨by simp[Ln],u,e.1,λi j d v=> ?_⟩;have:=e.2 (l+i) j Dz v;rwa[show o+(l+i)*sz+j=o+l*sz+i*sz+j from by rw[Ma];omega]at this
theorem c5j{H:Nat->Prop}{T:TypeId}{x s:SV}{v:Value}{lo hi mx:Option (Option SV)}{A B vm:Option Value}{C:Prop}(hx:D w H μ x v)(K:DO w H μ lo A)(L:DO w H μ hi B)(M:DO w H μ mx vm)
 (i:c5i P own T x lo hi mx=some (C,s)) (W:C):∃r,(Instr.sliceAt T v A B vm).run P w=.ok r w/\D w H μ s r:=by
 have j:∀{d:Int} {o:Option (Option SV)} {u:Option Value} {n:Int},DO w H μ o u->QK d o=some n->(u=none/\o=none/\n=d)\/∃k,u=some (.int k n)/\o.isNone=false:=by
  intro d o u n q z;unfold QK at z;split at z
  .cases z;cases u with
   |none=>exact .inl ⟨rfl,rfl,rfl⟩
   |some _=>simp[DO]at q
  .cases z;cases u with
   |none=>simp[DO]at q
   |some u=>simp only[DO]at q;cases q;exact .inr ⟨_,rfl,rfl⟩
  .cases z
 unfold c5i at i;split at i
 .rename_i e hT;have n8:P.elem T=e:=Gd;split at i
  .rename_i X n f c;simp only[J7,Iv]at i;obtain⟨l,N,h,O,rfl,rfl⟩:=i;obtain⟨y,h0,h1,h2⟩:=W;simp only[DC,Jq]at y;obtain⟨t,E,rfl⟩:=y;cases vm with
   |some _=>simp[DO]at M
   |none=>
   cases hx with
   |sl a b o m g Q R G S F q=>
    have U:(Instr.sliceBounds true n m A B none).run P w=.ok (l.toNat,h.toNat,m) w:=by
     rcases j K N with⟨rfl,_,rfl⟩|⟨I,rfl,_⟩<;>rcases j L O with⟨rfl,_,rfl⟩|⟨J,rfl,_⟩
     .simp[Instr.sliceBounds]
     .simp[Instr.sliceBounds,M2 w J h m _ Dz Dz]
     .simp[Instr.sliceBounds,M2 w I l n _ Dz Dz]
     .have:=M2 (P:=P) w I l h.toNat .sliceB Dz Dz;simp[Instr.sliceBounds,M2 w J h m _ Dz Dz,this]
    refine⟨.slice (if m=l.toNat then a else a.map (·.add (l.toNat*t.size))) (h.toNat-l.toNat) (m-l.toNat),?_,?_⟩;rotate_left
    .have:=d9f (w:=w) (H:=H) (μ:=μ) (l:=l.toNat) (h:=h.toNat) (m':=m) Q R S F q Dz Dz Dz (Jp _) (c:=c.map λm=>m-l.toNat) (by rcases G with rfl|rfl;exact .inl rfl;exact .inr rfl);rw[show (h-l).toNat=h.toNat-l.toNat from Dz];exact this
    .simp only[Instr.sliceAt,Iw,Kn hT,Instr.slice,U,IP E]
  .rename_i X n f c m;simp only[J7]at i;obtain⟨l,N,h,O,mm,mn,i⟩:=i;split at i
   .cases i
   rename_i V;simp only[Iv]at i;obtain⟨rfl,rfl⟩:=i;obtain⟨y,h0,h1,h2,h3⟩:=W;simp only[DC,Jq]at y;obtain⟨t,E,rfl⟩:=y;cases hx with
   |sl a b o Y g Q R G S F q=>
    have U:(Instr.sliceBounds true n Y A B vm).run P w=.ok (l.toNat,h.toNat,mm.toNat) w:=by
     rcases j M mn with⟨rfl,e,rfl⟩|⟨km,rfl,_⟩
     .cases e
     rcases j L O with⟨rfl,e,rfl⟩|⟨J,rfl,_⟩
     .simp[e]at V
     have Z:=M2 (P:=P) w km mm Y .slice3Acap Dz Dz;have e2:=M2 (P:=P) w J h mm.toNat .slice3B Dz Dz;rcases j K N with⟨rfl,_,rfl⟩|⟨I,rfl,_⟩
     .simp[Instr.sliceBounds,Z,e2]
     .have e3:=M2 (P:=P) w I l h.toNat .slice3C Dz Dz;simp[Instr.sliceBounds,Z,e2,e3]
    refine⟨.slice (if mm.toNat=l.toNat then a else a.map (·.add (l.toNat*t.size))) (h.toNat-l.toNat) (mm.toNat-l.toNat),?_,?_⟩;rotate_left
    .have:=d9f (w:=w) (H:=H) (μ:=μ) (l:=l.toNat) (h:=h.toNat) (m':=mm.toNat) Q R S F q Dz Dz Dz Dz (c:=some (mm-l).toNat) (.inr (by congr 1;omega));rw[show (h-l).toNat=h.toNat-l.toNat from Dz];exact this
    .simp only[Instr.sliceAt,Iw,Kn hT,Instr.slice,U,IP E]
  .cases i
 .rename_i n e hT;have n8:P.elem T=e:=Gd;have zd:P.arrayLen T=n:=by simp[Program.arrayLen,hT]
  split at i
  .rename_i X n' f;split at i;rotate_left
   .cases i
   rename_i G;obtain⟨y,rfl,hn⟩:=G;simp only[Iv]at i;obtain⟨rfl,rfl⟩:=i;simp only[DC,Jq]at y;obtain⟨t,E,rfl⟩:=y;cases hx with
   |rel b o g hi z hr F q=>
    cases A<;>cases B<;>cases vm<;>simp[DO]at K L M
    refine⟨.slice (some ⟨b,o,none⟩) n n,?_,.sl _ b o n g (Jp _) Ew (.inr rfl) (λ_=>⟨rfl,z,hr⟩) F q⟩;simp[Instr.sliceAt,Kn hT,Instr.sureAddr,Instr.sliceBounds,IP E,Addr.add_zero']
  .cases i
 .cases i
def OL(c:Option Nat)(n:Nat):Option Nat:=c.bind λc0=>if n<=c0 then some c0 else none
theorem c2p{c:Option Nat}{n m:Nat}(h:c=none\/c=some m):OL c n=none\/OL c n=some m:=by
 rcases h with rfl|rfl
 .exact .inl rfl
 .unfold OL;simp only[M7];split
  .exact .inr rfl
  .exact .inl rfl
theorem d9r{c:Option Nat}{n m:Nat}(h:c=none\/c=some m)(hm:m<n):OL c n=none:=by
 rcases h with rfl|rfl
 .rfl
 .unfold OL;simp only[M7];rw[Jj Dz]
def b54(own:List Blk)(e:TypeId)(a:TypeInfo)(m:Nat)(g:Nat->List SV):SV->Option (Prop×Nat×List Blk×Bool)
 |.con (.slice none 0 0)=>some (m<=9223372036854775807/\m*a.bytes<=140737488355328,own.length,own++[.row e a.size m g none],true)
 |.sl b n f c=>if b=a.size then
  some ((match c with|some c=>n=c|none=>False)/\(n=0\/0<m)/\n+m<=9223372036854775807/\(n+m)*a.bytes<=140737488355328,own.length,own++[.row e a.size (n+m) (λj=>if j<n then f j else g (j-n)) none],true)
  else none
 |.osl k=>match own[k]? with
  |some (.row d b n f c)=>if d=e/\b=a.size then
   some (n+m<=9223372036854775807/\(n+m)*a.bytes<=140737488355328,k,(own.map (Blk.kill [k])).set k (.row e b (n+m) (λj=>if j<n then f j else g (j-n)) (OL c (n+m))),false)
   else none
  |_=>none
 |_=>none
def UF(P:Program)(own:List Blk)(T:TypeId)(x y:SV):Option (Prop×Nat×List Blk×Bool):=
 (PA P T).bind λe=>(P.info? e).bind λa=>(PT P e).bind λz=>(Se own a.size y).bind λb=>
   if z.length=a.size/\0<a.size/\z.all SV.isCell then b54 own e a b.1 b.2 x else none
theorem Tn{b n:Nat}{a:Option Addr}{c:Nat}{news:List Value}(hl:news.length=n*b)(h:0<n->∃d,a=some d/\d.spot=none/\∀(j:Nat) (u:Value),news[j]?=some u->w.cell? (d.add j)=some u):
 (Builtin.firstCells b n (.slice a n c)).run P w=.ok news.toArray w:=by
 rcases Kt n with e|e
 .subst e;have:news=[]:=Lj Ef;subst this;cases a with
  |none=>simp[Builtin.firstCells]
  |some d=>simp[Builtin.firstCells,loadCells,loadCellsFrom]
 .obtain⟨d,rfl,_,f⟩:=h e;simp only[Builtin.firstCells];exact b2j d news (n*b) hl f
theorem WV{a:Value}(d:∀v∈a.cells.toList,v.oneCell'=true)(n:Nat):∀v∈(Builtin.zeroCells a.cells n).toList,v.oneCell'=true:=by
 intro v c;simp only[Builtin.zeroCells,Nu,Jx]at c;obtain⟨i,hi,rfl⟩:=c;have e:i<n*a.cells.size:=Et;have f:0<a.cells.size:=by
  rcases Kt a.cells.size with b|b
  .rw[b]at e;omega
  .exact b
 have g:i%a.cells.size<a.cells.size:=Nq _ f;rw[L6 a.cells _ g];exact d _ E2
theorem b02{T ty e:TypeId}{b:TypeInfo}{f:Value}(g:P.underlying T=some (.slice e))(hi:P.info? e=some b)(i:b.zero=some f)
 {a a':Option Addr} {n m k c:Nat} {olds news:List Value} (j:(Builtin.firstCells b.size n (.slice a n c)).run P w.drew=.ok olds.toArray w.drew) (l:(Builtin.firstCells b.size m (.slice a' m k)).run P w.drew=.ok news.toArray w.drew)
 (o:c<n+m) (rf:n+m<=9223372036854775807) (q:(n+m)*b.bytes<=140737488355328):
 (Builtin.append_ #[T,T] ty #[.slice a n c,.slice a' m k]).run P w=.ok (.slice (some ⟨w.heap.size,0,none⟩) (n+m) (grownCap w (n+m) c e))
   (w.drew.alloc (.cells (olds++news++(Builtin.zeroCells f.cells (grownCap w (n+m) c e-(n+m))).toList).toArray e)):=by
 have r:¬(n+m<=c):=Dz;have d:¬(9223372036854775807<((n:Int)+(m:Int))):=Dz;have h48:=growslice_fits o q;have s:¬(281474976710656<Builtin.nextslicecap (n+m) c*b.bytes):=Dz;simp[Builtin.append_,Kn g,sizeOf,typeInfo,zeroValue,hi,i,Builtin.lenOf,r,d,s,Question.forced,j,l,newRow,grownCap];congr 1;congr 1;apply Array.ext';simp
theorem b9j{T ty e:TypeId}{a:TypeInfo}(f:P.underlying T=some (.slice e))(hi:P.info? e=some a){d:TypeId}
 {b o:Nat} {vs:List Value} {a':Option Addr} {n m k c:Nat} {news:List Value} (g:w.heap[b]?=some (.cells vs.toArray d (0,0))) (i:(Builtin.firstCells a.size m (.slice a' m k)).run P w=.ok news.toArray w)
 (j:n+m<=c) (hl:o+n*a.size+news.length<=vs.length) (l:∀u∈news,u.oneCell'=true):
 (Builtin.append_ #[T,T] ty #[.slice (some ⟨b,o,none⟩) n c,.slice a' m k]).run P w=.ok (.slice (some ⟨b,o,none⟩) (n+m) c) (putRow w b (over vs (o+n*a.size) news) d):=by
 have hs:=Yh (P:=P) b (o+n*a.size) d news w vs 0 g Dz l;rw[Mp]at hs;simp[Builtin.append_,Kn f,sizeOf,typeInfo,hi,Builtin.lenOf,j,i,Ln,hs]
theorem b08{T ty e:TypeId}{b:TypeInfo}(c:P.underlying T=some (.slice e))(hi:P.info? e=some b){a a':Option Addr}{k:Nat}(d:(Builtin.firstCells b.size 0 (.slice a' 0 k)).run P w=.ok #[] w):
 (Builtin.append_ #[T,T] ty #[.slice a 0 0,.slice a' 0 k]).run P w=.ok (.slice a 0 0) w:=by
 cases a<;>simp[Builtin.append_,Kn c,sizeOf,typeInfo,hi,Builtin.lenOf,d,storeCells]
theorem c1m(h:Own B0 X A w μ ownN){k:Nat}{e:TypeId}{sz:Nat}{f:Nat->List SV}(u:μ k=none)(v:ownN[k]?=some (.row e sz 0 f none)){a:Option Addr}:
 Own B0 X A w (μ.set k (.slice a 0 0)) ownN/\Keeps w w (held A μ) (held A (μ.set k (.slice a 0 0))) μ (μ.set k (.slice a 0 0)):=by
 have n:Keeps w w (held A μ) (held A (μ.set k (.slice a 0 0))) μ (μ.set k (.slice a 0 0)):=by
  refine⟨Jp _,λ_ _ _=>rfl,λb o g=> ?_,λj y c=> ?_⟩
  .rcases g with g|⟨j,y,hj,c⟩
   .exact .inl g
   .unfold Mu.set at hj;split at hj
    .cases hj;exact absurd c c04
    .exact .inr ⟨j,y,hj,c⟩
  .unfold Mu.set;split
   .subst_vars;rw[u]at c;cases c
   .exact c
 have d:∀j y b,Mu.set μ k (.slice a 0 0) j=some y->CS y b->μ j=some y:=by
  intro j y b hj c;unfold Mu.set at hj;split at hj
  .cases hj;exact absurd c c04
  .exact hj
 refine⟨⟨λj y hj=> ?_,λj q y r b hj l c s=>h.inj j q y r b (d j y b hj c) (d q r b l s) c s,λj y b hj c=>h.rng j y b (d j y b hj c) c,h.bnd⟩,n⟩;by_cases t:j=k
 .subst t;have:y=.slice a 0 0:=F6;subst this;exact⟨_,v,a,0,rfl,Jp _,Ff,.inl rfl,λi x=>absurd x (K5 _),.inl rfl⟩
 .have l:μ j=some y:=by simpa[Mu.set,t]using hj
  obtain⟨m,z,o⟩:=h.blk j y l;exact⟨m,z,o.keep n (λ_ _=>rfl)⟩
theorem Own.more{own':List Blk}(h:Own B0 X A w μ own)(hs:∀(k:Nat) (bl:Blk),own[k]?=some bl->own'[k]?=some bl):Own B0 X A w μ own':=
 ⟨λk x hx=>by obtain⟨bl,e,a⟩:=h.blk k x hx;exact⟨bl,hs _ _ e,a⟩,h.inj,h.rng,h.bnd⟩
theorem XL{own:List Blk}{bl:Blk}(k:Nat)(b:Blk)(h:own[k]?=some b):(own++[bl])[k]?=some b:=by rw[Jt (Jk.1 h).1];exact h
theorem b2v{w':World}{H':Nat->Prop}{μ':Mu}{sz n m:Nat}{f g:Nat->List SV}{us:List Value}{o:Nat}(a:∀i,i<n->(f i).length=sz/\(f i).all SV.pure=true)(b:∀i,i<m->(g i).length=sz/\(g i).all SV.pure=true)
 (d:∀(i j:Nat) (s:SV) (v:Value),i<n->(f i)[j]?=some s->us[o+i*sz+j]?=some v->D w' H' μ' s v) (e:∀(i j:Nat) (s:SV) (v:Value),i<m->(g i)[j]?=some s->us[o+(n+i)*sz+j]?=some v->D w' H' μ' s v):
 (∀i,i<n+m->((λj=>if j<n then f j else g (j-n)) i).length=sz/\((λj=>if j<n then f j else g (j-n)) i).all SV.pure=true)/\
   ∀(i j:Nat) (s:SV) (v:Value),i<n+m->((λj=>if j<n then f j else g (j-n)) i)[j]?=some s->us[o+i*sz+j]?=some v->D w' H' μ' s v:=by
 refine⟨λi k=> ?_,λi j s v k hs c=> ?_⟩
 .show (if i<n then f i else g (i-n)).length=sz/\(if i<n then f i else g (i-n)).all SV.pure=true;split
  .exact a i ‹_›
  .exact b _ Dz
 .replace hs:(if i<n then f i else g (i-n))[j]?=some s:=hs;split at hs
  .exact d i j s v ‹_› hs c
  .exact e (i-n) j s v Dz hs (by rw[show n+(i-n)=i from Dz];exact c)
end
section
variable{P:Program}{w:World}{μ:Mu}{B0:Nat}{X A:Nat->Prop}{own ownN:List Blk}
theorem XI{α:Type}{a b c:List α}{i:Nat}{v:α}(h:(a++b++c)[i]?=some v):(i<a.length->a[i]?=some v)/\(a.length<=i->i<a.length+b.length->b[i-a.length]?=some v):=by
 refine⟨λd=> ?_,λe h2=> ?_⟩
 .rwa[Mx,Jt d]at h
 .rwa[Mx,Jy e,Jt Dz]at h
theorem LO{i j n sz:Nat}(hi:i<n)(hj:j<sz):i*sz+j<n*sz:=by
 have:i*sz+sz<=n*sz:=by rw[<-N5];exact Kr _ hi
 omega
theorem c37(F:Own B0 X A w μ own)(G:B0<=w.heap.size)(Z:μ own.length=none){T ty:TypeId}{x y:SV}{v u:Value}{O:Prop}{k:Nat}{own':List Blk}{K:Bool}(hx:D w (held A μ) μ x v)(hy:D w (held A μ) μ y u)
 (t:UF P own T x y=some (O,k,own',K)) (hp:O):
 ∃r w' μ',(Builtin.append_ #[T,T] ty #[v,u]).run P w=.ok r w'/\D w' (held A μ') μ' (.osl k) r/\
  ((K=true/\After B0 X A w w' μ μ' own'/\∀j,j≠own.length->μ' j=μ j)\/(K=false/\After' [k] B0 X A w w' μ μ' own'/\∀j,j≠k->μ' j=μ j)):=by
 simp only[UF,Js]at t;obtain⟨e,hT,d,hi,z,hz,⟨m,g⟩,Zm,t⟩:=t;have ht:=RA hT;split at t;rotate_left
 .cases t
 rename_i t9;obtain⟨rz,dz,t9⟩:=t9;obtain⟨inf',E,b8,pg,rfl,re⟩:=TF (w:=w) (H:=held A μ) (μ:=μ) hz;rw[hi]at b8;cases b8;have m9:E.cells.size=d.size:=Fh;have ge:∀v∈E.cells.toList,v.oneCell'=true:=TJ re t9;obtain⟨a',M,news,rfl,wm,Y2,jd,Q,mf,T9,Q8⟩:=b0u F (λ_ _ h=>h) hy Zm;have S8:(Builtin.firstCells d.size m (.slice a' m M)).run P w=.ok news.toArray w:=Tn jd T9;have gp:(Builtin.firstCells d.size m (.slice a' m M)).run P w.drew=.ok news.toArray w.drew:=Tn jd T9;unfold b54 at t;split at t
 ·-- nil
  simp only[Iv]at t;obtain⟨rfl,rfl,rfl,rfl⟩:=t;obtain⟨rf,hb⟩:=hp;cases hx;have R:Own B0 X A w μ (own++[.row e d.size m g none]):=F.more XL;have S:(own++[Blk.row e d.size m g none])[own.length]?=some (.row e d.size m g none):=E2;rcases Kt m with I|I
  .subst I;obtain rfl:news=[]:=Lj Gi;obtain⟨o1,o2⟩:=c1m R Z S (a:=none);exact D8
  .have hr:=b02 (P:=P) (w:=w) (ty:=ty) ht hi pg (a:=none) (a':=a') (n:=0) (m:=m) (k:=M) (c:=0) (olds:=[]) (news:=news) (by simp[Builtin.firstCells]) gp Dz Dz Gj;simp only[L9,Nk]at hr;have zq:=R.drew;have U:=grownCap_ge w m 0 e;have V:=O1 w m 0 e Ew;obtain⟨o1,o2⟩:=Uk (x:=.slice (some ⟨w.heap.size,0,none⟩) m (grownCap w m 0 e)) zq G Z S (.cells (news++(Builtin.zeroCells E.cells (grownCap w m 0 e-m)).toList).toArray e) (λb hb=>(XD Dz).1 hb) (λμ' _ C=>by
    refine⟨_,_,rfl,U,V,.inl rfl,mf,.inr ⟨w.heap.size,0,_,Dz,rfl,Mt w.drew _,?_,λv l=> ?_,λi j s v b8 hs l=> ?_⟩⟩
    .simp only[Jf,jd,Ls,O7,m9,<-Ma];rw[show m+(grownCap w m 0 e-m)=grownCap w m 0 e from Dz];exact C2
    .rcases K6.1 l with l|l
     .exact Q v l
     .exact WV ge _ v l
    .have hj:j<d.size:=G3;rw[L9,Jt (by rw[jd];exact LO b8 hj)]at l;exact((Q8 i j s v b8 hs l).keep Keeps.drew).keep C)
   refine⟨_,_,_,hr,.osl Eh,.inl ⟨rfl,⟨o1,Fr.drew.trans (Fr.alloc _ G),?_⟩,λj hj=>Ep⟩⟩;exact Cu
 ·-- a view without room
  rename_i sz n f c;split at t;rotate_left
  .cases t
  rename_i bq;subst bq;simp only[Iv]at t;obtain⟨rfl,rfl,rfl,rfl⟩:=t;obtain⟨N,fx,rf,hb⟩:=hp;obtain⟨c,rfl⟩:∃M,c=some M:=by
   cases c with
   |none=>exact N.elim
   |some c=>exact⟨c,rfl⟩
  replace N:n=c:=N;obtain⟨a,c0,olds,rfl,hnc0,hcx0,me,zr,dw,qm,V0⟩:=b0u F (λ_ _ h=>h) hx (sz:=d.size) (n:=n) (f:=f) (by simp[Se]);have V1:c0=n:=by
   cases hx with
   |sl a b o m g hm hx W b7 hl hd=>
    rcases W with W|W
    .cases W
    .cases W;exact N.symm
  subst V1;have R:Own B0 X A w μ (own++[.row e d.size (c0+m) (λj=>if j<c0 then f j else g (j-c0)) none]):=F.more XL;have S:(own++[Blk.row e d.size (c0+m) (λj=>if j<c0 then f j else g (j-c0)) none])[own.length]?=some (.row e d.size (c0+m) (λj=>if j<c0 then f j else g (j-c0)) none):=E2;rcases Kt m with I|I
  .subst I;obtain rfl:c0=0:=Dz;obtain rfl:news=[]:=Lj Gi;obtain⟨o1,o2⟩:=c1m R Z S (a:=a);exact D8
  .have V2:(Builtin.firstCells d.size c0 (.slice a c0 c0)).run P w.drew=.ok olds.toArray w.drew:=Tn me qm;have hr:=b02 (P:=P) (w:=w) (ty:=ty) ht hi pg (olds:=olds) (news:=news) V2 gp Dz rf hb;have zq:=R.drew;have U:=grownCap_ge w (c0+m) c0 e;have V:=O1 w (c0+m) c0 e Ew;obtain⟨o1,o2⟩:=Uk (x:=.slice (some ⟨w.heap.size,0,none⟩) (c0+m) (grownCap w (c0+m) c0 e)) zq G Z S (.cells (olds++news++(Builtin.zeroCells E.cells (grownCap w (c0+m) c0 e-(c0+m))).toList).toArray e) (λb hb=>(XD Dz).1 hb) (λμ' _ C=>by
    have J:=b2v (w':=w.drew.alloc (.cells (olds++news++(Builtin.zeroCells E.cells (grownCap w (c0+m) c0 e-(c0+m))).toList).toArray e)) (H':=held A μ') (μ':=μ') (o:=0) (us:=olds++news++(Builtin.zeroCells E.cells (grownCap w (c0+m) c0 e-(c0+m))).toList) dw mf
     (λi j s v b8 hs l=>by have hj:j<d.size:=Gk;have L:=LO b8 hj;have Y:=(XI l).1 Fj;rw[L9]at Y;exact((V0 i j s v b8 hs Y).keep Keeps.drew).keep C)
     (λi j s v b8 hs l=>by have hj:j<d.size:=G3;have L:=LO b8 hj;have pn:(c0+i)*d.size=c0*d.size+i*d.size:=Ma _ _ _;have:=(XI l).2 Fj (by rw[me,jd];omega);rw[me,show 0+(c0+i)*d.size+j-c0*d.size=i*d.size+j from Dz]at this;exact((Q8 i j s v b8 hs this).keep Keeps.drew).keep C)
    refine⟨_,_,rfl,U,V,.inl rfl,J.1,.inr ⟨w.heap.size,0,_,Dz,rfl,Mt w.drew _,?_,λv l=> ?_,J.2⟩⟩
    .simp only[Jf,me,jd,Ls,O7,m9,<-Ma];rw[show c0+m+(grownCap w (c0+m) c0 e-(c0+m))=grownCap w (c0+m) c0 e from Dz];exact C2
    .rcases K6.1 l with l|l
     .rcases K6.1 l with l|l
      .exact zr v l
      .exact Q v l
     .exact WV ge _ v l)
   refine⟨_,_,_,hr,.osl Eh,.inl ⟨rfl,⟨o1,Fr.drew.trans (Fr.alloc _ G),?_⟩,λj hj=>Ep⟩⟩;exact Cu
 .rename_i k0;split at t;rotate_left
  .cases t
  rename_i B sz n f c hk;split at t;rotate_left
  .cases t
  rename_i vj;obtain⟨rfl,rfl⟩:=vj;simp only[Iv]at t;obtain⟨rfl,rfl,rfl,rfl⟩:=t;obtain⟨rf,hb⟩:=hp;cases hx with
  |osl h=>
   obtain⟨bl,e1,ba⟩:=F.blk _ _ h;rw[hk]at e1;cases e1;obtain⟨a,q,e2,N,Q9,gq,dw,bc⟩:=ba;cases e2;rename_i q a;have grow:q<n+m->∀(olds:List Value),olds.length=n*d.size->(∀v∈olds,v.oneCell'=true)->(Builtin.firstCells d.size n (.slice a n q)).run P w.drew=.ok olds.toArray w.drew->
    (∀(i j:Nat) (s:SV) (v:Value),i<n->(f i)[j]?=some s->olds[i*d.size+j]?=some v->D w (held A μ) μ s v)->
    ∃r w' μ',(Builtin.append_ #[T,T] ty #[.slice a n q,.slice a' m M]).run P w=.ok r w'/\D w' (held A μ') μ' (.osl k0) r/\
     ((false=true/\After B0 X A w w' μ μ' ((own.map (Blk.kill [k0])).set k0 (.row B d.size (n+m) (λj=>if j<n then f j else g (j-n)) (OL c (n+m))))/\∀j,j≠own.length->μ' j=μ j)\/
       (false=false/\After' [k0] B0 X A w w' μ μ' ((own.map (Blk.kill [k0])).set k0 (.row B d.size (n+m) (λj=>if j<n then f j else g (j-n)) (OL c (n+m))))/\∀j,j≠k0->μ' j=μ j)):=by
    intro hg olds me zr V2 V0;have hr:=b02 (P:=P) (w:=w) (ty:=ty) ht hi pg (olds:=olds) (news:=news) V2 gp hg rf hb;have U:=grownCap_ge w (n+m) q B;have V:=O1 w (n+m) q B Ew;have ha:=b3q (w':=w.drew.alloc (.cells (olds++news++(Builtin.zeroCells E.cells (grownCap w (n+m) q B-(n+m))).toList).toArray B)) (y:=.slice (some ⟨w.heap.size,0,none⟩) (n+m) (grownCap w (n+m) q B))
     (bl:=.row B d.size (n+m) (λj=>if j<n then f j else g (j-n)) (OL c (n+m))) F G h ⟨_,_,_,rfl⟩ ⟨_,_,_,rfl⟩
     (.inr ⟨w.heap.size,Ok Dz,Jp _,E2,G⟩) E2 (λb je _=>Na w.drew _ b je) rfl rfl rfl (λC=>by
       have J:=b2v (w':=w.drew.alloc (.cells (olds++news++(Builtin.zeroCells E.cells (grownCap w (n+m) q B-(n+m))).toList).toArray B))
        (H':=held A (μ.set k0 (.slice (some ⟨w.heap.size,0,none⟩) (n+m) (grownCap w (n+m) q B)))) (μ':=μ.set k0 (.slice (some ⟨w.heap.size,0,none⟩) (n+m) (grownCap w (n+m) q B))) (o:=0) (us:=olds++news++(Builtin.zeroCells E.cells (grownCap w (n+m) q B-(n+m))).toList) dw mf
        (λi j s v b8 hs l=>by have hj:j<d.size:=Gk;have L:=LO b8 hj;have Y:=(XI l).1 Fj;rw[L9]at Y;exact LA C (V0 i j s v b8 hs Y) (Jr.1 (dw i b8).2 s (Jn hs)))
        (λi j s v b8 hs l=>by have hj:j<d.size:=G3;have L:=LO b8 hj;have pn:(n+i)*d.size=n*d.size+i*d.size:=Ma _ _ _;have:=(XI l).2 Fj (by rw[me,jd];omega);rw[me,show 0+(n+i)*d.size+j-n*d.size=i*d.size+j from Dz]at this;exact LA C (Q8 i j s v b8 hs this) (Jr.1 (mf i b8).2 s (Jn hs)))
       refine⟨_,_,rfl,U,V,.inl (d9r gq Dz),J.1,.inr ⟨w.heap.size,0,_,Dz,rfl,Mt w.drew _,?_,λv l=> ?_,J.2⟩⟩
       .simp only[Jf,me,jd,Ls,O7,m9,<-Ma];rw[show n+m+(grownCap w (n+m) q B-(n+m))=grownCap w (n+m) q B from Dz];exact C2
       .rcases K6.1 l with l|l
        .rcases K6.1 l with l|l
         .exact zr v l
         .exact Q v l
        .exact WV ge _ v l)
    exact D9
   rcases bc with rfl|⟨b,o,vs,c9,rfl,hh,ho,h1,hd⟩
   .obtain rfl:n=0:=Dz;rcases Kt m with I|I
    .subst I;obtain rfl:news=[]:=Lj Gi;have ha:=b3q (w':=w) (y:=.slice a 0 0) (bl:=.row B d.size (0+0) (λj=>if j<0 then f j else g (j-0)) (OL c (0+0))) F G h ⟨_,_,_,rfl⟩ ⟨_,_,_,rfl⟩ (.inl rfl) (Jp _) (λ_ _ _=>rfl) rfl rfl rfl
      (λ_=>⟨a,0,rfl,Jp _,Ff,c2p gq,λi hi=>absurd hi (K5 _),.inl rfl⟩)
     exact⟨_,w,_,b08 ht hi S8,.osl Eh,.inr ⟨rfl,ha,λj hj=>Ep⟩⟩
    .exact grow Dz [] E2 E2 (Tn (w:=w.drew) E2 (λh=>absurd h (N0 _))) (λi j s v b8=>absurd b8 (K5 _))
   .by_cases kg:n+m<=q
    .have bj:(n+m)*d.size<=q*d.size:=Kr _ kg;have V3:(n+m)*d.size=n*d.size+m*d.size:=Ma _ _ _;have hr:=b9j (P:=P) (ty:=ty) (o:=o) ht hi hh S8 kg Gm Q;have L:=Pz hh;have ha:=b3q (w':=putRow w b (over vs (o+n*d.size) news) B) (y:=.slice (some ⟨b,o,none⟩) (n+m) q)
      (bl:=.row B d.size (n+m) (λj=>if j<n then f j else g (j-n)) (OL c (n+m))) F G h ⟨_,_,_,rfl⟩ ⟨_,_,_,rfl⟩ (.inl ((Ok c9).trans (Ok c9).symm)) H7 (λi _ b9=>b0i (λe=>b9 (by subst e;exact Ok c9))) rfl rfl rfl (λC=>by
        have J:=b2v (w':=putRow w b (over vs (o+n*d.size) news) B) (H':=held A (μ.set k0 (.slice (some ⟨b,o,none⟩) (n+m) q))) (μ':=μ.set k0 (.slice (some ⟨b,o,none⟩) (n+m) q)) (o:=o)
         (us:=over vs (o+n*d.size) news) dw mf
         (λi j s v b8 hs l=>by have hj:j<d.size:=Gk;have L:=LO b8 hj;rw[NU _ _ _ _ Gm,Jj Dz]at l;exact LA C (hd i j s v b8 hs l) (Jr.1 (dw i b8).2 s (Jn hs)))
         (λi j s v b8 hs l=>by have hj:j<d.size:=G3;have L:=LO b8 hj;have pn:(n+i)*d.size=n*d.size+i*d.size:=Ma _ _ _;rw[NU _ _ _ _ Gm,Ji Gm,show o+(n+i)*d.size+j-(o+n*d.size)=i*d.size+j from Dz]at l;exact LA C (Q8 i j s v b8 hs l) (Jr.1 (mf i b8).2 s (Jn hs)))
        exact⟨_,_,rfl,kg,Q9,c2p gq,J.1,.inr ⟨b,o,_,c9,rfl,b0b L,H9,UP _ _ _ h1 Q,J.2⟩⟩)
     exact D9
    .have bj:n*d.size<=q*d.size:=Kr _ N;refine grow Dz ((vs.drop o).take (n*d.size)) Eb (λv l=>h1 v (Nr (M4 l))) ?_ (λi j s v b8 hs l=>hd i j s v b8 hs (by rw[Lt];exact(HZ l).2));refine Tn (w:=w.drew) Eb (λ_=>⟨_,rfl,rfl,λj u hu=> ?_⟩);rw[Ln,TM (w:=w.drew) hh];exact(HZ hu).2
 .cases t
def b66(P:Program)(own:List Blk)(T:TypeId)(k:Nat)(lo hi:Option (Option SV)):Option (Prop×List Blk):=
 (PA P T).bind λe=>match own[k]? with
 |some (.row b a n f c)=>(QK 0 lo).bind λl=>(QK n hi).bind λh=>
  if DC P e=some a then some (0<=l/\l<=h/\h<=n,(own.map (Blk.kill [k])).set k (.row b a (h-l).toNat (λj=>f (l.toNat+j)) (c.map λm=>m-l.toNat)))else none
 |_=>none
theorem c1f(G:Own B0 X A w μ own)(W:B0<=w.heap.size){T:TypeId}{k:Nat}{v:Value}{lo hi:Option (Option SV)}{E F:Option Value}{z:Prop}{own':List Blk}(hx:D w (held A μ) μ (.osl k) v)
 (Y:DO w (held A μ) μ lo E) (Z:DO w (held A μ) μ hi F) (t:b66 P own T k lo hi=some (z,own')) (hp:z):
 ∃r x,(Instr.sliceAt T v E F none).run P w=.ok r w/\D w (held A x) x (.osl k) r/\After' [k] B0 X A w w μ x own'/\own'.length=own.length/\k<own.length/\∀j,j≠k->x j=μ j:=by
 have B:∀{d:Int} {o:Option (Option SV)} {u:Option Value} {n:Int},DO w (held A μ) μ o u->QK d o=some n->(u=none/\o=none/\n=d)\/∃k,u=some (.int k n)/\o.isNone=false:=by
  intro d o u n y C;unfold QK at C;split at C
  .cases C;cases u with
   |none=>exact .inl ⟨rfl,rfl,rfl⟩
   |some _=>simp[DO]at y
  .cases C;cases u with
   |none=>simp[DO]at y
   |some u=>simp only[DO]at y;cases y;exact .inr ⟨_,rfl,rfl⟩
  .cases C
 simp only[b66,Js]at t;obtain⟨e,hT,t⟩:=t;have H:=RA hT;have n8:P.elem T=e:=by simp[Program.elem,H]
 split at t;rotate_left
 .cases t
 rename_i e' sz n f c I;simp only[Js]at t;obtain⟨l,ph,h,zj,t⟩:=t;split at t;rotate_left
 .cases t
 rename_i J;simp only[Iv]at t;obtain⟨rfl,rfl⟩:=t;obtain⟨h0,h1,h2⟩:=hp;simp only[DC,Jq]at J;obtain⟨g,bu,rfl⟩:=J;cases hx with
 |osl K=>
  obtain⟨bl,L,ba⟩:=G.blk _ _ K;rw[I]at L;cases L;obtain⟨a,m,e2,fx,j9,hc,M,N⟩:=ba;cases e2;rename_i m a;have ke:(Instr.sliceBounds true n m E F none).run P w=.ok (l.toNat,h.toNat,m) w:=by
   rcases B Y ph with⟨rfl,_,rfl⟩|⟨O,rfl,_⟩<;>rcases B Z zj with⟨rfl,_,rfl⟩|⟨Q,rfl,_⟩
   .simp[Instr.sliceBounds]
   .simp[Instr.sliceBounds,M2 w Q h m _ Dz Dz]
   .simp[Instr.sliceBounds,M2 w O l n _ Dz Dz]
   .have:=M2 (P:=P) w O l h.toNat .sliceB Dz Dz;simp[Instr.sliceBounds,M2 w Q h m _ Dz Dz,this]
  have bj:l.toNat<=m:=Dz;refine⟨.slice (if m=l.toNat then a else a.map (·.add (l.toNat*g.size))) (h.toNat-l.toNat) (m-l.toNat),μ.set k (.slice (if m=l.toNat then a else a.map (·.add (l.toNat*g.size))) (h.toNat-l.toNat) (m-l.toNat)),?_,.osl Eh,b1a G W K ⟨_,_,_,rfl⟩ ⟨_,_,_,rfl⟩ ?_ (Jp _) (λ_ _ _=>rfl) rfl rfl rfl (λc8=> ?_),E2,(Jk.1 I).1,λj hj=>Ep⟩
  .simp only[Instr.sliceAt,Iw,Kn H,Instr.slice,ke,IP bu]
  .by_cases q:m=l.toNat
   .left;rw[q,L3];exact WD
   .right;left;rw[Jj q];rcases N with h3|⟨b,o,R,S,rfl,U,ho,V,y⟩
    .omega
    .simp only[Ks,Ln];exact(Ok Dz).trans (Ok S).symm
  .have eh:(h-l).toNat=h.toNat-l.toNat:=Dz;rw[eh];refine⟨if m=l.toNat then a else a.map (·.add (l.toNat*g.size)),m-l.toNat,rfl,Dz,Dz,?_,λi hi=>M _ Dz,?_⟩
   .rcases hc with rfl|rfl
    .exact .inl rfl
    .exact .inr rfl
   .by_cases q:m=l.toNat
    .left;omega
    .right;rcases N with h3|⟨b,o,R,S,rfl,U,ho,V,y⟩
     .omega
     .have pn:(m-l.toNat)*g.size=m*g.size-l.toNat*g.size:=Nat.sub_mul _ _ _;have hmle:l.toNat*g.size<=m*g.size:=Kr _ bj;refine⟨b,o+l.toNat*g.size,R,Dz,by rw[Jj q];simp[Ln],U,Dz,V,λi j s v hi hs hv=> ?_⟩;refine LA c8 (y (l.toNat+i) j s v Dz hs ?_) (Jr.1 (M _ Dz).2 s (Jn hs));rwa[show o+(l.toNat+i)*g.size+j=o+l.toNat*g.size+i*g.size+j from by rw[Ma];omega]
end
def TN:List IntKind->List SV->Option (List Int)
 | [],[]=>some []
 |k::a,.int b n::r=>if k=b then(TN a r).map (n:: ·)else none
 |_,_=>none
def Xx:KT->SV->Option (List Int)
 |.int1 k,.int a n=>if k=a then some [n]else none
 |.ints c,.agg d=>TN c d
 |.str,.con (.string s)=>some (s.data.toList.map λb=>(b.toNat:Int))
 |_,_=>none
section
variable{w:World}{H:Nat->Prop}{μ:Mu}
theorem c4p:∀{ks:List IntKind} {cs:List SV} {q:List Int} {vs:List Value},TN ks cs=some q->vs.length=cs.length->(∀(i:Nat) (s:SV) (v:Value),cs[i]?=some s->vs[i]?=some v->D w H μ s v)->
 vs=IQ ks q/\q.length=ks.length:=by
 intro ks;induction ks with
 |nil=>
  intro cs q vs h hl _;match cs,h with
  | [],h=>simp[TN]at h;subst h;simp at hl;subst hl;exact⟨rfl,rfl⟩
  |s::_,h=>simp[TN]at h
 |cons k ks b=>
  intro cs q vs h hl a;match cs,h with
  | [],h=>simp[TN]at h
  |.int k' n::r,h=>
   simp only[TN]at h;split at h
   .rename_i e;subst e;simp only[Jq]at h;obtain⟨q',c,rfl⟩:=h;match vs,hl with
    |v::vs,hl=>
     have d:=a 0 _ v rfl rfl;cases d;obtain⟨f,g⟩:=b (vs:=vs) c Ef (λi s u hs hu=>a (i+1) s u G4 Fz);exact⟨by simp[IQ,<-f],by simp[g]⟩
   .cases h
  |.bool _::_,h|.con _::_,h|.own _ _::_,h|.osl _::_,h|.oel _ _ _ _::_,h|.sl _ _ _ _::_,h|.rel _ _ _ _ _::_,h|.agg _::_,h|.tup _::_,h|.clo _ _::_,h|.omp _::_,h|.mp _ _ _ _::_,h|.any::_,h=>simp[TN]at h
theorem c4x(s:ByteArray):g3x (s.data.toList.map λb=>(b.toNat:Int))=s:=by
 obtain⟨⟨l⟩⟩:=s;simp only[g3x,M5];congr 1;apply Mj;induction l with
 |nil=>rfl
 |cons a l c=>simp[c]
theorem b1p{K:KT}{s:SV}{v:Value}{q:List Int}(h:Xx K s=some q)(a:D w H μ s v):v=kv K q/\MC K q:=by
 unfold Xx at h;split at h
 .split at h
  .rename_i e;cases h;subst e;cases a;exact C7
  .cases h
 .cases a with
  |agg vs d f=>
   obtain⟨g,i⟩:=c4p h d f;exact⟨by rw[g];rfl,i⟩
 .cases a;simp only[Ka]at h;subst h;refine⟨by simp only[kv,c4x],λn c=> ?_⟩;simp only[Jx]at c;obtain⟨b,_,rfl⟩:=c;have:=b.toNat_lt;omega
 .cases h
end
section
variable{P:Program}{w:World}
theorem b8x{r:Nat}{K:KT}{k:Bool}{has:List Int->Bool}{g:List Int->List Value}{key:TypeId}(p:KLaw P key K)(h:MapAt w r K k has g){q:List Int}(s:MC K q):
 ∃d c,w.heap[r]?=some (.map d c)/\(∀e∈d.toList,∃q,e.key=kv K q/\MC K q/\has q=true/\e.val=IX k (g q))/\d.toList.Pairwise (λa b=>a.key≠b.key)/\(∀q,has q=true->MC K q/\∃e∈d.toList,e.key=kv K q)/\
  ∃x,(Instr.findKey key (kv K q) d.toList).run P w=.ok x w/\((x=none/\has q=false/\∀e∈d.toList,e.key≠kv K q)\/∃(j:Nat) (e:MapEntry),x=some (j,IX k (g q))/\has q=true/\d.toList[j]?=some e/\e.key=kv K q):=by
 obtain⟨d,c,y,l,t,z⟩:=h.ex;refine⟨d,c,y,l,z,t,?_⟩;obtain⟨x,A,hx⟩:=p.find w q d.toList s (λe m=>by obtain⟨f,n,o,_⟩:=l e m;exact⟨f,o,n⟩);refine⟨x,A,?_⟩;rcases hx with⟨rfl,u⟩|⟨j,e,rfl,v,i⟩
 .refine .inl ⟨rfl,?_,u⟩;cases hb:has q with
  |false=>rfl
  |true=>
   obtain⟨_,e,m,i⟩:=t q hb;exact absurd i (u e m)
 .obtain⟨f,n,o,B,C⟩:=l e (Jn v);have:f=q:=p.inj f q o s (n.symm.trans i);subst this;exact .inr ⟨j,e,by rw[C],B,v,i⟩
theorem b9v{r:Nat}{b:Array MapEntry}{a:Nat}(h:w.heap[r]?=some (.map b a)):(getObj r).run P w=.ok (.map b a) w:=by simp[getObj,Sem.run,h]
theorem b92{T key a:TypeId}{r:Nat}{K:KT}{c:Bool}{has:List Int->Bool}{g:List Int->List Value}{q:List Int}{ok:Bool}(i:P.underlying T=some (.map key a))(d:KLaw P key K)(h:MapAt w r K c has g)(f:MC K q)
 {z:Value} (k:has q=false->(zeroValue a).run P w=.ok z w):
 (Instr.lookup T (.map (some r)) (kv K q) ok).run P w=.ok (if ok then .tuple #[if has q then IX c (g q)else z,.bool (has q)]else if has q then IX c (g q)else z) w:=by
 obtain⟨l,clock,m,_,_,_,x,n,hx⟩:=b8x d h f;simp only[Instr.lookup,Iw,Kn i,b9v m,d.check w l.isEmpty q f,n];rcases hx with⟨rfl,b,_⟩|⟨j,e,rfl,b,_⟩
 .simp only[b,Iw,k b,J5]
 .simp only[b,Iw,L1]
def KV(has:List Int->Bool)(q:List Int):List Int->Bool:=λp=>decide (p=q)||has p
def putObj(w:World)(r:Nat)(o:Obj):World:={w with heap:=w.heap.setIfInBounds r o}
theorem b61{r:Nat}{o:Obj}(h:r<w.heap.size):(putObj w r o).heap[r]?=some o:=by simp[putObj,h]
theorem UA{r i:Nat}{o:Obj}(h:i≠r):(putObj w r o).heap[i]?=w.heap[i]?:=by simp[putObj,Ne.symm h]
theorem Xe{r:Nat}{o:Obj}:(putObj w r o).heap.size=w.heap.size:=by simp[putObj]
theorem b8a{r:Nat}{c:Array MapEntry}{a:Nat}{b:Obj}(h:w.heap[r]?=some (.map c a)):(setObj r b).run P w=.ok () (putObj w r b):=by simp[setObj,Sem.run,putObj,h]
theorem b3a{T key t:TypeId}{r:Nat}{K:KT}{k:Bool}{has:List Int->Bool}{g:List Int->List Value}{q:List Int}{us:List Value}{v:Value}(X:v=IX k us)(J:P.underlying T=some (.map key t))(y:KLaw P key K)(h:MapAt w r K k has g)(n:MC K q):
 ∃o,(Instr.mapUpdate T (.map (some r)) (kv K q) v).run P w=.ok () (putObj w r o)/\MapAt (putObj w r o) r K k (KV has q) (λp=>if p=q then us else g p):=by
 have L:=h.lt;obtain⟨d,c,z,M,B,C,x,N,hx⟩:=b8x y h n;subst X;rcases hx with⟨rfl,O,Q⟩|⟨j,e,rfl,O,hj,A⟩
 .refine⟨.map (d.push {key:=kv K q,val:=IX k us,born:=c}) (c+1),?_,⟨_,_,b61 L,λe f=> ?_,λp l=> ?_,?_⟩⟩
  .simp only[Instr.mapUpdate,Jd,Kn J,b9v z,y.check w false q n,N,b8a z]
  .simp only[Array.toList_push,K6,Kb]at f;rcases f with f|rfl
   .obtain⟨p,e1,e2,e3,e4⟩:=M e f;have:p≠q:=λE=>Q e f (by rw[e1,E]);exact Da
   .exact⟨q,rfl,n,by simp[KV],E2⟩
  .simp only[KV,Kp,Ju]at l;rcases l with rfl|l
   .exact⟨n,{key:=kv K p,val:=IX k us,born:=c},E2,rfl⟩
   .obtain⟨a,e,f,Y⟩:=C p l;exact⟨a,e,by simp[f],Y⟩
  .simp only[Array.toList_push];rw[List.pairwise_append];exact⟨B,List.pairwise_singleton _ _,λa Z b R=>by simp at R;subst R;exact Q a Z⟩
 .refine⟨.map (d.modify j λe=>{e with key:=kv K q,val:=IX k us}) c,?_,?_⟩
  .have bi:d[j]?=some e:=Er;have cy:=y.stays w q n;simp only[Instr.mapUpdate,Jd,Kn J,b9v z,y.check w false q n,N,bi,Ja,A,cy,b8a z]
  .have F:(d.modify j λe=>{e with key:=kv K q,val:=IX k us}).toList=d.toList.set j {e with key:=kv K q,val:=IX k us}:=by
    apply Mh;intro i;rw[Lk,M8,List.getElem?_set];have s:j<d.toList.length:=(Jk.1 hj).1;by_cases e1:j=i
    .subst e1;rw[Ji rfl,Ji rfl,Ji s,<-Lk,hj];rfl
    .rw[Jj e1,Jj e1,Lk]
   have S:(d.toList.set j {e with key:=kv K q,val:=IX k us}).map (·.key)=d.toList.map (·.key):=by
    apply Mh;intro i;rw[K9,K9,List.getElem?_set];have s:j<d.toList.length:=(Jk.1 hj).1;by_cases e1:j=i
    .subst e1;rw[Ji rfl,Ji s,hj];simp[A]
    .rw[Jj e1]
   have G:(d.toList.map (·.key)).Pairwise (· ≠ ·):=L2.2 B;refine⟨_,_,b61 L,λH f=> ?_,λp l=> ?_,?_⟩
   .rw[F]at f;obtain⟨i,hi,eg⟩:=Kg.1 f;have m:(d.toList.set j {e with key:=kv K q,val:=IX k us})[i]?=some H:=by rw[Jh hi,eg]
    rw[List.getElem?_set]at m;split at m
    .split at m
     .cases m;exact⟨q,rfl,n,by simp[KV],E2⟩
     .cases m
    .rename_i b9;obtain⟨p,e1,e2,e3,e4⟩:=M H (Jn m);have:p≠q:=λE=>by
      subst E;have U:i<d.toList.length:=(Jk.1 m).1;have s:j<d.toList.length:=(Jk.1 hj).1;have u:=Kx.1 B;have V:d.toList[i]=H:=(Jk.1 m).2;have W:d.toList[j]=e:=(Jk.1 hj).2;rcases Nat.lt_or_gt_of_ne b9 with I|I
      .exact u j i s U I (by rw[V,W,A];exact e1.symm)
      .exact u i j U s I (by rw[V,W,A];exact e1)
     exact Da
   .have Zn:MC K p/\∃e∈d.toList,e.key=kv K p:=by
     simp only[KV,Kp,Ju]at l;rcases l with rfl|l
     .exact C p O
     .exact C p l
    obtain⟨a,e0,f,n9⟩:=Zn;have:kv K p∈(d.toList.set j {e with key:=kv K q,val:=IX k us}).map (·.key):=by rw[S];exact Jx.2 ⟨e0,f,n9⟩
    obtain⟨e1,R0,jb⟩:=Jx.1 this;exact⟨a,e1,by rw[F];exact R0,jb⟩
   .rw[F];exact L2.1 (by rw[S];exact G)
end
def Py(ρ:Operand->Option SV):Option Operand->Option (Option SV)
 |none=>none
 |some x=>some (ρ x)
def d9p(E:Env)(own:List Blk)(ρ:Operand->Option SV)(c:Call):Option (Prop×SV):=
 match c.callee with
 |.builtin b=>(c.args.toList.mapM ρ).bind λa=>b6k E.P own b c.argTypes.toList a
 |_=>none
def d5g(own:List Blk):SV->Option (KT×Bool×(List Int->Bool)×(List Int->List SV))
 |.mp K b a val=>some (K,b,a,val)
 |.omp k=>match own[k]? with
  |some (.map K b a val)=>some (K,b,a,val)
  |_=>none
 |_=>none
def zAgg(P:Program)(T:TypeId):Option Bool:=(P.info? T).bind λi=>i.zero.map λz=>match z with
 |.agg _=>true
 |_=>false
def b4h(E:Env)(own:List Blk)(T:TypeId)(m i:SV)(ok:Bool):Option (Prop×SV):=
 match E.P.underlying T with
 |some (.map _ a)=>(d5g own m).bind λ(K,c,b,val)=>if E.kt T=some K/\JI E.P a=some c/\zAgg E.P a=some c then
  (Xx K i).bind λq=>(Vr E.P a (val q)).map λs=>(b q=false->PT E.P a=some (val q),if ok then .tup [s,.bool (b q)]else s)
  else none
 |_=>none
def zPtr(P:Program)(T:TypeId):Bool:=match (P.info? T).bind (·.zero)with
 |some (.pointer none)=>true
 |_=>false
def b6q(E:Env)(own:List Blk)(T:TypeId)(m i:SV)(ok:Bool):Option (Prop×SV):=
 match m with
 |.omp j=>match own[j]? with
  |some (.pmap K k b BU)=>match E.P.underlying T with
   |some (.map _ a)=>if E.kt T=some K/\JI E.P a=some false/\zPtr E.P a=true then
    (Xx K i).map λq=>(True,if ok then .tup [.fp (b q) k (BU q) 0,.bool (b q)]else .fp (b q) k (BU q) 0)else none
   |_=>none
  |_=>b4h E own T m i ok
 |_=>b4h E own T m i ok
def c5h(P:Program)(T:TypeId)(x i:SV):Option (Prop×SV):=
 match i with
 |.int _ n=>match P.underlying T with
  |some (.array len e)=>match x with
   |.agg b=>match DC P e with
    |some a=>if n.toNat<len/\b.length=len*a then(Vr P e ((b.drop (n.toNat*a)).take a)).map λs=>(0<=n,s)else none
    |none=>none
   |_=>none
  |some .string=>match x with
   |.con (.string s)=>some (0<=n/\n.toNat<s.size,.int .u8 (((s.data.toList.getD n.toNat 0).toNat:Nat):Int))
   |_=>none
  |_=>none
 |_=>none
def d72(P:Program)(own:List Blk)(b:BinOp)(T:TypeId):SV->SV->Option (Prop×SV)
 |.osl k,.con (.slice none 0 0)=>match own[k]?,P.underlying T with
  |some (.row _ _ n _ _),some (.slice _)=>match b with
   |.eql=>some (True,.ub (n=0) True)
   |.neq=>some (True,.ub True (n=0))
   |_=>none
  |_,_=>none
 |_,_=>none
def d83(E:Env)(own:List Blk)(ρ:Operand->Option SV)(h:Op):Option (Prop×SV):=
 match h with
 |.move x=>(ρ x).map λs=>(True,s)
 |.assign x=>(ρ x).map λs=>(True,s)
 |.nilCheck x=>match ρ x with
  |some (.own k o)=>some (True,.own k o)
  |some (.oel k e i o)=>some (True,.oel k e i o)
  |some (.rel e n f i o)=>some (True,.rel e n f i o)
  |some (.clo f g)=>some (True,.clo f g)
  |_=>none
 |.load T x=>(ρ x).bind λp=>VH E.P own T p
 |.fieldAddr T x f=>(ρ x).bind λp=>b28 E.P T f p
 |.field T x f=>(ρ x).bind λp=>c5z E.P T f p
 |.indexAddr T x i=>(ρ x).bind λp=>(ρ i).bind λn=>b26 E.P own T p n
 |.binOp b T x y _=>(ρ x).bind λs=>(ρ y).bind λt=>match d72 E.P own b T s t with
  |some r=>some r
  |none=>c87 E b T s t
 |.unOp u _ x=>(ρ x).bind λs=>evUn u s
 |.convert S T x=>(ρ x).bind λs=>d99 E.P S T s
 |.extract x i=>(ρ x).bind λs=>b5x s i
 |.build T a=>(a.toList.mapM λ(p:Nat×Operand)=>(ρ p.2).map λs=>(p.1,s)).bind λj=>c6f E.P T j
 |.slice T x l q v=>(ρ x).bind λs=>c5i E.P own T s (Py ρ l) (Py ρ q) (Py ρ v)
 |.makeFunc (.func f) first d=>if first.isEmpty then(d.toList.mapM ρ).map λg=>(True,.clo f g)else none
 |.call c=>d9p E own ρ c
 |.index T x i=>(ρ x).bind λs=>(ρ i).bind λt=>c5h E.P T s t
 |.lookup T m i w=>(ρ m).bind λs=>(ρ i).bind λt=>b6q E own T s t w
 |_=>none
section
variable{E:Env}{w:World}{μ:Mu}{B0:Nat}{X A:Nat->Prop}{own ownN:List Blk}{a:Act}{ρ:Operand->Option SV}
theorem Ur(b:∀(x:Operand) (s:SV),ρ x=some s->D w (held A μ) μ s (a.eval x)){xs:List Operand}{c:List SV}(h:xs.mapM ρ=some c):
 DL w (held A μ) μ c (xs.map a.eval):=by
 obtain⟨h1,g⟩:=PX h;refine⟨Es,λi s v hs d=> ?_⟩;simp only[Iy]at d;obtain⟨x,hx,rfl⟩:=d;obtain⟨y,f,e⟩:=g i x hx;rw[hs]at f;cases f;exact b x s e
theorem c08(q:Own B0 X A w μ ownN)(t:∀(k:Nat) (bl:Blk),own[k]?=some bl->ownN[k]?=some bl){b:Builtin}{ts:List TypeId}{ty:TypeId}{y:List SV}{vs:List Value}{s:SV}{f:Prop}{cs:Array Bool}
 (c:DL w (held A μ) μ y vs) (d:b6k E.P own b ts y=some (f,s)):∃r,(builtin b ts.toArray ty cs vs.toArray).run E.P w=.ok (.value r) w/\D w (held A μ) μ s r:=by
 unfold b6k at d;split at d
 .rename_i T x;split at d
  .rename_i e g;have i:=RA g;simp only[It]at d;obtain⟨n,j,rfl,rfl⟩:=d;match vs,c with
   | [v],c=>
     obtain⟨z,m,rfl,_,_⟩:=c4q q t (c.2 0 x v rfl rfl) j;refine⟨_,?_,.int⟩;simp[builtin,Builtin.len_,Kn i,goInt]
   | [],c=>exact absurd c.1 E2
   |_::_::_,c=>exact absurd c.1 E2
  .cases d
 .rename_i T x;split at d
  .rename_i e g;have i:=RA g;simp only[It]at d;obtain⟨n,j,rfl,rfl⟩:=d;match vs,c with
   | [v],c=>
     obtain⟨z,m,rfl⟩:=c6m q t (c.2 0 x v rfl rfl) j;refine⟨_,?_,.int⟩;simp[builtin,Builtin.cap_,Kn i,goInt]
   | [],c=>exact absurd c.1 E2
   |_::_::_,c=>exact absurd c.1 E2
  .cases d
 .rename_i k a B b;cases d;match vs,c with
  | [u,v],c=>
    have l:=c.2 0 _ u rfl rfl;have o:=c.2 1 _ v rfl rfl;cases l;cases o;refine⟨_,?_,.int⟩;simp[builtin,f1w]
  | [],c=>exact absurd c.1 E2
  | [_],c=>exact absurd c.1 E2
  |_::_::_::_,c=>exact absurd c.1 E2
 .rename_i k a B b;cases d;match vs,c with
  | [u,v],c=>
    have l:=c.2 0 _ u rfl rfl;have o:=c.2 1 _ v rfl rfl;cases l;cases o;refine⟨_,?_,.int⟩;simp[builtin,f4j]
  | [],c=>exact absurd c.1 E2
  | [_],c=>exact absurd c.1 E2
  |_::_::_::_,c=>exact absurd c.1 E2
 .cases d
theorem c5r{P:Program}{H:Nat->Prop}{T:TypeId}{x i s:SV}{v u:Value}{c:Prop}(hx:D w H μ x v)(hi:D w H μ i u)(b:c5h P T x i=some (c,s))(o:c):∃r,(Instr.index T v u).run P w=.ok r w/\D w H μ s r:=by
 unfold c5h at b;split at b;rotate_left
 .cases b
 rename_i k n;cases hi;split at b
 .rename_i len e f;split at b;rotate_left
  .cases b
  rename_i cs;split at b;rotate_left
  .cases b
  rename_i sz q;split at b;rotate_left
  .cases b
  rename_i A;obtain⟨B,hl⟩:=A;simp only[It]at b;obtain⟨C,hs,rfl,rfl⟩:=b;simp only[DC,Jq]at q;obtain⟨a,t,rfl⟩:=q;cases hx with
  |agg j wk E=>
   have pn:n.toNat*a.size+a.size<=len*a.size:=by rw[<-N5];exact Kr _ B
   obtain⟨d,y,h⟩:=b0a (w:=w) (H:=H) (μ:=μ) (us:=(j.drop (n.toNat*a.size)).take a.size) hs Eb (λi s u hs f=>E _ _ _ (HZ hs).2 (HZ f).2);have g:IJ d=false->a.size=1:=λz=>by
    rcases h with h|⟨_,u,l,_⟩
    .rw[h.1]at z;cases z
    .have:=Mj List.length l;simp at this;omega
   have F:=Ux (w:=w) y t j (n.toNat*a.size) Dz g;have G:D w H μ C (IA P e ((j.drop (n.toNat*a.size)).take a.size)):=by
    unfold IA JI;rw[y];rcases h with⟨m,h⟩|⟨m,u,l,h⟩
    .simp only[Ja,m,L1];exact h
    .simp only[Ja,m,J5,l,List.getD_cons_zero];exact h
   refine⟨_,?_,G⟩;have I:n<(len:Int):=Dz;have J:(0<=n/\n<(len:Int)):=⟨o,I⟩
   simp only[Instr.index,Iw,asIntOf,Kn f];rw[Ji J];simp only[Jd,IP (w:=w) t,F]
 .rename_i f;split at b;rotate_left
  .cases b
  rename_i s;simp only[Iv]at b;obtain⟨rfl,rfl⟩:=b;cases hx;obtain⟨K,g⟩:=o;refine⟨_,?_,.int⟩;have L:s[n.toNat]?=some s[n.toNat]:=getElem?_pos s n.toNat g;simp only[Instr.index,Iw,asIntOf,Kn f];rw[Ji K,L,Sem.run_pure];congr 1;have:s[n.toNat]=s.data.toList.getD n.toNat 0:=by
   have M:n.toNat<s.data.toList.length:=by rw[Ls];exact g
   rw[Jg,Jh M];rfl
  rw[this]
 .cases b
theorem c5d(j:Own B0 X A w μ ownN)(l:∀(k:Nat) (bl:Blk),own[k]?=some bl->ownN[k]?=some bl){s:SV}{v:Value}(a:D w (held A μ) μ s v){K:KT}{f:Bool}{has:List Int->Bool}{val:List Int->List SV}(h:d5g own s=some (K,f,has,val)):
 ∃r g,v=.map (some r)/\MapAt w r K f has g/\(∀q,has q=true->(g q).length=(val q).length/\(val q).all SV.pure=true)/\∀(q:List Int) (i:Nat) (s:SV) (v:Value),has q=true->(val q)[i]?=some s->(g q)[i]?=some v->D w (held A μ) μ s v:=by
 cases a with
 |mp r g hb b c a=>
  simp only[d5g,Iv]at h;obtain⟨rfl,rfl,rfl,rfl⟩:=h;exact⟨r,g,rfl,b,c,a⟩
 |omp d=>
  simp only[d5g]at h;split at h
  .rename_i m;simp only[Iv]at h;obtain⟨rfl,rfl,rfl,rfl⟩:=h;obtain⟨bl,e,n⟩:=j.blk _ _ d;rw[l _ _ m]at e;cases e;obtain⟨r,g,o,b,c,a⟩:=n;cases o;exact⟨r,g,rfl,b,c,a⟩
  .cases h
 |_=>simp[d5g]at h
theorem b4b(U:EnvOK E)(V:Own B0 X A w μ ownN)(W:∀(k:Nat) (bl:Blk),own[k]?=some bl->ownN[k]?=some bl){T:TypeId}{m i s:SV}{ok:Bool}{v u:Value}{f:Prop}(Y:D w (held A μ) μ m v)(hi:D w (held A μ) μ i u)
 (b:b4h E own T m i ok=some (f,s)) (Z:f):∃r,(Instr.lookup T v u ok).run E.P w=.ok r w/\D w (held A μ) μ s r:=by
 unfold b4h at b;split at b;rotate_left
 .cases b
 rename_i ky j N;simp only[Js]at b;obtain⟨⟨K,c,a,val⟩,G,b⟩:=b;simp only at b;split at b;rotate_left
 .cases b
 rename_i hc;obtain⟨zt,y,l⟩:=hc;simp only[Js,It]at b;obtain⟨q,hq,s0,O,rfl,rfl⟩:=b;obtain⟨r,g,rfl,td,hl,hd⟩:=c5d V W Y G;obtain⟨ky',elem',Q,nf⟩:=U.kt T K zt;rw[N]at Q;cases Q;obtain⟨rfl,pt⟩:=b1p hq hi;have dn:∃x,(a q=true->x=IX c (g q))/\(a q=false->(zeroValue j).run E.P w=.ok x w)/\D w (held A μ) μ s0 x:=by
  cases n:a q with
  |true=>
   refine⟨IX c (g q),λ_=>rfl,λh=>E9,?_⟩;obtain⟨d,e,h|h⟩:=b0a (w:=w) (H:=held A μ) (μ:=μ) (us:=g q) O (hl q n).1 (λi s u hs e=>hd q i s u n hs e)
   .have:c=true:=by simpa[JI,e,h.1]using y.symm
    rw[this];exact h.2
   .obtain⟨I,u,B,J⟩:=h;have:c=false:=by simpa[JI,e,I]using y.symm
    rw[this,B];exact J
  |false=>
   obtain⟨inf,C,L,M,hze,R⟩:=TF (w:=w) (H:=held A μ) (μ:=μ) (Z n);refine⟨C,λh=>E9,λ_=>WI L M,?_⟩;obtain⟨d,e,h|h⟩:=b0a (w:=w) (H:=held A μ) (μ:=μ) (us:=C.cells.toList) O R.1 R.2
   .have h2:=h.2;have:c=true:=by simpa[JI,e,h.1]using y.symm
    subst this;cases C<;>simp[zAgg,L,M]at l
    simpa[Value.cells]using h2
   .obtain⟨I,u,B,J⟩:=h;have:c=false:=by simpa[JI,e,I]using y.symm
    subst this;cases C<;>simp[zAgg,L,M]at l
    all_goals
     simp only[Value.cells,J9]at B;subst B;exact J
 obtain⟨x,w9,s8,o⟩:=dn;have S:=b92 (w:=w) (ok:=ok) N nf td pt (z:=x) s8;have t:(if a q then IX c (g q)else x)=x:=by
  cases n:a q with
  |true=>simp[w9 n]
  |false=>simp
 rw[t]at S;refine⟨_,S,?_⟩;cases ok with
 |true=>
  refine .tup [x,.bool (a q)] rfl (λi s v hs F=> ?_);match i with
  |0=>simp at hs F;subst hs F;exact o
  |1=>simp at hs F;subst hs F;exact .bool
  |i+2=>simp at hs
 |false=>exact o
theorem c1w(o:EnvOK E)(t:Own B0 X A w μ ownN)(x:∀(k:Nat) (bl:Blk),own[k]?=some bl->ownN[k]?=some bl){T:TypeId}{m i s:SV}{ok:Bool}{v u:Value}{c:Prop}(y:D w (held A μ) μ m v)(hi:D w (held A μ) μ i u)
 (a:b6q E own T m i ok=some (c,s)) (F:c):∃r,(Instr.lookup T v u ok).run E.P w=.ok r w/\D w (held A μ) μ s r:=by
 unfold b6q at a;split at a;rotate_left
 .exact b4b o t x y hi a F
 rename_i j;split at a;rotate_left
 .exact b4b o t x y hi a F
 rename_i K k b BU I;split at a;rotate_left
 .cases a
 rename_i ky d G;split at a;rotate_left
 .cases a
 rename_i J;obtain⟨L,tc,B⟩:=J;simp only[It]at a;obtain⟨q,M,rfl,rfl⟩:=a;obtain⟨ky',elem',H,N⟩:=o.kt T K L;rw[G]at H;cases H;obtain⟨rfl,O⟩:=b1p M hi;cases y with
 |omp C=>
 obtain⟨bl,e,Q⟩:=t.blk _ _ C;rw[x _ _ I]at e;cases e;obtain⟨_,r,g,R,S,U⟩:=Q;cases R;have l:(E.P.info? d).bind (·.zero)=some (.pointer none):=by
  unfold zPtr at B;split at B
  .assumption
  .cases B
 simp only[Js]at l;obtain⟨inf,V,l⟩:=l;have W:=b92 (w:=w) (ok:=ok) G N S O (z:=.pointer none) (λ_=>WI V l);refine⟨_,W,?_⟩;have f:D w (held A μ) μ (.fp (b q) k (BU q) 0) (if b q then IX false (g q)else .pointer none):=by
  cases hh:b q with
  |true=>
   obtain⟨p,e,h⟩:=U q hh;simp only[L1,IX,e,J5,List.getD_cons_zero];exact h
  |false=>
   simp only[J5];exact .fp rfl
 cases ok with
 |true=>
  refine .tup [_,.bool (b q)] rfl (λi s v hs n=> ?_);match i with
  |0=>simp at hs n;subst hs n;exact f
  |1=>simp at hs n;subst hs n;exact .bool
  |i+2=>simp at hs
 |false=>exact f
theorem d64(V:EnvOK E)(I:Own B0 X A w μ ownN)(J:∀(k:Nat) (bl:Blk),own[k]?=some bl->ownN[k]?=some bl)(g:∀(x:Operand) (s:SV),ρ x=some s->D w (held A μ) μ s (a.eval x)){o:Oper}{s:SV}{z:Prop}
 (d:d83 E own ρ o.op=some (z,s)) (B:z):∃r,(execOp a.eval o).run E.P w=.ok (.value r) w/\D w (held A μ) μ s r:=by
 obtain⟨dst,op,K,pos,after,guard⟩:=o;simp only at d;unfold d83 at d;split at d
 .simp only[It]at d;obtain⟨t,L,rfl,rfl⟩:=d;exact⟨_,by simp[execOp],g _ _ L⟩
 .simp only[It]at d;obtain⟨t,L,rfl,rfl⟩:=d;exact⟨_,by simp[execOp],g _ _ L⟩
 .rename_i x;split at d<;>try cases d
  all_goals
   have R:=g _ _ E5;refine⟨_,?_,R⟩;generalize hv:a.eval x=v at R;cases R;simp[execOp,hv]
 .simp only[Js]at d;obtain⟨p,hx,d⟩:=d;obtain⟨u,h1,h2⟩:=b3y I J (g _ _ hx) d B;exact C4
 .simp only[Js]at d;obtain⟨p,hx,d⟩:=d;obtain⟨u,h1,h2⟩:=b7i (w:=w) (g _ _ hx) d;exact C4
 .simp only[Js]at d;obtain⟨p,hx,d⟩:=d;obtain⟨u,h1,h2⟩:=c6b (w:=w) (g _ _ hx) d;exact C4
 .simp only[Js]at d;obtain⟨p,hx,n,M,d⟩:=d;obtain⟨u,h1,h2⟩:=b5u I J (g _ _ hx) (g _ _ M) d B;exact C4
 .rename_i b T x y t;simp only[Js]at d;obtain⟨W,hx,Y,C,d⟩:=d;have d:d72 E.P own b T W Y=some (z,s)\/c87 E b T W Y=some (z,s):=by
   split at d
   .rename_i r G;cases d;exact .inl G
   .exact .inr d
  obtain⟨u,h1,h2⟩:∃r,(do eqGuard b T x y (a.eval x) (a.eval y);binOp b T (a.eval x) (a.eval y)).run E.P w=.ok r w/\D w (held A μ) μ s r:=by
   rcases d with d|d;rotate_left
   .exact d2i V (xo:=x) (yo:=y) (g _ _ hx) (g _ _ C) d B
   .have Z:=g _ _ hx;have d2:=g _ _ C;generalize a.eval x=v1 at Z⊢;generalize a.eval y=v2 at d2⊢;unfold d72 at d;split at d;rotate_left
    .cases d
    split at d;rotate_left
    .cases d
    rename_i hk hu;cases d2;cases Z with
    | @osl k n0 m0 S h=>
    obtain⟨bl,e,ba⟩:=I.blk _ _ h;rw[J _ _ hk]at e;cases e;obtain⟨a',m',O,U,_,_,_,G⟩:=ba;simp only[Value.slice.injEq]at O;obtain⟨ea,en,em⟩:=O;rw[<-ea]at G;rw[<-em]at U G;have hz:S=none->∀{q:Nat},q<=m0->q=0:=λe q hq=>by
     rcases G with G|⟨b,o,vs,c9,e2,_⟩
     .omega
     .rw[e]at e2;cases e2
    split at d
    .cases d;exact⟨_,b29 hu x y _ _ _,.ub (λe=>hz (by cases S<;>first|rfl|cases e) U) (λ_=>Jm)⟩
    .cases d;exact⟨_,b2e hu x y _ _ _,.ub (λ_=>Jm) (λe=>hz (by cases S<;>first|rfl|cases e) U)⟩
    .cases d
  refine⟨u,?_,h2⟩;simp only[execOp];rw[Lh,h1];simp
 .simp only[Js]at d;obtain⟨p,hx,d⟩:=d;obtain⟨u,h1,h2⟩:=f0d (P:=E.P) (g _ _ hx) d B;exact C4
 .simp only[Js]at d;obtain⟨p,hx,d⟩:=d;obtain⟨u,h1,h2⟩:=d2e (g _ _ hx) d B;exact C4
 .simp only[Js]at d;obtain⟨p,hx,d⟩:=d;obtain⟨u,h1,h2⟩:=c02 (P:=E.P) (g _ _ hx) d;exact C4
 .rename_i T l;simp only[Js]at d;obtain⟨ps,V5,d⟩:=d;obtain⟨l1,l2⟩:=PX V5;obtain⟨u,h1,h2⟩:=c6e (w:=w) (H:=held A μ) (μ:=μ) (ps:=l.toList.map λp=>(p.1,a.eval p.2)) d (by simp[l1]) (λi j s hs=>by
   have b6:i<l.toList.length:=Gn;obtain⟨y,C,e⟩:=l2 i _ (Jh b6);rw[hs]at C;cases C;simp only[It]at e;obtain⟨t,L,O,rfl⟩:=e;refine⟨a.eval (l.toList[i]).2,?_,g _ _ L⟩;rw[K9,Jh b6,<-O];rfl)
  refine⟨u,?_,h2⟩;have N:(l.map λ(p:Nat×Operand)=>(p.1,a.eval p.2))=(l.toList.map λp=>(p.1,a.eval p.2)).toArray:=by apply Array.ext';simp
  simp only[execOp,N];rw[Lh,h1];simp
 .rename_i T x lo hi mx;simp only[Js]at d;obtain⟨p,hx,d⟩:=d;have F:∀o:Option Operand,DO w (held A μ) μ (Py ρ o) (o.map a.eval):=by
   intro o;cases o with
   |none=>simp[DO,Py]
   |some y=>
    simp only[Py,Ks];cases C:ρ y with
    |none=>simp[DO]
    |some t=>simpa[DO]using g _ _ C
  obtain⟨u,h1,h2⟩:=c5j (w:=w) (H:=held A μ) (μ:=μ) (g _ _ hx) (F lo) (F hi) (F mx) d B;exact C4
 .rename_i f first m
  split at d;rotate_left
  .cases d
  rename_i hf;simp only[It]at d;obtain⟨cs,fm,rfl,rfl⟩:=d;have Q:=Ur (a:=a) g fm;have vn:first= #[]:=by simpa using hf
  refine⟨.func (.func f) #[] (m.toList.map a.eval).toArray,?_,.clo _ Q.1 Q.2⟩;have N:m.map a.eval=(m.toList.map a.eval).toArray:=F7;simp only[execOp,Instr.makeFunc,vn,N];simp
 .rename_i c;unfold d9p at d;split at d
  .rename_i b hb;simp only[Js]at d;obtain⟨xs,jm,d⟩:=d;have Q:=Ur (a:=a) g jm;obtain⟨u,h1,h2⟩:=c08 (ts:=c.argTypes.toList) (ty:=K) (cs:=c.args.map fun|.const _=>true|_=>false) I J Q d;refine⟨u,?_,h2⟩;have N:c.args.map a.eval=(c.args.toList.map a.eval).toArray:=F7;simp only[execOp,resolve,hb,Iw,invoke,N];rw[show c.argTypes.toList.toArray=c.argTypes from E2]at h1;exact h1
  .cases d
 .simp only[Js]at d;obtain⟨p,hx,n,M,d⟩:=d;obtain⟨u,h1,h2⟩:=c5r (w:=w) (g _ _ hx) (g _ _ M) d B;exact C4
 .simp only[Js]at d;obtain⟨p,hx,n,M,d⟩:=d;obtain⟨u,h1,h2⟩:=c1w V I J (g _ _ hx) (g _ _ M) d B;exact C4
 .cases d
end
structure Entry where
 slot:Nat
 guard:Option (Nat×Bool)
 sv:SV
structure St where
 ρ:List Entry
 own:List Blk
def CO(t:Nat):List Entry->Option Entry
 | []=>none
 |e::r=>if e.slot=t then some e else CO t r
def CP(E:Env)(ρ:List Entry)(g:Option (Nat×Bool)):Operand->Option SV
 |.tmp t=>match CO t ρ with
  |some e=>match e.guard with
   |none=>some e.sv
   |some q=>if g=some q then some e.sv else none
  |none=>none
 |.const v=>some (g22 v)
 |.global n=>E.glob n
 |.func f=>some (.clo f [])
def VO(d:Nat)(e:Entry):Entry:=match e.guard with
 |some (g,_)=>if g=d then {e with guard:=none,sv:=.any}else e
 |none=>e
def LG(d:Option Nat)(g:Option (Nat×Bool))(s:SV)(ρ:List Entry):List Entry:=match d with
 |none=>ρ
 |some d=>⟨d,g,s⟩::(if ρ.any (λe=>match e.guard with|some (q,_)=>q==d|none=>false)then ρ.map (VO d)else ρ)
def VL(k:List Nat)(ρ:List Entry):List Entry:=ρ.map λe=>{e with sv:=e.sv.kill2 k}
def DE(w:World)(H:Nat->Prop)(μ:Mu)(tmps:Array Value)(e:Entry):Prop:=
 match e.guard with
 |none=>D w H μ e.sv (tmps.getD e.slot undef)
 |some (g,b)=>(tmps.getD g undef=.bool b->D w H μ e.sv (tmps.getD e.slot undef))/\(tmps.getD g undef≠.bool b->tmps.getD e.slot undef=undef)
def El(w:World)(H:Nat->Prop)(μ:Mu)(tmps:Array Value)(ρ:List Entry):Prop:=∀t e,CO t ρ=some e->DE w H μ tmps e
structure SD (E:Env) (B0:Nat) (X A:Nat->Prop) (w0:World) (nt:Nat) (st:St) (a:Act) (w:World) (μ:Mu):Prop where
 own:Own B0 X A w μ st.own
 fr:Fr B0 X w0 w
 base:B0<=w.heap.size
 glo:∀g s,E.glob g=some s->s.pure=true/\D w (held A μ) μ s (.pointer (some ⟨g,0,none⟩))
 dfr:a.defers=[]
 size:a.tmps.size=nt
 env:El w (held A μ) μ a.tmps st.ρ
 fresh:∀k,st.own.length<=k->μ k=none
 anc:∀k x,E.an k=some x->μ k=some x
theorem NK{t:Nat}{ρ:List Entry}{e:Entry}(h:CO t ρ=some e):e.slot=t:=by
 induction ρ with
 |nil=>simp[CO]at h
 |cons x r a=>
  simp only[CO]at h;split at h
  .cases h;assumption
  .exact a h
theorem VS{t:Nat}{f:Entry->Entry}(a:∀e,(f e).slot=e.slot)(ρ:List Entry):CO t (ρ.map f)=(CO t ρ).map f:=by
 induction ρ with
 |nil=>rfl
 |cons x r b=>
  simp only[L4,CO,a];split<;>simp[b]
theorem c5a(d:Nat)(e:Entry):(VO d e).slot=e.slot:=by unfold VO;split<;>(try split)<;>rfl
section
variable{w w':World}{H H':Nat->Prop}{μ μ':Mu}{tmps:Array Value}{ρ:List Entry}
theorem El.keep(a:Keeps w w' H H' μ μ')(h:El w H μ tmps ρ):El w' H' μ' tmps ρ:=by
 intro t e b;have:=h t e b;unfold DE at this⊢;split at this
 .exact this.keep a
 .exact⟨λc=>(this.1 c).keep a,this.2⟩
theorem El.change{k:List Nat}(a:Keeps' k w w' H H' μ μ')(h:El w H μ tmps ρ):El w' H' μ' tmps (VL k ρ):=by
 intro t e b;rw[VL,VS (f:=λ(e:Entry)=>{e with sv:=e.sv.kill2 k}) (λ_=>rfl),Jq]at b;obtain⟨c,d,rfl⟩:=b;have:=h t c d;unfold DE at this⊢;simp only;split at this
 .exact b42 a this
 .exact⟨λg=>b42 a (this.1 g),this.2⟩
theorem NX{tmps:Array Value}{d t:Nat}{v:Value}(a:d<tmps.size):(tmps.setIfInBounds d v).getD t undef=if t=d then v else tmps.getD t undef:=by
 by_cases e:t=d
 .subst e;simp[a]
 .simp[e,Mf (Ne.symm e)]
theorem El.put(h:El w H μ tmps ρ){d:Nat}(j:d<tmps.size){g:Option (Nat×Bool)}{s:SV}{v:Value}(_:∀q b,g=some (q,b)->q≠d)
 (m:DE w H μ (tmps.setIfInBounds d v) ⟨d,g,s⟩):El w H μ (tmps.setIfInBounds d v) (LG (some d) g s ρ):=by
 have c:∀t e,t≠d->CO t ρ=some e->DE w H μ (tmps.setIfInBounds d v) (VO d e):=by
  intro t e f a;have hs:=NK a;have:=h t e a;unfold VO;split
  .rename_i q b i;split
   .unfold DE;exact .any
   .rename_i k;unfold DE at this⊢;rw[i]at this⊢;simp only at this⊢;rw[NX j,NX j,Jj k,Jj (by rw[hs];exact f)];exact this
  .rename_i i;unfold DE at this⊢;rw[i]at this⊢;simp only at this⊢;rw[NX j,Jj (by rw[hs];exact f)];exact this
 intro t e a;simp only[LG,CO]at a;split at a
 .cases a;exact m
 .rename_i f;split at a
  .rw[VS (c5a d),Jq]at a;obtain⟨n,o,rfl⟩:=a;exact c t n (Ne.symm f) o
  .rename_i l;have:=c t e (Ne.symm f) a;have p:VO d e=e:=by
    unfold VO;split
    .rename_i q b i;split
     .rename_i k;exfalso;apply l;rw[K1];have u:e∈ρ:=by
       clear l c this h;induction ρ with
       |nil=>simp[CO]at a
       |cons x r y=>
        simp only[CO]at a;split at a
        .cases a;simp
        .exact Kd _ (y a)
      exact⟨e,u,by rw[i];simpa using k⟩
     .rfl
    .rfl
   rwa[p]at this
theorem Re{E:Env}{a:Act}{g:Option (Nat×Bool)}(k:∀n s,E.glob n=some s->D w H μ s (.pointer (some ⟨n,0,none⟩)))(l:El w H μ a.tmps ρ)
 (m:∀q b,g=some (q,b)->a.tmps.getD q undef=.bool b):∀(x:Operand) (s:SV),CP E ρ g x=some s->D w H μ s (a.eval x):=by
 intro x s h;cases x with
 |tmp t=>
  simp only[CP]at h;split at h
  .rename_i e j;have hs:=NK j;have c:=l t e j;unfold DE at c;split at h
   .rename_i o;cases h;rw[o]at c;simp only at c;rw[hs]at c;exact c
   .rename_i q r;split at h
    .rename_i d;cases h;rw[r]at c;obtain⟨u,y⟩:=q;simp only at c;have:=c.1 (m u y d);rw[hs]at this;exact this
    .cases h
  .cases h
 |const v=>simp only[CP,Ka]at h;subst h;exact f9s v
 |global n=>exact k n s h
 |func f=>simp only[CP,Ka]at h;subst h;exact .clo [] rfl (λi s v h _=>Ec)
end
def SV.ro00(own:List Blk):SV->SV
 |.osl k=>match own[k]? with
  |some (.row _ b n f c)=>.sl b n f c
  |_=>.any
 |.omp k=>match own[k]? with
  |some (.map K d a val)=>.mp K d a val
  |_=>.any
 |.own _ _|.oel _ _ _ _|.agg _|.tup _|.fp _ _ _ _=>.any
 |.clo f e=>if e.isEmpty then .clo f []else .any
 |s=>s
def SV.ro0(own:List Blk):SV->SV
 |.own k a=>match own[k]? with
  |some (.cells _ b)=>.rel b.length 1 (λ_=>b.map (SV.ro00 own)) 0 a
  |_=>.any
 |s=>s.ro00 own
def SV.ro1(own:List Blk):SV->Option SV
 |.osl k=>match own[k]? with
  |some (.row _ e n f c)=>some (.sl e n f c)
  |_=>none
 |.omp k=>match own[k]? with
  |some (.map K g b val)=>some (.mp K g b val)
  |_=>none
 |.own k d=>match own[k]? with
  |some (.cells _ a)=>some (.rel a.length 1 (λ_=>a.map (SV.ro0 own)) 0 d)
  |_=>none
 |.oel _ _ _ _|.agg _|.tup _|.fp _ _ _ _|.any=>none
 |.clo f a=>if a.isEmpty then some (.clo f [])else none
 |s=>some s
def SV.ro(own:List Blk):SV->Option SV
 |.clo f a=>(a.mapM (SV.ro1 own)).map (.clo f)
 |s=>s.ro1 own
def SV.roA(own:List Blk):SV->Option SV
 |.agg a=>(a.mapM (SV.ro own)).map .agg
 |s=>s.ro own
def SV.isOsl0:SV->Bool
 |.osl _|.omp _|.own _ _=>true
 |_=>false
def SV.isOsl:SV->Bool
 |.clo _ a=>a.any SV.isOsl0
 |s=>s.isOsl0
def SV.hasOsl:SV->Bool
 |.agg a=>a.any SV.isOsl
 |s=>s.isOsl
def SV.flat0:SV->Bool
 |.int _ _|.bool _|.con _=>true
 |.clo _ a=>a.isEmpty
 |_=>false
def SV.flat1:SV->Bool
 |.agg a=>a.all SV.flat0
 |s=>s.flat0
def SV.flat2:SV->Bool
 |.tup a=>a.all SV.flat1
 |s=>s.flat1
section
variable{w:World}{H H':Nat->Prop}{μ μ':Mu}
theorem YH{s:SV}{v:Value}{w':World}(a:s.flat0=true)(h:D w H μ s v):D w' H' μ' s v:=by
 cases h<;>simp[SV.flat0]at a
 .exact .int
 .exact .bool
 .exact .con
 .rename_i vs hl hd;subst a;exact Cd
theorem d4a{s:SV}{v:Value}{w':World}(a:s.flat1=true)(h:D w H μ s v):D w' H' μ' s v:=by
 unfold SV.flat1 at a;split at a
 .cases h with
  |agg b c d=>exact .agg b c (λi s v hs e=>YH (Jr.1 a s (Jn hs)) (d i s v hs e))
 .exact YH a h
theorem f9h{s:SV}{v:Value}{w':World}(a:s.flat2=true)(h:D w H μ s v):D w' H' μ' s v:=by
 unfold SV.flat2 at a;split at a
 .cases h with
  |tup b c d=>exact .tup b c (λi s v hs e=>d4a (Jr.1 a s (Jn hs)) (d i s v hs e))
 .exact d4a a h
theorem GW(hH:∀b,H' b->H b){s:SV}{v:Value}(h:D w H μ s v):s.pure=true->D w H' μ' s v:=by
 induction h with
 |int=>exact λ_=>.int
 |bool=>exact λ_=>.bool
 |con=>exact λ_=>.con
 |own h=>intro hp;simp[SV.pure,SV.pure0]at hp
 |osl h=>intro hp;simp[SV.pure,SV.pure0]at hp
 |oel h=>intro hp;simp[SV.pure,SV.pure0]at hp
 |omp h=>intro hp;simp[SV.pure,SV.pure0]at hp
 |fp h=>intro hp;simp[SV.pure,SV.pure0]at hp
 |mp r g hb hm hl c ih=>
  exact Db
 |sl a b o m g hm hx d b7 hl c ih=>
  exact λ_=>.sl a b o m g hm hx d (λf=>by obtain⟨e,hb,k⟩:=b7 f;exact⟨e,λhh=>hb (hH _ hh),k⟩) hl (λi j s hi hs=>ih i j s hi hs (Jr.1 (hl i hi).2 s (Jn hs)))
 |rel b o g hi hb b7 hl c ih=>
  exact Dc
 |agg vs hl c ih=>intro hp;simp[SV.pure,SV.pure0]at hp
 |tup vs hl c ih=>intro hp;simp[SV.pure,SV.pure0]at hp
 |clo vs hl c ih=>
  exact Ct
 |ub l n=>exact λ_=>.ub l n
 |any=>exact λ_=>.any
theorem IK(hH:∀b,H' b->H b){s:SV}{v:Value}(h:D w H μ s v):s.pure=true->D w H' μ' s v:=by
 induction h with
 |int=>exact λ_=>.int
 |bool=>exact λ_=>.bool
 |con=>exact λ_=>.con
 |own h=>intro hp;simp[SV.pure,SV.pure0]at hp
 |osl h=>intro hp;simp[SV.pure,SV.pure0]at hp
 |oel h=>intro hp;simp[SV.pure,SV.pure0]at hp
 |omp h=>intro hp;simp[SV.pure,SV.pure0]at hp
 |fp h=>intro hp;simp[SV.pure,SV.pure0]at hp
 |mp r g hb hm hl c ih=>
  exact Db
 |sl a b o m g hm hx d b7 hl c ih=>
  exact λ_=>.sl a b o m g hm hx d (λf=>by obtain⟨e,hb,k⟩:=b7 f;exact⟨e,λhh=>hb (hH _ hh),k⟩) hl (λi j s hi hs=>ih i j s hi hs (Jr.1 (hl i hi).2 s (Jn hs)))
 |rel b o g hi hb b7 hl c ih=>
  exact Dc
 |agg vs hl c ih=>intro hp;simp[SV.pure,SV.pure0]at hp
 |tup vs hl c ih=>intro hp;simp[SV.pure,SV.pure0]at hp
 |clo vs hl c ih=>
  exact Ct
 |ub l n=>exact λ_=>.ub l n
 |any=>exact λ_=>.any
end
def BT:Mu:=λ_=>none
def c9w(P:Program)(glob:Nat->Option SV)(f:FuncId)(c:List SV->Option (Prop×SV)):Prop:=
 (∃fn,P.funcs[f]?=some fn/\(fn.name== "runtime.NumGoroutine")=false/\fn.body.isNone=false)/\
 ∀(A:Nat->Prop) (w:World) (args:List SV) (vals:List Value) (pre:Prop) (s:SV),(∀b,A b->b<w.heap.size)->(∀g t,glob g=some t->t.pure=true/\D w A BT t (.pointer (some ⟨g,0,none⟩)))->
  DL w A BT args vals->c args=some (pre,s)->pre->
  Calls P f vals.toArray w λe w'=>∃v,e=.returned v/\D w' A BT s v/\Fr w.heap.size (λ_=>False) w w'
section
variable{E:Env}{w:World}{μ:Mu}{B0:Nat}{X A:Nat->Prop}{own ownN:List Blk}
theorem c7q(l:Own B0 X A w μ ownN)(v:∀(k:Nat) (bl:Blk),own[k]?=some bl->ownN[k]?=some bl){g:Nat->Prop}(x:∀b,g b->held A μ b)(y:∀b,g b->A b){k n m:Nat}{a:Option Addr}(h:μ k=some (.slice a n m)){T:TypeId}{sz q:Nat}{f:Nat->List SV}{c:Option Nat}
 (z:own[k]?=some (.row T sz q f c)):D w g BT (.sl sz q f c) (.slice a n m):=by
 obtain⟨bl,e,B⟩:=l.blk _ _ h;rw[v _ _ z]at e;cases e;obtain⟨a',m',C,hn,hm,hc,hl,E⟩:=B;cases C;rcases E with rfl|⟨b,o,r,F,rfl,t,ho,h1,G⟩
 .exact Cv
 .have H:¬g b:=λI=>(l.rng _ _ b h (KG F)).2.1 (y b I);have u:∀i j,i<n->j<sz->o+i*sz+j<r.length:=λi j hi d=>by
   have:=LO hi d;have:n*sz<=m*sz:=Kr _ hn;omega
  refine .sl _ b o m (λi j=>r.getD (o+i*sz+j) undef) hn hm hc (λ_=>⟨rfl,H,Pz t,λi j hi d=> ?_⟩) hl (λi j s hi hs=> ?_)
  .have:=u i j hi d;rw[TM t,Jh this];simp only[J8,Jh this];exact Cw
  .have d:j<sz:=Gh;have:=u i j hi d;simp only[J8,Jh this];exact GW x (G i j s _ hi hs (Jh this)) (Jr.1 (hl i hi).2 s (Jn hs))
theorem c8b(c:Own B0 X A w μ ownN)(m:∀(k:Nat) (bl:Blk),own[k]?=some bl->ownN[k]?=some bl){a:Nat->Prop}(n:∀b,a b->held A μ b)(o:∀b,a b->A b){k:Nat}{r:Option Nat}(h:μ k=some (.map r)){K:KT}{d:Bool}{has:List Int->Bool}{val:List Int->List SV}
 (p:own[k]?=some (.map K d has val)):D w a BT (.mp K d has val) (.map r):=by
 obtain⟨bl,e,t⟩:=c.blk _ _ h;rw[m _ _ p]at e;cases e;obtain⟨f,g,u,x,j,y⟩:=t;cases u;exact .mp f g (λz=>(c.rng _ _ f h (.inl rfl)).2.1 (o _ z)) x j (λq i s v l hs B=>GW n (y q i s v l hs B) (Jr.1 (j q l).2 s (Jn hs)))
theorem b86(n:Own B0 X A w μ ownN)(q:∀(k:Nat) (bl:Blk),own[k]?=some bl->ownN[k]?=some bl){f:Nat->Prop}(j:∀b,f b->held A μ b)(t:∀b,f b->A b){s:SV}{v:Value}(d:D w (held A μ) μ s v):D w f BT (s.ro00 own) v:=by
 have c:s.pure=true->s.ro00 own=s->D w f BT (s.ro00 own) v:=λx e=>by rw[e];exact GW j d x
 cases d with
 |osl h=>
  simp only[SV.ro00];split
  .rename_i l;exact c7q n q j t h l
  .exact .any
 |fp h=>exact .any
 |omp h=>
  simp only[SV.ro00];split
  .rename_i l;exact c8b n q j t h l
  .exact .any
 |own h=>exact .any
 |oel h=>exact .any
 |agg vs hl d=>exact .any
 |tup vs hl d=>exact .any
 |clo vs hl d=>
  simp only[SV.ro00];split
  .rename_i u;have y:=List.isEmpty_iff.1 u;subst y;exact Cd
  .exact .any
 |int=>exact c rfl rfl
 |bool=>exact c rfl rfl
 |con=>exact c rfl rfl
 |sl a b o m g z hx u B hl d=>exact c rfl rfl
 |rel b o g hi C B hl d=>exact c rfl rfl
 |mp r g C z hl d=>exact c rfl rfl
 |ub E F=>exact .ub E F
 |any=>exact .any
theorem c23(own:List Blk)(s:SV):(s.ro00 own).pure=true:=by
 cases s with
 |osl k=>simp only[SV.ro00];split<;>rfl
 |omp k=>simp only[SV.ro00];split<;>rfl
 |clo f cs=>simp only[SV.ro00];split<;>rfl
 |_=>rfl
theorem f18(own:List Blk)(s:SV):(s.ro0 own).pure=true:=by
 unfold SV.ro0;split
 .split<;>rfl
 .exact c23 own s
theorem b80(m:Own B0 X A w μ ownN)(r:∀(k:Nat) (bl:Blk),own[k]?=some bl->ownN[k]?=some bl){c:Nat->Prop}(t:∀b,c b->A b){k off b:Nat}(h:μ k=some (.pointer (some ⟨b,0,none⟩))){T:TypeId}{cs:List SV}(u:own[k]?=some (.cells T cs))
 {g:SV->SV} (y:∀s,(g s).pure=true) (z:∀s v,D w (held A μ) μ s v->D w c BT (g s) v):D w c BT (.rel cs.length 1 (λ_=>cs.map g) 0 off) (.pointer (some ⟨b,off,none⟩)):=by
 obtain⟨bl,e,B⟩:=m.blk _ _ h;rw[r _ _ u]at e;cases e;obtain⟨b',d,C,o,E,F,G⟩:=B;cases C;have:=D.rel (w:=w) (H:=c) (μ:=BT) (sz:=cs.length) (n:=1) (i:=0) (off:=off) (f:=λ_=>cs.map g) b 0 (λ_ j=>d.getD j undef) Dz (λI=>(m.rng _ _ b h (.inl rfl)).2.1 (t _ I)) ⟨Pz o,λi j J hj=> ?_⟩
  (λi _=>⟨E2,by simp only[List.all_map,Jr];intro x _;exact y x⟩) (λi j s J hs=> ?_)
 .simpa using this
 .have l:i=0:=Dz;subst l;have a:j<d.length:=Dz;have K:(0+0*cs.length+j)=j:=Dz;rw[K,TM o,Jh a];simp only[J8,Jh a];exact⟨Jm,F _ (Kj a)⟩
 .simp only[Iy]at hs;obtain⟨L,q,rfl⟩:=hs;have a:j<d.length:=by rw[E];exact(Jk.1 q).1
  simp only[J8,Jh a];exact z _ _ (G j L _ q (Jh a))
theorem d38(c:Own B0 X A w μ ownN)(d:∀(k:Nat) (bl:Blk),own[k]?=some bl->ownN[k]?=some bl){e:Nat->Prop}(g:∀b,e b->held A μ b)(f:∀b,e b->A b){s:SV}{v:Value}(a:D w (held A μ) μ s v):D w e BT (s.ro0 own) v:=by
 unfold SV.ro0;split
 .rename_i k off;split
  .rename_i T cs i;cases a with
   |own h=>exact b80 c d f h i (c23 own) (λs v a=>b86 c d g f a)
  .exact .any
 .exact b86 c d g f a
theorem c3y(j:Own B0 X A w μ ownN)(l:∀(k:Nat) (bl:Blk),own[k]?=some bl->ownN[k]?=some bl){n:Nat->Prop}(q:∀b,n b->held A μ b){s t:SV}{v:Value}(d:D w (held A μ) μ s v)(hr:s.ro1 own=some t)(u:s.isOsl0=true->∀b,n b->A b):D w n BT t v:=by
 have c:s.pure=true->t=s->D w n BT t v:=λz e=>by subst e;exact GW q d z
 cases d with
 |osl h=>
  simp only[SV.ro1]at hr;split at hr
  .rename_i f;cases hr;exact c7q j l q (u rfl) h f
  .cases hr
 |omp h=>
  simp only[SV.ro1]at hr;split at hr
  .rename_i f;cases hr;exact c8b j l q (u rfl) h f
  .cases hr
 |own h=>
  rename_i k off b;simp only[SV.ro1]at hr;split at hr
  .rename_i T cs f;cases hr;have x:=u rfl;exact b80 j l x h f (f18 own) (λs v d=>d38 j l q x d)
  .cases hr
 |int=>exact c rfl F8
 |bool=>exact c rfl F8
 |ub h1 h2=>exact c rfl F8
 |con=>exact c rfl F8
 |sl a b o m g B hx y C hl d=>exact c rfl F8
 |rel b o g hi E C hl d=>exact c rfl F8
 |mp r g E B hl d=>exact c rfl F8
 |clo vs hl d=>
  simp only[SV.ro1]at hr;split at hr
  .rename_i y;cases hr;have F:=List.isEmpty_iff.1 y;subst F;exact Cd
  .cases hr
 |_=>simp[SV.ro1]at hr
theorem c88(l:Own B0 X A w μ ownN)(m:∀(k:Nat) (bl:Blk),own[k]?=some bl->ownN[k]?=some bl){d:Nat->Prop}(n:∀b,d b->held A μ b){s t:SV}{v:Value}(c:D w (held A μ) μ s v)(a:s.ro own=some t)(o:s.isOsl=true->∀b,d b->A b):D w d BT t v:=by
 unfold SV.ro at a;split at a
 .rename_i f g;simp only[Jq]at a;obtain⟨ts,r,rfl⟩:=a;obtain⟨l1,u⟩:=PX r;cases c with
  |clo x z c=>
   refine .clo x (by rw[z,l1]) (λi t v ht B=> ?_);have j:i<g.length:=I7;obtain⟨y,q,e⟩:=u i _ (Jh j);rw[ht]at q;cases q;exact c3y l m n (c i _ v (Jh j) B) e (λh=>o (by simp only[SV.isOsl,K1];exact⟨_,Kj j,h⟩))
 .rename_i C;refine c3y l m n c a (λh=>o ?_);unfold SV.isOsl;split
  .rename_i f g;exact absurd rfl (C f g)
  .exact h
theorem b1g(j:Own B0 X A w μ ownN)(l:∀(k:Nat) (bl:Blk),own[k]?=some bl->ownN[k]?=some bl){d:Nat->Prop}(m:∀b,d b->held A μ b){s t:SV}{v:Value}(c:D w (held A μ) μ s v)(a:s.roA own=some t)(n:s.hasOsl=true->∀b,d b->A b):D w d BT t v:=by
 unfold SV.roA at a;split at a
 .rename_i f;simp only[Jq]at a;obtain⟨ts,q,rfl⟩:=a;obtain⟨l1,r⟩:=PX q;cases c with
  |agg u x c=>
   refine .agg u (by rw[x,l1]) (λi t v ht z=> ?_);have g:i<f.length:=I7;obtain⟨y,o,e⟩:=r i _ (Jh g);rw[ht]at o;cases o;exact c88 j l m (c i _ v (Jh g) z) e (λh=>n (by simp only[SV.hasOsl,K1];exact⟨_,Kj g,h⟩))
 .rename_i B;exact c88 j l m c a (λh=>n (by
   unfold SV.hasOsl;split
   .rename_i f;exact absurd rfl (B f)
   .exact h))
def d37(E:Env)(own:List Blk)(ρ:Operand->Option SV)(c:Call):Option (Prop×SV):=
 match c.callee with
 |.value f=>match ρ f with
  |some (.clo b a)=>(c.args.toList.mapM ρ).bind λd=>((d++a).mapM (SV.roA own)).bind λe=>(E.C b).bind λk=>(k e).bind λr=>
   if !((d++a).any SV.hasOsl)||r.2.flat2||E.fs b then some r else none
  |_=>none
 |_=>none
def HA(v:Value):Mu:=λk=>if k=0 then some v else none
def f7y(P:Program)(glob:Nat->Option SV)(f:FuncId)(e:KI):Prop:=
 (∃fn,P.funcs[f]?=some fn/\(fn.name== "runtime.NumGoroutine")=false/\fn.body.isNone=false)/\
 ∀(A:Nat->Prop) (w:World) (v:Value) (T:TypeId) (sz n:Nat) (g:Nat->List SV) (c:Option Nat) (rest:List SV) (vals:List Value) (pre:Prop) (g':Nat->List SV) (r:Bool),
  (∀b,A b->b<w.heap.size)->(∀b,CS v b->b<w.heap.size/\¬A b)->(∀q t,glob q=some t->t.pure=true/\D w (held A (HA v)) BT t (.pointer (some ⟨q,0,none⟩)))->
  DX w (held A (HA v)) (HA v) v (.row T sz n g c)->DL w (held A (HA v)) BT rest vals->e T sz n g rest=some (pre,g',r)->pre->
  Calls P f (v::vals).toArray w λx w'=>∃res,x=.returned res/\(r=true->res=v)/\(r=false->res=.tuple #[])/\DX w' (held A (HA v)) (HA v) v (.row T sz n g' c)/\Fr w.heap.size (λb=>CS v b) w w'
def c9j(P:Program)(glob:Nat->Option SV)(f:FuncId)(c:List SV->Option (Prop×SV)):Prop:=
 ∀(A:Nat->Prop) (w:World) (a:List SV) (d:List Value) (h:Prop) (s:SV),(∀b,A b->b<w.heap.size)->(∀g t,glob g=some t->t.pure=true/\D w A BT t (.pointer (some ⟨g,0,none⟩)))->
  DL w A BT a d->c a=some (h,s)->h->
  Calls P f d.toArray w λe i=>∃v,e=.returned v/\D i (λb=>b<w.heap.size) BT s v/\Fr w.heap.size (λ_=>False) w i
def Oo(μ:Mu)(b:Nat):Prop:=∃k x,μ k=some x/\CS x b
def d6z(P:Program)(glob:Nat->Option SV)(f:FuncId)(h:HK):Prop:=
 (∃fn,P.funcs[f]?=some fn/\(fn.name== "runtime.NumGoroutine")=false/\fn.body.isNone=false)/\
 ∀(A:Nat->Prop) (w:World) (args:List SV) (vals:List Value) (own:List Blk) (μ:Mu) (r:HRes),(∀b,A b->b<w.heap.size)->(∀g t,glob g=some t->t.pure=true/\D w (held A μ) BT t (.pointer (some ⟨g,0,none⟩)))->
  Own 0 (λ_=>True) A w μ own->(∀k,own.length<=k->μ k=none)->DL w (held A μ) μ args vals->h args own=some r->r.pre->
  Calls P f vals.toArray w λx w'=>∃v μ',x=.returned v/\Own w.heap.size (Oo μ) A w' μ' r.own/\(∀k,r.own.length<=k->μ' k=none)/\D w' (held A μ') μ' r.res v/\
   (∀k x,k<own.length->r.chg.contains k=false->μ k=some x->μ' k=some x)/\Fr w.heap.size (Oo μ) w w'
def XSound(E:Env):Prop:=∀f e,E.X f=some e->f7y E.P E.glob f e
def HF(E:Env):Prop:=(∀f c,E.C f=some c->c9w E.P E.glob f c/\(E.fs f=true->c9j E.P E.glob f c))/\XSound E/\∀f h,E.Hc f=some h->d6z E.P E.glob f h
theorem c7c{H:Nat->Prop}{xs b:List SV}{us vs:List Value}(h:DL w H μ xs us)(k:DL w H μ b vs):DL w H μ (xs++b) (us++vs):=by
 refine⟨by simp[h.1,k.1],λi s v hs a=> ?_⟩;by_cases c:i<xs.length
 .rw[Jt c]at hs;rw[Jt (by rw[h.1];exact c)]at a;exact h.2 i s v hs a
 .rw[Jy Dz]at hs;rw[Jy (by rw[h.1];omega),h.1]at a;exact k.2 _ s v hs a
theorem d18(hC:HF E)(z:Own B0 X A w μ ownN)(bf:∀(k:Nat) (bl:Blk),own[k]?=some bl->ownN[k]?=some bl)(n:∀g s,E.glob g=some s->s.pure=true/\D w (held A μ) μ s (.pointer (some ⟨g,0,none⟩))){a:Act}{ρ:Operand->Option SV}
 (B:∀(x:Operand) (s:SV),ρ x=some s->D w (held A μ) μ s (a.eval x)) {o:Oper} {c:Call} (ho:o.op=.call c) {C:Prop} {s:SV} (l:d37 E own ρ c=some (C,s)) (O:C):
 ∃f r,(execOp a.eval o).run E.P w=.ok (.enter f r) w/\Calls E.P f r w λe F=>∃v,e=.returned v/\D F (held A μ) μ s v/\Fr w.heap.size (λ_=>False) w F:=by
 unfold d37 at l;split at l;rotate_left
 .cases l
 rename_i f hf;split at l;rotate_left
 .cases l
 rename_i G d H;simp only[Js]at l;obtain⟨Q,jm,M,t7,k,R,⟨p,t⟩,S,l⟩:=l;split at l;rotate_left
 .cases l
 rename_i T;simp only[Iv]at l;obtain⟨rfl,rfl⟩:=l;have U:=B _ _ H;generalize wa:a.eval f=vf at U;obtain⟨⟨⟨fn,h1,h2,h3⟩,V⟩,Y4⟩:=hC.1 G k R;cases U with
 |clo u dt s9=>
  have W:=c7c (Ur (a:=a) B jm) (⟨dt,s9⟩:DL w (held A μ) μ d u);refine⟨G,((c.args.toList.map a.eval)++u).toArray,?_,?_⟩
  .have hm:c.args.map a.eval=(c.args.toList.map a.eval).toArray:=F7;simp only[execOp,ho,resolve,hf,wa,Deferred.ofValue,hm,Iw,invoke,callFunc,run_program,h1,h2,J5,h3];simp
  .obtain⟨l1,l2⟩:=PX t7;have conv:∀N:Nat->Prop,(∀b,N b->held A μ b)->(((Q++d).any SV.hasOsl)=true->∀b,N b->A b)->DL w N BT M ((c.args.toList.map a.eval)++u):=by
    intro N hA jn;refine⟨by rw[W.1,l1],λi s v hs hv=> ?_⟩;have b6:i<(Q++d).length:=Gn;obtain⟨y,Y,e⟩:=l2 i _ (Jh b6);rw[hs]at Y;cases Y;exact b1g z bf hA (W.2 i _ v (Jh b6) hv) e (λh=>jn I8)
   have Z:∀b,held A μ b->b<w.heap.size:=λb I=>by
    rcases I with I|⟨k,x,R,hx⟩
    .exact z.bnd b I
    .exact(z.rng k x b R hx).1
   cases Q7:(Q++d).any SV.hasOsl with
   |false=>
    refine(V (held A μ) w M _ p t Z (λg q m=>⟨(n g q m).1,GW (λ_ h=>h) (n g q m).2 (n g q m).1⟩) (conv _ (λ_ h=>h) (λh=>by rw[Q7]at h;cases h)) S O).mono ?_;rintro e F ⟨v,rfl,J,K⟩;exact⟨v,rfl,J.keep ⟨Jp _,λ_ _ _=>rfl,λ_ _ h=>h,λj x hx=>by cases hx⟩,K⟩
   |true=>
    rw[Q7]at T;simp only[Bool.not_true,Nm,Kp]at T;rcases T with dw|L;rotate_left
    .refine(Y4 L A w M _ p t z.bnd (λg q m=>⟨(n g q m).1,GW (λ_ h=>.inl h) (n g q m).2 (n g q m).1⟩) (conv A (λ_ h=>.inl h) (λ_ _ h=>h)) S O).mono ?_;rintro e F ⟨v,rfl,J,K⟩;exact⟨v,rfl,J.keep ⟨Jp _,λ_ _ _=>rfl,λb _ I=>Z b I,λj x hx=>by cases hx⟩,K⟩
    refine(V A w M _ p t z.bnd (λg q m=>⟨(n g q m).1,GW (λ_ h=>.inl h) (n g q m).2 (n g q m).1⟩) (conv A (λ_ h=>.inl h) (λ_ _ h=>h)) S O).mono ?_;rintro e F ⟨v,rfl,J,K⟩;exact⟨v,rfl,f9h dw J,K⟩
theorem Fr.keeps{w':World}(h:Fr w.heap.size (λ_=>False) w w'){H:Nat->Prop}:Keeps w w' H H μ μ:=
 ⟨h.size,λb a _=>h.block b a (λh=>h),λ_ _ h=>h,λ_ _ h=>h⟩
theorem Own.calls{w':World}(c:Own B0 X A w μ own)(h:Fr w.heap.size (λ_=>False) w w'):Own B0 X A w' μ own:=
 ⟨λk x hx=>by
   obtain⟨d,e,a⟩:=c.blk k x hx;exact⟨d,e,a.keep h.keeps (λb a=>h.block b (c.rng k x b hx a).1 (λh=>h))⟩,c.inj,
   λk x b f a=>by obtain⟨g,i⟩:=c.rng k x b f a;exact⟨Kf g h.size,i⟩,λb a=>Kf (c.bnd b a) h.size⟩
end
def c39(x y:Option SV):Option SV:=match x with
 |some s=>some s
 |none=>y
def d6s(b:Bool)(x y:Operand)(a c:SV):Option SV:=match a,c with
 |.bool s,.bool t=>match x,y with
  |.const (.bool true),_=>some (.bool (b||t))
  |_,.const (.bool false)=>some (.bool (b&&s))
  |_,_=>some (.bool (bif b then s else t))
 |.int k n,.int d m=>if k=d then some (.int k (bif b then n else m))else none
 |_,_=>none
def f7p(E:Env)(ρ:List Entry)(g:Option (Nat×Bool))(c x y:Operand):Option (Prop×SV):=match c with
 |.tmp a=>match CP E ρ g (.tmp a)with
  |some (.bool b)=>(c39 (CP E ρ g x) (CP E ρ (some (a,true)) x)).bind λd=>(c39 (CP E ρ g y) (CP E ρ (some (a,false)) y)).bind λe=>(d6s b x y d e).map λs=>(True,s)
  |_=>none
 |_=>none
def SN(E:Env)(st:St)(g:Option (Nat×Bool))(a:Op):Option (Prop×SV):=match a with
 |.pick c x y=>f7p E st.ρ g c x y
 |.call c=>match c.callee with
  |.value _=>d37 E st.own (CP E st.ρ g) c
  |_=>d83 E st.own (CP E st.ρ g) a
 |a=>d83 E st.own (CP E st.ρ g) a
def Xk(ρ:List Entry):Nat->Nat->Bool->Option Prop
 |0,_,_=>none
 |n+1,g,p=>match CO g ρ with
  |some e=>match e.sv with
   |.bool b=>match e.guard with
    |none=>some (b=p)
    |some (a,d)=>(Xk ρ n a d).map λc=>c/\b=p
   |_=>none
  |none=>none
def KM(nt:Nat)(d:Option Nat):Bool:=match d with
 |some d=>decide (d<nt)
 |none=>true
def d0i(E:Env)(ρ:Operand->Option SV)(T:TypeId)(r:Option Operand):Option Blk:=
 match E.P.underlying T with
 |some (.map _ a)=>(E.kt T).bind λK=>(JI E.P a).bind λb=>(PT E.P a).bind λz=>
  match r with
  |none=>some (.map K b (λ_=>false) (λ_=>z))
  |some x=>match ρ x with
   |some (.int _ _)=>some (.map K b (λ_=>false) (λ_=>z))
   |_=>none
 |_=>none
def f8w:SV->Bool
 |.agg _=>true
 |_=>false
def c0j(E:Env)(own:List Blk)(T:TypeId)(m i x:SV):Option (List Blk):=
 match E.P.underlying T,m with
 |some (.map _ _),.omp k=>match own[k]? with
  |some (.map K b a val)=>if E.kt T=some K/\f8w x=b then(Xx K i).bind λq=>x.cells.bind λc=>
   if c.all SV.pure then some (own.set k (.map K b (KV a q) (λp=>EN (decide (p=q)) c (val p))))else none
   else none
  |_=>none
 |_,_=>none
def f3h(E:Env)(nt:Nat)(ops:Array Oper)(st:St)(o:Oper):Option (Prop×St):=
 if !KM nt o.dst then none else
 match o.guard with
 |some (j,p)=>match o.dst,(ops[j]?).bind (·.dst)with
  |some d,some g=>if g<nt/\g≠d then(Xk st.ρ 5 g p).bind λc=>(SN E st (some (g,p)) o.op).map λr=>(c->r.1,{st with ρ:=LG (some d) (some (g,p)) r.2 st.ρ})else none
  |_,_=>none
 |none=>match o.op with
  |.store T p x=>(CP E st.ρ none p).bind λi=>(CP E st.ρ none x).bind λa=>(UX E.P st.own T i a).bind λr=>if o.dst=none then some (r.1,{st with own:=r.2})else none
  |.alloc _|.box _ _|.buildSlice _ _ _|.makeSlice _ _ _=>(Xj E.P st.own (CP E st.ρ none) o.op).map λr=>(r.1,{ρ:=LG o.dst none r.2.1 st.ρ,own:=st.own++[r.2.2]})
  |.makeMap T r=>(d0i E (CP E st.ρ none) T r).map λb=>(True,{ρ:=LG o.dst none (.omp st.own.length) st.ρ,own:=st.own++[b]})
  |.mapUpdate T m k x|.insert T m k x=>(CP E st.ρ none m).bind λl=>(CP E st.ρ none k).bind λsk=>(CP E st.ρ none x).bind λa=>(c0j E st.own T l sk a).bind λe=>if o.dst=none then some (True,{st with own:=e})else none
  |.call {callee:=.builtin .append,args:=⟨[x,y]⟩,argTypes:=⟨[T,U]⟩}=>if T=U then(CP E st.ρ none x).bind λa=>(CP E st.ρ none y).bind λn=>(UF E.P st.own T a n).bind λr=>
   if !r.2.2.2&&E.ak r.2.1 then none else some (r.1,{ρ:=LG o.dst none (.osl r.2.1) (if r.2.2.2 then st.ρ else VL [r.2.1] st.ρ),own:=r.2.2.1})else none
  |.slice T x f h none=>(match CP E st.ρ none x with
   |some (.osl k)=>(b66 E.P st.own T k (Py (CP E st.ρ none) f) (Py (CP E st.ρ none) h)).bind λr=>if E.ak k then none else some (r.1,{ρ:=LG o.dst none (.osl k) (VL [k] st.ρ),own:=r.2})
   |_=>(SN E st none (.slice T x f h none)).map λr=>(r.1,{st with ρ:=LG o.dst none r.2 st.ρ}))
  |q=>(SN E st none q).map λr=>(r.1,{st with ρ:=LG o.dst none r.2 st.ρ})
section
variable{E:Env}{B0:Nat}{X A:Nat->Prop}{w0:World}{nt:Nat}{st:St}{a:Act}{w:World}{μ:Mu}
theorem SD.opds(h:SD E B0 X A w0 nt st a w μ){g:Option (Nat×Bool)}(c:∀q b,g=some (q,b)->a.tmps.getD q undef=.bool b):∀(x:Operand) (s:SV),CP E st.ρ g x=some s->D w (held A μ) μ s (a.eval x):=
 Re (λn s d=>(h.glo n s d).2) h.env c
theorem c2i{H:Nat->Prop}{b:Bool}{x y:Operand}{e f s:SV}{u v:Value}(hx:b=true->D w H μ e u)(c:b=false->D w H μ f v)(g:∀z,x=.const z->u=z)(d:∀z,y=.const z->v=z)(a:d6s b x y e f=some s):
 D w H μ s (if b then u else v):=by
 unfold d6s at a;split at a
 .rename_i s1 t1;split at a
  .cases a;have:=g _ rfl;subst this;cases b
   .have:=c rfl;cases this;exact .bool
   .exact .bool
  .cases a;have:=d _ rfl;subst this;cases b
   .exact .bool
   .have:=hx rfl;cases this;exact .bool
  .cases a;cases b
   .have:=c rfl;cases this;exact .bool
   .have:=hx rfl;cases this;exact .bool
 .split at a
  .rename_i h;cases a;subst h;cases b
   .have:=c rfl;cases this;exact .int
   .have:=hx rfl;cases this;exact .int
  .cases a
 .cases a
theorem d3b{x y:Option SV}{s:SV}(h:c39 x y=some s):x=some s\/y=some s:=by unfold c39 at h;split at h<;>simp_all
theorem b21(U:EnvOK E)(V:HF E){ρ:List Entry}{own j:List Blk}(L:Own B0 X A w μ j)(M:∀(k:Nat) (bl:Blk),own[k]?=some bl->j[k]?=some bl)(N:∀g s,E.glob g=some s->s.pure=true/\D w (held A μ) μ s (.pointer (some ⟨g,0,none⟩)))
 (W:El w (held A μ) μ a.tmps ρ) {g:Option (Nat×Bool)} (F:∀q b,g=some (q,b)->a.tmps.getD q undef=.bool b) {o:Oper} {m:Prop} {s:SV} (d:SN E ⟨ρ,own⟩ g o.op=some (m,s)) (O:m)
 {K:Act->World->Prop} {Q:Exit->Act->World->Prop} (R:∀v t,D t (held A μ) μ s v->Fr w.heap.size (λ_=>False) w t->K (a.put o.dst v) t):o.wp E.P a w K Q:=by
 have opds:∀{g:Option (Nat×Bool)},(∀q b,g=some (q,b)->a.tmps.getD q undef=.bool b)->∀(x:Operand) (s:SV),CP E ρ g x=some s->D w (held A μ) μ s (a.eval x):=λF=>Re (λn s Y=>(N n s Y).2) W F;have i:=opds F;have h:∀v,(execOp a.eval o).run E.P w=.ok (.value v) w->D w (held A μ) μ s v->o.wp E.P a w K Q:=by intro v u B;unfold Oper.wp;rw[u];exact R v w B ⟨rfl,rfl,rfl,λ_=>Jp _,Jp _,λ_ _ _=>rfl⟩
 have val:d83 E own (CP E ρ g) o.op=some (m,s)->o.wp E.P a w K Q:=by intro d;obtain⟨v,u,B⟩:=d64 U L M i d O;exact h v u B
 unfold SN at d;split at d
 .rename_i c x y G;unfold f7p at d;split at d;rotate_left
  .cases d
  rename_i C;split at d;rotate_left
  .cases d
  rename_i b Z;simp only[Js,It]at d;obtain⟨r,hx,sy,hy,s',hs,rfl,rfl⟩:=d;have S:=i _ _ Z;generalize T:a.eval (.tmp C)=cv at S;cases S;have H:a.tmps.getD C undef=.bool b:=T;have l:∀(p:Bool) (x:Operand) (r:SV),c39 (CP E ρ g x) (CP E ρ (some (C,p)) x)=some r->b=p->D w (held A μ) μ r (a.eval x):=by
   intro p x r hx I;rcases d3b hx with hx|hx
   .exact i x r hx
   .exact opds (g:=some (C,p)) (λq p' e=>by cases e;rw[H,I]) x r hx
  refine h (if b then a.eval x else a.eval y) ?_ (c2i (l true x r hx) (l false y sy hy) (λz J=>by subst J;rfl) (λz J=>by subst J;rfl) hs);simp only[execOp,G,T];cases b<;>simp[asBool]
 .rename_i c G;split at d
  .obtain⟨f,vals,u,hc⟩:=d18 V L M N i (o:=o) G d O;unfold Oper.wp;rw[u];refine hc.mono ?_;rintro e t ⟨v,rfl,B,bn⟩;exact R v t B bn
  .exact val d
 .rename_i op h1 h2;exact val d
theorem b8t(e:EnvOK E)(f:HF E)(h:SD E B0 X A w0 nt st a w μ){g:Option (Nat×Bool)}(i:∀q b,g=some (q,b)->a.tmps.getD q undef=.bool b){o:Oper}{c:Prop}{s:SV}(j:SN E st g o.op=some (c,s))(k:c)
 {K:Act->World->Prop} {Q:Exit->Act->World->Prop} (l:∀v d,D d (held A μ) μ s v->Fr w.heap.size (λ_=>False) w d->K (a.put o.dst v) d):o.wp E.P a w K Q:=
 b21 e f h.own (λ_ _ h=>h) h.glo h.env i j k l
theorem SD.put(h:SD E B0 X A w0 nt st a w μ){w':World}{μ':Mu}{own':List Blk}{c:List Entry}(l:Own B0 X A w' μ' own')(f:Fr B0 X w w')(m:∀g s,E.glob g=some s->s.pure=true/\D w' (held A μ') μ' s (.pointer (some ⟨g,0,none⟩)))
 (i:El w' (held A μ') μ' a.tmps c) (n:∀k,own'.length<=k->μ' k=none) (o:∀k x,E.an k=some x->μ' k=some x) {d:Option Nat} (r:KM nt d=true) {s:SV} {v:Value} (t:D w' (held A μ') μ' s v):
 SD E B0 X A w0 nt {ρ:=LG d none s c,own:=own'} (a.put d v) w' μ':=by
 refine⟨l,h.fr.trans f,Lr h.base f.size,m,?_,?_,?_,n,o⟩
 .cases d<;>exact h.dfr
 .cases d<;>simp[Act.put,h.size]
 .cases d with
  |none=>exact i
  |some d=>
   have j:d<a.tmps.size:=by rw[h.size];simpa[KM]using r
   refine i.put j (λq b e=>E8) ?_;unfold DE;simp only;rw[NX j,Ji rfl];exact t
theorem NW{w':World}{μ':Mu}{H H':Nat->Prop}(b:Keeps w w' H H' μ μ')(h:∀g s,E.glob g=some s->s.pure=true/\D w H μ s (.pointer (some ⟨g,0,none⟩))):∀g s,E.glob g=some s->s.pure=true/\D w' H' μ' s (.pointer (some ⟨g,0,none⟩)):=
 λg s a=>⟨(h g s a).1,(h g s a).2.keep b⟩
theorem b1s{w':World}{μ':Mu}{H H':Nat->Prop}{k:List Nat}(b:Keeps' k w w' H H' μ μ')(h:∀g s,E.glob g=some s->s.pure=true/\D w H μ s (.pointer (some ⟨g,0,none⟩))):∀g s,E.glob g=some s->s.pure=true/\D w' H' μ' s (.pointer (some ⟨g,0,none⟩)):=
 λg s a=>⟨(h g s a).1,LA b (h g s a).2 (h g s a).1⟩
theorem b0c{H:Nat->Prop}{tmps:Array Value}{ρ:List Entry}(o:El w H μ tmps ρ):∀(n g:Nat) (p:Bool) (c:Prop),Xk ρ n g p=some c->tmps.getD g undef=.bool p->c:=by
 intro n;induction n with
 |zero=>intro g p c h;simp[Xk]at h
 |succ n q=>
  intro g p c h i;simp only[Xk]at h;split at h;rotate_left
  .cases h
  rename_i e j;have hs:=NK j;have a:=o g e j;unfold DE at a;split at h;rotate_left
  .cases h
  rename_i b k;split at h
  .rename_i d;cases h;rw[d,k,hs,i]at a;simp only at a;cases a;rfl
  .rename_i l m d;simp only[Jq]at h;obtain⟨r,s,rfl⟩:=h;rw[d,k,hs,i]at a;simp only at a;by_cases f:tmps.getD l undef=.bool m
   .have:=a.1 f;cases this;exact⟨q l m r s f,rfl⟩
   .have:=a.2 f;cases this
theorem b8i{ops:Array Oper}{o:Oper}{j g:Nat}{p:Bool}(d:o.guard=some (j,p))(e:(ops[j]?).bind (·.dst)=some g)(f:g<a.tmps.size):
 Region.wanted o (yielded ops a.tmps)=true↔a.tmps.getD g undef=.bool p:=by
 simp only[Region.wanted,d,yielded,e,M7,Nf,Mm f,L5];split
 .rename_i b c;rw[Ka]at c;rw[c];simp
 .rename_i i;simp only[Mc];constructor
  .intro h;cases h
  .intro h;exact absurd (by rw[h]) (i p)
theorem d49(sz:Nat):∀(ps:List (Nat×Value)) (b:Nat) (vs:List Value),ps.map (·.1)=List.range' b ps.length->(∀p∈ps,p.2.cells.size=sz)->(b+ps.length)*sz<=vs.length->
 (∀v∈vs,v.oneCell'=true)->(∀p∈ps,∀v∈p.2.cells.toList,v.oneCell'=true)->
 ∃d:List Value,Instr.fill (λi=>some (i*sz,sz)) vs.toArray ps=some d.toArray/\d.length=vs.length/\(∀v∈d,v.oneCell'=true)/\
  (∀x,x<b*sz->d[x]?=vs[x]?)/\∀(i j:Nat) (p:Nat×Value),ps[i]?=some p->j<sz->d[(b+i)*sz+j]?=p.2.cells.toList[j]?:=by
 intro ps;induction ps with
 |nil=>intro b vs _ _ _ k _;exact⟨vs,rfl,rfl,k,λ_ _=>rfl,λi j p h=>Ec⟩
 |cons q ps t=>
  intro b vs g hs l k n;obtain⟨a,c⟩:=q;simp only[L4,Kz,List.range'_succ,List.cons.injEq]at g;obtain⟨rfl,g⟩:=g;have f:c.cells.size=sz:=hs (a,c) E2;have m:a*sz+sz<=vs.length:=by have:(a+1)*sz<=(a+(ps.length+1))*sz:=Kr _ Dz;rw[N5]at this;simp only[Kz]at l;omega
  obtain⟨d,u,w,y,o,z⟩:=t (a+1) (over vs (a*sz) c.cells.toList) g (λp e=>hs p (by simp[e])) (by rw[PB];simp only[Kz]at l;rw[show a+1+ps.length=a+(ps.length+1)from Dz];exact l)
   (UP _ _ _ k (n (a,c) E2)) (λp e=>n p (by simp[e]))
  have r:=λx=>NU c.cells.toList vs (a*sz) x (by simp[f];exact m);refine⟨d,?_,by rw[w,PB],y,λx hx=> ?_,λi j p e s=> ?_⟩
  .simp only[Instr.fill];have A:¬(a*sz+c.cells.size>vs.toArray.size):=by rw[f];simp;exact m
   rw[Jj (by rw[K4 A];simp[f])];have:(c.cells.zipIdx.foldl (λB x=>B.setIfInBounds (a*sz+x.2) x.1) vs.toArray)=(over vs (a*sz) c.cells.toList).toArray:=by have:=b89 c.cells.toList 0 (a*sz) vs (by simp only[Ls,Mp,f];exact m);rw[<-Array.foldl_toList];simpa using this
   rw[this];exact u
  .rw[o x (by rw[N5];omega),r,Jj Dz]
  .match i with
   |0=>
    simp at e;subst e;rw[Mp,o _ (by rw[N5];omega),r,Ji (by simp[f];exact s),Nat.add_sub_cancel_left]
   |i+1=>
    have:=z i j p (by simpa using e) s;rwa[show a+1+i=a+(i+1)from Dz]at this
theorem b7a{own B:List Blk}(V:Own B0 X A w μ B)(W:B0<=w.heap.size)(Y:μ own.length=none){ρ:Operand->Option SV}(F:∀(x:Operand) (s:SV),ρ x=some s->D w (held A μ) μ s (a.eval x)){o:Oper}{Z:Prop}{s:SV}{b:Blk}
 (f:Xj E.P own ρ o.op=some (Z,s,b)) (M:Z) (df:B[own.length]?=some b):
 ∃r G k,(execOp a.eval o).run E.P w=.ok (.value r) G/\After B0 X A w G μ k B/\(∀j,j≠own.length->k j=μ j)/\D G (held A k) k s r:=by
 unfold Xj at f;split at f
 .rename_i T I;simp only[Js]at f;obtain⟨z,hz,f⟩:=f;split at f;rotate_left
  .cases f
  rename_i N;simp only[Iv]at f;obtain⟨rfl,rfl,rfl⟩:=f;obtain⟨r,G,k,J,K,L,h4⟩:=c5v (P:=E.P) V W Y hz N df;exact⟨r,G,k,by simp[execOp,I,J],K,L,h4⟩
 .rename_i T x I;simp only[Js]at f;obtain⟨sx,hx,t,fm,f⟩:=f;split at f;rotate_left
  .cases f
  rename_i N;simp only[Iv]at f;obtain⟨rfl,rfl,rfl⟩:=f;obtain⟨r,G,k,J,K,L,h4⟩:=d2z (P:=E.P) V W Y (F _ _ hx) fm N df;exact⟨r,G,k,by simp[execOp,I,J],K,L,h4⟩
 .rename_i T I;simp only[Js,It]at f;obtain⟨e,hT,sz,bq,rfl,rfl,rfl⟩:=f;simp only[DC,Jq]at bq;obtain⟨g,O,rfl⟩:=bq;obtain⟨k,J,K,L⟩:=c5u V W Y (vs:=[]) df (Jp _) (Jw _) (λi hi=>absurd hi (K5 _)) E2 E2 (λi j s v hi=>absurd hi (K5 _));refine⟨_,_,k,?_,J,K,L⟩;simp[execOp,I,Instr.buildSlice,Kn (RA hT),IP O,Instr.fill,newRow];congr 2;apply Array.ext';simp
 .rename_i T n d hnp I;simp only[Js]at f;obtain⟨e,hT,sz,bq,z,hz,ps,V5,f⟩:=f;split at f;rotate_left
  .cases f
  rename_i N;obtain⟨V6,Y6,c6,hbig,rz,t9,bw⟩:=N;simp only[Iv]at f;obtain⟨rfl,rfl,rfl⟩:=f;simp only[DC,Jq]at bq;obtain⟨g,O,rfl⟩:=bq;obtain⟨inf',C,Q,pg,rfl,re⟩:=TF (w:=w) (H:=held A μ) (μ:=μ) hz;rw[O]at Q;cases Q;have m9:C.cells.size=g.size:=Fh;obtain⟨l1,l2⟩:=PX V5;have bb:ps.length=n:=by have:=Mj List.length V6;simpa using this
  have part:∀(i:Nat) (q:Nat×Operand),d.toList[i]?=some q->∃t:List SV,ps[i]?=some (q.1,t)/\t.all SV.isCell=true/\t.all SV.pure=true/\t.length=g.size/\DL w (held A μ) μ t (a.eval q.2).cells.toList:=by intro i q R;obtain⟨y,hy,u⟩:=l2 i q R;simp only[Js,Jq]at u;obtain⟨sq,hsq,t,fm,rfl⟩:=u;have U:=Jr.1 bw _ (Jn hy);simp only[J3]at U;exact⟨t,hy,U.1.1,U.1.2,U.2,(F _ _ hsq).cells fm⟩
  have dn:∀p∈d.toList.map λ(q:Nat×Operand)=>(q.1,a.eval q.2),p.2.cells.size=g.size/\∀v∈p.2.cells.toList,v.oneCell'=true:=by
   intro p M;obtain⟨i,hi,u⟩:=Kg.1 M;have Q:i<d.toList.length:=Et;obtain⟨t,c1,c2,c3,c4,c5⟩:=part i _ (Jh Q);have:p=(d.toList[i].1,a.eval d.toList[i].2):=by rw[<-u];simp
   subst this;exact⟨by have:=c5.1;rw[Ls]at this;exact this.trans c4,TJ c5 c2⟩
  have ge:∀v∈C.cells.toList,v.oneCell'=true:=TJ re t9;have S:∀v∈(madeCells C.cells (n*g.size)).toList,v.oneCell'=true:=by intro v hv;obtain⟨i,hi,u⟩:=Kg.1 hv;obtain⟨_,rfl⟩:=b3h _ _ i v (by rw[<-u];exact Jh hi);have b6:i%C.cells.size<C.cells.size:=Nq _ Dz;rw[L6 C.cells _ b6];exact ge _ E2
  have gu:(d.toList.map λ(q:Nat×Operand)=>(q.1,a.eval q.2)).length=n:=by rw[Kh,<-l1,bb]
  have hfst:(d.toList.map λ(q:Nat×Operand)=>(q.1,a.eval q.2)).map (·.1)=List.range' 0 (d.toList.map λ(q:Nat×Operand)=>(q.1,a.eval q.2)).length:=by
   rw[gu,<-List.range_eq_range',<-V6];apply Mh;intro i;simp only[K9,M5];cases R:d.toList[i]? with
   |none=>
    have:ps[i]?=none:=by rw[List.getElem?_eq_none_iff]at R⊢;rw[l1];exact R
    simp[this]
   |some q=>
    obtain⟨t,c1,_⟩:=part i q R;simp[c1]
  obtain⟨us,f1,f2,f3,f4,f5⟩:=d49 g.size _ 0 (madeCells C.cells (n*g.size)).toList hfst (λp M=>(dn p M).1) (by rw[gu];simp[size_madeCells]) S (λp M=>(dn p M).2);have dm:∀i,i<n->∃(q:Nat×Operand) (t:List SV),d.toList[i]?=some q/\(ps.map (·.2)).getD i []=t/\t.all SV.pure=true/\t.length=g.size/\DL w (held A μ) μ t (a.eval q.2).cells.toList:=by
   intro i hi;have Q:i<d.toList.length:=by rw[<-l1,bb];exact hi
   obtain⟨t,c1,c2,c3,c4,c5⟩:=part i _ (Jh Q);exact⟨_,t,Jh Q,by simp[c1],c3,c4,c5⟩
  obtain⟨k,J,K,L⟩:=c5u V W Y (vs:=us) df (Jp _) (by
   have:n*1<=n*g.size:=Nat.mul_le_mul_left _ c6;simp only[maxLen];omega) (λi hi=>by obtain⟨q,t,_,u,e2,e3,_⟩:=dm i hi;rw[u];exact⟨e3,e2⟩) (by rw[f2];simp[size_madeCells]) f3 (λi j s v hi hs hv=>by
   obtain⟨q,t,R,u,e2,e3,e4⟩:=dm i hi;rw[u]at hs;have hj:j<g.size:=by rw[<-e3];exact(Jk.1 hs).1
   have:=f5 i j (q.1,a.eval q.2) (by rw[K9,R];rfl) hj;rw[L9,hv]at this;exact e4.2 j s v hs this.symm)
  refine⟨_,_,k,?_,J,K,L⟩;have U:(d.map λ(q:Nat×Operand)=>(q.1,a.eval q.2))=(d.toList.map λq=>(q.1,a.eval q.2)).toArray:=by apply Array.ext';simp
  have wm:(Array.range (n*g.size)).map (λi=>C.cells[i%C.cells.size]!)=(madeCells C.cells (n*g.size)).toList.toArray:=by apply Array.ext';simp[madeCells]
  have hnz:¬(n*g.size=0):=by have:1*1<=n*g.size:=Nat.mul_le_mul Y6 c6;omega
  simp only[execOp,I,U,Instr.buildSlice,Iw,Kn (RA hT),IP O,Jj (by omega:¬n*g.size>2^24),Jj hnz,WI O pg,wm,f1,newRow];simp
 .rename_i T l c I;simp only[Js]at f;obtain⟨e,hT,g,O,z,hz,f⟩:=f;split at f;rotate_left
  .cases f
  rename_i kl n kc m hl N;split at f;rotate_left
  .cases f
  rename_i ff;obtain⟨c1,c2,c3,c4⟩:=ff;simp only[Iv]at f;obtain⟨rfl,rfl,rfl⟩:=f;obtain⟨p1,p2,p3,p4⟩:=M;obtain⟨r,G,k,J,K,L,h4⟩:=d2j (P:=E.P) (kl:=kl) (kc:=kc) V W Y hT O hz c1 c2 c3 c4 p1 p2 p3 p4 df;have d1:=F _ _ hl;have d2:=F _ _ N;generalize u:a.eval l=v1 at d1;generalize e2:a.eval c=v2 at d2;cases d1;cases d2;exact⟨r,G,k,by simp[execOp,I,u,e2,J],K,L,h4⟩
 .cases f
theorem b1y(_:EnvOK E){own c:List Blk}(t:Own B0 X A w μ c)(m:B0<=w.heap.size)(u:μ own.length=none){ρ:Operand->Option SV}(g:∀(x:Operand) (s:SV),ρ x=some s->D w (held A μ) μ s (a.eval x)){o:Oper}{T:TypeId}{r:Option Operand}(y:o.op=.makeMap T r){b:Blk}
 (d:d0i E ρ T r=some b) (B:c[own.length]?=some b):
 ∃v k f,(execOp a.eval o).run E.P w=.ok (.value v) k/\After B0 X A w k μ f c/\(∀j,j≠own.length->f j=μ j)/\D k (held A f) f (.omp own.length) v:=by
 unfold d0i at d;split at d;rotate_left
 .cases d
 rename_i ky elem C;simp only[Js]at d;obtain⟨K,hK,F,tc,z,hz,d⟩:=d;have l:b=.map K F (λ_=>false) (λ_=>z)/\(Instr.makeMap T (r.map a.eval)).run E.P w=.ok (.map (some w.heap.size)) (w.alloc (.map #[] 0)):=by
  split at d
  .cases d;exact⟨rfl,by simp[Instr.makeMap]⟩
  .rename_i x;split at d
   .rename_i hx;cases d;have n:=g _ _ hx;generalize G:a.eval x=v at n;cases n;exact⟨rfl,by simp[Instr.makeMap,G,Kn C,asInt,asIntOf]⟩
   .cases d
 obtain⟨rfl,H⟩:=l;obtain⟨I,J⟩:=Uk t m u B (.map #[] 0) (.map (some w.heap.size)) (λb l=>(d4h.1 l).symm) (λf _ _=>⟨w.heap.size,λ_=>[],rfl,⟨#[],0,Mt w _,λe h=>Ec,λq h=>E9,E2⟩,λq h=>E9,λq i s v h=>E9⟩);refine⟨.map (some w.heap.size),_,_,by simp[execOp,y,H],⟨I,Fr.alloc _ m,J⟩,λj hj=>Ep,.omp Eh⟩
theorem c14(hE:EnvOK E){own:List Blk}(d:Own B0 X A w μ own){T:TypeId}{m i x:SV}{vm N n:Value}{own':List Blk}(hm:D w (held A μ) μ m vm)(hi:D w (held A μ) μ i N)(hx:D w (held A μ) μ x n)(a:c0j E own T m i x=some own'):
 ∃O,(Instr.mapUpdate T vm N n).run E.P w=.ok () O/\After B0 X A w O μ μ own'/\own'.length=own.length:=by
 unfold c0j at a;split at a;rotate_left
 .cases a
 rename_i ky elem k Q;split at a;rotate_left
 .cases a
 rename_i K t f val R;split at a;rotate_left
 .cases a
 rename_i l;obtain⟨zt,G⟩:=l;simp only[Js]at a;obtain⟨q,hq,J,u,a⟩:=a;split at a;rotate_left
 .cases a
 rename_i t6;cases a;obtain⟨ky',elem',S,nf⟩:=hE.kt T K zt;rw[Q]at S;cases S;obtain⟨rfl,pt⟩:=b1p hq hi;cases hm with
 |omp b=>
  obtain⟨bl,e,ba⟩:=d.blk _ _ b;rw[R]at e;cases e;obtain⟨r,g,e1,U,L,V⟩:=ba;cases e1;obtain⟨dt,s9⟩:=hx.cells u;have z:n=IX t n.cells.toList:=by
   cases hx with
   |agg vs L V=>
    have:t=true:=G.symm;subst this;simp[IX,Value.cells]
   |con=>
    have:t=false:=G.symm;subst this;simp only[SV.cells]at u;split at u
    .rename_i h1;cases n<;>first|rfl|simp[Value.oneCell']at h1
    .cases u
   |tup=>simp[SV.cells]at u
   |any=>simp[SV.cells]at u
   |fp h=>
    have:t=false:=G.symm;subst this;split at h
    .exact Cp
    .subst h;rfl
   |_=>
    have:t=false:=G.symm;subst this;rfl
  obtain⟨o,bt,zw⟩:=b3a (w:=w) z Q nf U pt;have b6:=U.lt;have H:Keeps w (putObj w r o) (held A μ) (held A μ) μ μ:=⟨G5,λc _ l=>UA (λe=>l (by subst e;exact .inr ⟨k,_,b,.inl rfl⟩)),λ_ _ h=>h,λ_ _ h=>h⟩
  have hB:=(d.rng k _ r b (.inl rfl)).2.2;refine⟨_,bt,⟨⟨λj y B=> ?_,d.inj,λj y c B hy=>by rw[Xe];exact d.rng j y c B hy,λc l=>by rw[Xe];exact d.bnd c l⟩,
   ⟨rfl,rfl,rfl,λ_=>Jp _,G5,λi hi hX=>UA (λe=>by subst e;rcases hB with W|W;omega;exact hX W)⟩,H⟩,E2⟩
  have bb:k<own.length:=(Jk.1 R).1;by_cases e:j=k
  .subst e;have:y=.map (some r):=by rw[b]at B;exact(Km B).symm
   subst this;refine⟨.map K t (KV f q) (λp=>EN (decide (p=q)) J (val p)),by simp[bb],r,λp=>if p=q then n.cells.toList else g p,rfl,zw,λp hp=> ?_,λp i s v hp hs z=> ?_⟩
   .obtain⟨Y,C,_⟩:=b2t (decide (p=q)) J (val p);simp only[Ju]at Y C;rw[Y];by_cases ep:p=q
    .simp only[ep,L1];rw[ep]at C;simp only[L1]at C;exact⟨dt,C t6⟩
    .have I:f p=true:=Hb;simp only[ep,if_false];simp only[ep,if_false]at C;exact⟨(L p I).1,C (L p I).2⟩
   .obtain⟨Z,F,zh⟩:=(b2t (decide (p=q)) J (val p)).2.2 i s hs;simp only[Ju]at F;refine zh ?_;by_cases ep:p=q
    .simp only[ep,L1]at F z;exact(s9 i Z v F z).keep H
    .have I:f p=true:=Hb;simp only[ep,if_false]at F z;exact(V p i Z v I F z).keep H
  .obtain⟨M,e0,s7⟩:=d.blk j y B;refine⟨M,by rw[Jz (Ne.symm e)];exact e0,s7.keep H (λc l=>UA (λec=> ?_))⟩;subst ec;exact e (d.inj j k y _ c B b l (.inl rfl))
theorem b91(hE:EnvOK E)(hC:HF E)(h:SD E B0 X A w0 nt st a w μ){ops:Array Oper}{o:Oper}{F:Prop}{st':St}(f:f3h E nt ops st o=some (F,st'))(J:F)
 {K:Act->World->Prop} {Q:Exit->Act->World->Prop} (hK:∀a' w' l,SD E B0 X A w0 nt st' a' w' l->K a' w'):
 if Region.wanted o (yielded ops a.tmps)then o.wp E.P a w K Q else K (a.put o.dst undef) w:=by
 unfold f3h at f;split at f
 .cases f
 rename_i gn;have O:KM nt o.dst=true:=by simpa using gn
 split at f
 .rename_i j p mz;split at f;rotate_left
  .cases f
  rename_i d g ri V7;split at f;rotate_left
  .cases f
  rename_i b6;obtain⟨b6,b9⟩:=b6;simp only[Js,It]at f;obtain⟨c,hc,⟨W,s⟩,hs,rfl,rfl⟩:=f;have Y:d<a.tmps.size:=by rw[h.size];simpa[KM,ri]using O
  have hw:=b8i (a:=a) mz V7 (by rw[h.size];exact b6);split
  .rename_i f9;have R:=hw.1 f9;have gq:=b0c h.env 5 g p c hc R;refine b8t hE hC h (g:=some (g,p)) (λq b e=>by cases e;exact R) hs (J gq) (λv w' H C=>hK _ w' μ ?_);have hO:=h.own.calls C;have hk:Keeps w w' (held A μ) (held A μ) μ μ:=C.keeps;rw[ri];refine⟨hO,h.fr.trans ⟨C.os,C.tape,C.output,C.drawn,C.size,λi hi _=>C.block i (Kf hi h.base) (λh=>h)⟩,Lr h.base C.size,NW hk h.glo,h.dfr,by simp[Act.put,h.size],?_,h.fresh,h.anc⟩;refine(h.env.keep hk).put Y (λq b e=>by cases e;exact b9) ?_;unfold DE;simp only;rw[NX Y,NX Y,Ji rfl,Jj b9];exact⟨λ_=>H,λZ=>absurd R Z⟩
  .rename_i f9;have R:¬a.tmps.getD g undef=.bool p:=λR=>f9 (hw.2 R);refine hK _ w μ ?_;rw[ri];refine⟨h.own,h.fr,h.base,h.glo,h.dfr,by simp[Act.put,h.size],?_,h.fresh,h.anc⟩;refine h.env.put Y (λq b e=>by cases e;exact b9) ?_;unfold DE;simp only;rw[NX Y,NX Y,Ji rfl,Jj b9];exact⟨λhh=>absurd hh R,λ_=>rfl⟩
 .rename_i mz;rw[Ji Ez];have t:=h.opds (g:=none) (λq b e=>E8);have M:∀{s:SV} {F:Prop},SN E st none o.op=some (F,s)->F->(∀a' w' l,SD E B0 X A w0 nt {st with ρ:=LG o.dst none s st.ρ} a' w' l->K a' w')->o.wp E.P a w K Q:=by
   intro s F hs J hK;refine b8t hE hC h (g:=none) (λq b e=>E8) hs J (λv w' H C=>hK _ w' μ ?_);have hk:Keeps w w' (held A μ) (held A μ) μ μ:=C.keeps;exact h.put (h.own.calls C) ⟨C.os,C.tape,C.output,C.drawn,C.size,λi hi _=>C.block i (Kf hi h.base) (λh=>h)⟩ (NW hk h.glo) (h.env.keep hk) h.fresh h.anc O H
  have L:∀{r:Value} {w':World},(execOp a.eval o).run E.P w=.ok (.value r) w'->K (a.put o.dst r) w'->o.wp E.P a w K Q:=by intro r w' G hk;unfold Oper.wp;rw[G];exact hk
  split at f
  .rename_i T p x I;simp only[Js]at f;obtain⟨sp,rj,sx,S,⟨W,own'⟩,N,f⟩:=f;split at f;rotate_left
   .cases f
   rename_i mt;simp only[Iv]at f;obtain⟨rfl,rfl⟩:=f;obtain⟨w',G,ha⟩:=b63 h.own (t _ _ rj) (t _ _ S) N J;have V:(execOp a.eval o).run E.P w=.ok .skip w':=by simp[execOp,I,G]
   unfold Oper.wp;rw[V];show K (a.put o.dst undef) w';rw[mt];have bb:own'.length=st.own.length:=by
    unfold UX at N;simp only[J7]at N;obtain⟨n,Z,us,mh,N⟩:=N;repeat' split at N
    all_goals first|(cases N;simp;done)|cases N
   exact Dd
  iterate 4
   .rename_i I;simp only[It]at f;obtain⟨⟨W,s,b⟩,Z,rfl,rfl⟩:=f;obtain⟨r,w',l,G,ha,u,H⟩:=b7a (h.own.more (own':=st.own++[b]) XL) h.base (h.fresh _ (Jp _)) t Z J E2;refine L G (hK _ w' l ?_);refine h.put ha.own ha.fr (NW ha.keeps h.glo) (h.env.keep ha.keeps) (λk hk=> ?_) (λj x hx=>ha.keeps.own _ _ (h.anc j x hx)) O H;simp only[J4]at hk;rw[u k Dz];exact h.fresh k Dz
  .rename_i T r I;simp only[It]at f;obtain⟨b,Z,rfl,rfl⟩:=f;obtain⟨r,w',l,G,ha,u,H⟩:=b1y hE (h.own.more (own':=st.own++[b]) XL) h.base (h.fresh _ (Jp _)) t I Z E2;refine L G (hK _ w' l ?_);refine h.put ha.own ha.fr (NW ha.keeps h.glo) (h.env.keep ha.keeps) (λk hk=> ?_) (λj x hx=>ha.keeps.own _ _ (h.anc j x hx)) O H;simp only[J4]at hk;rw[u k Dz];exact h.fresh k Dz
  iterate 2
   .rename_i T m k x I;simp only[Js]at f;obtain⟨sm,qk,sk,gy,sx,S,own',V8,f⟩:=f;split at f;rotate_left
    .cases f
    rename_i mt;simp only[Iv]at f;obtain⟨rfl,rfl⟩:=f;obtain⟨w',G,ha,bb⟩:=c14 hE h.own (t _ _ qk) (t _ _ gy) (t _ _ S) V8;have V:(execOp a.eval o).run E.P w=.ok .skip w':=by simp[execOp,I,G]
    unfold Oper.wp;rw[V];show K (a.put o.dst undef) w';rw[mt];exact Dd
  .rename_i x y T U I;split at f;rotate_left
   .cases f
   rename_i Y7;subst Y7;simp only[Js]at f;obtain⟨sx,S,sy,Y8,⟨W,k,own',new⟩,B,f⟩:=f;split at f
   .cases f
   rename_i tg;simp only[Iv]at f;obtain⟨rfl,rfl⟩:=f;obtain⟨r,w',l,G,H,hafter⟩:=c37 (ty:=o.type) h.own h.base (h.fresh _ (Jp _)) (t _ _ S) (t _ _ Y8) B J;have V:(execOp a.eval o).run E.P w=.ok (.value r) w':=by simp only[execOp,I,resolve,Iw,invoke,builtin];rw[show (⟨[x,y]⟩:Array Operand).map a.eval= #[a.eval x,a.eval y]from E2,G];simp
   have bb:new=true/\own'.length=st.own.length+1\/new=false/\own'.length=st.own.length/\k<st.own.length:=by
    simp only[UF,Js]at B;obtain⟨e,_,inf,_,z,_,mg,_,B⟩:=B;split at B;rotate_left
    .cases B
    unfold b54 at B;split at B
    .cases B;exact .inl ⟨rfl,E2⟩
    .split at B
     .simp only[Iv]at B;obtain⟨_,rfl,rfl,rfl⟩:=B;exact .inl ⟨rfl,E2⟩
     .cases B
    .split at B
     .rename_i hk;split at B
      .cases B;exact .inr ⟨rfl,E2,(Jk.1 hk).1⟩
      .cases B
     .cases B
    .cases B
   refine L V (hK _ w' l ?_);rcases hafter with⟨rfl,ha,u⟩|⟨rfl,ha,u⟩
   .refine h.put ha.own ha.fr (NW ha.keeps h.glo) (h.env.keep ha.keeps) (λj hj=> ?_) (λj x hx=>ha.keeps.own _ _ (h.anc j x hx)) O H;rcases bb with⟨_,hl⟩|⟨hf,_⟩
    .rw[u j Dz];exact C9
    .cases hf
   .have tf:∀j x,E.an j=some x->j=k->False:=λj x hx e=>tg (by subst e;simp[Env.an_ak hx]);refine h.put ha.own ha.fr (b1s ha.keeps h.glo) (h.env.change ha.keeps) (λj hj=> ?_) (λj x hx=>ha.keeps.own _ _ (λe=>tf j x hx Ey) (h.anc j x hx)) O H;rcases bb with⟨hf,_⟩|⟨_,hl,nf⟩
    .cases hf
    .rw[u j Dz];exact C9
  .rename_i T x lo hi I;split at f
   .rename_i k S;simp only[Js]at f;obtain⟨⟨W,own'⟩,hrs,f⟩:=f;split at f
    .cases f
    rename_i tg;simp only[Iv]at f;obtain⟨rfl,rfl⟩:=f;have opt:∀y:Option Operand,DO w (held A μ) μ (Py (CP E st.ρ none) y) (y.map a.eval):=by
     intro y;cases y with
     |none=>simp[DO,Py]
     |some y=>
      simp only[Py,Ks];cases hy:CP E st.ρ none y with
      |none=>simp[DO]
      |some s=>simpa[DO]using t _ _ hy
    obtain⟨r,l,G,H,ha,bb,hk,u⟩:=c1f h.own h.base (t _ _ S) (opt lo) (opt hi) hrs J;have V:(execOp a.eval o).run E.P w=.ok (.value r) w:=by simp[execOp,I,G]
    have tf:∀j x,E.an j=some x->j=k->False:=λj x hx e=>tg (by subst e;simp[Env.an_ak hx]);refine L V (hK _ w l ?_);refine h.put ha.own ha.fr (b1s ha.keeps h.glo) (h.env.change ha.keeps) (λj hj=> ?_) (λj x hx=>ha.keeps.own _ _ (λe=>tf j x hx Ey) (h.anc j x hx)) O H;rw[bb]at hj;rw[u j Dz];exact C9
   .simp only[It]at f;obtain⟨⟨W,s⟩,hs,rfl,rfl⟩:=f;rw[<-I]at hs;exact M hs J hK
  .simp only[It]at f;obtain⟨⟨W,s⟩,hs,rfl,rfl⟩:=f;exact M hs J hK
end
def SZ:List Nat->Bool
 | []=>true
 |x::r=> !r.contains x&&SZ r
def BU(k:Nat):List Nat->Option Nat
 | []=>none
 |a::r=>if a=k then some 0 else(BU k r).map (· +1)
theorem Qx{k j:Nat}:∀{l:List Nat},BU k l=some j->l[j]?=some k:=by
 intro l;induction l generalizing j with
 |nil=>intro h;simp[BU]at h
 |cons a r b=>
  intro h;simp only[BU]at h;split at h
  .rename_i e;cases h;simp[e]
  .simp only[Jq]at h;obtain⟨i,c,rfl⟩:=h;simpa using b c
theorem YO{k:Nat}:∀{l:List Nat},BU k l=none->k∉l:=by
 intro l;induction l with
 |nil=>intro _ h;simp at h
 |cons a r c=>
  intro h;simp only[BU]at h;split at h
  .cases h
  .rename_i e;simp only[Option.map_eq_none_iff]at h;intro b;rcases Jv.1 b with b|b
   .exact e b.symm
   .exact c h b
theorem b1d{l:List Nat}(h:l.Nodup){k j:Nat}(b:l[j]?=some k):BU k l=some j:=by
 cases hi:BU k l with
 |none=>exact absurd (Jn b) (YO hi)
 |some i=>
  have m:=Qx hi;obtain⟨c,d⟩:=Jk.1 m;obtain⟨e,f⟩:=Jk.1 b;have g:=Kx.1 h;rcases My i j with a|rfl|a
  .exact absurd (d.trans f.symm) (g i j c e a)
  .rfl
  .exact absurd (f.trans d.symm) (g j i e c a)
def SV.ren00(g:Nat->Option Nat):SV->SV
 |.own k o=>match g k with|some j=>.own j o|none=>.any
 |.osl k=>match g k with|some j=>.osl j|none=>.any
 |.omp k=>match g k with|some j=>.omp j|none=>.any
 |.oel k a i o=>match g k with|some j=>.oel j a i o|none=>.any
 |.fp b k i o=>match g k with|some j=>.fp b j i o|none=>.any
 |.agg _|.tup _=>.any
 |.clo f c=>if c.isEmpty then .clo f []else .any
 |s=>s
def SV.ren0(g:Nat->Option Nat):SV->SV
 |.clo f a=>.clo f (a.map (SV.ren00 g))
 |s=>s.ren00 g
def SV.ren1(g:Nat->Option Nat):SV->SV
 |.agg a=>.agg (a.map (SV.ren0 g))
 |s=>s.ren0 g
def SV.ren2(g:Nat->Option Nat):SV->SV
 |.tup a=>.tup (a.map (SV.ren1 g))
 |s=>s.ren1 g
def Blk.ren(g:Nat->Option Nat):Blk->Blk
 |.cells T d=>.cells T (d.map (SV.ren0 g))
 |.pmap K k a BU=>match g k with|some j=>.pmap K j a BU|none=>.dead
 |.fam T e n (some (i,c)) F=>match g c with|some j=>.fam T e n (some (i,j)) F|none=>.dead
 |.rowh T h n f c i u=>.rowh T h n f c i (u.map (SV.ren0 g))
 |b=>b
section
variable{w:World}{H H':Nat->Prop}{μ μ':Mu}{g:Nat->Option Nat}
theorem b68 (u : ∀ b, H' b → H b) (f : ∀ k j x, g k = some j → μ k = some x → μ' j = some x) {s : SV} {v : Value} (h : D w H μ s v) : D w H' μ' (s.ren00 g) v := by
  have c : s.pure = true → s.ren00 g = s → D w H' μ' (s.ren00 g) v := λy e => by
    rw [e]
    exact IK u h y
  cases h with
  | own h => simp only [SV.ren00]; split; · rename_i d; exact .own (f _ _ _ d h)
             · exact .any
  | osl h => simp only [SV.ren00]; split; · rename_i d; exact .osl (f _ _ _ d h)
             · exact .any
  | omp h => simp only [SV.ren00]; split; · rename_i d; exact .omp (f _ _ _ d h)
             · exact .any
  | oel h => simp only [SV.ren00]; split; · rename_i d; exact .oel (f _ _ _ d h)
             · exact .any
  | fp h =>
    simp only [SV.ren00]
    split
    · rename_i d; cases (D.fp h : D w H μ _ _) with
      | fp h =>
        refine .fp ?_
        split
        · rename_i e
          rw [Ji e] at h
          obtain ⟨z, A, b, l, n, B⟩ := h
          exact ⟨z, A, b, f _ _ _ d l, n, B⟩
        · rename_i e
          rwa [Jj e] at h
    · exact .any
  | agg => exact .any
  | tup => exact .any
  | clo vs hl q =>
    simp only [SV.ren00]
    split
    · rename_i t
      have := List.isEmpty_iff.1 t
      subst this
      exact Cd
    · exact .any
  | int => exact .int
  | bool => exact .bool
  | con => exact .con
  | ub l n => exact .ub l n
  | any => exact .any
  | sl a b o m g C hx t E hl q => exact c rfl rfl
  | rel b o g hi F E hl q => exact c rfl rfl
  | mp r g F C hl q => exact c rfl rfl
theorem Xr(a:∀b,H' b->H b)(c:∀k j x,g k=some j->μ k=some x->μ' j=some x){s:SV}{v:Value}(h:D w H μ s v):D w H' μ' (s.ren0 g) v:=by
 unfold SV.ren0;split
 .cases h with
  |clo d hl e=>
   refine .clo d Ef (λi s v hs f=> ?_);simp only[Iy]at hs;obtain⟨l,m,rfl⟩:=hs;exact b68 a c (e i l v m f)
 .exact b68 a c h
theorem b1m(a:∀b,H' b->H b)(c:∀k j x,g k=some j->μ k=some x->μ' j=some x){s:SV}{v:Value}(h:D w H μ s v):D w H' μ' (s.ren1 g) v:=by
 unfold SV.ren1;split
 .cases h with
  |agg d hl e=>
   refine .agg d Ef (λi s v hs f=> ?_);simp only[Iy]at hs;obtain⟨l,m,rfl⟩:=hs;exact Xr a c (e i l v m f)
 .exact Xr a c h
theorem b1i(a:∀b,H' b->H b)(c:∀k j x,g k=some j->μ k=some x->μ' j=some x){s:SV}{v:Value}(h:D w H μ s v):D w H' μ' (s.ren2 g) v:=by
 unfold SV.ren2;split
 .cases h with
  |tup d hl e=>
   refine .tup d Ef (λi s v hs f=> ?_);simp only[Iy]at hs;obtain⟨l,m,rfl⟩:=hs;exact b1m a c (e i l v m f)
 .exact b1m a c h
theorem DX.ren(hH:∀b,H' b->H b)(t:∀k j x,g k=some j->μ k=some x->μ' j=some x){x:Value}{bl:Blk}(h:DX w H μ x bl):DX w H' μ' x (bl.ren g):=by
 have G:∀{s:SV} {v:Value},s.pure=true->D w H μ s v->D w H' μ' s v:=λI h=>IK hH h I;cases bl with
 |cells T cs=>
  obtain⟨b,J,rfl,d,hl,y,l⟩:=h;refine⟨b,J,rfl,d,Ef,y,λi s v hs z=> ?_⟩;simp only[Iy]at hs;obtain⟨O,P,rfl⟩:=hs;exact Xr hH t (l i O v P z)
 |row T M n f c=>
  obtain⟨a,m,rfl,Q,A,R,hl,S⟩:=h;refine⟨a,m,rfl,Q,A,R,hl,?_⟩;rcases S with h|⟨b,o,J,U,rfl,d,V,y,l⟩
  .exact .inl h
  .exact .inr ⟨b,o,J,U,rfl,d,V,y,λi j s v N hs z=>G (Jr.1 (hl i N).2 s (Jn hs)) (l i j s v N hs z)⟩
 |map K ag L val=>
  obtain⟨r,g,rfl,A,hl,l⟩:=h;exact⟨r,g,rfl,A,hl,λq i s v C hs z=>G (Jr.1 (hl q C).2 s (Jn hs)) (l q i s v C hs z)⟩
 |fam T Ts n W F=>
  obtain⟨ps,qs,rfl,h,d⟩:=h;have B:=h.keep (H':=H') ⟨Jp _,λ_ _ _=>rfl,λb _=>hH b⟩ (λ_ _=>rfl);match W,B,d with
  |none,B,d=>exact⟨ps,qs,rfl,B,λi c e=>E8⟩
  |some (i,c),B,d=>
   simp only[Blk.ren];split
   .rename_i j E;refine⟨ps,qs,rfl,B,λi' c' e=> ?_⟩;cases e;obtain⟨p,X,Y⟩:=d i c rfl;exact⟨p,X,t _ _ _ E Y⟩
   .exact Jm
 |pmap K k L BU=>
  simp only[Blk.ren];split
  .rename_i j E;obtain⟨⟨ps,qs,Z⟩,r,g,rfl,A,l⟩:=h;refine⟨⟨ps,qs,t _ _ _ E Z⟩,r,g,rfl,A,λq C=> ?_⟩;obtain⟨p,e,h⟩:=l q C;refine⟨p,e,?_⟩;cases h with
   |fp h=>
    simp only[L1]at h;obtain⟨ps,qs,b,y,h2,h3⟩:=h;exact .fp (by simp only[L1];exact⟨ps,qs,b,t _ _ _ E y,h2,h3⟩)
  .exact Jm
 |rowh T M n f c i u=>exact Om.to (SV.ren0 g) (λ_ _=>rfl) (λs v I h=>G I h) (λs v h=>Xr hH t h) h
 |pool T M n l al ln ct=>
  obtain⟨ps,qs,rfl,h⟩:=h;exact De
 |dead=>exact Jm
end
def SV.refs0:SV->List Nat
 |.own k _|.osl k|.omp k|.oel k _ _ _|.fp _ k _ _=>[k]
 |_=>[]
def SV.refs1:SV->List Nat
 |.agg a=>a.flatMap SV.refs0
 |.clo _ a=>a.flatMap SV.refs0
 |s=>s.refs0
def Blk.refs:Blk->List Nat
 |.cells _ a=>a.flatMap SV.refs1
 |.pmap _ k _ _=>[k]
 |_=>[]
def c33:List Nat->List Nat->List Nat
 |a,[]=>a
 |a,k::r=>c33 (if a.contains k then a else a++[k]) r
def close(own:List Blk):Nat->List Nat->List Nat
 |0,l=>l
 |n+1,l=>close own n (c33 l (l.flatMap λk=>match own[k]? with|some b=>b.refs|none=>[]))
def Oa(own:List Blk)(xs:List SV):List Nat:=close own 2 (c33 [] (xs.flatMap SV.refs1))
def RY(g:Nat->Blk->Blk):Nat->List Blk->List Blk
 |_,[]=>[]
 |k,b::r=>g k b::RY g (k+1) r
theorem Yn{g:Nat->Blk->Blk}:∀{l:List Blk} {k i:Nat},(RY g k l)[i]?=(l[i]?).map (g (k+i)):=by
 intro l;induction l with
 |nil=>intro k i;simp[RY]
 |cons b r a=>
  intro k i;match i with
  |0=>simp[RY]
  |i+1=>simp only[RY,M0,a];rw[show k+1+i=k+(i+1)from Dz]
theorem UY{g:Nat->Blk->Blk}:∀{l:List Blk} {k:Nat},(RY g k l).length=l.length:=by
 intro l;induction l with
 |nil=>intro k;rfl
 |cons b r a=>intro k;simp[RY,a]
def Si:Option Blk->Bool
 |some (.row _ _ _ _ _)=>true
 |some (.fam _ _ _ _ _)=>true
 |_=>false
def QB(sel:List Nat)(n:Nat)(j:Nat):Option Nat:=some (if j<sel.length then sel.getD j 0 else n+(j-sel.length))
def SB(sel:List Nat)(own:List Blk)(r:HRes)(a:List Nat):List Blk:=
 RY (λk b=>match BU k sel with|some j=>(r.own.getD j b).ren (QB sel own.length)|none=>b.kill a) 0 own++(r.own.drop sel.length).map (Blk.ren (QB sel own.length))
def NO{α:Sort _}(n:Nat)(K:Nat->α):α:=
 match Nat.beq n 0 with|true=>K 0|false=>match Nat.beq n 1 with|true=>K 1|false=>match Nat.beq n 2 with|true=>K 2|false=>match Nat.beq n 3 with|true=>K 3|false=>match Nat.beq n 4 with|true=>K 4|false=>match Nat.beq n 5 with|true=>K 5|false=>match Nat.beq n 6 with|true=>K 6|false=>match Nat.beq n 7 with|true=>K 7|false=>match Nat.beq n 8 with|true=>K 8|false=>match Nat.beq n 9 with|true=>K 9|false=>match Nat.beq n 10 with|true=>K 10|false=>match Nat.beq n 11 with|true=>K 11|false=>match Nat.beq n 12 with|true=>K 12|false=>match Nat.beq n 13 with|true=>K 13|false=>match Nat.beq n 14 with|true=>K 14|false=>match Nat.beq n 15 with|true=>K 15|false=>match Nat.beq n 16 with|true=>K 16|false=>match Nat.beq n 17 with|true=>K 17|false=>match Nat.beq n 18 with|true=>K 18|false=>match Nat.beq n 19 with|true=>K 19|false=>match Nat.beq n 20 with|true=>K 20|false=>match Nat.beq n 21 with|true=>K 21|false=>match Nat.beq n 22 with|true=>K 22|false=>match Nat.beq n 23 with|true=>K 23|false=>K n
theorem b7n{α:Sort _}(n:Nat)(K:Nat->α):NO n K=K n:=by
 unfold NO;repeat' split
 all_goals first
  |rfl
  |(rename_i h;rw[Nat.eq_of_beq_eq_true h])
def Wj{α:Sort _}:List Nat->(List Nat->α)->α
 | [],K=>K []
 |n::r,K=>NO n λn=>Wj r λr=>K (n::r)
theorem b55{α:Sort _}:∀(l:List Nat) (K:List Nat->α),Wj l K=K l
 | [],_=>rfl
 |n::r,K=>by simp only[Wj,b7n,b55 r]
def SV.g0{α:Sort _}(s:SV)(K:SV->α):α:=match s with
 |.own k o=>NO k λk=>NO o λo=>K (.own k o)
 |.osl k=>NO k λk=>K (.osl k)
 |.oel k a i o=>NO k λk=>NO o λo=>K (.oel k a i o)
 |.rel a n f i o=>NO o λo=>K (.rel a n f i o)
 |.omp k=>NO k λk=>K (.omp k)
 |.fp b k i o=>NO k λk=>NO o λo=>K (.fp b k i o)
 |s=>K s
theorem SV.g0_eq{α:Sort _}(s:SV)(K:SV->α):s.g0 K=K s:=by cases s<;>simp only[SV.g0,b7n]
def gL{α:Sort _}:List SV->(List SV->α)->α
 | [],K=>K []
 |s::r,K=>s.g0 λs=>gL r λr=>K (s::r)
theorem f87{α:Sort _}:∀(l:List SV) (K:List SV->α),gL l K=K l
 | [],_=>rfl
 |s::r,K=>by simp only[gL,SV.g0_eq,f87 r]
def SV.g1{α:Sort _}(s:SV)(K:SV->α):α:=match s with
 |.agg a=>gL a λa=>K (.agg a)
 |.clo f a=>gL a λa=>K (.clo f a)
 |s=>s.g0 K
theorem SV.g1_eq{α:Sort _}(s:SV)(K:SV->α):s.g1 K=K s:=by cases s<;>simp only[SV.g1,f87,SV.g0_eq]
def YR{α:Sort _}:List SV->(List SV->α)->α
 | [],K=>K []
 |s::r,K=>s.g1 λs=>YR r λr=>K (s::r)
theorem f6j{α:Sort _}:∀(l:List SV) (K:List SV->α),YR l K=K l
 | [],_=>rfl
 |s::r,K=>by simp only[YR,SV.g1_eq,f6j r]
def gBlk{α:Sort _}(b:Blk)(K:Blk->α):α:=match b with
 |.cells T d=>gL d λd=>K (.cells T d)
 |.row T a n f c=>K (.row T a n f c)
 |.map T e h v=>K (.map T e h v)
 |.fam T g n j F=>K (.fam T g n j F)
 |.pmap T k h v=>NO k λk=>K (.pmap T k h v)
 |.rowh T a n f c i u=>gL u λu=>K (.rowh T a n f c i u)
 |.pool T a n l m o p=>K (.pool T a n l m o p)
 |.dead=>K .dead
theorem g0w{α:Sort _}(b:Blk)(K:Blk->α):gBlk b K=K b:=by cases b<;>simp only[gBlk,f87,b7n]
def memN:List Nat->Nat->Bool
 | [],_=>false
 |x::r,n=>match Nat.beq x n with
  |true=>true
  |false=>memN r n
theorem d4n:∀(l:List Nat) (n:Nat),memN l n=l.contains n
 | [],_=>rfl
 |x::r,n=>by
  simp only[memN,d4n r,List.contains_cons];split
  .rename_i h;simp[Nat.eq_of_beq_eq_true h]
  .rename_i h;have:¬n=x:=λe=>by rw[e,Nat.beq_refl]at h;cases h
   simp[this]
def XM{α:Sort _}:List Nat->List Nat->(List Nat->α)->α
 |a,[],K=>K a
 |a,k::r,K=>NO k λk=>match memN a k with
  |true=>XM a r K
  |false=>Wj (a++[k]) λa=>XM a r K
theorem c0p{α:Sort _}:∀(l a:List Nat) (K:List Nat->α),XM a l K=K (c33 a l)
 | [],_,_=>rfl
 |k::r,a,K=>by
  simp only[XM,b7n,b55,c33,d4n];split
  .rename_i h;rw[Ji h];exact c0p r _ K
  .rename_i h;rw[Jj (by rw[h];exact Ng)];exact c0p r _ K
def c7y{α:Sort _}(own:List Blk):Nat->List Nat->(List Nat->α)->α
 |0,l,K=>K l
 |n+1,l,K=>XM l (l.flatMap λk=>match own[k]? with|some b=>b.refs|none=>[]) λl=>c7y own n l K
theorem c2r{α:Sort _}{own:List Blk}:∀(n:Nat) (l:List Nat) (K:List Nat->α),c7y own n l K=K (close own n l)
 |0,_,_=>rfl
 |n+1,l,K=>by simp only[c7y,c0p,close,c2r n]
def selF{α:Sort _}(own:List Blk)(xs:List SV)(K:List Nat->α):α:=XM [] (xs.flatMap SV.refs1) λl=>c7y own 2 l K
theorem g32{α:Sort _}(own:List Blk)(xs:List SV)(K:List Nat->α):selF own xs K=K (Oa own xs):=by simp only[selF,c0p,c2r,Oa]
def Yu{β:Type _}(own:List Blk)(g:Nat->Option Nat):List Nat->(List Blk->Option β)->Option β
 | [],K=>K []
 |k::r,K=>match own[k]? with
  |some b=>gBlk (b.ren g) λb=>Yu own g r λa=>K (b::a)
  |none=>none
theorem c9k{β:Type _}{own:List Blk}{g:Nat->Option Nat}:∀(l:List Nat) (K:List Blk->Option β),Yu own g l K=(l.mapM λk=>(own[k]?).map (Blk.ren g)).bind K
 | [],K=>by simp[Yu]
 |k::r,K=>by
  simp only[Yu,g0w];split
  .rename_i b a;rw[c9k r];simp[a,Option.bind_assoc]
  .rename_i a;simp[a]
def ZB{β:Type _}(ρ:Operand->Option SV):List Operand->(List SV->Option β)->Option β
 | [],K=>K []
 |x::r,K=>match ρ x with
  |some s=>s.g1 λs=>ZB ρ r λa=>K (s::a)
  |none=>none
theorem c8p{β:Type _}{ρ:Operand->Option SV}:∀(l:List Operand) (K:List SV->Option β),ZB ρ l K=(l.mapM ρ).bind K
 | [],K=>by simp[ZB]
 |x::r,K=>by
  simp only[ZB,SV.g1_eq];split
  .rename_i s hs;rw[c8p r];simp[hs,Option.bind_assoc]
  .rename_i hs;simp[hs]
def Yd(E:Env)(own:List Blk)(ρ:Operand->Option SV)(g:Op):Option (Prop×SV×List Blk×List Nat):=
 match g with
 |.call c=>match c.callee with
  |.value f=>match ρ f with
   |some (.clo e a)=>(E.Hc e).bind λh=>(c.args.toList.mapM ρ).bind λd=>
    (((Oa own (d++a)).mapM λk=>(own[k]?).map (Blk.ren λk=>BU k (Oa own (d++a))))).bind λb=>
      (h ((d++a).map (SV.ren1 λk=>BU k (Oa own (d++a)))) b).bind λr=>
        if SZ (Oa own (d++a))&&decide (b.length<=r.own.length)&&r.chg.all (λj=>Si b[j]?&& !E.ak ((Oa own (d++a)).getD j 0))then
         some (r.pre,r.res.ren2 (QB (Oa own (d++a)) own.length),SB (Oa own (d++a)) own r (r.chg.map λj=>(Oa own (d++a)).getD j 0),r.chg.map λj=>(Oa own (d++a)).getD j 0)
        else none
   |_=>none
  |_=>none
 |_=>none
def b9m(E:Env)(own:List Blk)(ρ:Operand->Option SV)(g:Op):Option (Prop×SV×List Blk×List Nat):=
 match g with
 |.call c=>match c.callee with
  |.value f=>match ρ f with
   |some (.clo d b)=>match E.Hc d with
    |some h=>ZB ρ c.args.toList λi=>YR (i++b) λe=>selF own e λsel=>
     Yu own (λk=>BU k sel) sel λa=>YR (e.map (SV.ren1 λk=>BU k sel)) λl=>match h l a with
      |some r=>match SZ sel&&decide (a.length<=r.own.length)&&r.chg.all (λj=>Si a[j]?&& !E.ak (sel.getD j 0))with
       |true=>some (r.pre,r.res.ren2 (QB sel own.length),SB sel own r (r.chg.map λj=>sel.getD j 0),r.chg.map λj=>sel.getD j 0)
       |false=>none
      |none=>none
    |none=>none
   |_=>none
  |_=>none
 |_=>none
theorem b96(E:Env)(own:List Blk)(ρ:Operand->Option SV)(e:Op):b9m E own ρ e=Yd E own ρ e:=by
 unfold b9m Yd;split
 .rename_i c;split
  .rename_i f;split
   .rename_i b a hf;cases hh:E.Hc b with
    |none=>simp
    |some h=>
     simp only[c8p,f6j,g32,c9k,M7];congr 1;funext xs;congr 1;funext lown;cases h (List.map (SV.ren1 λk=>BU k (Oa own (xs++a))) (xs++a)) lown with
     |none=>simp
     |some r=>
      simp only[M7];split
      .rename_i d;rw[Ji d]
      .rename_i d;rw[Jj (by rw[d];exact Ng)]
   .rfl
  .rfl
 .rfl
section
variable{E:Env}{B0:Nat}{X A:Nat->Prop}{w0:World}{nt:Nat}{st:St}{a:Act}{w:World}{μ:Mu}
theorem b12:∀{l:List Nat},SZ l=true->l.Nodup
 | [],_=>Nt
 |x::r,h=>by simp only[SZ,Je,Ns,L8]at h;exact Lp.2 ⟨h.1,b12 h.2⟩
theorem c3j(hC:HF E)(h:SD E B0 X A w0 nt st a w μ){o:Oper}{pre:Prop}{s:SV}{own':List Blk}{M:List Nat}(G:Yd E st.own (CP E st.ρ none) o.op=some (pre,s,own',M))(hp:pre)
 {K:Act->World->Prop} {Q:Exit->Act->World->Prop} (hK:∀v H μ',Own B0 X A H μ' own'->Fr B0 X w H->Keeps' M w H (held A μ) (held A μ') μ μ'->(∀k,own'.length<=k->μ' k=none)->(∀k x,E.an k=some x->μ' k=some x)->D H (held A μ') μ' s v->K (a.put o.dst v) H):o.wp E.P a w K Q:=by
 have hρ:=h.opds (g:=none) (λq b e=>E8);unfold Yd at G;split at G;rotate_left
 .cases G
 rename_i c da;split at G;rotate_left
 .cases G
 rename_i f hf;split at G;rotate_left
 .cases G
 rename_i fid N hρf;simp only[Js]at G;obtain⟨l,sa,xs,jm,I,ws,r,hr,G⟩:=G;generalize hsel:Oa st.own (xs++N)=sel at G ws hr;split at G;rotate_left
 .cases G
 rename_i ff;simp only[J3]at ff;obtain⟨⟨mt,bb⟩,V9⟩:=ff;simp only[Iv]at G;obtain⟨rfl,rfl,rfl,rfl⟩:=G;have pu:=b12 mt;obtain⟨m1,m2⟩:=PX ws;have gp:=hρ _ _ hρf;generalize wa:a.eval f=vf at gp;obtain⟨⟨fn,h1,h2,h3⟩,hS⟩:=hC.2.2 fid l sa;cases gp with
 |clo cvs dt s9=>
 have hD:=c7c (Ur (a:=a) hρ jm) (⟨dt,s9⟩:DL w (held A μ) μ N cvs);have hm:c.args.map a.eval=(c.args.toList.map a.eval).toArray:=F7;have bt:(execOp a.eval o).run E.P w=.ok (.enter fid ((c.args.toList.map a.eval)++cvs).toArray) w:=by simp only[execOp,da,resolve,hf,wa,Deferred.ofValue,hm,Iw,invoke,callFunc,run_program,h1,h2,J5,h3];simp
 let u:Mu:=λj=>(sel[j]?).bind μ
 let Z:Nat->Prop:=λb=>A b\/∃k x,k∉sel/\μ k=some x/\CS x b
 have z:∀{j x},u j=some x->∃k,sel[j]?=some k/\μ k=some x:=λd=>by simpa[u,Js]using d
 have be:∀b,held Z u b↔held A μ b:=by
  intro b;constructor
  .rintro((C|⟨k,x,_,l,hx⟩)|⟨j,x,d,hx⟩)
   .exact .inl C
   .exact .inr ⟨k,x,l,hx⟩
   .obtain⟨k,_,l⟩:=z d;exact .inr ⟨k,x,l,hx⟩
  .rintro(C|⟨k,x,l,hx⟩)
   .exact .inl (.inl C)
   .by_cases zx:k∈sel
    .obtain⟨j,d,e⟩:=Kg.1 zx;exact .inr ⟨j,x,by simp[u,Jh d,e,l],hx⟩
    .exact .inl (.inr ⟨k,x,zx,l,hx⟩)
 have mf:∀k j x,BU k sel=some j->μ k=some x->u j=some x:=λk j x d l=>by have:=Qx d;simp[u,this,l]
 have W4:∀b,Z b->b<w.heap.size:=by
  rintro b (C|⟨k,x,_,l,hx⟩)
  .exact h.own.bnd b C
  .exact(h.own.rng k x b l hx).1
 have Y9:Own 0 (λ_=>True) Z w u I:=by
  refine⟨λj x d=> ?_,λj j' x x' b d bi hx cx=> ?_,λj x b d hx=> ?_,W4⟩
  .obtain⟨k,l,hx⟩:=z d;obtain⟨bl,e,ba⟩:=h.own.blk k x hx;obtain⟨y,Y,J⟩:=m2 j k l;rw[e]at J;simp only[Ks,Ka]at J;subst J;exact⟨_,Y,ba.ren (λb C=>(be b).1 C) mf⟩
  .obtain⟨k,l,U⟩:=z d;obtain⟨V,L,zy⟩:=z bi;have:=h.own.inj k V x x' b U zy hx cx;subst this;have e1:=b1d pu l;have J:=b1d pu L;rw[e1]at J;cases J;rfl
  .obtain⟨k,l,U⟩:=z d;obtain⟨r1,r2,W⟩:=h.own.rng k x b U hx;refine⟨r1,?_,.inl (Jw _)⟩;rintro(C|⟨V,x',zx,L,cx⟩)
   .exact r2 C
   .have:=h.own.inj k V x x' b U L hx cx;subst this;exact zx (Jn l)
 have hDc:DL w (held Z u) u ((xs++N).map (SV.ren1 λk=>BU k sel)) ((c.args.toList.map a.eval)++cvs):=by refine⟨by simpa using hD.1,λi s v hs hv=> ?_⟩;simp only[Iy]at hs;obtain⟨s0,c6,rfl⟩:=hs;exact b1m (λb C=>(be b).1 C) mf (hD.2 i s0 v c6 hv)
 have hfreshc:∀j,I.length<=j->u j=none:=λj d=>by have:sel[j]?=none:=Ly Dz;simp[u,this]
 have th:∀g t,E.glob g=some t->t.pure=true/\D w (held Z u) BT t (.pointer (some ⟨g,0,none⟩)):=λg t hg=>
  ⟨(h.glo g t hg).1,GW (λb C=>(be b).1 C) (h.glo g t hg).2 (h.glo g t hg).1⟩
 unfold Oper.wp;rw[bt];refine(hS Z w _ _ I u r W4 th Y9 hfreshc hDc hr hp).mono ?_;rintro e H ⟨v,μ',rfl,jf,wb,ft,hsame,O⟩;suffices h5:∃m:Mu,Own B0 X A H m (SB sel st.own r (r.chg.map λj=>sel.getD j 0))/\Fr B0 X w H/\Keeps' (r.chg.map λj=>sel.getD j 0) w H (held A μ) (held A m) μ m/\(∀k,(SB sel st.own r (r.chg.map λj=>sel.getD j 0)).length<=k->m k=none)/\(∀k x,E.an k=some x->m k=some x)/\D H (held A m) m (r.res.ren2 (QB sel st.own.length)) v by
  obtain⟨m,q1,q2,q3,q4,q5,q6⟩:=h5;exact hK v H m q1 q2 q3 q4 q5 q6
 refine⟨λk=>match BU k sel with|some j=>μ' j|none=>if st.own.length<=k then μ' (k-st.own.length+sel.length)else μ k,?_⟩;generalize R:(λk=>match BU k sel with|some j=>μ' j|none=>if st.own.length<=k then μ' (k-st.own.length+sel.length)else μ k:Mu)=m;have hsel_lt:∀{k},k∈sel->k<st.own.length:=λl=>by obtain⟨j,d⟩:=Lg.1 l;obtain⟨y,_,J⟩:=m2 j _ d;simp only[Jq]at J;obtain⟨b,C,_⟩:=J;exact(Jk.1 C).1
 have c1:∀{k j},BU k sel=some j->m k=μ' j:=λd=>by rw[<-R];simp[d]
 have c2:∀{k},st.own.length<=k->m k=μ' (k-st.own.length+sel.length):=λ{k} l=>by
  have:BU k sel=none:=by
   cases e:BU k sel with
   |none=>rfl
   |some j=>have:=hsel_lt (Jn (Qx e));omega
  rw[<-R];simp[this,l]
 have c3:∀{k},BU k sel=none->k<st.own.length->m k=μ k:=λ{k} h1 h2=>by rw[<-R];simp[h1,show¬st.own.length<=k from Dz]
 have ni:∀k j x,QB sel st.own.length k=some j->μ' k=some x->m j=some x:=by
  intro k j x d hx;simp only[QB,Ka]at d;split at d
  .rename_i b6;have:sel[k]?=some j:=by rw[<-d];simp[Jh b6]
   rw[c1 (b1d pu this)];exact hx
  .rename_i ve;rw[c2 Dz,<-d,show st.own.length+(k-sel.length)-st.own.length+sel.length=k from Dz];exact hx
 have bh:∀{k x},m k=some x->(∃j,μ' j=some x/\(BU k sel=some j\/(BU k sel=none/\st.own.length<=k/\j=k-st.own.length+sel.length)))\/(BU k sel=none/\k<st.own.length/\μ k=some x):=by
  intro k x hx;cases B:BU k sel with
  |some j=>exact .inl ⟨j,by rw[<-c1 B];exact hx,.inl rfl⟩
  |none=>
   by_cases l:st.own.length<=k
   .exact .inl ⟨_,by rw[<-c2 l];exact hx,.inr ⟨rfl,l,rfl⟩⟩
   .exact .inr ⟨rfl,Dz,by rw[<-c3 B Dz];exact hx⟩
 have hX:∀{j x b},μ' j=some x->CS x b->b<H.heap.size/\¬Z b/\(w.heap.size<=b\/∃k y,k∈sel/\μ k=some y/\CS y b):=by
  intro j x b d C;obtain⟨r1,r2,W⟩:=jf.rng j x b d C;refine⟨r1,r2,?_⟩;rcases W with W|⟨i,y,B,Y⟩
  .exact .inl W
  .obtain⟨k,l,U⟩:=z B;exact .inr ⟨k,y,Jn l,U,Y⟩
 have hless:∀b,b<w.heap.size->held A m b->held A μ b:=by
  rintro b C (hA|⟨k,x,l,hx⟩)
  .exact .inl hA
  .rcases bh l with⟨j,d,_⟩|⟨_,_,L⟩
   .rcases(hX d hx).2.2 with h'|⟨V,y,_,Y,rh⟩
    .omega
    .exact .inr ⟨V,y,Y,rh⟩
   .exact .inr ⟨k,x,L,hx⟩
 have jp:∀b,held A m b->held Z μ' b:=by
  rintro b (hA|⟨k,x,l,hx⟩)
  .exact .inl (.inl hA)
  .rcases bh l with⟨j,d,_⟩|⟨B,_,L⟩
   .exact .inr ⟨j,x,d,hx⟩
   .exact .inl (.inr ⟨k,x,YO B,L,hx⟩)
 have c8:Keeps' (r.chg.map λj=>sel.getD j 0) w H (held A μ) (held A m) μ m:=by
  refine⟨O.size,λb C hh=>O.block b C (λ⟨j,x,d,hx⟩=> ?_),hless,λk x l hx=> ?_,λk x l hx=> ?_⟩
  .obtain⟨k,_,U⟩:=z d;exact hh (.inr ⟨k,x,U,hx⟩)
  .have b6:k<st.own.length:=by
    rcases Nd k st.own.length with h'|h'
    .exact h'
    .rw[h.fresh k h']at hx;cases hx
   cases B:BU k sel with
   |none=>rw[c3 B b6];exact hx
   |some j=>
    have d:=Qx B;have kq:j<sel.length:=(Jk.1 d).1;have pi:r.chg.contains j=false:=by
     cases hc:r.chg.contains j with
     |false=>rfl
     |true=>
      exfalso;apply l;simp only[Jx];refine⟨j,Ex,?_⟩;simp[d]
    rw[c1 B];exact hsame j x Dz pi (by simp[u,d,hx])
  .simp only[Jx]at l;obtain⟨j,d,rfl⟩:=l;have R3:=Jr.1 V9 j d;simp only[Ke]at R3;obtain⟨S,_⟩:=R3;obtain⟨bl,e,ba⟩:=h.own.blk _ _ hx;cases hsj:sel[j]? with
   |none=>
    have:I[j]?=none:=Ly (by have:=List.getElem?_eq_none_iff.1 hsj;omega);rw[this]at S;cases S
   |some k0=>
    rw[show sel.getD j 0=k0 by simp[hsj]]at e;obtain⟨y,Y,J⟩:=m2 j k0 hsj;rw[e]at J;simp only[Ks,Ka]at J;subst J;rw[Y]at S;cases bl with
    |row T sz n f c=>
     obtain⟨a',m',e1,_⟩:=ba;exact .inl ⟨_,_,_,e1⟩
    |fam T Ts n bz F=>
     obtain⟨ps,qs,e1,_,_⟩:=ba;exact .inr ⟨ps,qs,e1⟩
    |cells=>simp[Si,Blk.ren]at S
    |map=>simp[Si,Blk.ren]at S
    |pmap K k has BU=>
     simp only[Blk.ren]at S;split at S<;>simp[Si]at S
    |rowh=>simp[Si,Blk.ren]at S
    |pool=>simp[Si,Blk.ren]at S
    |dead=>simp[Si,Blk.ren]at S
 have Y4:Fr B0 X w H:=by
  refine⟨O.os,O.tape,O.output,O.drawn,O.size,λi B hx=>O.block i (Kf B h.base) (λ⟨j,x,d,Zp⟩=> ?_)⟩;obtain⟨k,_,U⟩:=z d;rcases(h.own.rng k x i U Zp).2.2 with h'|h'
  .omega
  .exact hx h'
 refine⟨⟨λk x l=> ?_,λk V x x' b l L hx cx=> ?_,λk x b l hx=> ?_,λb C=>Kf (h.own.bnd b C) O.size⟩,Y4,c8,λk l=> ?_,λk x hx=> ?_,b1i jp ni ft⟩
 .rcases bh l with⟨j,d,Zq⟩|⟨B,b6,L⟩
  .obtain⟨bl,e,ba⟩:=jf.blk j x d;refine⟨bl.ren (QB sel st.own.length),?_,ba.ren jp ni⟩;rcases Zq with B|⟨B,ve,rfl⟩
   .have zx:=hsel_lt (Jn (Qx B));unfold SB;rw[Jt (by rw[UY];exact zx),Yn,Jh zx];simp[B,e]
   .unfold SB;rw[Jy (by rw[UY];exact ve),UY,K9,List.getElem?_drop,Nat.add_comm,e];rfl
  .obtain⟨bl,e,ba⟩:=h.own.blk k x L;refine⟨bl.kill _,?_,ba.change c8 (λb C=> ?_)⟩
   .unfold SB;rw[Jt (by rw[UY];exact b6),Yn,e];simp[B]
   .refine O.block b (h.own.rng k x b L C).1 (λ⟨j,y,d,rh⟩=> ?_);obtain⟨k2,fe,hkx2⟩:=z d;have:=h.own.inj k k2 x y b L hkx2 C rh;subst this;exact YO B (Jn fe)
 .rcases bh l with⟨j,d,Zq⟩|⟨B,b6,jb⟩<;>rcases bh L with⟨j',bi,hj2'⟩|⟨b8,g9,W5⟩
  .have:=jf.inj j j' x x' b d bi hx cx;subst this;rcases Zq with B|⟨B,ve,e⟩<;>rcases hj2' with b8|⟨b8,hge',e'⟩
   .have a1:=Qx B;have a2:=Qx b8;rw[a1]at a2;cases a2;rfl
   .have:=(Jk.1 (Qx B)).1;omega
   .have:=(Jk.1 (Qx b8)).1;omega
   .omega
  .exact((hX d hx).2.1 (.inr ⟨V,x',YO b8,W5,cx⟩)).elim
  .exact((hX bi cx).2.1 (.inr ⟨k,x,YO B,jb,hx⟩)).elim
  .exact h.own.inj k V x x' b jb W5 hx cx
 .rcases bh l with⟨j,d,Zq⟩|⟨B,b6,jb⟩
  .obtain⟨r1,r2,W⟩:=hX d hx;refine⟨r1,λhA=>r2 (.inl hA),?_⟩;rcases W with W|⟨V,y,_,Y,rh⟩
   .exact .inl (Lr h.base W)
   .exact(h.own.rng V y b Y rh).2.2
  .obtain⟨r1,r2,W⟩:=h.own.rng k x b jb hx;exact⟨Kf r1 O.size,r2,W⟩
 .have fe:(SB sel st.own r (r.chg.map λj=>sel.getD j 0)).length=st.own.length+(r.own.length-sel.length):=by
   unfold SB;simp[UY]
  rw[fe]at l;rw[c2 Dz];exact wb _ Dz
 .have hx0:=h.anc k x hx;have s4:=Env.an_ak hx;refine c8.own k x (λl=> ?_) hx0;simp only[Jx]at l;obtain⟨j,d,rfl⟩:=l;have R3:=Jr.1 V9 j d;simp only[Je]at R3;rw[s4]at R3;cases R3.2
theorem d2p(g:HF E)(h:SD E B0 X A w0 nt st a w μ){o:Oper}{c:Prop}{s:SV}{own':List Blk}{b:List Nat}(i:Yd E st.own (CP E st.ρ none) o.op=some (c,s,own',b))(j:c)(k:KM nt o.dst=true)
 {K:Act->World->Prop} {Q:Exit->Act->World->Prop} (l:∀e d μ',SD E B0 X A w0 nt ⟨LG o.dst none s (VL b st.ρ),own'⟩ e d μ'->K e d):o.wp E.P a w K Q:=
 c3j g h i j (λ_ d μ' m n f p q r=>l _ d μ' (h.put m n (b1s f h.glo) (h.env.change f) p q k r))
end
end Go.Proofs.YtlffhjfkaepimaaGreatDoor.V
