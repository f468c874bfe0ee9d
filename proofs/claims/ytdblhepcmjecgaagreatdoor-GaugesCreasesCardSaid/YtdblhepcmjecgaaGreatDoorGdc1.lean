/-
  Parts of the proof: V1 V2 V3 V4 V5 V6 V7 V8 V9 V10 M1 V11 V12 V13 V14. Conditions: none.
-/
import Derived.WalkKit
import Derived.ChangeKeysEq
import Derived.MapKept
set_option maxRecDepth 100000
set_option maxHeartbeats 40000000
namespace Go.Proofs.YtdblhepcmjecgaaGreatDoor.V
open Go
theorem It:type_of% @List.getD_eq_getElem?_getD:=@List.getD_eq_getElem?_getD
theorem Iv:type_of% @List.getElem?_eq_getElem:=@List.getElem?_eq_getElem
theorem Iw:type_of% @if_pos:=@if_pos
theorem Ix:type_of% @trivial:=@trivial
theorem Iy:type_of% @if_neg:=@if_neg
theorem Iz:type_of% @List.getElem?_eq_some_iff:=@List.getElem?_eq_some_iff
theorem J0:type_of% @List.mem_of_getElem?:=@List.mem_of_getElem?
theorem J1:type_of% @Option.map_eq_some_iff:=@Option.map_eq_some_iff
theorem J2:type_of% @Nat.le_refl:=@Nat.le_refl
theorem J3:type_of% @Option.bind_eq_some_iff:=@Option.bind_eq_some_iff
theorem J4:type_of% @List.all_eq_true:=@List.all_eq_true
theorem J5:type_of% @Nat.zero_le:=@Nat.zero_le
theorem J6:type_of% @List.getElem?_append_left:=@List.getElem?_append_left
theorem J7:type_of% @Int.toNat_natCast:=@Int.toNat_natCast
theorem J8:type_of% @List.mem_cons:=@List.mem_cons
theorem J9:type_of% @Array.getElem?_eq_some_iff:=@Array.getElem?_eq_some_iff
theorem Ja:type_of% @List.mem_map:=@List.mem_map
theorem Jb:type_of% @List.getElem?_set_ne:=@List.getElem?_set_ne
theorem Jc:type_of% @List.any_eq_true:=@List.any_eq_true
theorem Jd:type_of% @Nat.lt_of_lt_of_le:=@Nat.lt_of_lt_of_le
theorem Je:type_of% @Nat.not_lt_zero:=@Nat.not_lt_zero
theorem Jf:type_of% @List.mem_append:=@List.mem_append
theorem Jg:type_of% @List.mem_iff_getElem:=@List.mem_iff_getElem
theorem Jh:type_of% @Option.some.injEq:=@Option.some.injEq
theorem Ji:type_of% @List.any_eq_false:=@List.any_eq_false
theorem Jj:type_of% @List.length_append:=@List.length_append
theorem Jk:type_of% @List.mem_singleton:=@List.mem_singleton
theorem Jm:type_of% @run_underlying:=@run_underlying
theorem Jn:type_of% @List.getElem_mem:=@List.getElem_mem
theorem Jp:type_of% @Option.some.inj:=@Option.some.inj
theorem Jq:type_of% @decide_eq_false:=@decide_eq_false
theorem Jr:type_of% @List.getElem?_append_right:=@List.getElem?_append_right
theorem Js:type_of% @List.length_map:=@List.length_map
theorem Jt:type_of% @Nat.mul_le_mul_right:=@Nat.mul_le_mul_right
theorem Ju:type_of% @List.mem_cons_of_mem:=@List.mem_cons_of_mem
theorem Jv:type_of% @List.getElem?_map:=@List.getElem?_map
theorem Jw:type_of% @decide_eq_true:=@decide_eq_true
theorem Jx:type_of% @Nat.eq_zero_or_pos:=@Nat.eq_zero_or_pos
theorem Jy:type_of% @Bool.or_eq_true:=@Bool.or_eq_true
theorem Jz:type_of% @decide_eq_true_eq:=@decide_eq_true_eq
theorem K0:type_of% @List.findIdx?_eq_some_iff_getElem:=@List.findIdx?_eq_some_iff_getElem
theorem K1:type_of% @List.mem_range:=@List.mem_range
theorem K2:type_of% @of_decide_eq_true:=@of_decide_eq_true
theorem K3:type_of% @List.length_cons:=@List.length_cons
theorem K4:type_of% @getElem!_pos:=@getElem!_pos
theorem K5:type_of% @if_true:=@if_true
theorem K6:type_of% @Option.getD_some:=@Option.getD_some
theorem K7:type_of% @Option.map_some:=@Option.map_some
theorem K8:type_of% @List.pairwise_iff_getElem:=@List.pairwise_iff_getElem
theorem K9:type_of% @List.getElem?_set_self:=@List.getElem?_set_self
theorem Ka:type_of% @Bool.or_eq_false_iff:=@Bool.or_eq_false_iff
theorem Kb:type_of% @Nat.add_assoc:=@Nat.add_assoc
theorem Kd:type_of% @List.eq_nil_of_length_eq_zero:=@List.eq_nil_of_length_eq_zero
theorem Ke:type_of% @Addr.add_lit:=@Addr.add_lit
theorem Kf:type_of% @Nat.zero_add:=@Nat.zero_add
theorem Kg:type_of% @List.mem_filter:=@List.mem_filter
theorem Kh:type_of% @List.findIdx?_eq_none_iff:=@List.findIdx?_eq_none_iff
theorem Ki:type_of% @List.take_of_length_le:=@List.take_of_length_le
theorem Kj:type_of% @List.mem_iff_getElem?:=@List.mem_iff_getElem?
theorem Kk:type_of% @Array.getElem?_toList:=@Array.getElem?_toList
theorem Km:type_of% @Bool.and_eq_true:=@Bool.and_eq_true
theorem Kn:type_of% @List.take_add_one:=@List.take_add_one
theorem Kp:type_of% @List.mem_cons_self:=@List.mem_cons_self
theorem Kq:type_of% @List.take_length:=@List.take_length
theorem Kr:type_of% @Array.length_toList:=@Array.length_toList
theorem Ks:type_of% @List.getElem?_cons_succ:=@List.getElem?_cons_succ
theorem Kt:type_of% @run_sliceBound:=@run_sliceBound
theorem Ku:type_of% @List.pairwise_cons:=@List.pairwise_cons
theorem Kv:type_of% @Nat.add_mul:=@Nat.add_mul
theorem Kw:type_of% @Int.toNat_of_nonneg:=@Int.toNat_of_nonneg
theorem Kx:type_of% @Array.getElem?_modify:=@Array.getElem?_modify
theorem Kz:type_of% @Nat.add_zero:=@Nat.add_zero
theorem L0:type_of% @List.getElem?_eq_none:=@List.getElem?_eq_none
theorem L1:type_of% @decide_eq_false_iff_not:=@decide_eq_false_iff_not
theorem L2:type_of% @List.cons_append:=@List.cons_append
theorem L3:type_of% @Nat.le_trans:=@Nat.le_trans
theorem L4:type_of% @Nat.mul_comm:=@Nat.mul_comm
theorem L5:type_of% @Int.tmod_eq_emod_of_nonneg:=@Int.tmod_eq_emod_of_nonneg
theorem L6:type_of% @Array.getElem?_setIfInBounds_ne:=@Array.getElem?_setIfInBounds_ne
theorem L7:type_of% @List.mapM_cons:=@List.mapM_cons
theorem L8:type_of% @List.ext_getElem?:=@List.ext_getElem?
theorem L9:type_of% @List.pairwise_map:=@List.pairwise_map
theorem La:type_of% @Array.getElem?_eq_getElem:=@Array.getElem?_eq_getElem
theorem Lb:type_of% @List.mem_or_eq_of_mem_set:=@List.mem_or_eq_of_mem_set
theorem Lc:type_of% @congrArg:=@congrArg
theorem Lg:type_of% @List.length_eq_zero_iff:=@List.length_eq_zero_iff
theorem Lh:type_of% @Result.andThen_ok:=@Result.andThen_ok
theorem Li:type_of% @List.append_assoc:=@List.append_assoc
theorem Lj:type_of% @List.length_set:=@List.length_set
theorem Lk:type_of% @Sem.run_bind:=@Sem.run_bind
theorem Ln:type_of% @Nat.lt_irrefl:=@Nat.lt_irrefl
theorem Lp:type_of% @beq_iff_eq:=@beq_iff_eq
theorem Lq:type_of% @Option.bind_some:=@Option.bind_some
theorem Lr:type_of% @heap_alloc_new:=@heap_alloc_new
theorem Ls:type_of% @cond_true:=@cond_true
theorem Lt:type_of% @Nat.succ_mul:=@Nat.succ_mul
theorem Lu:type_of% @List.mem_of_mem_take:=@List.mem_of_mem_take
theorem Lv:type_of% @Nat.sub_self:=@Nat.sub_self
theorem Lw:type_of% @List.length_nil:=@List.length_nil
theorem Lx:type_of% @Nat.lt_trichotomy:=@Nat.lt_trichotomy
theorem Ly:type_of% @Decidable.not_not:=@Decidable.not_not
theorem Lz:type_of% @RowKit.Below.heap_alloc:=@RowKit.Below.heap_alloc
theorem M0:type_of% @Array.getElem?_setIfInBounds:=@Array.getElem?_setIfInBounds
theorem M1:type_of% @Array.toList_map:=@Array.toList_map
theorem M2:type_of% @Int.mul_le_mul:=@Int.mul_le_mul
theorem M3:type_of% @Int.mul_nonneg:=@Int.mul_nonneg
theorem M4:type_of% @Nat.mod_lt:=@Nat.mod_lt
theorem M5:type_of% @Nat.lt_or_ge:=@Nat.lt_or_ge
theorem M6:type_of% @List.map_map:=@List.map_map
theorem M7:type_of% @Bool.false_ne_true:=@Bool.false_ne_true
theorem M8:type_of% @of_decide_eq_false:=@of_decide_eq_false
theorem M9:type_of% @List.nodup_cons:=@List.nodup_cons
theorem Ma:type_of% @List.map_cons:=@List.map_cons
theorem Mb:type_of% @Bool.false_or:=@Bool.false_or
theorem Mc:type_of% @List.mem_of_mem_drop:=@List.mem_of_mem_drop
theorem Md:type_of% @List.contains_eq_mem:=@List.contains_eq_mem
theorem Me:type_of% @Nat.div_add_mod':=@Nat.div_add_mod'
theorem Mf:type_of% @List.mem_flatMap:=@List.mem_flatMap
theorem Mg:type_of% @Array.toList_append:=@Array.toList_append
theorem Mh:type_of% @Bool.or_false:=@Bool.or_false
theorem Mi:type_of% @List.foldl_cons:=@List.foldl_cons
theorem Mj:type_of% @funext:=@funext
theorem Mk:type_of% @List.mem_filterMap:=@List.mem_filterMap
theorem Mm:type_of% @Bool.eq_iff_iff:=@Bool.eq_iff_iff
theorem Mn:type_of% @decide_true:=@decide_true
theorem Mp:type_of% @true_and:=@true_and
theorem A0{p:Prop}(h:p:=by first|(exfalso;omega)|omega|exact⟨by decide,by decide⟩|exact⟨by omega,by omega⟩|(simp only[inK];omega)|(show _<l.length;omega)|(intro _;show _<l.length;omega)|exact⟨nv _ rfl,h0,by omega,by omega,by omega,by omega⟩|exact⟨nv _ sR.1,h0,by omega,by omega,by omega,by omega,by omega,fun s hs=>h5 s (sR.2 s hs)⟩|exact⟨nv _ sQ.1,h0,by omega,by omega,by omega,by omega,by omega,fun s hs=>h5 s (sQ.2 s hs)⟩):p:=h
theorem A2{p:Prop}(h:p:=by first|rfl|exact fun _ _=>rfl|exact fun _ _=>Ix):p:=h
theorem A3{p:Prop}(h:p:=by first|(exfalso;omega)|omega|exact⟨by decide,by decide⟩|exact⟨by omega,by omega⟩|(simp only[inK];omega)|(show _<l.length;omega)|(intro _;show _<l.length;omega)):p:=h
theorem A4{p:Prop}(h:p:=by simp only[inK];omega):p:=h
theorem A5{p:Prop}(h:p:=by first|rfl|exact fun _ _=>rfl):p:=h
theorem A6{p:Prop}(h:p:=by first|exact A3|exact⟨⟨b04.isL_row _,b04.isL_row _⟩,hq _ (by omega),hq _ (by omega)⟩|exact fun _=>⟨⟨b04.isL_row _,b04.isL_row _⟩,hq _ (by omega),hq _ (by omega)⟩):p:=h
theorem A7{p:Prop}(h:p:=by first|contradiction|exact⟨⟨⟨b09 _,bc.1.1⟩,bc.1.2,bc.2⟩,b2i L bm.1,bm.2⟩):p:=h
theorem A8{p:Prop}(h:p:=by first|rfl|omega|exact fun _ _=>.inl rfl|(intro q _;left;exact f88 (by omega) (by omega))):p:=h
theorem A9{p:Prop}(h:p:=by first|exact⟨by omega,by omega⟩|exact A4):p:=h
theorem Aa{p:Prop}(h:p:=by refine⟨by omega,?_⟩;exact b46 (by kernel_rfl) (by omega)):p:=h
theorem Ab{p:Prop}(h:p:=by rw[b34 vm (by simp[bey,ndx,ndy,ndq,tb];omega)];simp[bey,sq,tq,ndx,ndy,ndq,tb];omega):p:=h
theorem Ad{p:Prop}(h:p:=by exact fun _ _=>.inl rfl):p:=h
theorem Ae{p:Prop}(h:p:=by first|exact A5|exact fun _=>rfl|exact fun _ _=>Ix):p:=h
theorem Af{p:Prop}(h:p:=by first|omega|exact hu|exact dq|(intro i hi;rw[Iy (Je i)];exact dq (i-0) (by omega))|(intro i hi;omega)|exact Aa):p:=h
theorem Ag{p:Prop}(h:p:=by intro j hj;exact absurd hj (Je _)):p:=h
theorem Ah{p:Prop}(h:p:=by first|omega|exact b2i K jb|exact A4|exact⟨⟨paR.is_row _,loR.is_row _,b04.is_row _⟩,b04.isL_row _,⟨bc,bm⟩,qx _,.inl rfl⟩|exact⟨⟨paR.is_row _,loR.is_row _,b04.is_row _⟩,b04.isL_row _,⟨bc,bm⟩,qx _,.inr rfl⟩|exact fun _=>⟨loR.isL_row _,bm⟩|exact(show (0:Nat)<2 by decide)|exact(show (1:Nat)<2 by decide)|exact(Iw h).symm|exact crE_1 (cw (J2 1)) h):p:=h
theorem Ai{p:Prop}(h:p:=by first|(exfalso;omega)|omega|exact⟨by decide,by decide⟩|exact A9):p:=h
theorem Aj{p:Prop}(h:p:=by first|exact A2|omega):p:=h
theorem Ak{p:Prop}(h:p:=by first|exact⟨rfl,by omega,by omega,by omega,by omega⟩|omega):p:=h
theorem Am{p:Prop}(h:p:=by first|omega|exact⟨⟨b09 _,bc.1.1⟩,bc.1.2,by omega,by omega⟩|(show ((b06 p.W p.H).getD j unR.d).1.toNat<(b01 p r).length;omega)|(show (b03 p.W p.H ((b06 p.W p.H).getD j unR.d).1 ((b06 p.W p.H).getD j unR.d).2).toNat<(b01 p r).length;omega)):p:=h
theorem An{p:Prop}(h:p:=by first|omega|exact A4):p:=h
theorem Ap{p:Prop}(h:p:=by first|(rw[hP];rfl)|(rw[hR];rfl)|(rw[hL];rfl)|exact hE.symm|exact fun _ _=>rfl|rfl):p:=h
theorem Aq{p:Prop}(h:p:=by first|exact A5|omega):p:=h
theorem Ar{p:Prop}(h:p:=by first|exact Ai|exact⟨nv _ k1.1,h0,by omega,by omega,by omega,by omega,by omega,fun s hs=>h5 s (k1.2 s hs)⟩):p:=h
theorem As{p:Prop}(h:p:=by first|(exfalso;omega)|omega|exact A9|exact⟨nv,h0,by omega,by omega,by omega,by omega,by omega⟩):p:=h
theorem At{p:Prop}(h:p:=by first|(rw[Iw (by decide +kernel)];kernel_rfl)|(rw[Iy (by decide +kernel)];exact⟨rfl,rfl⟩)):p:=h
theorem Au{p:Prop}(h:p:=by exact⟨by omega,by omega⟩):p:=h
theorem Av{p:Prop}(h:p:=by first|exact J7 _|exact Lc some (J7 _)):p:=h
theorem Aw{p:Prop}(h:p:=by first|omega|(exfalso;omega)|exact A9|(intro _;exact⟨by omega,by omega⟩)|(intro _;simp only[inK];omega)|(intro _;show j<l.length;omega)|(intro _;show j-1<l.length;omega)):p:=h
theorem Ay{p:Prop}(h:p:=by exact⟨⟨⟨b09 _,bc.1.1⟩,bc.1.2⟩,bc.2⟩):p:=h
theorem Az{p:Prop}(h:p:=by first|omega|exact A9|(simp only[inK,f6v];simp;omega)|(simp only[f6v];simp;omega)):p:=h
theorem B1{p:Prop}(h:p:=by dsimp only;omega):p:=h
theorem B2{p:Prop}(h:p:=by exact fun _ _=>rfl):p:=h
theorem B3{p:Prop}(h:p:=by first|exact⟨⟨⟨b09 _,hp.1.1⟩,hp.1.2⟩,hp.2⟩|exact A2):p:=h
theorem B4{p:Prop}(h:p:=by exact fun _ _=>b6y _):p:=h
theorem B5{p:Prop}(h:p:=by intro j hj;show _=b04.sv (upto _ _ 0 j);rw[c1s];rfl):p:=h
theorem B6{p:Prop}(h:p:=by contradiction):p:=h
theorem B7{p:Prop}(h:p:=by first|omega|exact Ad):p:=h
theorem B8{p:Prop}(h:p:=by first|exact g7m|exact g89 hk|exact at_len|exact at_row|exact at_mem|(rw[e1];exact fun _=>j54 hk)):p:=h
theorem B9{p:Prop}(h:p:=by exact fun _ _=>Ix):p:=h
theorem Ba{p:Prop}(h:p:=by first|exact Ai|exact⟨nv _ k1.1,h0,by omega,by omega,by omega,by omega,fun s hs=>h5 s (k1.2 s hs)⟩):p:=h
theorem Bb{p:Prop}(h:p:=by first|exact hu|(intro i hi;omega)|exact Aa):p:=h
theorem Bc{p:Prop}(h:p:=by first|(exfalso;omega)|exact B6|omega|exact A9|exact⟨hp.2.1,hp.2.2.1,hQ⟩|exact hp.1.2 _ (hm h9)):p:=h
theorem Be{p:Prop}(h:p:=by first|exact(b5 (by rw[e2,e];assumption)).1|exact(b5 (by rw[e2,e];assumption)).2|(rw[e2,e];rfl)):p:=h
theorem Bf{p:Prop}(h:p:=by first|exact⟨⟨⟨⟨b09 _,bc.1.1⟩,bc.1.2⟩,bc.2⟩,b2i L bm.1,bm.2⟩|exact Ay):p:=h
theorem Bg{p:Prop}(h:p:=by refine⟨by omega,by omega,?_,by omega⟩;exact c34 (by kernel_rfl) (by omega) (by omega)):p:=h
theorem Bh{p:Prop}(h:p:=by exact⟨⟨⟨rfl,rfl⟩,rfl⟩,hv (by omega)⟩):p:=h
theorem Bi{p:Prop}(h:p:=by exact(g00 fun j hj=>be j (by omega)).symm):p:=h
theorem Bj{p:Prop}(h:p:=by exact fun _=>⟨⟨b04.isL_row _,b04.isL_row _⟩,hq _ (by omega),hq _ (by omega)⟩):p:=h
theorem Bk{p:Prop}(h:p:=by first|exact(h1 (by rw[e];assumption)).1|exact(h1 (by rw[e];assumption)).2|exact e.symm):p:=h
theorem Bm{p:Prop}(h:p:=by intro _;simp only[inK];omega):p:=h
theorem Bn{p:Prop}(h:p:=by exact fun _=>rfl):p:=h
theorem Bp{p:Prop}(h:p:=by first|rfl|exact hS.symm):p:=h
theorem Bq{p:Prop}(h:p:=by first|exact Aj|exact((b8y s K true 0 (by decide) hs).trans (Bool.or_true _)).symm):p:=h
theorem Bs{p:Prop}(h:p:=by first|exact Aj|exact((b8y s K true 1 (by decide) hs).trans (Bool.or_true _)).symm):p:=h
theorem Bt{p:Prop}(h:p:=by first|exact jx|exact Eq.trans jx hS):p:=h
theorem Bu{p:Prop}(h:p:=by intro i;show 1≤_;decide):p:=h
theorem Bv{p:Prop}(h:p:=by intro i;show 2≤_;decide):p:=h
theorem Bw{p:Prop}(h:p:=by intro i;show 3≤_;decide):p:=h
theorem By{p:Prop}(h:p:=by exact⟨(n,f),⟨b2p (f8h _),Ix⟩,hp,rfl⟩):p:=h
theorem Bz{p:Prop}(h:p:=by exact⟨u,by simp[execOp,h1],h2⟩):p:=h
theorem C0{p:Prop}(h:p:=by exact J2 _):p:=h
theorem C1{p:Prop}(h:p:=by exact⟨(0,fun _=>[]),⟨b2p (f01 _),Ix⟩,J5 _,rfl⟩):p:=h
theorem C2{p:Prop}(h:p:=by intro i;show 1≤1;decide):p:=h
theorem C3{p:Prop}(h:p:=by exact⟨rfl,rfl⟩):p:=h
theorem C4{p:Prop}(h:p:=by exact⟨_,_,rfl⟩):p:=h
theorem C5{p:Prop}(h:p:=by rw[Iw ⟨rfl,rfl⟩];trivial):p:=h
theorem C6{p:Prop}(h:p:=by exact .clo vs hl (fun i s v h=>by simp at h)):p:=h
theorem C7{p:Prop}(h:p:=by exact h.fresh j (by omega)):p:=h
theorem C9{p:Prop}(h:p:=by exact⟨(0,fun _=>[]),⟨b2p (f01 _),Ix⟩,⟨J5 _,fun i hi=>absurd hi (Je _)⟩,rfl⟩):p:=h
theorem Ca{p:Prop}(h:p:=by exact⟨(p,r,L),⟨h1,Ix⟩,⟨h2,h3⟩,rfl⟩):p:=h
theorem Cb{p:Prop}(h:p:=by intro i;show 0≤_;decide):p:=h
theorem Cc{p:Prop}(h:p:=by intro i;show 5≤_;decide):p:=h
theorem Cd{p:Prop}(h:p:=by unfold b1d;rw[if_pos];simp only;omega):p:=h
theorem Ce{p:Prop}(h:p:=by exact L3 (List.length_filter_le _ _) (by rw[List.length_take];omega)):p:=h
theorem Cf{p:Prop}(h:p:=by intro i;show 0≤1;decide):p:=h
theorem Cg{p:Prop}(h:p:=by obtain⟨_,_,_,_,_,rfl⟩:=h;rfl):p:=h
theorem Ch{p:Prop}(h:p:=by rw[Ke,b62 hh];exact di):p:=h
theorem Ci{p:Prop}(h:p:=by exact fun hp=>.clo vs hl (fun i s v hs hv=>ih i s v hs hv (g69 (J4.1 hp s (J0 hs))))):p:=h
theorem Cj{p:Prop}(h:p:=by exact .sl _ 0 0 0 (fun _ _=>undef) hn hm hc (fun h=>absurd h (by omega)) hl (fun i j s hi=>absurd hi (by omega))):p:=h
theorem Ck{p:Prop}(h:p:=by exact⟨Ix,h1 _ (Jn this)⟩):p:=h
theorem Cm{p:Prop}(h:p:=by exact⟨j,hj,d8,(b0n bf).2 (.inr hL)⟩):p:=h
theorem Cn{p:Prop}(h:p:=by exact(b0n bf).2 (.inr (h.closed j o' l hj hL hw))):p:=h
theorem Cp{p:Prop}(h:p:=by rename_i hu;simp only[Ih]at h;exact⟨_,hu,fun _=>h.1⟩):p:=h
theorem Cq{p:Prop}(h:p:=by rename_i hu;simp only[Ih]at h;exact flat _ hu rfl trivial (by omega)):p:=h
theorem Ct{p:Prop}(h:p:=by exact ih (fun y hy=>h y (by simp[hy])) hk):p:=h
theorem Cu{p:Prop}(h:p:=by exact⟨⟨⟨⟨⟨⟨⟨⟨⟨⟨⟨⟨⟨⟨⟨⟨⟨⟨⟨⟨⟨⟨⟨⟨⟨⟨⟨⟨⟨⟨⟨k0,k1⟩,k2⟩,k3⟩,k4⟩,k5⟩,k6⟩,k7⟩,k8⟩,k9⟩,k10⟩,k11⟩,k12⟩,k13⟩,k14⟩,k15⟩,k16⟩,k17⟩,k18⟩,k19⟩,k20⟩,k21⟩,k22⟩,k23⟩,k24⟩,k25⟩,k26⟩,k27⟩,k28⟩,k29⟩,k30⟩,k31⟩):p:=h
theorem Cv{p:Prop}(h:p:=by exact(show Go.Proofs.Tryz.prog.wantsStandIn t=false by simpa using this)):p:=h
theorem Cw{p:Prop}(h:p:=by exact .inr ⟨b,o,vs,c7,rfl,hh,ho,h1,fun i j s v hi=>absurd hi (by omega)⟩):p:=h
theorem Cx{p:Prop}(h:p:=by exact⟨(w,hh,l),⟨h1,Ix⟩,h2,rfl⟩):p:=h
theorem Cy{p:Prop}(h:p:=by exact⟨_,rfl,g3n g0b rfl rfl Go.Proofs.Tryz.underlying4 rfl (by kernel_rfl) hW (d6j bg)⟩):p:=h
theorem Cz{p:Prop}(h:p:=by exact⟨_,w,_,b8j ht hi Nb,.osl (by simp[Mu.set]),.inl ⟨rfl,⟨o1,Fr.refl _ _ _,o2⟩,fun j hj=>by simp[Mu.set,hj]⟩⟩):p:=h
theorem D3{p:Prop}(h:p:=by exact⟨_,_,_,hr,.osl (by simp[Mu.set]),.inr ⟨rfl,ha,fun j hj=>by simp[Mu.set,hj]⟩⟩):p:=h
theorem D4{p:Prop}(h:p:=by exact⟨p,e1,e2,by simp[b3e,e3],by simp only[this,if_false];exact e4⟩):p:=h
theorem D5{p:Prop}(h:p:=by exact fun _=>.mp r g (fun hh=>hb (hH _ hh)) hm hl (fun q i s v hq hs hv=>ih q i s v hq hs hv (J4.1 (hl q hq).2 s (J0 hs)))):p:=h
theorem D6{p:Prop}(h:p:=by exact fun _=>.rel b o g hi (fun hh=>hb (hH _ hh)) h8 hl (fun i j s hi hs=>ih i j s hi hs (J4.1 (hl i hi).2 s (J0 hs)))):p:=h
theorem D7{p:Prop}(h:p:=by exact hK _ w' μ ⟨ha.own,h.fr.trans ha.fr,L3 h.base ha.fr.size,b21 ha.keeps h.glo,h.dfr,h.size,h.env.keep ha.keeps,fun k hk=>h.fresh k (by rw[←b8];exact hk),h.anc⟩):p:=h
theorem D8{p:Prop}(h:p:=by exact⟨qs,rfl,h.keep ⟨J2 _,fun _ _ _=>rfl,fun b _=>hH b⟩ (fun _ _=>rfl)⟩):p:=h
theorem D9{p:Prop}(h:p:=by subst e1;rw[m1]at hy;exact .inl ⟨rfl,(Jp hy).symm⟩):p:=h
theorem Da{p:Prop}(h:p:=by exact .sl a b o m g hm hx (b5h hc j7) (fun h=>absurd h (Ln _)) (fun i hi=>absurd hi (Je _)) (fun i j s hi=>absurd hi (Je _))):p:=h
theorem Db{p:Prop}(h:p:=by exact .sl none 0 0 0 (fun _ _=>undef) (J2 _) (by simp[maxLen]) (b5h hc (.inr rfl)) (fun h=>absurd h (Ln _)) (fun i hi=>absurd hi (Je _)) (fun i j s hi=>absurd hi (Je _))):p:=h
theorem Dc{p:Prop}(h:p:=by exact .mp r g hb hm (fun q hq=>by rw[←h2 q hq];exact hl q hq) (fun q i s v hq hs hv=>hd q i s v hq (by rw[h2 q hq];exact hs) hv)):p:=h
theorem Dd{p:Prop}(h:p:=by exact⟨e₂,a₂,w₂,hq₂,.of_steps (Steps.trans dt (.one step_inLoop)) harr₂⟩):p:=h
theorem De{p:Prop}(h:p:=by exact b0i (fun b hb=>by rcases hb with hb|⟨k,x,hk,_⟩;exact hb;cases hk) (hg g s qy).2 (hg g s qy).1):p:=h
theorem Df{p:Prop}(h:p:=by exact this.keep ⟨J2 _,fun _ _ _=>rfl,fun b _ hb=>(by rcases hb with hb|⟨k,x,hk,_⟩;exact hb;cases hk),fun _ _ h=>(by cases h)⟩):p:=h
theorem Dg{p:Prop}(h:p:=by exact⟨by simp[SV.le0],by simp[SV.le0],b8i h1 q1.1,mvR.as_le h2 q2,clR.as_le h3 q3,by simp[SV.le0],by simp[SV.le0],by simp[SV.le0],Ix⟩):p:=h
theorem Dh{p:Prop}(h:p:=by exact⟨e,fun hk=>by simp[atS,e,hk,loC,hiC,fa],fun hk=>by simp[atS,e,hk]⟩):p:=h
theorem Di{p:Prop}(h:p:=by exact⟨p,⟨(b44 hx hp.1).1,Ix⟩,⟨(b44 hx hp.1).2,hp.2⟩,rfl⟩):p:=h
theorem Dj{p:Prop}(h:p:=by exact⟨(p,i,e),⟨(b44 hx hp.1).1,by simp[SV.le2,SV.le1,SV.le0],by simp[SV.le2,SV.le1,SV.le0],Ix⟩,⟨(b44 hx hp.1).2,hp.2⟩,rfl⟩):p:=h
theorem Dk{p:Prop}(h:p:=by exact c3s (fun t ht=>f16 hk qz ht) (fun v hv=>h1 v (by simpa using hv)) (Array.mem_toList_iff.1 hv)):p:=h
theorem Dm{p:Prop}(h:p:=by exact⟨(b04.lst n f,(im,cp),c,z),⟨b2p (b04.as_leL hx hp.2.1.1),⟨rfl,rfl⟩,Ix⟩,⟨by simp only[RT.lst_length];exact hp.2.1.2,hp.2.2⟩,rfl⟩):p:=h
theorem Dn{p:Prop}(h:p:=by exact⟨(p,r,L),⟨a1.1,a1.2.1,b1,Ix⟩,⟨a2,b2,hp.2.2⟩,rfl⟩):p:=h
theorem Dp{p:Prop}(h:p:=by exact⟨(W,H),⟨by simp[SV.le2,SV.le1,b24,SV.le0],Ix⟩,hp,rfl⟩):p:=h
theorem Dq{p:Prop}(h:p:=by exact⟨(n,f),⟨b2p (f8h _),Ix⟩,rfl,Ix,hp,rfl,rfl,rfl⟩):p:=h
theorem Dr{p:Prop}(h:p:=by exact⟨L,⟨h1,by simp[SV.le2,SV.le1,SV.le0],Ix⟩,h2,rfl⟩):p:=h
theorem Ds{p:Prop}(h:p:=by exact⟨((p,r,L),t,s),⟨h1,by simp[SV.le2,SV.le1,b24,SV.le0],Ix⟩,⟨h2,h3⟩,rfl⟩):p:=h
theorem Dt{p:Prop}(h:p:=by omega):p:=h
theorem Du{p:Prop}(h:p:=by kernel_rfl):p:=h
theorem Dv{p:Prop}(h:p:=by simp):p:=h
theorem Dw{p:Prop}(h:p:=by with_reducible assumption):p:=h
theorem Dx{p:Prop}(h:p:=by assumption):p:=h
theorem Dy{p:Prop}(h:p:=by decide):p:=h
theorem Dz{p:Prop}(h:p:=by simp[SV.le0]):p:=h
theorem E1{p:Prop}(h:p:=by simpa using h):p:=h
theorem E2{p:Prop}(h:p:=by cases h):p:=h
theorem E3{p:Prop}(h:p:=by simp[SV.le2,SV.le1,SV.le0]):p:=h
theorem E4{p:Prop}(h:p:=by cases e):p:=h
theorem E5{p:Prop}(h:p:=by simp;omega):p:=h
theorem E6{p:Prop}(h:p:=by show _-(i+1)<_-i;omega):p:=h
theorem E7{p:Prop}(h:p:=by simp at h):p:=h
theorem E8{p:Prop}(h:p:=by simp[SV.le2,SV.le1,b24,SV.le0]):p:=h
theorem E9{p:Prop}(h:p:=by simpa using hl):p:=h
theorem Ea{p:Prop}(h:p:=by show f<f+1;omega):p:=h
theorem Eb{p:Prop}(h:p:=by simpa[SV.cells]using hc.symm):p:=h
theorem Ec{p:Prop}(h:p:=by simp[Mu.set]):p:=h
theorem Ed{p:Prop}(h:p:=by show i+1≤_;omega):p:=h
theorem Ee{p:Prop}(h:p:=by simp[SV.le2,SV.le1,SV.le0];omega):p:=h
theorem Ef{p:Prop}(h:p:=by simp[hx]):p:=h
theorem Eg{p:Prop}(h:p:=by rw[Iw ⟨rfl,rfl⟩];trivial):p:=h
theorem Eh{p:Prop}(h:p:=by simp[h1]):p:=h
theorem Ei{p:Prop}(h:p:=by simpa using hc):p:=h
theorem Ej{p:Prop}(h:p:=by simpa using hi):p:=h
theorem Ek{p:Prop}(h:p:=by simpa using hj):p:=h
theorem Em{p:Prop}(h:p:=by simp[Mu.set,hj]):p:=h
theorem En{p:Prop}(h:p:=by simp[b0j]):p:=h
theorem Ep{p:Prop}(h:p:=by simp only[maxLen];omega):p:=h
theorem Er{p:Prop}(h:p:=by simpa using e):p:=h
theorem Es{p:Prop}(h:p:=by simp[Region.wanted,jh]):p:=h
theorem Et{p:Prop}(h:p:=by rw[hs.1];omega):p:=h
theorem Eu{p:Prop}(h:p:=by rw[sR.1];omega):p:=h
theorem Ev{p:Prop}(h:p:=by simpa[Mu.set]using hj.symm):p:=h
theorem Ew{p:Prop}(h:p:=by simpa using ht):p:=h
theorem Ex{p:Prop}(h:p:=by apply Array.ext';simp):p:=h
theorem Ey{p:Prop}(h:p:=by simpa[SV.ro1]using hr.symm):p:=h
theorem Ez{p:Prop}(h:p:=by simp only[inK];omega):p:=h
theorem F0{p:Prop}(h:p:=by simpa using bh):p:=h
theorem F1{p:Prop}(h:p:=by rw[h.kl];exact fq):p:=h
theorem F2{p:Prop}(h:p:=by simpa[Mu.set,e]using hj):p:=h
theorem F3{p:Prop}(h:p:=by simp[maxLen]):p:=h
theorem F4{p:Prop}(h:p:=by simp[hy]):p:=h
theorem F5{p:Prop}(h:p:=by simpa using h4):p:=h
theorem F6{p:Prop}(h:p:=by simp only[fB,f39 r]):p:=h
theorem F7{p:Prop}(h:p:=by rw[bk];exact(J9.1 ho).1):p:=h
theorem F8{p:Prop}(h:p:=by simp[b0t]at h):p:=h
theorem F9{p:Prop}(h:p:=by simp[bey,ndx,ndy,ndq,tb];omega):p:=h
theorem Fa{p:Prop}(h:p:=by rw[e];decide):p:=h
theorem Fb{p:Prop}(h:p:=by show j+1≤_;omega):p:=h
theorem Fc{p:Prop}(h:p:=by show _-(j+1)<_-j;omega):p:=h
theorem Fe{p:Prop}(h:p:=by rw[Iw rfl];trivial):p:=h
theorem Ff{p:Prop}(h:p:=by cases hc):p:=h
theorem Fg{p:Prop}(h:p:=by simpa using hu):p:=h
theorem Fh{p:Prop}(h:p:=by simpa using hv):p:=h
theorem Fi{p:Prop}(h:p:=by simp[b5c]):p:=h
theorem Fj{p:Prop}(h:p:=by simpa using nw):p:=h
theorem Fk{p:Prop}(h:p:=by simpa using hq):p:=h
theorem Fm{p:Prop}(h:p:=by simpa using hs):p:=h
theorem Fn{p:Prop}(h:p:=by rw[b3x];exact J2 _):p:=h
theorem Fp{p:Prop}(h:p:=by simpa[SV.in0]using hi):p:=h
theorem Fq{p:Prop}(h:p:=by simpa[b3d]using du):p:=h
theorem Fs{p:Prop}(h:p:=by show (i+j)/2+1≤j;omega):p:=h
theorem Ft{p:Prop}(h:p:=by show i≤(i+j)/2;omega):p:=h
theorem Fu{p:Prop}(h:p:=by simpa[gk]using hi):p:=h
theorem Fv{p:Prop}(h:p:=by unfold vC;omega):p:=h
theorem Fw{p:Prop}(h:p:=by rw[h.ol];exact fq):p:=h
theorem Fx{p:Prop}(h:p:=by unfold cnt;rw[if_pos hs]):p:=h
theorem Fy{p:Prop}(h:p:=by simp[Program.elem,hT]):p:=h
theorem Fz{p:Prop}(h:p:=by simp[c4v]at h):p:=h
theorem G0{p:Prop}(h:p:=by rw[j8.1,gv];omega):p:=h
theorem G1{p:Prop}(h:p:=by rwa[L4]):p:=h
theorem G2{p:Prop}(h:p:=by rw[←(hl i hi).1];exact(Iz.1 hs).1):p:=h
theorem G3{p:Prop}(h:p:=by simpa using hb):p:=h
theorem G4{p:Prop}(h:p:=by rw[←(fb i b7).1];exact(Iz.1 hs).1):p:=h
theorem G5{p:Prop}(h:p:=by rw[mz];omega):p:=h
theorem G6{p:Prop}(h:p:=by rw[fq];omega):p:=h
theorem G7{p:Prop}(h:p:=by rw[←l1];exact(Iz.1 hs).1):p:=h
theorem G8{p:Prop}(h:p:=by rw[←hf i hi];exact hl i hi):p:=h
theorem G9{p:Prop}(h:p:=by rw[hf i hi];exact hs):p:=h
theorem Ga{p:Prop}(h:p:=by simpa using h3):p:=h
theorem Gb{p:Prop}(h:p:=by simpa using pAlong):p:=h
theorem Gc{p:Prop}(h:p:=by rw[←hL];exact(Iz.1 hs).1):p:=h
theorem Gd{p:Prop}(h:p:=by show 3-(e+1)<3-e;omega):p:=h
theorem Ge{p:Prop}(h:p:=by unfold b0q;rw[if_pos];omega):p:=h
theorem Gf{p:Prop}(h:p:=by simp[bey,ndx,ndy,ndq,tb]):p:=h
theorem Gg{p:Prop}(h:p:=by show _-(k+1)<_-k;omega):p:=h
theorem Gh{p:Prop}(h:p:=by unfold cnt;rw[if_pos jc]):p:=h
theorem Gi{p:Prop}(h:p:=by show j-((i+j)/2+1)≤f;omega):p:=h
theorem Gj{p:Prop}(h:p:=by show (i+j)/2-i≤f;omega):p:=h
theorem Gk{p:Prop}(h:p:=by have:=I.S.vc s hs;unfold vC at this;omega):p:=h
theorem Gm{p:Prop}(h:p:=by unfold shW;omega):p:=h
theorem Gn{p:Prop}(h:p:=by rw[c0g];exact J2 _):p:=h
theorem Gp{p:Prop}(h:p:=by rw[ji,w5];exact hT):p:=h
theorem Gq{p:Prop}(h:p:=by rw[b12];exact ho):p:=h
theorem Gr{p:Prop}(h:p:=by rw[←h.pl];exact(Iz.1 e1).1):p:=h
theorem Gs{p:Prop}(h:p:=by rw[←(dq i b7).1];exact(Iz.1 hs).1):p:=h
theorem Gt{p:Prop}(h:p:=by simpa[b3e,ep]using hp):p:=h
theorem Gu{p:Prop}(h:p:=by subst e;rw[Env.an_ak hx]at n8;cases n8):p:=h
theorem Gv{p:Prop}(h:p:=by simp[Region.wanted,(d36 hf).2]):p:=h
theorem Gw{p:Prop}(h:p:=by rw[hD.1,l1];exact b8 i):p:=h
theorem Gx{p:Prop}(h:p:=by rw[hD.1,l1];exact h9):p:=h
theorem Gy{p:Prop}(h:p:=by simp[It,hi]):p:=h
theorem Gz{p:Prop}(h:p:=by simp only[RT.lst_length];exact hq.2.1):p:=h
theorem H0{p:Prop}(h:p:=by simpa using b3h):p:=h
theorem H1{p:Prop}(h:p:=by simp only[b32];exact q1.2):p:=h
theorem H2{p:Prop}(h:p:=by simpa using b8s):p:=h
theorem H3{p:Prop}(h:p:=by simpa using b2c):p:=h
theorem H4{p:Prop}(h:p:=by have:=K1.1 hj;omega):p:=h
theorem H5{p:Prop}(h:p:=by rw[hr,c9b e3,h1];rfl):p:=h
theorem H6{p:Prop}(h:p:=by simp[g2n,SV.le2,SV.le1,b24,SV.le0]):p:=h
theorem H7{p:Prop}(h:p:=by rw[List.length_take];omega):p:=h
theorem H8{p:Prop}(h:p:=by show _-(q+1)<_-q;omega):p:=h
theorem H9{p:Prop}(h:p:=by show (b2d _ _).length≤_;rw[b0p];omega):p:=h
theorem Ha{p:Prop}(h:p:=by simpa[encF]using hj):p:=h
theorem Hb{p:Prop}(h:p:=by rw[It,Iv h,K6];exact Jn h):p:=h
theorem Hd{p:Prop}(h:p:=by simp only[K3];omega):p:=h
theorem He{p:Prop}(h:p:=by show (i+j)/2≤m;omega):p:=h
theorem Hf{p:Prop}(h:p:=by show a≤(i+j)/2+1;omega):p:=h
theorem Hg{p:Prop}(h:p:=by show i+1≤l.length;omega):p:=h
theorem Hh{p:Prop}(h:p:=by show i+1≤p.l.length;omega):p:=h
theorem Hi{p:Prop}(h:p:=by show p.l.length-(i+1)<p.l.length-i;omega):p:=h
theorem Hj{p:Prop}(h:p:=by unfold b9m;exact⟨rfl,fun h=>h,fun q s h=>⟨s,h,fun h=>h⟩⟩):p:=h
theorem Hk{p:Prop}(h:p:=by rw[←Lt];exact Jt _ h9):p:=h
theorem Hm{p:Prop}(h:p:=by rw[←Lt];exact Jt _ hgt):p:=h
theorem Hn{p:Prop}(h:p:=by have:=List.isEmpty_iff.1 hc;subst this;rfl):p:=h
theorem Hp{p:Prop}(h:p:=by rw[←l1];exact(Iz.1 ht).1):p:=h
theorem Hq{p:Prop}(h:p:=by simp only[Jc];exact⟨_,Jn h9,h⟩):p:=h
theorem Hr{p:Prop}(h:p:=by subst e;rw[hμk]at hx;exact Pp _ _ (Jp hx).symm):p:=h
theorem Hs{p:Prop}(h:p:=by rw[K9 (Iz.1 hk).1]):p:=h
theorem Ht{p:Prop}(h:p:=by rw[L7,Lk,hv,Lh,Lk,v7,Lh,Sem.run_pure]):p:=h
theorem Hv{p:Prop}(h:p:=by have:=Env.ak_lt (Env.an_ak hx);rw[zr]at this;omega):p:=h
theorem Hw{p:Prop}(h:p:=by simp[RT.row,RT.lst,It,hi]):p:=h
theorem Hx{p:Prop}(h:p:=by simpa using ‹(!decide (b0g b.p.W b.p.H u e=0))=false›):p:=h
theorem Hy{p:Prop}(h:p:=by simpa[Go.Sort.putRow,mapBlock,Sort.ahead]using hi):p:=h
theorem Hz{p:Prop}(h:p:=by simpa using ‹(!decide (b0g p.W p.H i e=0))=false›):p:=h
theorem I0{p:Prop}(h:p:=by simpa using ‹(!decide (b0e W H=0))=false›):p:=h
theorem I1{p:Prop}(h:p:=by have:=Jt k (show i+1≤d.size from hi);rwa[Kv,Nat.one_mul]at this):p:=h
theorem I3{p:Prop}(h:p:=by have:=@b4f n 1 3;rw[grt3]at this;omega):p:=h
theorem I4{p:Prop}(h:p:=by rw[←Lt];exact Jt _ Dt):p:=h
theorem I5{p:Prop}(h:p:=by rw[show d2z W H a b 0=false from h 0 Dy];decide):p:=h
theorem I6{p:Prop}(h:p:=by rw[Jr (by rw[cf.pl];exact J2 _),cf.pl,Lv];rfl):p:=h
theorem I7{p:Prop}(h:p:=by rw[show d2z W H a b 1=false from h 1 Dy];decide):p:=h
theorem I8:type_of% @Int.toNat_natCast∧type_of% @decide_eq_false_iff_not∧type_of% @decide_eq_true_eq:=⟨@Int.toNat_natCast,@decide_eq_false_iff_not,@decide_eq_true_eq⟩
theorem I9:type_of% @Bool.not_eq_false'∧type_of% @Bool.not_eq_true':=⟨@Bool.not_eq_false',@Bool.not_eq_true'⟩
theorem Ia:type_of% @Option.map_eq_some_iff.{0,0}∧type_of% @Prod.mk.injEq.{0,0}:=⟨@Option.map_eq_some_iff,@Prod.mk.injEq⟩
theorem Ib:type_of% @Option.some.injEq.{0}∧type_of% @Prod.mk.injEq.{0,0}:=⟨@Option.some.injEq,@Prod.mk.injEq⟩
theorem Ic:type_of% @Result.andThen_ok∧type_of% @Sem.run_bind∧type_of% @Sem.run_pure:=⟨@Result.andThen_ok,@Sem.run_bind,@Sem.run_pure⟩
theorem Id:type_of% @List.getElem?_map.{0,0}∧type_of% @Option.map_eq_some_iff.{0,0}:=⟨@List.getElem?_map,@Option.map_eq_some_iff⟩
theorem Ie:type_of% @decide_eq_false_iff_not∧type_of% @decide_eq_true_eq:=⟨@decide_eq_false_iff_not,@decide_eq_true_eq⟩
theorem If:type_of% @Bool.and_eq_false_iff∧type_of% @Bool.and_eq_true:=⟨@Bool.and_eq_false_iff,@Bool.and_eq_true⟩
theorem Ig:type_of% @List.length_append.{0}∧type_of% @List.length_cons.{0}∧type_of% @List.length_nil.{0}:=⟨@List.length_append,@List.length_cons,@List.length_nil⟩
theorem Ih:type_of% @Bool.and_eq_true∧type_of% @decide_eq_true_eq:=⟨@Bool.and_eq_true,@decide_eq_true_eq⟩
theorem Ii:type_of% @Option.bind_eq_bind.{0}∧type_of% @Option.bind_eq_some_iff.{0,0}:=⟨@Option.bind_eq_bind,@Option.bind_eq_some_iff⟩
theorem Ij:type_of% @Bool.false_eq_true∧type_of% @if_false.{1}:=⟨@Bool.false_eq_true,@if_false⟩
theorem Ik:type_of% @Option.getD_some.{0}∧type_of% @Option.map_some.{0,0}:=⟨@Option.getD_some,@Option.map_some⟩
theorem Im:type_of% @List.getD_eq_getElem?_getD.{0}∧type_of% @Option.getD_some.{0}:=⟨@List.getD_eq_getElem?_getD,@Option.getD_some⟩
theorem In:type_of% @Bool.and_eq_true∧type_of% @beq_iff_eq.{0}:=⟨@Bool.and_eq_true,@beq_iff_eq⟩
theorem Ip:type_of% @List.cons.injEq.{0}∧type_of% @and_true:=⟨@List.cons.injEq,@and_true⟩
theorem Iq:type_of% @Array.replicate_succ.{0}∧type_of% @Array.replicate_zero.{0}∧type_of% @List.append_toArray.{0}∧type_of% @List.cons_append.{0}∧type_of% @List.length_cons.{0}∧type_of% @List.length_nil.{0}∧type_of% @List.nil_append.{0}∧type_of% @List.push_toArray.{0}∧type_of% @List.size_toArray.{0}:=⟨@Array.replicate_succ,@Array.replicate_zero,@List.append_toArray,@List.cons_append,@List.length_cons,@List.length_nil,@List.nil_append,@List.push_toArray,@List.size_toArray⟩
theorem Ir:type_of% @Result.andThen_ok∧type_of% @Sem.run_bind:=⟨@Result.andThen_ok,@Sem.run_bind⟩
theorem Is:type_of% @Bool.and_eq_true∧type_of% @Bool.not_eq_true':=⟨@Bool.and_eq_true,@Bool.not_eq_true'⟩
inductive KT where
 |int1 (k:IntKind)
 |ints (ks:List IntKind)
 |str
 deriving DecidableEq
inductive SV where
 |int (k:IntKind) (n:Int)
 |bool (b:Bool)
 |con (v:Value)
 |own (k off:Nat)
 |osl (k:Nat)
 |oel (k sz i off:Nat)
 |sl (sz n:Nat) (f:Nat→List SV) (c:Option Nat)
 |rel (sz n:Nat) (f:Nat→List SV) (i off:Nat)
 |agg (cs:List SV)
 |tup (vs:List SV)
 |clo (fn:FuncId) (cs:List SV)
 |omp (k:Nat)
 |mp (K:KT) (ag:Bool) (has:List Int→Bool) (val:List Int→List SV)
 |fp (ok:Bool) (k i off:Nat)
 |ub (p q:Prop)
 |any
def SV.pure0:SV→Bool
 |.own _ _|.osl _|.oel _ _ _ _|.agg _|.tup _|.omp _|.fp _ _ _ _=>false
 |.clo _ cs=>cs.isEmpty
 |_=>true
def SV.pure:SV→Bool
 |.clo _ cs=>cs.all SV.pure0
 |s=>s.pure0
theorem g69{s:SV}(h:s.pure0=true):s.pure=true:=by
 cases s<;>simp_all[SV.pure0,SV.pure]
def b2t:Value→Option Nat
 |.pointer (some a)=>some a.block
 |.slice (some a) _ (_+1)=>some a.block
 |.map (some r)=>some r
 |_=>none
theorem b1z{b o n m:Nat}{s:Option _}(h:0<m):b2t (.slice (some ⟨b,o,s⟩) n m)=some b:=by
 cases m with
 |zero=>omega
 |succ m=>rfl
theorem b4z{a:Option Addr}{n:Nat}:b2t (.slice a n 0)=none:=by cases a<;>rfl
def b4h(ps:List Value)(qs:List (List Value)):Value:=.tuple #[.tuple ps.toArray,.tuple (qs.map fun us=>Value.tuple us.toArray).toArray]
theorem b98{ps ps':List Value}{qs qs':List (List Value)}(h:b4h ps qs=b4h ps' qs'):ps=ps'∧qs=qs':=by
 unfold b4h at h
 simp only[Value.tuple.injEq,Array.mk.injEq,Ip]at h
 obtain⟨h1,h2⟩:=h
 refine⟨h1,?_⟩
 clear h1
 induction qs generalizing qs' with
 |nil=>
  cases qs' with
  |nil=>rfl
  |cons _ _=>simp at h2
 |cons u q ih=>
  cases qs' with
  |nil=>simp at h2
  |cons u' q'=>
   simp only[Ma,List.cons.injEq,Value.tuple.injEq,Array.mk.injEq]at h2
   rw[h2.1,ih h2.2]
def Has(x:Value)(b:Nat):Prop:=b2t x=some b∨∃ps qs us u,x=b4h ps qs∧us∈qs∧u∈us∧b2t u=some b
theorem b5d{a:Option Addr}{n m b:Nat}:Has (.slice a n m) b↔b2t (.slice a n m)=some b:=by
 constructor
 ·rintro(h|⟨ps,qs,us,u,h,_⟩)
  ·exact h
  ·cases h
 ·exact .inl
theorem b1p{b o n m:Nat}{s:Option _}(h:0<m):Has (.slice (some ⟨b,o,s⟩) n m) b:=.inl (b1z h)
theorem b5i{b o n m c:Nat}{s:Option _}(h:0<m):Has (.slice (some ⟨b,o,s⟩) n m) c↔c=b:=by
 rw[b5d,b1z h]
 exact⟨fun e=>(Jp e).symm,fun e=>by rw[e]⟩
theorem d1a{a:Option Addr}{n b:Nat}:¬Has (.slice a n 0) b:=by
 rw[b5d,b4z]
 intro h;cases h
theorem d6m{a:Addr}{b:Nat}:Has (.pointer (some a)) b↔a.block=b:=by
 constructor
 ·rintro(h|⟨ps,qs,us,u,h,_⟩)
  ·cases h;rfl
  ·cases h
 ·rintro rfl;exact .inl rfl
theorem g1i{r b:Nat}:Has (.map (some r)) b↔r=b:=by
 constructor
 ·rintro(h|⟨ps,qs,us,u,h,_⟩)
  ·cases h;rfl
  ·cases h
 ·rintro rfl;exact .inl rfl
theorem b52{ps:List Value}{qs:List (List Value)}{b:Nat}:Has (b4h ps qs) b↔∃us u,us∈qs∧u∈us∧b2t u=some b:=by
 constructor
 ·rintro(h|⟨ps',qs',us,u,h,h1,h2,h3⟩)
  ·cases h
  ·obtain⟨_,rfl⟩:=b98 h
   exact⟨us,u,h1,h2,h3⟩
 ·rintro⟨us,u,h1,h2,h3⟩
  exact .inr ⟨ps,qs,us,u,rfl,h1,h2,h3⟩
def b13:List IntKind→List Int→List Value
 |k::ks,n::ns=>.int k n::b13 ks ns
 |_,_=>[]
def j1p(q:List Int):ByteArray:=⟨(q.map fun n=>UInt8.ofNat n.toNat).toArray⟩
def kv:KT→List Int→Value
 |.int1 k,q=>.int k (q.getD 0 0)
 |.ints ks,q=>.agg (b13 ks q).toArray
 |.str,q=>.string (j1p q)
def okq:KT→List Int→Prop
 |.int1 _,q=>q.length=1
 |.ints ks,q=>q.length=ks.length
 |.str,q=>∀n∈q,0≤n∧n<256
def mkV(ag:Bool)(us:List Value):Value:=if ag then .agg us.toArray else us.getD 0 undef
structure MapAt (w:World) (r:Nat) (K:KT) (ag:Bool) (has:List Int→Bool) (g:List Int→List Value):Prop where
 ex:∃es clock,w.heap[r]?=some (.map es clock)∧(∀e∈es.toList,∃q,e.key=kv K q∧okq K q∧has q=true∧e.val=mkV ag (g q))∧
  (∀q,has q=true→okq K q∧∃e∈es.toList,e.key=kv K q)∧es.toList.Pairwise (fun a b=>a.key≠b.key)
theorem MapAt.lt{w:World}{r:Nat}{K:KT}{ag:Bool}{has:List Int→Bool}{g:List Int→List Value}(h:MapAt w r K ag has g):r<w.heap.size:=by
 obtain⟨es,c,h,_⟩:=h.ex
 exact(J9.1 h).1
theorem MapAt.keep{w w':World}{r:Nat}{K:KT}{ag:Bool}{has:List Int→Bool}{g:List Int→List Value}(h:MapAt w r K ag has g)(hb:w'.heap[r]?=w.heap[r]?):MapAt w' r K ag has g:=by
 obtain⟨es,c,h,k⟩:=h.ex
 exact⟨es,c,hb.trans h,k⟩
abbrev Mu:=Nat→Option Value
def held(A:Nat→Prop)(μ:Mu)(b:Nat):Prop:=A b∨∃k x,μ k=some x∧Has x b
def f3v(w:World)(b o sz n:Nat)(g:Nat→Nat→Value):Prop:=
 b<w.heap.size∧∀i j,i<n→j<sz→w.cell? ⟨b,o+i*sz+j,none⟩=some (g i j)∧(g i j).oneCell'=true
inductive D (w:World) (H:Nat→Prop) (μ:Mu):SV→Value→Prop
 |int {k:IntKind} {n:Int}:D w H μ (.int k n) (.int k n)
 |bool {b:Bool}:D w H μ (.bool b) (.bool b)
 |con {v:Value}:D w H μ (.con v) v
 |own {k off b:Nat} (h:μ k=some (.pointer (some ⟨b,0,none⟩))):D w H μ (.own k off) (.pointer (some ⟨b,off,none⟩))
 |osl {k n m:Nat} {a:Option Addr} (h:μ k=some (.slice a n m)):D w H μ (.osl k) (.slice a n m)
 |oel {k sz i off b o n m:Nat} (h:μ k=some (.slice (some ⟨b,o,none⟩) n m)):D w H μ (.oel k sz i off) (.pointer (some ⟨b,o+i*sz+off,none⟩))
 |sl {sz n:Nat} {f:Nat→List SV} {c:Option Nat} (a:Option Addr) (b o m:Nat) (g:Nat→Nat→Value) (hm:n≤m) (hx:m≤maxLen) (hc:c=none∨c=some m)
  (h8:0<n→a=some ⟨b,o,none⟩∧¬H b∧f3v w b o sz n g) (hl:∀i,i<n→(f i).length=sz∧(f i).all SV.pure=true)
  (hd:∀(i j:Nat) (s:SV),i<n→(f i)[j]?=some s→D w H μ s (g i j)):D w H μ (.sl sz n f c) (.slice a n m)
 |rel {sz n i off:Nat} {f:Nat→List SV} (b o:Nat) (g:Nat→Nat→Value) (hi:i<n) (hb:¬H b) (h8:f3v w b o sz n g) (hl:∀i,i<n→(f i).length=sz∧(f i).all SV.pure=true)
  (hd:∀(i j:Nat) (s:SV),i<n→(f i)[j]?=some s→D w H μ s (g i j)):D w H μ (.rel sz n f i off) (.pointer (some ⟨b,o+i*sz+off,none⟩))
 |agg {cs:List SV} (vs:List Value) (hl:vs.length=cs.length) (hd:∀(i:Nat) (s:SV) (v:Value),cs[i]?=some s→vs[i]?=some v→D w H μ s v):D w H μ (.agg cs) (.agg vs.toArray)
 |tup {cs:List SV} (vs:List Value) (hl:vs.length=cs.length) (hd:∀(i:Nat) (s:SV) (v:Value),cs[i]?=some s→vs[i]?=some v→D w H μ s v):D w H μ (.tup cs) (.tuple vs.toArray)
 |clo {fn:FuncId} {cs:List SV} (vs:List Value) (hl:vs.length=cs.length) (hd:∀(i:Nat) (s:SV) (v:Value),cs[i]?=some s→vs[i]?=some v→D w H μ s v):D w H μ (.clo fn cs) (.func (.func fn) #[] vs.toArray)
 |omp {k:Nat} {r:Option Nat} (h:μ k=some (.map r)):D w H μ (.omp k) (.map r)
 |mp {K:KT} {ag:Bool} {has:List Int→Bool} {val:List Int→List SV} (r:Nat) (g:List Int→List Value) (hb:¬H r) (hm:MapAt w r K ag has g)
  (hl:∀q,has q=true→(g q).length=(val q).length∧(val q).all SV.pure=true)
  (hd:∀(q:List Int) (i:Nat) (s:SV) (v:Value),has q=true→(val q)[i]?=some s→(g q)[i]?=some v→D w H μ s v):D w H μ (.mp K ag has val) (.map (some r))
 |fp {ok:Bool} {k i off:Nat} {v:Value} (h:if ok=true then∃ps qs b,μ k=some (b4h ps qs)∧ps[i]?=some (.pointer (some ⟨b,0,none⟩))∧v=.pointer (some ⟨b,off,none⟩)else v=.pointer none):D w H μ (.fp ok k i off) v
 |ub {b:Bool} {p q:Prop} (h1:b=true→p) (h2:b=false→q):D w H μ (.ub p q) (.bool b)
 |any {v:Value}:D w H μ .any v
theorem D.fp_mk{w':World}{H':Nat→Prop}{μ μ':Mu}{ok:Bool}{k i off:Nat}{v:Value}(hk:∀ps qs,μ k=some (b4h ps qs)→∃ps' qs',μ' k=some (b4h ps' qs')∧∀p,ps[i]?=some p→ps'[i]?=some p)
 (h:if ok=true then∃ps qs b,μ k=some (b4h ps qs)∧ps[i]?=some (.pointer (some ⟨b,0,none⟩))∧v=.pointer (some ⟨b,off,none⟩)else v=.pointer none):D w' H' μ' (.fp ok k i off) v:=by
 refine .fp ?_
 split
 ·rename_i e
  rw[Iw e]at h
  obtain⟨ps,qs,b,h1,h2,h3⟩:=h
  obtain⟨ps',qs',e1,e2⟩:=hk ps qs h1
  exact⟨ps',qs',b,e1,e2 _ h2,h3⟩
 ·rename_i e
  rwa[Iy e]at h
theorem D.fp_keep{w w':World}{H H':Nat→Prop}{μ μ':Mu}{ok:Bool}{k i off:Nat}{v:Value}(hk:∀ps qs,μ k=some (b4h ps qs)→∃ps' qs',μ' k=some (b4h ps' qs')∧∀p,ps[i]?=some p→ps'[i]?=some p)
 (h:D w H μ (.fp ok k i off) v):D w' H' μ' (.fp ok k i off) v:=by
 cases h with
 |fp h=>exact D.fp_mk hk h
structure Keeps (w w':World) (H H':Nat→Prop) (μ μ':Mu):Prop where
 size:w.heap.size≤w'.heap.size
 block:∀b,b<w.heap.size→¬H b→w'.heap[b]?=w.heap[b]?
 less:∀b,b<w.heap.size→H' b→H b
 own:∀k x,μ k=some x→μ' k=some x
theorem d4j{w w':World}{a:Addr}(h:w'.heap[a.block]?=w.heap[a.block]?):w'.cell? a=w.cell? a:=by
 unfold World.cell?;rw[h]
theorem f3v.keep{w w':World}{b o sz n:Nat}{g:Nat→Nat→Value}(h:f3v w b o sz n g)(hs:w.heap.size≤w'.heap.size)(hb:w'.heap[b]?=w.heap[b]?):f3v w' b o sz n g:=
 ⟨Jd h.1 hs,fun i j hi hj=>⟨(d4j (a:=⟨b,_,none⟩) hb).trans (h.2 i j hi hj).1,(h.2 i j hi hj).2⟩⟩
theorem D.keep{w w':World}{H H':Nat→Prop}{μ μ':Mu}{s:SV}{v:Value}(hk:Keeps w w' H H' μ μ')(h:D w H μ s v):D w' H' μ' s v:=by
 induction h with
 |int=>exact .int
 |bool=>exact .bool
 |con=>exact .con
 |own h=>exact .own (hk.own _ _ h)
 |osl h=>exact .osl (hk.own _ _ h)
 |oel h=>exact .oel (hk.own _ _ h)
 |sl a b o m g hm hx hc h8 hl hd ih=>
  exact .sl a b o m g hm hx hc (fun hn=>by
   obtain⟨e,hb,hr⟩:=h8 hn
   exact⟨e,fun hh=>hb (hk.less _ hr.1 hh),hr.keep hk.size (hk.block _ hr.1 hb)⟩) hl ih
 |rel b o g hi hb h8 hl hd ih=>exact .rel b o g hi (fun hh=>hb (hk.less _ h8.1 hh)) (h8.keep hk.size (hk.block _ h8.1 hb)) hl ih
 |agg vs hl hd ih=>exact .agg vs hl ih
 |tup vs hl hd ih=>exact .tup vs hl ih
 |clo vs hl hd ih=>exact .clo vs hl ih
 |omp h=>exact .omp (hk.own _ _ h)
 |mp r g hb hm hl hd ih=>exact .mp r g (fun hh=>hb (hk.less _ hm.lt hh)) (hm.keep (hk.block _ hm.lt hb)) hl ih
 |fp h=>exact D.fp_mk (fun ps qs e=>⟨ps,qs,hk.own _ _ e,fun _ h=>h⟩) h
 |ub h1 h2=>exact .ub h1 h2
 |any=>exact .any
structure Mem where
 cs:List SV
 rows:List (Nat×(Nat→List SV))
inductive Blk where
 |cells (T:TypeId) (cs:List SV)
 |row (T:TypeId) (sz n:Nat) (f:Nat→List SV) (c:Option Nat)
 |map (K:KT) (ag:Bool) (has:List Int→Bool) (val:List Int→List SV)
 |fam (T:TypeId) (Ts:List (TypeId×Nat)) (n:Nat) (br:Option (Nat×Nat)) (F:Nat→Mem)
 |pmap (K:KT) (k:Nat) (has:List Int→Bool) (idx:List Int→Nat)
 |rowh (T:TypeId) (sz n:Nat) (f:Nat→List SV) (c:Option Nat) (i:Nat) (u:List SV)
 |pool (T:TypeId) (sz n:Nat) (hd:Nat→Value) (al:Nat→Bool) (ln:Nat→Nat) (ct:Nat→Nat→List SV)
 |dead
def b71(w:World)(H:Nat→Prop)(μ:Mu)(x:Value)(T:TypeId)(cs:List SV):Prop:=
 ∃b vs,x=.pointer (some ⟨b,0,none⟩)∧w.heap[b]?=some (.cells (List.toArray vs) T (0,0))∧vs.length=cs.length∧(∀v∈vs,v.oneCell'=true)∧∀(i:Nat) (s:SV) (v:Value),cs[i]?=some s→vs[i]?=some v→D w H μ s v
def b9f(w:World)(H:Nat→Prop)(μ:Mu)(x:Value)(T:TypeId)(sz n:Nat)(f:Nat→List SV)(c:Option Nat):Prop:=
 ∃a m,x=.slice a n m∧n≤m∧m≤maxLen∧(c=none∨c=some m)∧(∀i,i<n→(f i).length=sz∧(f i).all SV.pure=true)∧
    (m=0∨∃b o vs,0<m∧a=some ⟨b,o,none⟩∧w.heap[b]?=some (.cells (List.toArray vs) T (0,0))∧o+m*sz≤vs.length∧(∀v∈vs,v.oneCell'=true)∧
      ∀(i j:Nat) (s:SV) (v:Value),i<n→(f i)[j]?=some s→vs[o+i*sz+j]?=some v→D w H μ s v)
def b5f(w:World)(H:Nat→Prop)(μ:Mu)(x:Value)(T:TypeId)(sz n:Nat)(f:Nat→List SV)(c:Option Nat)(i:Nat)(u:List SV):Prop:=
 ∃b o m vs,x=.slice (some ⟨b,o,none⟩) n m∧n≤m∧m≤maxLen∧(c=none∨c=some m)∧i<n∧u.length=sz∧(∀q,q<n→q≠i→(f q).length=sz∧(f q).all SV.pure=true)∧
  w.heap[b]?=some (.cells (List.toArray vs) T (0,0))∧o+m*sz≤vs.length∧(∀v∈vs,v.oneCell'=true)∧
  (∀(q j:Nat) (s:SV) (v:Value),q<n→q≠i→(f q)[j]?=some s→vs[o+q*sz+j]?=some v→D w H μ s v)∧
  ∀(j:Nat) (s:SV) (v:Value),u[j]?=some s→vs[o+i*sz+j]?=some v→D w H μ s v
theorem b5f.to{w w':World}{H H':Nat→Prop}{μ μ':Mu}{x:Value}{T:TypeId}{sz n:Nat}{f:Nat→List SV}{c:Option Nat}{i:Nat}{u:List SV}(g:SV→SV)(hb:∀b,b2t x=some b→w'.heap[b]?=w.heap[b]?)
 (hp:∀s v,s.pure=true→D w H μ s v→D w' H' μ' s v) (hg:∀s v,D w H μ s v→D w' H' μ' (g s) v) (h:b5f w H μ x T sz n f c i u):b5f w' H' μ' x T sz n f c i (u.map g):=by
 obtain⟨b,o,m,vs,rfl,hn,hm,hc,hi,hu,hl,hh,ho,h1,hd,sa⟩:=h
 refine⟨b,o,m,vs,rfl,hn,hm,hc,hi,Fg,hl,(hb b (b1z Dt)).trans hh,ho,h1,fun q j s v hq bb hs hv=>hp _ _ (J4.1 (hl q hq bb).2 s (J0 hs)) (hd q j s v hq bb hs hv),fun j s v hs hv=> ?_⟩
 simp only[Id]at hs
 obtain⟨s0,bv,rfl⟩:=hs
 exact hg _ _ (sa j s0 v bv hv)
structure PoolOK (w:World) (H:Nat→Prop) (T:TypeId) (sz n:Nat) (hd:Nat→Value) (al:Nat→Bool) (ln:Nat→Nat) (ct:Nat→Nat→List SV) (qs:List (List Value)):Prop where
 ql:qs.length=n
 nd:∀(i j i' j':Nat) (us us':List Value) (u u':Value) (b:Nat),qs[i]?=some us→us[j]?=some u→b2t u=some b→qs[i']?=some us'→us'[j']?=some u'→b2t u'=some b→i=i'
 mem:∀i,i<n→(al i=false∧qs[i]?=some [])∨(al i=true∧qs[i]?=some [hd i]∧b9f w H (fun _=>none) (hd i) T sz (ln i) (ct i) none)
def loc(us:List Value):Mu:=fun j=>us[j]?
def SV.memc:SV→Bool
 |.osl _=>true
 |s=>s.pure
structure MemOK (w:World) (H:Nat→Prop) (T:TypeId) (Ts:List (TypeId×Nat)) (m:Mem) (p:Value) (us:List Value):Prop where
 cells:b71 w H (loc us) p T m.cs
 memc:m.cs.all SV.memc=true
 len:us.length=Ts.length
 rlen:m.rows.length=Ts.length
 rows:∀(j:Nat) (t:TypeId×Nat) (r:Nat×(Nat→List SV)) (u:Value),Ts[j]?=some t→m.rows[j]?=some r→us[j]?=some u→b9f w H (loc us) u t.1 t.2 r.1 r.2 none
structure FamOK (w:World) (H:Nat→Prop) (T:TypeId) (Ts:List (TypeId×Nat)) (n:Nat) (br:Option Nat) (F:Nat→Mem) (ps:List Value) (qs:List (List Value)):Prop where
 pl:ps.length=n
 ql:qs.length=n
 nd:∀(i j i' j':Nat) (us us':List Value) (u u':Value) (b:Nat),qs[i]?=some us→us[j]?=some u→b2t u=some b→qs[i']?=some us'→us'[j']?=some u'→b2t u'=some b→i=i'∧j=j'
 mem:∀i,i<n→∃b us,ps[i]?=some (.pointer (some ⟨b,0,none⟩))∧qs[i]?=some us∧((br=some i∧us=[])∨(br≠some i∧∃us',us=.pointer (some ⟨b,0,none⟩)::us'∧MemOK w H T Ts (F i) (.pointer (some ⟨b,0,none⟩)) us'))
def d9g(μ:Mu)(br:Option (Nat×Nat))(ps:List Value):Prop:=∀i c,br=some (i,c)→∃p,ps[i]?=some p∧μ c=some p
theorem d9g.keep{μ μ':Mu}{br:Option (Nat×Nat)}{ps:List Value}(h:d9g μ br ps)(hk:∀i c p,br=some (i,c)→μ c=some p→μ' c=some p):d9g μ' br ps:=fun i c e=>by
 obtain⟨p,h1,h2⟩:=h i c e
 exact⟨p,h1,hk i c p e h2⟩
def b19(w:World)(H:Nat→Prop)(μ:Mu)(x:Value):Blk→Prop
 |.cells T cs=>∃b vs,x=.pointer (some ⟨b,0,none⟩)∧w.heap[b]?=some (.cells (List.toArray vs) T (0,0))∧vs.length=cs.length∧(∀v∈vs,v.oneCell'=true)∧∀(i:Nat) (s:SV) (v:Value),cs[i]?=some s→vs[i]?=some v→D w H μ s v
 |.row T sz n f c=>∃a m,x=.slice a n m∧n≤m∧m≤maxLen∧(c=none∨c=some m)∧(∀i,i<n→(f i).length=sz∧(f i).all SV.pure=true)∧
  (m=0∨∃b o vs,0<m∧a=some ⟨b,o,none⟩∧w.heap[b]?=some (.cells (List.toArray vs) T (0,0))∧o+m*sz≤vs.length∧(∀v∈vs,v.oneCell'=true)∧
    ∀(i j:Nat) (s:SV) (v:Value),i<n→(f i)[j]?=some s→vs[o+i*sz+j]?=some v→D w H μ s v)
 |.map K ag has val=>∃r g,x=.map (some r)∧MapAt w r K ag has g∧(∀q,has q=true→(g q).length=(val q).length∧(val q).all SV.pure=true)∧
  ∀(q:List Int) (i:Nat) (s:SV) (v:Value),has q=true→(val q)[i]?=some s→(g q)[i]?=some v→D w H μ s v
 |.fam T Ts n br F=>∃ps qs,x=b4h ps qs∧FamOK w H T Ts n (br.map (·.1)) F ps qs∧d9g μ br ps
 |.pmap K k has idx=>(∃ps qs,μ k=some (b4h ps qs))∧∃r g,x=.map (some r)∧MapAt w r K false has g∧∀q,has q=true→∃p,g q=[p]∧D w H μ (.fp true k (idx q) 0) p
 |.rowh T sz n f c i u=>b5f w H μ x T sz n f c i u
 |.pool T sz n hd al ln ct=>∃qs,x=b4h [] qs∧PoolOK w H T sz n hd al ln ct qs
 |.dead=>True
structure Own (B0:Nat) (X A:Nat→Prop) (w:World) (μ:Mu) (own:List Blk):Prop where
 blk:∀k x,μ k=some x→∃bl,own[k]?=some bl∧b19 w (held A μ) μ x bl
 inj:∀k k' x x' b,μ k=some x→μ k'=some x'→Has x b→Has x' b→k=k'
 rng:∀k x b,μ k=some x→Has x b→b<w.heap.size∧¬A b∧(B0≤b∨X b)
 bnd:∀b,A b→b<w.heap.size
abbrev dwOn:Prop:=True
structure Fr (B0:Nat) (X:Nat→Prop) (w0 w:World):Prop where
 os:w.os=w0.os
 tape:w.tape=w0.tape
 output:w.output=w0.output
 drawn:dwOn→w0.drawn≤w.drawn
 size:w0.heap.size≤w.heap.size
 block:∀i,i<B0→¬X i→w.heap[i]?=w0.heap[i]?
theorem Fr.refl(B0:Nat)(X:Nat→Prop)(w:World):Fr B0 X w w:=⟨rfl,rfl,rfl,fun _=>J2 _,J2 _,fun _ _ _=>rfl⟩
theorem Fr.trans{B0:Nat}{X:Nat→Prop}{a b c:World}(h:Fr B0 X a b)(k:Fr B0 X b c):Fr B0 X a c:=
 ⟨k.os.trans h.os,k.tape.trans h.tape,k.output.trans h.output,fun d=>L3 (h.drawn d) (k.drawn d),L3 h.size k.size,fun i hi hx=>(k.block i hi hx).trans (h.block i hi hx)⟩
theorem b71.keep{w w':World}{H H':Nat→Prop}{μ μ':Mu}{x:Value}{T:TypeId}{cs:List SV}(hk:Keeps w w' H H' μ μ')(hb:∀b,b2t x=some b→w'.heap[b]?=w.heap[b]?)(h:b71 w H μ x T cs):b71 w' H' μ' x T cs:=by
 obtain⟨b,vs,rfl,hh,hl,h1,hd⟩:=h
 exact⟨b,vs,rfl,(hb b rfl).trans hh,hl,h1,fun i s v hs hv=>(hd i s v hs hv).keep hk⟩
theorem b9f.keep{w w':World}{H H':Nat→Prop}{μ μ':Mu}{x:Value}{T:TypeId}{sz n:Nat}{f:Nat→List SV}{c:Option Nat}(hk:Keeps w w' H H' μ μ')(hb:∀b,b2t x=some b→w'.heap[b]?=w.heap[b]?)(h:b9f w H μ x T sz n f c):b9f w' H' μ' x T sz n f c:=by
 obtain⟨a,m,rfl,hn,hm,hc,hl,h⟩:=h
 refine⟨a,m,rfl,hn,hm,hc,hl,?_⟩
 rcases h with h|⟨b,o,vs,c7,rfl,hh,ho,h1,hd⟩
 ·exact .inl h
 ·exact .inr ⟨b,o,vs,c7,rfl,(hb b (b1z c7)).trans hh,ho,h1,fun i j s v hi hs hv=>(hd i j s v hi hs hv).keep hk⟩
structure Keeps0 (w w':World) (H H':Nat→Prop):Prop where
 size:w.heap.size≤w'.heap.size
 block:∀b,b<w.heap.size→¬H b→w'.heap[b]?=w.heap[b]?
 less:∀b,b<w.heap.size→H' b→H b
theorem Keeps0.any{w w':World}{H H':Nat→Prop}(h:Keeps0 w w' H H')(μ:Mu):Keeps w w' H H' μ μ:=⟨h.size,h.block,h.less,fun _ _ h=>h⟩
theorem Keeps.k0{w w':World}{H H':Nat→Prop}{μ μ':Mu}(h:Keeps w w' H H' μ μ'):Keeps0 w w' H H':=⟨h.size,h.block,h.less⟩
theorem MemOK.keep{w w':World}{H H':Nat→Prop}{T:TypeId}{Ts:List (TypeId×Nat)}{m:Mem}{p:Value}{us:List Value}(hk:Keeps0 w w' H H')(hb:∀u b,u=p∨u∈us→b2t u=some b→w'.heap[b]?=w.heap[b]?)(h:MemOK w H T Ts m p us):MemOK w' H' T Ts m p us:=
 ⟨h.cells.keep (hk.any _) (fun b=>hb p b (.inl rfl)),h.memc,h.len,h.rlen,fun j t r u h1 h2 h3=>(h.rows j t r u h1 h2 h3).keep (hk.any _) (fun b=>hb u b (.inr (J0 h3)))⟩
theorem FamOK.keep{w w':World}{H H':Nat→Prop}{T:TypeId}{Ts:List (TypeId×Nat)}{n:Nat}{br:Option Nat}{F:Nat→Mem}{ps:List Value}{qs:List (List Value)}(hk:Keeps0 w w' H H')(hb:∀b,Has (b4h ps qs) b→w'.heap[b]?=w.heap[b]?)
 (h:FamOK w H T Ts n br F ps qs):FamOK w' H' T Ts n br F ps qs:=by
 refine⟨h.pl,h.ql,h.nd,fun i hi=> ?_⟩
 obtain⟨b,us,h1,h2,h3⟩:=h.mem i hi
 refine⟨b,us,h1,h2,?_⟩
 rcases h3 with h3|⟨h3,us',rfl,h4⟩
 ·exact .inl h3
 ·refine .inr ⟨h3,us',rfl,h4.keep hk (fun u c hu hc=>hb c (b52.2 ⟨_,u,J0 h2,?_,hc⟩))⟩
  rcases hu with rfl|hu
  ·simp
  ·simp[hu]
theorem PoolOK.keep{w w':World}{H H':Nat→Prop}{T:TypeId}{sz n:Nat}{hd:Nat→Value}{al:Nat→Bool}{ln:Nat→Nat}{ct:Nat→Nat→List SV}{qs:List (List Value)}(hk:Keeps0 w w' H H')(hb:∀b,Has (b4h [] qs) b→w'.heap[b]?=w.heap[b]?)
 (h:PoolOK w H T sz n hd al ln ct qs):PoolOK w' H' T sz n hd al ln ct qs:=by
 refine⟨h.ql,h.nd,fun i hi=> ?_⟩
 rcases h.mem i hi with h1|⟨h1,h2,h3⟩
 ·exact .inl h1
 ·exact .inr ⟨h1,h2,h3.keep (hk.any _) (fun b hc=>hb b (b52.2 ⟨_,_,J0 h2,Dv,hc⟩))⟩
theorem b19.keep{w w':World}{H H':Nat→Prop}{μ μ':Mu}{x:Value}{bl:Blk}(hk:Keeps w w' H H' μ μ')(hb:∀b,Has x b→w'.heap[b]?=w.heap[b]?)(h:b19 w H μ x bl):b19 w' H' μ' x bl:=by
 cases bl with
 |cells T cs=>exact b71.keep hk (fun b hx=>hb b (.inl hx)) h
 |row T sz n f c=>exact b9f.keep hk (fun b hx=>hb b (.inl hx)) h
 |map K ag has val=>
  obtain⟨r,g,rfl,hm,hl,hd⟩:=h
  exact⟨r,g,rfl,hm.keep (hb r (.inl rfl)),hl,fun q i s v hq hs hv=>(hd q i s v hq hs hv).keep hk⟩
 |fam T Ts n br F=>
  obtain⟨ps,qs,rfl,h,hh⟩:=h
  exact⟨ps,qs,rfl,h.keep hk.k0 hb,hh.keep (fun _ _ _ _ e=>hk.own _ _ e)⟩
 |pmap K k has idx=>
  obtain⟨⟨ps,qs,he⟩,r,g,rfl,hm,hd⟩:=h
  exact⟨⟨ps,qs,hk.own _ _ he⟩,r,g,rfl,hm.keep (hb r (.inl rfl)),fun q hq=>by obtain⟨p,e,h⟩:=hd q hq;exact⟨p,e,h.keep hk⟩⟩
 |rowh T sz n f c i u=>
  have:=b5f.to id (fun b hx=>hb b (.inl hx)) (fun s v _ h=>h.keep hk) (fun s v h=>h.keep hk) h
  rwa[List.map_id]at this
 |pool T sz n hd al ln ct=>
  obtain⟨qs,rfl,h⟩:=h
  exact⟨qs,rfl,h.keep hk.k0 hb⟩
 |dead=>exact Ix
theorem Keeps.drew{w:World}{H:Nat→Prop}{μ:Mu}:Keeps w w.drew H H μ μ:=⟨J2 _,fun _ _ _=>rfl,fun _ _ h=>h,fun _ _ h=>h⟩
theorem Fr.drew{B0:Nat}{X:Nat→Prop}{w:World}:Fr B0 X w w.drew:=⟨rfl,rfl,rfl,fun _=>Nat.le_succ _,J2 _,fun _ _ _=>rfl⟩
theorem Own.drew{B0:Nat}{X A:Nat→Prop}{w:World}{μ:Mu}{own:List Blk}(h:Own B0 X A w μ own):Own B0 X A w.drew μ own:=
 ⟨fun k x hx=>by
   obtain⟨bl,e,hb⟩:=h.blk k x hx
   exact⟨bl,e,hb.keep Keeps.drew (fun _ _=>rfl)⟩,h.inj,h.rng,h.bnd⟩
theorem Keeps.alloc{w:World}{H:Nat→Prop}{μ:Mu}(o:Obj):Keeps w (w.alloc o) H H μ μ:=
 ⟨Dv,fun b hb _=>Lz w o b hb,fun _ _ h=>h,fun _ _ h=>h⟩
theorem Fr.alloc{B0:Nat}{X:Nat→Prop}{w:World}(o:Obj)(hB:B0≤w.heap.size):Fr B0 X w (w.alloc o):=
 ⟨rfl,rfl,rfl,fun _=>J2 _,Dv,fun i hi _=>Lz w o i Dt⟩
def Mu.set(μ:Mu)(k:Nat)(x:Value):Mu:=fun j=>if j=k then some x else μ j
theorem c2k{B0:Nat}{X A:Nat→Prop}{w:World}{μ:Mu}{own:List Blk}(h:Own B0 X A w μ own)(hB:B0≤w.heap.size){k:Nat}{bl:Blk}(hk:μ k=none)(cx:own[k]?=some bl)(o:Obj)(x:Value)
 (hx:∀b,Has x b→b=w.heap.size) (b6:∀μ',μ'=μ.set k x→Keeps w (w.alloc o) (held A μ) (held A μ') μ μ'→b19 (w.alloc o) (held A μ') μ' x bl):
 Own B0 X A (w.alloc o) (μ.set k x) own∧Keeps w (w.alloc o) (held A μ) (held A (μ.set k x)) μ (μ.set k x):=by
 have c8:Keeps w (w.alloc o) (held A μ) (held A (μ.set k x)) μ (μ.set k x):=by
  refine⟨Dv,fun b hb _=>Lz w o b hb,fun b hb hh=> ?_,fun j y hy=> ?_⟩
  ·rcases hh with hh|⟨j,y,hj,hy⟩
   ·exact .inl hh
   ·unfold Mu.set at hj
    split at hj
    ·cases hj
     have:=hx _ hy
     omega
    ·exact .inr ⟨j,y,hj,hy⟩
  ·unfold Mu.set
   split
   ·subst_vars;rw[hk]at hy;cases hy
   ·exact hy
 refine⟨⟨fun j y hj=> ?_,fun j j' y y' b hj bh hy gm=> ?_,fun j y b hj hy=> ?_,fun b hb=>by have:=h.bnd b hb;simp;omega⟩,c8⟩
 ·by_cases e:j=k
  ·subst e
   have:y=x:=Ev
   subst this
   exact⟨bl,cx,b6 _ rfl c8⟩
  ·have bh:μ j=some y:=F2
   obtain⟨bl',e1,hb⟩:=h.blk j y bh
   exact⟨bl',e1,hb.keep c8 (fun b r9=>Lz w o b (h.rng j y b bh r9).1)⟩
 ·have key:∀j y,Mu.set μ k x j=some y→Has y b→(j=k∧b=w.heap.size)∨(j≠k∧μ j=some y):=by
   intro j y hj hy
   by_cases e:j=k
   ·subst e
    have:y=x:=Ev
    subst this
    exact .inl ⟨rfl,hx _ hy⟩
   ·exact .inr ⟨e,F2⟩
  rcases key j y hj hy with⟨e,eb⟩|⟨e,em⟩<;>rcases key j' y' bh gm with⟨e',eb'⟩|⟨e',em'⟩
  ·rw[e,e']
  ·have:=(h.rng j' y' b em' gm).1;omega
  ·have:=(h.rng j y b em hy).1;omega
  ·exact h.inj j j' y y' b em em' hy gm
 ·by_cases e:j=k
  ·subst e
   have:y=x:=Ev
   subst this
   have:=hx _ hy
   subst this
   exact⟨Dv,fun ha=>Ln _ (h.bnd _ ha),.inl hB⟩
  ·have bh:μ j=some y:=F2
   obtain⟨r1,r2,r3⟩:=h.rng j y b bh hy
   exact⟨E5,r2,r3⟩
def c4v:TypeDesc→Bool
 |.struct _|.array _ _=>true
 |_=>false
section
variable {P : Program} {w : World}
theorem c2z(a:Addr)(us:List Value):∀(i:Nat) (acc:Array Value),(∀(j:Nat) (u:Value),us[j]?=some u→w.cell? (a.add (i+j))=some u)→
 (loadCellsFrom a i us.length acc).run P w=.ok (acc++us.toArray) w:=by
 induction us with
 |nil=>intro i acc _;simp[loadCellsFrom]
 |cons u us ih=>
  intro i acc h
  have h0:w.cell? (a.add i)=some u:=by simpa using h 0 u rfl
  have:=ih (i+1) (acc.push u) (fun j v hv=>by have:=h (j+1) v Fh;rwa[Kb,Nat.add_comm 1 j])
  simp[loadCellsFrom,Go.load,Sem.run,h0,this]
theorem c18(a:Addr)(us:List Value)(n:Nat)(hn:us.length=n)(h:∀(j:Nat) (u:Value),us[j]?=some u→w.cell? (a.add j)=some u):
 (loadCells a n).run P w=.ok us.toArray w:=by
 subst hn
 have:=c2z (P:=P) (w:=w) a us 0 #[] (fun j u hu=>by simpa using h j u hu)
 simpa[loadCells]using this
theorem b8u{T:TypeId}{d:TypeDesc}(h:P.underlying T=some d):(isAgg T).run P w=.ok (c4v d) w:=by
 cases d<;>simp[isAgg,Jm h,c4v]
theorem b0h{T:TypeId}{i:TypeInfo}(h:P.info? T=some i):(sizeOf T).run P w=.ok i.size w:=by simp[sizeOf,typeInfo,h]
theorem g2t(a:Addr)(u:Value)(h:w.cell? a=some u):(Go.load a).run P w=.ok u w:=by simp[Go.load,Sem.run,h]
theorem b2g{T:TypeId}{i:TypeInfo}{z:Value}(h:P.info? T=some i)(hz:i.zero=some z):(zeroValue T).run P w=.ok z w:=by simp[zeroValue,typeInfo,h,hz]
def putRow(w:World)(b:Nat)(vs:List Value)(T:TypeId):World:={w with heap:=w.heap.setIfInBounds b (.cells vs.toArray T (0,0))}
theorem b53{b:Nat}{vs:List Value}{T:TypeId}(h:b<w.heap.size):(putRow w b vs T).heap[b]?=some (.cells vs.toArray T (0,0)):=by
 simp[putRow,h]
theorem b63{b i:Nat}{vs:List Value}{T:TypeId}(h:i≠b):(putRow w b vs T).heap[i]?=w.heap[i]?:=by
 simp[putRow,L6 (Ne.symm h)]
theorem c0g{b:Nat}{vs:List Value}{T:TypeId}:(putRow w b vs T).heap.size=w.heap.size:=by simp[putRow]
theorem b29{b:Nat}{c:Array Value}{T:TypeId}{z:Nat×Nat}(h:w.heap[b]?=some (.cells c T z)):b<w.heap.size:=by
 rcases M5 b w.heap.size with h'|h'
 ·exact h'
 ·rw[Array.getElem?_eq_none h']at h;cases h
theorem b62{b:Nat}{vs:List Value}{T:TypeId}{z:Nat×Nat}(h:w.heap[b]?=some (.cells vs.toArray T z))(j:Nat):w.cell? ⟨b,j,none⟩=vs[j]?:=by
 simp[World.cell?,h]
theorem d8k{b j:Nat}{vs:List Value}{T:TypeId}{v:Value}(h:w.heap[b]?=some (.cells vs.toArray T (0,0))):w.setCell ⟨b,j,none⟩ v=putRow w b (vs.set j v) T:=by
 have hb:=b29 h
 unfold World.setCell putRow
 congr 1
 apply Array.ext_getElem?
 intro i
 rw[Kx,M0]
 by_cases e:b=i
 ·subst e
  rw[Iw rfl,Iw rfl,Iw hb,h]
  simp
 ·simp[e]
theorem d0b{b:Nat}{vs us:List Value}{T U:TypeId}:putRow (putRow w b vs T) b us U=putRow w b us U:=by
 unfold putRow;simp
theorem d84{b:Nat}{vs:List Value}{T:TypeId}(h:w.heap[b]?=some (.cells vs.toArray T (0,0))):putRow w b vs T=w:=by
 have hb:=b29 h
 unfold putRow
 have:w.heap.setIfInBounds b (.cells vs.toArray T (0,0))=w.heap:=by
  apply Array.ext_getElem?
  intro i
  rw[M0]
  by_cases e:b=i
  ·subst e;rw[Iw rfl,Iw hb,h]
  ·simp[e]
 rw[this]
theorem f4u{a:Addr}{v u:Value}(h1:v.oneCell'=true)(hc:w.cell? a=some u)(hf:w.frozen? a=false):(Go.store a v).run P w=.ok () (w.setCell a v):=by
 have:(Go.store a v).run P w=stored P w a v .plain:=run_store P w a _ _ h1
 rw[this];simp[stored,hc,hf]
def b5c{α:Type}:List α→List α→List α
 |_::vs,u::us=>u::b5c vs us
 |vs,_=>vs
def over{α:Type}:List α→Nat→List α→List α
 |vs,0,us=>b5c vs us
 |v::vs,n+1,us=>v::over vs n us
 | [],_+1,_=>[]
theorem b66{α:Type}:∀(vs us:List α),(b5c vs us).length=vs.length
 | [],us=>Fi
 |_::_,[]=>Fi
 |_::vs,_::us=>by simp[b5c,b66 vs us]
theorem c6z{α:Type}:∀(vs us:List α) (j:Nat),us.length≤vs.length→(b5c vs us)[j]?=if j<us.length then us[j]? else vs[j]?
 | [],[],j,_=>Fi
 | [],_::_,_,h=>E7
 |_::_,[],j,_=>Fi
 |v::vs,u::us,0,_=>Fi
 |v::vs,u::us,j+1,h=>by
  simp only[K3]at h
  simp only[b5c,Ks,c6z vs us j Dt,K3]
  by_cases e:j<us.length
  ·rw[Iw e,Iw Dt]
  ·rw[Iy e,Iy Dt]
theorem b12{α:Type}(us:List α):∀(vs:List α) (off:Nat),(over vs off us).length=vs.length
 | [],0=>by simp[over,b66]
 |v::vs,0=>by simp only[over,b66]
 |v::vs,n+1=>by simp[over,b12 us vs n]
 | [],_+1=>by simp[over]
theorem b22{α:Type}(us:List α):∀(vs:List α) (off j:Nat),off+us.length≤vs.length→(over vs off us)[j]?=if off≤j∧j<off+us.length then us[j-off]? else vs[j]?
 |vs,0,j,h=>by
  have e:over vs 0 us=b5c vs us:=by cases vs<;>rfl
  rw[e,c6z _ _ _ Dt]
  by_cases q:j<us.length
  ·rw[Iw q,Iw Dt];rfl
  ·rw[Iy q,Iy Dt]
 |v::vs,n+1,0,h=>by
  rw[Iy Dt];rfl
 |v::vs,n+1,j+1,h=>by
  simp only[K3]at h
  simp only[over,Ks,b22 us vs n j Dt]
  by_cases q:n≤j∧j<n+us.length
  ·rw[Iw q,Iw Dt,show j+1-(n+1)=j-n from Dt]
  ·rw[Iy q,Iy Dt]
 | [],n+1,j,h=>E7
theorem d9n{α:Type}(vs:List α)(off:Nat)(h:off≤vs.length):over vs off []=vs:=by
 refine L8 fun j=> ?_
 rw[b22 _ _ _ _ E1,Iy (by simp<;>omega)]
theorem d5a{α:Type}(u:α)(us vs:List α)(off:Nat)(h:off+(us.length+1)≤vs.length):over vs off (u::us)=over (vs.set off u) (off+1) us:=by
 refine L8 fun j=> ?_
 rw[b22 _ _ _ _ E1,b22 _ _ _ _ E5,List.getElem?_set]
 simp only[K3]
 by_cases e:off=j
 ·subst e
  rw[Iw Dt,Iy Dt,Iw rfl,Iw Dt]
  simp
 ·by_cases e2:off+1≤j∧j<off+1+us.length
  ·rw[Iw e2,Iw Dt]
   have:j-off=(j-(off+1))+1:=Dt
   rw[this];rfl
  ·rw[Iy e2,Iy e,Iy Dt]
theorem b2k(b o:Nat)(T:TypeId)(us:List Value):∀(w:World) (vs:List Value) (i:Nat),w.heap[b]?=some (.cells vs.toArray T (0,0))→o+i+us.length≤vs.length→(∀u∈us,u.oneCell'=true)→
 (storeCells ⟨b,o,none⟩ us i).run P w=.ok () (putRow w b (over vs (o+i) us) T):=by
 induction us with
 |nil=>intro w vs i h hl _;rw[d9n _ _ E9];simp[storeCells,d84 h]
 |cons u us ih=>
  intro w vs i h hl h1
  simp only[K3]at hl
  have hc:w.cell? ⟨b,o+i,none⟩=some (vs[o+i]'Dt):=by rw[b62 h];exact Iv Dt
  have hf:w.frozen? ⟨b,o+i,none⟩=false:=by simp[World.frozen?,h]
  have hr:=f4u (P:=P) (h1 u Dv) hc hf
  rw[d8k h]at hr
  have hb:=b29 h
  have:=ih (putRow w b (vs.set (o+i) u) T) (vs.set (o+i) u) (i+1) (b53 hb) E5 (fun x hx=>h1 x Ef)
  rw[d0b]at this
  simp only[storeCells,Ke,Ir,hr]
  rw[d5a _ _ _ _ Dt]
  simpa[Kb]using this
end
theorem Keeps.put{w:World}{A:Nat→Prop}{μ:Mu}{b k:Nat}{x:Value}{vs:List Value}{T:TypeId}(hk:μ k=some x)(hx:Has x b):Keeps w (putRow w b vs T) (held A μ) (held A μ) μ μ:=
 ⟨Gn,fun c _ hc=>b63 (fun e=>hc (by subst e;exact .inr ⟨k,x,hk,hx⟩)),fun _ _ h=>h,fun _ _ h=>h⟩
theorem d08{B0:Nat}{X A:Nat→Prop}{w:World}{μ:Mu}{own:List Blk}(h:Own B0 X A w μ own){k b:Nat}{x:Value}{vs:List Value}{T:TypeId}{bl:Blk}(hk:μ k=some x)(hx:Has x b)
 (b6:b19 (putRow w b vs T) (held A μ) μ x bl):Own B0 X A (putRow w b vs T) μ (own.set k bl):=by
 have c8:Keeps w (putRow w b vs T) (held A μ) (held A μ) μ μ:=Keeps.put hk hx
 refine⟨fun j y hj=> ?_,h.inj,fun j y c hj hy=>by rw[c0g];exact h.rng j y c hj hy,fun c hc=>by rw[c0g];exact h.bnd c hc⟩
 by_cases e:j=k
 ·subst e
  have:y=x:=by rw[hk]at hj;exact(Jp hj).symm
  subst this
  obtain⟨bl0,e0,_⟩:=h.blk j y hk
  have h9:j<own.length:=(Iz.1 e0).1
  exact⟨bl,by simp[h9],b6⟩
 ·obtain⟨bl0,e0,sb⟩:=h.blk j y hj
  refine⟨bl0,by rw[Jb (Ne.symm e)];exact e0,sb.keep c8 (fun c hc=>b63 (fun ec=> ?_))⟩
  subst ec
  exact e (h.inj j k y x c hj hk hc hx)
theorem Fr.put{B0:Nat}{X:Nat→Prop}{w:World}{b:Nat}{vs:List Value}{T:TypeId}(hb:B0≤b∨X b):Fr B0 X w (putRow w b vs T):=
 ⟨rfl,rfl,rfl,fun _=>J2 _,Gn,fun i hi hX=>b63 (fun e=>by subst e;rcases hb with hb|hb;omega;exact hX hb)⟩
def inK:IntKind→Int→Prop
 |.i8,n=> -128≤n∧n≤127
 |.i16,n=> -32768≤n∧n≤32767
 |.i32,n=> -2147483648≤n∧n≤2147483647
 |.i64,n=> -9223372036854775808≤n∧n≤9223372036854775807
 |.u8,n=>0≤n∧n≤255
 |.u16,n=>0≤n∧n≤65535
 |.u32,n=>0≤n∧n≤4294967295
 |.u64,n=>0≤n∧n≤18446744073709551615
theorem b4p{k:IntKind}{n:Int}(h:inK k n):k.wrap n=n:=by
 cases k<;>simp only[inK]at h<;>simp only[IntKind.wrap,IntKind.bits,IntKind.signed]<;>simp<;>omega
def c7h:Value→SV
 |.int k n=>.int k n
 |.bool b=>.bool b
 |.func (.func f) ⟨[]⟩ ⟨[]⟩=>.clo f []
 |v=>.con v
def j24:Value→SV
 |.agg cs=>.agg (cs.toList.map c7h)
 |v=>c7h v
section
variable {w : World} {H : Nat → Prop} {μ : Mu}
theorem d9i(v:Value):D w H μ (c7h v) v:=by
 unfold c7h
 split
 ·exact .int
 ·exact .bool
 ·exact .clo [] rfl (fun i s v h _=>E7)
 ·exact .con
theorem c3w(vs:List Value):∀(i:Nat) (s:SV) (v:Value),(vs.map c7h)[i]?=some s→vs[i]?=some v→D w H μ s v:=by
 intro i s v hs hv
 simp[hv]at hs
 subst hs
 exact d9i v
theorem j1i(v:Value):D w H μ (j24 v) v:=by
 unfold j24
 split
 ·rename_i cs
  obtain⟨cs⟩:=cs
  exact .agg cs Dv (c3w cs)
 ·exact d9i v
end
def SV.isCell:SV→Bool
 |.con v=>v.oneCell'
 |.agg _|.tup _|.any=>false
 |_=>true
def SV.cells:SV→Option (List SV)
 |.agg cs=>some cs
 |.tup _|.any=>none
 |.con v=>if v.oneCell' then some [.con v]else none
 |s=>some [s]
theorem D.one{w:World}{H:Nat→Prop}{μ:Mu}{s:SV}{v:Value}(h:D w H μ s v)(hc:s.isCell=true):v.oneCell'=true:=by
 cases h with
 |fp h=>
  split at h
  ·exact Cg
  ·subst h;rfl
 |_=>simp_all[SV.isCell,Value.oneCell']
theorem D.cells{w:World}{H:Nat→Prop}{μ:Mu}{s:SV}{v:Value}{cs:List SV}(h:D w H μ s v)(hc:s.cells=some cs):
 v.cells.toList.length=cs.length∧∀(i:Nat) (t:SV) (u:Value),cs[i]?=some t→v.cells.toList[i]?=some u→D w H μ t u:=by
 have one:∀{s:SV} {v:Value},D w H μ s v→v.cells= #[v]→cs=[s]→v.cells.toList.length=cs.length∧∀(i:Nat) (t:SV) (u:Value),cs[i]?=some t→v.cells.toList[i]?=some u→D w H μ t u:=by
  intro s v hd hv e
  subst e
  rw[hv]
  refine⟨rfl,fun i t u ht hu=> ?_⟩
  match i with
  |0=>simp at ht hu;subst ht hu;exact hd
  |i+1=>simp at ht
 cases h with
 |agg vs hl hd=>
  simp[SV.cells]at hc
  subst hc
  exact⟨by simpa[Value.cells]using hl,fun i t u ht hu=>hd i t u ht (by simpa[Value.cells]using hu)⟩
 |tup=>simp[SV.cells]at hc
 |any=>simp[SV.cells]at hc
 |ub h1 h2=>exact one (.ub h1 h2) rfl Eb
 |con=>
  simp only[SV.cells]at hc
  split at hc
  ·rename_i h1
   exact one .con (by cases v<;>simp_all[Value.cells,Value.oneCell']) (by simpa using hc.symm)
  ·cases hc
 |int=>exact one .int rfl Eb
 |bool=>exact one .bool rfl Eb
 |own h=>exact one (.own h) rfl Eb
 |osl h=>exact one (.osl h) rfl Eb
 |oel h=>exact one (.oel h) rfl Eb
 |sl a b o m g hm hx fa h8 hl hd=>exact one (.sl a b o m g hm hx fa h8 hl hd) rfl Eb
 |rel b o g hi hb h8 hl hd=>exact one (.rel b o g hi hb h8 hl hd) rfl Eb
 |clo vs hl hd=>exact one (.clo vs hl hd) rfl Eb
 |omp h=>exact one (.omp h) rfl Eb
 |fp h=>
  have hv:v.cells= #[v]:=by
   split at h
   ·exact Cg
   ·subst h;rfl
  exact one (.fp h) hv Eb
 |mp r g hb hm hl hd=>exact one (.mp r g hb hm hl hd) rfl Eb
theorem c9x{α:Type}{F:Nat→List α}{sz:Nat}:∀{m k:Nat},(∀i,k≤i→i<k+m→(F i).length=sz)→((List.range' k m).flatMap F).length=m*sz
 |0,_,_=>Dv
 |m+1,k,h=>by
  rw[List.range'_succ,List.flatMap_cons,Jj,h k (J2 _) Dt,c9x (m:=m) (k:=k+1) (fun i h1 h2=>h i Dt Dt),Lt,Nat.add_comm]
theorem c4g{α:Type}{F:Nat→List α}{sz:Nat}:∀{m k x:Nat} {a:α},(∀i,k≤i→i<k+m→(F i).length=sz)→((List.range' k m).flatMap F)[x]?=some a→∃i j,i<m∧j<sz∧x=i*sz+j∧(F (k+i))[j]?=some a
 |0,k,x,a,_,h=>E7
 |m+1,k,x,a,hl,h=>by
  rw[List.range'_succ,List.flatMap_cons]at h
  have h0:=hl k (J2 _) Dt
  by_cases hx:x<sz
  ·rw[J6 Dt]at h
   exact⟨0,x,Dt,hx,Dt,h⟩
  ·rw[Jr Dt,h0]at h
   obtain⟨i,j,hi,hj,e,hF⟩:=c4g (m:=m) (k:=k+1) (fun i h1 h2=>hl i Dt Dt) h
   refine⟨i+1,j,Dt,hj,?_,by rw[show k+(i+1)=k+1+i from Dt];exact hF⟩
   rw[Lt];omega
def c97(own:List Blk)(n:Nat):SV→Option (List SV)
 |.own k off=>match own[k]? with
  |some (.cells _ cs)=>if off+n≤cs.length then some ((cs.drop off).take n)else none
  |_=>none
 |.rel sz m f i off=>if off+n≤(f i).length then some (((f i).drop off).take n)else if i=0∧off=0∧n=m*sz then some ((List.range' 0 m).flatMap f)else none
 |.oel k sz i off=>match own[k]? with
  |some (.row _ sz' _ f _)=>if sz=sz'∧off+n≤sz then some (((f i).drop off).take n)else none
  |some (.rowh _ sz' _ _ _ _ u)=>if sz=sz'∧off+n≤sz then some ((u.drop off).take n)else none
  |_=>none
 |_=>none
def d7h(own:List Blk):SV→Prop
 |.oel k _ i _=>match own[k]? with
  |some (.row _ _ n _ _)=>i<n
  |some (.rowh _ _ _ _ _ i' _)=>i=i'
  |_=>False
 |_=>True
section
variable {B0 : Nat} {X A : Nat → Prop} {w : World} {μ : Mu} {own ownN : List Blk}
theorem b07{α:Type}{l:List α}{off n j:Nat}{s:α}(h:((l.drop off).take n)[j]?=some s):j<n∧l[off+j]?=some s:=by
 rw[List.getElem?_take]at h
 split at h
 ·rename_i hj;exact⟨hj,E1⟩
 ·cases h
theorem f3d(hO:Own B0 X A w μ ownN)(ba:∀(k:Nat) (bl:Blk),own[k]?=some bl→ownN[k]?=some bl){p:SV}{v:Value}{n:Nat}{cs:List SV}
 (hd:D w (held A μ) μ p v) (hr:c97 own n p=some cs) (hp:d7h own p):
 ∃(a:Addr) (us:List Value),v=.pointer (some a)∧a.spot=none∧us.length=n∧cs.length=n∧(∀(j:Nat) (u:Value),us[j]?=some u→w.cell? (a.add j)=some u)∧
  ∀(i:Nat) (s:SV) (u:Value),cs[i]?=some s→us[i]?=some u→D w (held A μ) μ s u:=by
 cases hd with
 |own h=>
  rename_i k off b
  simp only[c97]at hr
  split at hr
  ·rename_i T cs0 hk
   split at hr
   ·rename_i ck
    simp only[Jh]at hr
    subst hr
    obtain⟨bl,e,b6⟩:=hO.blk k _ h
    rw[ba _ _ hk]at e
    cases e
    obtain⟨b',vs,e1,hh,hl,h1,hD⟩:=b6
    cases e1
    refine⟨⟨b,off,none⟩,(vs.drop off).take n,rfl,rfl,E5,E5,fun j u hu=> ?_,fun i s u hs hu=> ?_⟩
    ·obtain⟨_,di⟩:=b07 hu
     exact Ch
    ·obtain⟨_,cc⟩:=b07 hs
     obtain⟨_,di⟩:=b07 hu
     exact hD _ _ _ cc di
   ·cases hr
  ·cases hr
 |rel b o g hi hb h8 hl hD=>
  rename_i sz nn i off f
  simp only[c97]at hr
  split at hr
  ·rename_i ck
   simp only[Jh]at hr
   subst hr
   have hli:=(hl i hi).1
   refine⟨⟨b,o+i*sz+off,none⟩,((List.range sz).map (g i) |>.drop off).take n,rfl,rfl,E5,E5,fun j u hu=> ?_,fun j s u hs hu=> ?_⟩
   ·obtain⟨_,di⟩:=b07 hu
    simp only[Id]at di
    obtain⟨x,hx,e⟩:=di
    have d4:x=off+j∧off+j<sz:=by
     rw[Iz]at hx
     obtain⟨h9,e'⟩:=hx
     simp at h9 e'
     exact⟨e'.symm,h9⟩
    obtain⟨rfl,h9⟩:=d4
    rw[Ke,←e,←(h8.2 i (off+j) hi h9).1]
    simp[Kb]
   ·obtain⟨_,cc⟩:=b07 hs
    obtain⟨_,di⟩:=b07 hu
    simp only[Id]at di
    obtain⟨x,hx,e⟩:=di
    rw[Iz]at hx
    obtain⟨h9,e'⟩:=hx
    simp at e'
    subst e' e
    exact hD i _ _ hi cc
  ·split at hr
   ·rename_i hw
    obtain⟨rfl,rfl,rfl⟩:=hw
    simp only[Jh]at hr
    subst hr
    have fb:∀i,0≤i→i<0+nn→((List.range sz).map (g i)).length=sz:=fun i _ _=>Dv
    have dq:∀i,0≤i→i<0+nn→(f i).length=sz:=fun i _ h=>(hl i Dt).1
    refine⟨⟨b,o+0*sz+0,none⟩,(List.range' 0 nn).flatMap fun i=>(List.range sz).map (g i),rfl,rfl,c9x fb,c9x dq,fun j u hu=> ?_,fun j s u hs hu=> ?_⟩
    ·obtain⟨i,k,b7,hk,rfl,e⟩:=c4g fb hu
     simp only[Kf,Id]at e
     obtain⟨x,hx,rfl⟩:=e
     have:x=k:=by
      rw[Iz]at hx
      obtain⟨h9,e'⟩:=hx
      simp at e'
      exact e'.symm
     subst this
     rw[Ke,←(h8.2 i x b7 hk).1]
     congr 2
     omega
    ·obtain⟨i,k,b7,hk,e1,e⟩:=c4g fb hu
     obtain⟨i2,k2,be,df,e2,e3⟩:=c4g dq hs
     have hdiv:i=i2∧k=k2:=by
      have h1:(i*sz+k)/sz=i:=by rw[L4,Nat.mul_add_div Dt,Nat.div_eq_of_lt hk,Kz]
      have h2:(i2*sz+k2)/sz=i2:=by rw[L4,Nat.mul_add_div Dt,Nat.div_eq_of_lt df,Kz]
      have h3:i=i2:=by rw[←h1,←h2,←e1,←e2]
      subst h3
      exact⟨rfl,Dt⟩
     obtain⟨rfl,rfl⟩:=hdiv
     simp only[Kf,Id]at e e3
     obtain⟨x,hx,rfl⟩:=e
     have:x=k:=by
      rw[Iz]at hx
      obtain⟨h9,e'⟩:=hx
      simp at e'
      exact e'.symm
     subst this
     exact hD i x s b7 e3
   ·cases hr
 |oel h=>
  rename_i k sz i off b o n1 m1
  simp only[c97]at hr
  simp only[d7h]at hp
  split at hr
  ·rename_i T sz' n' f c hk
   rw[hk]at hp
   simp only at hp
   split at hr
   ·rename_i ck
    obtain⟨rfl,ck⟩:=ck
    simp only[Jh]at hr
    subst hr
    obtain⟨bl,e,b6⟩:=hO.blk k _ h
    rw[ba _ _ hk]at e
    cases e
    obtain⟨a,m,e1,hn,hm,hc,hl,b9⟩:=b6
    cases e1
    rcases b9 with e2|⟨b',o',vs,c7,e2,hh,ho,h1,hD⟩
    ·omega
    cases e2
    have hli:=(hl i hp).1
    have ft:o+i*sz+sz≤vs.length:=by
     have:i*sz+sz≤m1*sz:=I4
     omega
    refine⟨⟨b,o+i*sz+off,none⟩,(vs.drop (o+i*sz+off)).take n,rfl,rfl,E5,E5,fun j u hu=> ?_,fun j s u hs hu=> ?_⟩
    ·obtain⟨_,di⟩:=b07 hu
     exact Ch
    ·obtain⟨_,cc⟩:=b07 hs
     obtain⟨_,di⟩:=b07 hu
     exact hD i _ _ _ hp cc (by rw[←di];congr 1;omega)
   ·cases hr
  ·rename_i T sz' n' f c i' u0 hk
   rw[hk]at hp
   simp only at hp
   split at hr
   ·rename_i ck
    obtain⟨rfl,ck⟩:=ck
    simp only[Jh]at hr
    subst hr
    subst hp
    obtain⟨bl,e,b6⟩:=hO.blk k _ h
    rw[ba _ _ hk]at e
    cases e
    obtain⟨b',o',m',vs,e1,hn,hm,hc,hi,v8,hl,hh,ho,h1,hD,Pq⟩:=b6
    cases e1
    have ft:o+i*sz+sz≤vs.length:=by
     have:i*sz+sz≤m1*sz:=I4
     omega
    refine⟨⟨b,o+i*sz+off,none⟩,(vs.drop (o+i*sz+off)).take n,rfl,rfl,E5,E5,fun j u hu=> ?_,fun j s u hs hu=> ?_⟩
    ·obtain⟨_,di⟩:=b07 hu
     exact Ch
    ·obtain⟨_,cc⟩:=b07 hs
     obtain⟨_,di⟩:=b07 hu
     exact Pq _ _ _ cc (by rw[←di];congr 1;omega)
   ·cases hr
  ·cases hr
 |_=>simp[c97]at hr
end
def b2n(P:Program)(T:TypeId):Option Bool:=(P.underlying T).map c4v
def b10(P:Program)(T:TypeId):Option Nat:=(P.info? T).map (·.size)
def f4f(P:Program)(T:TypeId)(cs:List SV):Option SV:=
 match b2n P T,cs with
 |some true,cs=>some (.agg cs)
 |some false,[s]=>some s
 |_,_=>none
def c5x(P:Program)(own:List Blk)(T:TypeId)(p:SV):Option (Prop×SV):=do
 let n←b10 P T
 let cs←c97 own n p
 let s←f4f P T cs
 some (d7h own p,s)
def d9h(P:Program)(T:TypeId)(f:Nat):Option (Nat×TypeId×Nat):=
 match P.underlying T with
 |some (.struct fs)=>match fs[f]? with
  |some fd=>(b10 P fd.type).map fun n=>(fd.offset,fd.type,n)
  |none=>none
 |_=>none
def SV.plus(off:Nat):SV→Option SV
 |.own k o=>some (.own k (o+off))
 |.oel k sz i o=>some (.oel k sz i (o+off))
 |.rel sz n f i o=>some (.rel sz n f i (o+off))
 |_=>none
def c0j(P:Program)(T:TypeId)(f:Nat)(p:SV):Option (Prop×SV):=do
 let (off,_,n)←d9h P T f
 if n=0 then none else
 let s←p.plus off
 some (True,s)
def d7q(P:Program)(T:TypeId)(f:Nat)(x:SV):Option (Prop×SV):=do
 let (off,U,n)←d9h P T f
 match x with
 |.agg cs=>if off+n≤cs.length then(f4f P U ((cs.drop off).take n)).map fun s=>(True,s)else none
 |_=>none
section
variable {P : Program} {B0 : Nat} {X A : Nat → Prop} {w : World} {μ : Mu} {own ownN : List Blk}
theorem b55{H:Nat→Prop}{T:TypeId}{cs:List SV}{us:List Value}{s:SV}(hs:f4f P T cs=some s)(hl:us.length=cs.length)(hD:∀(i:Nat) (s:SV) (u:Value),cs[i]?=some s→us[i]?=some u→D w H μ s u):
 ∃d,P.underlying T=some d∧((c4v d=true∧D w H μ s (.agg us.toArray))∨(c4v d=false∧∃u,us=[u]∧D w H μ s u)):=by
 unfold f4f b2n at hs
 cases hu:P.underlying T with
 |none=>simp[hu]at hs
 |some d=>
  refine⟨d,rfl,?_⟩
  simp only[hu,K7]at hs
  cases hb:c4v d with
  |true=>
   rw[hb]at hs
   simp at hs
   subst hs
   exact .inl ⟨rfl,.agg us hl hD⟩
  |false=>
   rw[hb]at hs
   match cs,us,hl,hs with
   | [t],[u],_,hs=>
     simp at hs
     subst hs
     exact .inr ⟨rfl,u,rfl,hD 0 t u rfl rfl⟩
   | [],_,_,hs=>simp at hs
   |_::_::_,_,_,hs=>simp at hs
   | [t],[],hl,_=>simp at hl
   | [t],_::_::_,hl,_=>simp at hl
theorem c33(hO:Own B0 X A w μ ownN)(ba:∀(k:Nat) (bl:Blk),own[k]?=some bl→ownN[k]?=some bl){T:TypeId}{p s:SV}{v:Value}{pre:Prop}
 (hd:D w (held A μ) μ p v) (he:c5x P own T p=some (pre,s)) (hp:pre):∃u,(Instr.loadAt T v).run P w=.ok u w∧D w (held A μ) μ s u:=by
 simp only[c5x,b10,Ii,Ia,Jh]at he
 obtain⟨n,⟨inf,hi,rfl⟩,cs,hr,s',hs,rfl,rfl⟩:=he
 obtain⟨a,us,rfl,_,gv,d9,hc,hD⟩:=f3d hO ba hd hr hp
 obtain⟨d,hu,h|h⟩:=b55 hs Dt hD
 ·refine⟨_,?_,h.2⟩
  simp[Instr.loadAt,Instr.sureAddr,loadVar,b8u hu,h.1,b0h hi,c18 a us inf.size gv hc]
 ·obtain⟨hb,u,rfl,w6⟩:=h
  refine⟨u,?_,w6⟩
  have h0:w.cell? a=some u:=by have:=hc 0 u rfl;rwa[Addr.add_zero']at this
  simp only[Instr.loadAt,Instr.sureAddr,loadVar,Ic,b8u hu,hb]
  simpa using g2t a u h0
theorem f55{H:Nat→Prop}{off:Nat}{p s:SV}{v:Value}(hd:D w H μ p v)(hs:p.plus off=some s):∃a,v=.pointer (some a)∧a.spot=none∧D w H μ s (.pointer (some (a.add off))):=by
 cases hd<;>simp[SV.plus]at hs
 case own h=>subst hs;exact⟨_,rfl,rfl,by rw[Ke];exact .own h⟩
 case oel h=>subst hs;exact⟨_,rfl,rfl,by rw[Ke,Kb];exact .oel h⟩
 case rel b o g hi hb h8 hl hD=>subst hs;exact⟨_,rfl,rfl,by rw[Ke,Kb];exact .rel b o g hi hb h8 hl hD⟩
theorem c3g{T:TypeId}{f off n:Nat}{U:TypeId}(h:d9h P T f=some (off,U,n)):∃fs fd inf,P.underlying T=some (.struct fs)∧fs[f]?=some fd∧P.info? U=some inf∧inf.size=n∧fd.type=U∧fd.offset=off:=by
 unfold d9h b10 at h
 split at h
 ·rename_i fs fu
  split at h
  ·rename_i fd fe
   simp only[Ia]at h
   obtain⟨_,⟨inf,hi,rfl⟩,rfl,rfl,rfl⟩:=h
   exact⟨fs,fd,inf,fu,fe,hi,rfl,rfl,rfl⟩
  ·cases h
 ·cases h
theorem c53{H:Nat→Prop}{T:TypeId}{f:Nat}{p s:SV}{v:Value}{pre:Prop}(hd:D w H μ p v)(he:c0j P T f p=some (pre,s)):∃u,(Instr.fieldAt T v f).run P w=.ok u w∧D w H μ s u:=by
 simp only[c0j,Ii]at he
 obtain⟨⟨off,U,n⟩,hf,he⟩:=he
 simp only at he
 split at he
 ·cases he
 rename_i hn
 simp only[J3,Ib]at he
 obtain⟨s',hs,rfl,rfl⟩:=he
 obtain⟨fs,fd,inf,fu,fe,hi,rfl,rfl,rfl⟩:=c3g hf
 obtain⟨a,rfl,_,hD⟩:=f55 hd hs
 refine⟨_,?_,hD⟩
 simp[Instr.fieldAt,Jm fu,fe,Instr.sureAddr,fieldPlace,b0h hi,hn]
theorem d6x{H:Nat→Prop}{T:TypeId}{f:Nat}{x s:SV}{v:Value}{pre:Prop}(hd:D w H μ x v)(he:d7q P T f x=some (pre,s)):∃u,(Instr.field T v f).run P w=.ok u w∧D w H μ s u:=by
 simp only[d7q,Ii]at he
 obtain⟨⟨off,U,n⟩,hf,he⟩:=he
 obtain⟨fs,fd,inf,fu,fe,hi,rfl,rfl,rfl⟩:=c3g hf
 simp only at he
 split at he
 ·rename_i cs
  split at he
  ·rename_i ck
   simp only[Ia]at he
   obtain⟨s',hs,rfl,rfl⟩:=he
   cases hd with
   |agg vs hl hD=>
    obtain⟨d,hu,h|h⟩:=b55 (w:=w) (H:=H) (μ:=μ) (us:=(vs.drop fd.offset).take inf.size) hs E5 (fun i s u hs hu=>by
     obtain⟨_,cc⟩:=b07 hs
     obtain⟨_,di⟩:=b07 hu
     exact hD _ _ _ cc di)
    ·refine⟨_,?_,h.2⟩
     have he:vs.toArray.extract fd.offset (fd.offset+inf.size)=((vs.drop fd.offset).take inf.size).toArray:=by
      simp[List.take_drop]
     simp only[Instr.field,Ic,Jm fu,fe,asAgg,part,b8u hu,h.1,K5,b0h hi,he]
    ·obtain⟨hb,u,jd,w6⟩:=h
     refine⟨u,?_,w6⟩
     have hv:vs[fd.offset]?=some u:=by
      have:((vs.drop fd.offset).take inf.size)[0]?=some u:=by rw[jd];rfl
      simpa using(b07 this).2
     simp only[Instr.field,Ic,Jm fu,fe,asAgg,part,b8u hu,hb,Ij]
     simp[hv]
  ·cases he
 ·cases he
end
def j1d(op:BinOp)(x y:SV):Option (Prop×SV):=
 match op,x,y with
 |.add,.int k a,.int k' b=>if k=k' then some (inK k (a+b),.int k (a+b))else none
 |.sub,.int k a,.int k' b=>if k=k' then some (inK k (a-b),.int k (a-b))else none
 |.mul,.int k a,.int k' b=>if k=k' then some (inK k (a*b),.int k (a*b))else none
 |.quo,.int k a,.int k' b=>if k=k' then some (b≠0∧inK k (a.tdiv b),.int k (a.tdiv b))else none
 |.rem,.int k a,.int k' b=>if k=k' then some (b≠0,.int k (a.tmod b))else none
 |.eql,.int k a,.int k' b=>if k=k' then some (True,.bool (decide (a=b)))else none
 |.neq,.int k a,.int k' b=>if k=k' then some (True,.bool (!decide (a=b)))else none
 |.lss,.int k a,.int k' b=>if k=k' then some (True,.bool (decide (a<b)))else none
 |.leq,.int k a,.int k' b=>if k=k' then some (True,.bool (decide (a≤b)))else none
 |.gtr,.int k a,.int k' b=>if k=k' then some (True,.bool (decide (b<a)))else none
 |.geq,.int k a,.int k' b=>if k=k' then some (True,.bool (decide (b≤a)))else none
 |_,_,_=>none
section
variable {P : Program} {w : World} {H : Nat → Prop} {μ : Mu}
theorem f5k{op:BinOp}{T:TypeId}{xo yo:Operand}{x y s:SV}{v u:Value}{pre:Prop}(hx:D w H μ x v)(hy:D w H μ y u)(he:j1d op x y=some (pre,s))(hp:pre):
 ∃r,(do eqGuard op T xo yo v u;binOp op T v u).run P w=.ok r w∧D w H μ s r:=by
 unfold j1d at he
 split at he<;>(try cases he)
 all_goals
  cases hx;cases hy
  split at he<;>(try cases he)
  rename_i hk
  subst hk
 case h_1=>refine⟨_,?_,.int⟩;simp[go_sem,b4p hp]
 case h_2=>refine⟨_,?_,.int⟩;simp[go_sem,b4p hp]
 case h_3=>refine⟨_,?_,.int⟩;simp[go_sem,b4p hp]
 case h_4=>refine⟨_,?_,.int⟩;simp[go_sem,b4p hp.2,hp.1]
 case h_5=>refine⟨_,?_,.int⟩;simp[go_sem,show¬_ from hp]
 case h_6=>refine⟨_,?_,.bool⟩;simp[go_sem];rfl
 case h_7=>refine⟨_,?_,.bool⟩;simp[go_sem];rfl
 case h_8=>refine⟨_,?_,.bool⟩;simp[go_sem]
 case h_9=>refine⟨_,?_,.bool⟩;simp[go_sem]
 case h_10=>refine⟨_,?_,.bool⟩;simp[go_sem]
 case h_11=>refine⟨_,?_,.bool⟩;simp[go_sem]
def evUn(op:UnOp)(x:SV):Option (Prop×SV):=
 match op,x with
 |.neg,.int k a=>some (inK k (-a),.int k (-a))
 |.not,.bool b=>some (True,.bool (!b))
 |_,_=>none
theorem g61{op:UnOp}{x s:SV}{v:Value}{pre:Prop}(hx:D w H μ x v)(he:evUn op x=some (pre,s))(hp:pre):∃r,(Op.unary op v).run P w=.ok r w∧D w H μ s r:=by
 unfold evUn at he
 split at he
 ·cases hx;cases he;refine⟨_,?_,.int⟩;simp[Op.unary,go_sem,b4p hp]
 ·cases hx;cases he;refine⟨_,?_,.bool⟩;simp[Op.unary]
 ·cases he
def f86(P:Program)(S T:TypeId)(x:SV):Option (Prop×SV):=
 match P.underlying S,P.underlying T,x with
 |some _,some (.int k),.int _ n=>some (inK k n,.int k n)
 |_,_,_=>none
theorem f4w{S T:TypeId}{x s:SV}{v:Value}{pre:Prop}(hx:D w H μ x v)(he:f86 P S T x=some (pre,s))(hp:pre):∃r,(convert S T v).run P w=.ok r w∧D w H μ s r:=by
 unfold f86 at he
 split at he
 ·rename_i d k k' n hS hT
  cases he
  cases hx
  refine⟨_,?_,.int⟩
  have hk:P.intKind T=k:=by simp[Program.intKind,hT]
  have:=run_convert_int (P:=P) w S T k' n (by simp[hS]) (by rw[hk];exact hT)
  rw[this,hk,b4p hp]
 ·cases he
def c5y(x:SV)(i:Nat):Option (Prop×SV):=
 match x with
 |.tup vs=>(vs[i]?).map fun s=>(True,s)
 |_=>none
theorem d2n{x s:SV}{v:Value}{i:Nat}{pre:Prop}(hx:D w H μ x v)(he:c5y x i=some (pre,s)):∃r,(Instr.extract v i).run P w=.ok r w∧D w H μ s r:=by
 unfold c5y at he
 split at he
 ·rename_i vs
  simp only[Ia]at he
  obtain⟨s',hs,rfl,rfl⟩:=he
  cases hx with
  |tup us hl hD=>
   have h9:i<us.length:=by rw[hl];exact(Iz.1 hs).1
   refine⟨us[i],?_,hD i _ _ hs (Iv h9)⟩
   simp[Instr.extract,h9]
 ·cases he
def f3r(own:List Blk):SV→Option Nat
 |.con (.slice none 0 0)=>some 0
 |.sl _ n _ _=>some n
 |.osl k=>match own[k]? with
  |some (.row _ _ n _ _)=>some n
  |_=>none
 |_=>none
def f4h(own:List Blk):SV→Option Nat
 |.con (.slice none 0 0)=>some 0
 |.sl _ _ _ c=>c
 |.osl k=>match own[k]? with
  |some (.row _ _ _ _ c)=>c
  |_=>none
 |_=>none
theorem d88{B0:Nat}{X A:Nat→Prop}{own ownN:List Blk}(hO:Own B0 X A w μ ownN)(ba:∀(k:Nat) (bl:Blk),own[k]?=some bl→ownN[k]?=some bl){x:SV}{v:Value}{n:Nat}
 (hx:D w (held A μ) μ x v) (he:f3r own x=some n):∃a m,v=.slice a n m∧n≤m∧m≤maxLen:=by
 cases hx with
 |sl a b o m g hm hx hc h8 hl hd=>simp[f3r]at he;subst he;exact⟨a,m,rfl,hm,hx⟩
 |osl h=>
  simp only[f3r]at he
  split at he
  ·rename_i T sz n' f c hk
   simp only[Jh]at he
   subst he
   obtain⟨bl,e,b6⟩:=hO.blk _ _ h
   rw[ba _ _ hk]at e
   cases e
   obtain⟨a,m,e1,hn,hm,_⟩:=b6
   cases e1
   exact⟨_,_,rfl,hn,hm⟩
  ·cases he
 |con=>
  unfold f3r at he
  split at he<;>first
   |(rename_i je;cases je;cases he;exact⟨none,0,rfl,J2 _,F3⟩)
   |simp_all
 |_=>simp[f3r]at he
theorem d8h{B0:Nat}{X A:Nat→Prop}{own ownN:List Blk}(hO:Own B0 X A w μ ownN)(ba:∀(k:Nat) (bl:Blk),own[k]?=some bl→ownN[k]?=some bl){x:SV}{v:Value}{m:Nat}
 (hx:D w (held A μ) μ x v) (he:f4h own x=some m):∃a n,v=.slice a n m:=by
 cases hx with
 |sl a b o m' g hm hx hc h8 hl hd=>
  rename_i sz n f c
  simp only[f4h]at he
  rcases hc with hc|hc
  ·rw[hc]at he;cases he
  ·rw[hc]at he;cases he;exact⟨a,n,rfl⟩
 |osl h=>
  simp only[f4h]at he
  split at he
  ·rename_i T sz n' f c hk
   subst he
   obtain⟨bl,e,b6⟩:=hO.blk _ _ h
   rw[ba _ _ hk]at e
   cases e
   obtain⟨a,m',e1,hn,hm,hc,_⟩:=b6
   cases e1
   rcases hc with hc|hc
   ·cases hc
   ·cases hc;exact⟨_,_,rfl⟩
  ·cases he
 |con=>
  unfold f4h at he
  split at he<;>first
   |(rename_i je;cases je;cases he;exact⟨none,0,rfl⟩)
   |simp_all
 |_=>simp[f4h]at he
def b2s(P:Program)(T:TypeId):Option TypeId:=match P.underlying T with
 |some (.slice e)=>some e
 |_=>none
theorem b0y{T e:TypeId}(h:b2s P T=some e):P.underlying T=some (.slice e):=by
 unfold b2s at h;split at h<;>simp_all
def c7q(P:Program)(own:List Blk)(b:Builtin)(ts:List TypeId)(xs:List SV):Option (Prop×SV):=
 match b,ts,xs with
 |.len,[T],[x]=>match b2s P T with
  |some _=>(f3r own x).map fun(n:Nat)=>(True,.int .i64 (n:Int))
  |none=>none
 |.cap,[T],[x]=>match b2s P T with
  |some _=>(f4h own x).map fun(n:Nat)=>(True,.int .i64 (n:Int))
  |none=>none
 |.min,_,[.int k a,.int _ b]=>some (True,.int k (min a b))
 |.max,_,[.int k a,.int _ b]=>some (True,.int k (max a b))
 |_,_,_=>none
theorem g4g(k k':IntKind)(a b:Int)(ts:Array TypeId)(ty:TypeId):(Builtin.min_ ts ty #[.int k a,.int k' b]).run P w=.ok (.int k (min a b)) w:=by
 simp only[Builtin.min_]
 have:(if b<a then b else a)=min a b:=by split<;>omega
 simp[Builtin.min2,this]
theorem g5v(k k':IntKind)(a b:Int)(ts:Array TypeId)(ty:TypeId):(Builtin.max_ ts ty #[.int k a,.int k' b]).run P w=.ok (.int k (max a b)) w:=by
 simp only[Builtin.max_]
 have:(if b>a then b else a)=max a b:=by split<;>omega
 simp[Builtin.max2,this]
def c9n(k:IntKind):List SV→Option (List Int)
 | []=>some []
 |.int k' n::r=>if k=k' then(c9n k r).map (n:: ·)else none
 |_=>none
theorem c6t{k:IntKind}:∀{l:List SV} {ns:List Int},c9n k l=some ns→l=ns.map (SV.int k)
 | [],ns,h=>by simp[c9n]at h;simp[h]
 |.int k' n::r,ns,h=>by
  simp only[c9n]at h
  split at h
  ·rename_i e
   subst e
   rw[J1]at h
   obtain⟨ms,hm,rfl⟩:=h
   rw[c6t hm]
   rfl
  ·cases h
 |.bool _::_,_,h|.con _::_,_,h|.own _ _::_,_,h|.osl _::_,_,h|.oel _ _ _ _::_,_,h|.sl _ _ _ _::_,_,h|.rel _ _ _ _ _::_,_,h|.agg _::_,_,h|.tup _::_,_,h|.clo _ _::_,_,h|.any::_,_,h=>by simp[c9n]at h
def j52:List SV→Option (Nat→SV)
 |.int k n::r=>(c9n k (.int k n::r)).map fun ns j=>.int k (ns.getD j 0)
 |_=>none
theorem f4y{l:List SV}{f:Nat→SV}(h:j52 l=some f):∀j s,l[j]?=some s→f j=s∧s.pure=true:=by
 unfold j52 at h
 split at h
 ·rename_i k n r
  rw[J1]at h
  obtain⟨ns,hn,rfl⟩:=h
  have e:=c6t hn
  intro j s hs
  rw[e,Jv,J1]at hs
  obtain⟨m,hm,rfl⟩:=hs
  exact⟨by simp[hm],rfl⟩
 ·cases h
def d4n(l:List SV)(sz:Nat):Nat→Nat→List SV
 |_,0=>[]
 |off,n+1=>l.getD off .any::d4n l sz (off+sz) n
theorem c99{l:List SV}{sz:Nat}:∀{n off j:Nat},j<n→(d4n l sz off n)[j]?=some (l.getD (off+j*sz) .any)
 |n+1,off,0,_=>by simp[d4n]
 |n+1,off,j+1,h=>by
  simp only[d4n,Ks]
  rw[c99 Dt]
  congr 2
  rw[Lt];omega
def d47(l:List SV)(off sz len:Nat):Nat→Option (List (Nat→SV))
 |0=>some []
 |c+1=>(d47 l off sz len c).bind fun cs=>(j52 (d4n l sz (off+c) len)).map fun f=>cs++[f]
theorem c7m{l:List SV}{off sz len:Nat}:∀{c:Nat} {fs:List (Nat→SV)},d47 l off sz len c=some fs→fs.length=c∧∀(i j:Nat) (s:SV),i<c→j<len→l[off+j*sz+i]?=some s→(fs.map (· j))[i]?=some s∧s.pure=true
 |0,fs,h=>by simp[d47]at h;subst h;exact⟨rfl,fun i j s hi=>Dt⟩
 |c+1,fs,h=>by
  simp only[d47,J3,J1]at h
  obtain⟨cs,dx,f,hf,rfl⟩:=h
  obtain⟨h1,h2⟩:=c7m dx
  refine⟨Eh,fun i j s hi hj hs=> ?_⟩
  by_cases e:i=c
  ·subst e
   have hg:=c99 (l:=l) (sz:=sz) (off:=off+i) hj
   have e2:off+i+j*sz=off+j*sz+i:=Dt
   rw[e2,It,hs]at hg
   obtain⟨e1,e3⟩:=f4y hf j s hg
   refine⟨?_,e3⟩
   rw[List.map_append,Jr Eh]
   simp[h1,e1]
  ·obtain⟨e1,e3⟩:=h2 i j s Dt hj hs
   refine⟨?_,e3⟩
   rw[List.map_append,J6 (by simp[h1];omega)]
   exact e1
def b9u(P:Program)(own:List Blk)(T:TypeId)(x i:SV):Option (Prop×SV):=
 match i with
 |.int _ n=>match P.underlying T with
  |some (.slice e)=>match x with
   |.sl sz len f _=>if b10 P e=some sz∨len=0 then some (0≤n∧n<len,.rel sz len f n.toNat 0)else none
   |.osl k=>match own[k]? with
    |some (.row _ sz len _ _)=>if b10 P e=some sz then some (0≤n∧n<len,.oel k sz n.toNat 0)else none
    |some (.rowh _ sz len _ _ _ _)=>if b10 P e=some sz then some (0≤n∧n<len,.oel k sz n.toNat 0)else none
    |_=>none
   |_=>none
  |some (.array len e)=>match x with
   |.rel sz' len' f j off=>match b10 P e with
    |some sz=>if sz=sz' then(if len=len'∧j=0∧off=0 then some (0≤n∧n<len,.rel sz len f n.toNat 0)else none)else if off+len*sz≤(f j).length then(d47 (f j) off sz len sz).map fun fs=>(0≤n∧n<len,.rel sz len (fun j=>fs.map (· j)) n.toNat 0)else none
    |none=>none
   |.own k off=>match b10 P e with
    |some sz=>if n.toNat<len then some (0≤n,.own k (off+n.toNat*sz))else none
    |none=>none
   |_=>none
  |_=>none
 |_=>none
theorem c6y{B0:Nat}{X A:Nat→Prop}{own ownN:List Blk}(hO:Own B0 X A w μ ownN)(ba:∀(k:Nat) (bl:Blk),own[k]?=some bl→ownN[k]?=some bl){T:TypeId}{x i s:SV}{v u:Value}{pre:Prop}
 (hx:D w (held A μ) μ x v) (hi:D w (held A μ) μ i u) (he:b9u P own T x i=some (pre,s)) (hp:pre):∃r,(Instr.indexAt T v u).run P w=.ok r w∧D w (held A μ) μ s r:=by
 unfold b9u at he
 split at he
 rotate_left
 ·cases he
 rename_i ki n
 cases hi
 split at he
 ·rename_i e hT
  have ji:P.elem T=e:=Fy
  split at he
  ·rename_i sz len f c
   split at he
   rotate_left
   ·cases he
   rename_i bk
   simp only[Ib]at he
   obtain⟨rfl,rfl⟩:=he
   have hn:n.toNat<len:=Dt
   have bk:b10 P e=some sz:=by rcases bk with h|h;exact h;omega
   simp only[b10,J1]at bk
   obtain⟨inf,bn,rfl⟩:=bk
   cases hx with
   |sl a b o m g hm ff hc h8 hl hd=>
    obtain⟨rfl,hb,hr⟩:=h8 Dt
    refine⟨_,?_,.rel (off:=0) b o g hn hb hr hl hd⟩
    rw[run_indexAt_slice w T _ _ _ _ _ (by rw[ji];exact hT),Iw hp,ji,b0h bn]
    simp[Ke]
  ·rename_i k
   split at he
   ·rename_i T' sz len f c hk
    split at he
    rotate_left
    ·cases he
    rename_i bk
    simp only[Ib]at he
    obtain⟨rfl,rfl⟩:=he
    simp only[b10,J1]at bk
    obtain⟨inf,bn,rfl⟩:=bk
    cases hx with
    |osl h=>
     obtain⟨bl,e',b6⟩:=hO.blk _ _ h
     rw[ba _ _ hk]at e'
     cases e'
     obtain⟨a,m',e1,hn,hm,hc,hl,b9⟩:=b6
     cases e1
     rcases b9 with rfl|⟨b,o,vs,c7,rfl,hh,ho,h1,hD⟩
     ·omega
     refine⟨_,?_,.oel (off:=0) h⟩
     rw[run_indexAt_slice w T _ _ _ _ _ (by rw[ji];exact hT),Iw hp,ji,b0h bn]
     simp[Ke]
   ·rename_i T' sz len f c i' u hk
    split at he
    rotate_left
    ·cases he
    rename_i bk
    simp only[Ib]at he
    obtain⟨rfl,rfl⟩:=he
    simp only[b10,J1]at bk
    obtain⟨inf,bn,rfl⟩:=bk
    cases hx with
    |osl h=>
     obtain⟨bl,e',b6⟩:=hO.blk _ _ h
     rw[ba _ _ hk]at e'
     cases e'
     obtain⟨b,o,m',vs,e1,hn,hm,hc,b7,hu,hl,hh,ho,h1,hD,Pq⟩:=b6
     cases e1
     refine⟨_,?_,.oel (off:=0) h⟩
     rw[run_indexAt_slice w T _ _ _ _ _ (by rw[ji];exact hT),Iw hp,ji,b0h bn]
     simp[Ke]
   ·cases he
  ·cases he
 ·rename_i len e hT
  have ji:P.elem T=e:=Fy
  have w5:P.arrayLen T=len:=by simp[Program.arrayLen,hT]
  split at he
  ·rename_i sz0 len0 f j off
   split at he
   rotate_left
   ·cases he
   rename_i sz bk
   split at he
   ·rename_i esz
    subst esz
    split at he
    rotate_left
    ·cases he
    rename_i hc
    obtain⟨rfl,rfl,rfl⟩:=hc
    simp only[Ib]at he
    obtain⟨rfl,rfl⟩:=he
    simp only[b10,J1]at bk
    obtain⟨inf,bn,rfl⟩:=bk
    cases hx with
    |rel b o g hi hb hr hl hd=>
     refine⟨_,?_,.rel (off:=0) b o g Dt hb hr hl hd⟩
     rw[run_indexAt_array w T _ _ _ Gp,Iw (by rw[w5];exact hp),ji,b0h bn]
     simp[Ke]
   split at he
   rotate_left
   ·cases he
   rename_i b8
   simp only[Ia]at he
   obtain⟨fs,fu,rfl,rfl⟩:=he
   simp only[b10,J1]at bk
   obtain⟨inf,bn,rfl⟩:=bk
   obtain⟨c1,c2⟩:=c7m fu
   cases hx with
   |rel b o g hj hb hr hl hd=>
    have hlj:=(hl j hj).1
    have inb:∀(a c:Nat),a<len→c<inf.size→off+a*inf.size+c<sz0:=by
     intro a c ha hc
     have:(a+1)*inf.size≤len*inf.size:=Jt _ ha
     rw[Lt]at this
     omega
    have got:∀(a c:Nat),a<len→c<inf.size→∃s,(f j)[off+a*inf.size+c]?=some s:=by
     intro a c ha hc
     have:=inb a c ha hc
     exact⟨_,Iv Dt⟩
    refine⟨_,?_,.rel (off:=0) b (o+j*sz0+off) (fun a c=>g j (off+a*inf.size+c)) Dt hb ⟨hr.1,fun a c ha hc=> ?_⟩ (fun a ha=>⟨by simp[c1],?_⟩) (fun a c s ha hs=> ?_)⟩
    ·rw[run_indexAt_array w T _ _ _ Gp,Iw (by rw[w5];exact hp),ji,b0h bn]
     simp[Ke]
    ·have:=hr.2 j _ hj (inb a c ha hc)
     rw[show o+j*sz0+off+a*inf.size+c=o+j*sz0+(off+a*inf.size+c)from Dt]
     exact this
    ·rw[J4]
     intro s hs
     obtain⟨c,hc⟩:=Kj.1 hs
     have d9:c<inf.size:=by
      have:=(Iz.1 hc).1
      simpa[c1]using this
     obtain⟨s',cc⟩:=got a c ha d9
     obtain⟨e1,e2⟩:=c2 c a s' d9 ha cc
     rw[hc]at e1
     cases e1
     exact e2
    ·have d9:c<inf.size:=by
      have:=(Iz.1 hs).1
      simpa[c1]using this
     obtain⟨s',cc⟩:=got a c ha d9
     obtain⟨e1,e2⟩:=c2 c a s' d9 ha cc
     rw[hs]at e1
     cases e1
     exact hd j _ s hj cc
  ·rename_i k off
   split at he
   rotate_left
   ·cases he
   rename_i sz bk
   split at he
   rotate_left
   ·cases he
   rename_i h9
   simp only[Ib]at he
   obtain⟨rfl,rfl⟩:=he
   simp only[b10,J1]at bk
   obtain⟨inf,bn,rfl⟩:=bk
   cases hx with
   |own h=>
    refine⟨_,?_,.own h⟩
    rw[run_indexAt_array w T _ _ _ Gp,Iw (by rw[w5];omega),ji,b0h bn]
    simp[Ke]
  ·cases he
 ·cases he
end
structure HRes where
 pre:Prop
 res:SV
 own:List Blk
 chg:List Nat
abbrev HK:=List SV→List Blk→Option HRes
structure KLaw (P:Program) (key:TypeId) (K:KT):Prop where
 check:∀(w:World) (em:Bool) (q:List Int),okq K q→(Instr.checkKey em 10000 key (kv K q)).run P w=.ok () w
 find:∀(w:World) (q:List Int) (es:List MapEntry),okq K q→(∀e∈es,∃q',okq K q'∧e.key=kv K q')→
  ∃r,(Instr.findKey key (kv K q) es).run P w=.ok r w∧((r=none∧∀e∈es,e.key≠kv K q)∨∃(j:Nat) (e:MapEntry),r=some (j,e.val)∧es[j]?=some e∧e.key=kv K q)
 stays:∀(w:World) (q:List Int),okq K q→(Instr.keyThatStays (kv K q) (kv K q)).run P w=.ok (kv K q) w
 inj:∀(q q':List Int),okq K q→okq K q'→kv K q=kv K q'→q=q'
abbrev d20:=TypeId→Nat→Nat→(Nat→List SV)→List SV→Option (Prop×(Nat→List SV)×Bool)
inductive Ghost where
 |focus (t:Nat)
 |unfocus (k:Nat)
 |newFam (m:Nat) (T:TypeId) (Ts:List (TypeId×Nat))
 |nil (t:Nat) (T:TypeId) (sz:Nat)
 |sel (ks:List Nat)
 |fz (k:Nat)
 |keep (l:List Nat)
 |flat (k:Nat)
 |orders
 |two (t:Nat)
structure Env where
 P:Program
 C:FuncId→Option (List SV→Option (Prop×SV))
 glob:Nat→Option SV
 ng:Nat
 st:TypeId→Bool
 X:FuncId→Option d20:=fun _=>none
 fz:Nat→Bool:=fun _=>false
 na:Nat:=0
 ax:Nat→Bool:=fun _=>true
 av:Nat→Option Value:=fun _=>none
 kt:TypeId→Option KT:=fun _=>none
 Hc:FuncId→Option HK:=fun _=>none
 c2:Bool:=false
 gr:Nat→List Ghost:=fun _=>[]
 fs:FuncId→Bool:=fun _=>false
def Env.ak(E:Env)(k:Nat):Bool:=decide (k<E.na)&&E.ax k
def Env.an(E:Env)(k:Nat):Option Value:=if E.ak k then E.av k else none
theorem Env.an_ak{E:Env}{k:Nat}{x:Value}(h:E.an k=some x):E.ak k=true:=by
 unfold Env.an at h
 split at h
 ·assumption
 ·cases h
theorem Env.ak_lt{E:Env}{k:Nat}(h:E.ak k=true):k<E.na:=by
 unfold Env.ak at h
 simp only[Ih]at h
 exact h.1
structure EnvOK (E:Env):Prop where
 st:∀T,E.st T=true→E.P.stoodInHeld T=false∧E.P.eqGuardType E.P.depth T=false∧∃fs,E.P.underlying T=some (.struct fs)∧∀f∈fs.toList,f.name≠ "_"
 kt:∀T K,E.kt T=some K→∃key elem,E.P.underlying T=some (.map key elem)∧KLaw E.P key K
def eqItems(eq:List SV→List SV→Option Bool)(sz:Nat)(xs ys:List SV):Nat→Nat→Option Bool
 |0,_=>some true
 |n+1,i=>match eq ((xs.drop (i*sz)).take sz) ((ys.drop (i*sz)).take sz)with
  |some b=>match eqItems eq sz xs ys n (i+1)with
   |some r=>some (b&&r)
   |none=>none
  |none=>none
def eqFs(P:Program)(eq:TypeId→List SV→List SV→Option Bool)(xs ys:List SV):List Field→Option Bool
 | []=>some true
 |f::fs=>match b10 P f.type with
  |some n=>if f.offset+n≤xs.length∧f.offset+n≤ys.length then
   match eq f.type ((xs.drop f.offset).take n) ((ys.drop f.offset).take n)with
   |some b=>match eqFs P eq xs ys fs with
    |some r=>some (b&&r)
    |none=>none
   |none=>none
   else none
  |none=>none
def d96(E:Env):Nat→TypeId→List SV→List SV→Option Bool
 |0,_,_,_=>none
 |d+1,T,xs,ys=>match E.P.underlying T with
  |some .bool=>match xs,ys with
   | [.bool a],[.bool b]=>some (a==b)
   |_,_=>none
  |some (.int _)=>match xs,ys with
   | [.int k a],[.int k' b]=>if k=k' then some (decide (a=b))else none
   |_,_=>none
  |some (.struct fs)=>if E.st T then eqFs E.P (d96 E d) xs ys fs.toList else none
  |some (.array n e)=>match b10 E.P e with
   |some sz=>if xs.length=n*sz∧ys.length=n*sz then eqItems (d96 E d e) sz xs ys n 0 else none
   |none=>none
  |_=>none
def b4u(P:Program)(T:TypeId)(us:List Value):Value:=if(b2n P T).getD false then .agg us.toArray else us.getD 0 undef
section
variable {E : Env} {w : World} {H : Nat → Prop} {μ : Mu}
theorem b7h{P:Program}{T:TypeId}{inf:TypeInfo}{d:TypeDesc}(hu:P.underlying T=some d)(hi:P.info? T=some inf)(us:List Value)(off:Nat)(ho:off+inf.size≤us.length)(h1:c4v d=false→inf.size=1):
 (part T us.toArray off).run P w=.ok (b4u P T ((us.drop off).take inf.size)) w:=by
 unfold b4u b2n
 simp only[part,Ir,b8u hu,hu,Ik]
 cases hb:c4v d with
 |true=>
  have he:us.toArray.extract off (off+inf.size)=((us.drop off).take inf.size).toArray:=by simp[List.take_drop]
  simp only[K5,Ic,b0h hi,he]
 |false=>
  have mh:=h1 hb
  rw[mh]at ho⊢
  have h9:off<us.length:=Dt
  simp[Iv h9]
theorem c7z(_:EnvOK E)(m:Nat)(eq:TypeId→List SV→List SV→Option Bool)
 (ih:∀T xs ys b us vs,eq T xs ys=some b→us.length=xs.length→vs.length=ys.length→
   (∀(i:Nat) (s:SV) (v:Value),xs[i]?=some s→us[i]?=some v→D w H μ s v)→(∀(i:Nat) (s:SV) (v:Value),ys[i]?=some s→vs[i]?=some v→D w H μ s v)→
   (∃d,E.P.underlying T=some d∧(c4v d=false→xs.length=1))∧(Op.equalIn m T (b4u E.P T us) (b4u E.P T vs)).run E.P w=.ok b w)
 {xs ys:List SV} {us vs:List Value} (mi:us.length=xs.length) (sc:vs.length=ys.length)
 (hx:∀(i:Nat) (s:SV) (v:Value),xs[i]?=some s→us[i]?=some v→D w H μ s v) (hy:∀(i:Nat) (s:SV) (v:Value),ys[i]?=some s→vs[i]?=some v→D w H μ s v):
 ∀(fs:List Field) (b:Bool),(∀f∈fs,f.name≠ "_")→eqFs E.P eq xs ys fs=some b→(Op.eqFields m us.toArray vs.toArray fs).run E.P w=.ok b w:=by
 intro fs
 induction fs with
 |nil=>intro b _ h;simp[eqFs]at h;subst h;simp[Op.eqFields]
 |cons f fs ihf=>
  intro b hn h
  simp only[eqFs]at h
  split at h
  rotate_left
  ·cases h
  rename_i n bk
  split at h
  rotate_left
  ·cases h
  rename_i ck
  split at h
  rotate_left
  ·cases h
  rename_i b1 ny
  split at h
  rotate_left
  ·cases h
  rename_i r hr
  cases h
  simp only[b10,J1]at bk
  obtain⟨inf,bn,rfl⟩:=bk
  have cy:∀{l:List SV} {l':List Value},l'.length=l.length→(∀(i:Nat) (s:SV) (v:Value),l[i]?=some s→l'[i]?=some v→D w H μ s v)→
   ∀(i:Nat) (s:SV) (v:Value),((l.drop f.offset).take inf.size)[i]?=some s→((l'.drop f.offset).take inf.size)[i]?=some v→D w H μ s v:=by
   intro l l' _ hd i s v hs hv
   exact hd _ _ _ (b07 hs).2 (b07 hv).2
  obtain⟨⟨d,hu,h1⟩,bi⟩:=ih f.type _ _ b1 ((us.drop f.offset).take inf.size) ((vs.drop f.offset).take inf.size) ny E5 E5 (cy mi hx) (cy sc hy)
  have mh:c4v d=false→inf.size=1:=fun hb=>by have:=h1 hb;simp at this;omega
  have p1:=b7h (w:=w) hu bn us f.offset Dt mh
  have p2:=b7h (w:=w) hu bn vs f.offset Dt mh
  have b9:=ihf r (fun f hf=>hn f (by simp[hf])) hr
  have hname:f.name≠ "_" :=hn f Dv
  simp only[Op.eqFields,Iw hname,Ir,p1,p2,bi]
  cases b1<;>simp[b9]
theorem c91(hE:EnvOK E):∀(d:Nat) (T:TypeId) (xs ys:List SV) (b:Bool) (us vs:List Value) (m:Nat),d96 E d T xs ys=some b→us.length=xs.length→vs.length=ys.length→
 (∀(i:Nat) (s:SV) (v:Value),xs[i]?=some s→us[i]?=some v→D w H μ s v)→(∀(i:Nat) (s:SV) (v:Value),ys[i]?=some s→vs[i]?=some v→D w H μ s v)→
 (∃d,E.P.underlying T=some d∧(c4v d=false→xs.length=1))∧(Op.equalIn (d+m) T (b4u E.P T us) (b4u E.P T vs)).run E.P w=.ok b w:=by
 intro d
 induction d with
 |zero=>intro T xs ys b us vs m h;simp[d96]at h
 |succ d ih=>
  intro T xs ys b us vs m h mi sc hx hy
  simp only[d96]at h
  have v9:d+1+m=(d+m)+1:=Dt
  split at h
  ·rename_i hu
   split at h
   ·rename_i a b'
    cases h
    match us,vs,mi,sc with
    | [u],[v],_,_=>
      have h1:=hx 0 _ u rfl rfl
      have h2:=hy 0 _ v rfl rfl
      cases h1;cases h2
      refine⟨⟨_,hu,fun _=>rfl⟩,?_⟩
      simp only[b4u,b2n,hu,Ik,c4v,Ij,List.getD_cons_zero]
      rw[v9,run_equalIn_bool' w _ T _ _ hu]
   ·cases h
  ·rename_i k0 hu
   split at h
   ·rename_i k a k' b'
    split at h
    ·rename_i hk
     cases h
     subst hk
     match us,vs,mi,sc with
     | [u],[v],_,_=>
       have h1:=hx 0 _ u rfl rfl
       have h2:=hy 0 _ v rfl rfl
       cases h1;cases h2
       refine⟨⟨_,hu,fun _=>rfl⟩,?_⟩
       simp only[b4u,b2n,hu,Ik,c4v,Ij,List.getD_cons_zero]
       rw[v9,run_equalIn_int w _ T _ _ _ _ hu]
       rfl
    ·cases h
   ·cases h
  ·rename_i fs hu
   split at h
   ·rename_i bw
    obtain⟨s1,s2,fs',di,s3⟩:=hE.st T bw
    rw[hu]at di
    cases di
    refine⟨⟨_,hu,fun h=>Fz⟩,?_⟩
    have hf:E.P.fieldsOf T=fs:=by simp[Program.fieldsOf,hu]
    have:=c7z (w:=w) (H:=H) (μ:=μ) hE (d+m) (d96 E d) (fun T xs ys b us vs he h1 h2 h3 h4=>ih T xs ys b us vs m he h1 h2 h3 h4) mi sc hx hy fs.toList b s3 h
    simp only[b4u,b2n,hu,Ik,c4v,K5]
    rw[v9,run_equalIn_struct w _ T _ _ (by rw[hf];exact hu) s1,hf]
    exact this
   ·cases h
  ·rename_i n e hu
   split at h
   rotate_left
   ·cases h
   rename_i sz bk
   split at h
   rotate_left
   ·cases h
   rename_i b8
   simp only[b10,J1]at bk
   obtain⟨inf,bn,rfl⟩:=bk
   refine⟨⟨_,hu,fun h=>Fz⟩,?_⟩
   have hc:E.P.cellsOf e=inf.size:=by simp[Program.cellsOf,bn]
   simp only[b4u,b2n,hu,Ik,c4v,K5]
   rw[v9,run_equalIn_array w (d+m) _ _ hu bn,hc]
   have key:∀(n0 i:Nat) (b:Bool),i+n0=n→eqItems (d96 E d e) inf.size xs ys n0 i=some b→(Op.eqItems (d+m) e inf.size us.toArray vs.toArray (List.range' i n0)).run E.P w=.ok b w:=by
    intro n0
    induction n0 with
    |zero=>intro i b _ h;simp[eqItems]at h;subst h;simp[Op.eqItems]
    |succ n0 ihn=>
     intro i b hi h
     simp only[eqItems]at h
     split at h
     rotate_left
     ·cases h
     rename_i b1 ny
     split at h
     rotate_left
     ·cases h
     rename_i r hr
     cases h
     have mj:i*inf.size+inf.size≤n*inf.size:=I4
     have cy:∀{l:List SV} {l':List Value},(∀(i:Nat) (s:SV) (v:Value),l[i]?=some s→l'[i]?=some v→D w H μ s v)→
      ∀(j:Nat) (s:SV) (v:Value),((l.drop (i*inf.size)).take inf.size)[j]?=some s→((l'.drop (i*inf.size)).take inf.size)[j]?=some v→D w H μ s v:=
      fun hd j s v hs hv=>hd _ _ _ (b07 hs).2 (b07 hv).2
     obtain⟨⟨dd,w7,h1⟩,bi⟩:=ih e _ _ b1 ((us.drop (i*inf.size)).take inf.size) ((vs.drop (i*inf.size)).take inf.size) m ny E5 E5 (cy hx) (cy hy)
     have mh:c4v dd=false→inf.size=1:=fun hb=>by have:=h1 hb;simp at this;omega
     have p1:=b7h (w:=w) w7 bn us (i*inf.size) Dt mh
     have p2:=b7h (w:=w) w7 bn vs (i*inf.size) Dt mh
     have b9:=ihn (i+1) r Dt hr
     simp only[List.range'_succ,Op.eqItems,Ir,p1,p2,bi]
     cases b1<;>simp[b9]
   rw[List.range_eq_range']
   exact key n 0 b Dt h
  ·cases h
def f0n(E:Env)(op:BinOp)(T:TypeId)(x y:SV):Option (Prop×SV):=
 match op,x,y with
 |.eql,.agg xs,.agg ys=>if E.st T then(d96 E 8 T xs ys).map fun b=>(True,.bool b)else none
 |.neq,.agg xs,.agg ys=>if E.st T then(d96 E 8 T xs ys).map fun b=>(True,.bool (!b))else none
 |.eql,.bool a,.bool b=>match E.P.underlying T with
  |some .bool=>some (True,.bool (a==b))
  |_=>none
 |.neq,.bool a,.bool b=>match E.P.underlying T with
  |some .bool=>some (True,.bool (a !=b))
  |_=>none
 |.eql,.sl _ n _ _,.con (.slice none 0 0)=>match E.P.underlying T with
  |some (.slice _)=>some (True,.ub (n=0) True)
  |_=>none
 |.neq,.sl _ n _ _,.con (.slice none 0 0)=>match E.P.underlying T with
  |some (.slice _)=>some (True,.ub True (n=0))
  |_=>none
 |.eql,.con (.slice none 0 0),.con (.slice none 0 0)=>match E.P.underlying T with
  |some (.slice _)=>some (True,.bool true)
  |_=>none
 |.neq,.con (.slice none 0 0),.con (.slice none 0 0)=>match E.P.underlying T with
  |some (.slice _)=>some (True,.bool false)
  |_=>none
 |.eql,.fp ok _ _ _,.con (.pointer none)=>match E.P.underlying T with
  |some (.pointer _)=>some (True,.bool (!ok))
  |_=>none
 |.neq,.fp ok _ _ _,.con (.pointer none)=>match E.P.underlying T with
  |some (.pointer _)=>some (True,.bool ok)
  |_=>none
 |.and,.int k a,.int k' b=>if k=k' then some (b=1,.int k (a%2))else none
 |.shl,.int k a,.int _ b=>some (0≤b∧b.toNat≤k.bits∧inK k (a*2^b.toNat),.int k (a*2^b.toNat))
 |.shr,.int k a,.int _ b=>some (0≤b∧b.toNat≤k.bits,.int k (a/2^b.toNat))
 |op,x,y=>j1d op x y
theorem j1y(k:IntKind)(a:Int):k.wrap ((BitVec.ofInt k.bits a &&& BitVec.ofInt k.bits 1).toNat:Int)=a%2:=by
 have h2:(BitVec.ofInt k.bits a &&& BitVec.ofInt k.bits 1).toNat=(a%2).toNat:=by
  have h1:(BitVec.ofInt k.bits 1).toNat=1:=by cases k<;>rfl
  rw[BitVec.toNat_and,h1,Nat.and_one_is_mod,BitVec.toNat_ofInt]
  have hd:(2:Int)∣((2^k.bits:Nat):Int):=by cases k<;>decide
  have h0:0≤a%((2^k.bits:Nat):Int):=Int.emod_nonneg _ (by cases k<;>decide)
  have h3:(a%((2^k.bits:Nat):Int))%2=a%2:=Int.emod_emod_of_dvd a hd
  omega
 rw[h2]
 have h0:0≤a%2:=Int.emod_nonneg _ Dy
 have h1:a%2<2:=Int.emod_lt_of_pos _ Dy
 rw[Kw h0]
 exact b4p (by cases k<;>simp only[inK]<;>omega)
theorem d5b{T:TypeId}{fs:Array Field}(hu:E.P.underlying T=some (.struct fs))(us:List Value):b4u E.P T us=.agg us.toArray:=by
 simp[b4u,b2n,hu,c4v]
theorem b9r{P:Program}{w:World}{T e:TypeId}(hu:P.underlying T=some (.pointer e))(p:Option Addr):(Op.equalIn 10000 T (.pointer p) (.pointer none)).run P w=.ok p.isNone w:=by
 rw[Op.equalIn,Lk,Jm hu,Lh]
 cases p<;>rfl
theorem b7q{P:Program}{w:World}{T e:TypeId}(hu:P.underlying T=some (.slice e))(a:Option Addr)(n m:Nat):(Op.equalIn 10000 T (.slice a n m) (.slice none 0 0)).run P w=.ok a.isNone w:=by
 rw[Op.equalIn,Lk,Jm hu,Lh]
 cases a<;>rfl
theorem c0r{P:Program}{w:World}{T e:TypeId}(hu:P.underlying T=some (.slice e))(xo yo:Operand)(a:Option Addr)(n m:Nat):(do eqGuard .eql T xo yo (.slice a n m) (.slice none 0 0);binOp .eql T (.slice a n m) (.slice none 0 0):Sem Value).run P w=.ok (.bool a.isNone) w:=by
 rw[show (do eqGuard .eql T xo yo (.slice a n m) (.slice none 0 0);binOp .eql T (.slice a n m) (.slice none 0 0):Sem Value)=(do pure ();(do let b←Op.equalIn 10000 T (.slice a n m) (.slice none 0 0);pure (.bool b):Sem Value))from rfl]
 simp only[Ic,b7q hu]
theorem c09{P:Program}{w:World}{T e:TypeId}(hu:P.underlying T=some (.slice e))(xo yo:Operand)(a:Option Addr)(n m:Nat):(do eqGuard .neq T xo yo (.slice a n m) (.slice none 0 0);binOp .neq T (.slice a n m) (.slice none 0 0):Sem Value).run P w=.ok (.bool (!a.isNone)) w:=by
 rw[show (do eqGuard .neq T xo yo (.slice a n m) (.slice none 0 0);binOp .neq T (.slice a n m) (.slice none 0 0):Sem Value)=(do pure ();(do let b←Op.equalIn 10000 T (.slice a n m) (.slice none 0 0);pure (.bool (!b)):Sem Value))from rfl]
 simp only[Ic,b7q hu]
theorem f3c(hE:EnvOK E){op:BinOp}{T:TypeId}{xo yo:Operand}{x y s:SV}{v u:Value}{pre:Prop}(hx:D w H μ x v)(hy:D w H μ y u)(he:f0n E op T x y=some (pre,s))(hp:pre):
 ∃r,(do eqGuard op T xo yo v u;binOp op T v u).run E.P w=.ok r w∧D w H μ s r:=by
 have agg:∀{xs ys:List SV} {v u:Value} {b:Bool},E.st T=true→d96 E 8 T xs ys=some b→D w H μ (.agg xs) v→D w H μ (.agg ys) u→
  ∃us vs:List Value,v=.agg us.toArray∧u=.agg vs.toArray∧(Op.equalIn 10000 T v u).run E.P w=.ok b w:=by
  intro xs ys v u b bw h hx hy
  cases hx with
  |agg us mi jy=>
   cases hy with
   |agg vs sc zt=>
    obtain⟨_,bi⟩:=c91 (w:=w) (H:=H) (μ:=μ) hE 8 T xs ys b us vs 9992 h mi sc jy zt
    obtain⟨s1,s2,fs,hu,s3⟩:=hE.st T bw
    rw[d5b hu,d5b hu]at bi
    exact⟨us,vs,rfl,rfl,bi⟩
 unfold f0n at he
 split at he
 ·rename_i xs ys
  split at he
  rotate_left
  ·cases he
  rename_i bw
  simp only[Ia]at he
  obtain⟨b,hb,rfl,rfl⟩:=he
  obtain⟨us,vs,rfl,rfl,bi⟩:=agg bw hb hx hy
  refine⟨_,?_,.bool⟩
  rw[Lk,run_eqGuard_agg w _ _ _ _ _ _ (hE.st T bw).2.1,Lh,run_eql_struct,bi,Lh]
 ·rename_i xs ys
  split at he
  rotate_left
  ·cases he
  rename_i bw
  simp only[Ia]at he
  obtain⟨b,hb,rfl,rfl⟩:=he
  obtain⟨us,vs,rfl,rfl,bi⟩:=agg bw hb hx hy
  refine⟨_,?_,.bool⟩
  rw[Lk,run_eqGuard_agg w _ _ _ _ _ _ (hE.st T bw).2.1,Lh,run_neq_struct,bi,Lh]
 ·split at he
  ·rename_i hu
   cases he;cases hx;cases hy
   refine⟨_,?_,.bool⟩
   simp only[eqGuard_at_bool,Ic,binOp,Op.equal,Op.maxDepth]
   rw[run_equalIn_bool' w 9999 T _ _ hu]
   rfl
  ·cases he
 ·split at he
  ·rename_i hu
   cases he;cases hx;cases hy
   refine⟨_,?_,.bool⟩
   simp only[eqGuard_at_bool,Ic,binOp,Op.equal,Op.maxDepth]
   rw[run_equalIn_bool' w 9999 T _ _ hu]
   rfl
  ·cases he
 ·split at he
  rotate_left
  ·cases he
  rename_i e hu
  cases he
  cases hy
  cases hx with
  |sl a b o m g hm hx hc h8 hl hd=>exact⟨_,c0r hu xo yo _ _ _,.ub (fun e=>Nat.eq_zero_of_not_pos (fun h0=>by rw[(h8 h0).1]at e;cases e)) (fun _=>Ix)⟩
 ·split at he
  rotate_left
  ·cases he
  rename_i e hu
  cases he
  cases hy
  cases hx with
  |sl a b o m g hm hx hc h8 hl hd=>exact⟨_,c09 hu xo yo _ _ _,.ub (fun _=>Ix) (fun e=>Nat.eq_zero_of_not_pos (fun h0=>by rw[(h8 h0).1]at e;cases e))⟩
 ·split at he
  rotate_left
  ·cases he
  rename_i e hu
  cases he
  cases hy
  cases hx
  exact⟨_,c0r hu xo yo _ _ _,.bool⟩
 ·split at he
  rotate_left
  ·cases he
  rename_i e hu
  cases he
  cases hy
  cases hx
  exact⟨_,c09 hu xo yo _ _ _,.bool⟩
 ·rename_i ok k i off
  split at he
  rotate_left
  ·cases he
  rename_i e hu
  cases he
  cases hy
  cases hx with
  |fp h=>
  refine⟨_,?_,.bool⟩
  have hv:∃p,v=.pointer p∧p.isNone= !ok:=by
   cases ok with
   |true=>
    simp only[K5]at h
    obtain⟨_,_,b,_,_,rfl⟩:=h
    exact⟨_,rfl,rfl⟩
   |false=>
    simp only[Ij]at h
    exact⟨none,h,rfl⟩
  obtain⟨p,rfl,hp⟩:=hv
  rw[show (do eqGuard .eql T xo yo (Value.pointer p) (Value.pointer none);binOp .eql T (Value.pointer p) (Value.pointer none):Sem Value)=(do pure ();(do let b←Op.equalIn 10000 T (.pointer p) (.pointer none);pure (.bool b):Sem Value))from rfl]
  simp only[Ic,b9r hu,hp]
 ·rename_i ok k i off
  split at he
  rotate_left
  ·cases he
  rename_i e hu
  cases he
  cases hy
  cases hx with
  |fp h=>
  refine⟨_,?_,.bool⟩
  have hv:∃p,v=.pointer p∧p.isNone= !ok:=by
   cases ok with
   |true=>
    simp only[K5]at h
    obtain⟨_,_,b,_,_,rfl⟩:=h
    exact⟨_,rfl,rfl⟩
   |false=>
    simp only[Ij]at h
    exact⟨none,h,rfl⟩
  obtain⟨p,rfl,hp⟩:=hv
  rw[show (do eqGuard .neq T xo yo (Value.pointer p) (Value.pointer none);binOp .neq T (Value.pointer p) (Value.pointer none):Sem Value)=(do pure ();(do let b←Op.equalIn 10000 T (.pointer p) (.pointer none);pure (.bool (!b)):Sem Value))from rfl]
  simp only[Ic,b9r hu,hp]
  simp
 ·rename_i k a k' b
  split at he
  rotate_left
  ·cases he
  rename_i hk
  subst hk
  simp only[Ib]at he
  obtain⟨rfl,rfl⟩:=he
  cases hx;cases hy
  subst hp
  refine⟨_,?_,.int⟩
  rw[show (do eqGuard .and T xo yo (Value.int k a) (Value.int k 1);binOp .and T (Value.int k a) (Value.int k 1):Sem Value)=(do pure ();Op.intBits .and k a 1)from by simp[eqGuard,binOp]]
  simp only[Op.intBits,Ic,j1y]
 ·rename_i k a k' b
  simp only[Ib]at he
  obtain⟨rfl,rfl⟩:=he
  cases hx;cases hy
  obtain⟨h0,h1,h2⟩:=hp
  refine⟨_,?_,.int⟩
  have hn:¬b<0:=Dt
  have hm:min b.toNat k.bits=b.toNat:=Dt
  rw[show (do eqGuard .shl T xo yo (Value.int k a) (Value.int k' b);binOp .shl T (Value.int k a) (Value.int k' b):Sem Value)=(do pure ();Op.shift .shl k a k' b)from by simp[eqGuard,binOp]]
  simp only[Op.shift,Iy hn,hm,Ic,b4p h2]
 ·rename_i k a k' b
  simp only[Ib]at he
  obtain⟨rfl,rfl⟩:=he
  cases hx;cases hy
  obtain⟨h0,h1⟩:=hp
  refine⟨_,?_,.int⟩
  have hn:¬b<0:=Dt
  have hm:min b.toNat k.bits=b.toNat:=Dt
  have hd:a.fdiv (2^b.toNat)=a/2^b.toNat:=Int.fdiv_eq_ediv_of_nonneg _ (Int.pow_nonneg Dy)
  rw[show (do eqGuard .shr T xo yo (Value.int k a) (Value.int k' b);binOp .shr T (Value.int k a) (Value.int k' b):Sem Value)=(do pure ();Op.shift .shr k a k' b)from by simp[eqGuard,binOp]]
  simp only[Op.shift,Iy hn,hm,Ic,hd]
 ·exact f5k hx hy he hp
end
def d3h(place:Nat→Option (Nat×Nat))(cells:List SV):List (Nat×SV)→Option (List SV)
 | []=>some cells
 |(i,s)::rest=>match place i,s.cells with
  |some (off,size),some cs=>if cs.length=size∧off+size≤cells.length then d3h place (over cells off cs) rest else none
  |_,_=>none
def b7p(P:Program)(T:TypeId):Option (List SV):=match P.info? T with
 |some i=>i.zero.map fun z=>z.cells.toList.map c7h
 |none=>none
def g7e(P:Program)(T:TypeId):Option (Nat→Option (Nat×Nat)):=match P.underlying T with
 |some (.struct fs)=>if fs.toList.all (fun f=>(b10 P f.type).isSome)then some fun i=>(fs[i]?).map fun f=>(f.offset,(b10 P f.type).getD 0)else none
 |some (.array _ e)=>(b10 P e).map fun sz=>fun i=>some (i*sz,sz)
 |_=>none
def d8m(P:Program)(T:TypeId)(parts:List (Nat×SV)):Option (Prop×SV):=do
 let z←b7p P T
 let pl←g7e P T
 let cs←d3h pl z parts
 some (True,.agg cs)
section
variable {P : Program} {w : World} {H : Nat → Prop} {μ : Mu}
def DL(w:World)(H:Nat→Prop)(μ:Mu)(cs:List SV)(vs:List Value):Prop:=
 vs.length=cs.length∧∀(i:Nat) (s:SV) (v:Value),cs[i]?=some s→vs[i]?=some v→D w H μ s v
theorem DL.over{cs us:List SV}{vs xs:List Value}{off:Nat}(h:DL w H μ cs vs)(k:DL w H μ us xs)(ho:off+us.length≤cs.length):DL w H μ (over cs off us) (over vs off xs):=by
 refine⟨by rw[b12,b12];exact h.1,fun i s v hs hv=> ?_⟩
 rw[b22 _ _ _ _ ho]at hs
 rw[b22 _ _ _ _ (by rw[k.1,h.1];exact ho),k.1]at hv
 split at hs
 ·rename_i hc
  rw[Iw hc]at hv
  exact k.2 _ _ _ hs hv
 ·rename_i hc
  rw[Iy hc]at hv
  exact h.2 _ _ _ hs hv
theorem c9u(vs:List Value):∀(k off:Nat) (cs:List Value),off+k+vs.length≤cs.length→(vs.zipIdx k).foldl (fun(cs:Array Value) (p:Value×Nat)=>cs.setIfInBounds (off+p.2) p.1) cs.toArray=(over cs (off+k) vs).toArray:=by
 induction vs with
 |nil=>intro k off cs h;rw[d9n _ _ E1];rfl
 |cons v vs ih=>
  intro k off cs h
  simp only[K3]at h
  simp only[List.zipIdx_cons,Mi]
  have:cs.toArray.setIfInBounds (off+k) v=(cs.set (off+k) v).toArray:=Dv
  rw[this,ih _ _ _ (by rw[Lj];omega),d5a _ _ _ _ Dt]
  rfl
theorem f3m{place:Nat→Option (Nat×Nat)}:∀(parts:List (Nat×SV)) (cs out:List SV) (vs:List Value) (ps:List (Nat×Value)),DL w H μ cs vs→d3h place cs parts=some out→ps.length=parts.length→
 (∀(i j:Nat) (s:SV),parts[i]?=some (j,s)→∃v,ps[i]?=some (j,v)∧D w H μ s v)→∃us,Instr.fill place vs.toArray ps=some (List.toArray us)∧DL w H μ out us:=by
 intro parts
 induction parts with
 |nil=>
  intro cs out vs ps hD h hl _
  cases ps with
  |nil=>simp[d3h]at h;subst h;exact⟨vs,rfl,hD⟩
  |cons _ _=>simp at hl
 |cons p parts ih=>
  intro cs out vs ps hD h hl hp
  obtain⟨i,s⟩:=p
  cases ps with
  |nil=>simp at hl
  |cons q ps=>
   obtain⟨v,e,hd⟩:=hp 0 i s rfl
   simp only[List.getElem?_cons_zero,Jh]at e
   subst e
   simp only[d3h]at h
   split at h
   rotate_left
   ·cases h
   rename_i off size us fm dx
   split at h
   rotate_left
   ·cases h
   rename_i hc
   obtain⟨rfl,ck⟩:=hc
   obtain⟨rk,w8⟩:=hd.cells dx
   have w6:=hD.over (xs:=v.cells.toList) ⟨rk,w8⟩ ck
   obtain⟨us',e1,e2⟩:=ih _ out _ ps w6 h E9 (fun k j t ht=>by simpa using hp (k+1) j t Ew)
   refine⟨us',?_,e2⟩
   simp only[Instr.fill,fm]
   have bk:v.cells.size=us.length:=by simpa using rk
   rw[bk]
   have hb:¬(off+us.length>vs.toArray.size):=by simp[hD.1];omega
   simp only[ne_eq,not_true_eq_false,decide_false,Jq hb,Bool.or_self,Ij]
   have:(v.cells.zipIdx.foldl (fun cs x=>cs.setIfInBounds (off+x.2) x.1) vs.toArray)=(over vs off v.cells.toList).toArray:=by
    have:=c9u v.cells.toList 0 off vs (by have q:=hD.1;have q2:v.cells.toList.length=us.length:=(by simpa using rk);omega)
    rw[←Array.foldl_toList]
    simpa using this
   rw[this]
   exact e1
theorem c8c(fs:List Field)(h:∀f∈fs,(b10 P f.type).isSome=true):
 (fs.mapM fun(f:Field)=>(do pure (f.offset,←sizeOf f.type):Sem (Nat×Nat))).run P w=.ok (fs.map fun f=>(f.offset,(b10 P f.type).getD 0)) w:=by
 induction fs with
 |nil=>simp
 |cons f fs ih=>
  have h0:=h f Dv
  have ih':=ih (fun f hf=>h f (by simp[hf]))
  obtain⟨n,hn⟩:=Option.isSome_iff_exists.1 h0
  have hs:=hn
  simp only[b10,J1]at hs
  obtain⟨inf,bn,rfl⟩:=hs
  simp only[L7,Ic,b0h bn,ih',Ma,hn,K6]
theorem b3p{T:TypeId}{z:List SV}(h:b7p P T=some z):∃(inf:TypeInfo) (zv:Value),P.info? T=some inf∧inf.zero=some zv∧z=zv.cells.toList.map c7h∧DL w H μ z zv.cells.toList:=by
 unfold b7p at h
 split at h
 ·rename_i inf hi
  simp only[J1]at h
  obtain⟨zv,hz,rfl⟩:=h
  exact⟨inf,zv,hi,hz,rfl,Dv,c3w _⟩
 ·cases h
theorem d81{T:TypeId}{parts:List (Nat×SV)}{ps:List (Nat×Value)}{s:SV}{pre:Prop}(he:d8m P T parts=some (pre,s))(hl:ps.length=parts.length)
 (hp:∀(i j:Nat) (s:SV),parts[i]?=some (j,s)→∃v,ps[i]?=some (j,v)∧D w H μ s v):∃r,(Instr.build T ps.toArray).run P w=.ok r w∧D w H μ s r:=by
 simp only[d8m,Ii,Ib]at he
 obtain⟨z,hz,pl,fm,cs,dx,rfl,rfl⟩:=he
 obtain⟨inf,zv,hi,m6,rfl,nz⟩:=b3p (w:=w) (H:=H) (μ:=μ) hz
 have key:∀place,place=pl→∃us:List Value,Instr.fill place zv.cells ps=some us.toArray∧DL w H μ cs us:=by
  intro place e
  subst e
  obtain⟨us,e1,e2⟩:=f3m parts _ cs _ ps nz dx hl hp
  exact⟨us,by simpa using e1,e2⟩
 unfold g7e at fm
 split at fm
 ·rename_i fs hu
  split at fm
  rotate_left
  ·cases fm
  rename_i bt
  simp only[Jh]at fm
  have hm:(fs.mapM fun(f:Field)=>(do pure (f.offset,←sizeOf f.type):Sem (Nat×Nat))).run P w=.ok (fs.map fun f=>(f.offset,(b10 P f.type).getD 0)) w:=by
   rw[Array.mapM_eq_mapM_toList,Sem.run_map,c8c fs.toList (fun f hf=>by simpa using J4.1 bt f hf)]
   simp only[Lh]
   congr 1
   apply Array.ext'
   simp
  have hpeq:(fun i=>(fs.map fun f=>(f.offset,(b10 P f.type).getD 0))[i]?)=pl:=by
   rw[←fm];funext i;simp
  obtain⟨us,hf,hD⟩:=key _ hpeq
  refine⟨.agg us.toArray,?_,.agg us hD.1 hD.2⟩
  simp only[Instr.build,Ic,b2g hi m6,Jm hu,hm,hf]
 ·rename_i n e hu
  simp only[J1]at fm
  obtain⟨sz,bk,fm⟩:=fm
  simp only[b10,J1]at bk
  obtain⟨inf',b7,rfl⟩:=bk
  obtain⟨us,hf,hD⟩:=key _ fm
  refine⟨.agg us.toArray,?_,.agg us hD.1 hD.2⟩
  simp only[Instr.build,Ic,b2g hi m6,Jm hu,b0h b7,hf]
 ·cases fm
def g36(P:Program)(own:List Blk)(ρ:Operand→Option SV)(op:Op):Option (Prop×SV×Blk):=
 match op with
 |.alloc T=>(b7p P T).bind fun z=>if z.all SV.isCell then some (True,.own own.length 0,.cells T z)else none
 |.box T x=>(ρ x).bind fun s=>s.cells.bind fun cs=>if cs.all SV.isCell then some (True,.own own.length 0,.cells T cs)else none
 |.buildSlice T 0 ⟨[]⟩=>(b2s P T).bind fun e=>(b10 P e).map fun sz=>(True,.osl own.length,.row e sz 0 (fun _=>[]) (some 0))
 |.buildSlice T n parts=>(b2s P T).bind fun e=>(b10 P e).bind fun sz=>(b7p P e).bind fun z=>
  (parts.toList.mapM fun(p:Nat×Operand)=>(ρ p.2).bind fun s=>s.cells.map fun cs=>(p.1,cs)).bind fun ps=>
    if ps.map (·.1)=List.range n∧0<n∧0<sz∧n*sz≤16777216∧z.length=sz∧z.all SV.isCell∧ps.all (fun p=>p.2.all SV.isCell&&p.2.all SV.pure&&decide (p.2.length=sz))then
     some (True,.osl own.length,.row e sz n (fun i=>(ps.map (·.2)).getD i []) (some n))
    else none
 |.makeSlice T l c=>(b2s P T).bind fun e=>(P.info? e).bind fun inf=>(b7p P e).bind fun z=>
  match ρ l,ρ c with
  |some (.int _ n),some (.int _ m)=>if z.length=inf.size∧z.all SV.isCell∧z.all SV.pure∧0<inf.size then
   some (0≤n∧n≤m∧(inf.bytes:Int)*m≤281474976710656∧m≤9223372036854775807,.osl own.length,.row e inf.size n.toNat (fun _=>z) (some m.toNat))else none
  |_,_=>none
 |_=>none
structure After (B0:Nat) (X A:Nat→Prop) (w w':World) (μ μ':Mu) (own':List Blk):Prop where
 own:Own B0 X A w' μ' own'
 fr:Fr B0 X w w'
 keeps:Keeps w w' (held A μ) (held A μ') μ μ'
theorem b3k{cs:List SV}{vs:List Value}(h:DL w H μ cs vs)(hc:cs.all SV.isCell=true):∀v∈vs,v.oneCell'=true:=by
 intro v hv
 obtain⟨i,hi,e⟩:=Jg.1 hv
 have h9:i<cs.length:=by rw[←h.1];exact hi
 have hd:=h.2 i cs[i] vs[i] (Iv h9) (Iv hi)
 rw[←e]
 exact hd.one (J4.1 hc _ (Jn h9))
variable {B0 : Nat} {X A : Nat → Prop} {own ownN : List Blk}
theorem d3e(hO:Own B0 X A w μ ownN)(hB:B0≤w.heap.size)(hk:μ own.length=none){T:TypeId}{cs:List SV}{vs:List Value}(cx:ownN[own.length]?=some (.cells T cs))(hD:DL w (held A μ) μ cs vs)(h1:cs.all SV.isCell=true):
 ∃μ',After B0 X A w (w.alloc (.cells vs.toArray T)) μ μ' ownN∧(∀j,j≠own.length→μ' j=μ j)∧D (w.alloc (.cells vs.toArray T)) (held A μ') μ' (.own own.length 0) (.pointer (some ⟨w.heap.size,0,none⟩)):=by
 obtain⟨o1,o2⟩:=c2k hO hB hk cx (.cells vs.toArray T) (.pointer (some ⟨w.heap.size,0,none⟩)) (fun b h=>(d6m.1 h).symm) (fun μ' e c8=>by
  refine⟨w.heap.size,vs,rfl,Lr w _,hD.1,b3k hD h1,fun i s v hs hv=>(hD.2 i s v hs hv).keep c8⟩)
 exact⟨_,⟨o1,Fr.alloc _ hB,o2⟩,fun j hj=>Em,.own Ec⟩
theorem d6d(hO:Own B0 X A w μ ownN)(hB:B0≤w.heap.size)(hk:μ own.length=none){T:TypeId}{sz n m:Nat}{f:Nat→List SV}{vs:List Value}(cx:ownN[own.length]?=some (.row T sz n f (some m)))(hn:n≤m)(hm:m≤maxLen)
 (hl:∀i,i<n→(f i).length=sz∧(f i).all SV.pure=true) (b8:m*sz≤vs.length) (h1:∀v∈vs,v.oneCell'=true) (hD:∀(i j:Nat) (s:SV) (v:Value),i<n→(f i)[j]?=some s→vs[i*sz+j]?=some v→D w (held A μ) μ s v):
 ∃μ',After B0 X A w (w.alloc (.cells vs.toArray T)) μ μ' ownN∧(∀j,j≠own.length→μ' j=μ j)∧D (w.alloc (.cells vs.toArray T)) (held A μ') μ' (.osl own.length) (.slice (some ⟨w.heap.size,0,none⟩) n m):=by
 obtain⟨o1,o2⟩:=c2k hO hB hk cx (.cells vs.toArray T) (.slice (some ⟨w.heap.size,0,none⟩) n m) (by
  intro b hb
  rcases Jx m with h0|h0
  ·subst h0;exact absurd hb d1a
  ·exact(b5i h0).1 hb) (fun μ' e c8=>by
  rcases Jx m with h0|h0
  ·exact⟨_,m,rfl,hn,hm,.inr rfl,hl,.inl h0⟩
  refine⟨_,m,rfl,hn,hm,.inr rfl,hl,.inr ⟨w.heap.size,0,vs,h0,rfl,Lr w _,Dt,h1,fun i j s v hi hs hv=>(hD i j s v hi hs Fh).keep c8⟩⟩)
 exact⟨_,⟨o1,Fr.alloc _ hB,o2⟩,fun j hj=>Em,.osl Ec⟩
end
section
variable {P : Program} {w : World} {μ : Mu} {B0 : Nat} {X A : Nat → Prop} {own ownN : List Blk}
theorem b38{α β:Type}{f:α→Option β}:∀{l:List α} {r:List β},l.mapM f=some r→r.length=l.length∧∀(i:Nat) (x:α),l[i]?=some x→∃y,r[i]?=some y∧f x=some y:=by
 intro l
 induction l with
 |nil=>intro r h;simp at h;subst h;exact⟨rfl,fun i x h=>E7⟩
 |cons a l ih=>
  intro r h
  simp only[L7,Ii,Option.pure_def,Jh]at h
  obtain⟨b,hb,r',Nc,rfl⟩:=h
  obtain⟨h1,h2⟩:=ih Nc
  refine⟨Eh,fun i x hx=> ?_⟩
  match i with
  |0=>simp at hx;subst hx;exact⟨b,rfl,hb⟩
  |i+1=>simpa using h2 i x (by simpa using hx)
theorem d6q(hO:Own B0 X A w μ ownN)(hB:B0≤w.heap.size)(hk:μ own.length=none){T:TypeId}{z:List SV}(hz:b7p P T=some z)(hc:z.all SV.isCell=true)(cx:ownN[own.length]?=some (.cells T z)):
 ∃r w' μ',(Instr.alloc T true (.tuple #[])).run P w=.ok r w'∧After B0 X A w w' μ μ' ownN∧(∀j,j≠own.length→μ' j=μ j)∧D w' (held A μ') μ' (.own own.length 0) r:=by
 obtain⟨inf,zv,hi,m6,rfl,hD⟩:=b3p (w:=w) (H:=held A μ) (μ:=μ) hz
 obtain⟨μ',h1,h2,h3⟩:=d3e hO hB hk cx hD hc
 refine⟨_,_,μ',?_,h1,h2,h3⟩
 simp[Instr.alloc,b2g hi m6,newVar,newRow]
theorem g02(hO:Own B0 X A w μ ownN)(hB:B0≤w.heap.size)(hk:μ own.length=none){T:TypeId}{s:SV}{v:Value}{cs:List SV}(hd:D w (held A μ) μ s v)(hs:s.cells=some cs)(hc:cs.all SV.isCell=true)(cx:ownN[own.length]?=some (.cells T cs)):
 ∃r w' μ',(Instr.box T v).run P w=.ok r w'∧After B0 X A w w' μ μ' ownN∧(∀j,j≠own.length→μ' j=μ j)∧D w' (held A μ') μ' (.own own.length 0) r:=by
 obtain⟨μ',h1,h2,h3⟩:=d3e hO hB hk (vs:=v.cells.toList) cx (hd.cells hs) hc
 refine⟨_,_,μ',?_,h1,h2,h3⟩
 simp[Instr.box,newVar,newRow]
theorem c1p(z:Array Value)(n i:Nat)(u:Value)(h:(madeCells z n).toList[i]?=some u):i<n∧u=z[i%z.size]!:=by
 simp only[madeCells,M1,Id]at h
 obtain⟨x,hx,rfl⟩:=h
 rw[Kk]at hx
 obtain⟨h9,e⟩:=J9.1 hx
 simp at h9 e
 subst e
 exact⟨h9,rfl⟩
theorem f58(hO:Own B0 X A w μ ownN)(hB:B0≤w.heap.size)(hk:μ own.length=none){T e:TypeId}{inf:TypeInfo}{z:List SV}{kl kc:IntKind}{n m:Int}(ht:b2s P T=some e)(hi:P.info? e=some inf)(hz:b7p P e=some z)
 (nw:z.length=inf.size) (hc:z.all SV.isCell=true) (ra:z.all SV.pure=true) (dg:0<inf.size) (h0:0≤n) (f7:n≤m) (hb:(inf.bytes:Int)*m≤281474976710656) (p9:m≤9223372036854775807) (cx:ownN[own.length]?=some (.row e inf.size n.toNat (fun _=>z) (some m.toNat))):
 ∃r w' μ',(Instr.makeSlice T (.int kl n) (.int kc m)).run P w=.ok r w'∧After B0 X A w w' μ μ' ownN∧(∀j,j≠own.length→μ' j=μ j)∧D w' (held A μ') μ' (.osl own.length) r:=by
 obtain⟨inf',zv,b7,m6,rfl,hD⟩:=b3p (w:=w) (H:=held A μ) (μ:=μ) hz
 rw[hi]at b7
 cases b7
 have jk:zv.cells.size=inf.size:=Fj
 have hr:=run_make (P:=P) w T e inf zv (b0y ht) hi m6 kl kc n m h0 f7 hb p9
 have bu:∀v∈zv.cells.toList,v.oneCell'=true:=b3k hD hc
 have cz:∀i u,(madeCells zv.cells (m.toNat*inf.size)).toList[i]?=some u→zv.cells.toList[i%inf.size]?=some u:=by
  intro i u h
  obtain⟨_,rfl⟩:=c1p _ _ _ _ h
  rw[jk]
  have h9:i%inf.size<zv.cells.size:=by rw[jk];exact M4 _ dg
  rw[Kk,K4 zv.cells (i%inf.size) h9,La h9]
 obtain⟨μ',h1,h2,h3⟩:=d6d hO hB hk (vs:=(madeCells zv.cells (m.toNat*inf.size)).toList) cx Dt Ep (fun i _=>⟨Fj,ra⟩) (by simp[size_madeCells]) (fun v hv=>by
  obtain⟨i,hi,e⟩:=Jg.1 hv
  exact bu v (J0 (cz i v (by rw[←e];exact Iv hi)))) (fun i j s v hi hs hv=>by
  have hj:j<inf.size:=by rw[←nw];exact(Iz.1 hs).1
  have:=cz _ _ hv
  rw[L4,Nat.mul_add_mod,Nat.mod_eq_of_lt hj]at this
  exact hD.2 j s v hs this)
 refine⟨_,_,μ',?_,h1,h2,h3⟩
 rw[hr]
def d3p(b:Bool):SV→SV→SV
 |.int k n,.int k' m=>if k=k' then .int k (bif b then n else m)else .any
 |.bool x,.bool y=>.bool (bif b then x else y)
 |.sl sz n f c,.sl sz' n' f' c'=>if sz=sz' then .sl sz (bif b then n else n') (fun i=>bif b then f i else f' i) (bif b then c else c')else .any
 |s,t=>if b then s else t
def b9m(b:Bool):List SV→List SV→List SV
 |s::r,t::q=>d3p b s t::b9m b r q
 |l,l'=>if b then l else l'
theorem f5x(b:Bool)(s t:SV):(∀{w:World} {H:Nat→Prop} {μ:Mu} {v:Value},D w H μ (if b then s else t) v→D w H μ (d3p b s t) v)∧((if b then s else t).pure=true→(d3p b s t).pure=true):=by
 have key:(∀{w:World} {H:Nat→Prop} {μ:Mu} {v:Value},D w H μ (cond b s t) v→D w H μ (d3p b s t) v)∧((cond b s t).pure=true→(d3p b s t).pure=true):=by
  unfold d3p
  split
  ·split
   ·rename_i e;subst e;cases b<;>exact⟨fun h=>h,fun h=>h⟩
   ·exact⟨fun _=>.any,fun _=>rfl⟩
  ·cases b<;>exact⟨fun h=>h,fun h=>h⟩
  ·split
   ·rename_i e;subst e;cases b<;>exact⟨fun h=>h,fun h=>h⟩
   ·exact⟨fun _=>.any,fun _=>rfl⟩
  ·cases b<;>exact⟨fun h=>h,fun h=>h⟩
 cases b<;>exact key
theorem c10(b:Bool):∀l l':List SV,(b9m b l l').length=(if b then l else l').length∧((if b then l else l').all SV.pure=true→(b9m b l l').all SV.pure=true)∧
 ∀(q:Nat) (s':SV),(b9m b l l')[q]?=some s'→∃s,(if b then l else l')[q]?=some s∧∀{w:World} {H:Nat→Prop} {μ:Mu} {v:Value},D w H μ s v→D w H μ s' v
 | [],l'=>Hj
 |s::r,[]=>Hj
 |s::r,t::l=>by
  obtain⟨i1,i2,i3⟩:=c10 b r l
  obtain⟨m1,m2⟩:=f5x b s t
  unfold b9m
  refine⟨by cases b<;>simpa using i1,fun h=> ?_,fun q s' hq=> ?_⟩
  ·cases b<;>simp_all
  ·match q with
   |0=>
    simp at hq
    subst hq
    cases b
    ·exact⟨t,rfl,fun h=>m1 h⟩
    ·exact⟨s,rfl,fun h=>m1 h⟩
   |q+1=>
    obtain⟨x,hx,hd⟩:=i3 q s' Fk
    refine⟨x,?_,hd⟩
    cases b<;>simpa using hx
theorem b19.row_weak{w:World}{H:Nat→Prop}{μ:Mu}{x:Value}{T:TypeId}{sz n:Nat}{f f':Nat→List SV}{c:Option Nat}(hf:∀j,(f' j).length=(f j).length∧((f j).all SV.pure=true→(f' j).all SV.pure=true)∧∀(q:Nat) (s':SV),(f' j)[q]?=some s'→∃s,(f j)[q]?=some s∧∀{w:World} {H:Nat→Prop} {μ:Mu} {v:Value},D w H μ s v→D w H μ s' v)
 (h:b19 w H μ x (.row T sz n f c)):b19 w H μ x (.row T sz n f' c):=by
 obtain⟨a,m,rfl,hn,hm,hc,hl,b9⟩:=h
 refine⟨a,m,rfl,hn,hm,hc,fun i hi=>⟨(hf i).1.trans (hl i hi).1,(hf i).2.1 (hl i hi).2⟩,?_⟩
 rcases b9 with h|⟨b,o,vs,c7,rfl,hh,ho,h1,hd⟩
 ·exact .inl h
 ·refine .inr ⟨b,o,vs,c7,rfl,hh,ho,h1,fun i j s v hi hs hv=> ?_⟩
  obtain⟨s0,bv,se⟩:=(hf i).2.2 j s hs
  exact se (hd i j s0 v hi bv hv)
def c0d(P:Program)(own:List Blk)(T:TypeId)(p x:SV):Option (Prop×List Blk):=do
 let n←b10 P T
 let us←x.cells
 if us.length=n∧us.all SV.isCell then
  match p with
  |.own k off=>match own[k]? with
   |some (.cells T0 cs)=>if off+n≤cs.length then some (True,own.set k (.cells T0 (over cs off us)))else none
   |_=>none
  |.oel k sz i off=>match own[k]? with
   |some (.row T0 sz' m f c)=>if sz=sz'∧off+n≤sz∧us.all SV.pure then some (i<m,own.set k (.row T0 sz m (fun j=>b9m (decide (j=i)) (over (f i) off us) (f j)) c))else if sz=sz'∧off+n≤sz then some (i<m,own.set k (.rowh T0 sz m f c i (over (f i) off us)))else none
   |some (.rowh T0 sz' m f c i' u)=>if sz=sz'∧off+n≤sz then some (i=i',own.set k (.rowh T0 sz m f c i (over u off us)))else none
   |_=>none
  |_=>none
 else none
theorem c01{α:Type}{p:α→Prop}:∀(vs us:List α),(∀v∈vs,p v)→(∀u∈us,p u)→∀v∈b5c vs us,p v
 | [],us,h,_,v,hv=>by simp[b5c]at hv
 |_::_,[],h,_,v,hv=>h v hv
 |x::vs,u::us,h,k,v,hv=>by
  simp only[b5c,J8]at hv
  rcases hv with rfl|hv
  ·exact k v Dv
  ·exact c01 vs us (fun y hy=>h y F4) (fun y hy=>k y F4) v hv
theorem b7f{α:Type}{p:α→Prop}(us:List α):∀(vs:List α) (off:Nat),(∀v∈vs,p v)→(∀u∈us,p u)→∀v∈over vs off us,p v
 | [],0,h,k,v,hv=>c01 [] us h k v (by simpa[over]using hv)
 |x::vs,0,h,k,v,hv=>c01 (x::vs) us h k v (by simpa only[over]using hv)
 |x::vs,n+1,h,k,v,hv=>by
  simp only[over,J8]at hv
  rcases hv with rfl|hv
  ·exact h v Dv
  ·exact b7f us vs n (fun y hy=>h y F4) k v hv
 | [],_+1,_,_,v,hv=>by simp[over]at hv
theorem f2z{w:World}{H:Nat→Prop}{μ:Mu}{T:TypeId}{sz n m b o off i:Nat}{f:Nat→List SV}{c:Option Nat}{u0 us:List SV}{vs vals:List Value}(hn:n≤m)(hm:m≤maxLen)(hc:c=none∨c=some m)(hi:i<n)(v8:u0.length=sz)
 (hl:∀q,q<n→q≠i→(f q).length=sz∧(f q).all SV.pure=true) (hh:w.heap[b]?=some (.cells vs.toArray T (0,0))) (ho:o+m*sz≤vs.length) (h1:∀v∈vs,v.oneCell'=true)
 (hd:∀(q j:Nat) (s:SV) (v:Value),q<n→q≠i→(f q)[j]?=some s→vs[o+q*sz+j]?=some v→D w H μ s v) (sa:∀(j:Nat) (s:SV) (v:Value),u0[j]?=some s→vs[o+i*sz+j]?=some v→D w H μ s v)
 (j8:DL w H μ us vals) (ck:off+us.length≤sz) (bu:∀v∈vals,v.oneCell'=true) (c8:Keeps w (putRow w b (over vs (o+i*sz+off) vals) T) H H μ μ):
 b5f (putRow w b (over vs (o+i*sz+off) vals) T) H μ (.slice (some ⟨b,o,none⟩) n m) T sz n f c i (over u0 off us):=by
 have ft:o+i*sz+sz≤vs.length:=by
  have:i*sz+sz≤m*sz:=I4
  omega
 refine⟨b,o,m,_,rfl,hn,hm,hc,hi,by rw[b12];exact v8,hl,b53 (b29 hh),Gq,b7f _ _ _ h1 bu,fun q j s v hq bb hs hv=> ?_,fun j s v hs hv=> ?_⟩
 ·have hj:j<sz:=by rw[←(hl q hq bb).1];exact(Iz.1 hs).1
  rw[b22 _ _ _ _ (by rw[j8.1];omega),j8.1,Iy]at hv
  ·exact(hd q j s v hq bb hs hv).keep c8
  ·intro c6
   rcases Nat.lt_or_gt_of_ne bb with h9|hgt
   ·have:q*sz+sz≤i*sz:=Hk
    omega
   ·have:i*sz+sz≤q*sz:=Hm
    omega
 ·have hj:j<sz:=by
   have:=(Iz.1 hs).1
   rw[b12,v8]at this
   exact this
  rw[b22 _ _ _ _ (by rw[v8];omega)]at hs
  rw[b22 _ _ _ _ (by rw[j8.1];omega),j8.1]at hv
  by_cases c6:off≤j∧j<off+us.length
  ·rw[Iw c6]at hs
   rw[Iw Dt,show o+i*sz+j-(o+i*sz+off)=j-off from Dt]at hv
   exact(j8.2 _ _ _ hs hv).keep c8
  ·rw[Iy c6]at hs
   rw[Iy Dt]at hv
   exact(sa _ _ _ hs hv).keep c8
theorem c62(hO:Own B0 X A w μ own){T:TypeId}{p x:SV}{v u:Value}{own':List Blk}{pre:Prop}(hp:D w (held A μ) μ p v)(hx:D w (held A μ) μ x u)(he:c0d P own T p x=some (pre,own'))(cd:pre):
 ∃w',(Instr.storeAt T v u).run P w=.ok () w'∧After B0 X A w w' μ μ own':=by
 simp only[c0d,Ii]at he
 obtain⟨n,hn,us,jd,he⟩:=he
 split at he
 rotate_left
 ·cases he
 rename_i hc
 obtain⟨gv,cq⟩:=hc
 simp only[b10,J1]at hn
 obtain⟨inf,hi,rfl⟩:=hn
 have j8:DL w (held A μ) μ us u.cells.toList:=hx.cells jd
 have bu:=b3k j8 cq
 have husz:u.cells.size=inf.size:=by simpa[gv]using j8.1
 have bi:∀a:Addr,(Instr.storeAt T (.pointer (some a)) u).run P w=(storeCells a u.cells.toList).run P w:=by
  intro a
  simp only[Instr.storeAt,Instr.sureAddr,Ic,storeVar,b0h hi,husz,ne_eq,not_true_eq_false,if_false]
 split at he
 ·rename_i k off
  split at he
  rotate_left
  ·cases he
  rename_i T0 cs hk
  split at he
  rotate_left
  ·cases he
  rename_i ck
  simp only[Ib]at he
  obtain⟨rfl,rfl⟩:=he
  cases hp with
  |own h=>
   rename_i b
   obtain⟨bl,e,b6⟩:=hO.blk k _ h
   rw[hk]at e
   cases e
   obtain⟨b',vs,e1,hh,hl,h1,hd⟩:=b6
   cases e1
   have hs:=b2k (P:=P) b off T0 u.cells.toList w vs 0 hh (by rw[j8.1,hl,gv];omega) bu
   refine⟨_,(bi _).trans hs,?_⟩
   rw[Kz]
   have c8:Keeps w (putRow w b (over vs off u.cells.toList) T0) (held A μ) (held A μ) μ μ:=Keeps.put h (.inl rfl)
   refine⟨d08 hO h (.inl rfl) ⟨b,_,rfl,b53 (b29 hh),by rw[b12,b12];exact hl,b7f _ _ _ h1 bu,?_⟩,Fr.put (hO.rng k _ b h (.inl rfl)).2.2,c8⟩
   intro i s v hs hv
   exact((DL.over (w:=w) ⟨hl,hd⟩ j8 (by rw[gv];omega)).2 i s v hs hv).keep c8
 ·rename_i k sz i off
  split at he
  rotate_left
  ·rename_i T0 sz' m f c i' u0 hk
   split at he
   rotate_left
   ·cases he
   rename_i ck
   obtain⟨rfl,ck⟩:=ck
   simp only[Ib]at he
   obtain⟨rfl,rfl⟩:=he
   subst cd
   cases hp with
   |oel h=>
    rename_i b o n1 m1
    obtain⟨bl,e,b6⟩:=hO.blk k _ h
    rw[hk]at e
    cases e
    obtain⟨b',o',m2,vs,e1,f7,ff,dh,b7,v8,hl,hh,ho,h1,hd,sa⟩:=b6
    cases e1
    have c7:0<m1:=Dt
    have ft:o+i*sz+sz≤vs.length:=by
     have:i*sz+sz≤m1*sz:=I4
     omega
    have hs:=b2k (P:=P) b (o+i*sz+off) T0 u.cells.toList w vs 0 hh G0 bu
    refine⟨_,(bi _).trans hs,?_⟩
    rw[Kz]
    have c8:Keeps w (putRow w b (over vs (o+i*sz+off) u.cells.toList) T0) (held A μ) (held A μ) μ μ:=Keeps.put h (b1p c7)
    exact⟨d08 hO h (b1p c7) (f2z f7 ff dh b7 v8 hl hh ho h1 hd sa j8 (by rw[gv];exact ck) bu c8),Fr.put (hO.rng k _ b h (b1p c7)).2.2,c8⟩
  ·cases he
  rename_i T0 sz' m f c hk
  split at he
  rotate_left
  ·split at he
   rotate_left
   ·cases he
   rename_i ck
   obtain⟨rfl,ck⟩:=ck
   simp only[Ib]at he
   obtain⟨rfl,rfl⟩:=he
   cases hp with
   |oel h=>
    rename_i b o n1 m1
    obtain⟨bl,e,b6⟩:=hO.blk k _ h
    rw[hk]at e
    cases e
    obtain⟨a,m2,e1,f7,ff,dh,hl,b9⟩:=b6
    cases e1
    rcases b9 with e2|⟨b',o',vs,c7,e2,hh,ho,h1,hd⟩
    ·omega
    cases e2
    have ft:o+i*sz+sz≤vs.length:=by
     have:i*sz+sz≤m1*sz:=I4
     omega
    have hs:=b2k (P:=P) b (o+i*sz+off) T0 u.cells.toList w vs 0 hh G0 bu
    refine⟨_,(bi _).trans hs,?_⟩
    rw[Kz]
    have c8:Keeps w (putRow w b (over vs (o+i*sz+off) u.cells.toList) T0) (held A μ) (held A μ) μ μ:=Keeps.put h (b1p c7)
    exact⟨d08 hO h (b1p c7) (f2z f7 ff dh cd (hl i cd).1 (fun q hq _=>hl q hq) hh ho h1 (fun q j s v hq _=>hd q j s v hq) (fun j s v=>hd i j s v cd) j8 (by rw[gv];exact ck) bu c8),Fr.put (hO.rng k _ b h (b1p c7)).2.2,c8⟩
  rename_i ck
  obtain⟨rfl,ck,ra⟩:=ck
  simp only[Ib]at he
  obtain⟨rfl,rfl⟩:=he
  cases hp with
  |oel h=>
   rename_i b o n1 m1
   obtain⟨bl,e,b6⟩:=hO.blk k _ h
   rw[hk]at e
   cases e
   obtain⟨a,m2,e1,f7,ff,dh,hl,b9⟩:=b6
   cases e1
   rcases b9 with e2|⟨b',o',vs,c7,e2,hh,ho,h1,hd⟩
   ·omega
   cases e2
   have ft:o+i*sz+sz≤vs.length:=by
    have:i*sz+sz≤m1*sz:=I4
    omega
   have hs:=b2k (P:=P) b (o+i*sz+off) T0 u.cells.toList w vs 0 hh G0 bu
   refine⟨_,(bi _).trans hs,?_⟩
   rw[Kz]
   have c8:Keeps w (putRow w b (over vs (o+i*sz+off) u.cells.toList) T0) (held A μ) (held A μ) μ μ:=Keeps.put h (b1p c7)
   refine⟨d08 hO h (b1p c7) (b19.row_weak (f:=fun j=>if j=i then over (f i) off us else f j) (fun j=>by have:=c10 (decide (j=i)) (over (f i) off us) (f j);simpa only[Jz]using this) ⟨_,_,rfl,f7,ff,dh,fun j hj=> ?_,.inr ⟨b,o,_,c7,rfl,b53 (b29 hh),Gq,b7f _ _ _ h1 bu,?_⟩⟩),Fr.put (hO.rng k _ b h (b1p c7)).2.2,c8⟩
   ·show (if j=i then over (f i) off us else f j).length=sz∧(if j=i then over (f i) off us else f j).all SV.pure=true
    split
    ·rw[b12]
     exact⟨(hl _ cd).1,J4.2 (b7f us (f i) off (J4.1 (hl _ cd).2) (J4.1 ra))⟩
    ·exact hl j hj
   intro j q s v hj hs hv
   replace hs:(if j=i then over (f i) off us else f j)[q]?=some s:=hs
   rw[b22 _ _ _ _ G0,j8.1,gv]at hv
   have hq:q<sz:=by
    split at hs
    ·have:=(Iz.1 hs).1
     rw[b12,(hl _ cd).1]at this
     exact this
    ·have:=(Iz.1 hs).1
     rw[(hl j hj).1]at this
     exact this
   by_cases e:j=i
   ·subst e
    rw[Iw rfl,b22 _ _ _ _ (by rw[gv,(hl _ cd).1];omega),gv]at hs
    by_cases c6:off≤q∧q<off+inf.size
    ·rw[Iw c6]at hs
     rw[Iw Dt,show o+j*sz+q-(o+j*sz+off)=q-off from Dt]at hv
     exact(j8.2 _ _ _ hs hv).keep c8
    ·rw[Iy c6]at hs
     rw[Iy Dt]at hv
     exact(hd _ _ _ _ hj hs hv).keep c8
   ·rw[Iy e]at hs
    rw[Iy]at hv
    ·exact(hd _ _ _ _ hj hs hv).keep c8
    ·intro c6
     rcases Nat.lt_or_gt_of_ne e with h9|hgt
     ·have:j*sz+sz≤i*sz:=Hk
      omega
     ·have:i*sz+sz≤j*sz:=Hm
      omega
 ·cases he
end
def SV.kill0(S:List Nat):SV→SV
 |.osl j=>if S.contains j then .any else .osl j
 |.oel j sz i off=>if S.contains j then .any else .oel j sz i off
 |.fp ok j i o=>if S.contains j then .any else .fp ok j i o
 |.own j o=>.own j o
 |.agg _=>.any
 |.tup _=>.any
 |.clo f cs=>if cs.all (fun c=>match c with|.osl j=> !S.contains j|.fp _ j _ _=> !S.contains j|.oel _ _ _ _=>false|.agg _|.tup _=>false|.clo _ cs=>cs.isEmpty|_=>true)then .clo f cs else .any
 |s=>s
def SV.kill1(S:List Nat):SV→SV
 |.agg cs=>.agg (cs.map (SV.kill0 S))
 |s=>s.kill0 S
def SV.kill2(S:List Nat):SV→SV
 |.tup vs=>.tup (vs.map (SV.kill1 S))
 |s=>s.kill1 S
def Blk.kill(S:List Nat):Blk→Blk
 |.cells T cs=>.cells T (cs.map (SV.kill0 S))
 |.pmap K k has idx=>if S.contains k then .dead else .pmap K k has idx
 |.rowh T sz n f c i u=>.rowh T sz n f c i (u.map (SV.kill0 S))
 |b=>b
structure Keeps' (S:List Nat) (w w':World) (H H':Nat→Prop) (μ μ':Mu):Prop where
 size:w.heap.size≤w'.heap.size
 block:∀b,b<w.heap.size→¬H b→w'.heap[b]?=w.heap[b]?
 less:∀b,b<w.heap.size→H' b→H b
 own:∀j x,j∉S→μ j=some x→μ' j=some x
 ptr:∀k x,k∈S→μ k=some x→(∃a n m,x=.slice a n m)∨∃ps qs,x=b4h ps qs
section
variable {w w' : World} {H H' : Nat → Prop} {μ μ' : Mu} {S : List Nat}
theorem b0k{s:SV}{v:Value}(hk:Keeps' S w w' H H' μ μ')(h:D w H μ s v):s.pure=true→D w' H' μ' s v:=by
 induction h with
 |int=>exact fun _=>.int
 |bool=>exact fun _=>.bool
 |con=>exact fun _=>.con
 |own h=>intro hp;simp[SV.pure,SV.pure0]at hp
 |osl h=>intro hp;simp[SV.pure,SV.pure0]at hp
 |oel h=>intro hp;simp[SV.pure,SV.pure0]at hp
 |omp h=>intro hp;simp[SV.pure,SV.pure0]at hp
 |fp h=>intro hp;simp[SV.pure,SV.pure0]at hp
 |mp r g hb hm hl hd ih=>
  exact fun _=>.mp r g (fun hh=>hb (hk.less _ hm.lt hh)) (hm.keep (hk.block _ hm.lt hb)) hl (fun q i s v hq hs hv=>ih q i s v hq hs hv (J4.1 (hl q hq).2 s (J0 hs)))
 |sl a b o m g hm hx hc h8 hl hd ih=>
  exact fun _=>.sl a b o m g hm hx hc (fun hn=>by
   obtain⟨e,hb,hr⟩:=h8 hn
   exact⟨e,fun hh=>hb (hk.less _ hr.1 hh),hr.keep hk.size (hk.block _ hr.1 hb)⟩) hl (fun i j s hi hs=>ih i j s hi hs (J4.1 (hl i hi).2 s (J0 hs)))
 |rel b o g hi hb h8 hl hd ih=>
  exact fun _=>.rel b o g hi (fun hh=>hb (hk.less _ h8.1 hh)) (h8.keep hk.size (hk.block _ h8.1 hb)) hl (fun i j s hi hs=>ih i j s hi hs (J4.1 (hl i hi).2 s (J0 hs)))
 |agg vs hl hd ih=>intro hp;simp[SV.pure,SV.pure0]at hp
 |tup vs hl hd ih=>intro hp;simp[SV.pure,SV.pure0]at hp
 |clo vs hl hd ih=>
  exact Ci
 |ub h1 h2=>exact fun _=>.ub h1 h2
 |any=>exact fun _=>.any
theorem c1b{ok:Bool}{k i off:Nat}{v:Value}(hk:Keeps' S w w' H H' μ μ')(hS:k∉S)(h:D w H μ (.fp ok k i off) v):D w' H' μ' (.fp ok k i off) v:=
 D.fp_keep (fun ps qs e=>⟨ps,qs,hk.own _ _ hS e,fun _ h=>h⟩) h
theorem b4c{s:SV}{v:Value}(hk:Keeps' S w w' H H' μ μ')(h:D w H μ s v):D w' H' μ' (s.kill0 S) v:=by
 have nots:∀{j:Nat} {b:Nat},μ j=some (.pointer (some ⟨b,0,none⟩))→j∉S:=fun h hj=>by rcases hk.ptr _ _ hj h with⟨a,n,m,e⟩|⟨_,_,e⟩<;>cases e
 have notm:∀{j:Nat} {r:Option Nat},μ j=some (.map r)→j∉S:=fun h hj=>by rcases hk.ptr _ _ hj h with⟨a,n,m,e⟩|⟨_,_,e⟩<;>cases e
 cases h with
 |fp h=>
  simp only[SV.kill0]
  split
  ·exact .any
  ·rename_i e;exact c1b hk Er (.fp h)
 |omp h=>exact .omp (hk.own _ _ (notm h) h)
 |mp r g hb hm hl hd=>exact b0k hk (.mp r g hb hm hl hd) rfl
 |int=>exact .int
 |bool=>exact .bool
 |con=>exact .con
 |own h=>
  exact .own (hk.own _ _ (nots h) h)
 |osl h=>
  rename_i j n m a
  simp only[SV.kill0]
  split
  ·exact .any
  ·rename_i e;exact .osl (hk.own _ _ Er h)
 |oel h=>
  simp only[SV.kill0]
  split
  ·exact .any
  ·rename_i e;exact .oel (hk.own _ _ Er h)
 |sl a b o m g hm hx hc h8 hl hd=>exact b0k hk (.sl a b o m g hm hx hc h8 hl hd) rfl
 |rel b o g hi hb h8 hl hd=>exact b0k hk (.rel b o g hi hb h8 hl hd) rfl
 |agg vs hl hd=>exact .any
 |tup vs hl hd=>exact .any
 |clo vs hl hd=>
  simp only[SV.kill0]
  split
  ·rename_i bt
   refine .clo vs hl (fun i s v hs hv=> ?_)
   have hc:=J4.1 bt s (J0 hs)
   have hD:=hd i s v hs hv
   cases hD with
   |own h=>
    exact .own (hk.own _ _ (nots h) h)
   |omp h=>exact .omp (hk.own _ _ (notm h) h)
   |fp h=>exact c1b hk Ei (.fp h)
   |mp r g hb hm hl hd=>exact b0k hk (.mp r g hb hm hl hd) rfl
   |osl h=>exact .osl (hk.own _ _ Ei h)
   |oel h=>simp at hc
   |agg=>simp at hc
   |tup=>simp at hc
   |clo us jt fh=>exact b0k hk (.clo us jt fh) Hn
   |int=>exact .int
   |bool=>exact .bool
   |con=>exact .con
   |ub h1 h2=>exact .ub h1 h2
   |any=>exact .any
   |sl a b o m g hm hx fa h8 hl hd=>exact b0k hk (.sl a b o m g hm hx fa h8 hl hd) rfl
   |rel b o g hi hb h8 hl hd=>exact b0k hk (.rel b o g hi hb h8 hl hd) rfl
  ·exact .any
 |ub h1 h2=>exact .ub h1 h2
 |any=>exact .any
theorem c3j{s:SV}{v:Value}(hk:Keeps' S w w' H H' μ μ')(h:D w H μ s v):D w' H' μ' (s.kill1 S) v:=by
 unfold SV.kill1
 split
 ·cases h with
  |agg vs hl hd=>
   refine .agg vs E9 (fun i s v hs hv=> ?_)
   simp only[Id]at hs
   obtain⟨s0,bv,rfl⟩:=hs
   exact b4c hk (hd i s0 v bv hv)
 ·exact b4c hk h
theorem c3i{s:SV}{v:Value}(hk:Keeps' S w w' H H' μ μ')(h:D w H μ s v):D w' H' μ' (s.kill2 S) v:=by
 unfold SV.kill2
 split
 ·cases h with
  |tup vs hl hd=>
   refine .tup vs E9 (fun i s v hs hv=> ?_)
   simp only[Id]at hs
   obtain⟨s0,bv,rfl⟩:=hs
   exact c3j hk (hd i s0 v bv hv)
 ·exact c3j hk h
theorem b19.change{x:Value}{bl:Blk}(hk:Keeps' S w w' H H' μ μ')(hb:∀b,Has x b→w'.heap[b]?=w.heap[b]?)(h:b19 w H μ x bl):b19 w' H' μ' x (bl.kill S):=by
 cases bl with
 |cells T cs=>
  obtain⟨b,vs,rfl,hh,hl,h1,hd⟩:=h
  refine⟨b,vs,rfl,(hb b (.inl rfl)).trans hh,E9,h1,fun i s v hs hv=> ?_⟩
  simp only[Id]at hs
  obtain⟨s0,bv,rfl⟩:=hs
  exact b4c hk (hd i s0 v bv hv)
 |row T sz n f c=>
  obtain⟨a,m,rfl,hn,hm,hc,hl,h⟩:=h
  refine⟨a,m,rfl,hn,hm,hc,hl,?_⟩
  rcases h with h|⟨b,o,vs,c7,rfl,hh,ho,h1,hd⟩
  ·exact .inl h
  ·exact .inr ⟨b,o,vs,c7,rfl,(hb b (b1p c7)).trans hh,ho,h1,fun i j s v hi hs hv=>b0k hk (hd i j s v hi hs hv) (J4.1 (hl i hi).2 s (J0 hs))⟩
 |map K ag has val=>
  obtain⟨r,g,rfl,hm,hl,hd⟩:=h
  exact⟨r,g,rfl,hm.keep (hb r (.inl rfl)),hl,fun q i s v hq hs hv=>b0k hk (hd q i s v hq hs hv) (J4.1 (hl q hq).2 s (J0 hs))⟩
 |fam T Ts n br F=>
  obtain⟨ps,qs,rfl,h,hh⟩:=h
  refine⟨ps,qs,rfl,h.keep ⟨hk.size,hk.block,hk.less⟩ hb,hh.keep (fun i c p e hc=>hk.own _ _ (fun hS=> ?_) hc)⟩
  obtain⟨p',e1,e2⟩:=hh i c e
  rw[hc]at e2
  cases e2
  have hi:i<n:=Gr
  obtain⟨b,us,e3,_⟩:=h.mem i hi
  rw[e1]at e3
  cases e3
  rcases hk.ptr _ _ hS hc with⟨a,n,m,e⟩|⟨_,_,e⟩<;>cases e
 |pmap K k has idx=>
  simp only[Blk.kill]
  split
  ·exact Ix
  rename_i hS
  obtain⟨⟨ps,qs,he⟩,r,g,rfl,hm,hd⟩:=h
  exact⟨⟨ps,qs,hk.own _ _ (by simpa using hS) he⟩,r,g,rfl,hm.keep (hb r (.inl rfl)),fun q hq=>by obtain⟨p,e,h⟩:=hd q hq;exact⟨p,e,c1b hk (by simpa using hS) h⟩⟩
 |rowh T sz n f c i u=>exact b5f.to (SV.kill0 S) (fun b hx=>hb b (.inl hx)) (fun s v hp h=>b0k hk h hp) (fun s v h=>b4c hk h) h
 |pool T sz n hd al ln ct=>
  obtain⟨qs,rfl,h⟩:=h
  exact⟨qs,rfl,h.keep ⟨hk.size,hk.block,hk.less⟩ hb⟩
 |dead=>exact Ix
end
structure After' (S:List Nat) (B0:Nat) (X A:Nat→Prop) (w w':World) (μ μ':Mu) (own':List Blk):Prop where
 own:Own B0 X A w' μ' own'
 fr:Fr B0 X w w'
 keeps:Keeps' S w w' (held A μ) (held A μ') μ μ'
theorem b8t{B0:Nat}{X A:Nat→Prop}{w w':World}{μ:Mu}{own:List Blk}(h:Own B0 X A w μ own)(hB:B0≤w.heap.size){k:Nat}{x y:Value}{bl:Blk}(hk:μ k=some x)(gn:∃a n m,x=.slice a n m)
 (pa:∃a n m,y=.slice a n m) (hy:b2t y=none∨b2t y=b2t x∨(∃b,b2t y=some b∧w.heap.size≤b∧b<w'.heap.size∧B0≤b)) (bk:w.heap.size≤w'.heap.size) (cx:∀b,b<w.heap.size→b2t x≠some b→w'.heap[b]?=w.heap[b]?)
 (vd:w'.os=w.os) (Nd:w'.tape=w.tape) (Nf:w'.output=w.output)
 (b6:Keeps' [k] w w' (held A μ) (held A (μ.set k y)) μ (μ.set k y)→b19 w' (held A (μ.set k y)) (μ.set k y) y bl) (Ng:w.drawn≤w'.drawn:=by first|exact J2 _|exact Nat.le_succ _):
 After' [k] B0 X A w w' μ (μ.set k y) ((own.map (Blk.kill [k])).set k bl):=by
 obtain⟨xa,xn,xm,rfl⟩:=gn
 obtain⟨ya,yn,ym,rfl⟩:=pa
 have pb:=h.rng
 have c8:Keeps' [k] w w' (held A μ) (held A (μ.set k (.slice ya yn ym))) μ (μ.set k (.slice ya yn ym)):=by
  refine⟨bk,fun b hb hh=>cx b hb (fun e=>hh (.inr ⟨k,_,hk,.inl e⟩)),fun b hb hh=> ?_,fun j z hj hz=>by simp only[Jk]at hj;simp[Mu.set,hj,hz],fun j z hj hz=>by simp only[Jk]at hj;subst hj;rw[hk]at hz;cases hz;exact .inl ⟨_,_,_,rfl⟩⟩
  rcases hh with hh|⟨j,z,hj,hz⟩
  ·exact .inl hh
  ·unfold Mu.set at hj
   split at hj
   ·cases hj
    rw[b5d]at hz
    rcases hy with hy|hy|⟨b',hy,qj,_⟩
    ·rw[hy]at hz;cases hz
    ·rw[hy]at hz;exact .inr ⟨k,_,hk,.inl hz⟩
    ·rw[hy]at hz;cases hz;omega
   ·exact .inr ⟨j,z,hj,hz⟩
 have bb:∀j z b,j≠k→μ j=some z→Has z b→b2t (Value.slice xa xn xm)≠some b:=fun j z b hj hz hb e=>hj (h.inj j k z _ b hz hk hb (.inl e))
 refine⟨⟨fun j z hj=> ?_,fun j j' z z' b hj bh hz qk=> ?_,fun j z b hj hz=> ?_,fun b hb=>Jd (h.bnd b hb) bk⟩,⟨vd,Nd,Nf,fun _=>Ng,bk,fun i hi hX=> ?_⟩,c8⟩
 ·by_cases e:j=k
  ·subst e
   have:z=.slice ya yn ym:=Ev
   subst this
   obtain⟨bl0,e0,_⟩:=h.blk j _ hk
   have h9:j<own.length:=(Iz.1 e0).1
   exact⟨bl,by simp[h9],b6 c8⟩
  ·have bh:μ j=some z:=F2
   obtain⟨bl0,e0,sb⟩:=h.blk j z bh
   refine⟨bl0.kill [k],by rw[Jb (Ne.symm e),Jv,e0];rfl,sb.change c8 (fun b hb=>cx b (pb j z b bh hb).1 (bb j z b e bh hb))⟩
 ·have key:∀j z,Mu.set μ k (.slice ya yn ym) j=some z→(j=k∧z=.slice ya yn ym)∨(j≠k∧μ j=some z):=by
   intro j z hj
   by_cases e:j=k
   ·subst e;exact .inl ⟨rfl,Ev⟩
   ·exact .inr ⟨e,F2⟩
  have cross:∀j z,j≠k→μ j=some z→Has z b→Has (.slice ya yn ym) b→False:=by
   intro j z hj hz hb mn
   rw[b5d]at mn
   rcases hy with hy|hy|⟨b',hy,qj,_⟩
   ·rw[hy]at mn;cases mn
   ·rw[hy]at mn;exact bb j z b hj hz hb mn
   ·rw[hy]at mn;cases mn
    have:=(pb j z b hz hb).1;omega
  rcases key j z hj with⟨e,rfl⟩|⟨e,em⟩<;>rcases key j' z' bh with⟨e',e2⟩|⟨e',em'⟩
  ·rw[e,e']
  ·exact(cross j' z' e' em' qk hz).elim
  ·subst e2;exact(cross j z e em hz qk).elim
  ·exact h.inj j j' z z' b em em' hz qk
 ·by_cases e:j=k
  ·subst e
   have:z=.slice ya yn ym:=Ev
   subst this
   rw[b5d]at hz
   rcases hy with hy|hy|⟨b',hy,qj,h9,hB⟩
   ·rw[hy]at hz;cases hz
   ·rw[hy]at hz
    obtain⟨r1,r2,r3⟩:=pb j _ b hk (.inl hz)
    exact⟨Jd r1 bk,r2,r3⟩
   ·rw[hy]at hz;cases hz
    exact⟨h9,fun ha=>by have:=h.bnd _ ha;omega,.inl hB⟩
  ·have bh:μ j=some z:=F2
   obtain⟨r1,r2,r3⟩:=pb j z b bh hz
   exact⟨Jd r1 bk,r2,r3⟩
 ·rcases M5 i w.heap.size with h9|qj
  ·refine cx i h9 (fun e=> ?_)
   rcases(pb k _ i hk (.inl e)).2.2 with h3|h3
   ·omega
   ·exact hX h3
  ·omega
theorem c38{B0:Nat}{X A:Nat→Prop}{w w':World}{μ:Mu}{own:List Blk}(h:Own B0 X A w μ own)(hB:B0≤w.heap.size){k:Nat}{x y:Value}{bl:Blk}(hk:μ k=some x)(gn:∃a n m,x=.slice a n m)
 (pa:∃a n m,y=.slice a n m) (hy:b2t y=b2t x∨(∃b,b2t y=some b∧w.heap.size≤b∧b<w'.heap.size∧B0≤b)) (bk:w.heap.size≤w'.heap.size) (cx:∀b,b<w.heap.size→b2t x≠some b→w'.heap[b]?=w.heap[b]?)
 (vd:w'.os=w.os) (Nd:w'.tape=w.tape) (Nf:w'.output=w.output)
 (b6:Keeps' [k] w w' (held A μ) (held A (μ.set k y)) μ (μ.set k y)→b19 w' (held A (μ.set k y)) (μ.set k y) y bl) (Ng:w.drawn≤w'.drawn:=by first|exact J2 _|exact Nat.le_succ _):
 After' [k] B0 X A w w' μ (μ.set k y) ((own.map (Blk.kill [k])).set k bl):=
 b8t h hB hk gn pa (.inr hy) bk cx vd Nd Nf b6 Ng
def c0i(own:List Blk)(sz:Nat):SV→Option (Nat×(Nat→List SV))
 |.con (.slice none 0 0)=>some (0,fun _=>[])
 |.sl sz' n f _=>if sz=sz' then some (n,f)else none
 |.osl k=>match own[k]? with
  |some (.row _ sz' n f _)=>if sz=sz' then some (n,f)else none
  |_=>none
 |_=>none
section
variable {P : Program} {w : World} {μ : Mu} {B0 : Nat} {X A : Nat → Prop} {own ownN : List Blk}
theorem c6i(hO:Own B0 X A w μ ownN)(ba:∀(k:Nat) (bl:Blk),own[k]?=some bl→ownN[k]?=some bl){y:SV}{v:Value}{sz n:Nat}{f:Nat→List SV}(hy:D w (held A μ) μ y v)(he:c0i own sz y=some (n,f)):
 ∃(a:Option Addr) (m:Nat) (news:List Value),v=.slice a n m∧n≤m∧m≤maxLen∧news.length=n*sz∧(∀v∈news,v.oneCell'=true)∧(∀i,i<n→(f i).length=sz∧(f i).all SV.pure=true)∧
  (0<n→∃ad,a=some ad∧ad.spot=none∧∀(j:Nat) (u:Value),news[j]?=some u→w.cell? (ad.add j)=some u)∧
  ∀(i j:Nat) (s:SV) (u:Value),i<n→(f i)[j]?=some s→news[i*sz+j]?=some u→D w (held A μ) μ s u:=by
 cases hy with
 |con=>
  unfold c0i at he
  split at he<;>first
   |(rename_i je;cases je;cases he;exact⟨none,0,[],rfl,J2 _,F3,Dv,Dv,fun i h=>absurd h (Je _),fun h=>absurd h (Ln _),fun i j s u h=>absurd h (Je _)⟩)
   |simp_all
 |sl a b o m g hm hx hc h8 hl hd=>
  rename_i sz' n' f' c
  simp only[c0i]at he
  split at he
  rotate_left
  ·cases he
  rename_i e
  subst e
  simp only[Ib]at he
  obtain⟨rfl,rfl⟩:=he
  have idx:∀(x:Nat) (u:Value),((List.range (n'*sz)).map fun x=>g (x/sz) (x%sz))[x]?=some u→x<n'*sz∧u=g (x/sz) (x%sz):=by
   intro x u hu
   simp only[Id]at hu
   obtain⟨y,hy,rfl⟩:=hu
   rw[Iz]at hy
   obtain⟨h9,e⟩:=hy
   simp at h9 e
   subst e
   exact⟨h9,rfl⟩
  have split_:∀x,x<n'*sz→x/sz<n'∧x%sz<sz∧x/sz*sz+x%sz=x:=by
   intro x hx
   have dg:0<sz:=by
    rcases Jx sz with h0|h0
    ·subst h0;omega
    ·exact h0
   refine⟨Nat.div_lt_of_lt_mul G1,M4 _ dg,?_⟩
   have:=Nat.div_add_mod x sz
   rw[L4]at this
   exact this
  refine⟨a,m,(List.range (n'*sz)).map fun x=>g (x/sz) (x%sz),rfl,hm,hx,Dv,?_,hl,?_,?_⟩
  ·intro v hv
   obtain⟨x,d4,e⟩:=Jg.1 hv
   obtain⟨h1,h2⟩:=idx x v (by rw[←e];exact Iv d4)
   obtain⟨s1,s2,_⟩:=split_ x h1
   rw[h2]
   exact((h8 (Nat.lt_of_le_of_lt (J5 _) s1)).2.2.2 _ _ s1 s2).2
  ·intro hn
   obtain⟨rfl,hb,hr⟩:=h8 hn
   refine⟨_,rfl,rfl,fun x u hu=> ?_⟩
   obtain⟨h1,h2⟩:=idx x u hu
   obtain⟨s1,s2,s3⟩:=split_ x h1
   have:=(hr.2 _ _ s1 s2).1
   rw[Ke,h2,←this,Kb,s3]
  ·intro i j s u hi hs hu
   obtain⟨h1,h2⟩:=idx _ u hu
   have hj:j<sz:=G2
   have e1:(i*sz+j)/sz=i:=by rw[L4,Nat.mul_add_div Dt,Nat.div_eq_of_lt hj];rfl
   have e2:(i*sz+j)%sz=j:=by rw[L4,Nat.mul_add_mod,Nat.mod_eq_of_lt hj]
   rw[e1,e2]at h2
   rw[h2]
   exact hd i j s hi hs
 |osl h=>
  rename_i k n0 m0 a0
  simp only[c0i]at he
  split at he
  rotate_left
  ·cases he
  rename_i T sz' n' f' c hk
  split at he
  rotate_left
  ·cases he
  rename_i e
  subst e
  simp only[Ib]at he
  obtain⟨rfl,rfl⟩:=he
  obtain⟨bl,e',b6⟩:=hO.blk _ _ h
  rw[ba _ _ hk]at e'
  cases e'
  obtain⟨a,m,e1,hn,hm,hc,hl,b9⟩:=b6
  cases e1
  rcases b9 with rfl|⟨b,o,vs,c7,rfl,hh,ho,h1,hd⟩
  ·obtain rfl:n0=0:=Dt
   exact⟨_,0,[],rfl,J2 _,F3,Dv,Dv,hl,fun h=>absurd h (Ln _),fun i j s u h=>absurd h (Je _)⟩
  ·have bj:n0*sz≤m0*sz:=Jt _ hn
   refine⟨_,m0,(vs.drop o).take (n0*sz),rfl,hn,hm,E5,fun v hv=>h1 v (Mc (Lu hv)),hl,fun _=>⟨_,rfl,rfl,fun j u hu=> ?_⟩,fun i j s u hi hs hu=> ?_⟩
   ·rw[Ke,b62 hh]
    exact(b07 hu).2
   ·exact hd i j s u hi hs (by rw[Kb];exact(b07 hu).2)
 |_=>simp[c0i]at he
def c52(d:Int):Option (Option SV)→Option Int
 |none=>some d
 |some (some (.int _ n))=>some n
 |_=>none
def d65(P:Program)(_:List Blk)(T:TypeId)(x:SV)(lo hi mx:Option (Option SV)):Option (Prop×SV):=
 match P.underlying T with
 |some (.slice e)=>match x,mx with
  |.sl sz n f c,none=>do
   let l←c52 0 lo
   let h←c52 n hi
   some (b10 P e=some sz∧0≤l∧l≤h∧h≤n,.sl sz (h-l).toNat (fun j=>f (l.toNat+j)) (c.map fun m=>m-l.toNat))
  |.sl sz n f _,some m=>do
   let l←c52 0 lo
   let h←c52 n hi
   let m←c52 n (some m)
   if hi.isNone then none else
   some (b10 P e=some sz∧0≤l∧l≤h∧h≤m∧m≤n,.sl sz (h-l).toNat (fun j=>f (l.toNat+j)) (some (m-l).toNat))
  |_,_=>none
 |some (.array n e)=>match x,lo,hi,mx with
  |.rel sz n' f 0 0,none,none,none=>if b10 P e=some sz∧n=n'∧n≤1000000 then some (True,.sl sz n f (some n))else none
  |_,_,_,_=>none
 |_=>none
end
section
variable {P : Program} {w : World} {μ : Mu} {B0 : Nat} {X A : Nat → Prop} {own ownN : List Blk}
def DO(w:World)(H:Nat→Prop)(μ:Mu)(o:Option (Option SV))(v:Option Value):Prop:=
 match o,v with
 |none,none=>True
 |some (some s),some u=>D w H μ s u
 |some none,some _=>True
 |_,_=>False
theorem g1w{H:Nat→Prop}{sz n:Nat}{f:Nat→List SV}{a:Option Addr}{b o m l h m':Nat}{g:Nat→Nat→Value}(_:n≤m)(hx:m≤maxLen)
 (h8:0<n→a=some ⟨b,o,none⟩∧¬H b∧f3v w b o sz n g) (hl:∀i,i<n→(f i).length=sz∧(f i).all SV.pure=true) (hd:∀(i j:Nat) (s:SV),i<n→(f i)[j]?=some s→D w H μ s (g i j))
 (h1:l≤h) (h2:h≤n) (h3:h≤m') (h4:m'≤m) {c:Option Nat} (hc:c=none∨c=some (m'-l)):
 D w H μ (.sl sz (h-l) (fun j=>f (l+j)) c) (.slice (if m'=l then a else a.map (·.add (l*sz))) (h-l) (m'-l)):=by
 refine .sl _ b (o+l*sz) (m'-l) (fun i j=>g (l+i) j) Dt Dt hc (fun hn=> ?_) (fun i hi=>hl _ Dt) (fun i j s hi hs=>hd _ _ _ Dt hs)
 obtain⟨rfl,hb,hr⟩:=h8 Dt
 rw[Iy Dt]
 refine⟨by simp[Ke],hb,hr.1,fun i j hi hj=> ?_⟩
 have:=hr.2 (l+i) j Dt hj
 rwa[show o+(l+i)*sz+j=o+l*sz+i*sz+j from by rw[Kv];omega]at this
theorem d8s{H:Nat→Prop}{T:TypeId}{x s:SV}{v:Value}{lo hi mx:Option (Option SV)}{vl vh vm:Option Value}{pre:Prop}(hx:D w H μ x v)(w9:DO w H μ lo vl)(wa:DO w H μ hi vh)(ff:DO w H μ mx vm)
 (he:d65 P own T x lo hi mx=some (pre,s)) (hp:pre):∃r,(Instr.sliceAt T v vl vh vm).run P w=.ok r w∧D w H μ s r:=by
 have bnd:∀{d:Int} {o:Option (Option SV)} {u:Option Value} {n:Int},DO w H μ o u→c52 d o=some n→(u=none∧o=none∧n=d)∨∃k,u=some (.int k n)∧o.isNone=false:=by
  intro d o u n hd hb
  unfold c52 at hb
  split at hb
  ·cases hb
   cases u with
   |none=>exact .inl ⟨rfl,rfl,rfl⟩
   |some _=>simp[DO]at hd
  ·cases hb
   cases u with
   |none=>simp[DO]at hd
   |some u=>simp only[DO]at hd;cases hd;exact .inr ⟨_,rfl,rfl⟩
  ·cases hb
 unfold d65 at he
 split at he
 ·rename_i e hT
  have ji:P.elem T=e:=Fy
  split at he
  ·rename_i sz n f c
   simp only[Ii,Ib]at he
   obtain⟨l,jt,h,sf,rfl,rfl⟩:=he
   obtain⟨bk,h0,h1,h2⟩:=hp
   simp only[b10,J1]at bk
   obtain⟨inf,bn,rfl⟩:=bk
   cases vm with
   |some _=>simp[DO]at ff
   |none=>
   cases hx with
   |sl a b o m g hm sh hc h8 hl hd=>
    have ny:(Instr.sliceBounds true n m vl vh none).run P w=.ok (l.toNat,h.toNat,m) w:=by
     rcases bnd w9 jt with⟨rfl,_,rfl⟩|⟨kl,rfl,_⟩<;>rcases bnd wa sf with⟨rfl,_,rfl⟩|⟨kh,rfl,_⟩
     ·simp[Instr.sliceBounds]
     ·simp[Instr.sliceBounds,Kt w kh h m _ Dt Dt]
     ·simp[Instr.sliceBounds,Kt w kl l n _ Dt Dt]
     ·have:=Kt (P:=P) w kl l h.toNat .sliceB Dt Dt
      simp[Instr.sliceBounds,Kt w kh h m _ Dt Dt,this]
    refine⟨.slice (if m=l.toNat then a else a.map (·.add (l.toNat*inf.size))) (h.toNat-l.toNat) (m-l.toNat),?_,?_⟩
    rotate_left
    ·have:=g1w (w:=w) (H:=H) (μ:=μ) (l:=l.toNat) (h:=h.toNat) (m':=m) hm sh h8 hl hd Dt Dt Dt (J2 _) (c:=c.map fun m=>m-l.toNat) (by rcases hc with rfl|rfl;exact .inl rfl;exact .inr rfl)
     rw[show (h-l).toNat=h.toNat-l.toNat from Dt]
     exact this
    ·simp only[Instr.sliceAt,Ic,Jm hT,Instr.slice,ny,b0h bn]
  ·rename_i sz n f c m
   simp only[Ii]at he
   obtain⟨l,jt,h,sf,mm,ju,he⟩:=he
   split at he
   ·cases he
   rename_i hhn
   simp only[Ib]at he
   obtain⟨rfl,rfl⟩:=he
   obtain⟨bk,h0,h1,h2,h3⟩:=hp
   simp only[b10,J1]at bk
   obtain⟨inf,bn,rfl⟩:=bk
   cases hx with
   |sl a b o mc g hm sh hc h8 hl hd=>
    have ny:(Instr.sliceBounds true n mc vl vh vm).run P w=.ok (l.toNat,h.toNat,mm.toNat) w:=by
     rcases bnd ff ju with⟨rfl,e,rfl⟩|⟨km,rfl,_⟩
     ·cases e
     rcases bnd wa sf with⟨rfl,e,rfl⟩|⟨kh,rfl,_⟩
     ·simp[e]at hhn
     have e1:=Kt (P:=P) w km mm mc .slice3Acap Dt Dt
     have e2:=Kt (P:=P) w kh h mm.toNat .slice3B Dt Dt
     rcases bnd w9 jt with⟨rfl,_,rfl⟩|⟨kl,rfl,_⟩
     ·simp[Instr.sliceBounds,e1,e2]
     ·have e3:=Kt (P:=P) w kl l h.toNat .slice3C Dt Dt
      simp[Instr.sliceBounds,e1,e2,e3]
    refine⟨.slice (if mm.toNat=l.toNat then a else a.map (·.add (l.toNat*inf.size))) (h.toNat-l.toNat) (mm.toNat-l.toNat),?_,?_⟩
    rotate_left
    ·have:=g1w (w:=w) (H:=H) (μ:=μ) (l:=l.toNat) (h:=h.toNat) (m':=mm.toNat) hm sh h8 hl hd Dt Dt Dt Dt (c:=some (mm-l).toNat) (.inr (by congr 1;omega))
     rw[show (h-l).toNat=h.toNat-l.toNat from Dt]
     exact this
    ·simp only[Instr.sliceAt,Ic,Jm hT,Instr.slice,ny,b0h bn]
  ·cases he
 ·rename_i n e hT
  have ji:P.elem T=e:=Fy
  have w5:P.arrayLen T=n:=by simp[Program.arrayLen,hT]
  split at he
  ·rename_i sz n' f
   split at he
   rotate_left
   ·cases he
   rename_i hc
   obtain⟨bk,rfl,hn⟩:=hc
   simp only[Ib]at he
   obtain⟨rfl,rfl⟩:=he
   simp only[b10,J1]at bk
   obtain⟨inf,bn,rfl⟩:=bk
   cases hx with
   |rel b o g hi hb hr hl hd=>
    cases vl<;>cases vh<;>cases vm<;>simp[DO]at w9 wa ff
    refine⟨.slice (some ⟨b,o,none⟩) n n,?_,.sl _ b o n g (J2 _) Ep (.inr rfl) (fun _=>⟨rfl,hb,hr⟩) hl hd⟩
    simp[Instr.sliceAt,Jm hT,Instr.sureAddr,Instr.sliceBounds,b0h bn,Addr.add_zero']
  ·cases he
 ·cases he
def f8w(c:Option Nat)(n:Nat):Option Nat:=c.bind fun c0=>if n≤c0 then some c0 else none
theorem d3t{c:Option Nat}{n m:Nat}(h:c=none∨c=some m):f8w c n=none∨f8w c n=some m:=by
 rcases h with rfl|rfl
 ·exact .inl rfl
 ·unfold f8w
  simp only[Lq]
  split
  ·exact .inr rfl
  ·exact .inl rfl
theorem f6d{c:Option Nat}{n m:Nat}(h:c=none∨c=some m)(hm:m<n):f8w c n=none:=by
 rcases h with rfl|rfl
 ·rfl
 ·unfold f8w
  simp only[Lq]
  rw[Iy Dt]
def d2g(own:List Blk)(e:TypeId)(inf:TypeInfo)(m:Nat)(g:Nat→List SV):SV→Option (Prop×Nat×List Blk×Bool)
 |.con (.slice none 0 0)=>some (m≤9223372036854775807∧m*inf.bytes≤140737488355328,own.length,own++[.row e inf.size m g none],true)
 |.sl sz n f c=>if sz=inf.size then
  some ((match c with|some c=>n=c|none=>False)∧(n=0∨0<m)∧n+m≤9223372036854775807∧(n+m)*inf.bytes≤140737488355328,own.length,own++[.row e inf.size (n+m) (fun j=>if j<n then f j else g (j-n)) none],true)
  else none
 |.osl k=>match own[k]? with
  |some (.row e' sz n f c)=>if e'=e∧sz=inf.size then
   some (n+m≤9223372036854775807∧(n+m)*inf.bytes≤140737488355328,k,(own.map (Blk.kill [k])).set k (.row e sz (n+m) (fun j=>if j<n then f j else g (j-n)) (f8w c (n+m))),false)
   else none
  |_=>none
 |_=>none
def c4k(P:Program)(own:List Blk)(T:TypeId)(x y:SV):Option (Prop×Nat×List Blk×Bool):=
 (b2s P T).bind fun e=>(P.info? e).bind fun inf=>(b7p P e).bind fun z=>(c0i own inf.size y).bind fun mg=>
   if z.length=inf.size∧0<inf.size∧z.all SV.isCell then d2g own e inf mg.1 mg.2 x else none
theorem b1k{size n:Nat}{a:Option Addr}{c:Nat}{news:List Value}(hl:news.length=n*size)(h:0<n→∃ad,a=some ad∧ad.spot=none∧∀(j:Nat) (u:Value),news[j]?=some u→w.cell? (ad.add j)=some u):
 (Builtin.firstCells size n (.slice a n c)).run P w=.ok news.toArray w:=by
 rcases Jx n with h0|h0
 ·subst h0
  have:news=[]:=Kd E9
  subst this
  cases a with
  |none=>simp[Builtin.firstCells]
  |some ad=>simp[Builtin.firstCells,loadCells,loadCellsFrom]
 ·obtain⟨ad,rfl,_,hc⟩:=h h0
  simp only[Builtin.firstCells]
  exact c18 ad news (n*size) hl hc
theorem b36{zv:Value}(hz:∀v∈zv.cells.toList,v.oneCell'=true)(n:Nat):∀v∈(Builtin.zeroCells zv.cells n).toList,v.oneCell'=true:=by
 intro v hv
 simp only[Builtin.zeroCells,M1,Ja]at hv
 obtain⟨i,hi,rfl⟩:=hv
 have b7:i<n*zv.cells.size:=Ej
 have dg:0<zv.cells.size:=by
  rcases Jx zv.cells.size with h0|h0
  ·rw[h0]at b7;omega
  ·exact h0
 have h9:i%zv.cells.size<zv.cells.size:=M4 _ dg
 rw[K4 zv.cells _ h9]
 exact hz _ Dv
theorem b6d{T ty e:TypeId}{inf:TypeInfo}{zv:Value}(ht:P.underlying T=some (.slice e))(hi:P.info? e=some inf)(hz:inf.zero=some zv)
 {a a':Option Addr} {n m k c:Nat} {olds news:List Value} (ho:(Builtin.firstCells inf.size n (.slice a n c)).run P w.drew=.ok olds.toArray w.drew) (hn:(Builtin.firstCells inf.size m (.slice a' m k)).run P w.drew=.ok news.toArray w.drew)
 (hg:c<n+m) (p9:n+m≤9223372036854775807) (hb:(n+m)*inf.bytes≤140737488355328):
 (Builtin.append_ #[T,T] ty #[.slice a n c,.slice a' m k]).run P w=.ok (.slice (some ⟨w.heap.size,0,none⟩) (n+m) (grownCap w (n+m) c e))
   (w.drew.alloc (.cells (olds++news++(Builtin.zeroCells zv.cells (grownCap w (n+m) c e-(n+m))).toList).toArray e)):=by
 have h1:¬(n+m≤c):=Dt
 have h63':¬(9223372036854775807<((n:Int)+(m:Int))):=Dt
 have h48:=growslice_fits hg hb
 have si:¬(281474976710656<Builtin.nextslicecap (n+m) c*inf.bytes):=Dt
 simp[Builtin.append_,Jm ht,sizeOf,typeInfo,zeroValue,hi,hz,Builtin.lenOf,h1,h63',si,Question.forced,ho,hn,newRow,grownCap]
 congr 1
 congr 1
 apply Array.ext'
 simp
theorem d03{T ty e:TypeId}{inf:TypeInfo}(ht:P.underlying T=some (.slice e))(hi:P.info? e=some inf){T0:TypeId}
 {b o:Nat} {vs:List Value} {a':Option Addr} {n m k c:Nat} {news:List Value} (hh:w.heap[b]?=some (.cells vs.toArray T0 (0,0))) (hn:(Builtin.firstCells inf.size m (.slice a' m k)).run P w=.ok news.toArray w)
 (hg:n+m≤c) (hl:o+n*inf.size+news.length≤vs.length) (h1:∀u∈news,u.oneCell'=true):
 (Builtin.append_ #[T,T] ty #[.slice (some ⟨b,o,none⟩) n c,.slice a' m k]).run P w=.ok (.slice (some ⟨b,o,none⟩) (n+m) c) (putRow w b (over vs (o+n*inf.size) news) T0):=by
 have hs:=b2k (P:=P) b (o+n*inf.size) T0 news w vs 0 hh Dt h1
 rw[Kz]at hs
 simp[Builtin.append_,Jm ht,sizeOf,typeInfo,hi,Builtin.lenOf,hg,hn,Ke,hs]
theorem b8j{T ty e:TypeId}{inf:TypeInfo}(ht:P.underlying T=some (.slice e))(hi:P.info? e=some inf){a a':Option Addr}{k:Nat}(hn:(Builtin.firstCells inf.size 0 (.slice a' 0 k)).run P w=.ok #[] w):
 (Builtin.append_ #[T,T] ty #[.slice a 0 0,.slice a' 0 k]).run P w=.ok (.slice a 0 0) w:=by
 cases a<;>simp[Builtin.append_,Jm ht,sizeOf,typeInfo,hi,Builtin.lenOf,hn,storeCells]
theorem d7s(h:Own B0 X A w μ ownN){k:Nat}{e:TypeId}{sz:Nat}{f:Nat→List SV}(hk:μ k=none)(cx:ownN[k]?=some (.row e sz 0 f none)){a:Option Addr}:
 Own B0 X A w (μ.set k (.slice a 0 0)) ownN∧Keeps w w (held A μ) (held A (μ.set k (.slice a 0 0))) μ (μ.set k (.slice a 0 0)):=by
 have c8:Keeps w w (held A μ) (held A (μ.set k (.slice a 0 0))) μ (μ.set k (.slice a 0 0)):=by
  refine⟨J2 _,fun _ _ _=>rfl,fun b hb hh=> ?_,fun j y hy=> ?_⟩
  ·rcases hh with hh|⟨j,y,hj,hy⟩
   ·exact .inl hh
   ·unfold Mu.set at hj
    split at hj
    ·cases hj;exact absurd hy d1a
    ·exact .inr ⟨j,y,hj,hy⟩
  ·unfold Mu.set
   split
   ·subst_vars;rw[hk]at hy;cases hy
   ·exact hy
 have old:∀j y b,Mu.set μ k (.slice a 0 0) j=some y→Has y b→μ j=some y:=by
  intro j y b hj hy
  unfold Mu.set at hj
  split at hj
  ·cases hj;exact absurd hy d1a
  ·exact hj
 refine⟨⟨fun j y hj=> ?_,fun j j' y y' b hj bh hy gm=>h.inj j j' y y' b (old j y b hj hy) (old j' y' b bh gm) hy gm,fun j y b hj hy=>h.rng j y b (old j y b hj hy) hy,h.bnd⟩,c8⟩
 by_cases e':j=k
 ·subst e'
  have:y=.slice a 0 0:=Ev
  subst this
  exact⟨_,cx,a,0,rfl,J2 _,F3,.inl rfl,fun i hi=>absurd hi (Je _),.inl rfl⟩
 ·have bh:μ j=some y:=by simpa[Mu.set,e']using hj
  obtain⟨bl',e1,hb⟩:=h.blk j y bh
  exact⟨bl',e1,hb.keep c8 (fun _ _=>rfl)⟩
theorem Own.more{own':List Blk}(h:Own B0 X A w μ own)(hs:∀(k:Nat) (bl:Blk),own[k]?=some bl→own'[k]?=some bl):Own B0 X A w μ own':=
 ⟨fun k x hx=>by obtain⟨bl,e,hb⟩:=h.blk k x hx;exact⟨bl,hs _ _ e,hb⟩,h.inj,h.rng,h.bnd⟩
theorem c2y{own:List Blk}{bl:Blk}(k:Nat)(b:Blk)(h:own[k]?=some b):(own++[bl])[k]?=some b:=by
 rw[J6 (Iz.1 h).1];exact h
theorem c74{w':World}{H':Nat→Prop}{μ':Mu}{sz n m:Nat}{f g:Nat→List SV}{us:List Value}{o:Nat}(hlf:∀i,i<n→(f i).length=sz∧(f i).all SV.pure=true)(hlg:∀i,i<m→(g i).length=sz∧(g i).all SV.pure=true)
 (hf:∀(i j:Nat) (s:SV) (v:Value),i<n→(f i)[j]?=some s→us[o+i*sz+j]?=some v→D w' H' μ' s v) (hg:∀(i j:Nat) (s:SV) (v:Value),i<m→(g i)[j]?=some s→us[o+(n+i)*sz+j]?=some v→D w' H' μ' s v):
 (∀i,i<n+m→((fun j=>if j<n then f j else g (j-n)) i).length=sz∧((fun j=>if j<n then f j else g (j-n)) i).all SV.pure=true)∧
   ∀(i j:Nat) (s:SV) (v:Value),i<n+m→((fun j=>if j<n then f j else g (j-n)) i)[j]?=some s→us[o+i*sz+j]?=some v→D w' H' μ' s v:=by
 refine⟨fun i hi=> ?_,fun i j s v hi hs hv=> ?_⟩
 ·show (if i<n then f i else g (i-n)).length=sz∧(if i<n then f i else g (i-n)).all SV.pure=true
  split
  ·exact hlf i ‹_›
  ·exact hlg _ Dt
 ·replace hs:(if i<n then f i else g (i-n))[j]?=some s:=hs
  split at hs
  ·exact hf i j s v ‹_› hs hv
  ·exact hg (i-n) j s v Dt hs (by rw[show n+(i-n)=i from Dt];exact hv)
end
section
variable {P : Program} {w : World} {μ : Mu} {B0 : Nat} {X A : Nat → Prop} {own ownN : List Blk}
theorem d2e{α:Type}{a b c:List α}{i:Nat}{v:α}(h:(a++b++c)[i]?=some v):(i<a.length→a[i]?=some v)∧(a.length≤i→i<a.length+b.length→b[i-a.length]?=some v):=by
 refine⟨fun hi=> ?_,fun h1 h2=> ?_⟩
 ·rwa[Li,J6 hi]at h
 ·rwa[Li,Jr h1,J6 Dt]at h
theorem b59{i j n sz:Nat}(hi:i<n)(hj:j<sz):i*sz+j<n*sz:=by
 have:i*sz+sz≤n*sz:=by rw[←Lt];exact Jt _ hi
 omega
theorem d39(hO:Own B0 X A w μ own)(hB:B0≤w.heap.size)(d3:μ own.length=none){T ty:TypeId}{x y:SV}{v u:Value}{pre:Prop}{k:Nat}{own':List Blk}{new:Bool}(hx:D w (held A μ) μ x v)(hy:D w (held A μ) μ y u)
 (he:c4k P own T x y=some (pre,k,own',new)) (hp:pre):
 ∃r w' μ',(Builtin.append_ #[T,T] ty #[v,u]).run P w=.ok r w'∧D w' (held A μ') μ' (.osl k) r∧
  ((new=true∧After B0 X A w w' μ μ' own'∧∀j,j≠own.length→μ' j=μ j)∨(new=false∧After' [k] B0 X A w w' μ μ' own'∧∀j,j≠k→μ' j=μ j)):=by
 simp only[c4k,J3]at he
 obtain⟨e,hT,inf,hi,z,hz,⟨m,g⟩,Pr,he⟩:=he
 have ht:=b0y hT
 split at he
 rotate_left
 ·cases he
 rename_i sj
 obtain⟨nw,dg,sj⟩:=sj
 obtain⟨inf',zv,b7,m6,rfl,nz⟩:=b3p (w:=w) (H:=held A μ) (μ:=μ) hz
 rw[hi]at b7
 cases b7
 have jk:zv.cells.size=inf.size:=Fj
 have fi:∀v∈zv.cells.toList,v.oneCell'=true:=b3k nz sj
 obtain⟨a',c',news,rfl,su,Ps,fq,sw,fb,Pu,zu⟩:=c6i hO (fun _ _ h=>h) hy Pr
 have Nb:(Builtin.firstCells inf.size m (.slice a' m c')).run P w=.ok news.toArray w:=b1k fq Pu
 have fe:(Builtin.firstCells inf.size m (.slice a' m c')).run P w.drew=.ok news.toArray w.drew:=b1k fq Pu
 unfold d2g at he
 split at he
 ·-- nil
  simp only[Ib]at he
  obtain⟨rfl,rfl,rfl,rfl⟩:=he
  obtain⟨p9,hb⟩:=hp
  cases hx
  have gp:Own B0 X A w μ (own++[.row e inf.size m g none]):=hO.more c2y
  have cx:(own++[Blk.row e inf.size m g none])[own.length]?=some (.row e inf.size m g none):=Dv
  rcases Jx m with h0|h0
  ·subst h0
   obtain rfl:news=[]:=Kd (by simpa using fq)
   obtain⟨o1,o2⟩:=d7s gp d3 cx (a:=none)
   exact Cz
  ·have hr:=b6d (P:=P) (w:=w) (ty:=ty) ht hi m6 (a:=none) (a':=a') (n:=0) (m:=m) (k:=c') (c:=0) (olds:=[]) (news:=news) (by simp[Builtin.firstCells]) fe Dt Dt G3
   simp only[Kf,List.nil_append]at hr
   have wb:=gp.drew
   have fw:=grownCap_ge w m 0 e
   have fx:=grownCap_le_maxLen w m 0 e Ep
   obtain⟨o1,o2⟩:=c2k (x:=.slice (some ⟨w.heap.size,0,none⟩) m (grownCap w m 0 e)) wb hB d3 cx (.cells (news++(Builtin.zeroCells zv.cells (grownCap w m 0 e-m)).toList).toArray e) (fun b hb=>(b5i Dt).1 hb) (fun μ' _ c8=>by
    refine⟨_,_,rfl,fw,fx,.inl rfl,fb,.inr ⟨w.heap.size,0,_,Dt,rfl,Lr w.drew _,?_,fun v hv=> ?_,fun i j s v b7 hs hv=> ?_⟩⟩
    ·simp only[Jj,fq,Kr,size_zeroCells,jk,←Kv,Kf]
     rw[show m+(grownCap w m 0 e-m)=grownCap w m 0 e from Dt]
     exact C0
    ·rcases Jf.1 hv with hv|hv
     ·exact sw v hv
     ·exact b36 fi _ v hv
    ·have hj:j<inf.size:=G4
     rw[Kf,J6 (by rw[fq];exact b59 b7 hj)]at hv
     exact((zu i j s v b7 hs hv).keep Keeps.drew).keep c8)
   refine⟨_,_,_,hr,.osl Ec,.inl ⟨rfl,⟨o1,Fr.drew.trans (Fr.alloc _ hB),?_⟩,fun j hj=>Em⟩⟩
   exact⟨o2.size,o2.block,o2.less,o2.own⟩
 ·-- a view without room
  rename_i sz n f c
  split at he
  rotate_left
  ·cases he
  rename_i bk
  subst bk
  simp only[Ib]at he
  obtain⟨rfl,rfl,rfl,rfl⟩:=he
  obtain⟨pd,f7,p9,hb⟩:=hp
  obtain⟨c,rfl⟩:∃c',c=some c':=by
   cases c with
   |none=>exact pd.elim
   |some c=>exact⟨c,rfl⟩
  replace pd:n=c:=pd
  obtain⟨a,c0,olds,rfl,hnc0,hcx0,mz,wc,dq,hor,Nh⟩:=c6i hO (fun _ _ h=>h) hx (sz:=inf.size) (n:=n) (f:=f) (by simp[c0i])
  have Pv:c0=n:=by
   cases hx with
   |sl a b o m g hm hx hc h8 hl hd=>
    rcases hc with hc|hc
    ·cases hc
    ·cases hc;exact pd.symm
  subst Pv
  have gp:Own B0 X A w μ (own++[.row e inf.size (c0+m) (fun j=>if j<c0 then f j else g (j-c0)) none]):=hO.more c2y
  have cx:(own++[Blk.row e inf.size (c0+m) (fun j=>if j<c0 then f j else g (j-c0)) none])[own.length]?=some (.row e inf.size (c0+m) (fun j=>if j<c0 then f j else g (j-c0)) none):=Dv
  rcases Jx m with h0|h0
  ·subst h0
   obtain rfl:c0=0:=Dt
   obtain rfl:news=[]:=Kd (by simpa using fq)
   obtain⟨o1,o2⟩:=d7s gp d3 cx (a:=a)
   exact Cz
  ·have Ni:(Builtin.firstCells inf.size c0 (.slice a c0 c0)).run P w.drew=.ok olds.toArray w.drew:=b1k mz hor
   have hr:=b6d (P:=P) (w:=w) (ty:=ty) ht hi m6 (olds:=olds) (news:=news) Ni fe Dt p9 hb
   have wb:=gp.drew
   have fw:=grownCap_ge w (c0+m) c0 e
   have fx:=grownCap_le_maxLen w (c0+m) c0 e Ep
   obtain⟨o1,o2⟩:=c2k (x:=.slice (some ⟨w.heap.size,0,none⟩) (c0+m) (grownCap w (c0+m) c0 e)) wb hB d3 cx (.cells (olds++news++(Builtin.zeroCells zv.cells (grownCap w (c0+m) c0 e-(c0+m))).toList).toArray e) (fun b hb=>(b5i Dt).1 hb) (fun μ' _ c8=>by
    have d7:=c74 (w':=w.drew.alloc (.cells (olds++news++(Builtin.zeroCells zv.cells (grownCap w (c0+m) c0 e-(c0+m))).toList).toArray e)) (H':=held A μ') (μ':=μ') (o:=0) (us:=olds++news++(Builtin.zeroCells zv.cells (grownCap w (c0+m) c0 e-(c0+m))).toList) dq fb
     (fun i j s v b7 hs hv=>by
       have hj:j<inf.size:=Gs
       have h9:=b59 b7 hj
       have dm:=(d2e hv).1 G5
       rw[Kf]at dm
       exact((Nh i j s v b7 hs dm).keep Keeps.drew).keep c8)
     (fun i j s v b7 hs hv=>by
       have hj:j<inf.size:=G4
       have h9:=b59 b7 hj
       have mj:(c0+i)*inf.size=c0*inf.size+i*inf.size:=Kv _ _ _
       have:=(d2e hv).2 G5 (by rw[mz,fq];omega)
       rw[mz,show 0+(c0+i)*inf.size+j-c0*inf.size=i*inf.size+j from Dt]at this
       exact((zu i j s v b7 hs this).keep Keeps.drew).keep c8)
    refine⟨_,_,rfl,fw,fx,.inl rfl,d7.1,.inr ⟨w.heap.size,0,_,Dt,rfl,Lr w.drew _,?_,fun v hv=> ?_,d7.2⟩⟩
    ·simp only[Jj,mz,fq,Kr,size_zeroCells,jk,←Kv,Kf]
     rw[show c0+m+(grownCap w (c0+m) c0 e-(c0+m))=grownCap w (c0+m) c0 e from Dt]
     exact C0
    ·rcases Jf.1 hv with hv|hv
     ·rcases Jf.1 hv with hv|hv
      ·exact wc v hv
      ·exact sw v hv
     ·exact b36 fi _ v hv)
   refine⟨_,_,_,hr,.osl Ec,.inl ⟨rfl,⟨o1,Fr.drew.trans (Fr.alloc _ hB),?_⟩,fun j hj=>Em⟩⟩
   exact⟨o2.size,o2.block,o2.less,o2.own⟩
 ·rename_i k0
  split at he
  rotate_left
  ·cases he
  rename_i e' sz n f c hk
  split at he
  rotate_left
  ·cases he
  rename_i qm
  obtain⟨rfl,rfl⟩:=qm
  simp only[Ib]at he
  obtain⟨rfl,rfl,rfl,rfl⟩:=he
  obtain⟨p9,hb⟩:=hp
  cases hx with
  |osl h=>
   obtain⟨bl,e1,b6⟩:=hO.blk _ _ h
   rw[hk]at e1
   cases e1
   obtain⟨a,cap,e2,pd,ve,j7,dq,b9⟩:=b6
   cases e2
   rename_i cap a
   have grow:cap<n+m→∀(olds:List Value),olds.length=n*inf.size→(∀v∈olds,v.oneCell'=true)→(Builtin.firstCells inf.size n (.slice a n cap)).run P w.drew=.ok olds.toArray w.drew→
    (∀(i j:Nat) (s:SV) (v:Value),i<n→(f i)[j]?=some s→olds[i*inf.size+j]?=some v→D w (held A μ) μ s v)→
    ∃r w' μ',(Builtin.append_ #[T,T] ty #[.slice a n cap,.slice a' m c']).run P w=.ok r w'∧D w' (held A μ') μ' (.osl k0) r∧
     ((false=true∧After B0 X A w w' μ μ' ((own.map (Blk.kill [k0])).set k0 (.row e' inf.size (n+m) (fun j=>if j<n then f j else g (j-n)) (f8w c (n+m))))∧∀j,j≠own.length→μ' j=μ j)∨
       (false=false∧After' [k0] B0 X A w w' μ μ' ((own.map (Blk.kill [k0])).set k0 (.row e' inf.size (n+m) (fun j=>if j<n then f j else g (j-n)) (f8w c (n+m))))∧∀j,j≠k0→μ' j=μ j)):=by
    intro hg olds mz wc Ni Nh
    have hr:=b6d (P:=P) (w:=w) (ty:=ty) ht hi m6 (olds:=olds) (news:=news) Ni fe hg p9 hb
    have fw:=grownCap_ge w (n+m) cap e'
    have fx:=grownCap_le_maxLen w (n+m) cap e' Ep
    have ha:=c38 (w':=w.drew.alloc (.cells (olds++news++(Builtin.zeroCells zv.cells (grownCap w (n+m) cap e'-(n+m))).toList).toArray e')) (y:=.slice (some ⟨w.heap.size,0,none⟩) (n+m) (grownCap w (n+m) cap e'))
     (bl:=.row e' inf.size (n+m) (fun j=>if j<n then f j else g (j-n)) (f8w c (n+m))) hO hB h ⟨_,_,_,rfl⟩ ⟨_,_,_,rfl⟩
     (.inr ⟨w.heap.size,b1z Dt,J2 _,Dv,hB⟩) Dv (fun b r9 _=>Lz w.drew _ b r9) rfl rfl rfl (fun c8=>by
       have d7:=c74 (w':=w.drew.alloc (.cells (olds++news++(Builtin.zeroCells zv.cells (grownCap w (n+m) cap e'-(n+m))).toList).toArray e'))
        (H':=held A (μ.set k0 (.slice (some ⟨w.heap.size,0,none⟩) (n+m) (grownCap w (n+m) cap e')))) (μ':=μ.set k0 (.slice (some ⟨w.heap.size,0,none⟩) (n+m) (grownCap w (n+m) cap e'))) (o:=0) (us:=olds++news++(Builtin.zeroCells zv.cells (grownCap w (n+m) cap e'-(n+m))).toList) dq fb
        (fun i j s v b7 hs hv=>by
          have hj:j<inf.size:=Gs
          have h9:=b59 b7 hj
          have dm:=(d2e hv).1 G5
          rw[Kf]at dm
          exact b0k c8 (Nh i j s v b7 hs dm) (J4.1 (dq i b7).2 s (J0 hs)))
        (fun i j s v b7 hs hv=>by
          have hj:j<inf.size:=G4
          have h9:=b59 b7 hj
          have mj:(n+i)*inf.size=n*inf.size+i*inf.size:=Kv _ _ _
          have:=(d2e hv).2 G5 (by rw[mz,fq];omega)
          rw[mz,show 0+(n+i)*inf.size+j-n*inf.size=i*inf.size+j from Dt]at this
          exact b0k c8 (zu i j s v b7 hs this) (J4.1 (fb i b7).2 s (J0 hs)))
       refine⟨_,_,rfl,fw,fx,.inl (f6d j7 Dt),d7.1,.inr ⟨w.heap.size,0,_,Dt,rfl,Lr w.drew _,?_,fun v hv=> ?_,d7.2⟩⟩
       ·simp only[Jj,mz,fq,Kr,size_zeroCells,jk,←Kv,Kf]
        rw[show n+m+(grownCap w (n+m) cap e'-(n+m))=grownCap w (n+m) cap e' from Dt]
        exact C0
       ·rcases Jf.1 hv with hv|hv
        ·rcases Jf.1 hv with hv|hv
         ·exact wc v hv
         ·exact sw v hv
        ·exact b36 fi _ v hv)
    exact D3
   rcases b9 with rfl|⟨b,o,vs,c7,rfl,hh,ho,h1,hd⟩
   ·obtain rfl:n=0:=Dt
    rcases Jx m with h0|h0
    ·subst h0
     obtain rfl:news=[]:=Kd (by simpa using fq)
     have ha:=c38 (w':=w) (y:=.slice a 0 0) (bl:=.row e' inf.size (0+0) (fun j=>if j<0 then f j else g (j-0)) (f8w c (0+0))) hO hB h ⟨_,_,_,rfl⟩ ⟨_,_,_,rfl⟩ (.inl rfl) (J2 _) (fun _ _ _=>rfl) rfl rfl rfl
      (fun _=>⟨a,0,rfl,J2 _,F3,d3t j7,fun i hi=>absurd hi (Je _),.inl rfl⟩)
     exact⟨_,w,_,b8j ht hi Nb,.osl Ec,.inr ⟨rfl,ha,fun j hj=>Em⟩⟩
    ·exact grow Dt [] Dv Dv (b1k (w:=w.drew) Dv (fun h=>absurd h (Ln _))) (fun i j s v b7=>absurd b7 (Je _))
   ·by_cases gw:n+m≤cap
    ·have bj:(n+m)*inf.size≤cap*inf.size:=Jt _ gw
     have wd:(n+m)*inf.size=n*inf.size+m*inf.size:=Kv _ _ _
     have hr:=d03 (P:=P) (ty:=ty) (o:=o) ht hi hh Nb gw G6 sw
     have h9:=b29 hh
     have ha:=c38 (w':=putRow w b (over vs (o+n*inf.size) news) e') (y:=.slice (some ⟨b,o,none⟩) (n+m) cap)
      (bl:=.row e' inf.size (n+m) (fun j=>if j<n then f j else g (j-n)) (f8w c (n+m))) hO hB h ⟨_,_,_,rfl⟩ ⟨_,_,_,rfl⟩ (.inl ((b1z c7).trans (b1z c7).symm)) Gn (fun i _ bb=>b63 (fun e=>bb (by subst e;exact b1z c7))) rfl rfl rfl (fun c8=>by
        have d7:=c74 (w':=putRow w b (over vs (o+n*inf.size) news) e') (H':=held A (μ.set k0 (.slice (some ⟨b,o,none⟩) (n+m) cap))) (μ':=μ.set k0 (.slice (some ⟨b,o,none⟩) (n+m) cap)) (o:=o)
         (us:=over vs (o+n*inf.size) news) dq fb
         (fun i j s v b7 hs hv=>by
           have hj:j<inf.size:=Gs
           have h9:=b59 b7 hj
           rw[b22 _ _ _ _ G6,Iy Dt]at hv
           exact b0k c8 (hd i j s v b7 hs hv) (J4.1 (dq i b7).2 s (J0 hs)))
         (fun i j s v b7 hs hv=>by
           have hj:j<inf.size:=G4
           have h9:=b59 b7 hj
           have mj:(n+i)*inf.size=n*inf.size+i*inf.size:=Kv _ _ _
           rw[b22 _ _ _ _ G6,Iw G6,show o+(n+i)*inf.size+j-(o+n*inf.size)=i*inf.size+j from Dt]at hv
           exact b0k c8 (zu i j s v b7 hs hv) (J4.1 (fb i b7).2 s (J0 hs)))
        exact⟨_,_,rfl,gw,ve,d3t j7,d7.1,.inr ⟨b,o,_,c7,rfl,b53 h9,Gq,b7f _ _ _ h1 sw,d7.2⟩⟩)
     exact D3
    ·have bj:n*inf.size≤cap*inf.size:=Jt _ pd
     refine grow Dt ((vs.drop o).take (n*inf.size)) E5 (fun v hv=>h1 v (Mc (Lu hv))) ?_ (fun i j s v b7 hs hv=>hd i j s v b7 hs (by rw[Kb];exact(b07 hv).2))
     refine b1k (w:=w.drew) E5 (fun _=>⟨_,rfl,rfl,fun j u hu=> ?_⟩)
     rw[Ke,b62 (w:=w.drew) hh]
     exact(b07 hu).2
 ·cases he
def c6e(P:Program)(own:List Blk)(T:TypeId)(k:Nat)(lo hi:Option (Option SV)):Option (Prop×List Blk):=
 (b2s P T).bind fun e=>match own[k]? with
 |some (.row e' sz n f c)=>(c52 0 lo).bind fun l=>(c52 n hi).bind fun h=>
  if b10 P e=some sz then some (0≤l∧l≤h∧h≤n,(own.map (Blk.kill [k])).set k (.row e' sz (h-l).toNat (fun j=>f (l.toNat+j)) (c.map fun m=>m-l.toNat)))else none
 |_=>none
theorem d26(hO:Own B0 X A w μ own)(hB:B0≤w.heap.size){T:TypeId}{k:Nat}{v:Value}{lo hi:Option (Option SV)}{vl vh:Option Value}{pre:Prop}{own':List Blk}(hx:D w (held A μ) μ (.osl k) v)
 (w9:DO w (held A μ) μ lo vl) (wa:DO w (held A μ) μ hi vh) (he:c6e P own T k lo hi=some (pre,own')) (hp:pre):
 ∃r μ',(Instr.sliceAt T v vl vh none).run P w=.ok r w∧D w (held A μ') μ' (.osl k) r∧After' [k] B0 X A w w μ μ' own'∧own'.length=own.length∧k<own.length∧∀j,j≠k→μ' j=μ j:=by
 have bnd:∀{d:Int} {o:Option (Option SV)} {u:Option Value} {n:Int},DO w (held A μ) μ o u→c52 d o=some n→(u=none∧o=none∧n=d)∨∃k,u=some (.int k n)∧o.isNone=false:=by
  intro d o u n hd hb
  unfold c52 at hb
  split at hb
  ·cases hb
   cases u with
   |none=>exact .inl ⟨rfl,rfl,rfl⟩
   |some _=>simp[DO]at hd
  ·cases hb
   cases u with
   |none=>simp[DO]at hd
   |some u=>simp only[DO]at hd;cases hd;exact .inr ⟨_,rfl,rfl⟩
  ·cases hb
 simp only[c6e,J3]at he
 obtain⟨e,hT,he⟩:=he
 have ht:=b0y hT
 have ji:P.elem T=e:=by simp[Program.elem,ht]
 split at he
 rotate_left
 ·cases he
 rename_i e' sz n f c hk
 simp only[J3]at he
 obtain⟨l,jt,h,sf,he⟩:=he
 split at he
 rotate_left
 ·cases he
 rename_i bk
 simp only[Ib]at he
 obtain⟨rfl,rfl⟩:=he
 obtain⟨h0,h1,h2⟩:=hp
 simp only[b10,J1]at bk
 obtain⟨inf,bn,rfl⟩:=bk
 cases hx with
 |osl we=>
  obtain⟨bl,e1,b6⟩:=hO.blk _ _ we
  rw[hk]at e1
  cases e1
  obtain⟨a,m,e2,f7,ff,hc,dq,b9⟩:=b6
  cases e2
  rename_i m a
  have ny:(Instr.sliceBounds true n m vl vh none).run P w=.ok (l.toNat,h.toNat,m) w:=by
   rcases bnd w9 jt with⟨rfl,_,rfl⟩|⟨kl,rfl,_⟩<;>rcases bnd wa sf with⟨rfl,_,rfl⟩|⟨kh,rfl,_⟩
   ·simp[Instr.sliceBounds]
   ·simp[Instr.sliceBounds,Kt w kh h m _ Dt Dt]
   ·simp[Instr.sliceBounds,Kt w kl l n _ Dt Dt]
   ·have:=Kt (P:=P) w kl l h.toNat .sliceB Dt Dt
    simp[Instr.sliceBounds,Kt w kh h m _ Dt Dt,this]
  have bj:l.toNat≤m:=Dt
  refine⟨.slice (if m=l.toNat then a else a.map (·.add (l.toNat*inf.size))) (h.toNat-l.toNat) (m-l.toNat),μ.set k (.slice (if m=l.toNat then a else a.map (·.add (l.toNat*inf.size))) (h.toNat-l.toNat) (m-l.toNat)),?_,.osl Ec,b8t hO hB we ⟨_,_,_,rfl⟩ ⟨_,_,_,rfl⟩ ?_ (J2 _) (fun _ _ _=>rfl) rfl rfl rfl (fun c8=> ?_),Dv,(Iz.1 hk).1,fun j hj=>Em⟩
  ·simp only[Instr.sliceAt,Ic,Jm ht,Instr.slice,ny,b0h bn]
  ·by_cases q:m=l.toNat
   ·left
    rw[q,Lv]
    exact b4z
   ·right;left
    rw[Iy q]
    rcases b9 with h3|⟨b,o,vs,c7,rfl,hh,ho,mh,hd⟩
    ·omega
    ·simp only[K7,Ke]
     exact(b1z Dt).trans (b1z c7).symm
  ·have eh:(h-l).toNat=h.toNat-l.toNat:=Dt
   rw[eh]
   refine⟨if m=l.toNat then a else a.map (·.add (l.toNat*inf.size)),m-l.toNat,rfl,Dt,Dt,?_,fun i hi=>dq _ Dt,?_⟩
   ·rcases hc with rfl|rfl
    ·exact .inl rfl
    ·exact .inr rfl
   ·by_cases q:m=l.toNat
    ·left;omega
    ·right
     rcases b9 with h3|⟨b,o,vs,c7,rfl,hh,ho,mh,hd⟩
     ·omega
     ·have mj:(m-l.toNat)*inf.size=m*inf.size-l.toNat*inf.size:=Nat.sub_mul _ _ _
      have hmle:l.toNat*inf.size≤m*inf.size:=Jt _ bj
      refine⟨b,o+l.toNat*inf.size,vs,Dt,by rw[Iy q];simp[Ke],hh,Dt,mh,fun i j s v hi hs hv=> ?_⟩
      refine b0k c8 (hd (l.toNat+i) j s v Dt hs ?_) (J4.1 (dq _ Dt).2 s (J0 hs))
      rwa[show o+(l.toNat+i)*inf.size+j=o+l.toNat*inf.size+i*inf.size+j from by rw[Kv];omega]
end
def c3p:List IntKind→List SV→Option (List Int)
 | [],[]=>some []
 |k::ks,.int k' n::r=>if k=k' then(c3p ks r).map (n:: ·)else none
 |_,_=>none
def f4p:KT→SV→Option (List Int)
 |.int1 k,.int k' n=>if k=k' then some [n]else none
 |.ints ks,.agg cs=>c3p ks cs
 |.str,.con (.string s)=>some (s.data.toList.map fun b=>(b.toNat:Int))
 |_,_=>none
section
variable {w : World} {H : Nat → Prop} {μ : Mu}
theorem d72:∀{ks:List IntKind} {cs:List SV} {q:List Int} {vs:List Value},c3p ks cs=some q→vs.length=cs.length→(∀(i:Nat) (s:SV) (v:Value),cs[i]?=some s→vs[i]?=some v→D w H μ s v)→
 vs=b13 ks q∧q.length=ks.length:=by
 intro ks
 induction ks with
 |nil=>
  intro cs q vs h hl _
  match cs,h with
  | [],h=>simp[c3p]at h;subst h;simp at hl;subst hl;exact⟨rfl,rfl⟩
  |s::_,h=>simp[c3p]at h
 |cons k ks ih=>
  intro cs q vs h hl hd
  match cs,h with
  | [],h=>simp[c3p]at h
  |.int k' n::r,h=>
   simp only[c3p]at h
   split at h
   ·rename_i e
    subst e
    simp only[J1]at h
    obtain⟨q',hq,rfl⟩:=h
    match vs,hl with
    |v::vs,hl=>
     have h0:=hd 0 _ v rfl rfl
     cases h0
     obtain⟨e1,e2⟩:=ih (vs:=vs) hq E9 (fun i s u hs hu=>hd (i+1) s u Fm Fg)
     exact⟨by simp[b13,←e1],by simp[e2]⟩
   ·cases h
  |.bool _::_,h|.con _::_,h|.own _ _::_,h|.osl _::_,h|.oel _ _ _ _::_,h|.sl _ _ _ _::_,h|.rel _ _ _ _ _::_,h|.agg _::_,h|.tup _::_,h|.clo _ _::_,h|.omp _::_,h|.mp _ _ _ _::_,h|.any::_,h=>simp[c3p]at h
theorem d7a(s:ByteArray):j1p (s.data.toList.map fun b=>(b.toNat:Int))=s:=by
 obtain⟨⟨l⟩⟩:=s
 simp only[j1p,M6]
 congr 1
 apply Lc
 induction l with
 |nil=>rfl
 |cons a l ih=>simp[ih]
theorem b97{K:KT}{s:SV}{v:Value}{q:List Int}(h:f4p K s=some q)(hd:D w H μ s v):v=kv K q∧okq K q:=by
 unfold f4p at h
 split at h
 ·split at h
  ·rename_i e
   cases h;subst e;cases hd
   exact C3
  ·cases h
 ·cases hd with
  |agg vs hl hD=>
   obtain⟨e1,e2⟩:=d72 h hl hD
   exact⟨by rw[e1];rfl,e2⟩
 ·cases hd
  simp only[Jh]at h
  subst h
  refine⟨by simp only[kv,d7a],fun n hn=> ?_⟩
  simp only[Ja]at hn
  obtain⟨b,_,rfl⟩:=hn
  have:=b.toNat_lt
  omega
 ·cases h
end
section
variable {P : Program} {w : World}
theorem c8g{r:Nat}{K:KT}{ag:Bool}{has:List Int→Bool}{g:List Int→List Value}{key:TypeId}(hk:KLaw P key K)(h:MapAt w r K ag has g){q:List Int}(hq:okq K q):
 ∃es clock,w.heap[r]?=some (.map es clock)∧(∀e∈es.toList,∃q,e.key=kv K q∧okq K q∧has q=true∧e.val=mkV ag (g q))∧es.toList.Pairwise (fun a b=>a.key≠b.key)∧(∀q,has q=true→okq K q∧∃e∈es.toList,e.key=kv K q)∧
  ∃x,(Instr.findKey key (kv K q) es.toList).run P w=.ok x w∧((x=none∧has q=false∧∀e∈es.toList,e.key≠kv K q)∨∃(j:Nat) (e:MapEntry),x=some (j,mkV ag (g q))∧has q=true∧es.toList[j]?=some e∧e.key=kv K q):=by
 obtain⟨es,clock,he,h1,h2,h3⟩:=h.ex
 refine⟨es,clock,he,h1,h3,h2,?_⟩
 obtain⟨x,hr,hx⟩:=hk.find w q es.toList hq (fun e hm=>by obtain⟨q',e1,e2,_⟩:=h1 e hm;exact⟨q',e2,e1⟩)
 refine⟨x,hr,?_⟩
 rcases hx with⟨rfl,hn⟩|⟨j,e,rfl,hj,pf⟩
 ·refine .inl ⟨rfl,?_,hn⟩
  cases hb:has q with
  |false=>rfl
  |true=>
   obtain⟨_,e,hm,pf⟩:=h2 q hb
   exact absurd pf (hn e hm)
 ·obtain⟨q',e1,e2,e3,e4⟩:=h1 e (J0 hj)
  have:q'=q:=hk.inj q' q e2 hq (e1.symm.trans pf)
  subst this
  exact .inr ⟨j,e,by rw[e4],e3,hj,pf⟩
theorem d2b{r:Nat}{es:Array MapEntry}{clock:Nat}(h:w.heap[r]?=some (.map es clock)):(getObj r).run P w=.ok (.map es clock) w:=by
 simp[getObj,Sem.run,h]
theorem c8p{T key elem:TypeId}{r:Nat}{K:KT}{ag:Bool}{has:List Int→Bool}{g:List Int→List Value}{q:List Int}{ok:Bool}(hT:P.underlying T=some (.map key elem))(hk:KLaw P key K)(h:MapAt w r K ag has g)(hq:okq K q)
 {z:Value} (hz:has q=false→(zeroValue elem).run P w=.ok z w):
 (Instr.lookup T (.map (some r)) (kv K q) ok).run P w=.ok (if ok then .tuple #[if has q then mkV ag (g q)else z,.bool (has q)]else if has q then mkV ag (g q)else z) w:=by
 obtain⟨es,clock,he,_,_,_,x,hr,hx⟩:=c8g hk h hq
 simp only[Instr.lookup,Ic,Jm hT,d2b he,hk.check w es.isEmpty q hq,hr]
 rcases hx with⟨rfl,hh,_⟩|⟨j,e,rfl,hh,_⟩
 ·simp only[hh,Ic,hz hh,Ij]
 ·simp only[hh,Ic,K5]
def b3e(has:List Int→Bool)(q:List Int):List Int→Bool:=fun p=>decide (p=q)||has p
def putObj(w:World)(r:Nat)(o:Obj):World:={w with heap:=w.heap.setIfInBounds r o}
theorem c7f{r:Nat}{o:Obj}(h:r<w.heap.size):(putObj w r o).heap[r]?=some o:=by simp[putObj,h]
theorem b26{r i:Nat}{o:Obj}(h:i≠r):(putObj w r o).heap[i]?=w.heap[i]?:=by simp[putObj,Ne.symm h]
theorem b3x{r:Nat}{o:Obj}:(putObj w r o).heap.size=w.heap.size:=by simp[putObj]
theorem c8z{r:Nat}{es:Array MapEntry}{clock:Nat}{o':Obj}(h:w.heap[r]?=some (.map es clock)):(setObj r o').run P w=.ok () (putObj w r o'):=by
 simp[setObj,Sem.run,putObj,h]
theorem c1y{T key elem:TypeId}{r:Nat}{K:KT}{ag:Bool}{has:List Int→Bool}{g:List Int→List Value}{q:List Int}{us:List Value}{v:Value}(hv:v=mkV ag us)(hT:P.underlying T=some (.map key elem))(hk:KLaw P key K)(h:MapAt w r K ag has g)(hq:okq K q):
 ∃o,(Instr.mapUpdate T (.map (some r)) (kv K q) v).run P w=.ok () (putObj w r o)∧MapAt (putObj w r o) r K ag (b3e has q) (fun p=>if p=q then us else g p):=by
 have h9:=h.lt
 obtain⟨es,clock,he,h1,h3,h2,x,hr,hx⟩:=c8g hk h hq
 subst hv
 rcases hx with⟨rfl,hh,hn⟩|⟨j,e,rfl,hh,hj,pf⟩
 ·refine⟨.map (es.push {key:=kv K q,val:=mkV ag us,born:=clock}) (clock+1),?_,⟨_,_,c7f h9,fun e hm=> ?_,fun p hp=> ?_,?_⟩⟩
  ·simp only[Instr.mapUpdate,Ir,Jm hT,d2b he,hk.check w false q hq,hr,c8z he]
  ·simp only[Array.toList_push,Jf,Jk]at hm
   rcases hm with hm|rfl
   ·obtain⟨p,e1,e2,e3,e4⟩:=h1 e hm
    have:p≠q:=fun ep=>hn e hm (by rw[e1,ep])
    exact D4
   ·exact⟨q,rfl,hq,by simp[b3e],Dv⟩
  ·simp only[b3e,Jy,Jz]at hp
   rcases hp with rfl|hp
   ·exact⟨hq,{key:=kv K p,val:=mkV ag us,born:=clock},Dv,rfl⟩
   ·obtain⟨a,e,hm,cm⟩:=h2 p hp
    exact⟨a,e,by simp[hm],cm⟩
  ·simp only[Array.toList_push]
   rw[List.pairwise_append]
   exact⟨h3,List.pairwise_singleton _ _,fun a ha b hb=>by simp at hb;subst hb;exact hn a ha⟩
 ·refine⟨.map (es.modify j fun e=>{e with key:=kv K q,val:=mkV ag us}) clock,?_,?_⟩
  ·have bh:es[j]?=some e:=Ek
   have bw:=hk.stays w q hq
   simp only[Instr.mapUpdate,Ir,Jm hT,d2b he,hk.check w false q hq,hr,bh,Ik,pf,bw,c8z he]
  ·have hl:(es.modify j fun e=>{e with key:=kv K q,val:=mkV ag us}).toList=es.toList.set j {e with key:=kv K q,val:=mkV ag us}:=by
    apply L8
    intro i
    rw[Kk,Kx,List.getElem?_set]
    have rb:j<es.toList.length:=(Iz.1 hj).1
    by_cases e1:j=i
    ·subst e1
     rw[Iw rfl,Iw rfl,Iw rb,←Kk,hj];rfl
    ·rw[Iy e1,Iy e1,Kk]
   have rn:(es.toList.set j {e with key:=kv K q,val:=mkV ag us}).map (·.key)=es.toList.map (·.key):=by
    apply L8
    intro i
    rw[Jv,Jv,List.getElem?_set]
    have rb:j<es.toList.length:=(Iz.1 hj).1
    by_cases e1:j=i
    ·subst e1
     rw[Iw rfl,Iw rb,hj];simp[pf]
    ·rw[Iy e1]
   have zw:(es.toList.map (·.key)).Pairwise (· ≠ ·):=L9.2 h3
   refine⟨_,_,c7f h9,fun e' hm=> ?_,fun p hp=> ?_,?_⟩
   ·rw[hl]at hm
    obtain⟨i,hi,eg⟩:=Jg.1 hm
    have b7:(es.toList.set j {e with key:=kv K q,val:=mkV ag us})[i]?=some e':=by rw[Iv hi,eg]
    rw[List.getElem?_set]at b7
    split at b7
    ·split at b7
     ·cases b7
      exact⟨q,rfl,hq,by simp[b3e],Dv⟩
     ·cases b7
    ·rename_i bb
     obtain⟨p,e1,e2,e3,e4⟩:=h1 e' (J0 b7)
     have:p≠q:=fun ep=>by
      subst ep
      have t5:i<es.toList.length:=(Iz.1 b7).1
      have rb:j<es.toList.length:=(Iz.1 hj).1
      have Pw:=K8.1 h3
      have ei:es.toList[i]=e':=(Iz.1 b7).2
      have ej:es.toList[j]=e:=(Iz.1 hj).2
      rcases Nat.lt_or_gt_of_ne bb with dv|dv
      ·exact Pw j i rb t5 dv (by rw[ei,ej,pf];exact e1.symm)
      ·exact Pw i j t5 rb dv (by rw[ei,ej,pf];exact e1)
     exact D4
   ·have Nj:okq K p∧∃e∈es.toList,e.key=kv K p:=by
     simp only[b3e,Jy,Jz]at hp
     rcases hp with rfl|hp
     ·exact h2 p hh
     ·exact h2 p hp
    obtain⟨a,e0,hm,t6⟩:=Nj
    have:kv K p∈(es.toList.set j {e with key:=kv K q,val:=mkV ag us}).map (·.key):=by rw[rn];exact Ja.2 ⟨e0,hm,t6⟩
    obtain⟨e1,t7,m7⟩:=Ja.1 this
    exact⟨a,e1,by rw[hl];exact t7,m7⟩
   ·rw[hl]
    exact L9.1 (by rw[rn];exact zw)
end
def g07(ρ:Operand→Option SV):Option Operand→Option (Option SV)
 |none=>none
 |some x=>some (ρ x)
def g0g(E:Env)(own:List Blk)(ρ:Operand→Option SV)(c:Call):Option (Prop×SV):=
 match c.callee with
 |.builtin b=>(c.args.toList.mapM ρ).bind fun xs=>c7q E.P own b c.argTypes.toList xs
 |_=>none
def f6m(own:List Blk):SV→Option (KT×Bool×(List Int→Bool)×(List Int→List SV))
 |.mp K ag has val=>some (K,ag,has,val)
 |.omp k=>match own[k]? with
  |some (.map K ag has val)=>some (K,ag,has,val)
  |_=>none
 |_=>none
def zAgg(P:Program)(T:TypeId):Option Bool:=(P.info? T).bind fun i=>i.zero.map fun z=>match z with
 |.agg _=>true
 |_=>false
def c4r(E:Env)(own:List Blk)(T:TypeId)(m i:SV)(ok:Bool):Option (Prop×SV):=
 match E.P.underlying T with
 |some (.map _ elem)=>(f6m own m).bind fun(K,ag,has,val)=>if E.kt T=some K∧b2n E.P elem=some ag∧zAgg E.P elem=some ag then
  (f4p K i).bind fun q=>(f4f E.P elem (val q)).map fun s=>(has q=false→b7p E.P elem=some (val q),if ok then .tup [s,.bool (has q)]else s)
  else none
 |_=>none
def zPtr(P:Program)(T:TypeId):Bool:=match (P.info? T).bind (·.zero)with
 |some (.pointer none)=>true
 |_=>false
def c6u(E:Env)(own:List Blk)(T:TypeId)(m i:SV)(ok:Bool):Option (Prop×SV):=
 match m with
 |.omp j=>match own[j]? with
  |some (.pmap K k has idx)=>match E.P.underlying T with
   |some (.map _ elem)=>if E.kt T=some K∧b2n E.P elem=some false∧zPtr E.P elem=true then
    (f4p K i).map fun q=>(True,if ok then .tup [.fp (has q) k (idx q) 0,.bool (has q)]else .fp (has q) k (idx q) 0)else none
   |_=>none
  |_=>c4r E own T m i ok
 |_=>c4r E own T m i ok
def d7p(P:Program)(T:TypeId)(x i:SV):Option (Prop×SV):=
 match i with
 |.int _ n=>match P.underlying T with
  |some (.array len e)=>match x with
   |.agg cs=>match b10 P e with
    |some sz=>if n.toNat<len∧cs.length=len*sz then(f4f P e ((cs.drop (n.toNat*sz)).take sz)).map fun s=>(0≤n,s)else none
    |none=>none
   |_=>none
  |some .string=>match x with
   |.con (.string s)=>some (0≤n∧n.toNat<s.size,.int .u8 (((s.data.toList.getD n.toNat 0).toNat:Nat):Int))
   |_=>none
  |_=>none
 |_=>none
def g18(P:Program)(own:List Blk)(b:BinOp)(T:TypeId):SV→SV→Option (Prop×SV)
 |.osl k,.con (.slice none 0 0)=>match own[k]?,P.underlying T with
  |some (.row _ _ n _ _),some (.slice _)=>match b with
   |.eql=>some (True,.ub (n=0) True)
   |.neq=>some (True,.ub True (n=0))
   |_=>none
  |_,_=>none
 |_,_=>none
def f9v(E:Env)(own:List Blk)(ρ:Operand→Option SV)(op:Op):Option (Prop×SV):=
 match op with
 |.move x=>(ρ x).map fun s=>(True,s)
 |.assign x=>(ρ x).map fun s=>(True,s)
 |.nilCheck x=>match ρ x with
  |some (.own k o)=>some (True,.own k o)
  |some (.oel k sz i o)=>some (True,.oel k sz i o)
  |some (.rel sz n f i o)=>some (True,.rel sz n f i o)
  |some (.clo f cs)=>some (True,.clo f cs)
  |_=>none
 |.load T x=>(ρ x).bind fun p=>c5x E.P own T p
 |.fieldAddr T x f=>(ρ x).bind fun p=>c0j E.P T f p
 |.field T x f=>(ρ x).bind fun p=>d7q E.P T f p
 |.indexAddr T x i=>(ρ x).bind fun p=>(ρ i).bind fun n=>b9u E.P own T p n
 |.binOp b T x y _=>(ρ x).bind fun s=>(ρ y).bind fun t=>match g18 E.P own b T s t with
  |some r=>some r
  |none=>f0n E b T s t
 |.unOp u _ x=>(ρ x).bind fun s=>evUn u s
 |.convert S T x=>(ρ x).bind fun s=>f86 E.P S T s
 |.extract x i=>(ρ x).bind fun s=>c5y s i
 |.build T parts=>(parts.toList.mapM fun(p:Nat×Operand)=>(ρ p.2).map fun s=>(p.1,s)).bind fun ps=>d8m E.P T ps
 |.slice T x lo hi mx=>(ρ x).bind fun s=>d65 E.P own T s (g07 ρ lo) (g07 ρ hi) (g07 ρ mx)
 |.makeFunc (.func f) first caps=>if first.isEmpty then(caps.toList.mapM ρ).map fun cs=>(True,.clo f cs)else none
 |.call c=>g0g E own ρ c
 |.index T x i=>(ρ x).bind fun s=>(ρ i).bind fun t=>d7p E.P T s t
 |.lookup T m i ok=>(ρ m).bind fun s=>(ρ i).bind fun t=>c6u E own T s t ok
 |_=>none
section
variable {E : Env} {w : World} {μ : Mu} {B0 : Nat} {X A : Nat → Prop} {own ownN : List Blk} {a : Act} {ρ : Operand → Option SV}
theorem b3n(hρ:∀(x:Operand) (s:SV),ρ x=some s→D w (held A μ) μ s (a.eval x)){xs:List Operand}{ss:List SV}(h:xs.mapM ρ=some ss):
 DL w (held A μ) μ ss (xs.map a.eval):=by
 obtain⟨h1,h2⟩:=b38 h
 refine⟨Eh,fun i s v hs hv=> ?_⟩
 simp only[Id]at hv
 obtain⟨x,hx,rfl⟩:=hv
 obtain⟨y,hy,e⟩:=h2 i x hx
 rw[hs]at hy
 cases hy
 exact hρ x s e
theorem d0e(hO:Own B0 X A w μ ownN)(ba:∀(k:Nat) (bl:Blk),own[k]?=some bl→ownN[k]?=some bl){b:Builtin}{ts:List TypeId}{ty:TypeId}{ss:List SV}{vs:List Value}{s:SV}{pre:Prop}{cs:Array Bool}
 (hD:DL w (held A μ) μ ss vs) (he:c7q E.P own b ts ss=some (pre,s)):∃r,(builtin b ts.toArray ty cs vs.toArray).run E.P w=.ok (.value r) w∧D w (held A μ) μ s r:=by
 unfold c7q at he
 split at he
 ·rename_i T x
  split at he
  ·rename_i e hT
   have hu:=b0y hT
   simp only[Ia]at he
   obtain⟨n,hn,rfl,rfl⟩:=he
   match vs,hD with
   | [v],hD=>
     obtain⟨ad,m,rfl,_,_⟩:=d88 hO ba (hD.2 0 x v rfl rfl) hn
     refine⟨_,?_,.int⟩
     simp[builtin,Builtin.len_,Jm hu,goInt]
   | [],hD=>exact absurd hD.1 Dv
   |_::_::_,hD=>exact absurd hD.1 Dv
  ·cases he
 ·rename_i T x
  split at he
  ·rename_i e hT
   have hu:=b0y hT
   simp only[Ia]at he
   obtain⟨n,hn,rfl,rfl⟩:=he
   match vs,hD with
   | [v],hD=>
     obtain⟨ad,m,rfl⟩:=d8h hO ba (hD.2 0 x v rfl rfl) hn
     refine⟨_,?_,.int⟩
     simp[builtin,Builtin.cap_,Jm hu,goInt]
   | [],hD=>exact absurd hD.1 Dv
   |_::_::_,hD=>exact absurd hD.1 Dv
  ·cases he
 ·rename_i k a k' b
  cases he
  match vs,hD with
  | [u,v],hD=>
    have h1:=hD.2 0 _ u rfl rfl
    have h2:=hD.2 1 _ v rfl rfl
    cases h1;cases h2
    refine⟨_,?_,.int⟩
    simp[builtin,g4g]
  | [],hD=>exact absurd hD.1 Dv
  | [_],hD=>exact absurd hD.1 Dv
  |_::_::_::_,hD=>exact absurd hD.1 Dv
 ·rename_i k a k' b
  cases he
  match vs,hD with
  | [u,v],hD=>
    have h1:=hD.2 0 _ u rfl rfl
    have h2:=hD.2 1 _ v rfl rfl
    cases h1;cases h2
    refine⟨_,?_,.int⟩
    simp[builtin,g5v]
  | [],hD=>exact absurd hD.1 Dv
  | [_],hD=>exact absurd hD.1 Dv
  |_::_::_::_,hD=>exact absurd hD.1 Dv
 ·cases he
theorem d8a{P:Program}{H:Nat→Prop}{T:TypeId}{x i s:SV}{v u:Value}{pre:Prop}(hx:D w H μ x v)(hi:D w H μ i u)(he:d7p P T x i=some (pre,s))(hp:pre):∃r,(Instr.index T v u).run P w=.ok r w∧D w H μ s r:=by
 unfold d7p at he
 split at he
 rotate_left
 ·cases he
 rename_i k n
 cases hi
 split at he
 ·rename_i len e hu
  split at he
  rotate_left
  ·cases he
  rename_i cs
  split at he
  rotate_left
  ·cases he
  rename_i sz bk
  split at he
  rotate_left
  ·cases he
  rename_i hc
  obtain⟨hn,hl⟩:=hc
  simp only[Ia]at he
  obtain⟨s',hs,rfl,rfl⟩:=he
  simp only[b10,J1]at bk
  obtain⟨inf,bn,rfl⟩:=bk
  cases hx with
  |agg vs rk hD=>
   have mj:n.toNat*inf.size+inf.size≤len*inf.size:=by rw[←Lt];exact Jt _ hn
   obtain⟨d,w7,h⟩:=b55 (w:=w) (H:=H) (μ:=μ) (us:=(vs.drop (n.toNat*inf.size)).take inf.size) hs E5 (fun i s u hs hu=>hD _ _ _ (b07 hs).2 (b07 hu).2)
   have h1:c4v d=false→inf.size=1:=fun hb=>by
    rcases h with h|⟨_,u,jd,_⟩
    ·rw[h.1]at hb;cases hb
    ·have:=Lc List.length jd
     simp at this
     omega
   have wg:=b7h (w:=w) w7 bn vs (n.toNat*inf.size) Dt h1
   have hv:D w H μ s' (b4u P e ((vs.drop (n.toNat*inf.size)).take inf.size)):=by
    unfold b4u b2n
    rw[w7]
    rcases h with⟨ha,h⟩|⟨ha,u,jd,h⟩
    ·simp only[Ik,ha,K5];exact h
    ·simp only[Ik,ha,Ij,jd,List.getD_cons_zero];exact h
   refine⟨_,?_,hv⟩
   have h9:n<(len:Int):=Dt
   have c6:(0≤n∧n<(len:Int)):=⟨hp,h9⟩
   simp only[Instr.index,Ic,asIntOf,Jm hu]
   rw[Iw c6]
   simp only[Ir,b0h (w:=w) bn,wg]
 ·rename_i hu
  split at he
  rotate_left
  ·cases he
  rename_i s
  simp only[Ib]at he
  obtain⟨rfl,rfl⟩:=he
  cases hx
  obtain⟨h0,h1⟩:=hp
  refine⟨_,?_,.int⟩
  have hg:s[n.toNat]?=some s[n.toNat]:=getElem?_pos s n.toNat h1
  simp only[Instr.index,Ic,asIntOf,Jm hu]
  rw[Iw h0,hg,Sem.run_pure]
  congr 1
  have:s[n.toNat]=s.data.toList.getD n.toNat 0:=by
   have h2:n.toNat<s.data.toList.length:=by rw[Kr];exact h1
   rw[It,Iv h2]
   rfl
  rw[this]
 ·cases he
theorem d6i(hO:Own B0 X A w μ ownN)(ba:∀(k:Nat) (bl:Blk),own[k]?=some bl→ownN[k]?=some bl){s:SV}{v:Value}(hd:D w (held A μ) μ s v){K:KT}{ag:Bool}{has:List Int→Bool}{val:List Int→List SV}(h:f6m own s=some (K,ag,has,val)):
 ∃r g,v=.map (some r)∧MapAt w r K ag has g∧(∀q,has q=true→(g q).length=(val q).length∧(val q).all SV.pure=true)∧∀(q:List Int) (i:Nat) (s:SV) (v:Value),has q=true→(val q)[i]?=some s→(g q)[i]?=some v→D w (held A μ) μ s v:=by
 cases hd with
 |mp r g hb hm hl hd=>
  simp only[f6m,Ib]at h
  obtain⟨rfl,rfl,rfl,rfl⟩:=h
  exact⟨r,g,rfl,hm,hl,hd⟩
 |omp hμ=>
  simp only[f6m]at h
  split at h
  ·rename_i hk
   simp only[Ib]at h
   obtain⟨rfl,rfl,rfl,rfl⟩:=h
   obtain⟨bl,e,b6⟩:=hO.blk _ _ hμ
   rw[ba _ _ hk]at e
   cases e
   obtain⟨r,g,e1,hm,hl,hd⟩:=b6
   cases e1
   exact⟨r,g,rfl,hm,hl,hd⟩
  ·cases h
 |_=>simp[f6m]at h
theorem c3m(hE:EnvOK E)(hO:Own B0 X A w μ ownN)(ba:∀(k:Nat) (bl:Blk),own[k]?=some bl→ownN[k]?=some bl){T:TypeId}{m i s:SV}{ok:Bool}{v u:Value}{pre:Prop}(hm:D w (held A μ) μ m v)(hi:D w (held A μ) μ i u)
 (he:c4r E own T m i ok=some (pre,s)) (hp:pre):∃r,(Instr.lookup T v u ok).run E.P w=.ok r w∧D w (held A μ) μ s r:=by
 unfold c4r at he
 split at he
 rotate_left
 ·cases he
 rename_i ky elem hT
 simp only[J3]at he
 obtain⟨⟨K,ag,has,val⟩,hms,he⟩:=he
 simp only at he
 split at he
 rotate_left
 ·cases he
 rename_i hc
 obtain⟨t8,pg,Px⟩:=hc
 simp only[J3,Ia]at he
 obtain⟨q,hq,s0,bv,rfl,rfl⟩:=he
 obtain⟨r,g,rfl,ph,hl,hd⟩:=d6i hO ba hm hms
 obtain⟨ky',elem',pi,m8⟩:=hE.kt T K t8
 rw[hT]at pi
 cases pi
 obtain⟨rfl,jz⟩:=b97 hq hi
 have cg:∃x,(has q=true→x=mkV ag (g q))∧(has q=false→(zeroValue elem).run E.P w=.ok x w)∧D w (held A μ) μ s0 x:=by
  cases hh:has q with
  |true=>
   refine⟨mkV ag (g q),fun _=>rfl,fun h=>E2,?_⟩
   obtain⟨d,hu,h|h⟩:=b55 (w:=w) (H:=held A μ) (μ:=μ) (us:=g q) bv (hl q hh).1 (fun i s u hs hu=>hd q i s u hh hs hu)
   ·have:ag=true:=by simpa[b2n,hu,h.1]using pg.symm
    rw[this]
    exact h.2
   ·obtain⟨hb,u,jd,hD⟩:=h
    have:ag=false:=by simpa[b2n,hu,hb]using pg.symm
    rw[this,jd]
    exact hD
  |false=>
   obtain⟨inf,zv,bn,hz,hze,nz⟩:=b3p (w:=w) (H:=held A μ) (μ:=μ) (hp hh)
   refine⟨zv,fun h=>E2,fun _=>b2g bn hz,?_⟩
   obtain⟨d,hu,h|h⟩:=b55 (w:=w) (H:=held A μ) (μ:=μ) (us:=zv.cells.toList) bv nz.1 nz.2
   ·have h2:=h.2
    have:ag=true:=by simpa[b2n,hu,h.1]using pg.symm
    subst this
    cases zv<;>simp[zAgg,bn,hz]at Px
    simpa[Value.cells]using h2
   ·obtain⟨hb,u,jd,hD⟩:=h
    have:ag=false:=by simpa[b2n,hu,hb]using pg.symm
    subst this
    cases zv<;>simp[zAgg,bn,hz]at Px
    all_goals
     simp only[Value.cells,Ip]at jd
     subst jd
     exact hD
 obtain⟨x,zx,t9,Py⟩:=cg
 have bi:=c8p (w:=w) (ok:=ok) hT m8 ph jz (z:=x) t9
 have hite:(if has q then mkV ag (g q)else x)=x:=by
  cases hh:has q with
  |true=>simp[zx hh]
  |false=>simp
 rw[hite]at bi
 refine⟨_,bi,?_⟩
 cases ok with
 |true=>
  refine .tup [x,.bool (has q)] rfl (fun i s v hs hv=> ?_)
  match i with
  |0=>simp at hs hv;subst hs hv;exact Py
  |1=>simp at hs hv;subst hs hv;exact .bool
  |i+2=>simp at hs
 |false=>exact Py
theorem d13(hE:EnvOK E)(hO:Own B0 X A w μ ownN)(ba:∀(k:Nat) (bl:Blk),own[k]?=some bl→ownN[k]?=some bl){T:TypeId}{m i s:SV}{ok:Bool}{v u:Value}{pre:Prop}(hm:D w (held A μ) μ m v)(hi:D w (held A μ) μ i u)
 (he:c6u E own T m i ok=some (pre,s)) (hp:pre):∃r,(Instr.lookup T v u ok).run E.P w=.ok r w∧D w (held A μ) μ s r:=by
 unfold c6u at he
 split at he
 rotate_left
 ·exact c3m hE hO ba hm hi he hp
 rename_i j
 split at he
 rotate_left
 ·exact c3m hE hO ba hm hi he hp
 rename_i K k has idx hk
 split at he
 rotate_left
 ·cases he
 rename_i ky elem hT
 split at he
 rotate_left
 ·cases he
 rename_i hc
 obtain⟨t8,pg,hz⟩:=hc
 simp only[Ia]at he
 obtain⟨q,hq,rfl,rfl⟩:=he
 obtain⟨ky',elem',pi,m8⟩:=hE.kt T K t8
 rw[hT]at pi
 cases pi
 obtain⟨rfl,jz⟩:=b97 hq hi
 cases hm with
 |omp hμ=>
 obtain⟨bl,e,b6⟩:=hO.blk _ _ hμ
 rw[ba _ _ hk]at e
 cases e
 obtain⟨_,r,g,e1,ph,hd⟩:=b6
 cases e1
 have qk:(E.P.info? elem).bind (·.zero)=some (.pointer none):=by
  unfold zPtr at hz
  split at hz
  ·assumption
  ·cases hz
 simp only[J3]at qk
 obtain⟨inf,bn,qk⟩:=qk
 have bi:=c8p (w:=w) (ok:=ok) hT m8 ph jz (z:=.pointer none) (fun _=>b2g bn qk)
 refine⟨_,bi,?_⟩
 have key:D w (held A μ) μ (.fp (has q) k (idx q) 0) (if has q then mkV false (g q)else .pointer none):=by
  cases hh:has q with
  |true=>
   obtain⟨p,e,h⟩:=hd q hh
   simp only[K5,mkV,e,Ij,List.getD_cons_zero]
   exact h
  |false=>
   simp only[Ij]
   exact .fp rfl
 cases ok with
 |true=>
  refine .tup [_,.bool (has q)] rfl (fun i s v hs hv=> ?_)
  match i with
  |0=>simp at hs hv;subst hs hv;exact key
  |1=>simp at hs hv;subst hs hv;exact .bool
  |i+2=>simp at hs
 |false=>exact key
theorem g0f(hE:EnvOK E)(hO:Own B0 X A w μ ownN)(ba:∀(k:Nat) (bl:Blk),own[k]?=some bl→ownN[k]?=some bl)(hρ:∀(x:Operand) (s:SV),ρ x=some s→D w (held A μ) μ s (a.eval x)){o:Oper}{s:SV}{pre:Prop}
 (he:f9v E own ρ o.op=some (pre,s)) (hp:pre):∃r,(execOp a.eval o).run E.P w=.ok (.value r) w∧D w (held A μ) μ s r:=by
 obtain⟨dst,op,type,pos,after,guard⟩:=o
 simp only at he
 unfold f9v at he
 split at he
 ·simp only[Ia]at he
  obtain⟨t,ht,rfl,rfl⟩:=he
  exact⟨_,by simp[execOp],hρ _ _ ht⟩
 ·simp only[Ia]at he
  obtain⟨t,ht,rfl,rfl⟩:=he
  exact⟨_,by simp[execOp],hρ _ _ ht⟩
 ·rename_i x
  split at he<;>try cases he
  all_goals
   have hd:=hρ _ _ Dx
   refine⟨_,?_,hd⟩
   generalize hv:a.eval x=v at hd
   cases hd
   simp[execOp,hv]
 ·simp only[J3]at he
  obtain⟨p,hx,he⟩:=he
  obtain⟨u,h1,h2⟩:=c33 hO ba (hρ _ _ hx) he hp
  exact Bz
 ·simp only[J3]at he
  obtain⟨p,hx,he⟩:=he
  obtain⟨u,h1,h2⟩:=c53 (w:=w) (hρ _ _ hx) he
  exact Bz
 ·simp only[J3]at he
  obtain⟨p,hx,he⟩:=he
  obtain⟨u,h1,h2⟩:=d6x (w:=w) (hρ _ _ hx) he
  exact Bz
 ·simp only[J3]at he
  obtain⟨p,hx,n,hn,he⟩:=he
  obtain⟨u,h1,h2⟩:=c6y hO ba (hρ _ _ hx) (hρ _ _ hn) he hp
  exact Bz
 ·rename_i b T x y t
  simp only[J3]at he
  obtain⟨s1,hx,s2,hy,he⟩:=he
  have he:g18 E.P own b T s1 s2=some (pre,s)∨f0n E b T s1 s2=some (pre,s):=by
   split at he
   ·rename_i r hr;cases he;exact .inl hr
   ·exact .inr he
  obtain⟨u,h1,h2⟩:∃r,(do eqGuard b T x y (a.eval x) (a.eval y);binOp b T (a.eval x) (a.eval y)).run E.P w=.ok r w∧D w (held A μ) μ s r:=by
   rcases he with he|he
   rotate_left
   ·exact f3c hE (xo:=x) (yo:=y) (hρ _ _ hx) (hρ _ _ hy) he hp
   ·have d1:=hρ _ _ hx
    have d2:=hρ _ _ hy
    generalize a.eval x=v1 at d1⊢
    generalize a.eval y=v2 at d2⊢
    unfold g18 at he
    split at he
    rotate_left
    ·cases he
    split at he
    rotate_left
    ·cases he
    rename_i hk hu
    cases d2
    cases d1 with
    | @osl k n0 m0 a0 h=>
    obtain⟨bl,e,b6⟩:=hO.blk _ _ h
    rw[ba _ _ hk]at e
    cases e
    obtain⟨a',m',e1,f7,_,_,_,hr⟩:=b6
    simp only[Value.slice.injEq]at e1
    obtain⟨ea,en,em⟩:=e1
    rw[←ea]at hr
    rw[←em]at f7 hr
    have hz:a0=none→∀{q:Nat},q≤m0→q=0:=fun e q hq=>by
     rcases hr with hr|⟨b,o,vs,c7,e2,_⟩
     ·omega
     ·rw[e]at e2;cases e2
    split at he
    ·cases he
     exact⟨_,c0r hu x y _ _ _,.ub (fun e=>hz (by cases a0<;>first|rfl|cases e) f7) (fun _=>Ix)⟩
    ·cases he
     exact⟨_,c09 hu x y _ _ _,.ub (fun _=>Ix) (fun e=>hz (by cases a0<;>first|rfl|cases e) f7)⟩
    ·cases he
  refine⟨u,?_,h2⟩
  simp only[execOp]
  rw[Lk,h1]
  simp
 ·simp only[J3]at he
  obtain⟨p,hx,he⟩:=he
  obtain⟨u,h1,h2⟩:=g61 (P:=E.P) (hρ _ _ hx) he hp
  exact Bz
 ·simp only[J3]at he
  obtain⟨p,hx,he⟩:=he
  obtain⟨u,h1,h2⟩:=f4w (hρ _ _ hx) he hp
  exact Bz
 ·simp only[J3]at he
  obtain⟨p,hx,he⟩:=he
  obtain⟨u,h1,h2⟩:=d2n (P:=E.P) (hρ _ _ hx) he
  exact Bz
 ·rename_i T parts
  simp only[J3]at he
  obtain⟨ps,wh,he⟩:=he
  obtain⟨l1,l2⟩:=b38 wh
  obtain⟨u,h1,h2⟩:=d81 (w:=w) (H:=held A μ) (μ:=μ) (ps:=parts.toList.map fun p=>(p.1,a.eval p.2)) he (by simp[l1]) (fun i j s hs=>by
   have h9:i<parts.toList.length:=G7
   obtain⟨y,hy,e⟩:=l2 i _ (Iv h9)
   rw[hs]at hy
   cases hy
   simp only[Ia]at e
   obtain⟨t,ht,e1,rfl⟩:=e
   refine⟨a.eval (parts.toList[i]).2,?_,hρ _ _ ht⟩
   rw[Jv,Iv h9,←e1]
   rfl)
  refine⟨u,?_,h2⟩
  have hm:(parts.map fun(p:Nat×Operand)=>(p.1,a.eval p.2))=(parts.toList.map fun p=>(p.1,a.eval p.2)).toArray:=by
   apply Array.ext';simp
  simp only[execOp,hm]
  rw[Lk,h1]
  simp
 ·rename_i T x lo hi mx
  simp only[J3]at he
  obtain⟨p,hx,he⟩:=he
  have opt:∀o:Option Operand,DO w (held A μ) μ (g07 ρ o) (o.map a.eval):=by
   intro o
   cases o with
   |none=>simp[DO,g07]
   |some y=>
    simp only[g07,K7]
    cases hy:ρ y with
    |none=>simp[DO]
    |some t=>simpa[DO]using hρ _ _ hy
  obtain⟨u,h1,h2⟩:=d8s (w:=w) (H:=held A μ) (μ:=μ) (hρ _ _ hx) (opt lo) (opt hi) (opt mx) he hp
  exact Bz
 ·rename_i f first caps
  split at he
  rotate_left
  ·cases he
  rename_i hf
  simp only[Ia]at he
  obtain⟨cs,dx,rfl,rfl⟩:=he
  have hD:=b3n (a:=a) hρ dx
  have qn:first= #[]:=by simpa using hf
  refine⟨.func (.func f) #[] (caps.toList.map a.eval).toArray,?_,.clo _ hD.1 hD.2⟩
  have hm:caps.map a.eval=(caps.toList.map a.eval).toArray:=Ex
  simp only[execOp,Instr.makeFunc,qn,hm]
  simp
 ·rename_i c
  unfold g0g at he
  split at he
  ·rename_i b hb
   simp only[J3]at he
   obtain⟨xs,gn,he⟩:=he
   have hD:=b3n (a:=a) hρ gn
   obtain⟨u,h1,h2⟩:=d0e (ts:=c.argTypes.toList) (ty:=type) (cs:=c.args.map fun|.const _=>true|_=>false) hO ba hD he
   refine⟨u,?_,h2⟩
   have hm:c.args.map a.eval=(c.args.toList.map a.eval).toArray:=Ex
   simp only[execOp,resolve,hb,Ic,invoke,hm]
   rw[show c.argTypes.toList.toArray=c.argTypes from Dv]at h1
   exact h1
  ·cases he
 ·simp only[J3]at he
  obtain⟨p,hx,n,hn,he⟩:=he
  obtain⟨u,h1,h2⟩:=d8a (w:=w) (hρ _ _ hx) (hρ _ _ hn) he hp
  exact Bz
 ·simp only[J3]at he
  obtain⟨p,hx,n,hn,he⟩:=he
  obtain⟨u,h1,h2⟩:=d13 hE hO ba (hρ _ _ hx) (hρ _ _ hn) he hp
  exact Bz
 ·cases he
end
structure Entry where
 slot:Nat
 guard:Option (Nat×Bool)
 sv:SV
structure St where
 ρ:List Entry
 own:List Blk
def b4a(t:Nat):List Entry→Option Entry
 | []=>none
 |e::r=>if e.slot=t then some e else b4a t r
def opd(E:Env)(ρ:List Entry)(g:Option (Nat×Bool)):Operand→Option SV
 |.tmp t=>match b4a t ρ with
  |some e=>match e.guard with
   |none=>some e.sv
   |some q=>if g=some q then some e.sv else none
  |none=>none
 |.const v=>some (j24 v)
 |.global n=>E.glob n
 |.func f=>some (.clo f [])
def c7v(d:Nat)(e:Entry):Entry:=match e.guard with
 |some (g,_)=>if g=d then {e with guard:=none,sv:=.any}else e
 |none=>e
def d2u(d:Option Nat)(g:Option (Nat×Bool))(s:SV)(ρ:List Entry):List Entry:=match d with
 |none=>ρ
 |some d=>⟨d,g,s⟩::(if ρ.any (fun e=>match e.guard with|some (q,_)=>q==d|none=>false)then ρ.map (c7v d)else ρ)
def d8i(k:List Nat)(ρ:List Entry):List Entry:=ρ.map fun e=>{e with sv:=e.sv.kill2 k}
def b0d(w:World)(H:Nat→Prop)(μ:Mu)(tmps:Array Value)(e:Entry):Prop:=
 match e.guard with
 |none=>D w H μ e.sv (tmps.getD e.slot undef)
 |some (g,b)=>(tmps.getD g undef=.bool b→D w H μ e.sv (tmps.getD e.slot undef))∧(tmps.getD g undef≠.bool b→tmps.getD e.slot undef=undef)
def b9j(w:World)(H:Nat→Prop)(μ:Mu)(tmps:Array Value)(ρ:List Entry):Prop:=∀t e,b4a t ρ=some e→b0d w H μ tmps e
structure SD (E:Env) (B0:Nat) (X A:Nat→Prop) (w0:World) (nt:Nat) (st:St) (a:Act) (w:World) (μ:Mu):Prop where
 own:Own B0 X A w μ st.own
 fr:Fr B0 X w0 w
 base:B0≤w.heap.size
 glo:∀g s,E.glob g=some s→s.pure=true∧D w (held A μ) μ s (.pointer (some ⟨g,0,none⟩))
 dfr:a.defers=[]
 size:a.tmps.size=nt
 env:b9j w (held A μ) μ a.tmps st.ρ
 fresh:∀k,st.own.length≤k→μ k=none
 anc:∀k x,E.an k=some x→μ k=some x
theorem b1a{t:Nat}{ρ:List Entry}{e:Entry}(h:b4a t ρ=some e):e.slot=t:=by
 induction ρ with
 |nil=>simp[b4a]at h
 |cons x r ih=>
  simp only[b4a]at h
  split at h
  ·cases h;assumption
  ·exact ih h
theorem b9d{t:Nat}{f:Entry→Entry}(hf:∀e,(f e).slot=e.slot)(ρ:List Entry):b4a t (ρ.map f)=(b4a t ρ).map f:=by
 induction ρ with
 |nil=>rfl
 |cons x r ih=>
  simp only[Ma,b4a,hf]
  split<;>simp[ih]
theorem d86(d:Nat)(e:Entry):(c7v d e).slot=e.slot:=by
 unfold c7v;split<;>(try split)<;>rfl
section
variable {w w' : World} {H H' : Nat → Prop} {μ μ' : Mu} {tmps : Array Value} {ρ : List Entry}
theorem b9j.keep(hk:Keeps w w' H H' μ μ')(h:b9j w H μ tmps ρ):b9j w' H' μ' tmps ρ:=by
 intro t e he
 have:=h t e he
 unfold b0d at this⊢
 split at this
 ·exact this.keep hk
 ·exact⟨fun hg=>(this.1 hg).keep hk,this.2⟩
theorem b9j.change{k:List Nat}(hk:Keeps' k w w' H H' μ μ')(h:b9j w H μ tmps ρ):b9j w' H' μ' tmps (d8i k ρ):=by
 intro t e he
 rw[d8i,b9d (f:=fun(e:Entry)=>{e with sv:=e.sv.kill2 k}) (fun _=>rfl),J1]at he
 obtain⟨e0,jv,rfl⟩:=he
 have:=h t e0 jv
 unfold b0d at this⊢
 simp only
 split at this
 ·exact c3i hk this
 ·exact⟨fun hg=>c3i hk (this.1 hg),this.2⟩
theorem b23{tmps:Array Value}{d t:Nat}{v:Value}(hd:d<tmps.size):(tmps.setIfInBounds d v).getD t undef=if t=d then v else tmps.getD t undef:=by
 by_cases e:t=d
 ·subst e;simp[hd]
 ·simp[e,L6 (Ne.symm e)]
theorem b9j.put(h:b9j w H μ tmps ρ){d:Nat}(hd:d<tmps.size){g:Option (Nat×Bool)}{s:SV}{v:Value}(_:∀q b,g=some (q,b)→q≠d)
 (hv:b0d w H μ (tmps.setIfInBounds d v) ⟨d,g,s⟩):b9j w H μ (tmps.setIfInBounds d v) (d2u (some d) g s ρ):=by
 have old:∀t e,t≠d→b4a t ρ=some e→b0d w H μ (tmps.setIfInBounds d v) (c7v d e):=by
  intro t e bb he
  have hs:=b1a he
  have:=h t e he
  unfold c7v
  split
  ·rename_i q b hq
   split
   ·unfold b0d;exact .any
   ·rename_i Nk
    unfold b0d at this⊢
    rw[hq]at this⊢
    simp only at this⊢
    rw[b23 hd,b23 hd,Iy Nk,Iy (by rw[hs];exact bb)]
    exact this
  ·rename_i hq
   unfold b0d at this⊢
   rw[hq]at this⊢
   simp only at this⊢
   rw[b23 hd,Iy (by rw[hs];exact bb)]
   exact this
 intro t e he
 simp only[d2u,b4a]at he
 split at he
 ·cases he;exact hv
 ·rename_i bb
  split at he
  ·rw[b9d (d86 d),J1]at he
   obtain⟨e0,jv,rfl⟩:=he
   exact old t e0 (Ne.symm bb) jv
  ·rename_i gh
   have:=old t e (Ne.symm bb) he
   have hf:c7v d e=e:=by
    unfold c7v
    split
    ·rename_i q b hq
     split
     ·rename_i Nk
      exfalso
      apply gh
      rw[Jc]
      have cy:e∈ρ:=by
       clear gh old this h
       induction ρ with
       |nil=>simp[b4a]at he
       |cons x r ih=>
        simp only[b4a]at he
        split at he
        ·cases he;simp
        ·exact Ju _ (ih he)
      exact⟨e,cy,by rw[hq];simpa using Nk⟩
     ·rfl
    ·rfl
   rwa[hf]at this
theorem b6m{E:Env}{a:Act}{g:Option (Nat×Bool)}(c9:∀n s,E.glob n=some s→D w H μ s (.pointer (some ⟨n,0,none⟩)))(d5:b9j w H μ a.tmps ρ)
 (hg:∀q b,g=some (q,b)→a.tmps.getD q undef=.bool b):∀(x:Operand) (s:SV),opd E ρ g x=some s→D w H μ s (a.eval x):=by
 intro x s h
 cases x with
 |tmp t=>
  simp only[opd]at h
  split at h
  ·rename_i e he
   have hs:=b1a he
   have b6:=d5 t e he
   unfold b0d at b6
   split at h
   ·rename_i hn
    cases h
    rw[hn]at b6
    simp only at b6
    rw[hs]at b6
    exact b6
   ·rename_i q hq
    split at h
    ·rename_i hgq
     cases h
     rw[hq]at b6
     obtain⟨q1,q2⟩:=q
     simp only at b6
     have:=b6.1 (hg q1 q2 hgq)
     rw[hs]at this
     exact this
    ·cases h
  ·cases h
 |const v=>simp only[opd,Jh]at h;subst h;exact j1i v
 |global n=>exact c9 n s h
 |func f=>simp only[opd,Jh]at h;subst h;exact .clo [] rfl (fun i s v h _=>E7)
end
def SV.ro00(own:List Blk):SV→SV
 |.osl k=>match own[k]? with
  |some (.row _ sz n f c)=>.sl sz n f c
  |_=>.any
 |.omp k=>match own[k]? with
  |some (.map K ag has val)=>.mp K ag has val
  |_=>.any
 |.own _ _|.oel _ _ _ _|.agg _|.tup _|.fp _ _ _ _=>.any
 |.clo f cs=>if cs.isEmpty then .clo f []else .any
 |s=>s
def SV.ro0(own:List Blk):SV→SV
 |.own k off=>match own[k]? with
  |some (.cells _ cs)=>.rel cs.length 1 (fun _=>cs.map (SV.ro00 own)) 0 off
  |_=>.any
 |s=>s.ro00 own
def SV.ro1(own:List Blk):SV→Option SV
 |.osl k=>match own[k]? with
  |some (.row _ sz n f c)=>some (.sl sz n f c)
  |_=>none
 |.omp k=>match own[k]? with
  |some (.map K ag has val)=>some (.mp K ag has val)
  |_=>none
 |.own k off=>match own[k]? with
  |some (.cells _ cs)=>some (.rel cs.length 1 (fun _=>cs.map (SV.ro0 own)) 0 off)
  |_=>none
 |.oel _ _ _ _|.agg _|.tup _|.fp _ _ _ _|.any=>none
 |.clo f cs=>if cs.isEmpty then some (.clo f [])else none
 |s=>some s
def SV.ro(own:List Blk):SV→Option SV
 |.clo f cs=>(cs.mapM (SV.ro1 own)).map (.clo f)
 |s=>s.ro1 own
def SV.roA(own:List Blk):SV→Option SV
 |.agg cs=>(cs.mapM (SV.ro own)).map .agg
 |s=>s.ro own
def SV.isOsl0:SV→Bool
 |.osl _|.omp _|.own _ _=>true
 |_=>false
def SV.isOsl:SV→Bool
 |.clo _ cs=>cs.any SV.isOsl0
 |s=>s.isOsl0
def SV.hasOsl:SV→Bool
 |.agg cs=>cs.any SV.isOsl
 |s=>s.isOsl
def SV.flat0:SV→Bool
 |.int _ _|.bool _|.con _=>true
 |.clo _ cs=>cs.isEmpty
 |_=>false
def SV.flat1:SV→Bool
 |.agg cs=>cs.all SV.flat0
 |s=>s.flat0
def SV.flat2:SV→Bool
 |.tup vs=>vs.all SV.flat1
 |s=>s.flat1
section
variable {w : World} {H H' : Nat → Prop} {μ μ' : Mu}
theorem c5w{s:SV}{v:Value}{w':World}(hf:s.flat0=true)(h:D w H μ s v):D w' H' μ' s v:=by
 cases h<;>simp[SV.flat0]at hf
 ·exact .int
 ·exact .bool
 ·exact .con
 ·rename_i vs hl hd
  subst hf
  exact C6
theorem g0t{s:SV}{v:Value}{w':World}(hf:s.flat1=true)(h:D w H μ s v):D w' H' μ' s v:=by
 unfold SV.flat1 at hf
 split at hf
 ·cases h with
  |agg vs hl hd=>exact .agg vs hl (fun i s v hs hv=>c5w (J4.1 hf s (J0 hs)) (hd i s v hs hv))
 ·exact c5w hf h
theorem j5k{s:SV}{v:Value}{w':World}(hf:s.flat2=true)(h:D w H μ s v):D w' H' μ' s v:=by
 unfold SV.flat2 at hf
 split at hf
 ·cases h with
  |tup vs hl hd=>exact .tup vs hl (fun i s v hs hv=>g0t (J4.1 hf s (J0 hs)) (hd i s v hs hv))
 ·exact g0t hf h
theorem b0i(hH:∀b,H' b→H b){s:SV}{v:Value}(h:D w H μ s v):s.pure=true→D w H' μ' s v:=by
 induction h with
 |int=>exact fun _=>.int
 |bool=>exact fun _=>.bool
 |con=>exact fun _=>.con
 |own h=>intro hp;simp[SV.pure,SV.pure0]at hp
 |osl h=>intro hp;simp[SV.pure,SV.pure0]at hp
 |oel h=>intro hp;simp[SV.pure,SV.pure0]at hp
 |omp h=>intro hp;simp[SV.pure,SV.pure0]at hp
 |fp h=>intro hp;simp[SV.pure,SV.pure0]at hp
 |mp r g hb hm hl hd ih=>
  exact D5
 |sl a b o m g hm hx hc h8 hl hd ih=>
  exact fun _=>.sl a b o m g hm hx hc (fun hn=>by
   obtain⟨e,hb,hr⟩:=h8 hn
   exact⟨e,fun hh=>hb (hH _ hh),hr⟩) hl (fun i j s hi hs=>ih i j s hi hs (J4.1 (hl i hi).2 s (J0 hs)))
 |rel b o g hi hb h8 hl hd ih=>
  exact D6
 |agg vs hl hd ih=>intro hp;simp[SV.pure,SV.pure0]at hp
 |tup vs hl hd ih=>intro hp;simp[SV.pure,SV.pure0]at hp
 |clo vs hl hd ih=>
  exact Ci
 |ub h1 h2=>exact fun _=>.ub h1 h2
 |any=>exact fun _=>.any
theorem b1w(hH:∀b,H' b→H b){s:SV}{v:Value}(h:D w H μ s v):s.pure=true→D w H' μ' s v:=by
 induction h with
 |int=>exact fun _=>.int
 |bool=>exact fun _=>.bool
 |con=>exact fun _=>.con
 |own h=>intro hp;simp[SV.pure,SV.pure0]at hp
 |osl h=>intro hp;simp[SV.pure,SV.pure0]at hp
 |oel h=>intro hp;simp[SV.pure,SV.pure0]at hp
 |omp h=>intro hp;simp[SV.pure,SV.pure0]at hp
 |fp h=>intro hp;simp[SV.pure,SV.pure0]at hp
 |mp r g hb hm hl hd ih=>
  exact D5
 |sl a b o m g hm hx hc h8 hl hd ih=>
  exact fun _=>.sl a b o m g hm hx hc (fun hn=>by
   obtain⟨e,hb,hr⟩:=h8 hn
   exact⟨e,fun hh=>hb (hH _ hh),hr⟩) hl (fun i j s hi hs=>ih i j s hi hs (J4.1 (hl i hi).2 s (J0 hs)))
 |rel b o g hi hb h8 hl hd ih=>
  exact D6
 |agg vs hl hd ih=>intro hp;simp[SV.pure,SV.pure0]at hp
 |tup vs hl hd ih=>intro hp;simp[SV.pure,SV.pure0]at hp
 |clo vs hl hd ih=>
  exact Ci
 |ub h1 h2=>exact fun _=>.ub h1 h2
 |any=>exact fun _=>.any
end
def b0a:Mu:=fun _=>none
def f2r(P:Program)(glob:Nat→Option SV)(f:FuncId)(c:List SV→Option (Prop×SV)):Prop:=
 (∃fn,P.funcs[f]?=some fn∧(fn.name== "runtime.NumGoroutine")=false∧fn.body.isNone=false)∧
 ∀(A:Nat→Prop) (w:World) (args:List SV) (vals:List Value) (pre:Prop) (s:SV),(∀b,A b→b<w.heap.size)→(∀g t,glob g=some t→t.pure=true∧D w A b0a t (.pointer (some ⟨g,0,none⟩)))→
  DL w A b0a args vals→c args=some (pre,s)→pre→
  Calls P f vals.toArray w fun e w'=>∃v,e=.returned v∧D w' A b0a s v∧Fr w.heap.size (fun _=>False) w w'
section
variable {E : Env} {w : World} {μ : Mu} {B0 : Nat} {X A : Nat → Prop} {own ownN : List Blk}
theorem f00(hO:Own B0 X A w μ ownN)(ba:∀(k:Nat) (bl:Blk),own[k]?=some bl→ownN[k]?=some bl){A':Nat→Prop}(hA:∀b,A' b→held A μ b)(jm:∀b,A' b→A b){k n m:Nat}{a:Option Addr}(h:μ k=some (.slice a n m)){T:TypeId}{sz n':Nat}{f:Nat→List SV}{c:Option Nat}
 (hk:own[k]?=some (.row T sz n' f c)):D w A' b0a (.sl sz n' f c) (.slice a n m):=by
 obtain⟨bl,e,b6⟩:=hO.blk _ _ h
 rw[ba _ _ hk]at e
 cases e
 obtain⟨a',m',e1,hn,hm,hc,hl,b9⟩:=b6
 cases e1
 rcases b9 with rfl|⟨b,o,vs,c7,rfl,hh,ho,h1,hD⟩
 ·exact Cj
 ·have ta:¬A' b:=fun hb=>(hO.rng _ _ b h (b1p c7)).2.1 (jm b hb)
  have c6:∀i j,i<n→j<sz→o+i*sz+j<vs.length:=fun i j hi hj=>by
   have:=b59 hi hj
   have:n*sz≤m*sz:=Jt _ hn
   omega
  refine .sl _ b o m (fun i j=>vs.getD (o+i*sz+j) undef) hn hm hc (fun _=>⟨rfl,ta,b29 hh,fun i j hi hj=> ?_⟩) hl (fun i j s hi hs=> ?_)
  ·have:=c6 i j hi hj
   rw[b62 hh,Iv this]
   simp only[Im,Iv this]
   exact Ck
  ·have hj:j<sz:=G2
   have:=c6 i j hi hj
   simp only[Im,Iv this]
   exact b0i hA (hD i j s _ hi hs (Iv this)) (J4.1 (hl i hi).2 s (J0 hs))
theorem f1y(hO:Own B0 X A w μ ownN)(ba:∀(k:Nat) (bl:Blk),own[k]?=some bl→ownN[k]?=some bl){A':Nat→Prop}(hA:∀b,A' b→held A μ b)(jm:∀b,A' b→A b){k:Nat}{r:Option Nat}(h:μ k=some (.map r)){K:KT}{ag:Bool}{has:List Int→Bool}{val:List Int→List SV}
 (hk:own[k]?=some (.map K ag has val)):D w A' b0a (.mp K ag has val) (.map r):=by
 obtain⟨bl,e,b6⟩:=hO.blk _ _ h
 rw[ba _ _ hk]at e
 cases e
 obtain⟨r',g,e1,hm,hl,hD⟩:=b6
 cases e1
 exact .mp r' g (fun hb=>(hO.rng _ _ r' h (.inl rfl)).2.1 (jm _ hb)) hm hl (fun q i s v hq hs hv=>b0i hA (hD q i s v hq hs hv) (J4.1 (hl q hq).2 s (J0 hs)))
theorem c9c(hO:Own B0 X A w μ ownN)(ba:∀(k:Nat) (bl:Blk),own[k]?=some bl→ownN[k]?=some bl){A':Nat→Prop}(hA:∀b,A' b→held A μ b)(jm:∀b,A' b→A b){s:SV}{v:Value}(hd:D w (held A μ) μ s v):D w A' b0a (s.ro00 own) v:=by
 have lift:s.pure=true→s.ro00 own=s→D w A' b0a (s.ro00 own) v:=fun hp e=>by rw[e];exact b0i hA hd hp
 cases hd with
 |osl h=>
  simp only[SV.ro00]
  split
  ·rename_i hk;exact f00 hO ba hA jm h hk
  ·exact .any
 |fp h=>exact .any
 |omp h=>
  simp only[SV.ro00]
  split
  ·rename_i hk;exact f1y hO ba hA jm h hk
  ·exact .any
 |own h=>exact .any
 |oel h=>exact .any
 |agg vs hl hd=>exact .any
 |tup vs hl hd=>exact .any
 |clo vs hl hd=>
  simp only[SV.ro00]
  split
  ·rename_i hc
   have fa:=List.isEmpty_iff.1 hc
   subst fa
   exact C6
  ·exact .any
 |int=>exact lift rfl rfl
 |bool=>exact lift rfl rfl
 |con=>exact lift rfl rfl
 |sl a b o m g hm hx hc h8 hl hd=>exact lift rfl rfl
 |rel b o g hi hb h8 hl hd=>exact lift rfl rfl
 |mp r g hb hm hl hd=>exact lift rfl rfl
 |ub h1 h2=>exact .ub h1 h2
 |any=>exact .any
theorem d5t(own:List Blk)(s:SV):(s.ro00 own).pure=true:=by
 cases s with
 |osl k=>simp only[SV.ro00];split<;>rfl
 |omp k=>simp only[SV.ro00];split<;>rfl
 |clo f cs=>simp only[SV.ro00];split<;>rfl
 |_=>rfl
theorem g3m(own:List Blk)(s:SV):(s.ro0 own).pure=true:=by
 unfold SV.ro0
 split
 ·split<;>rfl
 ·exact d5t own s
theorem c8r(hO:Own B0 X A w μ ownN)(ba:∀(k:Nat) (bl:Blk),own[k]?=some bl→ownN[k]?=some bl){A':Nat→Prop}(jm:∀b,A' b→A b){k off b:Nat}(h:μ k=some (.pointer (some ⟨b,0,none⟩))){T:TypeId}{cs:List SV}(hk:own[k]?=some (.cells T cs))
 {g:SV→SV} (hp:∀s,(g s).pure=true) (hg:∀s v,D w (held A μ) μ s v→D w A' b0a (g s) v):D w A' b0a (.rel cs.length 1 (fun _=>cs.map g) 0 off) (.pointer (some ⟨b,off,none⟩)):=by
 obtain⟨bl,e,b6⟩:=hO.blk _ _ h
 rw[ba _ _ hk]at e
 cases e
 obtain⟨b',vs,e1,hh,hl,h1,hD⟩:=b6
 cases e1
 have:=D.rel (w:=w) (H:=A') (μ:=b0a) (sz:=cs.length) (n:=1) (i:=0) (off:=off) (f:=fun _=>cs.map g) b 0 (fun _ j=>vs.getD j undef) Dt (fun hb=>(hO.rng _ _ b h (.inl rfl)).2.1 (jm _ hb)) ⟨b29 hh,fun i j hi hj=> ?_⟩
  (fun i _=>⟨Dv,by simp only[List.all_map,J4];intro x _;exact hp x⟩) (fun i j s hi hs=> ?_)
 ·simpa using this
 ·have hi0:i=0:=Dt
  subst hi0
  have bh:j<vs.length:=Dt
  have e0:(0+0*cs.length+j)=j:=Dt
  rw[e0,b62 hh,Iv bh]
  simp only[Im,Iv bh]
  exact⟨Ix,h1 _ (Jn bh)⟩
 ·simp only[Id]at hs
  obtain⟨s0,bv,rfl⟩:=hs
  have bh:j<vs.length:=by rw[hl];exact(Iz.1 bv).1
  simp only[Im,Iv bh]
  exact hg _ _ (hD j s0 _ bv (Iv bh))
theorem f97(hO:Own B0 X A w μ ownN)(ba:∀(k:Nat) (bl:Blk),own[k]?=some bl→ownN[k]?=some bl){A':Nat→Prop}(hA:∀b,A' b→held A μ b)(jm:∀b,A' b→A b){s:SV}{v:Value}(hd:D w (held A μ) μ s v):D w A' b0a (s.ro0 own) v:=by
 unfold SV.ro0
 split
 ·rename_i k off
  split
  ·rename_i T cs hk
   cases hd with
   |own h=>exact c8r hO ba jm h hk (d5t own) (fun s v hd=>c9c hO ba hA jm hd)
  ·exact .any
 ·exact c9c hO ba hA jm hd
theorem d3w(hO:Own B0 X A w μ ownN)(ba:∀(k:Nat) (bl:Blk),own[k]?=some bl→ownN[k]?=some bl){A':Nat→Prop}(hA:∀b,A' b→held A μ b){s t:SV}{v:Value}(hd:D w (held A μ) μ s v)(hr:s.ro1 own=some t)(fy:s.isOsl0=true→∀b,A' b→A b):D w A' b0a t v:=by
 have lift:s.pure=true→t=s→D w A' b0a t v:=fun hp e=>by
  subst e
  exact b0i hA hd hp
 cases hd with
 |osl h=>
  simp only[SV.ro1]at hr
  split at hr
  ·rename_i hk;cases hr;exact f00 hO ba hA (fy rfl) h hk
  ·cases hr
 |omp h=>
  simp only[SV.ro1]at hr
  split at hr
  ·rename_i hk;cases hr;exact f1y hO ba hA (fy rfl) h hk
  ·cases hr
 |own h=>
  rename_i k off b
  simp only[SV.ro1]at hr
  split at hr
  ·rename_i T cs hk
   cases hr
   have jm:=fy rfl
   exact c8r hO ba jm h hk (g3m own) (fun s v hd=>f97 hO ba hA jm hd)
  ·cases hr
 |int=>exact lift rfl Ey
 |bool=>exact lift rfl Ey
 |ub h1 h2=>exact lift rfl Ey
 |con=>exact lift rfl Ey
 |sl a b o m g hm hx hc h8 hl hd=>exact lift rfl Ey
 |rel b o g hi hb h8 hl hd=>exact lift rfl Ey
 |mp r g hb hm hl hd=>exact lift rfl Ey
 |clo vs hl hd=>
  simp only[SV.ro1]at hr
  split at hr
  ·rename_i hc
   cases hr
   have fa:=List.isEmpty_iff.1 hc
   subst fa
   exact C6
  ·cases hr
 |_=>simp[SV.ro1]at hr
theorem d92(hO:Own B0 X A w μ ownN)(ba:∀(k:Nat) (bl:Blk),own[k]?=some bl→ownN[k]?=some bl){A':Nat→Prop}(hA:∀b,A' b→held A μ b){s t:SV}{v:Value}(hd:D w (held A μ) μ s v)(hr:s.ro own=some t)(fy:s.isOsl=true→∀b,A' b→A b):D w A' b0a t v:=by
 unfold SV.ro at hr
 split at hr
 ·rename_i f cs
  simp only[J1]at hr
  obtain⟨ts,tc,rfl⟩:=hr
  obtain⟨l1,l2⟩:=b38 tc
  cases hd with
  |clo vs hl hd=>
   refine .clo vs (by rw[hl,l1]) (fun i t v ht hv=> ?_)
   have h9:i<cs.length:=Hp
   obtain⟨y,hy,e⟩:=l2 i _ (Iv h9)
   rw[ht]at hy
   cases hy
   exact d3w hO ba hA (hd i _ v (Iv h9) hv) e (fun h=>fy (by simp only[SV.isOsl,Jc];exact⟨_,Jn h9,h⟩))
 ·rename_i pj
  refine d3w hO ba hA hd hr (fun h=>fy ?_)
  unfold SV.isOsl
  split
  ·rename_i f cs;exact absurd rfl (pj f cs)
  ·exact h
theorem b7z(hO:Own B0 X A w μ ownN)(ba:∀(k:Nat) (bl:Blk),own[k]?=some bl→ownN[k]?=some bl){A':Nat→Prop}(hA:∀b,A' b→held A μ b){s t:SV}{v:Value}(hd:D w (held A μ) μ s v)(hr:s.roA own=some t)(fy:s.hasOsl=true→∀b,A' b→A b):D w A' b0a t v:=by
 unfold SV.roA at hr
 split at hr
 ·rename_i cs
  simp only[J1]at hr
  obtain⟨ts,tc,rfl⟩:=hr
  obtain⟨l1,l2⟩:=b38 tc
  cases hd with
  |agg vs hl hd=>
   refine .agg vs (by rw[hl,l1]) (fun i t v ht hv=> ?_)
   have h9:i<cs.length:=Hp
   obtain⟨y,hy,e⟩:=l2 i _ (Iv h9)
   rw[ht]at hy
   cases hy
   exact d92 hO ba hA (hd i _ v (Iv h9) hv) e (fun h=>fy (by simp only[SV.hasOsl,Jc];exact⟨_,Jn h9,h⟩))
 ·rename_i pj
  exact d92 hO ba hA hd hr (fun h=>fy (by
   unfold SV.hasOsl
   split
   ·rename_i cs;exact absurd rfl (pj cs)
   ·exact h))
def f8b(E:Env)(own:List Blk)(ρ:Operand→Option SV)(c:Call):Option (Prop×SV):=
 match c.callee with
 |.value f=>match ρ f with
  |some (.clo fid caps)=>(c.args.toList.mapM ρ).bind fun xs=>((xs++caps).mapM (SV.roA own)).bind fun ys=>(E.C fid).bind fun k=>(k ys).bind fun r=>
   if !((xs++caps).any SV.hasOsl)||r.2.flat2||E.fs fid then some r else none
  |_=>none
 |_=>none
def c35(v:Value):Mu:=fun k=>if k=0 then some v else none
def g8j(P:Program)(glob:Nat→Option SV)(f:FuncId)(e:d20):Prop:=
 (∃fn,P.funcs[f]?=some fn∧(fn.name== "runtime.NumGoroutine")=false∧fn.body.isNone=false)∧
 ∀(A:Nat→Prop) (w:World) (v:Value) (T:TypeId) (sz n:Nat) (g:Nat→List SV) (c:Option Nat) (rest:List SV) (vals:List Value) (pre:Prop) (g':Nat→List SV) (r:Bool),
  (∀b,A b→b<w.heap.size)→(∀b,Has v b→b<w.heap.size∧¬A b)→(∀q t,glob q=some t→t.pure=true∧D w (held A (c35 v)) b0a t (.pointer (some ⟨q,0,none⟩)))→
  b19 w (held A (c35 v)) (c35 v) v (.row T sz n g c)→DL w (held A (c35 v)) b0a rest vals→e T sz n g rest=some (pre,g',r)→pre→
  Calls P f (v::vals).toArray w fun x w'=>∃res,x=.returned res∧(r=true→res=v)∧(r=false→res=.tuple #[])∧b19 w' (held A (c35 v)) (c35 v) v (.row T sz n g' c)∧Fr w.heap.size (fun b=>Has v b) w w'
def f0i(P:Program)(glob:Nat→Option SV)(f:FuncId)(c:List SV→Option (Prop×SV)):Prop:=
 ∀(A:Nat→Prop) (w:World) (args:List SV) (vals:List Value) (pre:Prop) (s:SV),(∀b,A b→b<w.heap.size)→(∀g t,glob g=some t→t.pure=true∧D w A b0a t (.pointer (some ⟨g,0,none⟩)))→
  DL w A b0a args vals→c args=some (pre,s)→pre→
  Calls P f vals.toArray w fun e w'=>∃v,e=.returned v∧D w' (fun b=>b<w.heap.size) b0a s v∧Fr w.heap.size (fun _=>False) w w'
def b7t(μ:Mu)(b:Nat):Prop:=∃k x,μ k=some x∧Has x b
def f6w(P:Program)(glob:Nat→Option SV)(f:FuncId)(h:HK):Prop:=
 (∃fn,P.funcs[f]?=some fn∧(fn.name== "runtime.NumGoroutine")=false∧fn.body.isNone=false)∧
 ∀(A:Nat→Prop) (w:World) (args:List SV) (vals:List Value) (own:List Blk) (μ:Mu) (r:HRes),(∀b,A b→b<w.heap.size)→(∀g t,glob g=some t→t.pure=true∧D w (held A μ) b0a t (.pointer (some ⟨g,0,none⟩)))→
  Own 0 (fun _=>True) A w μ own→(∀k,own.length≤k→μ k=none)→DL w (held A μ) μ args vals→h args own=some r→r.pre→
  Calls P f vals.toArray w fun x w'=>∃v μ',x=.returned v∧Own w.heap.size (b7t μ) A w' μ' r.own∧(∀k,r.own.length≤k→μ' k=none)∧D w' (held A μ') μ' r.res v∧
   (∀k x,k<own.length→r.chg.contains k=false→μ k=some x→μ' k=some x)∧Fr w.heap.size (b7t μ) w w'
def XSound(E:Env):Prop:=∀f e,E.X f=some e→g8j E.P E.glob f e
def b1u(E:Env):Prop:=(∀f c,E.C f=some c→f2r E.P E.glob f c∧(E.fs f=true→f0i E.P E.glob f c))∧XSound E∧∀f h,E.Hc f=some h→f6w E.P E.glob f h
theorem f05{H:Nat→Prop}{xs ys:List SV}{us vs:List Value}(h:DL w H μ xs us)(k:DL w H μ ys vs):DL w H μ (xs++ys) (us++vs):=by
 refine⟨by simp[h.1,k.1],fun i s v hs hv=> ?_⟩
 by_cases hi:i<xs.length
 ·rw[J6 hi]at hs
  rw[J6 (by rw[h.1];exact hi)]at hv
  exact h.2 i s v hs hv
 ·rw[Jr Dt]at hs
  rw[Jr (by rw[h.1];omega),h.1]at hv
  exact k.2 _ s v hs hv
theorem f3u(hC:b1u E)(hO:Own B0 X A w μ ownN)(ba:∀(k:Nat) (bl:Blk),own[k]?=some bl→ownN[k]?=some bl)(c9:∀g s,E.glob g=some s→s.pure=true∧D w (held A μ) μ s (.pointer (some ⟨g,0,none⟩))){a:Act}{ρ:Operand→Option SV}
 (hρ:∀(x:Operand) (s:SV),ρ x=some s→D w (held A μ) μ s (a.eval x)) {o:Oper} {c:Call} (ho:o.op=.call c) {pre:Prop} {s:SV} (he:f8b E own ρ c=some (pre,s)) (hp:pre):
 ∃f vals,(execOp a.eval o).run E.P w=.ok (.enter f vals) w∧Calls E.P f vals w fun e w'=>∃v,e=.returned v∧D w' (held A μ) μ s v∧Fr w.heap.size (fun _=>False) w w':=by
 unfold f8b at he
 split at he
 rotate_left
 ·cases he
 rename_i f hf
 split at he
 rotate_left
 ·cases he
 rename_i fid caps hρf
 simp only[J3]at he
 obtain⟨xs,gn,ys,pa,k,hk,⟨p,t⟩,hr,he⟩:=he
 split at he
 rotate_left
 ·cases he
 rename_i da
 simp only[Ib]at he
 obtain⟨rfl,rfl⟩:=he
 have fe:=hρ _ _ hρf
 generalize rc:a.eval f=vf at fe
 obtain⟨⟨⟨fn,h1,h2,h3⟩,hS⟩,Nm⟩:=hC.1 fid k hk
 cases fe with
 |clo cvs d9 n9=>
  have hD:=f05 (b3n (a:=a) hρ gn) (⟨d9,n9⟩:DL w (held A μ) μ caps cvs)
  refine⟨fid,((c.args.toList.map a.eval)++cvs).toArray,?_,?_⟩
  ·have hm:c.args.map a.eval=(c.args.toList.map a.eval).toArray:=Ex
   simp only[execOp,ho,resolve,hf,rc,Deferred.ofValue,hm,Ic,invoke,callFunc,run_program,h1,h2,Ij,h3]
   simp
  ·obtain⟨l1,l2⟩:=b38 pa
   have conv:∀A':Nat→Prop,(∀b,A' b→held A μ b)→(((xs++caps).any SV.hasOsl)=true→∀b,A' b→A b)→DL w A' b0a ys ((c.args.toList.map a.eval)++cvs):=by
    intro A' hA fy
    refine⟨by rw[hD.1,l1],fun i s v hs hv=> ?_⟩
    have h9:i<(xs++caps).length:=G7
    obtain⟨y,hy,e⟩:=l2 i _ (Iv h9)
    rw[hs]at hy
    cases hy
    exact b7z hO ba hA (hD.2 i _ v (Iv h9) hv) e (fun h=>fy Hq)
   have wi:∀b,held A μ b→b<w.heap.size:=fun b hb=>by
    rcases hb with hb|⟨k,x,hk,hx⟩
    ·exact hO.bnd b hb
    ·exact(hO.rng k x b hk hx).1
   cases vd:(xs++caps).any SV.hasOsl with
   |false=>
    refine(hS (held A μ) w ys _ p t wi (fun g q hg=>⟨(c9 g q hg).1,b0i (fun _ h=>h) (c9 g q hg).2 (c9 g q hg).1⟩) (conv _ (fun _ h=>h) (fun h=>by rw[vd]at h;cases h)) hr hp).mono ?_
    rintro e w' ⟨v,rfl,hd,bg⟩
    exact⟨v,rfl,hd.keep ⟨J2 _,fun _ _ _=>rfl,fun _ _ h=>h,fun j x hx=>by cases hx⟩,bg⟩
   |true=>
    rw[vd]at da
    simp only[Bool.not_true,Mb,Jy]at da
    rcases da with dq|hfsh
    rotate_left
    ·refine(Nm hfsh A w ys _ p t hO.bnd (fun g q hg=>⟨(c9 g q hg).1,b0i (fun _ h=>.inl h) (c9 g q hg).2 (c9 g q hg).1⟩) (conv A (fun _ h=>.inl h) (fun _ _ h=>h)) hr hp).mono ?_
     rintro e w' ⟨v,rfl,hd,bg⟩
     exact⟨v,rfl,hd.keep ⟨J2 _,fun _ _ _=>rfl,fun b _ hb=>wi b hb,fun j x hx=>by cases hx⟩,bg⟩
    refine(hS A w ys _ p t hO.bnd (fun g q hg=>⟨(c9 g q hg).1,b0i (fun _ h=>.inl h) (c9 g q hg).2 (c9 g q hg).1⟩) (conv A (fun _ h=>.inl h) (fun _ _ h=>h)) hr hp).mono ?_
    rintro e w' ⟨v,rfl,hd,bg⟩
    exact⟨v,rfl,j5k dq hd,bg⟩
theorem Fr.keeps{w':World}(h:Fr w.heap.size (fun _=>False) w w'){H:Nat→Prop}:Keeps w w' H H μ μ:=
 ⟨h.size,fun b hb _=>h.block b hb (fun h=>h),fun _ _ h=>h,fun _ _ h=>h⟩
theorem Own.calls{w':World}(hO:Own B0 X A w μ own)(h:Fr w.heap.size (fun _=>False) w w'):Own B0 X A w' μ own:=
 ⟨fun k x hx=>by
   obtain⟨bl,e,hb⟩:=hO.blk k x hx
   exact⟨bl,e,hb.keep h.keeps (fun b hb=>h.block b (hO.rng k x b hx hb).1 (fun h=>h))⟩,hO.inj,
   fun k x b hk hb=>by obtain⟨r1,r2⟩:=hO.rng k x b hk hb;exact⟨Jd r1 h.size,r2⟩,fun b hb=>Jd (hO.bnd b hb) h.size⟩
end
def d42(x y:Option SV):Option SV:=match x with
 |some s=>some s
 |none=>y
def f70(b:Bool)(x y:Operand)(sx sy:SV):Option SV:=match sx,sy with
 |.bool s,.bool t=>match x,y with
  |.const (.bool true),_=>some (.bool (b||t))
  |_,.const (.bool false)=>some (.bool (b&&s))
  |_,_=>some (.bool (bif b then s else t))
 |.int k n,.int k' m=>if k=k' then some (.int k (bif b then n else m))else none
 |_,_=>none
def g9g(E:Env)(ρ:List Entry)(g:Option (Nat×Bool))(c x y:Operand):Option (Prop×SV):=match c with
 |.tmp ct=>match opd E ρ g (.tmp ct)with
  |some (.bool b)=>(d42 (opd E ρ g x) (opd E ρ (some (ct,true)) x)).bind fun sx=>(d42 (opd E ρ g y) (opd E ρ (some (ct,false)) y)).bind fun sy=>(f70 b x y sx sy).map fun s=>(True,s)
  |_=>none
 |_=>none
def c0x(E:Env)(st:St)(g:Option (Nat×Bool))(op:Op):Option (Prop×SV):=match op with
 |.pick c x y=>g9g E st.ρ g c x y
 |.call c=>match c.callee with
  |.value _=>f8b E st.own (opd E st.ρ g) c
  |_=>f9v E st.own (opd E st.ρ g) op
 |op=>f9v E st.own (opd E st.ρ g) op
def b6q(ρ:List Entry):Nat→Nat→Bool→Option Prop
 |0,_,_=>none
 |n+1,g,p=>match b4a g ρ with
  |some e=>match e.sv with
   |.bool b=>match e.guard with
    |none=>some (b=p)
    |some (g',p')=>(b6q ρ n g' p').map fun c=>c∧b=p
   |_=>none
  |none=>none
def b7m(nt:Nat)(d:Option Nat):Bool:=match d with
 |some d=>decide (d<nt)
 |none=>true
def f1m(E:Env)(ρ:Operand→Option SV)(T:TypeId)(r:Option Operand):Option Blk:=
 match E.P.underlying T with
 |some (.map _ elem)=>(E.kt T).bind fun K=>(b2n E.P elem).bind fun ag=>(b7p E.P elem).bind fun z=>
  match r with
  |none=>some (.map K ag (fun _=>false) (fun _=>z))
  |some x=>match ρ x with
   |some (.int _ _)=>some (.map K ag (fun _=>false) (fun _=>z))
   |_=>none
 |_=>none
def j3i:SV→Bool
 |.agg _=>true
 |_=>false
def d2p(E:Env)(own:List Blk)(T:TypeId)(m i x:SV):Option (List Blk):=
 match E.P.underlying T,m with
 |some (.map _ _),.omp k=>match own[k]? with
  |some (.map K ag has val)=>if E.kt T=some K∧j3i x=ag then(f4p K i).bind fun q=>x.cells.bind fun cs=>
   if cs.all SV.pure then some (own.set k (.map K ag (b3e has q) (fun p=>b9m (decide (p=q)) cs (val p))))else none
   else none
  |_=>none
 |_,_=>none
def g4m(E:Env)(nt:Nat)(ops:Array Oper)(st:St)(o:Oper):Option (Prop×St):=
 if !b7m nt o.dst then none else
 match o.guard with
 |some (j,p)=>match o.dst,(ops[j]?).bind (·.dst)with
  |some d,some g=>if g<nt∧g≠d then(b6q st.ρ 5 g p).bind fun c=>(c0x E st (some (g,p)) o.op).map fun r=>(c→r.1,{st with ρ:=d2u (some d) (some (g,p)) r.2 st.ρ})else none
  |_,_=>none
 |none=>match o.op with
  |.store T p x=>(opd E st.ρ none p).bind fun sp=>(opd E st.ρ none x).bind fun sx=>(c0d E.P st.own T sp sx).bind fun r=>if o.dst=none then some (r.1,{st with own:=r.2})else none
  |.alloc _|.box _ _|.buildSlice _ _ _|.makeSlice _ _ _=>(g36 E.P st.own (opd E st.ρ none) o.op).map fun r=>(r.1,{ρ:=d2u o.dst none r.2.1 st.ρ,own:=st.own++[r.2.2]})
  |.makeMap T r=>(f1m E (opd E st.ρ none) T r).map fun b=>(True,{ρ:=d2u o.dst none (.omp st.own.length) st.ρ,own:=st.own++[b]})
  |.mapUpdate T m k x|.insert T m k x=>(opd E st.ρ none m).bind fun sm=>(opd E st.ρ none k).bind fun sk=>(opd E st.ρ none x).bind fun sx=>(d2p E st.own T sm sk sx).bind fun own'=>if o.dst=none then some (True,{st with own:=own'})else none
  |.call {callee:=.builtin .append,args:=⟨[x,y]⟩,argTypes:=⟨[T,U]⟩}=>if T=U then(opd E st.ρ none x).bind fun sx=>(opd E st.ρ none y).bind fun sy=>(c4k E.P st.own T sx sy).bind fun r=>
   if !r.2.2.2&&E.ak r.2.1 then none else some (r.1,{ρ:=d2u o.dst none (.osl r.2.1) (if r.2.2.2 then st.ρ else d8i [r.2.1] st.ρ),own:=r.2.2.1})else none
  |.slice T x lo hi none=>(match opd E st.ρ none x with
   |some (.osl k)=>(c6e E.P st.own T k (g07 (opd E st.ρ none) lo) (g07 (opd E st.ρ none) hi)).bind fun r=>if E.ak k then none else some (r.1,{ρ:=d2u o.dst none (.osl k) (d8i [k] st.ρ),own:=r.2})
   |_=>(c0x E st none (.slice T x lo hi none)).map fun r=>(r.1,{st with ρ:=d2u o.dst none r.2 st.ρ}))
  |op=>(c0x E st none op).map fun r=>(r.1,{st with ρ:=d2u o.dst none r.2 st.ρ})
section
variable {E : Env} {B0 : Nat} {X A : Nat → Prop} {w0 : World} {nt : Nat} {st : St} {a : Act} {w : World} {μ : Mu}
theorem SD.opds(h:SD E B0 X A w0 nt st a w μ){g:Option (Nat×Bool)}(hg:∀q b,g=some (q,b)→a.tmps.getD q undef=.bool b):∀(x:Operand) (s:SV),opd E st.ρ g x=some s→D w (held A μ) μ s (a.eval x):=
 b6m (fun n s hn=>(h.glo n s hn).2) h.env hg
theorem d48{H:Nat→Prop}{b:Bool}{x y:Operand}{sx sy s:SV}{u v:Value}(hx:b=true→D w H μ sx u)(hy:b=false→D w H μ sy v)(Ps:∀z,x=.const z→u=z)(hcy:∀z,y=.const z→v=z)(he:f70 b x y sx sy=some s):
 D w H μ s (if b then u else v):=by
 unfold f70 at he
 split at he
 ·rename_i s1 t1
  split at he
  ·cases he
   have:=Ps _ rfl
   subst this
   cases b
   ·have:=hy rfl;cases this;exact .bool
   ·exact .bool
  ·cases he
   have:=hcy _ rfl
   subst this
   cases b
   ·exact .bool
   ·have:=hx rfl;cases this;exact .bool
  ·cases he
   cases b
   ·have:=hy rfl;cases this;exact .bool
   ·have:=hx rfl;cases this;exact .bool
 ·split at he
  ·rename_i hk
   cases he
   subst hk
   cases b
   ·have:=hy rfl;cases this;exact .int
   ·have:=hx rfl;cases this;exact .int
  ·cases he
 ·cases he
theorem f71{x y:Option SV}{s:SV}(h:d42 x y=some s):x=some s∨y=some s:=by
 unfold d42 at h;split at h<;>simp_all
theorem c0e(hE:EnvOK E)(hC:b1u E){ρ:List Entry}{own ownN:List Blk}(hO:Own B0 X A w μ ownN)(ba:∀(k:Nat) (bl:Blk),own[k]?=some bl→ownN[k]?=some bl)(c9:∀g s,E.glob g=some s→s.pure=true∧D w (held A μ) μ s (.pointer (some ⟨g,0,none⟩)))
 (d5:b9j w (held A μ) μ a.tmps ρ) {g:Option (Nat×Bool)} (hg:∀q b,g=some (q,b)→a.tmps.getD q undef=.bool b) {o:Oper} {pre:Prop} {s:SV} (he:c0x E ⟨ρ,own⟩ g o.op=some (pre,s)) (hp:pre)
 {K:Act→World→Prop} {Q:Exit→Act→World→Prop} (hK:∀v w',D w' (held A μ) μ s v→Fr w.heap.size (fun _=>False) w w'→K (a.put o.dst v) w'):o.wp E.P a w K Q:=by
 have opds:∀{g:Option (Nat×Bool)},(∀q b,g=some (q,b)→a.tmps.getD q undef=.bool b)→∀(x:Operand) (s:SV),opd E ρ g x=some s→D w (held A μ) μ s (a.eval x):=fun hg=>b6m (fun n s hn=>(c9 n s hn).2) d5 hg
 have hρ:=opds hg
 have value:∀v,(execOp a.eval o).run E.P w=.ok (.value v) w→D w (held A μ) μ s v→o.wp E.P a w K Q:=by
  intro v hr hd
  unfold Oper.wp
  rw[hr]
  exact hK v w hd ⟨rfl,rfl,rfl,fun _=>J2 _,J2 _,fun _ _ _=>rfl⟩
 have val:f9v E own (opd E ρ g) o.op=some (pre,s)→o.wp E.P a w K Q:=by
  intro he
  obtain⟨v,hr,hd⟩:=g0f hE hO ba hρ he hp
  exact value v hr hd
 unfold c0x at he
 split at he
 ·rename_i c x y cn
  unfold g9g at he
  split at he
  rotate_left
  ·cases he
  rename_i ct
  split at he
  rotate_left
  ·cases he
  rename_i b hb
  simp only[J3,Ia]at he
  obtain⟨sx,hx,sy,hy,s',hs,rfl,rfl⟩:=he
  have zy:=hρ _ _ hb
  generalize hv:a.eval (.tmp ct)=cv at zy
  cases zy
  have htm:a.tmps.getD ct undef=.bool b:=hv
  have side:∀(p:Bool) (x:Operand) (sx:SV),d42 (opd E ρ g x) (opd E ρ (some (ct,p)) x)=some sx→b=p→D w (held A μ) μ sx (a.eval x):=by
   intro p x sx hx hbp
   rcases f71 hx with hx|hx
   ·exact hρ x sx hx
   ·exact opds (g:=some (ct,p)) (fun q p' e=>by cases e;rw[htm,hbp]) x sx hx
  refine value (if b then a.eval x else a.eval y) ?_ (d48 (side true x sx hx) (side false y sy hy) (fun z hz=>by subst hz;rfl) (fun z hz=>by subst hz;rfl) hs)
  simp only[execOp,cn,hv]
  cases b<;>simp[asBool]
 ·rename_i c cn
  split at he
  ·obtain⟨f,vals,hr,hc⟩:=f3u hC hO ba c9 hρ (o:=o) cn he hp
   unfold Oper.wp
   rw[hr]
   refine hc.mono ?_
   rintro e w' ⟨v,rfl,hd,bg⟩
   exact hK v w' hd bg
  ·exact val he
 ·rename_i op h1 h2
  exact val he
theorem c8f(hE:EnvOK E)(hC:b1u E)(h:SD E B0 X A w0 nt st a w μ){g:Option (Nat×Bool)}(hg:∀q b,g=some (q,b)→a.tmps.getD q undef=.bool b){o:Oper}{pre:Prop}{s:SV}(he:c0x E st g o.op=some (pre,s))(hp:pre)
 {K:Act→World→Prop} {Q:Exit→Act→World→Prop} (hK:∀v w',D w' (held A μ) μ s v→Fr w.heap.size (fun _=>False) w w'→K (a.put o.dst v) w'):o.wp E.P a w K Q:=
 c0e hE hC h.own (fun _ _ h=>h) h.glo h.env hg he hp hK
theorem SD.put(h:SD E B0 X A w0 nt st a w μ){w':World}{μ':Mu}{own':List Blk}{ρ':List Entry}(hO:Own B0 X A w' μ' own')(bg:Fr B0 X w w')(c9:∀g s,E.glob g=some s→s.pure=true∧D w' (held A μ') μ' s (.pointer (some ⟨g,0,none⟩)))
 (d5:b9j w' (held A μ') μ' a.tmps ρ') (d3:∀k,own'.length≤k→μ' k=none) (gq:∀k x,E.an k=some x→μ' k=some x) {d:Option Nat} (hd:b7m nt d=true) {s:SV} {v:Value} (hv:D w' (held A μ') μ' s v):
 SD E B0 X A w0 nt {ρ:=d2u d none s ρ',own:=own'} (a.put d v) w' μ':=by
 refine⟨hO,h.fr.trans bg,L3 h.base bg.size,c9,?_,?_,?_,d3,gq⟩
 ·cases d<;>exact h.dfr
 ·cases d<;>simp[Act.put,h.size]
 ·cases d with
  |none=>exact d5
  |some d=>
   have h9:d<a.tmps.size:=by rw[h.size];simpa[b7m]using hd
   refine d5.put h9 (fun q b e=>E4) ?_
   unfold b0d
   simp only
   rw[b23 h9,Iw rfl]
   exact hv
theorem b21{w':World}{μ':Mu}{H H':Nat→Prop}(hk:Keeps w w' H H' μ μ')(h:∀g s,E.glob g=some s→s.pure=true∧D w H μ s (.pointer (some ⟨g,0,none⟩))):∀g s,E.glob g=some s→s.pure=true∧D w' H' μ' s (.pointer (some ⟨g,0,none⟩)):=
 fun g s hg=>⟨(h g s hg).1,(h g s hg).2.keep hk⟩
theorem b91{w':World}{μ':Mu}{H H':Nat→Prop}{k:List Nat}(hk:Keeps' k w w' H H' μ μ')(h:∀g s,E.glob g=some s→s.pure=true∧D w H μ s (.pointer (some ⟨g,0,none⟩))):∀g s,E.glob g=some s→s.pure=true∧D w' H' μ' s (.pointer (some ⟨g,0,none⟩)):=
 fun g s hg=>⟨(h g s hg).1,b0k hk (h g s hg).2 (h g s hg).1⟩
theorem b8m{H:Nat→Prop}{tmps:Array Value}{ρ:List Entry}(d5:b9j w H μ tmps ρ):∀(n g:Nat) (p:Bool) (c:Prop),b6q ρ n g p=some c→tmps.getD g undef=.bool p→c:=by
 intro n
 induction n with
 |zero=>intro g p c h;simp[b6q]at h
 |succ n ih=>
  intro g p c h ht
  simp only[b6q]at h
  split at h
  rotate_left
  ·cases h
  rename_i e he
  have hs:=b1a he
  have b6:=d5 g e he
  unfold b0d at b6
  split at h
  rotate_left
  ·cases h
  rename_i b hb
  split at h
  ·rename_i hg
   cases h
   rw[hg,hb,hs,ht]at b6
   simp only at b6
   cases b6
   rfl
  ·rename_i g' p' hg
   simp only[J1]at h
   obtain⟨c',fa,rfl⟩:=h
   rw[hg,hb,hs,ht]at b6
   simp only at b6
   by_cases hq:tmps.getD g' undef=.bool p'
   ·have:=b6.1 hq
    cases this
    exact⟨ih g' p' c' fa hq,rfl⟩
   ·have:=b6.2 hq
    cases this
theorem c9v{ops:Array Oper}{o:Oper}{j g:Nat}{p:Bool}(ho:o.guard=some (j,p))(hg:(ops[j]?).bind (·.dst)=some g)(h9:g<a.tmps.size):
 Region.wanted o (yielded ops a.tmps)=true↔a.tmps.getD g undef=.bool p:=by
 simp only[Region.wanted,ho,yielded,hg,Lq,Array.getD_eq_getD_getElem?,La h9,K6]
 split
 ·rename_i b hb
  rw[Jh]at hb
  rw[hb]
  simp
 ·rename_i bb
  simp only[Lp]
  constructor
  ·intro h;cases h
  ·intro h;exact absurd (by rw[h]) (bb p)
theorem f9e(sz:Nat):∀(ps:List (Nat×Value)) (b:Nat) (vs:List Value),ps.map (·.1)=List.range' b ps.length→(∀p∈ps,p.2.cells.size=sz)→(b+ps.length)*sz≤vs.length→
 (∀v∈vs,v.oneCell'=true)→(∀p∈ps,∀v∈p.2.cells.toList,v.oneCell'=true)→
 ∃us:List Value,Instr.fill (fun i=>some (i*sz,sz)) vs.toArray ps=some us.toArray∧us.length=vs.length∧(∀v∈us,v.oneCell'=true)∧
  (∀x,x<b*sz→us[x]?=vs[x]?)∧∀(i j:Nat) (p:Nat×Value),ps[i]?=some p→j<sz→us[(b+i)*sz+j]?=p.2.cells.toList[j]?:=by
 intro ps
 induction ps with
 |nil=>intro b vs _ _ _ h1 _;exact⟨vs,rfl,rfl,h1,fun _ _=>rfl,fun i j p h=>E7⟩
 |cons q ps ih=>
  intro b vs hr hs hl h1 bc
  obtain⟨i0,v0⟩:=q
  simp only[Ma,K3,List.range'_succ,List.cons.injEq]at hr
  obtain⟨rfl,hr⟩:=hr
  have bv:v0.cells.size=sz:=hs (i0,v0) Dv
  have Nn:i0*sz+sz≤vs.length:=by
   have:(i0+1)*sz≤(i0+(ps.length+1))*sz:=Jt _ Dt
   rw[Lt]at this
   simp only[K3]at hl
   omega
  obtain⟨us,e1,e2,e3,e4,e5⟩:=ih (i0+1) (over vs (i0*sz) v0.cells.toList) hr (fun p hp=>hs p (by simp[hp])) (by rw[b12];simp only[K3]at hl;rw[show i0+1+ps.length=i0+(ps.length+1)from Dt];exact hl)
   (b7f _ _ _ h1 (bc (i0,v0) Dv)) (fun p hp=>bc p (by simp[hp]))
  have Pz:=fun x=>b22 v0.cells.toList vs (i0*sz) x (by simp[bv];exact Nn)
  refine⟨us,?_,by rw[e2,b12],e3,fun x hx=> ?_,fun i j p hp hj=> ?_⟩
  ·simp only[Instr.fill]
   have hb:¬(i0*sz+v0.cells.size>vs.toArray.size):=by rw[bv];simp;exact Nn
   rw[Iy (by rw[Jq hb];simp[bv])]
   have:(v0.cells.zipIdx.foldl (fun cs x=>cs.setIfInBounds (i0*sz+x.2) x.1) vs.toArray)=(over vs (i0*sz) v0.cells.toList).toArray:=by
    have:=c9u v0.cells.toList 0 (i0*sz) vs (by simp only[Kr,Kz,bv];exact Nn)
    rw[←Array.foldl_toList]
    simpa using this
   rw[this]
   exact e1
  ·rw[e4 x (by rw[Lt];omega),Pz,Iy Dt]
  ·match i with
   |0=>
    simp at hp
    subst hp
    rw[Kz,e4 _ (by rw[Lt];omega),Pz,Iw (by simp[bv];exact hj),Nat.add_sub_cancel_left]
   |i+1=>
    have:=e5 i j p (by simpa using hp) hj
    rwa[show i0+1+i=i0+(i+1)from Dt]at this
theorem d3a{own ownN:List Blk}(gp:Own B0 X A w μ ownN)(hB:B0≤w.heap.size)(hk:μ own.length=none){ρ:Operand→Option SV}(hρ:∀(x:Operand) (s:SV),ρ x=some s→D w (held A μ) μ s (a.eval x)){o:Oper}{pre:Prop}{s:SV}{b:Blk}
 (he:g36 E.P own ρ o.op=some (pre,s,b)) (hp:pre) (cx:ownN[own.length]?=some b):
 ∃r w' μ',(execOp a.eval o).run E.P w=.ok (.value r) w'∧After B0 X A w w' μ μ' ownN∧(∀j,j≠own.length→μ' j=μ j)∧D w' (held A μ') μ' s r:=by
 unfold g36 at he
 split at he
 ·rename_i T cn
  simp only[J3]at he
  obtain⟨z,hz,he⟩:=he
  split at he
  rotate_left
  ·cases he
  rename_i hc
  simp only[Ib]at he
  obtain⟨rfl,rfl,rfl⟩:=he
  obtain⟨r,w',μ',h1,h2,h3,h4⟩:=d6q (P:=E.P) gp hB hk hz hc cx
  exact⟨r,w',μ',by simp[execOp,cn,h1],h2,h3,h4⟩
 ·rename_i T x cn
  simp only[J3]at he
  obtain⟨sx,hx,cs,dx,he⟩:=he
  split at he
  rotate_left
  ·cases he
  rename_i hc
  simp only[Ib]at he
  obtain⟨rfl,rfl,rfl⟩:=he
  obtain⟨r,w',μ',h1,h2,h3,h4⟩:=g02 (P:=E.P) gp hB hk (hρ _ _ hx) dx hc cx
  exact⟨r,w',μ',by simp[execOp,cn,h1],h2,h3,h4⟩
 ·rename_i T cn
  simp only[J3,Ia]at he
  obtain⟨e,hT,sz,bk,rfl,rfl,rfl⟩:=he
  simp only[b10,J1]at bk
  obtain⟨inf,bn,rfl⟩:=bk
  obtain⟨μ',h1,h2,h3⟩:=d6d gp hB hk (vs:=[]) cx (J2 _) (J5 _) (fun i hi=>absurd hi (Je _)) Dv Dv (fun i j s v hi=>absurd hi (Je _))
  refine⟨_,_,μ',?_,h1,h2,h3⟩
  simp[execOp,cn,Instr.buildSlice,Jm (b0y hT),b0h bn,Instr.fill,newRow]
  congr 2
  apply Array.ext'
  simp
 ·rename_i T n parts hnp cn
  simp only[J3]at he
  obtain⟨e,hT,sz,bk,z,hz,ps,wh,he⟩:=he
  split at he
  rotate_left
  ·cases he
  rename_i hc
  obtain⟨wj,Np,bv,hbig,nw,sj,bt⟩:=hc
  simp only[Ib]at he
  obtain⟨rfl,rfl,rfl⟩:=he
  simp only[b10,J1]at bk
  obtain⟨inf,bn,rfl⟩:=bk
  obtain⟨inf',zv,b7,m6,rfl,nz⟩:=b3p (w:=w) (H:=held A μ) (μ:=μ) hz
  rw[bn]at b7
  cases b7
  have jk:zv.cells.size=inf.size:=Fj
  obtain⟨l1,l2⟩:=b38 wh
  have b8:ps.length=n:=by have:=Lc List.length wj;simpa using this
  have part:∀(i:Nat) (q:Nat×Operand),parts.toList[i]?=some q→∃cs:List SV,ps[i]?=some (q.1,cs)∧cs.all SV.isCell=true∧cs.all SV.pure=true∧cs.length=inf.size∧DL w (held A μ) μ cs (a.eval q.2).cells.toList:=by
   intro i q hq
   obtain⟨y,hy,e1⟩:=l2 i q hq
   simp only[J3,J1]at e1
   obtain⟨sq,hsq,cs,dx,rfl⟩:=e1
   have hm:=J4.1 bt _ (J0 hy)
   simp only[Ih]at hm
   exact⟨cs,hy,hm.1.1,hm.1.2,hm.2,(hρ _ _ hsq).cells dx⟩
  have cg:∀p∈parts.toList.map fun(q:Nat×Operand)=>(q.1,a.eval q.2),p.2.cells.size=inf.size∧∀v∈p.2.cells.toList,v.oneCell'=true:=by
   intro p hp
   obtain⟨i,hi,e1⟩:=Jg.1 hp
   have b7:i<parts.toList.length:=Ej
   obtain⟨cs,c1,c2,c3,c4,c5⟩:=part i _ (Iv b7)
   have:p=(parts.toList[i].1,a.eval parts.toList[i].2):=by rw[←e1];simp
   subst this
   exact⟨by have:=c5.1;rw[Kr]at this;exact this.trans c4,b3k c5 c2⟩
  have fi:∀v∈zv.cells.toList,v.oneCell'=true:=b3k nz sj
  have hmade:∀v∈(madeCells zv.cells (n*inf.size)).toList,v.oneCell'=true:=by
   intro v hv
   obtain⟨i,hi,e1⟩:=Jg.1 hv
   obtain⟨_,rfl⟩:=c1p _ _ i v (by rw[←e1];exact Iv hi)
   have h9:i%zv.cells.size<zv.cells.size:=M4 _ Dt
   rw[K4 zv.cells _ h9]
   exact fi _ Dv
  have fm:(parts.toList.map fun(q:Nat×Operand)=>(q.1,a.eval q.2)).length=n:=by rw[Js,←l1,b8]
  have hfst:(parts.toList.map fun(q:Nat×Operand)=>(q.1,a.eval q.2)).map (·.1)=List.range' 0 (parts.toList.map fun(q:Nat×Operand)=>(q.1,a.eval q.2)).length:=by
   rw[fm,←List.range_eq_range',←wj]
   apply L8
   intro i
   simp only[Jv,M6]
   cases hq:parts.toList[i]? with
   |none=>
    have:ps[i]?=none:=by rw[List.getElem?_eq_none_iff]at hq⊢;rw[l1];exact hq
    simp[this]
   |some q=>
    obtain⟨cs,c1,_⟩:=part i q hq
    simp[c1]
  obtain⟨us,f1,f2,f3,f4,f5⟩:=f9e inf.size _ 0 (madeCells zv.cells (n*inf.size)).toList hfst (fun p hp=>(cg p hp).1) (by rw[fm];simp[size_madeCells]) hmade (fun p hp=>(cg p hp).2)
  have cz:∀i,i<n→∃(q:Nat×Operand) (cs:List SV),parts.toList[i]?=some q∧(ps.map (·.2)).getD i []=cs∧cs.all SV.pure=true∧cs.length=inf.size∧DL w (held A μ) μ cs (a.eval q.2).cells.toList:=by
   intro i hi
   have b7:i<parts.toList.length:=by rw[←l1,b8];exact hi
   obtain⟨cs,c1,c2,c3,c4,c5⟩:=part i _ (Iv b7)
   exact⟨_,cs,Iv b7,by simp[c1],c3,c4,c5⟩
  obtain⟨μ',h1,h2,h3⟩:=d6d gp hB hk (vs:=us) cx (J2 _) (by
   have:n*1≤n*inf.size:=Nat.mul_le_mul_left _ bv
   simp only[maxLen];omega) (fun i hi=>by obtain⟨q,cs,_,e1,e2,e3,_⟩:=cz i hi;rw[e1];exact⟨e3,e2⟩) (by rw[f2];simp[size_madeCells]) f3 (fun i j s v hi hs hv=>by
   obtain⟨q,cs,hq,e1,e2,e3,e4⟩:=cz i hi
   rw[e1]at hs
   have hj:j<inf.size:=by rw[←e3];exact(Iz.1 hs).1
   have:=f5 i j (q.1,a.eval q.2) (by rw[Jv,hq];rfl) hj
   rw[Kf,hv]at this
   exact e4.2 j s v hs this.symm)
  refine⟨_,_,μ',?_,h1,h2,h3⟩
  have hm:(parts.map fun(q:Nat×Operand)=>(q.1,a.eval q.2))=(parts.toList.map fun q=>(q.1,a.eval q.2)).toArray:=by
   apply Array.ext';simp
  have su:(Array.range (n*inf.size)).map (fun i=>zv.cells[i%zv.cells.size]!)=(madeCells zv.cells (n*inf.size)).toList.toArray:=by apply Array.ext';simp[madeCells]
  have hnz:¬(n*inf.size=0):=by
   have:1*1≤n*inf.size:=Nat.mul_le_mul Np bv
   omega
  simp only[execOp,cn,hm,Instr.buildSlice,Ic,Jm (b0y hT),b0h bn,Iy (by omega:¬n*inf.size>2^24),Iy hnz,b2g bn m6,su,f1,newRow]
  simp
 ·rename_i T l c cn
  simp only[J3]at he
  obtain⟨e,hT,inf,bn,z,hz,he⟩:=he
  split at he
  rotate_left
  ·cases he
  rename_i kl n kc m hl hc
  split at he
  rotate_left
  ·cases he
  rename_i da
  obtain⟨c1,c2,c3,c4⟩:=da
  simp only[Ib]at he
  obtain⟨rfl,rfl,rfl⟩:=he
  obtain⟨p1,p2,p3,p4⟩:=hp
  obtain⟨r,w',μ',h1,h2,h3,h4⟩:=f58 (P:=E.P) (kl:=kl) (kc:=kc) gp hB hk hT bn hz c1 c2 c3 c4 p1 p2 p3 p4 cx
  have d1:=hρ _ _ hl
  have d2:=hρ _ _ hc
  generalize e1:a.eval l=v1 at d1
  generalize e2:a.eval c=v2 at d2
  cases d1;cases d2
  exact⟨r,w',μ',by simp[execOp,cn,e1,e2,h1],h2,h3,h4⟩
 ·cases he
theorem b9n(_:EnvOK E){own ownN:List Blk}(gp:Own B0 X A w μ ownN)(hB:B0≤w.heap.size)(hk:μ own.length=none){ρ:Operand→Option SV}(hρ:∀(x:Operand) (s:SV),ρ x=some s→D w (held A μ) μ s (a.eval x)){o:Oper}{T:TypeId}{r:Option Operand}(cn:o.op=.makeMap T r){b:Blk}
 (he:f1m E ρ T r=some b) (cx:ownN[own.length]?=some b):
 ∃v w' μ',(execOp a.eval o).run E.P w=.ok (.value v) w'∧After B0 X A w w' μ μ' ownN∧(∀j,j≠own.length→μ' j=μ j)∧D w' (held A μ') μ' (.omp own.length) v:=by
 unfold f1m at he
 split at he
 rotate_left
 ·cases he
 rename_i ky elem hT
 simp only[J3]at he
 obtain⟨K,hK,ag,pg,z,hz,he⟩:=he
 have hb:b=.map K ag (fun _=>false) (fun _=>z)∧(Instr.makeMap T (r.map a.eval)).run E.P w=.ok (.map (some w.heap.size)) (w.alloc (.map #[] 0)):=by
  split at he
  ·cases he
   exact⟨rfl,by simp[Instr.makeMap]⟩
  ·rename_i x
   split at he
   ·rename_i hx
    cases he
    have hd:=hρ _ _ hx
    generalize hv:a.eval x=v at hd
    cases hd
    exact⟨rfl,by simp[Instr.makeMap,hv,Jm hT,asInt,asIntOf]⟩
   ·cases he
 obtain⟨rfl,bi⟩:=hb
 obtain⟨h1,h2⟩:=c2k gp hB hk cx (.map #[] 0) (.map (some w.heap.size)) (fun b hb=>(g1i.1 hb).symm) (fun μ' _ _=>⟨w.heap.size,fun _=>[],rfl,⟨#[],0,Lr w _,fun e h=>E7,fun q h=>E2,Dv⟩,fun q h=>E2,fun q i s v h=>E2⟩)
 refine⟨.map (some w.heap.size),_,_,by simp[execOp,cn,bi],⟨h1,Fr.alloc _ hB,h2⟩,fun j hj=>Em,.omp Ec⟩
theorem d2j(hE:EnvOK E){own:List Blk}(hO:Own B0 X A w μ own){T:TypeId}{m i x:SV}{vm vi vx:Value}{own':List Blk}(hm:D w (held A μ) μ m vm)(hi:D w (held A μ) μ i vi)(hx:D w (held A μ) μ x vx)(he:d2p E own T m i x=some own'):
 ∃w',(Instr.mapUpdate T vm vi vx).run E.P w=.ok () w'∧After B0 X A w w' μ μ own'∧own'.length=own.length:=by
 unfold d2p at he
 split at he
 rotate_left
 ·cases he
 rename_i ky elem k hT
 split at he
 rotate_left
 ·cases he
 rename_i K ag has val hk
 split at he
 rotate_left
 ·cases he
 rename_i hc
 obtain⟨t8,pg⟩:=hc
 simp only[J3]at he
 obtain⟨q,hq,cs,dx,he⟩:=he
 split at he
 rotate_left
 ·cases he
 rename_i ra
 cases he
 obtain⟨ky',elem',pi,m8⟩:=hE.kt T K t8
 rw[hT]at pi
 cases pi
 obtain⟨rfl,jz⟩:=b97 hq hi
 cases hm with
 |omp hμ=>
  obtain⟨bl,e,b6⟩:=hO.blk _ _ hμ
  rw[hk]at e
  cases e
  obtain⟨r,g,e1,ph,hl,hd⟩:=b6
  cases e1
  obtain⟨d9,n9⟩:=hx.cells dx
  have hv:vx=mkV ag vx.cells.toList:=by
   cases hx with
   |agg vs hl hd=>
    have:ag=true:=pg.symm
    subst this
    simp[mkV,Value.cells]
   |con=>
    have:ag=false:=pg.symm
    subst this
    simp only[SV.cells]at dx
    split at dx
    ·rename_i h1
     cases vx<;>first|rfl|simp[Value.oneCell']at h1
    ·cases dx
   |tup=>simp[SV.cells]at dx
   |any=>simp[SV.cells]at dx
   |fp h=>
    have:ag=false:=pg.symm
    subst this
    split at h
    ·exact Cg
    ·subst h;rfl
   |_=>
    have:ag=false:=pg.symm
    subst this
    rfl
  obtain⟨o,bi,td⟩:=c1y (w:=w) hv hT m8 ph jz
  have h9:=ph.lt
  have c8:Keeps w (putObj w r o) (held A μ) (held A μ) μ μ:=⟨Fn,fun c _ hc=>b26 (fun e=>hc (by subst e;exact .inr ⟨k,_,hμ,.inl rfl⟩)),fun _ _ h=>h,fun _ _ h=>h⟩
  have hB:=(hO.rng k _ r hμ (.inl rfl)).2.2
  refine⟨_,bi,⟨⟨fun j y hj=> ?_,hO.inj,fun j y c hj hy=>by rw[b3x];exact hO.rng j y c hj hy,fun c hc=>by rw[b3x];exact hO.bnd c hc⟩,
   ⟨rfl,rfl,rfl,fun _=>J2 _,Fn,fun i hi hX=>b26 (fun e=>by subst e;rcases hB with hb|hb;omega;exact hX hb)⟩,c8⟩,Dv⟩
  have b8:k<own.length:=(Iz.1 hk).1
  by_cases e:j=k
  ·subst e
   have:y=.map (some r):=by rw[hμ]at hj;exact(Jp hj).symm
   subst this
   refine⟨.map K ag (b3e has q) (fun p=>b9m (decide (p=q)) cs (val p)),by simp[b8],r,fun p=>if p=q then vx.cells.toList else g p,rfl,td,fun p hp=> ?_,fun p i s v hp hs hv=> ?_⟩
   ·obtain⟨m1,m2,_⟩:=c10 (decide (p=q)) cs (val p)
    simp only[Jz]at m1 m2
    rw[m1]
    by_cases ep:p=q
    ·simp only[ep,K5]
     rw[ep]at m2
     simp only[K5]at m2
     exact⟨d9,m2 ra⟩
    ·have hh:has p=true:=Gt
     simp only[ep,if_false]
     simp only[ep,if_false]at m2
     exact⟨(hl p hh).1,m2 (hl p hh).2⟩
   ·obtain⟨s0,bv,se⟩:=(c10 (decide (p=q)) cs (val p)).2.2 i s hs
    simp only[Jz]at bv
    refine se ?_
    by_cases ep:p=q
    ·simp only[ep,K5]at bv hv
     exact(n9 i s0 v bv hv).keep c8
    ·have hh:has p=true:=Gt
     simp only[ep,if_false]at bv hv
     exact(hd p i s0 v hh bv hv).keep c8
  ·obtain⟨bl0,e0,sb⟩:=hO.blk j y hj
   refine⟨bl0,by rw[Jb (Ne.symm e)];exact e0,sb.keep c8 (fun c hc=>b26 (fun ec=> ?_))⟩
   subst ec
   exact e (hO.inj j k y _ c hj hμ hc (.inl rfl))
theorem c9g(hE:EnvOK E)(hC:b1u E)(h:SD E B0 X A w0 nt st a w μ){ops:Array Oper}{o:Oper}{pre:Prop}{st':St}(he:g4m E nt ops st o=some (pre,st'))(hp:pre)
 {K:Act→World→Prop} {Q:Exit→Act→World→Prop} (hK:∀a' w' μ',SD E B0 X A w0 nt st' a' w' μ'→K a' w'):
 if Region.wanted o (yielded ops a.tmps)then o.wp E.P a w K Q else K (a.put o.dst undef) w:=by
 unfold g4m at he
 split at he
 ·cases he
 rename_i dy
 have hd:b7m nt o.dst=true:=by simpa using dy
 split at he
 ·rename_i j p jh
  split at he
  rotate_left
  ·cases he
  rename_i d g nc wk
  split at he
  rotate_left
  ·cases he
  rename_i h9
  obtain⟨h9,bb⟩:=h9
  simp only[J3,Ia]at he
  obtain⟨c,hc,⟨p0,s⟩,hs,rfl,rfl⟩:=he
  have fg:d<a.tmps.size:=by rw[h.size];simpa[b7m,nc]using hd
  have hw:=c9v (a:=a) jh wk (by rw[h.size];exact h9)
  split
  ·rename_i g8
   have hb:=hw.1 g8
   have j7:=b8m h.env 5 g p c hc hb
   refine c8f hE hC h (g:=some (g,p)) (fun q b e=>by cases e;exact hb) hs (hp j7) (fun v w' hv bg=>hK _ w' μ ?_)
   have hO:=h.own.calls bg
   have hk:Keeps w w' (held A μ) (held A μ) μ μ:=bg.keeps
   rw[nc]
   refine⟨hO,h.fr.trans ⟨bg.os,bg.tape,bg.output,bg.drawn,bg.size,fun i hi _=>bg.block i (Jd hi h.base) (fun h=>h)⟩,L3 h.base bg.size,b21 hk h.glo,h.dfr,by simp[Act.put,h.size],?_,h.fresh,h.anc⟩
   refine(h.env.keep hk).put fg (fun q b e=>by cases e;exact bb) ?_
   unfold b0d
   simp only
   rw[b23 fg,b23 fg,Iw rfl,Iy bb]
   exact⟨fun _=>hv,fun hn=>absurd hb hn⟩
  ·rename_i g8
   have hb:¬a.tmps.getD g undef=.bool p:=fun hb=>g8 (hw.2 hb)
   refine hK _ w μ ?_
   rw[nc]
   refine⟨h.own,h.fr,h.base,h.glo,h.dfr,by simp[Act.put,h.size],?_,h.fresh,h.anc⟩
   refine h.env.put fg (fun q b e=>by cases e;exact bb) ?_
   unfold b0d
   simp only
   rw[b23 fg,b23 fg,Iw rfl,Iy bb]
   exact⟨fun hh=>absurd hh hb,fun _=>rfl⟩
 ·rename_i jh
  rw[Iw Es]
  have hρ:=h.opds (g:=none) (fun q b e=>E4)
  have soft:∀{s:SV} {pre:Prop},c0x E st none o.op=some (pre,s)→pre→(∀a' w' μ',SD E B0 X A w0 nt {st with ρ:=d2u o.dst none s st.ρ} a' w' μ'→K a' w')→o.wp E.P a w K Q:=by
   intro s pre hs hp hK
   refine c8f hE hC h (g:=none) (fun q b e=>E4) hs hp (fun v w' hv bg=>hK _ w' μ ?_)
   have hk:Keeps w w' (held A μ) (held A μ) μ μ:=bg.keeps
   exact h.put (h.own.calls bg) ⟨bg.os,bg.tape,bg.output,bg.drawn,bg.size,fun i hi _=>bg.block i (Jd hi h.base) (fun h=>h)⟩ (b21 hk h.glo) (h.env.keep hk) h.fresh h.anc hd hv
  have fin:∀{r:Value} {w':World},(execOp a.eval o).run E.P w=.ok (.value r) w'→K (a.put o.dst r) w'→o.wp E.P a w K Q:=by
   intro r w' hr hk
   unfold Oper.wp
   rw[hr]
   exact hk
  split at he
  ·rename_i T p x cn
   simp only[J3]at he
   obtain⟨sp,te,sx,pk,⟨p0,own'⟩,bw,he⟩:=he
   split at he
   rotate_left
   ·cases he
   rename_i fk
   simp only[Ib]at he
   obtain⟨rfl,rfl⟩:=he
   obtain⟨w',hr,ha⟩:=c62 h.own (hρ _ _ te) (hρ _ _ pk) bw hp
   have bi:(execOp a.eval o).run E.P w=.ok .skip w':=by simp[execOp,cn,hr]
   unfold Oper.wp
   rw[bi]
   show K (a.put o.dst undef) w'
   rw[fk]
   have b8:own'.length=st.own.length:=by
    unfold c0d at bw
    simp only[Ii]at bw
    obtain⟨n,hn,us,jd,bw⟩:=bw
    repeat' split at bw
    all_goals first|(cases bw;simp;done)|cases bw
   exact D7
  iterate 4
   ·rename_i cn
    simp only[Ia]at he
    obtain⟨⟨p0,s,b⟩,hn,rfl,rfl⟩:=he
    obtain⟨r,w',μ',hr,ha,hμ,hv⟩:=d3a (h.own.more (own':=st.own++[b]) c2y) h.base (h.fresh _ (J2 _)) hρ hn hp Dv
    refine fin hr (hK _ w' μ' ?_)
    refine h.put ha.own ha.fr (b21 ha.keeps h.glo) (h.env.keep ha.keeps) (fun k hk=> ?_) (fun j x hx=>ha.keeps.own _ _ (h.anc j x hx)) hd hv
    simp only[Ig]at hk
    rw[hμ k Dt]
    exact h.fresh k Dt
  ·rename_i T r cn
   simp only[Ia]at he
   obtain⟨b,hn,rfl,rfl⟩:=he
   obtain⟨r,w',μ',hr,ha,hμ,hv⟩:=b9n hE (h.own.more (own':=st.own++[b]) c2y) h.base (h.fresh _ (J2 _)) hρ cn hn Dv
   refine fin hr (hK _ w' μ' ?_)
   refine h.put ha.own ha.fr (b21 ha.keeps h.glo) (h.env.keep ha.keeps) (fun k hk=> ?_) (fun j x hx=>ha.keeps.own _ _ (h.anc j x hx)) hd hv
   simp only[Ig]at hk
   rw[hμ k Dt]
   exact h.fresh k Dt
  iterate 2
   ·rename_i T m k x cn
    simp only[J3]at he
    obtain⟨sm,Mq,sk,dz,sx,pk,own',wm,he⟩:=he
    split at he
    rotate_left
    ·cases he
    rename_i fk
    simp only[Ib]at he
    obtain⟨rfl,rfl⟩:=he
    obtain⟨w',hr,ha,b8⟩:=d2j hE h.own (hρ _ _ Mq) (hρ _ _ dz) (hρ _ _ pk) wm
    have bi:(execOp a.eval o).run E.P w=.ok .skip w':=by simp[execOp,cn,hr]
    unfold Oper.wp
    rw[bi]
    show K (a.put o.dst undef) w'
    rw[fk]
    exact D7
  ·rename_i x y T U cn
   split at he
   rotate_left
   ·cases he
   rename_i hTU
   subst hTU
   simp only[J3]at he
   obtain⟨sx,pk,sy,hsy,⟨p0,k,own',new⟩,j9,he⟩:=he
   split at he
   ·cases he
   rename_i pm
   simp only[Ib]at he
   obtain⟨rfl,rfl⟩:=he
   obtain⟨r,w',μ',hr,hv,hafter⟩:=d39 (ty:=o.type) h.own h.base (h.fresh _ (J2 _)) (hρ _ _ pk) (hρ _ _ hsy) j9 hp
   have bi:(execOp a.eval o).run E.P w=.ok (.value r) w':=by
    simp only[execOp,cn,resolve,Ic,invoke,builtin]
    rw[show (⟨[x,y]⟩:Array Operand).map a.eval= #[a.eval x,a.eval y]from Dv,hr]
    simp
   have b8:new=true∧own'.length=st.own.length+1∨new=false∧own'.length=st.own.length∧k<st.own.length:=by
    simp only[c4k,J3]at j9
    obtain⟨e,_,inf,_,z,_,mg,_,j9⟩:=j9
    split at j9
    rotate_left
    ·cases j9
    unfold d2g at j9
    split at j9
    ·cases j9;exact .inl ⟨rfl,Dv⟩
    ·split at j9
     ·simp only[Ib]at j9
      obtain⟨_,rfl,rfl,rfl⟩:=j9
      exact .inl ⟨rfl,Dv⟩
     ·cases j9
    ·split at j9
     ·rename_i hk
      split at j9
      ·cases j9;exact .inr ⟨rfl,Dv,(Iz.1 hk).1⟩
      ·cases j9
     ·cases j9
    ·cases j9
   refine fin bi (hK _ w' μ' ?_)
   rcases hafter with⟨rfl,ha,hμ⟩|⟨rfl,ha,hμ⟩
   ·refine h.put ha.own ha.fr (b21 ha.keeps h.glo) (h.env.keep ha.keeps) (fun j hj=> ?_) (fun j x hx=>ha.keeps.own _ _ (h.anc j x hx)) hd hv
    rcases b8 with⟨_,hl⟩|⟨hf,_⟩
    ·rw[hμ j Dt]
     exact C7
    ·cases hf
   ·have pj:∀j x,E.an j=some x→j=k→False:=fun j x hx e=>pm (by subst e;simp[Env.an_ak hx])
    refine h.put ha.own ha.fr (b91 ha.keeps h.glo) (h.env.change ha.keeps) (fun j hj=> ?_) (fun j x hx=>ha.keeps.own _ _ (fun e=>pj j x hx Er) (h.anc j x hx)) hd hv
    rcases b8 with⟨hf,_⟩|⟨_,hl,m8⟩
    ·cases hf
    ·rw[hμ j Dt]
     exact C7
  ·rename_i T x lo hi cn
   split at he
   ·rename_i k pk
    simp only[J3]at he
    obtain⟨⟨p0,own'⟩,hrs,he⟩:=he
    split at he
    ·cases he
    rename_i pm
    simp only[Ib]at he
    obtain⟨rfl,rfl⟩:=he
    have opt:∀y:Option Operand,DO w (held A μ) μ (g07 (opd E st.ρ none) y) (y.map a.eval):=by
     intro y
     cases y with
     |none=>simp[DO,g07]
     |some y=>
      simp only[g07,K7]
      cases hy:opd E st.ρ none y with
      |none=>simp[DO]
      |some s=>simpa[DO]using hρ _ _ hy
    obtain⟨r,μ',hr,hv,ha,b8,hk,hμ⟩:=d26 h.own h.base (hρ _ _ pk) (opt lo) (opt hi) hrs hp
    have bi:(execOp a.eval o).run E.P w=.ok (.value r) w:=by simp[execOp,cn,hr]
    have pj:∀j x,E.an j=some x→j=k→False:=fun j x hx e=>pm (by subst e;simp[Env.an_ak hx])
    refine fin bi (hK _ w μ' ?_)
    refine h.put ha.own ha.fr (b91 ha.keeps h.glo) (h.env.change ha.keeps) (fun j hj=> ?_) (fun j x hx=>ha.keeps.own _ _ (fun e=>pj j x hx Er) (h.anc j x hx)) hd hv
    rw[b8]at hj
    rw[hμ j Dt]
    exact C7
   ·simp only[Ia]at he
    obtain⟨⟨p0,s⟩,hs,rfl,rfl⟩:=he
    rw[←cn]at hs
    exact soft hs hp hK
  ·simp only[Ia]at he
   obtain⟨⟨p0,s⟩,hs,rfl,rfl⟩:=he
   exact soft hs hp hK
end
end Go.Proofs.YtdblhepcmjecgaaGreatDoor.V
