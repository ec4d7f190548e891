/- Laws that the proof stands on. -/
set_option linter.all false
namespace Go
def xAv:=@Option.some.injEq
def xAw:=@List.length_map
def xAx:=@Option.map_some
def xAy:=@List.getElem?_map
def xAz:=@Int.toNat_natCast
def xA0:=@Int.natCast_nonneg
def xA1:=@List.getElem?_eq_getElem
def xA2:=@Bool.and_eq_true
def xA3:=@List.getD_eq_getElem?_getD
def xA4:=@List.getElem?_eq_some_iff
def xA5:=@List.nodup_append
def xA6:=@List.map_cons
def xA7:=@Int.ofNat_lt
def xA8:=@List.set_cons_zero
def xA9:=@List.getElem?_set_ne
def xBa:=@Bool.false_eq_true
def xBb:=@List.getElem?_cons_zero
def xBc:=@List.set_cons_succ
def xBd:=@Prod.mk.injEq
def xBe:=@Array.getElem?_setIfInBounds_ne
def xBf:=@List.mem_append
def xBg:=@Array.getElem?_eq_some_iff
def xBh:=@List.getElem?_cons_succ
def xBi:=@List.cons_append
def xBj:=@Nat.le_refl
def xBk:=@List.length_cons
def xBl:=@List.map_nil
def xBm:=@List.all_cons
def xBn:=@List.take_succ_cons
def xBo:=@List.map_append
def xBp:=@List.nil_append
def xBq:=@List.getElem?_set_self
def xBr:=@Bool.not_true
def xBs:=@List.mem_cons
def xBt:=@List.drop_succ_cons
def xBu:=@Array.getElem?_eq_getElem
def xBv:=@List.replicate_succ
def xBw:=@List.append_nil
def xBx:=@List.all_eq_true
def xBy:=@List.length_nil
def xBz:=@List.replicate_zero
def xB0:=@Option.isSome_none
def xB1:=@List.mem_map
def xB2:=@Nat.zero_add
def xB3:=@List.getElem_mem
def xB4:=@Array.getElem?_setIfInBounds_self_of_lt
def xB5:=@Option.isSome_some
def xB6:=@List.flatMap_cons
def xB7:=@Bool.not_false
def xB8:=@List.nodup_cons
def xB9:=@Bool.not_eq_true
def xCa:=@List.mem_singleton
def xCb:=@List.eq_nil_of_length_eq_zero
def xCc:=@List.mem_cons_of_mem
def xCd:=@List.take_succ_eq_append_getElem
def xCe:=@List.append_of_mem
def xCf:=@List.reverse_nil
def xCg:=@List.flatMap_nil
def xCh:=@List.getElem?_append_left
def xCi:=@List.drop_zero
def xCj:=@Nat.lt_of_lt_of_le
def xCk:=@Option.map_none
def xCl:=@List.take_zero
def xCm:=@Bool.and_false
def xCn:=@List.headD_cons
def xCo:=@List.cons.injEq
def xCp:=@Bool.and_true
def xCq:=@Bool.false_and
def xCr:=@Array.getElem?_eq_none
def xCs:=@Nat.zero_le
def xCt:=@List.mem_append_left
def xCu:=@Bool.true_and
def xCv:=@Bool.or_false
def xCw:=@Array.ext_getElem?
def xCx:=@Bool.or_true
def xCy:=@List.getElem?_eq_none
def xCz:=@List.getElem?_append_right
def xC0:=@Bool.false_or
def xC1:=@Bool.and_self
def xC2:=@List.nodup_nil
def xC3:=@List.mem_append_right
def xC4:=@List.length_append
def xC5:=@Bool.true_or
def xC6:=@Array.getD_eq_getD_getElem?
def xC7:=@List.all_nil
def xC8:=@Nat.add_mul
def xC9:=@Option.map_eq_some_iff
def xDa:=@Array.getElem?_toList
def xDb:=@List.getElem?_drop
def xDc:=@List.ext_getElem?
def xDd:=@Option.getD_some
def xDe:=@List.mem_range
def xDf:=@List.Sublist.refl
def xDg:=@List.take_of_length_le
def xDh:=@List.length_take
def xDi:=@List.mem_of_getElem?
def xDj:=@List.take_length
def xDk:=@Bool.or_eq_true
def xDl:=@List.map_map
def xDm:=@List.foldl_cons
def xDn:=@List.append_assoc
def xDo:=@Array.getElem?_append_left
def xDp:=@Nat.add_assoc
def xDq:=@Option.bind_some
def xDr:=@List.any_eq_true
def xDs:=@Nat.one_mul
def xDt:=@List.getElem?_take
def xDu:=@Nat.lt_succ_iff_lt_or_eq
def xDv:=@Array.getElem?_modify
def xDw:=@Nat.lt_irrefl
def xDx:=@List.foldl_append
def xDy:=@Bool.not_eq_true'
def xDz:=@List.isPrefixOf_iff_prefix
def xD0:=@Nat.mul_le_mul_right
def xD1:=@List.mem_cons_self
def xD2:=@List.append_eq_nil_iff
def xD3:=@List.mem_of_find?_eq_some
def xD4:=@List.prefix_refl
def xD5:=@List.map_congr_left
def xD6:=@Array.length_toList
def xD7:=@Option.map_map
def xD8:=@Nat.add_sub_cancel_left
def xD9:=@List.length_set
def xEa:=@List.getElem?_eq_none_iff
def xEb:=@List.findIdx?_eq_none_iff
def xEc:=@Nat.le_trans
def xEd:=@List.range_succ
def xEe:=@Int.cast_ofNat_Int
def xEf:=@Nat.mod_eq_of_lt
def xEg:=@Nat.lt_of_not_le
def xEh:=@List.length_drop
def xEi:=@Bool.or_eq_false_iff
def xEj:=@Array.getElem?_setIfInBounds
def xEk:=@Nat.add_zero
def xEl:=@List.map_eq_nil_iff
def xEm:=@Int.natCast_zero
def xEn:=@List.findIdx?_eq_some_iff_getElem
def xEo:=@List.mem_filter
def xEp:=@Int.natCast_one
def xEq:=@Bool.eq_iff_iff
def xEr:=@Int.ofNat_le
def xEs:=@List.getElem?_replicate
def xEt:=@List.getElem?_range
def xEu:=@List.nil_sublist
def xEv:=@Int.toNat_zero
def xEw:=@List.zip_cons_cons
def xEx:=@List.pairwise_cons
def xEy:=@List.find?_eq_none
def xEz:=@Nat.mul_comm
def xE0:=@Nat.mul_add_div
def xE1:=@Nat.div_lt_iff_lt_mul
def xE2:=@Nat.add_comm
def xE3:=@List.set_set
def xE4:=@List.length_singleton
def xE5:=@List.length_replicate
def xE6:=@List.idxOf_lt_length_of_mem
def xE7:=@List.find?_some
def xE8:=@List.idxOf_append
def xE9:=@Array.toList_setIfInBounds
def xFa:=@List.mem_erase_of_ne
def xFb:=@List.pairwise_iff_getElem
def xFc:=@List.mem_or_eq_of_mem_set
def xFd:=@Array.mapM_eq_mapM_toList
def xFe:=@Array.getElem_modify_self
def xFf:=@Nat.div_eq_of_lt
def xFg:=@List.getElem_map
def xFh:=@Array.toList_map
def xFi:=@List.mem_map_of_mem
def xFj:=@List.length_reverse
def xFk:=@List.getElem_of_mem
def xFl:=@Bool.or_eq_true_iff
def xFm:=@Option.isSome_iff_exists
def xFn:=@Nat.sub_zero
def xFo:=@List.length_erase_of_mem
def xFp:=@Nat.le_mul_of_pos_right
def xFq:=@List.length_eq_zero_iff
def xFr:=@List.getElem_idxOf
def xFs:=@List.all_append
def xFt:=@Array.all_eq_true_iff_forall_mem
def xFu:=@List.pairwise_map
def xFv:=@Int.le_refl
def xFw:=@List.drop_drop
def xFx:=@Nat.zero_mul
def xFy:=@Bool.and_eq_false_iff
def xFz:=@List.mem_zipIdx_iff_getElem?
def xF0:=@Array.ext'
def xF1:=@Nat.mul_add_mod
def xF2:=@Array.getElem?_push
def xF3:=@Int.tmod_eq_emod_of_nonneg
def xF4:=@Int.tdiv_eq_ediv_of_nonneg
def xF5:=@Nat.pos_of_ne_zero
def xF6:=@Nat.mul_div_cancel
def xF7:=@Nat.lt_or_ge
def xF8:=@List.prefix_append
def xF9:=@List.mem_filterMap
def xGa:=@List.map_set
def xGb:=@List.map_replicate
def xGc:=@Option.isNone_iff_eq_none
def xGd:=@List.mem_take_iff_getElem
def xGe:=@List.drop_eq_getElem_cons
def xGf:=@List.size_toArray
def xGg:=@List.set_eq_of_length_le
def xGh:=@List.getElem?_take_of_lt
def xGi:=@List.getElem?_set
def xGj:=@List.eq_of_mem_replicate
def xGk:=@List.Pairwise.imp_of_mem
def xGl:=@Array.size_modify
def xGm:=@List.sum_cons
def xGn:=@Option.bind_none
def xGo:=@Nat.mul_mod_left
def xGp:=@List.take_append
def xGq:=@List.not_mem_nil
def xGr:=@List.nodup_range
def xGs:=@List.mem_reverse
def xGt:=@List.map_toArray
def xGu:=@List.drop_append
def xGv:=@Int.max_eq_right
def xGw:=@Nat.le_mul_of_pos_left
def xGx:=@List.length_pos_of_mem
def xGy:=@List.drop_of_length_le
def xGz:=@List.drop_eq_nil_of_le
def xG0:=@Bool.not_not
def xG1:=@Nat.mul_le_mul
def xG2:=@Bool.and_comm
theorem qAa{p:Prop}(h:p:=by (try simp -implicitDefEqProofs only [zVy,zVx,zRm,zRp,zRq,zRn,and_self,and_true,true_and])<;>repeat' (first | exact zOm rfl | exact zSx | apply And.intro | apply yA9 | apply zLc | apply zKk | exact zOo | exact zOp | apply zSy | apply zSz)):p:=h
theorem qAb{p:Prop}(h:p:=by simp -implicitDefEqProofs (disch:=omega) only [go_sem,↓reduceIte,deep,TD.rows,zAw,zAt,zA0,zAs,zAv,zAq];exact rfl):p:=h
theorem qAc{p:Prop}(h:p:=by omega):p:=h
theorem qAd{p:Prop}(h:p:=by simp -implicitDefEqProofs (disch:=omega) only [go_sem,↓reduceIte];exact rfl):p:=h
theorem qAe{p:Prop}(h:p:=by simp -implicitDefEqProofs (disch:=omega) only [go_sem,↓reduceIte,deep,TD.rows,zAw,zAt,zA0,zAs,zAv,zAq,h1];exact rfl):p:=h
theorem qAf{p:Prop}(h:p:=by simp -implicitDefEqProofs (disch:=omega) only [go_sem,↓reduceIte,deep,TD.rows,zAw,zAt,zA0,zAs,zAv,zAq,h];exact rfl):p:=h
theorem qAg{p:Prop}(h:p:=by simpa using hlt):p:=h
theorem qAh{p:Prop}(h:p:=by simp):p:=h
theorem qAi{p:Prop}(h:p:=by simp [hx]):p:=h
theorem qAj{p:Prop}(h:p:=by rw [hnx,eL,eB];unfold yNj;rw [if_neg (by rw [hkn];exact hk),hkn,hgp]):p:=h
theorem qAk{p:Prop}(h:p:=by simp -implicitDefEqProofs (disch:=omega) only [go_sem,↓reduceIte,deep,TD.rows,zAw,zAt,zA0,zAs,zAv,zAq,hc];exact rfl):p:=h
theorem qAl{p:Prop}(h:p:=by rw [hnx,eL,eB];unfold yNj;rw [if_pos (by rw [hkn];exact hk)]):p:=h
theorem qAm{p:Prop}(h:p:=by rcases hb with h | h<;>simp [h]):p:=h
theorem qAn{p:Prop}(h:p:=by simp only [execOp,ho,resolve,Sem.run_bind];rw [show a.eval (.func f)=.func (.func f) #[] #[] from rfl,hm];simp [Deferred.ofValue,invoke,hC]):p:=h
theorem qAo{p:Prop}(h:p:=by simp -implicitDefEqProofs (disch:=omega) only [go_sem,↓reduceIte,deep,TD.rows,zAw,zAt,zA0,zAs,zAv,zAq,hc,List.length_map,Int.toNat_natCast];exact rfl):p:=h
theorem qAp{p:Prop}(h:p:=by simpa using hi):p:=h
theorem qAq{p:Prop}(h:p:=by simp -implicitDefEqProofs (disch:=omega) only [go_sem,↓reduceIte,deep,TD.rows,zAw,zAt,zA0,zAs,zAv,zAq,h2,List.length_map,h3'];exact rfl):p:=h
theorem qAr{p:Prop}(h:p:=by simp -implicitDefEqProofs (disch:=omega) only [go_sem,↓reduceIte,deep,TD.rows,zAw,zAt,zA0,zAs,zAv,zAq,h2];exact rfl):p:=h
theorem qAs{p:Prop}(h:p:=by simp [Region.wanted,hgo,hy,hbw]):p:=h
theorem qAt{p:Prop}(h:p:=by simp only [execOp,ho,resolve,Sem.run_bind];rw [show a.eval (.func f)=.func (.func f) #[] #[] from rfl,hm];simp [Deferred.ofValue,invoke,hC.1]):p:=h
theorem qAu{p:Prop}(h:p:=by simp [VOp.framed]):p:=h
theorem qAv{p:Prop}(h:p:=by simp [zAd] at hq;omega):p:=h
theorem qAw{p:Prop}(h:p:=by simp;omega):p:=h
theorem qAx{p:Prop}(h:p:=by decide):p:=h
theorem qAy{p:Prop}(h:p:=by simp [zAx,hlt]):p:=h
theorem qAz{p:Prop}(h:p:=by apply Array.ext';simp):p:=h
theorem qA0{p:Prop}(h:p:=by have htt':=htt;simp only [T] at htt';obtain ⟨bb,_,_,_,hub,_⟩:=htt';rw [hub] at k6;simp only [zBa,Option.some.injEq,Prod.mk.injEq] at k6;obtain ⟨rfl,rfl⟩:=k6;rw [k7,hub];simp):p:=h
theorem qA1{p:Prop}(h:p:=by simpa using h1):p:=h
theorem qA2{p:Prop}(h:p:=by simp -implicitDefEqProofs (disch:=omega) only [go_sem,↓reduceIte,deep,TD.rows,zAw,zAt,zA0,zAs,zAv,zAq,zB0,wrN];exact rfl):p:=h
theorem qA3{p:Prop}(h:p:=by simp -implicitDefEqProofs (disch:=omega) only [go_sem,↓reduceIte,deep,TD.rows,zAw,zAt,zA0,zAs,zAv,zAq,zWl,Bool.not_not,h4];exact rfl):p:=h
theorem qA4{p:Prop}(h:p:=by simp -implicitDefEqProofs (disch:=omega) only [go_sem,↓reduceIte,deep,TD.rows,zAw,zAt,zA0,zAs,zAv,zAq,zCw];exact rfl):p:=h
theorem qA5{p:Prop}(h:p:=by simp -implicitDefEqProofs (disch:=omega) only [go_sem,↓reduceIte,deep,TD.rows,zAw,zAt,zA0,zAs,zAv,zAq,zCx];exact rfl):p:=h
theorem qA6{p:Prop}(h:p:=by simp -implicitDefEqProofs (disch:=omega) only [go_sem,↓reduceIte,deep,TD.rows,zAw,zAt,zA0,zAs,zAv,zAq,List.length_map];exact rfl):p:=h
theorem qA7{p:Prop}(h:p:=by simp -implicitDefEqProofs (disch:=omega) only [go_sem,↓reduceIte,deep,TD.rows,zAw,zAt,zA0,zAs,zAv,zAq,frz,D.imm,zL7];exact rfl):p:=h
theorem qA8{p:Prop}(h:p:=by simp -implicitDefEqProofs (disch:=omega) only [go_sem,↓reduceIte,deep,TD.rows,zAw,zAt,zA0,zAs,zAv,zAq,hx,hno];exact rfl):p:=h
theorem qA9{p:Prop}(h:p:=by simp [hy]):p:=h
theorem qBa{p:Prop}(h:p:=by simp -implicitDefEqProofs (disch:=omega) only [go_sem,↓reduceIte,deep,TD.rows,zAw,zAt,zA0,zAs,zAv,zAq,hok];exact rfl):p:=h
theorem qBb{p:Prop}(h:p:=by simp -implicitDefEqProofs (disch:=omega) only [go_sem,↓reduceIte,deep,TD.rows,zAw,zAt,zA0,zAs,zAv,zAq,hr];exact rfl):p:=h
theorem qBc{p:Prop}(h:p:=by simp -implicitDefEqProofs (disch:=omega) only [go_sem,↓reduceIte,deep,TD.rows,zAw,zAt,zA0,zAs,zAv,zAq,h4];exact rfl):p:=h
theorem qBd{p:Prop}(h:p:=by simp -implicitDefEqProofs (disch:=omega) only [go_sem,↓reduceIte,deep,TD.rows,zAw,zAt,zA0,zAs,zAv,zAq,h3];exact rfl):p:=h
theorem qBe{p:Prop}(h:p:=by simp -implicitDefEqProofs (disch:=omega) only [go_sem,↓reduceIte,deep,TD.rows,zAw,zAt,zA0,zAs,zAv,zAq,d0];exact rfl):p:=h
theorem qBf{p:Prop}(h:p:=by simpa only [zHe] using hx):p:=h
theorem qBg{p:Prop}(h:p:=by simp [hb]):p:=h
theorem qBh{p:Prop}(h:p:=by unfold zLj;rw [if_pos hb];simp only [hbf]):p:=h
theorem qBi{p:Prop}(h:p:=by simp [T]):p:=h
theorem qBj{p:Prop}(h:p:=by simpa using hr):p:=h
theorem qBk{p:Prop}(h:p:=by simpa using hj):p:=h
theorem qBl{p:Prop}(h:p:=by simpa using hc):p:=h
theorem qBm{p:Prop}(h:p:=by rintro rfl;exact hr (h.disj r1 r x hx (by rw [hF];simp [hbA]))):p:=h
theorem qBn{p:Prop}(h:p:=by rw [eF];exact List.mem_append_right _ hb):p:=h
theorem qBo{p:Prop}(h:p:=by rw [eF];exact List.mem_append_left _ hb):p:=h
theorem qBp{p:Prop}(h:p:=by simpa using h):p:=h
theorem qBq{p:Prop}(h:p:=by simpa [zBn] using hq):p:=h
theorem qBr{p:Prop}(h:p:=by unfold yHu;rw [hs];exact .inl ⟨rfl,.inr hx,he,rfl,rfl⟩):p:=h
theorem qBs{p:Prop}(h:p:=by simp [Region.wanted,hgo,hy]):p:=h
theorem qBt{p:Prop}(h:p:=by unfold zLj;rw [if_neg hb]):p:=h
theorem qBu{p:Prop}(h:p:=by rw [decide_eq_false_iff_not];omega):p:=h
theorem qBv{p:Prop}(h:p:=by apply Nat.lt_of_not_le;intro hle;obtain ⟨j,hj,hjS⟩:=hex;rw [hb j (htail i hle hilt j hj)] at hjS;cases hjS):p:=h
theorem qBw{p:Prop}(h:p:=by rw [← yVj hnl,List.map_set]):p:=h
theorem qBx{p:Prop}(h:p:=by simp [Region.wanted,hgo]):p:=h
theorem qBy{p:Prop}(h:p:=by simpa [List.map_map,Function.comp_def] using hle):p:=h
theorem qBz{p:Prop}(h:p:=by have:=congrArg (List.map (·.2)) hps;simpa [List.map_map,Function.comp_def] using this):p:=h
theorem qB0{p:Prop}(h:p:=by have:=congrArg (List.map (·.1)) hps;simpa [List.map_map,Function.comp_def] using this):p:=h
theorem qB1{p:Prop}(h:p:=by simpa [zFu,hd,hbase,hi,hj,hcl] using ha):p:=h
theorem qB2{p:Prop}(h:p:=by rintro rfl;rcases hz with hz | hz | hz;exact hb'I hz;exact hb'o.1 hz;exact hb'o.2 hz):p:=h
theorem qB3{p:Prop}(h:p:=by rintro rfl;rcases hy with hy | hy | hy;exact hbI hy;exact hbn.1 hy;exact hbn.2.2 hy):p:=h
theorem qB4{p:Prop}(h:p:=by unfold upd;rw [if_pos rfl]):p:=h
theorem qB5{p:Prop}(h:p:=by unfold upd;exact hm):p:=h
theorem qB6{p:Prop}(h:p:=by unfold maxLen;omega):p:=h
theorem qB7{p:Prop}(h:p:=by simp [hbA]):p:=h
theorem qB8{p:Prop}(h:p:=by unfold zE6;rw [List.all_eq_true];exact fun z hz=>hrows z (by simpa using hz)):p:=h
theorem qB9{p:Prop}(h:p:=by unfold zCp;simp;omega):p:=h
theorem qCa{p:Prop}(h:p:=by rw [hl,Nat.add_mul];omega):p:=h
theorem qCb{p:Prop}(h:p:=by simp only [D.noImm,zBm,go_sem,TD.nims,TD.nim,zOr,zIt,zIs,zOq]):p:=h
theorem qCc{p:Prop}(h:p:=by have:=(List.nodup_cons.1 hnd).1;simp at this;exact ⟨this.1,this.2.1,this.2.2⟩):p:=h
theorem qCd{p:Prop}(h:p:=by rw [hi];rfl):p:=h
theorem qCe{p:Prop}(h:p:=by simp [hF]):p:=h
theorem qCf{p:Prop}(h:p:=by simp [Op.equalIn,run_underlying hu];try (by_cases hmn:m=n' <;> simp [hmn])):p:=h
theorem qCg{p:Prop}(h:p:=by unfold upd at hr ⊢;rw [if_neg hrr] at hr ⊢;rw [if_neg hrr] at hr;exact hr):p:=h
theorem qCh{p:Prop}(h:p:=by simp [hF',hb]):p:=h
theorem qCi{p:Prop}(h:p:=by rw [show (zG9 d.Pieces (zBk d y) 0).west=d.Left[y] from hw];exact qAa):p:=h
theorem qCj{p:Prop}(h:p:=by rcases hx with h | h | h<;>simp [h]):p:=h
theorem qCk{p:Prop}(h:p:=by rw [h.len];omega):p:=h
theorem qCl{p:Prop}(h:p:=by unfold isAgg;rw [Sem.run_bind,run_underlying hu w];cases d<;>simp_all):p:=h
theorem qCm{p:Prop}(h:p:=by simp only [T];exact ⟨rfl,trivial⟩):p:=h
theorem qCn{p:Prop}(h:p:=by rw [hE];simp):p:=h
theorem qCo{p:Prop}(h:p:=by unfold zWn;rw [htk];simp only [hsl];exact ⟨h1,hno,trivial,trivial⟩):p:=h
theorem qCp{p:Prop}(h:p:=by simp only [hset];simp):p:=h
theorem qCq{p:Prop}(h:p:=by simp [execOp,ho,Instr.alloc,zeroValue,typeInfo,hi,hz,newVar,newRow]):p:=h
theorem qCr{p:Prop}(h:p:=by have hm:Array.map a.eval xs=(List.map a.eval xs.toList).toArray:=qAz;simp only [execOp,ho,resolve,Sem.run_bind,hu,hm];simp [Deferred.ofValue,invoke,hC]):p:=h
theorem qCs{p:Prop}(h:p:=by have:¬ i<d.Pieces.length:=qAg;omega):p:=h
theorem qCt{p:Prop}(h:p:=by have:¬ i<ks.length:=qAg;omega):p:=h
end Go
