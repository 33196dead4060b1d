/- Marks on texts. -/
import Derived.Test.YtockalkgjoaicaaM3
import Derived.Test.YtockalkgjoaicaaT3
set_option linter.unusedVariables false
set_option linter.unusedSimpArgs false
set_option maxHeartbeats 2000000
namespace Go.Proofs.Ytockalkgjoaicaa
open Go Go.RowKit Sym

/-- Texts that are marked. -/
def markSs (k : Int) : Nat → List ByteArray
  | 0 => []
  | n + 1 => mtext k :: markSs (k + 1) n
theorem markSs_length : ∀ (k : Int) (n : Nat),(markSs k n).length = n
  | _,0 => rfl
  | k,n + 1 => by simp [markSs,markSs_length]
theorem markSs_get : ∀ (k : Int) (n i : Nat),i < n → (markSs k n)[i]? = some (mtext (k + i))
  | _,0,i,h => by omega
  | k,n + 1,0,_ => by simp [markSs]
  | k,n + 1,i + 1,h => by
    rw [markSs,List.getElem?_cons_succ,markSs_get (k + 1) n i (by omega)]
    congr 2
    push_cast
    omega
theorem heldStringS_ct (n : Nat) (k : Int) (h0 : 0 ≤ k) (h1 : k + n ≤ 4611686018427387904) : Ct Try.prog 20 [.d false (.sl (encStr (markSs k n))),.d false (.int .i64 k)] (.d true (.int .i64 (k + n))):=by
  refine Ct.own ?_ rfl
  refine ok20.ct mo Try.func20 (by simp) rfl fun hok => ?_
  have hs : n ≤ 140737488355328:=by simp only [A.OkL,A.Ok,D.Ok,encStr_length,markSs_length] at hok;exact hok.1.1
  unfold ac20
  repeat first|refine s_seq fun K hK => ?_|(refine s_region ?_;simp only [go_sem,Int.reduceToNat,Int.reduceEq,Nat.reduceAdd,Nat.reduceBEq,Nat.reduceLeDiff,Nat.reduceLT,Int.reduceLT,Int.reduceLE,Int.reduceNeg,reduceCtorEq])|(refine s_tree ?_;simp only [go_sem,Int.reduceToNat,Int.reduceEq,Nat.reduceAdd,Nat.reduceBEq,Nat.reduceLeDiff,Nat.reduceLT,Int.reduceLT,Int.reduceLE,Int.reduceNeg,reduceCtorEq])|(refine s_draw ?_;simp only [go_sem,Int.reduceToNat,Int.reduceEq,Nat.reduceAdd,Nat.reduceBEq,Nat.reduceLeDiff,Nat.reduceLT,Int.reduceLT,Int.reduceLE,Int.reduceNeg,reduceCtorEq])|(first|(refine hK _ ?_;clear hK K)|(clear hK K;refine hK _ ?_;clear hK K)|(clear hK K;clear hK K;refine hK _ ?_;clear hK K))|simp only [Bool.not_true,Bool.not_false,Bool.false_eq_true,Bool.true_eq_false,reduceCtorEq,false_implies,true_implies,true_and,and_true,X.ev,lkp,cond_true,cond_false,nbeq,beq_self_eq_true,Nat.reduceBEq,awp_skip,awp_ret,awp_exit,awp_block,awp_cond,thenK_norm,thenK_ret,thenK_exit,blockK_norm,blockK_ret,blockK_exit]|simp only [go_sem,Int.reduceToNat,Int.reduceEq,Nat.reduceAdd,Nat.reduceBEq,Nat.reduceLeDiff,Nat.reduceLT,Int.reduceLT,Int.reduceLE,Int.reduceNeg,reduceCtorEq]
  refine s_loop { i : Nat // i ≤ n } (fun i => ⟨[(0,.d false (.sl (encStr (markSs k n)))),(1,.d false (.int .i64 (k + i.1))),(5,.d true (.int .i64 i.1))],[]⟩) (fun i => n - i.1) ⟨0,Nat.zero_le _⟩ ?_ ?_
  · simp [StLe,leT,leH,A.Le,A.LeL,O.Le,lkp,freeT,freeH,A.free,A.freeL,cond_true,cond_false,nbeq,nble,nblt,decide_true,decide_false,Nat.reduceLT,Nat.reduceBEq,true_and,and_true,List.length_cons,List.length_nil,true_implies,and_self,Bool.and_true,Bool.true_and,Bool.and_self]
  · rintro ⟨i,hi⟩ K1 hK1
    simp only
    repeat first|refine s_seq fun K hK => ?_|(refine s_region ?_;simp only [go_sem,Int.reduceToNat,Int.reduceEq,Nat.reduceAdd,Nat.reduceBEq,Nat.reduceLeDiff,Nat.reduceLT,Int.reduceLT,Int.reduceLE,Int.reduceNeg,reduceCtorEq,encStr_length,markSs_length])|(refine s_tree ?_;simp only [go_sem,Int.reduceToNat,Int.reduceEq,Nat.reduceAdd,Nat.reduceBEq,Nat.reduceLeDiff,Nat.reduceLT,Int.reduceLT,Int.reduceLE,Int.reduceNeg,reduceCtorEq,encStr_length,markSs_length])|(refine s_draw ?_;simp only [go_sem,Int.reduceToNat,Int.reduceEq,Nat.reduceAdd,Nat.reduceBEq,Nat.reduceLeDiff,Nat.reduceLT,Int.reduceLT,Int.reduceLE,Int.reduceNeg,reduceCtorEq,encStr_length,markSs_length])|(first|(refine hK _ ?_;clear hK K)|(clear hK K;refine hK _ ?_;clear hK K)|(clear hK K;clear hK K;refine hK _ ?_;clear hK K))|simp only [Bool.not_true,Bool.not_false,Bool.false_eq_true,Bool.true_eq_false,reduceCtorEq,false_implies,true_implies,true_and,and_true,X.ev,lkp,cond_true,cond_false,nbeq,beq_self_eq_true,Nat.reduceBEq,awp_skip,awp_ret,awp_exit,awp_block,awp_cond,thenK_norm,thenK_ret,thenK_exit,blockK_norm,blockK_ret,blockK_exit,encStr_length,markSs_length]|simp only [go_sem,Int.reduceToNat,Int.reduceEq,Nat.reduceAdd,Nat.reduceBEq,Nat.reduceLeDiff,Nat.reduceLT,Int.reduceLT,Int.reduceLE,Int.reduceNeg,reduceCtorEq,encStr_length,markSs_length]
    refine ⟨fun hc => ?_,fun hc => ?_⟩
    · have hlt : i < n:=by simpa using hc
      have hget:=markSs_get k n i hlt
      repeat first|refine s_seq fun K hK => ?_|(refine s_region ?_;simp only [go_sem,Int.reduceToNat,Int.reduceEq,Nat.reduceAdd,Nat.reduceBEq,Nat.reduceLeDiff,Nat.reduceLT,Int.reduceLT,Int.reduceLE,Int.reduceNeg,reduceCtorEq,encStr_length,markSs_length,Int.toNat_natCast,encStr_getD _ i _ hget])|(refine s_tree ?_;simp only [go_sem,Int.reduceToNat,Int.reduceEq,Nat.reduceAdd,Nat.reduceBEq,Nat.reduceLeDiff,Nat.reduceLT,Int.reduceLT,Int.reduceLE,Int.reduceNeg,reduceCtorEq,encStr_length,markSs_length,Int.toNat_natCast,encStr_getD _ i _ hget])|(refine s_draw ?_;simp only [go_sem,Int.reduceToNat,Int.reduceEq,Nat.reduceAdd,Nat.reduceBEq,Nat.reduceLeDiff,Nat.reduceLT,Int.reduceLT,Int.reduceLE,Int.reduceNeg,reduceCtorEq,encStr_length,markSs_length,Int.toNat_natCast,encStr_getD _ i _ hget])|(first|(refine hK _ ?_;clear hK K)|(clear hK K;refine hK _ ?_;clear hK K)|(clear hK K;clear hK K;refine hK _ ?_;clear hK K))|simp only [Bool.not_true,Bool.not_false,Bool.false_eq_true,Bool.true_eq_false,reduceCtorEq,false_implies,true_implies,true_and,and_true,X.ev,lkp,cond_true,cond_false,nbeq,beq_self_eq_true,Nat.reduceBEq,awp_skip,awp_ret,awp_exit,awp_block,awp_cond,thenK_norm,thenK_ret,thenK_exit,blockK_norm,blockK_ret,blockK_exit,encStr_length,markSs_length,Int.toNat_natCast,encStr_getD _ i _ hget]|simp only [go_sem,Int.reduceToNat,Int.reduceEq,Nat.reduceAdd,Nat.reduceBEq,Nat.reduceLeDiff,Nat.reduceLT,Int.reduceLT,Int.reduceLE,Int.reduceNeg,reduceCtorEq,encStr_length,markSs_length,Int.toNat_natCast,encStr_getD _ i _ hget]
      refine ⟨⟨by omega,by omega⟩,?_⟩
      refine s_callq (markText_ct (k + i) (by omega)) rfl ?_
      repeat first|refine s_seq fun K hK => ?_|(refine s_region ?_;simp only [go_sem,Int.reduceToNat,Int.reduceEq,Nat.reduceAdd,Nat.reduceBEq,Nat.reduceLeDiff,Nat.reduceLT,Int.reduceLT,Int.reduceLE,Int.reduceNeg,reduceCtorEq,encStr_length,markSs_length,Int.toNat_natCast,encStr_getD _ i _ hget])|(refine s_tree ?_;simp only [go_sem,Int.reduceToNat,Int.reduceEq,Nat.reduceAdd,Nat.reduceBEq,Nat.reduceLeDiff,Nat.reduceLT,Int.reduceLT,Int.reduceLE,Int.reduceNeg,reduceCtorEq,encStr_length,markSs_length,Int.toNat_natCast,encStr_getD _ i _ hget])|(refine s_draw ?_;simp only [go_sem,Int.reduceToNat,Int.reduceEq,Nat.reduceAdd,Nat.reduceBEq,Nat.reduceLeDiff,Nat.reduceLT,Int.reduceLT,Int.reduceLE,Int.reduceNeg,reduceCtorEq,encStr_length,markSs_length,Int.toNat_natCast,encStr_getD _ i _ hget])|(first|(refine hK _ ?_;clear hK K)|(clear hK K;refine hK _ ?_;clear hK K)|(clear hK K;clear hK K;refine hK _ ?_;clear hK K))|simp only [Bool.not_true,Bool.not_false,Bool.false_eq_true,Bool.true_eq_false,reduceCtorEq,false_implies,true_implies,true_and,and_true,X.ev,lkp,cond_true,cond_false,nbeq,beq_self_eq_true,Nat.reduceBEq,awp_skip,awp_ret,awp_exit,awp_block,awp_cond,thenK_norm,thenK_ret,thenK_exit,blockK_norm,blockK_ret,blockK_exit,encStr_length,markSs_length,Int.toNat_natCast,encStr_getD _ i _ hget]|simp only [go_sem,Int.reduceToNat,Int.reduceEq,Nat.reduceAdd,Nat.reduceBEq,Nat.reduceLeDiff,Nat.reduceLT,Int.reduceLT,Int.reduceLE,Int.reduceNeg,reduceCtorEq,encStr_length,markSs_length,Int.toNat_natCast,encStr_getD _ i _ hget]
      repeat first|refine s_seq fun K hK => ?_|(refine s_region ?_;simp only [go_sem,Int.reduceToNat,Int.reduceEq,Nat.reduceAdd,Nat.reduceBEq,Nat.reduceLeDiff,Nat.reduceLT,Int.reduceLT,Int.reduceLE,Int.reduceNeg,reduceCtorEq,beqS_refl])|(refine s_tree ?_;simp only [go_sem,Int.reduceToNat,Int.reduceEq,Nat.reduceAdd,Nat.reduceBEq,Nat.reduceLeDiff,Nat.reduceLT,Int.reduceLT,Int.reduceLE,Int.reduceNeg,reduceCtorEq,beqS_refl])|(refine s_draw ?_;simp only [go_sem,Int.reduceToNat,Int.reduceEq,Nat.reduceAdd,Nat.reduceBEq,Nat.reduceLeDiff,Nat.reduceLT,Int.reduceLT,Int.reduceLE,Int.reduceNeg,reduceCtorEq,beqS_refl])|(first|(refine hK _ ?_;clear hK K)|(clear hK K;refine hK _ ?_;clear hK K)|(clear hK K;clear hK K;refine hK _ ?_;clear hK K))|simp only [Bool.not_true,Bool.not_false,Bool.false_eq_true,Bool.true_eq_false,reduceCtorEq,false_implies,true_implies,true_and,and_true,X.ev,lkp,cond_true,cond_false,nbeq,beq_self_eq_true,Nat.reduceBEq,awp_skip,awp_ret,awp_exit,awp_block,awp_cond,thenK_norm,thenK_ret,thenK_exit,blockK_norm,blockK_ret,blockK_exit,beqS_refl]|simp only [go_sem,Int.reduceToNat,Int.reduceEq,Nat.reduceAdd,Nat.reduceBEq,Nat.reduceLeDiff,Nat.reduceLT,Int.reduceLT,Int.reduceLE,Int.reduceNeg,reduceCtorEq,beqS_refl]
      rw [w64 (n:=k + i + 1) (by omega) (by omega),w64 (n:=(i : Int) + 1) (by omega) (by omega)]
      refine hK1 _ ⟨i + 1,by omega⟩ ?_ (by simp;omega)
      simp [StLe,leT,leH,A.Le,A.LeL,O.Le,lkp,freeT,freeH,A.free,A.freeL,cond_true,cond_false,nbeq,nble,nblt,decide_true,decide_false,Nat.reduceLT,Nat.reduceBEq,true_and,and_true,List.length_cons,List.length_nil,true_implies,and_self,Bool.and_true,Bool.true_and,Bool.and_self]
      omega
    · have hie : i = n:=by simp at hc;omega
      subst hie
      repeat first|refine s_seq fun K hK => ?_|(refine s_region ?_;simp only [go_sem,Int.reduceToNat,Int.reduceEq,Nat.reduceAdd,Nat.reduceBEq,Nat.reduceLeDiff,Nat.reduceLT,Int.reduceLT,Int.reduceLE,Int.reduceNeg,reduceCtorEq])|(refine s_tree ?_;simp only [go_sem,Int.reduceToNat,Int.reduceEq,Nat.reduceAdd,Nat.reduceBEq,Nat.reduceLeDiff,Nat.reduceLT,Int.reduceLT,Int.reduceLE,Int.reduceNeg,reduceCtorEq])|(refine s_draw ?_;simp only [go_sem,Int.reduceToNat,Int.reduceEq,Nat.reduceAdd,Nat.reduceBEq,Nat.reduceLeDiff,Nat.reduceLT,Int.reduceLT,Int.reduceLE,Int.reduceNeg,reduceCtorEq])|(first|(refine hK _ ?_;clear hK K)|(clear hK K;refine hK _ ?_;clear hK K)|(clear hK K;clear hK K;refine hK _ ?_;clear hK K))|simp only [Bool.not_true,Bool.not_false,Bool.false_eq_true,Bool.true_eq_false,reduceCtorEq,false_implies,true_implies,true_and,and_true,X.ev,lkp,cond_true,cond_false,nbeq,beq_self_eq_true,Nat.reduceBEq,awp_skip,awp_ret,awp_exit,awp_block,awp_cond,thenK_norm,thenK_ret,thenK_exit,blockK_norm,blockK_ret,blockK_exit]|simp only [go_sem,Int.reduceToNat,Int.reduceEq,Nat.reduceAdd,Nat.reduceBEq,Nat.reduceLeDiff,Nat.reduceLT,Int.reduceLT,Int.reduceLE,Int.reduceNeg,reduceCtorEq]
      simp [go_sem,tids,A.tid,A.tid.go,List.cons_append,frzT,St.frz,A.sub,A.subL,O.sub,subT,subH,frzY,frzZ,Post,aret,evRs,RV.ev,tupA,A.Le,A.LeL,lkp,St.frzs,St.frz,A.ids,A.idsL,cond_true,cond_false,nbeq,nble,decide_true,decide_false,Nat.reduceLeDiff,Nat.reduceBEq,Nat.reduceAdd,beq_self_eq_true,true_and,and_true,true_implies,List.append_nil,List.nil_append,List.getElem?_cons_zero,List.getElem?_cons_succ,List.length_cons,List.length_nil,List.drop_zero,List.take_succ_cons,List.take_zero,and_self]

theorem encStr_each (ss : List ByteArray) : ∀ l,l ∈ encStr ss → l.length = 1:=by
  intro l hl
  obtain ⟨s,_,rfl⟩:=List.mem_map.1 hl
  rfl
theorem encStr_flat (ss : List ByteArray) : (encStr ss).flatten = ss.map D.str:=by
  induction ss with
  | nil => rfl
  | cons s ss ih => simp only [encStr,List.map_cons,List.flatten_cons] at ih ⊢;rw [ih];rfl
theorem own_strs_inv {w : World} : ∀ {ss : List ByteArray} {vs : List Value} {F : List Nat},OwnL w vs (ss.map D.str) F → vs = ss.map Value.string ∧ F = [] ∧ ∀ s,s ∈ ss → s.size ≤ 4611686018427387904
  | [],vs,F,h => by
    simp only [List.map_nil] at h
    generalize hd : ([] : List D) = dd at h
    cases h with
    | nil => exact ⟨rfl,rfl,fun s hs => by cases hs⟩
    | _ => cases hd
  | x :: ss,vs,F,h => by
    simp only [List.map_cons] at h
    generalize hd : (D.str x :: ss.map D.str) = dd at h
    cases h with
    | str s vs ds' F h1 h =>
      simp only [List.cons.injEq,D.str.injEq] at hd
      obtain ⟨rfl,rfl⟩:=hd
      obtain ⟨rfl,rfl,h3⟩:=own_strs_inv h
      exact ⟨rfl,rfl,fun y hy => (List.mem_cons.1 hy).elim (fun e => e ▸ h1) (h3 y)⟩
    | nil => cases hd
    | bool => simp at hd
    | int => simp at hd
    | none => simp at hd
    | sl => simp at hd
theorem own_strs_mk {w : World} : ∀ {ss : List ByteArray},(∀ s,s ∈ ss → s.size ≤ 4611686018427387904) → OwnL w (ss.map Value.string) (ss.map D.str) []
  | [],_ => .nil
  | s :: ss,h => .str s _ _ _ (h s (by simp)) (own_strs_mk fun x hx => h x (by simp [hx]))
/-- One text: where it lies, and what becomes of the row when it is turned. -/
theorem own_elemS {w : World} {u : Value} {pre suf : List ByteArray} {s : ByteArray} {F : List Nat} (h : OwnL w [u] [.sl (encStr (pre ++ s :: suf))] F) :
    ∃ b c cells ety,u = .slice (some ⟨b,0,none⟩) (pre.length + (suf.length + 1)) c ∧ F = [b] ∧ w.heap[b]? = some (.cells cells ety (0,0)) ∧ cells[pre.length]? = some (.string s) ∧ pre.length + (suf.length + 1) ≤ 140737488355328 ∧
      ∀ (w' : World) (x : ByteArray),w'.heap[b]? = some (.cells (cells.setIfInBounds pre.length (.string x)) ety (0,0)) → x.size ≤ 4611686018427387904 → OwnL w' [u] [.sl (encStr (pre ++ x :: suf))] F:=by
  obtain ⟨b,c,cells,ety,e,F1,rfl,rfl,h1,h2,h3,h4,h5,h6,h7⟩:=own_sl_inv h (by rw [encStr_length,List.length_append,List.length_cons];omega)
  have he : e = 1:=by
    have:=h2 [.str s] (by simp [encStr])
    simpa using this.symm
  subst he
  simp only [encStr_length,Nat.mul_one,List.length_append,List.length_cons] at h3 h5 h6 h7 ⊢
  rw [encStr_flat] at h7
  obtain ⟨g1,rfl,g3⟩:=own_strs_inv h7
  have hget : ∀ i,i < pre.length + (suf.length + 1) → cells[i]? = ((pre ++ s :: suf).map Value.string)[i]?:=by
    intro i hi
    rw [← g1,List.getElem?_take,if_pos hi,Array.getElem?_toList]
  refine ⟨b,c,cells,ety,rfl,rfl,h1,?_,h6,fun w' x hb hx => ?_⟩
  · rw [hget _ (by omega)]
    simp
  · have hg : ∀ y,y ∈ pre ++ x :: suf → y.size ≤ 4611686018427387904:=by
      intro y hy
      rcases List.mem_append.1 hy with hy|hy
      · exact g3 y (by simp [hy])
      · rcases List.mem_cons.1 hy with rfl|hy
        · exact hx
        · exact g3 y (by simp [hy])
    have hin : OwnL w' ((cells.setIfInBounds pre.length (.string x)).toList.take (pre.length + (suf.length + 1))) ((encStr (pre ++ x :: suf)).flatten) []:=by
      rw [encStr_flat]
      have : (cells.setIfInBounds pre.length (.string x)).toList.take (pre.length + (suf.length + 1)) = (pre ++ x :: suf).map Value.string:=by
        refine List.ext_getElem? fun i => ?_
        rw [List.getElem?_take]
        by_cases hi : i < pre.length + (suf.length + 1)
        · rw [if_pos hi,Array.getElem?_toList,Array.getElem?_setIfInBounds]
          by_cases hp : pre.length = i
          · subst hp
            rw [if_pos rfl,if_pos (by omega)]
            simp
          · rw [if_neg hp,hget i hi,List.getElem?_map,List.getElem?_map]
            congr 1
            rcases Nat.lt_or_ge i pre.length with hl|hl
            · rw [List.getElem?_append_left hl,List.getElem?_append_left hl]
            · rw [List.getElem?_append_right hl,List.getElem?_append_right hl]
              obtain ⟨m,hm⟩ : ∃ m,i - pre.length = m + 1:=⟨i - pre.length - 1,by omega⟩
              rw [hm,List.getElem?_cons_succ,List.getElem?_cons_succ]
        · rw [if_neg hi,List.getElem?_eq_none (by simp;omega)]
      rw [this]
      exact own_strs_mk hg
    have:=OwnL.sl (w:=w') b c (cells.setIfInBounds pre.length (.string x)) ety 1 (encStr (pre ++ x :: suf)) [] [] [] [] (by rw [encStr_length,List.length_append,List.length_cons];omega) hb (encStr_each _) (by simpa [encStr] using h3) h4 (by simp;omega) (by simpa [encStr] using h6) (by simpa [encStr_length] using hin) .nil
    simpa [encStr] using this

def MkS (n : Nat) (k : Int) : Prop:=∀ (w : World) (u : Value) (F : List Nat) (ss : List ByteArray),ss.length = n → Laid w → (∀ b,b ∈ F → lowB ≤ b) → (∀ b,b ∈ F → b < w.heap.size) → OwnL w [u] [.sl (encStr ss)] F →
  Calls Try.prog 19 #[u,.int .i64 k] w fun e w' => e = .returned (.int .i64 (k + n)) ∧ Fr (fun b => b ∈ F) w w' ∧ OwnL w' [u] [.sl (encStr (markSs k n))] F

set_option maxRecDepth 100000 in
theorem markS_any (n : Nat) (k : Int) (h0 : 0 ≤ k) (h1 : k + n ≤ 4611686018427387904) : MkS n k:=by
  intro w u F ss hss hL hlo hF hO
  obtain ⟨ad,cc,hu⟩ : ∃ ad cc,u = .slice ad n cc:=by
    have hr:=(hO.rep (ok:=fun _ => True) (fun _ _ => trivial)).1
    obtain ⟨a,c,h,_⟩:=hr.cells
    rw [encStr_length,hss] at h
    exact ⟨a,c,h⟩
  have hlen : n ≤ 140737488355328:=by
    have hr:=(hO.rep (ok:=fun _ => True) (fun _ _ => trivial)).1
    have:=hr.ok
    simp only [D.Ok,encStr_length] at this
    omega
  subst hu
  go_enter Try.func19,Try.ntmps19
  go_wp2
  go_loopw [1,5] (fun k' i wr => ∃ m : Nat,m ≤ n ∧ i = .int .i64 m ∧ k' = .int .i64 (k + m) ∧ Fr (fun b => b ∈ F) w wr ∧ OwnL wr [.slice ad n cc] [.sl (encStr ((markSs k n).take m ++ ss.drop m))] F) (fun _ i _ => n - (intOf i).toNat)
  case atStart => exact ⟨0,Nat.zero_le _,rfl,by simp,Fr.refl _ _,by simpa using hO⟩
  case round =>
    obtain ⟨m,hm,rfl,rfl,hfr,hown⟩:=hrel
    by_cases hlt : m < n
    · obtain ⟨s0,hd⟩ : ∃ s0,ss.drop m = s0 :: ss.drop (m + 1):=⟨_,List.drop_eq_getElem_cons (by omega)⟩
      rw [hd] at hown
      have hpl : ((markSs k n).take m).length = m:=by simp [markSs_length];omega
      obtain ⟨b,c,cells,ety,hv,hbF,hb1,hc1,hsz,hback⟩:=own_elemS hown
      rw [hpl] at hv hc1 hsz hback
      obtain ⟨rfl,hl,rfl⟩ : ad = some ⟨b,0,none⟩ ∧ n = m + ((ss.drop (m + 1)).length + 1) ∧ cc = c:=by simpa using hv
      clear hv hd hown
      have hfz : wr.frozen? ⟨b,m,none⟩ = false:=frz_of hb1
      have hcell : wr.cell? ⟨b,m,none⟩ = some (.string s0):=cell_of hb1 hc1
      have HT : Hid ((markSs k n).take (m + 1) = (markSs k n).take m ++ [mtext (k + m)]):=by
        show _ = _
        rw [List.take_add_one,markSs_get k n m hlt]
        rfl
      have HB : Hid (∀ (w' : World) (x : ByteArray),w'.heap[b]? = some (.cells (cells.setIfInBounds m (.string x)) ety (0,0)) → x.size ≤ 4611686018427387904 → OwnL w' [.slice (some ⟨b,0,none⟩) n cc] [.sl (encStr ((markSs k n).take m ++ x :: ss.drop (m + 1)))] F):=hback
      have HLr : Hid (Laid wr):=hL.fr hfr hlo
      have Hb : Hid (wr.heap[b]? = some (.cells cells ety (0,0))):=hb1
      have HF : Hid (F = [b]):=hbF
      have HFr : Hid (Fr (fun b => b ∈ F) w wr):=hfr
      have hblt : b < wr.heap.size:=(Array.getElem?_eq_some_iff.1 hb1).1
      clear hback hL hlo hpl hl hfr hbF hb1 hO hF hss
      go_wp2_with (first
        | (go_at_call 18;refine (markText_any (k + m) (by omega) (by omega) _ (by repeat (first|exact HLr.out|refine Laid.drew ?_))).mono ?_;rintro e w1 ⟨rfl,hsz1,hfr1⟩;have hq1 : w1.cell? ⟨b,m,none⟩ = some (.string s0):=(World.cell?_of_block (a:=⟨b,m,none⟩) (hfr1.block b hblt (fun h => h))).trans hcell;have hq2 : w1.frozen? ⟨b,m,none⟩ = false:=frz_of ((hfr1.block b hblt (fun h => h)).trans Hb.out))
        | go_in)
      go_roundw
      case rel =>
        have hb1 : w1.heap[b]? = some (.cells cells ety (0,0)):=(hfr1.block b hblt (fun h => h)).trans Hb.out
        refine ⟨m + 1,by omega,by go_num,?_,?_,?_⟩
        · congr 1
          omega
        · exact (HFr.out.trans hfr1 (fun _ _ h => h.elim)).trans (Fr.set (B:=fun b => b ∈ F) w1 _ _ (by rw [HF.out];simp)) (fun _ _ h => h)
        · rw [HT.out,List.append_assoc,List.singleton_append]
          exact HB.out _ _ (setCell_blk hb1) hsz1
      case measure => simp [intOf];omega
    · have : m = n:=by omega
      subst this
      go_wp2
      go_ret
      rw [List.take_of_length_le (by rw [markSs_length];exact Nat.le_refl _),List.drop_of_length_le (by omega),List.append_nil] at hown
      exact ⟨rfl,hfr,hown⟩
end Go.Proofs.Ytockalkgjoaicaa
