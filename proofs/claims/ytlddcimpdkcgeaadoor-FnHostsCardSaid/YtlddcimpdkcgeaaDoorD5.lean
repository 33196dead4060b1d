/- Patterns: the plain law. -/
import Derived.Test.YtlddcimpdkcgeaaDoorD4
import Derived.Lib.IndexMore
set_option linter.unusedVariables false
set_option linter.unusedSimpArgs false
set_option maxRecDepth 20000
set_option maxHeartbeats 4000000
namespace Go.Proofs.YtlddcimpdkcgeaaDoor
open Go Go.RowKit Sym

def starS : ByteArray:=⟨#[42,46]⟩
def starB (s : ByteArray) : Bool:=Lib.hasPrefix s.data.toList [42,46]
def restB (s : ByteArray) : ByteArray:=mkB (s.data.toList.drop 2)
/-- A star ahead of something. -/
def starM (s : ByteArray) : Bool:=decide (2 < s.size) && starB s
def patB (s : ByteArray) : Bool:=bif starB s then hostB (restB s) 1 else hostB s 2
theorem restB_ext (s : ByteArray) : s.extract 2 s.size = restB s:=mkB_inj (Lib.extract_to_end s 2)
theorem restB_size (s : ByteArray) : (restB s).size ≤ s.size:=by
  rw [restB,mkB_size,List.length_drop,← Lib.size_eq]
  omega
theorem star_cons {s : ByteArray} (h : starB s = true) : ∃ r,s.data.toList = 42 :: 46 :: r:=by
  unfold starB Lib.hasPrefix at h
  rw [List.isPrefixOf_iff_prefix] at h
  obtain ⟨r,hr⟩:=h
  exact ⟨r,by rw [← hr];rfl⟩
theorem star_ext {s : ByteArray} (h : 2 < s.size) : beqS (s.extract 0 2) starS = starB s:=by
  have h1 : (s.extract 0 2).data.toList = s.data.toList.take 2:=by rw [Lib.extract_data];rfl
  have hb : beqS (s.extract 0 2) starS = decide (s.data.toList.take 2 = [42,46]):=by
    simp only [beqS,ByteArray.toList_eq,h1]
    rw [Bool.eq_iff_iff]
    simp [starS]
  rw [hb]
  unfold starB Lib.hasPrefix
  rw [Bool.eq_iff_iff,List.isPrefixOf_iff_prefix,decide_eq_true_iff,List.prefix_iff_eq_take]
  exact ⟨fun e => e.symm,fun e => e.symm⟩
theorem hostB_star {s : ByteArray} (h : starB s = true) : hostB s 2 = false:=by
  obtain ⟨r,hr⟩:=star_cons h
  have : labs s = mkB [42] :: labsL r:=by
    unfold labs
    rw [hr]
    exact labsL_cons (a:=[42]) (r:=r) (by decide)
  unfold hostB
  rw [this,List.all_cons,show labelB (mkB [42]) = false from by decide]
  simp
theorem hostB_none {s : ByteArray} (h : s.size = 0) : hostB s 1 = false:=by
  have hs : s.data.toList = []:=List.length_eq_zero_iff.1 (by rw [← Lib.size_eq];exact h)
  have : labs s = [mkB []]:=by unfold labs;rw [hs];exact labsL_none (by simp)
  unfold hostB
  rw [this,List.all_cons,show labelB (mkB []) = false from by decide]
  simp
/-- The reference's words. -/
theorem pat_ref (s : ByteArray) : (bif hostB s 2 then true else bif starM s then hostB (restB s) 1 else false) = patB s:=by
  unfold patB starM
  cases hst : starB s with
  | false => simp
  | true =>
    rw [hostB_star hst]
    by_cases h2 : 2 < s.size
    · simp [h2]
    · have : (restB s).size = 0:=by rw [restB,mkB_size,List.length_drop,← Lib.size_eq];omega
      simp [h2,hostB_none this]
theorem pat_star {s : ByteArray} (h : patB s = true) : starM s = starB s:=by
  unfold patB at h
  unfold starM
  cases hst : starB s with
  | false => simp
  | true =>
    rw [hst,cond_true] at h
    by_cases h2 : 2 < s.size
    · simp [h2]
    · have : (restB s).size = 0:=by rw [restB,mkB_size,List.length_drop,← Lib.size_eq];omega
      rw [hostB_none this] at h
      cases h

/-! ### What lies behind the first point -/
def behB (s : ByteArray) : ByteArray:=mkB (Lib.cut s.data.toList [46]).2.1
theorem host_cut {s : ByteArray} (h : hostB s 2 = true) : ∃ a r,s.data.toList = a ++ 46 :: r ∧ labs s = mkB a :: labsL r ∧ behB s = mkB r:=by
  by_cases hm : (46 : UInt8) ∈ s.data.toList
  · obtain ⟨a,r,hr,ha⟩:=List.eq_append_cons_of_mem hm
    have ha' : ∀ x,x ∈ a → x ≠ 46:=fun x hx e => ha (e ▸ hx)
    refine ⟨a,r,hr,by unfold labs;rw [hr];exact labsL_cons ha',?_⟩
    have hi : Lib.index (a ++ 46 :: r) [46] = a.length:=by rw [Lib.index_one];exact indexByte_first 46 a r ha'
    unfold behB Lib.cut
    rw [hr,hi]
    simp
  · have : labs s = [s]:=by
      unfold labs
      rw [labsL_none (fun x hx e => hm (e ▸ hx)),mkB_data]
    unfold hostB at h
    rw [this] at h
    simp at h
def fitsB (p h : ByteArray) : Bool:=bif patB p then bif hostB h 2 then bif beqS p h then true else bif starB p then beqS (behB h) (restB p) else false else false else false
end Go.Proofs.YtlddcimpdkcgeaaDoor
