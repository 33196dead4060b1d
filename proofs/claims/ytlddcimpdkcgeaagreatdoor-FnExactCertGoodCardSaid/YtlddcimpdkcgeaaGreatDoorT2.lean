/- Terms among the arguments of a law. -/
import Derived.Test.YtlddcimpdkcgeaaGreatDoorT1
import Derived.Test.YtlddcimpdkcgeaaGreatDoorS13
import Derived.Test.YtlddcimpdkcgeaaGreatDoorProg
set_option linter.unusedVariables false
set_option linter.unusedSimpArgs false
set_option maxRecDepth 20000
namespace Go.Proofs.YtlddcimpdkcgeaaGreatDoor
open Go.RowKit Sym Go
theorem encs_of : ∀ {xs : List (List D)},(∀ l,l ∈ xs → ∃ t : Term,l = t.enc) → ∃ ts,xs = encs ts
  | [],_ => ⟨[],by simp [encs]⟩
  | x :: xs,h => by
    obtain ⟨t,rfl⟩:=h x (by simp)
    obtain ⟨ts,rfl⟩:=encs_of (xs:=xs) (fun l hl => h l (by simp [hl]))
    exact ⟨t :: ts,by simp [encs]⟩
theorem dec_term {H : Type} (enc : TypeId × Value → H) (w : World) : ∀ n,DecAt enc Tryz.prog w 24 n (fun ds => ∃ t : Term,ds = t.enc):=by
  intro n
  induction n using Nat.strongRecOn with
  | _ n ih =>
    refine (dec_struct (l:=[(3,0,1),(3,1,1),(9,2,1),(22,3,1)]) (by kernel_rfl) (qs:=[(1,fun ds : List D => ∃ m,ds = [.int .i64 m]),(1,fun ds : List D => ∃ m,ds = [.int .i64 m]),(1,fun ds : List D => ∃ s,ds = [.str s]),(1,fun ds : List D => ∃ xs,ds = [.sl xs] ∧ ∀ l,l ∈ xs → ∃ t : Term,l = t.enc)]) (by kernel_rfl) (fun m hm => ?_)).mono ?_
    · refine ⟨rfl,rfl,(dec_int (k:=.i64) (by kernel_rfl)).mono ?_,rfl,rfl,(dec_int (k:=.i64) (by kernel_rfl)).mono ?_,rfl,rfl,(dec_str (by kernel_rfl)).mono ?_,rfl,rfl,(dec_slice (Q:=fun l => ∃ t : Term,l = t.enc) (k:=4) (e:=24) (by kernel_rfl) (by kernel_rfl) (by decide) (of_decide_eq_true (by kernel_rfl)) (fun m' hm' => (ih m' (by omega)).mono ?_)).mono ?_,trivial⟩
      · rintro ds ⟨k,rfl⟩;exact ⟨rfl,k,rfl⟩
      · rintro ds ⟨k,rfl⟩;exact ⟨rfl,k,rfl⟩
      · rintro ds ⟨k,rfl⟩;exact ⟨rfl,k,rfl⟩
      · rintro ds ⟨t,rfl⟩;exact ⟨enc_length t,t,rfl⟩
      · rintro ds ⟨xs,rfl,h⟩;exact ⟨rfl,xs,rfl,h⟩
    · rintro ds ⟨_,d1,rfl,_,⟨a,rfl⟩,_,d2,rfl,_,⟨b,rfl⟩,_,d3,rfl,_,⟨s,rfl⟩,_,d4,rfl,_,⟨xs,rfl,h⟩,rfl⟩
      obtain ⟨ts,rfl⟩:=encs_of h
      exact ⟨.mk a b s ts,by simp [Term.enc]⟩
theorem arg_term {H : Type} (enc : TypeId × Value → H) : ArgAt enc Tryz.prog 24 (fun x => ∃ t : Term,x = t.v):=by
  intro w b0 v d ps hv hd hw
  obtain ⟨x,hx,ds,rfl,t,rfl⟩:=arg_struct (enc:=enc) (l:=[(3,0,1),(3,1,1),(9,2,1),(22,3,1)]) (by kernel_rfl) (fun w n => dec_term enc w n) w b0 v d ps hv hd hw
  exact ⟨_,hx,t,by rw [Term.enc_eq];rfl⟩
end Go.Proofs.YtlddcimpdkcgeaaGreatDoor
