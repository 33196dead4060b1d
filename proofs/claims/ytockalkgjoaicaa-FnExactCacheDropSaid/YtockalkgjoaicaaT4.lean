/- Policies among the arguments of a law. -/
import Derived.Test.YtockalkgjoaicaaT3
import Derived.Test.YtockalkgjoaicaaS13
import Derived.Test.YtockalkgjoaicaaProg
set_option linter.unusedVariables false
set_option maxRecDepth 20000
set_option linter.unusedSimpArgs false
namespace Go.Proofs.Ytockalkgjoaicaa
open Go.RowKit Sym Go

theorem encStr_of : ∀ {xs : List (List D)},(∀ l,l ∈ xs → ∃ s,l = [.str s]) → ∃ ss,xs = encStr ss
  | [],_ => ⟨[],by simp [encStr]⟩
  | x :: xs,h => by
    obtain ⟨t,rfl⟩:=h x (by simp)
    obtain ⟨ts,rfl⟩:=encStr_of (xs:=xs) (fun l hl => h l (by simp [hl]))
    exact ⟨t :: ts,by simp [encStr]⟩
theorem encPs_of : ∀ {xs : List (List D)},(∀ l,l ∈ xs → ∃ p : Policy,l = p.enc) → ∃ ps,xs = encPs ps
  | [],_ => ⟨[],by simp [encPs]⟩
  | x :: xs,h => by
    obtain ⟨t,rfl⟩:=h x (by simp)
    obtain ⟨ts,rfl⟩:=encPs_of (xs:=xs) (fun l hl => h l (by simp [hl]))
    exact ⟨t :: ts,by simp [encPs]⟩

theorem dec_strs {H : Type} (enc : TypeId × Value → H) (w : World) (n : Nat) : DecAt enc Try.prog w 31 n (fun ds => ∃ xs,ds = [.sl xs] ∧ ∀ l,l ∈ xs → ∃ s,l = [D.str s]) :=
  dec_slice (Q:=fun l => ∃ s,l = [D.str s]) (k:=1) (e:=9) (by kernel_rfl) (by kernel_rfl) (by decide) (of_decide_eq_true (by kernel_rfl)) (fun m' hm' => (dec_str (by kernel_rfl)).mono (by rintro ds ⟨s,rfl⟩;exact ⟨rfl,s,rfl⟩))

theorem dec_policy {H : Type} (enc : TypeId × Value → H) (w : World) (n : Nat) : DecAt enc Try.prog w 33 n (fun ds => ∃ p : Policy,ds = p.enc):=by
  refine (dec_struct (l:=[(9,0,1),(3,1,1),(31,2,1),(3,3,1)]) (by kernel_rfl) (qs:=[(1,fun ds : List D => ∃ s,ds = [.str s]),(1,fun ds : List D => ∃ m,ds = [.int .i64 m]),(1,fun ds : List D => ∃ xs,ds = [.sl xs] ∧ ∀ l,l ∈ xs → ∃ s,l = [D.str s]),(1,fun ds : List D => ∃ m,ds = [.int .i64 m])]) (by kernel_rfl) (fun m hm => ?_)).mono ?_
  · refine ⟨rfl,rfl,(dec_str (by kernel_rfl)).mono ?_,rfl,rfl,(dec_int (k:=.i64) (by kernel_rfl)).mono ?_,rfl,rfl,(dec_strs enc w m).mono ?_,rfl,rfl,(dec_int (k:=.i64) (by kernel_rfl)).mono ?_,trivial⟩
    · rintro ds ⟨k,rfl⟩;exact ⟨rfl,k,rfl⟩
    · rintro ds ⟨k,rfl⟩;exact ⟨rfl,k,rfl⟩
    · rintro ds ⟨xs,rfl,h⟩;exact ⟨rfl,xs,rfl,h⟩
    · rintro ds ⟨k,rfl⟩;exact ⟨rfl,k,rfl⟩
  · rintro ds ⟨_,d1,rfl,_,⟨a,rfl⟩,_,d2,rfl,_,⟨b,rfl⟩,_,d3,rfl,_,⟨xs,rfl,h⟩,_,d4,rfl,_,⟨e,rfl⟩,rfl⟩
    obtain ⟨ss,rfl⟩:=encStr_of h
    exact ⟨⟨a,b,ss,e⟩,by simp [Policy.enc]⟩

theorem arg_policies {H : Type} (enc : TypeId × Value → H) : ArgAt enc Try.prog 22 (fun x => ∃ ts : List Policy,x = .d false (.sl (encPs ts))):=by
  intro w b0 v d ps hv hd hw
  obtain ⟨x,hx,xs,rfl,h⟩:=arg_slice (enc:=enc) (e:=33) (by kernel_rfl) (fun w n => dec_slice (Q:=fun l => ∃ t : Policy,l = t.enc) (k:=4) (by kernel_rfl) (by kernel_rfl) (by decide) (of_decide_eq_true (by kernel_rfl)) (fun m' hm' => (dec_policy enc w m').mono (by rintro ds ⟨t,rfl⟩;exact ⟨rfl,t,rfl⟩))) w b0 v d ps hv hd hw
  obtain ⟨ts,rfl⟩:=encPs_of h
  exact ⟨_,hx,ts,rfl⟩
end Go.Proofs.Ytockalkgjoaicaa
