/- The term of a certificate. -/
import Derived.Test.YtlddcimpdkcgeaaGreatDoorD11
import Derived.Test.YtlddcimpdkcgeaaGreatDoorF16
import Derived.WalkKit
import Derived.ProofKit
set_option linter.unusedVariables false
set_option linter.unusedSimpArgs false
set_option maxRecDepth 20000
set_option maxHeartbeats 8000000
namespace Go.Proofs.YtlddcimpdkcgeaaGreatDoor
open Go Go.RowKit Sym
theorem markTerm_any (t : Term) (k : Int) (h0 : 0 ≤ k) (h1 : k + 3 * nodsL t.kids ≤ 4611686018427387904) : ∀ (w : World) (u : Value) (F : List Nat),Laid w → (∀ b,b ∈ F → lowB ≤ b) → (∀ b,b ∈ F → b < w.heap.size) → F.Nodup → OwnL w [u] [.sl (encs t.kids)] F →
    Calls Tryz.prog 11 #[.agg #[.int .i64 t.op,.int .i64 t.n,.string t.s,u],.int .i64 k] w fun e w' => e = .returned (.int .i64 (k + 3 * nodsL t.kids)) ∧ Fr (fun b => b ∈ F) w w' ∧ OwnL w' [u] [.sl (encs (markTs k t.kids))] F:=by
  intro w u F hL hlo hF hN hO
  have HW : Hid (∀ x,Calls Tryz.prog 31 #[u,.int .i64 k] (w.alloc x) fun e w' => e = .returned (.int .i64 (k + 3 * nodsL t.kids)) ∧ Fr (fun b => b ∈ F) w w' ∧ OwnL w' [u] [.sl (encs (markTs k t.kids))] F):=fun x =>
    (mark_any t.kids k h0 h1 (w.alloc x) u F (hL.fr (Fr.alloc (B:=fun _ => False) w x) (fun _ h => h.elim)) hlo (fun b hb => by have:=hF b hb;simp;omega) hN (hO.move (fun b hb => Below.heap_alloc w _ b (hF b hb)))).mono (by
      rintro e w' ⟨rfl,hf,ho⟩
      exact ⟨rfl,(Fr.alloc w _).trans hf (fun _ _ h => h),ho⟩)
  clear hO
  go_enter Tryz.func11,Tryz.ntmps11
  go_wp2_with (first|(go_at_call 31;refine (HW.out _).mono ?_;rintro e w' ⟨rfl,hf,ho⟩)|go_in)
  go_ret
  exact ⟨rfl,hf,ho⟩
theorem markCert_m (c : Cert) (k : Int) (h0 : 0 ≤ k) (h1 : k + 3 * nodsL c.pub.kids ≤ 4611686018427387904) :
    CtM Tryz.prog 16 [.agg [.d false (.str c.host),.d false (.int .i64 c.pub.op),.d false (.int .i64 c.pub.n),.d false (.str c.pub.s),.otr 0,.d false (.int .i64 c.til)],.d false (.int .i64 k)] (encs c.pub.kids) (encs (markTs k c.pub.kids)) (.d true (.int .i64 (k + 3 * nodsL c.pub.kids))):=by
  refine ⟨⟨_,Tryz.func16,rfl,rfl⟩,rfl,fun w ok vs u F hL hlo hok hF hO hN hv => ?_⟩
  match vs,hv with
  | [v1,v2],hv =>
    simp only [VSimL,VSim,and_true] at hv
    obtain ⟨⟨cs,rfl,hcs⟩,h2⟩:=hv
    match cs,hcs with
    | [c0,c1,c2,c3,c4,c5],hcs =>
      simp only [VSimL,VSim,and_true] at hcs
      obtain ⟨g0,g1,g2,g3,⟨⟨G,hg⟩,_⟩,g5⟩:=hcs
      simp only [List.getElem?_cons_zero,Option.some.injEq] at hg
      obtain ⟨rfl,rfl⟩:=tv_inj hg
      have h2:=(vint (lo:=0) (β:=[]) (o:=false) h2).1
      have g0:=(vstr (lo:=0) (β:=[]) (o:=false) g0).1
      have g1:=(vint (lo:=0) (β:=[]) (o:=false) g1).1
      have g2:=(vint (lo:=0) (β:=[]) (o:=false) g2).1
      have g3:=(vstr (lo:=0) (β:=[]) (o:=false) g3).1
      have g5:=(vint (lo:=0) (β:=[]) (o:=false) g5).1
      subst h2;subst g0;subst g1;subst g2;subst g3;subst g5
      have HW : Hid (∀ x,Calls Tryz.prog 11 #[.agg #[.int .i64 c.pub.op,.int .i64 c.pub.n,.string c.pub.s,u],.int .i64 k] (w.alloc x) fun e w' => e = .returned (.int .i64 (k + 3 * nodsL c.pub.kids)) ∧ Fr (fun b => b ∈ F) w w' ∧ OwnL w' [u] [.sl (encs (markTs k c.pub.kids))] F):=fun x =>
        (markTerm_any c.pub k h0 h1 (w.alloc x) u F (hL.fr (Fr.alloc (B:=fun _ => False) w x) (fun _ h => h.elim)) hlo (fun b hb => by have:=hF b hb;simp;omega) hN (hO.move (fun b hb => Below.heap_alloc w _ b (hF b hb)))).mono (by
          rintro e w' ⟨rfl,hf,ho⟩
          exact ⟨rfl,(Fr.alloc w _).trans hf (fun _ _ h => h),ho⟩)
      clear hO hok
      show Calls _ _ #[.agg #[.string c.host,.int .i64 c.pub.op,.int .i64 c.pub.n,.string c.pub.s,u,.int .i64 c.til],.int .i64 k] w _
      go_enter Tryz.func16,Tryz.ntmps16
      go_wp2_with (first|(go_at_call 11;refine (HW.out _).mono ?_;rintro e w' ⟨rfl,hf,ho⟩)|go_in)
      go_ret
      exact ⟨_,rfl,hf,ho,vsim_int _ _ (by rw [i64_min];omega) (by rw [i64_max];omega)⟩
    | [],hcs => simp [VSimL] at hcs
    | [_],hcs => simp [VSimL] at hcs
    | [_,_],hcs => simp [VSimL] at hcs
    | [_,_,_],hcs => simp [VSimL] at hcs
    | [_,_,_,_],hcs => simp [VSimL] at hcs
    | [_,_,_,_,_],hcs => simp [VSimL] at hcs
    | _ :: _ :: _ :: _ :: _ :: _ :: _ :: _,hcs => simp [VSimL] at hcs
  | [],hv => simp [VSimL] at hv
  | [_],hv => simp [VSimL] at hv
  | _ :: _ :: _ :: _,hv => simp [VSimL] at hv
end Go.Proofs.YtlddcimpdkcgeaaGreatDoor
