/- Numbers out of texts: the library's. -/
import Derived.Test.YtlddcimpdkcgeaaGreatDoorD7
import Derived.Test.YtlddcimpdkcgeaaGreatDoorShelf
import Derived.Lib.AtoiAllMem
import Derived.Lib.AtoiErrMem
import Derived.Lib.AtoiAllCases
set_option linter.unusedVariables false
set_option linter.unusedSimpArgs false
set_option maxRecDepth 20000
set_option maxHeartbeats 4000000
namespace Go.Proofs.YtlddcimpdkcgeaaGreatDoor
open Go Go.RowKit Sym
def atoiN (s : ByteArray) : Int:=match Lib.atoiAll s.data.toList with|.ok v => v|.range => Lib.atoiSat s.data.toList|_ => 0
def atoiE (s : ByteArray) : Bool:=match Lib.atoiAll s.data.toList with|.ok _ => false|_ => true
theorem err_at {w : World} {g : Nat} (hL : Laid w) (hlt : g < lowB) (h : ∀ W,Began W → ∃ t v,W.cell? ⟨g,0,none⟩ = some (.iface t v)) : ∃ t v,w.cell? ⟨g,0,none⟩ = some (.iface t v):=by
  obtain ⟨h0,W,hW,hb⟩:=hL
  obtain ⟨t,v,hv⟩:=h W hW
  exact ⟨t,v,(World.cell?_of_block (hb _ hlt)).trans hv⟩
theorem atoi_ct (s : ByteArray) (hs : s.size ≤ 1048576) : Ct Tryz.prog 42 [.d false (.str s)] (.tup [.d false (.int .i64 (atoiN s)),.d false (.ifc (atoiE s))]):=by
  refine ⟨⟨_,Tryz.func42,rfl,rfl⟩,fun w ok vs hL hok hv => ?_⟩
  match vs,hv with
  | [v1],hv =>
    simp only [VSimL,and_true] at hv
    have h1:=(vstr hv).1
    subst h1
    cases hr : Lib.atoiAll s.data.toList with
    | ok v =>
      have hn : atoiN s = v:=by unfold atoiN;rw [hr]
      have he : atoiE s = false:=by unfold atoiE;rw [hr]
      obtain ⟨b0,b1⟩:=Lib.atoiAll_bounds hr
      refine (Tryz.strconv_Atoi_ok s (by omega) v hr w).mono ?_
      rintro e w' ⟨rfl,hw⟩
      have hfr : Fr (fun _ => False) w w':=by
        rcases hw with rfl|⟨t,rfl⟩
        · exact Fr.refl _ _
        · exact Fr.of_below (Lib.bytesWorld_below _ _ _)
      refine ⟨_,rfl,hfr,?_⟩
      rw [hn,he]
      simp only [VSim]
      exact ⟨[_,_],rfl,by simp only [VSimL,VSim,and_true];exact ⟨.int .i64 v (by rw [i64_min];omega) (by rw [i64_max];omega),.ifc0⟩⟩
    | range =>
      have hn : atoiN s = Lib.atoiSat s.data.toList:=by unfold atoiN;rw [hr]
      have he : atoiE s = true:=by unfold atoiE;rw [hr]
      obtain ⟨b0,b1⟩:=Lib.atoiSat_bounds s.data.toList
      obtain ⟨t,v,hev⟩:=err_at (g:=1) hL (by decide) (fun W h => h.2.2.2)
      refine (Tryz.strconv_Atoi_range s (by omega) hr (.iface t v) w hev (.inr ⟨t,v,rfl⟩)).mono ?_
      rintro e w' ⟨N,rfl,_,_,hb⟩
      refine ⟨_,rfl,Fr.of_below hb,?_⟩
      rw [hn,he]
      simp only [VSim]
      exact ⟨[_,_],rfl,by simp only [VSimL,VSim,and_true];exact ⟨.int .i64 _ (by rw [i64_min];omega) (by rw [i64_max];omega),.ifc1 _ _⟩⟩
    | _ =>
      have hn : atoiN s = 0:=by unfold atoiN;rw [hr]
      have he : atoiE s = true:=by unfold atoiE;rw [hr]
      obtain ⟨t,v,hev⟩:=err_at (g:=0) hL (by decide) (fun W h => h.2.2.1)
      refine Calls.mono (P:=Tryz.prog) (Any.strconv_Atoi_syntax Tryz.laysC172 s (by omega) hr (.iface t v) w hev (.inr ⟨t,v,rfl⟩)) ?_
      rintro e w' ⟨N,rfl,_,_,hb⟩
      refine ⟨_,rfl,Fr.of_below hb,?_⟩
      rw [hn,he]
      simp only [VSim]
      exact ⟨[_,_],rfl,by simp only [VSimL,VSim,and_true];exact ⟨.int .i64 0 (by decide) (by decide),.ifc1 _ _⟩⟩
  | [],hv => simp [VSimL] at hv
  | _ :: _ :: _,hv => simp [VSimL] at hv
end Go.Proofs.YtlddcimpdkcgeaaGreatDoor
