/- The function that marks terms. -/
import Derived.Test.YtlddcimpdkcgeaaGreatDoorM2
import Derived.WalkKit
import Derived.ProofKit
set_option linter.unusedVariables false
set_option linter.unusedSimpArgs false
set_option maxHeartbeats 2000000
namespace Go.Proofs.YtlddcimpdkcgeaaGreatDoor
open Go Go.RowKit Sym
theorem Laid.set {w : World} (h : Laid w) {p : Addr} {v : Value} (hp : lowB ≤ p.block) : Laid (w.setCell p v):=h.fr (Fr.set (B:=fun b => b = p.block) w p v rfl) (by rintro _ rfl;exact hp)
theorem Laid.drew {w : World} (h : Laid w) : Laid w.drew:=h.fr (Fr.drew (B:=fun _ => False) w) (fun _ h => h.elim)
theorem markText_any (k : Int) (h : k ≤ 9223372036854775807) (h' : -9223372036854775808 ≤ k) (w : World) (hL : Laid w) : Calls Tryz.prog 64 #[.int .i64 k] w fun e w' => e = .returned (.string (mtext k)) ∧ (mtext k).size ≤ 4611686018427387904 ∧ Fr (fun _ => False) w w':=by
  refine ((markText_ct k h).2 w (fun _ => False) [.int .i64 k] hL (fun b hb => hb.elim) ?_).mono ?_
  · simp only [VSimL,VSim,and_true]
    exact .int _ _ (by rw [i64_min];exact h') (by rw [i64_max];exact h)
  · rintro e w' ⟨v,rfl,hx,hv⟩
    have:=vstr hv
    rw [this.1]
    exact ⟨rfl,this.2,hx⟩
def Mk (ts : List Term) (k : Int) : Prop:=∀ (w : World) (u : Value) (F : List Nat),Laid w → (∀ b,b ∈ F → lowB ≤ b) → (∀ b,b ∈ F → b < w.heap.size) → F.Nodup → OwnL w [u] [.sl (encs ts)] F →
  Calls Tryz.prog 31 #[u,.int .i64 k] w fun e w' => e = .returned (.int .i64 (k + 3 * nodsL ts)) ∧ Fr (fun b => b ∈ F) w w' ∧ OwnL w' [u] [.sl (encs (markTs k ts))] F
set_option maxRecDepth 100000 in
theorem mark_of (ts : List Term) (ih : ∀ u,u ∈ ts → ∀ k : Int,0 ≤ k → k + 3 * nodsL u.kids ≤ 4611686018427387904 → Mk u.kids k) (k : Int) (h0 : 0 ≤ k) (h1 : k + 3 * nodsL ts ≤ 4611686018427387904) : Mk ts k:=by
  intro w u F hL hlo hF hN hO
  obtain ⟨ad,cc,hu⟩ : ∃ ad cc,u = .slice ad ts.length cc:=by
    have hr:=(hO.rep (ok:=fun _ => True) (fun _ _ => trivial)).1
    obtain ⟨a,c,h,_⟩:=hr.cells
    rw [encs_length] at h
    exact ⟨a,c,h⟩
  have hlen : ts.length ≤ 140737488355328:=by
    have hr:=(hO.rep (ok:=fun _ => True) (fun _ _ => trivial)).1
    have:=hr.ok
    simp only [D.Ok,encs_length] at this
    exact this.1
  subst hu
  go_enter Tryz.func31,Tryz.ntmps31
  go_wp2
  go_loopw [1,5] (fun k' i wr => ∃ n : Nat,n ≤ ts.length ∧ i = .int .i64 n ∧ k' = .int .i64 (k + 3 * nodsL (ts.take n)) ∧ Fr (fun b => b ∈ F) w wr ∧ OwnL wr [.slice ad ts.length cc] [.sl (encs ((markTs k ts).take n ++ ts.drop n))] F) (fun _ i _ => ts.length - (intOf i).toNat)
  case atStart => exact ⟨0,Nat.zero_le _,rfl,by simp [nodsL],Fr.refl _ _,by simpa using hO⟩
  case round =>
    obtain ⟨n,hn,rfl,rfl,hfr,hown⟩:=hrel
    by_cases hlt : n < ts.length
    · have hd : ts.drop n = ts[n] :: ts.drop (n + 1):=List.drop_eq_getElem_cons hlt
      rw [hd] at hown
      have hpl : ((markTs k ts).take n).length = n:=by simp [markTs_length];omega
      obtain ⟨b,c,cells,ety,u3,Fk,hv,hb1,hbF,hbk,hsub,hkn,hko,hcs,hc3,hsz,hback⟩:=own_elem hown hN
      rw [hpl] at hv hcs hc3 hsz hback
      obtain ⟨rfl,hl,rfl⟩ : ad = some ⟨b,0,none⟩ ∧ ts.length = n + ((ts.drop (n + 1)).length + 1) ∧ cc = c:=by simpa using hv
      clear hv hd hown
      have hst:=nodsL_step ts n hlt
      obtain ⟨m,hm⟩ : ∃ m,k + 3 * (nodsL (ts.take n) : Int) = m:=⟨_,rfl⟩
      rw [hm]
      have hm0 : 0 ≤ m ∧ m + 3 + 3 * nodsL ts[n].kids ≤ 4611686018427387904:=by omega
      obtain ⟨v0,hc0⟩ : ∃ v,wr.cell? ⟨b,n * 4,none⟩ = some v:=⟨cells[n * 4]'(by omega),by simp [World.cell?,hb1]⟩
      obtain ⟨v1,hc1⟩ : ∃ v,wr.cell? ⟨b,n * 4 + 1,none⟩ = some v:=⟨cells[n * 4 + 1]'(by omega),by simp [World.cell?,hb1]⟩
      obtain ⟨v2,hc2⟩ : ∃ v,wr.cell? ⟨b,n * 4 + 2,none⟩ = some v:=⟨cells[n * 4 + 2]'(by omega),by simp [World.cell?,hb1]⟩
      have hz0 : ∀ j,wr.frozen? ⟨b,j,none⟩ = false:=by intro j;simp [World.frozen?,hb1]
      have HB : Hid (∀ (w' : World) (cells' : Array Value) (t' : Term),w'.heap[b]? = some (.cells cells' ety (0,0)) → cells'.size = cells.size → (∀ j,j < n * 4 ∨ n * 4 + 4 ≤ j → cells'[j]? = cells[j]?) →
        (∀ x,x ∈ F → x ≠ b → x ∉ Fk → w'.heap[x]? = wr.heap[x]?) → OwnL w' [u3] [.sl (encs t'.kids)] Fk →
        cells'[n * 4]? = some (.int .i64 t'.op) → cells'[n * 4 + 1]? = some (.int .i64 t'.n) → cells'[n * 4 + 2]? = some (.string t'.s) → cells'[n * 4 + 3]? = some u3 →
        IntKind.i64.min ≤ t'.op → t'.op ≤ IntKind.i64.max → IntKind.i64.min ≤ t'.n → t'.n ≤ IntKind.i64.max → t'.s.size ≤ 4611686018427387904 → OwnL w' [.slice (some ⟨b,0,none⟩) ts.length cc] [.sl (encs ((markTs k ts).take n ++ t' :: ts.drop (n + 1)))] F):=by
        exact hback
      have HM : Hid (k + 3 * (nodsL (ts.take n) : Int) = m):=hm
      have HT : Hid ((markTs k ts).take (n + 1) = (markTs k ts).take n ++ [Term.mk m (m + 1) (mtext (m + 1 + 1)) (markTs (m + 1 + 1 + 1) ts[n].kids)]):=by
        show _ = _
        rw [List.take_add_one,markTs_get k ts n hlt,hm,markT_eq,show m + 1 + 1 + 1 = m + 3 by omega,show m + 1 + 1 = m + 2 by omega]
        rfl
      clear hback hm hl hpl
      have hFr : ∀ x,x ∈ F → x < wr.heap.size:=fun x hx => Nat.lt_of_lt_of_le (hF x hx) hfr.size
      have HI : Hid (Mk ts[n].kids (m + 1 + 1 + 1)):=ih _ (List.getElem_mem hlt) (m + 1 + 1 + 1) (by omega) (by omega)
      clear ih
      have HLr : Hid (Laid wr):=hL.fr hfr hlo
      have Hlb : Hid (lowB ≤ b):=hlo b hbF
      have Hlo : Hid (∀ b,b ∈ F → lowB ≤ b):=hlo
      clear hL hlo
      go_wp2_with (first
        | (go_at_call 64;refine (markText_any (m + 1 + 1) (by omega) (by omega) _ (by repeat (first|exact HLr.out|refine Laid.set ?_ Hlb.out|refine Laid.drew ?_))).mono ?_;rintro e w1 ⟨rfl,hsz1,hfr1⟩;have HL1 : Hid (Laid w1):=Laid.fr (by repeat (first|exact HLr.out|refine Laid.set ?_ Hlb.out|refine Laid.drew ?_)) hfr1 (fun _ h => h.elim);have HMid:=mark_mid hb1 hcs hc3 hbk hko (fun x hx => hFr x (hsub x hx)) hfr1;obtain ⟨hq1,⟨v2',hq2⟩,hq3,hq4,hq5,hq6⟩:=HMid;have hq7 : ∀ k,w1.frozen? ⟨b,k,none⟩ = false:=fun k => frz_of hq1)
        | (go_at_call 31;refine (HI.out _ u3 Fk (by repeat (first|exact HL1.out|refine Laid.set ?_ Hlb.out|refine Laid.drew ?_)) (fun x hx => Hlo.out x (hsub x hx)) (fun x hx => by have:=hFr x (hsub x hx);rw [setCell_lt];omega) hkn (hq4 _)).mono ?_;rintro e w2 ⟨rfl,hfr2,hko2⟩)
        | go_in)
      go_roundw
      case rel =>
        have E:=mark_end (t':=.mk m (m + 1) (mtext (m + 1 + 1)) (markTs (m + 1 + 1 + 1) ts[n].kids)) (ts':=fun l => (markTs k ts).take n ++ (l ++ ts.drop (n + 1))) hb1 hcs hc3 hbF hsub hbk hFr hfr hF hq1 hq5 hq6 ⟨hfr1.os,hfr1.tape,hfr1.output⟩ hfr2 hko2 HB.out (by rw [i64_min];simp only [Term.op];omega) (by rw [i64_max];simp only [Term.op];omega) (by rw [i64_min];simp only [Term.n];omega) (by rw [i64_max];simp only [Term.n];omega) hsz1
        refine ⟨n + 1,by omega,by go_num,?_,E.1,?_⟩
        · have:=HM.out
          have h3:=hst.1
          congr 1
          omega
        · rw [HT.out,List.append_assoc]
          exact E.2
      case measure => simp [intOf];omega
    · have : n = ts.length:=by omega
      subst this
      go_wp2
      go_ret
      rw [List.take_length,show (markTs k ts).take ts.length = markTs k ts by rw [← markTs_length k ts,List.take_length],List.drop_length,List.append_nil] at *
      exact ⟨rfl,hfr,hown⟩
theorem mark_any (ts : List Term) : ∀ k : Int,0 ≤ k → k + 3 * nodsL ts ≤ 4611686018427387904 → Mk ts k :=
  mark_of ts fun u _ => Term.ind (p:=fun u => ∀ k : Int,0 ≤ k → k + 3 * nodsL u.kids ≤ 4611686018427387904 → Mk u.kids k) (fun t ih => mark_of t.kids ih) u
theorem markTerm_m (t : Term) (k : Int) (h0 : 0 ≤ k) (h1 : k + 3 * nodsL t.kids ≤ 4611686018427387904) :
    CtM Tryz.prog 11 [.agg [.d false (.int .i64 t.op),.d false (.int .i64 t.n),.d false (.str t.s),.otr 0],.d false (.int .i64 k)] (encs t.kids) (encs (markTs k t.kids)) (.d true (.int .i64 (k + 3 * nodsL t.kids))):=by
  refine ⟨⟨_,Tryz.func11,rfl,rfl⟩,rfl,fun w ok vs u F hL hlo hok hF hO hN hv => ?_⟩
  match vs,hv with
  | [v1,v2],hv =>
    simp only [VSimL,VSim,and_true] at hv
    obtain ⟨⟨cs,rfl,hcs⟩,h2⟩:=hv
    match cs,hcs with
    | [c1,c2,c3,c4],hcs =>
      simp only [VSimL,VSim,and_true] at hcs
      obtain ⟨g1,g2,g3,⟨G,hg⟩,_⟩:=hcs
      simp only [List.getElem?_cons_zero,Option.some.injEq] at hg
      obtain ⟨rfl,rfl⟩:=tv_inj hg
      have h2:=(vint (lo:=0) (β:=[]) (o:=false) h2).1
      have g1:=(vint (lo:=0) (β:=[]) (o:=false) g1).1
      have g2:=(vint (lo:=0) (β:=[]) (o:=false) g2).1
      have g3:=(vstr (lo:=0) (β:=[]) (o:=false) g3).1
      subst h2;subst g1;subst g2;subst g3
      have HW : Hid (∀ x,Calls Tryz.prog 31 #[u,.int .i64 k] (w.alloc x) fun e w' => e = .returned (.int .i64 (k + 3 * nodsL t.kids)) ∧ Fr (fun b => b ∈ F) w w' ∧ OwnL w' [u] [.sl (encs (markTs k t.kids))] F):=fun x =>
        (mark_any t.kids k h0 h1 (w.alloc x) u F (hL.fr (Fr.alloc (B:=fun _ => False) w x) (fun _ h => h.elim)) hlo (fun b hb => by have:=hF b hb;simp;omega) hN (hO.move (fun b hb => Below.heap_alloc w _ b (hF b hb)))).mono (by
          rintro e w' ⟨rfl,hf,ho⟩
          exact ⟨rfl,(Fr.alloc w _).trans hf (fun _ _ h => h),ho⟩)
      clear hO hok
      show Calls _ _ #[.agg #[.int .i64 t.op,.int .i64 t.n,.string t.s,u],.int .i64 k] w _
      go_enter Tryz.func11,Tryz.ntmps11
      go_wp2_with (first|(go_at_call 31;refine (HW.out _).mono ?_;rintro e w' ⟨rfl,hf,ho⟩)|go_in)
      go_ret
      exact ⟨_,rfl,hf,ho,vsim_int _ _ (by rw [i64_min];omega) (by rw [i64_max];omega)⟩
    | [],hcs => simp [VSimL] at hcs
    | [_],hcs => simp [VSimL] at hcs
    | [_,_],hcs => simp [VSimL] at hcs
    | [_,_,_],hcs => simp [VSimL] at hcs
    | _ :: _ :: _ :: _ :: _ :: _,hcs => simp [VSimL] at hcs
  | [],hv => simp [VSimL] at hv
  | [_],hv => simp [VSimL] at hv
  | _ :: _ :: _ :: _,hv => simp [VSimL] at hv
end Go.Proofs.YtlddcimpdkcgeaaGreatDoor
