/- The terms of the law of what is hidden. -/
import Derived.Test.YtlddcimpdkcgeaaDoorG9
import Derived.Test.YtlddcimpdkcgeaaDoorG8
import Derived.Test.YtlddcimpdkcgeaaDoorF30
import Derived.Test.YtlddcimpdkcgeaaDoorF16
import Derived.Test.YtlddcimpdkcgeaaDoorF14
set_option linter.unusedVariables false
set_option linter.unusedSimpArgs false
set_option maxRecDepth 20000
set_option maxHeartbeats 8000000
namespace Go.Proofs.YtlddcimpdkcgeaaDoor
open Go Go.RowKit Sym
theorem fine_atom {n : Int} (h : 0 ≤ n ∧ n ≤ 1000000) : fineT (atomT n):=⟨right_atom h,by rw [atomT,nods0];decide⟩
theorem rightOr_fine {t : Term} (h : fineT t) : rightOr t = t:=by unfold rightOr;rw [fine_ok h];rfl
theorem few_cnt2 {ts : List Term} (h : Few ts) : ∀ t,t ∈ ts → t.cnt ≤ 8388608:=fun t ht => by have:=h.2 t ht;omega
theorem pack_facts : ∃ (s s' : ByteArray),s.size ≤ 21 ∧ s'.size ≤ 21 ∧ keyT shT 1 = hhT s ∧ sealT (hhT s) 0 a1 = seT s s' ∧ fineT (seT s s') ∧ fineT (pubOf a0) ∧ fineT (pubOf a2) ∧ fineT shT ∧ fineT (hhT s) ∧ agreeT a0 (pubOf a2) = some shT ∧ shT.nods = 3 ∧ (hhT s).nods = 6:=by
  have f0 : fineT a0:=fine_atom (by decide)
  have f1 : fineT a1:=fine_atom (by decide)
  have f2 : fineT a2:=fine_atom (by decide)
  have n0 : a0.nods = 1:=nods0 ..
  have n1 : a1.nods = 1:=nods0 ..
  have n2 : a2.nods = 1:=nods0 ..
  have hb : befT a2 a0 = false:=by rfl
  have hsh : shareT a0 a2 = shT:=by unfold shareT;rw [hb];rfl
  have fsh : fineT shT:=⟨by rw [← hsh];exact right_share f0.1 f2.1,by rw [← hsh,nods_share,n0,n2];decide⟩
  have nsh : shT.nods = 3:=by rw [← hsh,nods_share,n0,n2]
  have hz : (digB 1).size ≤ 21:=digB_size 1
  have hz' : (digB 0).size ≤ 21:=digB_size 0
  have hp0 : fineT (pubOf a0):=⟨right1 (.inl rfl) f0.1,by rw [nods_pub,n0];decide⟩
  have hp2 : fineT (pubOf a2):=⟨right1 (.inl rfl) f2.1,by rw [nods_pub,n2];decide⟩
  have ht : fineT (txT (digB 1)):=⟨right_text (by omega),by rw [txT,nods0];decide⟩
  have ht' : fineT (txT (digB 0)):=⟨right_text (by omega),by rw [txT,nods0];decide⟩
  have nt : (txT (digB 1)).nods = 1:=nods0 ..
  have nt' : (txT (digB 0)).nods = 1:=nods0 ..
  have hpr : fineT (.mk 3 0 ⟨#[]⟩ [shT,txT (digB 1)]):=⟨right2 (.inl rfl) fsh.1 ht.1,by rw [nods2,nsh,nt];decide⟩
  have hh : fineT (hhT (digB 1)):=⟨right1 (.inr rfl) hpr.1,by rw [hhT,nods1,nods2,nsh,nt];decide⟩
  have nhh : (hhT (digB 1)).nods = 6:=by rw [hhT,nods1,nods2,nsh,nt]
  have hpt : fineT (prT (digB 0)):=⟨right2 (.inl rfl) ht'.1 f1.1,by rw [prT,nods2,n1,nt'];decide⟩
  have hse : fineT (seT (digB 1) (digB 0)):=⟨right2 (.inr (.inl rfl)) hh.1 hpt.1,by rw [seT,nods2,nhh,prT,nods2,n1,nt'];decide⟩
  refine ⟨digB 1,digB 0,hz,hz',?_,?_,hse,hp0,hp2,fsh,hh,?_,nsh,nhh⟩
  · show rightOr (.mk 6 0 ⟨#[]⟩ [rightOr (.mk 3 0 ⟨#[]⟩ [shT,txT (digB 1)])]) = _
    rw [rightOr_fine hpr]
    exact rightOr_fine hh
  · show rightOr (.mk 7 0 ⟨#[]⟩ [hhT (digB 1),rightOr (prT (digB 0))]) = _
    rw [rightOr_fine hpt]
    exact rightOr_fine hse
  · rw [agreeT_one (fine_ok hp2) rfl rfl,hsh,fine_ok fsh]
    rfl
/-- What the law calls, and what it gets. -/
theorem hidden_pack : ∃ x0 x1 x2 p0 p2 sh k se : Term,
    Ct Tryd.prog 12 [.d false (.int .i64 900)] x0.v ∧ Ct Tryd.prog 12 [.d false (.int .i64 901)] x1.v ∧ Ct Tryd.prog 12 [.d false (.int .i64 902)] x2.v ∧
    Ct Tryd.prog 16 [x0.v] p0.v ∧ Ct Tryd.prog 16 [x2.v] p2.v ∧ Ct Tryd.prog 15 [x0.v,p2.v] (.tup [sh.v,.d true (.bool true)]) ∧
    Ct Tryd.prog 18 [sh.v,.d false (.int .i64 1)] k.v ∧ Ct Tryd.prog 17 [k.v,.d false (.int .i64 0),x1.v] se.v ∧
    (∀ t : Term,Ct Tryd.prog 11 [t.v,x0.v] (.d true (.bool (withinT a0 t))) ∧ Ct Tryd.prog 11 [t.v,x1.v] (.d true (.bool (withinT a1 t))) ∧ Ct Tryd.prog 11 [t.v,x2.v] (.d true (.bool (withinT a2 t)))) ∧
    (∀ ts,Few ts → (∀ t,t ∈ ts → Clean t) → (partsT ts).length ≤ 200 →
      Ct Tryd.prog 19 [.d false (.sl (encs (ts ++ [se,p0,p2]))),x1.v] (.d true (.bool false)) ∧ Ct Tryd.prog 19 [.d false (.sl (encs (ts ++ [se,p0,p2]))),sh.v] (.d true (.bool false)) ∧
      Ct Tryd.prog 19 [.d false (.sl (encs (ts ++ [se,p0,p2,x2]))),sh.v] (.d true (.bool true)) ∧ Ct Tryd.prog 19 [.d false (.sl (encs (ts ++ [se,p0,p2,x2]))),x1.v] (.d true (.bool true))):=by
  obtain ⟨s,s',z1,z2,ek,es,fse,fp0,fp2,fsh,fk,eag,nsh,nk⟩:=pack_facts
  have f0 : fineT a0:=fine_atom (by decide)
  have f1 : fineT a1:=fine_atom (by decide)
  have f2 : fineT a2:=fine_atom (by decide)
  have c0 : a0.cnt = 0:=by simp [a0,atomT,Term.cnt,cnts,sz0]
  have c1 : a1.cnt = 0:=by simp [a1,atomT,Term.cnt,cnts,sz0]
  have c2 : a2.cnt = 0:=by simp [a2,atomT,Term.cnt,cnts,sz0]
  have cp0 : (pubOf a0).cnt = 1:=by rw [pubOf,cnt1,c0]
  have cp2 : (pubOf a2).cnt = 1:=by rw [pubOf,cnt1,c2]
  have csh : shT.cnt = 2:=by rw [shT,cnt2,c0,c2]
  have ctx : ∀ s : ByteArray,(txT s).cnt = s.size:=fun s => by simp [txT,Term.cnt,cnts]
  have ck : (hhT s).cnt ≤ 30:=by rw [hhT,cnt1,cnt2,csh,ctx];omega
  have cse : (seT s s').cnt ≤ 80:=by rw [seT,cnt2,prT,cnt2,c1,ctx];omega
  have at' : ∀ n : Int,0 ≤ n ∧ n ≤ 1000000 → Ct Tryd.prog 12 [.d false (.int .i64 n)] (atomT n).v:=fun n h => by
    have:=Term.w_v (atom2_ct n)
    rwa [show rightOr (.mk 1 n ⟨#[]⟩ []) = atomT n from rightOr_fine (fine_atom h)] at this
  have pub' : ∀ a : Term,a.cnt ≤ 100 → fineT (pubOf a) → Ct Tryd.prog 16 [a.v] (pubOf a).v:=fun a h hf => by
    have:=Term.w_v (pub2_ct a (by omega))
    rwa [show rightOr (.mk 4 0 ⟨#[]⟩ [a]) = pubOf a from rightOr_fine hf] at this
  refine ⟨a0,a1,a2,pubOf a0,pubOf a2,shT,hhT s,seT s s',at' 900 (by decide),at' 901 (by decide),at' 902 (by decide),pub' a0 (by omega) fp0,pub' a2 (by omega) fp2,?_,?_,?_,fun t => ⟨within_ct t a0,within_ct t a1,within_ct t a2⟩,fun ts hts hcl hlen => ?_⟩
  · have:=(agree2_ct a0 (pubOf a2) (by omega) (by omega)).weak (r':=optV (agreeT a0 (pubOf a2))) (by simp [A.Le,A.LeL,Term.v,Term.w])
    rw [eag] at this
    exact this
  · have:=Term.w_v (key2_ct shT 1 (by omega))
    rwa [ek] at this
  · have:=Term.w_v (seal2_ct (hhT s) 0 a1 (by omega) (by omega))
    rwa [es] at this
  · have hct:=few_cnt2 hts
    have hb:=hidden_before (ts:=ts) (s:=s) (s':=s') hcl
    have ha:=hidden_behind (ts:=ts) (s:=s) (s':=s') hcl (fun t ht ho => (gd_of ho (hct t ht)).1) (by have:=hts.1;omega) hlen (fine_ok fse) (fine_ok fp0) (fine_ok f2) (fine_ok f1) (fine_ok fsh) (fine_ok fk) (by omega) (by omega)
    have hm3 : ∀ x,x ∈ ts ++ [seT s s',pubOf a0,pubOf a2] → x.cnt ≤ 8388608:=fun x hx => by
      simp only [List.mem_append,List.mem_cons,List.not_mem_nil,or_false] at hx
      rcases hx with h|rfl|rfl|rfl
      · exact hct x h
      · omega
      · omega
      · omega
    have hm4 : ∀ x,x ∈ ts ++ [seT s s',pubOf a0,pubOf a2,a2] → x.cnt ≤ 8388608:=fun x hx => by
      simp only [List.mem_append,List.mem_cons,List.not_mem_nil,or_false] at hx
      rcases hx with h|rfl|rfl|rfl|rfl
      · exact hct x h
      · omega
      · omega
      · omega
      · omega
    refine ⟨?_,?_,?_,?_⟩
    · have h:=can2_ct _ a1 hm3;rwa [hb.1] at h
    · have h:=can2_ct _ shT hm3;rwa [hb.2] at h
    · have h:=can2_ct _ shT hm4;rwa [ha.2] at h
    · have h:=can2_ct _ a1 hm4;rwa [ha.1] at h
end Go.Proofs.YtlddcimpdkcgeaaDoor
