/- From an input that is read to abstract values; from a contract to what a row says. -/
import Derived.Test.YtlddcimpdkcgeaaGreatDoorS12
import Derived.Carry
import Derived.ChangeArms
import Derived.Lib.SmallJoins
import Derived.SizedLaws
import Derived.ChangeOld
import Derived.Deep.Slices
set_option linter.unusedVariables false
set_option linter.unusedSimpArgs false
namespace Go.Proofs.YtlddcimpdkcgeaaGreatDoor.Sym
open List (append_nil)
open Go.RowKit Go.ChangeShapes Go.WideShapes Go
def DecAt {H : Type} (enc : TypeId × Value → H) (P : Program) (w : World) (t : TypeId) (n : Nat) (Q : List D → Prop) : Prop :=
  ∀ cs x,DataW.trod enc P w 0 (fun _ => true) true n t cs = some x → (∀ m,m ∈ x.1.weights P t → m ≤ reachBytes) → ∃ ds,RepL w (fun b => b < w.heap.size) cs ds ∧ Q ds
section
variable {H : Type} {enc : TypeId × Value → H} {P : Program} {w : World} {t e : TypeId} {n : Nat}
theorem dec_int {k : IntKind} (ht : P.underlying t = some (.int k)) : DecAt enc P w t n (fun ds => ∃ m,ds = [.int k m]):=by
  intro cs x h _
  obtain ⟨m,rfl,_,hw⟩:=DataW.trod_int ht h
  simp only [Lit.wf,Bool.and_eq_true,decide_eq_true_eq] at hw
  exact ⟨[.int k m],⟨.int k m hw.1 hw.2,trivial⟩,m,rfl⟩
theorem dec_str (ht : P.underlying t = some .string) : DecAt enc P w t n (fun ds => ∃ s,ds = [.str s]):=by
  intro cs x h hw
  obtain ⟨s,rfl,rfl,_⟩:=DataW.trod_string ht h
  have h1:=hw s.data.toList.length (by simp [DataW.weights])
  have h2 : s.data.toList.length = s.size:=by rw [Array.length_toList];rfl
  exact ⟨[.str s],⟨.str s (by rw [h2] at h1;simp only [reachBytes] at h1;omega),trivial⟩,s,rfl⟩
theorem weightsAll_mem {e : TypeId} : ∀ {l : List (DataW H)} {d : DataW H},d ∈ l → ∀ m,m ∈ d.weights P e → m ∈ DataW.weightsAll P e l
  | d0 :: l,d,hd,m,hm => by
    simp only [DataW.weightsAll,List.mem_append]
    rcases List.mem_cons.1 hd with rfl|hd
    · exact .inl hm
    · exact .inr (weightsAll_mem hd m hm)
theorem spot_none {w : World} {a : Addr} {u : Value} (h : w.cell? a = some u) : a.spot = none:=by
  unfold World.cell? at h
  split at h
  · split at h
    · cases h
    · rename_i hs;simpa using hs
  · cases h
theorem addr_plain {a : Addr} (h : a.spot = none) (k : Nat) : a.add k = ⟨a.block,a.off + k,none⟩:=by
  unfold Addr.add
  split
  · rename_i h0;subst h0;cases a;simp_all
  · rfl
theorem DecAt.mono {Q Q' : List D → Prop} (h : DecAt enc P w t n Q) (hq : ∀ ds,Q ds → Q' ds) : DecAt enc P w t n Q':=fun cs x h1 h2 => let ⟨ds,h3,h4⟩:=h cs x h1 h2;⟨ds,h3,hq ds h4⟩
theorem dec_slice {Q : List D → Prop} (ht : P.underlying t = some (.slice e)) {k : Nat} (he : P.cellsOf e = k) (hk : 0 < k) (hb : 0 < P.bytesOf e) (hel : ∀ m,m < n → DecAt enc P w e m (fun ds => ds.length = k ∧ Q ds)) :
    DecAt enc P w t n (fun ds => ∃ xs,ds = [.sl xs] ∧ ∀ l,l ∈ xs → Q l):=by
  intro cs x h hw
  rcases DataW.trod_slice ht h with ⟨rfl,_⟩|⟨a,len,cap,elems,rest,m,hm,rfl,rfl,_,hl,hc,hlen,hel',_,_⟩
  · exact ⟨[.sl []],⟨Rep.nil _ _ _ _,trivial⟩,[],rfl,by simp⟩
  · have hmn : m < n:=by omega
    have hbig : len ≤ reachBytes:=by
      have h1:=hw ((elems.length + rest.length) * P.bytesOf e) (by simp [DataW.weights,ht])
      have h2:=Nat.le_mul_of_pos_right (elems.length + rest.length) hb
      omega
    have each : ∀ i,i < len → ∃ q : List Value × List D,w.cells? 0 (a.add (i * k)) k = some q.1 ∧ RepL w (fun b => b < w.heap.size) q.1 q.2 ∧ q.2.length = k ∧ Q q.2:=by
      intro i hi
      have h1:=hel' i hi
      rw [he] at h1
      have h2 : elems[i]? = some elems[i]:=List.getElem?_eq_getElem (by omega)
      rw [h2] at h1
      obtain ⟨us,h3,h4⟩:=Option.bind_eq_some_iff.1 h1
      obtain ⟨ds,h5,h6,h7⟩:=hel m hmn us _ h4 (fun m' hm' => hw m' (by
        simp only [DataW.weights,ht,List.mem_cons,List.mem_append]
        exact .inr (.inl (weightsAll_mem (List.mem_map.2 ⟨_,List.mem_of_getElem? h2,rfl⟩) m' hm'))))
      exact ⟨(us,ds),h3,h5,h6,h7⟩
    obtain ⟨F,hF⟩:=Go.Deep.choose_lt each
    refine ⟨[.sl ((List.range len).map fun i => (F i).2)],⟨?_,trivial⟩,_,rfl,fun l hl => ?_⟩
    · have hxl : ((List.range len).map fun i => (F i).2).length = len:=by simp
      have hget : ∀ j ds,((List.range len).map fun i => (F i).2)[j]? = some ds → j < len ∧ ds = (F j).2:=by
        intro j ds hj
        have hlt:=(List.getElem?_eq_some_iff.1 hj).1
        rw [hxl] at hlt
        refine ⟨hlt,?_⟩
        simp only [List.getElem?_map,List.getElem?_range hlt,Option.map_some,Option.some.injEq] at hj
        exact hj.symm
      have hcell : ∀ j,j < len → ∀ i u,(F j).1[i]? = some u → w.cell? ((a.add (j * k)).add i) = some u:=by
        intro j hj i u hu
        obtain ⟨_,h2,h3⟩:=World.cells?_some (hF j hj).1
        rw [h3 i (by rw [← h2];exact (List.getElem?_eq_some_iff.1 hu).1),hu]
      have:=Rep.sl (w:=w) (ok:=fun b => b < w.heap.size) ((List.range len).map fun i => (F i).2) (some a) cap (fun j i => ((F j).1[i]?).getD undef) k (by rw [hxl];exact hl)
        (by rw [hxl];simp only [reachBytes] at hbig;omega) (fun ds hds => by
          obtain ⟨j,hj⟩:=List.getElem?_of_mem hds
          obtain ⟨h1,rfl⟩:=hget j ds hj
          exact (hF j h1).2.2.1) (fun hp => ?_) (fun j ds hj i d hd => ?_)
      · rw [hxl] at this;exact this
      · rw [hxl] at hp
        have hl0 : 0 < (F 0).1.length:=by rw [RepL.length (hF 0 hp).2.1,(hF 0 hp).2.2.1];exact hk
        have h0:=hcell 0 hp 0 _ (List.getElem?_eq_getElem hl0)
        simp only [Nat.zero_mul,Addr.add,if_pos] at h0
        have hs:=spot_none h0
        have hb:=World.block_lt_of_cell? w a h0
        refine ⟨a.block,a.off,by cases a;simp_all,hb,fun j ds hj i d hd => ?_⟩
        obtain ⟨h1,rfl⟩:=hget j ds hj
        obtain ⟨u,hu,_⟩:=RepL.get (hF j h1).2.1 hd
        have h2:=hcell j h1 i u hu
        rw [Go.Deep.add_add,addr_plain hs] at h2
        rw [h2,hu];rfl
      · obtain ⟨h1,rfl⟩:=hget j ds hj
        obtain ⟨u,hu,hr⟩:=RepL.get (hF j h1).2.1 hd
        simpa [hu] using hr
    · obtain ⟨i,hi,rfl⟩:=List.mem_map.1 hl
      exact (hF i (List.mem_range.1 hi)).2.2.2
def fieldsAt {H : Type} (enc : TypeId × Value → H) (P : Program) (w : World) (n : Nat) : Nat → List (TypeId × Nat × Nat) → List (Nat × (List D → Prop)) → Prop
  | _,[],[] => True
  | o,f :: fs,(k,Q) :: qs => f.2.1 = o ∧ f.2.2 = k ∧ DecAt enc P w f.1 n (fun ds => ds.length = k ∧ Q ds) ∧ fieldsAt enc P w n (o + k) fs qs
  | _,_,_ => False
def shapeOf (P : Program) (t : TypeId) : Option (List (TypeId × Nat × Nat)) :=
  match P.underlying t with
  | some (.struct fs) => some (fs.toList.map fun f => (f.type,f.offset,P.cellsOf f.type))
  | _ => none
def splitQ : List (Nat × (List D → Prop)) → List D → Prop
  | [],ds => ds = []
  | (k,Q) :: qs,ds => ∃ d1 d2,ds = d1 ++ d2 ∧ d1.length = k ∧ Q d1 ∧ splitQ qs d2
def sumQ : List (Nat × (List D → Prop)) → Nat
  | [] => 0
  | (k,_) :: qs => k + sumQ qs
theorem fields_ok {cs : List Value} : ∀ (fs : List Field) (qs : List (Nat × (List D → Prop))) (o : Nat) (xs : List (DataW H × List MemPlace)),fieldsAt enc P w n o (fs.map fun f => (f.type,f.offset,P.cellsOf f.type)) qs → xs.length = fs.length → cs.length = o + sumQ qs →
    (∀ (i : Nat) (f : Field),fs[i]? = some f → DataW.trod enc P w 0 (fun _ => true) true n f.type ((cs.drop f.offset).take (P.cellsOf f.type)) = xs[i]?) → (∀ m,m ∈ DataW.weightsEach P (fs.map (·.type)) (xs.map (·.1)) → m ≤ reachBytes) → ∃ ds,RepL w (fun b => b < w.heap.size) (cs.drop o) ds ∧ splitQ qs ds
  | [],[],o,xs,_,_,hc,_,_ => by
    refine ⟨[],?_,rfl⟩
    rw [List.drop_of_length_le (by simp only [sumQ] at hc;omega)]
    trivial
  | f :: fs,(k,Q) :: qs,o,xs,h,hl,hc,hx,hw => by
    obtain ⟨h1,h2,h3,h4⟩:=h
    simp only at h1 h2 h3
    cases xs with
    | nil => simp at hl
    | cons x xs =>
      have h5:=hx 0 f rfl
      rw [h1,h2,List.getElem?_cons_zero] at h5
      simp only [List.map_cons,DataW.weightsEach,List.mem_append] at hw
      obtain ⟨d1,r1,l1,q1⟩:=h3 _ _ h5 (fun m hm => hw m (.inl hm))
      simp only [sumQ] at hc
      obtain ⟨d2,r2,s2⟩:=fields_ok (cs:=cs) fs qs (o + k) xs h4 (by simpa using hl) (by omega) (fun i g hg => by
        have:=hx (i + 1) g (by simpa using hg)
        simpa using this) (fun m hm => hw m (.inr hm))
      refine ⟨d1 ++ d2,?_,d1,d2,rfl,l1,q1,s2⟩
      have e : cs.drop o = (cs.drop o).take k ++ cs.drop (o + k):=by rw [← List.drop_drop];exact (List.take_append_drop k _).symm
      rw [e]
      exact r1.app r2
  | [],_ :: _,_,_,h,_,_,_,_ => h.elim
  | _ :: _,[],_,_,h,_,_,_,_ => h.elim
theorem dec_struct {l : List (TypeId × Nat × Nat)} (hsh : shapeOf P t = some l) {qs : List (Nat × (List D → Prop))} (hz : P.cellsOf t = sumQ qs) (hf : ∀ m,m < n → fieldsAt enc P w m 0 l qs) : DecAt enc P w t n (splitQ qs):=by
  obtain ⟨fs,ht,rfl⟩ : ∃ fs,P.underlying t = some (.struct fs) ∧ l = fs.toList.map fun f => (f.type,f.offset,P.cellsOf f.type):=by
    unfold shapeOf at hsh
    split at hsh
    · rename_i fs ht;exact ⟨fs,ht,(Option.some.inj hsh).symm⟩
    · cases hsh
  intro cs x h hw
  obtain ⟨xs,m,hm,rfl,hl,hlen,hx⟩:=DataW.trod_struct ht h
  simp only [DataW.weights,ht] at hw
  have:=fields_ok (cs:=cs) fs.toList qs 0 xs (hf m (by omega)) (by rw [hlen];simp) (by rw [hl,hz];omega) (fun i f hi => hx i f (by simpa using hi)) hw
  simpa using this
def ArgAt {H : Type} (enc : TypeId × Value → H) (P : Program) (t : TypeId) (Q : A → Prop) : Prop :=
  ∀ (w : World) (b0 : Nat) (v : Value) (d : DataW H) (ps : List MemPlace),Value.okWide P w .any b0 t v → DataW.Trod enc P w 0 (fun _ => true) true t v d ps → (∀ m,m ∈ d.weights P t → m ≤ reachBytes) →
    ∃ x,VSim w (fun b => b < w.heap.size) w.heap.size [] x v ∧ Q x
theorem repL_agg {w : World} {ok : Nat → Prop} {lo : Nat} : ∀ {vs : List Value} {ds : List D},RepL w ok vs ds → VSimL w ok lo [] (ds.map (A.d false)) vs
  | [],[],_ => by simp [VSimL]
  | _ :: _,_ :: _,h => by
    simp only [List.map_cons,VSimL]
    exact ⟨h.1,repL_agg h.2⟩
theorem arg_struct {l : List (TypeId × Nat × Nat)} (hsh : shapeOf P t = some l) {Q : List D → Prop} (h : ∀ w n,DecAt enc P w t n Q) : ArgAt enc P t (fun x => ∃ ds,x = .agg (ds.map (A.d false)) ∧ Q ds):=by
  intro w b0 v d ps hv hd hw
  obtain ⟨fs,ht⟩ : ∃ fs,P.underlying t = some (.struct fs):=by
    unfold shapeOf at hsh
    split at hsh
    · rename_i fs ht;exact ⟨fs,ht⟩
    · cases hsh
  unfold Value.okWide at hv
  rw [ht] at hv
  obtain ⟨cs,rfl,_⟩:=hv
  obtain ⟨n,hd⟩:=hd
  obtain ⟨ds,hr,hq⟩:=h w n _ _ hd hw
  refine ⟨_,?_,ds,rfl,hq⟩
  simp only [VSim]
  exact ⟨cs.toList,by simp,repL_agg hr⟩
theorem arg_of {w : World} {v : Value} (hone : v.cells = #[v]) {d : DataW H} {ps : List MemPlace} (hd : DataW.Trod enc P w 0 (fun _ => true) true t v d ps) (hw : ∀ m,m ∈ d.weights P t → m ≤ reachBytes) {Q : List D → Prop} (h : ∀ w n,DecAt enc P w t n Q) :
    ∃ x,Rep w (fun b => b < w.heap.size) v x ∧ Q [x]:=by
  obtain ⟨n,hd⟩:=hd
  rw [hone] at hd
  obtain ⟨ds,hr,hq⟩:=h w n _ _ hd hw
  match ds,hr,hq with
  | [x],hr,hq => exact ⟨x,hr.1,hq⟩
theorem arg_int {k : IntKind} (ht : P.underlying t = some (.int k)) : ArgAt enc P t (fun x => ∃ m,x = .d false (.int k m)):=by
  intro w b0 v d ps hv hd hw
  obtain ⟨n,rfl⟩:=okWide_int ht hv
  obtain ⟨x,hx,m,hm⟩:=arg_of rfl hd hw (fun _ _ => dec_int ht)
  simp only [List.cons.injEq,and_true] at hm
  exact ⟨.d false x,hx,m,by rw [hm]⟩
theorem arg_str (ht : P.underlying t = some .string) : ArgAt enc P t (fun x => ∃ m,x = .d false (.str m)):=by
  intro w b0 v d ps hv hd hw
  obtain ⟨n,rfl⟩:=okWide_string ht hv
  obtain ⟨x,hx,m,hm⟩:=arg_of rfl hd hw (fun _ _ => dec_str ht)
  simp only [List.cons.injEq,and_true] at hm
  exact ⟨.d false x,hx,m,by rw [hm]⟩
def ArgsAt {H : Type} (enc : TypeId × Value → H) (P : Program) : List TypeId → List (A → Prop) → Prop
  | [],[] => True
  | t :: ts,Q :: qs => ArgAt enc P t Q ∧ ArgsAt enc P ts qs
  | _,_ => False
def AllQ : List (A → Prop) → List A → Prop
  | [],[] => True
  | Q :: qs,x :: xs => Q x ∧ AllQ qs xs
  | _,_ => False
theorem args_at {w : World} {b0 : Nat} : ∀ {ts : List TypeId} {qs : List (A → Prop)} {vs : List Value} {ds : List (DataW H)} {ps : List MemPlace},ArgsAt enc P ts qs → (∀ (j : Nat) (t : TypeId) (v : Value),ts[j]? = some t → vs[j]? = some v → Value.okWide P w .any b0 t v) →
    DataW.TrodAll enc P w 0 (fun _ => true) true ts vs ds ps → (∀ m,m ∈ DataW.weightsEach P ts ds → m ≤ reachBytes) → ∃ As,VSimL w (fun b => b < w.heap.size) w.heap.size [] As vs ∧ AllQ qs As
  | [],[],vs,ds,ps,_,_,h,_ => by
    match vs,ds,h with
    | [],[],_ => exact ⟨[],by simp [VSimL],trivial⟩
  | t :: ts,Q :: qs,vs,ds,ps,ha,hv,h,hw => by
    match vs,ds,h with
    | v :: vs,d :: ds,⟨p,q,h1,h2,_⟩ =>
      simp only [DataW.weightsEach,List.mem_append] at hw
      obtain ⟨x,g1,g2⟩:=ha.1 w b0 v d p (hv 0 t v rfl rfl) h1 (fun m hm => hw m (.inl hm))
      obtain ⟨As,g3,g4⟩:=args_at ha.2 (fun j t' v' h1 h2 => hv (j + 1) t' v' (by simpa using h1) (by simpa using h2)) h2 (fun m hm => hw m (.inr hm))
      exact ⟨x :: As,by simp only [VSimL];exact ⟨g1,g3⟩,g2,g4⟩
  | [],_ :: _,_,_,_,h,_,_,_ => h.elim
  | _ :: _,[],_,_,_,h,_,_,_ => h.elim
theorem trodAll_below (hl : laidOutB P = true) {W W' : World} (hb : Below W.heap.size W W') : ∀ {ts : List TypeId} {vs : List Value} {ds : List (DataW H)} {ps : List MemPlace},(∀ t,t ∈ ts → P.readableRec t = true ∧ t < P.types.size) →
    DataW.TrodAll enc P W 0 (fun _ => true) true ts vs ds ps → (∀ x,x ∈ ps → x.block < W.heap.size) → DataW.TrodAll enc P W' 0 (fun b => decide (b < W.heap.size)) true ts vs ds ps
  | [],vs,ds,ps,_,h,_ => by
    match vs,ds,h with
    | [],[],h => exact h
  | t :: ts,vs,ds,ps,hr,h,hlt => by
    match vs,ds,h with
    | v :: vs,d :: ds,⟨p,q,h1,h2,h3⟩ =>
      subst h3
      exact ⟨p,q,Below.trod hl (hr t (by simp)).1 (hr t (by simp)).2 h1 hb (fun x hx => hlt x (by simp [hx])),trodAll_below hl hb (fun t' ht' => hr t' (by simp [ht'])) h2 (fun x hx => hlt x (by simp [hx])),rfl⟩
theorem trodAll_length : ∀ {w : World} {base : Nat} {sp : Nat → Bool} {hd : Bool} {ts : List TypeId} {vs : List Value} {ds : List (DataW H)} {ps : List MemPlace},DataW.TrodAll enc P w base sp hd ts vs ds ps → vs.length = ts.length ∧ ds.length = ts.length
  | _,_,_,_,[],vs,ds,ps,h => by
    match vs,ds,h with
    | [],[],_ => exact ⟨rfl,rfl⟩
  | _,_,_,_,t :: ts,vs,ds,ps,h => by
    match vs,ds,h with
    | v :: vs,d :: ds,⟨p,q,h1,h2,h3⟩ =>
      have:=trodAll_length h2
      exact ⟨by simp [this.1],by simp [this.2]⟩
theorem law_post {f : FuncId} {fn : Func} {s : ChangeSpec} (hl : laidOutB P = true) {qs : List (A → Prop)} (hq : ArgsAt enc P fn.params.toList qs) (hct : ∀ As,AllQ qs As → Ct P f As (.d true (.bool true)))
    (hvars : s.vars = []) (hrt : fn.resultTypes = #[t]) (htb : P.underlying t = some .bool) (hspec : ∀ ds : List (DataW H),ds.length = fn.params.toList.length → s.fn H ds = { results:=[.lit (.bool true)],args:=ds })
    (hrd : ∀ t,t ∈ fn.params.toList → P.readableRec t = true ∧ t < P.types.size)
    {W : World} (hL : Laid W) {base : Nat} {args : Array Value} {ds gs : List (DataW H)} {before : List MemPlace} (hval : ∀ (j : Nat) t v,fn.params[j]? = some t → args[j]? = some v → Value.okWide P W .any base t v)
    (hW : DataW.Whole enc P fn.params.toList s.vars false W args.toList ds gs before) (hsz : (DataW.weightsEach P (fn.params.toList ++ s.plain.varTypes P) (ds ++ gs)).all (· ≤ reachBytes) = true) :
    Calls P f args W fun e W' => ∃ v,e = .returned v ∧ s.post enc P fn false true false false W args v W':=by
  have hW':=hW
  obtain ⟨p,q,hA,hV,rfl,hfz,hnd⟩:=hW
  rw [hvars] at hV
  obtain ⟨rfl,rfl⟩:=trodVars_none hV
  have hvt : s.plain.varTypes P = []:=by simp [ChangeSpec.plain,DataSpec.varTypes,hvars]
  rw [hvt,append_nil,append_nil] at hsz
  obtain ⟨As,h1,h2⟩:=args_at hq (fun j t v h1 h2 => hval j t v (by simpa using h1) (by simpa using h2)) hA (fun m hm => by simpa using List.all_eq_true.1 hsz m hm)
  have:=(hct As h2).2 W (fun b => b < W.heap.size) args.toList hL (fun b h => h) h1
  refine (by simpa using this : Calls P f args W _).mono ?_
  rintro e W' ⟨v,rfl,hx,hv⟩
  have hvb:=vbool hv
  subst hvb
  have hbel : Below W.heap.size W W':=hx.below (fun _ h => h)
  have hlen:=trodAll_length hA
  have hlt : ∀ x,x ∈ p → x.block < W.heap.size:=fun x hx => by simpa using hW'.lt x (by simp [hx])
  have hs:=hspec ds hlen.2
  refine ⟨_,rfl,ds,[],p ++ [],[],p,[],by simpa using hW',?_,?_,?_,hbel.frame _,fun h => by cases h⟩
  · rw [append_nil,hs,hrt]
    exact trodAll_mk1 (shut_bool htb _)
  · rw [append_nil,hs]
    exact trodAll_below hl hbel hrd hA hlt
  · rw [hvars,append_nil,hs]
    rfl
end
end Go.Proofs.YtlddcimpdkcgeaaGreatDoor.Sym
