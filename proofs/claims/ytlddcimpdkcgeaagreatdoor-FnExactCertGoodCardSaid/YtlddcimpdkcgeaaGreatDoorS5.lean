/- Instructions: what they make of an abstract state is what the machine makes of its own. -/
import Derived.Test.YtlddcimpdkcgeaaGreatDoorS3
import Derived.Laws.BytesString
import Derived.Laws.Slices
import Derived.Laws.MakeOwn
set_option linter.unusedVariables false
set_option linter.unusedSimpArgs false
/- Instructions: their meaning over abstract states. -/
namespace Go.Proofs.YtlddcimpdkcgeaaGreatDoor.Sym
open Go.RowKit
inductive X where
  | t (n : Nat)
  | c (k : A)
def A.ofVal1 : Value → A
  | .int k n => if k.min ≤ n ∧ n ≤ k.max then .d true (.int k n) else .any
  | .bool b => .d true (.bool b)
  | .string s => if s.size ≤ 4611686018427387904 then .d true (.str s) else .any
  | .slice none 0 0 => .nil
  | _ => .any
def A.ofVal : Value → A
  | .agg cs => .agg (cs.toList.map A.ofVal1)
  | v => A.ofVal1 v
def toX : Operand → X
  | .tmp t => .t t
  | .const v => .c (A.ofVal v)
  | .func f => .c (.fn f [])
  | .global _ => .c .any
def X.ev (σ : St) : X → A
  | .t n => lkp σ.t n
  | .c k => k
inductive I where
  | bad
  | mv (x : X)
  | own (ety e : Nat)
  | pick (c a b : X)
  | box (x : X)
  | alloc (z : List A)
  | allocR (ety e : Nat)
  | ld (n : Option Nat) (p : X)
  | st (n : Nat) (p v : X)
  | fa (off : Nat) (p : X)
  | ia (e : Nat) (x i : X)
  | ix (x i : X)
  | bin (op : BinOp) (x y : X)
  | beq (n : Bool) (x y : X)
  | not (x : X)
  | cvi (k : IntKind) (x : X)
  | bstr (x : X)
  | len (x : X)
  | slen (x : X)
  | app (ety e by_ : Nat) (s x : X)
  | call (f : X) (args : List X)
  | mks (ety e by_ : Nat) (z : List A) (l c : X)
  | bs (ety e : Nat) (parts : List X)
  | bld (z : List A) (parts : List (Nat × Nat × X))
  | slc (e : Nat) (x : X) (lo hi : Option X)
  | sls (x : X) (lo hi : Option X)
  | mkf (f : FuncId) (cap : List X)
  | ext (x : X) (i : Nat)
  | ck (x : X)
  | inl (n : Bool) (x : X)
def inOrder : Nat → List (Nat × Operand) → Option (List X)
  | _,[] => some []
  | k,(i,x) :: r => bif Nat.beq i k then (match inOrder (k + 1) r with|some l => some (toX x :: l)|none => none) else none
def bldParts (P : Program) (fs : Array Field) : List (Nat × Operand) → Option (List (Nat × Nat × X))
  | [] => some []
  | (i,x) :: r => match fs[i]?,bldParts P fs r with|some f,some l => some ((f.offset,P.cellsOf f.type,toX x) :: l)|_,_ => none
def asgI (P : Program) (ty : TypeId) : Operand → I
  | .const (.slice none 0 0) => match P.underlying ty with
    | some (.slice e) => .own e (P.cellsOf e)
    | _ => .mv (.c .nil)
  | x => .mv (toX x)
def ldI (P : Program) (t : TypeId) (p : Operand) : I:=match P.underlying t with
  | some (.struct _) => .ld (some (P.cellsOf t)) (toX p)
  | some (.array _ _) => .bad
  | some _ => .ld none (toX p)
  | none => .bad
def faI (P : Program) (t : TypeId) (x : Operand) (f : Nat) : I:=match P.underlying t with
  | some (.struct fs) => match fs[f]? with
    | some fd => if P.cellsOf fd.type = 0 then .bad else .fa fd.offset (toX x)
    | none => .bad
  | _ => .bad
def iaI (P : Program) (t : TypeId) (x i : Operand) : I:=match P.underlying t with
  | some (.slice e) => if (P.info? e).isSome then .ia (P.cellsOf e) (toX x) (toX i) else .bad
  | _ => .bad
def ixI (P : Program) (t : TypeId) (x i : Operand) : I:=match P.underlying t with
  | some .string => .ix (toX x) (toX i)
  | _ => .bad
def cvI (P : Program) (s d : TypeId) (x : Operand) : I:=match P.underlying s,P.underlying d with
  | some (.int _),some (.int k) => .cvi k (toX x)
  | some (.slice e),some .string => match P.underlying e with
    | some (.int .u8) => .bstr (toX x)
    | _ => .bad
  | _,_ => .bad
def lenI (P : Program) : List Operand → List TypeId → I
  | [x],[t] => match P.underlying t with
    | some (.slice _) => .len (toX x)
    | some .string => .slen (toX x)
    | _ => .bad
  | _,_ => .bad
def allocE (P : Program) (t : TypeId) : List Value → Option (Nat × Nat)
  | [.slice none 0 0] => match P.underlying t with
    | some (.struct fs) => match fs.toList with
      | [f] => match P.underlying f.type with
        | some (.slice e) => match P.info? e with
          | some i => some (e,i.size)
          | none => none
        | _ => none
      | _ => none
    | _ => none
  | _ => none
def allocI (P : Program) (t : TypeId) (z : Value) : I:=match allocE P t z.cells.toList with
  | some (e,n) => .allocR e n
  | none => .alloc (z.cells.toList.map A.ofVal1)
def rowI (P : Program) (t : TypeId) (k : TypeId → TypeInfo → Value → I) : I:=match P.underlying t with
  | some (.slice e) => match P.info? e with
    | some i => match i.zero with
      | some z => if z.cells.size = i.size ∧ 0 < i.size then k e i z else .bad
      | none => .bad
    | none => .bad
  | _ => .bad
def appI (P : Program) : List Operand → List TypeId → I
  | [s,x],[t,u] => if t = u then rowI P t (fun e i _ => .app e i.size i.bytes (toX s) (toX x)) else .bad
  | _,_ => .bad
def callI (P : Program) (cl : Call) : I:=match cl.callee with
  | .builtin .len => lenI P cl.args.toList cl.argTypes.toList
  | .builtin .append => appI P cl.args.toList cl.argTypes.toList
  | .value f => .call (toX f) (cl.args.toList.map toX)
  | _ => .bad
def bsI (n : Nat) (parts : Array (Nat × Operand)) (e : TypeId) (i : TypeInfo) (_ : Value) : I :=
  if n = parts.size ∧ n * i.size ≤ 16777216 then (match inOrder 0 parts.toList with|some l => .bs e i.size l|none => .bad) else .bad
def bldI (P : Program) (t : TypeId) (parts : Array (Nat × Operand)) : I:=match P.underlying t with
  | some (.struct fs) => match (P.info? t).bind (·.zero),bldParts P fs parts.toList with
    | some z,some l => if fs.toList.all (fun f => (P.info? f.type).isSome) then .bld (z.cells.toList.map A.ofVal1) l else .bad
    | _,_ => .bad
  | _ => .bad
def slI (P : Program) (t : TypeId) (x : Operand) (lo hi : Option Operand) : I:=match P.underlying t with
  | some .string => .sls (toX x) (lo.map toX) (hi.map toX)
  | some (.slice e) => if (P.info? e).isSome then .slc (P.cellsOf e) (toX x) (lo.map toX) (hi.map toX) else .bad
  | _ => .bad
def mkfI : Fn → List Operand → Array Operand → I
  | .func f,[],cap => .mkf f (cap.toList.map toX)
  | _,_,_ => .bad
def binI (P : Program) (op : BinOp) (t : TypeId) (x y : Operand) : I:=match op,P.underlying t with
  | .eql,some .bool => .beq false (toX x) (toX y)
  | .neq,some .bool => .beq true (toX x) (toX y)
  | .eql,some (.interface _) => match y with|.const .nilIface => .inl false (toX x)|_ => .bad
  | .neq,some (.interface _) => match y with|.const .nilIface => .inl true (toX x)|_ => .bad
  | op,_ => .bin op (toX x) (toX y)
def toI (P : Program) (o : Oper) : I :=
  match o.op with
  | .assign x => asgI P o.type x
  | .move x => .mv (toX x)
  | .pick c a b => .pick (toX c) (toX a) (toX b)
  | .box _ x => .box (toX x)
  | .alloc t => match (P.info? t).bind (·.zero) with
    | some z => allocI P t z
    | none => .bad
  | .load t p => ldI P t p
  | .store t p v => if (P.info? t).isSome then .st (P.cellsOf t) (toX p) (toX v) else .bad
  | .fieldAddr t x f => faI P t x f
  | .indexAddr t x i => iaI P t x i
  | .index t x i => ixI P t x i
  | .binOp op t x y _ => binI P op t x y
  | .unOp op _ x => match op with|.not => .not (toX x)|_ => .bad
  | .convert s d x => cvI P s d x
  | .call cl => callI P cl
  | .makeSlice t l c => rowI P t (fun e i z => .mks e i.size i.bytes (z.cells.toList.map A.ofVal1) (toX l) (toX c))
  | .buildSlice t n parts => rowI P t (bsI n parts)
  | .build t parts => bldI P t parts
  | .slice t x lo hi mx => match mx with|none => slI P t x lo hi|some _ => .bad
  | .makeFunc fn first cap => mkfI fn first.toList cap
  | .extract x i => .ext (toX x) i
  | .nilCheck x => .ck (toX x)
  | _ => .bad
def beqS (s t : ByteArray) : Bool:=s.toList == t.toList
def ltS (s t : ByteArray) : Bool:=Op.bytesLess s.toList t.toList
def btS (s : ByteArray) (n : Int) : Int:=((s[n.toNat]?).map (fun b => (b.toNat : Int))).getD 0
inductive Res where
  | bad
  | val (p : Prop) (x : A)
  | st (p : Prop) (σ : St) (x : A)
  | call (p : Prop) (σ0 : St) (xs : List X) (σb : St) (Bs : List A) (σ : St) (f : FuncId) (As : List A)
def peelG : A → Bool
  | .opt g _ => g
  | _ => true
def peel : A → A
  | .opt _ x => x
  | x => x
def pickB (c : Bool) : A → A → Res
  | .any,.d _ (.bool q) => .val (c = false) (.d true (.bool q))
  | .d _ (.bool p),.any => .val (c = true) (.d true (.bool p))
  | .opt g (.d _ (.bool p)),.d _ (.bool q) => .val (c = true → g = true) (.d true (.bool (bif c then p else q)))
  | .d _ (.bool p),.opt g (.d _ (.bool q)) => .val (c = false → g = true) (.d true (.bool (bif c then p else q)))
  | .d _ (.bool p),.d _ (.bool q) => .val True (.d true (.bool (bif c then p else q)))
  | _,_ => .bad
def Res.andp (q : Prop) : Res → Res
  | .val p x => .val (q ∧ p) x
  | _ => .bad
def one : A → Bool
  | .d _ _ => true
  | .ptr _ _ => true
  | .osl _ => true
  | .otr _ => true
  | .fn _ _ => true
  | .ep _ _ => true
  | .nil => true
  | _ => false
def setL : List A → Nat → List A → List A
  | cells,_,[] => cells
  | cells,off,x :: xs => setL (cells.set off x) (off + 1) xs
def shrI (x y : Int) : Int:=x.fdiv (2 ^ (min y.toNat 64))
def andI (x y : Int) : Int:=IntKind.i64.wrap ((BitVec.ofInt 64 x &&& BitVec.ofInt 64 y).toNat)
def xorI (x y : Int) : Int:=IntKind.i64.wrap ((BitVec.ofInt 64 x ^^^ BitVec.ofInt 64 y).toNat)
def aBin : BinOp → A → A → Option (Prop × A)
  | .add,.d _ (.int .i64 x),.d _ (.int .i64 y) => some (True,.d true (.int .i64 (wrap64 (x + y))))
  | .sub,.d _ (.int .i64 x),.d _ (.int .i64 y) => some (True,.d true (.int .i64 (wrap64 (x - y))))
  | .mul,.d _ (.int .i64 x),.d _ (.int .i64 y) => some (True,.d true (.int .i64 (wrap64 (x * y))))
  | .quo,.d _ (.int .i64 x),.d _ (.int .i64 y) => some (y ≠ 0,.d true (.int .i64 (wrap64 (x.tdiv y))))
  | .rem,.d _ (.int .i64 x),.d _ (.int .i64 y) => some (0 < y,.d true (.int .i64 (x.tmod y)))
  | .eql,.d _ (.int .i64 x),.d _ (.int .i64 y) => some (True,.d true (.bool (decide (x = y))))
  | .neq,.d _ (.int .i64 x),.d _ (.int .i64 y) => some (True,.d true (.bool (!decide (x = y))))
  | .lss,.d _ (.int .i64 x),.d _ (.int .i64 y) => some (True,.d true (.bool (decide (x < y))))
  | .leq,.d _ (.int .i64 x),.d _ (.int .i64 y) => some (True,.d true (.bool (decide (x ≤ y))))
  | .gtr,.d _ (.int .i64 x),.d _ (.int .i64 y) => some (True,.d true (.bool (decide (y < x))))
  | .geq,.d _ (.int .i64 x),.d _ (.int .i64 y) => some (True,.d true (.bool (decide (y ≤ x))))
  | .eql,.d _ (.int .u8 x),.d _ (.int .u8 y) => some (True,.d true (.bool (decide (x = y))))
  | .neq,.d _ (.int .u8 x),.d _ (.int .u8 y) => some (True,.d true (.bool (!decide (x = y))))
  | .lss,.d _ (.int .u8 x),.d _ (.int .u8 y) => some (True,.d true (.bool (decide (x < y))))
  | .leq,.d _ (.int .u8 x),.d _ (.int .u8 y) => some (True,.d true (.bool (decide (x ≤ y))))
  | .gtr,.d _ (.int .u8 x),.d _ (.int .u8 y) => some (True,.d true (.bool (decide (y < x))))
  | .geq,.d _ (.int .u8 x),.d _ (.int .u8 y) => some (True,.d true (.bool (decide (y ≤ x))))
  | .add,.d _ (.str x),.d _ (.str y) => some (x.size + y.size ≤ 4611686018427387904,.d true (.str (x ++ y)))
  | .eql,.d _ (.str x),.d _ (.str y) => some (True,.d true (.bool (beqS x y)))
  | .neq,.d _ (.str x),.d _ (.str y) => some (True,.d true (.bool (!beqS x y)))
  | .lss,.d _ (.str x),.d _ (.str y) => some (True,.d true (.bool (ltS x y)))
  | .geq,.d _ (.str x),.d _ (.str y) => some (True,.d true (.bool (!ltS x y)))
  | .shr,.d _ (.int .i64 x),.d _ (.int _ y) => some (0 ≤ y,.d true (.int .i64 (shrI x y)))
  | .and,.d _ (.int .i64 x),.d _ (.int .i64 y) => some (True,.d true (.int .i64 (andI x y)))
  | .xor,.d _ (.int .i64 x),.d _ (.int .i64 y) => some (True,.d true (.int .i64 (xorI x y)))
  | _,_,_ => none
def guards : List A → Prop
  | [] => True
  | .opt g _ :: r => g = true ∧ guards r
  | _ :: r => guards r
def evs (σ : St) : List X → List A
  | [] => []
  | x :: xs => x.ev σ :: evs σ xs
def peels : List A → List A
  | [] => []
  | x :: xs => peel x :: peels xs
def rowOf (σ : St) : A → Option (List (List D))
  | .d _ (.sl xs) => some xs
  | .nil => some []
  | .osl i => match σ.h[i]? with|some (.row _ _ _ xs) => some xs|_ => none
  | _ => none
def partD : A → Option (List D)
  | .agg xs => dsOf xs
  | x => dsOf [x]
def partsD : List A → Option (List (List D))
  | [] => some []
  | x :: r => match partD x,partsD r with|some ds,some l => some (ds :: l)|_,_ => none
def bldA (σ : St) : List A → List (Nat × Nat × X) → Option (List A)
  | z,[] => some z
  | z,(off,n,x) :: r => match x.ev σ with
    | .agg xs => bif Nat.beq xs.length n && Nat.ble (off + n) z.length then bldA σ (setL z off xs) r else none
    | y => bif one y && Nat.beq n 1 && Nat.ble (off + 1) z.length then bldA σ (z.set off y) r else none
def bytesD (xs : List (List D)) : List UInt8:=xs.map fun l => match l with|[.int .u8 n] => UInt8.ofNat n.toNat|_ => 0
def areBytes : List (List D) → Prop
  | [] => True
  | [.int .u8 _] :: r => areBytes r
  | _ => False
def killT (i : Nat) : List (Nat × A) → List (Nat × A)
  | [] => []
  | (k,x) :: t => (k,bif x.free (fun j => !Nat.beq j i) then x else .any) :: killT i t
def killL (i : Nat) : List A → List A
  | [] => []
  | x :: xs => (bif x.free (fun j => !Nat.beq j i) then x else .any) :: killL i xs
def O.kill (i : Nat) : O → O
  | .box cells => .box (killL i cells)
  | .row own ety e xs => .row own ety e xs
  | .tree xs => .tree xs
  | .dead => .dead
def killH (i : Nat) : Nat → O → List O → List O
  | _,_,[] => []
  | n,q,o :: h => (bif Nat.beq n i then q else o.kill i) :: killH i (n + 1) q h
def D.sc : D → Bool
  | .sl _ => false
  | .ifc _ => false
  | _ => true
def A.sc : A → Bool
  | .d _ x => D.sc x
  | .nil => true
  | _ => false
def partSc : A → Bool
  | .agg xs => xs.all A.sc
  | x => A.sc x
def scL : List D → Bool
  | [] => true
  | d :: ds => D.sc d && scL ds
def scLL : List (List D) → Bool
  | [] => true
  | l :: ls => scL l && scLL ls
def nilL : List D → Bool
  | [] => true
  | .sl [] :: ds => nilL ds
  | d :: ds => D.sc d && nilL ds
def nilLL : List (List D) → Bool
  | [] => true
  | l :: ls => nilL l && nilLL ls
def nilO (σ : St) (ys : List (List D)) : A → Bool
  | .osl k => match σ.h[k]? with|some (.row true _ _ _) => nilLL ys|_ => false
  | _ => false
def A.tid : A → List Nat
  | .otr j => [j]
  | .agg xs => go xs
  | _ => []
where go : List A → List Nat
  | [] => []
  | .otr j :: r => j :: go r
  | _ :: r => go r
def tids : List A → List Nat
  | [] => []
  | x :: xs => x.tid ++ tids xs
def cellsT (σ : St) : List A → Option (List D × Option Nat)
  | [] => some ([],none)
  | .d _ x :: r => match D.sc x,cellsT σ r with|true,some (ds,k) => some (x :: ds,k)|_,_ => none
  | .nil :: r => match cellsT σ r with|some (ds,k) => some (.sl [] :: ds,k)|_ => none
  | .otr j :: r => match σ.h[j]?,cellsT σ r with|some (.tree xs),some (ds,none) => some (.sl xs :: ds,some j)|_,_ => none
  | _ :: _ => none
def partC (σ : St) : A → Option (List D × Option Nat)
  | .agg xs => cellsT σ xs
  | x => cellsT σ [x]
def partsC (σ : St) : List A → Option (List (List D) × Option Nat)
  | [] => some ([],none)
  | x :: r => match partC σ x,partsC σ r with
    | some (ds,none),some (l,k) => some (ds :: l,k)
    | some (ds,some k),some (l,none) => some (ds :: l,some k)
    | _,_ => none
def I.res (σ : St) : I → Res
  | .bad => .bad
  | .mv x => .val (peelG (x.ev σ) = true) (peel (x.ev σ))
  | .own ety e => .st True ⟨σ.t,σ.h ++ [.row true ety e []]⟩ (.osl σ.h.length)
  | .pick c a b => match peel (c.ev σ) with
    | .d _ (.bool c') => (pickB c' (a.ev σ) (b.ev σ)).andp (peelG (c.ev σ) = true)
    | _ => .bad
  | .box x => match x.ev σ with
    | .agg xs => .st True ⟨σ.t,σ.h ++ [.box xs]⟩ (.ptr σ.h.length 0)
    | y => bif one y then .st True ⟨σ.t,σ.h ++ [.box [y]]⟩ (.ptr σ.h.length 0) else .bad
  | .alloc z => .st True ⟨σ.t,σ.h ++ [.box z]⟩ (.ptr σ.h.length 0)
  | .allocR ety e => .st True ⟨σ.t,σ.h ++ [.row true ety e [],.box [.osl σ.h.length]]⟩ (.ptr (σ.h.length + 1) 0)
  | .ld none p => match peel (p.ev σ) with
    | .ptr i off => match σ.h[i]? with
      | some (.box cells) => match cells[off]? with
        | some x => .val (peelG (p.ev σ) = true) x
        | none => .bad
      | _ => .bad
    | .ep ds off => match ds[off]? with
      | some d => .val (peelG (p.ev σ) = true) (.d false d)
      | none => .bad
    | .optr i j e off => match σ.h[i]? with
      | some (.row _ _ e' xs) => match (xs.getD j [])[off]? with
        | some d => .val (peelG (p.ev σ) = true ∧ e = e' ∧ j < xs.length) (.d false d)
        | none => .bad
      | _ => .bad
    | _ => .bad
  | .ld (some n) p => match peel (p.ev σ) with
    | .ptr i off => match σ.h[i]? with
      | some (.box cells) => .val (peelG (p.ev σ) = true ∧ off + n ≤ cells.length) (.agg ((cells.drop off).take n))
      | _ => .bad
    | .ep ds off => .val (peelG (p.ev σ) = true ∧ off + n ≤ ds.length) (.agg (((ds.drop off).take n).map (A.d false)))
    | .optr i j e off => match σ.h[i]? with
      | some (.row _ _ e' xs) => .val (peelG (p.ev σ) = true ∧ e = e' ∧ j < xs.length ∧ off + n ≤ e) (.agg ((((xs.getD j []).drop off).take n).map (A.d false)))
      | _ => .bad
    | _ => .bad
  | .st n p v => match p.ev σ with
    | .ptr i off => match σ.h[i]? with
      | some (.box cells) => match v.ev σ with
        | .agg xs => bif xs.all one then .st (xs.length = n ∧ off + n ≤ cells.length) ⟨σ.t,σ.h.set i (.box (setL cells off xs))⟩ .any else .bad
        | y => bif one y then .st (n = 1 ∧ off < cells.length) ⟨σ.t,σ.h.set i (.box (cells.set off y))⟩ .any else .bad
      | _ => .bad
    | .optr i j e off => match σ.h[i]? with
      | some (.row ow ety e' xs) => match partD (v.ev σ) with
        | some ds => .st (off = 0 ∧ n = e ∧ e = e' ∧ ds.length = e ∧ j < xs.length) ⟨σ.t,σ.h.set i (.row (ow && partSc (v.ev σ)) ety e' (xs.set j ds))⟩ .any
        | none => match ow,partC σ (v.ev σ) with
          | true,some (ds,some k) => .st (off = 0 ∧ n = e ∧ e = e' ∧ ds.length = e ∧ j < xs.length) ⟨killT k σ.t,(killH k 0 .dead σ.h).set i (.row true ety e' (xs.set j ds))⟩ .any
          | _,_ => .bad
      | _ => .bad
    | _ => .bad
  | .fa off p => match peel (p.ev σ) with
    | .ptr i o => .val (peelG (p.ev σ) = true) (.ptr i (o + off))
    | .ep ds o => .val (peelG (p.ev σ) = true) (.ep ds (o + off))
    | .optr i j e o => .val (peelG (p.ev σ) = true) (.optr i j e (o + off))
    | _ => .bad
  | .ia e x i => match peel (x.ev σ),peel (i.ev σ) with
    | .d _ (.sl xs),.d _ (.int _ n) => .val (peelG (x.ev σ) = true ∧ peelG (i.ev σ) = true ∧ 0 ≤ n ∧ n < xs.length ∧ (xs.getD n.toNat []).length = e) (.ep (xs.getD n.toNat []) 0)
    | .osl o,.d _ (.int _ n) => match σ.h[o]? with
      | some (.row _ _ e' xs) => .val (peelG (x.ev σ) = true ∧ peelG (i.ev σ) = true ∧ 0 ≤ n ∧ n < xs.length ∧ e = e') (.optr o n.toNat e 0)
      | _ => .bad
    | _,_ => .bad
  | .ix x i => match peel (x.ev σ),peel (i.ev σ) with
    | .d _ (.str s),.d _ (.int _ n) => .val (peelG (x.ev σ) = true ∧ peelG (i.ev σ) = true ∧ 0 ≤ n ∧ n < s.size) (.d true (.int .u8 (btS s n)))
    | _,_ => .bad
  | .bin op x y => match aBin op (peel (x.ev σ)) (peel (y.ev σ)) with
    | some (p,r) => .val (peelG (x.ev σ) = true ∧ peelG (y.ev σ) = true ∧ p) r
    | none => .bad
  | .beq n x y => match peel (x.ev σ),peel (y.ev σ) with
    | .d _ (.bool p),.d _ (.bool q) => .val (peelG (x.ev σ) = true ∧ peelG (y.ev σ) = true) (.d true (.bool (bif n then !(p == q) else p == q)))
    | _,_ => .bad
  | .inl n x => match peel (x.ev σ) with
    | .d _ (.ifc b) => .val (peelG (x.ev σ) = true) (.d true (.bool (bif n then b else !b)))
    | _ => .bad
  | .not x => match peel (x.ev σ) with
    | .d _ (.bool b) => .val (peelG (x.ev σ) = true) (.d true (.bool (!b)))
    | _ => .bad
  | .cvi k x => match peel (x.ev σ) with
    | .d _ (.int _ n) => .val (peelG (x.ev σ) = true) (.d true (.int k (k.wrap n)))
    | _ => .bad
  | .bstr x => match rowOf σ (x.ev σ) with
    | some xs => .val (areBytes xs) (.d true (.str ⟨(bytesD xs).toArray⟩))
    | none => .bad
  | .slen x => match peel (x.ev σ) with
    | .d _ (.str s) => .val (peelG (x.ev σ) = true) (.d true (.int .i64 s.size))
    | _ => .bad
  | .len x => match peel (x.ev σ) with
    | .d _ (.sl xs) => .val (peelG (x.ev σ) = true) (.d true (.int .i64 xs.length))
    | .nil => .val (peelG (x.ev σ) = true) (.d true (.int .i64 0))
    | .osl i => match σ.h[i]? with
      | some (.row _ _ _ xs) => .val (peelG (x.ev σ) = true) (.d true (.int .i64 xs.length))
      | _ => .bad
    | _ => .bad
  | .app ety e by_ s x => match rowOf σ (x.ev σ) with
    | some ys => match s.ev σ with
      | .osl i => match σ.h[i]? with
        | some (.row ow ety' e' xs) => .st (ety' = ety ∧ e' = e ∧ (∀ l,l ∈ ys → l.length = e) ∧ (xs.length + ys.length) * by_ ≤ 140737488355328 ∧ xs.length + ys.length ≤ 140737488355328)
            ⟨killT i σ.t,killH i 0 (.row (ow && (scLL ys || nilO σ ys (x.ev σ))) ety e (xs ++ ys)) σ.h⟩ (.osl i)
        | _ => .bad
      | .nil => .st ((∀ l,l ∈ ys → l.length = e) ∧ ys.length * by_ ≤ 140737488355328 ∧ ys.length ≤ 140737488355328) ⟨σ.t,σ.h ++ [.row (scLL ys || nilO σ ys (x.ev σ)) ety e ys]⟩ (.osl σ.h.length)
      | _ => .bad
    | none => match x.ev σ with
      | .otr k => match σ.h[k]?,s.ev σ with
        | some (.tree ys),.osl i => match σ.h[i]? with
          | some (.row true ety' e' xs) => .st (ety' = ety ∧ e' = e ∧ (∀ l,l ∈ ys → l.length = e) ∧ (xs.length + ys.length) * by_ ≤ 140737488355328 ∧ xs.length + ys.length ≤ 140737488355328)
              ⟨killT i (killT k σ.t),killH i 0 (.row true ety e (xs ++ ys)) (killH k 0 .dead σ.h)⟩ (.osl i)
          | _ => .bad
        | _,_ => .bad
      | _ => .bad
  | .call f args =>
    let σb:=σ.frzs (A.idsL (evs σ args))
    let σ1:=σb.frzs (tids (peels (evs σb args)))
    match peel (f.ev σ1) with
    | .fn g cap => .call (guards (evs σ1 args) ∧ guards (evs σb args) ∧ peelG (f.ev σ1) = true) σ args σb (peels (evs σb args)) σ1 g (peels (evs σ1 args) ++ cap)
    | _ => .bad
  | .mks ety e by_ z l c => match l.ev σ,c.ev σ,dsOf z with
    | .d _ (.int _ n),.d _ (.int _ m),some ds => .st (0 ≤ n ∧ n ≤ m ∧ by_ * m ≤ 140737488355328 ∧ m ≤ 140737488355328 ∧ ds.length = e) ⟨σ.t,σ.h ++ [.row (z.all A.sc) ety e (List.replicate n.toNat ds)]⟩ (.osl σ.h.length)
    | _,_,_ => .bad
  | .bs ety e parts =>
    let σ1:=σ.frzs (A.idsL (evs σ parts))
    match partsC σ1 (evs σ1 parts) with
    | some (xs,some k) => .st (∀ l,l ∈ xs → l.length = e) ⟨killT k σ1.t,killH k 0 (.tree xs) σ1.h⟩ (.otr k)
    | _ => match partsD (evs σ1 parts) with
      | some xs => .st (∀ l,l ∈ xs → l.length = e) ⟨σ1.t,σ1.h ++ [.row ((evs σ1 parts).all partSc) ety e xs]⟩ (.osl σ1.h.length)
      | none => .bad
  | .bld z parts => match bldA σ z parts with
    | some xs => .val True (.agg xs)
    | none => .bad
  | .sls x lo hi =>
    match peel (x.ev σ),(match lo with|none => A.d true (.int .i64 0)|some l => peel (l.ev σ)) with
    | .d _ (.str s),.d _ (.int _ l) => match (match hi with|none => A.d true (.int .i64 s.size)|some h => peel (h.ev σ)) with
      | .d _ (.int _ h) => .val (guards [x.ev σ,(lo.map (X.ev σ)).getD .any,(hi.map (X.ev σ)).getD .any] ∧ 0 ≤ l ∧ l ≤ h ∧ h ≤ s.size) (.d true (.str (s.extract l.toNat h.toNat)))
      | _ => .bad
    | _,_ => .bad
  | .slc e x lo hi =>
    match peel (x.ev σ),(match lo with|none => A.d true (.int .i64 0)|some l => peel (l.ev σ)) with
    | .d _ (.sl xs),.d _ (.int _ l) => match (match hi with|none => A.d true (.int .i64 xs.length)|some h => peel (h.ev σ)) with
      | .d _ (.int _ h) => .val (guards [x.ev σ,(lo.map (X.ev σ)).getD .any,(hi.map (X.ev σ)).getD .any] ∧ 0 ≤ l ∧ l ≤ h ∧ h ≤ xs.length ∧ (∀ ds,ds ∈ xs → ds.length = e)) (.d false (.sl ((xs.take h.toNat).drop l.toNat)))
      | _ => .bad
    | _,_ => .bad
  | .mkf f cap =>
    let σ1:=σ.frzs (A.idsL (evs σ cap))
    .st (guards (evs σ1 cap)) σ1 (.fn f (peels (evs σ1 cap)))
  | .ck x => match peel (x.ev σ) with
    | .ptr i o => .val (peelG (x.ev σ) = true) (.ptr i o)
    | .ep ds o => .val (peelG (x.ev σ) = true) (.ep ds o)
    | _ => .bad
  | .ext x i => match peel (x.ev σ) with
    | .tup xs => match xs[i]? with
      | some y => .val (peelG (x.ev σ) = true) y
      | none => .bad
    | _ => .bad
end Go.Proofs.YtlddcimpdkcgeaaGreatDoor.Sym
namespace Go.Proofs.YtlddcimpdkcgeaaGreatDoor.Sym
open Go.RowKit
section
variable {P : Program} {c : Cx} {σ : St} {β : List Value} {a : Act} {w w' : World}
theorem cellsOf_eq {t : TypeId} {i : TypeInfo} (h : P.info? t = some i) : P.cellsOf t = i.size:=by simp [Program.cellsOf,h]
theorem info_of_under {t : TypeId} {d : TypeDesc} (h : P.underlying t = some d) : ∃ i,P.info? t = some i:=by
  unfold Program.underlying at h
  cases hi : P.info? t with
  | none => rw [hi] at h;cases h
  | some i => exact ⟨i,rfl⟩
theorem addr_add (b o n : Nat) : (⟨b,o,none⟩ : Addr).add n = ⟨b,o + n,none⟩:=by
  unfold Addr.add
  split
  · rename_i h;subst h;rfl
  · rfl
theorem ofVal1_sim {ok : Nat → Prop} {lo : Nat} (v : Value) : VSim w ok lo β (A.ofVal1 v) v:=by
  unfold A.ofVal1
  split
  · split
    · rename_i k n h
      exact ⟨[],.int k n [] [] [] h.1 h.2 .nil,List.nodup_nil,fun b hb => by cases hb⟩
    · simp [VSim]
  · rename_i b
    exact ⟨[],.bool b [] [] [] .nil,List.nodup_nil,fun b hb => by cases hb⟩
  · split
    · rename_i s h
      exact ⟨[],.str s [] [] [] h .nil,List.nodup_nil,fun b hb => by cases hb⟩
    · simp [VSim]
  · simp [VSim]
  · simp [VSim]
theorem ofValL_sim {ok : Nat → Prop} {lo : Nat} : ∀ vs : List Value,VSimL w ok lo β (vs.map A.ofVal1) vs
  | [] => by simp [VSimL]
  | v :: vs => by simp only [List.map_cons,VSimL];exact ⟨ofVal1_sim v,ofValL_sim vs⟩
theorem ofVal_sim {ok : Nat → Prop} {lo : Nat} (v : Value) : VSim w ok lo β (A.ofVal v) v:=by
  unfold A.ofVal
  split
  · rename_i cs
    simp only [VSim]
    exact ⟨cs.toList,by simp,ofValL_sim _⟩
  · exact ofVal1_sim _
theorem Sim.ev (S : Sim c σ β a w) (x : Operand) : VSim w (okOf c w σ.h β) c.lo β ((toX x).ev σ) (a.eval x):=by
  cases x with
  | tmp t => exact S.tmp t
  | const v => exact ofVal_sim v
  | global g => simp [toX,X.ev,VSim]
  | func f => simp only [toX,X.ev,VSim];exact ⟨[],rfl,by simp [VSimL]⟩
theorem VSim.peel {ok : Nat → Prop} {lo : Nat} {x : A} {v : Value} (h : VSim w ok lo β x v) (hg : peelG x = true) : VSim w ok lo β (peel x) v:=by
  cases x with
  | opt g x => simp only [VSim] at h;exact h.1 hg
  | _ => exact h
theorem vsim_int {ok : Nat → Prop} {lo : Nat} (k : IntKind) (n : Int) (h1 : k.min ≤ n) (h2 : n ≤ k.max) : VSim w ok lo β (.d true (.int k n)) (.int k n) :=
  ⟨[],.int k n [] [] [] h1 h2 .nil,List.nodup_nil,fun b hb => by cases hb⟩
theorem vsim_bool {ok : Nat → Prop} {lo : Nat} (b : Bool) : VSim w ok lo β (.d true (.bool b)) (.bool b) :=
  ⟨[],.bool b [] [] [] .nil,List.nodup_nil,fun b hb => by cases hb⟩
theorem vsim_str {ok : Nat → Prop} {lo : Nat} (s : ByteArray) (h : s.size ≤ 4611686018427387904) : VSim w ok lo β (.d true (.str s)) (.string s) :=
  ⟨[],.str s [] [] [] h .nil,List.nodup_nil,fun b hb => by cases hb⟩
theorem vint {ok : Nat → Prop} {lo : Nat} {o : Bool} {k : IntKind} {n : Int} {v : Value} (h : VSim w ok lo β (.d o (.int k n)) v) : v = .int k n ∧ k.min ≤ n ∧ n ≤ k.max:=by
  have:=h.read
  cases this
  exact ⟨rfl,by assumption,by assumption⟩
theorem vbool {ok : Nat → Prop} {lo : Nat} {o : Bool} {b : Bool} {v : Value} (h : VSim w ok lo β (.d o (.bool b)) v) : v = .bool b:=by
  have:=h.read
  cases this
  rfl
theorem vstr {ok : Nat → Prop} {lo : Nat} {o : Bool} {s : ByteArray} {v : Value} (h : VSim w ok lo β (.d o (.str s)) v) : v = .string s ∧ s.size ≤ 4611686018427387904:=by
  have:=h.read
  cases this
  exact ⟨rfl,by assumption⟩
theorem i64_min : IntKind.i64.min = -9223372036854775808:=by decide
theorem i64_max : IntKind.i64.max = 9223372036854775807:=by decide
theorem u8_min : IntKind.u8.min = 0:=by decide
theorem u8_max : IntKind.u8.max = 255:=by decide
theorem wrap64_range (n : Int) : IntKind.i64.min ≤ wrap64 n ∧ wrap64 n ≤ IntKind.i64.max:=by rw [i64_min,i64_max];unfold wrap64;omega
theorem wrap64_eq (n : Int) : IntKind.i64.wrap n = wrap64 n:=by rw [IntKind.wrap_i64];rfl
theorem wrap_range (k : IntKind) (n : Int) : k.min ≤ k.wrap n ∧ k.wrap n ≤ k.max:=by
  cases k <;> simp only [IntKind.wrap,IntKind.min,IntKind.max,IntKind.signed,IntKind.bits] <;> simp <;> (try split) <;> omega
end
end Go.Proofs.YtlddcimpdkcgeaaGreatDoor.Sym
