import PyProof.Rows.All
import PySem.Challenge.RW_nospare_k12_changes_images
import HandS.TupMul
import Wide.All
import OpenK.AllK
import Wide.FinOn
import HandS.ForMost
import HandS.ForExc
import HandS.IsInst
import HandS.Wide
import HandS.TupAny
import HandS.TupLe
import HandS.Conv
import HandS.Deep
import HandS.ExcInit
import HandS.TryMany
import HandS.ExcField
import HandS.Style
section
set_option Elab.async false
set_option linter.all false
set_option maxRecDepth 100000
set_option maxHeartbeats 4000000
/-! TupM: tuple * int where no copy is made. -/
namespace Mi
open PySem PySem.Spec L2 PyProof.Rows
theorem mul_same (l : Addr) (items : Array Value) (n : Nat) (dd : Option Addr) (sl : Array (Option Value)) (x : Int) (u : Tok) (c0 : (decide (x < -(2 ^ 63)) || decide (x ≥ 2 ^ 63)) = false) (c1 : (items.isEmpty || x == 1) = true) :
    Meets (Builtin.«tuple.__mul__» ⟨[.ref l, .int x u], []⟩) (fun _ R s => s.heap.get? l = some { cls := .type "tuple", dict := dd, data := .seq items n, slots := sl } ∧ R (.ok (.ret (Value.ref l))) s) :=
  .of_wp fun prog w A R s h => by
    obtain ⟨hp, g, d, tk, os⟩ := s
    obtain ⟨hl, h⟩ := h
    have f1 := AutoSeq1.idx_int
    wp_walk using wpAny_loadPart' hl
    refine wpAny_ite_false (decide_eq_false (by rw [c0]; exact Bool.false_ne_true)) ?_
    wp_walk using wpAny_loadPart' hl
    exact ⟨_, rfl, h⟩
theorem mul_none (l : Addr) (items : Array Value) (n : Nat) (dd : Option Addr) (sl : Array (Option Value)) (x : Int) (u : Tok) (c0 : (decide (x < -(2 ^ 63)) || decide (x ≥ 2 ^ 63)) = false) (c1 : (items.isEmpty || x == 1) = false) (c2 : (decide (x ≤ 0) || items.isEmpty) = true) :
    Meets (Builtin.«tuple.__mul__» ⟨[.ref l, .int x u], []⟩) (fun _ R s => s.heap.get? l = some { cls := .type "tuple", dict := dd, data := .seq items n, slots := sl } ∧ R (.ok (.ret (Value.ref s.heap.objs.size))) { s with heap := s.heap.push { cls := Value.type "tuple", data := Data.seq #[] }, toks := s.toks }) :=
  .of_wp fun prog w A R s h => by
    obtain ⟨hp, g, d, tk, os⟩ := s
    obtain ⟨hl, h⟩ := h
    have f1 := AutoSeq1.idx_int
    wp_walk using wpAny_loadPart' hl
    refine wpAny_ite_false (decide_eq_false (by rw [c0]; exact Bool.false_ne_true)) ?_
    wp_walk using wpAny_loadPart' hl
    first
      | exact ⟨_, rfl, h⟩
      | (refine wpAny_ite_true (decide_eq_true c2) ?_; wp_walk using wpAny_loadPart' hl; exact ⟨_, rfl, h⟩)
      | trace_state
/-- .. to the same tuple, to an empty one -/
def rRepS (K : PySem.W.Frag) : R2 := fun x y H Q => ∃ l k xs, x = .ref l ∧ y = .int k ∧ SqT K H l xs ∧ -1000 ≤ k ∧ k ≤ 1000 ∧ (((xs = [] ∨ k = 1) ∧ Q (.ref l) H) ∨ (xs ≠ [] ∧ k ≤ 0 ∧ ∀ p, H p = none → Q (.ref p) (upd H p (.tup []))))
theorem op_repS {X : Cx} : OpR X (binaryOp .Mult) (rRepS X.K) := by
  intro pins s σ H x y v u Q I rx ry h
  obtain ⟨l, k, xs, rfl, rfl, hT, k1, k2, h⟩ := h
  cases rx
  obtain ⟨t, rfl⟩ := ry
  obtain ⟨its, r, ⟨⟨cls, dd, data, sl⟩, ho, hc, n, hd⟩, hs⟩ := I.tuple hT
  simp only at hc hd
  subst hc hd
  have hle : xs.length = its.length := r.length
  have c0 : (decide (k < -(2 ^ 63)) || decide (k ≥ 2 ^ 63)) = false := by
    rw [decide_eq_false (by omega), decide_eq_false (by omega)] <;> rfl
  rcases h with ⟨hsm, q⟩ | ⟨hne, hk, q⟩
  · have c1 : (its.toArray.isEmpty || k == 1) = true := by
      rcases hsm with e | e
      · have : its = [] := List.eq_nil_of_length_eq_zero (by rw [← hle, e]; rfl)
        subst this
        rfl
      · subst e
        simp
    exact wpAny_binaryOp_repeat_ref (T := "tuple") (U := "int") (by decide) ⟨_, ho, rfl⟩ (fun s' => typeIs_int s' k t) noFill_tuple_mul F.fills_int_mul F.slot_int_rmul repeat_tuple F.slot_int_index.lookup
      (call_meets F.slot_int_rmul (typeIs_int s k t) F.entry_int_rmul (F.args_int_rmul_2 _ _) (int_rmul_tuple k t l its.toArray n dd sl)
        ⟨ho, rfl, ⟨_, ho, rfl⟩, call_meets F.slot_tuple_mul ⟨_, ho, rfl⟩ F.entry_tuple_mul (F.args_tuple_mul_2 _ _) (mul_same l its.toArray n dd sl k t c0 c1) ⟨ho, ⟨.ref l, H, I, rfl, q⟩⟩⟩)
  · have hn : its ≠ [] := fun e => hne (List.eq_nil_of_length_eq_zero (by rw [hle, e]; rfl))
    have hi : its.toArray.isEmpty = false := by
      cases its with
      | nil => exact absurd rfl hn
      | cons a b => rfl
    have c1 : (its.toArray.isEmpty || k == 1) = false := by
      rw [hi, Bool.false_or]
      exact beq_eq_false_iff_ne.mpr (by omega)
    have c2 : (decide (k ≤ 0) || its.toArray.isEmpty) = true := by
      rw [decide_eq_true hk]; rfl
    refine wpAny_binaryOp_repeat_ref (T := "tuple") (U := "int") (by decide) ⟨_, ho, rfl⟩ (fun s' => typeIs_int s' k t) noFill_tuple_mul F.fills_int_mul F.slot_int_rmul repeat_tuple F.slot_int_index.lookup
      (call_meets F.slot_int_rmul (typeIs_int s k t) F.entry_int_rmul (F.args_int_rmul_2 _ _) (int_rmul_tuple k t l its.toArray n dd sl)
        ⟨ho, rfl, ⟨_, ho, rfl⟩, call_meets F.slot_tuple_mul ⟨_, ho, rfl⟩ F.entry_tuple_mul (F.args_tuple_mul_2 _ _) (mul_none l its.toArray n dd sl k t c0 c1 c2) ⟨ho, ?_⟩⟩)
    refine ⟨.ref s.heap.objs.size, _, I.laid (t' := s.toks) (o := .tup []) (fun b ob q => Heap.get?_push_of_some _ q) (Nat.le_refl _) ?_, rfl, q _ (I.hok.fresh (Nat.le_refl _))⟩
    exact ⟨by rw [sizeLine_eq]; exact Nat.zero_le _, [], .nil, IsTup.new _ _⟩
end Mi
end

section
set_option linter.all false
/-! Mini: a small language of values, a store of cells, and what its terms come to. Plain Lean. -/
namespace Mi

inductive Ty where
  | int | bool | str | tuple | list
  deriving DecidableEq, Repr

/-- values: a tuple is what it holds; a list, a dict, an instance is a cell's number; scr is the law's own script -/
inductive Val where
  | non | bl (b : Bool) | int (i : Int) | str (s : List Nat) | tup (vs : List Val) | ref (n : Nat) | scr (ns : List Int)
  deriving Repr, Inhabited

mutual
def Val.dec : (a b : Val) → Decidable (a = b)
  | .non, b => match b with
    | .non => isTrue rfl
    | .bl _ | .int _ | .str _ | .tup _ | .ref _ | .scr _ => isFalse (fun h => nomatch h)
  | .bl x, b => match b with
    | .bl y => if h : x = y then isTrue (by rw [h]) else isFalse (fun e => h (Val.bl.inj e))
    | .non | .int _ | .str _ | .tup _ | .ref _ | .scr _ => isFalse (fun h => nomatch h)
  | .int x, b => match b with
    | .int y => if h : x = y then isTrue (by rw [h]) else isFalse (fun e => h (Val.int.inj e))
    | .non | .bl _ | .str _ | .tup _ | .ref _ | .scr _ => isFalse (fun h => nomatch h)
  | .str x, b => match b with
    | .str y => if h : x = y then isTrue (by rw [h]) else isFalse (fun e => h (Val.str.inj e))
    | .non | .bl _ | .int _ | .tup _ | .ref _ | .scr _ => isFalse (fun h => nomatch h)
  | .tup x, b => match b with
    | .tup y => match decs x y with
      | isTrue h => isTrue (by rw [h])
      | isFalse h => isFalse (fun e => h (Val.tup.inj e))
    | .non | .bl _ | .int _ | .str _ | .ref _ | .scr _ => isFalse (fun h => nomatch h)
  | .ref x, b => match b with
    | .ref y => if h : x = y then isTrue (by rw [h]) else isFalse (fun e => h (Val.ref.inj e))
    | .non | .bl _ | .int _ | .str _ | .tup _ | .scr _ => isFalse (fun h => nomatch h)
  | .scr x, b => match b with
    | .scr y => if h : x = y then isTrue (by rw [h]) else isFalse (fun e => h (Val.scr.inj e))
    | .non | .bl _ | .int _ | .str _ | .tup _ | .ref _ => isFalse (fun h => nomatch h)
def decs : (a b : List Val) → Decidable (a = b)
  | [], b => match b with
    | [] => isTrue rfl
    | _ :: _ => isFalse (fun h => nomatch h)
  | x :: xs, b => match b with
    | [] => isFalse (fun h => nomatch h)
    | y :: ys => match Val.dec x y, decs xs ys with
      | isTrue h, isTrue k => isTrue (by rw [h, k])
      | isFalse h, _ => isFalse (fun e => h (List.cons.inj e).1)
      | _, isFalse h => isFalse (fun e => h (List.cons.inj e).2)
end
instance : DecidableEq Val := Val.dec

inductive Cell where
  | lst (vs : List Val)
  | dict (kvs : List (Val × Val))
  | ins (c : Nat) (fs : List (Nat × Val))
  deriving Repr, Inhabited, DecidableEq

abbrev Sto := List Cell
abbrev Loc := List (Option Val)

inductive Out (α : Type) where
  | ok (a : α) (μ : Sto) | exc (c : Nat) (fs : List Val) (μ : Sto) | fail
  deriving Repr

def Out.bind {α β : Type} (m : Out α) (k : α → Sto → Out β) : Out β := match m with
  | .ok a μ => k a μ
  | .exc c fs μ => .exc c fs μ
  | .fail => .fail
@[simp] theorem Out.bind_ok {α β : Type} (a : α) (μ : Sto) (k : α → Sto → Out β) : (Out.ok a μ).bind k = k a μ := rfl
@[simp] theorem Out.bind_exc {α β : Type} (c : Nat) (fs : List Val) (μ : Sto) (k : α → Sto → Out β) : (Out.exc c fs μ : Out α).bind k = .exc c fs μ := rfl
@[simp] theorem Out.bind_fail {α β : Type} (k : α → Sto → Out β) : (Out.fail : Out α).bind k = .fail := rfl

abbrev LIM : Nat := 16777216

/-! ### reach: which cells a value speaks of -/
mutual
def Val.under (n : Nat) : Val → Bool
  | .ref k => decide (k < n)
  | .tup vs => underAll n vs
  | _ => true
def underAll (n : Nat) : List Val → Bool
  | [] => true
  | v :: vs => v.under n && underAll n vs
end
def Cell.under (n : Nat) : Cell → Bool
  | .lst vs => underAll n vs
  | .dict kvs => kvs.all fun p => p.1.under n && p.2.under n
  | .ins _ fs => fs.all fun p => p.2.under n
/-- the cells below n are as they were, or speak of cells below n alone -/
def stable (μ μ' : Sto) : Bool := decide (μ.length ≤ μ'.length) && (List.range μ.length).all fun k => decide (μ'[k]? = μ[k]?) || (match μ'[k]? with | some c => c.under μ.length | none => false)
/-- behind a call: cells that nothing speaks of any more are forgotten -/
def clean (μ : Sto) (v : Val) (μ' : Sto) : Val × Sto :=
  if stable μ μ' then
    if v.under μ.length then (v, μ'.take μ.length)
    else match v with
      | .ref k => match μ'[k]? with
        | some (.lst xs) => if underAll μ.length xs && decide (μ.length ≤ k) then (.ref μ.length, μ'.take μ.length ++ [.lst xs]) else (v, μ')
        | _ => (v, μ')
      | _ => (v, μ')
  else (v, μ')
def cleanO (μ : Sto) : Out Val → Out Val
  | .ok v μ' => .ok (clean μ v μ').1 (clean μ v μ').2
  | .exc c fs μ' => if stable μ μ' && underAll μ.length fs then .exc c fs (μ'.take μ.length) else .exc c fs μ'
  | .fail => .fail

/-! ### operations -/
inductive O1 where
  | neg | not | len | abs | int | toTup | toLst | isN | notN | isi (ts : List Ty) | sum | pop
  deriving DecidableEq, Repr
inductive O2 where
  | add | sub | mul | fdiv | mod | pow | shl | eq | ne | lt | le | gt | ge | inn | nin | idx | append | extend | min2 | max2 | slF | slT | popAt | index
  deriving DecidableEq, Repr
inductive O3 where
  | slice
  deriving DecidableEq, Repr

def isTy (μ : Sto) (v : Val) (t : Ty) : Option Bool := match v with
  | .non => some false
  | .bl _ => some (match t with | .int => true | .bool => true | _ => false)
  | .int _ => some (match t with | .int => true | _ => false)
  | .str _ => some (match t with | .str => true | _ => false)
  | .tup _ => some (match t with | .tuple => true | _ => false)
  | .scr _ => some (match t with | .list => true | _ => false)
  | .ref n => match μ[n]? with
    | some (.lst _) => some (match t with | .list => true | _ => false)
    | some (.dict _) => some false
    | _ => none
def isTys (μ : Sto) (v : Val) : List Ty → Option Bool
  | [] => some false
  | t :: ts => match isTy μ v t with
    | some true => some true
    | some false => isTys μ v ts
    | none => none

/-- the items of what is walked or measured -/
def items (μ : Sto) : Val → Option (List Val)
  | .tup vs => some vs
  | .scr ns => some (ns.map .int)
  | .ref n => match μ[n]? with
    | some (.lst vs) => some vs
    | _ => none
  | .str s => some (s.map fun c => .str [c])
  | _ => none

/-- the place of an index of any sign -/
def place (n : Nat) (i : Int) : Option Nat := if 0 ≤ i then (if i < n then some i.toNat else none) else if -(n : Int) ≤ i then some (i + n).toNat else none
/-- a slice's end, clipped -/
def clip (n : Nat) (v : Int) : Nat := if v < 0 then (v + (n : Int)).toNat else min v.toNat n
def cut {α : Type} (xs : List α) (lo hi : Nat) : List α := (xs.drop lo).take (hi - lo)

/-! == as Python has it -/
mutual
def eqv : Val → Val → Bool
  | .non, .non => true
  | .bl a, .bl b => a == b
  | .bl a, .int j => (if a then 1 else 0) == j
  | .int i, .bl b => i == (if b then 1 else 0)
  | .int i, .int j => i == j
  | .str x, .str y => x == y
  | .tup xs, .tup ys => eqvs xs ys
  | _, _ => false
def eqvs : List Val → List Val → Bool
  | [], [] => true
  | x :: xs, y :: ys => eqv x y && eqvs xs ys
  | _, _ => false
end
/-- no list within, not nested deep -/
def Val.flat : Val → Bool
  | .non => true | .bl _ => true | .int _ => true | .str _ => true | _ => false
mutual
def Val.plain : Nat → Val → Bool
  | _, .non => true
  | _, .bl _ => true
  | _, .int _ => true
  | _, .str s => s.all fun c => decide (c < 1114112)
  | n + 1, .tup vs => plains n vs
  | _, _ => false
def plains : Nat → List Val → Bool
  | _, [] => true
  | n, v :: vs => v.plain n && plains n vs
end
/-- what == is asked of -/
def eqOk (a b : Val) : Bool := (a.flat && b.flat) || (a.plain 60 && b.plain 60)
/-- the asInts of a list of asInts -/
def asInts : List Val → Option (List Int)
  | [] => some []
  | .int i :: vs => (asInts vs).map (i :: ·)
  | _ :: _ => none
def lexLt : List Int → List Int → Bool
  | [], [] => false
  | [], _ :: _ => true
  | _ :: _, [] => false
  | x :: xs, y :: ys => if x = y then lexLt xs ys else decide (x < y)
/-- x in xs, the items flat -/
def inFlat (x : Val) (xs : List Val) : Bool := xs.any fun y => eqv y x

def ofOpt (o : Option Val) (μ : Sto) : Out Val := match o with
  | some v => .ok v μ
  | none => .fail
def newLst (vs : List Val) (μ : Sto) : Out Val := .ok (.ref μ.length) (μ ++ [.lst vs])

def sem1 (o : O1) (a : Val) (μ : Sto) : Out Val := match o with
  | .neg => match a with
    | .int i => .ok (.int (-i)) μ
    | _ => .fail
  | .not => match a with
    | .bl b => .ok (.bl (!b)) μ
    | _ => .fail
  | .len => match a with
    | .str s => if s.length ≤ LIM then .ok (.int s.length) μ else .fail
    | _ => match items μ a with
      | some vs => .ok (.int vs.length) μ
      | none => .fail
  | .abs => match a with
    | .int i => .ok (.int (if i < 0 then -i else i)) μ
    | _ => .fail
  | .int => match a with
    | .int i => .ok (.int i) μ
    | .bl b => .ok (.int (if b then 1 else 0)) μ
    | _ => .fail
  | .toTup => match a with
    | .str _ => .fail
    | _ => match items μ a with
      | some vs => .ok (.tup vs) μ
      | none => .fail
  | .toLst => match a with
    | .str _ => .fail
    | _ => match items μ a with
      | some vs => newLst vs μ
      | none => .fail
  | .isN => .ok (.bl (decide (a = .non))) μ
  | .notN => .ok (.bl (!decide (a = .non))) μ
  | .isi ts => match isTys μ a ts with
    | some b => .ok (.bl b) μ
    | none => .fail
  | .sum => match a with
    | .ref n => match μ[n]? with
      | some (.lst vs) => match asInts vs with
        | some ns => .ok (.int ns.sum) μ
        | none => .fail
      | _ => .fail
    | _ => .fail
  | .pop => match a with
    | .ref n => match μ[n]? with
      | some (.lst vs) => match vs.getLast? with
        | some v => .ok v (μ.set n (.lst vs.dropLast))
        | none => .fail
      | _ => .fail
    | _ => .fail

def cmpI (p : Int → Int → Bool) (a b : Val) (μ : Sto) : Out Val := match a, b with
  | .int i, .int j => .ok (.bl (p i j)) μ
  | _, _ => .fail

def sem2 (o : O2) (a b : Val) (μ : Sto) : Out Val := match o with
  | .add => match a, b with
    | .int i, .int j => .ok (.int (i + j)) μ
    | .tup xs, .tup ys => if xs.length + ys.length ≤ LIM then .ok (.tup (xs ++ ys)) μ else .fail
    | .str x, .str y => if x.length + y.length ≤ LIM then .ok (.str (x ++ y)) μ else .fail
    | .ref n, .ref m => match μ[n]?, μ[m]? with
      | some (.lst xs), some (.lst ys) => if xs.length + ys.length ≤ LIM then newLst (xs ++ ys) μ else .fail
      | _, _ => .fail
    | _, _ => .fail
  | .sub => match a, b with
    | .int i, .int j => .ok (.int (i - j)) μ
    | _, _ => .fail
  | .mul => match a, b with
    | .int i, .int j => if i.natAbs.log2 + j.natAbs.log2 < 1000000 then .ok (.int (i * j)) μ else .fail
    | .ref n, .int k => match μ[n]? with
      | some (.lst xs) => if -1000000000 ≤ k ∧ k ≤ 1000000000 ∧ xs.length * k.toNat ≤ LIM then newLst (List.replicate k.toNat xs).flatten μ else .fail
      | _ => .fail
    | .tup xs, .int k => if -1000 ≤ k ∧ k ≤ 1000 ∧ xs.length ≤ 1000 then .ok (.tup (List.replicate k.toNat xs).flatten) μ else .fail
    | _, _ => .fail
  | .fdiv => match a, b with
    | .int i, .int j => if 0 < j ∧ j.natAbs.log2 < 9000 then .ok (.int (i / j)) μ else .fail
    | _, _ => .fail
  | .mod => match a, b with
    | .int i, .int j => if 0 < j then .ok (.int (i % j)) μ else .fail
    | _, _ => .fail
  | .pow => match a, b with
    | .int i, .int j => if 0 ≤ j ∧ j ≤ 1000000 ∧ i.natAbs < 2 ^ 64 then .ok (.int (i ^ j.toNat)) μ else .fail
    | _, _ => .fail
  | .shl => match a, b with
    | .int i, .int j => if 0 ≤ j ∧ j ≤ 1000000 ∧ i.natAbs < 2 ^ 64 then .ok (.int (i * 2 ^ j.toNat)) μ else .fail
    | _, _ => .fail
  | .eq => if eqOk a b then .ok (.bl (eqv a b)) μ else .fail
  | .ne => if eqOk a b then .ok (.bl (!eqv a b)) μ else .fail
  | .lt => match a, b with
    | .tup xs, .tup ys => match asInts xs, asInts ys with
      | some ns, some ms => .ok (.bl (lexLt ns ms)) μ
      | _, _ => .fail
    | _, _ => cmpI (fun i j => decide (i < j)) a b μ
  | .le => cmpI (fun i j => decide (i ≤ j)) a b μ
  | .gt => cmpI (fun i j => decide (j < i)) a b μ
  | .ge => cmpI (fun i j => decide (j ≤ i)) a b μ
  | .inn => match b with
    | .str _ => .fail
    | _ => match items μ b with
      | some xs => if a.flat ∧ xs.all Val.flat then .ok (.bl (inFlat a xs)) μ else .fail
      | none => .fail
  | .nin => match b with
    | .str _ => .fail
    | _ => match items μ b with
      | some xs => if a.flat ∧ xs.all Val.flat then .ok (.bl (!inFlat a xs)) μ else .fail
      | none => .fail
  | .idx => match b with
    | .int i => match a with
      | .str s => if s.length ≤ LIM then ofOpt ((place s.length i).bind fun j => (s[j]?).map fun c => .str [c]) μ else .fail
      | _ => match items μ a with
        | some xs => ofOpt ((place xs.length i).bind fun j => xs[j]?) μ
        | none => .fail
    | _ => .fail
  | .append => match a with
    | .ref n => match μ[n]? with
      | some (.lst xs) => if xs.length < LIM then .ok .non (μ.set n (.lst (xs ++ [b]))) else .fail
      | _ => .fail
    | _ => .fail
  | .extend => match a, b with
    | .ref n, .ref m => match μ[n]?, μ[m]? with
      | some (.lst xs), some (.lst ys) => if xs.length + ys.length ≤ LIM then .ok .non (μ.set n (.lst (xs ++ ys))) else .fail
      | _, _ => .fail
    | _, _ => .fail
  | .min2 => match a, b with
    | .int i, .int j => .ok (.int (if j < i then j else i)) μ
    | _, _ => .fail
  | .max2 => match a, b with
    | .int i, .int j => .ok (.int (if j > i then j else i)) μ
    | _, _ => .fail
  | .slF => match a, b with
    | .tup xs, .int lo => .ok (.tup (cut xs (clip xs.length lo) xs.length)) μ
    | .scr xs, .int lo => newLst ((cut xs (clip xs.length lo) xs.length).map .int) μ
    | .ref n, .int lo => match μ[n]? with
      | some (.lst xs) => newLst (cut xs (clip xs.length lo) xs.length) μ
      | _ => .fail
    | _, _ => .fail
  | .slT => match a, b with
    | .tup xs, .int hi => .ok (.tup (cut xs 0 (clip xs.length hi))) μ
    | .scr xs, .int hi => newLst ((cut xs 0 (clip xs.length hi)).map .int) μ
    | .ref n, .int hi => match μ[n]? with
      | some (.lst xs) => newLst (cut xs 0 (clip xs.length hi)) μ
      | _ => .fail
    | _, _ => .fail
  | .index => match a with
    | .ref n => match μ[n]? with
      | some (.lst xs) => if plains 60 xs ∧ b.plain 60 ∧ xs.length ≤ LIM then (match xs.findIdx? (fun y => eqv y b) with
        | some j => .ok (.int (j : Nat)) μ
        | none => .fail) else .fail
      | _ => .fail
    | _ => .fail
  | .popAt => match a, b with
    | .ref n, .int i => match μ[n]? with
      | some (.lst xs) => if 0 ≤ i ∧ i < xs.length ∧ xs.length ≤ LIM then match xs[i.toNat]? with
        | some v => .ok v (μ.set n (.lst (xs.eraseIdx i.toNat)))
        | none => .fail
        else .fail
      | _ => .fail
    | _, _ => .fail

def sem3 (o : O3) (a b c : Val) (μ : Sto) : Out Val := match o with
  | .slice => match a, b, c with
    | .tup xs, .int lo, .int hi => .ok (.tup (cut xs (clip xs.length lo) (clip xs.length hi))) μ
    | .ref n, .int lo, .int hi => match μ[n]? with
      | some (.lst xs) => newLst (cut xs (clip xs.length lo) (clip xs.length hi)) μ
      | _ => .fail
    | _, _, _ => .fail

/-! ### terms -/
/-- targets that are names -/
inductive MT where
  | nm (i : Nat)
  | tp (is : List Nat)
  deriving Repr
inductive ME where
  | var (i : Nat)
  | cst (v : Val)
  | nil
  | cons (a b : ME)
  | tupE (a : ME)
  | lstE (a : ME)
  | op1 (o : O1) (a : ME)
  | op2 (o : O2) (a b : ME)
  | op3 (o : O3) (a b c : ME)
  | and (a b : ME)
  | or (a b : ME)
  | ite (c a b : ME)
  | chain (o o' : O2) (a b c : ME)
  | call (k : Nat) (a : ME)
  | callK (k : Nat) (perm : List Nat) (a : ME)
  | rng (a : ME)
  | rng2 (a b : ME)
  | rng3 (a : ME)
  | comp (tg : MT) (it cond elt : ME)
  | tmp (a : ME)
  deriving Repr

/-- these of them, in that order -/
def pick {α : Type} (perm : List Nat) (vs : List α) : List α := perm.filterMap fun i => vs[i]?
def setAll : List Nat → List Val → Loc → Loc
  | i :: is, v :: vs, ρ => setAll is vs (ρ.set i (some v))
  | _, _, ρ => ρ
def bindT (tg : MT) (v : Val) (ρ : Loc) : Option Loc := match tg with
  | .nm i => some (ρ.set i (some v))
  | .tp is => match v with
    | .tup vs => if vs.length = is.length then some (setAll is vs ρ) else none
    | _ => none
/-- the walked list stands as it stood -/
def guard (v : Val) (xs : List Val) (μ : Sto) : Bool := match v with
  | .ref n => decide (μ[n]? = some (.lst xs))
  | _ => true

def compL (bind : Val → Option Loc) (cond elt : Loc → Sto → Out Val) (src : Val) (all : List Val) : List Val → Sto → Out (List Val)
  | [], μ => .ok [] μ
  | x :: xs, μ => match bind x with
    | none => .fail
    | some ρ => match cond ρ μ with
      | .ok (.bl true) μ1 => match elt ρ μ1 with
        | .ok y μ2 => if guard src all μ2 then match compL bind cond elt src all xs μ2 with
          | .ok ys μ3 => .ok (y :: ys) μ3
          | _ => .fail
          else .fail
        | _ => .fail
      | .ok (.bl false) μ1 => if guard src all μ1 then compL bind cond elt src all xs μ1 else .fail
      | _ => .fail

/-- what a method's receiver must be, ahead of the argument -/
def pre2 (o : O2) (x : Val) (μ : Sto) : Bool := match o with
  | .append | .extend | .popAt | .index => (match x with
    | .ref n => (match μ[n]? with
      | some (.lst _) => true
      | _ => false)
    | _ => false)
  | _ => true

/-- what a slice's first part must be, ahead of the second -/
def pre3 (o : O3) (y : Val) : Bool := match o with
  | .slice => (match y with
    | .int _ => true
    | _ => false)

/-- how many items range(a, b, c) has -/
def rsize (a b c : Int) : Int := if c > 0 then (if a < b then (b - a - 1) / c + 1 else 0) else (if a > b then (a - b - 1) / (-c) + 1 else 0)
def rng3 (vs : List Val) (μ : Sto) : Out Val := match vs with
  | [.int i, .int j, .int k] => if -LIM ≤ i ∧ i ≤ LIM ∧ -LIM ≤ j ∧ j ≤ LIM ∧ -LIM ≤ k ∧ k ≤ LIM ∧ k ≠ 0 then .ok (.tup ((List.range (rsize i j k).toNat).map fun m => .int (i + (m : Nat) * k))) μ else .fail
  | _ => .fail
abbrev CallF := Nat → List Val → Sto → Out Val

def ev (C : CallF) : ME → Loc → Sto → Out Val
  | .var i, ρ, μ => match ρ[i]? with
    | some (some v) => .ok v μ
    | _ => .fail
  | .cst v, _, μ => .ok v μ
  | .nil, _, μ => .ok (.tup []) μ
  | .cons a b, ρ, μ => (ev C a ρ μ).bind fun x μ1 => (ev C b ρ μ1).bind fun ys μ2 => match ys with
    | .tup vs => .ok (.tup (x :: vs)) μ2
    | _ => .fail
  | .tupE a, ρ, μ => ev C a ρ μ
  | .lstE a, ρ, μ => (ev C a ρ μ).bind fun ys μ1 => match ys with
    | .tup vs => newLst vs μ1
    | _ => .fail
  | .op1 o a, ρ, μ => (ev C a ρ μ).bind fun x μ1 => sem1 o x μ1
  | .op2 o a b, ρ, μ => (ev C a ρ μ).bind fun x μ1 => if pre2 o x μ1 then (ev C b ρ μ1).bind fun y μ2 => sem2 o x y μ2 else .fail
  | .op3 o a b c, ρ, μ => (ev C a ρ μ).bind fun x μ1 => (ev C b ρ μ1).bind fun y μ2 => if pre3 o y then (ev C c ρ μ2).bind fun z μ3 => sem3 o x y z μ3 else .fail
  | .and a b, ρ, μ => (ev C a ρ μ).bind fun x μ1 => match x with
    | .bl true => ev C b ρ μ1
    | .bl false => .ok (.bl false) μ1
    | _ => .fail
  | .or a b, ρ, μ => (ev C a ρ μ).bind fun x μ1 => match x with
    | .bl true => .ok (.bl true) μ1
    | .bl false => ev C b ρ μ1
    | _ => .fail
  | .ite c a b, ρ, μ => (ev C c ρ μ).bind fun x μ1 => match x with
    | .bl true => ev C a ρ μ1
    | .bl false => ev C b ρ μ1
    | _ => .fail
  | .chain o o' a b c, ρ, μ => (ev C a ρ μ).bind fun x μ1 => (ev C b ρ μ1).bind fun y μ2 => (sem2 o x y μ2).bind fun r μ3 => match r with
    | .bl true => (ev C c ρ μ3).bind fun z μ4 => sem2 o' y z μ4
    | .bl false => .ok (.bl false) μ3
    | _ => .fail
  | .call k a, ρ, μ => (ev C a ρ μ).bind fun ys μ1 => match ys with
    | .tup vs => C k vs μ1
    | _ => .fail
  | .callK k perm a, ρ, μ => (ev C a ρ μ).bind fun ys μ1 => match ys with
    | .tup vs => C k (pick perm vs) μ1
    | _ => .fail
  | .rng a, ρ, μ => (ev C a ρ μ).bind fun x μ1 => match x with
    | .int j => if -LIM ≤ j ∧ j ≤ LIM then .ok (.tup ((List.range j.toNat).map fun i => .int (i : Nat))) μ1 else .fail
    | _ => .fail
  | .rng2 a b, ρ, μ => (ev C a ρ μ).bind fun x μ1 => (ev C b ρ μ1).bind fun y μ2 => match x, y with
    | .int i, .int j => if -LIM ≤ i ∧ i ≤ LIM ∧ j ≤ LIM ∧ -LIM ≤ j then .ok (.tup ((List.range (j - i).toNat).map fun k => .int (i + (k : Nat)))) μ2 else .fail
    | _, _ => .fail
  | .rng3 a, ρ, μ => (ev C a ρ μ).bind fun ys μ1 => match ys with
    | .tup vs => rng3 vs μ1
    | _ => .fail
  | .comp tg it cond elt, ρ, μ => (ev C it ρ μ).bind fun src μ1 => match items μ1 src with
    | some xs => if xs.length ≤ LIM then (compL (fun v => bindT tg v ρ) (ev C cond) (ev C elt) src xs xs μ1).bind fun ys μ2 => newLst ys μ2 else .fail
    | none => .fail
  | .tmp a, ρ, μ => match ev C a ρ μ with
    | .ok v μ1 => .ok (clean μ v μ1).1 (clean μ v μ1).2
    | r => r

/-- what an except suite gives back: flat expressions alone; a field of the caught one by its class -/
inductive FE where
  | var (i : Nat) | cst (v : Val) | fld (t : List (Nat × Nat)) | nil | cons (a b : FE) | tup (a : FE)
  deriving Repr
/-- an except clause: the classes it catches; its name's slot; what its suite gives back -/
structure HC where
  ks : List Nat
  nm : Option Nat
  fe : FE
  deriving Repr

inductive MS where
  | skip
  | seq (a b : MS)
  | set (tg : MT) (e : ME)
  | put (a b e : ME)
  | aug (i : Nat) (o : O2) (e : ME)
  | expr (e : ME)
  | ret (e : ME)
  | ite (c : ME) (a b : MS)
  | whl (c : ME) (b : MS)
  | forE (tg : MT) (it : ME) (b : MS)
  | raise (c : Nat) (a : ME)
  | tryx (b : MS) (hs : List HC)
  | brk
  | cnt
  deriving Repr

inductive OS where
  | nx (ρ : Loc) (μ : Sto) | ret (v : Val) (μ : Sto) | brk (ρ : Loc) (μ : Sto) | cnt (ρ : Loc) (μ : Sto) | exc (c : Nat) (fs : List Val) (ρ : Loc) (μ : Sto) | fail
  deriving Repr
/-- behind an expression -/
def Out.on (m : Out Val) (ρ : Loc) (k : Val → Sto → OS) : OS := match m with
  | .ok v μ => k v μ
  | .exc c fs μ => .exc c fs ρ μ
  | .fail => .fail
@[simp] theorem Out.on_ok (v : Val) (μ : Sto) (ρ : Loc) (k : Val → Sto → OS) : (Out.ok v μ).on ρ k = k v μ := rfl
@[simp] theorem Out.on_exc (c : Nat) (fs : List Val) (μ : Sto) (ρ : Loc) (k : Val → Sto → OS) : (Out.exc c fs μ).on ρ k = .exc c fs ρ μ := rfl
@[simp] theorem Out.on_fail (ρ : Loc) (k : Val → Sto → OS) : (Out.fail).on ρ k = .fail := rfl
def OS.then (m : OS) (k : Loc → Sto → OS) : OS := match m with
  | .nx ρ μ => k ρ μ
  | r => r
@[simp] theorem OS.then_nx (ρ : Loc) (μ : Sto) (k : Loc → Sto → OS) : (OS.nx ρ μ).then k = k ρ μ := rfl
@[simp] theorem OS.then_ret (v : Val) (μ : Sto) (k : Loc → Sto → OS) : (OS.ret v μ).then k = .ret v μ := rfl
@[simp] theorem OS.then_brk (ρ : Loc) (μ : Sto) (k : Loc → Sto → OS) : (OS.brk ρ μ).then k = .brk ρ μ := rfl
@[simp] theorem OS.then_cnt (ρ : Loc) (μ : Sto) (k : Loc → Sto → OS) : (OS.cnt ρ μ).then k = .cnt ρ μ := rfl
@[simp] theorem OS.then_exc (c : Nat) (fs : List Val) (ρ : Loc) (μ : Sto) (k : Loc → Sto → OS) : (OS.exc c fs ρ μ).then k = .exc c fs ρ μ := rfl
@[simp] theorem OS.then_fail (k : Loc → Sto → OS) : (OS.fail).then k = .fail := rfl
/-- a turn's end: on with the loop, or out -/
def OS.turn (m : OS) (k : Loc → Sto → OS) : OS := match m with
  | .nx ρ μ => k ρ μ
  | .cnt ρ μ => k ρ μ
  | .brk ρ μ => .nx ρ μ
  | r => r
@[simp] theorem OS.turn_nx (ρ : Loc) (μ : Sto) (k : Loc → Sto → OS) : (OS.nx ρ μ).turn k = k ρ μ := rfl
@[simp] theorem OS.turn_cnt (ρ : Loc) (μ : Sto) (k : Loc → Sto → OS) : (OS.cnt ρ μ).turn k = k ρ μ := rfl
@[simp] theorem OS.turn_brk (ρ : Loc) (μ : Sto) (k : Loc → Sto → OS) : (OS.brk ρ μ).turn k = .nx ρ μ := rfl
@[simp] theorem OS.turn_ret (v : Val) (μ : Sto) (k : Loc → Sto → OS) : (OS.ret v μ).turn k = .ret v μ := rfl
@[simp] theorem OS.turn_exc (c : Nat) (fs : List Val) (ρ : Loc) (μ : Sto) (k : Loc → Sto → OS) : (OS.exc c fs ρ μ).turn k = .exc c fs ρ μ := rfl
@[simp] theorem OS.turn_fail (k : Loc → Sto → OS) : (OS.fail).turn k = .fail := rfl

def forL (bind : Val → Loc → Option Loc) (body : Loc → Sto → OS) (src : Val) (all : List Val) : List Val → Loc → Sto → OS
  | [], ρ, μ => .nx ρ μ
  | x :: xs, ρ, μ => match bind x ρ with
    | none => .fail
    | some ρ1 => (body ρ1 μ).turn fun ρ2 μ2 => if guard src all μ2 then forL bind body src all xs ρ2 μ2 else .fail
def whlN (c : Loc → Sto → Out Val) (body : Loc → Sto → OS) : Nat → Loc → Sto → OS
  | 0, _, _ => .fail
  | n + 1, ρ, μ => (c ρ μ).on ρ fun v μ1 => match v with
    | .bl true => (body ρ μ1).turn fun ρ2 μ2 => whlN c body n ρ2 μ2
    | .bl false => .nx ρ μ1
    | _ => .fail
abbrev FUEL : Nat := 2 ^ 64

def evF (c : Nat) (fs : List Val) : FE → Loc → Option Val
  | .var i, ρ => match ρ[i]? with
    | some (some v) => some v
    | _ => none
  | .cst v, _ => some v
  | .fld t, _ => (t.lookup c).bind fun k => fs[k]?
  | .nil, _ => some (.tup [])
  | .cons a b, ρ => match evF c fs a ρ, evF c fs b ρ with
    | some x, some (.tup ys) => some (.tup (x :: ys))
    | _, _ => none
  | .tup a, ρ => evF c fs a ρ
def hcLoc (n : Option Nat) (ρ : Loc) : Loc := match n with
  | none => ρ
  | some i => ρ.set i none
def hcOk (n : Option Nat) (ρ : Loc) : Bool := match n with
  | none => true
  | some i => decide (i < ρ.length)
/-- the clauses: the first that catches -/
def handle (c : Nat) (fs : List Val) (ρ : Loc) (μ : Sto) : List HC → OS
  | [] => .exc c fs ρ μ
  | h :: hs => if h.ks.contains c then (if hcOk h.nm ρ then (match evF c fs h.fe (hcLoc h.nm ρ) with
    | some v => .ret v μ
    | none => .fail) else .fail) else handle c fs ρ μ hs

def setItem (o i v : Val) (μ : Sto) : Option Sto := match o, i with
  | .ref n, .int k => match μ[n]? with
    | some (.lst xs) => (place xs.length k).map fun j => μ.set n (.lst (xs.set j v))
    | _ => none
  | _, _ => none

def ex (C : CallF) : MS → Loc → Sto → OS
  | .skip, ρ, μ => .nx ρ μ
  | .seq a b, ρ, μ => (ex C a ρ μ).then fun ρ1 μ1 => ex C b ρ1 μ1
  | .set tg e, ρ, μ => (ev C e ρ μ).on ρ fun v μ1 => match bindT tg v ρ with
    | some ρ1 => .nx ρ1 μ1
    | none => .fail
  | .put a b e, ρ, μ => (ev C e ρ μ).on ρ fun v μ1 => (ev C a ρ μ1).on ρ fun o μ2 => (ev C b ρ μ2).on ρ fun i μ3 => match setItem o i v μ3 with
    | some μ4 => .nx ρ μ4
    | none => .fail
  | .aug i o e, ρ, μ => match ρ[i]? with
    | some (some x) => (ev C e ρ μ).on ρ fun v μ1 => (match x, v with
      | .int a, .int b => (match o with
        | .add => .nx (ρ.set i (some (.int (a + b)))) μ1
        | .sub => .nx (ρ.set i (some (.int (a - b)))) μ1
        | _ => .fail)
      | _, _ => .fail)
    | _ => .fail
  | .expr e, ρ, μ => (ev C e ρ μ).on ρ fun _ μ1 => .nx ρ μ1
  | .ret e, ρ, μ => (ev C e ρ μ).on ρ fun v μ1 => .ret v μ1
  | .ite c a b, ρ, μ => (ev C c ρ μ).on ρ fun v μ1 => match v with
    | .bl true => ex C a ρ μ1
    | .bl false => ex C b ρ μ1
    | _ => .fail
  | .whl c b, ρ, μ => whlN (ev C c) (ex C b) FUEL ρ μ
  | .forE tg it b, ρ, μ => (ev C it ρ μ).on ρ fun src μ1 => match items μ1 src with
    | some xs => forL (bindT tg) (ex C b) src xs xs ρ μ1
    | none => .fail
  | .raise c a, ρ, μ => (ev C a ρ μ).on ρ fun v μ1 => match v with
    | .tup fs => .exc c fs ρ μ1
    | _ => .fail
  | .tryx b hs, ρ, μ => match ex C b ρ μ with
    | .exc c fs ρ1 μ1 => handle c fs ρ1 μ1 hs
    | r => r
  | .brk, ρ, μ => .brk ρ μ
  | .cnt, ρ, μ => .cnt ρ μ

def fin : OS → Out Val
  | .nx _ μ => .ok .non μ
  | .ret v μ => .ok v μ
  | .exc c fs _ μ => .exc c fs μ
  | _ => .fail

structure Fn where
  params : Nat
  slots : Nat
  body : MS
  deriving Repr
def enter (d : Fn) (vs : List Val) : Loc := vs.map some ++ List.replicate (d.slots - vs.length) none
/-- a call, n calls deep at most -/
def run (P : Nat → Option Fn) : Nat → CallF
  | 0, _, _, _ => .fail
  | n + 1, k, vs, μ => match P k with
    | some d => if vs.length = d.params then cleanO μ (fin (ex (run P n) d.body (enter d vs) μ)) else .fail
    | none => .fail
end Mi
end

section
set_option Elab.async false
set_option linter.all false
set_option maxRecDepth 100000
set_option autoImplicit false
/-! Sound1: how values and cells lie in the heap; operations. -/
namespace Mi
open PySem PySem.Spec L2
open PyProof.Rows hiding St

/-- a list that never changes: a locked one, or one of the written part -/
def Fz (K : PySem.W.Frag) (H : Hp) (a : Addr) (xs : List V) : Prop :=
  (∃ o, H a = some (.frz o (.lst xs))) ∨
    ∃ (o : Obj) (its : Array Value) (n : Nat), K.lookup a = some o ∧ o.cls = .type "list" ∧ o.dict = none ∧ o.data = .seq its n ∧ its.size ≤ sizeLine ∧ Vals xs its.toList
theorem Fz.seq {K : PySem.W.Frag} {H : Hp} {a : Addr} {xs : List V} (h : Fz K H a xs) : SqL K H a xs := by
  rcases h with ⟨o, h⟩ | h
  · exact .inl (.inr ⟨o, h⟩)
  · exact .inr h

mutual
def VR (K : PySem.W.Frag) (f : List Addr) (H : Hp) : Val → V → Prop
  | .non, x => x = .non
  | .bl b, x => x = .bl b
  | .int i, x => x = .int i
  | .str s, x => x = .str ⟨s.toArray⟩
  | .tup vs, x => ∃ a xs, x = .ref a ∧ SqT K H a xs ∧ VRs K f H vs xs
  | .ref n, x => ∃ a, f[n]? = some a ∧ x = .ref a
  | .scr ns, x => ∃ a, x = .ref a ∧ Fz K H a (ns.map V.int)
def VRs (K : PySem.W.Frag) (f : List Addr) (H : Hp) : List Val → List V → Prop
  | [], xs => xs = []
  | v :: vs, xs => ∃ x r, xs = x :: r ∧ VR K f H v x ∧ VRs K f H vs r
end

/-- tuples and locked things stand -/
structure Keep (H H' : Hp) : Prop where
  tup : ∀ b xs, H b = some (.tup xs) → H' b = some (.tup xs)
  frz : ∀ b o u, H b = some (.frz o u) → H' b = some (.frz o u)
theorem Keep.refl (H : Hp) : Keep H H := ⟨fun _ _ h => h, fun _ _ _ h => h⟩
theorem Keep.trans {H H1 H2 : Hp} (a : Keep H H1) (b : Keep H1 H2) : Keep H H2 := ⟨fun c xs h => b.tup c xs (a.tup c xs h), fun c o u h => b.frz c o u (a.frz c o u h)⟩
theorem Keep.sqT {K : PySem.W.Frag} {H H' : Hp} {a : Addr} {xs : List V} (k : Keep H H') (h : SqT K H a xs) : SqT K H' a xs := by
  rcases h with (h | ⟨o, h⟩) | h
  · exact .inl (.inl (k.tup _ _ h))
  · exact .inl (.inr ⟨o, k.frz _ _ _ h⟩)
  · exact .inr h
theorem Keep.fz {K : PySem.W.Frag} {H H' : Hp} {a : Addr} {xs : List V} (k : Keep H H') (h : Fz K H a xs) : Fz K H' a xs := by
  rcases h with ⟨o, h⟩ | h
  · exact .inl ⟨o, k.frz _ _ _ h⟩
  · exact .inr h
theorem Keep.new {H : Hp} {p : Addr} {o : HO} (h : H p = none) : Keep H (upd H p o) :=
  ⟨fun b xs e => by rw [upd_ne (ne_of_none e h)]; exact e, fun b x u e => by rw [upd_ne (ne_of_none e h)]; exact e⟩
theorem Keep.lst {H : Hp} {p : Addr} {xs : List V} {o : HO} (h : H p = some (.lst xs)) : Keep H (upd H p o) :=
  ⟨fun b ys e => by rw [upd_ne (ne_of e h (by intro z; cases z))]; exact e, fun b x u e => by rw [upd_ne (ne_of e h (by intro z; cases z))]; exact e⟩

/-- one place further on -/
structure Le (f : List Addr) (H : Hp) (f' : List Addr) (H' : Hp) : Prop where
  pre : f <+: f'
  kp : Keep H H'
  oth : ∀ b o, b ∉ f → H b = some o → H' b = some o ∧ b ∉ f'
theorem Le.refl (f : List Addr) (H : Hp) : Le f H f H := ⟨List.prefix_refl _, Keep.refl _, fun _ _ h e => ⟨e, h⟩⟩
theorem Le.trans {f f1 f2 : List Addr} {H H1 H2 : Hp} (a : Le f H f1 H1) (b : Le f1 H1 f2 H2) : Le f H f2 H2 := ⟨a.pre.trans b.pre, a.kp.trans b.kp, fun c o h e => let ⟨e1, h1⟩ := a.oth c o h e; b.oth c o h1 e1⟩
theorem Le.newL {f : List Addr} {H : Hp} {p : Addr} {o : HO} (hp : H p = none) : Le f H (f ++ [p]) (upd H p o) := ⟨⟨[p], rfl⟩, Keep.new hp, fun b u h e => by
  have hb : b ≠ p := ne_of_none e hp
  exact ⟨by rw [upd_ne hb]; exact e, by simp [h, hb]⟩⟩
theorem Le.beside {f : List Addr} {H : Hp} {p : Addr} {o : HO} (hp : H p = none) : Le f H f (upd H p o) := ⟨List.prefix_refl _, Keep.new hp, fun b u h e => ⟨by rw [upd_ne (ne_of_none e hp)]; exact e, h⟩⟩
theorem Le.setL {f : List Addr} {H : Hp} {p : Addr} {xs : List V} {o : HO} (hf : p ∈ f) (hp : H p = some (.lst xs)) : Le f H f (upd H p o) := ⟨List.prefix_refl _, Keep.lst hp, fun b u h e => ⟨by rw [upd_ne (show b ≠ p from fun z => h (by rw [z]; exact hf))]; exact e, h⟩⟩
theorem Le.get {f f' : List Addr} {H H' : Hp} (l : Le f H f' H') {n : Nat} {a : Addr} (h : f[n]? = some a) : f'[n]? = some a := by
  obtain ⟨t, rfl⟩ := l.pre
  have hn : n < f.length := (List.getElem?_eq_some_iff.mp h).1
  rw [List.getElem?_append_left hn]; exact h

section
variable {K : PySem.W.Frag} {f f' : List Addr} {H H' : Hp}
mutual
theorem VR.mono (l : Le f H f' H') : ∀ (v : Val) (x : V), VR K f H v x → VR K f' H' v x
  | .non, _, h => h
  | .bl _, _, h => h
  | .int _, _, h => h
  | .str _, _, h => h
  | .tup vs, x, ⟨a, xs, e, h, r⟩ => ⟨a, xs, e, l.kp.sqT h, VRs.mono l vs xs r⟩
  | .ref n, x, ⟨a, h, e⟩ => ⟨a, l.get h, e⟩
  | .scr ns, x, ⟨a, e, h⟩ => ⟨a, e, l.kp.fz h⟩
theorem VRs.mono (l : Le f H f' H') : ∀ (vs : List Val) (xs : List V), VRs K f H vs xs → VRs K f' H' vs xs
  | [], _, h => h
  | v :: vs, _, ⟨x, r, e, h, t⟩ => ⟨x, r, e, VR.mono l v x h, VRs.mono l vs r t⟩
end
mutual
/-- with more cells alone -/
theorem VR.mono0 {t : List Addr} : ∀ (v : Val) (x : V), VR K f H v x → VR K (f ++ t) H v x
  | .non, _, h => h
  | .bl _, _, h => h
  | .int _, _, h => h
  | .str _, _, h => h
  | .tup vs, x, ⟨a, xs, e, h, r⟩ => ⟨a, xs, e, h, VRs.mono0 vs xs r⟩
  | .ref n, x, ⟨a, h, e⟩ => ⟨a, by rw [List.getElem?_append_left (List.getElem?_eq_some_iff.mp h).1]; exact h, e⟩
  | .scr ns, x, ⟨a, e, h⟩ => ⟨a, e, h⟩
theorem VRs.mono0 {t : List Addr} : ∀ (vs : List Val) (xs : List V), VRs K f H vs xs → VRs K (f ++ t) H vs xs
  | [], _, h => h
  | v :: vs, _, ⟨x, r, e, h, t⟩ => ⟨x, r, e, VR.mono0 v x h, VRs.mono0 vs r t⟩
end
mutual
theorem VR.monoK (k : Keep H H') : ∀ (v : Val) (x : V), VR K f H v x → VR K f H' v x
  | .non, _, h => h
  | .bl _, _, h => h
  | .int _, _, h => h
  | .str _, _, h => h
  | .tup vs, x, ⟨a, xs, e, h, r⟩ => ⟨a, xs, e, k.sqT h, VRs.monoK k vs xs r⟩
  | .ref n, x, ⟨a, h, e⟩ => ⟨a, h, e⟩
  | .scr ns, x, ⟨a, e, h⟩ => ⟨a, e, k.fz h⟩
theorem VRs.monoK (k : Keep H H') : ∀ (vs : List Val) (xs : List V), VRs K f H vs xs → VRs K f H' vs xs
  | [], _, h => h
  | v :: vs, _, ⟨x, r, e, h, t⟩ => ⟨x, r, e, VR.monoK k v x h, VRs.monoK k vs r t⟩
end
theorem VRs.nil : VRs K f H [] [] := rfl
theorem VRs.cons {v : Val} {x : V} {vs : List Val} {xs : List V} (h : VR K f H v x) (t : VRs K f H vs xs) : VRs K f H (v :: vs) (x :: xs) := ⟨x, xs, rfl, h, t⟩
theorem VRs.length : ∀ {vs : List Val} {xs : List V}, VRs K f H vs xs → xs.length = vs.length
  | [], _, h => by rw [show _ = [] from h]; rfl
  | v :: vs, _, ⟨x, r, e, h, t⟩ => by rw [e, List.length_cons, List.length_cons, VRs.length t]
theorem VRs.append : ∀ {vs ws : List Val} {xs ys : List V}, VRs K f H vs xs → VRs K f H ws ys → VRs K f H (vs ++ ws) (xs ++ ys)
  | [], _, _, _, h, q => by rw [show _ = [] from h]; exact q
  | v :: vs, _, _, _, ⟨x, r, e, h, t⟩, q => by rw [e]; exact ⟨x, _, rfl, h, VRs.append t q⟩
theorem VRs.get : ∀ {vs : List Val} {xs : List V} {i : Nat} {v : Val}, VRs K f H vs xs → vs[i]? = some v → ∃ x, xs[i]? = some x ∧ VR K f H v x
  | [], _, _, _, _, e => by simp at e
  | v :: vs, _, 0, w, ⟨x, r, e, h, t⟩, q => by simp at q; subst q; subst e; exact ⟨x, rfl, h⟩
  | v :: vs, _, i + 1, w, ⟨x, r, e, h, t⟩, q => by
    subst e
    obtain ⟨y, h1, h2⟩ := VRs.get (i := i) t (by simpa using q)
    exact ⟨y, by simpa using h1, h2⟩
theorem VRs.get' : ∀ {vs : List Val} {xs : List V} {i : Nat} {x : V}, VRs K f H vs xs → xs[i]? = some x → ∃ v, vs[i]? = some v ∧ VR K f H v x := fun {vs xs i x} r e => by
  have hl := r.length
  have hi : i < vs.length := by rw [← hl]; exact (List.getElem?_eq_some_iff.mp e).1
  obtain ⟨y, h1, h2⟩ := r.get (List.getElem?_eq_getElem hi)
  rw [e] at h1; cases h1
  exact ⟨_, List.getElem?_eq_getElem hi, h2⟩
theorem VRs.set {v : Val} {x : V} (h : VR K f H v x) : ∀ {vs : List Val} {xs : List V} (i : Nat), VRs K f H vs xs → VRs K f H (vs.set i v) (xs.set i x)
  | [], _, _, q => by rw [show _ = [] from q]; exact rfl
  | w :: vs, _, 0, ⟨y, r, e, q, t⟩ => by subst e; exact ⟨x, r, rfl, h, t⟩
  | w :: vs, _, i + 1, ⟨y, r, e, q, t⟩ => by subst e; exact ⟨y, _, rfl, q, VRs.set h i t⟩
theorem VRs.drop : ∀ {vs : List Val} {xs : List V} (n : Nat), VRs K f H vs xs → VRs K f H (vs.drop n) (xs.drop n)
  | _, _, 0, h => h
  | [], _, n + 1, h => by rw [show _ = [] from h]; exact rfl
  | v :: vs, _, n + 1, ⟨x, r, e, h, t⟩ => by subst e; exact VRs.drop n t
theorem VRs.take : ∀ {vs : List Val} {xs : List V} (n : Nat), VRs K f H vs xs → VRs K f H (vs.take n) (xs.take n)
  | _, _, 0, h => rfl
  | [], _, n + 1, h => by rw [show _ = [] from h]; exact rfl
  | v :: vs, _, n + 1, ⟨x, r, e, h, t⟩ => by subst e; exact ⟨x, _, rfl, h, VRs.take n t⟩
theorem VRs.eraseIdx : ∀ {vs : List Val} {xs : List V} (n : Nat), VRs K f H vs xs → VRs K f H (vs.eraseIdx n) (xs.eraseIdx n)
  | [], _, n, h => by rw [show _ = [] from h]; exact rfl
  | v :: vs, _, 0, ⟨x, r, e, h, t⟩ => by subst e; exact t
  | v :: vs, _, n + 1, ⟨x, r, e, h, t⟩ => by subst e; exact ⟨x, _, rfl, h, VRs.eraseIdx n t⟩
theorem VRs.dropLast {vs : List Val} {xs : List V} (h : VRs K f H vs xs) : VRs K f H vs.dropLast xs.dropLast := by
  rw [List.dropLast_eq_take, List.dropLast_eq_take, h.length]
  exact h.take _
theorem VRs.rep {vs : List Val} {xs : List V} (h : VRs K f H vs xs) : ∀ k : Nat, VRs K f H (List.replicate k vs).flatten (List.replicate k xs).flatten
  | 0 => rfl
  | k + 1 => by
    rw [List.replicate_succ, List.replicate_succ, List.flatten_cons, List.flatten_cons]
    exact VRs.append h (VRs.rep h k)
theorem VRs.ints : ∀ (ns : List Int), VRs K f H (ns.map .int) (ns.map V.int)
  | [] => rfl
  | n :: ns => ⟨.int n, _, rfl, rfl, VRs.ints ns⟩
theorem VRs.ints_of : ∀ {vs : List Val} {ns : List Int} {xs : List V}, VRs K f H vs xs → Mi.asInts vs = some ns → xs = ns.map V.int
  | [], ns, xs, h, e => by
    rw [show xs = [] from h]
    cases (show some [] = some ns from e)
    rfl
  | .int i :: vs, ns, xs, ⟨x, r, e1, h, t⟩, e => by
    have e' : (Mi.asInts vs).map (i :: ·) = some ns := e
    cases q : Mi.asInts vs with
    | none => rw [q] at e'; cases e'
    | some ms =>
      rw [q] at e'
      cases e'
      rw [e1, show x = .int i from h, VRs.ints_of t q]
      rfl
  | .non :: _, _, _, _, e => by cases e
  | .bl _ :: _, _, _, _, e => by cases e
  | .str _ :: _, _, _, _, e => by cases e
  | .tup _ :: _, _, _, _, e => by cases e
  | .ref _ :: _, _, _, _, e => by cases e
  | .scr _ :: _, _, _, _, e => by cases e
end

/-! ### cells -/
def CR (K : PySem.W.Frag) (f : List Addr) (H : Hp) (c : Cell) (a : Addr) : Prop := match c with
  | .lst vs => ∃ xs, H a = some (.lst xs) ∧ VRs K f H vs xs
  | .dict _ => False
  | .ins _ _ => False
structure SR (K : PySem.W.Frag) (f : List Addr) (μ : Sto) (H : Hp) : Prop where
  len : f.length = μ.length
  nd : f.Nodup
  cell : ∀ (n : Nat) (c : Cell) (a : Addr), μ[n]? = some c → f[n]? = some a → CR K f H c a
section
variable {K : PySem.W.Frag} {f f' : List Addr} {H H' : Hp} {μ μ' : Sto}
theorem SR.at (S : SR K f μ H) {n : Nat} {c : Cell} (h : μ[n]? = some c) : ∃ a, f[n]? = some a ∧ CR K f H c a := by
  have hn : n < f.length := by rw [S.len]; exact (List.getElem?_eq_some_iff.mp h).1
  exact ⟨f[n], List.getElem?_eq_getElem hn, S.cell n c _ h (List.getElem?_eq_getElem hn)⟩
theorem SR.there (S : SR K f μ H) {n : Nat} {a : Addr} (h : f[n]? = some a) : ∃ c o, μ[n]? = some c ∧ H a = some o := by
  have hn : n < μ.length := by rw [← S.len]; exact (List.getElem?_eq_some_iff.mp h).1
  have q := S.cell n μ[n] a (List.getElem?_eq_getElem hn) h
  refine ⟨μ[n], ?_⟩
  cases e : μ[n] with
  | lst vs => rw [e] at q; obtain ⟨xs, q1, _⟩ := q; exact ⟨_, by rw [List.getElem?_eq_getElem hn, e], q1⟩
  | dict _ => rw [e] at q; exact q.elim
  | ins _ _ => rw [e] at q; exact q.elim
theorem SR.mem (S : SR K f μ H) {a : Addr} (h : a ∈ f) : ∃ o, H a = some o := by
  obtain ⟨n, hn, e⟩ := List.getElem_of_mem h
  obtain ⟨_, o, _, q⟩ := S.there (n := n) (a := a) (by rw [List.getElem?_eq_getElem hn, e])
  exact ⟨o, q⟩
theorem SR.new_ne (S : SR K f μ H) {a p : Addr} (h : a ∈ f) (hp : H p = none) : a ≠ p := fun e => by
  obtain ⟨o, q⟩ := S.mem h
  rw [e, hp] at q; cases q
theorem CR.mono {c : Cell} {a : Addr} (l : Le f H f' H') (he : H' a = H a) (h : CR K f H c a) : CR K f' H' c a := by
  cases c with
  | lst vs => obtain ⟨xs, q, r⟩ := h; exact ⟨xs, he.trans q, VRs.mono l _ _ r⟩
  | dict _ => exact h.elim
  | ins _ _ => exact h.elim
/-- a new object beside the cells -/
theorem SR.beside (S : SR K f μ H) {p : Addr} {o : HO} (hp : H p = none) : SR K f μ (upd H p o) :=
  ⟨S.len, S.nd, fun n c a h1 h2 => CR.mono (Le.beside hp) (upd_ne (S.new_ne (List.mem_of_getElem? h2) hp)) (S.cell n c a h1 h2)⟩
/-- a new list, a new cell -/
theorem SR.newL (S : SR K f μ H) {p : Addr} {vs : List Val} {xs : List V} (hp : H p = none) (r : VRs K f H vs xs) : SR K (f ++ [p]) (μ ++ [.lst vs]) (upd H p (.lst xs)) := by
  have l : Le f H (f ++ [p]) (upd H p (.lst xs)) := Le.newL hp
  refine ⟨by simp [S.len], ?_, fun n c a h1 h2 => ?_⟩
  · rw [List.nodup_append]
    refine ⟨S.nd, by simp, fun a ha b hb => ?_⟩
    have e : b = p := by simpa using hb
    subst e
    exact S.new_ne ha hp
  · by_cases hn : n < f.length
    · rw [List.getElem?_append_left hn] at h2
      rw [List.getElem?_append_left (by rw [← S.len]; exact hn)] at h1
      exact CR.mono l (upd_ne (S.new_ne (List.mem_of_getElem? h2) hp)) (S.cell n c a h1 h2)
    · have e : n = f.length := by
        have := (List.getElem?_eq_some_iff.mp h2).1
        simp at this
        omega
      subst e
      rw [List.getElem?_append_right (Nat.le_refl _)] at h2
      rw [S.len, List.getElem?_append_right (Nat.le_refl _)] at h1
      simp at h1 h2
      subst h1 h2
      exact ⟨xs, upd_same, VRs.mono l _ _ r⟩
/-- a list is changed -/
theorem SR.setL (S : SR K f μ H) {n : Nat} {p : Addr} {us vs : List Val} {xs ys : List V} (hn : f[n]? = some p) (hp : H p = some (.lst ys)) (r : VRs K f H vs xs) : SR K f (μ.set n (.lst vs)) (upd H p (.lst xs)) := by
  have l : Le f H f (upd H p (.lst xs)) := Le.setL (List.mem_of_getElem? hn) hp
  have hnl : n < f.length := (List.getElem?_eq_some_iff.mp hn).1
  refine ⟨by simp [S.len], S.nd, fun m c a h1 h2 => ?_⟩
  by_cases hm : m = n
  · subst hm
    rw [List.getElem?_set_self (by rw [← S.len]; exact hnl)] at h1
    cases h1
    rw [hn] at h2; cases h2
    exact ⟨xs, upd_same, VRs.mono l _ _ r⟩
  · rw [List.getElem?_set_ne (Ne.symm hm)] at h1
    refine CR.mono l (upd_ne fun e => hm ?_) (S.cell m c a h1 h2)
    subst e
    exact (List.getElem?_inj (by exact (List.getElem?_eq_some_iff.mp h2).1) S.nd).mp (h2.trans hn.symm)
theorem VR.ref_new (S : SR K f μ H) {p : Addr} {H' : Hp} : VR K (f ++ [p]) H' (.ref μ.length) (.ref p) := ⟨p, by rw [← S.len]; simp, rfl⟩
end

/-! ### slots -/
structure LR (K : PySem.W.Frag) (f : List Addr) (H : Hp) (ρ : Loc) (σ : St) : Prop where
  len : σ.length = ρ.length
  get : ∀ (i : Nat) (v : Val), ρ[i]? = some (some v) → ∃ x, σ[i]? = some (some x) ∧ VR K f H v x
theorem LR.mono {K : PySem.W.Frag} {f f' : List Addr} {H H' : Hp} {ρ : Loc} {σ : St} (l : Le f H f' H') (h : LR K f H ρ σ) : LR K f' H' ρ σ :=
  ⟨h.len, fun i v e => let ⟨x, q, r⟩ := h.get i v e; ⟨x, q, VR.mono l v x r⟩⟩
theorem LR.set {K : PySem.W.Frag} {f : List Addr} {H : Hp} {ρ : Loc} {σ : St} {i : Nat} {v : Val} {x : V} (h : LR K f H ρ σ) (r : VR K f H v x) : LR K f H (ρ.set i (some v)) (σ.set i (some x)) := by
  refine ⟨by simp [h.len], fun j w e => ?_⟩
  by_cases hj : i = j
  · subst hj
    by_cases hl : i < ρ.length
    · rw [List.getElem?_set_self hl] at e
      cases e
      exact ⟨x, by rw [List.getElem?_set_self (by rw [h.len]; exact hl)], r⟩
    · rw [List.getElem?_eq_none (by simpa using hl)] at e; cases e
  · rw [List.getElem?_set_ne hj] at e
    obtain ⟨y, q, r⟩ := h.get j w e
    exact ⟨y, by rw [List.getElem?_set_ne hj]; exact q, r⟩

/-! ### exceptions -/
/-- a class of exceptions: its name, its address, its fields -/
structure EC where
  no : Nat
  name : Str
  C : Addr
  flds : List Str
/-- the class of that number -/
def eAt (es : List EC) (c : Nat) : Option EC := es.find? fun e => e.no == c
theorem eAt_mem {es : List EC} {c : Nat} {e : EC} (h : eAt es c = some e) : e ∈ es := List.mem_of_find?_eq_some h
def XR (K : PySem.W.Frag) (es : List EC) (f : List Addr) (H : Hp) (c : Nat) (fs : List Val) (cls : Value) (d : Option Addr) : Prop :=
  ∃ e dd ps, eAt es c = some e ∧ cls = .ref e.C ∧ d = some dd ∧ H dd = some (.xd ps) ∧ fs.length = e.flds.length ∧
    ∀ (i : Nat) (nm : Str) (v : Val), e.flds[i]? = some nm → fs[i]? = some v → ∃ y, ps.lookup nm = some y ∧ VR K f H v y

/-! ### what is wanted behind an expression -/
section
variable (K : PySem.W.Frag) (es : List EC)
def Post (W : WX) (σ : St) (f : List Addr) (H : Hp) (o : Out Val) (Q : VK) : Prop := match o with
  | .ok v μ' => ∀ f' H' x, Le f H f' H' → SR K f' μ' H' → VR K f' H' v x → Q x H'
  | .exc c fs μ' => ∀ f' H' cls d, Le f H f' H' → SR K f' μ' H' → XR K es f' H' c fs cls d → W cls d σ H'
  | .fail => False
/-- the reading of an expression: from a state told by ρ and μ what m comes to -/
def tM (W : WX) (m : Loc → Sto → Out Val) : TE := fun σ H Q => ∃ f ρ μ, SR K f μ H ∧ LR K f H ρ σ ∧ Post K es W σ f H (m ρ μ) Q
/-- .. of arguments: m comes to a tup -/
def tMA (W : WX) (m : Loc → Sto → Out Val) : TA := fun σ H Q => ∃ f ρ μ, SR K f μ H ∧ LR K f H ρ σ ∧ (match m ρ μ with
  | .ok (.tup vs) μ' => ∀ f' H' xs, Le f H f' H' → SR K f' μ' H' → VRs K f' H' vs xs → Q xs H'
  | .exc c fs μ' => ∀ f' H' cls d, Le f H f' H' → SR K f' μ' H' → XR K es f' H' c fs cls d → W cls d σ H'
  | _ => False)
end
section
variable {K : PySem.W.Frag} {es : List EC} {W : WX} {σ : St} {f f1 : List Addr} {H H1 : Hp} {μ : Sto} {ρ : Loc} {Q : VK}
theorem Post.mono {o : Out Val} (l : Le f H f1 H1) (h : Post K es W σ f H o Q) : Post K es W σ f1 H1 o Q := by
  cases o with
  | ok v μ' => exact fun f' H' x l' S r => h f' H' x (l.trans l') S r
  | exc c fs μ' => exact fun f' H' cls d l' S r => h f' H' cls d (l.trans l') S r
  | fail => exact h
/-- an expression first, then what hangs on it -/
theorem bindP {ma : Loc → Sto → Out Val} {k : Val → Sto → Out Val} {Q1 : VK} (S : SR K f μ H) (L : LR K f H ρ σ) (h : Post K es W σ f H ((ma ρ μ).bind k) Q)
    (hk : ∀ v μ1 f1 H1 x, Le f H f1 H1 → SR K f1 μ1 H1 → LR K f1 H1 ρ σ → VR K f1 H1 v x → Post K es W σ f1 H1 (k v μ1) Q → Q1 x H1) : tM K es W ma σ H Q1 := by
  refine ⟨f, ρ, μ, S, L, ?_⟩
  cases e : ma ρ μ with
  | ok v μ1 =>
    rw [e] at h
    exact fun f' H' x l' S' r => hk v μ1 f' H' x l' S' (L.mono l') r (Post.mono l' h)
  | exc c fs μ1 =>
    rw [e] at h
    exact h
  | fail =>
    rw [e] at h
    exact h
theorem bindPA {ma : Loc → Sto → Out Val} {k : Val → Sto → Out Val} {Q1 : List V → Hp → Prop} (S : SR K f μ H) (L : LR K f H ρ σ) (hf : ∀ v μ1, (∀ vs, v ≠ .tup vs) → k v μ1 = .fail) (h : Post K es W σ f H ((ma ρ μ).bind k) Q)
    (hk : ∀ vs μ1 f1 H1 xs, Le f H f1 H1 → SR K f1 μ1 H1 → LR K f1 H1 ρ σ → VRs K f1 H1 vs xs → Post K es W σ f1 H1 (k (.tup vs) μ1) Q → Q1 xs H1) : tMA K es W ma σ H Q1 := by
  refine ⟨f, ρ, μ, S, L, ?_⟩
  cases e : ma ρ μ with
  | ok v μ1 =>
    rw [e] at h
    cases v with
    | tup vs => exact fun f' H' xs l' S' r => hk vs μ1 f' H' xs l' S' (L.mono l') r (Post.mono l' h)
    | _ => rw [Out.bind_ok, hf _ _ (by intro vs z; cases z)] at h; exact h
  | exc c fs μ1 =>
    rw [e] at h
    exact h
  | fail =>
    rw [e] at h
    exact h
theorem Post.done {v : Val} {x : V} (h : Post K es W σ f H (.ok v μ) Q) (S : SR K f μ H) (r : VR K f H v x) : Q x H := h f H x (Le.refl _ _) S r
theorem Post.newL {vs : List Val} {xs : List V} (h : Post K es W σ f H (newLst vs μ) Q) (S : SR K f μ H) (r : VRs K f H vs xs) : ∀ p, H p = none → Q (.ref p) (upd H p (.lst xs)) := fun p hp =>
  h (f ++ [p]) _ _ (Le.newL hp) (S.newL hp r) (VR.ref_new S)
theorem Post.newT {vs : List Val} {xs : List V} (h : Post K es W σ f H (.ok (.tup vs) μ) Q) (S : SR K f μ H) (r : VRs K f H vs xs) : ∀ p, H p = none → Q (.ref p) (upd H p (.tup xs)) := fun p hp =>
  h f _ _ (Le.beside hp) (S.beside hp) ⟨p, xs, rfl, SqT.of upd_same, VRs.mono (Le.beside hp) _ _ r⟩
end
/-- a stronger reading -/
theorem PE.weak {X : Cx} {e : Expr} {t t' : TE} (h : PE X e t) (k : ∀ σ H Q, t' σ H Q → t σ H Q) : PE X e t' := ⟨fun pins s σ H Q I q => h.run pins s σ H Q I (k σ H Q q)⟩
theorem PT.weak {X : Cx} {e : Expr} {t t' : TT} (h : PT X e t) (k : ∀ σ H Q, t' σ H Q → t σ H Q) : PT X e t' := ⟨fun pins s σ H Q I q => h.run pins s σ H Q I (k σ H Q q)⟩
theorem PW.weak {X : Cx} {e : Expr} {t t' : TT} (h : PW X e t) (k : ∀ σ H Q, t' σ H Q → t σ H Q) : PW X e t' := ⟨fun wh pins s σ H Q I q => h.run wh pins s σ H Q I (k σ H Q q)⟩
theorem PA.weak {X : Cx} {e : List Expr} {t t' : TA} (h : PA X e t) (k : ∀ σ H Q, t' σ H Q → t σ H Q) : PA X e t' := ⟨fun pos pins s σ H Q I q => h.run pos pins s σ H Q I (k σ H Q q)⟩
theorem PS.weak {X : Cx} {e : Stmt} {t t' : TS} (h : PS X e t) (k : ∀ D σ H, t' D σ H → t D σ H) : PS X e t' := ⟨fun pins s σ H D I q => h.run pins s σ H D I (k D σ H q)⟩
theorem PSs.weak {X : Cx} {e : List Stmt} {t t' : TS} (h : PSs X e t) (k : ∀ D σ H, t' D σ H → t D σ H) : PSs X e t' := ⟨fun pins s σ H D I q => h.run pins s σ H D I (k D σ H q)⟩
end Mi
end

section
set_option Elab.async false
set_option linter.all false
set_option maxRecDepth 100000
set_option autoImplicit false
set_option maxHeartbeats 1000000
/-! Sound2: the operations. -/
namespace Mi
open PySem PySem.Spec L2
open PyProof.Rows hiding St
section
variable {K : PySem.W.Frag} {es : List EC} {W : WX} {σ : St} {f : List Addr} {H : Hp} {μ : Sto} {Q : VK}

/-- an operation of two values, as the model asks for it -/
def r2 (K : PySem.W.Frag) (es : List EC) (s : Val → Val → Sto → Out Val) : R2 := fun x y H Q => ∃ f μ v w W σ, SR K f μ H ∧ VR K f H v x ∧ VR K f H w y ∧ Post K es W σ f H (s v w μ) Q
def r1 (K : PySem.W.Frag) (es : List EC) (s : Val → Sto → Out Val) : V → Hp → VK → Prop := fun x H Q => ∃ f μ v W σ, SR K f μ H ∧ VR K f H v x ∧ Post K es W σ f H (s v μ) Q
theorem OpR.weak {X : Cx} {g : Value → Value → Sem Value} {r r' : R2} (h : OpR X g r) (k : ∀ x y H Q, r' x y H Q → r x y H Q) : OpR X g r' := fun pins s σ H x y v u Q I rx ry q => h pins s σ H x y v u Q I rx ry (k _ _ _ _ q)

theorem SR.lst {n : Nat} {x : V} {vs : List Val} (S : SR K f μ H) (r : VR K f H (.ref n) x) (h : μ[n]? = some (.lst vs)) : ∃ a xs, x = .ref a ∧ f[n]? = some a ∧ H a = some (.lst xs) ∧ VRs K f H vs xs := by
  obtain ⟨a, ha, e⟩ := r
  obtain ⟨xs, q, t⟩ := S.cell n _ a h ha
  exact ⟨a, xs, e, ha, q, t⟩
/-- what is walked or measured, where it is no text -/
theorem SR.items {v : Val} {x : V} {vs : List Val} (S : SR K f μ H) (r : VR K f H v x) (h : items μ v = some vs) (hs : ∀ s, v ≠ .str s) :
    ∃ a xs, x = .ref a ∧ VRs K f H vs xs ∧ ((SqL K H a xs ∧ ∀ ws, v ≠ .tup ws) ∨ (SqT K H a xs ∧ v = .tup vs)) := by
  cases v with
  | tup ws =>
    obtain ⟨a, xs, e, q, t⟩ := r
    cases (show some ws = some vs from h)
    exact ⟨a, xs, e, t, .inr ⟨q, rfl⟩⟩
  | scr ns =>
    obtain ⟨a, e, q⟩ := r
    cases (show some (ns.map Val.int) = some vs from h)
    exact ⟨a, _, e, VRs.ints ns, .inl ⟨q.seq, fun _ z => by cases z⟩⟩
  | ref n =>
    cases e : μ[n]? with
    | none =>
      have h' : (match μ[n]? with | some (.lst vs) => some vs | _ => none) = some vs := h
      rw [e] at h'; cases h'
    | some c =>
      have h' : (match μ[n]? with | some (.lst vs) => some vs | _ => none) = some vs := h
      rw [e] at h'
      cases c with
      | lst ws =>
        cases h'
        obtain ⟨a, xs, ex, ha, q, t⟩ := S.lst r e
        exact ⟨a, xs, ex, t, .inl ⟨SqL.of q, fun _ z => by cases z⟩⟩
      | dict _ => cases h'
      | ins _ _ => cases h'
  | str s => exact absurd rfl (hs s)
  | _ => cases h
theorem Post.ite_ok {c : Prop} [Decidable c] {v : Val} (h : Post K es W σ f H (if c then .ok v μ else .fail) Q) : c ∧ Post K es W σ f H (.ok v μ) Q := by
  by_cases hc : c
  · rw [if_pos hc] at h; exact ⟨hc, h⟩
  · rw [if_neg hc] at h; exact h.elim
theorem Post.ite {c : Prop} [Decidable c] {o : Out Val} (h : Post K es W σ f H (if c then o else .fail) Q) : c ∧ Post K es W σ f H o Q := by
  by_cases hc : c
  · rw [if_pos hc] at h; exact ⟨hc, h⟩
  · rw [if_neg hc] at h; exact h.elim
end
section
variable {X : Cx} {es : List EC}
theorem no_list (c : Cell) : (∃ vs, c = .lst vs) ∨ (∀ vs, c ≠ .lst vs) := by
  cases c with
  | lst vs => exact .inl ⟨vs, rfl⟩
  | _ => exact .inr (fun _ z => by cases z)
theorem str_app (x y : List Nat) : (⟨x.toArray⟩ : Str) ++ ⟨y.toArray⟩ = ⟨(x ++ y).toArray⟩ := by
  show (⟨x.toArray ++ y.toArray⟩ : Str) = _
  rw [List.append_toArray]
theorem op2_add : OpR X (binaryOp .Add) (r2 X.K es (sem2 .add)) := by
  refine OpR.weak (op_add.or (op_add_str.or (op_catA.or op_cat))) fun x y H Q h => ?_
  obtain ⟨f, μ, v, w, W, σ, S, rv, rw', h⟩ := h
  cases v with
  | int i =>
    cases w with
    | int j => exact .inl ⟨i, j, rv, rw', h.done S rfl⟩
    | _ => exact h.elim
  | str a =>
    cases w with
    | str b =>
      obtain ⟨hc, h⟩ := Post.ite_ok h
      refine .inr (.inl ⟨⟨a.toArray⟩, ⟨b.toArray⟩, rv, rw', ?_, ?_⟩)
      · show a.toArray.size + b.toArray.size ≤ sizeLine
        rw [sizeLine_eq]; simpa using hc
      · rw [str_app]; exact h.done S rfl
    | _ => exact h.elim
  | tup a =>
    cases w with
    | tup b =>
      obtain ⟨hc, h⟩ := Post.ite_ok h
      obtain ⟨p, xs, rfl, hp, tx⟩ := rv
      obtain ⟨q, ys, rfl, hq, ty⟩ := rw'
      refine .inr (.inr (.inl ⟨p, q, xs, ys, rfl, rfl, hp, hq, ?_, fun e => ?_, fun _ e => ?_, fun _ _ => h.newT S (tx.append ty)⟩))
      · rw [tx.length, ty.length, sizeLine_eq]; exact hc
      · subst e
        have ea : a = [] := List.eq_nil_of_length_eq_zero tx.length.symm
        subst ea
        exact h.done S ⟨q, ys, rfl, hq, ty⟩
      · subst e
        have eb : b = [] := List.eq_nil_of_length_eq_zero ty.length.symm
        subst eb
        rw [List.append_nil] at h
        exact h.done S ⟨p, xs, rfl, hp, tx⟩
    | _ => exact h.elim
  | ref n =>
    cases w with
    | ref m =>
      have h' : Post X.K es W σ f H (match μ[n]?, μ[m]? with
        | some (.lst xs), some (.lst ys) => if xs.length + ys.length ≤ LIM then newLst (xs ++ ys) μ else .fail
        | _, _ => .fail) Q := h
      split at h'
      · rename_i us ws e1 e2
        obtain ⟨hc, h⟩ := Post.ite h'
        obtain ⟨a, xs, rfl, ha, hq, tx⟩ := S.lst rv e1
        obtain ⟨b, ys, rfl, hb, hq2, ty⟩ := S.lst rw' e2
        exact .inr (.inr (.inr ⟨a, b, xs, ys, rfl, rfl, hq, hq2, by rw [tx.length, ty.length, sizeLine_eq]; exact hc, h.newL S (tx.append ty)⟩))
      · exact h'.elim
    | _ => exact h.elim
  | _ => exact h.elim
theorem op2_sub : OpR X (binaryOp .Sub) (r2 X.K es (sem2 .sub)) := by
  refine OpR.weak op_sub fun x y H Q h => ?_
  obtain ⟨f, μ, v, w, W, σ, S, rv, rw', h⟩ := h
  cases v with
  | int i =>
    cases w with
    | int j => exact ⟨i, j, rv, rw', h.done S rfl⟩
    | _ => exact h.elim
  | _ => exact h.elim
theorem op2_mul : OpR X (binaryOp .Mult) (r2 X.K es (sem2 .mul)) := by
  refine OpR.weak (((op_mulW.or op_repT).or op_repS).or op_rep) fun x y H Q h => ?_
  obtain ⟨f, μ, v, w, W, σ, S, rv, rw', h⟩ := h
  cases v with
  | int i =>
    cases w with
    | int j =>
      obtain ⟨hc, h⟩ := Post.ite_ok h
      exact .inl (.inl (.inl ⟨i, j, rv, rw', hc, h.done S rfl⟩))
    | _ => exact h.elim
  | tup a =>
    cases w with
    | int k =>
      obtain ⟨⟨h2, h3, h4⟩, h⟩ := Post.ite_ok h
      obtain ⟨p, xs, rfl, hp, tx⟩ := rv
      by_cases h1 : a = []
      · subst h1
        have e0 : (List.replicate k.toNat ([] : List Val)).flatten = [] := by simp
        rw [e0] at h
        rw [show xs = [] from tx] at hp
        exact .inl (.inr ⟨p, k, [], rfl, rw', hp, h2, h3, .inl ⟨.inl rfl, h.done S ⟨p, [], rfl, hp, rfl⟩⟩⟩)
      by_cases hk1 : k = 1
      · subst hk1
        have e0 : (List.replicate (1 : Int).toNat a).flatten = a := by simp
        rw [e0] at h
        exact .inl (.inr ⟨p, 1, xs, rfl, rw', hp, h2, h3, .inl ⟨.inr rfl, h.done S ⟨p, xs, rfl, hp, tx⟩⟩⟩)
      have hx : xs ≠ [] := fun e => h1 (List.eq_nil_of_length_eq_zero (by rw [← tx.length, e]; rfl))
      by_cases hk0 : k ≤ 0
      · have e0 : (List.replicate k.toNat a).flatten = [] := by
          rw [show k.toNat = 0 by omega]; rfl
        rw [e0] at h
        exact .inl (.inr ⟨p, k, xs, rfl, rw', hp, h2, h3, .inr ⟨hx, hk0, h.newT S VRs.nil⟩⟩)
      · exact .inl (.inl (.inr ⟨p, k, xs, rfl, rw', hp, hx, by omega, h3, by rw [tx.length]; exact h4, h.newT S (tx.rep _)⟩))
    | _ => exact h.elim
  | ref n =>
    cases w with
    | int k =>
      have h' : Post X.K es W σ f H (match μ[n]? with
        | some (.lst xs) => if -1000000000 ≤ k ∧ k ≤ 1000000000 ∧ xs.length * k.toNat ≤ LIM then newLst (List.replicate k.toNat xs).flatten μ else .fail
        | _ => .fail) Q := h
      split at h'
      · rename_i us e1
        obtain ⟨⟨h1, h2, h3⟩, h⟩ := Post.ite h'
        obtain ⟨a, xs, rfl, ha, hq, tx⟩ := S.lst rv e1
        exact .inr ⟨a, k, xs, rfl, rw', hq, by omega, by omega, by rw [tx.length, sizeLine_eq]; exact h3, h.newL S (tx.rep _)⟩
      · exact h'.elim
    | _ => exact h.elim
  | _ => exact h.elim
theorem op2_fdiv : OpR X (binaryOp .FloorDiv) (r2 X.K es (sem2 .fdiv)) := by
  refine OpR.weak op_fdivW fun x y H Q h => ?_
  obtain ⟨f, μ, v, w, W, σ, S, rv, rw', h⟩ := h
  cases v with
  | int i =>
    cases w with
    | int j =>
      obtain ⟨hc, h⟩ := Post.ite_ok h
      exact ⟨i, j, rv, rw', hc, h.done S rfl⟩
    | _ => exact h.elim
  | _ => exact h.elim
theorem op2_mod : OpR X (binaryOp .Mod) (r2 X.K es (sem2 .mod)) := by
  refine OpR.weak op_mod fun x y H Q h => ?_
  obtain ⟨f, μ, v, w, W, σ, S, rv, rw', h⟩ := h
  cases v with
  | int i =>
    cases w with
    | int j =>
      obtain ⟨hc, h⟩ := Post.ite_ok h
      exact ⟨i, j, rv, rw', hc, h.done S rfl⟩
    | _ => exact h.elim
  | _ => exact h.elim
theorem op2_pow : OpR X (binaryOp .Pow) (r2 X.K es (sem2 .pow)) := by
  refine OpR.weak op_pow fun x y H Q h => ?_
  obtain ⟨f, μ, v, w, W, σ, S, rv, rw', h⟩ := h
  cases v with
  | int i =>
    cases w with
    | int j =>
      obtain ⟨hc, h⟩ := Post.ite_ok h
      exact ⟨i, j, rv, rw', hc, h.done S rfl⟩
    | _ => exact h.elim
  | _ => exact h.elim
theorem op2_shl : OpR X (binaryOp .LShift) (r2 X.K es (sem2 .shl)) := by
  refine OpR.weak op_shl fun x y H Q h => ?_
  obtain ⟨f, μ, v, w, W, σ, S, rv, rw', h⟩ := h
  cases v with
  | int i =>
    cases w with
    | int j =>
      obtain ⟨hc, h⟩ := Post.ite_ok h
      exact ⟨i, j, rv, rw', hc, h.done S rfl⟩
    | _ => exact h.elim
  | _ => exact h.elim

/-! ### comparisons -/
theorem cmpI_get {p : Int → Int → Bool} {K : PySem.W.Frag} {W : WX} {σ : St} {f : List Addr} {H : Hp} {μ : Sto} {Q : VK} {v w : Val} {x y : V} (S : SR K f μ H) (rv : VR K f H v x) (rw' : VR K f H w y) (h : Post K es W σ f H (cmpI p v w μ) Q) :
    ∃ i j, x = .int i ∧ y = .int j ∧ Q (.bl (p i j)) H := by
  cases v with
  | int i =>
    cases w with
    | int j => exact ⟨i, j, rv, rw', h.done S rfl⟩
    | _ => exact h.elim
  | _ => exact h.elim
theorem op2_le : OpR X (compareOp .LtE) (r2 X.K es (sem2 .le)) := OpR.weak op_le fun x y H Q ⟨f, μ, v, w, W, σ, S, rv, rw', h⟩ => cmpI_get S rv rw' h
theorem op2_gt : OpR X (compareOp .Gt) (r2 X.K es (sem2 .gt)) := OpR.weak op_gt fun x y H Q ⟨f, μ, v, w, W, σ, S, rv, rw', h⟩ => cmpI_get S rv rw' h
theorem op2_ge : OpR X (compareOp .GtE) (r2 X.K es (sem2 .ge)) := OpR.weak op_ge fun x y H Q ⟨f, μ, v, w, W, σ, S, rv, rw', h⟩ => cmpI_get S rv rw' h
theorem lexLt_eq : ∀ ns ms : List Int, HT.lexLt ns ms = lexLt ns ms
  | [], [] => rfl
  | [], _ :: _ => rfl
  | _ :: _, [] => rfl
  | x :: xs, y :: ys => by
    have ih := lexLt_eq xs ys
    unfold HT.lexLt lexLt
    rw [ih]
    try rfl
theorem op2_lt (hu : X.A.units < cLine) : OpR X (compareOp .Lt) (r2 X.K es (sem2 .lt)) := by
  refine OpR.weak (op_lt.or (op_ltT hu)) fun x y H Q ⟨f, μ, v, w, W, σ, S, rv, rw', h⟩ => ?_
  cases v with
  | tup a =>
    cases w with
    | tup b =>
      have h' : Post X.K es W σ f H (match Mi.asInts a, Mi.asInts b with
        | some ns, some ms => .ok (.bl (lexLt ns ms)) μ
        | _, _ => .fail) Q := h
      split at h'
      · rename_i ns ms e1 e2
        obtain ⟨p, xs, rfl, hp, tx⟩ := rv
        obtain ⟨q, ys, rfl, hq, ty⟩ := rw'
        have ex := tx.ints_of e1
        have ey := ty.ints_of e2
        subst ex ey
        refine .inr ⟨p, q, ns, ms, rfl, rfl, hp, hq, ?_⟩
        rw [lexLt_eq]
        exact h'.done S rfl
      · exact h'.elim
    | _ => exact h.elim
  | _ => exact .inl (cmpI_get S rv rw' h)
mutual
def dat : Val → PyData
  | .non => .none
  | .bl b => .bool b
  | .int i => .int i
  | .str s => .str ⟨s.toArray⟩
  | .tup vs => .tuple (dats vs)
  | _ => .none
def dats : List Val → List PyData
  | [] => []
  | v :: vs => dat v :: dats vs
end
mutual
theorem dat_dp {K : PySem.W.Frag} {f : List Addr} {H : Hp} : ∀ (n : Nat) (v : Val) (x : V), v.plain n = true → VR K f H v x → Dp K H x (dat v)
  | _, .non, _, _, r => by rw [show _ = V.non from r]; exact .non
  | _, .bl b, _, _, r => by rw [show _ = V.bl b from r]; exact .bl b
  | _, .int i, _, _, r => by rw [show _ = V.int i from r]; exact .int i
  | _, .str s, _, _, r => by rw [show _ = V.str ⟨s.toArray⟩ from r]; exact .str _
  | 0, .tup vs, _, h, _ => by cases h
  | n + 1, .tup vs, _, h, ⟨a, xs, e, q, t⟩ => by rw [e]; exact .tup q (dats_dp n vs xs h t)
  | 0, .ref _, _, h, _ => by cases h
  | _ + 1, .ref _, _, h, _ => by cases h
  | 0, .scr _, _, h, _ => by cases h
  | _ + 1, .scr _, _, h, _ => by cases h
theorem dats_dp {K : PySem.W.Frag} {f : List Addr} {H : Hp} : ∀ (n : Nat) (vs : List Val) (xs : List V), plains n vs = true → VRs K f H vs xs → DpAll K H xs (dats vs)
  | _, [], _, _, r => by rw [show _ = [] from r]; exact .nil
  | n, v :: vs, _, h, ⟨x, r, e, q, t⟩ => by
    have h' : (v.plain n && plains n vs) = true := by unfold plains at h; exact h
    rw [Bool.and_eq_true] at h'
    rw [e]; exact .cons (dat_dp n v x h'.1 q) (dats_dp n vs r h'.2 t)
end
mutual
theorem dat_lay : ∀ (n : Nat) (v : Val), v.plain n = true → (dat v).canLay0 = true ∧ (dat v).depth ≤ n
  | _, .non, _ => ⟨by simp [dat, PyData.canLay0], by simp [dat, PyData.depth]⟩
  | _, .bl b, _ => ⟨by simp [dat, PyData.canLay0], by simp [dat, PyData.depth]⟩
  | _, .int i, _ => ⟨by simp [dat, PyData.canLay0], by simp [dat, PyData.depth]⟩
  | n, .str s, h => by
    have h' : (s.all fun c => decide (c < 1114112)) = true := by unfold Val.plain at h; exact h
    refine ⟨?_, by simp [dat, PyData.depth]⟩
    simp only [dat, PyData.canLay0, PyData.strOk]
    simpa using h'
  | 0, .tup vs, h => by cases h
  | n + 1, .tup vs, h => by
    obtain ⟨h1, h2⟩ := dats_lay n vs h
    simp only [dat, PyData.canLay0, PyData.depth]
    exact ⟨h1, by omega⟩
  | 0, .ref _, h => by cases h
  | _ + 1, .ref _, h => by cases h
  | 0, .scr _, h => by cases h
  | _ + 1, .scr _, h => by cases h
theorem dats_lay : ∀ (n : Nat) (vs : List Val), plains n vs = true → PyData.canLayAll0 (dats vs) = true ∧ PyData.depthAll (dats vs) ≤ n
  | _, [], _ => ⟨by simp [dats, PyData.canLayAll0], by simp [dats, PyData.depthAll]⟩
  | n, v :: vs, h => by
    have h' : (v.plain n && plains n vs) = true := by unfold plains at h; exact h
    rw [Bool.and_eq_true] at h'
    obtain ⟨a1, a2⟩ := dat_lay n v h'.1
    obtain ⟨b1, b2⟩ := dats_lay n vs h'.2
    simp only [dats, PyData.canLayAll0, PyData.depthAll, a1, b1, Bool.and_self, true_and]
    omega
end
theorem arr_beq (x y : List Nat) : ((⟨x.toArray⟩ : Str) == ⟨y.toArray⟩) = (x == y) := by
  rw [Bool.eq_iff_iff]
  simp
mutual
theorem eqv_dat : ∀ (n m : Nat) (v w : Val), v.plain n = true → w.plain m = true → PyData.eqv (dat v) (dat w) = eqv v w
  | n, m, v, w, hv, hw => by
    cases v with
    | non => cases w <;> first | (simp [dat, PyData.eqv, eqv]; done) | (cases m <;> cases hw)
    | bl a => cases w <;> first | (simp [dat, PyData.eqv, eqv]; done) | (cases m <;> cases hw)
    | int a => cases w <;> first | (simp [dat, PyData.eqv, eqv]; done) | (cases m <;> cases hw)
    | str a =>
      cases w with
      | str b => simp only [dat, PyData.eqv, eqv]; exact arr_beq a b
      | _ => first | (simp [dat, PyData.eqv, eqv]; done) | (cases m <;> cases hw)
    | tup a =>
      cases n with
      | zero => cases hv
      | succ n =>
        cases w with
        | tup b =>
          cases m with
          | zero => cases hw
          | succ m =>
            simp only [dat, PyData.eqv, eqv]
            exact eqvs_dat n m a b hv hw
        | _ => first | (simp [dat, PyData.eqv, eqv]; done) | (cases m <;> cases hw)
    | ref _ => cases n <;> cases hv
    | scr _ => cases n <;> cases hv
theorem eqvs_dat : ∀ (n m : Nat) (vs ws : List Val), plains n vs = true → plains m ws = true → PyData.eqvAll (dats vs) (dats ws) = eqvs vs ws
  | _, _, [], [], _, _ => by simp [dats, PyData.eqvAll, eqvs]
  | _, _, [], w :: ws, _, _ => by simp [dats, PyData.eqvAll, eqvs]
  | _, _, v :: vs, [], _, _ => by simp [dats, PyData.eqvAll, eqvs]
  | n, m, v :: vs, w :: ws, hv, hw => by
    have h1 : (v.plain n && plains n vs) = true := by unfold plains at hv; exact hv
    have h2 : (w.plain m && plains m ws) = true := by unfold plains at hw; exact hw
    rw [Bool.and_eq_true] at h1 h2
    simp only [dats, PyData.eqvAll, eqvs, eqv_dat n m v w h1.1 h2.1, eqvs_dat n m vs ws h1.2 h2.2]
end
theorem shaped_of {v : Val} (h : v.plain 60 = true) : SeqAt.shaped (dat v) = true := by
  obtain ⟨h1, h2⟩ := dat_lay 60 v h
  unfold SeqAt.shaped
  rw [h1, Bool.true_and]
  exact decide_eq_true (by omega)
theorem eqOk_get {K : PySem.W.Frag} {f : List Addr} {H : Hp} {v w : Val} {x y : V} (rv : VR K f H v x) (rw' : VR K f H w y) (h : eqOk v w = true) :
    (scal x y = true ∧ decide (x = y) = eqv v w) ∨ (∃ d e, Dp K H x d ∧ Dp K H y e ∧ SeqAt.shaped d = true ∧ SeqAt.shaped e = true ∧ PyData.eqv d e = eqv v w) := by
  have viaD : v.plain 60 = true → w.plain 60 = true → ∃ d e, Dp K H x d ∧ Dp K H y e ∧ SeqAt.shaped d = true ∧ SeqAt.shaped e = true ∧ PyData.eqv d e = eqv v w := fun h1 h2 =>
    ⟨dat v, dat w, dat_dp 60 v x h1 rv, dat_dp 60 w y h2 rw', shaped_of h1, shaped_of h2, eqv_dat 60 60 v w h1 h2⟩
  unfold eqOk at h
  rw [Bool.or_eq_true, Bool.and_eq_true, Bool.and_eq_true] at h
  rcases h with ⟨h1, h2⟩ | ⟨h1, h2⟩
  · cases v with
    | non =>
      cases (show x = .non from rv)
      cases w with
      | non => cases (show y = .non from rw'); exact .inl ⟨rfl, rfl⟩
      | bl b => cases (show y = .bl b from rw'); exact .inl ⟨rfl, rfl⟩
      | int b => cases (show y = .int b from rw'); exact .inl ⟨rfl, rfl⟩
      | str b => cases (show y = _ from rw'); exact .inl ⟨rfl, rfl⟩
      | _ => cases h2
    | bl a =>
      cases (show x = .bl a from rv)
      cases w with
      | non => cases (show y = .non from rw'); exact .inl ⟨rfl, rfl⟩
      | bl b => cases (show y = .bl b from rw'); exact .inl ⟨rfl, dec_bl⟩
      | int b => exact .inr (viaD rfl rfl)
      | str b => cases (show y = _ from rw'); exact .inl ⟨rfl, rfl⟩
      | _ => cases h2
    | int a =>
      cases (show x = .int a from rv)
      cases w with
      | non => cases (show y = .non from rw'); exact .inl ⟨rfl, rfl⟩
      | bl b => exact .inr (viaD rfl rfl)
      | int b => cases (show y = .int b from rw'); exact .inl ⟨rfl, dec_int⟩
      | str b => cases (show y = _ from rw'); exact .inl ⟨rfl, rfl⟩
      | _ => cases h2
    | str a =>
      cases (show x = _ from rv)
      cases w with
      | non => cases (show y = .non from rw'); exact .inl ⟨rfl, rfl⟩
      | bl b => cases (show y = .bl b from rw'); exact .inl ⟨rfl, rfl⟩
      | int b => cases (show y = .int b from rw'); exact .inl ⟨rfl, rfl⟩
      | str b => cases (show y = _ from rw'); exact .inl ⟨rfl, dec_str.trans (arr_beq a b)⟩
      | _ => cases h2
    | _ => cases h1
  · exact .inr (viaD h1 h2)
theorem op2_eq (hu : X.A.units + 64 < cLine) : OpR X (compareOp .Eq) (r2 X.K es (sem2 .eq)) := by
  refine OpR.weak (op_eq.or (op_eqD hu)) fun x y H Q ⟨f, μ, v, w, W, σ, S, rv, rw', h⟩ => ?_
  obtain ⟨hc, h⟩ := Post.ite_ok (show Post X.K es W σ f H (if eqOk v w then .ok (.bl (eqv v w)) μ else .fail) Q from h)
  rcases eqOk_get rv rw' hc with ⟨h1, h2⟩ | ⟨d, e, h1, h2, h3, h4, h5⟩
  · exact .inl ⟨h1, by rw [h2]; exact h.done S rfl⟩
  · exact .inr ⟨d, e, h1, h2, h3, h4, by rw [h5]; exact h.done S rfl⟩
theorem op2_ne (hu : X.A.units + 64 < cLine) : OpR X (compareOp .NotEq) (r2 X.K es (sem2 .ne)) := by
  refine OpR.weak (op_ne.or (op_neD hu)) fun x y H Q ⟨f, μ, v, w, W, σ, S, rv, rw', h⟩ => ?_
  obtain ⟨hc, h⟩ := Post.ite_ok (show Post X.K es W σ f H (if eqOk v w then .ok (.bl (!eqv v w)) μ else .fail) Q from h)
  rcases eqOk_get rv rw' hc with ⟨h1, h2⟩ | ⟨d, e, h1, h2, h3, h4, h5⟩
  · exact .inl ⟨h1, by rw [h2]; exact h.done S rfl⟩
  · exact .inr ⟨d, e, h1, h2, h3, h4, by rw [h5]; exact h.done S rfl⟩
end
end Mi
end

section
set_option Elab.async false
set_option linter.all false
set_option maxRecDepth 100000
set_option autoImplicit false
set_option maxHeartbeats 1000000
/-! Sound3: more operations: in, subscripts, slices, calls of built-ins, methods of lists. -/
namespace Mi
open PySem PySem.Spec L2
open PyProof.Rows hiding St
theorem IxR.weak {X : Cx} {r r' : R2} (h : IxR X r) (k : ∀ x y H Q, r' x y H Q → r x y H Q) : IxR X r' := fun value slice pins s σ H x y v u Q I rx ry q hs => h value slice pins s σ H x y v u Q I rx ry (k _ _ _ _ q) hs
theorem SlR.weak {X : Cx} {r r' : V → Option Int → Option Int → Hp → VK → Prop} (h : SlR X r) (k : ∀ x lo hi H Q, r' x lo hi H Q → r x lo hi H Q) : SlR X r' := fun pins s σ H x v vl vu lo hi sl Q I rx hs pl pu q => h pins s σ H x v vl vu lo hi sl Q I rx hs pl pu (k _ _ _ _ _ q)
theorem CallR.weak {X : Cx} {f : Value} {r r' : List V → Hp → VK → Prop} (h : CallR X f r) (k : ∀ xs H Q, r' xs H Q → r xs H Q) : CallR X f r' := fun pins s σ H xs us Q I rs q => h pins s σ H xs us Q I rs (k _ _ _ q)
theorem MtR.weak {X : Cx} {id : String} {r r' : V → List V → Hp → VK → Prop} (h : MtR X id r) (k : ∀ x xs H Q, r' x xs H Q → r x xs H Q) : MtR X id r' := fun pins s σ H x xs v us Q I rx rs q => h pins s σ H x xs v us Q I rx rs (k _ _ _ _ q)
theorem UnR.weak {X : Cx} {f : Value → Sem Value} {r r' : V → Hp → VK → Prop} (h : UnR X f r) (k : ∀ x H Q, r' x H Q → r x H Q) : UnR X f r' := fun pins s σ H x v Q I rx q => h pins s σ H x v Q I rx (k _ _ _ q)
section
variable {K : PySem.W.Frag} {f : List Addr} {H : Hp}
theorem flat_V {v : Val} {x : V} (r : VR K f H v x) (h : v.flat = true) : flatV x = true := by
  cases v with
  | non => rw [show x = _ from r]; rfl
  | bl _ => rw [show x = _ from r]; rfl
  | int _ => rw [show x = _ from r]; rfl
  | str _ => rw [show x = _ from r]; rfl
  | _ => cases h
theorem flat_eq {v w : Val} {x y : V} (r : VR K f H v x) (h : v.flat = true) (r2 : VR K f H w y) (h2 : w.flat = true) : eqV x y = eqv v w := by
  cases v with
  | non =>
    rw [show x = _ from r]
    cases w with
    | non => rw [show y = _ from r2]; rfl
    | bl _ => rw [show y = _ from r2]; rfl
    | int _ => rw [show y = _ from r2]; rfl
    | str _ => rw [show y = _ from r2]; rfl
    | _ => cases h2
  | bl _ =>
    rw [show x = _ from r]
    cases w with
    | non => rw [show y = _ from r2]; rfl
    | bl _ => rw [show y = _ from r2]; rfl
    | int _ => rw [show y = _ from r2]; rfl
    | str _ => rw [show y = _ from r2]; rfl
    | _ => cases h2
  | int _ =>
    rw [show x = _ from r]
    cases w with
    | non => rw [show y = _ from r2]; rfl
    | bl _ => rw [show y = _ from r2]; rfl
    | int _ => rw [show y = _ from r2]; rfl
    | str _ => rw [show y = _ from r2]; rfl
    | _ => cases h2
  | str a =>
    rw [show x = _ from r]
    cases w with
    | non => rw [show y = _ from r2]; rfl
    | bl _ => rw [show y = _ from r2]; rfl
    | int _ => rw [show y = _ from r2]; rfl
    | str b => rw [show y = _ from r2]; exact arr_beq a b
    | _ => cases h2
  | _ => cases h
theorem flats_V : ∀ {vs : List Val} {xs : List V}, VRs K f H vs xs → vs.all Val.flat = true → xs.all flatV = true
  | [], _, r, _ => by rw [show _ = [] from r]; rfl
  | v :: vs, _, ⟨x, r, e, q, t⟩, h => by
    rw [List.all_cons, Bool.and_eq_true] at h
    rw [e, List.all_cons, flat_V q h.1, flats_V t h.2]; rfl
theorem in_V {w : Val} {y : V} (rw' : VR K f H w y) (hw : w.flat = true) : ∀ {vs : List Val} {xs : List V}, VRs K f H vs xs → vs.all Val.flat = true → inV y xs = inFlat w vs
  | [], _, r, _ => by rw [show _ = [] from r]; rfl
  | v :: vs, _, ⟨x, r, e, q, t⟩, h => by
    rw [List.all_cons, Bool.and_eq_true] at h
    have ih := in_V rw' hw t h.2
    subst e
    show (eqV x y || inV y r) = (eqv v w || inFlat w vs)
    rw [ih, flat_eq q h.1 rw' hw]
end
section
variable {X : Cx} {es : List EC}
theorem in_get {K : PySem.W.Frag} {W : WX} {σ : St} {f : List Addr} {H : Hp} {μ : Sto} {Q : VK} {v w : Val} {x y : V} {neg : Bool} (S : SR K f μ H) (rv : VR K f H v x) (rw' : VR K f H w y)
    (h : Post K es W σ f H (sem2 (if neg then .nin else .inn) v w μ) Q) : rIn K neg x y H Q := by
  have h' : (∀ s, w ≠ .str s) ∧ ∃ vs, items μ w = some vs ∧ (v.flat = true ∧ vs.all Val.flat = true) ∧ Post K es W σ f H (.ok (.bl (if neg then !inFlat v vs else inFlat v vs)) μ) Q := by
    cases neg with
    | true =>
      have h1 : Post K es W σ f H (sem2 .nin v w μ) Q := h
      unfold sem2 at h1
      dsimp only at h1
      split at h1
      · exact h1.elim
      · rename_i hn
        split at h1
        · rename_i vs e
          obtain ⟨hc, h2⟩ := Post.ite_ok h1
          exact ⟨fun s z => hn s z, vs, e, hc, h2⟩
        · exact h1.elim
    | false =>
      have h1 : Post K es W σ f H (sem2 .inn v w μ) Q := h
      unfold sem2 at h1
      dsimp only at h1
      split at h1
      · exact h1.elim
      · rename_i hn
        split at h1
        · rename_i vs e
          obtain ⟨hc, h2⟩ := Post.ite_ok h1
          exact ⟨fun s z => hn s z, vs, e, hc, h2⟩
        · exact h1.elim
  obtain ⟨hs, vs, e, ⟨h1, h2⟩, h3⟩ := h'
  obtain ⟨a, xs, rfl, t, hq⟩ := S.items rw' e hs
  refine ⟨a, xs, rfl, hq.imp (fun z => z.1) fun z => z.1, flat_V rv h1, flats_V t h2, ?_⟩
  rw [in_V rv h1 t h2]
  exact h3.done S (by cases neg <;> rfl)
theorem op2_in : OpR X (compareOp .In) (r2 X.K es (sem2 .inn)) := OpR.weak op_in_seq fun x y H Q ⟨f, μ, v, w, W, σ, S, rv, rw', h⟩ => in_get (neg := false) S rv rw' h
theorem op2_nin : OpR X (compareOp .NotIn) (r2 X.K es (sem2 .nin)) := OpR.weak op_notIn_seq fun x y H Q ⟨f, μ, v, w, W, σ, S, rv, rw', h⟩ => in_get (neg := true) S rv rw' h

/-! ### subscripts -/
theorem place_eq (n : Nat) (i : Int) : place n i = ixN n i := rfl
theorem atI_of {K : PySem.W.Frag} {f : List Addr} {H : Hp} {vs : List Val} {xs : List V} {i : Int} {v : Val} (t : VRs K f H vs xs) (h : ((place vs.length i).bind fun j => vs[j]?) = some v) : ∃ x, atI xs i = some x ∧ VR K f H v x := by
  cases e : place vs.length i with
  | none => rw [e] at h; cases h
  | some j =>
    rw [e] at h
    obtain ⟨x, h1, h2⟩ := t.get (show vs[j]? = some v from h)
    refine ⟨x, ?_, h2⟩
    unfold atI
    rw [t.length, ← place_eq, e]
    exact h1
theorem op2_idx : IxR X (r2 X.K es (sem2 .idx)) := by
  refine IxR.weak ix_seq fun x y H Q ⟨f, μ, v, w, W, σ, S, rv, rw', h⟩ => ?_
  cases w with
  | int i =>
    by_cases hs : ∃ s, v = .str s
    · obtain ⟨s, rfl⟩ := hs
      have h1 : Post X.K es W σ f H (if s.length ≤ LIM then ofOpt ((place s.length i).bind fun j => (s[j]?).map fun c => Val.str [c]) μ else .fail) Q := h
      obtain ⟨hc, h2⟩ := Post.ite h1
      cases e : place s.length i with
      | none => rw [e] at h2; exact h2.elim
      | some j =>
        rw [e] at h2
        cases e2 : s[j]? with
        | none =>
          have h3 : Post X.K es W σ f H (ofOpt ((s[j]?).map fun c => Val.str [c]) μ) Q := h2
          rw [e2] at h3; exact h3.elim
        | some c =>
          have h3 : Post X.K es W σ f H (ofOpt ((s[j]?).map fun c => Val.str [c]) μ) Q := h2
          rw [e2] at h3
          refine .inr (.inr ⟨⟨s.toArray⟩, i, c, rv, rw', ?_, ?_, ?_⟩)
          · show s.toArray.size ≤ sizeLine
            rw [sizeLine_eq]; simpa using hc
          · show atI s.toArray.toList i = some c
            rw [List.toList_toArray]
            unfold atI
            rw [← place_eq, e]
            exact e2
          · exact Post.done (v := .str [c]) h3 S rfl
    · have hs' : ∀ s, v ≠ .str s := fun s z => hs ⟨s, z⟩
      cases e : items μ v with
      | none =>
        exfalso
        unfold sem2 at h
        dsimp only at h
        split at h
        · exact absurd rfl (hs' _)
        · rw [e] at h; exact h.elim
      | some vs =>
        have h1 : Post X.K es W σ f H (ofOpt ((place vs.length i).bind fun j => vs[j]?) μ) Q := by
          unfold sem2 at h
          dsimp only at h
          split at h
          · exact absurd rfl (hs' _)
          · rw [e] at h; exact h
        obtain ⟨a, xs, rfl, t, hq⟩ := S.items rv e hs'
        cases e2 : ((place vs.length i).bind fun j => vs[j]?) with
        | none => rw [e2] at h1; exact h1.elim
        | some u =>
          rw [e2] at h1
          obtain ⟨z, h2, h3⟩ := atI_of t e2
          rcases hq with ⟨hq, _⟩ | ⟨hq, _⟩
          · exact .inl ⟨a, xs, i, z, rfl, rw', hq, h2, h1.done S h3⟩
          · exact .inr (.inl ⟨a, xs, i, z, rfl, rw', hq, h2, h1.done S h3⟩)
  | _ => exact h.elim

/-! ### slices -/
theorem clip_sIx (n d : Nat) (v : Int) : HT.sIx n d (some v) = clip n v := rfl
theorem VRs.cut {K : PySem.W.Frag} {f : List Addr} {H : Hp} {vs : List Val} {xs : List V} (t : VRs K f H vs xs) (lo hi : Nat) : VRs K f H (Mi.cut vs lo hi) ((xs.drop lo).take (hi - lo)) := (t.drop lo).take _
def sIxV (n d : Nat) : Option Int → Nat
  | none => d
  | some v => clip n v
theorem sIxV_eq (n d : Nat) (o : Option Int) : HT.sIx n d o = sIxV n d o := by cases o <;> rfl
/-- what a slice is, by its two parts -/
def slc (v : Val) (lo hi : Option Int) (μ : Sto) : Out Val := match v with
  | .tup xs => .ok (.tup (cut xs (sIxV xs.length 0 lo) (sIxV xs.length xs.length hi))) μ
  | .scr xs => newLst ((cut xs (sIxV xs.length 0 lo) (sIxV xs.length xs.length hi)).map .int) μ
  | .ref n => match μ[n]? with
    | some (.lst xs) => newLst (cut xs (sIxV xs.length 0 lo) (sIxV xs.length xs.length hi)) μ
    | _ => .fail
  | _ => .fail
def rSl (K : PySem.W.Frag) (es : List EC) : V → Option Int → Option Int → Hp → VK → Prop := fun x lo hi H Q => ∃ f μ v W σ, SR K f μ H ∧ VR K f H v x ∧ Post K es W σ f H (slc v lo hi μ) Q
theorem cut_whole {α : Type} (xs : List α) : cut xs 0 xs.length = xs := by
  unfold cut
  rw [List.drop_zero, Nat.sub_zero, List.take_length]
theorem VRs.map_int {K : PySem.W.Frag} {f : List Addr} {H : Hp} (ns : List Int) : VRs K f H (ns.map .int) (ns.map V.int) := VRs.ints ns
theorem sl_any : SlR X (rSl X.K es) := by
  refine SlR.weak (sl_tupA.or sl_list) fun x lo hi H Q ⟨f, μ, v, W, σ, S, rv, h⟩ => ?_
  cases v with
  | tup vs =>
    obtain ⟨a, xs, rfl, hq, t⟩ := rv
    refine .inl ⟨a, xs, rfl, hq, fun hw => ?_, fun _ => ?_⟩
    · have h1 : Post X.K es W σ f H (.ok (.tup (cut vs (sIxV vs.length 0 lo) (sIxV vs.length vs.length hi))) μ) Q := h
      rw [← sIxV_eq, ← sIxV_eq, ← t.length, hw.1, hw.2, t.length, cut_whole] at h1
      exact h1.done S ⟨a, xs, rfl, hq, t⟩
    · have h1 : Post X.K es W σ f H (.ok (.tup (cut vs (sIxV vs.length 0 lo) (sIxV vs.length vs.length hi))) μ) Q := h
      unfold cutV
      rw [sIxV_eq, sIxV_eq, t.length]
      exact h1.newT S (t.cut _ _)
  | scr ns =>
    obtain ⟨a, rfl, hq⟩ := rv
    have h1 : Post X.K es W σ f H (newLst ((cut ns (sIxV ns.length 0 lo) (sIxV ns.length ns.length hi)).map .int) μ) Q := h
    refine .inr ⟨a, _, rfl, hq.seq, ?_⟩
    unfold cutV
    rw [sIxV_eq, sIxV_eq, List.length_map, ← List.map_drop, ← List.map_take]
    exact h1.newL S (VRs.ints _)
  | ref n =>
    have h1 : Post X.K es W σ f H (match μ[n]? with
      | some (.lst xs) => newLst (cut xs (sIxV xs.length 0 lo) (sIxV xs.length xs.length hi)) μ
      | _ => .fail) Q := h
    split at h1
    · rename_i vs e
      obtain ⟨a, xs, rfl, _, hq, t⟩ := S.lst rv e
      refine .inr ⟨a, xs, rfl, SqL.of hq, ?_⟩
      unfold cutV
      rw [sIxV_eq, sIxV_eq, t.length]
      exact h1.newL S (t.cut _ _)
    · exact h1.elim
  | _ => exact h.elim

/-! ### built-ins of one value -/
theorem un1_neg : UnR X (unaryOp .USub) (r1 X.K es (sem1 .neg)) := by
  refine UnR.weak un_neg fun x H Q ⟨f, μ, v, W, σ, S, rv, h⟩ => ?_
  cases v with
  | int i => exact ⟨i, rv, h.done S rfl⟩
  | _ => exact h.elim
/-- a call of one argument -/
def c1 (K : PySem.W.Frag) (es : List EC) (s : Val → Sto → Out Val) : List V → Hp → VK → Prop := fun xs H Q => ∃ x, xs = [x] ∧ r1 K es s x H Q
def c2 (K : PySem.W.Frag) (es : List EC) (s : Val → Val → Sto → Out Val) : List V → Hp → VK → Prop := fun xs H Q => ∃ x y, xs = [x, y] ∧ r2 K es s x y H Q
theorem c1_abs : CallR X (.builtin "abs") (c1 X.K es (sem1 .abs)) := by
  refine CallR.weak call_abs fun xs H Q ⟨x, e, f, μ, v, W, σ, S, rv, h⟩ => ?_
  cases v with
  | int i => exact ⟨i, by rw [e, show x = _ from rv], h.done S rfl⟩
  | _ => exact h.elim
theorem c1_int : CallR X (.type "int") (c1 X.K es (sem1 .int)) := by
  refine CallR.weak call_int1 fun xs H Q ⟨x, e, f, μ, v, W, σ, S, rv, h⟩ => ?_
  cases v with
  | int i => exact .inl ⟨i, by rw [e, show x = _ from rv], h.done S rfl⟩
  | bl b => exact .inr ⟨b, by rw [e, show x = _ from rv], h.done S rfl⟩
  | _ => exact h.elim
theorem items_get {K : PySem.W.Frag} {W : WX} {σ : St} {f : List Addr} {H : Hp} {μ : Sto} {Q : VK} {v : Val} {k : List Val → Out Val} (h : Post K es W σ f H (match v with
    | .str _ => .fail
    | _ => match items μ v with
      | some vs => k vs
      | none => .fail) Q) : (∀ s, v ≠ .str s) ∧ ∃ vs, items μ v = some vs ∧ Post K es W σ f H (k vs) Q := by
  split at h
  · exact h.elim
  · rename_i hn
    split at h
    · rename_i vs e
      exact ⟨fun s z => hn s z, vs, e, h⟩
    · exact h.elim
theorem c1_len : CallR X (.builtin "len") (c1 X.K es (sem1 .len)) := by
  refine CallR.weak (call_len_seq.or call_len_str) fun xs H Q ⟨x, e, f, μ, v, W, σ, S, rv, h⟩ => ?_
  by_cases hs : ∃ s, v = .str s
  · obtain ⟨s, rfl⟩ := hs
    obtain ⟨hc, h⟩ := Post.ite_ok (show Post X.K es W σ f H (if s.length ≤ LIM then .ok (.int s.length) μ else .fail) Q from h)
    refine .inr ⟨⟨s.toArray⟩, by rw [e, show x = _ from rv], ?_, ?_⟩
    · show s.toArray.size ≤ sizeLine
      rw [sizeLine_eq]; simpa using hc
    · show Q (.int (s.toArray.size : Nat)) H
      rw [List.size_toArray]; exact h.done S rfl
  · have hs' : ∀ s, v ≠ .str s := fun s z => hs ⟨s, z⟩
    cases e2 : items μ v with
    | none =>
      exfalso
      unfold sem1 at h
      dsimp only at h
      split at h
      · exact absurd rfl (hs' _)
      · rw [e2] at h; exact h.elim
    | some vs =>
      have h1 : Post X.K es W σ f H (.ok (.int vs.length) μ) Q := by
        unfold sem1 at h
        dsimp only at h
        split at h
        · exact absurd rfl (hs' _)
        · rw [e2] at h; exact h
      obtain ⟨a, xs', rfl, t, hq⟩ := S.items rv e2 hs'
      refine .inl ⟨a, xs', e, hq.imp (fun z => z.1) fun z => z.1, ?_⟩
      rw [t.length]; exact h1.done S rfl
theorem c1_tup : CallR X (.type "tuple") (c1 X.K es (sem1 .toTup)) := by
  refine CallR.weak call_tuple_of fun xs H Q ⟨x, e, f, μ, v, W, σ, S, rv, h⟩ => ?_
  obtain ⟨hs, vs, e2, h1⟩ := items_get (k := fun vs => .ok (.tup vs) μ) (show Post X.K es W σ f H _ Q from h)
  obtain ⟨a, xs', rfl, t, hq⟩ := S.items rv e2 hs
  rcases hq with ⟨hq, _⟩ | ⟨hq, _⟩
  · exact ⟨a, xs', e, .inl ⟨hq, h1.newT S t⟩⟩
  · exact ⟨a, xs', e, .inr ⟨hq, h1.done S ⟨a, xs', rfl, hq, t⟩⟩⟩
theorem c1_lst : CallR X (.type "list") (c1 X.K es (sem1 .toLst)) := by
  refine CallR.weak call_list_of fun xs H Q ⟨x, e, f, μ, v, W, σ, S, rv, h⟩ => ?_
  obtain ⟨hs, vs, e2, h1⟩ := items_get (k := fun vs => newLst vs μ) (show Post X.K es W σ f H _ Q from h)
  obtain ⟨a, xs', rfl, t, hq⟩ := S.items rv e2 hs
  exact ⟨a, xs', e, hq.imp (fun z => z.1) fun z => z.1, h1.newL S t⟩
theorem c2_min (hc : X.calm = true) : CallR X (.builtin "min") (c2 X.K es (sem2 .min2)) := by
  refine CallR.weak (call_min2 hc) fun xs H Q ⟨x, y, e, f, μ, v, w, W, σ, S, rv, rw', h⟩ => ?_
  cases v with
  | int i =>
    cases w with
    | int j => exact ⟨i, j, by rw [e, show x = _ from rv, show y = _ from rw'], h.done S rfl⟩
    | _ => exact h.elim
  | _ => exact h.elim
theorem c2_max (hc : X.calm = true) : CallR X (.builtin "max") (c2 X.K es (sem2 .max2)) := by
  refine CallR.weak (call_max2 hc) fun xs H Q ⟨x, y, e, f, μ, v, w, W, σ, S, rv, rw', h⟩ => ?_
  cases v with
  | int i =>
    cases w with
    | int j => exact ⟨i, j, by rw [e, show x = _ from rv, show y = _ from rw'], h.done S rfl⟩
    | _ => exact h.elim
  | _ => exact h.elim


/-! ### isinstance -/
def tyN : Ty → String
  | .int => "int" | .bool => "bool" | .str => "str" | .tuple => "tuple" | .list => "list"
def tyB (a : String) (t : Ty) : Bool := match t with
  | .int => a == "int" || a == "bool"
  | .bool => a == "bool"
  | .str => a == "str"
  | .tuple => a == "tuple"
  | .list => a == "list"
theorem kit_all (a : String) (h : a = "NoneType" ∨ a = "bool" ∨ a = "int" ∨ a = "str" ∨ a = "tuple" ∨ a = "list" ∨ a = "dict") (t : Ty) : kitB a (tyN t) = some (tyB a t) := by
  rcases h with rfl | rfl | rfl | rfl | rfl | rfl | rfl <;> cases t <;> decide +kernel
theorem kit_some {a : String} (h : a = "NoneType" ∨ a = "bool" ∨ a = "int" ∨ a = "str" ∨ a = "tuple" ∨ a = "list" ∨ a = "dict") {t : Ty} {o : Option Bool} {b : Bool} (e : o = some b) (q : o = some (tyB a t)) : kitB a (tyN t) = some b := by
  rw [kit_all a h t, ← q, e]
theorem isTy_get {K : PySem.W.Frag} {f : List Addr} {H : Hp} {μ : Sto} {v : Val} {x : V} (S : SR K f μ H) (rv : VR K f H v x) : ∃ a : String, TyX K H x (.type a) ∧ ∀ t b, isTy μ v t = some b → kitB a (tyN t) = some b := by
  cases v with
  | non =>
    rw [show x = _ from rv]
    exact ⟨"NoneType", .base .non, fun t b e => kit_some (.inl rfl) e (by cases t <;> rfl)⟩
  | bl y =>
    rw [show x = _ from rv]
    exact ⟨"bool", .base (.bl y), fun t b e => kit_some (.inr (.inl rfl)) e (by cases t <;> rfl)⟩
  | int y =>
    rw [show x = _ from rv]
    exact ⟨"int", .base (.int y), fun t b e => kit_some (.inr (.inr (.inl rfl))) e (by cases t <;> rfl)⟩
  | str y =>
    rw [show x = _ from rv]
    exact ⟨"str", .base (.str _), fun t b e => kit_some (.inr (.inr (.inr (.inl rfl)))) e (by cases t <;> rfl)⟩
  | tup vs =>
    obtain ⟨a, xs, rfl, hq, t⟩ := rv
    refine ⟨"tuple", ?_, fun t b e => kit_some (.inr (.inr (.inr (.inr (.inl rfl))))) e (by cases t <;> rfl)⟩
    rcases hq with (hq | ⟨o, hq⟩) | ⟨o, its, n, hk, hc, _⟩
    · exact .base (.tup hq)
    · exact .fTuple hq
    · exact .kTuple hk hc
  | scr ns =>
    obtain ⟨a, rfl, hq⟩ := rv
    refine ⟨"list", ?_, fun t b e => kit_some (.inr (.inr (.inr (.inr (.inr (.inl rfl)))))) e (by cases t <;> rfl)⟩
    rcases hq with ⟨o, hq⟩ | ⟨o, its, n, hk, hc, _⟩
    · exact .base (.frz hq)
    · exact .kList hk hc
  | ref n =>
    obtain ⟨a, ha, rfl⟩ := rv
    obtain ⟨c, o, hc, ho⟩ := S.there ha
    have q := S.cell n c a hc ha
    cases c with
    | lst vs =>
      obtain ⟨xs, hx, _⟩ := q
      refine ⟨"list", .base (.lst hx), fun t b e => kit_some (.inr (.inr (.inr (.inr (.inr (.inl rfl)))))) e ?_⟩
      cases t <;> (simp only [isTy, hc]; rfl)
    | dict _ => exact q.elim
    | ins _ _ => exact q.elim
theorem isTys_kit {K : PySem.W.Frag} {μ : Sto} {v : Val} {a : String} (h : ∀ t b, isTy μ v t = some b → kitB a (tyN t) = some b) : ∀ (ts : List Ty) (b : Bool), isTys μ v ts = some b →
    PySem.W.kitAny K (.type a) (ts.map fun t => Value.type (tyN t)) = some b
  | [], b, e => by cases (show some false = some b from e); exact kitAny_nil
  | t :: ts, b, e => by
    cases q : isTy μ v t with
    | none =>
      have e' : (match isTy μ v t with | some true => some true | some false => isTys μ v ts | none => none) = some b := e
      rw [q] at e'; cases e'
    | some c =>
      have e' : (match isTy μ v t with | some true => some true | some false => isTys μ v ts | none => none) = some b := e
      rw [q] at e'
      refine kitAny_cons (kit_ty (h t c q)) (fun hc => ?_) fun hc => ?_
      · subst hc; exact isTys_kit h ts b e'
      · subst hc; exact (Option.some.inj e').symm
/-- isinstance(x, T), (T1, T2) -/
def rI1 (K : PySem.W.Frag) (es : List EC) (t : Ty) : List V → Hp → VK → Prop := fun xs H Q => ∃ x, xs = [x, .ty (tyN t)] ∧ r1 K es (sem1 (.isi [t])) x H Q
theorem c_isi (t : Ty) : CallR X (.builtin "isinstance") (rI1 X.K es t) := by
  refine CallR.weak call_isi fun xs H Q ⟨x, e, f, μ, v, W, σ, S, rv, h⟩ => ?_
  obtain ⟨a, ty, k⟩ := isTy_get S rv
  have h1 : Post X.K es W σ f H (match isTys μ v [t] with
    | some b => .ok (.bl b) μ
    | none => .fail) Q := h
  cases q : isTy μ v t with
  | none =>
    have : isTys μ v [t] = none := by unfold isTys; rw [q]
    rw [this] at h1; exact h1.elim
  | some b =>
    have : isTys μ v [t] = some b := by unfold isTys; rw [q]; cases b <;> rfl
    rw [this] at h1
    exact ⟨x, .ty (tyN t), .type a, .type (tyN t), b, e, .ty _, ty, kit_ty (k t b q), h1.done S rfl⟩
def rI2 (K : PySem.W.Frag) (es : List EC) (ts : List Ty) : List V → Hp → VK → Prop := fun xs H Q => ∃ x tp, xs = [x, .ref tp] ∧ H tp = some (.tup (ts.map fun t => V.ty (tyN t))) ∧ r1 K es (sem1 (.isi ts)) x H Q
theorem clsVs : ∀ ts : List Ty, Paired ClsV (ts.map fun t => V.ty (tyN t)) (ts.map fun t => Value.type (tyN t))
  | [] => .nil
  | t :: ts => .cons (.ty _) (clsVs ts)
theorem c_isiT (ts : List Ty) : CallR X (.builtin "isinstance") (rI2 X.K es ts) := by
  refine CallR.weak call_isiT fun xs H Q ⟨x, tp, e, ht, f, μ, v, W, σ, S, rv, h⟩ => ?_
  obtain ⟨a, ty, k⟩ := isTy_get S rv
  have h1 : Post X.K es W σ f H (match isTys μ v ts with
    | some b => .ok (.bl b) μ
    | none => .fail) Q := h
  cases q : isTys μ v ts with
  | none => rw [q] at h1; exact h1.elim
  | some b =>
    rw [q] at h1
    exact ⟨x, tp, _, .type a, _, b, e, ht, clsVs ts, ty, isTys_kit k ts b q, h1.done S rfl⟩

/-! ### methods of lists, sums -/
def m1 (K : PySem.W.Frag) (es : List EC) (s : Val → Val → Sto → Out Val) : V → List V → Hp → VK → Prop := fun x xs H Q => ∃ y, xs = [y] ∧ r2 K es s x y H Q
def m0 (K : PySem.W.Frag) (es : List EC) (s : Val → Sto → Out Val) : V → List V → Hp → VK → Prop := fun x xs H Q => xs = [] ∧ r1 K es s x H Q
theorem lst_get {K : PySem.W.Frag} {W : WX} {σ : St} {f : List Addr} {H : Hp} {μ : Sto} {Q : VK} {v : Val} {k : Nat → List Val → Out Val} (h : Post K es W σ f H (match v with
    | .ref n => match μ[n]? with
      | some (.lst xs) => k n xs
      | _ => .fail
    | _ => .fail) Q) : ∃ n xs, v = .ref n ∧ μ[n]? = some (.lst xs) ∧ Post K es W σ f H (k n xs) Q := by
  split at h
  · rename_i n
    split at h
    · rename_i xs e
      exact ⟨n, xs, rfl, e, h⟩
    · exact h.elim
  · exact h.elim
theorem c1_sum (hc : X.calm = true) : CallR X (.builtin "sum") (c1 X.K es (sem1 .sum)) := by
  refine CallR.weak (cr_sum hc) fun xs H Q ⟨x, e, f, μ, v, W, σ, S, rv, h⟩ => ?_
  obtain ⟨n, vs, rfl, e2, h1⟩ := lst_get (k := fun n vs => match Mi.asInts vs with
        | some ns => .ok (.int ns.sum) μ
        | none => .fail) h
  obtain ⟨a, us, rfl, ha, hq, t⟩ := S.lst rv e2
  cases e3 : Mi.asInts vs with
  | none => rw [e3] at h1; exact h1.elim
  | some ns =>
    rw [e3] at h1
    have e4 := t.ints_of e3
    subst e4
    exact ⟨a, ns, e, SqL.of hq, h1.done S rfl⟩
theorem Post.setL {K : PySem.W.Frag} {W : WX} {σ : St} {f : List Addr} {H : Hp} {μ : Sto} {Q : VK} {n : Nat} {a : Addr} {v : Val} {x : V} {vs : List Val} {xs ys : List V} (h : Post K es W σ f H (.ok v (μ.set n (.lst vs))) Q) (S : SR K f μ H) (ha : f[n]? = some a)
    (hp : H a = some (.lst ys)) (t : VRs K f H vs xs) (r : VR K f H v x) : Q x (upd H a (.lst xs)) :=
  h f _ _ (Le.setL (List.mem_of_getElem? ha) hp) (S.setL (us := []) ha hp t) (VR.mono (Le.setL (List.mem_of_getElem? ha) hp) v x r)
theorem m_append : MtR X "list.append" (m1 X.K es (sem2 .append)) := by
  refine MtR.weak mt_append fun x xs H Q ⟨y, e, f, μ, v, w, W, σ, S, rv, rw', h⟩ => ?_
  obtain ⟨n, vs, rfl, e2, h1⟩ := lst_get (k := fun n xs => if xs.length < LIM then .ok .non (μ.set n (.lst (xs ++ [w]))) else .fail) h
  obtain ⟨hc, h2⟩ := Post.ite_ok h1
  obtain ⟨a, us, rfl, ha, hq, t⟩ := S.lst rv e2
  exact ⟨a, us, y, rfl, e, hq, by rw [t.length, sizeLine_eq]; exact hc, h2.setL S ha hq (t.append ⟨y, [], rfl, rw', rfl⟩) rfl⟩
theorem dats_map : ∀ vs : List Val, dats vs = vs.map dat
  | [] => rfl
  | v :: vs => by rw [dats, dats_map vs]; rfl
theorem plains_get {n : Nat} : ∀ {vs : List Val} {i : Nat} {v : Val}, plains n vs = true → vs[i]? = some v → v.plain n = true
  | w :: vs, 0, v, h, e => by
    rw [plains, Bool.and_eq_true] at h
    cases (show some w = some v from e)
    exact h.1
  | w :: vs, i + 1, v, h, e => by
    rw [plains, Bool.and_eq_true] at h
    exact plains_get h.2 (show vs[i]? = some v from e)
  | [], _, _, _, e => by simp at e
theorem m_index (hu : X.A.units + 65 < cLine) : MtR X "list.index" (m1 X.K es (sem2 .index)) := by
  refine MtR.weak (mt_indexD hu) fun x xs H Q ⟨y, e, f, μ, v, w, W, σ, S, rv, rw', h⟩ => ?_
  obtain ⟨n, vs, rfl, e2, h1⟩ := lst_get (k := fun n xs => if plains 60 xs ∧ w.plain 60 ∧ xs.length ≤ LIM then (match xs.findIdx? (fun y => eqv y w) with
        | some j => .ok (.int (j : Nat)) μ
        | none => .fail) else .fail) h
  obtain ⟨⟨c1, c2, c3⟩, h2⟩ := Post.ite h1
  obtain ⟨a, us, rfl, ha, hq, t⟩ := S.lst rv e2
  cases hf : vs.findIdx? (fun y => eqv y w) with
  | none => rw [hf] at h2; exact h2.elim
  | some j =>
    rw [hf] at h2
    obtain ⟨hj, q1, q2⟩ := List.findIdx?_eq_some_iff_getElem.mp hf
    have hm : ∀ (m : Nat) (hm : m < vs.length), (dats vs)[m]? = some (dat vs[m]) := fun m hm => by rw [dats_map, List.getElem?_map, List.getElem?_eq_getElem hm]; rfl
    have pl : ∀ (m : Nat) (hm : m < vs.length), (vs[m]).plain 60 = true := fun m hm => plains_get c1 (List.getElem?_eq_getElem hm)
    have dl : Dp X.K H (V.ref a) (.list (dats vs)) := .lst (SqL.of hq) (dats_dp 60 vs us c1 t)
    refine ⟨a, y, dat w, dats vs, j, dat vs[j], rfl, e, dl, dat_dp 60 w y c2 rw', ?_, shaped_of c2, hm j hj, ?_, fun m z' hmj hz => ?_, h2.done S rfl⟩
    · obtain ⟨a1, a2⟩ := dats_lay 60 vs c1
      unfold SeqAt.shaped
      simp only [PyData.canLay0, PyData.depth, a1, Bool.true_and]
      exact decide_eq_true (by omega)
    · rw [eqv_dat 60 60 _ _ (pl j hj) c2]; exact q1
    · have hml : m < vs.length := by omega
      rw [hm m hml] at hz
      cases hz
      rw [eqv_dat 60 60 _ _ (pl m hml) c2]
      simpa using q2 m hmj
theorem m_extend : MtR X "list.extend" (m1 X.K es (sem2 .extend)) := by
  refine MtR.weak mt_extend fun x xs H Q ⟨y, e, f, μ, v, w, W, σ, S, rv, rw', h⟩ => ?_
  cases v with
  | ref n =>
    cases w with
    | ref m =>
      have h' : Post X.K es W σ f H (match μ[n]?, μ[m]? with
        | some (.lst xs), some (.lst ys) => if xs.length + ys.length ≤ LIM then .ok .non (μ.set n (.lst (xs ++ ys))) else .fail
        | _, _ => .fail) Q := h
      split at h'
      · rename_i us ws e1 e2
        obtain ⟨hc, h⟩ := Post.ite_ok h'
        obtain ⟨a, xs', rfl, ha, hq, tx⟩ := S.lst rv e1
        obtain ⟨b, ys, rfl, hb, hq2, ty⟩ := S.lst rw' e2
        exact ⟨a, b, xs', ys, rfl, e, hq, hq2, by rw [tx.length, ty.length, sizeLine_eq]; exact hc, h.setL S ha hq (tx.append ty) rfl⟩
      · exact h'.elim
    | _ => exact h.elim
  | _ => exact h.elim
theorem m_pop : MtR X "list.pop" (m0 X.K es (sem1 .pop)) := by
  refine MtR.weak mt_pop fun x xs H Q ⟨e, f, μ, v, W, σ, S, rv, h⟩ => ?_
  obtain ⟨n, vs, rfl, e2, h1⟩ := lst_get (k := fun n vs => match vs.getLast? with
        | some v => .ok v (μ.set n (.lst vs.dropLast))
        | none => .fail) h
  obtain ⟨a, us, rfl, ha, hq, t⟩ := S.lst rv e2
  cases e3 : vs.getLast? with
  | none => rw [e3] at h1; exact h1.elim
  | some v =>
    rw [e3] at h1
    rw [List.getLast?_eq_getElem?] at e3
    obtain ⟨z, h3, h4⟩ := t.get e3
    exact ⟨a, us, z, rfl, e, hq, by rw [t.length]; exact h3, h1.setL S ha hq t.dropLast h4⟩
theorem m_popAt : MtR X "list.pop" (m1 X.K es (sem2 .popAt)) := by
  refine MtR.weak mt_popAt fun x xs H Q ⟨y, e, f, μ, v, w, W, σ, S, rv, rw', h⟩ => ?_
  cases v with
  | ref n =>
    cases w with
    | int i =>
      have h' : Post X.K es W σ f H (match μ[n]? with
        | some (.lst xs) => if 0 ≤ i ∧ i < xs.length ∧ xs.length ≤ LIM then match xs[i.toNat]? with
          | some v => .ok v (μ.set n (.lst (xs.eraseIdx i.toNat)))
          | none => .fail
          else .fail
        | _ => .fail) Q := h
      split at h'
      · rename_i vs e2
        obtain ⟨⟨h1, h2, hz⟩, h3⟩ := Post.ite h'
        obtain ⟨a, us, rfl, ha, hq, t⟩ := S.lst rv e2
        cases e3 : vs[i.toNat]? with
        | none => rw [e3] at h3; exact h3.elim
        | some v =>
          rw [e3] at h3
          obtain ⟨z, h4, h5⟩ := t.get e3
          refine ⟨a, us, i, i.toNat, z, rfl, by rw [e, show y = _ from rw'], hq, by omega, ?_, ?_, h4, h3.setL S ha hq (t.eraseIdx _) h5⟩
          · have : LIM = 16777216 := rfl
            omega
          · rw [t.length]; exact seqIndex_of h1 h2
      · exact h'.elim
    | _ => exact h.elim
  | _ => exact h.elim
end
end Mi
end

section
set_option Elab.async false
set_option linter.all false
set_option maxRecDepth 100000
set_option autoImplicit false
set_option maxHeartbeats 1000000
/-! Sound4: which term of Mini an expression of the text is; what is walked. -/
namespace Mi
open PySem PySem.Spec L2
open PyProof.Rows hiding St

/-! ### shapes -/
/-- what is known of a body's names: their places; how the scope tells them; which have a cell of their own -/
structure SS where
  N : List Str
  sc : Scope
  fn : Str → Bool
/-- what is known of the module -/
structure Gam where
  fns : List (Nat × Str × Nat)
  exn : List (Nat × Str × List Str)
  cat : List (Str × List Nat)
  kws : List (Nat × List Str × List Nat)
  cs : List (Str × Val)
  abs : List Str

def visB (sc : Scope) (x : Str) : Bool := match sc.names.lookup x with
  | some .local => true | some .cell => true | some .free => true | _ => false
def locB (sc : Scope) (x : Str) : Bool := match sc.names.lookup x with
  | some .local => true | some .cell => true | _ => false
def glB (sc : Scope) (x : Str) : Bool := match sc.names.lookup x with
  | some .globalImplicit => true | _ => false
theorem visB_ok {sc : Scope} {x : Str} (h : visB sc x = true) : Vis sc x := by
  unfold visB at h
  split at h <;> first | exact .inl (by assumption) | exact .inr (.inl (by assumption)) | exact .inr (.inr (by assumption)) | cases h
theorem locB_ok {sc : Scope} {x : Str} (h : locB sc x = true) : L2.Loc sc x := by
  unfold locB at h
  split at h <;> first | exact .inl (by assumption) | exact .inr (by assumption) | cases h
theorem glB_ok {sc : Scope} {x : Str} (h : glB sc x = true) : sc.names.lookup x = some .globalImplicit := by
  unfold glB at h
  split at h <;> first | assumption | cases h
def plainName (x : Str) : Bool := !(x == ("__debug__" : Str)) && !(x == ("__classdict__" : Str)) && !(x == ("__name__" : Str))
theorem plainName_ok {x : Str} (h : plainName x = true) : (x == ("__debug__" : Str)) = false ∧ (x == ("__classdict__" : Str)) = false ∧ x ≠ "__name__" := by
  unfold plainName at h
  simp only [Bool.and_eq_true, Bool.not_eq_true'] at h
  obtain ⟨⟨h1, h2⟩, h3⟩ := h
  exact ⟨h1, h2, fun z => by rw [z] at h3; simp at h3⟩
/-- a plain argument -/
def plainArg : Expr → Bool
  | .Starred _ _ => false
  | .Slice _ _ _ _ => false
  | _ => true
theorem star_cons {e : Expr} (h : plainArg e = true) (rest : List Expr) (env : Env) : starEach (e :: rest) env = (false, eval e env) :: starEach rest env := by
  cases e <;> first | rfl | cases h
theorem star_any {pos : Pos} {env : Env} : ∀ {l : List Expr}, l.all plainArg = true → (backTo pos (starEach l env)).any (·.1) = false
  | [], _ => rfl
  | e :: l, h => by
    rw [List.all_cons, Bool.and_eq_true] at h
    rw [star_cons h.1]
    show (false || (backTo pos (starEach l env)).any (·.1)) = false
    rw [Bool.false_or]
    exact star_any h.2
theorem plain_ix {e : Expr} (h : plainArg e = true) : PlainIx e := by
  intro o i
  cases e <;> first | rfl | cases h
/-- not an attribute's base of its own kind -/
def baseOk : Expr → Bool
  | .Call _ _ _ _ => false
  | _ => true
theorem base_ok {o : Expr} {m : Str} {env : Env} (h : baseOk o = true) : attributeBase o m env (eval o env) = eval o env := by
  cases o <;> first | rfl | cases h
/-- no comprehension itself -/
def noComp : Expr → Bool
  | .ListComp _ _ _ _ => false
  | .SetComp _ _ _ _ => false
  | .DictComp _ _ _ _ _ => false
  | _ => true
theorem swaps_no {e : Expr} {t : Option Expr} {l : Nat} {env : Env} (h : noComp e = true) : swapsWith e t l env = pure false := by
  cases e <;> first | rfl | cases h
def noSet : Expr → Bool
  | .Set _ _ _ => false
  | _ => true
theorem folded_no {e : Expr} {env : Env} (h : noSet e = true) (x : Value) : foldedSetIterable e env x = pure x := by
  cases e <;> first | rfl | cases h
theorem marks_no {op : CmpOp} {e : Expr} (h : noSet e = true) : behindInMarks op e = false := by
  cases e <;> first | rfl | cases h
/-- a test that is asked by its value -/
def byVal : Expr → Bool
  | .UnaryOp .Not _ _ => false
  | .BoolOp _ _ _ => false
  | .IfExp _ _ _ _ => false
  | .Compare _ _ _ _ => false
  | _ => true
theorem byVal_ok {e : Expr} {env : Env} (h : byVal e = true) (whole : Sem Value) : isTrue e env whole = (do let v ← whole; standAt e.pos; holding [v] (truthy v)) := by
  cases e with
  | UnaryOp op x p => cases op <;> first | rfl | cases h
  | _ => first | rfl | cases h

def asName : Expr → Option Str
  | .Name x _ => some x
  | _ => none
theorem asName_ok {e : Expr} {x : Str} (h : asName e = some x) : ∃ p, e = .Name x p := by
  cases e <;> first | (cases h; done) | (cases h; exact ⟨_, rfl⟩)
def asCall : Expr → Option (Str × List Expr)
  | .Call (.Name f _) es [] _ => some (f, es)
  | _ => none
theorem asCall_ok {e : Expr} {f : Str} {es : List Expr} (h : asCall e = some (f, es)) : ∃ p q, e = .Call (.Name f p) es [] q := by
  unfold asCall at h
  split at h
  · cases h; exact ⟨_, _, rfl⟩
  · cases h
/-- f(k = v, ..) -/
def asCallK : Expr → Option (Str × List Keyword)
  | .Call (.Name f _) [] kws _ => some (f, kws)
  | _ => none
theorem asCallK_ok {e : Expr} {f : Str} {kws : List Keyword} (h : asCallK e = some (f, kws)) : ∃ p q, e = .Call (.Name f p) [] kws q := by
  unfold asCallK at h
  split at h
  · cases h; exact ⟨_, _, rfl⟩
  · cases h
def ksOf (kws : List Keyword) : List Str := kws.filterMap (·.arg)
/-- o.m(..), on one line -/
def asMeth : Expr → Option (Expr × Str × List Expr)
  | .Call (.Attribute o m p) es [] q => if (p.endLine == q.line) = true then some (o, m, es) else none
  | _ => none
theorem asMeth_ok {e o : Expr} {m : Str} {es : List Expr} (h : asMeth e = some (o, m, es)) : ∃ p q, e = .Call (.Attribute o m p) es [] q ∧ (p.endLine == q.line) = true := by
  unfold asMeth at h
  split at h
  · split at h
    · cases h; exact ⟨_, _, rfl, by assumption⟩
    · cases h
  · cases h
def asBin : Expr → Option (Expr × Operator × Expr)
  | .BinOp a o b _ => some (a, o, b)
  | _ => none
theorem asBin_ok {e a b : Expr} {o : Operator} (h : asBin e = some (a, o, b)) : ∃ p, e = .BinOp a o b p := by
  cases e <;> first | (cases h; done) | (cases h; exact ⟨_, rfl⟩)
def asCmp : Expr → Option (Expr × CmpOp × Expr)
  | .Compare a [o] [b] _ => some (a, o, b)
  | _ => none
theorem asCmp_ok {e a b : Expr} {o : CmpOp} (h : asCmp e = some (a, o, b)) : ∃ p, e = .Compare a [o] [b] p := by
  unfold asCmp at h
  split at h
  · cases h; exact ⟨_, rfl⟩
  · cases h
def asCmp2 : Expr → Option (Expr × CmpOp × CmpOp × Expr × Expr)
  | .Compare a [o, o'] [b, c] _ => some (a, o, o', b, c)
  | _ => none
theorem asCmp2_ok {e a b c : Expr} {o o' : CmpOp} (h : asCmp2 e = some (a, o, o', b, c)) : ∃ p, e = .Compare a [o, o'] [b, c] p := by
  unfold asCmp2 at h
  split at h
  · cases h; exact ⟨_, rfl⟩
  · cases h
def asUn : Expr → Option (UnaryOp × Expr)
  | .UnaryOp o a _ => some (o, a)
  | _ => none
theorem asUn_ok {e a : Expr} {o : UnaryOp} (h : asUn e = some (o, a)) : ∃ p, e = .UnaryOp o a p := by
  cases e <;> first | (cases h; done) | (cases h; exact ⟨_, rfl⟩)
def asBool : Expr → Option (BoolOp × List Expr × Pos)
  | .BoolOp o l p => some (o, l, p)
  | _ => none
theorem asBool_ok {e : Expr} {o : BoolOp} {l : List Expr} {p : Pos} (h : asBool e = some (o, l, p)) : e = .BoolOp o l p := by
  cases e <;> first | (cases h; done) | (cases h; rfl)
def asIf : Expr → Option (Expr × Expr × Expr)
  | .IfExp c a b _ => some (c, a, b)
  | _ => none
theorem asIf_ok {e c a b : Expr} (h : asIf e = some (c, a, b)) : ∃ p, e = .IfExp c a b p := by
  cases e <;> first | (cases h; done) | (cases h; exact ⟨_, rfl⟩)
def asSub : Expr → Option (Expr × Expr)
  | .Subscript a b _ => some (a, b)
  | _ => none
theorem asSub_ok {e a b : Expr} (h : asSub e = some (a, b)) : ∃ p, e = .Subscript a b p := by
  cases e <;> first | (cases h; done) | (cases h; exact ⟨_, rfl⟩)
def asSl : Expr → Option (Expr × Option Expr × Option Expr)
  | .Subscript a (.Slice lo hi none _) _ => some (a, lo, hi)
  | _ => none
theorem asSl_ok {e a : Expr} {lo hi : Option Expr} (h : asSl e = some (a, lo, hi)) : ∃ p q, e = .Subscript a (.Slice lo hi none p) q := by
  unfold asSl at h
  split at h
  · cases h; exact ⟨_, _, rfl⟩
  · cases h
def asTup : Expr → Option (List Expr)
  | .Tuple es _ _ => some es
  | _ => none
theorem asTup_ok {e : Expr} {es : List Expr} (h : asTup e = some es) : ∃ k p, e = .Tuple es k p := by
  cases e <;> first | (cases h; done) | (cases h; exact ⟨_, _, rfl⟩)
def asLst : Expr → Option (List Expr)
  | .List es _ => some es
  | _ => none
theorem asLst_ok {e : Expr} {es : List Expr} (h : asLst e = some es) : ∃ p, e = .List es p := by
  cases e <;> first | (cases h; done) | (cases h; exact ⟨_, rfl⟩)
def isNone : Expr → Bool
  | .Constant .none _ _ => true
  | _ => false
theorem isNone_ok {e : Expr} (h : isNone e = true) : ∃ j p, e = .Constant .none j p := by
  unfold isNone at h
  split at h
  · exact ⟨_, _, rfl⟩
  · cases h
def asConst : Expr → Option Val
  | .Constant .none _ _ => some .non
  | .Constant (.bool b) _ _ => some (.bl b)
  | .Constant (.int i) _ _ => some (.int i)
  | .Constant (.str s) _ _ => some (.str s.cps.toList)
  | _ => none
/-- a comprehension of one clause -/
def asComp : Expr → Option (Expr × Expr × Expr × List Expr × Scope)
  | .ListComp elt [⟨tg, iter, ifs, 0⟩] sc _ => some (elt, tg, iter, ifs, sc)
  | _ => none
theorem asComp_ok {e elt tg iter : Expr} {ifs : List Expr} {sc : Scope} (h : asComp e = some (elt, tg, iter, ifs, sc)) : ∃ p, e = .ListComp elt [⟨tg, iter, ifs, 0⟩] sc p := by
  unfold asComp at h
  split at h
  · cases h; exact ⟨_, rfl⟩
  · cases h

/-! ### the contexts -/
/-- keywords' values in the parameters' order -/
def gK {α : Type} (m : Nat) (perm : List Nat) (us ws : List α) : List α := if us.length = 0 ∧ ws.length = m then pick perm ws else []
/-- what a def of the text promises: what F comes to -/
def spM (K : PySem.W.Frag) (es : List EC) (n : Nat) (F : List Val → Sto → Out Val) : Sp := fun vs H Q E => ∃ f μ args, SR K f μ H ∧ VRs K f H args vs ∧ args.length = n ∧ Post K es (fun cls d _ H' => E cls d H') [] f H (F args μ) Q
structure XOk (Γ : Gam) (es : List EC) (C : CallF) (lv : Nat) (S : SS) (X : Cx) : Prop where
  hN : X.N = S.N
  nd : S.N.Nodup
  hsc : X.env.scope = S.sc
  hfn : X.fn = S.fn
  calm : X.calm = true
  room : Room lv X.A
  po : PassesOwn (model X.prog X.w) X.A X.env X.xe
  abs : ∀ x, x ∈ Γ.abs → X.mg x = none
  cs : ∀ x v, Γ.cs.lookup x = some v → ∃ u y, X.mg x = some u ∧ RelV y u ∧ ∀ f H, VR X.K f H v y
  fns : ∀ (k : Nat) (x : Str) (n : Nat), Γ.fns.lookup k = some (x, n) → ∃ f fd ps, X.mg x = some (.ref f) ∧ PySem.W.keepIn X.K (.ref f) = true ∧ Binds X.K fd ps [] ∧ FnOk X.prog X.w X.K X.mg X.base (L2.CX X.prog X.w) lv f fd ps (spM X.K es n (C k)) ∧ ∀ ks perm, (k, ks, perm) ∈ Γ.kws → KBinds X.K fd ps ks (gK ks.length perm) (gK ks.length perm)
  arity : ∀ (k : Nat) (x : Str) (n : Nat), Γ.fns.lookup k = some (x, n) → ∀ vs μ, vs.length ≠ n → C k vs μ = .fail
theorem XOk.gl {Γ : Gam} {es : List EC} {C : CallF} {lv : Nat} {S : SS} {X : Cx} (h : XOk Γ es C lv S X) {x : Str} (q : glB S.sc x = true) : Gl X x := by
  show X.env.scope.names.lookup x = _
  rw [h.hsc]; exact glB_ok q
theorem XOk.units {Γ : Gam} {es : List EC} {C : CallF} {lv : Nat} {S : SS} {X : Cx} (h : XOk Γ es C lv S X) : X.A.units + 64 < cLine := h.room.units

/-! ### tests -/
def tTM (K : PySem.W.Frag) (es : List EC) (W : WX) (m : Loc → Sto → Out Val) : TT := fun σ H Q => ∃ f ρ μ, SR K f μ H ∧ LR K f H ρ σ ∧ (match m ρ μ with
  | .ok (.bl b) μ' => ∀ f' H', Le f H f' H' → SR K f' μ' H' → Q b H'
  | .exc c fs μ' => ∀ f' H' cls d, Le f H f' H' → SR K f' μ' H' → XR K es f' H' c fs cls d → W cls d σ H'
  | _ => False)
section
variable {K : PySem.W.Frag} {es : List EC} {W : WX} {σ : St} {f : List Addr} {H : Hp} {μ : Sto} {ρ : Loc}
/-- what a test wants, of what m comes to -/
def PostT (K : PySem.W.Frag) (es : List EC) (W : WX) (σ : St) (f : List Addr) (H : Hp) (o : Out Val) (Q : Bool → Hp → Prop) : Prop := Post K es W σ f H o fun x H' => ∃ b, x = .bl b ∧ Q b H'
theorem tTM_of {m : Loc → Sto → Out Val} {Q : Bool → Hp → Prop} (S : SR K f μ H) (L : LR K f H ρ σ) (h : match m ρ μ with
  | .ok (.bl b) μ' => ∀ f' H', Le f H f' H' → SR K f' μ' H' → Q b H'
  | .exc c fs μ' => ∀ f' H' cls d, Le f H f' H' → SR K f' μ' H' → XR K es f' H' c fs cls d → W cls d σ H'
  | _ => False) : tTM K es W m σ H Q := ⟨f, ρ, μ, S, L, h⟩
/-- a test by its value -/
theorem tTM_val {m : Loc → Sto → Out Val} {Q : Bool → Hp → Prop} (h : tTM K es W m σ H Q) : tB (tM K es W m) σ H Q := by
  obtain ⟨f, ρ, μ, S, L, h⟩ := h
  refine ⟨f, ρ, μ, S, L, ?_⟩
  cases e : m ρ μ with
  | ok v μ1 =>
    rw [e] at h
    cases v with
    | bl b => exact fun f' H' x l S' r => ⟨b, r, h f' H' l S'⟩
    | _ => exact h.elim
  | exc c fs μ1 => rw [e] at h; exact h
  | fail => rw [e] at h; exact h
/-- a test first, then what hangs on it -/
theorem bindT' {ma : Loc → Sto → Out Val} {k : Val → Sto → Out Val} {Q : VK} {Q1 : Bool → Hp → Prop} (S : SR K f μ H) (L : LR K f H ρ σ) (h : Post K es W σ f H ((ma ρ μ).bind k) Q) (hf : ∀ v μ1, (∀ b, v ≠ .bl b) → k v μ1 = .fail)
    (hk : ∀ b μ1 f1 H1, Le f H f1 H1 → SR K f1 μ1 H1 → LR K f1 H1 ρ σ → Post K es W σ f1 H1 (k (.bl b) μ1) Q → Q1 b H1) : tTM K es W ma σ H Q1 := by
  refine ⟨f, ρ, μ, S, L, ?_⟩
  cases e : ma ρ μ with
  | ok v μ1 =>
    rw [e] at h
    cases v with
    | bl b => exact fun f' H' l S' => hk b μ1 f' H' l S' (L.mono l) (Post.mono l h)
    | _ => rw [Out.bind_ok, hf _ _ (by intro b z; cases z)] at h; exact h
  | exc c fs μ1 => rw [e] at h; exact h
  | fail => rw [e] at h; exact h
end

/-! ### what is walked -/
/-- the iterator J walks xs, the items of src -/
structure ItOk (K : PySem.W.Frag) (J : It) (src : Val) (xs : List Val) (f1 : List Addr) (H1 : Hp) : Prop where
  go : ∀ i f μ H, Le f1 H1 f H → SR K f μ H → guard src xs μ = true → i < xs.length → J.go i H
  yl : ∀ i f μ H x H', Le f1 H1 f H → SR K f μ H → guard src xs μ = true → i < xs.length → J.yld i H x H' → ∃ v, xs[i]? = some v ∧ VR K f H' v x ∧ SR K f μ H' ∧ Le f H f H'
  st : ∀ i f μ H, Le f1 H1 f H → SR K f μ H → guard src xs μ = true → xs.length ≤ i → J.stop i H
def iM (K : PySem.W.Frag) (es : List EC) (W : WX) (m : Loc → Sto → Out Val) : TI := fun σ H R => ∃ f ρ μ, SR K f μ H ∧ LR K f H ρ σ ∧ (match m ρ μ with
  | .ok src μ' => ∃ xs, items μ' src = some xs ∧ ∀ f' H' J, Le f H f' H' → SR K f' μ' H' → ItOk K J src xs f' H' → R J H'
  | .exc c fs μ' => ∀ f' H' cls d, Le f H f' H' → SR K f' μ' H' → XR K es f' H' c fs cls d → W cls d σ H'
  | .fail => False)
theorem PI.weak {X : Cx} {tg e : Expr} {t t' : TI} (h : PI X tg e t) (k : ∀ σ H R, t' σ H R → t σ H R) : PI X tg e t' := ⟨fun pins s σ H R I q => h.run pins s σ H R I (k σ H R q)⟩
section
variable {X : Cx} {es : List EC} {tg : Expr}
/-- a list, a tuple or a text -/
def iAny (K : PySem.W.Frag) (tl : TE) : TI := fun σ H R => tl σ H fun x H1 => (∃ a, x = .ref a ∧ (∃ xs, SqL K H1 a xs) ∧ R (Itl K a) H1) ∨ (∃ a, x = .ref a ∧ (∃ xs, SqT K H1 a xs) ∧ R (Itt K a) H1) ∨ (∃ z, x = .str z ∧ R (Its z) H1)
theorem pi_str_at {pins : List (Addr × Obj)} {s1 : Shared} {σ : L2.St} {H1 : Hp} {R : It → Hp → Prop} {v : Value} {x : Str} (I1 : Inv X pins σ H1 s1) (r : RelV (.str x) v) (q : R (Its x) H1) :
    wpAny (model X.prog X.w) X.A (pyIter v) (PIE X pins σ tg R) X.xe s1 := by
  obtain ⟨t, rfl⟩ := r
  by_cases ha : x.cps.all (· < 128) = true
  · exact wpAny_pyIter_ascii ha (pi_one (tk := s1.toks) I1 _ (turn_str _ x t _ (.inl rfl)) ⟨_, Heap.get?_push_size _ rfl, rfl, rfl⟩ q)
  · exact wpAny_pyIter_wide (by simpa using ha) (pi_one (tk := s1.toks) I1 _ (turn_str _ x t _ (.inr rfl)) ⟨_, Heap.get?_push_size _ rfl, rfl, rfl⟩ q)
theorem pi_any {l : Expr} {tl : TE} (hl : PE X l tl) : PI X tg l (iAny X.K tl) := by
  refine ⟨fun pins s σ H R I h => ?_⟩
  refine thn (hl.run pins s σ H _ I h) fun v s1 ⟨x, H1, I1, r1, q1⟩ => ?_
  rcases q1 with ⟨a, rfl, ⟨xs, hq⟩, q⟩ | ⟨a, rfl, ⟨xs, hq⟩, q⟩ | ⟨x, ex, q⟩
  · obtain ⟨its, _, p, _⟩ := I1.list hq
    obtain rfl : v = Value.ref a := r1
    exact wpAny_pyIter_list p.isList (pi_one (tk := s1.toks) I1 _ (turn_list a _) ⟨_, Heap.get?_push_size _ rfl, rfl, rfl⟩ q)
  · obtain ⟨its, _, p, _⟩ := I1.tuple hq
    obtain rfl : v = Value.ref a := r1
    exact wpAny_pyIter_tuple p (pi_one (tk := s1.toks) I1 _ (turn_tuple a _) ⟨_, Heap.get?_push_size _ rfl, rfl, rfl⟩ q)
  · exact thn ((pi_str_at I1 (v := v) (x := x) (by rw [← ex]; exact r1) q)) fun _ _ z => z
end
theorem guard_ref {n : Nat} {xs : List Val} {μ : Sto} (h : guard (.ref n) xs μ = true) : μ[n]? = some (.lst xs) := of_decide_eq_true h
section
variable {K : PySem.W.Frag} {f1 : List Addr} {H1 : Hp} {μ1 : Sto}
theorem itOk_ref {n : Nat} {vs : List Val} {a : Addr} (ha : f1[n]? = some a) : ItOk K (Itl K a) (.ref n) vs f1 H1 := by
  have at' : ∀ f μ H, Le f1 H1 f H → SR K f μ H → guard (.ref n) vs μ = true → ∃ xs, H a = some (.lst xs) ∧ VRs K f H vs xs := fun f μ H l S g => S.cell n _ a (guard_ref g) (l.get ha)
  refine ⟨fun i f μ H l S g hi => ?_, fun i f μ H x H' l S g hi y => ?_, fun i f μ H l S g hi => ?_⟩
  · obtain ⟨xs, q, t⟩ := at' f μ H l S g
    obtain ⟨x, e, _⟩ := t.get (List.getElem?_eq_getElem hi)
    exact ⟨xs, x, SqL.of q, e⟩
  · obtain ⟨xs, q, t⟩ := at' f μ H l S g
    obtain ⟨rfl, y⟩ := y
    obtain ⟨v, e, r⟩ := t.get' (y xs (SqL.of q))
    exact ⟨v, e, r, S, Le.refl _ _⟩
  · obtain ⟨xs, q, t⟩ := at' f μ H l S g
    exact ⟨xs, SqL.of q, by rw [t.length]; exact hi⟩
theorem itOk_scr {ns : List Int} {a : Addr} (h : Fz K H1 a (ns.map V.int)) : ItOk K (Itl K a) (.scr ns) (ns.map .int) f1 H1 := by
  refine ⟨fun i f μ H l S g hi => ?_, fun i f μ H x H' l S g hi y => ?_, fun i f μ H l S g hi => ?_⟩
  · exact ⟨_, .int (ns[i]'(by simpa using hi)), (l.kp.fz h).seq, by simp⟩
  · obtain ⟨rfl, y⟩ := y
    obtain ⟨v, e, r⟩ := (VRs.ints (K := K) (f := f) (H := H') ns).get' (y _ (l.kp.fz h).seq)
    exact ⟨v, e, r, S, Le.refl _ _⟩
  · exact ⟨_, (l.kp.fz h).seq, by simpa using hi⟩
theorem itOk_tup {vs : List Val} {a : Addr} {xs : List V} (h : SqT K H1 a xs) (t : VRs K f1 H1 vs xs) : ItOk K (Itt K a) (.tup vs) vs f1 H1 := by
  refine ⟨fun i f μ H l S g hi => ?_, fun i f μ H x H' l S g hi y => ?_, fun i f μ H l S g hi => ?_⟩
  · obtain ⟨x, e, _⟩ := t.get (List.getElem?_eq_getElem hi)
    exact ⟨xs, x, l.kp.sqT h, e⟩
  · obtain ⟨rfl, y⟩ := y
    obtain ⟨v, e, r⟩ := (VRs.mono l _ _ t).get' (y _ (l.kp.sqT h))
    exact ⟨v, e, r, S, Le.refl _ _⟩
  · exact ⟨xs, l.kp.sqT h, by rw [t.length]; exact hi⟩
theorem itOk_rng {lo : Int} {n : Nat} : ItOk K (Itr lo n) (.tup ((List.range n).map fun i => .int (lo + (i : Nat)))) ((List.range n).map fun i => .int (lo + (i : Nat))) f1 H1 := by
  refine ⟨fun i f μ H l S g hi => ?_, fun i f μ H x H' l S g hi y => ?_, fun i f μ H l S g hi => ?_⟩
  · show i < n
    simpa using hi
  · obtain ⟨rfl, rfl⟩ := y
    have hi' : i < n := by simpa using hi
    exact ⟨.int (lo + (i : Nat)), by simp [hi'], rfl, S, Le.refl _ _⟩
  · show n ≤ i
    simpa using hi
theorem itOk_rngC {lo c : Int} {n : Nat} : ItOk K (Itc lo c n) (.tup ((List.range n).map fun i => .int (lo + (i : Nat) * c))) ((List.range n).map fun i => .int (lo + (i : Nat) * c)) f1 H1 := by
  refine ⟨fun i f μ H l S g hi => ?_, fun i f μ H x H' l S g hi y => ?_, fun i f μ H l S g hi => ?_⟩
  · show i < n
    simpa using hi
  · obtain ⟨rfl, rfl⟩ := y
    have hi' : i < n := by simpa using hi
    exact ⟨.int (lo + (i : Nat) * c), by simp [hi'], rfl, S, Le.refl _ _⟩
  · show n ≤ i
    simpa using hi
theorem itOk_str {s : List Nat} : ItOk K (Its ⟨s.toArray⟩) (.str s) (s.map fun c => .str [c]) f1 H1 := by
  refine ⟨fun i f μ H l S g hi => ?_, fun i f μ H x H' l S g hi y => ?_, fun i f μ H l S g hi => ?_⟩
  · show i < s.toArray.size
    simpa using hi
  · obtain ⟨rfl, c, h, rfl⟩ := y
    have h' : s[i]? = some c := by simpa using h
    exact ⟨.str [c], by rw [List.getElem?_map, h']; rfl, rfl, S, Le.refl _ _⟩
  · show s.toArray.size ≤ i
    simpa using hi
/-- from an expression's end to the walk -/
theorem iM_any {es : List EC} {W : WX} {σ : St} {H : Hp} {m : Loc → Sto → Out Val} {R : It → Hp → Prop} (h : iM K es W m σ H R) : iAny K (tM K es W m) σ H R := by
  obtain ⟨f, ρ, μ, S, L, h⟩ := h
  refine ⟨f, ρ, μ, S, L, ?_⟩
  cases e : m ρ μ with
  | ok src μ' =>
    rw [e] at h
    obtain ⟨xs, hi, h⟩ := h
    intro f' H' x l S' r
    cases src with
    | tup vs =>
      cases (show some vs = some xs from hi)
      obtain ⟨a, ys, rfl, hq, t⟩ := r
      exact .inr (.inl ⟨a, rfl, ⟨ys, hq⟩, h f' H' _ l S' (itOk_tup hq t)⟩)
    | scr ns =>
      cases (show some (ns.map Val.int) = some xs from hi)
      obtain ⟨a, rfl, hq⟩ := r
      exact .inl ⟨a, rfl, ⟨_, hq.seq⟩, h f' H' _ l S' (itOk_scr hq)⟩
    | ref n =>
      cases e2 : μ'[n]? with
      | none =>
        have h' : (match μ'[n]? with | some (.lst vs) => some vs | _ => none) = some xs := hi
        rw [e2] at h'; cases h'
      | some c =>
        have h' : (match μ'[n]? with | some (.lst vs) => some vs | _ => none) = some xs := hi
        rw [e2] at h'
        cases c with
        | lst ws =>
          cases h'
          obtain ⟨a, ys, rfl, ha, hq, t⟩ := S'.lst r e2
          exact .inl ⟨a, rfl, ⟨ys, SqL.of hq⟩, h f' H' _ l S' (itOk_ref ha)⟩
        | dict _ => cases h'
        | ins _ _ => cases h'
    | str s =>
      cases (show some (s.map fun c => Val.str [c]) = some xs from hi)
      exact .inr (.inr ⟨_, r, h f' H' _ l S' itOk_str⟩)
    | _ => cases hi
  | exc c fs μ' => rw [e] at h; exact h
  | fail => rw [e] at h; exact h
end
end Mi
end

section
set_option Elab.async false
set_option linter.all false
set_option maxRecDepth 100000
set_option autoImplicit false
set_option maxHeartbeats 1000000
/-! Sound5: an expression of the text comes to what its term comes to. -/
namespace Mi
open PySem PySem.Spec L2
open PyProof.Rows hiding St

def argc : ME → Nat
  | .cons _ b => argc b + 1
  | _ => 0
/-- a term that has a value of the text -/
def vE : ME → Bool
  | .rng _ => false | .rng2 _ _ => false | .rng3 _ => false | .nil => false | .cons _ _ => false
  | _ => true
/-- a term that may stand as a test -/
def tstM : ME → Bool
  | .ite _ _ _ => false
  | .and a b => tstM a && tstM b
  | .or a b => tstM a && tstM b
  | .op1 .not a => tstM a
  | .tmp a => tstM a
  | _ => true
def chkNm (S : SS) (i : Nat) (e : Expr) : Bool := match asName e with
  | some x => decide (S.N[i]? = some x) && locB S.sc x && (S.fn x || decide (S.sc.names.lookup x = some .local))
  | none => false
def chkNs (S : SS) : List Nat → List Expr → Bool
  | [], [] => true
  | i :: is, e :: es => chkNm S i e && chkNs S is es
  | _, _ => false
def chkTg (S : SS) : MT → Expr → Bool
  | .nm i, e => chkNm S i e
  | .tp is, e => match asTup e with
    | some es => chkNs S is es
    | none => false
/-- a built-in's call of one argument -/
def bi1 (Γ : Gam) (S : SS) (f : Str) (e : Expr) : Option Expr := match asCall e with
  | some (g, [x]) => if (decide (g = f) && glB S.sc f && decide (f ∈ Γ.abs) && plainName f) = true then some x else none
  | _ => none
def bi2 (Γ : Gam) (S : SS) (f : Str) (e : Expr) : Option (Expr × Expr) := match asCall e with
  | some (g, [x, y]) => if (decide (g = f) && glB S.sc f && decide (f ∈ Γ.abs) && plainName f) = true then some (x, y) else none
  | _ => none
def bi3 (Γ : Gam) (S : SS) (f : Str) (e : Expr) : Option (List Expr) := match asCall e with
  | some (g, [x, y, z]) => if (decide (g = f) && glB S.sc f && decide (f ∈ Γ.abs) && plainName f) = true then some [x, y, z] else none
  | _ => none
def me1 (m : Str) (e : Expr) : Option (Expr × Expr) := match asMeth e with
  | some (o, n, [x]) => if (decide (n = m) && baseOk o) = true then some (o, x) else none
  | _ => none
def me0 (m : Str) (e : Expr) : Option Expr := match asMeth e with
  | some (o, n, []) => if (decide (n = m) && baseOk o) = true then some o else none
  | _ => none
def tyName (Γ : Gam) (S : SS) (t : Ty) (e : Expr) : Bool := match asName e with
  | some x => decide (x = Str.ofString (tyN t)) && glB S.sc x && decide (x ∈ Γ.abs) && plainName x
  | none => false
def tyNames (Γ : Gam) (S : SS) : List Ty → List Expr → Bool
  | [], [] => true
  | t :: ts, e :: es => tyName Γ S t e && plainArg e && tyNames Γ S ts es
  | _, _ => false
def tysOf (Γ : Gam) (S : SS) (ts : List Ty) (e : Expr) : Bool := match ts with
  | [t] => tyName Γ S t e
  | ts => match asTup e with
    | some es => tyNames Γ S ts es && decide (ts.length ≤ 9)
    | none => false
def sub1 (Γ : Gam) (S : SS) (o : O1) (e : Expr) : Option Expr := match o with
  | .neg => match asUn e with
    | some (.USub, x) => some x
    | _ => none
  | .not => match asUn e with
    | some (.Not, x) => some x
    | _ => none
  | .len => bi1 Γ S "len" e
  | .abs => bi1 Γ S "abs" e
  | .int => bi1 Γ S "int" e
  | .toTup => bi1 Γ S "tuple" e
  | .toLst => bi1 Γ S "list" e
  | .sum => bi1 Γ S "sum" e
  | .isN => match asCmp e with
    | some (x, .Is, y) => if isNone y = true then some x else none
    | _ => none
  | .notN => match asCmp e with
    | some (x, .IsNot, y) => if isNone y = true then some x else none
    | _ => none
  | .isi ts => match bi2 Γ S "isinstance" e with
    | some (x, y) => if (tysOf Γ S ts y && plainArg y) = true then some x else none
    | none => none
  | .pop => me0 "pop" e
def binOp : O2 → Option Operator
  | .add => some .Add | .sub => some .Sub | .mul => some .Mult | .fdiv => some .FloorDiv | .mod => some .Mod | .pow => some .Pow | .shl => some .LShift
  | _ => none
def cmpOp : O2 → Option CmpOp
  | .eq => some .Eq | .ne => some .NotEq | .lt => some .Lt | .le => some .LtE | .gt => some .Gt | .ge => some .GtE | .inn => some .In | .nin => some .NotIn
  | _ => none
def binEq (a b : Operator) : Bool := match a, b with
  | .Add, .Add => true | .Sub, .Sub => true | .Mult, .Mult => true | .FloorDiv, .FloorDiv => true | .Mod, .Mod => true | .Pow, .Pow => true | .LShift, .LShift => true
  | _, _ => false
theorem binEq_ok {a b : Operator} (h : binEq a b = true) : a = b := by
  unfold binEq at h
  split at h <;> first | rfl | cases h
def cmpEq (a b : CmpOp) : Bool := match a, b with
  | .Eq, .Eq => true | .NotEq, .NotEq => true | .Lt, .Lt => true | .LtE, .LtE => true | .Gt, .Gt => true | .GtE, .GtE => true | .In, .In => true | .NotIn, .NotIn => true
  | _, _ => false
theorem cmpEq_ok {a b : CmpOp} (h : cmpEq a b = true) : a = b := by
  unfold cmpEq at h
  split at h <;> first | rfl | cases h
def sub2 (Γ : Gam) (S : SS) (o : O2) (e : Expr) : Option (Expr × Expr) := match binOp o with
  | some op => match asBin e with
    | some (a, op', b) => if binEq op' op = true then some (a, b) else none
    | none => none
  | none => match cmpOp o with
    | some op => match asCmp e with
      | some (a, op', b) => if (cmpEq op' op && noSet b) = true then some (a, b) else none
      | none => none
    | none => match o with
      | .idx => asSub e
      | .append => me1 "append" e
      | .extend => me1 "extend" e
      | .popAt => me1 "pop" e
      | .index => me1 "index" e
      | .min2 => bi2 Γ S "min" e
      | .max2 => bi2 Γ S "max" e
      | .slF => match asSl e with
        | some (a, some lo, none) => some (a, lo)
        | _ => none
      | .slT => match asSl e with
        | some (a, none, some hi) => some (a, hi)
        | _ => none
      | _ => none
def sub3 (Γ : Gam) (S : SS) (o : O3) (e : Expr) : Option (Expr × Expr × Expr) := match o with
  | .slice => match asSl e with
    | some (a, some lo, some hi) => some (a, lo, hi)
    | _ => none
def isTrueC : ME → Bool
  | .cst (.bl true) => true
  | _ => false
theorem isTrueC_ok {m : ME} (h : isTrueC m = true) : m = .cst (.bl true) := by
  unfold isTrueC at h
  split at h
  · rfl
  · cases h
mutual
/-- the expression is what the term says -/
def chk (Γ : Gam) (S : SS) : ME → Expr → Bool
  | .var i, e => match asName e with
    | some x => decide (S.N[i]? = some x) && visB S.sc x && plainName x
    | none => false
  | .cst v, e => match asConst e with
    | some u => decide (u = v)
    | none => match asName e with
      | some x => glB S.sc x && plainName x && decide (Γ.cs.lookup x = some v)
      | none => false
  | .nil, _ => false
  | .cons _ _, _ => false
  | .tupE a, e => match asTup e with
    | some es => chkA Γ S a es && decide (argc a ≤ 1000)
    | none => false
  | .lstE a, e => match asLst e with
    | some es => chkA Γ S a es && decide (argc a ≤ 1000)
    | none => false
  | .op1 o a, e => match sub1 Γ S o e with
    | some x => vE a && plainArg x && chk Γ S a x
    | none => false
  | .op2 o a b, e => match sub2 Γ S o e with
    | some (x, y) => vE a && vE b && plainArg x && plainArg y && chk Γ S a x && chk Γ S b y
    | none => false
  | .op3 o a b c, e => match sub3 Γ S o e with
    | some (x, y, z) => vE a && vE b && vE c && chk Γ S a x && chk Γ S b y && chk Γ S c z
    | none => false
  | .and a b, e => match asBool e with
    | some (.And, [x, y], _) => vE a && vE b && chk Γ S a x && chk Γ S b y
    | some (.And, x :: y :: z :: r, p) => vE a && vE b && chk Γ S a x && chk Γ S b (.BoolOp .And (y :: z :: r) p)
    | _ => false
  | .or a b, e => match asBool e with
    | some (.Or, [x, y], _) => vE a && vE b && chk Γ S a x && chk Γ S b y
    | some (.Or, x :: y :: z :: r, p) => vE a && vE b && chk Γ S a x && chk Γ S b (.BoolOp .Or (y :: z :: r) p)
    | _ => false
  | .ite c a b, e => match asIf e with
    | some (x, y, z) => vE a && vE b && vE c && tstM c && chk Γ S c x && chk Γ S a y && chk Γ S b z
    | none => false
  | .chain o o' a b c, e => match asCmp2 e with
    | some (x, op, op', y, z) => (match cmpOp o, cmpOp o' with
      | some q, some q' => cmpEq op q && cmpEq op' q' && noSet y && noSet z
      | _, _ => false) && vE a && vE b && vE c && chk Γ S a x && chk Γ S b y && chk Γ S c z
    | none => false
  | .call k a, e => match asCall e with
    | some (f, es) => decide ((Γ.fns.lookup k).map (·.1) = some f) && glB S.sc f && plainName f && es.all plainArg && chkA Γ S a es
    | none => false
  | .callK k perm a, e => match asCallK e with
    | some (f, kws) => decide ((Γ.fns.lookup k).map (·.1) = some f) && glB S.sc f && plainName f && decide ((k, ksOf kws, perm) ∈ Γ.kws) && kws.all (fun q => q.arg.isSome) && chkA Γ S a (kws.map (·.value))
    | none => false
  | .rng a, e => match bi1 Γ S "range" e with
    | some x => vE a && plainArg x && chk Γ S a x
    | none => false
  | .rng2 a b, e => match bi2 Γ S "range" e with
    | some (x, y) => vE a && vE b && plainArg x && plainArg y && chk Γ S a x && chk Γ S b y
    | none => false
  | .rng3 a, e => match bi3 Γ S "range" e with
    | some l => l.all plainArg && chkA Γ S a l
    | none => false
  | .comp tg it cond elt, e => match asComp e with
    | some (x, t, iter, ifs, sc) => noSet iter && chk Γ S it iter && vE cond && vE elt && tstM cond &&
        (match tg with
          | .nm i => (match asName t with
            | some y => blkC S.N S.sc sc [(y, i)] &&
                chkTg ⟨S.N, relS sc S.sc, fun x => sc.names.lookup x == some .cell⟩ tg t && chk Γ ⟨S.N, relS sc S.sc, fun x => sc.names.lookup x == some .cell⟩ elt x &&
                (match ifs with
                  | [] => isTrueC cond
                  | [c] => chk Γ ⟨S.N, relS sc S.sc, fun x => sc.names.lookup x == some .cell⟩ cond c
                  | _ => false)
            | none => false)
          | .tp is => (match asTup t with
            | some ys => blkC S.N S.sc sc ((ys.filterMap asName).zip is) && decide (ys.length = is.length) &&
                chkTg ⟨S.N, relS sc S.sc, fun x => sc.names.lookup x == some .cell⟩ tg t && chk Γ ⟨S.N, relS sc S.sc, fun x => sc.names.lookup x == some .cell⟩ elt x &&
                (match ifs with
                  | [] => isTrueC cond
                  | [c] => chk Γ ⟨S.N, relS sc S.sc, fun x => sc.names.lookup x == some .cell⟩ cond c
                  | _ => false)
            | none => false))
    | none => false
  | .tmp a, e => vE a && chk Γ S a e
def chkA (Γ : Gam) (S : SS) : ME → List Expr → Bool
  | .nil, [] => true
  | .cons a b, e :: es => vE a && plainArg e && chk Γ S a e && chkA Γ S b es
  | _, _ => false
end
end Mi
end

section
set_option Elab.async false
set_option linter.all false
set_option maxRecDepth 100000
set_option autoImplicit false
set_option maxHeartbeats 1000000
/-! Sound6: the operations' places in the text. -/
namespace Mi
open PySem PySem.Spec L2
open PyProof.Rows hiding St
section
variable {Γ : Gam} {es : List EC} {C : CallF} {lv : Nat} {S : SS} {X : Cx} {W : WX} {ma mb mc : Loc → Sto → Out Val}
theorem bi1_ok {f : Str} {e x : Expr} (h : bi1 Γ S f e = some x) : ∃ p q, e = .Call (.Name f p) [x] [] q ∧ glB S.sc f = true ∧ f ∈ Γ.abs ∧ plainName f = true := by
  unfold bi1 at h
  split at h
  · rename_i g y e1
    split at h
    · rename_i hc
      cases h
      simp only [Bool.and_eq_true, decide_eq_true_eq] at hc
      obtain ⟨⟨⟨rfl, h1⟩, h2⟩, h3⟩ := hc
      obtain ⟨p, q, rfl⟩ := asCall_ok e1
      exact ⟨p, q, rfl, h1, h2, h3⟩
    · cases h
  · cases h
theorem bi2_ok {f : Str} {e x y : Expr} (h : bi2 Γ S f e = some (x, y)) : ∃ p q, e = .Call (.Name f p) [x, y] [] q ∧ glB S.sc f = true ∧ f ∈ Γ.abs ∧ plainName f = true := by
  unfold bi2 at h
  split at h
  · rename_i g y z e1
    split at h
    · rename_i hc
      cases h
      simp only [Bool.and_eq_true, decide_eq_true_eq] at hc
      obtain ⟨⟨⟨rfl, h1⟩, h2⟩, h3⟩ := hc
      obtain ⟨p, q, rfl⟩ := asCall_ok e1
      exact ⟨p, q, rfl, h1, h2, h3⟩
    · cases h
  · cases h
theorem bi3_ok {f : Str} {e : Expr} {l : List Expr} (h : bi3 Γ S f e = some l) : ∃ x y z p q, l = [x, y, z] ∧ e = .Call (.Name f p) [x, y, z] [] q ∧ glB S.sc f = true ∧ f ∈ Γ.abs ∧ plainName f = true := by
  unfold bi3 at h
  split at h
  · rename_i g x y z hc
    obtain ⟨p, q, rfl⟩ := asCall_ok hc
    split at h
    · rename_i hb
      simp only [Bool.and_eq_true, decide_eq_true_eq] at hb
      obtain ⟨⟨⟨h1, h2⟩, h3⟩, h4⟩ := hb
      subst h1
      cases h
      exact ⟨x, y, z, p, q, rfl, rfl, h2, h3, h4⟩
    · cases h
  · cases h
theorem me1_ok {m : Str} {e o x : Expr} (h : me1 m e = some (o, x)) : ∃ p q, e = .Call (.Attribute o m p) [x] [] q ∧ (p.endLine == q.line) = true ∧ baseOk o = true := by
  unfold me1 at h
  split at h
  · rename_i o' n y e1
    split at h
    · rename_i hc
      cases h
      simp only [Bool.and_eq_true, decide_eq_true_eq] at hc
      obtain ⟨rfl, h1⟩ := hc
      obtain ⟨p, q, rfl, hl⟩ := asMeth_ok e1
      exact ⟨p, q, rfl, hl, h1⟩
    · cases h
  · cases h
theorem me0_ok {m : Str} {e o : Expr} (h : me0 m e = some o) : ∃ p q, e = .Call (.Attribute o m p) [] [] q ∧ (p.endLine == q.line) = true ∧ baseOk o = true := by
  unfold me0 at h
  split at h
  · rename_i o' n e1
    split at h
    · rename_i hc
      cases h
      simp only [Bool.and_eq_true, decide_eq_true_eq] at hc
      obtain ⟨rfl, h1⟩ := hc
      obtain ⟨p, q, rfl, hl⟩ := asMeth_ok e1
      exact ⟨p, q, rfl, hl, h1⟩
    · cases h
  · cases h
/-- the terms' ends -/
def e1 (o : O1) (ma : Loc → Sto → Out Val) : Loc → Sto → Out Val := fun ρ μ => (ma ρ μ).bind fun x μ1 => sem1 o x μ1
def e2 (o : O2) (ma mb : Loc → Sto → Out Val) : Loc → Sto → Out Val := fun ρ μ => (ma ρ μ).bind fun x μ1 => if pre2 o x μ1 then (mb ρ μ1).bind fun y μ2 => sem2 o x y μ2 else .fail
def e3 (o : O3) (ma mb mc : Loc → Sto → Out Val) : Loc → Sto → Out Val := fun ρ μ => (ma ρ μ).bind fun x μ1 => (mb ρ μ1).bind fun y μ2 => if pre3 o y then (mc ρ μ2).bind fun z μ3 => sem3 o x y z μ3 else .fail
theorem t1 {K : PySem.W.Frag} {o : O1} {σ : St} {H : Hp} {Q : VK} (h : tM K es W (e1 o ma) σ H Q) : tM K es W ma σ H fun x H1 => r1 K es (sem1 o) x H1 Q := by
  obtain ⟨f, ρ, μ, S, L, h⟩ := h
  exact bindP S L h fun v μ1 f1 H1 x l1 S1 L1 rv h1 => ⟨f1, μ1, v, W, σ, S1, rv, h1⟩
theorem t2 {K : PySem.W.Frag} {o : O2} {σ : St} {H : Hp} {Q : VK} (h : tM K es W (e2 o ma mb) σ H Q) : tM K es W ma σ H fun x H1 => (∃ f1 μ1 v, SR K f1 μ1 H1 ∧ VR K f1 H1 v x ∧ pre2 o v μ1 = true) ∧ tM K es W mb σ H1 fun y H2 => r2 K es (sem2 o) x y H2 Q := by
  obtain ⟨f, ρ, μ, S, L, h⟩ := h
  refine bindP S L h fun v μ1 f1 H1 x l1 S1 L1 rv h1 => ?_
  obtain ⟨hc, h1⟩ := Post.ite h1
  exact ⟨⟨f1, μ1, v, S1, rv, hc⟩, bindP S1 L1 h1 fun w μ2 f2 H2 y l2 S2 L2 rw' h2 => ⟨f2, μ2, v, w, W, σ, S2, VR.mono l2 _ _ rv, rw', h2⟩⟩
theorem tOp2 {K : PySem.W.Frag} {o : O2} {σ : St} {H : Hp} {Q : VK} (h : tM K es W (e2 o ma mb) σ H Q) : tOp (r2 K es (sem2 o)) (tM K es W ma) (tM K es W mb) σ H Q := by
  obtain ⟨f, ρ, μ, S, L, h⟩ := h
  refine bindP S L h fun v μ1 f1 H1 x l1 S1 L1 rv h1 => ?_
  obtain ⟨hc, h1⟩ := Post.ite h1
  exact bindP S1 L1 h1 fun w μ2 f2 H2 y l2 S2 L2 rw' h2 => ⟨f2, μ2, v, w, W, σ, S2, VR.mono l2 _ _ rv, rw', h2⟩
theorem pt_default {e : Expr} {m : Loc → Sto → Out Val} (he : PE X e (tM X.K es W m)) (h : byVal e = true) : PT X e (tTM X.K es W m) := PT.weak (pt_val he fun whole => byVal_ok h whole) fun _ _ _ q => tTM_val q
theorem cmp_PE {o : O2} {op : CmpOp} {a b : Expr} {p : Pos} (ho : OpR X (compareOp op) (r2 X.K es (sem2 o))) (ha : PE X a (tM X.K es W ma)) (hb : PE X b (tM X.K es W mb)) (hm : behindInMarks op b = false) : PE X (.Compare a [op] [b] p) (tM X.K es W (e2 o ma mb)) :=
  PE.weak (pe_cmpR ho ha hb hm) fun _ _ _ q => tOp2 q
theorem cmp_PT {o : O2} {op : CmpOp} {a b : Expr} {p : Pos} (ho : OpR X (compareOp op) (r2 X.K es (sem2 o))) (ha : PE X a (tM X.K es W ma)) (hb : PE X b (tM X.K es W mb)) (hm : behindInMarks op b = false) : PT X (.Compare a [op] [b] p) (tTM X.K es W (e2 o ma mb)) :=
  PT.weak (pt_cmpR ho ha hb hm) fun _ _ _ q => tOp2 (tTM_val q)
theorem cmp_op (HX : XOk Γ es C lv S X) {o : O2} {op : CmpOp} (h : cmpOp o = some op) : OpR X (compareOp op) (r2 X.K es (sem2 o)) := by
  cases o <;> first
    | (cases h; exact op2_eq HX.units)
    | (cases h; exact op2_ne HX.units)
    | (cases h; exact op2_lt HX.room.units0)
    | (cases h; exact op2_le)
    | (cases h; exact op2_gt)
    | (cases h; exact op2_ge)
    | (cases h; exact op2_in)
    | (cases h; exact op2_nin)
    | cases h
theorem bin_op {o : O2} {op : Operator} (h : binOp o = some op) : OpR X (binaryOp op) (r2 X.K es (sem2 o)) := by
  cases o <;> first
    | (cases h; exact op2_add)
    | (cases h; exact op2_sub)
    | (cases h; exact op2_mul)
    | (cases h; exact op2_fdiv)
    | (cases h; exact op2_mod)
    | (cases h; exact op2_pow)
    | (cases h; exact op2_shl)
    | cases h
theorem isN_op {neg : Bool} {x : V} {H : Hp} {Q : VK} {K : PySem.W.Frag} {W : WX} {σ : St} {f : List Addr} {μ : Sto} {v : Val} (S : SR K f μ H) (rv : VR K f H v x) (h : Post K es W σ f H (sem1 (if neg then .notN else .isN) v μ) Q) :
    Q (.bl (if neg then !decide (x = .non) else decide (x = .non))) H := by
  have e : decide (v = Val.non) = decide (x = V.non) := by
    cases v with
    | non => rw [show x = _ from rv]; rfl
    | bl _ => rw [show x = _ from rv]; rfl
    | int _ => rw [show x = _ from rv]; rfl
    | str _ => rw [show x = _ from rv]; rfl
    | tup _ => obtain ⟨a, xs, rfl, _⟩ := rv; rfl
    | ref _ => obtain ⟨a, _, rfl⟩ := rv; rfl
    | scr _ => obtain ⟨a, rfl, _⟩ := rv; rfl
  cases neg with
  | true =>
    have h' : Post K es W σ f H (.ok (.bl (!decide (v = .non))) μ) Q := h
    rw [e] at h'
    exact h'.done S rfl
  | false =>
    have h' : Post K es W σ f H (.ok (.bl (decide (v = .non))) μ) Q := h
    rw [e] at h'
    exact h'.done S rfl
theorem isN_OpR (neg : Bool) : OpR X (compareOp (if neg then .IsNot else .Is)) (fun x y H Q => y = .non ∧ r1 X.K es (sem1 (if neg then .notN else .isN)) x H Q) := by
  cases neg with
  | true => exact OpR.weak op_notN fun x y H Q ⟨e, f, μ, v, W, σ, S, rv, h⟩ => ⟨e, isN_op (neg := true) S rv h⟩
  | false => exact OpR.weak op_isN fun x y H Q ⟨e, f, μ, v, W, σ, S, rv, h⟩ => ⟨e, isN_op (neg := false) S rv h⟩
theorem tOpN {K : PySem.W.Frag} {o : O1} {σ : St} {H : Hp} {Q : VK} (h : tM K es W (e1 o ma) σ H Q) : tOp (fun x y H Q => y = .non ∧ r1 K es (sem1 o) x H Q) (tM K es W ma) (tC .non) σ H Q := by
  obtain ⟨f, ρ, μ, S, L, h⟩ := h
  exact bindP S L h fun v μ1 f1 H1 x l1 S1 L1 rv h1 => ⟨rfl, f1, μ1, v, W, σ, S1, rv, h1⟩
theorem isN_all (neg : Bool) {a : Expr} {j : Nat} {p p' : Pos} (ha : PE X a (tM X.K es W ma)) :
    PE X (.Compare a [if neg then .IsNot else .Is] [.Constant .none j p'] p) (tM X.K es W (e1 (if neg then .notN else .isN) ma)) ∧ PT X (.Compare a [if neg then .IsNot else .Is] [.Constant .none j p'] p) (tTM X.K es W (e1 (if neg then .notN else .isN) ma)) := by
  have hm : behindInMarks (if neg then CmpOp.IsNot else CmpOp.Is) (.Constant .none j p') = false := marks_no rfl
  exact ⟨PE.weak (pe_cmpR (isN_OpR neg) ha pe_non hm) fun _ _ _ q => tOpN q, PT.weak (pt_cmpR (isN_OpR neg) ha pe_non hm) fun _ _ _ q => tOpN (tTM_val q)⟩

/-! calls of built-ins -/
theorem pa_1 {x : Expr} {tx : TE} (hp : plainArg x = true) (ha : PE X x tx) : PA X [x] (tCons tx tNil) := pa_cons ha pa_nil (star_cons hp _ _)
theorem pa_2 {x y : Expr} {tx ty : TE} (hp : plainArg x = true) (hq : plainArg y = true) (ha : PE X x tx) (hb : PE X y ty) : PA X [x, y] (tCons tx (tCons ty tNil)) := pa_cons ha (pa_1 hq hb) (star_cons hp _ _)
theorem call_B1 (HX : XOk Γ es C lv S X) {f : Str} {id : String} {o : O1} {x : Expr} {p q : Pos} (hf : glB S.sc f = true ∧ f ∈ Γ.abs ∧ plainName f = true) (hb : bootBuiltins f = some (.builtin id)) (hc : CallR X (.builtin id) (c1 X.K es (sem1 o))) (hp : plainArg x = true) (ha : PE X x (tM X.K es W ma)) :
    PE X (.Call (.Name f p) [x] [] q) (tM X.K es W (e1 o ma)) := by
  obtain ⟨h1, h2, h3⟩ := hf
  obtain ⟨n1, n2, n3⟩ := plainName_ok h3
  exact PE.weak (pe_callB hc (HX.gl h1) (HX.abs f h2) hb (pa_1 hp ha) n3 n1 (star_cons hp _ _) rfl) fun σ H Q h => by
    obtain ⟨f, ρ, μ, S, L, h⟩ := h
    exact bindP S L h fun v μ1 f1 H1 x l1 S1 L1 rv h1 => ⟨x, rfl, f1, μ1, v, W, σ, S1, rv, h1⟩
theorem call_T1 (HX : XOk Γ es C lv S X) {f : Str} {id : String} {o : O1} {x : Expr} {p q : Pos} (hf : glB S.sc f = true ∧ f ∈ Γ.abs ∧ plainName f = true) (hb : bootBuiltins f = some (.type id)) (hc : CallR X (.type id) (c1 X.K es (sem1 o))) (hp : plainArg x = true) (ha : PE X x (tM X.K es W ma)) :
    PE X (.Call (.Name f p) [x] [] q) (tM X.K es W (e1 o ma)) := by
  obtain ⟨h1, h2, h3⟩ := hf
  obtain ⟨n1, n2, n3⟩ := plainName_ok h3
  exact PE.weak (pe_callTy hc (HX.gl h1) (HX.abs f h2) hb (pa_1 hp ha) n3 n1 (star_cons hp _ _) rfl) fun σ H Q h => by
    obtain ⟨f, ρ, μ, S, L, h⟩ := h
    exact bindP S L h fun v μ1 f1 H1 x l1 S1 L1 rv h1 => ⟨x, rfl, f1, μ1, v, W, σ, S1, rv, h1⟩
theorem call_B2 (HX : XOk Γ es C lv S X) {f : Str} {id : String} {o : O2} {x y : Expr} {p q : Pos} (hf : glB S.sc f = true ∧ f ∈ Γ.abs ∧ plainName f = true) (hb : bootBuiltins f = some (.builtin id)) (hc : CallR X (.builtin id) (c2 X.K es (sem2 o)))
    (hp : plainArg x = true) (hq : plainArg y = true) (ha : PE X x (tM X.K es W ma)) (hb' : PE X y (tM X.K es W mb)) :
    PE X (.Call (.Name f p) [x, y] [] q) (tM X.K es W (e2 o ma mb)) := by
  obtain ⟨h1, h2, h3⟩ := hf
  obtain ⟨n1, n2, n3⟩ := plainName_ok h3
  exact PE.weak (pe_callB hc (HX.gl h1) (HX.abs f h2) hb (pa_2 hp hq ha hb') n3 n1 (star_cons hp _ _) (star_any (by simp [hq]))) fun σ H Q h => by
    obtain ⟨f, ρ, μ, S, L, h⟩ := h
    refine bindP S L h fun v μ1 f1 H1 x l1 S1 L1 rv h1 => ?_
    obtain ⟨hc, h1⟩ := Post.ite h1
    exact bindP S1 L1 h1 fun w μ2 f2 H2 y l2 S2 L2 rw' h2 => ⟨x, y, rfl, f2, μ2, v, w, W, σ, S2, VR.mono l2 _ _ rv, rw', h2⟩
/-! methods of lists -/
theorem pre_tyV {K : PySem.W.Frag} {f : List Addr} {H : Hp} {μ : Sto} {v : Val} {x : V} (S : SR K f μ H) (rv : VR K f H v x) {n : Nat} {vs : List Val} (e : v = .ref n) (h : μ[n]? = some (.lst vs)) : tyV K "list" x H := by
  subst e
  obtain ⟨a, xs, rfl, _, hq, _⟩ := S.lst rv h
  exact .inl ⟨rfl, xs, SqL.of hq⟩
theorem pre2_lst {o : O2} {v : Val} {μ : Sto} (h : pre2 o v μ = true) (ho : o = .append ∨ o = .extend ∨ o = .popAt ∨ o = .index) : ∃ n vs, v = .ref n ∧ μ[n]? = some (.lst vs) := by
  cases v with
  | ref n =>
    cases e : μ[n]? with
    | none => rcases ho with rfl | rfl | rfl | rfl <;> (simp only [pre2, e] at h; cases h)
    | some c =>
      cases c with
      | lst vs => exact ⟨n, vs, rfl, e⟩
      | _ => rcases ho with rfl | rfl | rfl | rfl <;> (simp only [pre2, e] at h; cases h)
  | _ => rcases ho with rfl | rfl | rfl | rfl <;> cases h
theorem meth_1 {m : Str} {id : String} {o : O2} {a x : Expr} {p q : Pos} (slot : Slot "list" m id) (hty : typeOf (.builtin id) = pure (.type "method_descriptor")) (hm : MtR X id (m1 X.K es (sem2 o))) (ho : o = .append ∨ o = .extend ∨ o = .popAt ∨ o = .index)
    (hb : baseOk a = true) (hl : (p.endLine == q.line) = true) (hp : plainArg x = true) (ha : PE X a (tM X.K es W ma)) (hx : PE X x (tM X.K es W mb)) : PE X (.Call (.Attribute a m p) [x] [] q) (tM X.K es W (e2 o ma mb)) := by
  refine PE.weak (pe_bm PySem.F.plainAttrs_list slot hty hm ha (pa_1 hp hx) (base_ok hb) ?_ hl (star_cons hp _ _) rfl) fun σ H Q h => ?_
  · rw [star_cons hp]; rfl
  · obtain ⟨f, ρ, μ, S, L, h⟩ := h
    refine bindP S L h fun v μ1 f1 H1 x l1 S1 L1 rv h1 => ?_
    obtain ⟨hc, h1⟩ := Post.ite h1
    obtain ⟨n, vs, e1, e2⟩ := pre2_lst hc ho
    exact ⟨pre_tyV S1 rv e1 e2, bindP S1 L1 h1 fun w μ2 f2 H2 y l2 S2 L2 rw' h2 => ⟨y, rfl, f2, μ2, v, w, W, σ, S2, VR.mono l2 _ _ rv, rw', h2⟩⟩
theorem meth_pop {a : Expr} {p q : Pos} (hb : baseOk a = true) (hl : (p.endLine == q.line) = true) (ha : PE X a (tM X.K es W ma)) : PE X (.Call (.Attribute a "pop" p) [] [] q) (tM X.K es W (e1 .pop ma)) := by
  refine PE.weak (pe_bm0 PySem.F.plainAttrs_list PySem.F.slot_list_pop PySem.F.type_list_pop (m_pop (es := es)) ha (base_ok hb) hl) fun σ H Q h => ?_
  obtain ⟨f, ρ, μ, S, L, h⟩ := h
  refine bindP S L h fun v μ1 f1 H1 x l1 S1 L1 rv h1 => ?_
  obtain ⟨n, vs, rfl, e2, _⟩ := lst_get (k := fun n vs => match vs.getLast? with
        | some v => .ok v (μ1.set n (.lst vs.dropLast))
        | none => .fail) h1
  exact ⟨pre_tyV S1 rv rfl e2, rfl, f1, μ1, _, W, σ, S1, rv, h1⟩
/-! slices -/
theorem slc_F (v : Val) (i : Int) (μ : Sto) : sem2 .slF v (.int i) μ = slc v (some i) none μ := by
  cases v <;> rfl
theorem slc_T (v : Val) (i : Int) (μ : Sto) : sem2 .slT v (.int i) μ = slc v none (some i) μ := by
  cases v <;> rfl
theorem slice_F {a lo : Expr} {p q : Pos} (ha : PE X a (tM X.K es W ma)) (hb : PE X lo (tM X.K es W mb)) : PE X (.Subscript a (.Slice (some lo) none none p) q) (tM X.K es W (e2 .slF ma mb)) := by
  refine PE.weak (pe_slice (sl_any (es := es)) ha (po_some hb) po_none) fun σ H Q h => ?_
  obtain ⟨f, ρ, μ, S, L, h⟩ := h
  refine bindP S L h fun v μ1 f1 H1 x l1 S1 L1 rv h1 => ?_
  refine bindP S1 L1 (show Post X.K es W σ f1 H1 ((mb ρ μ1).bind fun y μ2 => sem2 .slF v y μ2) Q from h1) fun w μ2 f2 H2 y l2 S2 L2 rw' h2 => ?_
  cases w with
  | int i => exact ⟨i, rw', f2, μ2, v, W, σ, S2, VR.mono l2 _ _ rv, by rw [← slc_F]; exact h2⟩
  | _ => cases v <;> exact h2.elim
theorem slice_T {a hi : Expr} {p q : Pos} (ha : PE X a (tM X.K es W ma)) (hb : PE X hi (tM X.K es W mb)) : PE X (.Subscript a (.Slice none (some hi) none p) q) (tM X.K es W (e2 .slT ma mb)) := by
  refine PE.weak (pe_slice (sl_any (es := es)) ha po_none (po_some hb)) fun σ H Q h => ?_
  obtain ⟨f, ρ, μ, S, L, h⟩ := h
  refine bindP S L h fun v μ1 f1 H1 x l1 S1 L1 rv h1 => ?_
  refine bindP S1 L1 (show Post X.K es W σ f1 H1 ((mb ρ μ1).bind fun y μ2 => sem2 .slT v y μ2) Q from h1) fun w μ2 f2 H2 y l2 S2 L2 rw' h2 => ?_
  cases w with
  | int i => exact ⟨i, rw', f2, μ2, v, W, σ, S2, VR.mono l2 _ _ rv, by rw [← slc_T]; exact h2⟩
  | _ => cases v <;> exact h2.elim
theorem slice_3 {a lo hi : Expr} {p q : Pos} (ha : PE X a (tM X.K es W ma)) (hb : PE X lo (tM X.K es W mb)) (hc : PE X hi (tM X.K es W mc)) : PE X (.Subscript a (.Slice (some lo) (some hi) none p) q) (tM X.K es W (e3 .slice ma mb mc)) := by
  refine PE.weak (pe_slice (sl_any (es := es)) ha (po_some hb) (po_some hc)) fun σ H Q h => ?_
  obtain ⟨f, ρ, μ, S, L, h⟩ := h
  refine bindP S L h fun v μ1 f1 H1 x l1 S1 L1 rv h1 => ?_
  refine bindP S1 L1 h1 fun w μ2 f2 H2 y l2 S2 L2 rw' h2 => ?_
  obtain ⟨hc, h2⟩ := Post.ite h2
  cases w with
  | int i =>
    refine ⟨i, rw', ?_⟩
    refine bindP S2 L2 h2 fun u μ3 f3 H3 z l3 S3 L3 ru h3 => ?_
    cases u with
    | int j =>
      refine ⟨j, ru, f3, μ3, v, W, σ, S3, VR.mono (l2.trans l3) _ _ rv, ?_⟩
      cases v <;> first | exact h3 | exact h3.elim
    | _ => cases v <;> exact h3.elim
  | _ => cases hc
end
end Mi
end

section
set_option Elab.async false
set_option linter.all false
set_option maxRecDepth 100000
set_option autoImplicit false
set_option maxHeartbeats 1000000
/-! Sound7: expressions. -/
namespace Mi
open PySem PySem.Spec L2
open PyProof.Rows hiding St
section
variable {Γ : Gam} {es : List EC} {C : CallF} {lv : Nat} {S : SS} {X : Cx} {W : WX} {ma mb mc : Loc → Sto → Out Val}
theorem boot_abs : bootBuiltins "abs" = some (.builtin "abs") := by decide +kernel
theorem ty_boot (t : Ty) : bootBuiltins (Str.ofString (tyN t)) = some (.type (tyN t)) := by cases t <;> decide +kernel
theorem tyName_ok {t : Ty} {e : Expr} (h : tyName Γ S t e = true) : ∃ p, e = .Name (Str.ofString (tyN t)) p ∧ glB S.sc (Str.ofString (tyN t)) = true ∧ Str.ofString (tyN t) ∈ Γ.abs ∧ plainName (Str.ofString (tyN t)) = true := by
  unfold tyName at h
  split at h
  · rename_i x e1
    obtain ⟨p, rfl⟩ := asName_ok e1
    simp only [Bool.and_eq_true, decide_eq_true_eq] at h
    obtain ⟨⟨⟨rfl, h1⟩, h2⟩, h3⟩ := h
    exact ⟨p, rfl, h1, h2, h3⟩
  · cases h
theorem ty_PE (HX : XOk Γ es C lv S X) {t : Ty} {e : Expr} (h : tyName Γ S t e = true) : PE X e (tC (.ty (tyN t))) := by
  obtain ⟨p, rfl, h1, h2, h3⟩ := tyName_ok h
  obtain ⟨n1, n2, n3⟩ := plainName_ok h3
  exact pe_bltn (HX.gl h1) (HX.abs _ h2) (ty_boot t) rfl n3 n1
theorem tys_PA (HX : XOk Γ es C lv S X) : ∀ (ts : List Ty) (l : List Expr), tyNames Γ S ts l = true → PA X l (fun _ H Q => Q (ts.map fun t => V.ty (tyN t)) H)
  | [], [], _ => pa_nil
  | t :: ts, e :: l, h => by
    have h' : (tyName Γ S t e && plainArg e && tyNames Γ S ts l) = true := h
    simp only [Bool.and_eq_true] at h'
    exact pa_cons (ty_PE HX h'.1.1) (tys_PA HX ts l h'.2) (star_cons h'.1.2 _ _)
  | [], _ :: _, h => by cases h
  | _ :: _, [], h => by cases h
theorem isi_PE (HX : XOk Γ es C lv S X) {ts : List Ty} {x y : Expr} {p q : Pos} (hf : glB S.sc "isinstance" = true ∧ Str.ofString "isinstance" ∈ Γ.abs ∧ plainName "isinstance" = true) (ht : tysOf Γ S ts y = true) (hp : plainArg x = true) (hq : plainArg y = true) (ha : PE X x (tM X.K es W ma)) :
    PE X (.Call (.Name "isinstance" p) [x, y] [] q) (tM X.K es W (e1 (.isi ts) ma)) := by
  obtain ⟨h1, h2, h3⟩ := hf
  obtain ⟨n1, n2, n3⟩ := plainName_ok h3
  have one : ∀ t, ts = [t] → tyName Γ S t y = true → PE X (.Call (.Name "isinstance" p) [x, y] [] q) (tM X.K es W (e1 (.isi ts) ma)) := by
    intro t e ht'
    subst e
    exact PE.weak (pe_callB (c_isi (es := es) t) (HX.gl h1) (HX.abs _ h2) PyProof.Rows.boot_isinstance (pa_2 hp hq ha (ty_PE HX ht')) n3 n1 (star_cons hp _ _) (star_any (by simp [hq]))) fun σ H Q h => by
      obtain ⟨f, ρ, μ, S, L, h⟩ := h
      exact bindP S L h fun v μ1 f1 H1 x l1 S1 L1 rv h1 => ⟨x, rfl, f1, μ1, v, W, σ, S1, rv, h1⟩
  have many : ∀ l, asTup y = some l → (tyNames Γ S ts l && decide (ts.length ≤ 9)) = true → PE X (.Call (.Name "isinstance" p) [x, y] [] q) (tM X.K es W (e1 (.isi ts) ma)) := by
    intro l e ht'
    rw [Bool.and_eq_true, decide_eq_true_eq] at ht'
    obtain ⟨k, p', rfl⟩ := asTup_ok e
    exact PE.weak (pe_callB (c_isiT (es := es) ts) (HX.gl h1) (HX.abs _ h2) PyProof.Rows.boot_isinstance (pa_2 hp hq ha (pe_tup (tys_PA HX ts l ht'.1))) n3 n1 (star_cons hp _ _) (star_any (by simp [hq]))) fun σ H Q h => by
      obtain ⟨f, ρ, μ, S, L, h⟩ := h
      refine bindP S L h fun v μ1 f1 H1 x l1 S1 L1 rv h1 => ⟨?_, fun tp htp => ⟨x, tp, rfl, upd_same, f1, μ1, v, W, σ, S1.beside htp, VR.mono (Le.beside htp) _ _ rv, Post.mono (Le.beside htp) h1⟩⟩
      have : ts.length ≤ 9 := ht'.2
      rw [List.length_map, sizeLine_eq]; omega
  match ts, one, many, ht with
  | [t], one, _, ht => exact one t rfl ht
  | [], _, many, ht =>
    have ht2 : (match asTup y with
      | some es => tyNames Γ S [] es && decide (([] : List Ty).length ≤ 9)
      | none => false) = true := ht
    split at ht2
    · rename_i l e; exact many l e ht2
    · cases ht2
  | t :: t' :: r, _, many, ht =>
    have ht2 : (match asTup y with
      | some es => tyNames Γ S (t :: t' :: r) es && decide ((t :: t' :: r).length ≤ 9)
      | none => false) = true := ht
    split at ht2
    · rename_i l e; exact many l e ht2
    · cases ht2
/-- one operand -/
theorem snd1 (HX : XOk Γ es C lv S X) {o : O1} {e x : Expr} (h : sub1 Γ S o e = some x) (hp : plainArg x = true) (ha : PE X x (tM X.K es W ma)) : PE X e (tM X.K es W (e1 o ma)) ∧ (o ≠ .not → PT X e (tTM X.K es W (e1 o ma))) := by
  cases o with
  | neg =>
    unfold sub1 at h
    dsimp only at h
    split at h
    · rename_i y e1'
      cases h
      obtain ⟨p, rfl⟩ := asUn_ok e1'
      have q : PE X (.UnaryOp .USub x p) (tM X.K es W (e1 .neg ma)) := PE.weak (pe_un (un1_neg (es := es)) ha) fun _ _ _ q => t1 q
      exact ⟨q, fun _ => pt_default q rfl⟩
    · cases h
  | not =>
    unfold sub1 at h
    dsimp only at h
    split at h
    · rename_i y e1'
      cases h
      obtain ⟨p, rfl⟩ := asUn_ok e1'
      refine ⟨PE.weak (pe_not ha) fun σ H Q q => ?_, fun z => absurd rfl z⟩
      obtain ⟨f, ρ, μ, S, L, h⟩ := q
      refine bindP S L h fun v μ1 f1 H1 x l1 S1 L1 rv h1 => ?_
      cases v with
      | bl b => exact ⟨b, rv, h1.done S1 rfl⟩
      | _ => exact h1.elim
    · cases h
  | len =>
    obtain ⟨p, q, rfl, hf⟩ := bi1_ok h
    have q := call_B1 (p := p) (q := q) HX hf PySem.boot_len (c1_len (es := es)) hp ha
    exact ⟨q, fun _ => pt_default q rfl⟩
  | abs =>
    obtain ⟨p, q, rfl, hf⟩ := bi1_ok h
    have q := call_B1 (p := p) (q := q) HX hf boot_abs (c1_abs (es := es)) hp ha
    exact ⟨q, fun _ => pt_default q rfl⟩
  | int =>
    obtain ⟨p, q, rfl, hf⟩ := bi1_ok h
    have q := call_T1 (p := p) (q := q) HX hf (ty_boot .int) (c1_int (es := es)) hp ha
    exact ⟨q, fun _ => pt_default q rfl⟩
  | toTup =>
    obtain ⟨p, q, rfl, hf⟩ := bi1_ok h
    have q := call_T1 (p := p) (q := q) HX hf (ty_boot .tuple) (c1_tup (es := es)) hp ha
    exact ⟨q, fun _ => pt_default q rfl⟩
  | toLst =>
    obtain ⟨p, q, rfl, hf⟩ := bi1_ok h
    have q := call_T1 (p := p) (q := q) HX hf (ty_boot .list) (c1_lst (es := es)) hp ha
    exact ⟨q, fun _ => pt_default q rfl⟩
  | sum =>
    obtain ⟨p, q, rfl, hf⟩ := bi1_ok h
    have q := call_B1 (p := p) (q := q) HX hf PyProof.Rows.boot_sum (c1_sum (es := es) HX.calm) hp ha
    exact ⟨q, fun _ => pt_default q rfl⟩
  | isN =>
    unfold sub1 at h
    dsimp only at h
    split at h
    · rename_i y z e1'
      split at h
      · rename_i hn
        cases h
        obtain ⟨p, rfl⟩ := asCmp_ok e1'
        obtain ⟨j, p', rfl⟩ := isNone_ok hn
        obtain ⟨q1, q2⟩ := isN_all (es := es) (j := j) (p := p) (p' := p') false ha
        exact ⟨q1, fun _ => q2⟩
      · cases h
    · cases h
  | notN =>
    unfold sub1 at h
    dsimp only at h
    split at h
    · rename_i y z e1'
      split at h
      · rename_i hn
        cases h
        obtain ⟨p, rfl⟩ := asCmp_ok e1'
        obtain ⟨j, p', rfl⟩ := isNone_ok hn
        obtain ⟨q1, q2⟩ := isN_all (es := es) (j := j) (p := p) (p' := p') true ha
        exact ⟨q1, fun _ => q2⟩
      · cases h
    · cases h
  | isi ts =>
    unfold sub1 at h
    dsimp only at h
    split at h
    · rename_i y z e1'
      split at h
      · rename_i hn
        cases h
        rw [Bool.and_eq_true] at hn
        obtain ⟨p, q, rfl, hf⟩ := bi2_ok e1'
        have q := isi_PE (p := p) (q := q) HX hf hn.1 hp hn.2 ha
        exact ⟨q, fun _ => pt_default q rfl⟩
      · cases h
    · cases h
  | pop =>
    obtain ⟨p, q, rfl, hl, hb⟩ := me0_ok h
    have q := meth_pop hb hl ha
    exact ⟨q, fun _ => pt_default q rfl⟩
/-- two operands -/
theorem snd2 (HX : XOk Γ es C lv S X) {o : O2} {e x y : Expr} (h : sub2 Γ S o e = some (x, y)) (hp : plainArg x = true) (hq : plainArg y = true) (ha : PE X x (tM X.K es W ma)) (hb : PE X y (tM X.K es W mb)) : PE X e (tM X.K es W (e2 o ma mb)) ∧ PT X e (tTM X.K es W (e2 o ma mb)) := by
  unfold sub2 at h
  split at h
  · rename_i op ho
    split at h
    · rename_i a op' b e1'
      split at h
      · rename_i hc
        cases h
        obtain ⟨p, rfl⟩ := asBin_ok e1'
        rw [binEq_ok hc]
        have q : PE X (.BinOp x op y p) (tM X.K es W (e2 o ma mb)) := PE.weak (pe_op (bin_op (es := es) ho) ha hb) fun _ _ _ q => tOp2 q
        exact ⟨q, pt_default q rfl⟩
      · cases h
    · cases h
  · split at h
    · rename_i op ho
      split at h
      · rename_i a op' b e1'
        split at h
        · rename_i hc
          cases h
          rw [Bool.and_eq_true] at hc
          obtain ⟨p, rfl⟩ := asCmp_ok e1'
          rw [cmpEq_ok hc.1]
          exact ⟨cmp_PE (cmp_op HX ho) ha hb (marks_no hc.2), cmp_PT (cmp_op HX ho) ha hb (marks_no hc.2)⟩
        · cases h
      · cases h
    · split at h
      · obtain ⟨p, rfl⟩ := asSub_ok h
        have q : PE X (.Subscript x y p) (tM X.K es W (e2 .idx ma mb)) := PE.weak (pe_ix (op2_idx (es := es)) ha hb (plain_ix hq)) fun _ _ _ q => tOp2 q
        exact ⟨q, pt_default q rfl⟩
      · obtain ⟨p, q, rfl, hl, hb'⟩ := me1_ok h
        have q := meth_1 PySem.F.slot_list_append PySem.F.type_list_append (m_append (es := es)) (.inl rfl) hb' hl hq ha hb
        exact ⟨q, pt_default q rfl⟩
      · obtain ⟨p, q, rfl, hl, hb'⟩ := me1_ok h
        have q := meth_1 PySem.F.slot_list_extend PySem.F.type_list_extend (m_extend (es := es)) (.inr (.inl rfl)) hb' hl hq ha hb
        exact ⟨q, pt_default q rfl⟩
      · obtain ⟨p, q, rfl, hl, hb'⟩ := me1_ok h
        have q := meth_1 PySem.F.slot_list_pop PySem.F.type_list_pop (m_popAt (es := es)) (.inr (.inr (.inl rfl))) hb' hl hq ha hb
        exact ⟨q, pt_default q rfl⟩
      · obtain ⟨p, q, rfl, hl, hb'⟩ := me1_ok h
        have q := meth_1 PySem.F.slot_list_index PySem.F.type_list_index (m_index (es := es) (by have := HX.room.un; omega)) (.inr (.inr (.inr rfl))) hb' hl hq ha hb
        exact ⟨q, pt_default q rfl⟩
      · obtain ⟨p, q, rfl, hf⟩ := bi2_ok h
        have q := call_B2 (p := p) (q := q) HX hf PyProof.Rows.boot_min (c2_min (es := es) HX.calm) hp hq ha hb
        exact ⟨q, pt_default q rfl⟩
      · obtain ⟨p, q, rfl, hf⟩ := bi2_ok h
        have q := call_B2 (p := p) (q := q) HX hf PyProof.Rows.boot_max (c2_max (es := es) HX.calm) hp hq ha hb
        exact ⟨q, pt_default q rfl⟩
      · split at h
        · rename_i a lo e1'
          cases h
          obtain ⟨p, q, rfl⟩ := asSl_ok e1'
          have q := slice_F (p := p) (q := q) ha hb
          exact ⟨q, pt_default q rfl⟩
        · cases h
      · split at h
        · rename_i a hi e1'
          cases h
          obtain ⟨p, q, rfl⟩ := asSl_ok e1'
          have q := slice_T (p := p) (q := q) ha hb
          exact ⟨q, pt_default q rfl⟩
        · cases h
      · cases h
theorem snd3 (HX : XOk Γ es C lv S X) {o : O3} {e x y z : Expr} (h : sub3 Γ S o e = some (x, y, z)) (ha : PE X x (tM X.K es W ma)) (hb : PE X y (tM X.K es W mb)) (hc : PE X z (tM X.K es W mc)) : PE X e (tM X.K es W (e3 o ma mb mc)) ∧ PT X e (tTM X.K es W (e3 o ma mb mc)) := by
  cases o with
  | slice =>
    unfold sub3 at h
    dsimp only at h
    split at h
    · rename_i a lo hi e1'
      cases h
      obtain ⟨p, q, rfl⟩ := asSl_ok e1'
      have q := slice_3 (p := p) (q := q) ha hb hc
      exact ⟨q, pt_default q rfl⟩
    · cases h

/-! ### targets -/
theorem nm_PG (HX : XOk Γ es C lv S X) {i : Nat} {e : Expr} (h : chkNm S i e = true) : PG X e (gName i) := by
  unfold chkNm at h
  split at h
  · rename_i x e1'
    obtain ⟨p, rfl⟩ := asName_ok e1'
    simp only [Bool.and_eq_true, Bool.or_eq_true, decide_eq_true_eq] at h
    obtain ⟨⟨h1, h2⟩, h3⟩ := h
    refine pg_name (by rw [HX.hN]; exact HX.nd) (by rw [HX.hN]; exact h1) (by rw [HX.hsc]; exact locB_ok h2) ?_
    rcases h3 with h3 | h3
    · exact .inl (by rw [HX.hfn]; exact h3)
    · exact .inr (by rw [HX.hsc]; exact h3)
  · cases h
/-- several names -/
def gNs : List Nat → TGs
  | [] => gNil
  | i :: is => gCons (gName i) (gNs is)
theorem ns_plain : ∀ {is : List Nat} {l : List Expr}, chkNs S is l = true → l.all plainArg = true
  | [], [], _ => rfl
  | i :: is, e :: l, h => by
    have h' : (chkNm S i e && chkNs S is l) = true := h
    rw [Bool.and_eq_true] at h'
    have hp : plainArg e = true := by
      have := h'.1
      unfold chkNm at this
      cases e <;> first | rfl | cases this
    rw [List.all_cons, hp, ns_plain h'.2]; rfl
  | [], _ :: _, h => by cases h
  | _ :: _, [], h => by cases h
theorem each_cons {e : Expr} (h : plainArg e = true) (l : List Expr) (env : Env) : assignEach (e :: l) env = (false, assign e env) :: assignEach l env := by
  cases e <;> first | rfl | cases h
theorem each_len {env : Env} : ∀ {l : List Expr}, l.all plainArg = true → (assignEach l env).length = l.length
  | [], _ => rfl
  | e :: l, h => by
    rw [List.all_cons, Bool.and_eq_true] at h
    rw [each_cons h.1, List.length_cons, List.length_cons, each_len h.2]
theorem each_none {env : Env} : ∀ {l : List Expr}, l.all plainArg = true → (assignEach l env).findIdx? (·.1) = none
  | [], _ => rfl
  | e :: l, h => by
    rw [List.all_cons, Bool.and_eq_true] at h
    rw [each_cons h.1, List.findIdx?_cons]
    simp [each_none h.2]
theorem ns_PGs (HX : XOk Γ es C lv S X) : ∀ {is : List Nat} {l : List Expr}, chkNs S is l = true → PGs X l (gNs is)
  | [], [], _ => pgs_nil
  | i :: is, e :: l, h => by
    have hp := ns_plain h
    have h' : (chkNm S i e && chkNs S is l) = true := h
    rw [Bool.and_eq_true] at h'
    rw [List.all_cons, Bool.and_eq_true] at hp
    exact pgs_cons (nm_PG HX h'.1) (ns_PGs HX h'.2) (by rw [each_cons hp.1]; rfl)
  | [], _ :: _, h => by cases h
  | _ :: _, [], h => by cases h
theorem ns_len : ∀ {is : List Nat} {l : List Expr}, chkNs S is l = true → l.length = is.length
  | [], [], _ => rfl
  | i :: is, e :: l, h => by
    have h' : (chkNm S i e && chkNs S is l) = true := h
    rw [Bool.and_eq_true] at h'
    rw [List.length_cons, List.length_cons, ns_len h'.2]
  | [], _ :: _, h => by cases h
  | _ :: _, [], h => by cases h
/-- a target's reading -/
def gT (K : PySem.W.Frag) : MT → TG
  | .nm i => gName i
  | .tp is => gTup K is.length (gNs is)
theorem tg_PG (HX : XOk Γ es C lv S X) {tg : MT} {e : Expr} (h : chkTg S tg e = true) : PG X e (gT X.K tg) := by
  cases tg with
  | nm i => exact nm_PG HX h
  | tp is =>
    have h' : (match asTup e with
      | some l => chkNs S is l
      | none => false) = true := h
    split at h'
    · rename_i l e1'
      obtain ⟨k, p, rfl⟩ := asTup_ok e1'
      exact pg_tup HX.calm (ns_PGs HX h') (by rw [each_len (ns_plain h'), ns_len h']) (each_none (ns_plain h'))
    · cases h'
theorem gNs_set {K : PySem.W.Frag} {f : List Addr} {H : Hp} {Q : L2.St → Hp → Prop} : ∀ {is : List Nat} {vs : List Val} {xs : List V} {ρ : Loc} {σ : L2.St}, LR K f H ρ σ → VRs K f H vs xs → vs.length = is.length → (∀ σ', LR K f H (setAll is vs ρ) σ' → (∀ w, (∀ i ∈ is, i ∈ w) → wipe σ' w = wipe σ w) → Q σ' H) → gNs is xs σ H Q
  | [], [], _, ρ, σ, L, r, _, h => by rw [show _ = [] from r]; exact ⟨rfl, h σ L (fun _ _ => rfl)⟩
  | i :: is, v :: vs, _, ρ, σ, L, ⟨x, xs, e, rv, t⟩, hl, h => by
    subst e
    refine ⟨x, xs, rfl, ?_⟩
    refine gNs_set (L.set rv) t (by simpa using hl) fun σ' L' hw => h σ' L' fun w hi => ?_
    rw [hw w (fun j hj => hi j (List.mem_cons_of_mem _ hj))]
    exact wipe_set w (hi i (List.mem_cons_self ..))
  | [], _ :: _, _, _, _, _, _, hl, _ => by cases hl
  | _ :: _, [], _, _, _, _, _, hl, _ => by cases hl
where
  wipe_set {i : Nat} {o : Option V} {σ : L2.St} (w : List Nat) (h : i ∈ w) : wipe (σ.set i o) w = wipe σ w := by
    induction w with
    | nil => cases h
    | cons j w ih =>
      unfold wipe
      by_cases hj : i = j
      · subst hj
        by_cases hw : i ∈ w
        · rw [ih hw]
        · have : ∀ w : List Nat, i ∉ w → wipe (σ.set i o) w = (wipe σ w).set i o := by
            intro w
            induction w with
            | nil => intro _; rfl
            | cons k w ih2 =>
              intro hn
              rw [List.mem_cons, not_or] at hn
              unfold wipe
              rw [ih2 hn.2, List.set_comm _ _ hn.1]
          rw [this w hw, List.set_set]
      · have hw : i ∈ w := by
          rcases List.mem_cons.mp h with h | h
          · exact absurd h hj
          · exact h
        rw [ih hw]
theorem wipe_set {i : Nat} {o : Option V} {σ : L2.St} (w : List Nat) (h : i ∈ w) : wipe (σ.set i o) w = wipe σ w := gNs_set.wipe_set w h
def tgs : MT → List Nat
  | .nm i => [i]
  | .tp is => is
/-- a target takes a value -/
theorem gT_set {K : PySem.W.Frag} {f : List Addr} {H : Hp} {Q : L2.St → Hp → Prop} {tg : MT} {v : Val} {x : V} {ρ ρ' : Loc} {σ : L2.St} (L : LR K f H ρ σ) (r : VR K f H v x) (h : bindT tg v ρ = some ρ') (hQ : ∀ σ', LR K f H ρ' σ' → (∀ w, (∀ i ∈ tgs tg, i ∈ w) → wipe σ' w = wipe σ w) → Q σ' H) : gT K tg x σ H Q := by
  cases tg with
  | nm i =>
    cases (show some (ρ.set i (some v)) = some ρ' from h)
    exact hQ _ (L.set r) fun w hw => wipe_set w (hw i (List.mem_cons_self ..))
  | tp is =>
    cases v with
    | tup vs =>
      have h' : (if vs.length = is.length then some (setAll is vs ρ) else none) = some ρ' := h
      by_cases hl : vs.length = is.length
      · rw [if_pos hl] at h'
        cases h'
        obtain ⟨a, xs, rfl, hq, t⟩ := r
        exact ⟨a, xs, rfl, hq, by rw [t.length, hl], gNs_set L t hl fun σ' L' hw => hQ σ' L' hw⟩
      · rw [if_neg hl] at h'; cases h'
    | _ => cases h
end
end Mi
end

section
set_option Elab.async false
set_option linter.all false
set_option maxRecDepth 100000
set_option autoImplicit false
set_option maxHeartbeats 1000000
/-! Sound8: comprehensions; the whole of expressions. -/
namespace Mi
open PySem PySem.Spec L2
open PyProof.Rows hiding St
/-! ### slots forgotten -/
def wipeL (ρ : Loc) : List Nat → Loc
  | [] => ρ
  | v :: vs => (wipeL ρ vs).set v none
theorem LR.wipe {K : PySem.W.Frag} {f : List Addr} {H : Hp} {ρ : Loc} {σ : L2.St} (L : LR K f H ρ σ) : ∀ w : List Nat, LR K f H (wipeL ρ w) (L2.wipe σ w)
  | [] => L
  | v :: w => by
    have ih := LR.wipe L w
    unfold wipeL L2.wipe
    refine ⟨by simp [ih.len], fun i u e => ?_⟩
    by_cases hi : v = i
    · subst hi
      by_cases hl : v < (wipeL ρ w).length
      · rw [List.getElem?_set_self hl] at e; cases e
      · rw [List.getElem?_eq_none (by simpa using hl)] at e; cases e
    · rw [List.getElem?_set_ne hi] at e
      obtain ⟨x, q, r⟩ := ih.get i u e
      exact ⟨x, by rw [List.getElem?_set_ne hi]; exact q, r⟩
theorem wipe_idem (σ : L2.St) : ∀ w : List Nat, (∀ v : List Nat, (∀ i ∈ w, i ∈ v) → wipe (wipe σ w) v = wipe σ v)
  | [], _, _ => rfl
  | i :: w, v, h => by
    show wipe ((wipe σ w).set i none) v = _
    rw [wipe_set v (h i (List.mem_cons_self ..))]
    exact wipe_idem σ w v fun j hj => h j (List.mem_cons_of_mem _ hj)
theorem setAll_wipe1 : ∀ {is : List Nat} {vs : List Val} {ρ : Loc} {j : Nat}, vs.length = is.length → j ∈ is → setAll is vs (ρ.set j none) = setAll is vs ρ
  | [], _, _, _, _, h => by cases h
  | i :: is, [], _, _, hl, _ => by cases hl
  | i :: is, v :: vs, ρ, j, hl, h => by
    show setAll is vs ((ρ.set j none).set i (some v)) = setAll is vs (ρ.set i (some v))
    by_cases e : j = i
    · subst e; rw [List.set_set]
    · rw [List.set_comm _ _ e]
      refine setAll_wipe1 (by simpa using hl) ?_
      rcases List.mem_cons.mp h with h | h
      · exact absurd h e
      · exact h
theorem setAll_wipe {is : List Nat} {vs : List Val} {ρ : Loc} (hl : vs.length = is.length) : ∀ w : List Nat, (∀ i ∈ w, i ∈ is) → setAll is vs (wipeL ρ w) = setAll is vs ρ
  | [], _ => rfl
  | j :: w, h => by
    show setAll is vs ((wipeL ρ w).set j none) = _
    rw [setAll_wipe1 hl (h j (List.mem_cons_self ..))]
    exact setAll_wipe hl w fun i hi => h i (List.mem_cons_of_mem _ hi)
theorem bindT_wipe {tg : MT} {v : Val} {ρ : Loc} : bindT tg v (wipeL ρ (tgs tg)) = bindT tg v ρ := by
  cases tg with
  | nm i =>
    show some (((ρ.set i none)).set i (some v)) = some (ρ.set i (some v))
    rw [List.set_set]
  | tp is =>
    cases v with
    | tup vs =>
      show (if vs.length = is.length then some (setAll is vs (wipeL ρ is)) else none) = (if vs.length = is.length then some (setAll is vs ρ) else none)
      by_cases hl : vs.length = is.length
      · rw [if_pos hl, if_pos hl, setAll_wipe hl is fun _ h => h]
      · rw [if_neg hl, if_neg hl]
    | _ => rfl
theorem guard_items {src : Val} {xs : List Val} {μ : Sto} (h : items μ src = some xs) : guard src xs μ = true := by
  cases src with
  | ref n =>
    have h' : (match μ[n]? with | some (.lst vs) => some vs | _ => none) = some xs := h
    split at h'
    · rename_i vs e
      cases h'
      exact decide_eq_true e
    · cases h'
  | _ => rfl
/-- a list that is made beside the store -/
theorem Le.side {f1 f : List Addr} {H1 H : Hp} {D : Addr} {o : HO} (l : Le f1 H1 f H) (h : H1 D = none) : Le f1 H1 f (upd H D o) :=
  ⟨l.pre, ⟨fun b xs e => by rw [upd_ne (ne_of_none e h)]; exact l.kp.tup b xs e, fun b x u e => by rw [upd_ne (ne_of_none e h)]; exact l.kp.frz b x u e⟩,
    fun b u hb e => let ⟨e1, h1⟩ := l.oth b u hb e; ⟨by rw [upd_ne (ne_of_none e h)]; exact e1, h1⟩⟩
/-- .. and comes into it -/
theorem Le.join {f1 f : List Addr} {H1 H : Hp} {D : Addr} (l : Le f1 H1 f H) (h : H1 D = none) : Le f1 H1 (f ++ [D]) H :=
  ⟨l.pre.trans ⟨[D], rfl⟩, l.kp, fun b u hb e => let ⟨e1, h1⟩ := l.oth b u hb e; ⟨e1, by simp [h1, ne_of_none e h]⟩⟩
theorem SR.join {K : PySem.W.Frag} {f : List Addr} {μ : Sto} {H : Hp} {D : Addr} {vs : List Val} {xs : List V} (S : SR K f μ H) (hD : D ∉ f) (hH : H D = some (.lst xs)) (t : VRs K f H vs xs) : SR K (f ++ [D]) (μ ++ [.lst vs]) H := by
  have mono : ∀ (v : Val) (x : V), VR K f H v x → VR K (f ++ [D]) H v x := fun v x r => VR.mono0 v x r
  have monos : ∀ (v : List Val) (x : List V), VRs K f H v x → VRs K (f ++ [D]) H v x := fun v x r => VRs.mono0 v x r
  refine ⟨by simp [S.len], ?_, fun n c a h1 h2 => ?_⟩
  · rw [List.nodup_append]
    exact ⟨S.nd, by simp, fun a ha b hb e => hD (by rw [← List.mem_singleton.mp hb, ← e]; exact ha)⟩
  · by_cases hn : n < f.length
    · rw [List.getElem?_append_left hn] at h2
      rw [List.getElem?_append_left (by rw [← S.len]; exact hn)] at h1
      have q := S.cell n c a h1 h2
      cases c with
      | lst ws => obtain ⟨ys, q1, q2⟩ := q; exact ⟨ys, q1, monos _ _ q2⟩
      | dict _ => exact q.elim
      | ins _ _ => exact q.elim
    · have e : n = f.length := by
        have := (List.getElem?_eq_some_iff.mp h2).1
        simp at this
        omega
      subst e
      rw [List.getElem?_append_right (Nat.le_refl _)] at h2
      rw [S.len, List.getElem?_append_right (Nat.le_refl _)] at h1
      simp at h1 h2
      subst h1 h2
      exact ⟨xs, hH, monos _ _ t⟩

abbrev W0 : WX := fun _ _ _ _ => False
/-- no exception leaves a comprehension's block -/
theorem takesW0 {X : Cx} : Takes X W0 := takes0
/-- the ends of a comprehension -/
def eC (tg : MT) (mi mc me : Loc → Sto → Out Val) : Loc → Sto → Out Val := fun ρ μ => (mi ρ μ).bind fun src μ1 => match items μ1 src with
    | some xs => if xs.length ≤ LIM then (compL (fun v => bindT tg v ρ) mc me src xs xs μ1).bind fun ys μ2 => newLst ys μ2 else .fail
    | none => .fail
/-- the tests of a clause: none, or one -/
def ttOk (K : PySem.W.Frag) (es : List EC) (tt : TT) (mc : Loc → Sto → Out Val) : Prop := ∀ σ H Q, tTM K es W0 mc σ H Q → tt σ H Q
theorem lc_read {K : PySem.W.Frag} {es : List EC} {W : WX} {tg : MT} {mi mc me : Loc → Sto → Out Val} {tt : TT} (ht : ttOk K es tt mc) {σ : L2.St} {H : Hp} {Q : VK} {vs : List Nat} (hv : vs = tgs tg) (h : tM K es W (eC tg mi mc me) σ H Q) :
    tLc (iM K es W mi) (gT K tg) tt (tM K es W0 me) vs σ H Q := by
  subst hv
  obtain ⟨f, ρ, μ, S, L, h⟩ := h
  refine ⟨f, ρ, μ, S, L, ?_⟩
  cases e : mi ρ μ with
  | exc c fs μ1 =>
    have h' : Post K es W σ f H ((mi ρ μ).bind _) Q := h
    rw [e] at h'; exact h'
  | fail =>
    have h' : Post K es W σ f H ((mi ρ μ).bind _) Q := h
    rw [e] at h'; exact h'.elim
  | ok src μ1 =>
    have h' : Post K es W σ f H ((mi ρ μ).bind _) Q := h
    rw [e] at h'
    have h1 : Post K es W σ f H (match items μ1 src with
      | some xs => if xs.length ≤ LIM then (compL (fun v => bindT tg v ρ) mc me src xs xs μ1).bind fun ys μ2 => newLst ys μ2 else .fail
      | none => .fail) Q := h'
    split at h1
    · rename_i xs hi
      obtain ⟨hlim, h2⟩ := Post.ite h1
      refine ⟨xs, hi, fun f1 H1 J l1 S1 J1 D hD => ?_⟩
      have h3 := Post.mono l1 h2
      have hDf : D ∉ f1 := fun z => by
        obtain ⟨o, q⟩ := S1.mem z
        rw [hD] at q; cases q
      -- the invariant
      refine ⟨fun i m H' => m = xs.length - i ∧ i ≤ xs.length ∧ ∃ f' μ' acc accV, Le f1 H1 f' H' ∧ D ∉ f' ∧ SR K f' μ' H' ∧ H' D = some (.lst accV) ∧ VRs K f' H' acc accV ∧ acc.length ≤ i ∧ guard src xs μ' = true ∧
        Post K es W σ f1 H1 ((compL (fun v => bindT tg v ρ) mc me src xs (xs.drop i) μ').bind fun ys μ2 => newLst (acc ++ ys) μ2) Q,
        ⟨xs.length, by simp, Nat.zero_le _, f1, μ1, [], [], (Le.refl f1 H1).side hD, hDf, S1.beside hD, upd_same, rfl, Nat.le_refl _, guard_items hi, by simpa using h3⟩, ?_⟩
      rintro i m H' ⟨rfl, hile, f', μ', acc, accV, l', hDf', S', hDl, tacc, hacc, hg, hP⟩
      by_cases hlt : i < xs.length
      · refine .inr ⟨J1.go i f' μ' H' l' S' hg hlt, fun H'' => ∃ f' μ' acc accV, Le f1 H1 f' H'' ∧ D ∉ f' ∧ SR K f' μ' H'' ∧ H'' D = some (.lst accV) ∧ VRs K f' H'' acc accV ∧ acc.length ≤ i + 1 ∧ guard src xs μ' = true ∧
          Post K es W σ f1 H1 ((compL (fun v => bindT tg v ρ) mc me src xs (xs.drop (i + 1)) μ').bind fun ys μ2 => newLst (acc ++ ys) μ2) Q, fun H'' q => ⟨xs.length - (i + 1), by omega, rfl, hlt, q⟩, fun x H2 y => ?_⟩
        obtain ⟨v, hv, rv, S2, l2⟩ := J1.yl i f' μ' H' x H2 l' S' hg hlt y
        have hd : xs.drop i = v :: xs.drop (i + 1) := by
          rw [List.drop_eq_getElem_cons hlt]
          congr 1
          rw [List.getElem?_eq_getElem hlt] at hv
          exact Option.some.inj hv
        rw [hd] at hP
        have l1' := l'.trans l2
        have hD2 : H2 D = some (.lst accV) := (l2.oth D _ hDf' hDl).1
        have tacc2 := VRs.mono l2 _ _ tacc
        cases hb : bindT tg v ρ with
        | none =>
          exfalso
          have : compL (fun v => bindT tg v ρ) mc me src xs (v :: xs.drop (i + 1)) μ' = .fail := by
            unfold compL; simp only [hb]
          rw [this] at hP; exact hP
        | some ρ' =>
          have L2' : LR K f' H2 (wipeL ρ (tgs tg)) (wipe σ (tgs tg)) := ((L.mono (l1.trans l1')).wipe _)
          refine gT_set L2' rv (by rw [bindT_wipe]; exact hb) fun σ2 Lσ hw => ⟨?_, ht σ2 H2 _ ⟨f', ρ', μ', S2, Lσ, ?_⟩⟩
          · rw [hw _ fun i h => h, wipe_idem σ _ _ fun i h => h]
          · cases hc : mc ρ' μ' with
            | fail =>
              have : compL (fun v => bindT tg v ρ) mc me src xs (v :: xs.drop (i + 1)) μ' = .fail := by
                unfold compL; simp only [hb, hc]
              rw [this] at hP; exact hP
            | exc c fs μ2 =>
              have : compL (fun v => bindT tg v ρ) mc me src xs (v :: xs.drop (i + 1)) μ' = .fail := by
                unfold compL; simp only [hb, hc]
              rw [this] at hP; exact hP.elim
            | ok u μ2 =>
              cases u with
              | bl b =>
                intro f3 H3 l3 S3
                have hD3 : H3 D = some (.lst accV) ∧ D ∉ f3 := l3.oth D _ hDf' hD2
                have tacc3 := VRs.mono l3 _ _ tacc2
                cases b with
                | false =>
                  have e2 : compL (fun v => bindT tg v ρ) mc me src xs (v :: xs.drop (i + 1)) μ' = if guard src xs μ2 then compL (fun v => bindT tg v ρ) mc me src xs (xs.drop (i + 1)) μ2 else .fail := by
                    conv => lhs; unfold compL
                    simp only [hb, hc]
                  rw [e2] at hP
                  by_cases hg2 : guard src xs μ2 = true
                  · rw [if_pos hg2] at hP
                    rw [if_neg (by decide)]
                    exact ⟨f3, μ2, acc, accV, l1'.trans l3, hD3.2, S3, hD3.1, tacc3, by omega, hg2, hP⟩
                  · rw [if_neg hg2] at hP; exact hP.elim
                | true =>
                  rw [if_pos rfl]
                  refine ⟨f3, ρ', μ2, S3, Lσ.mono l3, ?_⟩
                  cases he : me ρ' μ2 with
                  | fail =>
                    have : compL (fun v => bindT tg v ρ) mc me src xs (v :: xs.drop (i + 1)) μ' = .fail := by
                      unfold compL; simp only [hb, hc, he]
                    rw [this] at hP; exact hP
                  | exc c fs μ3 =>
                    have : compL (fun v => bindT tg v ρ) mc me src xs (v :: xs.drop (i + 1)) μ' = .fail := by
                      unfold compL; simp only [hb, hc, he]
                    rw [this] at hP; exact hP.elim
                  | ok y μ3 =>
                    intro f4 H4 yv l4 S4 ry
                    have hD4 : H4 D = some (.lst accV) ∧ D ∉ f4 := l4.oth D _ hD3.2 hD3.1
                    have tacc4 := VRs.mono l4 _ _ tacc3
                    have e2 : compL (fun v => bindT tg v ρ) mc me src xs (v :: xs.drop (i + 1)) μ' = if guard src xs μ3 then (match compL (fun v => bindT tg v ρ) mc me src xs (xs.drop (i + 1)) μ3 with
                        | .ok ys μ4 => .ok (y :: ys) μ4
                        | _ => .fail) else .fail := by
                      conv => lhs; unfold compL
                      simp only [hb, hc, he]
                      try rfl
                    rw [e2] at hP
                    by_cases hg2 : guard src xs μ3 = true
                    · rw [if_pos hg2] at hP
                      have lD := (l1'.trans (l3.trans l4)).side (o := .lst (accV ++ [yv])) hD
                      have hne : ∀ a ∈ f4, a ≠ D := fun a ha e => hD4.2 (by rw [← e]; exact ha)
                      have S5 : SR K f4 μ3 (upd H4 D (.lst (accV ++ [yv]))) := ⟨S4.len, S4.nd, fun n c a h1 h2 => by
                        have q := S4.cell n c a h1 h2
                        have ha := hne a (List.mem_of_getElem? h2)
                        cases c with
                        | lst ws =>
                          obtain ⟨ys, q1, q2⟩ := q
                          exact ⟨ys, by rw [upd_ne ha]; exact q1, VRs.monoK (Keep.lst hD4.1) _ _ q2⟩
                        | dict _ => exact q.elim
                        | ins _ _ => exact q.elim⟩
                      refine ⟨accV, hD4.1, by have hL : LIM = 16777216 := rfl; rw [tacc4.length, sizeLine_eq]; omega, f4, μ3, acc ++ [y], accV ++ [yv], lD, hD4.2, S5, upd_same, VRs.monoK (Keep.lst hD4.1) _ _ (tacc4.append ⟨yv, [], rfl, ry, rfl⟩), by simp; omega, hg2, ?_⟩
                      cases hcl : compL (fun v => bindT tg v ρ) mc me src xs (xs.drop (i + 1)) μ3 with
                      | ok ys μ4 =>
                        rw [hcl] at hP
                        have hP' : Post K es W σ f1 H1 (newLst (acc ++ (y :: ys)) μ4) Q := hP
                        show Post K es W σ f1 H1 (newLst ((acc ++ [y]) ++ ys) μ4) Q
                        rw [List.append_assoc]
                        exact hP'
                      | exc c fs μ4 => rw [hcl] at hP; exact hP.elim
                      | fail => rw [hcl] at hP; exact hP.elim
                    · rw [if_neg hg2] at hP; exact hP.elim
              | _ =>
                exfalso
                have : compL (fun v => bindT tg v ρ) mc me src xs (v :: xs.drop (i + 1)) μ' = .fail := by
                  unfold compL; simp only [hb, hc]
                rw [this] at hP; exact hP
      · have hi' : i = xs.length := by omega
        refine .inl ⟨J1.st i f' μ' H' l' S' hg (by omega), ?_⟩
        rw [hi', List.drop_length] at hP
        have hP' : Post K es W σ f1 H1 (newLst (acc ++ []) μ') Q := hP
        rw [List.append_nil] at hP'
        exact hP' (f' ++ [D]) H' (.ref D) (l'.join hD) (S'.join hDf' hDl tacc) ⟨D, by rw [← S'.len]; simp, rfl⟩
    · exact h1.elim
end Mi
end

section
set_option Elab.async false
set_option linter.all false
set_option maxRecDepth 100000
set_option autoImplicit false
set_option maxHeartbeats 1000000
/-! Sound9: the whole of expressions. -/
namespace Mi
open PySem PySem.Spec L2
open PyProof.Rows hiding St
section
variable {Γ : Gam} {es : List EC} {C : CallF} {lv : Nat} {S : SS} {X : Cx} {W : WX} {ma mb mc : Loc → Sto → Out Val}
/-- what holds of a term: as a value, as a test, as what is walked, as an argument list -/
structure Snd (Γ : Gam) (es : List EC) (C : CallF) (lv : Nat) (m : ME) : Prop where
  e : ∀ {S X W e}, XOk Γ es C lv S X → Takes X W → chk Γ S m e = true → vE m = true → PE X e (tM X.K es W (ev C m))
  t : ∀ {S X W e}, XOk Γ es C lv S X → Takes X W → chk Γ S m e = true → vE m = true → tstM m = true → PT X e (tTM X.K es W (ev C m)) ∧ ∀ o l p, e = .BoolOp o l p → PW X e (tTM X.K es W (ev C m))
  i : ∀ {S X W e}, XOk Γ es C lv S X → Takes X W → chk Γ S m e = true → ∀ tg, PI X tg e (iM X.K es W (ev C m))
  a : ∀ {S X W l}, XOk Γ es C lv S X → Takes X W → chkA Γ S m l = true → PA X l (tMA X.K es W (ev C m))
  k : ∀ {S X W} {kws : List Keyword}, XOk Γ es C lv S X → Takes X W → chkA Γ S m (kws.map (·.value)) = true → PK X kws (tMA X.K es W (ev C m))
theorem PK.weak {X : Cx} {e : List Keyword} {t t' : TA} (h : PK X e t) (k : ∀ σ H Q, t' σ H Q → t σ H Q) : PK X e t' := ⟨fun pos pins s σ H Q I q => h.run pos pins s σ H Q I (k σ H Q q)⟩
/-- a term that has a value: what is left to be shown -/
theorem Snd.val {m : ME} (hv : vE m = true) (he : ∀ {S X W e}, XOk Γ es C lv S X → Takes X W → chk Γ S m e = true → PE X e (tM X.K es W (ev C m)))
    (ht : ∀ {S X W e}, XOk Γ es C lv S X → Takes X W → chk Γ S m e = true → tstM m = true → PT X e (tTM X.K es W (ev C m)) ∧ ∀ o l p, e = .BoolOp o l p → PW X e (tTM X.K es W (ev C m))) (ha : ∀ S l, chkA Γ S m l = false) : Snd Γ es C lv m :=
  ⟨fun h1 h2 h3 _ => he h1 h2 h3, fun h1 h2 h3 _ h5 => ht h1 h2 h3 h5, fun h1 h2 h3 tg => PI.weak (pi_any (he h1 h2 h3)) fun _ _ _ q => iM_any q, fun h1 h2 h3 => (by rw [ha] at h3; cases h3), fun h1 h2 h3 => (by rw [ha] at h3; cases h3)⟩
theorem noBool {e : Expr} (h : byVal e = true) {P : Prop} : ∀ o l p, e = .BoolOp o l p → P := fun o l p z => by subst z; cases h
theorem noBoolC {a : Expr} {l : List CmpOp} {m : List Expr} {q : Pos} {P : Prop} : ∀ o l' p, Expr.Compare a l m q = .BoolOp o l' p → P := fun o l p z => by cases z
theorem pa_read {K : PySem.W.Frag} {σ : L2.St} {H : Hp} {Q : List V → Hp → Prop} (h : tMA K es W (fun ρ μ => (ma ρ μ).bind fun x μ1 => (mb ρ μ1).bind fun ys μ2 => match ys with
    | .tup vs => .ok (.tup (x :: vs)) μ2
    | _ => .fail) σ H Q) : tCons (tM K es W ma) (tMA K es W mb) σ H Q := by
  obtain ⟨f, ρ, μ, S, L, h⟩ := h
  refine ⟨f, ρ, μ, S, L, ?_⟩
  cases e : ma ρ μ with
  | exc c fs μ1 => simp only [e, Out.bind_exc] at h; exact h
  | fail => simp only [e, Out.bind_fail] at h
  | ok v μ1 =>
    simp only [e, Out.bind_ok] at h
    intro f1 H1 x l1 S1 rv
    refine ⟨f1, ρ, μ1, S1, L.mono l1, ?_⟩
    cases e2 : mb ρ μ1 with
    | exc c fs μ2 =>
      simp only [e2, Out.bind_exc] at h
      exact fun f' H' cls d l' S' r => h f' H' cls d (l1.trans l') S' r
    | fail => simp only [e2, Out.bind_fail] at h
    | ok ys μ2 =>
      simp only [e2, Out.bind_ok] at h
      cases ys with
      | tup vs => exact fun f' H' xs l' S' t => h f' H' (x :: xs) (l1.trans l') S' ⟨x, xs, rfl, VR.mono l' _ _ rv, t⟩
      | _ => exact h.elim
/-- a call's reading -/
theorem call_read {K : PySem.W.Frag} {F : List Val → Sto → Out Val} {n : Nat} (har : ∀ vs μ, vs.length ≠ n → F vs μ = .fail) {σ : L2.St} {H : Hp} {Q : VK} (h : tM K es W (fun ρ μ => (ma ρ μ).bind fun ys μ1 => match ys with
    | .tup vs => F vs μ1
    | _ => .fail) σ H Q) : tCallS (spM K es n F) (WE W) (tMA K es W ma) σ H Q := by
  obtain ⟨f, ρ, μ, S, L, h⟩ := h
  refine bindPA S L (fun v μ1 hn => by cases v <;> first | rfl | exact absurd rfl (hn _)) h fun vs μ1 f1 H1 xs l1 S1 L1 t h1 => ?_
  have h1' : Post K es W σ f1 H1 (F vs μ1) Q := h1
  refine ⟨f1, μ1, vs, S1, t, ?_, ?_⟩
  · by_cases e : vs.length = n
    · exact e
    · rw [har vs μ1 e] at h1'; exact h1'.elim
  · cases e : F vs μ1 with
    | ok v μ2 => rw [e] at h1'; exact h1'
    | exc c fs μ2 => rw [e] at h1'; exact h1'
    | fail => rw [e] at h1'; exact h1'
theorem pe_callS0 {CX : CXT} {k : Nat} {f : Addr} {fd : FuncData} {ps : List Str} {sp : Sp} {E : L2.St → XK} {x : Str} {p pos : Pos} (F : FnOk X.prog X.w X.K X.mg X.base CX k f fd ps sp) (hr : Room k X.A) (hg : Gl X x) (hm : X.mg x = some (.ref f)) (hk : PySem.W.keepIn X.K (.ref f) = true) (hb : Binds X.K fd ps [])
    (hx : ∀ σ, PassesAt CX X σ (E σ)) (hdb : (x == ("__debug__" : Str)) = false) : PE X (.Call (.Name x p) [] [] pos) (fun σ H Q => sp [] H Q (E σ)) := by
  refine ⟨fun pins s σ H Q I h => ?_⟩
  refine wpAny_Call_Name_kw (ld_glob I hg hm ?_ hdb)
  exact PySem.W.callWith_K0 I.kIn hk (run_fnS (us := []) F hr hb (hx σ) I .nil h)
/-! keywords -/
theorem run_kwS {CX : CXT} {k : Nat} {f : Addr} {fd : FuncData} {ps ks : List Str} {sp : Sp} {E : XK} {g : List Value → List Value → List Value} {gV : List V → List V → List V} {pins : List (Addr × Obj)} {σ : L2.St} {H : Hp} {s : Shared} {Q : VK} {ws : List Value} {zs : List V} (F : FnOk X.prog X.w X.K X.mg X.base CX k f fd ps sp) (hr : Room k X.A) (hb : KBinds X.K fd ps ks g gV)
    (hx : PassesAt CX X σ E) (I : Inv X pins σ H s) (rz : Vals zs ws) (h : sp (gV [] zs) H Q E) : wpAny (model X.prog X.w) X.A (call (.ref f) [] (ks.zip ws)) (EP X pins σ Q) X.xe s := by
  have rg : Vals (gV [] zs) (g [] ws) := hb.rel .nil rz
  have len : (g [] ws).length = ps.length := by rw [← rg.length]; exact F.len _ _ _ _ h
  have bt := hb.to s [] ws I.kIn len
  refine wpAny_call (codeAny_mono (F.run X.A X.stack s H ⟨[], ks.zip ws⟩ (g [] ws) (gV [] zs) Q E hr I.env0 bt rg h) fun o s' ho => ?_)
  match o, ho with
  | .error e, ho => exact hx pins H s e s' I ho
  | .ok (.ret u), ho => exact I.after ho
  | .ok .next, ho => exact ho.elim
  | .ok .brk, ho => exact ho.elim
  | .ok .cont, ho => exact ho.elim
theorem kw_all {env : Env} {pos : Pos} : ∀ {kws : List Keyword}, kws.all (fun q => q.arg.isSome) = true → (backToKw pos (keywordEach kws env)).all (·.1.isSome) = true ∧ (backToKw pos (keywordEach kws env)).filterMap (·.1) = ksOf kws ∧ (backToKw pos (keywordEach kws env)).any (·.1.isNone) = false
  | [], _ => ⟨rfl, rfl, rfl⟩
  | ⟨a, v, p⟩ :: r, h => by
    rw [List.all_cons, Bool.and_eq_true] at h
    obtain ⟨h1, h2, h3⟩ := kw_all (env := env) (pos := pos) h.2
    cases a with
    | none => cases h.1
    | some x =>
      refine ⟨?_, ?_, ?_⟩
      · show (true && (backToKw pos (keywordEach r env)).all (·.1.isSome)) = true
        rw [h1]; rfl
      · show x :: (backToKw pos (keywordEach r env)).filterMap (·.1) = x :: ksOf r
        rw [h2]
      · show (false || (backToKw pos (keywordEach r env)).any (·.1.isNone)) = false
        rw [h3]; rfl
theorem pe_kw0 {CX : CXT} {k : Nat} {f : Addr} {fd : FuncData} {ps : List Str} {sp : Sp} {E : L2.St → XK} {x : Str} {p pos : Pos} {kws : List Keyword} {g : List Value → List Value → List Value} {gV : List V → List V → List V} {tk : TA} (F : FnOk X.prog X.w X.K X.mg X.base CX k f fd ps sp) (hr : Room k X.A) (hg : Gl X x) (hm : X.mg x = some (.ref f)) (hk : PySem.W.keepIn X.K (.ref f) = true) (hb : KBinds X.K fd ps (ksOf kws) g gV)
    (hx : ∀ σ, PassesAt CX X σ (E σ)) (hdb : (x == ("__debug__" : Str)) = false) (hkw : PK X kws tk) (ha : kws.all (fun q => q.arg.isSome) = true) : PE X (.Call (.Name x p) [] kws pos) (fun σ H Q => tk σ H fun zs H2 => sp (gV [] zs) H2 Q (E σ)) := by
  obtain ⟨h1, h2, h3⟩ := kw_all (env := X.env) (pos := pos) ha
  refine ⟨fun pins s σ H Q I h => ?_⟩
  refine wpAny_Call_Name_kw (ld_glob I hg hm ?_ hdb)
  refine PySem.W.callWith_KW0 (h₀ := X.base) I.ok.mod.kin hk h1 (thn (hkw.run pos pins s σ H _ I h) fun ws s2 ⟨zs, H2, I2, rz, q2⟩ => ⟨I2.kIn, ?_⟩) (by rw [h3]; rfl)
  rw [h2]
  exact run_kwS F hr hb (hx σ) I2 rz q2
theorem pick_rel {α β : Type} {R : List α → List β → Prop} (g : ∀ {vs : List α} {xs : List β}, R vs xs → ∀ i : Nat, (vs[i]? = none ∧ xs[i]? = none) ∨ ∃ v x, vs[i]? = some v ∧ xs[i]? = some x ∧ ∀ {a b}, R a b → R (v :: a) (x :: b)) (n : R [] []) {vs : List α} {xs : List β} (h : R vs xs) : ∀ perm : List Nat, R (pick perm vs) (pick perm xs)
  | [] => n
  | i :: perm => by
    have ih := pick_rel @g n h perm
    unfold pick at ih ⊢
    rcases g h i with ⟨e1, e2⟩ | ⟨v, x, e1, e2, k⟩
    · rw [List.filterMap_cons_none e1, List.filterMap_cons_none e2]; exact ih
    · rw [List.filterMap_cons_some e1, List.filterMap_cons_some e2]; exact k ih
theorem VRs.pick {K : PySem.W.Frag} {f : List Addr} {H : Hp} {vs : List Val} {xs : List V} (t : VRs K f H vs xs) (perm : List Nat) : VRs K f H (pick perm vs) (pick perm xs) := by
  refine pick_rel (R := VRs K f H) (fun {vs xs} t i => ?_) VRs.nil t perm
  cases e : vs[i]? with
  | none =>
    refine .inl ⟨rfl, ?_⟩
    rw [List.getElem?_eq_none_iff] at e ⊢
    rw [t.length]; exact e
  | some v =>
    obtain ⟨x, e2, r⟩ := t.get e
    exact .inr ⟨v, x, rfl, e2, fun h => VRs.cons r h⟩
theorem Vals.pick {xs : List V} {us : List Value} (t : Vals xs us) (perm : List Nat) : Vals (Mi.pick perm xs) (Mi.pick perm us) := by
  refine pick_rel (R := Vals) (fun {vs xs} t i => ?_) .nil t perm
  cases e : vs[i]? with
  | none =>
    refine .inl ⟨rfl, ?_⟩
    rw [List.getElem?_eq_none_iff] at e ⊢
    rw [← t.length]; exact e
  | some v =>
    obtain ⟨x, e2, r⟩ := t.get e
    exact .inr ⟨v, x, rfl, e2, fun h => .cons r h⟩
/-- a keyword call's reading -/
theorem kw_read {K : PySem.W.Frag} {F : List Val → Sto → Out Val} {n m : Nat} {perm : List Nat} (hl : ∀ ρ μ v μ', ma ρ μ = .ok v μ' → ∃ vs, v = .tup vs ∧ vs.length = m) (har : ∀ vs μ, vs.length ≠ n → F vs μ = .fail) {σ : L2.St} {H : Hp} {Q : VK} (h : tM K es W (fun ρ μ => (ma ρ μ).bind fun ys μ1 => match ys with
    | .tup vs => F (pick perm vs) μ1
    | _ => .fail) σ H Q) : tMA K es W ma σ H (fun zs H2 => spM K es n F (gK m perm [] zs) H2 Q (WE W σ)) := by
  obtain ⟨f, ρ, μ, S, L, h⟩ := h
  refine ⟨f, ρ, μ, S, L, ?_⟩
  have hl' := hl ρ μ
  cases e : ma ρ μ with
  | exc c fs μ1 => simp only [e, Out.bind_exc] at h; exact h
  | fail => simp only [e, Out.bind_fail] at h; exact h
  | ok v μ1 =>
    obtain ⟨vs, rfl, hv⟩ := hl' v μ1 e
    simp only [e, Out.bind_ok] at h
    intro f1 H1 xs l1 S1 t
    have h1 := Post.mono l1 h
    have eg : gK m perm [] xs = pick perm xs := by
      unfold gK
      rw [if_pos ⟨rfl, by rw [t.length, hv]⟩]
    rw [eg]
    refine ⟨f1, μ1, pick perm vs, S1, VRs.pick t perm, ?_, ?_⟩
    · by_cases q : (pick perm vs).length = n
      · exact q
      · rw [har _ μ1 q] at h1; exact h1.elim
    · cases e2 : F (pick perm vs) μ1 with
      | ok v μ2 => rw [e2] at h1; exact h1
      | exc c fs μ2 => rw [e2] at h1; exact h1
      | fail => rw [e2] at h1; exact h1
/-- a display's reading -/
theorem argc_len : ∀ (m : ME) (l : List Expr), chkA Γ S m l = true → ∀ ρ μ v μ', ev C m ρ μ = .ok v μ' → ∃ vs, v = .tup vs ∧ vs.length = argc m
  | .nil, [], _, ρ, μ, v, μ', h => by cases (show Out.ok (Val.tup []) μ = .ok v μ' from h); exact ⟨[], rfl, rfl⟩
  | .cons a b, e :: l, hc, ρ, μ, v, μ', h => by
    have hc' : (vE a && plainArg e && chk Γ S a e && chkA Γ S b l) = true := by unfold chkA at hc; exact hc
    simp only [Bool.and_eq_true] at hc'
    have h' : ((ev C a ρ μ).bind fun x μ1 => (ev C b ρ μ1).bind fun ys μ2 => match ys with
      | .tup vs => .ok (.tup (x :: vs)) μ2
      | _ => .fail) = .ok v μ' := h
    cases e1 : ev C a ρ μ with
    | exc c fs μ1 => rw [e1] at h'; cases h'
    | fail => rw [e1] at h'; cases h'
    | ok x μ1 =>
      rw [e1, Out.bind_ok] at h'
      cases e2 : ev C b ρ μ1 with
      | exc c fs μ2 => rw [e2] at h'; cases h'
      | fail => rw [e2] at h'; cases h'
      | ok ys μ2 =>
        rw [e2, Out.bind_ok] at h'
        obtain ⟨vs, rfl, hl⟩ := argc_len b l hc'.2 ρ μ1 ys μ2 e2
        cases h'
        exact ⟨x :: vs, rfl, by simp [argc, hl]⟩
  | .nil, _ :: _, h, _, _, _, _, _ => by unfold chkA at h; cases h
  | .cons _ _, [], h, _, _, _, _, _ => by unfold chkA at h; cases h
  | .var _, _, h, _, _, _, _, _ => by unfold chkA at h; cases h
  | .cst _, _, h, _, _, _, _, _ => by unfold chkA at h; cases h
  | .tupE _, _, h, _, _, _, _, _ => by unfold chkA at h; cases h
  | .lstE _, _, h, _, _, _, _, _ => by unfold chkA at h; cases h
  | .op1 _ _, _, h, _, _, _, _, _ => by unfold chkA at h; cases h
  | .op2 _ _ _, _, h, _, _, _, _, _ => by unfold chkA at h; cases h
  | .op3 _ _ _ _, _, h, _, _, _, _, _ => by unfold chkA at h; cases h
  | .and _ _, _, h, _, _, _, _, _ => by unfold chkA at h; cases h
  | .or _ _, _, h, _, _, _, _, _ => by unfold chkA at h; cases h
  | .ite _ _ _, _, h, _, _, _, _, _ => by unfold chkA at h; cases h
  | .chain _ _ _ _ _, _, h, _, _, _, _, _ => by unfold chkA at h; cases h
  | .call _ _, _, h, _, _, _, _, _ => by unfold chkA at h; cases h
  | .callK _ _ _, _, h, _, _, _, _, _ => by unfold chkA at h; cases h
  | .rng _, _, h, _, _, _, _, _ => by unfold chkA at h; cases h
  | .rng2 _ _, _, h, _, _, _, _, _ => by unfold chkA at h; cases h
  | .rng3 _, _, h, _, _, _, _, _ => by unfold chkA at h; cases h
  | .comp _ _ _ _, _, h, _, _, _, _, _ => by unfold chkA at h; cases h
  | .tmp _, _, h, _, _, _, _, _ => by unfold chkA at h; cases h
theorem tup_read {K : PySem.W.Frag} {σ : L2.St} {H : Hp} {Q : VK} {n : Nat} (hn : n ≤ 1000) (hl : ∀ ρ μ v μ', ma ρ μ = .ok v μ' → ∃ vs, v = .tup vs ∧ vs.length = n) (h : tM K es W ma σ H Q) : tTup (tMA K es W ma) σ H Q := by
  obtain ⟨f, ρ, μ, S, L, h⟩ := h
  refine ⟨f, ρ, μ, S, L, ?_⟩
  cases e : ma ρ μ with
  | exc c fs μ1 => rw [e] at h; exact h
  | fail => rw [e] at h; exact h
  | ok v μ1 =>
    rw [e] at h
    obtain ⟨vs, rfl, hv⟩ := hl ρ μ v μ1 e
    exact fun f' H' xs l' S' t => ⟨by rw [t.length, hv, sizeLine_eq]; omega, fun p hp => Post.newT (Post.mono l' h) S' t p hp⟩
theorem lst_read {K : PySem.W.Frag} {σ : L2.St} {H : Hp} {Q : VK} {n : Nat} (hn : n ≤ 1000) (hl : ∀ ρ μ v μ', ma ρ μ = .ok v μ' → ∃ vs, v = .tup vs ∧ vs.length = n) (h : tM K es W (fun ρ μ => (ma ρ μ).bind fun ys μ1 => match ys with
    | .tup vs => newLst vs μ1
    | _ => .fail) σ H Q) : tLst (tMA K es W ma) σ H Q := by
  obtain ⟨f, ρ, μ, S, L, h⟩ := h
  refine ⟨f, ρ, μ, S, L, ?_⟩
  cases e : ma ρ μ with
  | exc c fs μ1 => simp only [e, Out.bind_exc] at h; exact h
  | fail => simp only [e, Out.bind_fail] at h; exact h
  | ok v μ1 =>
    obtain ⟨vs, rfl, hv⟩ := hl ρ μ v μ1 e
    simp only [e, Out.bind_ok] at h
    exact fun f' H' xs l' S' t => ⟨by rw [t.length, hv, sizeLine_eq]; omega, fun p hp => Post.newL (Post.mono l' h) S' t p hp⟩
/-- and, or as values -/
theorem and_read {K : PySem.W.Frag} {σ : L2.St} {H : Hp} {Q : VK} (h : tM K es W (fun ρ μ => (ma ρ μ).bind fun x μ1 => match x with
    | .bl true => mb ρ μ1
    | .bl false => .ok (.bl false) μ1
    | _ => .fail) σ H Q) : tAndV (tM K es W ma) (tM K es W mb) σ H Q := by
  obtain ⟨f, ρ, μ, S, L, h⟩ := h
  refine bindP S L h fun v μ1 f1 H1 x l1 S1 L1 rv h1 => ?_
  cases v with
  | bl b =>
    refine ⟨b, rv, ?_⟩
    cases b with
    | true => rw [if_pos rfl]; exact ⟨f1, ρ, μ1, S1, L1, h1⟩
    | false => rw [if_neg (by decide)]; exact Post.done (v := .bl false) h1 S1 rfl
  | _ => exact h1.elim
theorem or_read {K : PySem.W.Frag} {σ : L2.St} {H : Hp} {Q : VK} (h : tM K es W (fun ρ μ => (ma ρ μ).bind fun x μ1 => match x with
    | .bl true => .ok (.bl true) μ1
    | .bl false => mb ρ μ1
    | _ => .fail) σ H Q) : tOrV (tM K es W ma) (tM K es W mb) σ H Q := by
  obtain ⟨f, ρ, μ, S, L, h⟩ := h
  refine bindP S L h fun v μ1 f1 H1 x l1 S1 L1 rv h1 => ?_
  cases v with
  | bl b =>
    refine ⟨b, rv, ?_⟩
    cases b with
    | false => rw [if_neg (by decide)]; exact ⟨f1, ρ, μ1, S1, L1, h1⟩
    | true => rw [if_pos rfl]; exact Post.done (v := .bl true) h1 S1 rfl
  | _ => exact h1.elim
/-- the match of a test's end -/
def TP' (K : PySem.W.Frag) (es : List EC) (W : WX) (σ : L2.St) (f : List Addr) (H : Hp) (o : Out Val) (Q : Bool → Hp → Prop) : Prop := match o with
  | .ok (.bl b) μ' => ∀ f' H', Le f H f' H' → SR K f' μ' H' → Q b H'
  | .exc c fs μ' => ∀ f' H' cls d, Le f H f' H' → SR K f' μ' H' → XR K es f' H' c fs cls d → W cls d σ H'
  | _ => False
theorem TP'.mono {K : PySem.W.Frag} {σ : L2.St} {f f1 : List Addr} {H H1 : Hp} {o : Out Val} {Q : Bool → Hp → Prop} (l : Le f H f1 H1) (h : TP' K es W σ f H o Q) : TP' K es W σ f1 H1 o Q := by
  cases o with
  | ok v μ' =>
    cases v with
    | bl b => exact fun f' H' l' S => h f' H' (l.trans l') S
    | _ => exact h
  | exc c fs μ' => exact fun f' H' cls d l' S r => h f' H' cls d (l.trans l') S r
  | fail => exact h
theorem bindTT {K : PySem.W.Frag} {σ : L2.St} {f : List Addr} {H : Hp} {ρ : Loc} {μ : Sto} {k : Val → Sto → Out Val} {Q Q1 : Bool → Hp → Prop} (S : SR K f μ H) (L : LR K f H ρ σ) (h : TP' K es W σ f H ((ma ρ μ).bind k) Q) (hf : ∀ v μ1, (∀ b, v ≠ .bl b) → k v μ1 = .fail)
    (hk : ∀ b μ1 f1 H1, Le f H f1 H1 → SR K f1 μ1 H1 → LR K f1 H1 ρ σ → TP' K es W σ f1 H1 (k (.bl b) μ1) Q → Q1 b H1) : tTM K es W ma σ H Q1 := by
  refine ⟨f, ρ, μ, S, L, ?_⟩
  cases e : ma ρ μ with
  | ok v μ1 =>
    rw [e] at h
    cases v with
    | bl b => exact fun f' H' l S' => hk b μ1 f' H' l S' (L.mono l) (h.mono l)
    | _ => rw [Out.bind_ok, hf _ _ (by intro b z; cases z)] at h; exact h
  | exc c fs μ1 => rw [e] at h; exact h
  | fail => rw [e] at h; exact h
theorem andT_read {K : PySem.W.Frag} {σ : L2.St} {H : Hp} {Q : Bool → Hp → Prop} (h : tTM K es W (fun ρ μ => (ma ρ μ).bind fun x μ1 => match x with
    | .bl true => mb ρ μ1
    | .bl false => .ok (.bl false) μ1
    | _ => .fail) σ H Q) : tAnd (tTM K es W ma) (tTM K es W mb) σ H Q := by
  obtain ⟨f, ρ, μ, S, L, h⟩ := h
  refine bindTT S L h (fun v μ1 hn => by cases v <;> first | rfl | exact absurd rfl (hn _)) fun b μ1 f1 H1 l1 S1 L1 h1 => ?_
  cases b with
  | true => rw [if_pos rfl]; exact ⟨f1, ρ, μ1, S1, L1, h1⟩
  | false =>
    rw [if_neg (by decide)]
    exact h1 f1 H1 (Le.refl _ _) S1
theorem orT_read {K : PySem.W.Frag} {σ : L2.St} {H : Hp} {Q : Bool → Hp → Prop} (h : tTM K es W (fun ρ μ => (ma ρ μ).bind fun x μ1 => match x with
    | .bl true => .ok (.bl true) μ1
    | .bl false => mb ρ μ1
    | _ => .fail) σ H Q) : tOr (tTM K es W ma) (tTM K es W mb) σ H Q := by
  obtain ⟨f, ρ, μ, S, L, h⟩ := h
  refine bindTT S L h (fun v μ1 hn => by cases v <;> first | rfl | exact absurd rfl (hn _)) fun b μ1 f1 H1 l1 S1 L1 h1 => ?_
  cases b with
  | false => rw [if_neg (by decide)]; exact ⟨f1, ρ, μ1, S1, L1, h1⟩
  | true =>
    rw [if_pos rfl]
    exact h1 f1 H1 (Le.refl _ _) S1
theorem notT_read {K : PySem.W.Frag} {σ : L2.St} {H : Hp} {Q : Bool → Hp → Prop} (h : tTM K es W (e1 .not ma) σ H Q) : tNot (tTM K es W ma) σ H Q := by
  obtain ⟨f, ρ, μ, S, L, h⟩ := h
  refine bindTT S L h (fun v μ1 hn => by cases v <;> first | rfl | exact absurd rfl (hn _)) fun b μ1 f1 H1 l1 S1 L1 h1 => h1 f1 H1 (Le.refl _ _) S1
theorem ite_read {K : PySem.W.Frag} {σ : L2.St} {H : Hp} {Q : VK} (h : tM K es W (fun ρ μ => (mc ρ μ).bind fun x μ1 => match x with
    | .bl true => ma ρ μ1
    | .bl false => mb ρ μ1
    | _ => .fail) σ H Q) : tIf (tTM K es W mc) (tM K es W ma) (tM K es W mb) σ H Q := by
  obtain ⟨f, ρ, μ, S, L, h⟩ := h
  refine bindT' S L h (fun v μ1 hn => by cases v <;> first | rfl | exact absurd rfl (hn _)) fun b μ1 f1 H1 l1 S1 L1 h1 => ?_
  cases b with
  | true => rw [if_pos rfl]; exact ⟨f1, ρ, μ1, S1, L1, h1⟩
  | false => rw [if_neg (by decide)]; exact ⟨f1, ρ, μ1, S1, L1, h1⟩
theorem chain_read {K : PySem.W.Frag} {o o' : O2} {σ : L2.St} {H : Hp} {Q : VK} (h : tM K es W (fun ρ μ => (ma ρ μ).bind fun x μ1 => (mb ρ μ1).bind fun y μ2 => (sem2 o x y μ2).bind fun r μ3 => match r with
    | .bl true => (mc ρ μ3).bind fun z μ4 => sem2 o' y z μ4
    | .bl false => .ok (.bl false) μ3
    | _ => .fail) σ H Q) : tChain (r2 K es (sem2 o)) (r2 K es (sem2 o')) (tM K es W ma) (tM K es W mb) (tM K es W mc) σ H Q := by
  obtain ⟨f, ρ, μ, S, L, h⟩ := h
  refine bindP S L h fun v μ1 f1 H1 x l1 S1 L1 rv h1 => bindP S1 L1 h1 fun w μ2 f2 H2 y l2 S2 L2 rw' h2 => ?_
  refine ⟨f2, μ2, v, w, W, σ, S2, VR.mono l2 _ _ rv, rw', ?_⟩
  cases e : sem2 o v w μ2 with
  | exc c fs μ3 => rw [e] at h2; exact h2
  | fail => rw [e] at h2; exact h2
  | ok r μ3 =>
    rw [e, Out.bind_ok] at h2
    cases r with
    | bl b =>
      intro f3 H3 z l3 S3 rz
      refine ⟨b, rz, ?_⟩
      cases b with
      | true =>
        rw [if_pos rfl]
        exact bindP S3 (L2.mono l3) (Post.mono l3 h2) fun u μ4 f4 H4 z' l4 S4 L4 ru h4 => ⟨f4, μ4, w, u, W, σ, S4, VR.mono (l3.trans l4) _ _ rw', ru, h4⟩
      | false =>
        rw [if_neg (by decide)]
        exact Post.done (v := .bl false) (Post.mono l3 h2) S3 rfl
    | _ => exact h2.elim
theorem cmp_calm {o : O2} {op : CmpOp} (h : cmpOp o = some op) : pre2 o = fun _ _ => true := by
  cases o <;> first | rfl | cases h
end
end Mi
end

section
set_option Elab.async false
set_option linter.all false
set_option maxRecDepth 100000
set_option autoImplicit false
set_option maxHeartbeats 1000000
/-! Sound10: forgetting cells; every term. -/
namespace Mi
open PySem PySem.Spec L2
open PyProof.Rows hiding St
section
variable {K : PySem.W.Frag} {f f' : List Addr} {H H' : Hp} {μ μ' : Sto}
mutual
theorem VR.under : ∀ (v : Val) (x : V), VR K f H v x → v.under f.length = true
  | .non, _, _ => rfl
  | .bl _, _, _ => rfl
  | .int _, _, _ => rfl
  | .str _, _, _ => rfl
  | .tup vs, x, ⟨a, xs, e, h, r⟩ => VRs.under vs xs r
  | .ref n, x, ⟨a, h, e⟩ => decide_eq_true (List.getElem?_eq_some_iff.mp h).1
  | .scr ns, x, _ => rfl
theorem VRs.under : ∀ (vs : List Val) (xs : List V), VRs K f H vs xs → underAll f.length vs = true
  | [], _, _ => rfl
  | v :: vs, _, ⟨x, r, e, h, t⟩ => by
    show (v.under f.length && underAll f.length vs) = true
    rw [VR.under v x h, VRs.under vs r t]; rfl
end
mutual
theorem VR.shrink (hp : f <+: f') : ∀ (v : Val) (x : V), v.under f.length = true → VR K f' H v x → VR K f H v x
  | .non, _, _, h => h
  | .bl _, _, _, h => h
  | .int _, _, _, h => h
  | .str _, _, _, h => h
  | .tup vs, x, hu, ⟨a, xs, e, h, r⟩ => ⟨a, xs, e, h, VRs.shrink hp vs xs hu r⟩
  | .ref n, x, hu, ⟨a, h, e⟩ => by
    obtain ⟨t, rfl⟩ := hp
    have hn : n < f.length := of_decide_eq_true hu
    rw [List.getElem?_append_left hn] at h
    exact ⟨a, h, e⟩
  | .scr ns, x, _, h => h
theorem VRs.shrink (hp : f <+: f') : ∀ (vs : List Val) (xs : List V), underAll f.length vs = true → VRs K f' H vs xs → VRs K f H vs xs
  | [], _, _, h => h
  | v :: vs, _, hu, ⟨x, r, e, h, t⟩ => by
    have hu' : (v.under f.length && underAll f.length vs) = true := hu
    rw [Bool.and_eq_true] at hu'
    exact ⟨x, r, e, VR.shrink hp v x hu'.1 h, VRs.shrink hp vs r hu'.2 t⟩
end
theorem pre_get (hp : f <+: f') {n : Nat} (hn : n < f.length) : f'[n]? = f[n]? := by
  obtain ⟨t, rfl⟩ := hp
  exact List.getElem?_append_left hn
theorem stable_SR (S : SR K f μ H) (l : Le f H f' H') (S' : SR K f' μ' H') (h : stable μ μ' = true) : SR K f (μ'.take μ.length) H' := by
  unfold stable at h
  rw [Bool.and_eq_true, decide_eq_true_eq] at h
  obtain ⟨hl, hc⟩ := h
  refine ⟨by rw [List.length_take, S.len]; omega, S.nd, fun n c a h1 h2 => ?_⟩
  have hn : n < f.length := (List.getElem?_eq_some_iff.mp h2).1
  have hn' : n < μ.length := by rw [← S.len]; exact hn
  rw [List.getElem?_take_of_lt hn'] at h1
  have q := S'.cell n c a h1 (by rw [pre_get l.pre hn]; exact h2)
  have hk := List.all_eq_true.mp hc n (List.mem_range.mpr hn')
  rw [Bool.or_eq_true, decide_eq_true_eq] at hk
  cases c with
  | lst vs =>
    obtain ⟨xs, q1, q2⟩ := q
    refine ⟨xs, q1, VRs.shrink l.pre _ _ ?_ q2⟩
    rcases hk with hk | hk
    · rw [h1] at hk
      obtain ⟨ys, _, t⟩ := S.cell n _ a hk.symm h2
      exact VRs.under _ _ t
    · rw [h1] at hk
      rw [S.len]
      exact hk
  | dict _ => exact q.elim
  | ins _ _ => exact q.elim
theorem Le.back (l : Le f H f' H') : Le f H f H' := ⟨List.prefix_refl _, l.kp, fun b o h e => ⟨(l.oth b o h e).1, h⟩⟩
theorem clean_ok {v : Val} {x : V} (S : SR K f μ H) (l : Le f H f' H') (S' : SR K f' μ' H') (r : VR K f' H' v x) : ∃ f2, Le f H f2 H' ∧ SR K f2 (clean μ v μ').2 H' ∧ VR K f2 H' (clean μ v μ').1 x := by
  have id' : ∃ f2, Le f H f2 H' ∧ SR K f2 μ' H' ∧ VR K f2 H' v x := ⟨f', l, S', r⟩
  unfold clean
  by_cases h : stable μ μ' = true
  · rw [if_pos h]
    have S0 := stable_SR S l S' h
    by_cases hu : v.under μ.length = true
    · rw [if_pos hu]
      exact ⟨f, l.back, S0, VR.shrink l.pre v x (by rw [S.len]; exact hu) r⟩
    · rw [if_neg hu]
      split
      · rename_i k
        split
        · rename_i xs e
          by_cases hc : (underAll μ.length xs && decide (μ.length ≤ k)) = true
          · rw [if_pos hc]
            rw [Bool.and_eq_true, decide_eq_true_eq] at hc
            obtain ⟨a, ha, rfl⟩ := r
            obtain ⟨ys, hq, t⟩ := S'.cell k _ a e ha
            have haf : a ∉ f := fun hm => by
              obtain ⟨n, hn, en⟩ := List.getElem_of_mem hm
              have e1 : f'[n]? = some a := by rw [pre_get l.pre hn, List.getElem?_eq_getElem hn, en]
              have hlt : n < f'.length := (List.getElem?_eq_some_iff.mp e1).1
              have := (List.getElem?_inj hlt S'.nd).mp (e1.trans ha.symm)
              have := S.len
              omega
            refine ⟨f ++ [a], ⟨⟨[a], rfl⟩, l.kp, fun b o hb eb => ?_⟩, S0.join haf hq (VRs.shrink l.pre _ _ (by rw [S.len]; exact hc.1) t), ⟨a, by rw [← S.len]; simp, rfl⟩⟩
            obtain ⟨e1, h1⟩ := l.oth b o hb eb
            refine ⟨e1, ?_⟩
            rw [List.mem_append, List.mem_singleton, not_or]
            exact ⟨hb, fun z => h1 (by rw [z]; exact List.mem_of_getElem? ha)⟩
          · rw [if_neg hc]; exact id'
        · exact id'
      · exact id'
  · rw [if_neg h]; exact id'
end
theorem clean_bl {μ μ' : Sto} {v : Val} {b : Bool} (h : (clean μ v μ').1 = .bl b) : v = .bl b := by
  unfold clean at h
  split at h
  · split at h
    · exact h
    · split at h
      · split at h
        · split at h
          · cases h
          · exact h
        · exact h
      · exact h
  · exact h
section
variable {Γ : Gam} {es : List EC} {C : CallF} {lv : Nat}
theorem tmp_read {K : PySem.W.Frag} {W : WX} {ma : Loc → Sto → Out Val} {σ : L2.St} {H : Hp} {Q : VK} (h : tM K es W (fun ρ μ => match ma ρ μ with
    | .ok v μ1 => .ok (clean μ v μ1).1 (clean μ v μ1).2
    | r => r) σ H Q) : tM K es W ma σ H Q := by
  obtain ⟨f, ρ, μ, S, L, h⟩ := h
  refine ⟨f, ρ, μ, S, L, ?_⟩
  cases e : ma ρ μ with
  | exc c fs μ1 => simp only [e] at h; exact h
  | fail => simp only [e] at h; exact h
  | ok v μ1 =>
    simp only [e] at h
    intro f' H' x l S' r
    obtain ⟨f2, l2, S2, r2⟩ := clean_ok S l S' r
    exact h f2 H' x l2 S2 r2
theorem tmp_readT {K : PySem.W.Frag} {W : WX} {ma : Loc → Sto → Out Val} {σ : L2.St} {H : Hp} {Q : Bool → Hp → Prop} (h : tTM K es W (fun ρ μ => match ma ρ μ with
    | .ok v μ1 => .ok (clean μ v μ1).1 (clean μ v μ1).2
    | r => r) σ H Q) : tTM K es W ma σ H Q := by
  obtain ⟨f, ρ, μ, S, L, h⟩ := h
  refine ⟨f, ρ, μ, S, L, ?_⟩
  cases e : ma ρ μ with
  | exc c fs μ1 => simp only [e] at h; exact h
  | fail => simp only [e] at h
  | ok v μ1 =>
    simp only [e] at h
    cases v with
    | bl b =>
      intro f' H' l S'
      obtain ⟨f2, l2, S2, r2⟩ := clean_ok (v := .bl b) S l S' (x := .bl b) rfl
      have e1 : (clean μ (.bl b) μ1).1 = .bl b := by
        unfold clean
        split
        · rfl
        · rfl
      rw [e1] at h
      exact h f2 H' l2 S2
    | _ =>
      split at h
      · rename_i b' μ2 he
        injection he with e1 e2
        exact absurd (clean_bl e1) (by intro z; cases z)
      · rename_i he; cases he
      · exact h.elim
end
end Mi
end

section
set_option Elab.async false
set_option linter.all false
set_option maxRecDepth 100000
set_option autoImplicit false
set_option maxHeartbeats 1000000
/-! Sound11: every term. -/
namespace Mi
open PySem PySem.Spec L2
open PyProof.Rows hiding St
section
variable {Γ : Gam} {es : List EC} {C : CallF} {lv : Nat}
theorem constV_ok {X : Cx} {e : Expr} {u : Val} {K : PySem.W.Frag} (h : asConst e = some u) : ∃ y, PE X e (tC y) ∧ (∀ f H, VR K f H u y) ∧ byVal e = true := by
  unfold asConst at h
  split at h <;> first | cases h | skip
  · exact ⟨.non, pe_non, fun f H => rfl, rfl⟩
  · exact ⟨.bl _, pe_bl, fun f H => rfl, rfl⟩
  · exact ⟨.int _, pe_int, fun f H => rfl, rfl⟩
  · rename_i s _ _
    exact ⟨.str s, pe_str, fun f H => by
      show V.str s = .str ⟨s.cps.toList.toArray⟩
      rw [Array.toArray_toList], rfl⟩
/-- cst -/
theorem snd_cst {v : Val} : Snd Γ es C lv (.cst v) := by
  have he : ∀ {S X W e}, XOk Γ es C lv S X → Takes X W → chk Γ S (.cst v) e = true → PE X e (tM X.K es W (ev C (.cst v))) ∧ byVal e = true := by
    intro S X W e HX tk h
    have fin : ∀ y, PE X e (tC y) → (∀ f H, VR X.K f H v y) → PE X e (tM X.K es W (ev C (.cst v))) := fun y hy hr => PE.weak hy fun σ H Q q => by
      obtain ⟨f, ρ, μ, S, L, h⟩ := q
      exact Post.done (v := v) h S (hr f H)
    unfold chk at h
    split at h
    · rename_i u hu
      obtain ⟨y, h1, h2, h3⟩ := constV_ok (X := X) (K := X.K) hu
      have e1 := of_decide_eq_true h
      subst e1
      exact ⟨fin y h1 h2, h3⟩
    · split at h
      · rename_i x hx
        obtain ⟨p, rfl⟩ := asName_ok hx
        simp only [Bool.and_eq_true, decide_eq_true_eq] at h
        obtain ⟨⟨h1, h2⟩, h3⟩ := h
        obtain ⟨u, y, hm, hr, hv⟩ := HX.cs x v h3
        exact ⟨fin y (pe_glob (HX.gl h1) hm hr (plainName_ok h2).1) hv, rfl⟩
      · cases h
  exact Snd.val rfl (fun h1 h2 h3 => (he h1 h2 h3).1) (fun h1 h2 h3 _ => ⟨pt_default (he h1 h2 h3).1 (he h1 h2 h3).2, noBool (he h1 h2 h3).2⟩) (fun S l => by unfold chkA; rfl)
theorem snd_var {i : Nat} : Snd Γ es C lv (.var i) := by
  have he : ∀ {S X W e}, XOk Γ es C lv S X → Takes X W → chk Γ S (.var i) e = true → PE X e (tM X.K es W (ev C (.var i))) ∧ byVal e = true := by
    intro S X W e HX tk h
    unfold chk at h
    split at h
    · rename_i x hx
      obtain ⟨p, rfl⟩ := asName_ok hx
      simp only [Bool.and_eq_true, decide_eq_true_eq] at h
      obtain ⟨⟨h1, h2⟩, h3⟩ := h
      obtain ⟨n1, n2, _⟩ := plainName_ok h3
      refine ⟨PE.weak (pe_var (i := i) (by rw [HX.hN]; exact h1) (by rw [HX.hsc]; exact visB_ok h2) n1 n2) fun σ H Q q => ?_, rfl⟩
      obtain ⟨f, ρ, μ, S, L, h⟩ := q
      have h' : Post X.K es W σ f H (match ρ[i]? with
        | some (some v) => .ok v μ
        | _ => .fail) Q := h
      split at h'
      · rename_i v hv
        obtain ⟨y, e1, r⟩ := L.get i v hv
        exact ⟨y, e1, h'.done S r⟩
      · exact h'.elim
    · cases h
  exact Snd.val rfl (fun h1 h2 h3 => (he h1 h2 h3).1) (fun h1 h2 h3 _ => ⟨pt_default (he h1 h2 h3).1 (he h1 h2 h3).2, noBool (he h1 h2 h3).2⟩) (fun S l => by unfold chkA; rfl)
theorem snd_nil : Snd Γ es C lv .nil := by
  refine ⟨fun _ _ h _ => (by unfold chk at h; cases h), fun _ _ h _ _ => (by unfold chk at h; cases h), fun _ _ h _ => (by unfold chk at h; cases h), ?_, ?_⟩
  · intro S X W l HX tk h
    cases l with
    | nil => exact PA.weak pa_nil fun σ H Q ⟨f, ρ, μ, S, L, h⟩ => h f H [] (Le.refl _ _) S rfl
    | cons _ _ => unfold chkA at h; cases h
  · intro S X W kws HX tk h
    cases kws with
    | nil => exact PK.weak pk_nil fun σ H Q ⟨f, ρ, μ, S, L, h⟩ => h f H [] (Le.refl _ _) S rfl
    | cons _ _ => rw [List.map_cons] at h; unfold chkA at h; cases h
theorem snd_cons {a b : ME} (ha : Snd Γ es C lv a) (hb : Snd Γ es C lv b) : Snd Γ es C lv (.cons a b) := by
  refine ⟨fun _ _ h _ => (by unfold chk at h; cases h), fun _ _ h _ _ => (by unfold chk at h; cases h), fun _ _ h _ => (by unfold chk at h; cases h), ?_, ?_⟩
  · intro S X W l HX tk h
    cases l with
    | nil => unfold chkA at h; cases h
    | cons e r =>
      have h' : (vE a && plainArg e && chk Γ S a e && chkA Γ S b r) = true := by unfold chkA at h; exact h
      simp only [Bool.and_eq_true] at h'
      obtain ⟨⟨⟨h1, h2⟩, h3⟩, h4⟩ := h'
      exact PA.weak (pa_cons (ha.e HX tk h3 h1) (hb.a HX tk h4) (star_cons h2 _ _)) fun σ H Q q => pa_read q
  · intro S X W kws HX tk h
    cases kws with
    | nil => rw [List.map_nil] at h; unfold chkA at h; cases h
    | cons e r =>
      obtain ⟨nm, ex, kp⟩ := e
      have h' : (vE a && plainArg ex && chk Γ S a ex && chkA Γ S b (r.map (·.value))) = true := by rw [List.map_cons] at h; unfold chkA at h; exact h
      simp only [Bool.and_eq_true] at h'
      obtain ⟨⟨⟨h1, h2⟩, h3⟩, h4⟩ := h'
      exact PK.weak (pk_cons (ha.e HX tk h3 h1) (hb.k HX tk h4)) fun σ H Q q => pa_read q
theorem snd_tupE {a : ME} (ha : Snd Γ es C lv a) : Snd Γ es C lv (.tupE a) := by
  have he : ∀ {S X W e}, XOk Γ es C lv S X → Takes X W → chk Γ S (.tupE a) e = true → PE X e (tM X.K es W (ev C (.tupE a))) ∧ byVal e = true := by
    intro S X W e HX tk h
    unfold chk at h
    split at h
    · rename_i l hl
      obtain ⟨k, p, rfl⟩ := asTup_ok hl
      rw [Bool.and_eq_true, decide_eq_true_eq] at h
      exact ⟨PE.weak (pe_tup (ha.a HX tk h.1)) fun σ H Q q => tup_read h.2 (argc_len a l h.1) q, rfl⟩
    · cases h
  exact Snd.val rfl (fun h1 h2 h3 => (he h1 h2 h3).1) (fun h1 h2 h3 _ => ⟨pt_default (he h1 h2 h3).1 (he h1 h2 h3).2, noBool (he h1 h2 h3).2⟩) (fun S l => by unfold chkA; rfl)
theorem snd_lstE {a : ME} (ha : Snd Γ es C lv a) : Snd Γ es C lv (.lstE a) := by
  have he : ∀ {S X W e}, XOk Γ es C lv S X → Takes X W → chk Γ S (.lstE a) e = true → PE X e (tM X.K es W (ev C (.lstE a))) ∧ byVal e = true := by
    intro S X W e HX tk h
    unfold chk at h
    split at h
    · rename_i l hl
      obtain ⟨p, rfl⟩ := asLst_ok hl
      rw [Bool.and_eq_true, decide_eq_true_eq] at h
      exact ⟨PE.weak (pe_lst (ha.a HX tk h.1)) fun σ H Q q => lst_read h.2 (argc_len a l h.1) q, rfl⟩
    · cases h
  exact Snd.val rfl (fun h1 h2 h3 => (he h1 h2 h3).1) (fun h1 h2 h3 _ => ⟨pt_default (he h1 h2 h3).1 (he h1 h2 h3).2, noBool (he h1 h2 h3).2⟩) (fun S l => by unfold chkA; rfl)
theorem sub1_noBool {S : SS} {o : O1} {e x : Expr} (h : sub1 Γ S o e = some x) : ∀ op l p, e ≠ .BoolOp op l p := by
  intro op l p z
  subst z
  cases o <;> first | (unfold sub1 at h; dsimp only at h; cases h; done) | cases h
theorem snd_op1 {o : O1} {a : ME} (ha : Snd Γ es C lv a) : Snd Γ es C lv (.op1 o a) := by
  have hx : ∀ {S e}, chk Γ S (.op1 o a) e = true → ∃ x, sub1 Γ S o e = some x ∧ vE a = true ∧ plainArg x = true ∧ chk Γ S a x = true := by
    intro S e h
    unfold chk at h
    split at h
    · rename_i x hx
      simp only [Bool.and_eq_true] at h
      exact ⟨x, hx, h.1.1, h.1.2, h.2⟩
    · cases h
  refine Snd.val rfl (fun HX tk h => ?_) (fun {S X W e} HX tk h ht => ?_) (fun S l => by unfold chkA; rfl)
  · obtain ⟨x, h1, h2, h3, h4⟩ := hx h
    exact (snd1 HX h1 h3 (ha.e HX tk h4 h2)).1
  · obtain ⟨x, h1, h2, h3, h4⟩ := hx h
    refine ⟨?_, fun op l p z => absurd z (sub1_noBool h1 op l p)⟩
    by_cases ho : o = .not
    · subst ho
      have hu : ∃ p, e = .UnaryOp .Not x p := by
        unfold sub1 at h1
        dsimp only at h1
        split at h1
        · rename_i y e1'
          cases h1
          exact asUn_ok e1'
        · cases h1
      obtain ⟨p, rfl⟩ := hu
      exact PT.weak (pt_not (ha.t HX tk h4 h2 ht).1) fun σ H Q q => notT_read q
    · exact (snd1 HX h1 h3 (ha.e HX tk h4 h2)).2 ho
theorem sub2_noBool {S : SS} {o : O2} {e : Expr} {r : Expr × Expr} (h : sub2 Γ S o e = some r) : ∀ op l p, e ≠ .BoolOp op l p := by
  intro op l p z
  subst z
  cases o <;> cases h
theorem snd_op2 {o : O2} {a b : ME} (ha : Snd Γ es C lv a) (hb : Snd Γ es C lv b) : Snd Γ es C lv (.op2 o a b) := by
  have hx : ∀ {S e}, chk Γ S (.op2 o a b) e = true → ∃ x y, sub2 Γ S o e = some (x, y) ∧ vE a = true ∧ vE b = true ∧ plainArg x = true ∧ plainArg y = true ∧ chk Γ S a x = true ∧ chk Γ S b y = true := by
    intro S e h
    unfold chk at h
    split at h
    · rename_i x y hx
      simp only [Bool.and_eq_true] at h
      exact ⟨x, y, hx, h.1.1.1.1.1, h.1.1.1.1.2, h.1.1.1.2, h.1.1.2, h.1.2, h.2⟩
    · cases h
  refine Snd.val rfl (fun HX tk h => ?_) (fun HX tk h _ => ?_) (fun S l => by unfold chkA; rfl)
  · obtain ⟨x, y, h1, h2, h3, h4, h5, h6, h7⟩ := hx h
    exact (snd2 HX h1 h4 h5 (ha.e HX tk h6 h2) (hb.e HX tk h7 h3)).1
  · obtain ⟨x, y, h1, h2, h3, h4, h5, h6, h7⟩ := hx h
    exact ⟨(snd2 HX h1 h4 h5 (ha.e HX tk h6 h2) (hb.e HX tk h7 h3)).2, fun op l p z => absurd z (sub2_noBool h1 op l p)⟩
theorem sub3_noBool {S : SS} {o : O3} {e : Expr} {r : Expr × Expr × Expr} (h : sub3 Γ S o e = some r) : ∀ op l p, e ≠ .BoolOp op l p := by
  intro op l p z
  subst z
  cases o <;> cases h
theorem snd_op3 {o : O3} {a b c : ME} (ha : Snd Γ es C lv a) (hb : Snd Γ es C lv b) (hc : Snd Γ es C lv c) : Snd Γ es C lv (.op3 o a b c) := by
  have hx : ∀ {S e}, chk Γ S (.op3 o a b c) e = true → ∃ x y z, sub3 Γ S o e = some (x, y, z) ∧ vE a = true ∧ vE b = true ∧ vE c = true ∧ chk Γ S a x = true ∧ chk Γ S b y = true ∧ chk Γ S c z = true := by
    intro S e h
    unfold chk at h
    split at h
    · rename_i x y z hx
      simp only [Bool.and_eq_true] at h
      exact ⟨x, y, z, hx, h.1.1.1.1.1, h.1.1.1.1.2, h.1.1.1.2, h.1.1.2, h.1.2, h.2⟩
    · cases h
  refine Snd.val rfl (fun HX tk h => ?_) (fun HX tk h _ => ?_) (fun S l => by unfold chkA; rfl)
  · obtain ⟨x, y, z, h1, h2, h3, h4, h5, h6, h7⟩ := hx h
    exact (snd3 HX h1 (ha.e HX tk h5 h2) (hb.e HX tk h6 h3) (hc.e HX tk h7 h4)).1
  · obtain ⟨x, y, z, h1, h2, h3, h4, h5, h6, h7⟩ := hx h
    exact ⟨(snd3 HX h1 (ha.e HX tk h5 h2) (hb.e HX tk h6 h3) (hc.e HX tk h7 h4)).2, fun op l p z => absurd z (sub3_noBool h1 op l p)⟩
theorem snd_and {a b : ME} (ha : Snd Γ es C lv a) (hb : Snd Γ es C lv b) : Snd Γ es C lv (.and a b) := by
  refine Snd.val rfl (fun {S X W e} HX tk h => ?_) (fun {S X W e} HX tk h ht => ?_) (fun S l => by unfold chkA; rfl)
  · unfold chk at h
    split at h
    · rename_i x y p hl
      have := asBool_ok hl
      subst this
      simp only [Bool.and_eq_true] at h
      obtain ⟨⟨⟨h1, h2⟩, h3⟩, h4⟩ := h
      exact PE.weak (pe_and (ha.e HX tk h3 h1) (pe_one (hb.e HX tk h4 h2))) fun σ H Q q => and_read q
    · rename_i x y z r p hl
      have := asBool_ok hl
      subst this
      simp only [Bool.and_eq_true] at h
      obtain ⟨⟨⟨h1, h2⟩, h3⟩, h4⟩ := h
      exact PE.weak (pe_and (ha.e HX tk h3 h1) (hb.e HX tk h4 h2)) fun σ H Q q => and_read q
    · cases h
  · have ht' : (tstM a && tstM b) = true := ht
    rw [Bool.and_eq_true] at ht'
    have hw : PW X e (tTM X.K es W (ev C (.and a b))) := by
      unfold chk at h
      split at h
      · rename_i x y p hl
        have := asBool_ok hl
        subst this
        simp only [Bool.and_eq_true] at h
        obtain ⟨⟨⟨h1, h2⟩, h3⟩, h4⟩ := h
        exact PW.weak (pw_and (ha.t HX tk h3 h1 ht'.1).1 (pw_and1 (hb.t HX tk h4 h2 ht'.2).1)) fun σ H Q q => andT_read q
      · rename_i x y z r p hl
        have := asBool_ok hl
        subst this
        simp only [Bool.and_eq_true] at h
        obtain ⟨⟨⟨h1, h2⟩, h3⟩, h4⟩ := h
        exact PW.weak (pw_and (ha.t HX tk h3 h1 ht'.1).1 ((hb.t HX tk h4 h2 ht'.2).2 _ _ _ rfl)) fun σ H Q q => andT_read q
      · cases h
    exact ⟨hw.pt, fun _ _ _ _ => hw⟩
theorem snd_or {a b : ME} (ha : Snd Γ es C lv a) (hb : Snd Γ es C lv b) : Snd Γ es C lv (.or a b) := by
  refine Snd.val rfl (fun {S X W e} HX tk h => ?_) (fun {S X W e} HX tk h ht => ?_) (fun S l => by unfold chkA; rfl)
  · unfold chk at h
    split at h
    · rename_i x y p hl
      have := asBool_ok hl
      subst this
      simp only [Bool.and_eq_true] at h
      obtain ⟨⟨⟨h1, h2⟩, h3⟩, h4⟩ := h
      exact PE.weak (pe_or (ha.e HX tk h3 h1) (pe_one (hb.e HX tk h4 h2))) fun σ H Q q => or_read q
    · rename_i x y z r p hl
      have := asBool_ok hl
      subst this
      simp only [Bool.and_eq_true] at h
      obtain ⟨⟨⟨h1, h2⟩, h3⟩, h4⟩ := h
      exact PE.weak (pe_or (ha.e HX tk h3 h1) (hb.e HX tk h4 h2)) fun σ H Q q => or_read q
    · cases h
  · have ht' : (tstM a && tstM b) = true := ht
    rw [Bool.and_eq_true] at ht'
    have hw : PW X e (tTM X.K es W (ev C (.or a b))) := by
      unfold chk at h
      split at h
      · rename_i x y p hl
        have := asBool_ok hl
        subst this
        simp only [Bool.and_eq_true] at h
        obtain ⟨⟨⟨h1, h2⟩, h3⟩, h4⟩ := h
        exact PW.weak (pw_or (ha.t HX tk h3 h1 ht'.1).1 (pw_or1 (hb.t HX tk h4 h2 ht'.2).1)) fun σ H Q q => orT_read q
      · rename_i x y z r p hl
        have := asBool_ok hl
        subst this
        simp only [Bool.and_eq_true] at h
        obtain ⟨⟨⟨h1, h2⟩, h3⟩, h4⟩ := h
        exact PW.weak (pw_or (ha.t HX tk h3 h1 ht'.1).1 ((hb.t HX tk h4 h2 ht'.2).2 _ _ _ rfl)) fun σ H Q q => orT_read q
      · cases h
    exact ⟨hw.pt, fun _ _ _ _ => hw⟩
theorem snd_ite {c a b : ME} (hc : Snd Γ es C lv c) (ha : Snd Γ es C lv a) (hb : Snd Γ es C lv b) : Snd Γ es C lv (.ite c a b) := by
  refine Snd.val rfl (fun {S X W e} HX tk h => ?_) (fun {S X W e} HX tk h ht => by cases ht) (fun S l => by unfold chkA; rfl)
  unfold chk at h
  split at h
  · rename_i x y z hl
    obtain ⟨p, rfl⟩ := asIf_ok hl
    simp only [Bool.and_eq_true] at h
    obtain ⟨⟨⟨⟨⟨⟨h1, h2⟩, h3⟩, h4⟩, h5⟩, h6⟩, h7⟩ := h
    exact PE.weak (pe_ifExp (hc.t HX tk h5 h3 h4).1 (ha.e HX tk h6 h1) (hb.e HX tk h7 h2)) fun σ H Q q => ite_read q
  · cases h
theorem marks2 {op op' : CmpOp} {b c : Expr} (hb : noSet b = true) (hc : noSet c = true) : lastMarks [op, op'] [b, c] = false := by
  show behindInMarks op' c = false
  exact marks_no hc
theorem snd_chain {o o' : O2} {a b c : ME} (ha : Snd Γ es C lv a) (hb : Snd Γ es C lv b) (hc : Snd Γ es C lv c) : Snd Γ es C lv (.chain o o' a b c) := by
  have hx : ∀ {S X W e}, XOk Γ es C lv S X → Takes X W → chk Γ S (.chain o o' a b c) e = true → PE X e (tM X.K es W (ev C (.chain o o' a b c))) ∧ PT X e (tTM X.K es W (ev C (.chain o o' a b c))) ∧ ∀ op l p, e ≠ .BoolOp op l p := by
    intro S X W e HX tk h
    unfold chk at h
    split at h
    · rename_i x op op' y z hl
      obtain ⟨p, rfl⟩ := asCmp2_ok hl
      simp only [Bool.and_eq_true] at h
      obtain ⟨⟨⟨⟨⟨⟨h0, h1⟩, h2⟩, h3⟩, h4⟩, h5⟩, h6⟩ := h
      split at h0
      · rename_i q q' hq hq'
        simp only [Bool.and_eq_true] at h0
        obtain ⟨⟨⟨k1, k2⟩, k3⟩, k4⟩ := h0
        have z1 := cmpEq_ok k1
        have z2 := cmpEq_ok k2
        subst z1 z2
        refine ⟨PE.weak (pe_chain (cmp_op HX hq) (cmp_op HX hq') (ha.e HX tk h4 h1) (hb.e HX tk h5 h2) (hc.e HX tk h6 h3) (marks2 k3 k4)) fun σ H Q q => chain_read q,
          PT.weak (pt_chain (cmp_op HX hq) (cmp_op HX hq') (ha.e HX tk h4 h1) (hb.e HX tk h5 h2) (hc.e HX tk h6 h3) (marks2 k3 k4)) fun σ H Q q => chain_read (tTM_val q), fun op l p z => by cases z⟩
      · cases h0
    · cases h
  exact Snd.val rfl (fun h1 h2 h3 => (hx h1 h2 h3).1) (fun h1 h2 h3 _ => ⟨(hx h1 h2 h3).2.1, fun o l p z => absurd z ((hx h1 h2 h3).2.2 o l p)⟩) (fun S l => by unfold chkA; rfl)
theorem snd_call {k : Nat} {a : ME} (ha : Snd Γ es C lv a) : Snd Γ es C lv (.call k a) := by
  have he : ∀ {S X W e}, XOk Γ es C lv S X → Takes X W → chk Γ S (.call k a) e = true → PE X e (tM X.K es W (ev C (.call k a))) ∧ byVal e = true := by
    intro S X W e HX tk h
    unfold chk at h
    split at h
    · rename_i x l hl
      obtain ⟨p, q, rfl⟩ := asCall_ok hl
      simp only [Bool.and_eq_true, decide_eq_true_eq] at h
      obtain ⟨⟨⟨⟨h1, h2⟩, h3⟩, h4⟩, h5⟩ := h
      obtain ⟨n1, n2, n3⟩ := plainName_ok h3
      cases hk : Γ.fns.lookup k with
      | none => rw [hk] at h1; cases h1
      | some d =>
        obtain ⟨x', n⟩ := d
        rw [hk] at h1
        have hxx : x' = x := Option.some.inj h1
        subst hxx
        obtain ⟨fa, fd, ps, hm, hkp, hbd, F, _⟩ := HX.fns k _ n hk
        refine ⟨?_, rfl⟩
        cases l with
        | nil =>
          refine PE.weak (pe_callS0 F HX.room (HX.gl h2) hm hkp hbd (fun σ => passAt tk σ) n1) fun σ H Q q => ?_
          have q' := call_read (HX.arity k _ n hk) q
          -- no argument: the list is empty
          have h6 : a = .nil := by
            cases a <;> first | rfl | (unfold chkA at h5; cases h5)
          subst h6
          obtain ⟨f, ρ, μ, S, L, h⟩ := q'
          exact h f H [] (Le.refl _ _) S rfl
        | cons e r =>
          rw [List.all_cons, Bool.and_eq_true] at h4
          exact PE.weak (pe_callS F HX.room (HX.gl h2) hm hkp hbd (fun σ => passAt tk σ) (ha.a HX tk h5) n1 (star_cons h4.1 _ _) (star_any h4.2)) fun σ H Q q => call_read (HX.arity k _ n hk) q
    · cases h
  exact Snd.val rfl (fun h1 h2 h3 => (he h1 h2 h3).1) (fun h1 h2 h3 _ => ⟨pt_default (he h1 h2 h3).1 (he h1 h2 h3).2, noBool (he h1 h2 h3).2⟩) (fun S l => by unfold chkA; rfl)
theorem snd_callK {k : Nat} {perm : List Nat} {a : ME} (ha : Snd Γ es C lv a) : Snd Γ es C lv (.callK k perm a) := by
  have he : ∀ {S X W e}, XOk Γ es C lv S X → Takes X W → chk Γ S (.callK k perm a) e = true → PE X e (tM X.K es W (ev C (.callK k perm a))) ∧ byVal e = true := by
    intro S X W e HX tk h
    unfold chk at h
    split at h
    · rename_i x kws hl
      obtain ⟨p, q, rfl⟩ := asCallK_ok hl
      simp only [Bool.and_eq_true, decide_eq_true_eq] at h
      obtain ⟨⟨⟨⟨⟨h1, h2⟩, h3⟩, h4⟩, h5⟩, h6⟩ := h
      obtain ⟨n1, n2, n3⟩ := plainName_ok h3
      cases hk : Γ.fns.lookup k with
      | none => rw [hk] at h1; cases h1
      | some d =>
        obtain ⟨x', n⟩ := d
        rw [hk] at h1
        have hxx : x' = x := Option.some.inj h1
        subst hxx
        obtain ⟨fa, fd, ps, hm, hkp, hbd, F, hkw⟩ := HX.fns k _ n hk
        refine ⟨PE.weak (pe_kw0 F HX.room (HX.gl h2) hm hkp (hkw _ _ h4) (fun σ => passAt tk σ) n1 (ha.k HX tk h6) h5) fun σ H Q q => ?_, rfl⟩
        refine kw_read (fun ρ μ v μ' hv => ?_) (HX.arity k _ n hk) q
        obtain ⟨vs, e1, e2⟩ := argc_len a _ h6 ρ μ v μ' hv
        refine ⟨vs, e1, e2.trans ?_⟩
        rw [chkA_len h6, ks_len h5, List.length_map]
    · cases h
  exact Snd.val rfl (fun h1 h2 h3 => (he h1 h2 h3).1) (fun h1 h2 h3 _ => ⟨pt_default (he h1 h2 h3).1 (he h1 h2 h3).2, noBool (he h1 h2 h3).2⟩) (fun S l => by unfold chkA; rfl)
where
  ks_len : ∀ {kws : List Keyword}, kws.all (fun q => q.arg.isSome) = true → (ksOf kws).length = kws.length
    | [], _ => rfl
    | q :: r, h => by
      rw [List.all_cons, Bool.and_eq_true] at h
      cases e : q.arg with
      | none => rw [e] at h; cases h.1
      | some x =>
        unfold ksOf
        rw [List.filterMap_cons_some e, List.length_cons, List.length_cons]
        exact congrArg (· + 1) (ks_len h.2)
  chkA_len {Γ : Gam} {S : SS} : ∀ {m : ME} {l : List Expr}, chkA Γ S m l = true → argc m = l.length
    | .nil, [], _ => rfl
    | .cons a b, e :: l, h => by
      have h' : (vE a && plainArg e && chk Γ S a e && chkA Γ S b l) = true := by unfold chkA at h; exact h
      rw [Bool.and_eq_true] at h'
      rw [List.length_cons, ← chkA_len h'.2]
      rfl
    | .nil, _ :: _, h => by unfold chkA at h; cases h
    | .cons _ _, [], h => by unfold chkA at h; cases h
    | .var _, _, h => by unfold chkA at h; cases h
    | .cst _, _, h => by unfold chkA at h; cases h
    | .tupE _, _, h => by unfold chkA at h; cases h
    | .lstE _, _, h => by unfold chkA at h; cases h
    | .op1 _ _, _, h => by unfold chkA at h; cases h
    | .op2 _ _ _, _, h => by unfold chkA at h; cases h
    | .op3 _ _ _ _, _, h => by unfold chkA at h; cases h
    | .and _ _, _, h => by unfold chkA at h; cases h
    | .or _ _, _, h => by unfold chkA at h; cases h
    | .ite _ _ _, _, h => by unfold chkA at h; cases h
    | .chain _ _ _ _ _, _, h => by unfold chkA at h; cases h
    | .call _ _, _, h => by unfold chkA at h; cases h
    | .callK _ _ _, _, h => by unfold chkA at h; cases h
    | .rng _, _, h => by unfold chkA at h; cases h
    | .rng2 _ _, _, h => by unfold chkA at h; cases h
    | .rng3 _, _, h => by unfold chkA at h; cases h
    | .comp _ _ _ _, _, h => by unfold chkA at h; cases h
    | .tmp _, _, h => by unfold chkA at h; cases h
theorem snd_tmp {a : ME} (ha : Snd Γ es C lv a) : Snd Γ es C lv (.tmp a) := by
  have hx : ∀ {S e}, chk Γ S (.tmp a) e = true → vE a = true ∧ chk Γ S a e = true := by
    intro S e h
    unfold chk at h
    rw [Bool.and_eq_true] at h
    exact h
  refine Snd.val rfl (fun {S X W e} HX tk h => ?_) (fun {S X W e} HX tk h ht => ?_) (fun S l => by unfold chkA; rfl)
  · obtain ⟨h1, h2⟩ := hx h
    exact PE.weak (ha.e HX tk h2 h1) fun σ H Q q => tmp_read q
  · obtain ⟨h1, h2⟩ := hx h
    obtain ⟨t1, t2⟩ := ha.t HX tk h2 h1 ht
    exact ⟨PT.weak t1 fun σ H Q q => tmp_readT q, fun o l p z => PW.weak (t2 o l p z) fun σ H Q q => tmp_readT q⟩
theorem snd_rng {a : ME} (ha : Snd Γ es C lv a) : Snd Γ es C lv (.rng a) := by
  refine ⟨fun _ _ _ h => (by cases h), fun _ _ _ h => (by cases h), ?_, fun {S X W l} _ _ h => (by unfold chkA at h; cases h), fun {S X W l} _ _ h => (by unfold chkA at h; cases h)⟩
  intro S X W e HX tk h tg
  unfold chk at h
  split at h
  · rename_i x hx
    simp only [Bool.and_eq_true] at h
    obtain ⟨⟨h1, h2⟩, h3⟩ := h
    obtain ⟨p, q, rfl, g1, g2, g3⟩ := bi1_ok hx
    refine PI.weak (pi_range1 (HX.gl g1) (HX.abs _ g2) (pa_1 h2 (ha.e HX tk h3 h1)) (star_cons h2 _ _)) fun σ H R q => ?_
    obtain ⟨f, ρ, μ, S, L, h⟩ := q
    refine ⟨f, ρ, μ, S, L, ?_⟩
    have hev : ev C (.rng a) ρ μ = (ev C a ρ μ).bind fun x μ1 => match x with
      | .int j => if -LIM ≤ j ∧ j ≤ LIM then .ok (.tup ((List.range j.toNat).map fun i => .int (i : Nat))) μ1 else .fail
      | _ => .fail := rfl
    rw [hev] at h
    cases e : ev C a ρ μ with
    | exc c fs μ1 => rw [e] at h; exact h
    | fail => rw [e] at h; exact h
    | ok v μ1 =>
      rw [e, Out.bind_ok] at h
      cases v with
      | int j =>
        by_cases hj : -(LIM : Int) ≤ j ∧ j ≤ LIM
        · simp only [hj, and_self, if_true] at h
          obtain ⟨xs, hi, h⟩ := h
          cases (show some ((List.range j.toNat).map fun i => Val.int (i : Nat)) = some xs from hi)
          intro f' H' x l S' r
          have hr : x = .int j := r
          subst hr
          have hL : LIM = 16777216 := rfl
          refine ⟨j, rfl, by omega, by omega, h f' H' _ l S' ?_⟩
          have := itOk_rng (K := X.K) (lo := 0) (n := j.toNat) (f1 := f') (H1 := H')
          simpa using this
        · simp only [hj, if_false] at h
      | _ => exact h.elim
  · cases h
theorem snd_rng2 {a b : ME} (ha : Snd Γ es C lv a) (hb : Snd Γ es C lv b) : Snd Γ es C lv (.rng2 a b) := by
  refine ⟨fun _ _ _ h => (by cases h), fun _ _ _ h => (by cases h), ?_, fun {S X W l} _ _ h => (by unfold chkA at h; cases h), fun {S X W l} _ _ h => (by unfold chkA at h; cases h)⟩
  intro S X W e HX tk h tg
  unfold chk at h
  split at h
  · rename_i x y hx
    simp only [Bool.and_eq_true] at h
    obtain ⟨⟨⟨⟨⟨h1, h2⟩, h3⟩, h4⟩, h5⟩, h6⟩ := h
    obtain ⟨p, q, rfl, g1, g2, g3⟩ := bi2_ok hx
    refine PI.weak (pi_range2 (HX.gl g1) (HX.abs _ g2) (pa_2 h3 h4 (ha.e HX tk h5 h1) (hb.e HX tk h6 h2)) (by rw [star_cons h3, star_cons h4]; rfl) (star_cons h4 _ _)) fun σ H R q => ?_
    obtain ⟨f, ρ, μ, S, L, h⟩ := q
    refine ⟨f, ρ, μ, S, L, ?_⟩
    have hev : ev C (.rng2 a b) ρ μ = (ev C a ρ μ).bind fun x μ1 => (ev C b ρ μ1).bind fun y μ2 => match x, y with
      | .int i, .int j => if -LIM ≤ i ∧ i ≤ LIM ∧ j ≤ LIM ∧ -LIM ≤ j then .ok (.tup ((List.range (j - i).toNat).map fun k => .int (i + (k : Nat)))) μ2 else .fail
      | _, _ => .fail := rfl
    rw [hev] at h
    cases e : ev C a ρ μ with
    | exc c fs μ1 => rw [e] at h; exact h
    | fail => rw [e] at h; exact h
    | ok v μ1 =>
      rw [e, Out.bind_ok] at h
      intro f1 H1 x l1 S1 rx
      refine ⟨f1, ρ, μ1, S1, L.mono l1, ?_⟩
      cases e' : ev C b ρ μ1 with
      | exc c fs μ2 =>
        rw [e'] at h
        exact fun f' H' cls d l' S' r => h f' H' cls d (l1.trans l') S' r
      | fail => rw [e'] at h; exact h
      | ok w μ2 =>
        rw [e', Out.bind_ok] at h
        cases v with
        | int i =>
          cases w with
          | int j =>
            by_cases hj : -(LIM : Int) ≤ i ∧ i ≤ LIM ∧ j ≤ LIM ∧ -(LIM : Int) ≤ j
            · simp only [hj, and_self, if_true] at h
              obtain ⟨xs, hi, h⟩ := h
              cases (show some ((List.range (j - i).toNat).map fun k => Val.int (i + (k : Nat))) = some xs from hi)
              intro f' H' y l' S' r
              have hr : y = .int j := r
              subst hr
              have hr2 : x = .int i := rx
              subst hr2
              have hL : LIM = 16777216 := rfl
              exact ⟨i, j, rfl, ⟨by omega, by omega, by omega, by omega⟩, h f' H' _ (l1.trans l') S' itOk_rng⟩
            · simp only [hj, if_false] at h
          | _ => exact h.elim
        | _ => exact h.elim
  · cases h
theorem rsize_b {i j k : Int} (hk : k ≠ 0) : 0 ≤ rsize i j k ∧ (rsize i j k ≤ j - i ∨ rsize i j k ≤ i - j ∨ rsize i j k = 0) := by
  unfold rsize
  by_cases h : k > 0
  · rw [if_pos h]
    by_cases h2 : i < j
    · rw [if_pos h2]
      have h3 := Int.ediv_nonneg (show 0 ≤ j - i - 1 by omega) (show 0 ≤ k by omega)
      have h4 := Int.ediv_le_self k (show 0 ≤ j - i - 1 by omega)
      exact ⟨by omega, .inl (by omega)⟩
    · rw [if_neg h2]; exact ⟨by omega, .inr (.inr rfl)⟩
  · rw [if_neg h]
    by_cases h2 : i > j
    · rw [if_pos h2]
      have h3 := Int.ediv_nonneg (show 0 ≤ i - j - 1 by omega) (show 0 ≤ -k by omega)
      have h4 := Int.ediv_le_self (-k) (show 0 ≤ i - j - 1 by omega)
      exact ⟨by omega, .inr (.inl (by omega))⟩
    · rw [if_neg h2]; exact ⟨by omega, .inr (.inr rfl)⟩
theorem rgC_of {i j k : Int} (h : -(LIM : Int) ≤ i ∧ i ≤ LIM ∧ -(LIM : Int) ≤ j ∧ j ≤ LIM ∧ -(LIM : Int) ≤ k ∧ k ≤ LIM ∧ k ≠ 0) : RgC i j k (rsize i j k).toNat := by
  have hL : (LIM : Int) = 16777216 := rfl
  have hb := rsize_b (i := i) (j := j) h.2.2.2.2.2.2
  have hr : Builtin.Range.rangeSize i j k = rsize i j k := rfl
  refine ⟨h.2.2.2.2.2.2, by omega, ?_, by rw [hr]; omega⟩
  unfold Builtin.Range.small
  rw [hr]
  obtain ⟨n, hn⟩ : ∃ n, rsize i j k = n := ⟨_, rfl⟩
  rw [hn] at hb ⊢
  simp only [Builtin.Range.rangeFitsLong, Bool.and_eq_true, Bool.or_eq_true, decide_eq_true_eq, beq_iff_eq]
  refine ⟨⟨⟨⟨⟨by omega, by omega⟩, ⟨by omega, by omega⟩⟩, ⟨by omega, by omega⟩⟩, ⟨by omega, by omega⟩⟩, .inr ?_⟩
  split <;> (simp only [Bool.and_eq_true, decide_eq_true_eq]; omega)
/-- what a range of three comes to -/
theorem rng3_inv {vs : List Val} {μ : Sto} : rng3 vs μ = .fail ∨ ∃ i j k : Int, vs = [.int i, .int j, .int k] ∧ (-(LIM : Int) ≤ i ∧ i ≤ LIM ∧ -(LIM : Int) ≤ j ∧ j ≤ LIM ∧ -(LIM : Int) ≤ k ∧ k ≤ LIM ∧ k ≠ 0) ∧ rng3 vs μ = .ok (.tup ((List.range (rsize i j k).toNat).map fun m => .int (i + (m : Nat) * k))) μ := by
  unfold rng3
  split
  · rename_i i j k
    split
    · rename_i hb
      exact .inr ⟨i, j, k, rfl, hb, rfl⟩
    · exact .inl rfl
  · exact .inl rfl
theorem snd_rng3 {a : ME} (ha : Snd Γ es C lv a) : Snd Γ es C lv (.rng3 a) := by
  refine ⟨fun _ _ _ h => (by cases h), fun _ _ _ h => (by cases h), ?_, fun {S X W l} _ _ h => (by unfold chkA at h; cases h), fun {S X W l} _ _ h => (by unfold chkA at h; cases h)⟩
  intro S X W e HX tk h tg
  unfold chk at h
  split at h
  · rename_i l hx
    rw [Bool.and_eq_true] at h
    obtain ⟨x, y, z, p, q, rfl, rfl, g1, g2, g3⟩ := bi3_ok hx
    have hp := h.1
    simp only [List.all_cons, List.all_nil, Bool.and_true, Bool.and_eq_true] at hp
    refine PI.weak (pi_range3 (HX.gl g1) (HX.abs _ g2) (ha.a HX tk h.2) (star_cons hp.1 _ _) (star_any (by rw [List.all_cons, List.all_cons, List.all_nil, hp.2.1, hp.2.2]; rfl))) fun σ H R q => ?_
    obtain ⟨f, ρ, μ, S, L, h⟩ := q
    refine ⟨f, ρ, μ, S, L, ?_⟩
    have hev : ev C (.rng3 a) ρ μ = (ev C a ρ μ).bind fun ys μ1 => match ys with
      | .tup vs => rng3 vs μ1
      | _ => .fail := rfl
    rw [hev] at h
    cases e : ev C a ρ μ with
    | exc c fs μ1 => rw [e] at h; exact h
    | fail => rw [e] at h; exact h
    | ok v μ1 =>
      rw [e, Out.bind_ok] at h
      cases v with
      | tup vs =>
        simp only [] at h
        rcases rng3_inv (vs := vs) (μ := μ1) with e3 | ⟨i, j, k, rfl, hb, e3⟩
        · rw [e3] at h; exact h.elim
        · rw [e3] at h
          obtain ⟨xs, hi, h⟩ := h
          have hi' : xs = (List.range (rsize i j k).toNat).map fun m => Val.int (i + (m : Nat) * k) := (Option.some.inj (show some _ = some xs from hi)).symm
          subst hi'
          intro f' H' ys l' S' t
          obtain ⟨_, _, rfl, r1, _, _, rfl, r2, _, _, rfl, r3, r4⟩ := t
          rw [show _ = _ from r1, show _ = _ from r2, show _ = _ from r3, show _ = _ from r4]
          exact ⟨i, j, k, _, rfl, rgC_of hb, h f' H' _ l' S' itOk_rngC⟩
      | _ => exact h.elim
  · cases h
end
end Mi
end

section
set_option Elab.async false
set_option linter.all false
set_option maxRecDepth 100000
set_option autoImplicit false
set_option maxHeartbeats 1000000
/-! Sound12: comprehensions among the terms; every term is sound. -/
namespace Mi
open PySem PySem.Spec L2
open PyProof.Rows hiding St
section
variable {Γ : Gam} {es : List EC} {C : CallF} {lv : Nat}
/-- the names of a comprehension's block -/
def blkS (S : SS) (sc : Scope) : SS := ⟨S.N, relS sc S.sc, fun x => sc.names.lookup x == some .cell⟩
theorem XOk.blk {S : SS} {X : Cx} (h : XOk Γ es C lv S X) (s : Shared) (H : Hp) (sc : Scope) (cl : List (Str × Addr)) (D : Addr) (fp : List Addr) : XOk Γ es C lv (blkS S sc) (X.blk s H sc (compEnvC sc cl D X.env) fp) where
  hN := h.hN
  nd := h.nd
  hsc := by
    show relS sc X.env.scope = relS sc S.sc
    rw [h.hsc]
  hfn := rfl
  calm := h.calm
  room := h.room
  po := PassesOwn.never
  abs := h.abs
  cs := h.cs
  fns := h.fns
  arity := h.arity
theorem own_ix : ∀ {is : List Nat} {l : List Expr} {S : SS}, chkNs S is l = true → ((l.filterMap asName).zip is).map (·.2) = is
  | [], [], _, _ => rfl
  | i :: is, e :: l, S, h => by
    have h' : (chkNm S i e && chkNs S is l) = true := h
    rw [Bool.and_eq_true] at h'
    have ih := own_ix h'.2
    have hn : ∃ x, asName e = some x := by
      have := h'.1
      unfold chkNm at this
      split at this
      · exact ⟨_, by assumption⟩
      · cases this
    obtain ⟨x, hx⟩ := hn
    rw [List.filterMap_cons_some hx, List.zip_cons_cons, List.map_cons, ih]
  | [], _ :: _, _, h => by cases h
  | _ :: _, [], _, h => by cases h
/-- a comprehension, once its parts are known -/
theorem comp_all {tg : MT} {it cond elt : ME} (hi : Snd Γ es C lv it) (hc : Snd Γ es C lv cond) (he : Snd Γ es C lv elt) {S : SS} {X : Cx} {W : WX} (HX : XOk Γ es C lv S X) (tk : Takes X W) {x t iter : Expr} {ifs : List Expr} {sc : Scope} {p : Pos} {own : List (Str × Nat)}
    (h1 : noSet iter = true) (h2 : chk Γ S it iter = true) (h3 : vE cond = true) (h4 : vE elt = true) (h5 : tstM cond = true) (h6 : blkC S.N S.sc sc own = true) (h7 : chkTg (blkS S sc) tg t = true) (h8 : chk Γ (blkS S sc) elt x = true)
    (h9 : (match ifs with
      | [] => isTrueC cond
      | [c] => chk Γ (blkS S sc) cond c
      | _ => false) = true) (h10 : own.map (·.2) = tgs tg) : PE X (.ListComp x [⟨t, iter, ifs, 0⟩] sc p) (tM X.K es W (ev C (.comp tg it cond elt))) := by
  have ok : BlkOk X.N X.env.scope sc own := by rw [HX.hN, HX.hsc]; exact blkOk_by h6
  have htt : ∃ tt : TT, ttOk X.K es tt (ev C cond) ∧ ∀ (s : Shared) (H : Hp) (D : Addr) (cl : List (Str × Addr)) (fp : List Addr), PTs (X.blk s H sc (compEnvC sc cl D X.env) fp) ifs tt := by
    cases ifs with
    | nil =>
      have h9' := isTrueC_ok h9
      refine ⟨tYes, fun σ H Q q => ?_, fun _ _ _ _ _ => pts_nil⟩
      obtain ⟨f, ρ, μ, S, L, h⟩ := q
      rw [h9'] at h
      exact h f H (Le.refl _ _) S
    | cons c r =>
      cases r with
      | nil => exact ⟨tTM X.K es W0 (ev C cond), fun _ _ _ q => q, fun s H D cl fp => pts_one (hc.t (HX.blk s H sc cl D fp) takesW0 h9 h3 h5).1⟩
      | cons _ _ => cases h9
  obtain ⟨tt, ht1, ht2⟩ := htt
  exact PE.weak (pe_lc (own := own) (g := gT X.K tg) (tt := tt) (te := tM X.K es W0 (ev C elt)) HX.calm (by rw [HX.hN]; exact HX.nd) (hi.i (W := W) HX tk h2 t) ok (fun s H D cl fp => tg_PG (HX.blk s H sc cl D fp) h7) ht2
    (fun s H D cl fp => he.e (HX.blk s H sc cl D fp) takesW0 h8 h4) (folded_no h1)) fun σ H Q q => lc_read ht1 h10 q
theorem comp_noBool {Γ : Gam} {S : SS} {tg : MT} {it cond elt : ME} {e : Expr} (h : chk Γ S (.comp tg it cond elt) e = true) : byVal e = true := by
  unfold chk at h
  split at h
  · rename_i hl
    obtain ⟨p, rfl⟩ := asComp_ok hl
    rfl
  · cases h
theorem snd_comp {tg : MT} {it cond elt : ME} (hi : Snd Γ es C lv it) (hc : Snd Γ es C lv cond) (he : Snd Γ es C lv elt) : Snd Γ es C lv (.comp tg it cond elt) := by
  have hx : ∀ {S X W e}, XOk Γ es C lv S X → Takes X W → chk Γ S (.comp tg it cond elt) e = true → PE X e (tM X.K es W (ev C (.comp tg it cond elt))) := by
    intro S X W e HX tk h
    unfold chk at h
    split at h
    · rename_i x t iter ifs sc hl
      obtain ⟨p, rfl⟩ := asComp_ok hl
      simp only [Bool.and_eq_true] at h
      obtain ⟨⟨⟨⟨⟨h1, h2⟩, h3⟩, h4⟩, h5⟩, h6⟩ := h
      cases tg with
      | nm i =>
        dsimp only at h6
        split at h6
        · rename_i y hy
          simp only [Bool.and_eq_true] at h6
          obtain ⟨⟨⟨k1, k2⟩, k3⟩, k4⟩ := h6
          exact comp_all hi hc he HX tk h1 h2 h3 h4 h5 k1 k2 k3 k4 rfl
        · cases h6
      | tp is =>
        dsimp only at h6
        split at h6
        · rename_i ys hy
          simp only [Bool.and_eq_true] at h6
          obtain ⟨⟨⟨⟨k1, k0⟩, k2⟩, k3⟩, k4⟩ := h6
          refine comp_all hi hc he HX tk h1 h2 h3 h4 h5 k1 k2 k3 k4 ?_
          have k2' : (match asTup t with
            | some l => chkNs (blkS S sc) is l
            | none => false) = true := k2
          rw [hy] at k2'
          exact own_ix k2'
        · cases h6
    · cases h
  exact Snd.val rfl (fun h1 h2 h3 => hx h1 h2 h3) (fun h1 h2 h3 _ => ⟨pt_default (hx h1 h2 h3) (comp_noBool h3), noBool (comp_noBool h3)⟩) (fun S l => by unfold chkA; rfl)
/-- every term is sound -/
theorem snd : ∀ m : ME, Snd Γ es C lv m
  | .var _ => snd_var
  | .cst _ => snd_cst
  | .nil => snd_nil
  | .cons a b => snd_cons (snd a) (snd b)
  | .tupE a => snd_tupE (snd a)
  | .lstE a => snd_lstE (snd a)
  | .op1 _ a => snd_op1 (snd a)
  | .op2 _ a b => snd_op2 (snd a) (snd b)
  | .op3 _ a b c => snd_op3 (snd a) (snd b) (snd c)
  | .and a b => snd_and (snd a) (snd b)
  | .or a b => snd_or (snd a) (snd b)
  | .ite c a b => snd_ite (snd c) (snd a) (snd b)
  | .chain _ _ a b c => snd_chain (snd a) (snd b) (snd c)
  | .call _ a => snd_call (snd a)
  | .callK _ _ a => snd_callK (snd a)
  | .rng a => snd_rng (snd a)
  | .rng2 a b => snd_rng2 (snd a) (snd b)
  | .rng3 a => snd_rng3 (snd a)
  | .comp _ a b c => snd_comp (snd a) (snd b) (snd c)
  | .tmp a => snd_tmp (snd a)
end
end Mi
end

section
set_option Elab.async false
set_option linter.all false
set_option maxRecDepth 100000
set_option autoImplicit false
set_option maxHeartbeats 1000000
/-! Sound13: exceptions: how one is made, raised. -/
namespace Mi
open PySem PySem.Spec L2
open PyProof.Rows hiding St
/-- the promise of an __init__ that keeps its arguments in fields of their names, one after the other -/
def spI (C : Addr) (flds : List Str) : Sp := fun vs H Q _ => ∃ (a : Addr) (ys : List V), vs = .ref a :: ys ∧ ys.length = flds.length ∧ 0 < flds.length ∧ H a = some (exo a C none) ∧
  ∀ (d : Addr) (H2 : Hp), H d = none → d ≠ a → H2 a = some (exo a C (some d)) → H2 d = some (exd d (flds.zip ys).reverse) → (∀ b, b ≠ a → b ≠ d → H2 b = H b) → Q .non H2
/-- self.f = f, .. -/
def chkI (self : Str) : List Str → List Stmt → Bool
  | [], [] => true
  | f :: fs, .Assign [.Attribute (.Name s _) g _] (.Name x _) _ :: r => decide (s = self) && decide (g = f) && decide (x = f) && chkI self fs r
  | _, _ => false
section
variable {X : Cx} {C a : Addr} {flds : List Str} {ys : List V} {H0 : Hp}
/-- behind the first stores -/
def InitAt (C a : Addr) (H0 : Hp) (done : List (Str × V)) (H : Hp) : Prop :=
  (done = [] ∧ H = H0) ∨ (done ≠ [] ∧ ∃ d, H0 d = none ∧ d ≠ a ∧ H a = some (exo a C (some d)) ∧ H d = some (exd d done.reverse) ∧ ∀ b, b ≠ a → b ≠ d → H b = H0 b)
theorem init_body {X : Cx} {C a : Addr} {H0 : Hp} {self : Str} (T : OexC X.K C) (hself : X.N[0]? = some self) (hs : Vis X.env.scope self) (ns : plainName self = true) (h0 : H0 a = some (exo a C none)) :
    ∀ (k : Nat) (fs : List Str) (ys : List V) (sts : List Stmt) (done : List (Str × V)), fs.length = ys.length → done.length + fs.length ≤ 20 → chkI self fs sts = true → (∀ j f, fs[j]? = some f → X.N[k + j]? = some f ∧ Vis X.env.scope f ∧ plainName f = true ∧ PySem.W.findIn X.K (.ref C) f = some none) →
      ∃ t, PSs X sts t ∧ ∀ (D : Ends) (σ : L2.St) (H : Hp), σ[0]? = some (some (.ref a)) → (∀ j y, ys[j]? = some y → σ[k + j]? = some (some y)) → InitAt C a H0 done H → (∀ H', InitAt C a H0 (done ++ fs.zip ys) H' → D.nx σ H') → t D σ H
  | k, [], [], [], done, _, _, _, _ => ⟨_, pss_nil, fun D σ H _ _ hi hq => hq H (by rw [List.zip_nil_left, List.append_nil]; exact hi)⟩
  | k, f :: fs, y :: ys, st :: sts, done, hl, hz, hc, hf => by
    have hc' : ∃ s p1 g p2 x p3 p4, st = .Assign [.Attribute (.Name s p1) g p2] (.Name x p3) p4 ∧ s = self ∧ g = f ∧ x = f ∧ chkI self fs sts = true := by
      unfold chkI at hc
      split at hc
      · rename_i h1 _; cases h1
      · rename_i h1 h2
        cases h1
        cases h2
        simp only [Bool.and_eq_true, decide_eq_true_eq] at hc
        exact ⟨_, _, _, _, _, _, _, rfl, hc.1.1.1, hc.1.1.2, hc.1.2, hc.2⟩
      · cases hc
    obtain ⟨s, p1, g, p2, x, p3, p4, rfl, rfl, rfl, rfl, hc2⟩ := hc'
    obtain ⟨n1, v1, m1, nf⟩ := hf 0 _ rfl
    rw [Nat.add_zero] at n1
    obtain ⟨a1, a2, _⟩ := plainName_ok ns
    obtain ⟨b1, b2, _⟩ := plainName_ok m1
    obtain ⟨t, ht, rd⟩ := init_body T hself hs ns h0 (k + 1) fs ys sts (done ++ [(x, y)]) (by simpa using hl) (by simp at hz ⊢; omega) hc2 (fun j f' e => by
      have := hf (j + 1) f' (by simpa using e)
      rw [show k + 1 + j = k + (j + 1) by omega]; exact this)
    refine ⟨_, pss_cons (ps_ost (pe_var hself hs a1 a2) (pe_var n1 v1 b1 b2) (swaps_no rfl)) ht, fun D σ H hs0 hsy hi hq => ?_⟩
    have hy := hsy 0 y rfl
    rw [Nat.add_zero] at hy
    have fin : ∀ H', InitAt C a H0 (done ++ [(x, y)]) H' → t D σ H' := fun H' hi' => rd D σ H' hs0 (fun j z e => by
      rw [show k + 1 + j = k + (j + 1) by omega]; exact hsy (j + 1) z (by simpa using e)) hi' (fun H'' hi'' => hq H'' (by
        rw [List.append_assoc] at hi''
        exact hi''))
    refine ⟨y, hy, .ref a, hs0, a, C, rfl, T, nf, ?_⟩
    rcases hi with ⟨rfl, rfl⟩ | ⟨hne, d, hd, hda, ha, hdd, hot⟩
    · refine .inl ⟨h0, fun dx hdx hne => fin _ (.inr ⟨by simp, dx, hdx, hne, upd_same, ?_, fun b h1 h2 => ?_⟩)⟩
      · rw [upd_ne hne, upd_same]; rfl
      · rw [upd_ne h1, upd_ne h2]
    · refine .inr ⟨d, done.reverse, ha, hdd, by simp at hz ⊢; omega, fin _ (.inr ⟨by simp, d, hd, hda, ?_, ?_, fun b h1 h2 => ?_⟩)⟩
      · rw [upd_ne (Ne.symm hda)]; exact ha
      · rw [upd_same, List.reverse_append]; rfl
      · rw [upd_ne h2]; exact hot b h1 h2
  | k, [], _ :: _, _, _, hl, _, _, _ => by cases hl
  | k, _ :: _, [], _, _, hl, _, _, _ => by cases hl
  | k, [], [], _ :: _, _, _, _, hc, _ => by cases hc
  | k, _ :: _, _ :: _, [], _, _, _, hc, _ => by cases hc
/-- an __init__ of the text keeps it -/
theorem init_ok {P : Program} {w : World} {K : PySem.W.Frag} {mg : Str → Option Value} {base : Heap} {qual : Str} {st : Stmt} {f : Addr} {fd : FuncData} {C : Addr} {self : Str} {flds : List Str} (F : Fun K "__init__" qual st f fd) (S : FnScope (self :: flds) (self :: flds) (defScope st))
    (T : OexC K C) (hc : chkI self flds (defBody st) = true) (hv : ∀ x ∈ self :: flds, visB (defScope st) x = true ∧ plainName x = true) (hno : ∀ x ∈ flds, PySem.W.findIn K (.ref C) x = some none) (hz : flds.length ≤ 20) : FnOk P w K mg base (L2.CX P w) 1 f fd (self :: flds) (spI C flds) := by
  refine F.okX S (fun vs H Q E h => ?_) (fun cdv A outer s H vs Q E hr h => ?_)
  · obtain ⟨a, ys, rfl, hl, _⟩ := h
    simp [hl]
  · obtain ⟨a, ys, rfl, hl, hpos, ha, hq⟩ := h
    have hN : ∀ {i : Nat} {x : Str}, (self :: flds)[i]? = some x → x ∈ self :: flds := fun h => List.mem_of_getElem? h
    obtain ⟨t, ht, rd⟩ := init_body (X := cxOf (L2.CX P w) P w K mg base (self :: flds) qual (defScope st) f cdv A outer s H E) (H0 := H) T rfl (visB_ok (hv self (List.mem_cons_self ..)).1) (hv self (List.mem_cons_self ..)).2 ha 1 flds ys (defBody st) [] hl.symm (by simpa using hz) hc (fun j x e => by
      have hm : x ∈ flds := List.mem_of_getElem? e
      refine ⟨?_, visB_ok (hv x (List.mem_cons_of_mem _ hm)).1, (hv x (List.mem_cons_of_mem _ hm)).2, hno x hm⟩
      show (self :: flds)[1 + j]? = some x
      rw [Nat.add_comm]; simpa using e)
    refine ⟨t, ht, rd _ _ H ?_ ?_ (.inl ⟨rfl, rfl⟩) fun H' hi => ?_⟩
    · rfl
    · intro j y e
      show (L2.start (self :: flds) (V.ref a :: ys))[1 + j]? = some (some y)
      unfold L2.start
      rw [Nat.add_comm, List.map_cons, List.cons_append, List.getElem?_cons_succ, List.getElem?_append_left (by simpa using (List.getElem?_eq_some_iff.mp e).1), List.getElem?_map, e]
      rfl
    · rcases hi with ⟨h1, _⟩ | ⟨_, d, hd, hda, h1, h2, h3⟩
      · exfalso
        have : ([] ++ flds.zip ys).length = flds.length := by simp [hl]
        rw [h1] at this
        simp at this
        omega
      · exact hq d H' hd hda h1 h2 h3
end

/-! ### raise -/
/-- what is known of the classes of exceptions -/
structure EOk (Γ : Gam) (es : List EC) (P : Program) (w : World) (K : PySem.W.Frag) (mg : Str → Option Value) (base : Heap) : Prop where
  len : es.map (fun e => (e.no, e.name, e.flds)) = Γ.exn
  cls : ∀ e ∈ es, mg e.name = some (.ref e.C)
  mkx : ∀ e ∈ es, 0 < e.flds.length → OexC K e.C ∧ e.flds.length ≤ 20 ∧ ∃ fI fd ps, PySem.W.findIn K (.ref e.C) "__init__" = some (some (.ref fI)) ∧ PySem.W.typeIn K (.ref fI) = some (.type "function") ∧ Binds K fd ps [] ∧ FnOk P w K mg base (L2.CX P w) 1 fI fd ps (spI e.C e.flds)
  nd : ∀ e ∈ es, e.flds.Nodup
theorem eAt_lookup {c : Nat} : ∀ {es : List EC}, (es.map (fun e => (e.no, e.name, e.flds))).lookup c = (eAt es c).map fun e => (e.name, e.flds)
  | [] => rfl
  | e :: es => by
    rw [List.map_cons, List.lookup_cons]
    unfold eAt
    rw [List.find?_cons]
    by_cases h : e.no = c
    · subst h
      simp
    · have h1 : (c == e.no) = false := by simpa using fun z => h z.symm
      have h2 : (e.no == c) = false := by simpa using h
      rw [h1, h2]
      exact eAt_lookup
theorem EOk.look {Γ : Gam} {es : List EC} {P : Program} {w : World} {K : PySem.W.Frag} {mg : Str → Option Value} {base : Heap} (E : EOk Γ es P w K mg base) (c : Nat) : Γ.exn.lookup c = (eAt es c).map fun e => (e.name, e.flds) := by
  rw [← E.len]; exact eAt_lookup
/-- looking up in what the stores have left -/
theorem zip_lookup : ∀ {fs : List Str} {ys : List V} {i : Nat} {f : Str} {y : V}, fs.Nodup → fs[i]? = some f → ys[i]? = some y → ys.length = fs.length → (fs.zip ys).reverse.lookup f = some y := by
  intro fs
  have key : ∀ {l : List (Str × V)} {f : Str} {y : V}, (l.map (·.1)).Nodup → (f, y) ∈ l → l.lookup f = some y := by
    intro l
    induction l with
    | nil => intro f y _ h; cases h
    | cons p l ih =>
      intro f y hn h
      obtain ⟨g, z⟩ := p
      rw [List.map_cons, List.nodup_cons] at hn
      rw [lookup_put]
      rcases List.mem_cons.mp h with e | h
      · cases e; rw [if_pos rfl]
      · have : f ≠ g := fun e => hn.1 (by rw [← e]; exact List.mem_map.mpr ⟨(f, y), h, rfl⟩)
        rw [if_neg this]; exact ih hn.2 h
  intro ys i f y hn h1 h2 hl
  refine key ?_ ?_
  · rw [List.map_reverse, List.map_fst_zip (by omega)]
    exact (List.reverse_perm fs).nodup_iff.mpr hn
  · rw [List.mem_reverse]
    exact List.mem_of_getElem? (i := i) (List.getElem?_zip_eq_some (z := (f, y)) |>.mpr ⟨h1, h2⟩)
section
variable {Γ : Gam} {es : List EC} {C : CallF} {lv : Nat} {S : SS} {X : Cx} {W : WX}
theorem del_same' {H : Hp} {a : Addr} : L2.del H a a = none := L2.del_same
/-- the end of a raise's making -/
theorem raise_read {K : PySem.W.Frag} {e : EC} {c : Nat} {ma : Loc → Sto → Out Val} (hc : eAt es c = some e) (hz : e.flds.length ≤ 20) (hn : e.flds.Nodup) (hpos : 0 < e.flds.length) {σ : L2.St} {H : Hp} (h : tMA K es W (fun ρ μ => match ma ρ μ with
    | .ok (.tup fs) μ1 => if fs.length = e.flds.length then .ok (.tup fs) μ1 else .fail
    | r => r) σ H fun vs H1 => vs.length = e.flds.length ∧ ∃ f1 μ1 fs, SR K f1 μ1 H1 ∧ VRs K f1 H1 fs vs ∧ ∀ f' H' cls d, Le f1 H1 f' H' → SR K f' μ1 H' → XR K es f' H' c fs cls d → W cls d σ H') :
    tMkO e.C (spI e.C e.flds) [] (tMA K es W (fun ρ μ => match ma ρ μ with
    | .ok (.tup fs) μ1 => if fs.length = e.flds.length then .ok (.tup fs) μ1 else .fail
    | r => r)) σ H (fun cls d H' => W cls d σ H') := by
  refine tMA_mono h fun vs H1 ⟨hl, f1, μ1, fs, S1, t, hw⟩ => ⟨by omega, fun a ha => ?_⟩
  rw [List.append_nil]
  refine ⟨a, vs, rfl, hl, hpos, upd_same, fun d H2 hd hda h1 h2 h3 => ⟨rfl, d, _, h1, h2, ?_, ?_⟩⟩
  · rw [upd_ne hda] at hd; exact hd
  · have hd1 : H1 d = none := by rw [upd_ne hda] at hd; exact hd
    have hoth : ∀ b, b ≠ a → b ≠ d → (upd (L2.del H2 a) d (.xd (e.flds.zip vs).reverse)) b = H1 b := fun b n1 n2 => by
      rw [upd_ne n2, L2.del_ne n1, h3 b n1 n2, upd_ne n1]
    have old : ∀ b o, H1 b = some o → (upd (L2.del H2 a) d (.xd (e.flds.zip vs).reverse)) b = some o := fun b o q => by
      rw [hoth b (ne_of_none q ha) (ne_of_none q hd1)]; exact q
    have l : Le f1 H1 f1 (upd (L2.del H2 a) d (.xd (e.flds.zip vs).reverse)) := ⟨List.prefix_refl _, ⟨fun b xs q => old b _ q, fun b o u q => old b _ q⟩, fun b o hb q => ⟨old b o q, hb⟩⟩
    refine hw f1 _ (.ref e.C) (some d) l ⟨S1.len, S1.nd, fun n c a' q1 q2 => ?_⟩ ⟨e, d, _, hc, rfl, rfl, upd_same, by rw [← t.length]; exact hl, fun i nm v e1 e2 => ?_⟩
    · have q := S1.cell n c a' q1 q2
      obtain ⟨o, ho⟩ := S1.mem (List.mem_of_getElem? q2)
      refine CR.mono l ?_ q
      rw [old _ _ ho, ho]
    · obtain ⟨y, q1, q2⟩ := t.get e2
      exact ⟨y, zip_lookup hn e1 q1 hl, VR.mono l _ _ q2⟩
where
  tMA_mono {K : PySem.W.Frag} {es : List EC} {W : WX} {m : Loc → Sto → Out Val} {σ : L2.St} {H : Hp} {Q Q' : List V → Hp → Prop} (h : tMA K es W m σ H Q) (k : ∀ vs H, Q vs H → Q' vs H) : tMA K es W m σ H Q' := by
    obtain ⟨f, ρ, μ, S, L, h⟩ := h
    refine ⟨f, ρ, μ, S, L, ?_⟩
    split
    · rename_i vs μ' e
      rw [e] at h
      exact fun f' H' xs l S' t => k _ _ (h f' H' xs l S' t)
    · rename_i c fs μ' e
      rw [e] at h
      exact h
    · rename_i o h1 h2
      split at h
      · exact absurd (by assumption) (h1 _ _)
      · exact absurd (by assumption) (h2 _ _ _)
      · exact h
end
end Mi
end

section
set_option Elab.async false
set_option linter.all false
set_option maxRecDepth 100000
set_option autoImplicit false
set_option maxHeartbeats 1000000
/-! Sound14: a try with any number of except clauses, each with a name or without. -/
namespace Mi
open PySem PySem.Spec L2
open PyProof.Rows hiding St
/-- a clause: the class it names; its name's slot; what its suite does -/
structure Cl where
  c : Value
  nm : Option Nat
  ts : Addr → Value → Option Addr → TS
def Cl.inn (k : Cl) (a : Addr) (σ : L2.St) : L2.St := match k.nm with
  | none => σ
  | some i => σ.set i (some (.ref a))
def Cl.out (k : Cl) (σ : L2.St) : L2.St := match k.nm with
  | none => σ
  | some i => σ.set i none
def Cl.ends (k : Cl) (D : Ends) : Ends where
  nx := fun σ H => D.nx (k.out σ) H
  rt := D.rt
  bk := fun σ H => D.bk (k.out σ) H
  ct := fun σ H => D.ct (k.out σ) H
def wCl (K : PySem.W.Frag) (Wo : WX) (D : Ends) : List Cl → WX
  | [] => Wo
  | k :: r => fun cls d σ H => ∃ b : Bool, PySem.W.exmOne K cls k.c = some b ∧ cond b (∀ a, H a = none → k.ts a cls d (k.ends D) (k.inn a σ) H) (wCl K Wo D r cls d σ H)
/-- a clause's name and its slot -/
def NmOk (X : Cx) : Option Str → Option Nat → Prop
  | none, none => True
  | some n, some i => X.N[i]? = some n ∧ X.env.kindOf n = some .local
  | _, _ => False
/-- a clause's suite -/
def SuOk (X : Cx) (b : List Stmt) (ts : Addr → Value → Option Addr → TS) : Prop :=
  b ≠ [] ∧ ∀ (a : Addr) (oe : Obj) (cls : Value) (d : Option Addr) (pn : List (Addr × Obj)), Zc cls d oe → (∃ vs, oe.data = .fields vs) → PSs (X.suite a ((a, oe) :: pn)) b (ts a cls d)
def ClsOk (X : Cx) : List ExceptHandler → List Cl → Prop
  | [], [] => True
  | .ExceptHandler (some e) nm b _ :: hs, k :: ks => (∃ x p, e = .Name x p ∧ Names X x k.c) ∧ NmOk X nm k.nm ∧ SuOk X b k.ts ∧ ClsOk X hs ks
  | .ExceptHandler none _ _ _ :: _, _ :: _ => False
  | [], _ :: _ => False
  | _ :: _, [] => False
section
variable {X : Cx} {pins : List (Addr × Obj)} {σ : L2.St} {H : Hp} {a : Addr} {cls : Value} {d : Option Addr} {B : Heap} {sI s : Shared} {D : Ends}
/-- an exception at rest ahead of the clauses -/
structure Rest (X : Cx) (pins : List (Addr × Obj)) (σ : L2.St) (H : Hp) (a : Addr) (cls : Value) (d : Option Addr) (B : Heap) (sI s : Shared) : Prop where
  inv : Inv X pins σ H sI
  nb : ∀ b o, sI.heap.get? b = some o → b ∉ frs X.stack → B.get? b = some o
  up : sI.heap.UpToSlots s.heap
  fl : HandSPX.FlyingZ B (X.env :: X.outer) a (Zc cls d) s.heap
  na : H a = none
  os : s.os = sI.os
  ag : AllBare s.gens
theorem Rest.here (r : Rest X pins σ H a cls d B sI s) : Inv X pins σ H s := r.inv.landed r.nb r.fl.1 r.up r.os r.ag
theorem Rest.move (r : Rest X pins σ H a cls d B sI s) {h : Heap} (fl : HandSPX.FlyingZ B (X.env :: X.outer) a (Zc cls d) h) (up : s.heap.UpToSlots h) : Rest X pins σ H a cls d B sI { s with heap := h } :=
  ⟨r.inv, r.nb, r.up.trans up, fl, r.na, r.os, r.ag⟩
/-- the suite's own context -/
theorem Rest.suite (hf : X.env.frame = some X.env.locals) (r : Rest X pins σ H a cls d B sI s) : ∃ oe, s.heap.get? a = some oe ∧ Zc cls d oe ∧ (∃ vs, oe.data = .fields vs) ∧ Inv (X.suite a ((a, oe) :: (X.pn ++ pins))) [] σ H s := by
  obtain ⟨oe, vs, he, hz, hd⟩ := r.fl.there
  have no : a ∉ frs (X.env :: X.outer) := fun hm => by
    obtain ⟨_, o, e, hnf⟩ := r.fl.2.2.1.mem hm
    rw [he] at e
    cases e
    exact hnf _ hd
  refine ⟨oe, he, hz, ⟨vs, hd⟩, r.here.suite he hd r.na (fun z => no ?_) fun hm => no ?_⟩
  · exact List.mem_filterMap.mpr ⟨X.env, List.mem_cons_self, by rw [hf, z]⟩
  · obtain ⟨e, q, q'⟩ := List.mem_filterMap.mp hm
    exact List.mem_filterMap.mpr ⟨e, List.mem_cons_of_mem _ q, q'⟩
/-- no clause has caught it: off it goes -/
theorem Rest.off {Wo : WX} (hs : X.stack = X.env :: X.outer) (hf : X.env.frame = some X.env.locals) (tk : Takes X Wo) (r : Rest X pins σ H a cls d B sI s) (w : Wo cls d σ H) :
    wpAny (model X.prog X.w) X.A (handleBy (.ref a) X.env []) (SP X pins D) X.xe s := by
  refine wpAny_handleBy_nil ?_
  have fl := r.fl
  obtain ⟨_, _, _, oe, vs, T, _, _, he, _, hd, h1, _⟩ := r.fl
  unfold PySem.passOn
  refine wpAny_bind (wpAny_field he hd h1 ?_)
  rw [if_neg (show ¬ ((Value.ref T == Value.none) = true) from by simp)]
  have go : wpAny (model X.prog X.w) X.A (setFlight (.ref a) X.env.frame) (fun _ s4 => wpAny (model X.prog X.w) X.A (throw (.ref a) : Sem Flow) (SP X pins D) X.xe s4) X.xe s := by
    rw [hf]
    refine HandSPX.setFlight_upZ fl fun h4 hh up4 => wpAny_throw (tk _ _ ?_)
    refine ⟨a, B, sI, pins, σ, H, cls, d, rfl, r.inv, r.nb, r.up.trans up4, ?_, r.na, r.os, r.ag, w⟩
    rw [hs]
    exact .inr (.inr hh)
  first
    | exact wpAny_bind (wpAny_pure (wpAny_bind go))
    | exact wpAny_bind go
/-- what a suite has come to holds of the whole -/
theorem sp_of (ok : X.Ok) {q : Addr × Obj} {D' : Ends} {f : Flow} {s' : Shared} (h : SP (X.suite a (q :: (X.pn ++ pins))) [] D' f s') : SP X pins D' f s' := by
  cases f with
  | next => obtain ⟨σ6, H6, S6, q6⟩ := h; exact ⟨_, _, S6.unsuite ok, q6⟩
  | brk => obtain ⟨σ6, H6, S6, q6⟩ := h; exact ⟨_, _, S6.unsuite ok, q6⟩
  | cont => obtain ⟨σ6, H6, S6, q6⟩ := h; exact ⟨_, _, S6.unsuite ok, q6⟩
  | ret u => obtain ⟨v6, σ6, H6, S6, r6, q6⟩ := h; exact ⟨_, _, _, S6.unsuite ok, r6, q6⟩
/-- the clauses, one after the other -/
theorem Rest.clauses {Wo : WX} (hs : X.stack = X.env :: X.outer) (hf : X.env.frame = some X.env.locals) (hN : X.N.Nodup) (tk : Takes X Wo) (ok : X.Ok) : ∀ (hds : List ExceptHandler) (ks : List Cl), ClsOk X hds ks → ∀ {s : Shared}, Rest X pins σ H a cls d B sI s → wCl X.K Wo D ks cls d σ H →
    wpAny (model X.prog X.w) X.A (handleBy (.ref a) X.env hds) (SP X pins D) X.xe s
  | [], [], _, s, r, w => r.off hs hf tk w
  | .ExceptHandler (some ex) nm b pos :: hds, k :: ks, hk, s, r, w => by
    obtain ⟨⟨x, np, rfl, hc⟩, hn, ⟨hb, hsu⟩, hr⟩ := hk
    obtain ⟨b₀, b, rfl⟩ : ∃ b₀ b', b = b₀ :: b' := by
      cases b with
      | nil => exact absurd rfl hb
      | cons b₀ b => exact ⟨b₀, b, rfl⟩
    obtain ⟨hit, hm, w⟩ := w
    obtain ⟨oe, he, hz, hd, Su⟩ := r.suite hf
    refine wpAny_handleBy_cons (codeAny_handlers_test ?_) (by intro q; cases q)
    have LT : PySem.W.Looks (model X.prog X.w) s.heap (typeOf (.ref a)) cls := fun A Q E s k q => wpAny_typeOf_ref (k _ _ he) (by rw [hz.1]; exact q)
    have LM := PySem.W.exm_one (M := model X.prog X.w) (r.here.kIn) LT hm
    have ask : ∀ {Q E : Value → Shared → Prop}, Q k.c s → wpAny (model X.prog X.w) (X.A.mark (some (.ref a))) (eval (.Name x np) X.env) Q E s := fun {Q E} q => by
      obtain ⟨g1, g2, g3 | ⟨g3, g4, g5⟩⟩ := hc
      · exact ld_glob (X := X.suite a ((a, oe) :: (X.pn ++ pins))) Su g1 g3 q g2
      · exact ld_blt (X := X.suite a ((a, oe) :: (X.pn ++ pins))) Su g1 g3 g4 q g5 g2
    refine ask (LM.here ?_)
    cases hit with
    | false =>
      show wpAny _ X.A (handleBy (.ref a) X.env hds) _ _ _
      exact Rest.clauses hs hf hN tk ok hds ks hr r w
    | true =>
      cases nm with
      | none =>
        have hk0 : k.nm = none := by
          cases e : k.nm with
          | none => rfl
          | some i => rw [e] at hn; exact hn.elim
        refine codeAny_handlers_suite (HandSPX.lands_againZ r.fl fun h4 fl4 up4 => ?_)
        have r4 := r.move fl4 up4
        obtain ⟨oe4, _, hz4, hd4, S4⟩ := r4.suite hf
        have w4 := w a r.na
        have e1 : k.ends D = D := by unfold Cl.ends Cl.out; rw [hk0]
        have e2 : k.inn a σ = σ := by unfold Cl.inn; rw [hk0]
        rw [e1, e2] at w4
        exact wpAny_mono ((hsu a oe4 cls d (X.pn ++ pins) hz4 hd4).run [] _ _ H _ S4 w4) (fun f s6 h6 => by
          have := sp_of ok h6
          cases f <;> exact this) (fun _ _ z => False.elim z)
      | some n =>
        obtain ⟨i, hk0, hi, hln⟩ : ∃ i, k.nm = some i ∧ X.N[i]? = some n ∧ X.env.kindOf n = some .local := by
          cases e : k.nm with
          | none => rw [e] at hn; exact hn.elim
          | some i => rw [e] at hn; exact ⟨i, rfl, hn.1, hn.2⟩
        refine codeAny_handlers_suite_as (HandSPX.lands_againZ r.fl fun h4 fl4 up4 => ?_)
        have r4 := r.move fl4 up4
        obtain ⟨oe4, _, hz4, hd4, S4⟩ := r4.suite hf
        have w4 := w a r.na
        have e2 : k.inn a σ = σ.set i (some (.ref a)) := by unfold Cl.inn; rw [hk0]
        have e3 : ∀ σ', k.out σ' = σ'.set i none := fun σ' => by unfold Cl.out; rw [hk0]
        rw [e2] at w4
        refine store_ok (X := X.suite a ((a, oe4) :: (X.pn ++ pins))) (v := .ref a) S4 hN hi (.inl hln) rfl (fun s5 S5 => ?_) (.inr hln)
        refine wpAny_mono ((hsu a oe4 cls d (X.pn ++ pins) hz4 hd4).run [] s5 _ H _ S5 w4) (fun f s6 h6 => ?_) (fun _ _ z => False.elim z)
        have h6 := sp_of ok h6
        have off : ∀ {σ6 : L2.St} {H6 : Hp} {Q : Shared → Prop}, Inv X pins σ6 H6 s6 → (∀ s7, Inv X pins (σ6.set i none) H6 s7 → Q s7) → wpAny (model X.prog X.w) X.A (do bindName X.env n .none; unbindBehindTheSuite X.env n pos) (fun _ s7 => Q s7) X.xe s6 := fun J q => gone_ok J hN hi hln q
        cases f with
        | next =>
          obtain ⟨σ6, H6, J6, q6⟩ := h6
          exact off J6 fun s7 J7 => ⟨_, _, J7, by rw [← e3]; exact q6⟩
        | brk =>
          obtain ⟨σ6, H6, J6, q6⟩ := h6
          exact off J6 fun s7 J7 => ⟨_, _, J7, by rw [← e3]; exact q6⟩
        | cont =>
          obtain ⟨σ6, H6, J6, q6⟩ := h6
          exact off J6 fun s7 J7 => ⟨_, _, J7, by rw [← e3]; exact q6⟩
        | ret u =>
          obtain ⟨v6, σ6, H6, J6, r6, q6⟩ := h6
          exact off J6 fun s7 J7 => ⟨_, _, _, J7, r6, q6⟩
  | [], _ :: _, hk, _, _, _ => False.elim hk
  | h :: _, [], hk, _, _, _ => by obtain ⟨t, _, _, _⟩ := h; cases t <;> exact False.elim hk
  | .ExceptHandler none _ _ _ :: _, _ :: _, hk, _, _, _ => False.elim hk
/-- try: body, except ..: suite, .. -/
theorem ps_try_cl {body : List Stmt} {h₀ : ExceptHandler} {hds : List ExceptHandler} {ks : List Cl} {pos : Pos} {tb : WX → TS} {Wo : WX} (hs : X.stack = X.env :: X.outer) (hf : X.env.frame = some X.env.locals) (hN : X.N.Nodup) (tk : Takes X Wo)
    (hb : ∀ (W : WX) (pn : List (Addr × Obj)) (xe : Value → Shared → Prop), Takes (X.tr pn xe) W → PassesOwn (model X.prog X.w) X.A X.env xe → PSs (X.tr pn xe) body (tb W)) (hh : ClsOk X (h₀ :: hds) ks) :
    PS X (.Try body (h₀ :: hds) [] [] pos) (fun D σ H => tb (wCl X.K Wo D ks) D σ H) := by
  refine ⟨fun pins s σ H D I h => wpAny_Try_except ?_⟩
  have ok := I.ok
  have b0 := hb (wCl X.K Wo D ks) (X.pn ++ pins) (fun e s₁ => wpAny (model X.prog X.w) X.A (noteFrame e X.env) (fun _ s₂ => wpAny (model X.prog X.w) X.A (setFlight e none) (fun _ s₃ => wpAny (model X.prog X.w) X.A (handleBy e X.env (h₀ :: hds)) (SP X pins D) X.xe s₃) X.xe s₂) X.xe s₁) (fun u s' xx => ?_) PassesOwn.looking
  · refine wpAny_mono (b0.run [] s σ H D (I.toTry _) h) (fun f s1 h1 => ?_) (fun e s1 he => he)
    cases f with
    | next => obtain ⟨σ', H', J, q⟩ := h1; exact wpAny_execs_nil ⟨σ', H', J.ofTry ok, q⟩
    | brk => obtain ⟨σ', H', J, q⟩ := h1; exact ⟨σ', H', J.ofTry ok, q⟩
    | cont => obtain ⟨σ', H', J, q⟩ := h1; exact ⟨σ', H', J.ofTry ok, q⟩
    | ret u => obtain ⟨v, σ', H', J, r, q⟩ := h1; exact ⟨v, σ', H', J.ofTry ok, r, q⟩
  · obtain ⟨a, B, sI, pins', σ', H', cls, d, rfl, J, nb, up, sky, na, os, ag, w⟩ := xx
    have sky' : Sky B (X.env :: X.outer) a (Zc cls d) X.env.locals s'.heap := by rw [← hs]; exact sky
    exact Sky.land Zc.steady (by rw [ok.frames, hs]) hf sky' fun h3 fl3 up3 => Rest.clauses hs hf hN tk ok (h₀ :: hds) ks hh ⟨J.ofTry ok, nb, up.trans up3, fl3, na, os, ag⟩ w
end
end Mi
end

section
set_option Elab.async false
set_option linter.all false
set_option maxRecDepth 100000
set_option autoImplicit false
set_option maxHeartbeats 1000000
/-! Sound15: readings of statements. -/
namespace Mi
open PySem PySem.Spec L2
open PyProof.Rows hiding St
section
variable (K : PySem.W.Frag) (es : List EC)
def PostS (W : WX) (D : Ends) (f : List Addr) (H : Hp) (o : OS) : Prop := match o with
  | .nx ρ μ => ∀ f' H' σ', Le f H f' H' → SR K f' μ H' → LR K f' H' ρ σ' → D.nx σ' H'
  | .ret v μ => ∀ f' H' x, Le f H f' H' → SR K f' μ H' → VR K f' H' v x → D.rt x H'
  | .brk ρ μ => ∀ f' H' σ', Le f H f' H' → SR K f' μ H' → LR K f' H' ρ σ' → D.bk σ' H'
  | .cnt ρ μ => ∀ f' H' σ', Le f H f' H' → SR K f' μ H' → LR K f' H' ρ σ' → D.ct σ' H'
  | .exc c fs ρ μ => ∀ f' H' σ' cls d, Le f H f' H' → SR K f' μ H' → LR K f' H' ρ σ' → XR K es f' H' c fs cls d → W cls d σ' H'
  | .fail => False
/-- what a statement wants -/
def tS (W : WX) (m : Loc → Sto → OS) : TS := fun D σ H => ∃ f ρ μ, SR K f μ H ∧ LR K f H ρ σ ∧ PostS K es W D f H (m ρ μ)
end
section
variable {K : PySem.W.Frag} {es : List EC} {W : WX} {σ : L2.St} {f f1 : List Addr} {H H1 : Hp} {μ : Sto} {ρ : Loc} {D : Ends}
theorem PostS.mono {o : OS} (l : Le f H f1 H1) (h : PostS K es W D f H o) : PostS K es W D f1 H1 o := by
  cases o with
  | nx ρ μ => exact fun f' H' σ' l' => h f' H' σ' (l.trans l')
  | ret v μ => exact fun f' H' x l' => h f' H' x (l.trans l')
  | brk ρ μ => exact fun f' H' σ' l' => h f' H' σ' (l.trans l')
  | cnt ρ μ => exact fun f' H' σ' l' => h f' H' σ' (l.trans l')
  | exc c fs ρ μ => exact fun f' H' σ' cls d l' => h f' H' σ' cls d (l.trans l')
  | fail => exact h
/-- an expression first, then the rest of its statement -/
theorem on_read {m : Loc → Sto → Out Val} {k : Val → Sto → OS} {Q : VK} (S : SR K f μ H) (L : LR K f H ρ σ) (h : PostS K es W D f H ((m ρ μ).on ρ k))
    (hk : ∀ v μ1 f1 H1 x, Le f H f1 H1 → SR K f1 μ1 H1 → LR K f1 H1 ρ σ → VR K f1 H1 v x → PostS K es W D f1 H1 (k v μ1) → Q x H1) : tM K es W m σ H Q := by
  refine ⟨f, ρ, μ, S, L, ?_⟩
  cases e : m ρ μ with
  | ok v μ1 =>
    rw [e] at h
    exact fun f' H' x l' S' r => hk v μ1 f' H' x l' S' (L.mono l') r (PostS.mono l' h)
  | exc c fs μ1 =>
    rw [e] at h
    exact fun f' H' cls d l' S' r => h f' H' σ cls d l' S' (L.mono l') r
  | fail =>
    rw [e] at h
    exact h
/-- .. a test .. -/
theorem on_readT {m : Loc → Sto → Out Val} {k : Val → Sto → OS} {Q : Bool → Hp → Prop} (S : SR K f μ H) (L : LR K f H ρ σ) (hf : ∀ v μ1, (∀ b, v ≠ .bl b) → k v μ1 = .fail) (h : PostS K es W D f H ((m ρ μ).on ρ k))
    (hk : ∀ b μ1 f1 H1, Le f H f1 H1 → SR K f1 μ1 H1 → LR K f1 H1 ρ σ → PostS K es W D f1 H1 (k (.bl b) μ1) → Q b H1) : tTM K es W m σ H Q := by
  refine ⟨f, ρ, μ, S, L, ?_⟩
  cases e : m ρ μ with
  | ok v μ1 =>
    rw [e] at h
    cases v with
    | bl b => exact fun f' H' l' S' => hk b μ1 f' H' l' S' (L.mono l') (PostS.mono l' h)
    | _ => rw [Out.on_ok, hf _ _ (by intro b z; cases z)] at h; exact h
  | exc c fs μ1 =>
    rw [e] at h
    exact fun f' H' cls d l' S' r => h f' H' σ cls d l' S' (L.mono l') r
  | fail =>
    rw [e] at h
    exact h
/-- .. arguments .. -/
theorem on_readA {m : Loc → Sto → Out Val} {k : Val → Sto → OS} {Q : List V → Hp → Prop} (S : SR K f μ H) (L : LR K f H ρ σ) (hf : ∀ v μ1, (∀ b, v ≠ .tup b) → k v μ1 = .fail) (h : PostS K es W D f H ((m ρ μ).on ρ k))
    (hk : ∀ vs μ1 f1 H1 xs, Le f H f1 H1 → SR K f1 μ1 H1 → LR K f1 H1 ρ σ → VRs K f1 H1 vs xs → PostS K es W D f1 H1 (k (.tup vs) μ1) → Q xs H1) : tMA K es W m σ H Q := by
  refine ⟨f, ρ, μ, S, L, ?_⟩
  cases e : m ρ μ with
  | ok v μ1 =>
    rw [e] at h
    cases v with
    | tup vs => exact fun f' H' xs l' S' t => hk vs μ1 f' H' xs l' S' (L.mono l') t (PostS.mono l' h)
    | _ => rw [Out.on_ok, hf _ _ (by intro b z; cases z)] at h; exact h
  | exc c fs μ1 =>
    rw [e] at h
    exact fun f' H' cls d l' S' r => h f' H' σ cls d l' S' (L.mono l') r
  | fail =>
    rw [e] at h
    exact h
/-- one statement, then the others -/
theorem seq_read {a b : Loc → Sto → OS} (h : tS K es W (fun ρ μ => (a ρ μ).then b) D σ H) : tSeq (tS K es W a) (tS K es W b) D σ H := by
  obtain ⟨f, ρ, μ, S, L, h⟩ := h
  refine ⟨f, ρ, μ, S, L, ?_⟩
  cases e : a ρ μ with
  | nx ρ1 μ1 =>
    simp only [e] at h
    exact fun f' H' σ' l S' L' => ⟨f', ρ1, μ1, S', L', PostS.mono l h⟩
  | _ => simp only [e] at h; exact h
theorem if_read {c : Loc → Sto → Out Val} {a b : Loc → Sto → OS} (h : tS K es W (fun ρ μ => (c ρ μ).on ρ fun v μ1 => match v with
    | .bl true => a ρ μ1
    | .bl false => b ρ μ1
    | _ => .fail) D σ H) : tIfS (tTM K es W c) (tS K es W a) (tS K es W b) D σ H := by
  obtain ⟨f, ρ, μ, S, L, h⟩ := h
  refine on_readT S L (fun v μ1 hn => by cases v <;> first | rfl | exact absurd rfl (hn _)) h fun t μ1 f1 H1 l S1 L1 h1 => ?_
  cases t with
  | true => rw [if_pos rfl]; exact ⟨f1, ρ, μ1, S1, L1, h1⟩
  | false => rw [if_neg (by simp)]; exact ⟨f1, ρ, μ1, S1, L1, h1⟩
theorem ret_read {m : Loc → Sto → Out Val} (h : tS K es W (fun ρ μ => (m ρ μ).on ρ fun v μ1 => .ret v μ1) D σ H) : tRet (tM K es W m) D σ H := by
  obtain ⟨f, ρ, μ, S, L, h⟩ := h
  exact on_read S L h fun v μ1 f1 H1 x l S1 L1 r h1 => h1 f1 H1 x (Le.refl _ _) S1 r
theorem expr_read {m : Loc → Sto → Out Val} (h : tS K es W (fun ρ μ => (m ρ μ).on ρ fun _ μ1 => .nx ρ μ1) D σ H) : tDrop (tM K es W m) D σ H := by
  obtain ⟨f, ρ, μ, S, L, h⟩ := h
  exact on_read S L h fun v μ1 f1 H1 x l S1 L1 r h1 => h1 f1 H1 σ (Le.refl _ _) S1 L1
theorem set_read {tg : MT} {m : Loc → Sto → Out Val} (h : tS K es W (fun ρ μ => (m ρ μ).on ρ fun v μ1 => match bindT tg v ρ with
    | some ρ1 => .nx ρ1 μ1
    | none => .fail) D σ H) : tAsg (tM K es W m) (gT K tg) D σ H := by
  obtain ⟨f, ρ, μ, S, L, h⟩ := h
  refine on_read S L h fun v μ1 f1 H1 x l S1 L1 r h1 => ?_
  cases e : bindT tg v ρ with
  | none => rw [e] at h1; exact h1.elim
  | some ρ1 => rw [e] at h1; exact gT_set L1 r e fun σ' L' _ => h1 f1 H1 σ' (Le.refl _ _) S1 L'
theorem bindT_long {is : List Nat} {vs : List Val} {ρ : Loc} (h : vs.length ≠ is.length) : bindT (.tp is) (.tup vs) ρ = none := by
  show (if vs.length = is.length then _ else none) = none
  rw [if_neg h]
/-- a, b = x, y -/
theorem par_read {i j : Nat} {m : Loc → Sto → Out Val} (h : tS K es W (fun ρ μ => (m ρ μ).on ρ fun v μ1 => match bindT (.tp [i, j]) v ρ with
    | some ρ1 => .nx ρ1 μ1
    | none => .fail) D σ H) : tPar i j (tMA K es W m) D σ H := by
  obtain ⟨f, ρ, μ, S, L, h⟩ := h
  refine on_readA S L (fun v μ1 hn => by cases v <;> first | rfl | exact absurd rfl (hn _)) h fun vs μ1 f1 H1 xs l S1 L1 t h1 => ?_
  match vs, xs, t, h1 with
  | [v, w], _, ⟨x, xs1, e1, rv, y, xs2, e2, rw', e3⟩, h1 =>
    subst e1
    subst e2
    rw [show xs2 = [] from e3]
    refine ⟨x, y, rfl, ?_⟩
    have h1' : PostS K es W D f1 H1 (.nx ((ρ.set i (some v)).set j (some w)) μ1) := h1
    exact h1' f1 H1 _ (Le.refl _ _) S1 ((L1.set rv).set rw')
  | [], _, _, h1 => exact h1.elim
  | [_], _, _, h1 => exact h1.elim
  | _ :: _ :: _ :: _, _, _, h1 =>
    rw [bindT_long (by simp)] at h1
    exact h1.elim
theorem par3_read {i j k : Nat} {m : Loc → Sto → Out Val} (h : tS K es W (fun ρ μ => (m ρ μ).on ρ fun v μ1 => match bindT (.tp [i, j, k]) v ρ with
    | some ρ1 => .nx ρ1 μ1
    | none => .fail) D σ H) : tPar3 i j k (tMA K es W m) D σ H := by
  obtain ⟨f, ρ, μ, S, L, h⟩ := h
  refine on_readA S L (fun v μ1 hn => by cases v <;> first | rfl | exact absurd rfl (hn _)) h fun vs μ1 f1 H1 xs l S1 L1 t h1 => ?_
  match vs, xs, t, h1 with
  | [v, w, u], _, ⟨x, xs1, e1, rv, y, xs2, e2, rw', z, xs3, e3, ru, e4⟩, h1 =>
    subst e1
    subst e2
    subst e3
    rw [show xs3 = [] from e4]
    refine ⟨x, y, z, rfl, ?_⟩
    have h1' : PostS K es W D f1 H1 (.nx (((ρ.set i (some v)).set j (some w)).set k (some u)) μ1) := h1
    exact h1' f1 H1 _ (Le.refl _ _) S1 (((L1.set rv).set rw').set ru)
  | [], _, _, h1 => exact h1.elim
  | [_], _, _, h1 => exact h1.elim
  | [_, _], _, _, h1 => exact h1.elim
  | _ :: _ :: _ :: _ :: _, _, _, h1 =>
    rw [bindT_long (by simp)] at h1
    exact h1.elim
theorem aug_read {i : Nat} {neg : Bool} {m : Loc → Sto → Out Val} (h : tS K es W (fun ρ μ => match ρ[i]? with
    | some (some x) => (m ρ μ).on ρ fun v μ1 => (match x, v with
      | .int a, .int b => .nx (ρ.set i (some (.int (if neg then a - b else a + b)))) μ1
      | _, _ => .fail)
    | _ => .fail) D σ H) : tAug i (tM K es W m) (ipI fun a b => if neg then a - b else a + b) D σ H := by
  obtain ⟨f, ρ, μ, S, L, h⟩ := h
  cases e : ρ[i]? with
  | none => simp only [e] at h; exact h.elim
  | some o =>
    cases o with
    | none => simp only [e] at h; exact h.elim
    | some u =>
      simp only [e] at h
      obtain ⟨x, hx, rx⟩ := L.get i u e
      refine ⟨x, hx, on_read S L h fun v μ1 f1 H1 y l S1 L1 ry h1 => ?_⟩
      cases u with
      | int a =>
        cases v with
        | int b =>
          obtain rfl : x = .int a := rx
          obtain rfl : y = .int b := ry
          exact ⟨a, b, rfl, rfl, h1 f1 H1 _ (Le.refl _ _) S1 (L1.set rfl)⟩
        | _ => exact h1.elim
      | _ => exact h1.elim
theorem put_read {ma mb m : Loc → Sto → Out Val} (h : tS K es W (fun ρ μ => (m ρ μ).on ρ fun v μ1 => (ma ρ μ1).on ρ fun o μ2 => (mb ρ μ2).on ρ fun i μ3 => match setItem o i v μ3 with
    | some μ4 => .nx ρ μ4
    | none => .fail) D σ H) : tAsg (tM K es W m) (gSub (tM K es W ma) (tM K es W mb) rSetL) D σ H := by
  obtain ⟨f, ρ, μ, S, L, h⟩ := h
  refine on_read S L h fun v μ1 f1 H1 x l1 S1 L1 rv h1 => on_read S1 L1 h1 fun o μ2 f2 H2 p l2 S2 L2 ro h2 => on_read S2 L2 h2 fun i μ3 f3 H3 y l3 S3 L3 ri h3 => ?_
  cases e : setItem o i v μ3 with
  | none => rw [e] at h3; exact h3.elim
  | some μ4 =>
    rw [e] at h3
    have h3' : ∀ f' H' σ', Le f3 H3 f' H' → SR K f' μ4 H' → LR K f' H' ρ σ' → D.nx σ' H' := h3
    cases o with
    | ref n =>
      cases i with
      | int k =>
        cases e2 : μ3[n]? with
        | none =>
          have e' : (match μ3[n]? with
            | some (.lst xs) => (place xs.length k).map fun j => μ3.set n (.lst (xs.set j v))
            | _ => none) = some μ4 := e
          rw [e2] at e'; cases e'
        | some c =>
          have e' : (match μ3[n]? with
            | some (.lst xs) => (place xs.length k).map fun j => μ3.set n (.lst (xs.set j v))
            | _ => none) = some μ4 := e
          rw [e2] at e'
          cases c with
          | lst vs =>
            have e'' : (place vs.length k).map (fun j => μ3.set n (.lst (vs.set j v))) = some μ4 := e'
            cases e4 : place vs.length k with
            | none => rw [e4] at e''; cases e''
            | some j =>
              rw [e4] at e''
              cases e''
              obtain ⟨a, ys, rfl, ha, hq, t⟩ := S3.lst (VR.mono l3 _ _ ro) e2
              obtain rfl : y = .int k := ri
              refine ⟨a, ys, k, j, rfl, rfl, hq, by rw [t.length]; exact e4, ?_⟩
              have rv3 : VR K f3 H3 v x := VR.mono l3 _ _ (VR.mono l2 _ _ rv)
              refine h3' f3 _ σ (Le.setL (List.mem_of_getElem? ha) hq) (S3.setL (us := vs) ha hq (VRs.set rv3 j t)) (L3.mono (Le.setL (List.mem_of_getElem? ha) hq))
          | _ => cases e'
      | _ => cases e
    | _ => cases e
end
end Mi
end

section
set_option Elab.async false
set_option linter.all false
set_option maxRecDepth 100000
set_option autoImplicit false
set_option maxHeartbeats 1000000
/-! Sound16: except suites; loops. -/
namespace Mi
open PySem PySem.Spec L2
open PyProof.Rows hiding St
section
variable {K : PySem.W.Frag} {es : List EC} {f f' : List Addr} {H H' : Hp} {μ : Sto}
theorem SR.no_xd (S : SR K f μ H) {a : Addr} {ps : List (Str × V)} (h : H a = some (.xd ps)) : a ∉ f := fun hm => by
  obtain ⟨n, hn, e⟩ := List.getElem_of_mem hm
  obtain ⟨c, o, h1, h2⟩ := S.there (n := n) (a := a) (by rw [List.getElem?_eq_getElem hn, e])
  have q := S.cell n c a h1 (by rw [List.getElem?_eq_getElem hn, e])
  cases c with
  | lst vs => obtain ⟨xs, q1, _⟩ := q; rw [h] at q1; cases q1
  | dict _ => exact q.elim
  | ins _ _ => exact q.elim
theorem XR.mono {c : Nat} {fs : List Val} {cls : Value} {d : Option Addr} (S : SR K f μ H) (l : Le f H f' H') (h : XR K es f H c fs cls d) : XR K es f' H' c fs cls d := by
  obtain ⟨e, dd, ps, h1, h2, h3, h4, h5, h6⟩ := h
  exact ⟨e, dd, ps, h1, h2, h3, (l.oth dd _ (S.no_xd h4) h4).1, h5, fun i nm v q1 q2 => let ⟨y, q3, q4⟩ := h6 i nm v q1 q2; ⟨y, q3, VR.mono l _ _ q4⟩⟩
end
/-! ### what a suite gives back -/
/-- the caught one lies where its name says -/
def Lies (nm : Option Nat) (a : Addr) (σ : L2.St) : Prop := ∀ i, nm = some i → σ[i]? = some (some (.ref a))
def tF (K : PySem.W.Frag) (es : List EC) (nm : Option Nat) (fe : FE) (a : Addr) (cls : Value) (d : Option Addr) : TE := fun σ H Q => ∃ f ρ μ c fs, SR K f μ H ∧ LR K f H ρ σ ∧ Lies nm a σ ∧ XR K es f H c fs cls d ∧ (match evF c fs fe ρ with
  | some v => ∀ f' H' x, Le f H f' H' → SR K f' μ H' → VR K f' H' v x → Q x H'
  | none => False)
def tFA (K : PySem.W.Frag) (es : List EC) (nm : Option Nat) (fe : FE) (a : Addr) (cls : Value) (d : Option Addr) : TA := fun σ H Q => ∃ f ρ μ c fs, SR K f μ H ∧ LR K f H ρ σ ∧ Lies nm a σ ∧ XR K es f H c fs cls d ∧ (match evF c fs fe ρ with
  | some (.tup vs) => ∀ f' H' xs, Le f H f' H' → SR K f' μ H' → VRs K f' H' vs xs → Q xs H'
  | _ => False)
def asAttr : Expr → Option (Str × Str)
  | .Attribute (.Name x _) g _ => some (x, g)
  | _ => none
theorem asAttr_ok {e : Expr} {x g : Str} (h : asAttr e = some (x, g)) : ∃ p q, e = .Attribute (.Name x p) g q := by
  unfold asAttr at h
  split at h
  · cases h; exact ⟨_, _, rfl⟩
  · cases h
def argcF : FE → Nat
  | .cons _ b => argcF b + 1
  | _ => 0
mutual
def chkF (Γ : Gam) (S : SS) (nm : Option Nat) : FE → Expr → Bool
  | .var i, e => match asName e with
    | some x => decide (S.N[i]? = some x) && visB S.sc x && plainName x
    | none => false
  | .cst v, e => decide (asConst e = some v)
  | .fld t, e => match asAttr e with
    | some (x, g) => (match nm with
      | some i => decide (S.N[i]? = some x)
      | none => false) && visB S.sc x && plainName x && t.all fun p => match Γ.exn.lookup p.1 with
        | some q => decide (q.2[p.2]? = some g)
        | none => false
    | none => false
  | .nil, _ => false
  | .cons _ _, _ => false
  | .tup a, e => match asTup e with
    | some l => chkFA Γ S nm a l && decide (argcF a ≤ 1000)
    | none => false
def chkFA (Γ : Gam) (S : SS) (nm : Option Nat) : FE → List Expr → Bool
  | .nil, [] => true
  | .cons a b, e :: l => plainArg e && chkF Γ S nm a e && chkFA Γ S nm b l
  | _, _ => false
end
/-- what is known of the module's exceptions -/
structure SOk (Γ : Gam) (es : List EC) (S : SS) (X : Cx) : Prop where
  ex : EOk Γ es X.prog X.w X.K X.mg X.base
  xf : ∀ e ∈ es, XfC X.K e.C ∧ ∀ g ∈ e.flds, PySem.W.findIn X.K (.ref e.C) g = some none
  cat : ∀ x ks, Γ.cat.lookup x = some ks → ∃ cv, (X.mg x = some cv ∨ (X.mg x = none ∧ bootBuiltins x = some cv ∧ x ≠ "__name__")) ∧ ∀ (c : Nat) (e : EC), eAt es c = some e → PySem.W.exmOne X.K (.ref e.C) cv = some (ks.contains c)
  stk : X.stack = X.env :: X.outer
  frm : X.env.frame = some X.env.locals
  kind : S.sc.kind = .function
  room2 : Room 2 X.A
theorem evF_len : ∀ (a : FE) (c : Nat) (fs : List Val) (ρ : Loc) (v : Val) (Γ : Gam) (S : SS) (nm : Option Nat) (l : List Expr), chkFA Γ S nm a l = true → evF c fs a ρ = some v → ∃ vs, v = .tup vs ∧ vs.length = argcF a
  | .nil, c, fs, ρ, v, _, _, _, _, _, h => by cases (show some (Val.tup []) = some v from h); exact ⟨[], rfl, rfl⟩
  | .cons a b, c, fs, ρ, v, Γ, S, nm, l, hc, h => by
    cases l with
    | nil => unfold chkFA at hc; cases hc
    | cons e l =>
      have hc' : (plainArg e && chkF Γ S nm a e && chkFA Γ S nm b l) = true := by unfold chkFA at hc; exact hc
      rw [Bool.and_eq_true] at hc'
      have h' : (match evF c fs a ρ, evF c fs b ρ with
        | some x, some (.tup ys) => some (Val.tup (x :: ys))
        | _, _ => none) = some v := h
      cases e1 : evF c fs a ρ with
      | none => rw [e1] at h'; cases h'
      | some x =>
        rw [e1] at h'
        cases e2 : evF c fs b ρ with
        | none => rw [e2] at h'; cases h'
        | some y =>
          rw [e2] at h'
          obtain ⟨vs, rfl, hl⟩ := evF_len b c fs ρ y Γ S nm l hc'.2 e2
          cases h'
          exact ⟨x :: vs, rfl, by simp [argcF, hl]⟩
  | .var _, _, _, _, _, _, _, _, _, h, _ => by unfold chkFA at h; cases h
  | .cst _, _, _, _, _, _, _, _, _, h, _ => by unfold chkFA at h; cases h
  | .fld _, _, _, _, _, _, _, _, _, h, _ => by unfold chkFA at h; cases h
  | .tup _, _, _, _, _, _, _, _, _, h, _ => by unfold chkFA at h; cases h
theorem lookup_mem {c k : Nat} : ∀ {t : List (Nat × Nat)}, t.lookup c = some k → (c, k) ∈ t
  | (b, j) :: t, h => by
    rw [List.lookup_cons] at h
    split at h
    · rename_i e
      cases h
      rw [eq_of_beq e]
      exact List.mem_cons_self ..
    · exact List.mem_cons_of_mem _ (lookup_mem h)
theorem PE.none {X : Cx} {e : Expr} : PE X e (fun _ _ _ => False) := ⟨fun _ _ _ _ _ _ h => h.elim⟩
section
variable {Γ : Gam} {es : List EC} {S : SS} {X : Cx} {a : Addr} {oe : Obj} {cls : Value} {d : Option Addr} {pn : List (Addr × Obj)} {nm : Option Nat}
mutual
/-- flat expressions of a suite -/
theorem chkF_ok (hN : X.N = S.N) (hsc : X.env.scope = S.sc) (HS : SOk Γ es S X) (hz : Zc cls d oe) (hf : ∃ vs, oe.data = .fields vs) : ∀ (fe : FE) (e : Expr), chkF Γ S nm fe e = true → PE (X.suite a ((a, oe) :: pn)) e (tF X.K es nm fe a cls d)
  | .var i, e, h => by
    unfold chkF at h
    split at h
    · rename_i x hx
      obtain ⟨p, rfl⟩ := asName_ok hx
      simp only [Bool.and_eq_true, decide_eq_true_eq] at h
      obtain ⟨⟨h1, h2⟩, h3⟩ := h
      obtain ⟨n1, n2, _⟩ := plainName_ok h3
      refine PE.weak (pe_var (X := X.suite a ((a, oe) :: pn)) (i := i) (by show X.N[i]? = _; rw [hN]; exact h1) (by show Vis X.env.scope x; rw [hsc]; exact visB_ok h2) n1 n2) fun σ H Q q => ?_
      obtain ⟨f, ρ, μ, c, fs, S1, L, _, _, q⟩ := q
      have q' : (match (match ρ[i]? with
        | some (some v) => some v
        | _ => none) with
        | some v => ∀ f' H' x, Le f H f' H' → SR X.K f' μ H' → VR X.K f' H' v x → Q x H'
        | none => False) := q
      cases e1 : ρ[i]? with
      | none => rw [e1] at q'; exact q'.elim
      | some o =>
        cases o with
        | none => rw [e1] at q'; exact q'.elim
        | some v =>
          rw [e1] at q'
          obtain ⟨x, q1, q2⟩ := L.get i v e1
          exact ⟨x, q1, q' f H x (Le.refl _ _) S1 q2⟩
    · cases h
  | .cst v, e, h => by
    have h' : asConst e = some v := by unfold chkF at h; exact of_decide_eq_true h
    obtain ⟨y, h1, h2, _⟩ := constV_ok (X := X.suite a ((a, oe) :: pn)) (K := X.K) h'
    refine PE.weak h1 fun σ H Q q => ?_
    obtain ⟨f, ρ, μ, c, fs, S1, L, _, _, q⟩ := q
    exact q f H y (Le.refl _ _) S1 (h2 f H)
  | .fld t, e, h => by
    unfold chkF at h
    split at h
    · rename_i x g hx
      obtain ⟨p, p2, rfl⟩ := asAttr_ok hx
      simp only [Bool.and_eq_true] at h
      obtain ⟨⟨⟨h1, h2⟩, h3⟩, h4⟩ := h
      obtain ⟨n1, n2, _⟩ := plainName_ok h3
      cases nm with
      | none => cases h1
      | some i =>
        have h1' : S.N[i]? = some x := of_decide_eq_true h1
        have hx' : PE (X.suite a ((a, oe) :: pn)) (.Name x p) (tVar i) := pe_var (X := X.suite a ((a, oe) :: pn)) (i := i) (by show X.N[i]? = _; rw [hN]; exact h1') (by show Vis X.env.scope x; rw [hsc]; exact visB_ok h2) n1 n2
        by_cases hC : ∃ C : Addr, cls = .ref C ∧ XfC X.K C ∧ PySem.W.findIn X.K (.ref C) g = some none
        · obtain ⟨C, ec, T, hno⟩ := hC
          refine PE.weak (pe_xf T hno hz hf hx' rfl) fun σ H Q q => ?_
          obtain ⟨f, ρ, μ, c, fs, S1, L, hl, xr, q⟩ := q
          obtain ⟨ex, dd, ps, k1, k2, k3, k4, k5, k6⟩ := xr
          have q' : (match (t.lookup c).bind fun k => fs[k]? with
            | some v => ∀ f' H' x, Le f H f' H' → SR X.K f' μ H' → VR X.K f' H' v x → Q x H'
            | none => False) := q
          cases e1 : t.lookup c with
          | none => rw [e1] at q'; exact q'.elim
          | some k =>
            rw [e1, Option.bind_some] at q'
            cases e2 : fs[k]? with
            | none => rw [e2] at q'; exact q'.elim
            | some v =>
              rw [e2] at q'
              have hm : (c, k) ∈ t := lookup_mem e1
              have h5 := List.all_eq_true.mp h4 _ hm
              have h6 : ex.flds[k]? = some g := by
                have hg : Γ.exn.lookup c = some (ex.name, ex.flds) := by rw [HS.ex.look, k1]; rfl
                have h5' : (match Γ.exn.lookup c with
                  | some q => decide (q.2[k]? = some g)
                  | none => false) = true := h5
                rw [hg] at h5'
                exact of_decide_eq_true h5'
              obtain ⟨y, m1, m2⟩ := k6 k g v h6 e2
              exact ⟨.ref a, hl i rfl, rfl, ec, dd, ps, y, k3, k4, m1, q' f H y (Le.refl _ _) S1 m2⟩
        · refine PE.weak PE.none fun σ H Q q => hC ?_
          obtain ⟨f, ρ, μ, c, fs, S1, L, hl, xr, q⟩ := q
          obtain ⟨ex, dd, ps, k1, k2, k3, k4, k5, k6⟩ := xr
          have he := HS.xf ex (eAt_mem k1)
          refine ⟨ex.C, k2, he.1, ?_⟩
          have q' : (match (t.lookup c).bind fun k => fs[k]? with
            | some v => ∀ f' H' x, Le f H f' H' → SR X.K f' μ H' → VR X.K f' H' v x → Q x H'
            | none => False) := q
          cases e1 : t.lookup c with
          | none => rw [e1] at q'; exact q'.elim
          | some k =>
            have hm : (c, k) ∈ t := lookup_mem e1
            have h5 := List.all_eq_true.mp h4 _ hm
            have hg : Γ.exn.lookup c = some (ex.name, ex.flds) := by rw [HS.ex.look, k1]; rfl
            have h5' : (match Γ.exn.lookup c with
              | some q => decide (q.2[k]? = some g)
              | none => false) = true := h5
            rw [hg] at h5'
            exact he.2 g (List.mem_of_getElem? (of_decide_eq_true h5'))
    · cases h
  | .nil, e, h => by unfold chkF at h; cases h
  | .cons _ _, e, h => by unfold chkF at h; cases h
  | .tup fa, e, h => by
    unfold chkF at h
    split at h
    · rename_i l hl
      obtain ⟨k, p, rfl⟩ := asTup_ok hl
      rw [Bool.and_eq_true, decide_eq_true_eq] at h
      refine PE.weak (pe_tup (chkFA_ok hN hsc HS hz hf fa l h.1)) fun σ H Q q => ?_
      obtain ⟨f, ρ, μ, c, fs, S1, L, hli, xr, q⟩ := q
      refine ⟨f, ρ, μ, c, fs, S1, L, hli, xr, ?_⟩
      have q' : (match evF c fs fa ρ with
        | some v => ∀ f' H' x, Le f H f' H' → SR X.K f' μ H' → VR X.K f' H' v x → Q x H'
        | none => False) := q
      cases e1 : evF c fs fa ρ with
      | none => rw [e1] at q'; exact q'.elim
      | some v =>
        rw [e1] at q'
        obtain ⟨vs, rfl, hlen⟩ := evF_len fa c fs ρ v Γ S nm l h.1 e1
        intro f' H' xs l' S' t
        refine ⟨by rw [t.length, hlen, sizeLine_eq]; omega, fun p hp => ?_⟩
        exact q' f' _ _ (l'.trans (Le.beside hp)) (S'.beside hp) ⟨p, xs, rfl, SqT.of upd_same, VRs.mono (Le.beside hp) _ _ t⟩
    · cases h
theorem chkFA_ok (hN : X.N = S.N) (hsc : X.env.scope = S.sc) (HS : SOk Γ es S X) (hz : Zc cls d oe) (hf : ∃ vs, oe.data = .fields vs) : ∀ (fe : FE) (l : List Expr), chkFA Γ S nm fe l = true → PA (X.suite a ((a, oe) :: pn)) l (tFA X.K es nm fe a cls d)
  | .nil, [], _ => PA.weak pa_nil fun σ H Q ⟨f, ρ, μ, c, fs, S1, L, _, _, q⟩ => q f H [] (Le.refl _ _) S1 VRs.nil
  | .cons fa fb, e :: l, h => by
    have h' : (plainArg e && chkF Γ S nm fa e && chkFA Γ S nm fb l) = true := by unfold chkFA at h; exact h
    simp only [Bool.and_eq_true] at h'
    refine PA.weak (pa_cons (chkF_ok hN hsc HS hz hf fa e h'.1.2) (chkFA_ok hN hsc HS hz hf fb l h'.2) (star_cons h'.1.1 _ _)) fun σ H Q q => ?_
    obtain ⟨f, ρ, μ, c, fs, S1, L, hli, xr, q⟩ := q
    refine ⟨f, ρ, μ, c, fs, S1, L, hli, xr, ?_⟩
    have q' : (match (match evF c fs fa ρ, evF c fs fb ρ with
      | some x, some (.tup ys) => some (Val.tup (x :: ys))
      | _, _ => none) with
      | some (.tup vs) => ∀ f' H' xs, Le f H f' H' → SR X.K f' μ H' → VRs X.K f' H' vs xs → Q xs H'
      | _ => False) := q
    cases e1 : evF c fs fa ρ with
    | none => rw [e1] at q'; exact q'.elim
    | some v =>
      cases e2 : evF c fs fb ρ with
      | none => rw [e1, e2] at q'; exact q'.elim
      | some w =>
        rw [e1, e2] at q'
        obtain ⟨ws, rfl, _⟩ := evF_len fb c fs ρ w Γ S nm l h'.2 e2
        intro f1 H1 x l1 S1' rv
        refine ⟨f1, ρ, μ, c, fs, S1', L.mono l1, hli, xr.mono S1 l1, ?_⟩
        rw [e2]
        exact fun f' H' xs l' S' t => q' f' H' (x :: xs) (l1.trans l') S' ⟨x, xs, rfl, VR.mono l' _ _ rv, t⟩
  | .nil, _ :: _, h => by unfold chkFA at h; cases h
  | .cons _ _, [], h => by unfold chkFA at h; cases h
  | .var _, _, h => by unfold chkFA at h; cases h
  | .cst _, _, h => by unfold chkFA at h; cases h
  | .fld _, _, h => by unfold chkFA at h; cases h
  | .tup _, _, h => by unfold chkFA at h; cases h
end
end
end Mi
end

section
set_option Elab.async false
set_option linter.all false
set_option maxRecDepth 100000
set_option autoImplicit false
set_option maxHeartbeats 1000000
/-! Sound17: readings of loops, of try, of raise. -/
namespace Mi
open PySem PySem.Spec L2
open PyProof.Rows hiding St
section
variable {K : PySem.W.Frag} {es : List EC} {W : WX} {σ : L2.St} {H : Hp} {D : Ends}
/-- the ends of a loop's turn -/
def turnD (D : Ends) (N : L2.St → Hp → Prop) : Ends := { D with nx := N, ct := N, bk := D.nx }
theorem turn_post {f : List Addr} {N : L2.St → Hp → Prop} {o : OS} {k : Loc → Sto → OS} (h : PostS K es W D f H (o.turn k)) (hk : ∀ ρ μ, PostS K es W D f H (k ρ μ) → ∀ f' H' σ', Le f H f' H' → SR K f' μ H' → LR K f' H' ρ σ' → N σ' H') : PostS K es W (turnD D N) f H o := by
  cases o with
  | nx ρ μ => exact hk ρ μ h
  | cnt ρ μ => exact hk ρ μ h
  | brk ρ μ => exact h
  | ret v μ => exact h
  | exc c fs ρ μ => exact h
  | fail => exact h
theorem while_read {c : Loc → Sto → Out Val} {b : Loc → Sto → OS} {n : Nat} (h : tS K es W (fun ρ μ => whlN c b n ρ μ) D σ H) : tWhile (tTM K es W c) (tS K es W b) D σ H := by
  refine ⟨fun m σ H => tS K es W (fun ρ μ => whlN c b m ρ μ) D σ H, ⟨n, h⟩, fun m σ H h => ?_⟩
  obtain ⟨f, ρ, μ, S, L, h⟩ := h
  cases m with
  | zero => exact h.elim
  | succ m =>
    have h' : PostS K es W D f H ((c ρ μ).on ρ fun v μ1 => match v with
      | .bl true => (b ρ μ1).turn fun ρ2 μ2 => whlN c b m ρ2 μ2
      | .bl false => .nx ρ μ1
      | _ => .fail) := h
    refine on_readT S L (fun v μ1 hn => by cases v <;> first | rfl | exact absurd rfl (hn _)) h' fun t μ1 f1 H1 l S1 L1 h1 => ?_
    cases t with
    | false => rw [if_neg (by simp)]; exact h1 f1 H1 σ (Le.refl _ _) S1 L1
    | true =>
      rw [if_pos rfl]
      refine ⟨fun σ' H' => tS K es W (fun ρ μ => whlN c b m ρ μ) D σ' H', fun σ' H' q => ⟨m, Nat.lt_succ_self m, q⟩, f1, ρ, μ1, S1, L1, ?_⟩
      exact turn_post h1 fun ρ2 μ2 q f' H' σ' l' S' L' => ⟨f', ρ2, μ2, S', L', PostS.mono l' q⟩
theorem for_read {it : Loc → Sto → Out Val} {tg : MT} {b : Loc → Sto → OS} (h : tS K es W (fun ρ μ => (it ρ μ).on ρ fun src μ1 => match items μ1 src with
    | some xs => forL (bindT tg) b src xs xs ρ μ1
    | none => .fail) D σ H) : tFor (iM K es W it) (gT K tg) (tS K es W b) D σ H := by
  obtain ⟨f, ρ, μ, S, L, h⟩ := h
  refine ⟨f, ρ, μ, S, L, ?_⟩
  cases e : it ρ μ with
  | exc c fs μ1 =>
    simp only [e] at h
    exact fun f' H' cls d l' S' r => h f' H' σ cls d l' S' (L.mono l') r
  | fail => simp only [e] at h; exact h
  | ok src μ1 =>
    simp only [e, Out.on_ok] at h
    cases hi : items μ1 src with
    | none => rw [hi] at h; exact h.elim
    | some xs =>
      rw [hi] at h
      refine ⟨xs, hi, fun f1 H1 J l1 S1 J1 => ?_⟩
      refine ⟨fun i m σ H => ∃ f ρ μ, Le f1 H1 f H ∧ SR K f μ H ∧ LR K f H ρ σ ∧ guard src xs μ = true ∧ i ≤ xs.length ∧ m = xs.length - i ∧ PostS K es W D f H (forL (bindT tg) b src xs (xs.drop i) ρ μ), ⟨_, f1, ρ, μ1, Le.refl _ _, S1, L.mono l1, guard_items hi, Nat.zero_le _, rfl, PostS.mono l1 h⟩, ?_⟩
      rintro i m σ2 H2 ⟨f2, ρ2, μ2, l2, S2, L2, g2, hi2, rfl, h2⟩
      by_cases hx : i < xs.length
      · refine .inr ⟨J1.go i f2 μ2 H2 l2 S2 g2 hx, ?_⟩
        have hd : xs.drop i = xs[i] :: xs.drop (i + 1) := List.drop_eq_getElem_cons hx
        rw [hd] at h2
        have h2' : PostS K es W D f2 H2 (match bindT tg xs[i] ρ2 with
          | none => .fail
          | some ρ1 => (b ρ1 μ2).turn fun ρ3 μ3 => if guard src xs μ3 then forL (bindT tg) b src xs (xs.drop (i + 1)) ρ3 μ3 else .fail) := h2
        cases e3 : bindT tg xs[i] ρ2 with
        | none => rw [e3] at h2'; exact h2'.elim
        | some ρ1 =>
          rw [e3] at h2'
          have h3 : PostS K es W D f2 H2 ((b ρ1 μ2).turn fun ρ3 μ3 => if guard src xs μ3 then forL (bindT tg) b src xs (xs.drop (i + 1)) ρ3 μ3 else .fail) := h2'
          refine ⟨fun σ' H' => ∃ f ρ μ, Le f1 H1 f H' ∧ SR K f μ H' ∧ LR K f H' ρ σ' ∧ guard src xs μ = true ∧ PostS K es W D f H' (forL (bindT tg) b src xs (xs.drop (i + 1)) ρ μ), ?_, fun x H' hy => ?_⟩
          · rintro σ' H' ⟨f, ρ, μ, k1, k2, k3, k4, k5⟩
            exact ⟨_, by omega, f, ρ, μ, k1, k2, k3, k4, hx, rfl, k5⟩
          · obtain ⟨v, ev, rv, S3, l3⟩ := J1.yl i f2 μ2 H2 x H' l2 S2 g2 hx hy
            have ev' : v = xs[i] := by rw [List.getElem?_eq_getElem hx] at ev; exact (Option.some.inj ev).symm
            subst ev'
            refine gT_set (L2.mono l3) rv e3 fun σ4 L4 _ => ⟨f2, ρ1, μ2, S3, L4, ?_⟩
            refine turn_post (PostS.mono l3 h3) fun ρ5 μ5 q f5 H5 σ5 l5 S5 L5 => ?_
            by_cases g5 : guard src xs μ5 = true
            · rw [if_pos g5] at q
              exact ⟨f5, ρ5, μ5, (l2.trans l3).trans l5, S5, L5, g5, PostS.mono l5 q⟩
            · rw [if_neg g5] at q
              exact q.elim
      · refine .inl ⟨J1.st i f2 μ2 H2 l2 S2 g2 (by omega), ?_⟩
        rw [List.drop_eq_nil_of_le (by omega)] at h2
        exact h2 f2 H2 σ2 (Le.refl _ _) S2 L2
/-- the clauses of a try -/
def clOf (K : PySem.W.Frag) (es : List EC) (h : HC) (cv : Value) : Cl := ⟨cv, h.nm, fun a cls d => tRet (tF K es h.nm h.fe a cls d)⟩
def clsOf (K : PySem.W.Frag) (es : List EC) : List HC → List Value → List Cl
  | h :: hs, cv :: cvs => clOf K es h cv :: clsOf K es hs cvs
  | _, _ => []
/-- the classes' answers -/
def AnsOk (K : PySem.W.Frag) (es : List EC) : List HC → List Value → Prop
  | [], [] => True
  | h :: hs, cv :: cvs => (∀ (c : Nat) (e : EC), eAt es c = some e → PySem.W.exmOne K (.ref e.C) cv = some (h.ks.contains c)) ∧ AnsOk K es hs cvs
  | _, _ => False
theorem handle_read {f : List Addr} {ρ : Loc} {μ : Sto} {c : Nat} {fs : List Val} {cls : Value} {d : Option Addr} (S : SR K f μ H) (L : LR K f H ρ σ) (x : XR K es f H c fs cls d) : ∀ (hs : List HC) (cvs : List Value), AnsOk K es hs cvs → PostS K es W D f H (handle c fs ρ μ hs) → wCl K W D (clsOf K es hs cvs) cls d σ H
  | [], [], _, h => h f H σ cls d (Le.refl _ _) S L x
  | k :: hs, cv :: cvs, ha, h => by
    obtain ⟨h1, h2⟩ := ha
    have x' := x
    obtain ⟨e, dd, ps, k1, k2, k3, k4, k5, k6⟩ := x'
    refine ⟨k.ks.contains c, by rw [k2]; exact h1 c e k1, ?_⟩
    have h' : PostS K es W D f H (if k.ks.contains c = true then (if hcOk k.nm ρ then (match evF c fs k.fe (hcLoc k.nm ρ) with
      | some v => .ret v μ
      | none => .fail) else .fail) else handle c fs ρ μ hs) := h
    cases hb : k.ks.contains c with
    | false =>
      rw [hb, if_neg (by simp)] at h'
      exact handle_read S L x hs cvs h2 h'
    | true =>
      rw [hb, if_pos rfl] at h'
      show ∀ a, H a = none → (clOf K es k cv).ts a cls d ((clOf K es k cv).ends D) ((clOf K es k cv).inn a σ) H
      intro a hna
      by_cases ho : hcOk k.nm ρ = true
      · rw [if_pos ho] at h'
        refine ⟨f, hcLoc k.nm ρ, μ, c, fs, S, ?_, ?_, x, ?_⟩
        · show LR K f H (hcLoc k.nm ρ) (match k.nm with
            | none => σ
            | some i => σ.set i (some (.ref a)))
          cases e : k.nm with
          | none => exact L
          | some i =>
            refine ⟨by simp [hcLoc, L.len], fun j w q => ?_⟩
            have q' : (ρ.set i none)[j]? = some (some w) := q
            by_cases hj : i = j
            · subst hj
              by_cases hl : i < ρ.length
              · rw [List.getElem?_set_self hl] at q'; cases q'
              · rw [List.getElem?_eq_none (by simpa using hl)] at q'; cases q'
            · rw [List.getElem?_set_ne hj] at q'
              obtain ⟨y, m1, m2⟩ := L.get j w q'
              exact ⟨y, by show (σ.set i _)[j]? = _; rw [List.getElem?_set_ne hj]; exact m1, m2⟩
        · intro i e
          show (match k.nm with
            | none => σ
            | some i => σ.set i (some (.ref a)))[i]? = _
          rw [e]
          rw [e] at ho
          exact List.getElem?_set_self (by rw [L.len]; exact of_decide_eq_true ho)
        · cases e : evF c fs k.fe (hcLoc k.nm ρ) with
          | none => rw [e] at h'; exact h'.elim
          | some v =>
            rw [e] at h'
            exact h'
      · rw [if_neg ho] at h'
        exact h'.elim
  | [], _ :: _, h, _ => h.elim
  | _ :: _, [], h, _ => h.elim
theorem try_read {b : Loc → Sto → OS} {hs : List HC} {cvs : List Value} (ha : AnsOk K es hs cvs) (h : tS K es W (fun ρ μ => match b ρ μ with
    | .exc c fs ρ1 μ1 => handle c fs ρ1 μ1 hs
    | r => r) D σ H) : tS K es (wCl K W D (clsOf K es hs cvs)) b D σ H := by
  obtain ⟨f, ρ, μ, S, L, h⟩ := h
  refine ⟨f, ρ, μ, S, L, ?_⟩
  cases e : b ρ μ with
  | exc c fs ρ1 μ1 =>
    simp only [e] at h
    exact fun f' H' σ' cls d l' S' L' x => handle_read S' L' x hs cvs ha (PostS.mono l' h)
  | _ => simp only [e] at h; exact h
theorem raise_readS {e : EC} {c : Nat} {m : Loc → Sto → Out Val} (hc : eAt es c = some e) (hz : e.flds.length ≤ 20) (hn : e.flds.Nodup) (hpos : 0 < e.flds.length) (hl : ∀ ρ μ v μ', m ρ μ = .ok v μ' → ∃ vs, v = .tup vs ∧ vs.length = e.flds.length)
    (h : tS K es W (fun ρ μ => (m ρ μ).on ρ fun v μ1 => match v with
      | .tup fs => .exc c fs ρ μ1
      | _ => .fail) D σ H) : tMkO e.C (spI e.C e.flds) [] (tMA K es W m) σ H (fun cls d H' => W cls d σ H') := by
  have hm : m = fun ρ μ => match m ρ μ with
      | .ok (.tup fs) μ1 => if fs.length = e.flds.length then .ok (.tup fs) μ1 else .fail
      | r => r := by
    funext ρ μ
    cases q : m ρ μ with
    | ok v μ1 =>
      obtain ⟨vs, rfl, hv⟩ := hl ρ μ v μ1 q
      simp only []
      rw [if_pos hv]
    | exc c fs μ1 => rfl
    | fail => rfl
  rw [hm]
  refine raise_read hc hz hn hpos ?_
  have back : ∀ {Q : List V → Hp → Prop}, tMA K es W m σ H Q → tMA K es W (fun ρ μ => match m ρ μ with
      | .ok (.tup fs) μ1 => if fs.length = e.flds.length then .ok (.tup fs) μ1 else .fail
      | r => r) σ H Q := fun {Q} q => by rw [hm] at q; exact q
  refine back ?_
  obtain ⟨f, ρ, μ, S, L, h⟩ := h
  have hl' := hl ρ μ
  refine ⟨f, ρ, μ, S, L, ?_⟩
  cases q : m ρ μ with
  | exc c fs μ1 =>
    simp only [q] at h
    exact fun f' H' cls d l' S' r => h f' H' σ cls d l' S' (L.mono l') r
  | fail => simp only [q] at h; exact h
  | ok v μ1 =>
    simp only [q, Out.on_ok] at h
    obtain ⟨vs, rfl, hv⟩ := hl' v μ1 q
    intro f1 H1 xs l1 S1 t
    refine ⟨by rw [t.length, hv], f1, μ1, vs, S1, t, fun f' H' cls d l' S' x => h f' H' σ cls d (l1.trans l') S' (L.mono (l1.trans l')) x⟩
end
end Mi
end

section
set_option Elab.async false
set_option linter.all false
set_option maxRecDepth 100000
set_option autoImplicit false
set_option maxHeartbeats 1000000
/-! Sound18: statements. -/
namespace Mi
open PySem PySem.Spec L2
open PyProof.Rows hiding St

/-! ### shapes -/
def asPass : Stmt → Bool
  | .Pass _ => true
  | .Expr (.Constant (.str _) _ _) _ => true
  | _ => false
def asAsg : Stmt → Option (Expr × Expr × Pos)
  | .Assign [t] v p => some (t, v, p)
  | _ => none
theorem asAsg_ok {st : Stmt} {t v : Expr} {p : Pos} (h : asAsg st = some (t, v, p)) : st = .Assign [t] v p := by
  unfold asAsg at h
  split at h
  · cases h; rfl
  · cases h
def asAug : Stmt → Option (Str × Operator × Expr)
  | .AugAssign (.Name x _) op v _ => some (x, op, v)
  | _ => none
theorem asAug_ok {st : Stmt} {x : Str} {op : Operator} {v : Expr} (h : asAug st = some (x, op, v)) : ∃ p q, st = .AugAssign (.Name x p) op v q := by
  unfold asAug at h
  split at h
  · cases h; exact ⟨_, _, rfl⟩
  · cases h
def asEx : Stmt → Option (Expr × Pos)
  | .Expr v p => some (v, p)
  | _ => none
theorem asEx_ok {st : Stmt} {v : Expr} {p : Pos} (h : asEx st = some (v, p)) : st = .Expr v p := by
  cases st <;> first | (cases h; done) | (cases h; rfl)
def asRet : Stmt → Option (Option Expr)
  | .Return v _ => some v
  | _ => none
theorem asRet_ok {st : Stmt} {v : Option Expr} (h : asRet st = some v) : ∃ p, st = .Return v p := by
  cases st <;> first | (cases h; done) | (cases h; exact ⟨_, rfl⟩)
def asIfS : Stmt → Option (Expr × List Stmt × List Stmt)
  | .If c a b _ => some (c, a, b)
  | _ => none
theorem asIfS_ok {st : Stmt} {c : Expr} {a b : List Stmt} (h : asIfS st = some (c, a, b)) : ∃ p, st = .If c a b p := by
  cases st <;> first | (cases h; done) | (cases h; exact ⟨_, rfl⟩)
def asWh : Stmt → Option (Expr × List Stmt)
  | .While c b [] _ => some (c, b)
  | _ => none
theorem asWh_ok {st : Stmt} {c : Expr} {b : List Stmt} (h : asWh st = some (c, b)) : ∃ p, st = .While c b [] p := by
  unfold asWh at h
  split at h
  · cases h; exact ⟨_, rfl⟩
  · cases h
def asFor : Stmt → Option (Expr × Expr × List Stmt)
  | .For t i b [] _ => some (t, i, b)
  | _ => none
theorem asFor_ok {st : Stmt} {t i : Expr} {b : List Stmt} (h : asFor st = some (t, i, b)) : ∃ p, st = .For t i b [] p := by
  unfold asFor at h
  split at h
  · cases h; exact ⟨_, rfl⟩
  · cases h
def asRaise : Stmt → Option (Str × List Expr)
  | .Raise (some (.Call (.Name x _) es [] _)) none _ => some (x, es)
  | _ => none
theorem asRaise_ok {st : Stmt} {x : Str} {es : List Expr} (h : asRaise st = some (x, es)) : ∃ p q r, st = .Raise (some (.Call (.Name x p) es [] q)) none r := by
  unfold asRaise at h
  split at h
  · cases h; exact ⟨_, _, _, rfl⟩
  · cases h
def asTry : Stmt → Option (List Stmt × List ExceptHandler)
  | .Try b hs [] [] _ => some (b, hs)
  | _ => none
theorem asTry_ok {st : Stmt} {b : List Stmt} {hs : List ExceptHandler} (h : asTry st = some (b, hs)) : ∃ p, st = .Try b hs [] [] p := by
  unfold asTry at h
  split at h
  · cases h; exact ⟨_, rfl⟩
  · cases h
def asBrk : Stmt → Bool
  | .Break _ => true
  | _ => false
def asCnt : Stmt → Bool
  | .Continue _ => true
  | _ => false
/-- a handler that gives back -/
def asHd : ExceptHandler → Option (Str × Option Str × Expr)
  | .ExceptHandler (some (.Name x _)) n [.Return (some v) _] _ => some (x, n, v)
  | _ => none
theorem asHd_ok {hd : ExceptHandler} {x : Str} {n : Option Str} {v : Expr} (h : asHd hd = some (x, n, v)) : ∃ p q r, hd = .ExceptHandler (some (.Name x p)) n [.Return (some v) q] r := by
  unfold asHd at h
  split at h
  · cases h; exact ⟨_, _, _, rfl⟩
  · cases h

/-! ### tuples of names -/
/-- no quick exchange of names -/
def swN (t v : Expr) : Bool := match asTup t, asTup v with
  | some ts, some vs => !(ts.length == 2 || ts.length == 3) || vs.all (foldedForSure 8)
  | _, _ => true
def sameLine (ts : List Expr) : Bool := match ts with
  | [a, b] => a.pos.line == b.pos.line
  | [a, b, c] => a.pos.line == b.pos.line && a.pos.line == c.pos.line
  | _ => false
def starless : Expr → Bool
  | .Starred _ _ => false
  | _ => true
def parQ (S : SS) (is : List Nat) (ts vs : List Expr) : Bool :=
  decide (is.Nodup) && sameLine ts && decide (ts.length = vs.length) && vs.all plainArg && !(vs.all (foldedForSure 8)) && !(vs.all (constantsAlone 8)) && chkNs S is ts && ts.all fun t => match asName t with
    | some x => decide (S.sc.names.lookup x = some .local)
    | none => false
def opE : O2 → Operator → Bool
  | .add, .Add => true
  | .sub, .Sub => true
  | _, _ => false
/-- a name that is no local one: shared with a comprehension -/
def notLoc (S : SS) (t : Expr) : Bool := match asName t with
  | some x => decide (S.sc.names.lookup x ≠ some .local)
  | none => false
theorem swaps_loc {v : Expr} {x : Str} {p : Pos} {l : Nat} {env : Env} (h : env.kindOf x ≠ some .local) : swapsWith v (some (.Name x p)) l env = pure false := by
  have hb : (env.kindOf x == some .local) = false := by simpa using h
  cases v <;> first | rfl | (unfold swapsWith; simp [hb])
def chkHs (Γ : Gam) (S : SS) : List HC → List ExceptHandler → Bool
  | [], [] => true
  | h :: hs, hd :: hds => (match asHd hd with
    | some (x, n, v) => glB S.sc x && plainName x && decide (Γ.cat.lookup x = some h.ks) && (match n, h.nm with
      | none, none => true
      | some y, some i => decide (S.N[i]? = some y) && decide (S.sc.names.lookup y = some .local)
      | _, _ => false) && chkF Γ S h.nm h.fe v
    | none => false) && chkHs Γ S hs hds
  | _, _ => false
mutual
/-- the statement is what Mini's says -/
def chkS (Γ : Gam) (S : SS) : MS → Stmt → Bool
  | .skip, st => asPass st
  | .seq _ _, _ => false
  | .set tg e, st => match asAsg st with
    | some (t, v, p) => vE e && chk Γ S e v && ((chkTg S tg t && (noComp v || notLoc S t) && swN t v) ||
        (match tg, e with
          | .tp is, .tupE a => (match asTup t, asTup v with
            | some ts, some vs => parQ S is ts vs && chkA Γ S a vs
            | _, _ => false)
          | .nm i, .comp _ _ _ _ => (match asName t, asComp v with
            | some y, some (_, _, _, _, sc) => decide (S.N[i]? = some y) && decide (S.sc.names.lookup y = some .local) && t.pos.line == v.pos.line && !(sc.names.any fun (n, k) => n == y && (k == .local || k == .cell))
            | _, _ => false)
          | _, _ => false))
    | none => false
  | .put a b e, st => match asAsg st with
    | some (t, v, _) => (match asSub t with
      | some (o, i) => vE a && vE b && vE e && chk Γ S a o && chk Γ S b i && chk Γ S e v && plainArg i && noComp v
      | none => false)
    | none => false
  | .aug i o e, st => match asAug st with
    | some (x, op, v) => decide (S.N[i]? = some x) && locB S.sc x && (S.fn x || decide (S.sc.names.lookup x = some .local)) && opE o op && vE e && chk Γ S e v
    | none => false
  | .expr e, st => match asEx st with
    | some (v, _) => vE e && chk Γ S e v && noComp v
    | none => false
  | .ret e, st => match asRet st with
    | some (some v) => vE e && chk Γ S e v
    | some none => (match e with
      | .cst .non => true
      | _ => false)
    | none => false
  | .ite c a b, st => match asIfS st with
    | some (x, l, r) => vE c && tstM c && chk Γ S c x && chkB Γ S a l && chkB Γ S b r
    | none => false
  | .whl c b, st => match asWh st with
    | some (x, l) => vE c && tstM c && chk Γ S c x && chkB Γ S b l
    | none => false
  | .forE tg it b, st => match asFor st with
    | some (t, i, l) => chkTg S tg t && noSet i && chk Γ S it i && chkB Γ S b l
    | none => false
  | .raise c a, st => match asRaise st with
    | some (x, l) => (match Γ.exn.lookup c with
      | some (y, fl) => decide (x = y) && decide (argc a = fl.length) && decide (0 < fl.length)
      | none => false) && glB S.sc x && plainName x && l.all plainArg && chkA Γ S a l
    | none => false
  | .tryx b hs, st => match asTry st with
    | some (l, hds) => chkB Γ S b l && !hds.isEmpty && chkHs Γ S hs hds
    | none => false
  | .brk, st => asBrk st
  | .cnt, st => asCnt st
def chkB (Γ : Gam) (S : SS) : MS → List Stmt → Bool
  | .skip, [] => true
  | .seq a b, st :: l => chkS Γ S a st && chkB Γ S b l
  | _, _ => false
end
theorem swapped_none {t v : Expr} {env : Env} (ht : (∃ x p, t = .Name x p) ∨ (∃ l k p, t = .Tuple l k p)) (h : swN t v = true) : swappedStores [t] v env = pure none := by
  rcases ht with ⟨x, p, rfl⟩ | ⟨ts, k, p, rfl⟩
  · rfl
  · cases v with
    | Tuple vs k2 p2 =>
      have h' : (!(ts.length == 2 || ts.length == 3) || vs.all (foldedForSure 8)) = true := h
      unfold swappedStores
      simp only []
      by_cases h2 : (ts.length == 2 || ts.length == 3) = true
      · rw [h2] at h'
        have h3 : vs.all (foldedForSure 8) = true := by simpa using h'
        rw [h3]
        repeat' (first | rfl | split)
      · rw [Bool.not_eq_true] at h2
        rw [h2]
        rfl
    | _ => rfl
end Mi
end

section
set_option Elab.async false
set_option linter.all false
set_option maxRecDepth 100000
set_option autoImplicit false
set_option maxHeartbeats 1000000
/-! Sound19: every statement is sound. -/
namespace Mi
open PySem PySem.Spec L2
open PyProof.Rows hiding St
theorem any_no {g : Expr → Bool} (hg : ∀ e, plainArg e = true → g e = false) : ∀ {vs : List Expr}, vs.all plainArg = true → vs.any g = false
  | [], _ => rfl
  | e :: vs, h => by
    rw [List.all_cons, Bool.and_eq_true] at h
    rw [List.any_cons, hg e h.1, any_no hg h.2]
    rfl
theorem filterMap_two {g : Expr → Option Str} {a b : Expr} {x y : Str} (h1 : g a = some x) (h2 : g b = some y) : [a, b].filterMap g = [x, y] := by
  rw [List.filterMap_cons_some h1, List.filterMap_cons_some h2]; rfl
theorem filterMap_three {g : Expr → Option Str} {a b c : Expr} {x y z : Str} (h1 : g a = some x) (h2 : g b = some y) (h3 : g c = some z) : [a, b, c].filterMap g = [x, y, z] := by
  rw [List.filterMap_cons_some h1, List.filterMap_cons_some h2, List.filterMap_cons_some h3]; rfl
theorem dups_two {x y : Str} (h : x ≠ y) : [x, y].eraseDups = [x, y] := by
  have h1 : (y == x) = false := by simpa using fun e => h e.symm
  simp [List.eraseDups_cons, h1]
theorem dups_three {x y z : Str} (h : x ≠ y) (h2 : x ≠ z) (h3 : y ≠ z) : [x, y, z].eraseDups = [x, y, z] := by
  have h1 : (y == x) = false := by simpa using fun e => h e.symm
  have h4 : (z == x) = false := by simpa using fun e => h2 e.symm
  have h5 : (z == y) = false := by simpa using fun e => h3 e.symm
  simp [List.eraseDups_cons, h1, h4, h5]
theorem swapped_two {env : Env} {x y : Str} {px py pt pt2 : Pos} {kt k2 : Nat} {a b : Expr} (hb : env.blockKind = .function) (hx : env.kindOf x = some .local) (hy : env.kindOf y = some .local) (hl : (px.line == py.line) = true) (hxy : x ≠ y)
    (ha : [a, b].all plainArg = true) (h8 : [a, b].all (foldedForSure 8) = false) (h9 : [a, b].all (constantsAlone 8) = false) : swappedStores [.Tuple [.Name x px, .Name y py] kt pt] (.Tuple [a, b] k2 pt2) env = pure (some [x, y]) := by
  unfold swappedStores
  simp only []
  split
  · rename_i h
    rw [hb] at h
    exact absurd h (by simp)
  split
  · rename_i h
    rw [any_no (fun e he => by cases e <;> first | rfl | cases he) ha] at h
    cases h
  split
  · rename_i h
    rw [filterMap_two (x := x) (y := y) (by simp [hx, Expr.pos]) (by simp [hy, eq_of_beq hl, Expr.pos])] at h
    rw [dups_two hxy] at h
    exact absurd h (by simp)
  split
  · rename_i h
    rw [h8] at h; cases h
  split
  · rename_i h
    rw [h9] at h; cases h
  rw [filterMap_two (x := x) (y := y) (by simp [hx, Expr.pos]) (by simp [hy, eq_of_beq hl, Expr.pos])]
theorem swapped_three {env : Env} {x y z : Str} {px py pz pt pt2 : Pos} {kt k2 : Nat} {a b c : Expr} (hb : env.blockKind = .function) (hx : env.kindOf x = some .local) (hy : env.kindOf y = some .local) (hz : env.kindOf z = some .local) (hl : (px.line == py.line) = true) (hl2 : (px.line == pz.line) = true) (hxy : x ≠ y) (hxz : x ≠ z) (hyz : y ≠ z)
    (ha : [a, b, c].all plainArg = true) (h8 : [a, b, c].all (foldedForSure 8) = false) (h9 : [a, b, c].all (constantsAlone 8) = false) : swappedStores [.Tuple [.Name x px, .Name y py, .Name z pz] kt pt] (.Tuple [a, b, c] k2 pt2) env = pure (some [x, y, z]) := by
  unfold swappedStores
  simp only []
  split
  · rename_i h
    rw [hb] at h
    exact absurd h (by simp)
  split
  · rename_i h
    rw [any_no (fun e he => by cases e <;> first | rfl | cases he) ha] at h
    cases h
  split
  · rename_i h
    rw [filterMap_three (x := x) (y := y) (z := z) (by simp [hx, Expr.pos]) (by simp [hy, eq_of_beq hl, Expr.pos]) (by simp [hz, eq_of_beq hl2, Expr.pos])] at h
    rw [dups_three hxy hxz hyz] at h
    exact absurd h (by simp)
  split
  · rename_i h
    rw [h8] at h; cases h
  split
  · rename_i h
    rw [h9] at h; cases h
  rw [filterMap_three (x := x) (y := y) (z := z) (by simp [hx, Expr.pos]) (by simp [hy, eq_of_beq hl, Expr.pos]) (by simp [hz, eq_of_beq hl2, Expr.pos])]
end Mi
end

section
set_option Elab.async false
set_option linter.all false
set_option maxRecDepth 100000
set_option autoImplicit false
set_option maxHeartbeats 1000000
/-! Sound20: every statement is sound. -/
namespace Mi
open PySem PySem.Spec L2
open PyProof.Rows hiding St
section
variable {Γ : Gam} {es : List EC} {C : CallF} {lv : Nat}
structure SndS (Γ : Gam) (es : List EC) (C : CallF) (lv : Nat) (m : MS) : Prop where
  s : ∀ {S X W st}, XOk Γ es C lv S X → SOk Γ es S X → Takes X W → chkS Γ S m st = true → PS X st (tS X.K es W (ex C m))
  b : ∀ {S X W l}, XOk Γ es C lv S X → SOk Γ es S X → Takes X W → chkB Γ S m l = true → PSs X l (tS X.K es W (ex C m))
theorem SndS.stm {m : MS} (hb : ∀ S l, chkB Γ S m l = false) (hs : ∀ {S X W st}, XOk Γ es C lv S X → SOk Γ es S X → Takes X W → chkS Γ S m st = true → PS X st (tS X.K es W (ex C m))) : SndS Γ es C lv m :=
  ⟨hs, fun _ _ _ h => by rw [hb] at h; cases h⟩
theorem XOk.tr {S : SS} {X : Cx} (h : XOk Γ es C lv S X) {pn : List (Addr × Obj)} {xe : Value → Shared → Prop} (po : PassesOwn (model X.prog X.w) X.A X.env xe) : XOk Γ es C lv S (X.tr pn xe) where
  hN := h.hN
  nd := h.nd
  hsc := h.hsc
  hfn := h.hfn
  calm := h.calm
  room := h.room
  po := po
  abs := h.abs
  cs := h.cs
  fns := h.fns
  arity := h.arity
theorem SOk.tr {S : SS} {X : Cx} (h : SOk Γ es S X) {pn : List (Addr × Obj)} {xe : Value → Shared → Prop} : SOk Γ es S (X.tr pn xe) where
  ex := h.ex
  xf := h.xf
  cat := h.cat
  stk := h.stk
  frm := h.frm
  kind := h.kind
  room2 := h.room2
theorem skip_read {K : PySem.W.Frag} {W : WX} {D : Ends} {σ : L2.St} {H : Hp} (h : tS K es W (ex C .skip) D σ H) : tNext D σ H := by
  obtain ⟨f, ρ, μ, S, L, h⟩ := h
  exact h f H σ (Le.refl _ _) S L
theorem snds_skip : SndS Γ es C lv .skip where
  s := by
    intro S X W st HX HS tk h
    unfold chkS at h
    unfold asPass at h
    split at h
    · exact PS.weak ps_pass fun D σ H q => skip_read q
    · exact PS.weak ps_doc fun D σ H q => skip_read q
    · cases h
  b := by
    intro S X W l HX HS tk h
    cases l with
    | nil => exact PSs.weak pss_nil fun D σ H q => skip_read q
    | cons _ _ => unfold chkB at h; cases h
theorem snds_seq {a b : MS} (ha : SndS Γ es C lv a) (hb : SndS Γ es C lv b) : SndS Γ es C lv (.seq a b) where
  s := by
    intro S X W st HX HS tk h
    unfold chkS at h; cases h
  b := by
    intro S X W l HX HS tk h
    cases l with
    | nil => unfold chkB at h; cases h
    | cons st l =>
      have h' : (chkS Γ S a st && chkB Γ S b l) = true := by unfold chkB at h; exact h
      rw [Bool.and_eq_true] at h'
      exact PSs.weak (pss_cons (ha.s HX HS tk h'.1) (hb.b HX HS tk h'.2)) fun D σ H q => seq_read q
theorem snds_brk : SndS Γ es C lv .brk := by
  refine SndS.stm (fun S l => by unfold chkB; rfl) fun {S X W st} HX HS tk h => ?_
  have h' : asBrk st = true := by unfold chkS at h; exact h
  cases st <;> first | (cases h'; done) | exact PS.weak ps_break fun D σ H ⟨f, ρ, μ, S, L, q⟩ => q f H σ (Le.refl _ _) S L
theorem snds_cnt : SndS Γ es C lv .cnt := by
  refine SndS.stm (fun S l => by unfold chkB; rfl) fun {S X W st} HX HS tk h => ?_
  have h' : asCnt st = true := by unfold chkS at h; exact h
  cases st <;> first | (cases h'; done) | exact PS.weak ps_continue fun D σ H ⟨f, ρ, μ, S, L, q⟩ => q f H σ (Le.refl _ _) S L
theorem snds_expr {e : ME} : SndS Γ es C lv (.expr e) := by
  refine SndS.stm (fun S l => by unfold chkB; rfl) fun {S X W st} HX HS tk h => ?_
  unfold chkS at h
  split at h
  · rename_i v p hst
    obtain rfl := asEx_ok hst
    simp only [Bool.and_eq_true] at h
    exact PS.weak (ps_expr ((snd e).e HX tk h.1.2 h.1.1) (swaps_no h.2)) fun D σ H q => expr_read q
  · cases h
theorem snds_ret {e : ME} : SndS Γ es C lv (.ret e) := by
  refine SndS.stm (fun S l => by unfold chkB; rfl) fun {S X W st} HX HS tk h => ?_
  unfold chkS at h
  split at h
  · rename_i v hst
    obtain ⟨p, rfl⟩ := asRet_ok hst
    simp only [Bool.and_eq_true] at h
    exact PS.weak (ps_ret ((snd e).e HX tk h.2 h.1)) fun D σ H q => ret_read q
  · rename_i hst
    obtain ⟨p, rfl⟩ := asRet_ok hst
    split at h
    · exact PS.weak ps_retN fun D σ H ⟨f, ρ, μ, S, L, q⟩ => q f H .non (Le.refl _ _) S rfl
    · cases h
  · cases h
theorem snds_ite {c : ME} {a b : MS} (ha : SndS Γ es C lv a) (hb : SndS Γ es C lv b) : SndS Γ es C lv (.ite c a b) := by
  refine SndS.stm (fun S l => by unfold chkB; rfl) fun {S X W st} HX HS tk h => ?_
  unfold chkS at h
  split at h
  · rename_i x l r hst
    obtain ⟨p, rfl⟩ := asIfS_ok hst
    simp only [Bool.and_eq_true] at h
    obtain ⟨⟨⟨⟨h1, h2⟩, h3⟩, h4⟩, h5⟩ := h
    exact PS.weak (ps_if ((snd c).t HX tk h3 h1 h2).1 (ha.b HX HS tk h4) (hb.b HX HS tk h5)) fun D σ H q => if_read q
  · cases h
theorem snds_whl {c : ME} {b : MS} (hb : SndS Γ es C lv b) : SndS Γ es C lv (.whl c b) := by
  refine SndS.stm (fun S l => by unfold chkB; rfl) fun {S X W st} HX HS tk h => ?_
  unfold chkS at h
  split at h
  · rename_i x l hst
    obtain ⟨p, rfl⟩ := asWh_ok hst
    simp only [Bool.and_eq_true] at h
    obtain ⟨⟨⟨h1, h2⟩, h3⟩, h4⟩ := h
    exact PS.weak (ps_while HX.po ((snd c).t HX tk h3 h1 h2).1 (hb.b HX HS tk h4)) fun D σ H q => while_read q
  · cases h
theorem snds_for {tg : MT} {it : ME} {b : MS} (hb : SndS Γ es C lv b) : SndS Γ es C lv (.forE tg it b) := by
  refine SndS.stm (fun S l => by unfold chkB; rfl) fun {S X W st} HX HS tk h => ?_
  unfold chkS at h
  split at h
  · rename_i t i l hst
    obtain ⟨p, rfl⟩ := asFor_ok hst
    simp only [Bool.and_eq_true] at h
    obtain ⟨⟨⟨h1, h2⟩, h3⟩, h4⟩ := h
    exact PS.weak (ps_for HX.po HX.calm ((snd it).i HX tk h3 t) (tg_PG HX h1) (hb.b HX HS tk h4) (folded_no h2)) fun D σ H q => for_read q
  · cases h
theorem snds_aug {i : Nat} {o : O2} {e : ME} : SndS Γ es C lv (.aug i o e) := by
  refine SndS.stm (fun S l => by unfold chkB; rfl) fun {S X W st} HX HS tk h => ?_
  unfold chkS at h
  split at h
  · rename_i x op v hst
    obtain ⟨p, q, rfl⟩ := asAug_ok hst
    simp only [Bool.and_eq_true, Bool.or_eq_true, decide_eq_true_eq] at h
    obtain ⟨⟨⟨⟨⟨h1, h2⟩, h3⟩, h4⟩, h5⟩, h6⟩ := h
    have hN : X.N.Nodup := by rw [HX.hN]; exact HX.nd
    have hf : X.fn x = true ∨ X.env.scope.names.lookup x = some .local := by rw [HX.hfn, HX.hsc]; exact h3
    have hx : L2.Loc X.env.scope x := by rw [HX.hsc]; exact locB_ok h2
    have hi : X.N[i]? = some x := by rw [HX.hN]; exact h1
    unfold opE at h4
    split at h4
    · refine PS.weak (ps_aug hN hi hx ((snd e).e HX tk h6 h5) ip_add hf) fun D σ H q => ?_
      refine aug_read (neg := false) ?_
      obtain ⟨f, ρ, μ, S1, L, q⟩ := q
      refine ⟨f, ρ, μ, S1, L, ?_⟩
      have q' : PostS X.K es W D f H (match ρ[i]? with
        | some (some x) => (ev C e ρ μ).on ρ fun v μ1 => (match x, v with
          | .int a, .int b => .nx (ρ.set i (some (.int (a + b)))) μ1
          | _, _ => .fail)
        | _ => .fail) := q
      exact q'
    · refine PS.weak (ps_aug hN hi hx ((snd e).e HX tk h6 h5) ip_sub hf) fun D σ H q => ?_
      refine aug_read (neg := true) ?_
      obtain ⟨f, ρ, μ, S1, L, q⟩ := q
      refine ⟨f, ρ, μ, S1, L, ?_⟩
      have q' : PostS X.K es W D f H (match ρ[i]? with
        | some (some x) => (ev C e ρ μ).on ρ fun v μ1 => (match x, v with
          | .int a, .int b => .nx (ρ.set i (some (.int (a - b)))) μ1
          | _, _ => .fail)
        | _ => .fail) := q
      exact q'
    · cases h4
  · cases h
theorem snds_put {a b e : ME} : SndS Γ es C lv (.put a b e) := by
  refine SndS.stm (fun S l => by unfold chkB; rfl) fun {S X W st} HX HS tk h => ?_
  unfold chkS at h
  split at h
  · rename_i t v p hst
    obtain rfl := asAsg_ok hst
    split at h
    · rename_i o i ht
      obtain ⟨p2, rfl⟩ := asSub_ok ht
      simp only [Bool.and_eq_true] at h
      obtain ⟨⟨⟨⟨⟨⟨⟨h1, h2⟩, h3⟩, h4⟩, h5⟩, h6⟩, h7⟩, h8⟩ := h
      have hg : PG X (.Subscript o i p2) (gSub (tM X.K es W (ev C a)) (tM X.K es W (ev C b)) rSetL) := pg_sub ((snd a).e HX tk h4 h1) ((snd b).e HX tk h5 h2) set_list (by
        intro w
        cases i <;> first | rfl | cases h7)
      exact PS.weak (ps_asg ((snd e).e HX tk h6 h3) hg (by unfold swapsWithSole; exact swaps_no h8) rfl rfl) fun D σ H q => put_read q
    · cases h
  · cases h
theorem snds_raise {c : Nat} {a : ME} : SndS Γ es C lv (.raise c a) := by
  refine SndS.stm (fun S l => by unfold chkB; rfl) fun {S X W st} HX HS tk h => ?_
  unfold chkS at h
  split at h
  · rename_i x l hst
    obtain ⟨p, q, r, rfl⟩ := asRaise_ok hst
    simp only [Bool.and_eq_true] at h
    obtain ⟨⟨⟨⟨h1, h2⟩, h3⟩, h4⟩, h5⟩ := h
    split at h1
    · rename_i y fl hg
      simp only [Bool.and_eq_true, decide_eq_true_eq] at h1
      obtain ⟨⟨rfl, e2⟩, e3⟩ := h1
      obtain ⟨n1, n2, _⟩ := plainName_ok h3
      have hm : ∃ e, eAt es c = some e ∧ e.name = x ∧ e.flds = fl := by
        rw [HS.ex.look] at hg
        cases e1 : eAt es c with
        | none => rw [e1] at hg; cases hg
        | some e => rw [e1] at hg; cases hg; exact ⟨e, rfl, rfl, rfl⟩
      obtain ⟨e, he, rfl, rfl⟩ := hm
      have hmem := eAt_mem he
      obtain ⟨T, hz, fI, fd, ps, iC, tI, hb, F1⟩ := HS.ex.mkx e hmem e3
      cases l with
      | nil =>
        have := (argc_len_nil h5)
        omega
      | cons e0 l0 =>
        have hpl : plainArg e0 = true ∧ l0.all plainArg = true := by rw [List.all_cons, Bool.and_eq_true] at h4; exact h4
        have hmk := pmk_oex (CX := L2.CX X.prog X.w) (pos := q) (p := p) (x := e.name) T iC tI F1 HS.room2 hb (show Vals ([] : List V) ([] : List Value) from .nil) (passN tk) (HX.gl h2) (HS.ex.cls e hmem) ((snd a).a HX tk h5) n1 (star_cons hpl.1 _ _) (star_any hpl.2)
        refine PS.weak (ps_raise HX.calm tk hmk) fun D σ H q => ?_
        refine raise_readS he hz (HS.ex.nd e hmem) e3 (fun ρ μ v μ' hv => ?_) q
        obtain ⟨vs, hv1, hv2⟩ := argc_len a _ h5 ρ μ v μ' hv
        exact ⟨vs, hv1, hv2.trans e2⟩
    · cases h1
  · cases h
where
  argc_len_nil {Γ : Gam} {S : SS} {a : ME} (h : chkA Γ S a [] = true) : argc a = 0 := by
    cases a <;> first | rfl | (unfold chkA at h; cases h)
  passN {X : Cx} {W : WX} (tk : Takes X W) : Passes (L2.CX X.prog X.w) X (fun _ _ _ => False) := fun _ _ _ _ e s' I c => tk e s' (XE.of_call I (fun _ _ _ h => h.elim) c)
end
end Mi
end

section
set_option Elab.async false
set_option linter.all false
set_option maxRecDepth 100000
set_option autoImplicit false
set_option maxHeartbeats 1000000
/-! Sound21: assignments; try; every statement is sound. -/
namespace Mi
open PySem PySem.Spec L2
open PyProof.Rows hiding St
section
variable {Γ : Gam} {es : List EC} {C : CallF} {lv : Nat}
theorem sole {t v : Expr} {l : Nat} {env : Env} {b : Bool} (h : swapsWith v (some t) l env = pure b) : swapsWithSole [t] v l env = pure b := by
  unfold swapsWithSole; exact h
theorem block_kind {S : SS} {X : Cx} (HX : XOk Γ es C lv S X) (HS : SOk Γ es S X) : X.env.blockKind = .function := by
  unfold Env.blockKind
  rw [HX.hsc, HS.kind]
  rfl
theorem noTup_swap {vs : List Expr} {k : Nat} {p : Pos} {t : Option Expr} {l : Nat} {env : Env} : swapsWith (.Tuple vs k p) t l env = pure false := rfl
theorem name_of {S : SS} {i : Nat} {t : Expr} (h : chkNm S i t = true) : ∃ x p, t = .Name x p ∧ S.N[i]? = some x := by
  unfold chkNm at h
  split at h
  · rename_i x hx
    obtain ⟨p, rfl⟩ := asName_ok hx
    simp only [Bool.and_eq_true, decide_eq_true_eq] at h
    exact ⟨x, p, rfl, h.1.1⟩
  · cases h
theorem loc_of {S : SS} {x : Str} {p : Pos} (h : (match asName (.Name x p) with
    | some x => decide (S.sc.names.lookup x = some NameKind.local)
    | none => false) = true) : S.sc.names.lookup x = some .local := of_decide_eq_true h
/-- a comprehension's parts -/
theorem comp_parts {S : SS} {tg : MT} {it cond elt : ME} {e : Expr} (h : chk Γ S (.comp tg it cond elt) e = true) : ∃ x t iter ifs sc p own, e = .ListComp x [⟨t, iter, ifs, 0⟩] sc p ∧ asComp e = some (x, t, iter, ifs, sc) ∧ noSet iter = true ∧ chk Γ S it iter = true ∧ vE cond = true ∧ vE elt = true ∧ tstM cond = true ∧
    blkC S.N S.sc sc own = true ∧ chkTg (blkS S sc) tg t = true ∧ chk Γ (blkS S sc) elt x = true ∧ (match ifs with
      | [] => isTrueC cond
      | [c] => chk Γ (blkS S sc) cond c
      | _ => false) = true ∧ own.map (·.2) = tgs tg := by
  unfold chk at h
  split at h
  · rename_i x t iter ifs sc hl
    have hl0 := hl
    obtain ⟨p, rfl⟩ := asComp_ok hl
    simp only [Bool.and_eq_true] at h
    obtain ⟨⟨⟨⟨⟨h1, h2⟩, h3⟩, h4⟩, h5⟩, h6⟩ := h
    cases tg with
    | nm i =>
      dsimp only at h6
      split at h6
      · rename_i y hy
        simp only [Bool.and_eq_true] at h6
        obtain ⟨⟨⟨k1, k2⟩, k3⟩, k4⟩ := h6
        exact ⟨x, t, iter, ifs, sc, p, _, rfl, hl0, h1, h2, h3, h4, h5, k1, k2, k3, k4, rfl⟩
      · cases h6
    | tp is =>
      dsimp only at h6
      split at h6
      · rename_i ys hy
        simp only [Bool.and_eq_true] at h6
        obtain ⟨⟨⟨⟨k1, k0⟩, k2⟩, k3⟩, k4⟩ := h6
        refine ⟨x, t, iter, ifs, sc, p, _, rfl, hl0, h1, h2, h3, h4, h5, k1, k2, k3, k4, ?_⟩
        have k2' : (match asTup t with
          | some l => chkNs (blkS S sc) is l
          | none => false) = true := k2
        rw [hy] at k2'
        exact own_ix k2'
      · cases h6
  · cases h
/-- x = [.. for ..] -/
theorem set_comp {S : SS} {X : Cx} {W : WX} (HX : XOk Γ es C lv S X) (HS : SOk Γ es S X) (tk : Takes X W) {i : Nat} {y : Str} {py p : Pos} {tg : MT} {it cond elt : ME} {v : Expr} (h : chk Γ S (.comp tg it cond elt) v = true) {a1 a2 a3 : Expr} {a4 : List Expr} {sc : Scope} (hv : asComp v = some (a1, a2, a3, a4, sc))
    (hi : S.N[i]? = some y) (hy : S.sc.names.lookup y = some .local) (hl : (py.line == v.pos.line) = true) (hn : (sc.names.any fun (n, k) => n == y && (k == .local || k == .cell)) = false) :
    PS X (.Assign [.Name y py] v p) (tS X.K es W (ex C (.set (.nm i) (.comp tg it cond elt)))) := by
  obtain ⟨x, t, iter, ifs, sc', pv, own, rfl, hl0, h1, h2, h3, h4, h5, h6, h7, h8, h9, h10⟩ := comp_parts h
  rw [hv] at hl0
  cases hl0
  have ok : BlkOk X.N X.env.scope sc own := by rw [HX.hN, HX.hsc]; exact blkOk_by h6
  have htt : ∃ tt : TT, ttOk X.K es tt (ev C cond) ∧ ∀ (s : Shared) (H : Hp) (D : Addr) (cl : List (Str × Addr)) (fp : List Addr), PTs (X.blk s H sc (compEnvC sc cl D X.env) fp) a4 tt := by
    cases a4 with
    | nil =>
      have h9' := isTrueC_ok h9
      refine ⟨tYes, fun σ H Q q => ?_, fun _ _ _ _ _ => pts_nil⟩
      obtain ⟨f, ρ, μ, S, L, h⟩ := q
      rw [h9'] at h
      exact h f H (Le.refl _ _) S
    | cons c r =>
      cases r with
      | nil => exact ⟨tTM X.K es W0 (ev C cond), fun _ _ _ q => q, fun s H D cl fp => pts_one ((snd cond).t (HX.blk s H sc cl D fp) takesW0 h9 h3 h5).1⟩
      | cons _ _ => cases h9
  obtain ⟨tt, ht1, ht2⟩ := htt
  refine PS.weak (ps_setLc (i := i) (own := own) (g := gT X.K tg) (tt := tt) (te := tM X.K es W0 (ev C elt)) HX.calm (by rw [HX.hN]; exact HX.nd) (by rw [HX.hN]; exact hi) (by rw [HX.hsc]; exact hy) (sw_true (by rw [HX.hsc]; exact HS.kind) (by rw [HX.hsc]; exact hy) hl hn)
    ((snd it).i (W := W) HX tk h2 a2) ok (fun s H D cl fp => tg_PG (HX.blk s H sc cl D fp) h7) ht2 (fun s H D cl fp => (snd elt).e (HX.blk s H sc cl D fp) takesW0 h8 h4) (folded_no h1)) fun D σ H q => ?_
  have q1 : tAsg (tM X.K es W (ev C (.comp tg it cond elt))) (gT X.K (.nm i)) D σ H := set_read q
  exact lc_read ht1 h10 q1
theorem snds_set {tg : MT} {e : ME} : SndS Γ es C lv (.set tg e) := by
  refine SndS.stm (fun S l => by unfold chkB; rfl) fun {S X W st} HX HS tk h => ?_
  unfold chkS at h
  split at h
  · rename_i t v p hst
    obtain rfl := asAsg_ok hst
    simp only [Bool.and_eq_true, Bool.or_eq_true] at h
    obtain ⟨⟨h1, h2⟩, h3⟩ := h
    have hNn : X.N.Nodup := by rw [HX.hN]; exact HX.nd
    rcases h3 with ⟨⟨h3, h4⟩, h5⟩ | h3
    · have ht : (∃ x p, t = .Name x p) ∨ (∃ l k p, t = .Tuple l k p) := by
        cases tg with
        | nm i => obtain ⟨x, p, e, _⟩ := name_of (show chkNm S i t = true from h3); exact .inl ⟨x, p, e⟩
        | tp is =>
          have h3' : (match asTup t with
            | some l => chkNs S is l
            | none => false) = true := h3
          split at h3'
          · rename_i l e1
            obtain ⟨k, p, rfl⟩ := asTup_ok e1
            exact .inr ⟨l, k, p, rfl⟩
          · cases h3'
      have hsw : ∀ l, swapsWith v (some t) l X.env = pure false := fun l => by
        rcases h4 with h4 | h4
        · exact swaps_no h4
        · unfold notLoc at h4
          split at h4
          · rename_i x ex
            obtain ⟨p, rfl⟩ := asName_ok ex
            refine swaps_loc ?_
            show X.env.scope.names.lookup x ≠ _
            rw [HX.hsc]
            exact of_decide_eq_true h4
          · cases h4
      exact PS.weak (ps_asg ((snd e).e HX tk h2 h1) (tg_PG HX h3) (sole (hsw _)) (swapped_none ht h5) (by rcases ht with ⟨x, p, rfl⟩ | ⟨l, k, p, rfl⟩ <;> rfl)) fun D σ H q => set_read q
    · split at h3
      · rename_i is a
        split at h3
        · rename_i ts vs e1 e2
          obtain ⟨k, pt, rfl⟩ := asTup_ok e1
          obtain ⟨k2, pt2, rfl⟩ := asTup_ok e2
          simp only [Bool.and_eq_true] at h3
          obtain ⟨h3, ha⟩ := h3
          unfold parQ at h3
          simp only [Bool.and_eq_true, decide_eq_true_eq, Bool.not_eq_true'] at h3
          obtain ⟨⟨⟨⟨⟨⟨⟨q1, q2⟩, q3⟩, q4⟩, q5⟩, q6⟩, q7⟩, q8⟩ := h3
          have hA := (snd a).a HX tk ha
          unfold sameLine at q2
          split at q2
          · rename_i t1 t2
            match is, vs, q3, ns_len q7, q7 with
            | [i, j], [a', b'], _, _, q7 =>
              have q7' : (chkNm S i t1 && (chkNm S j t2 && true)) = true := q7
              simp only [Bool.and_eq_true] at q7'
              obtain ⟨x, px, rfl, nx⟩ := name_of q7'.1
              obtain ⟨y, py, rfl, ny⟩ := name_of q7'.2.1
              simp only [List.all_cons, List.all_nil, Bool.and_true, Bool.and_eq_true] at q8
              have lx := loc_of (p := px) q8.1
              have ly := loc_of (p := py) q8.2
              have hij : i ≠ j := by
                have := q1
                simp at this
                exact this
              have hxy : x ≠ y := fun e => hij (nodup_ix HX.nd nx (by rw [e]; exact ny))
              refine PS.weak (ps_par HX.calm hNn (by rw [HX.hN]; exact nx) (by rw [HX.hN]; exact ny) hij (by rw [HX.hsc]; exact lx) (by rw [HX.hsc]; exact ly) hA
                (swapped_two (block_kind HX HS) (by show X.env.scope.names.lookup x = _; rw [HX.hsc]; exact lx) (by show X.env.scope.names.lookup y = _; rw [HX.hsc]; exact ly) q2 hxy q4 q5 q6) (sole noTup_swap)) fun D σ H q => par_read q
          · rename_i t1 t2 t3
            match is, vs, q3, ns_len q7, q7 with
            | [i, j, l], [a', b', c'], _, _, q7 =>
              have q7' : (chkNm S i t1 && (chkNm S j t2 && (chkNm S l t3 && true))) = true := q7
              simp only [Bool.and_eq_true] at q7' q2
              obtain ⟨x, px, rfl, nx⟩ := name_of q7'.1
              obtain ⟨y, py, rfl, ny⟩ := name_of q7'.2.1
              obtain ⟨z, pz, rfl, nz⟩ := name_of q7'.2.2.1
              simp only [List.all_cons, List.all_nil, Bool.and_true, Bool.and_eq_true] at q8
              have lx := loc_of (p := px) q8.1
              have ly := loc_of (p := py) q8.2.1
              have lz := loc_of (p := pz) q8.2.2
              have hd : i ≠ j ∧ i ≠ l ∧ j ≠ l := by
                have := q1
                simp at this
                exact ⟨this.1.1, this.1.2, this.2⟩
              have hxy : x ≠ y := fun e => hd.1 (nodup_ix HX.nd nx (by rw [e]; exact ny))
              have hxz : x ≠ z := fun e => hd.2.1 (nodup_ix HX.nd nx (by rw [e]; exact nz))
              have hyz : y ≠ z := fun e => hd.2.2 (nodup_ix HX.nd ny (by rw [e]; exact nz))
              refine PS.weak (ps_par3 HX.calm hNn (by rw [HX.hN]; exact nx) (by rw [HX.hN]; exact ny) (by rw [HX.hN]; exact nz) hd.1 hd.2.1 hd.2.2 (by rw [HX.hsc]; exact lx) (by rw [HX.hsc]; exact ly) (by rw [HX.hsc]; exact lz) hA
                (swapped_three (block_kind HX HS) (by show X.env.scope.names.lookup x = _; rw [HX.hsc]; exact lx) (by show X.env.scope.names.lookup y = _; rw [HX.hsc]; exact ly) (by show X.env.scope.names.lookup z = _; rw [HX.hsc]; exact lz) q2.1 q2.2 hxy hxz hyz q4 q5 q6) (sole noTup_swap)) fun D σ H q => par3_read q
          · cases q2
        · cases h3
      · rename_i i _ _ _ _
        split at h3
        · rename_i y sc e1 e2
          obtain ⟨py, rfl⟩ := asName_ok e1
          simp only [Bool.and_eq_true, decide_eq_true_eq, Bool.not_eq_true'] at h3
          exact set_comp HX HS tk h2 e2 h3.1.1.1 h3.1.1.2 h3.1.2 h3.2
        · cases h3
      · cases h3
  · cases h
/-- the clauses of a try -/
theorem clauses_ok {S : SS} {X : Cx} (HX : XOk Γ es C lv S X) (HS : SOk Γ es S X) : ∀ (hs : List HC) (hds : List ExceptHandler), chkHs Γ S hs hds = true → ∃ cvs, AnsOk X.K es hs cvs ∧ ClsOk X hds (clsOf X.K es hs cvs)
  | [], [], _ => ⟨[], trivial, trivial⟩
  | h :: hs, hd :: hds, hc => by
    have hc' : ((match asHd hd with
      | some (x, n, v) => glB S.sc x && plainName x && decide (Γ.cat.lookup x = some h.ks) && (match n, h.nm with
        | none, none => true
        | some y, some i => decide (S.N[i]? = some y) && decide (S.sc.names.lookup y = some NameKind.local)
        | _, _ => false) && chkF Γ S h.nm h.fe v
      | none => false) && chkHs Γ S hs hds) = true := hc
    rw [Bool.and_eq_true] at hc'
    obtain ⟨hc1, hc2⟩ := hc'
    obtain ⟨cvs, i1, i2⟩ := clauses_ok HX HS hs hds hc2
    split at hc1
    · rename_i x n v hh
      obtain ⟨p, q, r, rfl⟩ := asHd_ok hh
      simp only [Bool.and_eq_true, decide_eq_true_eq] at hc1
      obtain ⟨⟨⟨⟨k1, k2⟩, k3⟩, k4⟩, k5⟩ := hc1
      obtain ⟨cv, hcv, hans⟩ := HS.cat x h.ks k3
      obtain ⟨n1, _, _⟩ := plainName_ok k2
      refine ⟨cv :: cvs, ⟨hans, i1⟩, ⟨x, p, rfl, HX.gl k1, n1, hcv⟩, ?_, ⟨by simp, fun a oe cls d pn hz hf => ?_⟩, i2⟩
      · show NmOk X n h.nm
        cases n with
        | none =>
          cases e : h.nm with
          | none => trivial
          | some i => rw [e] at k4; cases k4
        | some y =>
          cases e : h.nm with
          | none => rw [e] at k4; cases k4
          | some i =>
            rw [e] at k4
            simp only [Bool.and_eq_true, decide_eq_true_eq] at k4
            refine ⟨by rw [HX.hN]; exact k4.1, ?_⟩
            show X.env.scope.names.lookup y = _
            rw [HX.hsc]; exact k4.2
      · exact PSs.weak (pss_one (ps_ret (chkF_ok HX.hN HX.hsc HS hz hf h.fe v k5))) fun D σ H q => q
    · cases hc1
  | [], _ :: _, hc => by cases hc
  | _ :: _, [], hc => by cases hc
theorem snds_try {b : MS} {hs : List HC} (hb : SndS Γ es C lv b) : SndS Γ es C lv (.tryx b hs) := by
  refine SndS.stm (fun S l => by unfold chkB; rfl) fun {S X W st} HX HS tk h => ?_
  unfold chkS at h
  split at h
  · rename_i l hds hst
    obtain ⟨p, rfl⟩ := asTry_ok hst
    simp only [Bool.and_eq_true] at h
    obtain ⟨⟨h1, h2⟩, h3⟩ := h
    cases hds with
    | nil => cases h2
    | cons hd hds =>
      obtain ⟨cvs, a1, a2⟩ := clauses_ok HX HS hs (hd :: hds) h3
      exact PS.weak (ps_try_cl (tb := fun W => tS X.K es W (ex C b)) HS.stk HS.frm (by rw [HX.hN]; exact HX.nd) tk (fun W pn xe tkW po => hb.b (HX.tr po) HS.tr tkW h1) a2) fun D σ H q => try_read a1 q
  · cases h
/-- every statement is sound -/
theorem snds : ∀ m : MS, SndS Γ es C lv m
  | .skip => snds_skip
  | .seq a b => snds_seq (snds a) (snds b)
  | .set _ _ => snds_set
  | .put _ _ _ => snds_put
  | .aug _ _ _ => snds_aug
  | .expr _ => snds_expr
  | .ret _ => snds_ret
  | .ite _ a b => snds_ite (snds a) (snds b)
  | .whl _ b => snds_whl (snds b)
  | .forE _ _ b => snds_for (snds b)
  | .raise _ _ => snds_raise
  | .tryx b _ => snds_try (snds b)
  | .brk => snds_brk
  | .cnt => snds_cnt
end
end Mi
end

section
set_option Elab.async false
set_option linter.all false
set_option maxRecDepth 100000
set_option autoImplicit false
set_option maxHeartbeats 1000000
/-! Sound22: the module's defs do what run says. -/
namespace Mi
open PySem PySem.Spec L2
open PyProof.Rows hiding St
section
variable {K : PySem.W.Frag} {es : List EC} {f f' : List Addr} {H H' : Hp} {μ μ' : Sto}
theorem exc_clean {c : Nat} {fs : List Val} {cls : Value} {d : Option Addr} (S : SR K f μ H) (l : Le f H f' H') (S' : SR K f' μ' H') (x : XR K es f' H' c fs cls d) : ∃ f2 μ2, cleanO μ (.exc c fs μ') = .exc c fs μ2 ∧ Le f H f2 H' ∧ SR K f2 μ2 H' ∧ XR K es f2 H' c fs cls d := by
  show ∃ f2 μ2, (if (stable μ μ' && underAll μ.length fs) = true then Out.exc c fs (μ'.take μ.length) else .exc c fs μ') = (.exc c fs μ2 : Out Val) ∧ _
  by_cases h : (stable μ μ' && underAll μ.length fs) = true
  · rw [if_pos h]
    rw [Bool.and_eq_true] at h
    refine ⟨f, _, rfl, l.back, stable_SR S l S' h.1, ?_⟩
    obtain ⟨e, dd, ps, h1, h2, h3, h4, h5, h6⟩ := x
    refine ⟨e, dd, ps, h1, h2, h3, h4, h5, fun i nm v q1 q2 => ?_⟩
    obtain ⟨y, q3, q4⟩ := h6 i nm v q1 q2
    refine ⟨y, q3, VR.shrink l.pre v y ?_ q4⟩
    rw [S.len]
    exact under_get h.2 q2
  · rw [if_neg h]
    exact ⟨f', _, rfl, l, S', x⟩
where
  under_get {n : Nat} : ∀ {vs : List Val} {i : Nat} {v : Val}, underAll n vs = true → vs[i]? = some v → v.under n = true
  | w :: vs, 0, v, h, e => by
    have h' : (w.under n && underAll n vs) = true := by rw [underAll] at h; exact h
    rw [Bool.and_eq_true] at h'
    cases (show some w = some v from e)
    exact h'.1
  | w :: vs, i + 1, v, h, e => by
    have h' : (w.under n && underAll n vs) = true := by rw [underAll] at h; exact h
    rw [Bool.and_eq_true] at h'
    exact under_get h'.2 (show vs[i]? = some v from e)
  | [], _, _, _, e => by cases e
end
/-- a def of the table -/
structure DefOk (Γ : Gam) (K : PySem.W.Frag) (mg : Str → Option Value) (x : Str) (n : Nat) (d : Fn) (f : Addr) (fd : FuncData) (ps N : List Str) (qual : Str) (st : Stmt) : Prop where
  at_ : mg x = some (.ref f)
  fn : Fun K x qual st f fd
  bi : Binds K fd ps []
  sc : FnScope N ps (defScope st)
  pn : ps.length = n
  dn : d.params = n
  sl : d.slots = N.length
  ck : chkB Γ ⟨N, defScope st, fun _ => true⟩ d.body (defBody st) = true
/-- the module -/
structure ModOk (Γ : Gam) (es : List EC) (P : Program) (w : World) (K : PySem.W.Frag) (mg : Str → Option Value) (base : Heap) (tb : Nat → Option Fn) : Prop where
  abs : ∀ x, x ∈ Γ.abs → mg x = none
  cs : ∀ x v, Γ.cs.lookup x = some v → ∃ u y, mg x = some u ∧ RelV y u ∧ ∀ f H, VR K f H v y
  defs : ∀ (k : Nat) (x : Str) (n : Nat), Γ.fns.lookup k = some (x, n) → ∃ d f fd ps N qual st, tb k = some d ∧ DefOk Γ K mg x n d f fd ps N qual st ∧ ∀ ks perm, (k, ks, perm) ∈ Γ.kws → KBinds K fd ps ks (gK ks.length perm) (gK ks.length perm)
  ex : EOk Γ es P w K mg base
  xf : ∀ e ∈ es, XfC K e.C ∧ ∀ g ∈ e.flds, PySem.W.findIn K (.ref e.C) g = some none
  cat : ∀ x ks, Γ.cat.lookup x = some ks → ∃ cv, (mg x = some cv ∨ (mg x = none ∧ bootBuiltins x = some cv ∧ x ≠ "__name__")) ∧ ∀ (c : Nat) (e : EC), eAt es c = some e → PySem.W.exmOne K (.ref e.C) cv = some (ks.contains c)
theorem enter_LR {K : PySem.W.Frag} {f : List Addr} {H : Hp} {d : Fn} {N : List Str} {args : List Val} {vs : List V} (hs : d.slots = N.length) (t : VRs K f H args vs) : LR K f H (enter d args) (L2.start N vs) := by
  have hl := t.length
  refine ⟨by unfold L2.start enter; simp [hl, hs], fun i v e => ?_⟩
  unfold enter at e
  by_cases hi : i < args.length
  · rw [List.getElem?_append_left (by simpa using hi), List.getElem?_map] at e
    cases ea : args[i]? with
    | none => rw [ea] at e; cases e
    | some w =>
      rw [ea] at e
      cases e
      obtain ⟨x, q1, q2⟩ := t.get ea
      refine ⟨x, ?_, q2⟩
      unfold L2.start
      rw [List.getElem?_append_left (by simp [hl]; exact hi), List.getElem?_map, q1]
      rfl
  · rw [List.getElem?_append_right (by simpa using hi)] at e
    have := List.mem_of_getElem? e
    rw [List.mem_replicate] at this
    cases this.2
theorem run_arity {tb : Nat → Option Fn} {n k : Nat} {d : Fn} (hd : tb k = some d) (vs : List Val) (μ : Sto) (h : vs.length ≠ d.params) : run tb n k vs μ = .fail := by
  cases n with
  | zero => rfl
  | succ n =>
    unfold run
    rw [hd]
    simp only []
    rw [if_neg h]
section
variable {Γ : Gam} {es : List EC} {P : Program} {w : World} {K : PySem.W.Frag} {mg : Str → Option Value} {base : Heap} {tb : Nat → Option Fn}
/-- one call deeper -/
theorem def_step (M : ModOk Γ es P w K mg base tb) {n : Nat} (ih : ∀ (k : Nat) (x : Str) (m : Nat), Γ.fns.lookup k = some (x, m) → ∃ f fd ps, mg x = some (.ref f) ∧ PySem.W.keepIn K (.ref f) = true ∧ Binds K fd ps [] ∧ FnOk P w K mg base (L2.CX P w) (n + 3) f fd ps (spM K es m (run tb n k)) ∧ ∀ ks perm, (k, ks, perm) ∈ Γ.kws → KBinds K fd ps ks (gK ks.length perm) (gK ks.length perm))
    {k : Nat} {x : Str} {m : Nat} {d : Fn} {f : Addr} {fd : FuncData} {ps N : List Str} {qual : Str} {st : Stmt} (hd : tb k = some d) (D : DefOk Γ K mg x m d f fd ps N qual st) : FnOk P w K mg base (L2.CX P w) (n + 4) f fd ps (spM K es m (run tb (n + 1) k)) := by
  refine D.fn.okX (k := n + 3) D.sc (fun vs H Q E h => ?_) (fun cdv A outer s H vs Q E hr h => ?_)
  · obtain ⟨f, μ, args, S, t, hl, h⟩ := h
    rw [t.length, hl, D.pn]
  · obtain ⟨fs, μ, args, S, t, hl, h⟩ := h
    have HX : XOk Γ es (run tb n) (n + 3) ⟨N, defScope st, fun _ => true⟩ (cxOf (L2.CX P w) P w K mg base N qual (defScope st) f cdv A outer s H E) :=
      { hN := rfl, nd := D.sc.nd, hsc := rfl, hfn := rfl, calm := rfl, room := hr, po := passes_of rfl, abs := M.abs, cs := M.cs, fns := ih,
        arity := fun k x n' hk vs μ hne => by
          obtain ⟨d, f, fd, ps, N, qual, st, hd, D, _⟩ := M.defs k x n' hk
          exact run_arity hd vs μ (by rw [D.dn]; exact hne) }
    have HS : SOk Γ es ⟨N, defScope st, fun _ => true⟩ (cxOf (L2.CX P w) P w K mg base N qual (defScope st) f cdv A outer s H E) :=
      { ex := M.ex, xf := M.xf, cat := M.cat, stk := rfl, frm := rfl, kind := D.sc.kind, room2 := hr.mono (by omega) }
    have tk : Takes (cxOf (L2.CX P w) P w K mg base N qual (defScope st) f cdv A outer s H E) (fun cls d _ H => E cls d H) := takes_of rfl rfl rfl rfl
    refine ⟨_, (snds d.body).b HX HS tk D.ck, fs, enter d args, μ, S, enter_LR D.sl t, ?_⟩
    have h' : Post K es (fun cls d _ H' => E cls d H') [] fs H (if args.length = d.params then cleanO μ (fin (ex (run tb n) d.body (enter d args) μ)) else .fail) Q := by
      have e : run tb (n + 1) k args μ = if args.length = d.params then cleanO μ (fin (ex (run tb n) d.body (enter d args) μ)) else .fail := by
        rw [run, hd]
      rw [← e]; exact h
    rw [if_pos (by rw [hl, D.dn])] at h'
    cases eo : ex (run tb n) d.body (enter d args) μ with
    | nx ρ1 μ1 =>
      rw [eo] at h'
      intro f' H' σ' l S' L'
      obtain ⟨f2, k1, k2, k3⟩ := clean_ok (v := .non) (x := .non) S l S' rfl
      exact h' f2 H' .non k1 k2 k3
    | ret v μ1 =>
      rw [eo] at h'
      intro f' H' x l S' r
      obtain ⟨f2, k1, k2, k3⟩ := clean_ok S l S' r
      exact h' f2 H' x k1 k2 k3
    | exc c vs ρ1 μ1 =>
      rw [eo] at h'
      intro f' H' σ' cls dd l S' L' xr
      obtain ⟨f2, μ2, k0, k1, k2, k3⟩ := exc_clean S l S' xr
      have h2 : Post K es (fun cls d _ H' => E cls d H') [] fs H (cleanO μ (.exc c vs μ1)) Q := h'
      rw [k0] at h2
      exact h2 f2 H' cls dd k1 k2 k3
    | brk _ _ => rw [eo] at h'; exact h'.elim
    | cnt _ _ => rw [eo] at h'; exact h'.elim
    | fail => rw [eo] at h'; exact h'.elim
/-- every def of the table keeps its promise -/
theorem defs_ok (M : ModOk Γ es P w K mg base tb) : ∀ (n k : Nat) (x : Str) (m : Nat), Γ.fns.lookup k = some (x, m) → ∃ f fd ps, mg x = some (.ref f) ∧ PySem.W.keepIn K (.ref f) = true ∧ Binds K fd ps [] ∧ FnOk P w K mg base (L2.CX P w) (n + 3) f fd ps (spM K es m (run tb n k)) ∧ ∀ ks perm, (k, ks, perm) ∈ Γ.kws → KBinds K fd ps ks (gK ks.length perm) (gK ks.length perm)
  | 0, k, x, m, hk => by
    obtain ⟨d, f, fd, ps, N, qual, st, _, D, hkw⟩ := M.defs k x m hk
    refine ⟨f, fd, ps, D.at_, D.fn.kp, D.bi, D.fn.okX (k := 2) D.sc (fun vs H Q E h => ?_) (fun cdv A outer s H vs Q E hr h => ?_), hkw⟩
    · obtain ⟨f, μ, args, S, t, hl, h⟩ := h
      exact h.elim
    · obtain ⟨f, μ, args, S, t, hl, h⟩ := h
      exact h.elim
  | n + 1, k, x, m, hk => by
    obtain ⟨d, f, fd, ps, N, qual, st, hd, D, hkw⟩ := M.defs k x m hk
    exact ⟨f, fd, ps, D.at_, D.fn.kp, D.bi, def_step M (defs_ok M n) hd D, hkw⟩
end
end Mi
end

section
set_option Elab.async false
set_option linter.all false
set_option maxRecDepth 100000
set_option autoImplicit false
set_option maxHeartbeats 1000000
/-! Sound23: what a law's head wants. -/
namespace Mi
open PySem PySem.Spec L2
open PyProof.Rows hiding St
theorem look_all {α β : Type} [BEq α] [LawfulBEq α] {P : α → β → Prop} : ∀ {l : List (α × β)}, (∀ p ∈ l, P p.1 p.2) → ∀ x v, l.lookup x = some v → P x v
  | (y, u) :: l, h, x, v, e => by
    rw [List.lookup_cons] at e
    split at e
    · rename_i hb
      cases e
      rw [eq_of_beq hb]
      exact h (y, u) (List.mem_cons_self ..)
    · exact look_all (fun p hp => h p (List.mem_cons_of_mem _ hp)) x v e
theorem cx_no {P : Program} {w : World} {H : Hp} {s : Shared} {e : Value} {s' : Shared} (h : L2.CX P w [] H s (fun _ _ _ => False) e s') : False := by
  obtain ⟨_, _, _, _, _, _, _, _, _, _, _, _, h⟩ := h
  exact h
/-- the law's promise, with no word of the module's classes -/
def spL (K : PySem.W.Frag) : Sp := fun vs H Q _ => ∃ (a : Addr) (ns : List Int), vs = [.ref a] ∧ ns.length ≤ 63 ∧ Fz K H a (ns.map V.int) ∧ ∀ H', Q (.bl true) H'
theorem spL_of {K : PySem.W.Frag} (H : Hp) (a : Addr) (ns : List Int) (hl : ns.length ≤ 63) (hO : Only H) (hS : SqL K H a (ns.map V.int)) : spL K [.ref a] H (fun v _ => v = .bl true) (fun _ _ _ => False) := by
  refine ⟨a, ns, rfl, hl, ?_, fun _ => rfl⟩
  rcases hS with (h | h) | h
  · exfalso
    rcases hO a with q | ⟨o, xs, q⟩
    · rw [h] at q; cases q
    · rw [h] at q; cases q
  · exact .inl h
  · exact .inr h
theorem spL_M {K : PySem.W.Frag} {es : List EC} {tb : Nat → Option Fn} {n k : Nat} (plain : ∀ ns : List Int, ns.length ≤ 63 → ∃ μ', run tb n k [.scr ns] [] = .ok (.bl true) μ') : ∀ vs H Q E, spL K vs H Q E → spM K es 1 (run tb n k) vs H Q E := by
  rintro vs H Q E ⟨a, ns, rfl, hl, hF, q⟩
  obtain ⟨μ', e⟩ := plain ns hl
  refine ⟨[], [], [.scr ns], ⟨rfl, List.nodup_nil, fun n c a h => by cases h⟩, ⟨.ref a, [], rfl, ⟨a, rfl, hF⟩, rfl⟩, rfl, ?_⟩
  rw [e]
  intro f' H' x _ _ r
  rw [show x = .bl true from r]
  exact q H'
theorem eAt_no {es : List EC} {c : Nat} {e : EC} (h : eAt es c = some e) : e.no = c := by
  have := List.find?_some h
  exact eq_of_beq this
theorem cat_of {K : PySem.W.Frag} {es : List EC} {cv : Value} {ks : List Nat} (h : ∀ e ∈ es, PySem.W.exmOne K (.ref e.C) cv = some (ks.contains e.no)) : ∀ (c : Nat) (e : EC), eAt es c = some e → PySem.W.exmOne K (.ref e.C) cv = some (ks.contains c) := fun c e q => by
  rw [← eAt_no q]; exact h e (eAt_mem q)
theorem all_two {α : Type} {P : α → Prop} {a : α} {l : List α} (h : P a) (t : ∀ x ∈ l, P x) : ∀ x ∈ a :: l, P x := fun x hx => by
  rcases List.mem_cons.mp hx with e | e
  · rw [e]; exact h
  · exact t x e
theorem all_nil {α : Type} {P : α → Prop} : ∀ x ∈ ([] : List α), P x := fun x hx => by cases hx
/-! ### the module's constants -/
def CsOk (K : PySem.W.Frag) (mg : Str → Option Value) (x : Str) (v : Val) : Prop := ∃ u y, mg x = some u ∧ RelV y u ∧ ∀ f H, VR K f H v y
theorem cs_int {K : PySem.W.Frag} {mg : Str → Option Value} {x : Str} {i : Int} {t : Tok} (h : mg x = some (.int i t)) : CsOk K mg x (.int i) := ⟨_, .int i, h, ⟨t, rfl⟩, fun _ _ => rfl⟩
/-! ### keywords -/
theorem kws_of {Γ : Gam} {k : Nat} {l : List (List Str × List Nat)} {Pr : List Str → List Nat → Prop} (he : (Γ.kws.filter (fun q => q.1 == k)).map (·.2) = l) (h : ∀ q ∈ l, Pr q.1 q.2) : ∀ ks perm, (k, ks, perm) ∈ Γ.kws → Pr ks perm := fun ks perm hm => by
  refine h (ks, perm) ?_
  rw [← he]
  exact List.mem_map.mpr ⟨(k, ks, perm), List.mem_filter.mpr ⟨hm, by simp⟩, rfl⟩
theorem gK_len {α : Type} {m n : Nat} {perm : List Nat} {us ws : List α} (h : (gK m perm us ws).length = n + 1) : us.length = 0 ∧ ws.length = m := by
  unfold gK at h
  split at h
  · assumption
  · cases h
theorem gK_rel {m : Nat} {perm : List Nat} {vs : List V} {us : List Value} {zs : List V} {ws : List Value} (r : Vals vs us) (rz : Vals zs ws) : Vals (gK m perm vs zs) (gK m perm us ws) := by
  unfold gK
  rw [r.length, rz.length]
  split
  · exact Vals.pick rz perm
  · exact .nil
/-- the statement of a class -/
def mthOf (st : Stmt) (j : Nat) : Stmt := match st with
  | .ClassDef _ _ _ body _ _ _ _ _ _ _ => body.getD j (.Pass ⟨0, 0, 0, 0⟩)
  | _ => .Pass ⟨0, 0, 0, 0⟩
end Mi
end

section
set_option linter.all false
namespace Mi
/-- is_whole -/
def F73 : Fn := ⟨1, 1,
  (.seq (.ret (.and (.op1 (.isi [.int]) (.var 0)) (.op1 .not (.op1 (.isi [.bool]) (.var 0)))))
  .skip)⟩

/-- is_number -/
def F74 : Fn := ⟨1, 1,
  (.seq (.ret (.and (.call 73 (.cons (.var 0) .nil)) (.op2 .ge (.var 0) (.cst (.int 0)))))
  .skip)⟩

/-- is_below -/
def F75 : Fn := ⟨2, 2,
  (.seq (.ret (.and (.call 74 (.cons (.var 0) .nil)) (.op2 .lt (.var 0) (.var 1))))
  .skip)⟩

/-- is_row -/
def F76 : Fn := ⟨2, 2,
  (.seq (.ret (.and (.op1 (.isi [.tuple]) (.var 0)) (.op2 .eq (.op1 .len (.var 0)) (.var 1))))
  .skip)⟩

def B126_1 : MS := (.seq (.set (.nm 1) (.op2 .mul (.var 1) (.var 2)))
  .skip)
/-- count_of -/
def F126 : Fn := ⟨1, 3,
  (.seq (.set (.nm 1) (.cst (.int 1)))
  (.seq (.forE (.nm 2) (.var 0) B126_1)
  (.seq (.ret (.var 1))
  .skip)))⟩

def B127_1 : MS := (.seq (.expr (.op2 .extend (.var 3) (.comp (.nm 5) (.rng (.var 2)) (.cst (.bl true)) (.op2 .add (.var 4) (.tupE (.cons (.var 5) .nil))))))
  .skip)
def B127_2 : MS := (.seq (.set (.nm 3) (.lstE .nil))
  (.seq (.forE (.nm 4) (.var 1) B127_1)
  (.seq (.set (.nm 1) (.var 3))
  .skip)))
/-- records_of -/
def F127 : Fn := ⟨1, 6,
  (.seq (.set (.nm 1) (.lstE (.cons (.tupE .nil) .nil)))
  (.seq (.forE (.nm 2) (.var 0) B127_2)
  (.seq (.ret (.op1 .toTup (.var 1)))
  .skip)))⟩

/-- is_record -/
def F247 : Fn := ⟨2, 3,
  (.seq (.ite (.op1 .not (.call 76 (.cons (.var 1) (.cons (.op1 .len (.var 0)) .nil))))
  (.seq (.ret (.cst (.bl false)))
  .skip)
  .skip)
  (.seq (.ret (.op2 .eq (.op1 .len (.comp (.nm 2) (.rng (.op1 .len (.var 0))) (.op1 .not (.call 75 (.cons (.op2 .idx (.var 1) (.var 2)) (.cons (.op2 .idx (.var 0) (.var 2)) .nil)))) (.var 2))) (.cst (.int 0))))
  .skip))⟩

/-- look_for_record -/
def F248 : Fn := ⟨2, 2,
  (.seq (.ite (.op1 .not (.call 247 (.cons (.var 0) (.cons (.var 1) .nil))))
  (.seq (.raise 4 (.cons (.cst (.str [114, 101, 99, 111, 114, 100])) .nil))
  .skip)
  .skip)
  .skip)⟩

def B128_1 : MS := (.seq (.set (.nm 2) (.op2 .add (.op2 .mul (.var 2) (.op2 .idx (.var 0) (.var 3))) (.op2 .idx (.var 1) (.var 3))))
  .skip)
/-- place_in -/
def F128 : Fn := ⟨2, 4,
  (.seq (.set (.nm 2) (.cst (.int 0)))
  (.seq (.forE (.nm 3) (.rng (.op1 .len (.var 0))) B128_1)
  (.seq (.ret (.var 2))
  .skip)))⟩

def B261_1 : MS := (.seq (.ite (.op1 .not (.call 247 (.cons (.var 0) (.cons (.op2 .idx (.var 1) (.var 2)) .nil))))
  (.seq (.raise 0 (.cons (.var 2) (.cons (.cst (.str [114, 101, 99, 111, 114, 100])) .nil)))
  .skip)
  .skip)
  .skip)
/-- check_change -/
def F261 : Fn := ⟨2, 3,
  (.seq (.ite (.or (.op1 .not (.op1 (.isi [.tuple]) (.var 1))) (.op2 .ne (.op1 .len (.var 1)) (.call 126 (.cons (.var 0) .nil))))
  (.seq (.raise 0 (.cons (.op1 .neg (.cst (.int 1))) (.cons (.cst (.str [115, 104, 97, 112, 101])) .nil)))
  .skip)
  .skip)
  (.seq (.forE (.nm 2) (.rng (.op1 .len (.var 1))) B261_1)
  (.seq (.ret (.call 262 (.cons (.var 0) (.cons (.var 1) .nil))))
  .skip)))⟩

/-- moved_count -/
def F262 : Fn := ⟨2, 4,
  (.seq (.set (.nm 2) (.call 127 (.cons (.var 0) .nil)))
  (.seq (.ret (.op1 .len (.comp (.nm 3) (.rng (.op1 .len (.var 2))) (.op2 .ne (.op2 .idx (.var 1) (.var 3)) (.op2 .idx (.var 2) (.var 3))) (.var 3))))
  .skip))⟩

/-- is_change -/
def F263 : Fn := ⟨2, 2,
  (.seq (.tryx (.seq (.expr (.call 261 (.cons (.var 0) (.cons (.var 1) .nil))))
  .skip)
  [⟨[0], none, (.cst (.bl false))⟩])
  (.seq (.ret (.cst (.bl true)))
  .skip))⟩

/-- image -/
def F264 : Fn := ⟨3, 3,
  (.seq (.ret (.op2 .idx (.var 1) (.call 128 (.cons (.var 0) (.cons (.var 2) .nil)))))
  .skip)⟩

/-- image_of -/
def F265 : Fn := ⟨3, 3,
  (.seq (.expr (.call 248 (.cons (.var 0) (.cons (.var 2) .nil))))
  (.seq (.ret (.call 264 (.cons (.var 0) (.cons (.var 1) (.cons (.var 2) .nil)))))
  .skip))⟩

/-- same_change -/
def F266 : Fn := ⟨1, 1,
  (.seq (.ret (.call 127 (.cons (.var 0) .nil)))
  .skip)⟩

def B267_1 : MS := (.seq (.expr (.op2 .append (.var 1) (.op2 .mod (.op1 .int (.var 4)) (.cst (.int 149)))))
  (.seq (.set (.nm 4) (.op2 .fdiv (.var 4) (.cst (.int 149))))
  .skip))
def B267_2 : MS := (.seq (.set (.nm 4) (.op2 .mod (.op1 .abs (.op1 .int (.var 3))) (.op2 .shl (.cst (.int 1)) (.cst (.int 1800)))))
  (.seq (.set (.nm 2) (.op2 .mod (.op1 .int (.op2 .add (.op2 .add (.op2 .mul (.var 2) (.cst (.int 2089))) (.op2 .mul (.op2 .mod (.op1 .int (.var 4)) (.cst (.int 998897))) (.cst (.int 3)))) (.cst (.int 71)))) (.cst (.int 2147470379))))
  (.seq (.whl (.op2 .gt (.var 4) (.cst (.int 0))) B267_1)
  .skip)))
/-- _law_till -/
def F267 : Fn := ⟨1, 5,
  (.seq (.set (.nm 1) (.lstE .nil))
  (.seq (.set (.nm 2) (.cst (.int 41011)))
  (.seq (.forE (.nm 3) (.op2 .slT (.var 0) (.cst (.int 58))) B267_2)
  (.seq (.ret (.lstE (.cons (.var 1) (.cons (.cst (.int 0)) (.cons (.var 2) (.cons (.op2 .mod (.op1 .int (.op2 .fdiv (.var 2) (.cst (.int 7)))) (.cst (.int 12))) .nil))))))
  .skip))))⟩

/-- _law_coin -/
def F268 : Fn := ⟨3, 4,
  (.seq (.ite (.op2 .lt (.var 2) (.cst (.int 2)))
  (.seq (.ret (.cst (.int 0)))
  .skip)
  .skip)
  (.seq (.put (.var 0) (.cst (.int 1)) (.op2 .add (.op2 .idx (.var 0) (.cst (.int 1))) (.cst (.int 1))))
  (.seq (.put (.var 0) (.cst (.int 2)) (.op2 .mod (.op1 .int (.op2 .add (.op2 .add (.op2 .mul (.op2 .idx (.var 0) (.cst (.int 2))) (.cst (.int 29009))) (.op2 .mul (.op2 .idx (.var 0) (.cst (.int 1))) (.cst (.int 1627)))) (.cst (.int 3)))) (.cst (.int 2147470379))))
  (.seq (.set (.nm 3) (.op1 .int (.op2 .fdiv (.op2 .idx (.var 0) (.cst (.int 2))) (.cst (.int 32)))))
  (.seq (.ite (.op2 .le (.op2 .idx (.var 0) (.cst (.int 1))) (.op1 .len (.op2 .idx (.var 0) (.cst (.int 0)))))
  (.seq (.set (.nm 3) (.op2 .add (.var 3) (.op1 .int (.op2 .idx (.op2 .idx (.var 0) (.cst (.int 0))) (.op2 .sub (.op2 .idx (.var 0) (.cst (.int 1))) (.cst (.int 1)))))))
  .skip)
  (.seq (.ite (.and (.op2 .lt (.op2 .idx (.var 0) (.cst (.int 3))) (.cst (.int 3))) (.op2 .eq (.op2 .mod (.op1 .int (.op2 .add (.var 1) (.op2 .idx (.var 0) (.cst (.int 3))))) (.cst (.int 4))) (.cst (.int 0))))
  (.seq (.set (.nm 3) (.op2 .idx (.tupE (.cons (.cst (.int 0)) (.cons (.op2 .sub (.var 2) (.cst (.int 1))) (.cons (.var 1) .nil)))) (.op2 .idx (.var 0) (.cst (.int 3)))))
  .skip)
  .skip)
  .skip))
  (.seq (.ret (.op2 .mod (.op1 .int (.var 3)) (.var 2)))
  .skip))))))⟩

def B238_1 : MS := (.seq (.ite (.op1 .not (.call 238 (.cons (.op2 .idx (.var 0) (.var 2)) (.cons (.op2 .idx (.var 1) (.var 2)) .nil))))
  (.seq (.ret (.cst (.bl false)))
  .skip)
  .skip)
  .skip)
/-- _law_same -/
def F238 : Fn := ⟨2, 3,
  (.seq (.ite (.or (.op1 .isN (.var 0)) (.op1 .isN (.var 1)))
  (.seq (.ret (.and (.op1 .isN (.var 0)) (.op1 .isN (.var 1))))
  .skip)
  .skip)
  (.seq (.ite (.or (.op1 (.isi [.bool]) (.var 0)) (.op1 (.isi [.bool]) (.var 1)))
  (.seq (.ret (.and (.op1 (.isi [.bool]) (.var 0)) (.and (.op1 (.isi [.bool]) (.var 1)) (.op2 .eq (.var 0) (.var 1)))))
  .skip)
  .skip)
  (.seq (.ite (.or (.op1 (.isi [.int]) (.var 0)) (.op1 (.isi [.int]) (.var 1)))
  (.seq (.ret (.and (.op1 (.isi [.int]) (.var 0)) (.and (.op1 (.isi [.int]) (.var 1)) (.op2 .eq (.var 0) (.var 1)))))
  .skip)
  .skip)
  (.seq (.ite (.or (.op1 (.isi [.str]) (.var 0)) (.op1 (.isi [.str]) (.var 1)))
  (.seq (.ret (.and (.op1 (.isi [.str]) (.var 0)) (.and (.op1 (.isi [.str]) (.var 1)) (.op2 .eq (.var 0) (.var 1)))))
  .skip)
  .skip)
  (.seq (.ite (.or (.op1 .not (.op1 (.isi [.tuple]) (.var 0))) (.or (.op1 .not (.op1 (.isi [.tuple]) (.var 1))) (.op2 .ne (.op1 .len (.var 0)) (.op1 .len (.var 1)))))
  (.seq (.ret (.cst (.bl false)))
  .skip)
  .skip)
  (.seq (.forE (.nm 2) (.rng (.op1 .len (.var 0))) B238_1)
  (.seq (.ret (.cst (.bl true)))
  .skip)))))))⟩

def B239_1 : MS := (.seq (.set (.nm 8) (.op2 .min2 (.cst (.int 12)) (.var 5)))
  (.seq (.set (.nm 9) (.op2 .add (.cst (.int 1)) (.call 268 (.cons (.var 0) (.cons (.cst (.int 3)) (.cons (.var 8) .nil))))))
  (.seq (.ite (.op2 .eq (.var 3) (.cst (.int 0)))
  (.seq (.set (.nm 9) (.op2 .min2 (.cst (.int 2)) (.var 8)))
  .skip)
  (.seq (.ite (.and (.op2 .eq (.var 3) (.cst (.int 1))) (.op2 .eq (.call 268 (.cons (.var 0) (.cons (.cst (.int 4)) (.cons (.cst (.int 2)) .nil)))) (.cst (.int 0))))
  (.seq (.set (.nm 9) (.cst (.int 1)))
  .skip)
  (.seq (.ite (.op2 .eq (.var 3) (.cst (.int 2)))
  (.seq (.set (.nm 9) (.op2 .min2 (.op2 .add (.cst (.int 1)) (.call 268 (.cons (.var 0) (.cons (.cst (.int 5)) (.cons (.cst (.int 3)) .nil))))) (.var 8)))
  .skip)
  .skip)
  .skip))
  .skip))
  (.seq (.expr (.op2 .append (.var 4) (.var 9)))
  (.seq (.set (.nm 5) (.op2 .fdiv (.var 5) (.var 9)))
  .skip)))))
/-- _law_frame -/
def F239 : Fn := ⟨2, 10,
  (.seq (.set (.nm 2) (.op2 .add (.cst (.int 1)) (.call 268 (.cons (.var 0) (.cons (.cst (.int 1)) (.cons (.cst (.int 6)) .nil))))))
  (.seq (.set (.nm 3) (.call 268 (.cons (.var 0) (.cons (.cst (.int 2)) (.cons (.cst (.int 5)) .nil)))))
  (.seq (.set (.nm 4) (.lstE .nil))
  (.seq (.set (.nm 5) (.var 1))
  (.seq (.forE (.nm 6) (.rng (.var 2)) B239_1)
  (.seq (.set (.nm 7) (.call 268 (.cons (.var 0) (.cons (.cst (.int 6)) (.cons (.var 2) .nil)))))
  (.seq (.ret (.op1 .toTup (.op2 .add (.op2 .slF (.var 4) (.var 7)) (.op2 .slT (.var 4) (.var 7)))))
  .skip)))))))⟩

/-- _law_great -/
def F253 : Fn := ⟨1, 2,
  (.seq (.set (.nm 1) (.lstE (.cons (.tupE (.cons (.cst (.int 5)) (.cons (.cst (.int 10)) (.cons (.cst (.int 10)) .nil)))) (.cons (.tupE (.cons (.cst (.int 10)) (.cons (.cst (.int 5)) (.cons (.cst (.int 10)) .nil)))) (.cons (.tupE (.cons (.cst (.int 2)) (.cons (.cst (.int 2)) (.cons (.cst (.int 5)) (.cons (.cst (.int 5)) (.cons (.cst (.int 5)) .nil)))))) (.cons (.tupE (.cons (.cst (.int 1)) (.cons (.cst (.int 4)) (.cons (.cst (.int 5)) (.cons (.cst (.int 5)) (.cons (.cst (.int 5)) (.cons (.cst (.int 1)) .nil))))))) (.cons (.tupE (.cons (.cst (.int 9)) (.cons (.cst (.int 5)) (.cons (.cst (.int 11)) .nil)))) (.cons (.tupE (.cons (.cst (.int 4)) (.cons (.cst (.int 11)) (.cons (.cst (.int 11)) .nil)))) (.cons (.tupE (.cons (.cst (.int 2)) (.cons (.cst (.int 2)) (.cons (.cst (.int 2)) (.cons (.cst (.int 2)) (.cons (.cst (.int 5)) (.cons (.cst (.int 6)) .nil))))))) (.cons (.tupE (.cons (.cst (.int 12)) (.cons (.cst (.int 10)) (.cons (.cst (.int 4)) .nil)))) .nil))))))))))
  (.seq (.ret (.op2 .idx (.var 1) (.call 268 (.cons (.var 0) (.cons (.cst (.int 7)) (.cons (.cst (.int 8)) .nil))))))
  .skip))⟩

def B240_1 : MS := (.seq (.expr (.op2 .extend (.var 3) (.comp (.nm 5) (.rng (.var 2)) (.cst (.bl true)) (.op2 .add (.var 4) (.tupE (.cons (.var 5) .nil))))))
  .skip)
def B240_2 : MS := (.seq (.set (.nm 3) (.lstE .nil))
  (.seq (.forE (.nm 4) (.var 1) B240_1)
  (.seq (.set (.nm 1) (.var 3))
  .skip)))
/-- _law_records -/
def F240 : Fn := ⟨1, 6,
  (.seq (.set (.nm 1) (.lstE (.cons (.tupE .nil) .nil)))
  (.seq (.forE (.nm 2) (.var 0) B240_2)
  (.seq (.ret (.var 1))
  .skip)))⟩

def B254_1 : MS := (.seq (.ite (.or (.op1 .not (.op1 (.isi [.int]) (.op2 .idx (.var 1) (.var 2)))) (.or (.op1 (.isi [.bool]) (.op2 .idx (.var 1) (.var 2))) (.or (.op2 .lt (.op2 .idx (.var 1) (.var 2)) (.cst (.int 0))) (.op2 .ge (.op2 .idx (.var 1) (.var 2)) (.op2 .idx (.var 0) (.var 2))))))
  (.seq (.ret (.cst (.bl false)))
  .skip)
  .skip)
  .skip)
/-- _law_is_record -/
def F254 : Fn := ⟨2, 3,
  (.seq (.ite (.or (.op1 .not (.op1 (.isi [.tuple]) (.var 1))) (.op2 .ne (.op1 .len (.var 1)) (.op1 .len (.var 0))))
  (.seq (.ret (.cst (.bl false)))
  .skip)
  .skip)
  (.seq (.forE (.nm 2) (.rng (.op1 .len (.var 0))) B254_1)
  (.seq (.ret (.cst (.bl true)))
  .skip)))⟩

def B255_1 : MS := (.seq (.expr (.op2 .append (.var 4) (.op2 .add (.op2 .add (.op2 .slT (.var 2) (.var 3)) (.tupE (.cons (.var 5) .nil))) (.op2 .slF (.var 2) (.op2 .add (.var 3) (.cst (.int 1)))))))
  .skip)
/-- _law_no_records -/
def F255 : Fn := ⟨3, 6,
  (.seq (.set (.nm 3) (.call 268 (.cons (.var 0) (.cons (.cst (.int 30)) (.cons (.op1 .len (.var 1)) .nil)))))
  (.seq (.set (.nm 4) (.lstE (.cons (.op1 .toLst (.var 2)) (.cons (.op2 .add (.var 2) (.tupE (.cons (.cst (.int 0)) .nil))) (.cons (.op2 .slT (.var 2) (.op1 .neg (.cst (.int 1)))) (.cons (.op2 .slF (.var 2) (.cst (.int 1))) (.cons (.cst .non) (.cons (.cst (.int 0)) (.cons (.cst (.str [114, 101, 99, 111, 114, 100])) (.cons (.tupE .nil) (.cons (.tupE (.cons (.var 2) .nil)) (.cons (.var 1) .nil))))))))))))
  (.seq (.forE (.nm 5) (.tupE (.cons (.op2 .idx (.var 1) (.var 3)) (.cons (.op2 .sub (.op2 .idx (.var 1) (.var 3)) (.cst (.int 1))) (.cons (.op1 .neg (.cst (.int 1))) (.cons (.cst (.int 0)) (.cons (.cst (.int 1)) (.cons (.cst (.bl true)) (.cons (.cst (.bl false)) (.cons (.cst .non) (.cons (.cst (.str [48])) (.cons (.tupE (.cons (.cst (.int 0)) .nil)) (.cons (.op2 .pow (.cst (.int 10)) (.cst (.int 18))) (.cons (.cst (.int 12)) .nil))))))))))))) B255_1)
  (.seq (.ret (.var 4))
  .skip))))⟩

/-- _law_change -/
def F269 : Fn := ⟨3, 13,
  (.seq (.set (.nm 3) (.op1 .len (.var 2)))
  (.seq (.set (.nm 4) (.call 268 (.cons (.var 0) (.cons (.cst (.int 40)) (.cons (.cst (.int 9)) .nil)))))
  (.seq (.set (.nm 5) (.comp (.nm 10) (.rng (.var 3)) (.cst (.bl true)) (.var 10)))
  (.seq (.ite (.op2 .eq (.var 4) (.cst (.int 1)))
  (.seq (.set (.nm 6) (.op2 .add (.cst (.int 1)) (.call 268 (.cons (.var 0) (.cons (.cst (.int 41)) (.cons (.var 3) .nil))))))
  (.seq (.set (.nm 5) (.comp (.nm 10) (.rng (.var 3)) (.cst (.bl true)) (.op2 .mod (.op1 .int (.op2 .add (.var 10) (.var 6))) (.var 3))))
  .skip))
  (.seq (.ite (.op2 .eq (.var 4) (.cst (.int 2)))
  (.seq (.set (.nm 5) (.op2 .mul (.lstE (.cons (.call 268 (.cons (.var 0) (.cons (.cst (.int 42)) (.cons (.var 3) .nil)))) .nil)) (.var 3)))
  .skip)
  (.seq (.ite (.op2 .eq (.var 4) (.cst (.int 3)))
  (.seq (.set (.nm 11) (.lstE (.cons (.call 268 (.cons (.var 0) (.cons (.cst (.int 43)) (.cons (.var 3) .nil)))) (.cons (.call 268 (.cons (.var 0) (.cons (.cst (.int 44)) (.cons (.var 3) .nil)))) (.cons (.op2 .sub (.var 3) (.cst (.int 1))) .nil)))))
  (.seq (.set (.nm 5) (.comp (.nm 10) (.rng (.var 3)) (.cst (.bl true)) (.op2 .idx (.var 11) (.call 268 (.cons (.var 0) (.cons (.cst (.int 45)) (.cons (.cst (.int 3)) .nil)))))))
  .skip))
  (.seq (.ite (.or (.op2 .eq (.var 4) (.cst (.int 4))) (.op2 .eq (.var 4) (.cst (.int 5))))
  (.seq (.set (.nm 12) (.comp (.nm 10) (.rng (.var 3)) (.cst (.bl true)) (.var 10)))
  (.seq (.set (.nm 5) (.comp (.nm 10) (.rng (.var 3)) (.cst (.bl true)) (.op2 .popAt (.var 12) (.call 268 (.cons (.var 0) (.cons (.cst (.int 46)) (.cons (.op1 .len (.var 12)) .nil)))))))
  .skip))
  (.seq (.ite (.op2 .eq (.var 4) (.cst (.int 6)))
  (.seq (.set (.nm 5) (.comp (.nm 10) (.rng (.var 3)) (.cst (.bl true)) (.call 268 (.cons (.var 0) (.cons (.cst (.int 47)) (.cons (.var 3) .nil))))))
  .skip)
  (.seq (.ite (.op2 .eq (.var 4) (.cst (.int 7)))
  (.seq (.set (.nm 5) (.comp (.nm 10) (.rng (.var 3)) (.cst (.bl true)) (.op2 .sub (.op2 .sub (.var 3) (.cst (.int 1))) (.var 10))))
  .skip)
  .skip)
  .skip))
  .skip))
  .skip))
  .skip))
  .skip))
  (.seq (.ite (.or (.op2 .eq (.var 4) (.cst (.int 5))) (.op2 .eq (.var 4) (.cst (.int 8))))
  (.seq (.set (.nm 7) (.call 268 (.cons (.var 0) (.cons (.cst (.int 48)) (.cons (.var 3) .nil)))))
  (.seq (.set (.nm 8) (.call 268 (.cons (.var 0) (.cons (.cst (.int 49)) (.cons (.var 3) .nil)))))
  (.seq (.set (.nm 9) (.op2 .idx (.var 5) (.var 7)))
  (.seq (.put (.var 5) (.var 7) (.op2 .idx (.var 5) (.var 8)))
  (.seq (.ite (.op2 .eq (.call 268 (.cons (.var 0) (.cons (.cst (.int 50)) (.cons (.cst (.int 2)) .nil)))) (.cst (.int 0)))
  (.seq (.put (.var 5) (.var 8) (.var 9))
  .skip)
  .skip)
  .skip)))))
  .skip)
  (.seq (.ret (.op1 .toTup (.comp (.nm 10) (.var 5) (.cst (.bl true)) (.op2 .idx (.var 2) (.var 10)))))
  .skip))))))⟩

def B270_1 : MS := (.seq (.ite (.op1 .not (.call 254 (.cons (.var 0) (.cons (.op2 .idx (.var 2) (.var 3)) .nil))))
  (.seq (.ret (.tupE (.cons (.cst (.str [114, 97, 105, 115, 101, 100])) (.cons (.var 3) (.cons (.cst (.str [114, 101, 99, 111, 114, 100])) .nil)))))
  .skip)
  .skip)
  .skip)
/-- _law_fault -/
def F270 : Fn := ⟨3, 5,
  (.seq (.ite (.or (.op1 .not (.op1 (.isi [.tuple]) (.var 2))) (.op2 .ne (.op1 .len (.var 2)) (.op1 .len (.var 1))))
  (.seq (.ret (.tupE (.cons (.cst (.str [114, 97, 105, 115, 101, 100])) (.cons (.op1 .neg (.cst (.int 1))) (.cons (.cst (.str [115, 104, 97, 112, 101])) .nil)))))
  .skip)
  .skip)
  (.seq (.forE (.nm 3) (.rng (.op1 .len (.var 2))) B270_1)
  (.seq (.ret (.tupE (.cons (.cst (.str [116, 111, 108, 100])) (.cons (.op1 .len (.comp (.nm 4) (.rng (.op1 .len (.var 1))) (.op2 .ne (.op2 .idx (.var 2) (.var 4)) (.op2 .idx (.var 1) (.var 4))) (.var 4))) .nil))))
  .skip)))⟩

/-- _law_heard -/
def F271 : Fn := ⟨2, 4,
  (.seq (.tryx (.seq (.set (.nm 3) (.call 261 (.cons (.var 0) (.cons (.var 1) .nil))))
  .skip)
  [⟨[0], some 2, (.tup (.cons (.cst (.str [114, 97, 105, 115, 101, 100])) (.cons (.fld [(0, 0)]) (.cons (.fld [(0, 1)]) .nil))))⟩])
  (.seq (.ret (.tupE (.cons (.cst (.str [116, 111, 108, 100])) (.cons (.var 3) .nil))))
  .skip))⟩

/-- _law_image -/
def F272 : Fn := ⟨3, 5,
  (.seq (.tryx (.seq (.set (.nm 4) (.call 265 (.cons (.var 0) (.cons (.var 1) (.cons (.var 2) .nil)))))
  .skip)
  [⟨[4], some 3, (.tup (.cons (.cst (.str [114, 97, 105, 115, 101, 100])) (.cons (.fld [(4, 0)]) .nil)))⟩])
  (.seq (.ret (.tupE (.cons (.cst (.str [116, 111, 108, 100])) (.cons (.var 4) .nil))))
  .skip))⟩

/-- _law_asked -/
def F273 : Fn := ⟨3, 4,
  (.seq (.set (.nm 3) (.call 270 (.cons (.var 0) (.cons (.var 1) (.cons (.var 2) .nil)))))
  (.seq (.ret (.and (.call 238 (.cons (.var 3) (.cons (.call 271 (.cons (.var 0) (.cons (.var 2) .nil))) .nil))) (.call 238 (.cons (.op2 .eq (.op2 .idx (.var 3) (.cst (.int 0))) (.cst (.str [116, 111, 108, 100]))) (.cons (.call 263 (.cons (.var 0) (.cons (.var 2) .nil))) .nil)))))
  .skip))⟩

def B274_1 : MS := (.seq (.expr (.op2 .append (.var 3) (.op2 .add (.op2 .add (.op2 .slT (.var 2) (.var 4)) (.tupE (.cons (.var 7) .nil))) (.op2 .slF (.var 2) (.op2 .add (.var 4) (.cst (.int 1)))))))
  .skip)
/-- _law_bent -/
def F274 : Fn := ⟨3, 9,
  (.seq (.set (.nm 3) (.lstE (.cons (.op1 .toLst (.var 2)) (.cons (.op2 .add (.var 2) (.op2 .slT (.var 2) (.cst (.int 1)))) (.cons (.op2 .slT (.var 2) (.op1 .neg (.cst (.int 1)))) (.cons (.tupE .nil) (.cons (.cst .non) (.cons (.tupE (.cons (.var 2) .nil)) (.cons (.op1 .len (.var 2)) (.cons (.cst (.str [99, 104, 97, 110, 103, 101])) .nil))))))))))
  (.seq (.set (.nm 4) (.call 268 (.cons (.var 0) (.cons (.cst (.int 10)) (.cons (.op1 .len (.var 2)) .nil)))))
  (.seq (.set (.nm 5) (.call 268 (.cons (.var 0) (.cons (.cst (.int 11)) (.cons (.op1 .len (.var 2)) .nil)))))
  (.seq (.set (.nm 6) (.call 255 (.cons (.var 0) (.cons (.var 1) (.cons (.op2 .idx (.var 2) (.var 4)) .nil)))))
  (.seq (.forE (.nm 7) (.var 6) B274_1)
  (.seq (.set (.nm 8) (.op2 .add (.op2 .add (.op2 .slT (.var 2) (.var 5)) (.tupE (.cons (.op2 .idx (.var 6) (.call 268 (.cons (.var 0) (.cons (.cst (.int 12)) (.cons (.op1 .len (.var 6)) .nil))))) .nil))) (.op2 .slF (.var 2) (.op2 .add (.var 5) (.cst (.int 1))))))
  (.seq (.expr (.op2 .append (.var 3) (.op2 .add (.op2 .add (.op2 .slT (.var 8) (.var 4)) (.tupE (.cons (.op2 .idx (.var 6) (.call 268 (.cons (.var 0) (.cons (.cst (.int 13)) (.cons (.op1 .len (.var 6)) .nil))))) .nil))) (.op2 .slF (.var 8) (.op2 .add (.var 4) (.cst (.int 1)))))))
  (.seq (.expr (.op2 .append (.var 3) (.op2 .add (.op2 .slT (.var 2) (.op1 .neg (.cst (.int 1)))) (.tupE (.cons (.op1 .toLst (.op2 .idx (.var 2) (.op1 .neg (.cst (.int 1))))) .nil)))))
  (.seq (.ret (.var 3))
  .skip)))))))))⟩

def B275_1 : MS := (.seq (.set (.nm 10) (.tupE (.cons (.cst (.str [114, 97, 105, 115, 101, 100])) (.cons (.cst (.str [114, 101, 99, 111, 114, 100])) .nil))))
  (.seq (.ite (.call 254 (.cons (.var 1) (.cons (.var 7) .nil)))
  (.seq (.set (.nm 10) (.tupE (.cons (.cst (.str [116, 111, 108, 100])) (.cons (.op2 .idx (.var 6) (.op2 .index (.var 2) (.var 7))) .nil))))
  .skip)
  .skip)
  (.seq (.ite (.op1 .not (.call 238 (.cons (.var 10) (.cons (.call 272 (.cons (.var 1) (.cons (.var 6) (.cons (.var 7) .nil)))) .nil))))
  (.seq (.ret (.cst (.bl false)))
  .skip)
  .skip)
  .skip)))
def B275_2 : MS := (.seq (.ite (.op1 .not (.call 238 (.cons (.tupE (.cons (.cst (.str [116, 111, 108, 100])) (.cons (.op2 .idx (.var 6) (.var 8)) .nil))) (.cons (.call 272 (.cons (.var 1) (.cons (.var 6) (.cons (.op2 .idx (.var 2) (.var 8)) .nil)))) .nil))))
  (.seq (.ret (.cst (.bl false)))
  .skip)
  .skip)
  .skip)
def B275_3 : MS := (.seq (.ite (.op1 .not (.call 273 (.cons (.var 1) (.cons (.var 2) (.cons (.var 7) .nil)))))
  (.seq (.ret (.cst (.bl false)))
  .skip)
  .skip)
  .skip)
def B275_4 : MS := (.seq (.set (.nm 6) (.call 269 (.cons (.var 0) (.cons (.var 1) (.cons (.var 2) .nil)))))
  (.seq (.ite (.or (.op2 .ne (.op2 .idx (.call 270 (.cons (.var 1) (.cons (.var 2) (.cons (.var 6) .nil)))) (.cst (.int 0))) (.cst (.str [116, 111, 108, 100]))) (.op1 .not (.call 273 (.cons (.var 1) (.cons (.var 2) (.cons (.var 6) .nil))))))
  (.seq (.ret (.cst (.bl false)))
  .skip)
  .skip)
  (.seq (.forE (.nm 7) (.call 274 (.cons (.var 0) (.cons (.var 1) (.cons (.var 6) .nil)))) B275_3)
  (.seq (.forE (.nm 8) (.rng3 (.cons (.cst (.int 0)) (.cons (.op1 .len (.var 2)) (.cons (.op2 .add (.cst (.int 1)) (.op2 .fdiv (.op1 .len (.var 2)) (.cst (.int 30)))) .nil)))) B275_2)
  (.seq (.set (.nm 9) (.op2 .idx (.var 2) (.call 268 (.cons (.var 0) (.cons (.cst (.int 14)) (.cons (.op1 .len (.var 2)) .nil))))))
  (.seq (.forE (.nm 7) (.call 255 (.cons (.var 0) (.cons (.var 1) (.cons (.var 9) .nil)))) B275_1)
  .skip))))))
/-- _law_frame_asked -/
def F275 : Fn := ⟨2, 11,
  (.seq (.set (.nm 2) (.call 240 (.cons (.var 1) .nil)))
  (.seq (.set (.nm 3) (.op1 .toTup (.var 2)))
  (.seq (.ite (.or (.op1 .not (.call 238 (.cons (.var 3) (.cons (.call 266 (.cons (.var 1) .nil)) .nil)))) (.op1 .not (.call 273 (.cons (.var 1) (.cons (.var 2) (.cons (.var 3) .nil))))))
  (.seq (.ret (.cst (.bl false)))
  .skip)
  .skip)
  (.seq (.forE (.nm 4) (.rng (.cst (.int 2))) B275_4)
  (.seq (.set (.nm 5) (.op1 .toTup (.comp (.nm 8) (.rng (.op1 .len (.var 1))) (.cst (.bl true)) (.op2 .idx (.var 1) (.op2 .sub (.op2 .sub (.op1 .len (.var 1)) (.cst (.int 1))) (.var 8))))))
  (.seq (.ret (.call 273 (.cons (.var 5) (.cons (.call 240 (.cons (.var 5) .nil)) (.cons (.var 6) .nil)))))
  .skip))))))⟩

def B276_1 : MS := (.seq (.set (.nm 6) (.call 239 (.cons (.var 1) (.cons (.op2 .idx (.tupE (.cons (.cst (.int 6)) (.cons (.cst (.int 30)) (.cons (.cst (.int 30)) .nil)))) (.var 3)) .nil))))
  (.seq (.ite (.and (.op2 .eq (.var 3) (.cst (.int 2))) (.var 2))
  (.seq (.set (.nm 6) (.call 253 (.cons (.var 1) .nil)))
  .skip)
  .skip)
  (.seq (.ite (.op1 .not (.call 275 (.cons (.var 1) (.cons (.var 6) .nil))))
  (.seq (.ret (.cst (.bl false)))
  .skip)
  .skip)
  .skip)))
/-- law -/
def F276 : Fn := ⟨1, 7,
  (.seq (.set (.nm 1) (.call 267 (.cons (.var 0) .nil)))
  (.seq (.set (.nm 2) (.op2 .eq (.call 268 (.cons (.var 1) (.cons (.cst (.int 20)) (.cons (.cst (.int 7)) .nil)))) (.cst (.int 4))))
  (.seq (.forE (.nm 3) (.rng (.cst (.int 3))) B276_1)
  (.seq (.set (.nm 4) (.tupE (.cons (.tupE (.cons (.cst (.int 0)) (.cons (.cst (.int 0)) .nil))) (.cons (.tupE (.cons (.cst (.int 1)) (.cons (.cst (.int 0)) .nil))) (.cons (.tupE (.cons (.cst (.int 0)) (.cons (.cst (.int 1)) .nil))) (.cons (.tupE (.cons (.cst (.int 1)) (.cons (.cst (.int 1)) .nil))) .nil))))))
  (.seq (.set (.nm 5) (.tupE (.cons (.call 261 (.cons (.tupE (.cons (.cst (.int 2)) (.cons (.cst (.int 2)) .nil))) (.cons (.var 4) .nil))) (.cons (.callK 265 [0, 1, 2] (.cons (.tupE (.cons (.cst (.int 2)) (.cons (.cst (.int 2)) .nil))) (.cons (.var 4) (.cons (.tupE (.cons (.cst (.int 0)) (.cons (.cst (.int 1)) .nil))) .nil)))) (.cons (.call 263 (.cons (.tupE (.cons (.cst (.int 1)) .nil)) (.cons (.tupE (.cons (.tupE (.cons (.cst (.int 0)) .nil)) .nil)) .nil))) (.cons (.call 263 (.cons (.tupE (.cons (.cst (.int 1)) .nil)) (.cons (.tupE (.cons (.tupE (.cons (.cst (.int 1)) .nil)) .nil)) .nil))) .nil))))))
  (.seq (.ret (.call 238 (.cons (.tupE (.cons (.cst (.int 2)) (.cons (.tupE (.cons (.cst (.int 1)) (.cons (.cst (.int 0)) .nil))) (.cons (.cst (.bl true)) (.cons (.cst (.bl false)) .nil))))) (.cons (.var 5) .nil))))
  .skip))))))⟩

end Mi
end

section
set_option linter.all false
set_option autoImplicit false
/-! Plain1: how a run is reckoned: stores cleaned, loops. -/
namespace Mi
/-! ### stores -/
theorem stable_app (μ g : Sto) : stable μ (μ ++ g) = true := by
  unfold stable
  rw [Bool.and_eq_true]
  refine ⟨by simp, List.all_eq_true.mpr fun k hk => ?_⟩
  have hk' : k < μ.length := List.mem_range.mp hk
  rw [List.getElem?_append_left hk']
  simp
theorem stable_of {μ μ' : Sto} (hl : μ.length ≤ μ'.length) (h : ∀ k, k < μ.length → μ'[k]? = μ[k]? ∨ ∃ c, μ'[k]? = some c ∧ c.under μ.length = true) : stable μ μ' = true := by
  unfold stable
  rw [Bool.and_eq_true]
  refine ⟨by simpa using hl, List.all_eq_true.mpr fun k hk => ?_⟩
  rcases h k (List.mem_range.mp hk) with e | ⟨c, e, hc⟩
  · rw [e]; simp
  · rw [e]; simp [hc]
theorem clean_take {μ μ' : Sto} {v : Val} (h : stable μ μ' = true) (hv : v.under μ.length = true) : clean μ v μ' = (v, μ'.take μ.length) := by
  unfold clean
  rw [if_pos h, if_pos hv]
theorem clean_new {μ μ' : Sto} {k : Nat} {xs : List Val} (h : stable μ μ' = true) (hk : μ.length ≤ k) (e : μ'[k]? = some (.lst xs)) (hx : underAll μ.length xs = true) : clean μ (.ref k) μ' = (.ref μ.length, μ'.take μ.length ++ [.lst xs]) := by
  unfold clean
  rw [if_pos h, if_neg (by simp [Val.under]; exact hk)]
  simp only [e]
  rw [if_pos (by rw [hx, decide_eq_true hk]; rfl)]
theorem stable_self (μ : Sto) : stable μ μ = true := by
  have := stable_app μ []
  rwa [List.append_nil] at this
theorem clean_same (v : Val) (μ : Sto) : clean μ v μ = (v, μ) := by
  unfold clean
  rw [if_pos (stable_self μ)]
  by_cases hu : v.under μ.length = true
  · rw [if_pos hu, List.take_length]
  · rw [if_neg hu]
    cases v with
    | ref k =>
      have hk : μ[k]? = none := by
        rw [List.getElem?_eq_none_iff]
        rw [Val.under] at hu
        simpa using hu
      simp only [hk]
    | _ => rfl
theorem clean_app {μ g : Sto} {v : Val} (hv : v.under μ.length = true) : clean μ v (μ ++ g) = (v, μ) := by
  rw [clean_take (stable_app μ g) hv, List.take_left']
  rfl
theorem cleanO_same (v : Val) (μ : Sto) : cleanO μ (.ok v μ) = .ok v μ := by
  show Out.ok (clean μ v μ).1 (clean μ v μ).2 = _
  rw [clean_same]
theorem cleanO_app {μ g : Sto} {v : Val} (hv : v.under μ.length = true) : cleanO μ (.ok v (μ ++ g)) = .ok v μ := by
  show Out.ok (clean μ v (μ ++ g)).1 (clean μ v (μ ++ g)).2 = _
  rw [clean_app hv]
theorem cleanO_take {μ μ' : Sto} {v : Val} (h : stable μ μ' = true) (hv : v.under μ.length = true) : cleanO μ (.ok v μ') = .ok v (μ'.take μ.length) := by
  show Out.ok (clean μ v μ').1 (clean μ v μ').2 = _
  rw [clean_take h hv]
theorem cleanO_new {μ μ' : Sto} {k : Nat} {xs : List Val} (h : stable μ μ' = true) (hk : μ.length ≤ k) (e : μ'[k]? = some (.lst xs)) (hx : underAll μ.length xs = true) : cleanO μ (.ok (.ref k) μ') = .ok (.ref μ.length) (μ'.take μ.length ++ [.lst xs]) := by
  show Out.ok (clean μ (.ref k) μ').1 (clean μ (.ref k) μ').2 = _
  rw [clean_new h hk e hx]
theorem cleanO_exc_same (c : Nat) (fs : List Val) (μ : Sto) : cleanO μ (.exc c fs μ) = .exc c fs μ := by
  show (if _ then Out.exc c fs (μ.take μ.length) else .exc c fs μ) = _
  rw [List.take_length]
  split <;> rfl
/-- a list of values that speak of no cell -/
def scl : Val → Bool
  | .ref _ => false
  | .tup _ => false
  | _ => true
theorem scl_under {v : Val} {n : Nat} (h : scl v = true) : v.under n = true := by
  cases v <;> first | rfl | cases h
mutual
/-- no cell within -/
def Val.nor : Val → Bool
  | .ref _ => false
  | .tup vs => nors vs
  | _ => true
def nors : List Val → Bool
  | [] => true
  | v :: vs => v.nor && nors vs
end
mutual
theorem nor_under {n : Nat} : ∀ (v : Val), v.nor = true → v.under n = true
  | .ref _, h => by simp [Val.nor] at h
  | .tup vs, h => by rw [Val.under]; exact nors_under vs (by rw [Val.nor] at h; exact h)
  | .non, _ => by rfl
  | .bl _, _ => by rfl
  | .int _, _ => by rfl
  | .str _, _ => by rfl
  | .scr _, _ => by rfl
theorem nors_under {n : Nat} : ∀ (vs : List Val), nors vs = true → underAll n vs = true
  | [], _ => by rfl
  | v :: vs, h => by
    rw [nors, Bool.and_eq_true] at h
    rw [underAll, Bool.and_eq_true]
    exact ⟨nor_under v h.1, nors_under vs h.2⟩
end
theorem nors_of : ∀ {vs : List Val}, (∀ v ∈ vs, v.nor = true) → nors vs = true
  | [], _ => rfl
  | v :: vs, h => by
    rw [nors, Bool.and_eq_true]
    exact ⟨h v (List.mem_cons_self ..), nors_of fun w hw => h w (List.mem_cons_of_mem _ hw)⟩
theorem nors_mem : ∀ {vs : List Val}, nors vs = true → ∀ v ∈ vs, v.nor = true
  | w :: vs, h, v, hv => by
    rw [nors, Bool.and_eq_true] at h
    rcases List.mem_cons.mp hv with e | hv
    · rw [e]; exact h.1
    · exact nors_mem h.2 v hv
theorem nors_ints (ns : List Int) : nors (ns.map .int) = true := nors_of fun v hv => by
  obtain ⟨i, _, rfl⟩ := List.mem_map.mp hv
  rfl
theorem nor_tup {vs : List Val} (h : ∀ v ∈ vs, v.nor = true) : (Val.tup vs).nor = true := by
  rw [Val.nor]; exact nors_of h
theorem under_mono {n m : Nat} (h : n ≤ m) : ∀ (v : Val), v.under n = true → v.under m = true := fun v => (under_mono' h).1 v
where
  under_mono' {n m : Nat} (h : n ≤ m) : (∀ v : Val, v.under n = true → v.under m = true) ∧ (∀ vs : List Val, underAll n vs = true → underAll m vs = true) := by
    have key : ∀ k : Nat, (∀ v : Val, sizeOf v ≤ k → v.under n = true → v.under m = true) ∧ (∀ vs : List Val, sizeOf vs ≤ k → underAll n vs = true → underAll m vs = true) := by
      intro k
      induction k with
      | zero =>
        refine ⟨fun v hv => ?_, fun vs hv => ?_⟩
        · cases v <;> simp at hv
        · cases vs <;> simp at hv
      | succ k ih =>
        refine ⟨fun v hv hu => ?_, fun vs hv hu => ?_⟩
        · cases v with
          | ref i => rw [Val.under] at hu ⊢; simp at hu ⊢; omega
          | tup vs => rw [Val.under] at hu ⊢; exact ih.2 vs (by simp at hv; omega) hu
          | _ => rfl
        · cases vs with
          | nil => rfl
          | cons v vs =>
            rw [underAll, Bool.and_eq_true] at hu ⊢
            simp at hv
            exact ⟨ih.1 v (by omega) hu.1, ih.2 vs (by omega) hu.2⟩
    exact ⟨fun v => (key (sizeOf v)).1 v (Nat.le_refl _), fun vs => (key (sizeOf vs)).2 vs (Nat.le_refl _)⟩

/-! ### runs -/
theorem run_succ {P : Nat → Option Fn} {n k : Nat} {d : Fn} (h : P k = some d) (vs : List Val) (μ : Sto) (hl : vs.length = d.params) : run P (n + 1) k vs μ = cleanO μ (fin (ex (run P n) d.body (enter d vs) μ)) := by
  rw [run, h]
  simp only []
  rw [if_pos hl]

/-! ### loops -/
section
variable {bind : Val → Loc → Option Loc} {body : Loc → Sto → OS} {src : Val} {all : List Val}
theorem forL_step {x : Val} {xs : List Val} {ρ ρ1 ρ2 : Loc} {μ μ2 : Sto} (hb : bind x ρ = some ρ1) (he : body ρ1 μ = .nx ρ2 μ2) (hg : guard src all μ2 = true) : forL bind body src all (x :: xs) ρ μ = forL bind body src all xs ρ2 μ2 := by
  rw [forL, hb]
  simp [he, hg]
/-- a walk to its end -/
theorem forL_all {I : Nat → Loc → Sto → Prop} : ∀ {xs : List Val} {i : Nat} {ρ : Loc} {μ : Sto}, I i ρ μ →
    (∀ j x ρ μ, xs[j]? = some x → I (i + j) ρ μ → ∃ ρ1 ρ2 μ2, bind x ρ = some ρ1 ∧ (body ρ1 μ = .nx ρ2 μ2 ∨ body ρ1 μ = .cnt ρ2 μ2) ∧ guard src all μ2 = true ∧ I (i + j + 1) ρ2 μ2) →
    ∃ ρ' μ', forL bind body src all xs ρ μ = .nx ρ' μ' ∧ I (i + xs.length) ρ' μ'
  | [], i, ρ, μ, h, _ => ⟨ρ, μ, rfl, h⟩
  | x :: xs, i, ρ, μ, h, hs => by
    obtain ⟨ρ1, ρ2, μ2, hb, he, hg, hi⟩ := hs 0 x ρ μ rfl h
    have e : forL bind body src all (x :: xs) ρ μ = forL bind body src all xs ρ2 μ2 := by
      rw [forL, hb]
      rcases he with he | he <;> simp [he, hg]
    rw [e]
    obtain ⟨ρ', μ', e', h'⟩ := forL_all (xs := xs) (i := i + 1) hi (fun j y ρ μ hy hI => by
      have := hs (j + 1) y ρ μ hy (by rw [show i + (j + 1) = i + 1 + j by omega]; exact hI)
      rw [show i + (j + 1) + 1 = i + 1 + j + 1 by omega] at this
      exact this)
    exact ⟨ρ', μ', e', by rw [List.length_cons, show i + (xs.length + 1) = i + 1 + xs.length by omega]; exact h'⟩
/-- a walk that one turn ends -/
theorem forL_to {I : Nat → Loc → Sto → Prop} {r : OS} : ∀ {xs : List Val} {i k : Nat} {y : Val} {ρ : Loc} {μ : Sto}, I i ρ μ → xs[k]? = some y →
    (∀ j x ρ μ, j < k → xs[j]? = some x → I (i + j) ρ μ → ∃ ρ1 ρ2 μ2, bind x ρ = some ρ1 ∧ (body ρ1 μ = .nx ρ2 μ2 ∨ body ρ1 μ = .cnt ρ2 μ2) ∧ guard src all μ2 = true ∧ I (i + j + 1) ρ2 μ2) →
    (∀ ρ μ, I (i + k) ρ μ → ∃ ρ1, bind y ρ = some ρ1 ∧ ∀ kk, (body ρ1 μ).turn kk = r) → forL bind body src all xs ρ μ = r
  | [], _, k, y, _, _, _, hy, _, _ => by simp at hy
  | x :: xs, i, 0, y, ρ, μ, h, hy, _, hl => by
    cases (show some x = some y from hy)
    obtain ⟨ρ1, hb, he⟩ := hl ρ μ h
    rw [forL, hb]
    exact he _
  | x :: xs, i, k + 1, y, ρ, μ, h, hy, hs, hl => by
    obtain ⟨ρ1, ρ2, μ2, hb, he, hg, hi⟩ := hs 0 x ρ μ (by omega) rfl h
    have e : forL bind body src all (x :: xs) ρ μ = forL bind body src all xs ρ2 μ2 := by
      rw [forL, hb]
      rcases he with he | he <;> simp [he, hg]
    rw [e]
    refine forL_to (xs := xs) (i := i + 1) (k := k) hi hy (fun j y ρ μ hj hy hI => ?_) (fun ρ μ hI => hl ρ μ (by rw [show i + (k + 1) = i + 1 + k by omega]; exact hI))
    have := hs (j + 1) y ρ μ (by omega) hy (by rw [show i + (j + 1) = i + 1 + j by omega]; exact hI)
    rw [show i + (j + 1) + 1 = i + 1 + j + 1 by omega] at this
    exact this
end
/-- a while, its measure falling -/
theorem whl_all {c : Loc → Sto → Out Val} {body : Loc → Sto → OS} {I : Loc → Sto → Prop} (ms : Loc → Sto → Nat) (hs : ∀ ρ μ, I ρ μ → (∃ μ1, c ρ μ = .ok (.bl false) μ1 ∧ μ1 = μ) ∨ (∃ ρ2 μ2, c ρ μ = .ok (.bl true) μ ∧ (body ρ μ = .nx ρ2 μ2 ∨ body ρ μ = .cnt ρ2 μ2) ∧ I ρ2 μ2 ∧ ms ρ2 μ2 < ms ρ μ)) :
    ∀ {n : Nat} {ρ : Loc} {μ : Sto}, I ρ μ → ms ρ μ < n → ∃ ρ' μ', whlN c body n ρ μ = .nx ρ' μ' ∧ I ρ' μ' ∧ c ρ' μ' = .ok (.bl false) μ'
  | 0, _, _, _, h => by omega
  | n + 1, ρ, μ, hi, hn => by
    rcases hs ρ μ hi with ⟨μ1, e, rfl⟩ | ⟨ρ2, μ2, e, he, h2, hm⟩
    · exact ⟨ρ, μ1, by rw [whlN, e]; rfl, hi, e⟩
    · obtain ⟨ρ', μ', e', h'⟩ := whl_all ms hs (n := n) h2 (by omega)
      refine ⟨ρ', μ', ?_, h'⟩
      rw [whlN, e]
      rcases he with he | he <;> simp [he, e']
/-- a comprehension that changes nothing -/
theorem compL_map {bind : Val → Option Loc} {cond elt : Loc → Sto → Out Val} {src : Val} {all : List Val} {g : Val → Val} {μ : Sto} (hg : guard src all μ = true) : ∀ {xs : List Val}, (∀ x ∈ xs, ∃ ρ, bind x = some ρ ∧ cond ρ μ = .ok (.bl true) μ ∧ elt ρ μ = .ok (g x) μ) → compL bind cond elt src all xs μ = .ok (xs.map g) μ
  | [], _ => rfl
  | x :: xs, h => by
    obtain ⟨ρ, h1, h2, h3⟩ := h x (List.mem_cons_self ..)
    rw [compL, h1]
    simp only [h2, h3, hg, if_true]
    rw [compL_map hg fun y hy => h y (List.mem_cons_of_mem _ hy)]
    rfl
theorem rng_at {n i : Nat} {x : Val} (h : ((List.range n).map fun i => Val.int (i : Nat))[i]? = some x) : i < n ∧ x = .int i := by
  rw [List.getElem?_map] at h
  by_cases hi : i < n
  · rw [List.getElem?_range hi] at h
    cases h
    exact ⟨hi, rfl⟩
  · rw [List.getElem?_eq_none (by simpa using hi)] at h
    cases h
end Mi
end

section
set_option linter.all false
set_option autoImplicit false
/-! Plain2: the rules of reckoning, for simp. -/
namespace Mi
section
variable {C : CallF} {ρ : Loc} {μ : Sto}
@[simp] theorem ev_var (i : Nat) : ev C (.var i) ρ μ = (match ρ[i]? with
    | some (some v) => .ok v μ
    | _ => .fail) := rfl
@[simp] theorem ev_cst (v : Val) : ev C (.cst v) ρ μ = .ok v μ := rfl
@[simp] theorem ev_nil : ev C .nil ρ μ = .ok (.tup []) μ := rfl
@[simp] theorem ev_cons (a b : ME) : ev C (.cons a b) ρ μ = (ev C a ρ μ).bind fun x μ1 => (ev C b ρ μ1).bind fun ys μ2 => match ys with
    | .tup vs => .ok (.tup (x :: vs)) μ2
    | _ => .fail := rfl
@[simp] theorem ev_tupE (a : ME) : ev C (.tupE a) ρ μ = ev C a ρ μ := rfl
@[simp] theorem ev_lstE (a : ME) : ev C (.lstE a) ρ μ = (ev C a ρ μ).bind fun ys μ1 => match ys with
    | .tup vs => newLst vs μ1
    | _ => .fail := rfl
@[simp] theorem ev_op1 (o : O1) (a : ME) : ev C (.op1 o a) ρ μ = (ev C a ρ μ).bind fun x μ1 => sem1 o x μ1 := rfl
@[simp] theorem ev_op2 (o : O2) (a b : ME) : ev C (.op2 o a b) ρ μ = (ev C a ρ μ).bind fun x μ1 => if pre2 o x μ1 then (ev C b ρ μ1).bind fun y μ2 => sem2 o x y μ2 else .fail := rfl
@[simp] theorem ev_op3 (o : O3) (a b c : ME) : ev C (.op3 o a b c) ρ μ = (ev C a ρ μ).bind fun x μ1 => (ev C b ρ μ1).bind fun y μ2 => if pre3 o y then (ev C c ρ μ2).bind fun z μ3 => sem3 o x y z μ3 else .fail := rfl
@[simp] theorem ev_and (a b : ME) : ev C (.and a b) ρ μ = (ev C a ρ μ).bind fun x μ1 => match x with
    | .bl true => ev C b ρ μ1
    | .bl false => .ok (.bl false) μ1
    | _ => .fail := rfl
@[simp] theorem ev_or (a b : ME) : ev C (.or a b) ρ μ = (ev C a ρ μ).bind fun x μ1 => match x with
    | .bl true => .ok (.bl true) μ1
    | .bl false => ev C b ρ μ1
    | _ => .fail := rfl
@[simp] theorem ev_ite (c a b : ME) : ev C (.ite c a b) ρ μ = (ev C c ρ μ).bind fun x μ1 => match x with
    | .bl true => ev C a ρ μ1
    | .bl false => ev C b ρ μ1
    | _ => .fail := rfl
@[simp] theorem ev_chain (o o' : O2) (a b c : ME) : ev C (.chain o o' a b c) ρ μ = (ev C a ρ μ).bind fun x μ1 => (ev C b ρ μ1).bind fun y μ2 => (sem2 o x y μ2).bind fun r μ3 => match r with
    | .bl true => (ev C c ρ μ3).bind fun z μ4 => sem2 o' y z μ4
    | .bl false => .ok (.bl false) μ3
    | _ => .fail := rfl
@[simp] theorem ev_call (k : Nat) (a : ME) : ev C (.call k a) ρ μ = (ev C a ρ μ).bind fun ys μ1 => match ys with
    | .tup vs => C k vs μ1
    | _ => .fail := rfl
@[simp] theorem ev_callK (k : Nat) (perm : List Nat) (a : ME) : ev C (.callK k perm a) ρ μ = (ev C a ρ μ).bind fun ys μ1 => match ys with
    | .tup vs => C k (pick perm vs) μ1
    | _ => .fail := rfl
@[simp] theorem ev_rng (a : ME) : ev C (.rng a) ρ μ = (ev C a ρ μ).bind fun x μ1 => match x with
    | .int j => if -LIM ≤ j ∧ j ≤ LIM then .ok (.tup ((List.range j.toNat).map fun i => .int (i : Nat))) μ1 else .fail
    | _ => .fail := rfl
@[simp] theorem ev_rng2 (a b : ME) : ev C (.rng2 a b) ρ μ = (ev C a ρ μ).bind fun x μ1 => (ev C b ρ μ1).bind fun y μ2 => match x, y with
    | .int i, .int j => if -LIM ≤ i ∧ i ≤ LIM ∧ j ≤ LIM ∧ -LIM ≤ j then .ok (.tup ((List.range (j - i).toNat).map fun k => .int (i + (k : Nat)))) μ2 else .fail
    | _, _ => .fail := rfl
@[simp] theorem ev_rng3 (a : ME) : ev C (.rng3 a) ρ μ = (ev C a ρ μ).bind fun ys μ1 => match ys with
    | .tup vs => rng3 vs μ1
    | _ => .fail := rfl
@[simp] theorem ev_comp (tg : MT) (it cond elt : ME) : ev C (.comp tg it cond elt) ρ μ = (ev C it ρ μ).bind fun src μ1 => match items μ1 src with
    | some xs => if xs.length ≤ LIM then (compL (fun v => bindT tg v ρ) (ev C cond) (ev C elt) src xs xs μ1).bind fun ys μ2 => newLst ys μ2 else .fail
    | none => .fail := rfl
@[simp] theorem ex_skip : ex C .skip ρ μ = .nx ρ μ := rfl
@[simp] theorem ex_seq (a b : MS) : ex C (.seq a b) ρ μ = (ex C a ρ μ).then fun ρ1 μ1 => ex C b ρ1 μ1 := rfl
@[simp] theorem ex_set (tg : MT) (e : ME) : ex C (.set tg e) ρ μ = (ev C e ρ μ).on ρ fun v μ1 => match bindT tg v ρ with
    | some ρ1 => .nx ρ1 μ1
    | none => .fail := rfl
@[simp] theorem ex_put (a b e : ME) : ex C (.put a b e) ρ μ = (ev C e ρ μ).on ρ fun v μ1 => (ev C a ρ μ1).on ρ fun o μ2 => (ev C b ρ μ2).on ρ fun i μ3 => match setItem o i v μ3 with
    | some μ4 => .nx ρ μ4
    | none => .fail := rfl
@[simp] theorem ex_aug (i : Nat) (o : O2) (e : ME) : ex C (.aug i o e) ρ μ = (match ρ[i]? with
    | some (some x) => (ev C e ρ μ).on ρ fun v μ1 => (match x, v with
      | .int a, .int b => (match o with
        | .add => .nx (ρ.set i (some (.int (a + b)))) μ1
        | .sub => .nx (ρ.set i (some (.int (a - b)))) μ1
        | _ => .fail)
      | _, _ => .fail)
    | _ => .fail) := rfl
@[simp] theorem ex_expr (e : ME) : ex C (.expr e) ρ μ = (ev C e ρ μ).on ρ fun _ μ1 => .nx ρ μ1 := rfl
@[simp] theorem ex_ret (e : ME) : ex C (.ret e) ρ μ = (ev C e ρ μ).on ρ fun v μ1 => .ret v μ1 := rfl
@[simp] theorem ex_ite (c : ME) (a b : MS) : ex C (.ite c a b) ρ μ = (ev C c ρ μ).on ρ fun v μ1 => match v with
    | .bl true => ex C a ρ μ1
    | .bl false => ex C b ρ μ1
    | _ => .fail := rfl
@[simp] theorem ex_whl (c : ME) (b : MS) : ex C (.whl c b) ρ μ = whlN (ev C c) (ex C b) FUEL ρ μ := rfl
@[simp] theorem ex_for (tg : MT) (it : ME) (b : MS) : ex C (.forE tg it b) ρ μ = (ev C it ρ μ).on ρ fun src μ1 => match items μ1 src with
    | some xs => forL (bindT tg) (ex C b) src xs xs ρ μ1
    | none => .fail := rfl
@[simp] theorem ex_raise (c : Nat) (a : ME) : ex C (.raise c a) ρ μ = (ev C a ρ μ).on ρ fun v μ1 => match v with
    | .tup fs => .exc c fs ρ μ1
    | _ => .fail := rfl
@[simp] theorem ex_try (b : MS) (hs : List HC) : ex C (.tryx b hs) ρ μ = (match ex C b ρ μ with
    | .exc c fs ρ1 μ1 => handle c fs ρ1 μ1 hs
    | r => r) := rfl
@[simp] theorem ex_brk : ex C .brk ρ μ = .brk ρ μ := rfl
@[simp] theorem ex_cnt : ex C .cnt ρ μ = .cnt ρ μ := rfl
@[simp] theorem bindT_nm (i : Nat) (v : Val) : bindT (.nm i) v ρ = some (ρ.set i (some v)) := rfl
@[simp] theorem bindT_tp (is : List Nat) (vs : List Val) : bindT (.tp is) (.tup vs) ρ = if vs.length = is.length then some (setAll is vs ρ) else none := rfl
@[simp] theorem setAll_cons (i : Nat) (is : List Nat) (v : Val) (vs : List Val) : setAll (i :: is) (v :: vs) ρ = setAll is vs (ρ.set i (some v)) := rfl
@[simp] theorem setAll_nil : setAll [] [] ρ = ρ := rfl
@[simp] theorem fin_nx : fin (.nx ρ μ) = .ok .non μ := rfl
@[simp] theorem fin_ret (v : Val) : fin (.ret v μ) = .ok v μ := rfl
@[simp] theorem fin_exc (c : Nat) (fs : List Val) : fin (.exc c fs ρ μ) = .exc c fs μ := rfl
@[simp] theorem items_tup (vs : List Val) : items μ (.tup vs) = some vs := rfl
@[simp] theorem items_scr (ns : List Int) : items μ (.scr ns) = some (ns.map .int) := rfl
@[simp] theorem items_ref (n : Nat) : items μ (.ref n) = (match μ[n]? with
    | some (.lst vs) => some vs
    | _ => none) := rfl
@[simp] theorem guard_tup (vs xs : List Val) : guard (.tup vs) xs μ = true := rfl
@[simp] theorem guard_scr (vs : List Int) (xs : List Val) : guard (.scr vs) xs μ = true := rfl
/-! pre2 -/
@[simp] theorem pre_app (n : Nat) : pre2 .append (.ref n) μ = (match μ[n]? with
      | some (.lst _) => true
      | _ => false) := rfl
@[simp] theorem pre_ext (n : Nat) : pre2 .extend (.ref n) μ = (match μ[n]? with
      | some (.lst _) => true
      | _ => false) := rfl
@[simp] theorem pre_popAt (n : Nat) : pre2 .popAt (.ref n) μ = (match μ[n]? with
      | some (.lst _) => true
      | _ => false) := rfl
@[simp] theorem pre_index (n : Nat) : pre2 .index (.ref n) μ = (match μ[n]? with
      | some (.lst _) => true
      | _ => false) := rfl
@[simp] theorem pre_add (v : Val) : pre2 .add v μ = true := rfl
@[simp] theorem pre_sub (v : Val) : pre2 .sub v μ = true := rfl
@[simp] theorem pre_mul (v : Val) : pre2 .mul v μ = true := rfl
@[simp] theorem pre_fdiv (v : Val) : pre2 .fdiv v μ = true := rfl
@[simp] theorem pre_mod (v : Val) : pre2 .mod v μ = true := rfl
@[simp] theorem pre_pow (v : Val) : pre2 .pow v μ = true := rfl
@[simp] theorem pre_shl (v : Val) : pre2 .shl v μ = true := rfl
@[simp] theorem pre_eq (v : Val) : pre2 .eq v μ = true := rfl
@[simp] theorem pre_ne (v : Val) : pre2 .ne v μ = true := rfl
@[simp] theorem pre_lt (v : Val) : pre2 .lt v μ = true := rfl
@[simp] theorem pre_le (v : Val) : pre2 .le v μ = true := rfl
@[simp] theorem pre_gt (v : Val) : pre2 .gt v μ = true := rfl
@[simp] theorem pre_ge (v : Val) : pre2 .ge v μ = true := rfl
@[simp] theorem pre_inn (v : Val) : pre2 .inn v μ = true := rfl
@[simp] theorem pre_nin (v : Val) : pre2 .nin v μ = true := rfl
@[simp] theorem pre_idx (v : Val) : pre2 .idx v μ = true := rfl
@[simp] theorem pre_min (v : Val) : pre2 .min2 v μ = true := rfl
@[simp] theorem pre_max (v : Val) : pre2 .max2 v μ = true := rfl
@[simp] theorem pre_slF (v : Val) : pre2 .slF v μ = true := rfl
@[simp] theorem pre_slT (v : Val) : pre2 .slT v μ = true := rfl
@[simp] theorem pre3_i (i : Int) : pre3 .slice (.int i) = true := rfl
/-! operations -/
@[simp] theorem s_neg (i : Int) : sem1 .neg (.int i) μ = .ok (.int (-i)) μ := rfl
@[simp] theorem s_not (b : Bool) : sem1 .not (.bl b) μ = .ok (.bl (!b)) μ := rfl
@[simp] theorem s_lent (vs : List Val) : sem1 .len (.tup vs) μ = .ok (.int vs.length) μ := rfl
@[simp] theorem s_lens (ns : List Int) : sem1 .len (.scr ns) μ = .ok (.int ns.length) μ := by show (Out.ok (Val.int (((ns.map Val.int).length : Nat) : Int)) μ : Out Val) = _; rw [List.length_map]
@[simp] theorem s_lenr (n : Nat) : sem1 .len (.ref n) μ = (match items μ (.ref n) with
      | some vs => .ok (.int vs.length) μ
      | none => .fail) := rfl
@[simp] theorem s_abs (i : Int) : sem1 .abs (.int i) μ = .ok (.int (if i < 0 then -i else i)) μ := rfl
@[simp] theorem s_inti (i : Int) : sem1 .int (.int i) μ = .ok (.int i) μ := rfl
@[simp] theorem s_intb (b : Bool) : sem1 .int (.bl b) μ = .ok (.int (if b then 1 else 0)) μ := rfl
@[simp] theorem s_tupt (vs : List Val) : sem1 .toTup (.tup vs) μ = .ok (.tup vs) μ := rfl
@[simp] theorem s_tupr (n : Nat) : sem1 .toTup (.ref n) μ = (match items μ (.ref n) with
      | some vs => .ok (.tup vs) μ
      | none => .fail) := rfl
@[simp] theorem s_lstt (vs : List Val) : sem1 .toLst (.tup vs) μ = newLst vs μ := rfl
@[simp] theorem s_lstr (n : Nat) : sem1 .toLst (.ref n) μ = (match items μ (.ref n) with
      | some vs => newLst vs μ
      | none => .fail) := rfl
@[simp] theorem s_isN (v : Val) : sem1 .isN v μ = .ok (.bl (decide (v = .non))) μ := rfl
@[simp] theorem s_notN (v : Val) : sem1 .notN v μ = .ok (.bl (!decide (v = .non))) μ := rfl
@[simp] theorem s_isi (v : Val) (ts : List Ty) : sem1 (.isi ts) v μ = (match isTys μ v ts with
    | some b => .ok (.bl b) μ
    | none => .fail) := rfl
theorem isTys1 (v : Val) (t : Ty) : isTys μ v [t] = isTy μ v t := by
  unfold isTys
  cases isTy μ v t with
  | none => rfl
  | some b => cases b <;> rfl
@[simp] theorem s_addi (i j : Int) : sem2 .add (.int i) (.int j) μ = .ok (.int (i + j)) μ := rfl
theorem s_addt {xs ys : List Val} (h : xs.length + ys.length ≤ LIM) : sem2 .add (.tup xs) (.tup ys) μ = .ok (.tup (xs ++ ys)) μ := if_pos h
theorem s_adds {xs ys : List Nat} (h : xs.length + ys.length ≤ LIM) : sem2 .add (.str xs) (.str ys) μ = .ok (.str (xs ++ ys)) μ := if_pos h
theorem s_addr {n m : Nat} {xs ys : List Val} (h1 : μ[n]? = some (.lst xs)) (h2 : μ[m]? = some (.lst ys)) (h : xs.length + ys.length ≤ LIM) : sem2 .add (.ref n) (.ref m) μ = newLst (xs ++ ys) μ := by
  show (match μ[n]?, μ[m]? with
      | some (.lst xs), some (.lst ys) => if xs.length + ys.length ≤ LIM then newLst (xs ++ ys) μ else .fail
      | _, _ => .fail) = _
  rw [h1, h2]
  exact if_pos h
@[simp] theorem s_subi (i j : Int) : sem2 .sub (.int i) (.int j) μ = .ok (.int (i - j)) μ := rfl
theorem s_muli {i j : Int} (h : i.natAbs < 340282366920938463463374607431768211456) (h' : j.natAbs < 340282366920938463463374607431768211456) : sem2 .mul (.int i) (.int j) μ = .ok (.int (i * j)) μ := by
  refine if_pos ?_
  have h1 : ∀ n : Nat, n < 340282366920938463463374607431768211456 → n.log2 < 128 := fun n hn => by
    by_cases h0 : n = 0
    · subst h0; decide
    · exact (Nat.log2_lt h0).mpr (by have : (2 : Nat) ^ 128 = 340282366920938463463374607431768211456 := by decide
                                     omega)
  have := h1 _ h
  have := h1 _ h'
  omega
theorem s_mult {xs : List Val} {k : Int} (h : -1000 ≤ k ∧ k ≤ 1000 ∧ xs.length ≤ 1000) : sem2 .mul (.tup xs) (.int k) μ = .ok (.tup (List.replicate k.toNat xs).flatten) μ := if_pos h
theorem s_mulr {n : Nat} {xs : List Val} {k : Int} (h : μ[n]? = some (.lst xs)) (h2 : -1000000000 ≤ k ∧ k ≤ 1000000000 ∧ xs.length * k.toNat ≤ LIM) : sem2 .mul (.ref n) (.int k) μ = newLst (List.replicate k.toNat xs).flatten μ := by
  show (match μ[n]? with
      | some (.lst xs) => if -1000000000 ≤ k ∧ k ≤ 1000000000 ∧ xs.length * k.toNat ≤ LIM then newLst (List.replicate k.toNat xs).flatten μ else .fail
      | _ => .fail) = _
  rw [h]
  exact if_pos h2
theorem s_fdiv {i j : Int} (h : 0 < j) (h' : j.natAbs < 340282366920938463463374607431768211456) : sem2 .fdiv (.int i) (.int j) μ = .ok (.int (i / j)) μ := by
  refine if_pos ⟨h, ?_⟩
  have : j.natAbs.log2 < 128 := (Nat.log2_lt (by omega)).mpr (by have : (2 : Nat) ^ 128 = 340282366920938463463374607431768211456 := by decide
                                                                 omega)
  omega
theorem s_mod {i j : Int} (h : 0 < j) : sem2 .mod (.int i) (.int j) μ = .ok (.int (i % j)) μ := if_pos h
theorem s_eqf {a b : Val} (h : eqOk a b = true) : sem2 .eq a b μ = .ok (.bl (eqv a b)) μ := if_pos h
theorem s_nef {a b : Val} (h : eqOk a b = true) : sem2 .ne a b μ = .ok (.bl (!eqv a b)) μ := if_pos h
@[simp] theorem s_eqi (i j : Int) : sem2 .eq (.int i) (.int j) μ = .ok (.bl (decide (i = j))) μ := rfl
@[simp] theorem s_nei (i j : Int) : sem2 .ne (.int i) (.int j) μ = .ok (.bl (!decide (i = j))) μ := rfl
@[simp] theorem s_eqb (i j : Bool) : sem2 .eq (.bl i) (.bl j) μ = .ok (.bl (i == j)) μ := rfl
@[simp] theorem s_eqs (i j : List Nat) : sem2 .eq (.str i) (.str j) μ = .ok (.bl (i == j)) μ := rfl
@[simp] theorem s_nes (i j : List Nat) : sem2 .ne (.str i) (.str j) μ = .ok (.bl (!(i == j))) μ := rfl
@[simp] theorem s_lti (i j : Int) : sem2 .lt (.int i) (.int j) μ = .ok (.bl (decide (i < j))) μ := rfl
@[simp] theorem s_lei (i j : Int) : sem2 .le (.int i) (.int j) μ = .ok (.bl (decide (i ≤ j))) μ := rfl
@[simp] theorem s_gti (i j : Int) : sem2 .gt (.int i) (.int j) μ = .ok (.bl (decide (j < i))) μ := rfl
@[simp] theorem s_gei (i j : Int) : sem2 .ge (.int i) (.int j) μ = .ok (.bl (decide (j ≤ i))) μ := rfl
@[simp] theorem s_mini (i j : Int) : sem2 .min2 (.int i) (.int j) μ = .ok (.int (if j < i then j else i)) μ := rfl
@[simp] theorem s_maxi (i j : Int) : sem2 .max2 (.int i) (.int j) μ = .ok (.int (if j > i then j else i)) μ := rfl
@[simp] theorem s_idxt (xs : List Val) (i : Int) : sem2 .idx (.tup xs) (.int i) μ = ofOpt ((place xs.length i).bind fun j => xs[j]?) μ := rfl
@[simp] theorem s_idxr (n : Nat) (i : Int) : sem2 .idx (.ref n) (.int i) μ = (match items μ (.ref n) with
        | some xs => ofOpt ((place xs.length i).bind fun j => xs[j]?) μ
        | none => .fail) := rfl
@[simp] theorem s_app (n : Nat) (v : Val) : sem2 .append (.ref n) v μ = (match μ[n]? with
      | some (.lst xs) => if xs.length < LIM then .ok .non (μ.set n (.lst (xs ++ [v]))) else .fail
      | _ => .fail) := rfl
@[simp] theorem s_ext (n m : Nat) : sem2 .extend (.ref n) (.ref m) μ = (match μ[n]?, μ[m]? with
      | some (.lst xs), some (.lst ys) => if xs.length + ys.length ≤ LIM then .ok .non (μ.set n (.lst (xs ++ ys))) else .fail
      | _, _ => .fail) := rfl
@[simp] theorem s_slFt (xs : List Val) (lo : Int) : sem2 .slF (.tup xs) (.int lo) μ = .ok (.tup (cut xs (clip xs.length lo) xs.length)) μ := rfl
@[simp] theorem s_slTt (xs : List Val) (hi : Int) : sem2 .slT (.tup xs) (.int hi) μ = .ok (.tup (cut xs 0 (clip xs.length hi))) μ := rfl
@[simp] theorem s_slFr (n : Nat) (lo : Int) : sem2 .slF (.ref n) (.int lo) μ = (match μ[n]? with
      | some (.lst xs) => newLst (cut xs (clip xs.length lo) xs.length) μ
      | _ => .fail) := rfl
@[simp] theorem s_slTr (n : Nat) (hi : Int) : sem2 .slT (.ref n) (.int hi) μ = (match μ[n]? with
      | some (.lst xs) => newLst (cut xs 0 (clip xs.length hi)) μ
      | _ => .fail) := rfl
@[simp] theorem s_slTs (ns : List Int) (hi : Int) : sem2 .slT (.scr ns) (.int hi) μ = newLst ((cut ns 0 (clip ns.length hi)).map .int) μ := rfl
@[simp] theorem s_slFs (ns : List Int) (lo : Int) : sem2 .slF (.scr ns) (.int lo) μ = newLst ((cut ns (clip ns.length lo) ns.length).map .int) μ := rfl
@[simp] theorem s_sl3t (xs : List Val) (lo hi : Int) : sem3 .slice (.tup xs) (.int lo) (.int hi) μ = .ok (.tup (cut xs (clip xs.length lo) (clip xs.length hi))) μ := rfl
@[simp] theorem setItem_r (n : Nat) (k : Int) (v : Val) : setItem (.ref n) (.int k) v μ = (match μ[n]? with
    | some (.lst xs) => (place xs.length k).map fun j => μ.set n (.lst (xs.set j v))
    | _ => none) := rfl
@[simp] theorem ofOpt_some (v : Val) : ofOpt (some v) μ = .ok v μ := rfl
theorem place_nat {n k : Nat} (h : k < n) : place n (k : Int) = some k := by
  unfold place
  rw [if_pos (by omega), if_pos (by omega)]
  rfl
theorem place_pos {n : Nat} {i : Int} (h0 : 0 ≤ i) (h : i < n) : place n i = some i.toNat := by
  unfold place
  rw [if_pos h0, if_pos h]
end
@[simp] theorem then_skip (m : OS) : (m.then fun ρ μ => .nx ρ μ) = m := by cases m <;> rfl
/-- the one table is part of the other -/
def Ext (T P : Nat → Option Fn) : Prop := ∀ k d, T k = some d → P k = some d
end Mi
end

section
set_option linter.all false
set_option autoImplicit false
/-! TVals: kinds; is_whole, is_number. -/
namespace Mi
/-- a value whose kind is known -/
def Kn (μ : Sto) (v : Val) : Prop := ∀ k, v = .ref k → ∃ xs, μ[k]? = some (.lst xs)
def isInt : Val → Bool
  | .int _ => true
  | _ => false
def isNum : Val → Bool
  | .int i => decide (0 ≤ i)
  | _ => false
def items0 : Val → List Val
  | .tup vs => vs
  | _ => []
/-- the whole thing is of known kinds -/
def KnT (μ : Sto) (v : Val) : Prop := Kn μ v ∧ ∀ w ∈ items0 v, Kn μ w
theorem isTy_kn {μ : Sto} {v : Val} (h : Kn μ v) (t : Ty) : ∃ b, isTy μ v t = some b := by
  cases v with
  | ref k =>
    obtain ⟨xs, e⟩ := h k rfl
    exact ⟨(match t with | .list => true | _ => false), by unfold isTy; simp only [e] <;> (cases t <;> rfl)⟩
  | _ => exact ⟨_, rfl⟩
theorem isTy_int {μ : Sto} {v : Val} (h : Kn μ v) (hb : ∀ b, v ≠ .bl b) : isTy μ v .int = some (isInt v) := by
  cases v with
  | ref k =>
    obtain ⟨xs, e⟩ := h k rfl
    unfold isTy; simp only [e]; rfl
  | bl b => exact absurd rfl (hb b)
  | _ => rfl
theorem findIdx_none {p : Val → Bool} : ∀ {vs : List Val}, vs.findIdx? p = none → ∀ v ∈ vs, p v = false := fun {vs} h v hv => by
  have := List.findIdx?_eq_none_iff.mp h v hv
  simpa using this
theorem findIdx_some {p : Val → Bool} {vs : List Val} {k : Nat} (h : vs.findIdx? p = some k) : ∃ v, vs[k]? = some v ∧ p v = true ∧ ∀ j w, j < k → vs[j]? = some w → p w = false := by
  obtain ⟨hk, h1, h2⟩ := List.findIdx?_eq_some_iff_getElem.mp h
  refine ⟨vs[k], List.getElem?_eq_getElem hk, h1, fun j w hj hw => ?_⟩
  have h3 := h2 j hj
  obtain ⟨_, e⟩ := List.getElem?_eq_some_iff.mp hw
  rw [e] at h3
  simpa using h3
def tbVals : Nat → Option Fn := fun k => match k with
  | 73 => some F73
  | 74 => some F74
  | _ => none
section
variable {P : Nat → Option Fn} (hV : Ext tbVals P) {n : Nat} {μ : Sto}
include hV
theorem r_is_whole (v : Val) (h : Kn μ v) : run P (n + 1) 73 [v] μ = .ok (.bl (isInt v)) μ := by
  rw [run_succ (hV 73 _ rfl) _ _ rfl]
  cases v with
  | ref k =>
    obtain ⟨xs, e⟩ := h k rfl
    simp [F73, enter, isTys1, isTy, e, isInt, cleanO_same]
  | _ => simp [F73, enter, isTys1, isTy, isInt, cleanO_same]
theorem r_is_number (v : Val) (h : Kn μ v) : run P (n + 2) 74 [v] μ = .ok (.bl (isNum v)) μ := by
  rw [run_succ (hV 74 _ rfl) _ _ rfl]
  cases v <;> simp [F74, enter, r_is_whole hV _ h, isInt, isNum, cleanO_same]
end
end Mi
end

section
set_option linter.all false
set_option autoImplicit false
/-! TCount: count_of. -/
namespace Mi
def sizeOk : Val → Bool
  | .int i => decide (1 ≤ i) && decide (i ≤ 12)
  | _ => false
def prodV : List Val → Int
  | .int i :: vs => i * prodV vs
  | _ => 1
section
variable {P : Nat → Option Fn} {n : Nat} {μ : Sto}
/-- the product, as long as it stays small -/
theorem count_loop {C : CallF} {src f0 : Val} {all : List Val} (hg : guard src all μ = true) : ∀ (vs : List Val) (k : Nat) (a : Int) (o : Option Val), (∀ v ∈ vs, sizeOk v = true) → 0 ≤ a → a ≤ 12 ^ k → k + vs.length ≤ 30 →
    ∃ o', forL (bindT (.nm 2)) (ex C B126_1) src all vs [some f0, some (.int a), o] μ = .nx [some f0, some (.int (a * prodV vs)), o'] μ
  | [], k, a, o, _, _, _, _ => ⟨o, by simp [forL, prodV]⟩
  | v :: vs, k, a, o, h, h0, h1, h2 => by
    have hv := h v (List.mem_cons_self ..)
    cases v with
    | int s =>
      simp [sizeOk] at hv
      have hk : (12 : Int) ^ k ≤ 12 ^ 30 := by
        have : (12 : Nat) ^ k ≤ 12 ^ 30 := Nat.pow_le_pow_right (by omega) (by simp at h2; omega)
        exact_mod_cast this
      have h30 : (12 : Int) ^ 30 < 340282366920938463463374607431768211456 := by decide
      have hm : sem2 .mul (.int a) (.int s) μ = .ok (.int (a * s)) μ := s_muli (by omega) (by omega)
      have hb : a * s ≤ 12 ^ (k + 1) := by
        rw [Int.pow_succ]
        exact Int.mul_le_mul h1 hv.2 (by omega) (by omega)
      obtain ⟨o', e⟩ := count_loop hg vs (k + 1) (a * s) (some (.int s)) (fun w hw => h w (List.mem_cons_of_mem _ hw)) (Int.mul_nonneg h0 (by omega)) hb (by simp at h2; omega)
      have hb1 : ex C B126_1 [some f0, some (.int a), some (.int s)] μ = .nx [some f0, some (.int (a * s)), some (.int s)] μ := by simp [B126_1, hm]
      exact ⟨o', by rw [forL_step rfl hb1 hg, e, prodV, Int.mul_assoc]⟩
    | _ => simp [sizeOk] at hv
theorem r_count_of (h126 : P 126 = some F126) {vs : List Val} (h : ∀ v ∈ vs, sizeOk v = true) (hl : vs.length ≤ 30) : run P (n + 1) 126 [.tup vs] μ = .ok (.int (prodV vs)) μ := by
  rw [run_succ (h126) _ _ rfl]
  obtain ⟨o', e⟩ := count_loop (C := run P n) (src := .tup vs) (f0 := .tup vs) (all := vs) (μ := μ) rfl vs 0 1 none h (by decide) (by decide) (by omega)
  simp [F126, enter, e, cleanO_same]
end
end Mi
end

section
set_option linter.all false
set_option autoImplicit false
/-! PRecs: records_of. -/
namespace Mi
def stepR (s : Int) (r : List Val) : List (List Val) := (List.range s.toNat).map fun i => r ++ [.int (i : Nat)]
def recsF : List (List Val) → List Int → List (List Val)
  | found, [] => found
  | found, s :: ss => recsF (found.flatMap (stepR s)) ss
def recsOf (fr : List Int) : List (List Val) := recsF [[]] fr
theorem stepR_len (s : Int) (r : List Val) : (stepR s r).length = s.toNat := by simp [stepR]
theorem flatMap_len (s : Int) : ∀ (l : List (List Val)), (l.flatMap (stepR s)).length = l.length * s.toNat
  | [] => by simp
  | r :: l => by rw [List.flatMap_cons, List.length_append, stepR_len, flatMap_len s l, List.length_cons, Nat.succ_mul]; omega
theorem set_app {μ g : Sto} {k : Nat} {c : Cell} (h : μ.length ≤ k) : (μ ++ g).set k c = μ ++ g.set (k - μ.length) c := by
  rw [List.set_append_right _ _ h]
section
variable {C : CallF} {μ : Sto}
/-- one record is made longer -/
theorem recs_one {g : Sto} {k kf : Nat} {v0 : Val} {s : Int} {r : List Val} {xs : List Val} {o5 : Option Val} (hk : μ.length ≤ k) (hx : (μ ++ g)[k]? = some (.lst xs)) (hr : r.length ≤ 1000) (hs : 0 ≤ s) (hs2 : s ≤ 1000) (hl : xs.length ≤ 1000000) :
    ∃ g', ex C B127_1 [some v0, some (.ref kf), some (.int s), some (.ref k), some (.tup r), o5] (μ ++ g) = .nx [some v0, some (.ref kf), some (.int s), some (.ref k), some (.tup r), o5] (μ ++ g') ∧ (μ ++ g')[k]? = some (.lst (xs ++ (stepR s r).map .tup)) ∧ ∀ j, j ≠ k → j < (μ ++ g).length → (μ ++ g')[j]? = (μ ++ g)[j]? := by
  have hkl : k < (μ ++ g).length := (List.getElem?_eq_some_iff.mp hx).1
  have hc : compL (fun v => bindT (.nm 5) v [some v0, some (.ref kf), some (.int s), some (.ref k), some (.tup r), o5]) (ev C (.cst (.bl true))) (ev C (.op2 .add (.var 4) (.tupE (.cons (.var 5) .nil)))) (.tup ((List.range s.toNat).map fun i => Val.int (i : Nat))) ((List.range s.toNat).map fun i => Val.int (i : Nat)) ((List.range s.toNat).map fun i => Val.int (i : Nat)) (μ ++ g) = .ok (((List.range s.toNat).map fun i => Val.int (i : Nat)).map fun v => .tup (r ++ [v])) (μ ++ g) := by
    refine compL_map rfl fun x hx => ⟨_, rfl, rfl, ?_⟩
    simp [s_addt (μ := μ ++ g) (xs := r) (ys := [x]) (by simp [LIM]; omega)]
  have hm : ((List.range s.toNat).map fun i => Val.int (i : Nat)).map (fun v => Val.tup (r ++ [v])) = (stepR s r).map .tup := by
    simp [stepR]
  rw [hm] at hc
  simp only [bindT_nm, List.set_cons_succ, List.set_cons_zero] at hc
  have h1 : -(16777216 : Int) ≤ s := by omega
  have h2 : s ≤ 16777216 := by omega
  have h3 : s.toNat ≤ 16777216 := by omega
  have u1 : ∀ X : Sto, (μ ++ (g ++ X))[k]? = some (.lst xs) := fun X => by rw [← List.append_assoc, List.getElem?_append_left hkl]; exact hx
  have u2 : ∀ c : Cell, (μ ++ (g ++ [c]))[μ.length + g.length]? = some c := fun c => by rw [← List.append_assoc, List.getElem?_append_right (by simp)]; simp
  have hlen : xs.length + (stepR s r).length ≤ 16777216 := by rw [stepR_len]; omega
  refine ⟨(g ++ [Cell.lst ((stepR s r).map Val.tup)]).set (k - μ.length) (Cell.lst (xs ++ (stepR s r).map Val.tup)), ?_, ?_, ?_⟩
  · rw [← set_app hk]
    simp [B127_1, hx, h1, h2, h3, hc, newLst, u1, u2, hlen]
  · rw [← set_app hk, List.getElem?_set_self (by simp at hkl ⊢; omega)]
  · intro j hj hjl
    rw [← set_app hk, List.getElem?_set_ne (Ne.symm hj), ← List.append_assoc, List.getElem?_append_left hjl]
/-- all records are made longer -/
theorem recs_inner {g : Sto} {kf k : Nat} {v0 : Val} {s : Int} {found : List (List Val)} {o4 o5 : Option Val} (hk : μ.length ≤ k) (hkf : kf ≠ k) (hf : (μ ++ g)[kf]? = some (.lst (found.map .tup))) (hx : (μ ++ g)[k]? = some (.lst [])) (hr : ∀ r ∈ found, r.length ≤ 1000) (hs : 0 ≤ s) (hs2 : s ≤ 12) (hl : found.length ≤ 1000) :
    ∃ g' o4' o5', forL (bindT (.nm 4)) (ex C B127_1) (.ref kf) (found.map .tup) (found.map .tup) [some v0, some (.ref kf), some (.int s), some (.ref k), o4, o5] (μ ++ g) = .nx [some v0, some (.ref kf), some (.int s), some (.ref k), o4', o5'] (μ ++ g') ∧ (μ ++ g')[k]? = some (.lst ((found.flatMap (stepR s)).map .tup)) := by
  obtain ⟨ρ', μ', e, ⟨g', o4', o5', rfl, rfl, h1, h2⟩⟩ := forL_all (bind := bindT (.nm 4)) (body := ex C B127_1) (src := .ref kf) (all := found.map .tup)
    (I := fun j ρ μ' => ∃ g' o4' o5', ρ = [some v0, some (.ref kf), some (.int s), some (.ref k), o4', o5'] ∧ μ' = μ ++ g' ∧ (μ ++ g')[kf]? = some (.lst (found.map .tup)) ∧ (μ ++ g')[k]? = some (.lst (((found.take j).flatMap (stepR s)).map .tup)))
    (xs := found.map .tup) (i := 0) (ρ := [some v0, some (.ref kf), some (.int s), some (.ref k), o4, o5]) (μ := μ ++ g) ⟨g, o4, o5, rfl, rfl, hf, by simpa using hx⟩
    (fun j x ρ μ' hj hI => by
      obtain ⟨g1, p4, p5, rfl, rfl, h1, h2⟩ := hI
      rw [Nat.zero_add] at h2 ⊢
      rw [List.getElem?_map] at hj
      cases hr' : found[j]? with
      | none => rw [hr'] at hj; cases hj
      | some r =>
        rw [hr'] at hj
        cases hj
        have hjl : j < found.length := (List.getElem?_eq_some_iff.mp hr').1
        have hlen : (((found.take j).flatMap (stepR s)).map Val.tup).length ≤ 1000000 := by
          rw [List.length_map, flatMap_len, List.length_take]
          have : min j found.length * s.toNat ≤ 1000 * 12 := Nat.mul_le_mul (by omega) (by omega)
          omega
        obtain ⟨g2, e2, h3, h4⟩ := recs_one (C := C) (v0 := v0) (kf := kf) (o5 := p5) hk h2 (hr r (List.mem_of_getElem? hr')) hs (by omega) hlen
        have hkfl : kf < (μ ++ g1).length := (List.getElem?_eq_some_iff.mp h1).1
        have h5 : (μ ++ g2)[kf]? = some (.lst (found.map .tup)) := by rw [h4 kf hkf hkfl]; exact h1
        refine ⟨_, _, _, rfl, .inl e2, ?_, g2, some (.tup r), p5, rfl, rfl, h5, ?_⟩
        · show decide (_ = _) = true
          exact decide_eq_true h5
        · rw [h3, List.take_add_one, hr']
          simp)
  refine ⟨g', o4', o5', e, ?_⟩
  rw [h2]
  simp
/-- the whole walk -/
theorem recs_outer {src : Val} {all : List Val} {v0 : Val} (hg : ∀ μ, guard src all μ = true) : ∀ (ss : List Int) (found : List (List Val)) (g : Sto) (kf b : Nat) (o2 o3 o4 o5 : Option Val), (∀ s ∈ ss, 0 ≤ s ∧ s ≤ 12) → (μ ++ g)[kf]? = some (.lst (found.map .tup)) → μ.length ≤ kf → (∀ r ∈ found, r.length ≤ b) → b + ss.length ≤ 1000 → (∀ n, n ≤ ss.length → (recsF found (ss.take n)).length ≤ 1000) →
    ∃ g' kf' o2' o3' o4' o5', forL (bindT (.nm 2)) (ex C B127_2) src all (ss.map .int) [some v0, some (.ref kf), o2, o3, o4, o5] (μ ++ g) = .nx [some v0, some (.ref kf'), o2', o3', o4', o5'] (μ ++ g') ∧ (μ ++ g')[kf']? = some (.lst ((recsF found ss).map .tup)) ∧ μ.length ≤ kf'
  | [], found, g, kf, b, o2, o3, o4, o5, _, hf, hk, _, _, _ => ⟨g, kf, o2, o3, o4, o5, rfl, hf, hk⟩
  | s :: ss, found, g, kf, b, o2, o3, o4, o5, hs, hf, hk, hr, hb, hl => by
    have hkl : kf < (μ ++ g).length := (List.getElem?_eq_some_iff.mp hf).1
    have hs1 := hs s (List.mem_cons_self ..)
    obtain ⟨g1, p4, p5, e1, h1⟩ := recs_inner (C := C) (μ := μ) (g := g ++ [.lst []]) (kf := kf) (k := (μ ++ g).length) (v0 := v0) (s := s) (found := found) (o4 := o4) (o5 := o5) (by simp) (by omega) (by rw [← List.append_assoc, List.getElem?_append_left hkl]; exact hf) (by rw [← List.append_assoc, List.getElem?_append_right (Nat.le_refl _)]; simp) (fun r h => by have := hr r h; omega) hs1.1 hs1.2 (by simpa [recsF] using hl 0 (by omega))
    have hfl : ∀ r ∈ found.flatMap (stepR s), r.length ≤ b + 1 := fun r h => by
      obtain ⟨q, hq, hr'⟩ := List.mem_flatMap.mp h
      obtain ⟨i, _, rfl⟩ := List.mem_map.mp hr'
      have := hr q hq
      simp; omega
    obtain ⟨g', kf', o2', o3', o4', o5', e2, h2, h3⟩ := recs_outer hg ss (found.flatMap (stepR s)) g1 (μ ++ g).length (b + 1) (some (.int s)) (some (.ref (μ ++ g).length)) p4 p5 (fun x hx => hs x (List.mem_cons_of_mem _ hx)) h1 (by simp) hfl (by simp at hb; omega) (fun n hn => by simpa [recsF] using hl (n + 1) (by simp; omega))
    refine ⟨g', kf', o2', o3', o4', o5', ?_, h2, h3⟩
    have hb1 : ex C B127_2 [some v0, some (.ref kf), some (.int s), o3, o4, o5] (μ ++ g) = .nx [some v0, some (.ref (μ ++ g).length), some (.int s), some (.ref (μ ++ g).length), p4, p5] (μ ++ g1) := by
      have hf' : (μ ++ (g ++ [Cell.lst []]))[kf]? = some (.lst (found.map .tup)) := by rw [← List.append_assoc, List.getElem?_append_left hkl]; exact hf
      simp only [List.length_append] at e1
      simp [B127_2, newLst, hf', e1]
    exact (forL_step (x := .int s) rfl hb1 (hg _)).trans e2
theorem recsF_bound : ∀ (ss : List Int) (found : List (List Val)) (b : Nat), (∀ r ∈ found, r.length ≤ b) → ∀ r ∈ recsF found ss, r.length ≤ b + ss.length
  | [], found, b, h, r, hr => by simpa using h r hr
  | s :: ss, found, b, h, r, hr => by
    have := recsF_bound ss (found.flatMap (stepR s)) (b + 1) (fun q hq => by
      obtain ⟨q', hq', h'⟩ := List.mem_flatMap.mp hq
      obtain ⟨i, _, rfl⟩ := List.mem_map.mp h'
      have := h q' hq'
      simp; omega) r hr
    simp; omega
theorem recsF_nor : ∀ (ss : List Int) (found : List (List Val)), (∀ r ∈ found, ∀ v ∈ r, ∃ i, v = .int i) → ∀ r ∈ recsF found ss, ∀ v ∈ r, ∃ i, v = .int i
  | [], found, h => h
  | s :: ss, found, h => recsF_nor ss (found.flatMap (stepR s)) fun q hq => by
    obtain ⟨q', hq', h'⟩ := List.mem_flatMap.mp hq
    obtain ⟨i, _, rfl⟩ := List.mem_map.mp h'
    intro v hv
    rcases List.mem_append.mp hv with hv | hv
    · exact h q' hq' v hv
    · exact ⟨_, List.mem_singleton.mp hv⟩
theorem recsF_len : ∀ (ss : List Int) (found : List (List Val)), (recsF found ss).length = found.length * (ss.map Int.toNat).prod
  | [], found => by simp [recsF]
  | s :: ss, found => by rw [recsF, recsF_len ss, flatMap_len, List.map_cons, List.prod_cons, Nat.mul_assoc]
end
end Mi
end

section
set_option linter.all false
set_option autoImplicit false
/-! TSame: _law_same of equal things. -/
namespace Mi
mutual
/-- a value without cells, its tuples of a measure -/
def smp : Val → Bool
  | .ref _ => false
  | .scr _ => false
  | .tup vs => decide (vs.length ≤ 16777216) && smps vs
  | _ => true
def smps : List Val → Bool
  | [] => true
  | v :: vs => smp v && smps vs
end
mutual
def dpt : Val → Nat
  | .tup vs => dpts vs + 1
  | _ => 0
def dpts : List Val → Nat
  | [] => 0
  | v :: vs => max (dpt v) (dpts vs)
end
theorem smps_mem : ∀ {vs : List Val}, smps vs = true → ∀ v ∈ vs, smp v = true
  | w :: vs, h, v, hv => by
    rw [smps, Bool.and_eq_true] at h
    rcases List.mem_cons.mp hv with e | hv
    · rw [e]; exact h.1
    · exact smps_mem h.2 v hv
theorem smps_of : ∀ {vs : List Val}, (∀ v ∈ vs, smp v = true) → smps vs = true
  | [], _ => rfl
  | v :: vs, h => by
    rw [smps, Bool.and_eq_true]
    exact ⟨h v (List.mem_cons_self ..), smps_of fun w hw => h w (List.mem_cons_of_mem _ hw)⟩
theorem dpts_mem : ∀ {vs : List Val} (v : Val), v ∈ vs → dpt v ≤ dpts vs
  | w :: vs, v, hv => by
    rw [dpts]
    rcases List.mem_cons.mp hv with e | hv
    · rw [e]; omega
    · have := dpts_mem v hv
      omega
theorem dpts_le {n : Nat} : ∀ {vs : List Val}, (∀ v ∈ vs, dpt v ≤ n) → dpts vs ≤ n
  | [], _ => Nat.zero_le _
  | v :: vs, h => by
    rw [dpts]
    have h1 := h v (List.mem_cons_self ..)
    have h2 := dpts_le fun w hw => h w (List.mem_cons_of_mem _ hw)
    omega
section
variable {P : Nat → Option Fn} {μ : Sto}
theorem r_same (h238 : P 238 = some F238) : ∀ (n : Nat) (v : Val), smp v = true → dpt v ≤ n → run P (n + 1) 238 [v, v] μ = .ok (.bl true) μ := by
  intro n
  induction n with
  | zero =>
    intro v hs hd
    rw [run_succ h238 _ _ rfl]
    cases v with
    | tup vs => rw [dpt] at hd; omega
    | ref k => simp [smp] at hs
    | scr k => simp [smp] at hs
    | _ => simp [F238, enter, isTys1, isTy, cleanO_same]
  | succ n ih =>
    intro v hs hd
    rw [run_succ h238 _ _ rfl]
    cases v with
    | tup vs =>
      rw [smp, Bool.and_eq_true, decide_eq_true_eq] at hs
      rw [dpt] at hd
      have h3 : (vs.length : Int) ≤ 16777216 := by omega
      have h4 : -(16777216 : Int) ≤ (vs.length : Int) := by omega
      obtain ⟨ρ', μ', e, rfl, o, rfl⟩ := forL_all (bind := bindT (.nm 2)) (body := ex (run P (n + 1)) B238_1) (src := .tup ((List.range vs.length).map fun i => Val.int (i : Nat))) (all := (List.range vs.length).map fun i => Val.int (i : Nat))
        (I := fun j ρ μ' => μ = μ' ∧ ∃ o, ρ = [some (.tup vs), some (.tup vs), o]) (xs := (List.range vs.length).map fun i => Val.int (i : Nat)) (i := 0) (ρ := [some (.tup vs), some (.tup vs), none]) (μ := μ) ⟨rfl, none, rfl⟩
          (fun j x ρ μ' hx hI => by
            obtain ⟨rfl, o, rfl⟩ := hI
            obtain ⟨hjn, rfl⟩ := rng_at hx
            have hw : vs[j]? = some vs[j] := List.getElem?_eq_getElem hjn
            have hm := List.mem_of_getElem? hw
            have hb : ex (run P (n + 1)) B238_1 [some (.tup vs), some (.tup vs), some (.int (j : Nat))] μ = .nx [some (.tup vs), some (.tup vs), some (.int (j : Nat))] μ := by
              simp [B238_1, place_nat hjn, hw, ih _ (smps_mem hs.2 _ hm) (Nat.le_trans (dpts_mem _ hm) (by omega))]
            exact ⟨_, _, _, rfl, .inl hb, rfl, rfl, _, rfl⟩)
      simp [F238, enter, isTys1, isTy, h3, h4, e, cleanO_same]
    | ref k => simp [smp] at hs
    | scr k => simp [smp] at hs
    | _ => simp [F238, enter, isTys1, isTy, cleanO_same]
end
end Mi
end

section
set_option linter.all false
set_option autoImplicit false
/-! TCoin: the law's draws. -/
namespace Mi
def tc (p : Nat) (c m r : Int) : Cell := .lst [.ref p, .int c, .int m, .int r]
theorem cleanO_set {μ : Sto} {t : Nat} {c : Cell} {v : Val} (hc : c.under μ.length = true) (hv : v.under μ.length = true) : cleanO μ (.ok v (μ.set t c)) = .ok v (μ.set t c) := by
  rw [cleanO_take ?_ hv, List.take_of_length_le (by simp)]
  refine stable_of (by simp) fun k hk => ?_
  by_cases h : t = k
  · subst h
    exact .inr ⟨c, by simp [hk], hc⟩
  · exact .inl (by rw [List.getElem?_set_ne h])
theorem tc_under {p n : Nat} {c m r : Int} (h : p < n) : (tc p c m r).under n = true := by
  simp [tc, Cell.under, underAll, Val.under, h]
theorem set_self {μ : Sto} {t : Nat} {c : Cell} (h : μ[t]? = some c) : μ.set t c = μ := by
  apply List.ext_getElem?
  intro i
  by_cases hi : t = i
  · subst hi
    rw [List.getElem?_set_self (List.getElem?_eq_some_iff.mp h).1, h]
  · rw [List.getElem?_set_ne hi]
/-- what stands of a till -/
structure Till (μ : Sto) (t p : Nat) (purse : List Int) (r : Int) (N : Int) (c m : Int) : Prop where
  at_ : μ[t]? = some (tc p c m r)
  pu : μ[p]? = some (.lst (purse.map .int))
  ne : t ≠ p
  c0 : 0 ≤ c
  c1 : c ≤ N
  m0 : 0 ≤ m
  m1 : m < 2147470379
  r0 : 0 ≤ r
section
variable {P : Nat → Option Fn} {μ : Sto}
theorem r_coin (h268 : P 268 = some F268) {n t p : Nat} {purse : List Int} {r N c m : Int} (T : Till μ t p purse r N c m) (hN : N ≤ 1000000000) (pl many : Int) : ∃ x c' m', run P (n + 1) 268 [.ref t, .int pl, .int many] μ = .ok (.int x) (μ.set t (tc p c' m' r)) ∧ 0 ≤ x ∧ (x < many ∨ x = 0) ∧ c ≤ c' ∧ c' ≤ c + 1 ∧ 0 ≤ m' ∧ m' < 2147470379 := by
  have ht : t < μ.length := (List.getElem?_eq_some_iff.mp T.at_).1
  have hp : p < μ.length := (List.getElem?_eq_some_iff.mp T.pu).1
  have hT := T.at_
  have hc0 := T.c0
  have hc1 := T.c1
  have hm0 := T.m0
  have hm1 := T.m1
  have hr0 := T.r0
  rw [run_succ h268 _ _ rfl]
  by_cases h2 : many < 2
  · refine ⟨0, c, m, ?_, by omega, .inr rfl, by omega, by omega, hm0, hm1⟩
    have e := set_self hT
    simp [F268, enter, h2, cleanO_same, e]
  · have k1 : ∀ μ, sem2 .mul (.int m) (.int 29009) μ = .ok (.int (m * 29009)) μ := by intro μ; exact s_muli (by omega) (by omega)
    have k2 : ∀ μ, sem2 .mul (.int (c + 1)) (.int 1627) μ = .ok (.int ((c + 1) * 1627)) μ := by intro μ; exact s_muli (by omega) (by omega)
    obtain ⟨m', hm'⟩ : ∃ m', m' = (m * 29009 + (c + 1) * 1627 + 3) % 2147470379 := ⟨_, rfl⟩
    have k3 : ∀ μ, sem2 .mod (.int (m * 29009 + (c + 1) * 1627 + 3)) (.int 2147470379) μ = .ok (.int m') μ := by intro μ; rw [hm']; exact s_mod (by omega)
    have k4 : ∀ μ, sem2 .fdiv (.int m') (.int 32) μ = .ok (.int (m' / 32)) μ := by intro μ; exact s_fdiv (by omega) (by omega)
    have hb0 : 0 ≤ m' := by rw [hm']; exact Int.emod_nonneg _ (by omega)
    have hb1 : m' < 2147470379 := by rw [hm']; exact Int.emod_lt_of_pos _ (by omega)
    have km : ∀ w μ, sem2 .mod (.int w) (.int many) μ = .ok (.int (w % many)) μ := fun w μ => s_mod (by omega)
    have fin' : ∀ w : Int, cleanO μ (.ok (.int w) (μ.set t (tc p (c + 1) m' r))) = .ok (.int w) (μ.set t (tc p (c + 1) m' r)) := fun w => cleanO_set (tc_under hp) rfl
    have out : ∀ w : Int, 0 ≤ w % many ∧ (w % many < many ∨ w % many = 0) := fun w => ⟨Int.emod_nonneg _ (by omega), .inl (Int.emod_lt_of_pos _ (by omega))⟩
    have pl0 : place 4 0 = some 0 := rfl
    have pl1 : place 4 1 = some 1 := rfl
    have pl2 : place 4 2 = some 2 := rfl
    have pl3 : place 4 3 = some 3 := rfl
    have sg : ∀ X : Cell, (μ.set t X)[t]? = some X := fun X => List.getElem?_set_self ht
    have sp : ∀ X : Cell, (μ.set t X)[p]? = some (.lst (purse.map .int)) := fun X => by rw [List.getElem?_set_ne T.ne]; exact T.pu
    unfold tc at hT fin'
    have k5 : ∀ μ, sem2 .mod (.int (pl + r)) (.int 4) μ = .ok (.int ((pl + r) % 4)) μ := fun μ => s_mod (by omega)
    have done : ∀ {o : Out Val} (w : Int), o = .ok (.int (w % many)) (μ.set t (.lst [.ref p, .int (c + 1), .int m', .int r])) → ∃ x c' m'_1, o = .ok (.int x) (μ.set t (tc p c' m'_1 r)) ∧ 0 ≤ x ∧ (x < many ∨ x = 0) ∧ c ≤ c' ∧ c' ≤ c + 1 ∧ 0 ≤ m'_1 ∧ m'_1 < 2147470379 :=
      fun w e => ⟨w % many, c + 1, m', e, (out w).1, (out w).2, by omega, by omega, hb0, hb1⟩
    have p30 : place 3 0 = some 0 := rfl
    have p31 : place 3 1 = some 1 := rfl
    have p32 : place 3 2 = some 2 := rfl
    by_cases h3 : c + 1 ≤ (purse.length : Int)
    · have hc : c.toNat < purse.length := by omega
      have pc : place purse.length c = some c.toNat := place_pos hc0 (by omega)
      refine done (m' / 32 + purse[c.toNat]) ?_
      simp [F268, enter, h2, hT, pl0, pl1, pl2, pl3, k1, k2, k3, k4, sg, sp, h3, pc, hc, km, fin']
    · by_cases h4 : r < 3
      · by_cases h5 : (pl + r) % 4 = 0
        · rcases (show r = 0 ∨ r = 1 ∨ r = 2 by omega) with rfl | rfl | rfl
          · rw [Int.add_zero] at h5 k5
            refine done 0 ?_
            simp [F268, enter, h2, hT, pl0, pl1, pl2, pl3, k1, k2, k3, k4, k5, sg, sp, h3, h5, p30, km, fin']
          · refine done (many - 1) ?_
            simp [F268, enter, h2, hT, pl0, pl1, pl2, pl3, k1, k2, k3, k4, k5, sg, sp, h3, h5, p31, km, fin']
          · refine done pl ?_
            simp [F268, enter, h2, hT, pl0, pl1, pl2, pl3, k1, k2, k3, k4, k5, sg, sp, h3, h5, p32, km, fin']
        · refine done (m' / 32) ?_
          simp [F268, enter, h2, hT, pl0, pl1, pl2, pl3, k1, k2, k3, k4, k5, sg, sp, h3, h4, h5, km, fin']
      · refine done (m' / 32) ?_
        simp [F268, enter, h2, hT, pl0, pl1, pl2, pl3, k1, k2, k3, k4, k5, sg, sp, h3, h4, km, fin']
end
end Mi
end

section
set_option linter.all false
set_option autoImplicit false
/-! TStore: stores with a till in them; things of known kinds. -/
namespace Mi
theorem Till.draw {μ : Sto} {t p : Nat} {purse : List Int} {r N c m : Int} (T : Till μ t p purse r N c m) {c' m' : Int} (h1 : c ≤ c') (h2 : c' ≤ c + 1) (h3 : 0 ≤ m') (h4 : m' < 2147470379) : Till (μ.set t (tc p c' m' r)) t p purse r (N + 1) c' m' :=
  ⟨List.getElem?_set_self (List.getElem?_eq_some_iff.mp T.at_).1, by rw [List.getElem?_set_ne T.ne]; exact T.pu, T.ne, by have := T.c0; omega, by have := T.c1; omega, h3, h4, T.r0⟩
theorem Till.set {μ : Sto} {t p : Nat} {purse : List Int} {r N c m : Int} (T : Till μ t p purse r N c m) {k : Nat} {x : Cell} (h1 : k ≠ t) (h2 : k ≠ p) : Till (μ.set k x) t p purse r N c m :=
  ⟨by rw [List.getElem?_set_ne h1]; exact T.at_, by rw [List.getElem?_set_ne h2]; exact T.pu, T.ne, T.c0, T.c1, T.m0, T.m1, T.r0⟩
theorem Till.app {μ : Sto} {t p : Nat} {purse : List Int} {r N c m : Int} (T : Till μ t p purse r N c m) (g : Sto) : Till (μ ++ g) t p purse r N c m :=
  ⟨by rw [List.getElem?_append_left (List.getElem?_eq_some_iff.mp T.at_).1]; exact T.at_, by rw [List.getElem?_append_left (List.getElem?_eq_some_iff.mp T.pu).1]; exact T.pu, T.ne, T.c0, T.c1, T.m0, T.m1, T.r0⟩
theorem Till.le {μ : Sto} {t p : Nat} {purse : List Int} {r N M c m : Int} (T : Till μ t p purse r N c m) (h : N ≤ M) : Till μ t p purse r M c m :=
  ⟨T.at_, T.pu, T.ne, T.c0, by have := T.c1; omega, T.m0, T.m1, T.r0⟩
theorem Till.take {μ : Sto} {t p : Nat} {purse : List Int} {r N c m : Int} (T : Till μ t p purse r N c m) {n : Nat} (h1 : t < n) (h2 : p < n) : Till (μ.take n) t p purse r N c m :=
  ⟨by rw [List.getElem?_take_of_lt h1]; exact T.at_, by rw [List.getElem?_take_of_lt h2]; exact T.pu, T.ne, T.c0, T.c1, T.m0, T.m1, T.r0⟩
/-- what a call leaves of the store keeps the till -/
theorem Till.clean {μ μ' : Sto} {t p : Nat} {purse : List Int} {r N c m : Int} (T : Till μ' t p purse r N c m) (h1 : t < μ.length) (h2 : p < μ.length) (v : Val) : Till (clean μ v μ').2 t p purse r N c m := by
  unfold Mi.clean
  split
  · split
    · exact T.take h1 h2
    · split
      · split
        · split
          · exact (T.take h1 h2).app _
          · exact T
        · exact T
      · exact T
  · exact T
theorem clean_val {μ μ' : Sto} {v : Val} (h : ∀ k, v ≠ .ref k) : (clean μ v μ').1 = v := by
  unfold Mi.clean
  split
  · split
    · rfl
    · split
      · exact absurd rfl (h _)
      · rfl
  · rfl
def goodSizes (s : List Int) : Prop := ∀ x ∈ s, 1 ≤ x ∧ x ≤ 12
def prodI : List Int → Int
  | [] => 1
  | x :: xs => x * prodI xs
theorem prodI_append : ∀ (xs ys : List Int), prodI (xs ++ ys) = prodI xs * prodI ys
  | [], ys => by simp [prodI]
  | x :: xs, ys => by simp [prodI, prodI_append xs ys, Int.mul_assoc]
theorem prodI_pos : ∀ {xs : List Int}, goodSizes xs → 1 ≤ prodI xs
  | [], _ => by simp [prodI]
  | x :: xs, h => by
    have h1 := h x (List.mem_cons_self ..)
    have h2 := prodI_pos fun y hy => h y (List.mem_cons_of_mem _ hy)
    rw [prodI]
    have := Int.mul_le_mul h1.1 h2 (by omega) (by omega)
    omega
/-- lists stay lists -/
def Grow (μ μ' : Sto) : Prop := ∀ (k : Nat) (xs : List Val), μ[k]? = some (Cell.lst xs) → ∃ ys : List Val, μ'[k]? = some (Cell.lst ys)
theorem Grow.refl (μ : Sto) : Grow μ μ := fun _ xs h => ⟨xs, h⟩
theorem Grow.trans {a b c : Sto} (h1 : Grow a b) (h2 : Grow b c) : Grow a c := fun k xs h => let ⟨ys, h'⟩ := h1 k xs h; h2 k ys h'
theorem Grow.app (μ g : Sto) : Grow μ (μ ++ g) := fun k xs h => ⟨xs, by rw [List.getElem?_append_left (List.getElem?_eq_some_iff.mp h).1]; exact h⟩
theorem Grow.set (μ : Sto) (t : Nat) (zs : List Val) : Grow μ (μ.set t (.lst zs)) := fun k xs h => by
  by_cases e : t = k
  · subst e
    exact ⟨zs, List.getElem?_set_self (List.getElem?_eq_some_iff.mp h).1⟩
  · exact ⟨xs, by rw [List.getElem?_set_ne e]; exact h⟩
theorem Kn.grow {μ μ' : Sto} {v : Val} (h : Kn μ v) (g : Grow μ μ') : Kn μ' v := fun k e => let ⟨xs, q⟩ := h k e; g k xs q
theorem KnT.grow {μ μ' : Sto} {v : Val} (h : KnT μ v) (g : Grow μ μ') : KnT μ' v := ⟨h.1.grow g, fun w hw => (h.2 w hw).grow g⟩
theorem Kn.flat {μ : Sto} {v : Val} (h : ∀ k, v ≠ .ref k) : Kn μ v := fun k e => absurd e (h k)
theorem KnT.tup {μ : Sto} {vs : List Val} (h : ∀ w ∈ vs, Kn μ w) : KnT μ (.tup vs) := ⟨Kn.flat (by intro k z; cases z), h⟩
theorem KnT.one {μ : Sto} {v : Val} (h : Kn μ v) (h2 : items0 v = []) : KnT μ v := ⟨h, fun w hw => by rw [h2] at hw; cases hw⟩
theorem underAll_mem {n : Nat} : ∀ {vs : List Val}, underAll n vs = true → ∀ v ∈ vs, v.under n = true
  | w :: vs, h, v, hv => by
    rw [underAll, Bool.and_eq_true] at h
    rcases List.mem_cons.mp hv with e | hv
    · rw [e]; exact h.1
    · exact underAll_mem h.2 v hv
/-- a list given back by a call -/
theorem clean_ref {μ μ' : Sto} {k : Nat} {xs : List Val} (hk : μ.length ≤ k) (e : μ'[k]? = some (.lst xs)) (h : ∀ v ∈ xs, KnT μ' v) : ∃ k', (clean μ (.ref k) μ').1 = .ref k' ∧ (clean μ (.ref k) μ').2[k']? = some (.lst xs) ∧ (∀ v ∈ xs, KnT (clean μ (.ref k) μ').2 v) ∧ μ.length ≤ k' := by
  by_cases hs : stable μ μ' = true
  · by_cases hu : underAll μ.length xs = true
    · rw [clean_new hs hk e hu]
      have hl : μ.length ≤ μ'.length := by
        unfold stable at hs
        rw [Bool.and_eq_true] at hs
        simpa using hs.1
      refine ⟨μ.length, rfl, ?_, fun v hv => ?_, Nat.le_refl _⟩
      · rw [List.getElem?_append_right (by rw [List.length_take]; omega)]
        simp [Nat.min_eq_left hl]
      · have hvu := underAll_mem hu v hv
        have key : ∀ w : Val, w.under μ.length = true → Kn μ' w → Kn (μ'.take μ.length ++ [.lst xs]) w := fun w hw kw j ej => by
          obtain ⟨ys, hy⟩ := kw j ej
          subst ej
          rw [Val.under] at hw
          have hj : j < μ.length := by simpa using hw
          exact ⟨ys, by rw [List.getElem?_append_left (by rw [List.length_take]; omega), List.getElem?_take_of_lt hj]; exact hy⟩
        have kv := h v hv
        refine ⟨key v hvu kv.1, fun w hw => key w ?_ (kv.2 w hw)⟩
        cases v with
        | tup vs =>
          rw [Val.under] at hvu
          exact underAll_mem hvu w hw
        | _ => cases hw
    · refine ⟨k, ?_⟩
      have : clean μ (.ref k) μ' = (.ref k, μ') := by
        unfold clean
        rw [if_pos hs, if_neg (by rw [Val.under]; simp; exact hk)]
        simp only [e]
        rw [if_neg (by intro z; rw [Bool.and_eq_true] at z; exact hu z.1)]
      rw [this]
      exact ⟨rfl, e, h, hk⟩
  · refine ⟨k, ?_⟩
    have : clean μ (.ref k) μ' = (.ref k, μ') := by
      unfold clean
      rw [if_neg hs]
    rw [this]
    exact ⟨rfl, e, h, hk⟩
theorem cut_len {α : Type} (xs : List α) (a b : Nat) : (cut xs a b).length ≤ xs.length := by
  unfold cut
  rw [List.length_take, List.length_drop]; omega
theorem cut_mem {α : Type} {xs : List α} {a b : Nat} {x : α} (h : x ∈ cut xs a b) : x ∈ xs := List.mem_of_mem_drop (List.mem_of_mem_take h)
theorem mul_ex (xs : List Val) (k : Int) (h1 : -1000 ≤ k) (h2 : k ≤ 10) (h3 : xs.length ≤ 10) : ∃ M : List Val, (∀ μ, sem2 .mul (.tup xs) (.int k) μ = .ok (.tup M) μ) ∧ (∀ w ∈ M, w ∈ xs) ∧ M.length ≤ 100 := by
  refine ⟨(List.replicate k.toNat xs).flatten, fun μ => s_mult ⟨h1, by omega, by omega⟩, fun w hw => ?_, ?_⟩
  · obtain ⟨l, hl, hw⟩ := List.mem_flatten.mp hw
    rw [(List.mem_replicate.mp hl).2] at hw
    exact hw
  · simp
    have : k.toNat * xs.length ≤ 10 * 10 := Nat.mul_le_mul (by omega) h3
    omega
theorem add_ex (xs ys : List Val) {m n : Nat} (h1 : xs.length ≤ m) (h2 : ys.length ≤ n) (h : m + n ≤ 10000) : ∃ A : List Val, (∀ μ, sem2 .add (.tup xs) (.tup ys) μ = .ok (.tup A) μ) ∧ (∀ w ∈ A, w ∈ xs ∨ w ∈ ys) ∧ A.length ≤ m + n :=
  ⟨xs ++ ys, fun μ => s_addt (by simp only [LIM]; omega), fun w hw => List.mem_append.mp hw, by simp; omega⟩
/-- a place of a tuple is put anew -/
theorem put_ex (F : List Val) (v : Val) {m : Nat} (hF : F.length ≤ m) (hm : m ≤ 1000) (a : Int) : ∃ A B : List Val, (∀ μ, sem2 .add (.tup (cut F 0 (clip F.length a))) (.tup [v]) μ = .ok (.tup A) μ) ∧ (∀ μ, sem2 .add (.tup A) (.tup (cut F (clip F.length (a + 1)) F.length)) μ = .ok (.tup B) μ) ∧ (∀ w ∈ B, w ∈ F ∨ w = v) ∧ B.length ≤ 2 * m + 1 := by
  obtain ⟨A, h1, h2, h3⟩ := add_ex (cut F 0 (clip F.length a)) [v] (m := m) (n := 1) (by have := cut_len F 0 (clip F.length a); omega) (by simp) (by omega)
  obtain ⟨B, h4, h5, h6⟩ := add_ex A (cut F (clip F.length (a + 1)) F.length) (m := m + 1) (n := m) h3 (by have := cut_len F (clip F.length (a + 1)) F.length; omega) (by omega)
  refine ⟨A, B, h1, h4, fun w hw => ?_, by omega⟩
  rcases h5 w hw with hw | hw
  · rcases h2 w hw with hw | hw
    · exact .inl (cut_mem hw)
    · exact .inr (List.mem_singleton.mp hw)
  · exact .inl (cut_mem hw)
/-- a comprehension that may change the store -/
theorem compL_all {bind : Val → Option Loc} {cond elt : Loc → Sto → Out Val} {src : Val} {all : List Val} {I : Nat → Sto → Prop} {Q : Val → Prop} : ∀ {xs : List Val} {i : Nat} {μ : Sto}, I i μ → (∀ j x μ, x ∈ xs → j < i + xs.length → I j μ → ∃ ρ y μ2, bind x = some ρ ∧ cond ρ μ = .ok (.bl true) μ ∧ elt ρ μ = .ok y μ2 ∧ guard src all μ2 = true ∧ I (j + 1) μ2 ∧ Q y) →
    ∃ ys μ', compL bind cond elt src all xs μ = .ok ys μ' ∧ I (i + xs.length) μ' ∧ (∀ y ∈ ys, Q y) ∧ ys.length = xs.length
  | [], i, μ, h, _ => ⟨[], μ, rfl, h, by simp, rfl⟩
  | x :: xs, i, μ, h, hs => by
    obtain ⟨ρ, y, μ2, h1, h2, h3, h4, h5, h6⟩ := hs i x μ (List.mem_cons_self ..) (by simp) h
    obtain ⟨ys, μ', e, h7, h8, h9⟩ := compL_all (xs := xs) (i := i + 1) h5 (fun j x μ hx hj hI => hs j x μ (List.mem_cons_of_mem _ hx) (by simp; omega) hI)
    refine ⟨y :: ys, μ', ?_, by rw [List.length_cons, show i + (xs.length + 1) = i + 1 + xs.length by omega]; exact h7, fun z hz => ?_, by simp [h9]⟩
    · rw [compL, h1]
      simp only [h2, h3, h4, if_true, e]
    · rcases List.mem_cons.mp hz with rfl | hz
      · exact h6
      · exact h8 z hz
theorem KnT_nor {v : Val} (h : v.nor = true) (μ : Sto) : KnT μ v := by
  have key : ∀ w : Val, w.nor = true → Kn μ w := fun w hw k e => by subst e; simp [Val.nor] at hw
  refine ⟨key v h, fun w hw => key w ?_⟩
  cases v with
  | tup vs => rw [Val.nor] at h; exact nors_mem h w hw
  | _ => cases hw
/-- all but the till stands -/
def Keeps (t : Nat) (μ μ' : Sto) : Prop := ∀ j, j < μ.length → j ≠ t → μ'[j]? = μ[j]?
theorem clean_keep {μ X : Sto} {v : Val} {j : Nat} (hj : j < μ.length) : (clean μ v X).2[j]? = X[j]? := by
  have key : μ.length ≤ X.length → ∀ g : Sto, (X.take μ.length ++ g)[j]? = X[j]? := fun hl g => by
    rw [List.getElem?_append_left (by rw [List.length_take]; omega), List.getElem?_take_of_lt hj]
  unfold Mi.clean
  split
  · rename_i hs
    have hl : μ.length ≤ X.length := by
      unfold stable at hs
      rw [Bool.and_eq_true] at hs
      simpa using hs.1
    split
    · exact List.getElem?_take_of_lt hj
    · split
      · split
        · split
          · exact key hl _
          · rfl
        · rfl
      · rfl
  · rfl
theorem Keeps.clean {t : Nat} {μ X : Sto} (h : Keeps t μ X) (v : Val) : Keeps t μ (clean μ v X).2 := fun j hj hjt => by rw [clean_keep hj]; exact h j hj hjt
section
variable {P : Nat → Option Fn} {μ : Sto} {t p : Nat} {purse : List Int} {r N c m : Int} {n : Nat}
/-- a draw, the store by a name -/
theorem coin_ex (h268 : P 268 = some F268) (T : Till μ t p purse r N c m) (hN : N ≤ 1000000000) (pl many : Int) : ∃ x μ2 c' m', run P (n + 1) 268 [.ref t, .int pl, .int many] μ = .ok (.int x) μ2 ∧ 0 ≤ x ∧ (x < many ∨ x = 0) ∧ Till μ2 t p purse r (N + 1) c' m' ∧ Grow μ μ2 ∧ (∀ j, j ≠ t → μ2[j]? = μ[j]?) ∧ μ2.length = μ.length := by
  obtain ⟨x, c1, m1, e1, x0, x1, b1, b2, b3, b4⟩ := r_coin h268 (n := n) T hN pl many
  exact ⟨x, _, c1, m1, e1, x0, x1, T.draw b1 b2 b3 b4, Grow.set _ _ _, fun j hj => List.getElem?_set_ne (Ne.symm hj), by simp⟩
end
end Mi
end

section
set_option linter.all false
set_option autoImplicit false
/-! TDraw: the law's frames. -/
namespace Mi
section
variable {P : Nat → Option Fn} (h268 : P 268 = some F268) {μ : Sto} {t p k : Nat} {purse : List Int} {r N c m : Int} {most fields form : Int} {n : Nat}
/-- amid the loop -/
structure FrI (t p k : Nat) (purse : List Int) (r N most fields form : Int) (j : Nat) (ρ : Loc) (μ : Sto) : Prop where
  ex : ∃ (c m room : Int) (told : List Int) (o6 o7 o8 o9 : Option Val), ρ = [some (.ref t), some (.int most), some (.int fields), some (.int form), some (.ref k), some (.int room), o6, o7, o8, o9] ∧ Till μ t p purse r (N + 3 * (j : Nat)) c m ∧ μ[k]? = some (.lst (told.map .int)) ∧
    told.length = j ∧ goodSizes told ∧ 1 ≤ room ∧ prodI told * room ≤ most ∧ k ≠ t ∧ k ≠ p
include h268
theorem fr_body (hN : N ≤ 100000000) (hmost : most ≤ 1000) {j : Nat} (hj : j < 10) {ρ : Loc} (h : FrI t p k purse r N most fields form j ρ μ) : ∃ ρ2 μ2, ex (run P (n + 1)) B239_1 (ρ.set 6 (some (.int (j : Nat)))) μ = .nx ρ2 μ2 ∧ FrI t p k purse r N most fields form (j + 1) ρ2 μ2 := by
  obtain ⟨c, m, room, told, o6, o7, o8, o9, rfl, T, hk, hl, hg, hr, hpr, kt, kp⟩ := h
  obtain ⟨top, htop⟩ : ∃ top, (if room < 12 then room else 12) = top := ⟨_, rfl⟩
  have ht1 : 1 ≤ top ∧ top ≤ 12 ∧ top ≤ room := by subst htop; split <;> omega
  obtain ⟨x, c1, m1, e1, x0, x1, b1, b2, b3, b4⟩ := r_coin h268 (n := n) T (by omega) 3 top
  have T1 := T.draw b1 b2 b3 b4
  have hk1 : (μ.set t (tc p c1 m1 r))[k]? = some (.lst (told.map .int)) := by rw [List.getElem?_set_ne (Ne.symm kt)]; exact hk
  have hpp := prodI_pos hg
  have hroom : room ≤ most := by
    have := Int.mul_le_mul hpp (Int.le_refl room) (by omega) (by omega)
    omega
  have hlim : told.length < 16777216 := by omega
  -- the end, the size once known
  have fin' : ∀ (μ3 : Sto) (c3 m3 size : Int), 1 ≤ size → size ≤ top → Till μ3 t p purse r (N + 3 * ((j + 1 : Nat) : Nat)) c3 m3 → μ3[k]? = some (.lst (told.map .int)) → FrI t p k purse r N most fields form (j + 1)
      [some (.ref t), some (.int most), some (.int fields), some (.int form), some (.ref k), some (.int (room / size)), some (.int (j : Nat)), o7, some (.int top), some (.int size)] (μ3.set k (.lst (told.map .int ++ [.int size]))) := by
    intro μ3 c3 m3 size s1 s2 T3 hk3
    have hkl : k < μ3.length := (List.getElem?_eq_some_iff.mp hk3).1
    refine ⟨c3, m3, room / size, told ++ [size], _, _, _, _, rfl, T3.set kt kp, by rw [List.getElem?_set_self hkl]; simp, by simp [hl], fun y hy => ?_, ?_, ?_, kt, kp⟩
    · rcases List.mem_append.mp hy with hy | hy
      · exact hg y hy
      · have := List.mem_singleton.mp hy
        omega
    · exact (Int.le_ediv_iff_mul_le (by omega)).mpr (by omega)
    · rw [prodI_append]
      have e : prodI [size] = size := by simp [prodI]
      rw [e, Int.mul_assoc]
      have h1 : size * (room / size) ≤ room := Int.mul_ediv_self_le (by omega)
      have h2 : prodI told * (size * (room / size)) ≤ prodI told * room := Int.mul_le_mul_of_nonneg_left h1 (by omega)
      omega
  have hfd : ∀ (size : Int) (μ : Sto), 1 ≤ size → size ≤ top → sem2 .fdiv (.int room) (.int size) μ = .ok (.int (room / size)) μ := fun size μ s1 s2 => s_fdiv (by omega) (by omega)
  have T1' : Till (μ.set t (tc p c1 m1 r)) t p purse r (N + 3 * ((j + 1 : Nat) : Nat)) c1 m1 := T1.le (by push_cast; omega)
  by_cases f0 : form = 0
  · subst f0
    obtain ⟨size, hs⟩ : ∃ size, (if top < 2 then top else 2) = size := ⟨_, rfl⟩
    have hs1 : 1 ≤ size ∧ size ≤ top := by subst hs; split <;> omega
    refine ⟨_, _, ?_, fin' _ c1 m1 size hs1.1 hs1.2 T1' hk1⟩
    simp [B239_1, htop, e1, hs, hk1, hlim, hfd _ _ hs1.1 hs1.2]
  · have sz : 1 ≤ 1 + x ∧ 1 + x ≤ top := by omega
    by_cases f1 : form = 1
    · subst f1
      obtain ⟨y, c2, m2, e2, y0, y1, d1, d2, d3, d4⟩ := r_coin h268 (n := n) T1 (by omega) 4 2
      have T2 := T1.draw d1 d2 d3 d4
      rw [List.set_set] at T2 e2
      have T2' : Till (μ.set t (tc p c2 m2 r)) t p purse r (N + 3 * ((j + 1 : Nat) : Nat)) c2 m2 := T2.le (by push_cast; omega)
      have hk2 : (μ.set t (tc p c2 m2 r))[k]? = some (.lst (told.map .int)) := by rw [List.getElem?_set_ne (Ne.symm kt)]; exact hk
      by_cases hy : y = 0
      · subst hy
        refine ⟨_, _, ?_, fin' _ c2 m2 1 (by omega) (by omega) T2' hk2⟩
        simp [B239_1, htop, e1, e2, hk2, hlim, hfd 1 _ (by omega) (by omega)]
      · refine ⟨_, _, ?_, fin' _ c2 m2 (1 + x) sz.1 sz.2 T2' hk2⟩
        simp [B239_1, htop, e1, e2, hy, hk2, hlim, hfd _ _ sz.1 sz.2]
    · by_cases f2 : form = 2
      · subst f2
        obtain ⟨y, c2, m2, e2, y0, y1, d1, d2, d3, d4⟩ := r_coin h268 (n := n) T1 (by omega) 5 3
        have T2 := T1.draw d1 d2 d3 d4
        rw [List.set_set] at T2 e2
        have T2' : Till (μ.set t (tc p c2 m2 r)) t p purse r (N + 3 * ((j + 1 : Nat) : Nat)) c2 m2 := T2.le (by push_cast; omega)
        have hk2 : (μ.set t (tc p c2 m2 r))[k]? = some (.lst (told.map .int)) := by rw [List.getElem?_set_ne (Ne.symm kt)]; exact hk
        obtain ⟨size, hs⟩ : ∃ size, (if top < 1 + y then top else 1 + y) = size := ⟨_, rfl⟩
        have hs1 : 1 ≤ size ∧ size ≤ top := by subst hs; split <;> omega
        refine ⟨_, _, ?_, fin' _ c2 m2 size hs1.1 hs1.2 T2' hk2⟩
        simp [B239_1, htop, e1, e2, hs, hk2, hlim, hfd _ _ hs1.1 hs1.2]
      · refine ⟨_, _, ?_, fin' _ c1 m1 (1 + x) sz.1 sz.2 T1' hk1⟩
        simp [B239_1, htop, e1, f0, f1, f2, hk1, hlim, hfd _ _ sz.1 sz.2]
theorem r_frame (hP : Ext (fun k => if k = 239 then some F239 else none) P) (hN : N ≤ 10000000) (hm1 : 1 ≤ most) (hmost : most ≤ 1000) (T : Till μ t p purse r N c m) : ∃ (fr : List Int) (μ' : Sto) (c' m' : Int), run P (n + 2) 239 [.ref t, .int most] μ = .ok (.tup (fr.map .int)) μ' ∧ Till μ' t p purse r (N + 21) c' m' ∧ 1 ≤ fr.length ∧ fr.length ≤ 6 ∧ goodSizes fr ∧ prodI fr ≤ most := by
  have h239 : P 239 = some F239 := hP 239 _ rfl
  have ht : t < μ.length := (List.getElem?_eq_some_iff.mp T.at_).1
  have hp : p < μ.length := (List.getElem?_eq_some_iff.mp T.pu).1
  obtain ⟨x, c1, m1, e1, x0, x1, b1, b2, b3, b4⟩ := r_coin h268 (n := n) T (by omega) 1 6
  have T1 := T.draw b1 b2 b3 b4
  obtain ⟨form, c2, m2, e2, f0, f1, d1, d2, d3, d4⟩ := r_coin h268 (n := n) T1 (by omega) 2 5
  have T2 := T1.draw d1 d2 d3 d4
  rw [List.set_set] at T2 e2
  obtain ⟨ρ3, μ3, e3, I3⟩ := forL_all (bind := bindT (.nm 6)) (body := ex (run P (n + 1)) B239_1) (src := .tup ((List.range (1 + x).toNat).map fun i => Val.int (i : Nat))) (all := (List.range (1 + x).toNat).map fun i => Val.int (i : Nat))
    (I := FrI t p μ.length purse r (N + 2) most (1 + x) form) (xs := (List.range (1 + x).toNat).map fun i => Val.int (i : Nat)) (i := 0) (ρ := [some (.ref t), some (.int most), some (.int (1 + x)), some (.int form), some (.ref μ.length), some (.int most), none, none, none, none]) (μ := μ.set t (tc p c2 m2 r) ++ [.lst []])
    ⟨c2, m2, most, [], _, _, _, _, rfl, (T2.app _).le (by push_cast; omega), by rw [List.getElem?_append_right (by simp)]; simp, rfl, fun y hy => (by cases hy), hm1, by simp [prodI], by omega, by omega⟩
    (fun j y ρ μ hy hI => by
      obtain ⟨hj, rfl⟩ := rng_at hy
      rw [Nat.zero_add] at hI ⊢
      obtain ⟨ρ2, μ2, e, h⟩ := fr_body h268 (n := n) (by omega) hmost (by omega) hI
      exact ⟨_, ρ2, μ2, rfl, .inl e, rfl, h⟩)
  obtain ⟨c3, m3, room, told, o6, o7, o8, o9, rfl, T3, hk, hl, hg, hr, hpr, kt, kp⟩ := I3
  have hlen : told.length = (1 + x).toNat := by rw [hl]; simp
  rw [show ((0 + ((List.range (1 + x).toNat).map fun i => Val.int (i : Nat)).length : Nat) : Int) = 1 + x by simp; omega] at T3
  obtain ⟨y, c4, m4, e4, y0, y1, g1, g2, g3, g4⟩ := r_coin h268 (n := n) T3 (by omega) 6 (1 + x)
  have T4 := T3.draw g1 g2 g3 g4
  obtain ⟨μ4, hμ4⟩ : ∃ μ4, μ3.set t (tc p c4 m4 r) = μ4 := ⟨_, rfl⟩
  rw [hμ4] at e4 T4
  have hk4 : μ4[μ.length]? = some (.lst (told.map .int)) := by rw [← hμ4, List.getElem?_set_ne (Ne.symm kt)]; exact hk
  have hkl : μ.length < μ4.length := (List.getElem?_eq_some_iff.mp hk4).1
  have hy : y.toNat ≤ told.length := by omega
  have cl : clip told.length y = y.toNat := by unfold clip; rw [if_neg (by omega)]; omega
  have u1 : ∀ X : Sto, (μ4 ++ X)[μ.length]? = some (.lst (told.map .int)) := fun X => by rw [List.getElem?_append_left hkl]; exact hk4
  have c1' : cut (told.map Val.int) y.toNat told.length = (told.drop y.toNat).map Val.int := by
    unfold cut
    rw [List.take_of_length_le (by simp), List.map_drop]
  have c2' : cut (told.map Val.int) 0 y.toNat = (told.take y.toNat).map Val.int := by
    unfold cut
    simp
  have hlim : (told.drop y.toNat).length + (told.take y.toNat).length ≤ 16777216 := by
    rw [List.length_drop, List.length_take]; omega
  have hadd : ∀ (Y : Sto) (a b : Nat), Y[a]? = some (.lst ((told.drop y.toNat).map Val.int)) → Y[b]? = some (.lst ((told.take y.toNat).map Val.int)) → sem2 .add (.ref a) (.ref b) Y = newLst ((told.drop y.toNat ++ told.take y.toNat).map Val.int) Y := fun Y a b h1 h2 => by
    rw [s_addr h1 h2 (by rw [List.length_map, List.length_map]; exact hlim), List.map_append]
  have hadd' := hadd (μ4 ++ [.lst ((told.drop y.toNat).map Val.int)] ++ [.lst ((told.take y.toNat).map Val.int)]) μ4.length (μ4.length + 1) (by rw [List.append_assoc, List.getElem?_append_right (by omega)]; simp) (by rw [List.append_assoc, List.getElem?_append_right (by omega)]; simp)
  have hx1 : -(16777216 : Int) ≤ 1 + x := by omega
  have hx2 : 1 + x ≤ 16777216 := by omega
  obtain ⟨X, hX⟩ : ∃ X, μ4 ++ [.lst ((told.drop y.toNat).map Val.int)] ++ [.lst ((told.take y.toNat).map Val.int)] ++ [.lst ((told.drop y.toNat ++ told.take y.toNat).map Val.int)] = X := ⟨_, rfl⟩
  have T5 : Till X t p purse r (N + 21) c4 m4 := by rw [← hX]; exact (((T4.app _).app _).app _).le (by omega)
  have eo : ex (run P (n + 1)) F239.body (enter F239 [.ref t, .int most]) μ = .ret (.tup ((told.drop y.toNat ++ told.take y.toNat).map Val.int)) X := by
    simp [F239, enter, e1, e2, newLst, hx1, hx2, e3, e4, hk4, u1, cl, c1', c2']
    simp only [List.append_assoc, List.map_drop, List.map_take, List.map_append, List.cons_append, List.nil_append] at hadd' hX
    rw [hadd']
    simp [newLst, ← hX]
  rw [run_succ h239 _ _ rfl, eo]
  refine ⟨told.drop y.toNat ++ told.take y.toNat, (clean μ (.tup ((told.drop y.toNat ++ told.take y.toNat).map Val.int)) X).2, c4, m4, ?_, T5.clean ht hp _, by simp; omega, by simp; omega, fun z hz => ?_, ?_⟩
  · show Out.ok (clean μ _ X).1 _ = _
    rw [clean_val (by intro k z; cases z)]
  · rcases List.mem_append.mp hz with hz | hz
    · exact hg z (List.mem_of_mem_drop hz)
    · exact hg z (List.mem_of_mem_take hz)
  · have e5 : prodI (told.drop y.toNat ++ told.take y.toNat) = prodI told := by
      rw [prodI_append, Int.mul_comm, ← prodI_append, List.take_append_drop]
    rw [e5]
    have := prodI_pos hg
    have := Int.mul_le_mul_of_nonneg_left hr (show 0 ≤ prodI told by omega)
    omega
end
end Mi
end

section
set_option linter.all false
set_option autoImplicit false
/-! TRecs: records of both kinds. -/
namespace Mi
theorem recs_tuple_nor (ss : List Int) : nors ((recsOf ss).map .tup) = true := nors_of fun v hv => by
  obtain ⟨r, hr, rfl⟩ := List.mem_map.mp hv
  refine nor_tup fun w hw => ?_
  obtain ⟨i, rfl⟩ := recsF_nor ss [[]] (by simp) r hr w hw
  rfl
theorem prod_toNat : ∀ {fr : List Int}, goodSizes fr → ((fr.map Int.toNat).prod : Int) = prodI fr
  | [], _ => rfl
  | x :: xs, h => by
    have h1 := h x (List.mem_cons_self ..)
    rw [List.map_cons, List.prod_cons, prodI, Int.natCast_mul, prod_toNat fun y hy => h y (List.mem_cons_of_mem _ hy), Int.toNat_of_nonneg (by omega)]
theorem prodI_take {fr : List Int} (h : goodSizes fr) (n : Nat) : prodI (fr.take n) ≤ prodI fr := by
  have e : prodI fr = prodI (fr.take n) * prodI (fr.drop n) := by rw [← prodI_append, List.take_append_drop]
  have h1 := prodI_pos (xs := fr.take n) fun y hy => h y (List.mem_of_mem_take hy)
  have h2 := prodI_pos (xs := fr.drop n) fun y hy => h y (List.mem_of_mem_drop hy)
  have := Int.mul_le_mul_of_nonneg_left h2 (show 0 ≤ prodI (fr.take n) by omega)
  omega
theorem recs_few {fr : List Int} (h : goodSizes fr) (hp : prodI fr ≤ 500) (n : Nat) : (recsF [[]] (fr.take n)).length ≤ 1000 := by
  rw [recsF_len]
  have e := prod_toNat (fr := fr.take n) fun y hy => h y (List.mem_of_mem_take hy)
  have := prodI_take h n
  simp only [List.length_singleton, Nat.one_mul]
  omega
section
variable {P : Nat → Option Fn} {μ : Sto} {n : Nat} {fr : List Int}
theorem r_records_of (h127 : P 127 = some F127) (h : goodSizes fr) (hp : prodI fr ≤ 500) (hl : fr.length ≤ 6) : run P (n + 1) 127 [.tup (fr.map .int)] μ = .ok (.tup ((recsOf fr).map .tup)) μ := by
  obtain ⟨g', kf', o2', o3', o4', o5', e, h1, h2⟩ := recs_outer (C := run P n) (μ := μ) (src := .tup (fr.map .int)) (all := fr.map .int) (v0 := .tup (fr.map .int)) (fun _ => rfl) fr [[]] [.lst [.tup []]] μ.length 0 none none none none (fun s hs => by have := h s hs; omega) (by rw [List.getElem?_append_right (Nat.le_refl _)]; simp) (Nat.le_refl _) (by simp) (by omega) (fun n _ => recs_few h hp n)
  rw [run_succ h127 _ _ rfl]
  have eo : ex (run P n) F127.body (enter F127 [.tup (fr.map .int)]) μ = .ret (.tup ((recsOf fr).map .tup)) (μ ++ g') := by
    simp [F127, enter, newLst, e, h1, recsOf]
  rw [eo]
  exact cleanO_app (nor_under _ (by rw [Val.nor]; exact recs_tuple_nor fr))
theorem r_law_records (h240 : P 240 = some F240) (h : goodSizes fr) (hp : prodI fr ≤ 500) (hl : fr.length ≤ 6) : run P (n + 1) 240 [.tup (fr.map .int)] μ = .ok (.ref μ.length) (μ ++ [.lst ((recsOf fr).map .tup)]) := by
  obtain ⟨g', kf', o2', o3', o4', o5', e, h1, h2⟩ := recs_outer (C := run P n) (μ := μ) (src := .tup (fr.map .int)) (all := fr.map .int) (v0 := .tup (fr.map .int)) (fun _ => rfl) fr [[]] [.lst [.tup []]] μ.length 0 none none none none (fun s hs => by have := h s hs; omega) (by rw [List.getElem?_append_right (Nat.le_refl _)]; simp) (Nat.le_refl _) (by simp) (by omega) (fun n _ => recs_few h hp n)
  rw [run_succ h240 _ _ rfl]
  rw [show B127_2 = B240_2 from rfl] at e
  have eo : ex (run P n) F240.body (enter F240 [.tup (fr.map .int)]) μ = .ret (.ref kf') (μ ++ g') := by
    simp [F240, enter, newLst, e]
  rw [eo]
  show cleanO μ (.ok (.ref kf') (μ ++ g')) = _
  rw [cleanO_new (stable_app μ g') h2 h1 (nors_under _ (recs_tuple_nor fr)), List.take_left' rfl]
  rfl
end
end Mi
end

section
set_option linter.all false
set_option autoImplicit false
/-! TGood: right frames. -/
namespace Mi
structure GoodF (fr : List Int) : Prop where
  l1 : 1 ≤ fr.length
  l2 : fr.length ≤ 6
  g : goodSizes fr
  p : prodI fr ≤ 500
theorem KnT_ints (μ : Sto) (fr : List Int) : KnT μ (.tup (fr.map .int)) := KnT_nor (by rw [Val.nor]; exact nors_ints fr) μ
theorem recs_smp {fr : List Int} (h : GoodF fr) : smp (.tup ((recsOf fr).map .tup)) = true ∧ dpt (.tup ((recsOf fr).map .tup)) ≤ 2 := by
  have hl : (recsOf fr).length ≤ 1000 := by
    have := recs_few h.g h.p fr.length
    rw [List.take_length] at this
    exact this
  have hb := recsF_bound fr [[]] 0 (by simp)
  have hn := recsF_nor fr [[]] (by simp)
  have h2 := h.l2
  refine ⟨?_, ?_⟩
  · rw [smp, Bool.and_eq_true]
    refine ⟨by simp; omega, smps_of fun v hv => ?_⟩
    obtain ⟨r, hr, rfl⟩ := List.mem_map.mp hv
    rw [smp, Bool.and_eq_true]
    refine ⟨by have := hb r hr; simp; omega, smps_of fun w hw => ?_⟩
    obtain ⟨i, rfl⟩ := hn r hr w hw
    rfl
  · rw [dpt]
    have : dpts ((recsOf fr).map .tup) ≤ 1 := dpts_le fun v hv => by
      obtain ⟨r, hr, rfl⟩ := List.mem_map.mp hv
      rw [dpt]
      have : dpts r ≤ 0 := dpts_le fun w hw => by
        obtain ⟨i, rfl⟩ := hn r hr w hw
        exact Nat.le_refl _
      omega
    omega
end Mi
end

section
set_option linter.all false
set_option autoImplicit false
set_option exponentiation.threshold 3000
/-! TTill: the till itself. -/
namespace Mi
/-- how often 149 goes into a coin -/
def ms149 (c : Int) : Nat := if c.toNat = 0 then 0 else c.toNat.log2 + 1
theorem ms_fall {c : Int} (h : 0 < c) : ms149 (c / 149) < ms149 c := by
  have h0 : c.toNat ≠ 0 := by omega
  have e : (c / 149).toNat = c.toNat / 149 := by omega
  unfold ms149
  rw [if_neg h0, e]
  split
  · omega
  · rename_i h1
    have h2 : (c.toNat / 2).log2 + 1 = c.toNat.log2 := by
      conv => rhs; rw [Nat.log2_def]
      rw [if_pos (by omega)]
    have h3 : (c.toNat / 149).log2 ≤ (c.toNat / 2).log2 := (Nat.le_log2 (by omega)).mpr (Nat.le_trans (Nat.log2_self_le h1) (by omega))
    omega
theorem ms_small {c : Int} (h : c < 2 ^ 1800) : ms149 c ≤ 1800 := by
  unfold ms149
  split
  · omega
  · rename_i h1
    have : c.toNat.log2 < 1800 := (Nat.log2_lt h1).mpr (by
      have h2 : (c.toNat : Int) < ((2 ^ 1800 : Nat) : Int) := by
        rw [Int.toNat_of_nonneg (by omega)]
        exact_mod_cast h
      exact_mod_cast h2)
    omega
def msOf (ρ : Loc) (_ : Sto) : Nat := match ρ[4]? with
  | some (some (Val.int c)) => ms149 c
  | _ => 0
/-- a coin's small change -/
theorem till_while {C : CallF} {ns : List Int} {sl : Cell} {B : Nat} (hB : B ≤ 10000000) (mill : Int) (o3 : Option Val) (coin : Int) (purse : List Int) (h0 : 0 ≤ coin) (hb : purse.length + ms149 coin ≤ B) : ∃ (purse' : List Int) (coin' : Int), whlN (ev C (.op2 .gt (.var 4) (.cst (.int 0)))) (ex C B267_1) FUEL [some (.scr ns), some (.ref 0), some (.int mill), o3, some (.int coin)] [.lst (purse.map .int), sl] = .nx [some (.scr ns), some (.ref 0), some (.int mill), o3, some (.int coin')] [.lst (purse'.map .int), sl] ∧ purse'.length ≤ B := by
  obtain ⟨ρ', μ', e, ⟨pu, co, rfl, rfl, h1, h2⟩, _⟩ := whl_all (c := ev C (.op2 .gt (.var 4) (.cst (.int 0)))) (body := ex C B267_1) (I := fun ρ μ => ∃ (pu : List Int) (co : Int), ρ = [some (.scr ns), some (.ref 0), some (.int mill), o3, some (.int co)] ∧ μ = [.lst (pu.map .int), sl] ∧ 0 ≤ co ∧ pu.length + ms149 co ≤ B)
    msOf
    (fun ρ μ hI => by
      obtain ⟨pu, co, rfl, rfl, c0, c1⟩ := hI
      by_cases hc : 0 < co
      · refine .inr ⟨_, _, by simp [hc], .inl (?_ : _ = OS.nx [some (.scr ns), some (.ref 0), some (.int mill), o3, some (.int (co / 149))] [.lst ((pu ++ [co % 149]).map .int), sl]), ⟨pu ++ [co % 149], co / 149, rfl, rfl, by omega, ?_⟩, ms_fall hc⟩
        · have hl : pu.length < 16777216 := by omega
          have k1 : ∀ μ, sem2 .mod (.int co) (.int 149) μ = .ok (.int (co % 149)) μ := fun μ => s_mod (by omega)
          have k2 : ∀ μ, sem2 .fdiv (.int co) (.int 149) μ = .ok (.int (co / 149)) μ := fun μ => s_fdiv (by omega) (by omega)
          simp [B267_1, k1, k2, hl]
        · have := ms_fall hc
          simp; omega
      · exact .inl ⟨_, by simp [hc], rfl⟩)
    (n := FUEL) (ρ := [some (.scr ns), some (.ref 0), some (.int mill), o3, some (.int coin)]) (μ := [.lst (purse.map .int), sl]) ⟨purse, coin, rfl, rfl, h0, hb⟩ (by
      show ms149 coin < FUEL
      have : (10000000 : Nat) < FUEL := by decide
      omega)
  exact ⟨pu, co, e, by omega⟩
section
variable {P : Nat → Option Fn} {n : Nat}
theorem r_till (h267 : P 267 = some F267) (ns : List Int) : ∃ (purse : List Int) (mill r : Int) (μ' : Sto), run P (n + 1) 267 [.scr ns] [] = .ok (.ref 2) μ' ∧ Till μ' 2 0 purse r 0 0 mill ∧ r < 12 := by
  obtain ⟨sl, hsl⟩ : ∃ sl : List Int, cut ns 0 (clip ns.length 58) = sl := ⟨_, rfl⟩
  have hsl58 : sl.length ≤ 58 := by
    rw [← hsl]
    unfold cut clip
    simp; omega
  obtain ⟨ρ', μ', e, pu, mill, o3, o4, rfl, rfl, m0, m1, hl⟩ := forL_all (bind := bindT (.nm 3)) (body := ex (run P n) B267_2) (src := .ref 1) (all := sl.map .int)
    (I := fun j ρ μ' => ∃ (pu : List Int) (mill : Int) (o3 o4 : Option Val), ρ = [some (.scr ns), some (.ref 0), some (.int mill), o3, o4] ∧ μ' = [.lst (pu.map .int), .lst (sl.map .int)] ∧ 0 ≤ mill ∧ mill < 2147470379 ∧ pu.length ≤ 1801 * j)
    (xs := sl.map .int) (i := 0) (ρ := [some (.scr ns), some (.ref 0), some (.int 41011), none, none]) (μ := [.lst [], .lst (sl.map .int)]) ⟨[], 41011, none, none, rfl, rfl, by omega, by omega, by simp⟩
    (fun j x ρ μ' hx hI => by
      obtain ⟨pu, mill, o3, o4, rfl, rfl, m0, m1, hl⟩ := hI
      rw [Nat.zero_add] at hl ⊢
      rw [List.getElem?_map] at hx
      cases hc : sl[j]? with
      | none => rw [hc] at hx; cases hx
      | some cell =>
        rw [hc] at hx
        cases hx
        have hj : j < sl.length := (List.getElem?_eq_some_iff.mp hc).1
        obtain ⟨big, hbig⟩ : ∃ big : Int, big = 2 ^ 1800 := ⟨_, rfl⟩
        have hb0 : 0 < big := by rw [hbig]; exact Int.pow_pos (by omega)
        have ks : ∀ μ, sem2 .shl (.int 1) (.int 1800) μ = .ok (.int big) μ := fun μ => by
          rw [hbig]
          show (if (0 : Int) ≤ 1800 ∧ (1800 : Int) ≤ 1000000 ∧ (1 : Int).natAbs < 2 ^ 64 then Out.ok (Val.int (1 * 2 ^ (1800 : Int).toNat)) μ else .fail) = _
          rw [if_pos (by decide), Int.one_mul]
          rfl
        obtain ⟨ab, hab⟩ : ∃ ab : Int, (if cell < 0 then -cell else cell) = ab := ⟨_, rfl⟩
        obtain ⟨coin, hcoin⟩ : ∃ coin, ab % big = coin := ⟨_, rfl⟩
        have c0 : 0 ≤ coin := by rw [← hcoin]; exact Int.emod_nonneg _ (by omega)
        have c1 : coin < 2 ^ 1800 := by rw [← hbig, ← hcoin]; exact Int.emod_lt_of_pos _ hb0
        have k1 : ∀ μ, sem2 .mod (.int ab) (.int big) μ = .ok (.int coin) μ := fun μ => by rw [← hcoin]; exact s_mod hb0
        have k2 : ∀ μ, sem2 .mul (.int mill) (.int 2089) μ = .ok (.int (mill * 2089)) μ := fun μ => s_muli (by omega) (by omega)
        have k3 : ∀ μ, sem2 .mod (.int coin) (.int 998897) μ = .ok (.int (coin % 998897)) μ := fun μ => s_mod (by omega)
        have k4 : ∀ μ, sem2 .mul (.int (coin % 998897)) (.int 3) μ = .ok (.int (coin % 998897 * 3)) μ := fun μ => s_muli (by omega) (by omega)
        obtain ⟨mill', hmill⟩ : ∃ mill', (mill * 2089 + coin % 998897 * 3 + 71) % 2147470379 = mill' := ⟨_, rfl⟩
        have k5 : ∀ μ, sem2 .mod (.int (mill * 2089 + coin % 998897 * 3 + 71)) (.int 2147470379) μ = .ok (.int mill') μ := fun μ => by rw [← hmill]; exact s_mod (by omega)
        have hms := ms_small c1
        obtain ⟨pu', co', e, hl'⟩ := till_while (C := run P n) (ns := ns) (sl := .lst (sl.map .int)) (B := 1801 * (j + 1)) (by omega) mill' (some (.int cell)) coin pu c0 (by omega)
        refine ⟨_, [some (.scr ns), some (.ref 0), some (.int mill'), some (.int cell), some (.int co')], [.lst (pu'.map .int), .lst (sl.map .int)], rfl, .inl ?_, decide_eq_true rfl, pu', mill', _, _, rfl, rfl, by omega, by omega, hl'⟩
        simp [B267_2, hab, ks, k1, k2, k3, k4, k5, e])
  have k6 : ∀ μ, sem2 .fdiv (.int mill) (.int 7) μ = .ok (.int (mill / 7)) μ := fun μ => s_fdiv (by omega) (by omega)
  have k7 : ∀ μ, sem2 .mod (.int (mill / 7)) (.int 12) μ = .ok (.int (mill / 7 % 12)) μ := fun μ => s_mod (by omega)
  refine ⟨pu, mill, mill / 7 % 12, [.lst (pu.map .int), .lst (sl.map .int), tc 0 0 mill (mill / 7 % 12)], ?_, ⟨rfl, rfl, by omega, by omega, by omega, m0, m1, by omega⟩, by omega⟩
  rw [run_succ h267 _ _ rfl]
  have eo : ex (run P n) F267.body (enter F267 [.scr ns]) [] = .ret (.ref 2) [.lst (pu.map .int), .lst (sl.map .int), tc 0 0 mill (mill / 7 % 12)] := by
    simp [F267, enter, newLst, hsl, e, k6, k7, tc]
  rw [eo]
  show Out.ok (clean [] (.ref 2) _).1 (clean [] (.ref 2) _).2 = _
  unfold clean
  simp [stable, Val.under, tc, underAll]
end
end Mi
end

section
set_option linter.all false
set_option autoImplicit false
/-! TOnly: what a draw leaves alone; things known to a depth. -/
namespace Mi
/-- the till alone is changed -/
def Only (t : Nat) (μ μ' : Sto) : Prop := μ'.length = μ.length ∧ ∀ j, j ≠ t → μ'[j]? = μ[j]?
theorem Only.refl (t : Nat) (μ : Sto) : Only t μ μ := ⟨rfl, fun _ _ => rfl⟩
theorem Only.trans {t : Nat} {a b c : Sto} (h1 : Only t a b) (h2 : Only t b c) : Only t a c := ⟨h2.1.trans h1.1, fun j hj => (h2.2 j hj).trans (h1.2 j hj)⟩
theorem Only.keeps {t : Nat} {a b : Sto} (h : Only t a b) : Keeps t a b := fun j _ hj => h.2 j hj
theorem Keeps.refl (t : Nat) (μ : Sto) : Keeps t μ μ := fun _ _ _ => rfl
theorem Keeps.only {t : Nat} {a b c : Sto} (h1 : Keeps t a b) (h2 : Only t b c) : Keeps t a c := fun j hj hjt => (h2.2 j hjt).trans (h1 j hj hjt)
theorem Keeps.app {t : Nat} {a b : Sto} (h1 : Keeps t a b) (hl : a.length ≤ b.length) (g : Sto) : Keeps t a (b ++ g) := fun j hj hjt => by
  rw [List.getElem?_append_left (by omega)]; exact h1 j hj hjt
theorem Keeps.set {t : Nat} {a b : Sto} (h1 : Keeps t a b) {k : Nat} (hk : a.length ≤ k) (c : Cell) : Keeps t a (b.set k c) := fun j hj hjt => by
  rw [List.getElem?_set_ne (by omega)]; exact h1 j hj hjt
theorem Keeps.trans {t : Nat} {a b c : Sto} (h1 : Keeps t a b) (hl : a.length ≤ b.length) (h2 : Keeps t b c) : Keeps t a c := fun j hj hjt => (h2 j (by omega) hjt).trans (h1 j hj hjt)
/-- known to a depth -/
def KnD : Nat → Sto → Val → Prop
  | 0, μ, v => Kn μ v
  | n + 1, μ, v => Kn μ v ∧ ∀ w ∈ items0 v, KnD n μ w
theorem KnD.kn {μ : Sto} {v : Val} : ∀ {n : Nat}, KnD n μ v → Kn μ v
  | 0, h => h
  | _ + 1, h => h.1
theorem KnD_nor {v : Val} (μ : Sto) : ∀ (n : Nat) (v : Val), v.nor = true → KnD n μ v
  | 0, v, h => fun k e => by subst e; simp [Val.nor] at h
  | n + 1, v, h => ⟨fun k e => by subst e; simp [Val.nor] at h, fun w hw => KnD_nor (v := w) μ n w (by
    cases v with
    | tup vs => rw [Val.nor] at h; exact nors_mem h w hw
    | _ => cases hw)⟩
theorem KnD.grow {μ μ' : Sto} (g : Grow μ μ') : ∀ {n : Nat} {v : Val}, KnD n μ v → KnD n μ' v
  | 0, v, h => Kn.grow h g
  | n + 1, v, h => ⟨h.1.grow g, fun w hw => KnD.grow g (h.2 w hw)⟩
theorem KnD.tup {μ : Sto} {n : Nat} {vs : List Val} (h : ∀ w ∈ vs, KnD n μ w) : KnD (n + 1) μ (.tup vs) := ⟨Kn.flat (by intro k z; cases z), h⟩
theorem KnD.ref {μ : Sto} {n : Nat} {k : Nat} {xs : List Val} (h : μ[k]? = some (.lst xs)) : KnD n μ (.ref k) := by
  have hk : Kn μ (.ref k) := fun j e => by cases e; exact ⟨xs, h⟩
  cases n with
  | zero => exact hk
  | succ n => exact ⟨hk, fun w hw => by cases hw⟩
theorem KnD.clean {μ μ' : Sto} {xs : List Val} (hl : μ.length ≤ μ'.length) : ∀ {n : Nat} {v : Val}, v.under μ.length = true → KnD n μ' v → KnD n (μ'.take μ.length ++ [.lst xs]) v := by
  have key : ∀ w : Val, w.under μ.length = true → Kn μ' w → Kn (μ'.take μ.length ++ [.lst xs]) w := fun w hw kw j ej => by
    obtain ⟨ys, hy⟩ := kw j ej
    subst ej
    rw [Val.under] at hw
    have hj : j < μ.length := by simpa using hw
    exact ⟨ys, by rw [List.getElem?_append_left (by rw [List.length_take]; omega), List.getElem?_take_of_lt hj]; exact hy⟩
  intro n
  induction n with
  | zero => exact fun hu h => key _ hu h
  | succ n ih =>
    intro v hu h
    refine ⟨key v hu h.1, fun w hw => ih ?_ (h.2 w hw)⟩
    cases v with
    | tup vs =>
      rw [Val.under] at hu
      exact underAll_mem hu w hw
    | _ => cases hw
/-- a list given back by a call -/
theorem clean_refD {μ μ' : Sto} {k d : Nat} {xs : List Val} (hk : μ.length ≤ k) (e : μ'[k]? = some (.lst xs)) (h : ∀ v ∈ xs, KnD d μ' v) : ∃ k', (clean μ (.ref k) μ').1 = .ref k' ∧ (clean μ (.ref k) μ').2[k']? = some (.lst xs) ∧ (∀ v ∈ xs, KnD d (clean μ (.ref k) μ').2 v) ∧ μ.length ≤ k' ∧ μ.length ≤ (clean μ (.ref k) μ').2.length := by
  have hkl := (List.getElem?_eq_some_iff.mp e).1
  by_cases hs : stable μ μ' = true
  · have hl : μ.length ≤ μ'.length := by
      unfold stable at hs
      rw [Bool.and_eq_true] at hs
      simpa using hs.1
    by_cases hu : underAll μ.length xs = true
    · rw [clean_new hs hk e hu]
      refine ⟨μ.length, rfl, ?_, fun v hv => KnD.clean hl (underAll_mem hu v hv) (h v hv), Nat.le_refl _, by simp; omega⟩
      rw [List.getElem?_append_right (by rw [List.length_take]; omega)]
      simp [Nat.min_eq_left hl]
    · refine ⟨k, ?_⟩
      have : Mi.clean μ (.ref k) μ' = (.ref k, μ') := by
        unfold Mi.clean
        rw [if_pos hs, if_neg (by rw [Val.under]; simp; exact hk)]
        simp only [e]
        rw [if_neg (by intro z; rw [Bool.and_eq_true] at z; exact hu z.1)]
      rw [this]
      exact ⟨rfl, e, h, hk, hl⟩
  · refine ⟨k, ?_⟩
    have : Mi.clean μ (.ref k) μ' = (.ref k, μ') := by
      unfold Mi.clean
      rw [if_neg hs]
    rw [this]
    exact ⟨rfl, e, h, hk, by simp; omega⟩
theorem clean_len {μ μ' : Sto} (v : Val) (h : μ.length ≤ μ'.length) : μ.length ≤ (Mi.clean μ v μ').2.length := by
  unfold Mi.clean
  split
  · split
    · simp; omega
    · split
      · split
        · split
          · simp; omega
          · exact h
        · exact h
      · exact h
  · exact h
/-- a place of a tuple is put anew -/
theorem put_ex2 (F : List Val) (v : Val) {m : Nat} (hF : F.length ≤ m) (hm : m ≤ 4000) (a : Int) : ∃ A B : List Val, (∀ μ, sem2 .add (.tup (cut F 0 (clip F.length a))) (.tup [v]) μ = .ok (.tup A) μ) ∧ (∀ μ, sem2 .add (.tup A) (.tup (cut F (clip F.length (a + 1)) F.length)) μ = .ok (.tup B) μ) ∧ (∀ w ∈ B, w ∈ F ∨ w = v) ∧ B.length ≤ 2 * m + 1 := by
  obtain ⟨A, h1, h2, h3⟩ := add_ex (cut F 0 (clip F.length a)) [v] (m := m) (n := 1) (by have := cut_len F 0 (clip F.length a); omega) (by simp) (by omega)
  obtain ⟨B, h4, h5, h6⟩ := add_ex A (cut F (clip F.length (a + 1)) F.length) (m := m + 1) (n := m) h3 (by have := cut_len F (clip F.length (a + 1)) F.length; omega) (by omega)
  refine ⟨A, B, h1, h4, fun w hw => ?_, by omega⟩
  rcases h5 w hw with hw | hw
  · rcases h2 w hw with hw | hw
    · exact .inl (cut_mem hw)
    · exact .inr (List.mem_singleton.mp hw)
  · exact .inl (cut_mem hw)
/-- the parts of a text -/
def MS.a : MS → MS
  | .seq a _ => a
  | .ite _ a _ => a
  | s => s
def MS.b : MS → MS
  | .seq _ b => b
  | .ite _ _ b => b
  | s => s
section
variable {P : Nat → Option Fn} {μ : Sto} {t p : Nat} {purse : List Int} {r N c m : Int} {n : Nat}
theorem coin_only (h268 : P 268 = some F268) (T : Till μ t p purse r N c m) (hN : N ≤ 1000000000) (pl many : Int) : ∃ x μ2 c' m', run P (n + 1) 268 [.ref t, .int pl, .int many] μ = .ok (.int x) μ2 ∧ 0 ≤ x ∧ (x < many ∨ x = 0) ∧ Till μ2 t p purse r (N + 1) c' m' ∧ Only t μ μ2 := by
  obtain ⟨x, μ2, c', m', e, h1, h2, h3, _, h5, h6⟩ := coin_ex h268 (n := n) T hN pl many
  exact ⟨x, μ2, c', m', e, h1, h2, h3, h6, h5⟩
/-- a comprehension whose items draw -/
theorem compL_draws {bind : Val → Option Loc} {cond elt : Loc → Sto → Out Val} {src : Val} {all : List Val} {Q : Val → Prop} {B : Int} {I : Nat → Sto → Prop} (hg : ∀ μ, guard src all μ = true) : ∀ {xs : List Val} {i : Nat} {μ : Sto} {N c m : Int}, Till μ t p purse r N c m → N + xs.length ≤ B → I i μ →
    (∀ (j : Nat) (x : Val) (μ : Sto) (N c m : Int), x ∈ xs → i ≤ j → j < i + xs.length → Till μ t p purse r N c m → N < B → I j μ → ∃ ρ y μ2 c' m', bind x = some ρ ∧ cond ρ μ = .ok (.bl true) μ ∧ elt ρ μ = .ok y μ2 ∧ Till μ2 t p purse r (N + 1) c' m' ∧ I (j + 1) μ2 ∧ Q y) →
    ∃ ys μ' c' m', compL bind cond elt src all xs μ = .ok ys μ' ∧ Till μ' t p purse r (N + xs.length) c' m' ∧ I (i + xs.length) μ' ∧ (∀ y ∈ ys, Q y) ∧ ys.length = xs.length
  | [], i, μ, N, c, m, T, hB, hI, _ => ⟨[], μ, c, m, rfl, by simpa using T, hI, by simp, rfl⟩
  | x :: xs, i, μ, N, c, m, T, hB, hI, hs => by
    have hB' : N + (xs.length : Int) + 1 ≤ B := by simp at hB; omega
    obtain ⟨ρ, y, μ2, c1, m1, h1, h2, h3, T1, I1, q1⟩ := hs i x μ N c m (List.mem_cons_self ..) (Nat.le_refl _) (by simp) T (by omega) hI
    obtain ⟨ys, μ', c', m', e, T', I', h8, h9⟩ := compL_draws hg (xs := xs) (i := i + 1) T1 (by omega) I1 (fun j x μ N c m hx h1 h2 T hN hI => hs j x μ N c m (List.mem_cons_of_mem _ hx) (by omega) (by simp; omega) T hN hI)
    refine ⟨y :: ys, μ', c', m', ?_, T'.le (by simp; omega), by rw [List.length_cons, show i + (xs.length + 1) = i + 1 + xs.length by omega]; exact I', fun z hz => ?_, by simp [h9]⟩
    · rw [compL, h1]
      simp only [h2, h3, hg, if_true, e]
    · rcases List.mem_cons.mp hz with rfl | hz
      · exact q1
      · exact h8 z hz
end
end Mi
end

section
set_option linter.all false
set_option autoImplicit false
/-! TRecA: records and their places. -/
namespace Mi
def belowV : Val → Int → Bool
  | .int i, m => decide (0 ≤ i) && decide (i < m)
  | _, _ => false
def rowV : Val → Int → Bool
  | .tup vs, m => decide ((vs.length : Int) = m)
  | _, _ => false
/-- a record of that frame -/
def recB (fr : List Int) (vs : List Val) : Bool := decide (vs.length = fr.length) && (List.range fr.length).all fun k => belowV (vs.getD k .non) (fr.getD k 0)
def recV (fr : List Int) : Val → Bool
  | .tup vs => recB fr vs
  | _ => false
/-- a comprehension with a test that changes nothing -/
theorem compL_filter {bind : Val → Option Loc} {cond elt : Loc → Sto → Out Val} {src : Val} {all : List Val} {c : Val → Bool} {g : Val → Val} {μ : Sto} (hg : guard src all μ = true) : ∀ {xs : List Val}, (∀ x ∈ xs, ∃ ρ, bind x = some ρ ∧ cond ρ μ = .ok (.bl (c x)) μ ∧ elt ρ μ = .ok (g x) μ) → compL bind cond elt src all xs μ = .ok ((xs.filter c).map g) μ
  | [], _ => rfl
  | x :: xs, h => by
    obtain ⟨ρ, h1, h2, h3⟩ := h x (List.mem_cons_self ..)
    have ih := compL_filter hg fun y hy => h y (List.mem_cons_of_mem _ hy)
    rw [compL, h1]
    cases e : c x with
    | true =>
      rw [e] at h2
      simp only [h2, h3, hg, if_true, ih]
      rw [List.filter_cons_of_pos e]
      rfl
    | false =>
      rw [e] at h2
      simp only [h2, hg, if_true, ih]
      rw [List.filter_cons_of_neg (by rw [e]; simp)]
/-- the place of a record -/
def placeL : Int → List Int → List Int → Int
  | p, s :: ss, r :: rs => placeL (p * s + r) ss rs
  | p, _, _ => p
theorem placeL_snoc : ∀ (p : Int) (ss rs : List Int) (s r : Int), ss.length = rs.length → placeL p (ss ++ [s]) (rs ++ [r]) = placeL p ss rs * s + r
  | p, [], [], s, r, _ => rfl
  | p, s0 :: ss, r0 :: rs, s, r, h => placeL_snoc (p * s0 + r0) ss rs s r (by simpa using h)
  | _, [], _ :: _, _, _, h => by cases h
  | _, _ :: _, [], _, _, h => by cases h
/-- within the frame -/
def inF : List Int → List Int → Prop
  | [], [] => True
  | s :: ss, r :: rs => 0 ≤ r ∧ r < s ∧ inF ss rs
  | _, _ => False
theorem inF_len : ∀ {ss rs : List Int}, inF ss rs → ss.length = rs.length
  | [], [], _ => rfl
  | _ :: ss, _ :: rs, h => by simp [inF_len h.2.2]
  | [], _ :: _, h => h.elim
  | _ :: _, [], h => h.elim
theorem inF_snoc : ∀ {ss rs : List Int} {s r : Int}, inF ss rs → 0 ≤ r → r < s → inF (ss ++ [s]) (rs ++ [r])
  | [], [], s, r, _, h1, h2 => ⟨h1, h2, trivial⟩
  | _ :: ss, _ :: rs, s, r, h, h1, h2 => ⟨h.1, h.2.1, inF_snoc h.2.2 h1 h2⟩
  | [], _ :: _, _, _, h, _, _ => h.elim
  | _ :: _, [], _, _, h, _, _ => h.elim
theorem placeL_bound : ∀ {ss rs : List Int} {p q : Int}, inF ss rs → goodSizes ss → 0 ≤ p → p < q → 0 ≤ placeL p ss rs ∧ placeL p ss rs < q * prodI ss
  | [], [], p, q, _, _, h0, h1 => by simp [placeL, prodI]; omega
  | s :: ss, r :: rs, p, q, h, hg, h0, h1 => by
    have hs := hg s (List.mem_cons_self ..)
    have hp : 0 ≤ p * s := Int.mul_nonneg h0 (by omega)
    have hq : p * s + s ≤ q * s := by
      have : (p + 1) * s ≤ q * s := Int.mul_le_mul_of_nonneg_right (by omega) (by omega)
      rw [Int.add_mul, Int.one_mul] at this
      exact this
    have h3 := h.2.1
    have h4 := h.1
    have := placeL_bound (p := p * s + r) (q := q * s) h.2.2 (fun x hx => hg x (List.mem_cons_of_mem _ hx)) (by omega) (by omega)
    rw [placeL, prodI, ← Int.mul_assoc]
    exact this
  | [], _ :: _, _, _, h, _, _, _ => h.elim
  | _ :: _, [], _, _, h, _, _, _ => h.elim
theorem flat_at {s : Int} : ∀ {l : List (List Val)} {i : Nat} {r : List Val}, (l.flatMap (stepR s))[i]? = some r → ∃ j k q, l[j]? = some q ∧ k < s.toNat ∧ r = q ++ [.int (k : Nat)] ∧ i = j * s.toNat + k
  | [], i, r, h => by simp at h
  | q :: l, i, r, h => by
    rw [List.flatMap_cons] at h
    by_cases hi : i < s.toNat
    · rw [List.getElem?_append_left (by rw [stepR_len]; exact hi)] at h
      unfold stepR at h
      rw [List.getElem?_map, List.getElem?_range hi] at h
      cases h
      exact ⟨0, i, q, rfl, hi, rfl, by omega⟩
    · rw [List.getElem?_append_right (by rw [stepR_len]; omega), stepR_len] at h
      obtain ⟨j, k, q', h1, h2, h3, h4⟩ := flat_at h
      refine ⟨j + 1, k, q', h1, h2, h3, ?_⟩
      rw [Nat.succ_mul]; omega
/-- which record stands where -/
def RecAt (pre : List Int) (r : List Val) (j : Nat) : Prop := ∃ rs : List Int, r = rs.map .int ∧ inF pre rs ∧ placeL 0 pre rs = (j : Nat)
theorem recsF_at : ∀ (ss pre : List Int) (found : List (List Val)), (∀ s ∈ ss, 0 ≤ s) → (∀ j r, found[j]? = some r → RecAt pre r j) → ∀ i r, (recsF found ss)[i]? = some r → RecAt (pre ++ ss) r i
  | [], pre, found, _, h, i, r, e => by rw [List.append_nil]; exact h i r e
  | s :: ss, pre, found, hs, h, i, r, e => by
    have := recsF_at ss (pre ++ [s]) (found.flatMap (stepR s)) (fun x hx => hs x (List.mem_cons_of_mem _ hx)) (fun j r' hr' => by
      obtain ⟨j0, k, q, h1, h2, rfl, rfl⟩ := flat_at hr'
      obtain ⟨rs, rfl, h4, h5⟩ := h j0 q h1
      have s0 := hs s (List.mem_cons_self ..)
      refine ⟨rs ++ [((k : Nat) : Int)], by simp, inF_snoc h4 (by omega) (by omega), ?_⟩
      rw [placeL_snoc _ _ _ _ _ (inF_len h4), h5]
      have : ((j0 * s.toNat + k : Nat) : Int) = (j0 : Int) * s + (k : Int) := by
        rw [Int.natCast_add, Int.natCast_mul, Int.toNat_of_nonneg s0]
      rw [this]) i r e
    rw [List.append_assoc] at this
    exact this
theorem recs_at {fr : List Int} (hg : goodSizes fr) {i : Nat} {r : List Val} (h : (recsOf fr)[i]? = some r) : RecAt fr r i := by
  have := recsF_at fr [] [[]] (fun s hs => by have := hg s hs; omega) (fun j r hr => by
    cases j with
    | zero => cases hr; exact ⟨[], rfl, trivial, rfl⟩
    | succ j => simp at hr) i r h
  exact this
/-- being a record, two ways -/
theorem recB_iff : ∀ (fr : List Int) (vs : List Val), recB fr vs = true ↔ ∃ rs : List Int, vs = rs.map .int ∧ inF fr rs := by
  intro fr
  induction fr with
  | nil =>
    intro vs
    constructor
    · intro h
      simp [recB] at h
      exact ⟨[], by simp [h], trivial⟩
    · rintro ⟨rs, rfl, h⟩
      cases rs with
      | nil => rfl
      | cons _ _ => exact h.elim
  | cons s fr ih =>
    intro vs
    have key : ∀ v vs, recB (s :: fr) (v :: vs) = (belowV v s && recB fr vs) := fun v vs => by
      unfold recB
      rw [List.length_cons, List.length_cons, List.range_succ_eq_map, List.all_cons, List.all_map]
      have e1 : (decide (vs.length + 1 = fr.length + 1)) = decide (vs.length = fr.length) := by simp
      have e2 : ((fun k => belowV ((v :: vs).getD k .non) ((s :: fr).getD k 0)) ∘ Nat.succ) = fun k => belowV (vs.getD k .non) (fr.getD k 0) := by
        funext k
        simp
      rw [e1, e2]
      simp only [List.getD_cons_zero]
      cases belowV v s <;> cases decide (vs.length = fr.length) <;> rfl
    cases vs with
    | nil =>
      constructor
      · intro h; simp [recB] at h
      · rintro ⟨rs, e, h⟩
        cases rs with
        | nil => exact h.elim
        | cons _ _ => cases e
    | cons v vs =>
      rw [key, Bool.and_eq_true, ih]
      constructor
      · rintro ⟨h1, rs, rfl, h2⟩
        cases v with
        | int i =>
          simp [belowV] at h1
          exact ⟨i :: rs, rfl, h1.1, h1.2, h2⟩
        | _ => cases h1
      · rintro ⟨rs, e, h⟩
        cases rs with
        | nil => cases e
        | cons r rs =>
          cases e
          exact ⟨by simp [belowV, h.1, h.2.1], rs, rfl, h.2.2⟩
section
variable {P : Nat → Option Fn} {n : Nat} {μ : Sto}
theorem r_is_below (hV : Ext tbVals P) (h75 : P 75 = some F75) (v : Val) (m : Int) (h : Kn μ v) : run P (n + 3) 75 [v, .int m] μ = .ok (.bl (belowV v m)) μ := by
  rw [run_succ h75 _ _ rfl]
  have e := r_is_number hV (n := n) v h
  cases v with
  | int i =>
    by_cases h0 : 0 ≤ i
    · simp [F75, enter, e, isNum, h0, belowV, cleanO_same]
    · simp [F75, enter, e, isNum, h0, belowV, cleanO_same]
  | _ => simp [F75, enter, e, isNum, belowV, cleanO_same]
theorem r_is_row (h76 : P 76 = some F76) (v : Val) (m : Int) (h : Kn μ v) : run P (n + 1) 76 [v, .int m] μ = .ok (.bl (rowV v m)) μ := by
  rw [run_succ h76 _ _ rfl]
  cases v with
  | ref k =>
    obtain ⟨xs, e⟩ := h k rfl
    simp [F76, enter, isTys1, isTy, e, rowV, cleanO_same]
  | _ => simp [F76, enter, isTys1, isTy, rowV, cleanO_same]
end
end Mi
end

section
set_option linter.all false
set_option autoImplicit false
/-! TRecB: is_record, places. -/
namespace Mi
/-- the records' part of a table -/
structure HasRec (P : Nat → Option Fn) : Prop where
  v : Ext tbVals P
  h75 : P 75 = some F75
  h76 : P 76 = some F76
  h126 : P 126 = some F126
  h127 : P 127 = some F127
  h128 : P 128 = some F128
  h247 : P 247 = some F247
  h248 : P 248 = some F248
  h254 : P 254 = some F254
theorem place_i {α : Type} {xs : List α} {k : Nat} (h : k < xs.length) : ((place xs.length (k : Int)).bind fun j => xs[j]?) = some xs[k] := by
  rw [place_nat h]
  exact List.getElem?_eq_getElem h
section
variable {P : Nat → Option Fn} (H : HasRec P) {n : Nat} {μ : Sto} {fr : List Int}
include H
theorem r_is_record (v : Val) (h : KnT μ v) (hl : fr.length ≤ 6) : run P (n + 4) 247 [.tup (fr.map .int), v] μ = .ok (.bl (recV fr v)) μ := by
  rw [run_succ H.h247 _ _ rfl]
  have e1 := r_is_row H.h76 (n := n + 2) v (fr.length : Int) h.1
  cases v with
  | tup vs =>
    by_cases hv : vs.length = fr.length
    · have hv' : (vs.length : Int) = (fr.length : Int) := by omega
      have hb : ∀ k, k < fr.length → run P (n + 3) 75 [vs.getD k .non, .int (fr.getD k 0)] μ = .ok (.bl (belowV (vs.getD k .non) (fr.getD k 0))) μ := fun k hk => by
        refine r_is_below H.v H.h75 _ _ (h.2 _ ?_)
        rw [List.getD_eq_getElem?_getD, List.getElem?_eq_getElem (by omega : k < vs.length)]
        exact List.getElem_mem _
      have hc : compL (fun v => some [some (Val.tup (fr.map .int)), some (.tup vs), some v]) (ev (run P (n + 3)) (.op1 .not (.call 75 (.cons (.op2 .idx (.var 1) (.var 2)) (.cons (.op2 .idx (.var 0) (.var 2)) .nil))))) (ev (run P (n + 3)) (.var 2)) (.tup ((List.range fr.length).map fun i => Val.int (i : Nat))) ((List.range fr.length).map fun i => Val.int (i : Nat)) ((List.range fr.length).map fun i => Val.int (i : Nat)) μ = .ok ((((List.range fr.length).map fun i => Val.int (i : Nat)).filter fun x => match x with
          | .int k => !belowV (vs.getD k.toNat .non) (fr.getD k.toNat 0)
          | _ => true).map id) μ := by
        refine compL_filter rfl fun x hx => ?_
        obtain ⟨k, hk, rfl⟩ := List.mem_map.mp hx
        have hk' : k < fr.length := List.mem_range.mp hk
        have p1 : place vs.length (k : Int) = some k := place_nat (by omega)
        have p2 : place fr.length (k : Int) = some k := place_nat hk'
        have g1 : vs[k]? = some (vs[k]'(by omega)) := List.getElem?_eq_getElem (by omega)
        have g2 : fr[k]? = some fr[k] := List.getElem?_eq_getElem hk'
        have d1 : vs.getD k .non = vs[k]'(by omega) := by rw [List.getD_eq_getElem?_getD, List.getElem?_eq_getElem (by omega : k < vs.length)]; rfl
        have d2 : fr.getD k 0 = fr[k] := by rw [List.getD_eq_getElem?_getD, List.getElem?_eq_getElem hk']; rfl
        have hbk := hb k hk'
        rw [d1, d2] at hbk
        refine ⟨_, rfl, ?_, rfl⟩
        simp only [Int.toNat_natCast, d1, d2]
        simp [p1, p2, g1, g2, hbk]
      have hz : recB fr vs = true ↔ ((((List.range fr.length).map fun i => Val.int (i : Nat)).filter fun x => match x with
          | .int k => !belowV (vs.getD k.toNat .non) (fr.getD k.toNat 0)
          | _ => true).map id).length = 0 := by
        rw [List.map_id, List.length_eq_zero_iff, List.filter_eq_nil_iff]
        unfold recB
        rw [Bool.and_eq_true, decide_eq_true_eq, List.all_eq_true]
        constructor
        · rintro ⟨_, h2⟩ x hx
          obtain ⟨k, hk, rfl⟩ := List.mem_map.mp hx
          have := h2 k hk
          simp only [Int.toNat_natCast, this]
          simp
        · intro h2
          refine ⟨hv, fun k hk => ?_⟩
          have := h2 (.int (k : Nat)) (List.mem_map.mpr ⟨k, hk, rfl⟩)
          simp only [Int.toNat_natCast] at this
          simpa using this
      have l1 : (fr.length : Int) ≤ 16777216 := by omega
      have l2 : -(16777216 : Int) ≤ (fr.length : Int) := by omega
      have l3 : fr.length ≤ LIM := by simp only [LIM]; omega
      obtain ⟨L, hL⟩ : ∃ L, ((((List.range fr.length).map fun i => Val.int (i : Nat)).filter fun x => match x with
          | .int k => !belowV (vs.getD k.toNat .non) (fr.getD k.toNat 0)
          | _ => true).map id) = L := ⟨_, rfl⟩
      rw [hL] at hc hz
      have eo : ex (run P (n + 3)) F247.body (enter F247 [.tup (fr.map .int), .tup vs]) μ = .ret (.bl (recV fr (.tup vs))) (μ ++ [.lst L]) := by
        have hz' : decide ((L.length : Int) = 0) = recB fr vs := by
          by_cases q : L.length = 0
          · rw [decide_eq_true (by omega), hz.mpr q]
          · rw [decide_eq_false (by omega)]
            cases hr : recB fr vs with
            | true => exact absurd (hz.mp hr) q
            | false => rfl
        have hz'' : decide (L = []) = recB fr vs := by rw [← hz']; simp
        simp [F247, enter, e1, rowV, hv', l1, l2, hc, l3, newLst, hz'', recV]
      rw [eo]
      exact cleanO_app rfl
    · have hv' : ¬ (vs.length : Int) = (fr.length : Int) := by omega
      have hr : recB fr vs = false := by unfold recB; rw [decide_eq_false hv]; rfl
      simp [F247, enter, e1, rowV, hv', recV, hr, cleanO_same]
  | _ => simp [F247, enter, e1, rowV, recV, cleanO_same]
/-- the loop of the law's own reading -/
theorem lr_body {vs : List Val} {k : Nat} {C : CallF} (hv : vs.length = fr.length) (hk : k < fr.length) (h : Kn μ (vs.getD k .non)) :
    ex C B254_1 [some (.tup (fr.map .int)), some (.tup vs), some (.int (k : Nat))] μ = if belowV (vs.getD k .non) (fr.getD k 0) then .nx [some (.tup (fr.map .int)), some (.tup vs), some (.int (k : Nat))] μ else .ret (.bl false) μ := by
  have p1 : place vs.length (k : Int) = some k := place_nat (by omega)
  have p2 : place fr.length (k : Int) = some k := place_nat hk
  have g1 : vs[k]? = some (vs[k]'(by omega)) := List.getElem?_eq_getElem (by omega)
  have g2 : fr[k]? = some fr[k] := List.getElem?_eq_getElem hk
  have d1 : vs.getD k .non = vs[k]'(by omega) := by rw [List.getD_eq_getElem?_getD, g1]; rfl
  have d2 : fr.getD k 0 = fr[k] := by rw [List.getD_eq_getElem?_getD, g2]; rfl
  rw [d1] at h
  rw [d1, d2]
  obtain ⟨v, hvv⟩ : ∃ v, vs[k]'(by omega) = v := ⟨_, rfl⟩
  obtain ⟨s, hs⟩ : ∃ s, fr[k] = s := ⟨_, rfl⟩
  rw [hvv] at g1 h ⊢
  rw [hs] at g2 ⊢
  cases v with
  | int i =>
    by_cases h1 : i < 0
    · have : ¬ 0 ≤ i := by omega
      simp [B254_1, p1, p2, g1, g2, isTys1, isTy, belowV, h1, this]
    · have h0 : 0 ≤ i := by omega
      by_cases h2 : s ≤ i
      · have : ¬ i < s := by omega
        simp [B254_1, p1, p2, g1, g2, isTys1, isTy, belowV, h1, h0, h2, this]
      · have : i < s := by omega
        simp [B254_1, p1, p2, g1, g2, isTys1, isTy, belowV, h1, h0, h2, this]
  | ref j =>
    obtain ⟨xs, e⟩ := h j rfl
    simp [B254_1, p1, p2, g1, g2, isTys1, isTy, e, belowV]
  | _ => simp [B254_1, p1, p2, g1, g2, isTys1, isTy, belowV]
theorem r_law_is_record (v : Val) (h : KnT μ v) (hl : fr.length ≤ 6) : run P (n + 1) 254 [.tup (fr.map .int), v] μ = .ok (.bl (recV fr v)) μ := by
  rw [run_succ H.h254 _ _ rfl]
  cases v with
  | tup vs =>
    by_cases hv : vs.length = fr.length
    · have hv' : (vs.length : Int) = (fr.length : Int) := by omega
      have l1 : (fr.length : Int) ≤ 16777216 := by omega
      have l2 : -(16777216 : Int) ≤ (fr.length : Int) := by omega
      have hkn : ∀ k, k < fr.length → Kn μ (vs.getD k .non) := fun k hk => h.2 _ (by
        rw [List.getD_eq_getElem?_getD, List.getElem?_eq_getElem (by omega : k < vs.length)]
        exact List.getElem_mem _)
      cases hf : (List.range fr.length).find? (fun k => !belowV (vs.getD k .non) (fr.getD k 0)) with
      | none =>
        have hall : ∀ k, k < fr.length → belowV (vs.getD k .non) (fr.getD k 0) = true := fun k hk => by
          have := List.find?_eq_none.mp hf k (List.mem_range.mpr hk)
          simpa using this
        have hr : recB fr vs = true := by
          unfold recB
          rw [Bool.and_eq_true, List.all_eq_true]
          exact ⟨by simpa using hv, fun k hk => hall k (List.mem_range.mp hk)⟩
        obtain ⟨ρ', μ', e, rfl, o, rfl⟩ := forL_all (bind := bindT (.nm 2)) (body := ex (run P n) B254_1) (src := .tup ((List.range fr.length).map fun i => Val.int (i : Nat))) (all := (List.range fr.length).map fun i => Val.int (i : Nat))
          (I := fun j ρ μ' => μ = μ' ∧ ∃ o, ρ = [some (.tup (fr.map .int)), some (.tup vs), o]) (xs := (List.range fr.length).map fun i => Val.int (i : Nat)) (i := 0) (ρ := [some (.tup (fr.map .int)), some (.tup vs), none]) (μ := μ) ⟨rfl, none, rfl⟩
          (fun j x ρ μ' hx hI => by
            obtain ⟨rfl, o, rfl⟩ := hI
            obtain ⟨hj, rfl⟩ := rng_at hx
            have hb := lr_body (P := P) H (C := run P n) hv hj (hkn j hj)
            rw [hall j hj, if_pos rfl] at hb
            exact ⟨_, _, μ, rfl, .inl hb, rfl, rfl, _, rfl⟩)
        simp [F254, enter, isTys1, isTy, hv', l1, l2, e, recV, hr, cleanO_same]
      | some k =>
        have hk := List.mem_range.mp (List.mem_of_find?_eq_some hf)
        have hb0 : belowV (vs.getD k .non) (fr.getD k 0) = false := by simpa using List.find?_some hf
        have hr : recB fr vs = false := by
          cases q : recB fr vs with
          | false => rfl
          | true =>
            unfold recB at q
            rw [Bool.and_eq_true, List.all_eq_true] at q
            have := q.2 k (List.mem_range.mpr hk)
            rw [hb0] at this; cases this
        -- the first that fails
        obtain ⟨k', hk', hb', hlt⟩ : ∃ k', k' < fr.length ∧ belowV (vs.getD k' .non) (fr.getD k' 0) = false ∧ ∀ j, j < k' → belowV (vs.getD j .non) (fr.getD j 0) = true := by
          have key : ∀ m : Nat, (∃ k, k ≤ m ∧ k < fr.length ∧ belowV (vs.getD k .non) (fr.getD k 0) = false) → ∃ k', k' < fr.length ∧ belowV (vs.getD k' .non) (fr.getD k' 0) = false ∧ ∀ j, j < k' → belowV (vs.getD j .non) (fr.getD j 0) = true := by
            intro m
            induction m with
            | zero =>
              rintro ⟨k, h1, h2, h3⟩
              exact ⟨k, h2, h3, fun j hj => by omega⟩
            | succ m ih =>
              rintro ⟨k, h1, h2, h3⟩
              by_cases hm : ∃ k, k ≤ m ∧ k < fr.length ∧ belowV (vs.getD k .non) (fr.getD k 0) = false
              · exact ih hm
              · refine ⟨k, h2, h3, fun j hj => ?_⟩
                cases q : belowV (vs.getD j .non) (fr.getD j 0) with
                | true => rfl
                | false => exact absurd ⟨j, by omega, by omega, q⟩ hm
          exact key k ⟨k, Nat.le_refl _, hk, hb0⟩
        have e : forL (bindT (.nm 2)) (ex (run P n) B254_1) (.tup ((List.range fr.length).map fun i => Val.int (i : Nat))) ((List.range fr.length).map fun i => Val.int (i : Nat)) ((List.range fr.length).map fun i => Val.int (i : Nat)) [some (.tup (fr.map .int)), some (.tup vs), none] μ = .ret (.bl false) μ :=
          forL_to (I := fun j ρ μ' => μ = μ' ∧ ∃ o, ρ = [some (.tup (fr.map .int)), some (.tup vs), o]) (i := 0) (k := k') (y := .int (k' : Nat)) ⟨rfl, none, rfl⟩ (by rw [List.getElem?_map, List.getElem?_range hk']; rfl)
            (fun j x ρ μ' hj hx hI => by
              obtain ⟨rfl, o, rfl⟩ := hI
              obtain ⟨hjn, rfl⟩ := rng_at hx
              have hb := lr_body (P := P) H (C := run P n) hv hjn (hkn j hjn)
              rw [hlt j hj, if_pos rfl] at hb
              exact ⟨_, _, μ, rfl, .inl hb, rfl, rfl, _, rfl⟩)
            (fun ρ μ' hI => by
              obtain ⟨rfl, o, rfl⟩ := hI
              have hb := lr_body (P := P) H (C := run P n) hv hk' (hkn k' hk')
              rw [hb', if_neg (by simp)] at hb
              refine ⟨_, rfl, fun kk => ?_⟩
              show (ex (run P n) B254_1 [some (.tup (fr.map .int)), some (.tup vs), some (.int (k' : Nat))] μ).turn kk = _
              rw [hb]; rfl)
        simp [F254, enter, isTys1, isTy, hv', l1, l2, e, recV, hr, cleanO_same]
    · have hv' : ¬ (vs.length : Int) = (fr.length : Int) := by omega
      have hr : recB fr vs = false := by unfold recB; rw [decide_eq_false hv]; rfl
      simp [F254, enter, isTys1, isTy, hv', recV, hr, cleanO_same]
  | ref k =>
    obtain ⟨xs, e⟩ := h.1 k rfl
    simp [F254, enter, isTys1, isTy, e, recV, cleanO_same]
  | _ => simp [F254, enter, isTys1, isTy, recV, cleanO_same]
end
theorem inF_take : ∀ {ss rs : List Int} (j : Nat), inF ss rs → inF (ss.take j) (rs.take j)
  | [], [], j, _ => by simp; trivial
  | s :: ss, r :: rs, 0, _ => trivial
  | s :: ss, r :: rs, j + 1, h => ⟨h.1, h.2.1, inF_take j h.2.2⟩
  | [], _ :: _, _, h => h.elim
  | _ :: _, [], _, h => h.elim
theorem inF_at : ∀ {ss rs : List Int} {j : Nat} {s r : Int}, inF ss rs → ss[j]? = some s → rs[j]? = some r → 0 ≤ r ∧ r < s
  | s0 :: ss, r0 :: rs, 0, s, r, h, e1, e2 => by cases e1; cases e2; exact ⟨h.1, h.2.1⟩
  | s0 :: ss, r0 :: rs, j + 1, s, r, h, e1, e2 => inF_at h.2.2 e1 e2
  | [], _, _, _, _, _, e1, _ => by simp at e1
  | _ :: _, [], _, _, _, h, _, _ => h.elim
theorem GoodF.place {fr rs : List Int} (G : GoodF fr) (h : inF fr rs) (j : Nat) : 0 ≤ placeL 0 (fr.take j) (rs.take j) ∧ placeL 0 (fr.take j) (rs.take j) < 500 := by
  have := placeL_bound (p := 0) (q := 1) (inF_take j h) (fun x hx => G.g x (List.mem_of_mem_take hx)) (by omega) (by omega)
  have h2 := prodI_take G.g j
  have h3 := G.p
  omega
section
variable {P : Nat → Option Fn} (H : HasRec P) {n : Nat} {μ : Sto} {fr : List Int}
theorem pl_loop {C : CallF} (G : GoodF fr) {rs : List Int} (h : inF fr rs) : ∃ o, forL (bindT (.nm 3)) (ex C B128_1) (.tup ((List.range fr.length).map fun i => Val.int (i : Nat))) ((List.range fr.length).map fun i => Val.int (i : Nat)) ((List.range fr.length).map fun i => Val.int (i : Nat)) [some (.tup (fr.map .int)), some (.tup (rs.map .int)), some (.int 0), none] μ = .nx [some (.tup (fr.map .int)), some (.tup (rs.map .int)), some (.int (placeL 0 fr rs)), o] μ := by
  have hl := inF_len h
  obtain ⟨ρ', μ', e, rfl, o, rfl⟩ := forL_all (bind := bindT (.nm 3)) (body := ex C B128_1) (src := .tup ((List.range fr.length).map fun i => Val.int (i : Nat))) (all := (List.range fr.length).map fun i => Val.int (i : Nat))
    (I := fun j ρ μ' => μ = μ' ∧ ∃ o, ρ = [some (.tup (fr.map .int)), some (.tup (rs.map .int)), some (.int (placeL 0 (fr.take j) (rs.take j))), o]) (xs := (List.range fr.length).map fun i => Val.int (i : Nat)) (i := 0) (ρ := [some (.tup (fr.map .int)), some (.tup (rs.map .int)), some (.int 0), none]) (μ := μ) ⟨rfl, none, rfl⟩
    (fun j x ρ μ' hx hI => by
      obtain ⟨rfl, o, rfl⟩ := hI
      obtain ⟨hj, rfl⟩ := rng_at hx
      rw [Nat.zero_add]
      have hb := G.place h j
      have g1 : fr[j]? = some fr[j] := List.getElem?_eq_getElem hj
      have g2 : rs[j]? = some (rs[j]'(by omega)) := List.getElem?_eq_getElem (by omega)
      have p1 : place fr.length (j : Int) = some j := place_nat hj
      have p2 : place rs.length (j : Int) = some j := place_nat (by omega)
      have hs := G.g fr[j] (List.getElem_mem hj)
      have hm : ∀ μ, sem2 .mul (.int (placeL 0 (fr.take j) (rs.take j))) (.int fr[j]) μ = .ok (.int (placeL 0 (fr.take j) (rs.take j) * fr[j])) μ := fun μ => s_muli (by omega) (by omega)
      have e1 : placeL 0 (fr.take (j + 1)) (rs.take (j + 1)) = placeL 0 (fr.take j) (rs.take j) * fr[j] + rs[j]'(by omega) := by
        rw [List.take_add_one, List.take_add_one, g1, g2]
        exact placeL_snoc _ _ _ _ _ (by rw [List.length_take, List.length_take]; omega)
      refine ⟨_, [some (.tup (fr.map .int)), some (.tup (rs.map .int)), some (.int (placeL 0 (fr.take j) (rs.take j) * fr[j] + rs[j]'(by omega))), some (.int (j : Nat))], μ, rfl, .inl ?_, rfl, rfl, _, by rw [e1]⟩
      simp [B128_1, p1, p2, g1, g2, hm])
  refine ⟨o, ?_⟩
  rw [Nat.zero_add, show ((List.range fr.length).map fun i => Val.int (i : Nat)).length = fr.length by simp, List.take_length, show rs.take fr.length = rs by rw [hl]; exact List.take_length] at e
  exact e
include H
theorem r_place_in (G : GoodF fr) {rs : List Int} (h : inF fr rs) : run P (n + 1) 128 [.tup (fr.map .int), .tup (rs.map .int)] μ = .ok (.int (placeL 0 fr rs)) μ := by
  rw [run_succ H.h128 _ _ rfl]
  obtain ⟨o, e⟩ := pl_loop (C := run P n) (μ := μ) G h
  have l2 := G.l2
  have l3 : (fr.length : Int) ≤ 16777216 := by omega
  have l4 : -(16777216 : Int) ≤ (fr.length : Int) := by omega
  simp [F128, enter, l3, l4, e, cleanO_same]
end
end Mi
end

section
set_option linter.all false
set_option autoImplicit false
/-! TGreat: things that are no records; great frames. -/
namespace Mi
section
variable {P : Nat → Option Fn} {n : Nat} {μ : Sto} {fr : List Int} {t p : Nat} {purse : List Int} {r N c m : Int}
theorem r_no_records2 (h268 : P 268 = some F268) (h255 : P 255 = some F255) (T : Till μ t p purse r N c m) (hN : N ≤ 10000000) (G : GoodF fr) {rs : List Int} (hlen : rs.length = fr.length) : ∃ k things μ' c' m', run P (n + 2) 255 [.ref t, .tup (fr.map .int), .tup (rs.map .int)] μ = .ok (.ref k) μ' ∧ μ'[k]? = some (.lst things) ∧ (∀ v ∈ things, KnT μ' v) ∧ Till μ' t p purse r (N + 1) c' m' ∧ Keeps t μ μ' ∧ μ.length ≤ k ∧ 10 ≤ things.length ∧ things.length ≤ 22 := by
  have ht : t < μ.length := (List.getElem?_eq_some_iff.mp T.at_).1
  have hp : p < μ.length := (List.getElem?_eq_some_iff.mp T.pu).1
  have g1 := G.l1
  have g2 := G.l2
  obtain ⟨F, hF⟩ : ∃ F : List Val, fr.map .int = F := ⟨_, rfl⟩
  obtain ⟨R, hR⟩ : ∃ R : List Val, rs.map .int = R := ⟨_, rfl⟩
  have lF : F.length = fr.length := by rw [← hF]; simp
  have lR : R.length = fr.length := by rw [← hR]; simp [hlen]
  have kF : ∀ {μ : Sto}, ∀ w ∈ F, Kn μ w := fun w hw => by
    rw [← hF] at hw
    obtain ⟨i, _, rfl⟩ := List.mem_map.mp hw
    exact Kn.flat (by intro k z; cases z)
  have kR : ∀ {μ : Sto}, ∀ w ∈ R, Kn μ w := fun w hw => by
    rw [← hR] at hw
    obtain ⟨i, _, rfl⟩ := List.mem_map.mp hw
    exact Kn.flat (by intro k z; cases z)
  obtain ⟨a, μ1, c1, m1, e1, a0, a1, T1, gr1, o1, l1⟩ := coin_ex h268 (n := n) T (by omega) 30 F.length
  obtain ⟨A, a01, a02, a03⟩ := add_ex R [.int 0] (m := 6) (n := 1) (by omega) (by simp) (by omega)
  obtain ⟨told0, ht0⟩ : ∃ told0 : List Val, [Val.ref μ1.length, .tup A, .tup (cut R 0 (clip R.length (-1))), .tup (cut R (clip R.length 1) R.length), .non, .int 0, .str [114, 101, 99, 111, 114, 100], .tup [], .tup [.tup R], .tup F] = told0 := ⟨_, rfl⟩
  obtain ⟨μ2, hμ2⟩ : ∃ μ2, μ1 ++ [.lst R, .lst told0] = μ2 := ⟨_, rfl⟩
  have l2 : μ2.length = μ.length + 2 := by rw [← hμ2]; simp [l1]
  have T2 : Till μ2 t p purse r (N + 1) c1 m1 := by rw [← hμ2]; exact T1.app _
  have k2 : μ2[μ.length + 1]? = some (.lst told0) := by rw [← hμ2, List.getElem?_append_right (by omega)]; simp [l1]
  have n2 : ∀ v ∈ told0, KnT μ2 v := by
    have q0 : μ2[μ1.length]? = some (.lst R) := by rw [← hμ2, List.getElem?_append_right (by omega)]; simp
    rw [← ht0]
    intro v hv
    simp only [List.mem_cons, List.not_mem_nil, or_false] at hv
    rcases hv with rfl | rfl | rfl | rfl | rfl | rfl | rfl | rfl | rfl | rfl
    · exact KnT.one (fun k e => by cases e; exact ⟨_, q0⟩) rfl
    · refine KnT.tup fun w hw => ?_
      rcases a02 w hw with hw | hw
      · exact kR w hw
      · rw [List.mem_singleton.mp hw]; exact Kn.flat (by intro k z; cases z)
    · exact KnT.tup fun w hw => kR w (cut_mem hw)
    · exact KnT.tup fun w hw => kR w (cut_mem hw)
    · exact KnT.one (Kn.flat (by intro k z; cases z)) rfl
    · exact KnT.one (Kn.flat (by intro k z; cases z)) rfl
    · exact KnT.one (Kn.flat (by intro k z; cases z)) rfl
    · exact KnT.one (Kn.flat (by intro k z; cases z)) rfl
    · exact KnT.tup fun w hw => by rw [List.mem_singleton.mp hw]; exact Kn.flat (by intro k z; cases z)
    · exact KnT.tup fun w hw => kF w hw
  have K2 : Keeps t μ μ2 := fun j hj hjt => by rw [← hμ2, List.getElem?_append_left (by omega)]; exact o1 j hjt
  have hat : a.toNat < F.length := by omega
  have pa : place F.length a = some a.toNat := place_pos a0 (by omega)
  obtain ⟨s, hs⟩ : ∃ s : Int, F[a.toNat]? = some (.int s) := by
    rw [← hF, List.getElem?_map, List.getElem?_eq_getElem (by omega : a.toNat < fr.length)]
    exact ⟨_, rfl⟩
  have hpow : ∀ μ, sem2 .pow (.int 10) (.int 18) μ = .ok (.int 1000000000000000000) μ := fun _ => rfl
  obtain ⟨vals, hvs⟩ : ∃ vals : List Val, [Val.int s, .int (s - 1), .int (-1), .int 0, .int 1, .bl true, .bl false, .non, .str [48], .tup [.int 0], .int 1000000000000000000, .int 12] = vals := ⟨_, rfl⟩
  have hvl : vals.length = 12 := by rw [← hvs]; rfl
  have hvk : ∀ {μ : Sto}, ∀ v ∈ vals, Kn μ v := fun v hv => by
    rw [← hvs] at hv
    simp only [List.mem_cons, List.not_mem_nil, or_false] at hv
    rcases hv with rfl | rfl | rfl | rfl | rfl | rfl | rfl | rfl | rfl | rfl | rfl | rfl
    all_goals exact Kn.flat (by intro k z; cases z)
  obtain ⟨ρ3, μ3, e3, told3, o5, rfl, T3, k3, l3, n3, K3, _⟩ := forL_all (bind := bindT (.nm 5)) (body := ex (run P (n + 1)) B255_1) (src := .tup vals) (all := vals)
    (I := fun j ρ μ' => ∃ told o5, ρ = [some (.ref t), some (.tup F), some (.tup R), some (.int a), some (.ref (μ.length + 1)), o5] ∧ Till μ' t p purse r (N + 1) c1 m1 ∧ μ'[μ.length + 1]? = some (.lst told) ∧ (told.length ≤ 10 + j ∧ 10 ≤ told.length) ∧ (∀ v ∈ told, KnT μ' v) ∧ Keeps t μ μ' ∧ j ≤ 12) (xs := vals) (i := 0) (ρ := [some (.ref t), some (.tup F), some (.tup R), some (.int a), some (.ref (μ.length + 1)), none]) (μ := μ2)
    ⟨told0, none, rfl, T2, k2, ⟨by rw [← ht0]; simp, by rw [← ht0]; simp⟩, n2, K2, by omega⟩
    (fun j x ρ μ' hx hI => by
      obtain ⟨told, o5, rfl, T', k', l', n', K', j'⟩ := hI
      rw [Nat.zero_add] at l' j' ⊢
      have hj := (List.getElem?_eq_some_iff.mp hx).1
      obtain ⟨A, B, e1, e2, e3, e4⟩ := put_ex R x (m := 6) (by omega) (by omega) a
      have hlim : told.length < 16777216 := by omega
      have hkl : μ.length + 1 < μ'.length := (List.getElem?_eq_some_iff.mp k').1
      have g := Grow.set μ' (μ.length + 1) (told ++ [.tup B])
      refine ⟨_, [some (.ref t), some (.tup F), some (.tup R), some (.int a), some (.ref (μ.length + 1)), some x], μ'.set (μ.length + 1) (.lst (told ++ [.tup B])), rfl, .inl ?_, rfl, told ++ [.tup B], some x, rfl, T'.set (by omega) (by omega), List.getElem?_set_self hkl, ⟨by simp; omega, by simp; omega⟩, fun w hw => ?_, fun j hj hjt => ?_, by omega⟩
      · simp [B255_1, k', e1, e2, hlim]
      · rcases List.mem_append.mp hw with hw | hw
        · exact (n' w hw).grow g
        · rw [List.mem_singleton.mp hw]
          refine KnT.tup fun u hu => ?_
          rcases e3 u hu with hu | rfl
          · exact kR u hu
          · exact hvk u (List.mem_of_getElem? hx)
      · rw [List.getElem?_set_ne (by omega)]; exact K' j hj hjt)
  obtain ⟨k', q1, q2, q3, q4⟩ := clean_ref (μ := μ) (k := μ.length + 1) (by omega) k3 n3
  refine ⟨k', told3, (clean μ (.ref (μ.length + 1)) μ3).2, c1, m1, ?_, q2, q3, T3.clean ht hp _, K3.clean _, q4, l3.2, by have h12 := l3.1; rw [hvl] at h12; omega⟩
  have eo : ex (run P (n + 1)) F255.body (enter F255 [.ref t, .tup F, .tup R]) μ = .ret (.ref (μ.length + 1)) μ3 := by
    have la : ∀ μ, sem2 .sub (.int s) (.int 1) μ = .ok (.int (s - 1)) μ := fun _ => rfl
    simp [F255, enter, newLst, e1, a01, ht0, hμ2, pa, hs, hpow, hvs, ← l1]
    rw [← l1] at e3
    simp [e3]
  rw [run_succ h255 _ _ rfl, hF, hR, eo]
  show Out.ok (clean μ _ μ3).1 _ = _
  rw [q1]
theorem r_no_records (h268 : P 268 = some F268) (h255 : P 255 = some F255) (T : Till μ t p purse r N c m) (hN : N ≤ 10000000) (G : GoodF fr) {rs : List Int} (hlen : rs.length = fr.length) : ∃ k things μ' c' m', run P (n + 2) 255 [.ref t, .tup (fr.map .int), .tup (rs.map .int)] μ = .ok (.ref k) μ' ∧ μ'[k]? = some (.lst things) ∧ (∀ v ∈ things, KnT μ' v) ∧ Till μ' t p purse r (N + 1) c' m' ∧ Keeps t μ μ' := let ⟨k, things, μ', c', m', h1, h2, h3, h4, h5, _⟩ := r_no_records2 (n := n) h268 h255 T hN G hlen; ⟨k, things, μ', c', m', h1, h2, h3, h4, h5⟩
theorem r_great (h268 : P 268 = some F268) (h253 : P 253 = some F253) (T : Till μ t p purse r N c m) (hN : N ≤ 1000000) : ∃ (fr : List Int) (μ' : Sto) (c' m' : Int), run P (n + 2) 253 [.ref t] μ = .ok (.tup (fr.map .int)) μ' ∧ GoodF fr ∧ Till μ' t p purse r (N + 1) c' m' := by
  have ht : t < μ.length := (List.getElem?_eq_some_iff.mp T.at_).1
  have hp : p < μ.length := (List.getElem?_eq_some_iff.mp T.pu).1
  obtain ⟨rows, hrows⟩ : ∃ rows : List Val, [Val.tup [.int 5, .int 10, .int 10], .tup [.int 10, .int 5, .int 10], .tup [.int 2, .int 2, .int 5, .int 5, .int 5], .tup [.int 1, .int 4, .int 5, .int 5, .int 5, .int 1], .tup [.int 9, .int 5, .int 11], .tup [.int 4, .int 11, .int 11], .tup [.int 2, .int 2, .int 2, .int 2, .int 5, .int 6], .tup [.int 12, .int 10, .int 4]] = rows := ⟨_, rfl⟩
  obtain ⟨μ1, hμ1⟩ : ∃ μ1, μ ++ [.lst rows] = μ1 := ⟨_, rfl⟩
  have T1 : Till μ1 t p purse r N c m := by rw [← hμ1]; exact T.app _
  have k1 : μ1[μ.length]? = some (.lst rows) := by rw [← hμ1, List.getElem?_append_right (Nat.le_refl _)]; simp
  obtain ⟨x, μ2, c2, m2, e2, x0, x1, T2, _, o2, _⟩ := coin_ex h268 (n := n) T1 (by omega) 7 8
  have k2 : μ2[μ.length]? = some (.lst rows) := by rw [o2 _ (by omega)]; exact k1
  have lr : rows.length = 8 := by rw [← hrows]; rfl
  have px : place 8 x = some x.toNat := place_pos x0 (by omega)
  obtain ⟨fr, hf, G⟩ : ∃ fr : List Int, rows[x.toNat]? = some (.tup (fr.map .int)) ∧ GoodF fr := by
    have good : ∀ l : List Int, (1 ≤ l.length ∧ l.length ≤ 6 ∧ (∀ x ∈ l, 1 ≤ x ∧ x ≤ 12) ∧ prodI l ≤ 500) → GoodF l := fun l h => ⟨h.1, h.2.1, h.2.2.1, h.2.2.2⟩
    rw [← hrows]
    rcases (show x.toNat = 0 ∨ x.toNat = 1 ∨ x.toNat = 2 ∨ x.toNat = 3 ∨ x.toNat = 4 ∨ x.toNat = 5 ∨ x.toNat = 6 ∨ x.toNat = 7 by omega) with e | e | e | e | e | e | e | e
    · rw [e]; exact ⟨[5, 10, 10], rfl, good _ (by decide)⟩
    · rw [e]; exact ⟨[10, 5, 10], rfl, good _ (by decide)⟩
    · rw [e]; exact ⟨[2, 2, 5, 5, 5], rfl, good _ (by decide)⟩
    · rw [e]; exact ⟨[1, 4, 5, 5, 5, 1], rfl, good _ (by decide)⟩
    · rw [e]; exact ⟨[9, 5, 11], rfl, good _ (by decide)⟩
    · rw [e]; exact ⟨[4, 11, 11], rfl, good _ (by decide)⟩
    · rw [e]; exact ⟨[2, 2, 2, 2, 5, 6], rfl, good _ (by decide)⟩
    · rw [e]; exact ⟨[12, 10, 4], rfl, good _ (by decide)⟩
  have eo : ex (run P (n + 1)) F253.body (enter F253 [.ref t]) μ = .ret (.tup (fr.map .int)) μ2 := by
    simp [F253, enter, newLst, hrows, hμ1, e2, k2, lr, px, hf]
  refine ⟨fr, (clean μ (.tup (fr.map .int)) μ2).2, c2, m2, ?_, G, T2.clean ht hp _⟩
  rw [run_succ h253 _ _ rfl, eo]
  show Out.ok (clean μ _ μ2).1 _ = _
  rw [clean_val (by intro k z; cases z)]
end
end Mi
end

section
set_option linter.all false
set_option autoImplicit false
/-! PK12a: changes that are checked. -/
namespace Mi
structure HasK12 (P : Nat → Option Fn) : Prop where
  rc : HasRec P
  h238 : P 238 = some F238
  h239 : P 239 = some F239
  h240 : P 240 = some F240
  h253 : P 253 = some F253
  h255 : P 255 = some F255
  h261 : P 261 = some F261
  h262 : P 262 = some F262
  h263 : P 263 = some F263
  h264 : P 264 = some F264
  h265 : P 265 = some F265
  h266 : P 266 = some F266
  h267 : P 267 = some F267
  h268 : P 268 = some F268
  h269 : P 269 = some F269
  h270 : P 270 = some F270
  h271 : P 271 = some F271
  h272 : P 272 = some F272
  h273 : P 273 = some F273
  h274 : P 274 = some F274
  h275 : P 275 = some F275
  h276 : P 276 = some F276
abbrev sTold : List Nat := [116, 111, 108, 100]
abbrev sRaised : List Nat := [114, 97, 105, 115, 101, 100]
abbrev sShape : List Nat := [115, 104, 97, 112, 101]
abbrev sRecord : List Nat := [114, 101, 99, 111, 114, 100]
/-- known within, and what it holds -/
def KnV (μ : Sto) (v : Val) : Prop := Kn μ v ∧ ∀ w ∈ items0 v, KnT μ w
theorem prodI_V : ∀ fr : List Int, prodV (fr.map .int) = prodI fr
  | [] => rfl
  | x :: xs => by rw [List.map_cons, prodV, prodI, prodI_V xs]
theorem recs_length {fr : List Int} (G : GoodF fr) : ((recsOf fr).length : Int) = prodI fr := by
  unfold recsOf
  rw [recsF_len, ← prod_toNat G.g]
  simp
theorem plains_ints {n : Nat} : ∀ ns : List Int, plains n (ns.map .int) = true
  | [] => by rfl
  | i :: ns => by rw [List.map_cons, plains, plains_ints ns]; rfl
def rcs (fr : List Int) : List Val := (recsOf fr).map .tup
theorem rcs_len {fr : List Int} (G : GoodF fr) : ((rcs fr).length : Int) = prodI fr := by
  rw [rcs, List.length_map]; exact recs_length G
theorem rcs_at {fr : List Int} (G : GoodF fr) {i : Nat} {v : Val} (h : (rcs fr)[i]? = some v) : ∃ rs : List Int, v = .tup (rs.map .int) ∧ inF fr rs ∧ placeL 0 fr rs = (i : Nat) := by
  rw [rcs, List.getElem?_map] at h
  cases hq : (recsOf fr)[i]? with
  | none => rw [hq] at h; cases h
  | some q =>
    rw [hq] at h
    cases h
    obtain ⟨rs, rfl, h1, h2⟩ := recs_at G.g hq
    exact ⟨rs, rfl, h1, h2⟩
theorem rcs_rec {fr : List Int} (G : GoodF fr) {v : Val} (h : v ∈ rcs fr) : recV fr v = true := by
  obtain ⟨i, hi⟩ := List.getElem?_of_mem h
  obtain ⟨rs, rfl, h1, _⟩ := rcs_at G hi
  exact (recB_iff fr _).mpr ⟨rs, rfl, h1⟩
theorem rec_plain {fr : List Int} {v : Val} (h : recV fr v = true) : v.plain 60 = true := by
  cases v with
  | tup vs =>
    obtain ⟨rs, rfl, _⟩ := (recB_iff fr vs).mp h
    exact plains_ints rs
  | _ => cases h
theorem rec_eqOk {fr : List Int} {v w : Val} (h : recV fr v = true) (h2 : recV fr w = true) : eqOk v w = true := by
  unfold eqOk
  rw [rec_plain h, rec_plain h2]
  simp
theorem rec_KnT {fr : List Int} {v : Val} (μ : Sto) (h : recV fr v = true) : KnT μ v := by
  cases v with
  | tup vs =>
    obtain ⟨rs, rfl, _⟩ := (recB_iff fr vs).mp h
    exact KnT_ints μ rs
  | _ => cases h
/-- led to another -/
def neAt (vs rs : List Val) : Val → Bool
  | .int k => !eqv (vs.getD k.toNat .non) (rs.getD k.toNat .non)
  | _ => true
def movedL (vs rs : List Val) : List Val := ((List.range rs.length).map fun i => Val.int (i : Nat)).filter (neAt vs rs)
theorem neAt_at {vs rs : List Val} {k : Nat} {v w : Val} (h1 : vs[k]? = some v) (h2 : rs[k]? = some w) : neAt vs rs (.int (k : Nat)) = !eqv v w := by
  unfold neAt
  simp [h1, h2]
section
variable {P : Nat → Option Fn} (H : HasK12 P) {n : Nat} {μ : Sto} {fr : List Int}
include H
theorem r_moved (G : GoodF fr) {vs : List Val} (hl : vs.length = (rcs fr).length) (hr : ∀ v ∈ vs, recV fr v = true) : run P (n + 2) 262 [.tup (fr.map .int), .tup vs] μ = .ok (.int (movedL vs (rcs fr)).length) μ := by
  rw [run_succ H.h262 _ _ rfl]
  have e1 := r_records_of H.rc.h127 (n := n) (μ := μ) G.g G.p G.l2
  have hlen := rcs_len G
  have hp := G.p
  obtain ⟨RS, hRS⟩ : ∃ RS, rcs fr = RS := ⟨_, rfl⟩
  have e1' : run P (n + 1) 127 [.tup (fr.map .int)] μ = .ok (.tup RS) μ := by rw [← hRS]; exact e1
  have hc : compL (fun v => some [some (.tup (fr.map .int)), some (.tup vs), some (.tup RS), some v]) (ev (run P (n + 1)) (.op2 .ne (.op2 .idx (.var 1) (.var 3)) (.op2 .idx (.var 2) (.var 3)))) (ev (run P (n + 1)) (.var 3)) (.tup ((List.range RS.length).map fun i => Val.int (i : Nat))) ((List.range RS.length).map fun i => Val.int (i : Nat)) ((List.range RS.length).map fun i => Val.int (i : Nat)) μ = .ok ((((List.range RS.length).map fun i => Val.int (i : Nat)).filter (neAt vs RS)).map id) μ := by
    refine compL_filter rfl fun x hx => ?_
    obtain ⟨k, hk, rfl⟩ := List.mem_map.mp hx
    have hk' : k < RS.length := List.mem_range.mp hk
    rw [hRS] at hl
    have g1 : vs[k]? = some (vs[k]'(by omega)) := List.getElem?_eq_getElem (by omega)
    have g2 : RS[k]? = some RS[k] := List.getElem?_eq_getElem hk'
    have p1 : place vs.length (k : Int) = some k := place_nat (by omega)
    have p2 : place RS.length (k : Int) = some k := place_nat hk'
    have hne : ∀ μ, sem2 .ne (vs[k]'(by omega)) RS[k] μ = .ok (.bl (!eqv (vs[k]'(by omega)) RS[k])) μ := fun μ => s_nef (rec_eqOk (hr _ (List.getElem_mem _)) (rcs_rec G (by rw [hRS]; exact List.getElem_mem _)))
    refine ⟨_, rfl, ?_, rfl⟩
    rw [neAt_at g1 g2]
    simp [p1, p2, g1, g2, hne]
  rw [List.map_id] at hc
  have hRl : (RS.length : Int) = prodI fr := by rw [← hRS]; exact hlen
  have l1 : (RS.length : Int) ≤ 16777216 := by omega
  have l2 : -(16777216 : Int) ≤ (RS.length : Int) := by omega
  have l3 : RS.length ≤ LIM := by simp only [LIM]; omega
  have eo : ex (run P (n + 1)) F262.body (enter F262 [.tup (fr.map .int), .tup vs]) μ = .ret (.int (movedL vs RS).length) (μ ++ [.lst (movedL vs RS)]) := by
    simp [F262, enter, e1', l1, l2, l3, hc, newLst, movedL]
  rw [eo, hRS]
  exact cleanO_app rfl
theorem chk_body {vs : List Val} {at_ : Nat} {v : Val} (G : GoodF fr) (hv : vs[at_]? = some v) (hk : KnT μ v) {o2 : Option Val} : ex (run P (n + 4)) B261_1 [some (.tup (fr.map .int)), some (.tup vs), some (.int (at_ : Nat))] μ = (if recV fr v then .nx [some (.tup (fr.map .int)), some (.tup vs), some (.int (at_ : Nat))] μ else .exc 0 [.int (at_ : Nat), .str sRecord] [some (.tup (fr.map .int)), some (.tup vs), some (.int (at_ : Nat))] μ) := by
  have e := r_is_record H.rc (n := n) (μ := μ) (fr := fr) v hk G.l2
  have p : place vs.length (at_ : Int) = some at_ := place_nat (List.getElem?_eq_some_iff.mp hv).1
  cases hr : recV fr v <;> simp [B261_1, p, hv, e, hr]
theorem fault_body {vs : List Val} {at_ : Nat} {v kr : Val} (G : GoodF fr) (hv : vs[at_]? = some v) (hk : KnT μ v) : ex (run P (n + 1)) B270_1 [some (.tup (fr.map .int)), some kr, some (.tup vs), some (.int (at_ : Nat)), none] μ = (if recV fr v then .nx [some (.tup (fr.map .int)), some kr, some (.tup vs), some (.int (at_ : Nat)), none] μ else .ret (.tup [.str sRaised, .int (at_ : Nat), .str sRecord]) μ) := by
  have e := r_law_is_record H.rc (n := n) (μ := μ) (fr := fr) v hk G.l2
  have p : place vs.length (at_ : Int) = some at_ := place_nat (List.getElem?_eq_some_iff.mp hv).1
  cases hr : recV fr v <;> simp [B270_1, p, hv, e, hr]
end
end Mi
end

section
set_option linter.all false
set_option autoImplicit false
/-! PK12b: check_change, is_change, what is heard of them. -/
namespace Mi
section
variable {P : Nat → Option Fn} (H : HasK12 P) {n : Nat} {μ : Sto} {fr : List Int}
include H
theorem k12_count (G : GoodF fr) : run P (n + 1) 126 [.tup (fr.map .int)] μ = .ok (.int (prodI fr)) μ := by
  have e1 := r_count_of H.rc.h126 (n := n) (μ := μ) (vs := fr.map .int) (fun w hw => by
    obtain ⟨i, hi, rfl⟩ := List.mem_map.mp hw
    have := G.g i hi
    simp [sizeOk, this.1, this.2]) (by have := G.l2; simp; omega)
  rw [prodI_V] at e1
  exact e1
theorem check_shape (G : GoodF fr) (v : Val) (hk : Kn μ v) (h : rowV v (prodI fr) = false) : run P (n + 5) 261 [.tup (fr.map .int), v] μ = .exc 0 [.int (-1), .str sShape] μ := by
  rw [run_succ H.h261 _ _ rfl]
  have e1 := k12_count H (n := n + 3) (μ := μ) G
  cases v with
  | ref k =>
    obtain ⟨xs, e⟩ := hk k rfl
    simp [F261, enter, isTys1, isTy, e, cleanO_exc_same]
  | tup vs =>
    simp [rowV] at h
    simp [F261, enter, isTys1, isTy, e1, h, cleanO_exc_same]
  | _ => simp [F261, enter, isTys1, isTy, cleanO_exc_same]
theorem check_rec (G : GoodF fr) {vs : List Val} (hk : ∀ v ∈ vs, KnT μ v) (hl : (vs.length : Int) = prodI fr) {at_ : Nat} (hf : vs.findIdx? (fun v => !recV fr v) = some at_) : run P (n + 5) 261 [.tup (fr.map .int), .tup vs] μ = .exc 0 [.int (at_ : Nat), .str sRecord] μ := by
  rw [run_succ H.h261 _ _ rfl]
  have e1 := k12_count H (n := n + 3) (μ := μ) G
  obtain ⟨v, hv, hb, hlt⟩ := findIdx_some hf
  have hp := G.p
  have l1 : (vs.length : Int) ≤ 16777216 := by omega
  have l2 : -(16777216 : Int) ≤ (vs.length : Int) := by omega
  have hat := (List.getElem?_eq_some_iff.mp hv).1
  have e : forL (bindT (.nm 2)) (ex (run P (n + 4)) B261_1) (.tup ((List.range vs.length).map fun i => Val.int (i : Nat))) ((List.range vs.length).map fun i => Val.int (i : Nat)) ((List.range vs.length).map fun i => Val.int (i : Nat)) [some (.tup (fr.map .int)), some (.tup vs), none] μ = .exc 0 [.int (at_ : Nat), .str sRecord] [some (.tup (fr.map .int)), some (.tup vs), some (.int (at_ : Nat))] μ :=
    forL_to (I := fun j ρ μ' => μ = μ' ∧ ∃ o, ρ = [some (.tup (fr.map .int)), some (.tup vs), o]) (i := 0) (k := at_) (y := .int (at_ : Nat)) ⟨rfl, none, rfl⟩ (by rw [List.getElem?_map, List.getElem?_range hat]; rfl)
      (fun j x ρ μ' hj hx hI => by
        obtain ⟨rfl, o, rfl⟩ := hI
        obtain ⟨hjn, rfl⟩ := rng_at hx
        have gj : vs[j]? = some vs[j] := List.getElem?_eq_getElem hjn
        have hb2 := chk_body H (n := n) (μ := μ) (o2 := none) G gj (hk _ (List.getElem_mem _))
        have hr : recV fr vs[j] = true := by simpa using hlt j _ hj gj
        rw [hr, if_pos rfl] at hb2
        exact ⟨_, _, μ, rfl, .inl hb2, rfl, rfl, _, rfl⟩)
      (fun ρ μ' hI => by
        obtain ⟨rfl, o, rfl⟩ := hI
        have hb2 := chk_body H (n := n) (μ := μ) (o2 := none) G hv (hk _ (List.mem_of_getElem? hv))
        have hr : recV fr v = false := by simpa using hb
        rw [hr, if_neg (by simp)] at hb2
        refine ⟨_, rfl, fun kk => ?_⟩
        show (ex (run P (n + 4)) B261_1 [some (.tup (fr.map .int)), some (.tup vs), some (.int (at_ : Nat))] μ).turn kk = _
        rw [hb2]; rfl)
  simp [F261, enter, isTys1, isTy, e1, hl]
  rw [← hl]
  simp [l1, l2, e, cleanO_exc_same]
theorem check_ok (G : GoodF fr) {vs : List Val} (hl : vs.length = (rcs fr).length) (hr : ∀ v ∈ vs, recV fr v = true) : run P (n + 5) 261 [.tup (fr.map .int), .tup vs] μ = .ok (.int (movedL vs (rcs fr)).length) μ := by
  rw [run_succ H.h261 _ _ rfl]
  have e1 := k12_count H (n := n + 3) (μ := μ) G
  have e2 := r_moved H (n := n + 2) (μ := μ) G hl hr
  have hp := G.p
  have hlen := rcs_len G
  have hl' : (vs.length : Int) = prodI fr := by omega
  have l1 : (vs.length : Int) ≤ 16777216 := by omega
  have l2 : -(16777216 : Int) ≤ (vs.length : Int) := by omega
  obtain ⟨ρ', μ', e, rfl, o, rfl⟩ := forL_all (bind := bindT (.nm 2)) (body := ex (run P (n + 4)) B261_1) (src := .tup ((List.range vs.length).map fun i => Val.int (i : Nat))) (all := (List.range vs.length).map fun i => Val.int (i : Nat)) (I := fun j ρ μ' => μ = μ' ∧ ∃ o, ρ = [some (.tup (fr.map .int)), some (.tup vs), o]) (xs := (List.range vs.length).map fun i => Val.int (i : Nat)) (i := 0) (ρ := [some (.tup (fr.map .int)), some (.tup vs), none]) (μ := μ) ⟨rfl, none, rfl⟩
      (fun j x ρ μ' hx hI => by
        obtain ⟨rfl, o, rfl⟩ := hI
        obtain ⟨hjn, rfl⟩ := rng_at hx
        have gj : vs[j]? = some vs[j] := List.getElem?_eq_getElem hjn
        have hb2 := chk_body H (n := n) (μ := μ) (o2 := none) G gj (rec_KnT μ (hr _ (List.getElem_mem _)))
        rw [hr _ (List.getElem_mem _), if_pos rfl] at hb2
        exact ⟨_, _, μ, rfl, .inl hb2, rfl, rfl, _, rfl⟩)
  simp [F261, enter, isTys1, isTy, e1, hl']
  rw [← hl']
  simp [l1, l2, e, e2, cleanO_same]
/-- what the law itself says of a thing -/
def sayL (fr : List Int) (v : Val) : Val := match v with
  | .tup vs => if vs.length = (rcs fr).length then (match vs.findIdx? (fun v => !recV fr v) with
    | some k => .tup [.str sRaised, .int (k : Nat), .str sRecord]
    | none => .tup [.str sTold, .int (movedL vs (rcs fr)).length]) else .tup [.str sRaised, .int (-1), .str sShape]
  | _ => .tup [.str sRaised, .int (-1), .str sShape]
/-- a change of the frame -/
def isCh (fr : List Int) (v : Val) : Bool := match v with
  | .tup vs => decide (vs.length = (rcs fr).length) && (vs.findIdx? (fun v => !recV fr v)).isNone
  | _ => false
theorem sayL_smp (v : Val) : smp (sayL fr v) = true ∧ dpt (sayL fr v) ≤ 1 := by
  unfold sayL
  split
  · split
    · split <;> exact ⟨rfl, by simp [dpt, dpts]⟩
    · exact ⟨rfl, by simp [dpt, dpts]⟩
  · exact ⟨rfl, by simp [dpt, dpts]⟩
theorem heard_k12 (G : GoodF fr) (v : Val) (hk : KnV μ v) : run P (n + 6) 271 [.tup (fr.map .int), v] μ = .ok (sayL fr v) μ ∧ run P (n + 6) 263 [.tup (fr.map .int), v] μ = .ok (.bl (isCh fr v)) μ := by
  rw [run_succ H.h271 _ _ rfl, run_succ H.h263 _ _ rfl]
  have hlen := rcs_len G
  cases hrow : rowV v (prodI fr) with
  | false =>
    have e := check_shape H (n := n) G v hk.1 hrow
    have h1 : sayL fr v = .tup [.str sRaised, .int (-1), .str sShape] ∧ isCh fr v = false := by
      cases v with
      | tup vs =>
        simp [rowV] at hrow
        have : vs.length ≠ (rcs fr).length := by omega
        simp [sayL, isCh, this]
      | _ => exact ⟨rfl, rfl⟩
    rw [h1.1, h1.2]
    constructor
    · simp [F271, enter, e, handle, hcOk, hcLoc, evF, cleanO_same]
    · simp [F263, enter, e, handle, hcOk, hcLoc, evF, cleanO_same]
  | true =>
    cases v with
    | tup vs =>
      simp [rowV] at hrow
      have hl : vs.length = (rcs fr).length := by omega
      cases hf : vs.findIdx? (fun v => !recV fr v) with
      | some k =>
        have e : run P (n + 5) 261 [.tup (fr.map .int), .tup vs] μ = _ := check_rec H (n := n) (vs := vs) G hk.2 hrow hf
        have h1 : sayL fr (.tup vs) = .tup [.str sRaised, .int (k : Nat), .str sRecord] ∧ isCh fr (.tup vs) = false := by simp [sayL, isCh, hl, hf]
        rw [h1.1, h1.2]
        constructor
        · simp [F271, enter, e, handle, hcOk, hcLoc, evF, cleanO_same]
        · simp [F263, enter, e, handle, hcOk, hcLoc, evF, cleanO_same]
      | none =>
        have e := check_ok H (n := n) (μ := μ) G hl (fun v hv => by simpa using findIdx_none hf v hv)
        have h1 : sayL fr (.tup vs) = .tup [.str sTold, .int (movedL vs (rcs fr)).length] ∧ isCh fr (.tup vs) = true := by simp [sayL, isCh, hl, hf]
        rw [h1.1, h1.2]
        constructor
        · simp [F271, enter, e, cleanO_same]
        · simp [F263, enter, e, cleanO_same]
    | _ => cases hrow
theorem r_fault (G : GoodF fr) (v : Val) (hk : KnV μ v) {kr : Nat} (hkr : μ[kr]? = some (.lst (rcs fr))) : run P (n + 2) 270 [.tup (fr.map .int), .ref kr, v] μ = .ok (sayL fr v) μ := by
  rw [run_succ H.h270 _ _ rfl]
  have hp := G.p
  have hlen := rcs_len G
  cases v with
  | ref k =>
    obtain ⟨xs, e⟩ := hk.1 k rfl
    simp [F270, enter, isTys1, isTy, e, sayL, cleanO_same]
  | tup vs =>
    by_cases hl : vs.length = (rcs fr).length
    · have l0 : (vs.length : Int) = ((rcs fr).length : Int) := by omega
      have l1 : (vs.length : Int) ≤ 16777216 := by omega
      have l2 : -(16777216 : Int) ≤ (vs.length : Int) := by omega
      cases hf : vs.findIdx? (fun v => !recV fr v) with
      | some at_ =>
        obtain ⟨v, hv, hb, hlt⟩ := findIdx_some hf
        have hat := (List.getElem?_eq_some_iff.mp hv).1
        have e : forL (bindT (.nm 3)) (ex (run P (n + 1)) B270_1) (.tup ((List.range vs.length).map fun i => Val.int (i : Nat))) ((List.range vs.length).map fun i => Val.int (i : Nat)) ((List.range vs.length).map fun i => Val.int (i : Nat)) [some (.tup (fr.map .int)), some (.ref kr), some (.tup vs), none, none] μ = .ret (.tup [.str sRaised, .int (at_ : Nat), .str sRecord]) μ :=
          forL_to (I := fun j ρ μ' => μ = μ' ∧ ∃ o, ρ = [some (.tup (fr.map .int)), some (.ref kr), some (.tup vs), o, none]) (i := 0) (k := at_) (y := .int (at_ : Nat)) ⟨rfl, none, rfl⟩ (by rw [List.getElem?_map, List.getElem?_range hat]; rfl)
            (fun j x ρ μ' hj hx hI => by
              obtain ⟨rfl, o, rfl⟩ := hI
              obtain ⟨hjn, rfl⟩ := rng_at hx
              have gj : vs[j]? = some vs[j] := List.getElem?_eq_getElem hjn
              have hb2 := fault_body H (n := n) (μ := μ) (kr := .ref kr) G gj (hk.2 _ (List.getElem_mem _))
              have hr : recV fr vs[j] = true := by simpa using hlt j _ hj gj
              rw [hr, if_pos rfl] at hb2
              exact ⟨_, _, μ, rfl, .inl hb2, rfl, rfl, _, rfl⟩)
            (fun ρ μ' hI => by
              obtain ⟨rfl, o, rfl⟩ := hI
              have hb2 := fault_body H (n := n) (μ := μ) (kr := .ref kr) G hv (hk.2 _ (List.mem_of_getElem? hv))
              have hr : recV fr v = false := by simpa using hb
              rw [hr, if_neg (by simp)] at hb2
              refine ⟨_, rfl, fun kk => ?_⟩
              show (ex (run P (n + 1)) B270_1 [some (.tup (fr.map .int)), some (.ref kr), some (.tup vs), some (.int (at_ : Nat)), none] μ).turn kk = _
              rw [hb2]; rfl)
        have h1 : sayL fr (.tup vs) = .tup [.str sRaised, .int (at_ : Nat), .str sRecord] := by simp [sayL, hl, hf]
        rw [h1]
        simp [F270, enter, isTys1, isTy, hkr, l0]
        rw [← l0]
        rw [← hl]
        simp [l1, l2, e, cleanO_same]
      | none =>
        have hr : ∀ v ∈ vs, recV fr v = true := fun v hv => by simpa using findIdx_none hf v hv
        obtain ⟨ρ', μ', e, rfl, o, rfl⟩ := forL_all (bind := bindT (.nm 3)) (body := ex (run P (n + 1)) B270_1) (src := .tup ((List.range vs.length).map fun i => Val.int (i : Nat))) (all := (List.range vs.length).map fun i => Val.int (i : Nat)) (I := fun j ρ μ' => μ = μ' ∧ ∃ o, ρ = [some (.tup (fr.map .int)), some (.ref kr), some (.tup vs), o, none]) (xs := (List.range vs.length).map fun i => Val.int (i : Nat)) (i := 0) (ρ := [some (.tup (fr.map .int)), some (.ref kr), some (.tup vs), none, none]) (μ := μ) ⟨rfl, none, rfl⟩
            (fun j x ρ μ' hx hI => by
              obtain ⟨rfl, o, rfl⟩ := hI
              obtain ⟨hjn, rfl⟩ := rng_at hx
              have gj : vs[j]? = some vs[j] := List.getElem?_eq_getElem hjn
              have hb2 := fault_body H (n := n) (μ := μ) (kr := .ref kr) G gj (hk.2 _ (List.getElem_mem _))
              rw [hr _ (List.getElem_mem _), if_pos rfl] at hb2
              exact ⟨_, _, μ, rfl, .inl hb2, rfl, rfl, _, rfl⟩)
        have h1 : sayL fr (.tup vs) = .tup [.str sTold, .int (movedL vs (rcs fr)).length] := by simp [sayL, hl, hf]
        rw [h1]
        obtain ⟨RS, hRS⟩ : ∃ RS, rcs fr = RS := ⟨_, rfl⟩
        rw [hRS] at hkr hl l0 hlen
        rw [hRS]
        have hc : compL (fun v => some [some (.tup (fr.map .int)), some (.ref kr), some (.tup vs), o, some v]) (ev (run P (n + 1)) (.op2 .ne (.op2 .idx (.var 2) (.var 4)) (.op2 .idx (.var 1) (.var 4)))) (ev (run P (n + 1)) (.var 4)) (.tup ((List.range RS.length).map fun i => Val.int (i : Nat))) ((List.range RS.length).map fun i => Val.int (i : Nat)) ((List.range RS.length).map fun i => Val.int (i : Nat)) μ = .ok ((((List.range RS.length).map fun i => Val.int (i : Nat)).filter (neAt vs RS)).map id) μ := by
          refine compL_filter rfl fun x hx => ?_
          obtain ⟨k, hk, rfl⟩ := List.mem_map.mp hx
          have hk' : k < RS.length := List.mem_range.mp hk
          have g1 : vs[k]? = some (vs[k]'(by omega)) := List.getElem?_eq_getElem (by omega)
          have g2 : RS[k]? = some RS[k] := List.getElem?_eq_getElem hk'
          have p1 : place vs.length (k : Int) = some k := place_nat (by omega)
          have p2 : place RS.length (k : Int) = some k := place_nat hk'
          have hne : ∀ μ, sem2 .ne (vs[k]'(by omega)) RS[k] μ = .ok (.bl (!eqv (vs[k]'(by omega)) RS[k])) μ := fun μ => s_nef (rec_eqOk (hr _ (List.getElem_mem _)) (rcs_rec G (by rw [hRS]; exact List.getElem_mem _)))
          refine ⟨_, rfl, ?_, rfl⟩
          rw [neAt_at g1 g2]
          simp [p1, p2, g1, g2, hne, hkr]
        rw [List.map_id] at hc
        have l3 : RS.length ≤ LIM := by simp only [LIM]; omega
        have l1' : (RS.length : Int) ≤ 16777216 := by omega
        have l2' : -(16777216 : Int) ≤ (RS.length : Int) := by omega
        have eo : ex (run P (n + 1)) F270.body (enter F270 [.tup (fr.map .int), .ref kr, .tup vs]) μ = .ret (.tup [.str sTold, .int (movedL vs RS).length]) (μ ++ [.lst (movedL vs RS)]) := by
          rw [hl] at e
          simp [F270, enter, isTys1, isTy, hkr, hl, l1', l2', l3, e, hc, newLst, movedL]
        rw [eo]
        exact cleanO_app rfl
    · have l0 : ¬ (vs.length : Int) = ((rcs fr).length : Int) := by omega
      simp [F270, enter, isTys1, isTy, hkr, sayL, l0, hl, cleanO_same]
  | _ => simp [F270, enter, isTys1, isTy, sayL, cleanO_same]
theorem sayL_told (v : Val) : ∃ w s vs, sayL fr v = .tup (.str s :: w :: vs) ∧ (s == sTold) = isCh fr v := by
  cases v with
  | tup vs =>
    by_cases hl : vs.length = (rcs fr).length
    · cases hf : vs.findIdx? (fun v => !recV fr v) with
      | some k => exact ⟨_, _, _, by simp only [sayL, hl, hf, if_true]; rfl, by simp [isCh, hl, hf]⟩
      | none => exact ⟨_, _, _, by simp only [sayL, hl, hf, if_true]; rfl, by simp [isCh, hl, hf]⟩
    · exact ⟨_, _, _, by simp only [sayL, hl, if_false]; rfl, by simp [isCh, hl]⟩
  | _ => exact ⟨_, _, _, rfl, rfl⟩
theorem r_asked (G : GoodF fr) (v : Val) (hk : KnV μ v) {kr : Nat} (hkr : μ[kr]? = some (.lst (rcs fr))) : run P (n + 7) 273 [.tup (fr.map .int), .ref kr, v] μ = .ok (.bl true) μ := by
  rw [run_succ H.h273 _ _ rfl]
  have e1 := r_fault H (n := n + 4) G v hk hkr
  have e2 := heard_k12 H (n := n) G v hk
  have s1 := r_same (μ := μ) H.h238 (n + 5) (sayL fr v) (sayL_smp H v).1 (by have := (sayL_smp H (fr := fr) v).2; omega)
  have s2 := r_same (μ := μ) H.h238 (n + 5) (.bl (isCh fr v)) rfl (Nat.zero_le _)
  obtain ⟨w, s, vs, e3, e4⟩ := sayL_told H (fr := fr) v
  have e5 : place (vs.length + 1 + 1) 0 = some 0 := by unfold place; simp; omega
  rw [e3] at e1 e2 s1
  simp [F273, enter, e1, e2.1, e2.2, s1, s2, e4, e5, cleanO_same]
end
end Mi
end

section
set_option linter.all false
set_option autoImplicit false
/-! PK12c: images; where a record stands. -/
namespace Mi
theorem placeL_inj : ∀ {ss a b : List Int} {p q : Int}, inF ss a → inF ss b → placeL p ss a = placeL q ss b → p = q ∧ a = b
  | [], [], [], p, q, _, _, h => ⟨h, rfl⟩
  | s :: ss, x :: a, y :: b, p, q, h1, h2, h => by
    obtain ⟨e1, e2⟩ := placeL_inj h1.2.2 h2.2.2 h
    have hx := h1.1
    have hx2 := h1.2.1
    have hy := h2.1
    have hy2 := h2.2.1
    have d1 : (x + p * s) / s = p := by rw [Int.add_mul_ediv_right _ _ (by omega), Int.ediv_eq_zero_of_lt hx hx2]; omega
    have d2 : (y + q * s) / s = q := by rw [Int.add_mul_ediv_right _ _ (by omega), Int.ediv_eq_zero_of_lt hy hy2]; omega
    have e3 : x + p * s = y + q * s := by omega
    rw [e3, d2] at d1
    subst d1
    exact ⟨rfl, by rw [e2, show x = y by omega]⟩
  | [], _ :: _, _, _, _, h, _, _ => h.elim
  | [], [], _ :: _, _, _, _, h, _ => h.elim
  | _ :: _, [], _, _, _, h, _, _ => h.elim
  | _ :: _, _ :: _, [], _, _, _, h, _ => h.elim
theorem eqvs_ints : ∀ (a b : List Int), eqvs (a.map .int) (b.map .int) = decide (a = b)
  | [], [] => by simp [eqvs]
  | [], _ :: _ => by simp [eqvs]
  | _ :: _, [] => by simp [eqvs]
  | x :: a, y :: b => by
    rw [List.map_cons, List.map_cons, eqvs, eqvs_ints a b, eqv]
    by_cases h1 : x = y
    · subst h1; simp
    · simp [h1]
theorem GoodF.pl {fr rs : List Int} (G : GoodF fr) (h : inF fr rs) : 0 ≤ placeL 0 fr rs ∧ placeL 0 fr rs < prodI fr := by
  have := placeL_bound (p := 0) (q := 1) h G.g (by omega) (by omega)
  omega
/-- where a record stands -/
theorem rcs_place {fr rs : List Int} (G : GoodF fr) (h : inF fr rs) : (rcs fr)[(placeL 0 fr rs).toNat]? = some (.tup (rs.map .int)) := by
  have hp := G.pl h
  have hl := rcs_len G
  have g := List.getElem?_eq_getElem (by omega : (placeL 0 fr rs).toNat < (rcs fr).length)
  obtain ⟨rs', e, h1, h2⟩ := rcs_at G g
  rw [g, e]
  have := placeL_inj h1 h (p := 0) (q := 0) (by rw [h2]; omega)
  rw [this.2]
theorem rcs_index {fr rs : List Int} (G : GoodF fr) (h : inF fr rs) : (rcs fr).findIdx? (fun y => eqv y (.tup (rs.map .int))) = some (placeL 0 fr rs).toNat := by
  have g := rcs_place G h
  rw [List.findIdx?_eq_some_iff_getElem]
  obtain ⟨hlt, e⟩ := List.getElem?_eq_some_iff.mp g
  refine ⟨hlt, ?_, fun j hj => ?_⟩
  · rw [e, eqv, eqvs_ints]; simp
  · have gj := List.getElem?_eq_getElem (by omega : j < (rcs fr).length)
    obtain ⟨rs', e', h1, h2⟩ := rcs_at G gj
    rw [e', eqv, eqvs_ints]
    simp
    rintro rfl
    omega
theorem rcs_plain {fr : List Int} (G : GoodF fr) : plains 60 (rcs fr) = true := by
  have : ∀ vs : List Val, (∀ v ∈ vs, v.plain 60 = true) → plains 60 vs = true := by
    intro vs
    induction vs with
    | nil => intro _; rfl
    | cons v vs ih => intro h; rw [plains, h v (List.mem_cons_self ..), ih fun w hw => h w (List.mem_cons_of_mem _ hw)]; rfl
  exact this _ fun v hv => rec_plain (rcs_rec G hv)
theorem isCh_iff {fr : List Int} {v : Val} : isCh fr v = true ↔ ∃ vs, v = .tup vs ∧ vs.length = (rcs fr).length ∧ ∀ w ∈ vs, recV fr w = true := by
  constructor
  · intro h
    cases v with
    | tup vs =>
      simp [isCh] at h
      exact ⟨vs, rfl, h.1, h.2⟩
    | _ => cases h
  · rintro ⟨vs, rfl, h1, h2⟩
    simp [isCh, h1]
    exact h2
section
variable {P : Nat → Option Fn} (H : HasK12 P) {n : Nat} {μ : Sto} {fr : List Int}
include H
theorem image_rec (G : GoodF fr) {vs : List Val} (hl : vs.length = (rcs fr).length) {rs : List Int} (h : inF fr rs) {w : Val} (hw : vs[(placeL 0 fr rs).toNat]? = some w) : run P (n + 6) 265 [.tup (fr.map .int), .tup vs, .tup (rs.map .int)] μ = .ok w μ ∧ run P (n + 7) 272 [.tup (fr.map .int), .tup vs, .tup (rs.map .int)] μ = .ok (.tup [.str sTold, w]) μ := by
  have e1 := r_is_record H.rc (n := n) (μ := μ) (fr := fr) (.tup (rs.map .int)) (KnT_ints μ rs) G.l2
  have hr : recV fr (.tup (rs.map .int)) = true := (recB_iff fr _).mpr ⟨rs, rfl, h⟩
  rw [hr] at e1
  have e2 : run P (n + 5) 248 [.tup (fr.map .int), .tup (rs.map .int)] μ = .ok .non μ := by
    rw [run_succ H.rc.h248 _ _ rfl]
    simp [F248, enter, e1, cleanO_same]
  have e3 := r_place_in H.rc (n := n + 3) (μ := μ) G h
  have hp := G.pl h
  have hlen := rcs_len G
  have pl : place vs.length (placeL 0 fr rs) = some (placeL 0 fr rs).toNat := place_pos hp.1 (by omega)
  have e4 : run P (n + 5) 264 [.tup (fr.map .int), .tup vs, .tup (rs.map .int)] μ = .ok w μ := by
    rw [run_succ H.h264 _ _ rfl]
    simp [F264, enter, e3, pl, hw, cleanO_same]
  have e5 : run P (n + 6) 265 [.tup (fr.map .int), .tup vs, .tup (rs.map .int)] μ = .ok w μ := by
    rw [run_succ H.h265 _ _ rfl]
    simp [F265, enter, e2, e4, cleanO_same]
  refine ⟨e5, ?_⟩
  rw [run_succ H.h272 _ _ rfl]
  simp [F272, enter, e5, cleanO_same]
theorem image_bad (G : GoodF fr) {v : Val} (hk : KnT μ v) (hr : recV fr v = false) (c : Val) : run P (n + 7) 272 [.tup (fr.map .int), c, v] μ = .ok (.tup [.str sRaised, .str sRecord]) μ := by
  have e1 := r_is_record H.rc (n := n) (μ := μ) (fr := fr) v hk G.l2
  rw [hr] at e1
  have e2 : run P (n + 5) 248 [.tup (fr.map .int), v] μ = .exc 4 [.str sRecord] μ := by
    rw [run_succ H.rc.h248 _ _ rfl]
    simp [F248, enter, e1, cleanO_exc_same]
  have e5 : run P (n + 6) 265 [.tup (fr.map .int), c, v] μ = .exc 4 [.str sRecord] μ := by
    rw [run_succ H.h265 _ _ rfl]
    simp [F265, enter, e2, cleanO_exc_same]
  rw [run_succ H.h272 _ _ rfl]
  simp [F272, enter, e5, handle, hcOk, hcLoc, evF, cleanO_same]
end
end Mi
end

section
set_option linter.all false
set_option autoImplicit false
/-! PK12d: drawn changes. -/
namespace Mi
/-- numbers below many, that many -/
def SpL (many : Nat) (L : List Val) : Prop := L.length = many ∧ ∀ v ∈ L, ∃ i : Nat, v = .int (i : Nat) ∧ i < many
def kind269 : MS := F269.body.b.b.b.a
def swap269 : MS := F269.body.b.b.b.b.a
theorem F269_eq : F269.body = .seq F269.body.a (.seq F269.body.b.a (.seq F269.body.b.b.a (.seq kind269 (.seq swap269 F269.body.b.b.b.b.b)))) := rfl
section
variable {P : Nat → Option Fn} (H : HasK12 P) {n : Nat} {μ : Sto} {fr : List Int} {t p : Nat} {purse : List Int} {r N c m : Int}
/-- the store amid it -/
structure ChI (μ0 μ : Sto) (t p kr : Nat) (purse : List Int) (r N c m : Int) (RS : List Val) (k : Nat) (L : List Val) : Prop where
  T : Till μ t p purse r N c m
  K : Keeps t μ0 μ
  k0 : μ0.length ≤ k
  l0 : μ0.length ≤ μ.length
  at_ : μ[k]? = some (.lst L)
  sp : SpL RS.length L
theorem sp_range (many : Nat) : SpL many ((List.range many).map fun i => Val.int (i : Nat)) := ⟨by simp, fun v hv => by
  obtain ⟨i, hi, rfl⟩ := List.mem_map.mp hv
  exact ⟨i, rfl, List.mem_range.mp hi⟩⟩
theorem sp_int {many : Nat} {x : Int} (h0 : 0 ≤ x) (h1 : x < many) : ∃ i : Nat, Val.int x = .int (i : Nat) ∧ i < many := ⟨x.toNat, by rw [Int.toNat_of_nonneg h0], by omega⟩
theorem ChI.new {μ0 μ : Sto} {kr : Nat} {RS : List Val} {L : List Val} (T : Till μ t p purse r N c m) (K : Keeps t μ0 μ) (l0 : μ0.length ≤ μ.length) (sp : SpL RS.length L) : ChI μ0 (μ ++ [.lst L]) t p kr purse r N c m RS μ.length L :=
  ⟨T.app _, K.app l0 _, l0, by simp; omega, by rw [List.getElem?_append_right (Nat.le_refl _)]; simp, sp⟩
theorem ChI.le {μ0 μ : Sto} {kr : Nat} {RS : List Val} {L : List Val} {k : Nat} {M : Int} (h : ChI μ0 μ t p kr purse r N c m RS k L) (hM : N ≤ M) : ChI μ0 μ t p kr purse r M c m RS k L := ⟨h.T.le hM, h.K, h.k0, h.l0, h.at_, h.sp⟩
include H
theorem kind_k12 {μ0 : Sto} {kr k : Nat} {RS L : List Val} {fv : Val} (h1 : 1 ≤ RS.length) (h2 : RS.length ≤ 500) (hkr : kr < μ0.length) (hrt : kr ≠ t) (ht : t < μ0.length) (hp : p < μ0.length) (hN : N ≤ 1000000) (I : ChI μ0 μ t p kr purse r N c m RS k L) (kind : Int) :
    ∃ μ' c' m' k' L' o6 o11 o12, ex (run P (n + 1)) kind269 [some (.ref t), some fv, some (.ref kr), some (.int RS.length), some (.int kind), some (.ref k), none, none, none, none, none, none, none] μ = .nx [some (.ref t), some fv, some (.ref kr), some (.int RS.length), some (.int kind), some (.ref k'), o6, none, none, none, none, o11, o12] μ' ∧ ChI μ0 μ' t p kr purse r (N + 502) c' m' RS k' L' := by
  obtain ⟨many, hm⟩ : ∃ many, RS.length = many := ⟨_, rfl⟩
  have l1 : (many : Int) ≤ 16777216 := by omega
  have l2 : -(16777216 : Int) ≤ (many : Int) := by omega
  have l3 : many ≤ LIM := by simp only [LIM]; omega
  have T := I.T
  obtain ⟨RG, hRG⟩ : ∃ RG, ((List.range many).map fun i => Val.int (i : Nat)) = RG := ⟨_, rfl⟩
  have hRl : RG.length = many := by rw [← hRG]; simp
  rw [hm]
  by_cases k1 : kind = 1
  · subst k1
    obtain ⟨x, μ1, c1, m1, e1, x0, x1, T1, O1⟩ := coin_only H.h268 (n := n) T (by omega) 41 many
    have hc : compL (fun v => some [some (.ref t), some fv, some (.ref kr), some (.int many), some (.int 1), some (.ref k), some (.int (1 + x)), none, none, none, some v, none, none]) (ev (run P (n + 1)) (.cst (.bl true))) (ev (run P (n + 1)) (.op2 .mod (.op1 .int (.op2 .add (.var 10) (.var 6))) (.var 3))) (.tup RG) RG RG μ1 = .ok (RG.map fun v => match v with
        | .int i => .int ((i + (1 + x)) % many)
        | v => v) μ1 := by
      refine compL_map rfl fun y hy => ?_
      rw [← hRG] at hy
      obtain ⟨i, hi, rfl⟩ := List.mem_map.mp hy
      exact ⟨_, rfl, rfl, by simp [s_mod (show (0 : Int) < many by omega)]⟩
    obtain ⟨L1, hL1⟩ : ∃ L1 : List Val, (RG.map fun v => match v with
        | .int i => Val.int ((i + (1 + x)) % many)
        | v => v) = L1 := ⟨_, rfl⟩
    rw [hL1] at hc
    refine ⟨μ1 ++ [.lst L1], c1, m1, μ1.length, L1, some (.int (1 + x)), none, none, ?_, (ChI.new (kr := kr) T1 (I.K.only O1) (by rw [O1.1]; exact I.l0) ⟨?_, ?_⟩).le (by omega)⟩
    · simp [kind269, MS.a, MS.b, F269, e1, l1, l2, l3, hRG, hRl, hc, newLst]
    · rw [← hL1]; simp [hRl, hm]
    · intro v hv
      rw [← hL1] at hv
      obtain ⟨w, hw, rfl⟩ := List.mem_map.mp hv
      rw [← hRG] at hw
      obtain ⟨i, hi, rfl⟩ := List.mem_map.mp hw
      rw [hm]
      exact sp_int (Int.emod_nonneg _ (by omega)) (Int.emod_lt_of_pos _ (by omega))
  by_cases k2 : kind = 2
  · subst k2
    obtain ⟨x, μ1, c1, m1, e1, x0, x1, T1, O1⟩ := coin_only H.h268 (n := n) T (by omega) 42 many
    have hmul : sem2 .mul (.ref μ1.length) (.int many) (μ1 ++ [.lst [.int x]]) = newLst (List.replicate many (Val.int x)) (μ1 ++ [.lst [.int x]]) := by
      rw [s_mulr (xs := [.int x]) (by rw [List.getElem?_append_right (Nat.le_refl _)]; simp) ⟨by omega, by omega, by simp only [LIM]; simp; omega⟩]
      congr 1
      simp
    refine ⟨μ1 ++ [.lst [.int x]] ++ [.lst (List.replicate many (Val.int x))], c1, m1, (μ1 ++ [Cell.lst [.int x]]).length, List.replicate many (Val.int x), none, none, none, ?_, (ChI.new (kr := kr) (T1.app _) ((I.K.only O1).app (by rw [O1.1]; exact I.l0) _) (by have := I.l0; have := O1.1; simp; omega) ⟨?_, ?_⟩).le (by omega)⟩
    · simp [kind269, MS.a, MS.b, F269, e1, newLst, hmul]
    · simp [hm]
    · intro v hv
      rw [(List.mem_replicate.mp hv).2, hm]
      exact sp_int x0 (by omega)
  by_cases k3 : kind = 3
  · subst k3
    obtain ⟨x, μ1, c1, m1, e1, x0, x1, T1, O1⟩ := coin_only H.h268 (n := n) T (by omega) 43 many
    obtain ⟨y, μ2, c2, m2, e2, y0, y1, T2, O2⟩ := coin_only H.h268 (n := n) T1 (by omega) 44 many
    have O12 := O1.trans O2
    obtain ⟨few, hfew⟩ : ∃ few : List Val, [Val.int x, .int y, .int ((many : Int) - 1)] = few := ⟨_, rfl⟩
    have hfl : few.length = 3 := by rw [← hfew]; rfl
    have hfq : ∀ i : Nat, i < 3 → ∃ v, few[i]? = some v ∧ ∃ j : Nat, v = .int (j : Nat) ∧ j < many := fun i hi => by
      rw [← hfew]
      rcases (show i = 0 ∨ i = 1 ∨ i = 2 by omega) with rfl | rfl | rfl
      · exact ⟨_, rfl, sp_int x0 (by omega)⟩
      · exact ⟨_, rfl, sp_int y0 (by omega)⟩
      · exact ⟨_, rfl, sp_int (by omega) (by omega)⟩
    obtain ⟨μ3, hμ3⟩ : ∃ μ3, μ2 ++ [.lst few] = μ3 := ⟨_, rfl⟩
    have T3 : Till μ3 t p purse r (N + 1 + 1) c2 m2 := by rw [← hμ3]; exact T2.app _
    have K3 : Keeps t μ0 μ3 := by rw [← hμ3]; exact (I.K.only O12).app (by rw [O12.1]; exact I.l0) _
    have f3 : μ3[μ2.length]? = some (.lst few) := by rw [← hμ3, List.getElem?_append_right (Nat.le_refl _)]; simp
    have l30 : μ0.length ≤ μ2.length := by rw [O12.1]; exact I.l0
    obtain ⟨ys, μ4, c4, m4, e4, T4, ⟨O4, _⟩, q4, l4⟩ := compL_draws (t := t) (p := p) (purse := purse) (r := r) (bind := fun v => some [some (.ref t), some fv, some (.ref kr), some (.int many), some (.int 3), some (.ref k), none, none, none, none, some v, some (.ref μ2.length), none]) (cond := ev (run P (n + 1)) (.cst (.bl true))) (elt := ev (run P (n + 1)) (.op2 .idx (.var 11) (.call 268 (.cons (.var 0) (.cons (.cst (.int 45)) (.cons (.cst (.int 3)) .nil)))))) (src := .tup RG) (all := RG) (Q := fun v => ∃ j : Nat, v = .int (j : Nat) ∧ j < many) (B := 2000000) (I := fun j μ' => Only t μ3 μ' ∧ True) (fun _ => rfl) (xs := RG) (i := 0) T3 (by rw [hRl]; omega) ⟨Only.refl _ _, trivial⟩
      (fun j w μ' N' c' m' hw _ _ T' hN' hI => by
        obtain ⟨z, μ5, c5, m5, e5, z0, z1, T5, O5⟩ := coin_only H.h268 (n := n) T' (by omega) 45 3
        obtain ⟨v, hv, hq⟩ := hfq z.toNat (by omega)
        have f5 : μ5[μ2.length]? = some (.lst few) := by rw [O5.2 _ (by omega), hI.1.2 _ (by omega)]; exact f3
        have pz : place 3 z = some z.toNat := place_pos z0 (by omega)
        exact ⟨_, v, μ5, c5, m5, rfl, rfl, by simp [e5, f5, hfl, pz, hv], T5, ⟨hI.1.trans O5, trivial⟩, hq⟩)
    refine ⟨μ4 ++ [.lst ys], c4, m4, μ4.length, ys, none, some (.ref μ2.length), none, ?_, (ChI.new (kr := kr) T4 (K3.only O4) (by rw [O4.1, ← hμ3]; simp; omega) ⟨?_, ?_⟩).le (by rw [hRl]; omega)⟩
    · simp [kind269, MS.a, MS.b, F269, e1, e2, l1, l2, l3, hRG, hRl, newLst, hfew, hμ3, e4]
    · rw [l4, hRl, hm]
    · rw [hm]; exact q4
  by_cases k45 : kind = 4 ∨ kind = 5
  · have hRn : ∀ v ∈ RG, ∃ j : Nat, v = .int (j : Nat) ∧ j < many := fun v hv => by
      rw [← hRG] at hv
      obtain ⟨i, hi, rfl⟩ := List.mem_map.mp hv
      exact ⟨i, rfl, List.mem_range.mp hi⟩
    have hc : compL (fun v => some [some (.ref t), some fv, some (.ref kr), some (.int many), some (.int kind), some (.ref k), none, none, none, none, some v, none, none]) (ev (run P (n + 1)) (.cst (.bl true))) (ev (run P (n + 1)) (.var 10)) (.tup RG) RG RG μ = .ok (RG.map id) μ := compL_map rfl fun y hy => ⟨_, rfl, rfl, rfl⟩
    rw [List.map_id] at hc
    obtain ⟨μ3, hμ3⟩ : ∃ μ3, μ ++ [.lst RG] = μ3 := ⟨_, rfl⟩
    have T3 : Till μ3 t p purse r N c m := by rw [← hμ3]; exact T.app _
    have K3 : Keeps t μ0 μ3 := by rw [← hμ3]; exact I.K.app I.l0 _
    have f3 : μ3[μ.length]? = some (.lst RG) := by rw [← hμ3, List.getElem?_append_right (Nat.le_refl _)]; simp
    have l30 := I.l0
    have l3n : μ3.length = μ.length + 1 := by rw [← hμ3]; simp
    obtain ⟨ys, μ4, c4, m4, e4, T4, ⟨R4, f4, rl4, rq4, K4, l40⟩, q4, l4⟩ := compL_draws (t := t) (p := p) (purse := purse) (r := r) (bind := fun v => some [some (.ref t), some fv, some (.ref kr), some (.int many), some (.int kind), some (.ref k), none, none, none, none, some v, none, some (.ref μ.length)]) (cond := ev (run P (n + 1)) (.cst (.bl true))) (elt := ev (run P (n + 1)) (.op2 .popAt (.var 12) (.call 268 (.cons (.var 0) (.cons (.cst (.int 46)) (.cons (.op1 .len (.var 12)) .nil)))))) (src := .tup RG) (all := RG) (Q := fun v => ∃ j : Nat, v = .int (j : Nat) ∧ j < many) (B := 2000000) (I := fun j μ' => ∃ R : List Val, μ'[μ.length]? = some (.lst R) ∧ R.length + j = many ∧ (∀ v ∈ R, ∃ j : Nat, v = .int (j : Nat) ∧ j < many) ∧ Keeps t μ0 μ' ∧ μ'.length = μ3.length) (fun _ => rfl) (xs := RG) (i := 0) T3 (by rw [hRl]; omega) ⟨RG, f3, by rw [hRl]; rfl, hRn, K3, rfl⟩
      (fun j w μ' N' c' m' hw _ hj T' hN' hI => by
        obtain ⟨R, f, rl, rq, K', ln⟩ := hI
        have hRlen : 1 ≤ R.length := by omega
        obtain ⟨z, μ5, c5, m5, e5, z0, z1, T5, O5⟩ := coin_only H.h268 (n := n) T' (by omega) 46 (R.length : Nat)
        have f5 : μ5[μ.length]? = some (.lst R) := by rw [O5.2 _ (by omega)]; exact f
        have gz : R[z.toNat]? = some (R[z.toNat]'(by omega)) := List.getElem?_eq_getElem (by omega)
        have hk5 : μ.length < μ5.length := (List.getElem?_eq_some_iff.mp f5).1
        have hpop : sem2 .popAt (.ref μ.length) (.int z) μ5 = .ok (R[z.toNat]'(by omega)) (μ5.set μ.length (.lst (R.eraseIdx z.toNat))) := by
          have a1 : 0 ≤ z ∧ z < (R.length : Int) ∧ R.length ≤ LIM := ⟨z0, by omega, by simp only [LIM]; omega⟩
          simp only [sem2, f5]
          rw [if_pos a1]
          simp only [gz]
        refine ⟨_, R[z.toNat]'(by omega), μ5.set μ.length (.lst (R.eraseIdx z.toNat)), c5, m5, rfl, rfl, ?_, T5.set (k := μ.length) (by omega) (by omega), ⟨R.eraseIdx z.toNat, ?_, ?_, ?_, ?_, ?_⟩, rq _ (List.getElem_mem _)⟩
        · simp [f, e5, hpop]
        · exact List.getElem?_set_self hk5
        · rw [List.length_eraseIdx_of_lt (by omega)]; omega
        · exact fun v hv => rq v (List.mem_of_mem_eraseIdx hv)
        · exact (K'.only O5).set (by omega) _
        · rw [List.length_set, O5.1]; exact ln)
    refine ⟨μ4 ++ [.lst ys], c4, m4, μ4.length, ys, none, none, some (.ref μ.length), ?_, (ChI.new (kr := kr) T4 K4 (by omega) ⟨?_, ?_⟩).le (by rw [hRl]; omega)⟩
    · rcases k45 with rfl | rfl
      · simp [kind269, MS.a, MS.b, F269, l1, l2, l3, hRG, hRl, newLst, hc, hμ3, e4]
      · simp [kind269, MS.a, MS.b, F269, l1, l2, l3, hRG, hRl, newLst, hc, hμ3, e4]
    · rw [l4, hRl, hm]
    · rw [hm]; exact q4
  have k4 : kind ≠ 4 := fun h => k45 (.inl h)
  have k5 : kind ≠ 5 := fun h => k45 (.inr h)
  by_cases k6 : kind = 6
  · subst k6
    obtain ⟨ys, μ4, c4, m4, e4, T4, O4, q4, l4⟩ := compL_draws (t := t) (p := p) (purse := purse) (r := r) (bind := fun v => some [some (.ref t), some fv, some (.ref kr), some (.int many), some (.int 6), some (.ref k), none, none, none, none, some v, none, none]) (cond := ev (run P (n + 1)) (.cst (.bl true))) (elt := ev (run P (n + 1)) (.call 268 (.cons (.var 0) (.cons (.cst (.int 47)) (.cons (.var 3) .nil))))) (src := .tup RG) (all := RG) (Q := fun v => ∃ j : Nat, v = .int (j : Nat) ∧ j < many) (B := 2000000) (I := fun j μ' => Only t μ μ') (fun _ => rfl) (xs := RG) (i := 0) T (by rw [hRl]; omega) (Only.refl _ _)
      (fun j w μ' N' c' m' hw _ _ T' hN' hI => by
        obtain ⟨z, μ5, c5, m5, e5, z0, z1, T5, O5⟩ := coin_only H.h268 (n := n) T' (by omega) 47 many
        exact ⟨_, .int z, μ5, c5, m5, rfl, rfl, by simp [e5], T5, hI.trans O5, sp_int z0 (by omega)⟩)
    refine ⟨μ4 ++ [.lst ys], c4, m4, μ4.length, ys, none, none, none, ?_, (ChI.new (kr := kr) T4 (I.K.only O4) (by rw [O4.1]; exact I.l0) ⟨?_, ?_⟩).le (by rw [hRl]; omega)⟩
    · simp [kind269, MS.a, MS.b, F269, l1, l2, l3, hRG, hRl, newLst, e4]
    · rw [l4, hRl, hm]
    · rw [hm]; exact q4
  by_cases k7 : kind = 7
  · subst k7
    have hc : compL (fun v => some [some (.ref t), some fv, some (.ref kr), some (.int many), some (.int 7), some (.ref k), none, none, none, none, some v, none, none]) (ev (run P (n + 1)) (.cst (.bl true))) (ev (run P (n + 1)) (.op2 .sub (.op2 .sub (.var 3) (.cst (.int 1))) (.var 10))) (.tup RG) RG RG μ = .ok (RG.map fun v => match v with
        | .int i => .int ((many : Int) - 1 - i)
        | v => v) μ := by
      refine compL_map rfl fun y hy => ?_
      rw [← hRG] at hy
      obtain ⟨i, hi, rfl⟩ := List.mem_map.mp hy
      exact ⟨_, rfl, rfl, by simp⟩
    obtain ⟨L1, hL1⟩ : ∃ L1 : List Val, (RG.map fun v => match v with
        | .int i => Val.int ((many : Int) - 1 - i)
        | v => v) = L1 := ⟨_, rfl⟩
    rw [hL1] at hc
    refine ⟨μ ++ [.lst L1], c, m, μ.length, L1, none, none, none, ?_, (ChI.new (kr := kr) T I.K I.l0 ⟨?_, ?_⟩).le (by omega)⟩
    · simp [kind269, MS.a, MS.b, F269, l1, l2, l3, hRG, hRl, hc, newLst]
    · rw [← hL1]; simp [hRl, hm]
    · intro v hv
      rw [← hL1] at hv
      obtain ⟨w, hw, rfl⟩ := List.mem_map.mp hv
      rw [← hRG] at hw
      obtain ⟨i, hi, rfl⟩ := List.mem_map.mp hw
      have := List.mem_range.mp hi
      rw [hm]
      exact sp_int (by omega) (by omega)
  · refine ⟨μ, c, m, k, L, none, none, none, ?_, I.le (by omega)⟩
    simp [kind269, MS.a, MS.b, F269, k1, k2, k3, k4, k5, k6, k7]
end
end Mi
end

section
set_option linter.all false
set_option autoImplicit false
/-! PK12e: drawn changes, whole. -/
namespace Mi
theorem SpL.set {many : Nat} {L : List Val} (h : SpL many L) {i : Nat} {v : Val} (hv : v ∈ L) : SpL many (L.set i v) := ⟨by rw [List.length_set]; exact h.1, fun w hw => by
  rcases List.mem_or_eq_of_mem_set hw with hw | rfl
  · exact h.2 w hw
  · exact h.2 _ hv⟩
section
variable {P : Nat → Option Fn} (H : HasK12 P) {n : Nat} {μ : Sto} {fr : List Int} {t p : Nat} {purse : List Int} {r N c m : Int}
theorem ChI.put {μ0 μ : Sto} {kr k : Nat} {RS L L' : List Val} (h : ChI μ0 μ t p kr purse r N c m RS k L) (ht : t < μ0.length) (hp : p < μ0.length) (sp : SpL RS.length L') : ChI μ0 (μ.set k (.lst L')) t p kr purse r N c m RS k L' :=
  ⟨h.T.set (by have := h.k0; omega) (by have := h.k0; omega), h.K.set h.k0 _, h.k0, by rw [List.length_set]; exact h.l0, List.getElem?_set_self (List.getElem?_eq_some_iff.mp h.at_).1, sp⟩
theorem ChI.drawn {μ0 μ μ2 : Sto} {kr k : Nat} {RS L : List Val} {c2 m2 : Int} (h : ChI μ0 μ t p kr purse r N c m RS k L) (ht : t < μ0.length) (O : Only t μ μ2) (T : Till μ2 t p purse r (N + 1) c2 m2) : ChI μ0 μ2 t p kr purse r (N + 1) c2 m2 RS k L :=
  ⟨T, h.K.only O, h.k0, by rw [O.1]; exact h.l0, by rw [O.2 _ (by have := h.k0; omega)]; exact h.at_, h.sp⟩
include H
theorem swap_k12 {μ0 : Sto} {kr k : Nat} {RS L : List Val} {fv : Val} (h1 : 1 ≤ RS.length) (h2 : RS.length ≤ 500) (ht : t < μ0.length) (hp : p < μ0.length) (hN : N ≤ 1000000) (I : ChI μ0 μ t p kr purse r N c m RS k L) (kind : Int) (o6 o11 o12 : Option Val) :
    ∃ μ' c' m' L' o7 o8 o9, ex (run P (n + 1)) swap269 [some (.ref t), some fv, some (.ref kr), some (.int RS.length), some (.int kind), some (.ref k), o6, none, none, none, none, o11, o12] μ = .nx [some (.ref t), some fv, some (.ref kr), some (.int RS.length), some (.int kind), some (.ref k), o6, o7, o8, o9, none, o11, o12] μ' ∧ ChI μ0 μ' t p kr purse r (N + 3) c' m' RS k L' := by
  by_cases hk : kind = 5 ∨ kind = 8
  · obtain ⟨x, μ1, c1, m1, e1, x0, x1, T1, O1⟩ := coin_only H.h268 (n := n) I.T (by omega) 48 RS.length
    have I1 := I.drawn ht O1 T1
    obtain ⟨y, μ2, c2, m2, e2, y0, y1, T2, O2⟩ := coin_only H.h268 (n := n) T1 (by omega) 49 RS.length
    have I2 := I1.drawn ht O2 T2
    have hl := I.sp.1
    have gx : L[x.toNat]? = some (L[x.toNat]'(by omega)) := List.getElem?_eq_getElem (by omega)
    have gy : L[y.toNat]? = some (L[y.toNat]'(by omega)) := List.getElem?_eq_getElem (by omega)
    have px : place L.length x = some x.toNat := place_pos x0 (by omega)
    have py : place L.length y = some y.toNat := place_pos y0 (by omega)
    have f2 := I2.at_
    have I3 := I2.put ht hp (L' := L.set x.toNat (L[y.toNat]'(by omega))) (I2.sp.set (List.getElem_mem _))
    obtain ⟨μ3, hμ3⟩ : ∃ μ3, μ2.set k (.lst (L.set x.toNat (L[y.toNat]'(by omega)))) = μ3 := ⟨_, rfl⟩
    rw [hμ3] at I3
    obtain ⟨z, μ4, c4, m4, e4, z0, z1, T4, O4⟩ := coin_only H.h268 (n := n) I3.T (by omega) 50 2
    have I4 := I3.drawn ht O4 T4
    have f4 := I4.at_
    by_cases hz : z = 0
    · have I5 := I4.put ht hp (L' := (L.set x.toNat (L[y.toNat]'(by omega))).set y.toNat (L[x.toNat]'(by omega))) ⟨by simp [hl], fun w hw => by
        rcases List.mem_or_eq_of_mem_set hw with hw | rfl
        · rcases List.mem_or_eq_of_mem_set hw with hw | rfl
          · exact I.sp.2 w hw
          · exact I.sp.2 _ (List.getElem_mem _)
        · exact I.sp.2 _ (List.getElem_mem _)⟩
      refine ⟨_, c4, m4, _, some (.int x), some (.int y), some (L[x.toNat]'(by omega)), ?_, I5.le (by omega)⟩
      rcases hk with rfl | rfl
      · simp [swap269, MS.a, MS.b, F269, e1, e2, f2, gx, gy, px, py, hμ3, e4, hz, f4]
      · simp [swap269, MS.a, MS.b, F269, e1, e2, f2, gx, gy, px, py, hμ3, e4, hz, f4]
    · refine ⟨_, c4, m4, _, some (.int x), some (.int y), some (L[x.toNat]'(by omega)), ?_, I4.le (by omega)⟩
      rcases hk with rfl | rfl
      · simp [swap269, MS.a, MS.b, F269, e1, e2, f2, gx, gy, px, py, hμ3, e4, hz]
      · simp [swap269, MS.a, MS.b, F269, e1, e2, f2, gx, gy, px, py, hμ3, e4, hz]
  · have k5 : kind ≠ 5 := fun h => hk (.inl h)
    have k8 : kind ≠ 8 := fun h => hk (.inr h)
    exact ⟨μ, c, m, L, none, none, none, by simp [swap269, MS.a, MS.b, F269, k5, k8], I.le (by omega)⟩
theorem r_change {μ0 : Sto} {kr : Nat} {RS : List Val} {fv : Val} (T : Till μ0 t p purse r N c m) (hN : N ≤ 100000) (h1 : 1 ≤ RS.length) (h2 : RS.length ≤ 500) (hkr : μ0[kr]? = some (.lst RS)) (hrt : kr ≠ t) :
    ∃ M μ' c' m', run P (n + 2) 269 [.ref t, fv, .ref kr] μ0 = .ok (.tup M) μ' ∧ M.length = RS.length ∧ (∀ w ∈ M, w ∈ RS) ∧ Till μ' t p purse r (N + 506) c' m' ∧ Keeps t μ0 μ' ∧ μ0.length ≤ μ'.length := by
  have ht : t < μ0.length := (List.getElem?_eq_some_iff.mp T.at_).1
  have hp : p < μ0.length := (List.getElem?_eq_some_iff.mp T.pu).1
  have hrl : kr < μ0.length := (List.getElem?_eq_some_iff.mp hkr).1
  obtain ⟨kind, μ1, c1, m1, e1, _, _, T1, O1⟩ := coin_only H.h268 (n := n) T (by omega) 40 9
  obtain ⟨RG, hRG⟩ : ∃ RG, ((List.range RS.length).map fun i => Val.int (i : Nat)) = RG := ⟨_, rfl⟩
  have l1 : (RS.length : Int) ≤ 16777216 := by omega
  have l2 : -(16777216 : Int) ≤ (RS.length : Int) := by omega
  have l3 : RS.length ≤ LIM := by simp only [LIM]; omega
  have hRl : RG.length = RS.length := by rw [← hRG]; simp
  have hc : compL (fun v => some [some (.ref t), some fv, some (.ref kr), some (.int RS.length), some (.int kind), none, none, none, none, none, some v, none, none]) (ev (run P (n + 1)) (.cst (.bl true))) (ev (run P (n + 1)) (.var 10)) (.tup RG) RG RG μ1 = .ok (RG.map id) μ1 := compL_map rfl fun y hy => ⟨_, rfl, rfl, rfl⟩
  rw [List.map_id] at hc
  have I1 : ChI μ0 (μ1 ++ [.lst RG]) t p kr purse r (N + 1) c1 m1 RS μ1.length RG := ChI.new T1 O1.keeps (by rw [O1.1]; exact Nat.le_refl _) (by rw [← hRG]; exact sp_range _)
  obtain ⟨μ2, c2, m2, k2, L2, o6, o11, o12, e2, I2⟩ := kind_k12 H (n := n) (fv := fv) h1 h2 hrl hrt ht hp (by omega) I1 kind
  obtain ⟨μ3, c3, m3, L3, o7, o8, o9, e3, I3⟩ := swap_k12 H (n := n) (fv := fv) h1 h2 ht hp (by omega) I2 kind o6 o11 o12
  have f3 := I3.at_
  have r3 : μ3[kr]? = some (.lst RS) := by rw [I3.K _ hrl hrt]; exact hkr
  have hl3 : L3.length = RS.length := I3.sp.1
  have hc3 : compL (fun v => some [some (.ref t), some fv, some (.ref kr), some (.int RS.length), some (.int kind), some (.ref k2), o6, o7, o8, o9, some v, o11, o12]) (ev (run P (n + 1)) (.cst (.bl true))) (ev (run P (n + 1)) (.op2 .idx (.var 2) (.var 10))) (.ref k2) L3 L3 μ3 = .ok (L3.map fun v => match v with
      | .int i => RS.getD i.toNat .non
      | _ => .non) μ3 := by
    refine compL_map (show guard (.ref k2) L3 μ3 = true from decide_eq_true f3) fun y hy => ?_
    obtain ⟨i, rfl, hi⟩ := I3.sp.2 y hy
    have pi : place RS.length (i : Int) = some i := place_nat hi
    have gi : RS[i]? = some RS[i] := List.getElem?_eq_getElem hi
    exact ⟨_, rfl, rfl, by simp [r3, pi, gi]⟩
  obtain ⟨M, hM⟩ : ∃ M : List Val, (L3.map fun v => match v with
      | .int i => RS.getD i.toNat .non
      | _ => .non) = M := ⟨_, rfl⟩
  rw [hM] at hc3
  have l4 : L3.length ≤ LIM := by omega
  have eo : ex (run P (n + 1)) F269.body (enter F269 [.ref t, fv, .ref kr]) μ0 = .ret (.tup M) (μ3 ++ [.lst M]) := by
    rw [F269_eq]
    simp only [ex_seq]
    have s1 : (ex (run P (n + 1)) F269.body.a (enter F269 [.ref t, fv, .ref kr]) μ0).then (fun ρ μ => (ex (run P (n + 1)) F269.body.b.a ρ μ).then fun ρ μ => ex (run P (n + 1)) F269.body.b.b.a ρ μ) = .nx [some (.ref t), some fv, some (.ref kr), some (.int RS.length), some (.int kind), some (.ref μ1.length), none, none, none, none, none, none, none] (μ1 ++ [.lst RG]) := by
      simp [F269, MS.a, MS.b, enter, hkr, e1, l1, l2, l3, hRG, hRl, hc, newLst]
    have assoc : ∀ (m : OS) (f g : Loc → Sto → OS), (m.then fun ρ μ => (f ρ μ).then g) = (m.then f).then g := fun m f g => by cases m <;> rfl
    rw [assoc, assoc]
    rw [show ((ex (run P (n + 1)) F269.body.a (enter F269 [.ref t, fv, .ref kr]) μ0).then (fun ρ μ => ex (run P (n + 1)) F269.body.b.a ρ μ)).then (fun ρ μ => ex (run P (n + 1)) F269.body.b.b.a ρ μ) = _ from (assoc _ _ _).symm.trans s1]
    rw [OS.then_nx, e2, OS.then_nx, e3, OS.then_nx]
    simp [F269, MS.a, MS.b, f3, l4, hc3, newLst]
  refine ⟨M, (clean μ0 (.tup M) (μ3 ++ [.lst M])).2, c3, m3, ?_, by rw [← hM]; simp [hl3], fun w hw => ?_, ((I3.T.app _).clean ht hp _).le (by omega), (I3.K.app I3.l0 _).clean _, clean_len _ (by have := I3.l0; simp; omega)⟩
  · rw [run_succ H.h269 _ _ rfl, eo]
    show Out.ok (clean μ0 _ _).1 _ = _
    rw [clean_val (by intro k z; cases z)]
  · rw [← hM] at hw
    obtain ⟨v, hv, rfl⟩ := List.mem_map.mp hw
    obtain ⟨i, rfl, hi⟩ := I3.sp.2 v hv
    simp [hi]
end
end Mi
end

section
set_option linter.all false
set_option autoImplicit false
/-! PK12f: bent changes. -/
namespace Mi
theorem KnD1 {μ : Sto} {v : Val} (h : KnT μ v) : KnD 1 μ v := h
theorem KnD2 {μ : Sto} {v : Val} (h : KnD 2 μ v) : KnV μ v := h
section
variable {P : Nat → Option Fn} (H : HasK12 P) {n : Nat} {μ : Sto} {fr : List Int} {t p : Nat} {purse : List Int} {r N c m : Int}
include H
theorem r_bent (T : Till μ t p purse r N c m) (hN : N ≤ 1000000) (G : GoodF fr) {ch : List Val} (hl : ch.length = (rcs fr).length) (hr : ∀ v ∈ ch, recV fr v = true) : ∃ k things μ' c' m', run P (n + 3) 274 [.ref t, .tup (fr.map .int), .tup ch] μ = .ok (.ref k) μ' ∧ μ'[k]? = some (.lst things) ∧ (∀ v ∈ things, KnD 2 μ' v) ∧ Till μ' t p purse r (N + 5) c' m' ∧ Keeps t μ μ' ∧ μ.length ≤ k ∧ μ.length ≤ μ'.length := by
  have ht : t < μ.length := (List.getElem?_eq_some_iff.mp T.at_).1
  have hp : p < μ.length := (List.getElem?_eq_some_iff.mp T.pu).1
  have hlen := rcs_len G
  have hp1 := prodI_pos G.g
  have hp5 := G.p
  have kc : ∀ {μ : Sto}, ∀ v ∈ ch, KnD 1 μ v := fun v hv => rec_KnT _ (hr v hv)
  obtain ⟨A, a01, a02, a03⟩ := add_ex ch (cut ch 0 (clip ch.length 1)) (m := 500) (n := 500) (by omega) (by have := cut_len ch 0 (clip ch.length 1); omega) (by omega)
  obtain ⟨told0, ht0⟩ : ∃ told0 : List Val, [Val.ref μ.length, .tup A, .tup (cut ch 0 (clip ch.length (-1))), .tup [], .non, .tup [.tup ch], .int ch.length, .str [99, 104, 97, 110, 103, 101]] = told0 := ⟨_, rfl⟩
  obtain ⟨μ1, hμ1⟩ : ∃ μ1, μ ++ [.lst ch, .lst told0] = μ1 := ⟨_, rfl⟩
  have l1 : μ1.length = μ.length + 2 := by rw [← hμ1]; simp
  have T1 : Till μ1 t p purse r N c m := by rw [← hμ1]; exact T.app _
  have K1 : Keeps t μ μ1 := by rw [← hμ1]; exact (Keeps.refl t μ).app (Nat.le_refl _) _
  have k1 : μ1[μ.length + 1]? = some (.lst told0) := by rw [← hμ1, List.getElem?_append_right (by omega)]; simp
  have q1 : μ1[μ.length]? = some (.lst ch) := by rw [← hμ1, List.getElem?_append_right (by omega)]; simp
  obtain ⟨x, μ2, c2, m2, e2, x0, x1, T2, O2⟩ := coin_only H.h268 (n := n + 1) T1 (by omega) 10 ch.length
  obtain ⟨y, μ3, c3, m3, e3, y0, y1, T3, O3⟩ := coin_only H.h268 (n := n + 1) T2 (by omega) 11 ch.length
  have O23 := O2.trans O3
  have K3 := K1.only O23
  have l3 : μ3.length = μ.length + 2 := by rw [O23.1]; exact l1
  have k3 : μ3[μ.length + 1]? = some (.lst told0) := by rw [O23.2 _ (by omega)]; exact k1
  have q3 : μ3[μ.length]? = some (.lst ch) := by rw [O23.2 _ (by omega)]; exact q1
  have hx : x.toNat < ch.length := by omega
  have gx : ch[x.toNat]? = some ch[x.toNat] := List.getElem?_eq_getElem hx
  have px : place ch.length x = some x.toNat := place_pos x0 (by omega)
  obtain ⟨rs, hrs, hin⟩ : ∃ rs : List Int, ch[x.toNat] = .tup (rs.map .int) ∧ inF fr rs := by
    have h := hr _ (List.getElem_mem hx)
    revert h
    generalize ch[x.toNat] = v
    intro h
    cases v with
    | tup vs =>
      obtain ⟨rs, rfl, hi⟩ := (recB_iff fr vs).mp h
      exact ⟨rs, rfl, hi⟩
    | _ => cases h
  rw [hrs] at gx
  obtain ⟨k4, things, μ4, c4, m4, e4, f4, n4, T4, K34, hk4, t1, t2⟩ := r_no_records2 H.h268 H.h255 (n := n) T3 (by omega) G (rs := rs) (inF_len hin).symm
  have hkl4 : k4 < μ4.length := (List.getElem?_eq_some_iff.mp f4).1
  have K4 : Keeps t μ μ4 := K3.trans (by omega) K34
  have k4' : μ4[μ.length + 1]? = some (.lst told0) := by rw [K34 _ (by omega) (by omega)]; exact k3
  have q4 : μ4[μ.length]? = some (.lst ch) := by rw [K34 _ (by omega) (by omega)]; exact q3
  have n40 : ∀ v ∈ told0, KnD 2 μ4 v := by
    rw [← ht0]
    intro v hv
    simp only [List.mem_cons, List.not_mem_nil, or_false] at hv
    rcases hv with rfl | rfl | rfl | rfl | rfl | rfl | rfl | rfl
    · exact KnD.ref q4
    · refine KnD.tup fun w hw => ?_
      rcases a02 w hw with hw | hw
      · exact kc w hw
      · exact kc w (cut_mem hw)
    · exact KnD.tup fun w hw => kc w (cut_mem hw)
    · exact KnD_nor (v := .non) _ _ _ rfl
    · exact KnD_nor (v := .non) _ _ _ rfl
    · exact KnD.tup fun w hw => by rw [List.mem_singleton.mp hw]; exact KnD.tup fun u hu => (kc u hu).kn
    · exact KnD_nor (v := .non) _ _ _ rfl
    · exact KnD_nor (v := .non) _ _ _ rfl
  obtain ⟨ρ5, μ5, e5, told5, o7, rfl, T5, f5, l5, n5, K5, tt5, nt5⟩ := forL_all (bind := bindT (.nm 7)) (body := ex (run P (n + 2)) B274_1) (src := .ref k4) (all := things)
    (I := fun j ρ μ' => ∃ told o7, ρ = [some (.ref t), some (.tup (fr.map .int)), some (.tup ch), some (.ref (μ.length + 1)), some (.int x), some (.int y), some (.ref k4), o7, none] ∧ Till μ' t p purse r (N + 3) c4 m4 ∧ μ'[μ.length + 1]? = some (.lst told) ∧ told.length ≤ 8 + j ∧ (∀ v ∈ told, KnD 2 μ' v) ∧ Keeps t μ μ' ∧ μ'[k4]? = some (.lst things) ∧ (∀ v ∈ things, KnD 1 μ' v)) (xs := things) (i := 0) (ρ := [some (.ref t), some (.tup (fr.map .int)), some (.tup ch), some (.ref (μ.length + 1)), some (.int x), some (.int y), some (.ref k4), none, none]) (μ := μ4)
    ⟨told0, none, rfl, T4.le (by omega), k4', by rw [← ht0]; simp, n40, K4, f4, fun v hv => KnD1 (n4 v hv)⟩
    (fun j v ρ μ' hv hI => by
      obtain ⟨told, o7, rfl, T', k', l', n', K', f', nt'⟩ := hI
      rw [Nat.zero_add] at l' ⊢
      have hj := (List.getElem?_eq_some_iff.mp hv).1
      obtain ⟨A, B, e1, e2, e3, e4⟩ := put_ex ch v (m := 500) (by omega) (by omega) x
      have hlim : told.length < 16777216 := by omega
      have hkl : μ.length + 1 < μ'.length := (List.getElem?_eq_some_iff.mp k').1
      have g := Grow.set μ' (μ.length + 1) (told ++ [.tup B])
      have fg : (μ'.set (μ.length + 1) (.lst (told ++ [.tup B])))[k4]? = some (.lst things) := by rw [List.getElem?_set_ne (by omega)]; exact f'
      refine ⟨_, [some (.ref t), some (.tup (fr.map .int)), some (.tup ch), some (.ref (μ.length + 1)), some (.int x), some (.int y), some (.ref k4), some v, none], μ'.set (μ.length + 1) (.lst (told ++ [.tup B])), rfl, .inl ?_, decide_eq_true fg, told ++ [.tup B], some v, rfl, T'.set (by omega) (by omega), List.getElem?_set_self hkl, by simp; omega, fun w hw => ?_, K'.set (by omega) _, fg, fun w hw => (nt' w hw).grow g⟩
      · simp [B274_1, k', e1, e2, hlim]
      · rcases List.mem_append.mp hw with hw | hw
        · exact (n' w hw).grow g
        · rw [List.mem_singleton.mp hw]
          refine KnD.tup fun u hu => ?_
          rcases e3 u hu with hu | rfl
          · exact kc u hu
          · exact (nt' _ (List.mem_of_getElem? hv)).grow g)
  have hl5 : μ.length + 2 ≤ k4 := by omega
  have hkl5 : k4 < μ5.length := (List.getElem?_eq_some_iff.mp tt5).1
  obtain ⟨z, μ6, c6, m6, e6, z0, z1, T6, O6⟩ := coin_only H.h268 (n := n + 1) T5 (by omega) 12 things.length
  have t6 : μ6[k4]? = some (.lst things) := by rw [O6.2 _ (by omega)]; exact tt5
  have gz : things[z.toNat]? = some (things[z.toNat]'(by omega)) := List.getElem?_eq_getElem (by omega)
  have pz : place things.length z = some z.toNat := place_pos z0 (by omega)
  obtain ⟨A1, R, r1, r2, r3, r4⟩ := put_ex2 ch (things[z.toNat]'(by omega)) (m := 500) (by omega) (by omega) y
  obtain ⟨u, μ7, c7, m7, e7, u0, u1, T7, O7⟩ := coin_only H.h268 (n := n + 1) T6 (by omega) 13 things.length
  have O67 := O6.trans O7
  have t7 : μ7[k4]? = some (.lst things) := by rw [O7.2 _ (by omega)]; exact t6
  have g7 : Grow μ5 μ7 := fun k xs h => by
    by_cases hk : k = t
    · subst hk; exact ⟨_, T7.at_⟩
    · exact ⟨xs, by rw [O67.2 _ hk]; exact h⟩
  have gu : things[u.toNat]? = some (things[u.toNat]'(by omega)) := List.getElem?_eq_getElem (by omega)
  have pu : place things.length u = some u.toNat := place_pos u0 (by omega)
  obtain ⟨A2, S, s1, s2, s3, s4⟩ := put_ex2 R (things[u.toNat]'(by omega)) (m := 1001) (by omega) (by omega) x
  have f7 : μ7[μ.length + 1]? = some (.lst told5) := by rw [O67.2 _ (by omega)]; exact f5
  have f6 : μ6[μ.length + 1]? = some (.lst told5) := by rw [O6.2 _ (by omega)]; exact f5
  have hkl7 : μ.length + 1 < μ7.length := (List.getElem?_eq_some_iff.mp f7).1
  have hlim7 : told5.length < 16777216 := by omega
  have kR : ∀ w ∈ R, KnD 1 μ7 w := fun w hw => by
    rcases r3 w hw with hw | rfl
    · exact kc w hw
    · exact (nt5 _ (List.getElem_mem _)).grow g7
  have kS : ∀ w ∈ S, KnD 1 μ7 w := fun w hw => by
    rcases s3 w hw with hw | rfl
    · exact kR w hw
    · exact (nt5 _ (List.getElem_mem _)).grow g7
  obtain ⟨μ8, hμ8⟩ : ∃ μ8, μ7.set (μ.length + 1) (.lst (told5 ++ [.tup S])) = μ8 := ⟨_, rfl⟩
  have g8 : Grow μ7 μ8 := by rw [← hμ8]; exact Grow.set _ _ _
  have l8 : μ8.length = μ7.length := by rw [← hμ8]; simp
  have f8 : μ8[μ.length + 1]? = some (.lst (told5 ++ [.tup S])) := by rw [← hμ8]; exact List.getElem?_set_self hkl7
  have T8 : Till μ8 t p purse r (N + 3 + 1 + 1) c7 m7 := by rw [← hμ8]; exact T7.set (by omega) (by omega)
  have K8 : Keeps t μ μ8 := by rw [← hμ8]; exact (K5.only O67).set (by omega) _
  have hlast : ch.length - 1 < ch.length := by omega
  have plast : place ch.length (-1) = some (ch.length - 1) := by
    unfold place
    rw [if_neg (by omega), if_pos (by omega)]
    congr 1
    omega
  have glast : ch[ch.length - 1]? = some ch[ch.length - 1] := List.getElem?_eq_getElem hlast
  obtain ⟨qs, hqs⟩ : ∃ qs : List Int, ch[ch.length - 1] = .tup (qs.map .int) := by
    have h := hr _ (List.getElem_mem hlast)
    revert h
    generalize ch[ch.length - 1] = v
    intro h
    cases v with
    | tup vs =>
      obtain ⟨rs, rfl, hi⟩ := (recB_iff fr vs).mp h
      exact ⟨rs, rfl⟩
    | _ => cases h
  rw [hqs] at glast
  obtain ⟨μ9, hμ9⟩ : ∃ μ9, μ8 ++ [.lst (qs.map .int)] = μ9 := ⟨_, rfl⟩
  have f9 : μ9[μ.length + 1]? = some (.lst (told5 ++ [.tup S])) := by rw [← hμ9, List.getElem?_append_left (by omega)]; exact f8
  have q9 : μ9[μ8.length]? = some (.lst (qs.map .int)) := by rw [← hμ9, List.getElem?_append_right (Nat.le_refl _)]; simp
  have g9 : Grow μ8 μ9 := by rw [← hμ9]; exact Grow.app _ _
  have T9 : Till μ9 t p purse r (N + 3 + 1 + 1) c7 m7 := by rw [← hμ9]; exact T8.app _
  have K9 : Keeps t μ μ9 := by rw [← hμ9]; exact K8.app (by omega) _
  obtain ⟨B9, b1, b2, b3⟩ := add_ex (cut ch 0 (clip ch.length (-1))) [.ref μ8.length] (m := 500) (n := 1) (by have := cut_len ch 0 (clip ch.length (-1)); omega) (by simp) (by omega)
  have hkl9 : μ.length + 1 < μ9.length := (List.getElem?_eq_some_iff.mp f9).1
  have hlim9 : told5.length + 1 < 16777216 := by omega
  obtain ⟨told9, htold9⟩ : ∃ told9, told5 ++ [.tup S, .tup B9] = told9 := ⟨_, rfl⟩
  obtain ⟨μa, hμa⟩ : ∃ μa, μ9.set (μ.length + 1) (.lst told9) = μa := ⟨_, rfl⟩
  have fa : μa[μ.length + 1]? = some (.lst told9) := by rw [← hμa]; exact List.getElem?_set_self hkl9
  have ga : Grow μ9 μa := by rw [← hμa]; exact Grow.set _ _ _
  have Ta : Till μa t p purse r (N + 3 + 1 + 1) c7 m7 := by rw [← hμa]; exact T9.set (by omega) (by omega)
  have Ka : Keeps t μ μa := by rw [← hμa]; exact K9.set (by omega) _
  have qa : μa[μ8.length]? = some (.lst (qs.map .int)) := by rw [← hμa, List.getElem?_set_ne (by omega)]; exact q9
  have g5a : Grow μ5 μa := ((g7.trans g8).trans g9).trans ga
  have na : ∀ v ∈ told9, KnD 2 μa v := fun v hv => by
    rw [← htold9] at hv
    rcases List.mem_append.mp hv with hv | hv
    · exact (n5 v hv).grow g5a
    · rcases List.mem_cons.mp hv with rfl | hv
      · exact KnD.tup fun w hw => (kS w hw).grow ((g8.trans g9).trans ga)
      · rw [List.mem_singleton.mp hv]
        refine KnD.tup fun w hw => ?_
        rcases b2 w hw with hw | hw
        · exact kc w (cut_mem hw)
        · rw [List.mem_singleton.mp hw]; exact KnD.ref qa
  have la : μ.length ≤ μa.length := by rw [← hμa]; simp; omega
  obtain ⟨k', w1, w2, w3, w4, w5⟩ := clean_refD (μ := μ) (k := μ.length + 1) (by omega) fa na
  refine ⟨k', told9, (clean μ (.ref (μ.length + 1)) μa).2, c7, m7, ?_, w2, w3, (Ta.clean ht hp _).le (by omega), Ka.clean _, w4, w5⟩
  have eo : ex (run P (n + 2)) F274.body (enter F274 [.ref t, .tup (fr.map .int), .tup ch]) μ = .ret (.ref (μ.length + 1)) μa := by
    simp [F274, enter, newLst, a01, ht0, hμ1, e2, e3, px, gx, e4, f4, e5, tt5, t6, e6, pz, gz, r1, r2, t7, e7, pu, gu, s1, s2, f6, f7, hlim7, hμ8, f8, plast, glast, hμ9, f9, b1, hlim9, htold9, hμa]
  rw [run_succ H.h274 _ _ rfl, eo]
  show Out.ok (clean μ _ μa).1 _ = _
  rw [w1]
end
end Mi
end

section
set_option linter.all false
set_option autoImplicit false
/-! PK12g: a frame that is asked. -/
namespace Mi
theorem rec_smp {fr : List Int} (hl : fr.length ≤ 6) {w : Val} (h : recV fr w = true) : smp (.tup [.str sTold, w]) = true ∧ dpt (.tup [.str sTold, w]) ≤ 2 := by
  cases w with
  | tup vs =>
    obtain ⟨rs, rfl, hi⟩ := (recB_iff fr vs).mp h
    have hlen := inF_len hi
    have h1 : smps (rs.map Val.int) = true := smps_of fun v hv => by
      obtain ⟨i, _, rfl⟩ := List.mem_map.mp hv
      rfl
    have h2 : dpts (rs.map Val.int) ≤ 0 := dpts_le fun v hv => by
      obtain ⟨i, _, rfl⟩ := List.mem_map.mp hv
      exact Nat.le_refl _
    have h3 : rs.length ≤ 16777216 := by omega
    have h4 : dpts (rs.map Val.int) = 0 := by omega
    exact ⟨by simp [smp, smps, h1, h3], by simp [dpt, dpts, h4]⟩
  | _ => cases h
theorem prodI_rev : ∀ l : List Int, prodI l.reverse = prodI l
  | [] => rfl
  | x :: l => by
    rw [List.reverse_cons, prodI_append, prodI_rev l]
    simp [prodI, Int.mul_comm]
theorem GoodF.rev {fr : List Int} (G : GoodF fr) : GoodF fr.reverse := ⟨by simpa using G.l1, by simpa using G.l2, fun x hx => G.g x (by simpa using hx), by rw [prodI_rev]; exact G.p⟩
theorem rng3_at {L s : Int} (hL : 0 ≤ L) (hs : 1 ≤ s) {m : Nat} {x : Val} (h : ((List.range (rsize 0 L s).toNat).map fun i => Val.int (0 + (i : Nat) * s))[m]? = some x) : ∃ q : Nat, x = .int (q : Nat) ∧ (q : Int) < L := by
  rw [List.getElem?_map] at h
  by_cases hi : m < (rsize 0 L s).toNat
  · rw [List.getElem?_range hi] at h
    cases h
    have hr : (m : Int) < rsize 0 L s := by omega
    unfold rsize at hr
    rw [if_pos (by omega)] at hr
    by_cases hL0 : 0 < L
    · rw [if_pos hL0] at hr
      have h1 : (m : Int) ≤ (L - 0 - 1) / s := by omega
      have h2 : (m : Int) * s ≤ L - 0 - 1 := (Int.le_ediv_iff_mul_le (by omega)).mp h1
      have h3 : 0 ≤ (m : Int) * s := Int.mul_nonneg (by omega) (by omega)
      exact ⟨((m : Int) * s).toNat, by rw [Int.toNat_of_nonneg h3]; show Val.int (0 + (m : Int) * s) = _; rw [Int.zero_add], by omega⟩
    · rw [if_neg hL0] at hr; omega
  · rw [List.getElem?_eq_none (by simpa using hi)] at h
    cases h
/-- a change of the frame, as items -/
def ChF (fr : List Int) (ch : List Val) : Prop := ch.length = (rcs fr).length ∧ ∀ w ∈ ch, recV fr w = true
theorem ChF.say {fr : List Int} {ch : List Val} (h : ChF fr ch) : sayL fr (.tup ch) = .tup [.str sTold, .int (movedL ch (rcs fr)).length] := by
  have hf : ch.findIdx? (fun v => !recV fr v) = none := by
    rw [List.findIdx?_eq_none_iff]
    intro v hv
    rw [h.2 v hv]; rfl
  simp [sayL, h.1, hf]
theorem ChF.knv {fr : List Int} {ch : List Val} (h : ChF fr ch) (μ : Sto) : KnV μ (.tup ch) := ⟨Kn.flat (by intro k z; cases z), fun w hw => rec_KnT μ (h.2 w hw)⟩
section
variable {P : Nat → Option Fn} (H : HasK12 P) {n : Nat} {μ : Sto} {fr : List Int} {t p : Nat} {purse : List Int} {r N c m : Int}
include H
theorem b275_2 (G : GoodF fr) {ch : List Val} (C : ChF fr ch) {kr : Nat} (hkr : μ[kr]? = some (.lst (rcs fr))) {q : Nat} (hq : (q : Int) < (rcs fr).length) {o3 o4 o7 o9 o10 : Option Val} : ex (run P (n + 7)) B275_2 [some (.ref t), some (.tup (fr.map .int)), some (.ref kr), o3, o4, none, some (.tup ch), o7, some (.int (q : Nat)), o9, o10] μ = .nx [some (.ref t), some (.tup (fr.map .int)), some (.ref kr), o3, o4, none, some (.tup ch), o7, some (.int (q : Nat)), o9, o10] μ := by
  have hq' : q < (rcs fr).length := by omega
  have hql : q < ch.length := by rw [C.1]; exact hq'
  have g1 : ch[q]? = some ch[q] := List.getElem?_eq_getElem hql
  have g2 : (rcs fr)[q]? = some (rcs fr)[q] := List.getElem?_eq_getElem hq'
  have p1 : place ch.length (q : Int) = some q := place_nat hql
  have p2 : place (rcs fr).length (q : Int) = some q := place_nat hq'
  obtain ⟨rs, e, h1, h2⟩ := rcs_at G g2
  have e3 := (image_rec H (n := n) (μ := μ) G C.1 h1 (w := ch[q]) (by rw [h2]; exact g1)).2
  have sm := rec_smp G.l2 (C.2 _ (List.getElem_mem hql))
  have s1 := r_same (μ := μ) H.h238 (n + 6) (.tup [.str sTold, ch[q]]) sm.1 (by have := sm.2; omega)
  rw [e] at g2
  simp [B275_2, g1, g2, p1, p2, hkr, e3, s1]
theorem b275_1 (G : GoodF fr) {ch : List Val} (C : ChF fr ch) {kr : Nat} (hkr : μ[kr]? = some (.lst (rcs fr))) {v : Val} (hk : KnT μ v) {o3 o4 o8 o9 o10 : Option Val} : ∃ o10', ex (run P (n + 7)) B275_1 [some (.ref t), some (.tup (fr.map .int)), some (.ref kr), o3, o4, none, some (.tup ch), some v, o8, o9, o10] μ = .nx [some (.ref t), some (.tup (fr.map .int)), some (.ref kr), o3, o4, none, some (.tup ch), some v, o8, o9, o10'] μ := by
  have e1 := r_law_is_record H.rc (n := n + 6) (μ := μ) (fr := fr) v hk G.l2
  have hlen := rcs_len G
  have hp5 := G.p
  cases hr : recV fr v with
  | false =>
    rw [hr] at e1
    have e3 := image_bad H (n := n) (μ := μ) G hk hr (.tup ch)
    have s1 := r_same (μ := μ) H.h238 (n + 6) (.tup [.str sRaised, .str sRecord]) rfl (by simp [dpt, dpts])
    exact ⟨some (.tup [.str sRaised, .str sRecord]), by simp [B275_1, e1, e3, s1]⟩
  | true =>
    rw [hr] at e1
    have hpl := rec_plain hr
    cases v with
    | tup vs =>
      obtain ⟨rs, rfl, hi⟩ := (recB_iff fr vs).mp hr
      have pl := G.pl hi
      have hql : (placeL 0 fr rs).toNat < ch.length := by rw [C.1]; omega
      have g1 : ch[(placeL 0 fr rs).toNat]? = some (ch[(placeL 0 fr rs).toNat]'hql) := List.getElem?_eq_getElem hql
      have p1 : place ch.length (((placeL 0 fr rs).toNat : Nat) : Int) = some (placeL 0 fr rs).toNat := place_nat hql
      have ei : sem2 .index (.ref kr) (.tup (rs.map .int)) μ = .ok (.int ((placeL 0 fr rs).toNat : Nat)) μ := by
        simp only [sem2, hkr]
        rw [if_pos ⟨rcs_plain G, hpl, by simp only [LIM]; omega⟩, rcs_index G hi]
      have e3 := (image_rec H (n := n) (μ := μ) G C.1 hi g1).2
      have sm := rec_smp G.l2 (C.2 _ (List.getElem_mem hql))
      have s1 := r_same (μ := μ) H.h238 (n + 6) (.tup [.str sTold, ch[(placeL 0 fr rs).toNat]]) sm.1 (by have := sm.2; omega)
      refine ⟨some (.tup [.str sTold, ch[(placeL 0 fr rs).toNat]]), ?_⟩
      revert g1 p1 ei e3 s1
      generalize ch[(placeL 0 fr rs).toNat] = w
      generalize (placeL 0 fr rs).toNat = q
      intro g1 p1 ei e3 s1
      simp [B275_1, e1, hkr, ei, p1, g1, e3, s1]
    | _ => cases hr
/-- one change that is drawn and asked -/
theorem b275_4 (T : Till μ t p purse r N c m) (hN : N ≤ 10000) (G : GoodF fr) {kr : Nat} (hkr : μ[kr]? = some (.lst (rcs fr))) (hrt : kr ≠ t) {o3 o4 o6 o7 o8 o9 o10 : Option Val} : ∃ μ' c' m' ch o7' o8' o9' o10', ex (run P (n + 7)) B275_4 [some (.ref t), some (.tup (fr.map .int)), some (.ref kr), o3, o4, none, o6, o7, o8, o9, o10] μ = .nx [some (.ref t), some (.tup (fr.map .int)), some (.ref kr), o3, o4, none, some (.tup ch), o7', o8', o9', o10'] μ' ∧ ChF fr ch ∧ Till μ' t p purse r (N + 520) c' m' ∧ μ'[kr]? = some (.lst (rcs fr)) := by
  have hlen := rcs_len G
  have hp1 := prodI_pos G.g
  have hp5 := G.p
  have hrl : kr < μ.length := (List.getElem?_eq_some_iff.mp hkr).1
  obtain ⟨ch, μ1, c1, m1, e1, cl, cm, T1, K1, l1⟩ := r_change H (n := n + 5) (fv := .tup (fr.map .int)) T (by omega) (by omega) (by omega) hkr hrt
  have C : ChF fr ch := ⟨cl, fun w hw => rcs_rec G (cm w hw)⟩
  have k1 : μ1[kr]? = some (.lst (rcs fr)) := by rw [K1 _ hrl hrt]; exact hkr
  have e2 := r_fault H (n := n + 5) G (.tup ch) (C.knv μ1) k1
  rw [C.say] at e2
  have e3 := r_asked H (n := n) G (.tup ch) (C.knv μ1) k1
  obtain ⟨k2, things, μ2, c2, m2, e4, f2, n2, T2, K2, hk2, l2⟩ := r_bent H (n := n + 4) T1 (by omega) G C.1 C.2
  have k2' : μ2[kr]? = some (.lst (rcs fr)) := by rw [K2 _ (by omega) hrt]; exact k1
  obtain ⟨ρ3, μ3, e5, rfl, o7a, rfl⟩ := forL_all (bind := bindT (.nm 7)) (body := ex (run P (n + 7)) B275_3) (src := .ref k2) (all := things) (I := fun j ρ μ' => μ2 = μ' ∧ ∃ o7, ρ = [some (.ref t), some (.tup (fr.map .int)), some (.ref kr), o3, o4, none, some (.tup ch), o7, o8, o9, o10]) (xs := things) (i := 0) (ρ := [some (.ref t), some (.tup (fr.map .int)), some (.ref kr), o3, o4, none, some (.tup ch), o7, o8, o9, o10]) (μ := μ2) ⟨rfl, o7, rfl⟩
    (fun j x ρ μ' hx hI => by
      obtain ⟨rfl, o7, rfl⟩ := hI
      have e := r_asked H (n := n) G x (KnD2 (n2 x (List.mem_of_getElem? hx))) k2'
      exact ⟨_, [some (.ref t), some (.tup (fr.map .int)), some (.ref kr), o3, o4, none, some (.tup ch), some x, o8, o9, o10], μ2, rfl, .inl (by simp [B275_3, e]), decide_eq_true f2, rfl, _, rfl⟩)
  obtain ⟨s, hs⟩ : ∃ s : Int, 1 + ((rcs fr).length : Int) / 30 = s := ⟨_, rfl⟩
  have hs1 : 1 ≤ s ∧ s ≤ 100 := by omega
  have hfd : ∀ μ, sem2 .fdiv (.int ((rcs fr).length : Int)) (.int 30) μ = .ok (.int (((rcs fr).length : Int) / 30)) μ := fun μ => s_fdiv (by omega) (by omega)
  obtain ⟨RG, hRG⟩ : ∃ RG, ((List.range (rsize 0 (rcs fr).length s).toNat).map fun m => Val.int (0 + (m : Nat) * s)) = RG := ⟨_, rfl⟩
  have hr3 : rng3 [.int 0, .int (rcs fr).length, .int s] μ2 = .ok (.tup RG) μ2 := by
    unfold rng3
    simp only []
    rw [if_pos ⟨by simp only [LIM]; omega, by simp only [LIM]; omega, by simp only [LIM]; omega, by simp only [LIM]; omega, by simp only [LIM]; omega, by simp only [LIM]; omega, by omega⟩, hRG]
  obtain ⟨ρ4, μ4, e6, rfl, o8a, rfl⟩ := forL_all (bind := bindT (.nm 8)) (body := ex (run P (n + 7)) B275_2) (src := .tup RG) (all := RG) (I := fun j ρ μ' => μ2 = μ' ∧ ∃ o8, ρ = [some (.ref t), some (.tup (fr.map .int)), some (.ref kr), o3, o4, none, some (.tup ch), o7a, o8, o9, o10]) (xs := RG) (i := 0) (ρ := [some (.ref t), some (.tup (fr.map .int)), some (.ref kr), o3, o4, none, some (.tup ch), o7a, o8, o9, o10]) (μ := μ2) ⟨rfl, o8, rfl⟩
    (fun j x ρ μ' hx hI => by
      obtain ⟨rfl, o8, rfl⟩ := hI
      rw [← hRG] at hx
      obtain ⟨q, rfl, hq⟩ := rng3_at (by omega) hs1.1 hx
      exact ⟨_, [some (.ref t), some (.tup (fr.map .int)), some (.ref kr), o3, o4, none, some (.tup ch), o7a, some (.int (q : Nat)), o9, o10], μ2, rfl, .inl (b275_2 H (n := n) (t := t) G C k2' hq), rfl, rfl, _, rfl⟩)
  obtain ⟨z, μ5, c5, m5, e7, z0, z1, T5, O5⟩ := coin_only H.h268 (n := n + 6) T2 (by omega) 14 ((rcs fr).length : Nat)
  have k5 : μ5[kr]? = some (.lst (rcs fr)) := by rw [O5.2 _ hrt]; exact k2'
  have hz : z.toNat < (rcs fr).length := by omega
  have gz : (rcs fr)[z.toNat]? = some (rcs fr)[z.toNat] := List.getElem?_eq_getElem hz
  have pz : place (rcs fr).length z = some z.toNat := place_pos z0 (by omega)
  obtain ⟨rs, er, hin, _⟩ := rcs_at G gz
  rw [er] at gz
  obtain ⟨k6, nors, μ6, c6, m6, e8, f6, n6, T6, K6⟩ := r_no_records H.h268 H.h255 (n := n + 5) T5 (by omega) G (rs := rs) (inF_len hin).symm
  have hl5 : μ5.length = μ2.length := O5.1
  have k6' : μ6[kr]? = some (.lst (rcs fr)) := by rw [K6 _ (by omega) hrt]; exact k5
  obtain ⟨ρ7, μ7, e9, rfl, o7b, o10b, rfl⟩ := forL_all (bind := bindT (.nm 7)) (body := ex (run P (n + 7)) B275_1) (src := .ref k6) (all := nors) (I := fun j ρ μ' => μ6 = μ' ∧ ∃ o7 o10, ρ = [some (.ref t), some (.tup (fr.map .int)), some (.ref kr), o3, o4, none, some (.tup ch), o7, o8a, some (.tup (rs.map .int)), o10]) (xs := nors) (i := 0) (ρ := [some (.ref t), some (.tup (fr.map .int)), some (.ref kr), o3, o4, none, some (.tup ch), o7a, o8a, some (.tup (rs.map .int)), o10]) (μ := μ6) ⟨rfl, o7a, o10, rfl⟩
    (fun j x ρ μ' hx hI => by
      obtain ⟨rfl, o7, o10, rfl⟩ := hI
      obtain ⟨o10', e⟩ := b275_1 H (n := n) (t := t) (o3 := o3) (o4 := o4) (o8 := o8a) (o9 := some (.tup (rs.map .int))) (o10 := o10) G C k6' (n6 x (List.mem_of_getElem? hx))
      exact ⟨_, _, μ6, rfl, .inl e, decide_eq_true f6, rfl, _, _, rfl⟩)
  refine ⟨μ6, c6, m6, ch, o7b, o8a, some (.tup (rs.map .int)), o10b, ?_, C, T6.le (by omega), k6'⟩
  have p20 : place 2 0 = some 0 := rfl
  simp [B275_4, p20, e1, e2, e3, e4, f2, e5, k2', hfd, hs, hr3, e6, e7, k5, pz, gz, e8, f6, e9]
end
end Mi
end

section
set_option linter.all false
set_option autoImplicit false
/-! PK12h: a frame that is asked, whole; the law. -/
namespace Mi
section
variable {P : Nat → Option Fn} (H : HasK12 P) {n : Nat} {μ : Sto} {fr : List Int} {t p : Nat} {purse : List Int} {r N c m : Int}
include H
theorem r_frame_asked (T : Till μ t p purse r N c m) (hN : N ≤ 5000) (G : GoodF fr) : ∃ μ' c' m', run P (n + 8) 275 [.ref t, .tup (fr.map .int)] μ = .ok (.bl true) μ' ∧ Till μ' t p purse r (N + 1100) c' m' := by
  have ht : t < μ.length := (List.getElem?_eq_some_iff.mp T.at_).1
  have hp : p < μ.length := (List.getElem?_eq_some_iff.mp T.pu).1
  have g2 := G.l2
  have e0 : run P (n + 7) 240 [.tup (fr.map .int)] μ = .ok (.ref μ.length) (μ ++ [.lst (rcs fr)]) := r_law_records H.h240 (n := n + 6) (μ := μ) G.g G.p G.l2
  obtain ⟨μ0, hμ0⟩ : ∃ μ0, μ ++ [.lst (rcs fr)] = μ0 := ⟨_, rfl⟩
  have T0 : Till μ0 t p purse r N c m := by rw [← hμ0]; exact T.app _
  have k0 : μ0[μ.length]? = some (.lst (rcs fr)) := by rw [← hμ0, List.getElem?_append_right (Nat.le_refl _)]; simp
  rw [hμ0] at e0
  have e1 : run P (n + 7) 266 [.tup (fr.map .int)] μ0 = .ok (.tup (rcs fr)) μ0 := by
    rw [run_succ H.h266 _ _ rfl]
    have e : run P (n + 6) 127 [.tup (fr.map .int)] μ0 = .ok (.tup (rcs fr)) μ0 := r_records_of H.rc.h127 (n := n + 5) (μ := μ0) G.g G.p G.l2
    simp [F266, enter, e, cleanO_same]
  have sm := recs_smp G
  have s1 : run P (n + 7) 238 [.tup (rcs fr), .tup (rcs fr)] μ0 = .ok (.bl true) μ0 := r_same (μ := μ0) H.h238 (n + 6) (.tup (rcs fr)) sm.1 (by have := sm.2; unfold rcs; omega)
  have e2 := r_asked H (n := n) G (.tup (rcs fr)) ((show ChF fr (rcs fr) from ⟨rfl, fun w hw => rcs_rec G hw⟩).knv μ0) k0
  obtain ⟨ρ2, μ2, e3, c2, m2, o4, o6, o7, o8, o9, o10, rfl, T2, k2, hch⟩ := forL_all (bind := bindT (.nm 4)) (body := ex (run P (n + 7)) B275_4) (src := .tup ((List.range 2).map fun i => Val.int (i : Nat))) (all := (List.range 2).map fun i => Val.int (i : Nat))
    (I := fun j ρ μ' => ∃ c m o4 o6 o7 o8 o9 o10, ρ = [some (.ref t), some (.tup (fr.map .int)), some (.ref μ.length), some (.tup (rcs fr)), o4, none, o6, o7, o8, o9, o10] ∧ Till μ' t p purse r (N + 520 * (j : Nat)) c m ∧ μ'[μ.length]? = some (.lst (rcs fr)) ∧ (j ≠ 0 → ∃ ch, o6 = some (.tup ch) ∧ ChF fr ch)) (xs := (List.range 2).map fun i => Val.int (i : Nat)) (i := 0) (ρ := [some (.ref t), some (.tup (fr.map .int)), some (.ref μ.length), some (.tup (rcs fr)), none, none, none, none, none, none, none]) (μ := μ0) ⟨_, _, none, none, none, none, none, none, rfl, T0.le (by omega), k0, fun h => absurd rfl h⟩
    (fun j y ρ μ' hy hI => by
      obtain ⟨c, m, o4, o6, o7, o8, o9, o10, rfl, T, k, _⟩ := hI
      rw [Nat.zero_add] at T ⊢
      obtain ⟨hj, rfl⟩ := rng_at hy
      obtain ⟨μ2, c', m', ch, o7', o8', o9', o10', e, C, T', k'⟩ := b275_4 H (n := n) T (by omega) G k (by omega) (o3 := some (.tup (rcs fr))) (o4 := some (.int (j : Nat))) (o6 := o6) (o7 := o7) (o8 := o8) (o9 := o9) (o10 := o10)
      exact ⟨_, _, μ2, rfl, .inl e, rfl, c', m', _, _, _, _, _, _, rfl, T'.le (by push_cast; omega), k', fun _ => ⟨ch, rfl, C⟩⟩)
  obtain ⟨ch, rfl, C⟩ := hch (by decide)
  have l1 : (fr.length : Int) ≤ 16777216 := by omega
  have l2 : -(16777216 : Int) ≤ (fr.length : Int) := by omega
  have l3 : fr.length ≤ LIM := by simp only [LIM]; omega
  obtain ⟨RG, hRG⟩ : ∃ RG, ((List.range fr.length).map fun i => Val.int (i : Nat)) = RG := ⟨_, rfl⟩
  have hRl : RG.length = fr.length := by rw [← hRG]; simp
  have hc : compL (fun v => some [some (.ref t), some (.tup (fr.map .int)), some (.ref μ.length), some (.tup (rcs fr)), o4, none, some (.tup ch), o7, some v, o9, o10]) (ev (run P (n + 7)) (.cst (.bl true))) (ev (run P (n + 7)) (.op2 .idx (.var 1) (.op2 .sub (.op2 .sub (.op1 .len (.var 1)) (.cst (.int 1))) (.var 8)))) (.tup RG) RG RG μ2 = .ok (RG.map fun v => match v with
      | .int i => .int (fr.getD (fr.length - 1 - i.toNat) 0)
      | _ => .non) μ2 := by
    refine compL_map rfl fun y hy => ?_
    rw [← hRG] at hy
    obtain ⟨i, hi, rfl⟩ := List.mem_map.mp hy
    have hi' := List.mem_range.mp hi
    have pi : place fr.length ((fr.length : Int) - 1 - (i : Int)) = some (fr.length - 1 - i) := by
      rw [show (fr.length : Int) - 1 - (i : Int) = ((fr.length - 1 - i : Nat) : Int) by omega]
      exact place_nat (by omega)
    have gi : fr[fr.length - 1 - i]? = some (fr[fr.length - 1 - i]'(by omega)) := List.getElem?_eq_getElem (by omega)
    have gd : fr.getD (fr.length - 1 - i) 0 = fr[fr.length - 1 - i]'(by omega) := by rw [List.getD_eq_getElem?_getD, gi]; rfl
    refine ⟨_, rfl, rfl, ?_⟩
    simp only [Int.toNat_natCast, gd]
    simp [pi, gi]
  have hM : (RG.map fun v => match v with
      | .int i => Val.int (fr.getD (fr.length - 1 - i.toNat) 0)
      | _ => .non) = fr.reverse.map .int := by
    rw [← hRG]
    apply List.ext_getElem
    · simp
    · intro i h1 h2
      simp at h1
      simp [List.getElem_reverse, List.getD_eq_getElem?_getD, h1]
      rw [List.getElem?_eq_getElem (by omega)]
      rfl
  rw [hM] at hc
  obtain ⟨μ3, hμ3⟩ : ∃ μ3, μ2 ++ [.lst (fr.reverse.map .int)] = μ3 := ⟨_, rfl⟩
  have k3 : μ3[μ2.length]? = some (.lst (fr.reverse.map .int)) := by rw [← hμ3, List.getElem?_append_right (Nat.le_refl _)]; simp
  have T3 : Till μ3 t p purse r (N + 520 * 2) c2 m2 := by rw [← hμ3]; exact (T2.app _).le (by simp)
  have Gr := G.rev
  have e5 : run P (n + 7) 240 [.tup (fr.reverse.map .int)] μ3 = .ok (.ref μ3.length) (μ3 ++ [.lst (rcs fr.reverse)]) := r_law_records H.h240 (n := n + 6) (μ := μ3) Gr.g Gr.p Gr.l2
  obtain ⟨μ4, hμ4⟩ : ∃ μ4, μ3 ++ [.lst (rcs fr.reverse)] = μ4 := ⟨_, rfl⟩
  rw [hμ4] at e5
  have k4 : μ4[μ3.length]? = some (.lst (rcs fr.reverse)) := by rw [← hμ4, List.getElem?_append_right (Nat.le_refl _)]; simp
  have T4 : Till μ4 t p purse r (N + 520 * 2) c2 m2 := by rw [← hμ4]; exact T3.app _
  have e6 := r_asked H (n := n) Gr (.tup ch) (C.knv μ4) k4
  have eo : ex (run P (n + 7)) F275.body (enter F275 [.ref t, .tup (fr.map .int)]) μ = .ret (.bl true) μ4 := by
    simp only [List.map_reverse] at *
    have hrng : ((List.range 2).map fun i => Val.int (i : Nat)) = [.int 0, .int 1] := rfl
    simp [F275, enter, e0, k0, e1, s1, e2, e3, l1, l2, l3, hRG, hRl, hc, newLst, hμ3, k3, e5, e6]
  refine ⟨(clean μ (.bl true) μ4).2, c2, m2, ?_, (T4.clean ht hp _).le (by omega)⟩
  rw [run_succ H.h275 _ _ rfl, eo]
  show Out.ok (clean μ _ μ4).1 _ = _
  rw [clean_val (by intro k z; cases z)]
theorem lap12 {ns : List Int} {j : Nat} (hj : j < 3) {g : Bool} {o3 o4 o5 o6 : Option Val} (T : Till μ t p purse r N c m) (hN : N ≤ 4000) : ∃ ρ2 μ2 c' m' o6', ex (run P (n + 9)) B276_1 [some (.scr ns), some (.ref t), some (.bl g), some (.int (j : Nat)), o4, o5, o6] μ = .nx ρ2 μ2 ∧ ρ2 = [some (.scr ns), some (.ref t), some (.bl g), some (.int (j : Nat)), o4, o5, o6'] ∧ Till μ2 t p purse r (N + 1130) c' m' := by
  obtain ⟨most, h1, h2, h3⟩ : ∃ most : Int, [Val.int 6, .int 30, .int 30][j]? = some (.int most) ∧ 1 ≤ most ∧ most ≤ 500 := by
    rcases (show j = 0 ∨ j = 1 ∨ j = 2 by omega) with rfl | rfl | rfl
    · exact ⟨6, rfl, by omega, by omega⟩
    · exact ⟨30, rfl, by omega, by omega⟩
    · exact ⟨30, rfl, by omega, by omega⟩
  obtain ⟨fr, μ1, c1, m1, e1, T1, l1, l2, hg, hp⟩ := r_frame H.h268 (n := n + 7) (fun k d hk => by
    by_cases e : k = 239
    · subst e
      simp at hk
      subst hk
      exact H.h239
    · simp [e] at hk) (by omega) h2 (by omega) T
  have pj : place 3 (j : Int) = some j := place_nat hj
  have G0 : GoodF fr := ⟨l1, l2, hg, by omega⟩
  by_cases h5 : j = 2 ∧ g = true
  · obtain ⟨rfl, rfl⟩ := h5
    obtain ⟨fr2, μ3, c3, m3, e3, G2, T3⟩ := r_great H.h268 H.h253 (n := n + 7) T1 (by omega)
    obtain ⟨μ4, c4, m4, e4, T4⟩ := r_frame_asked H (n := n + 1) T3 (by omega) G2
    refine ⟨_, μ4, c4, m4, some (.tup (fr2.map .int)), ?_, rfl, T4.le (by omega)⟩
    simp at pj h1
    simp [B276_1, pj, h1, e1, e3, e4]
  · obtain ⟨μ4, c4, m4, e4, T4⟩ := r_frame_asked H (n := n + 1) T1 (by omega) G0
    refine ⟨_, μ4, c4, m4, some (.tup (fr.map .int)), ?_, rfl, T4.le (by omega)⟩
    by_cases h2' : j = 2
    · have hg' : g = false := by
        cases g
        · rfl
        · exact absurd ⟨h2', rfl⟩ h5
      subst h2' hg'
      simp at pj h1
      simp [B276_1, pj, h1, e1, e4]
    · have h5' : ¬ (j : Int) = 2 := by omega
      simp [B276_1, pj, h1, e1, h5', e4]
theorem plain_k12 (ns : List Int) : ∃ μ', run P (n + 10) 276 [.scr ns] [] = .ok (.bl true) μ' := by
  obtain ⟨purse, mill, r, μ0, e0, T0, _⟩ := r_till H.h267 (n := n + 8) ns
  obtain ⟨x, μ1, c1, m1, e1, _, _, T1, _⟩ := coin_only H.h268 (n := n + 8) T0 (by omega) 20 7
  obtain ⟨g, hg⟩ : ∃ g : Bool, decide (x = 4) = g := ⟨_, rfl⟩
  obtain ⟨ρ2, μ2, e2, c2, m2, o3, o6, rfl, T2⟩ := forL_all (bind := bindT (.nm 3)) (body := ex (run P (n + 9)) B276_1) (src := .tup ((List.range 3).map fun i => Val.int (i : Nat))) (all := (List.range 3).map fun i => Val.int (i : Nat))
    (I := fun j ρ μ' => ∃ c m o3 o6, ρ = [some (.scr ns), some (.ref 2), some (.bl g), o3, none, none, o6] ∧ Till μ' 2 0 purse r (1 + 1130 * (j : Nat)) c m) (xs := (List.range 3).map fun i => Val.int (i : Nat)) (i := 0) (ρ := [some (.scr ns), some (.ref 2), some (.bl g), none, none, none, none]) (μ := μ1) ⟨_, _, none, none, rfl, T1.le (by omega)⟩
    (fun j y ρ μ' hy hI => by
      obtain ⟨c, m, o3, o6, rfl, T⟩ := hI
      rw [Nat.zero_add] at T ⊢
      obtain ⟨hj, rfl⟩ := rng_at hy
      obtain ⟨ρ2, μ2, c', m', o6', e, rfl, T'⟩ := lap12 H (n := n) (ns := ns) hj (g := g) (o3 := none) (o4 := none) (o5 := none) (o6 := o6) T (by omega)
      exact ⟨_, _, μ2, rfl, .inl e, rfl, c', m', _, _, rfl, T'.le (by push_cast; omega)⟩)
  have good : ∀ l : List Int, (1 ≤ l.length ∧ l.length ≤ 6 ∧ (∀ x ∈ l, 1 ≤ x ∧ x ≤ 12) ∧ prodI l ≤ 500) → GoodF l := fun l h => ⟨h.1, h.2.1, h.2.2.1, h.2.2.2⟩
  have G22 : GoodF [2, 2] := good _ (by decide)
  have G1 : GoodF [1] := good _ (by decide)
  have p1 : run P (n + 9) 261 [.tup [.int 2, .int 2], .tup [.tup [.int 0, .int 0], .tup [.int 1, .int 0], .tup [.int 0, .int 1], .tup [.int 1, .int 1]]] μ2 = .ok (.int 2) μ2 := check_ok H (n := n + 4) (μ := μ2) G22 (vs := [.tup [.int 0, .int 0], .tup [.int 1, .int 0], .tup [.int 0, .int 1], .tup [.int 1, .int 1]]) rfl (by intro v hv; simp at hv; rcases hv with rfl | rfl | rfl | rfl <;> rfl)
  have p2 : run P (n + 9) 265 [.tup [.int 2, .int 2], .tup [.tup [.int 0, .int 0], .tup [.int 1, .int 0], .tup [.int 0, .int 1], .tup [.int 1, .int 1]], .tup [.int 0, .int 1]] μ2 = .ok (.tup [.int 1, .int 0]) μ2 := (image_rec H (n := n + 3) (μ := μ2) G22 (vs := [.tup [.int 0, .int 0], .tup [.int 1, .int 0], .tup [.int 0, .int 1], .tup [.int 1, .int 1]]) rfl (rs := [0, 1]) (by simp [inF]) rfl).1
  have p3 : run P (n + 9) 263 [.tup [.int 1], .tup [.tup [.int 0]]] μ2 = .ok (.bl true) μ2 := (heard_k12 H (n := n + 3) (μ := μ2) G1 (.tup [.tup [.int 0]]) (KnD2 (KnD_nor (v := .non) _ _ _ rfl))).2
  have p4 : run P (n + 9) 263 [.tup [.int 1], .tup [.tup [.int 1]]] μ2 = .ok (.bl false) μ2 := (heard_k12 H (n := n + 3) (μ := μ2) G1 (.tup [.tup [.int 1]]) (KnD2 (KnD_nor (v := .non) _ _ _ rfl))).2
  have s1 := r_same (μ := μ2) H.h238 (n + 8) (.tup [.int 2, .tup [.int 1, .int 0], .bl true, .bl false]) rfl (by simp [dpt, dpts])
  refine ⟨(clean [] (.bl true) μ2).2, ?_⟩
  rw [run_succ H.h276 _ _ rfl]
  have eo : ex (run P (n + 9)) F276.body (enter F276 [.scr ns]) [] = .ret (.bl true) μ2 := by
    simp [F276, enter, e0, e1, hg, e2, p1, p2, p3, p4, pick, s1]
  rw [eo]
  show Out.ok (clean [] (.bl true) μ2).1 _ = _
  rw [clean_val (by intro k z; cases z)]
end
end Mi
end

set_option Elab.async false
set_option linter.all false
set_option maxRecDepth 100000
set_option autoImplicit false
set_option maxHeartbeats 1000000
namespace Lw
open PySem PySem.Spec L2 Mi
open PyProof.Rows hiding St
abbrev top (i : Nat) : Stmt := PySem.Challenge.pw_nospare_k12_changes_images.main.body.getD i (.Pass ⟨0, 0, 0, 0⟩)
def tb : Nat → Option Fn := fun k => match k with
  | 73 => some F73
  | 74 => some F74
  | 75 => some F75
  | 76 => some F76
  | 126 => some F126
  | 127 => some F127
  | 247 => some F247
  | 248 => some F248
  | 128 => some F128
  | 261 => some F261
  | 262 => some F262
  | 263 => some F263
  | 264 => some F264
  | 265 => some F265
  | 266 => some F266
  | 267 => some F267
  | 268 => some F268
  | 238 => some F238
  | 239 => some F239
  | 253 => some F253
  | 240 => some F240
  | 254 => some F254
  | 255 => some F255
  | 269 => some F269
  | 270 => some F270
  | 271 => some F271
  | 272 => some F272
  | 273 => some F273
  | 274 => some F274
  | 275 => some F275
  | 276 => some F276
  | _ => none
def Γ : Gam where
  fns := [(73, "is_whole", 1), (74, "is_number", 1), (75, "is_below", 2), (76, "is_row", 2), (126, "count_of", 1), (127, "records_of", 1), (247, "is_record", 2), (248, "look_for_record", 2), (128, "place_in", 2), (261, "check_change", 2), (262, "moved_count", 2), (263, "is_change", 2), (264, "image", 3), (265, "image_of", 3), (266, "same_change", 1), (267, "_law_till", 1), (268, "_law_coin", 3), (238, "_law_same", 2), (239, "_law_frame", 2), (253, "_law_great", 1), (240, "_law_records", 1), (254, "_law_is_record", 2), (255, "_law_no_records", 3), (269, "_law_change", 3), (270, "_law_fault", 3), (271, "_law_heard", 2), (272, "_law_image", 3), (273, "_law_asked", 3), (274, "_law_bent", 3), (275, "_law_frame_asked", 2), (276, "law", 1)]
  exn := [(0, "BadChange", ["at", "word"]), (4, "BadStep", ["word"])]
  cat := [("BadChange", [0]), ("BadStep", [4])]
  kws := [(265, ["frame", "change", "record"], [0, 1, 2])]
  cs := []
  abs := ["abs", "bool", "int", "isinstance", "len", "list", "min", "range", "str", "tuple"]
theorem sc73 : FnScope ["thing"] ["thing"] (defScope (top 7)) := ⟨rfl, rfl, rfl, by decide +kernel, rfl, by decide +kernel, by decide +kernel⟩
theorem ck73 : chkB Γ ⟨["thing"], defScope (top 7), fun _ => true⟩ F73.body (defBody (top 7)) = true := by decide +kernel
theorem sc74 : FnScope ["thing"] ["thing"] (defScope (top 8)) := ⟨rfl, rfl, rfl, by decide +kernel, rfl, by decide +kernel, by decide +kernel⟩
theorem ck74 : chkB Γ ⟨["thing"], defScope (top 8), fun _ => true⟩ F74.body (defBody (top 8)) = true := by decide +kernel
theorem sc75 : FnScope ["thing", "most"] ["thing", "most"] (defScope (top 9)) := ⟨rfl, rfl, rfl, by decide +kernel, rfl, by decide +kernel, by decide +kernel⟩
theorem ck75 : chkB Γ ⟨["thing", "most"], defScope (top 9), fun _ => true⟩ F75.body (defBody (top 9)) = true := by decide +kernel
theorem sc76 : FnScope ["thing", "many"] ["thing", "many"] (defScope (top 10)) := ⟨rfl, rfl, rfl, by decide +kernel, rfl, by decide +kernel, by decide +kernel⟩
theorem ck76 : chkB Γ ⟨["thing", "many"], defScope (top 10), fun _ => true⟩ F76.body (defBody (top 10)) = true := by decide +kernel
theorem sc126 : FnScope ["frame", "many", "size"] ["frame"] (defScope (top 12)) := ⟨rfl, rfl, rfl, by decide +kernel, rfl, by decide +kernel, by decide +kernel⟩
theorem ck126 : chkB Γ ⟨["frame", "many", "size"], defScope (top 12), fun _ => true⟩ F126.body (defBody (top 12)) = true := by decide +kernel
theorem sc127 : FnScope ["frame", "found", "size", "longer", "record", "number"] ["frame"] (defScope (top 13)) := ⟨rfl, rfl, rfl, by decide +kernel, rfl, by decide +kernel, by decide +kernel⟩
theorem ck127 : chkB Γ ⟨["frame", "found", "size", "longer", "record", "number"], defScope (top 13), fun _ => true⟩ F127.body (defBody (top 13)) = true := by decide +kernel
theorem sc247 : FnScope ["frame", "thing", "at"] ["frame", "thing"] (defScope (top 14)) := ⟨rfl, rfl, rfl, by decide +kernel, rfl, by decide +kernel, by decide +kernel⟩
theorem ck247 : chkB Γ ⟨["frame", "thing", "at"], defScope (top 14), fun _ => true⟩ F247.body (defBody (top 14)) = true := by decide +kernel
theorem sc248 : FnScope ["frame", "record"] ["frame", "record"] (defScope (top 15)) := ⟨rfl, rfl, rfl, by decide +kernel, rfl, by decide +kernel, by decide +kernel⟩
theorem ck248 : chkB Γ ⟨["frame", "record"], defScope (top 15), fun _ => true⟩ F248.body (defBody (top 15)) = true := by decide +kernel
theorem sc128 : FnScope ["frame", "record", "place", "at"] ["frame", "record"] (defScope (top 16)) := ⟨rfl, rfl, rfl, by decide +kernel, rfl, by decide +kernel, by decide +kernel⟩
theorem ck128 : chkB Γ ⟨["frame", "record", "place", "at"], defScope (top 16), fun _ => true⟩ F128.body (defBody (top 16)) = true := by decide +kernel
theorem sc261 : FnScope ["frame", "thing", "at"] ["frame", "thing"] (defScope (top 18)) := ⟨rfl, rfl, rfl, by decide +kernel, rfl, by decide +kernel, by decide +kernel⟩
theorem ck261 : chkB Γ ⟨["frame", "thing", "at"], defScope (top 18), fun _ => true⟩ F261.body (defBody (top 18)) = true := by decide +kernel
theorem sc262 : FnScope ["frame", "change", "records", "at"] ["frame", "change"] (defScope (top 19)) := ⟨rfl, rfl, rfl, by decide +kernel, rfl, by decide +kernel, by decide +kernel⟩
theorem ck262 : chkB Γ ⟨["frame", "change", "records", "at"], defScope (top 19), fun _ => true⟩ F262.body (defBody (top 19)) = true := by decide +kernel
theorem sc263 : FnScope ["frame", "thing"] ["frame", "thing"] (defScope (top 20)) := ⟨rfl, rfl, rfl, by decide +kernel, rfl, by decide +kernel, by decide +kernel⟩
theorem ck263 : chkB Γ ⟨["frame", "thing"], defScope (top 20), fun _ => true⟩ F263.body (defBody (top 20)) = true := by decide +kernel
theorem sc264 : FnScope ["frame", "change", "record"] ["frame", "change", "record"] (defScope (top 21)) := ⟨rfl, rfl, rfl, by decide +kernel, rfl, by decide +kernel, by decide +kernel⟩
theorem ck264 : chkB Γ ⟨["frame", "change", "record"], defScope (top 21), fun _ => true⟩ F264.body (defBody (top 21)) = true := by decide +kernel
theorem sc265 : FnScope ["frame", "change", "record"] ["frame", "change", "record"] (defScope (top 22)) := ⟨rfl, rfl, rfl, by decide +kernel, rfl, by decide +kernel, by decide +kernel⟩
theorem ck265 : chkB Γ ⟨["frame", "change", "record"], defScope (top 22), fun _ => true⟩ F265.body (defBody (top 22)) = true := by decide +kernel
theorem sc266 : FnScope ["frame"] ["frame"] (defScope (top 23)) := ⟨rfl, rfl, rfl, by decide +kernel, rfl, by decide +kernel, by decide +kernel⟩
theorem ck266 : chkB Γ ⟨["frame"], defScope (top 23), fun _ => true⟩ F266.body (defBody (top 23)) = true := by decide +kernel
theorem sc267 : FnScope ["script", "purse", "mill", "cell", "coin"] ["script"] (defScope (top 25)) := ⟨rfl, rfl, rfl, by decide +kernel, rfl, by decide +kernel, by decide +kernel⟩
theorem ck267 : chkB Γ ⟨["script", "purse", "mill", "cell", "coin"], defScope (top 25), fun _ => true⟩ F267.body (defBody (top 25)) = true := by decide +kernel
theorem sc268 : FnScope ["till", "place", "many", "worth"] ["till", "place", "many"] (defScope (top 26)) := ⟨rfl, rfl, rfl, by decide +kernel, rfl, by decide +kernel, by decide +kernel⟩
theorem ck268 : chkB Γ ⟨["till", "place", "many", "worth"], defScope (top 26), fun _ => true⟩ F268.body (defBody (top 26)) = true := by decide +kernel
theorem sc238 : FnScope ["due", "told", "k"] ["due", "told"] (defScope (top 27)) := ⟨rfl, rfl, rfl, by decide +kernel, rfl, by decide +kernel, by decide +kernel⟩
theorem ck238 : chkB Γ ⟨["due", "told", "k"], defScope (top 27), fun _ => true⟩ F238.body (defBody (top 27)) = true := by decide +kernel
theorem sc239 : FnScope ["till", "most", "fields", "form", "told", "room", "k", "turn", "top", "size"] ["till", "most"] (defScope (top 28)) := ⟨rfl, rfl, rfl, by decide +kernel, rfl, by decide +kernel, by decide +kernel⟩
theorem ck239 : chkB Γ ⟨["till", "most", "fields", "form", "told", "room", "k", "turn", "top", "size"], defScope (top 28), fun _ => true⟩ F239.body (defBody (top 28)) = true := by decide +kernel
theorem sc253 : FnScope ["till", "rows"] ["till"] (defScope (top 29)) := ⟨rfl, rfl, rfl, by decide +kernel, rfl, by decide +kernel, by decide +kernel⟩
theorem ck253 : chkB Γ ⟨["till", "rows"], defScope (top 29), fun _ => true⟩ F253.body (defBody (top 29)) = true := by decide +kernel
theorem sc240 : FnScope ["frame", "told", "size", "longer", "row", "number"] ["frame"] (defScope (top 30)) := ⟨rfl, rfl, rfl, by decide +kernel, rfl, by decide +kernel, by decide +kernel⟩
theorem ck240 : chkB Γ ⟨["frame", "told", "size", "longer", "row", "number"], defScope (top 30), fun _ => true⟩ F240.body (defBody (top 30)) = true := by decide +kernel
theorem sc254 : FnScope ["frame", "thing", "k"] ["frame", "thing"] (defScope (top 31)) := ⟨rfl, rfl, rfl, by decide +kernel, rfl, by decide +kernel, by decide +kernel⟩
theorem ck254 : chkB Γ ⟨["frame", "thing", "k"], defScope (top 31), fun _ => true⟩ F254.body (defBody (top 31)) = true := by decide +kernel
theorem sc255 : FnScope ["till", "frame", "record", "at", "told", "value"] ["till", "frame", "record"] (defScope (top 32)) := ⟨rfl, rfl, rfl, by decide +kernel, rfl, by decide +kernel, by decide +kernel⟩
theorem ck255 : chkB Γ ⟨["till", "frame", "record", "at", "told", "value"], defScope (top 32), fun _ => true⟩ F255.body (defBody (top 32)) = true := by decide +kernel
theorem sc269 : FnScope ["till", "frame", "records", "many", "kind", "spots", "turn", "one", "other", "mine", "k", "few", "rest"] ["till", "frame", "records"] (defScope (top 33)) := ⟨rfl, rfl, rfl, by decide +kernel, rfl, by decide +kernel, by decide +kernel⟩
theorem ck269 : chkB Γ ⟨["till", "frame", "records", "many", "kind", "spots", "turn", "one", "other", "mine", "k", "few", "rest"], defScope (top 33), fun _ => true⟩ F269.body (defBody (top 33)) = true := by decide +kernel
theorem sc270 : FnScope ["frame", "records", "thing", "at", "k"] ["frame", "records", "thing"] (defScope (top 34)) := ⟨rfl, rfl, rfl, by decide +kernel, rfl, by decide +kernel, by decide +kernel⟩
theorem ck270 : chkB Γ ⟨["frame", "records", "thing", "at", "k"], defScope (top 34), fun _ => true⟩ F270.body (defBody (top 34)) = true := by decide +kernel
theorem sc271 : FnScope ["frame", "thing", "error", "told"] ["frame", "thing"] (defScope (top 35)) := ⟨rfl, rfl, rfl, by decide +kernel, rfl, by decide +kernel, by decide +kernel⟩
theorem ck271 : chkB Γ ⟨["frame", "thing", "error", "told"], defScope (top 35), fun _ => true⟩ F271.body (defBody (top 35)) = true := by decide +kernel
theorem sc272 : FnScope ["frame", "change", "record", "error", "told"] ["frame", "change", "record"] (defScope (top 36)) := ⟨rfl, rfl, rfl, by decide +kernel, rfl, by decide +kernel, by decide +kernel⟩
theorem ck272 : chkB Γ ⟨["frame", "change", "record", "error", "told"], defScope (top 36), fun _ => true⟩ F272.body (defBody (top 36)) = true := by decide +kernel
theorem sc273 : FnScope ["frame", "records", "thing", "due"] ["frame", "records", "thing"] (defScope (top 37)) := ⟨rfl, rfl, rfl, by decide +kernel, rfl, by decide +kernel, by decide +kernel⟩
theorem ck273 : chkB Γ ⟨["frame", "records", "thing", "due"], defScope (top 37), fun _ => true⟩ F273.body (defBody (top 37)) = true := by decide +kernel
theorem sc274 : FnScope ["till", "frame", "change", "told", "at", "other", "things", "thing", "row"] ["till", "frame", "change"] (defScope (top 38)) := ⟨rfl, rfl, rfl, by decide +kernel, rfl, by decide +kernel, by decide +kernel⟩
theorem ck274 : chkB Γ ⟨["till", "frame", "change", "told", "at", "other", "things", "thing", "row"], defScope (top 38), fun _ => true⟩ F274.body (defBody (top 38)) = true := by decide +kernel
theorem sc275 : FnScope ["till", "frame", "records", "same", "lap", "turned", "change", "thing", "k", "record", "due"] ["till", "frame"] (defScope (top 39)) := ⟨rfl, rfl, rfl, by decide +kernel, rfl, by decide +kernel, by decide +kernel⟩
theorem ck275 : chkB Γ ⟨["till", "frame", "records", "same", "lap", "turned", "change", "thing", "k", "record", "due"], defScope (top 39), fun _ => true⟩ F275.body (defBody (top 39)) = true := by decide +kernel
theorem sc276 : FnScope ["script", "till", "great", "lap", "change", "told", "frame"] ["script"] (defScope (top 40)) := ⟨rfl, rfl, rfl, by decide +kernel, rfl, by decide +kernel, by decide +kernel⟩
theorem ck276 : chkB Γ ⟨["script", "till", "great", "lap", "change", "told", "frame"], defScope (top 40), fun _ => true⟩ F276.body (defBody (top 40)) = true := by decide +kernel
theorem si0 : FnScope ["self", "at", "word"] ["self", "at", "word"] (defScope (mthOf (top 4) 0)) := ⟨rfl, rfl, rfl, by decide +kernel, rfl, by decide +kernel, by decide +kernel⟩
theorem si4 : FnScope ["self", "word"] ["self", "word"] (defScope (mthOf (top 5) 0)) := ⟨rfl, rfl, rfl, by decide +kernel, rfl, by decide +kernel, by decide +kernel⟩
theorem mod_mk {P : Program} {w : World} {K : PySem.W.Frag} {h : Heap} {mg : Str → Option Value} (X : K.In h) (G : h.Ns mainGlobals mg)
    {f73 : Addr} {od73 an73 : Option Addr} {sl73 : Array (Option Value)} {oc73 kV73 dc73 pm73 cd73 ct73 : Value}
    (a73 : PySem.W.nsIn K mainGlobals "is_whole" = some (some (.ref f73))) (l73 : K.lookup f73 = some ⟨oc73, od73, .func (PySem.W.fnOf "is_whole" "is_whole" (defArgs (top 7)) (defBody (top 7)) (defScope (top 7)) .none kV73 dc73 pm73 an73 cd73 ct73), sl73⟩) (c73 : PySem.W.codeIn K cd73 "is_whole" = true) (k73 : PySem.W.keepIn K (.ref f73) = true)
    {f74 : Addr} {od74 an74 : Option Addr} {sl74 : Array (Option Value)} {oc74 kV74 dc74 pm74 cd74 ct74 : Value}
    (a74 : PySem.W.nsIn K mainGlobals "is_number" = some (some (.ref f74))) (l74 : K.lookup f74 = some ⟨oc74, od74, .func (PySem.W.fnOf "is_number" "is_number" (defArgs (top 8)) (defBody (top 8)) (defScope (top 8)) .none kV74 dc74 pm74 an74 cd74 ct74), sl74⟩) (c74 : PySem.W.codeIn K cd74 "is_number" = true) (k74 : PySem.W.keepIn K (.ref f74) = true)
    {f75 : Addr} {od75 an75 : Option Addr} {sl75 : Array (Option Value)} {oc75 kV75 dc75 pm75 cd75 ct75 : Value}
    (a75 : PySem.W.nsIn K mainGlobals "is_below" = some (some (.ref f75))) (l75 : K.lookup f75 = some ⟨oc75, od75, .func (PySem.W.fnOf "is_below" "is_below" (defArgs (top 9)) (defBody (top 9)) (defScope (top 9)) .none kV75 dc75 pm75 an75 cd75 ct75), sl75⟩) (c75 : PySem.W.codeIn K cd75 "is_below" = true) (k75 : PySem.W.keepIn K (.ref f75) = true)
    {f76 : Addr} {od76 an76 : Option Addr} {sl76 : Array (Option Value)} {oc76 kV76 dc76 pm76 cd76 ct76 : Value}
    (a76 : PySem.W.nsIn K mainGlobals "is_row" = some (some (.ref f76))) (l76 : K.lookup f76 = some ⟨oc76, od76, .func (PySem.W.fnOf "is_row" "is_row" (defArgs (top 10)) (defBody (top 10)) (defScope (top 10)) .none kV76 dc76 pm76 an76 cd76 ct76), sl76⟩) (c76 : PySem.W.codeIn K cd76 "is_row" = true) (k76 : PySem.W.keepIn K (.ref f76) = true)
    {f126 : Addr} {od126 an126 : Option Addr} {sl126 : Array (Option Value)} {oc126 kV126 dc126 pm126 cd126 ct126 : Value}
    (a126 : PySem.W.nsIn K mainGlobals "count_of" = some (some (.ref f126))) (l126 : K.lookup f126 = some ⟨oc126, od126, .func (PySem.W.fnOf "count_of" "count_of" (defArgs (top 12)) (defBody (top 12)) (defScope (top 12)) .none kV126 dc126 pm126 an126 cd126 ct126), sl126⟩) (c126 : PySem.W.codeIn K cd126 "count_of" = true) (k126 : PySem.W.keepIn K (.ref f126) = true)
    {f127 : Addr} {od127 an127 : Option Addr} {sl127 : Array (Option Value)} {oc127 kV127 dc127 pm127 cd127 ct127 : Value}
    (a127 : PySem.W.nsIn K mainGlobals "records_of" = some (some (.ref f127))) (l127 : K.lookup f127 = some ⟨oc127, od127, .func (PySem.W.fnOf "records_of" "records_of" (defArgs (top 13)) (defBody (top 13)) (defScope (top 13)) .none kV127 dc127 pm127 an127 cd127 ct127), sl127⟩) (c127 : PySem.W.codeIn K cd127 "records_of" = true) (k127 : PySem.W.keepIn K (.ref f127) = true)
    {f247 : Addr} {od247 an247 : Option Addr} {sl247 : Array (Option Value)} {oc247 kV247 dc247 pm247 cd247 ct247 : Value}
    (a247 : PySem.W.nsIn K mainGlobals "is_record" = some (some (.ref f247))) (l247 : K.lookup f247 = some ⟨oc247, od247, .func (PySem.W.fnOf "is_record" "is_record" (defArgs (top 14)) (defBody (top 14)) (defScope (top 14)) .none kV247 dc247 pm247 an247 cd247 ct247), sl247⟩) (c247 : PySem.W.codeIn K cd247 "is_record" = true) (k247 : PySem.W.keepIn K (.ref f247) = true)
    {f248 : Addr} {od248 an248 : Option Addr} {sl248 : Array (Option Value)} {oc248 kV248 dc248 pm248 cd248 ct248 : Value}
    (a248 : PySem.W.nsIn K mainGlobals "look_for_record" = some (some (.ref f248))) (l248 : K.lookup f248 = some ⟨oc248, od248, .func (PySem.W.fnOf "look_for_record" "look_for_record" (defArgs (top 15)) (defBody (top 15)) (defScope (top 15)) .none kV248 dc248 pm248 an248 cd248 ct248), sl248⟩) (c248 : PySem.W.codeIn K cd248 "look_for_record" = true) (k248 : PySem.W.keepIn K (.ref f248) = true)
    {f128 : Addr} {od128 an128 : Option Addr} {sl128 : Array (Option Value)} {oc128 kV128 dc128 pm128 cd128 ct128 : Value}
    (a128 : PySem.W.nsIn K mainGlobals "place_in" = some (some (.ref f128))) (l128 : K.lookup f128 = some ⟨oc128, od128, .func (PySem.W.fnOf "place_in" "place_in" (defArgs (top 16)) (defBody (top 16)) (defScope (top 16)) .none kV128 dc128 pm128 an128 cd128 ct128), sl128⟩) (c128 : PySem.W.codeIn K cd128 "place_in" = true) (k128 : PySem.W.keepIn K (.ref f128) = true)
    {f261 : Addr} {od261 an261 : Option Addr} {sl261 : Array (Option Value)} {oc261 kV261 dc261 pm261 cd261 ct261 : Value}
    (a261 : PySem.W.nsIn K mainGlobals "check_change" = some (some (.ref f261))) (l261 : K.lookup f261 = some ⟨oc261, od261, .func (PySem.W.fnOf "check_change" "check_change" (defArgs (top 18)) (defBody (top 18)) (defScope (top 18)) .none kV261 dc261 pm261 an261 cd261 ct261), sl261⟩) (c261 : PySem.W.codeIn K cd261 "check_change" = true) (k261 : PySem.W.keepIn K (.ref f261) = true)
    {f262 : Addr} {od262 an262 : Option Addr} {sl262 : Array (Option Value)} {oc262 kV262 dc262 pm262 cd262 ct262 : Value}
    (a262 : PySem.W.nsIn K mainGlobals "moved_count" = some (some (.ref f262))) (l262 : K.lookup f262 = some ⟨oc262, od262, .func (PySem.W.fnOf "moved_count" "moved_count" (defArgs (top 19)) (defBody (top 19)) (defScope (top 19)) .none kV262 dc262 pm262 an262 cd262 ct262), sl262⟩) (c262 : PySem.W.codeIn K cd262 "moved_count" = true) (k262 : PySem.W.keepIn K (.ref f262) = true)
    {f263 : Addr} {od263 an263 : Option Addr} {sl263 : Array (Option Value)} {oc263 kV263 dc263 pm263 cd263 ct263 : Value}
    (a263 : PySem.W.nsIn K mainGlobals "is_change" = some (some (.ref f263))) (l263 : K.lookup f263 = some ⟨oc263, od263, .func (PySem.W.fnOf "is_change" "is_change" (defArgs (top 20)) (defBody (top 20)) (defScope (top 20)) .none kV263 dc263 pm263 an263 cd263 ct263), sl263⟩) (c263 : PySem.W.codeIn K cd263 "is_change" = true) (k263 : PySem.W.keepIn K (.ref f263) = true)
    {f264 : Addr} {od264 an264 : Option Addr} {sl264 : Array (Option Value)} {oc264 kV264 dc264 pm264 cd264 ct264 : Value}
    (a264 : PySem.W.nsIn K mainGlobals "image" = some (some (.ref f264))) (l264 : K.lookup f264 = some ⟨oc264, od264, .func (PySem.W.fnOf "image" "image" (defArgs (top 21)) (defBody (top 21)) (defScope (top 21)) .none kV264 dc264 pm264 an264 cd264 ct264), sl264⟩) (c264 : PySem.W.codeIn K cd264 "image" = true) (k264 : PySem.W.keepIn K (.ref f264) = true)
    {f265 : Addr} {od265 an265 : Option Addr} {sl265 : Array (Option Value)} {oc265 kV265 dc265 pm265 cd265 ct265 : Value}
    (a265 : PySem.W.nsIn K mainGlobals "image_of" = some (some (.ref f265))) (l265 : K.lookup f265 = some ⟨oc265, od265, .func (PySem.W.fnOf "image_of" "image_of" (defArgs (top 22)) (defBody (top 22)) (defScope (top 22)) .none kV265 dc265 pm265 an265 cd265 ct265), sl265⟩) (c265 : PySem.W.codeIn K cd265 "image_of" = true) (k265 : PySem.W.keepIn K (.ref f265) = true)
    {f266 : Addr} {od266 an266 : Option Addr} {sl266 : Array (Option Value)} {oc266 kV266 dc266 pm266 cd266 ct266 : Value}
    (a266 : PySem.W.nsIn K mainGlobals "same_change" = some (some (.ref f266))) (l266 : K.lookup f266 = some ⟨oc266, od266, .func (PySem.W.fnOf "same_change" "same_change" (defArgs (top 23)) (defBody (top 23)) (defScope (top 23)) .none kV266 dc266 pm266 an266 cd266 ct266), sl266⟩) (c266 : PySem.W.codeIn K cd266 "same_change" = true) (k266 : PySem.W.keepIn K (.ref f266) = true)
    {f267 : Addr} {od267 an267 : Option Addr} {sl267 : Array (Option Value)} {oc267 kV267 dc267 pm267 cd267 ct267 : Value}
    (a267 : PySem.W.nsIn K mainGlobals "_law_till" = some (some (.ref f267))) (l267 : K.lookup f267 = some ⟨oc267, od267, .func (PySem.W.fnOf "_law_till" "_law_till" (defArgs (top 25)) (defBody (top 25)) (defScope (top 25)) .none kV267 dc267 pm267 an267 cd267 ct267), sl267⟩) (c267 : PySem.W.codeIn K cd267 "_law_till" = true) (k267 : PySem.W.keepIn K (.ref f267) = true)
    {f268 : Addr} {od268 an268 : Option Addr} {sl268 : Array (Option Value)} {oc268 kV268 dc268 pm268 cd268 ct268 : Value}
    (a268 : PySem.W.nsIn K mainGlobals "_law_coin" = some (some (.ref f268))) (l268 : K.lookup f268 = some ⟨oc268, od268, .func (PySem.W.fnOf "_law_coin" "_law_coin" (defArgs (top 26)) (defBody (top 26)) (defScope (top 26)) .none kV268 dc268 pm268 an268 cd268 ct268), sl268⟩) (c268 : PySem.W.codeIn K cd268 "_law_coin" = true) (k268 : PySem.W.keepIn K (.ref f268) = true)
    {f238 : Addr} {od238 an238 : Option Addr} {sl238 : Array (Option Value)} {oc238 kV238 dc238 pm238 cd238 ct238 : Value}
    (a238 : PySem.W.nsIn K mainGlobals "_law_same" = some (some (.ref f238))) (l238 : K.lookup f238 = some ⟨oc238, od238, .func (PySem.W.fnOf "_law_same" "_law_same" (defArgs (top 27)) (defBody (top 27)) (defScope (top 27)) .none kV238 dc238 pm238 an238 cd238 ct238), sl238⟩) (c238 : PySem.W.codeIn K cd238 "_law_same" = true) (k238 : PySem.W.keepIn K (.ref f238) = true)
    {f239 : Addr} {od239 an239 : Option Addr} {sl239 : Array (Option Value)} {oc239 kV239 dc239 pm239 cd239 ct239 : Value}
    (a239 : PySem.W.nsIn K mainGlobals "_law_frame" = some (some (.ref f239))) (l239 : K.lookup f239 = some ⟨oc239, od239, .func (PySem.W.fnOf "_law_frame" "_law_frame" (defArgs (top 28)) (defBody (top 28)) (defScope (top 28)) .none kV239 dc239 pm239 an239 cd239 ct239), sl239⟩) (c239 : PySem.W.codeIn K cd239 "_law_frame" = true) (k239 : PySem.W.keepIn K (.ref f239) = true)
    {f253 : Addr} {od253 an253 : Option Addr} {sl253 : Array (Option Value)} {oc253 kV253 dc253 pm253 cd253 ct253 : Value}
    (a253 : PySem.W.nsIn K mainGlobals "_law_great" = some (some (.ref f253))) (l253 : K.lookup f253 = some ⟨oc253, od253, .func (PySem.W.fnOf "_law_great" "_law_great" (defArgs (top 29)) (defBody (top 29)) (defScope (top 29)) .none kV253 dc253 pm253 an253 cd253 ct253), sl253⟩) (c253 : PySem.W.codeIn K cd253 "_law_great" = true) (k253 : PySem.W.keepIn K (.ref f253) = true)
    {f240 : Addr} {od240 an240 : Option Addr} {sl240 : Array (Option Value)} {oc240 kV240 dc240 pm240 cd240 ct240 : Value}
    (a240 : PySem.W.nsIn K mainGlobals "_law_records" = some (some (.ref f240))) (l240 : K.lookup f240 = some ⟨oc240, od240, .func (PySem.W.fnOf "_law_records" "_law_records" (defArgs (top 30)) (defBody (top 30)) (defScope (top 30)) .none kV240 dc240 pm240 an240 cd240 ct240), sl240⟩) (c240 : PySem.W.codeIn K cd240 "_law_records" = true) (k240 : PySem.W.keepIn K (.ref f240) = true)
    {f254 : Addr} {od254 an254 : Option Addr} {sl254 : Array (Option Value)} {oc254 kV254 dc254 pm254 cd254 ct254 : Value}
    (a254 : PySem.W.nsIn K mainGlobals "_law_is_record" = some (some (.ref f254))) (l254 : K.lookup f254 = some ⟨oc254, od254, .func (PySem.W.fnOf "_law_is_record" "_law_is_record" (defArgs (top 31)) (defBody (top 31)) (defScope (top 31)) .none kV254 dc254 pm254 an254 cd254 ct254), sl254⟩) (c254 : PySem.W.codeIn K cd254 "_law_is_record" = true) (k254 : PySem.W.keepIn K (.ref f254) = true)
    {f255 : Addr} {od255 an255 : Option Addr} {sl255 : Array (Option Value)} {oc255 kV255 dc255 pm255 cd255 ct255 : Value}
    (a255 : PySem.W.nsIn K mainGlobals "_law_no_records" = some (some (.ref f255))) (l255 : K.lookup f255 = some ⟨oc255, od255, .func (PySem.W.fnOf "_law_no_records" "_law_no_records" (defArgs (top 32)) (defBody (top 32)) (defScope (top 32)) .none kV255 dc255 pm255 an255 cd255 ct255), sl255⟩) (c255 : PySem.W.codeIn K cd255 "_law_no_records" = true) (k255 : PySem.W.keepIn K (.ref f255) = true)
    {f269 : Addr} {od269 an269 : Option Addr} {sl269 : Array (Option Value)} {oc269 kV269 dc269 pm269 cd269 ct269 : Value}
    (a269 : PySem.W.nsIn K mainGlobals "_law_change" = some (some (.ref f269))) (l269 : K.lookup f269 = some ⟨oc269, od269, .func (PySem.W.fnOf "_law_change" "_law_change" (defArgs (top 33)) (defBody (top 33)) (defScope (top 33)) .none kV269 dc269 pm269 an269 cd269 ct269), sl269⟩) (c269 : PySem.W.codeIn K cd269 "_law_change" = true) (k269 : PySem.W.keepIn K (.ref f269) = true)
    {f270 : Addr} {od270 an270 : Option Addr} {sl270 : Array (Option Value)} {oc270 kV270 dc270 pm270 cd270 ct270 : Value}
    (a270 : PySem.W.nsIn K mainGlobals "_law_fault" = some (some (.ref f270))) (l270 : K.lookup f270 = some ⟨oc270, od270, .func (PySem.W.fnOf "_law_fault" "_law_fault" (defArgs (top 34)) (defBody (top 34)) (defScope (top 34)) .none kV270 dc270 pm270 an270 cd270 ct270), sl270⟩) (c270 : PySem.W.codeIn K cd270 "_law_fault" = true) (k270 : PySem.W.keepIn K (.ref f270) = true)
    {f271 : Addr} {od271 an271 : Option Addr} {sl271 : Array (Option Value)} {oc271 kV271 dc271 pm271 cd271 ct271 : Value}
    (a271 : PySem.W.nsIn K mainGlobals "_law_heard" = some (some (.ref f271))) (l271 : K.lookup f271 = some ⟨oc271, od271, .func (PySem.W.fnOf "_law_heard" "_law_heard" (defArgs (top 35)) (defBody (top 35)) (defScope (top 35)) .none kV271 dc271 pm271 an271 cd271 ct271), sl271⟩) (c271 : PySem.W.codeIn K cd271 "_law_heard" = true) (k271 : PySem.W.keepIn K (.ref f271) = true)
    {f272 : Addr} {od272 an272 : Option Addr} {sl272 : Array (Option Value)} {oc272 kV272 dc272 pm272 cd272 ct272 : Value}
    (a272 : PySem.W.nsIn K mainGlobals "_law_image" = some (some (.ref f272))) (l272 : K.lookup f272 = some ⟨oc272, od272, .func (PySem.W.fnOf "_law_image" "_law_image" (defArgs (top 36)) (defBody (top 36)) (defScope (top 36)) .none kV272 dc272 pm272 an272 cd272 ct272), sl272⟩) (c272 : PySem.W.codeIn K cd272 "_law_image" = true) (k272 : PySem.W.keepIn K (.ref f272) = true)
    {f273 : Addr} {od273 an273 : Option Addr} {sl273 : Array (Option Value)} {oc273 kV273 dc273 pm273 cd273 ct273 : Value}
    (a273 : PySem.W.nsIn K mainGlobals "_law_asked" = some (some (.ref f273))) (l273 : K.lookup f273 = some ⟨oc273, od273, .func (PySem.W.fnOf "_law_asked" "_law_asked" (defArgs (top 37)) (defBody (top 37)) (defScope (top 37)) .none kV273 dc273 pm273 an273 cd273 ct273), sl273⟩) (c273 : PySem.W.codeIn K cd273 "_law_asked" = true) (k273 : PySem.W.keepIn K (.ref f273) = true)
    {f274 : Addr} {od274 an274 : Option Addr} {sl274 : Array (Option Value)} {oc274 kV274 dc274 pm274 cd274 ct274 : Value}
    (a274 : PySem.W.nsIn K mainGlobals "_law_bent" = some (some (.ref f274))) (l274 : K.lookup f274 = some ⟨oc274, od274, .func (PySem.W.fnOf "_law_bent" "_law_bent" (defArgs (top 38)) (defBody (top 38)) (defScope (top 38)) .none kV274 dc274 pm274 an274 cd274 ct274), sl274⟩) (c274 : PySem.W.codeIn K cd274 "_law_bent" = true) (k274 : PySem.W.keepIn K (.ref f274) = true)
    {f275 : Addr} {od275 an275 : Option Addr} {sl275 : Array (Option Value)} {oc275 kV275 dc275 pm275 cd275 ct275 : Value}
    (a275 : PySem.W.nsIn K mainGlobals "_law_frame_asked" = some (some (.ref f275))) (l275 : K.lookup f275 = some ⟨oc275, od275, .func (PySem.W.fnOf "_law_frame_asked" "_law_frame_asked" (defArgs (top 39)) (defBody (top 39)) (defScope (top 39)) .none kV275 dc275 pm275 an275 cd275 ct275), sl275⟩) (c275 : PySem.W.codeIn K cd275 "_law_frame_asked" = true) (k275 : PySem.W.keepIn K (.ref f275) = true)
    {f276 : Addr} {od276 an276 : Option Addr} {sl276 : Array (Option Value)} {oc276 kV276 dc276 pm276 cd276 ct276 : Value}
    (a276 : PySem.W.nsIn K mainGlobals "law" = some (some (.ref f276))) (l276 : K.lookup f276 = some ⟨oc276, od276, .func (PySem.W.fnOf "law" "law" (defArgs (top 40)) (defBody (top 40)) (defScope (top 40)) .none kV276 dc276 pm276 an276 cd276 ct276), sl276⟩) (c276 : PySem.W.codeIn K cd276 "law" = true) (k276 : PySem.W.keepIn K (.ref f276) = true)
    (z_abs : PySem.W.nsIn K mainGlobals "abs" = some none)
    (z_bool : PySem.W.nsIn K mainGlobals "bool" = some none)
    (z_int : PySem.W.nsIn K mainGlobals "int" = some none)
    (z_isinstance : PySem.W.nsIn K mainGlobals "isinstance" = some none)
    (z_len : PySem.W.nsIn K mainGlobals "len" = some none)
    (z_list : PySem.W.nsIn K mainGlobals "list" = some none)
    (z_min : PySem.W.nsIn K mainGlobals "min" = some none)
    (z_range : PySem.W.nsIn K mainGlobals "range" = some none)
    (z_str : PySem.W.nsIn K mainGlobals "str" = some none)
    (z_tuple : PySem.W.nsIn K mainGlobals "tuple" = some none)
    {C0 I0 : Addr} {nm0 q0 : Str} {N0 : Addr} {bs0 bm0 : List Value} {sn0 : _} {sub0 : _} {ab0 : _} {col0 : _} {dd0 : _} {m00 m10 m20 m30 m50 : _}
    (aC0 : PySem.W.nsIn K mainGlobals "BadChange" = some (some (.ref C0))) (xC0 : K.lookup C0 = some (excClassObj nm0 q0 C0 N0 bs0 bm0 true sn0 sub0 ab0 col0 dd0 m00 m10 m20 m30 m50 "ValueError.__new__")) (rV0 : PySem.HandSPX.refsVE bm0 = true)
    (sa0 : PySem.W.findIn K (.ref C0) "__setattr__" = some (some (.builtin "object.__setattr__"))) (ga0 : PySem.W.findIn K (.ref C0) "__getattribute__" = some (some (.builtin "BaseException.__getattribute__"))) (gg0 : PySem.W.findIn K (.ref C0) "__getattr__" = some none)
    (eC0 : PySem.W.subIn K (.ref C0) (.type "BaseException") = some true) (tC0 : PySem.W.typeIn K (.ref C0) = some (.type "type")) (kC0 : PySem.W.keepIn K (.ref C0) = true) (hC0 : PySem.W.hasDictIn K C0 = true)
    {iod0 ian0 : Option Addr} {isl0 : Array (Option Value)} {ioc0 ikV0 idc0 ipm0 icd0 ict0 : Value}
    (iC0 : PySem.W.findIn K (.ref C0) "__init__" = some (some (.ref I0))) (tI0 : PySem.W.typeIn K (.ref I0) = some (.type "function")) (lI0 : K.lookup I0 = some ⟨ioc0, iod0, .func (PySem.W.fnOf "__init__" "BadChange.__init__" (defArgs (mthOf (top 4) 0)) (defBody (mthOf (top 4) 0)) (defScope (mthOf (top 4) 0)) .none ikV0 idc0 ipm0 ian0 icd0 ict0), isl0⟩) (cI0 : PySem.W.codeIn K icd0 "BadChange.__init__" = true) (kI0 : PySem.W.keepIn K (.ref I0) = true)
    (n0_at : PySem.W.findIn K (.ref C0) "at" = some none)
    (n0_word : PySem.W.findIn K (.ref C0) "word" = some none)
    {C4 I4 : Addr} {nm4 q4 : Str} {N4 : Addr} {bs4 bm4 : List Value} {sn4 : _} {sub4 : _} {ab4 : _} {col4 : _} {dd4 : _} {m04 m14 m24 m34 m54 : _}
    (aC4 : PySem.W.nsIn K mainGlobals "BadStep" = some (some (.ref C4))) (xC4 : K.lookup C4 = some (excClassObj nm4 q4 C4 N4 bs4 bm4 true sn4 sub4 ab4 col4 dd4 m04 m14 m24 m34 m54 "ValueError.__new__")) (rV4 : PySem.HandSPX.refsVE bm4 = true)
    (sa4 : PySem.W.findIn K (.ref C4) "__setattr__" = some (some (.builtin "object.__setattr__"))) (ga4 : PySem.W.findIn K (.ref C4) "__getattribute__" = some (some (.builtin "BaseException.__getattribute__"))) (gg4 : PySem.W.findIn K (.ref C4) "__getattr__" = some none)
    (eC4 : PySem.W.subIn K (.ref C4) (.type "BaseException") = some true) (tC4 : PySem.W.typeIn K (.ref C4) = some (.type "type")) (kC4 : PySem.W.keepIn K (.ref C4) = true) (hC4 : PySem.W.hasDictIn K C4 = true)
    {iod4 ian4 : Option Addr} {isl4 : Array (Option Value)} {ioc4 ikV4 idc4 ipm4 icd4 ict4 : Value}
    (iC4 : PySem.W.findIn K (.ref C4) "__init__" = some (some (.ref I4))) (tI4 : PySem.W.typeIn K (.ref I4) = some (.type "function")) (lI4 : K.lookup I4 = some ⟨ioc4, iod4, .func (PySem.W.fnOf "__init__" "BadStep.__init__" (defArgs (mthOf (top 5) 0)) (defBody (mthOf (top 5) 0)) (defScope (mthOf (top 5) 0)) .none ikV4 idc4 ipm4 ian4 icd4 ict4), isl4⟩) (cI4 : PySem.W.codeIn K icd4 "BadStep.__init__" = true) (kI4 : PySem.W.keepIn K (.ref I4) = true)
    (n4_word : PySem.W.findIn K (.ref C4) "word" = some none)
    (em0_0 : PySem.W.exmOne K (.ref C0) (.ref C0) = some true)
    (em4_0 : PySem.W.exmOne K (.ref C4) (.ref C0) = some false)
    (em0_4 : PySem.W.exmOne K (.ref C0) (.ref C4) = some false)
    (em4_4 : PySem.W.exmOne K (.ref C4) (.ref C4) = some true)
    (hplain : ∀ ns : List Int, ns.length ≤ 63 → ∃ μ', Mi.run Lw.tb 21 276 [.scr ns] [] = .ok (.bl true) μ') {fa : Addr} (hfa : mg "law" = some (.ref fa)) :
    ∃ fd : FuncData, (∀ (s : Shared) (v : Value), BindsTo s fd ⟨[v], []⟩ [("script", v)]) ∧ ∀ base : Heap, K.In base → base.Ns mainGlobals mg → FnOk P w K mg base (L2.CX P w) 24 fa fd ["script"] (spL K) := by
  have e := hfa.symm.trans (PySem.W.mg_of X G a276)
  cases e
  have U73 := fun_mk (st := top 7) (x := "is_whole") (qual := "is_whole") l73 c73 k73
  have D73 : DefOk Γ K mg "is_whole" 1 F73 f73 _ ["thing"] ["thing"] "is_whole" (top 7) := ⟨PySem.W.mg_of X G a73, U73, U73.binds fun _ _ _ _ _ _ us hl => match us, hl with | [_], _ => rfl, sc73, rfl, rfl, rfl, ck73⟩
  have K73 : ∀ ks perm, (73, ks, perm) ∈ Γ.kws → KBinds K (PySem.W.fnOf "is_whole" "is_whole" (defArgs (top 7)) (defBody (top 7)) (defScope (top 7)) .none kV73 dc73 pm73 an73 cd73 ct73) ["thing"] ks (gK ks.length perm) (gK ks.length perm) := kws_of (l := []) (Pr := fun ks perm => KBinds K _ _ ks (gK ks.length perm) (gK ks.length perm)) (by decide +kernel) all_nil
  have U74 := fun_mk (st := top 8) (x := "is_number") (qual := "is_number") l74 c74 k74
  have D74 : DefOk Γ K mg "is_number" 1 F74 f74 _ ["thing"] ["thing"] "is_number" (top 8) := ⟨PySem.W.mg_of X G a74, U74, U74.binds fun _ _ _ _ _ _ us hl => match us, hl with | [_], _ => rfl, sc74, rfl, rfl, rfl, ck74⟩
  have K74 : ∀ ks perm, (74, ks, perm) ∈ Γ.kws → KBinds K (PySem.W.fnOf "is_number" "is_number" (defArgs (top 8)) (defBody (top 8)) (defScope (top 8)) .none kV74 dc74 pm74 an74 cd74 ct74) ["thing"] ks (gK ks.length perm) (gK ks.length perm) := kws_of (l := []) (Pr := fun ks perm => KBinds K _ _ ks (gK ks.length perm) (gK ks.length perm)) (by decide +kernel) all_nil
  have U75 := fun_mk (st := top 9) (x := "is_below") (qual := "is_below") l75 c75 k75
  have D75 : DefOk Γ K mg "is_below" 2 F75 f75 _ ["thing", "most"] ["thing", "most"] "is_below" (top 9) := ⟨PySem.W.mg_of X G a75, U75, U75.binds fun _ _ _ _ _ _ us hl => match us, hl with | [_, _], _ => rfl, sc75, rfl, rfl, rfl, ck75⟩
  have K75 : ∀ ks perm, (75, ks, perm) ∈ Γ.kws → KBinds K (PySem.W.fnOf "is_below" "is_below" (defArgs (top 9)) (defBody (top 9)) (defScope (top 9)) .none kV75 dc75 pm75 an75 cd75 ct75) ["thing", "most"] ks (gK ks.length perm) (gK ks.length perm) := kws_of (l := []) (Pr := fun ks perm => KBinds K _ _ ks (gK ks.length perm) (gK ks.length perm)) (by decide +kernel) all_nil
  have U76 := fun_mk (st := top 10) (x := "is_row") (qual := "is_row") l76 c76 k76
  have D76 : DefOk Γ K mg "is_row" 2 F76 f76 _ ["thing", "many"] ["thing", "many"] "is_row" (top 10) := ⟨PySem.W.mg_of X G a76, U76, U76.binds fun _ _ _ _ _ _ us hl => match us, hl with | [_, _], _ => rfl, sc76, rfl, rfl, rfl, ck76⟩
  have K76 : ∀ ks perm, (76, ks, perm) ∈ Γ.kws → KBinds K (PySem.W.fnOf "is_row" "is_row" (defArgs (top 10)) (defBody (top 10)) (defScope (top 10)) .none kV76 dc76 pm76 an76 cd76 ct76) ["thing", "many"] ks (gK ks.length perm) (gK ks.length perm) := kws_of (l := []) (Pr := fun ks perm => KBinds K _ _ ks (gK ks.length perm) (gK ks.length perm)) (by decide +kernel) all_nil
  have U126 := fun_mk (st := top 12) (x := "count_of") (qual := "count_of") l126 c126 k126
  have D126 : DefOk Γ K mg "count_of" 1 F126 f126 _ ["frame"] ["frame", "many", "size"] "count_of" (top 12) := ⟨PySem.W.mg_of X G a126, U126, U126.binds fun _ _ _ _ _ _ us hl => match us, hl with | [_], _ => rfl, sc126, rfl, rfl, rfl, ck126⟩
  have K126 : ∀ ks perm, (126, ks, perm) ∈ Γ.kws → KBinds K (PySem.W.fnOf "count_of" "count_of" (defArgs (top 12)) (defBody (top 12)) (defScope (top 12)) .none kV126 dc126 pm126 an126 cd126 ct126) ["frame"] ks (gK ks.length perm) (gK ks.length perm) := kws_of (l := []) (Pr := fun ks perm => KBinds K _ _ ks (gK ks.length perm) (gK ks.length perm)) (by decide +kernel) all_nil
  have U127 := fun_mk (st := top 13) (x := "records_of") (qual := "records_of") l127 c127 k127
  have D127 : DefOk Γ K mg "records_of" 1 F127 f127 _ ["frame"] ["frame", "found", "size", "longer", "record", "number"] "records_of" (top 13) := ⟨PySem.W.mg_of X G a127, U127, U127.binds fun _ _ _ _ _ _ us hl => match us, hl with | [_], _ => rfl, sc127, rfl, rfl, rfl, ck127⟩
  have K127 : ∀ ks perm, (127, ks, perm) ∈ Γ.kws → KBinds K (PySem.W.fnOf "records_of" "records_of" (defArgs (top 13)) (defBody (top 13)) (defScope (top 13)) .none kV127 dc127 pm127 an127 cd127 ct127) ["frame"] ks (gK ks.length perm) (gK ks.length perm) := kws_of (l := []) (Pr := fun ks perm => KBinds K _ _ ks (gK ks.length perm) (gK ks.length perm)) (by decide +kernel) all_nil
  have U247 := fun_mk (st := top 14) (x := "is_record") (qual := "is_record") l247 c247 k247
  have D247 : DefOk Γ K mg "is_record" 2 F247 f247 _ ["frame", "thing"] ["frame", "thing", "at"] "is_record" (top 14) := ⟨PySem.W.mg_of X G a247, U247, U247.binds fun _ _ _ _ _ _ us hl => match us, hl with | [_, _], _ => rfl, sc247, rfl, rfl, rfl, ck247⟩
  have K247 : ∀ ks perm, (247, ks, perm) ∈ Γ.kws → KBinds K (PySem.W.fnOf "is_record" "is_record" (defArgs (top 14)) (defBody (top 14)) (defScope (top 14)) .none kV247 dc247 pm247 an247 cd247 ct247) ["frame", "thing"] ks (gK ks.length perm) (gK ks.length perm) := kws_of (l := []) (Pr := fun ks perm => KBinds K _ _ ks (gK ks.length perm) (gK ks.length perm)) (by decide +kernel) all_nil
  have U248 := fun_mk (st := top 15) (x := "look_for_record") (qual := "look_for_record") l248 c248 k248
  have D248 : DefOk Γ K mg "look_for_record" 2 F248 f248 _ ["frame", "record"] ["frame", "record"] "look_for_record" (top 15) := ⟨PySem.W.mg_of X G a248, U248, U248.binds fun _ _ _ _ _ _ us hl => match us, hl with | [_, _], _ => rfl, sc248, rfl, rfl, rfl, ck248⟩
  have K248 : ∀ ks perm, (248, ks, perm) ∈ Γ.kws → KBinds K (PySem.W.fnOf "look_for_record" "look_for_record" (defArgs (top 15)) (defBody (top 15)) (defScope (top 15)) .none kV248 dc248 pm248 an248 cd248 ct248) ["frame", "record"] ks (gK ks.length perm) (gK ks.length perm) := kws_of (l := []) (Pr := fun ks perm => KBinds K _ _ ks (gK ks.length perm) (gK ks.length perm)) (by decide +kernel) all_nil
  have U128 := fun_mk (st := top 16) (x := "place_in") (qual := "place_in") l128 c128 k128
  have D128 : DefOk Γ K mg "place_in" 2 F128 f128 _ ["frame", "record"] ["frame", "record", "place", "at"] "place_in" (top 16) := ⟨PySem.W.mg_of X G a128, U128, U128.binds fun _ _ _ _ _ _ us hl => match us, hl with | [_, _], _ => rfl, sc128, rfl, rfl, rfl, ck128⟩
  have K128 : ∀ ks perm, (128, ks, perm) ∈ Γ.kws → KBinds K (PySem.W.fnOf "place_in" "place_in" (defArgs (top 16)) (defBody (top 16)) (defScope (top 16)) .none kV128 dc128 pm128 an128 cd128 ct128) ["frame", "record"] ks (gK ks.length perm) (gK ks.length perm) := kws_of (l := []) (Pr := fun ks perm => KBinds K _ _ ks (gK ks.length perm) (gK ks.length perm)) (by decide +kernel) all_nil
  have U261 := fun_mk (st := top 18) (x := "check_change") (qual := "check_change") l261 c261 k261
  have D261 : DefOk Γ K mg "check_change" 2 F261 f261 _ ["frame", "thing"] ["frame", "thing", "at"] "check_change" (top 18) := ⟨PySem.W.mg_of X G a261, U261, U261.binds fun _ _ _ _ _ _ us hl => match us, hl with | [_, _], _ => rfl, sc261, rfl, rfl, rfl, ck261⟩
  have K261 : ∀ ks perm, (261, ks, perm) ∈ Γ.kws → KBinds K (PySem.W.fnOf "check_change" "check_change" (defArgs (top 18)) (defBody (top 18)) (defScope (top 18)) .none kV261 dc261 pm261 an261 cd261 ct261) ["frame", "thing"] ks (gK ks.length perm) (gK ks.length perm) := kws_of (l := []) (Pr := fun ks perm => KBinds K _ _ ks (gK ks.length perm) (gK ks.length perm)) (by decide +kernel) all_nil
  have U262 := fun_mk (st := top 19) (x := "moved_count") (qual := "moved_count") l262 c262 k262
  have D262 : DefOk Γ K mg "moved_count" 2 F262 f262 _ ["frame", "change"] ["frame", "change", "records", "at"] "moved_count" (top 19) := ⟨PySem.W.mg_of X G a262, U262, U262.binds fun _ _ _ _ _ _ us hl => match us, hl with | [_, _], _ => rfl, sc262, rfl, rfl, rfl, ck262⟩
  have K262 : ∀ ks perm, (262, ks, perm) ∈ Γ.kws → KBinds K (PySem.W.fnOf "moved_count" "moved_count" (defArgs (top 19)) (defBody (top 19)) (defScope (top 19)) .none kV262 dc262 pm262 an262 cd262 ct262) ["frame", "change"] ks (gK ks.length perm) (gK ks.length perm) := kws_of (l := []) (Pr := fun ks perm => KBinds K _ _ ks (gK ks.length perm) (gK ks.length perm)) (by decide +kernel) all_nil
  have U263 := fun_mk (st := top 20) (x := "is_change") (qual := "is_change") l263 c263 k263
  have D263 : DefOk Γ K mg "is_change" 2 F263 f263 _ ["frame", "thing"] ["frame", "thing"] "is_change" (top 20) := ⟨PySem.W.mg_of X G a263, U263, U263.binds fun _ _ _ _ _ _ us hl => match us, hl with | [_, _], _ => rfl, sc263, rfl, rfl, rfl, ck263⟩
  have K263 : ∀ ks perm, (263, ks, perm) ∈ Γ.kws → KBinds K (PySem.W.fnOf "is_change" "is_change" (defArgs (top 20)) (defBody (top 20)) (defScope (top 20)) .none kV263 dc263 pm263 an263 cd263 ct263) ["frame", "thing"] ks (gK ks.length perm) (gK ks.length perm) := kws_of (l := []) (Pr := fun ks perm => KBinds K _ _ ks (gK ks.length perm) (gK ks.length perm)) (by decide +kernel) all_nil
  have U264 := fun_mk (st := top 21) (x := "image") (qual := "image") l264 c264 k264
  have D264 : DefOk Γ K mg "image" 3 F264 f264 _ ["frame", "change", "record"] ["frame", "change", "record"] "image" (top 21) := ⟨PySem.W.mg_of X G a264, U264, U264.binds fun _ _ _ _ _ _ us hl => match us, hl with | [_, _, _], _ => rfl, sc264, rfl, rfl, rfl, ck264⟩
  have K264 : ∀ ks perm, (264, ks, perm) ∈ Γ.kws → KBinds K (PySem.W.fnOf "image" "image" (defArgs (top 21)) (defBody (top 21)) (defScope (top 21)) .none kV264 dc264 pm264 an264 cd264 ct264) ["frame", "change", "record"] ks (gK ks.length perm) (gK ks.length perm) := kws_of (l := []) (Pr := fun ks perm => KBinds K _ _ ks (gK ks.length perm) (gK ks.length perm)) (by decide +kernel) all_nil
  have U265 := fun_mk (st := top 22) (x := "image_of") (qual := "image_of") l265 c265 k265
  have D265 : DefOk Γ K mg "image_of" 3 F265 f265 _ ["frame", "change", "record"] ["frame", "change", "record"] "image_of" (top 22) := ⟨PySem.W.mg_of X G a265, U265, U265.binds fun _ _ _ _ _ _ us hl => match us, hl with | [_, _, _], _ => rfl, sc265, rfl, rfl, rfl, ck265⟩
  have K265 : ∀ ks perm, (265, ks, perm) ∈ Γ.kws → KBinds K (PySem.W.fnOf "image_of" "image_of" (defArgs (top 22)) (defBody (top 22)) (defScope (top 22)) .none kV265 dc265 pm265 an265 cd265 ct265) ["frame", "change", "record"] ks (gK ks.length perm) (gK ks.length perm) := kws_of (l := [(["frame", "change", "record"], [0, 1, 2])]) (Pr := fun ks perm => KBinds K _ _ ks (gK ks.length perm) (gK ks.length perm)) (by decide +kernel) (all_two ⟨fun s us ws _ hl => match us, ws, gK_len hl with | [], [_, _, _], _ => .of_eq rfl, gK_rel⟩ all_nil)
  have U266 := fun_mk (st := top 23) (x := "same_change") (qual := "same_change") l266 c266 k266
  have D266 : DefOk Γ K mg "same_change" 1 F266 f266 _ ["frame"] ["frame"] "same_change" (top 23) := ⟨PySem.W.mg_of X G a266, U266, U266.binds fun _ _ _ _ _ _ us hl => match us, hl with | [_], _ => rfl, sc266, rfl, rfl, rfl, ck266⟩
  have K266 : ∀ ks perm, (266, ks, perm) ∈ Γ.kws → KBinds K (PySem.W.fnOf "same_change" "same_change" (defArgs (top 23)) (defBody (top 23)) (defScope (top 23)) .none kV266 dc266 pm266 an266 cd266 ct266) ["frame"] ks (gK ks.length perm) (gK ks.length perm) := kws_of (l := []) (Pr := fun ks perm => KBinds K _ _ ks (gK ks.length perm) (gK ks.length perm)) (by decide +kernel) all_nil
  have U267 := fun_mk (st := top 25) (x := "_law_till") (qual := "_law_till") l267 c267 k267
  have D267 : DefOk Γ K mg "_law_till" 1 F267 f267 _ ["script"] ["script", "purse", "mill", "cell", "coin"] "_law_till" (top 25) := ⟨PySem.W.mg_of X G a267, U267, U267.binds fun _ _ _ _ _ _ us hl => match us, hl with | [_], _ => rfl, sc267, rfl, rfl, rfl, ck267⟩
  have K267 : ∀ ks perm, (267, ks, perm) ∈ Γ.kws → KBinds K (PySem.W.fnOf "_law_till" "_law_till" (defArgs (top 25)) (defBody (top 25)) (defScope (top 25)) .none kV267 dc267 pm267 an267 cd267 ct267) ["script"] ks (gK ks.length perm) (gK ks.length perm) := kws_of (l := []) (Pr := fun ks perm => KBinds K _ _ ks (gK ks.length perm) (gK ks.length perm)) (by decide +kernel) all_nil
  have U268 := fun_mk (st := top 26) (x := "_law_coin") (qual := "_law_coin") l268 c268 k268
  have D268 : DefOk Γ K mg "_law_coin" 3 F268 f268 _ ["till", "place", "many"] ["till", "place", "many", "worth"] "_law_coin" (top 26) := ⟨PySem.W.mg_of X G a268, U268, U268.binds fun _ _ _ _ _ _ us hl => match us, hl with | [_, _, _], _ => rfl, sc268, rfl, rfl, rfl, ck268⟩
  have K268 : ∀ ks perm, (268, ks, perm) ∈ Γ.kws → KBinds K (PySem.W.fnOf "_law_coin" "_law_coin" (defArgs (top 26)) (defBody (top 26)) (defScope (top 26)) .none kV268 dc268 pm268 an268 cd268 ct268) ["till", "place", "many"] ks (gK ks.length perm) (gK ks.length perm) := kws_of (l := []) (Pr := fun ks perm => KBinds K _ _ ks (gK ks.length perm) (gK ks.length perm)) (by decide +kernel) all_nil
  have U238 := fun_mk (st := top 27) (x := "_law_same") (qual := "_law_same") l238 c238 k238
  have D238 : DefOk Γ K mg "_law_same" 2 F238 f238 _ ["due", "told"] ["due", "told", "k"] "_law_same" (top 27) := ⟨PySem.W.mg_of X G a238, U238, U238.binds fun _ _ _ _ _ _ us hl => match us, hl with | [_, _], _ => rfl, sc238, rfl, rfl, rfl, ck238⟩
  have K238 : ∀ ks perm, (238, ks, perm) ∈ Γ.kws → KBinds K (PySem.W.fnOf "_law_same" "_law_same" (defArgs (top 27)) (defBody (top 27)) (defScope (top 27)) .none kV238 dc238 pm238 an238 cd238 ct238) ["due", "told"] ks (gK ks.length perm) (gK ks.length perm) := kws_of (l := []) (Pr := fun ks perm => KBinds K _ _ ks (gK ks.length perm) (gK ks.length perm)) (by decide +kernel) all_nil
  have U239 := fun_mk (st := top 28) (x := "_law_frame") (qual := "_law_frame") l239 c239 k239
  have D239 : DefOk Γ K mg "_law_frame" 2 F239 f239 _ ["till", "most"] ["till", "most", "fields", "form", "told", "room", "k", "turn", "top", "size"] "_law_frame" (top 28) := ⟨PySem.W.mg_of X G a239, U239, U239.binds fun _ _ _ _ _ _ us hl => match us, hl with | [_, _], _ => rfl, sc239, rfl, rfl, rfl, ck239⟩
  have K239 : ∀ ks perm, (239, ks, perm) ∈ Γ.kws → KBinds K (PySem.W.fnOf "_law_frame" "_law_frame" (defArgs (top 28)) (defBody (top 28)) (defScope (top 28)) .none kV239 dc239 pm239 an239 cd239 ct239) ["till", "most"] ks (gK ks.length perm) (gK ks.length perm) := kws_of (l := []) (Pr := fun ks perm => KBinds K _ _ ks (gK ks.length perm) (gK ks.length perm)) (by decide +kernel) all_nil
  have U253 := fun_mk (st := top 29) (x := "_law_great") (qual := "_law_great") l253 c253 k253
  have D253 : DefOk Γ K mg "_law_great" 1 F253 f253 _ ["till"] ["till", "rows"] "_law_great" (top 29) := ⟨PySem.W.mg_of X G a253, U253, U253.binds fun _ _ _ _ _ _ us hl => match us, hl with | [_], _ => rfl, sc253, rfl, rfl, rfl, ck253⟩
  have K253 : ∀ ks perm, (253, ks, perm) ∈ Γ.kws → KBinds K (PySem.W.fnOf "_law_great" "_law_great" (defArgs (top 29)) (defBody (top 29)) (defScope (top 29)) .none kV253 dc253 pm253 an253 cd253 ct253) ["till"] ks (gK ks.length perm) (gK ks.length perm) := kws_of (l := []) (Pr := fun ks perm => KBinds K _ _ ks (gK ks.length perm) (gK ks.length perm)) (by decide +kernel) all_nil
  have U240 := fun_mk (st := top 30) (x := "_law_records") (qual := "_law_records") l240 c240 k240
  have D240 : DefOk Γ K mg "_law_records" 1 F240 f240 _ ["frame"] ["frame", "told", "size", "longer", "row", "number"] "_law_records" (top 30) := ⟨PySem.W.mg_of X G a240, U240, U240.binds fun _ _ _ _ _ _ us hl => match us, hl with | [_], _ => rfl, sc240, rfl, rfl, rfl, ck240⟩
  have K240 : ∀ ks perm, (240, ks, perm) ∈ Γ.kws → KBinds K (PySem.W.fnOf "_law_records" "_law_records" (defArgs (top 30)) (defBody (top 30)) (defScope (top 30)) .none kV240 dc240 pm240 an240 cd240 ct240) ["frame"] ks (gK ks.length perm) (gK ks.length perm) := kws_of (l := []) (Pr := fun ks perm => KBinds K _ _ ks (gK ks.length perm) (gK ks.length perm)) (by decide +kernel) all_nil
  have U254 := fun_mk (st := top 31) (x := "_law_is_record") (qual := "_law_is_record") l254 c254 k254
  have D254 : DefOk Γ K mg "_law_is_record" 2 F254 f254 _ ["frame", "thing"] ["frame", "thing", "k"] "_law_is_record" (top 31) := ⟨PySem.W.mg_of X G a254, U254, U254.binds fun _ _ _ _ _ _ us hl => match us, hl with | [_, _], _ => rfl, sc254, rfl, rfl, rfl, ck254⟩
  have K254 : ∀ ks perm, (254, ks, perm) ∈ Γ.kws → KBinds K (PySem.W.fnOf "_law_is_record" "_law_is_record" (defArgs (top 31)) (defBody (top 31)) (defScope (top 31)) .none kV254 dc254 pm254 an254 cd254 ct254) ["frame", "thing"] ks (gK ks.length perm) (gK ks.length perm) := kws_of (l := []) (Pr := fun ks perm => KBinds K _ _ ks (gK ks.length perm) (gK ks.length perm)) (by decide +kernel) all_nil
  have U255 := fun_mk (st := top 32) (x := "_law_no_records") (qual := "_law_no_records") l255 c255 k255
  have D255 : DefOk Γ K mg "_law_no_records" 3 F255 f255 _ ["till", "frame", "record"] ["till", "frame", "record", "at", "told", "value"] "_law_no_records" (top 32) := ⟨PySem.W.mg_of X G a255, U255, U255.binds fun _ _ _ _ _ _ us hl => match us, hl with | [_, _, _], _ => rfl, sc255, rfl, rfl, rfl, ck255⟩
  have K255 : ∀ ks perm, (255, ks, perm) ∈ Γ.kws → KBinds K (PySem.W.fnOf "_law_no_records" "_law_no_records" (defArgs (top 32)) (defBody (top 32)) (defScope (top 32)) .none kV255 dc255 pm255 an255 cd255 ct255) ["till", "frame", "record"] ks (gK ks.length perm) (gK ks.length perm) := kws_of (l := []) (Pr := fun ks perm => KBinds K _ _ ks (gK ks.length perm) (gK ks.length perm)) (by decide +kernel) all_nil
  have U269 := fun_mk (st := top 33) (x := "_law_change") (qual := "_law_change") l269 c269 k269
  have D269 : DefOk Γ K mg "_law_change" 3 F269 f269 _ ["till", "frame", "records"] ["till", "frame", "records", "many", "kind", "spots", "turn", "one", "other", "mine", "k", "few", "rest"] "_law_change" (top 33) := ⟨PySem.W.mg_of X G a269, U269, U269.binds fun _ _ _ _ _ _ us hl => match us, hl with | [_, _, _], _ => rfl, sc269, rfl, rfl, rfl, ck269⟩
  have K269 : ∀ ks perm, (269, ks, perm) ∈ Γ.kws → KBinds K (PySem.W.fnOf "_law_change" "_law_change" (defArgs (top 33)) (defBody (top 33)) (defScope (top 33)) .none kV269 dc269 pm269 an269 cd269 ct269) ["till", "frame", "records"] ks (gK ks.length perm) (gK ks.length perm) := kws_of (l := []) (Pr := fun ks perm => KBinds K _ _ ks (gK ks.length perm) (gK ks.length perm)) (by decide +kernel) all_nil
  have U270 := fun_mk (st := top 34) (x := "_law_fault") (qual := "_law_fault") l270 c270 k270
  have D270 : DefOk Γ K mg "_law_fault" 3 F270 f270 _ ["frame", "records", "thing"] ["frame", "records", "thing", "at", "k"] "_law_fault" (top 34) := ⟨PySem.W.mg_of X G a270, U270, U270.binds fun _ _ _ _ _ _ us hl => match us, hl with | [_, _, _], _ => rfl, sc270, rfl, rfl, rfl, ck270⟩
  have K270 : ∀ ks perm, (270, ks, perm) ∈ Γ.kws → KBinds K (PySem.W.fnOf "_law_fault" "_law_fault" (defArgs (top 34)) (defBody (top 34)) (defScope (top 34)) .none kV270 dc270 pm270 an270 cd270 ct270) ["frame", "records", "thing"] ks (gK ks.length perm) (gK ks.length perm) := kws_of (l := []) (Pr := fun ks perm => KBinds K _ _ ks (gK ks.length perm) (gK ks.length perm)) (by decide +kernel) all_nil
  have U271 := fun_mk (st := top 35) (x := "_law_heard") (qual := "_law_heard") l271 c271 k271
  have D271 : DefOk Γ K mg "_law_heard" 2 F271 f271 _ ["frame", "thing"] ["frame", "thing", "error", "told"] "_law_heard" (top 35) := ⟨PySem.W.mg_of X G a271, U271, U271.binds fun _ _ _ _ _ _ us hl => match us, hl with | [_, _], _ => rfl, sc271, rfl, rfl, rfl, ck271⟩
  have K271 : ∀ ks perm, (271, ks, perm) ∈ Γ.kws → KBinds K (PySem.W.fnOf "_law_heard" "_law_heard" (defArgs (top 35)) (defBody (top 35)) (defScope (top 35)) .none kV271 dc271 pm271 an271 cd271 ct271) ["frame", "thing"] ks (gK ks.length perm) (gK ks.length perm) := kws_of (l := []) (Pr := fun ks perm => KBinds K _ _ ks (gK ks.length perm) (gK ks.length perm)) (by decide +kernel) all_nil
  have U272 := fun_mk (st := top 36) (x := "_law_image") (qual := "_law_image") l272 c272 k272
  have D272 : DefOk Γ K mg "_law_image" 3 F272 f272 _ ["frame", "change", "record"] ["frame", "change", "record", "error", "told"] "_law_image" (top 36) := ⟨PySem.W.mg_of X G a272, U272, U272.binds fun _ _ _ _ _ _ us hl => match us, hl with | [_, _, _], _ => rfl, sc272, rfl, rfl, rfl, ck272⟩
  have K272 : ∀ ks perm, (272, ks, perm) ∈ Γ.kws → KBinds K (PySem.W.fnOf "_law_image" "_law_image" (defArgs (top 36)) (defBody (top 36)) (defScope (top 36)) .none kV272 dc272 pm272 an272 cd272 ct272) ["frame", "change", "record"] ks (gK ks.length perm) (gK ks.length perm) := kws_of (l := []) (Pr := fun ks perm => KBinds K _ _ ks (gK ks.length perm) (gK ks.length perm)) (by decide +kernel) all_nil
  have U273 := fun_mk (st := top 37) (x := "_law_asked") (qual := "_law_asked") l273 c273 k273
  have D273 : DefOk Γ K mg "_law_asked" 3 F273 f273 _ ["frame", "records", "thing"] ["frame", "records", "thing", "due"] "_law_asked" (top 37) := ⟨PySem.W.mg_of X G a273, U273, U273.binds fun _ _ _ _ _ _ us hl => match us, hl with | [_, _, _], _ => rfl, sc273, rfl, rfl, rfl, ck273⟩
  have K273 : ∀ ks perm, (273, ks, perm) ∈ Γ.kws → KBinds K (PySem.W.fnOf "_law_asked" "_law_asked" (defArgs (top 37)) (defBody (top 37)) (defScope (top 37)) .none kV273 dc273 pm273 an273 cd273 ct273) ["frame", "records", "thing"] ks (gK ks.length perm) (gK ks.length perm) := kws_of (l := []) (Pr := fun ks perm => KBinds K _ _ ks (gK ks.length perm) (gK ks.length perm)) (by decide +kernel) all_nil
  have U274 := fun_mk (st := top 38) (x := "_law_bent") (qual := "_law_bent") l274 c274 k274
  have D274 : DefOk Γ K mg "_law_bent" 3 F274 f274 _ ["till", "frame", "change"] ["till", "frame", "change", "told", "at", "other", "things", "thing", "row"] "_law_bent" (top 38) := ⟨PySem.W.mg_of X G a274, U274, U274.binds fun _ _ _ _ _ _ us hl => match us, hl with | [_, _, _], _ => rfl, sc274, rfl, rfl, rfl, ck274⟩
  have K274 : ∀ ks perm, (274, ks, perm) ∈ Γ.kws → KBinds K (PySem.W.fnOf "_law_bent" "_law_bent" (defArgs (top 38)) (defBody (top 38)) (defScope (top 38)) .none kV274 dc274 pm274 an274 cd274 ct274) ["till", "frame", "change"] ks (gK ks.length perm) (gK ks.length perm) := kws_of (l := []) (Pr := fun ks perm => KBinds K _ _ ks (gK ks.length perm) (gK ks.length perm)) (by decide +kernel) all_nil
  have U275 := fun_mk (st := top 39) (x := "_law_frame_asked") (qual := "_law_frame_asked") l275 c275 k275
  have D275 : DefOk Γ K mg "_law_frame_asked" 2 F275 f275 _ ["till", "frame"] ["till", "frame", "records", "same", "lap", "turned", "change", "thing", "k", "record", "due"] "_law_frame_asked" (top 39) := ⟨PySem.W.mg_of X G a275, U275, U275.binds fun _ _ _ _ _ _ us hl => match us, hl with | [_, _], _ => rfl, sc275, rfl, rfl, rfl, ck275⟩
  have K275 : ∀ ks perm, (275, ks, perm) ∈ Γ.kws → KBinds K (PySem.W.fnOf "_law_frame_asked" "_law_frame_asked" (defArgs (top 39)) (defBody (top 39)) (defScope (top 39)) .none kV275 dc275 pm275 an275 cd275 ct275) ["till", "frame"] ks (gK ks.length perm) (gK ks.length perm) := kws_of (l := []) (Pr := fun ks perm => KBinds K _ _ ks (gK ks.length perm) (gK ks.length perm)) (by decide +kernel) all_nil
  have U276 := fun_mk (st := top 40) (x := "law") (qual := "law") l276 c276 k276
  have D276 : DefOk Γ K mg "law" 1 F276 f276 _ ["script"] ["script", "till", "great", "lap", "change", "told", "frame"] "law" (top 40) := ⟨PySem.W.mg_of X G a276, U276, U276.binds fun _ _ _ _ _ _ us hl => match us, hl with | [_], _ => rfl, sc276, rfl, rfl, rfl, ck276⟩
  have K276 : ∀ ks perm, (276, ks, perm) ∈ Γ.kws → KBinds K (PySem.W.fnOf "law" "law" (defArgs (top 40)) (defBody (top 40)) (defScope (top 40)) .none kV276 dc276 pm276 an276 cd276 ct276) ["script"] ks (gK ks.length perm) (gK ks.length perm) := kws_of (l := []) (Pr := fun ks perm => KBinds K _ _ ks (gK ks.length perm) (gK ks.length perm)) (by decide +kernel) all_nil
  have O0 : OexC K C0 := ⟨⟨_, _, _, _, _, _, _, _, _, _, _, _, _, _, _, xC0, rV0⟩, sa0, eC0, tC0, kC0⟩
  have V0 := fun_mk (st := mthOf (top 4) 0) (x := "__init__") (qual := "BadChange.__init__") lI0 cI0 kI0
  have no0 : ∀ g ∈ (["at", "word"] : List Str), PySem.W.findIn K (.ref C0) g = some none := (all_two n0_at (all_two n0_word all_nil))
  have J0 := fun (base : Heap) => init_ok (P := P) (w := w) (mg := mg) (base := base) (flds := ["at", "word"]) V0 si0 O0 (by decide +kernel) (by decide +kernel) no0 (by decide)
  have B0 : L2.Binds K _ (["self", "at", "word"] : List Str) [] := V0.binds fun _ _ _ _ _ _ us hl => match us, hl with | [_, _, _], _ => rfl
  have O4 : OexC K C4 := ⟨⟨_, _, _, _, _, _, _, _, _, _, _, _, _, _, _, xC4, rV4⟩, sa4, eC4, tC4, kC4⟩
  have V4 := fun_mk (st := mthOf (top 5) 0) (x := "__init__") (qual := "BadStep.__init__") lI4 cI4 kI4
  have no4 : ∀ g ∈ (["word"] : List Str), PySem.W.findIn K (.ref C4) g = some none := (all_two n4_word all_nil)
  have J4 := fun (base : Heap) => init_ok (P := P) (w := w) (mg := mg) (base := base) (flds := ["word"]) V4 si4 O4 (by decide +kernel) (by decide +kernel) no4 (by decide)
  have B4 : L2.Binds K _ (["self", "word"] : List Str) [] := V4.binds fun _ _ _ _ _ _ us hl => match us, hl with | [_, _], _ => rfl
  have M : ∀ base : Heap, ModOk Γ [⟨0, "BadChange", C0, ["at", "word"]⟩, ⟨4, "BadStep", C4, ["word"]⟩] P w K mg base tb := by
    intro base
    refine ⟨fun x hx => ?_, look_all (P := CsOk K mg) ?_, fun k x n hk => ?_, ⟨rfl, ?_, ?_, ?_⟩, ?_, look_all (P := fun (x : Str) (ks : List Nat) => ∃ cv, (mg x = some cv ∨ (mg x = none ∧ bootBuiltins x = some cv ∧ x ≠ "__name__")) ∧ ∀ (c : Nat) (e : EC), eAt [⟨0, "BadChange", C0, ["at", "word"]⟩, ⟨4, "BadStep", C4, ["word"]⟩] c = some e → PySem.W.exmOne K (.ref e.C) cv = some (ks.contains c)) ?_⟩
    · revert x
      exact (all_two (PySem.W.mg_none_of X G z_abs) (all_two (PySem.W.mg_none_of X G z_bool) (all_two (PySem.W.mg_none_of X G z_int) (all_two (PySem.W.mg_none_of X G z_isinstance) (all_two (PySem.W.mg_none_of X G z_len) (all_two (PySem.W.mg_none_of X G z_list) (all_two (PySem.W.mg_none_of X G z_min) (all_two (PySem.W.mg_none_of X G z_range) (all_two (PySem.W.mg_none_of X G z_str) (all_two (PySem.W.mg_none_of X G z_tuple) all_nil))))))))))
    · exact all_nil
    · revert k
      intro k hk
      have := look_all (P := fun (k : Nat) (p : Str × Nat) => ∃ d f fd ps N qual st, tb k = some d ∧ DefOk Γ K mg p.1 p.2 d f fd ps N qual st ∧ ∀ ks perm, (k, ks, perm) ∈ Γ.kws → KBinds K fd ps ks (gK ks.length perm) (gK ks.length perm)) (l := Γ.fns) (all_two ⟨_, _, _, _, _, _, _, rfl, D73, K73⟩ (all_two ⟨_, _, _, _, _, _, _, rfl, D74, K74⟩ (all_two ⟨_, _, _, _, _, _, _, rfl, D75, K75⟩ (all_two ⟨_, _, _, _, _, _, _, rfl, D76, K76⟩ (all_two ⟨_, _, _, _, _, _, _, rfl, D126, K126⟩ (all_two ⟨_, _, _, _, _, _, _, rfl, D127, K127⟩ (all_two ⟨_, _, _, _, _, _, _, rfl, D247, K247⟩ (all_two ⟨_, _, _, _, _, _, _, rfl, D248, K248⟩ (all_two ⟨_, _, _, _, _, _, _, rfl, D128, K128⟩ (all_two ⟨_, _, _, _, _, _, _, rfl, D261, K261⟩ (all_two ⟨_, _, _, _, _, _, _, rfl, D262, K262⟩ (all_two ⟨_, _, _, _, _, _, _, rfl, D263, K263⟩ (all_two ⟨_, _, _, _, _, _, _, rfl, D264, K264⟩ (all_two ⟨_, _, _, _, _, _, _, rfl, D265, K265⟩ (all_two ⟨_, _, _, _, _, _, _, rfl, D266, K266⟩ (all_two ⟨_, _, _, _, _, _, _, rfl, D267, K267⟩ (all_two ⟨_, _, _, _, _, _, _, rfl, D268, K268⟩ (all_two ⟨_, _, _, _, _, _, _, rfl, D238, K238⟩ (all_two ⟨_, _, _, _, _, _, _, rfl, D239, K239⟩ (all_two ⟨_, _, _, _, _, _, _, rfl, D253, K253⟩ (all_two ⟨_, _, _, _, _, _, _, rfl, D240, K240⟩ (all_two ⟨_, _, _, _, _, _, _, rfl, D254, K254⟩ (all_two ⟨_, _, _, _, _, _, _, rfl, D255, K255⟩ (all_two ⟨_, _, _, _, _, _, _, rfl, D269, K269⟩ (all_two ⟨_, _, _, _, _, _, _, rfl, D270, K270⟩ (all_two ⟨_, _, _, _, _, _, _, rfl, D271, K271⟩ (all_two ⟨_, _, _, _, _, _, _, rfl, D272, K272⟩ (all_two ⟨_, _, _, _, _, _, _, rfl, D273, K273⟩ (all_two ⟨_, _, _, _, _, _, _, rfl, D274, K274⟩ (all_two ⟨_, _, _, _, _, _, _, rfl, D275, K275⟩ (all_two ⟨_, _, _, _, _, _, _, rfl, D276, K276⟩ all_nil))))))))))))))))))))))))))))))) k (x, n) hk
      exact this
    · exact (all_two (PySem.W.mg_of X G aC0) (all_two (PySem.W.mg_of X G aC4) all_nil))
    · exact (all_two (fun _ => ⟨O0, (show (["at", "word"] : List Str).length ≤ 20 by decide +kernel), I0, _, _, iC0, tI0, B0, J0 base⟩) (all_two (fun _ => ⟨O4, (show (["word"] : List Str).length ≤ 20 by decide +kernel), I4, _, _, iC4, tI4, B4, J4 base⟩) all_nil))
    · exact (all_two (show (["at", "word"] : List Str).Nodup by decide +kernel) (all_two (show (["word"] : List Str).Nodup by decide +kernel) all_nil))
    · exact (all_two ⟨⟨ga0, gg0, eC0, hC0⟩, no0⟩ (all_two ⟨⟨ga4, gg4, eC4, hC4⟩, no4⟩ all_nil))
    · exact (all_two ⟨_, .inl (PySem.W.mg_of X G aC0), cat_of (all_two em0_0 (all_two em4_0 all_nil))⟩ (all_two ⟨_, .inl (PySem.W.mg_of X G aC4), cat_of (all_two em0_4 (all_two em4_4 all_nil))⟩ all_nil))
  exact ⟨_, fun s v => .of_eq rfl, fun base _ _ => (def_step (M base) (defs_ok (M base) 20) (x := "law") rfl D276).imp (spL_M hplain)⟩
theorem hasV : Ext tbVals tb := by
  intro k d h
  unfold tbVals at h
  split at h
  all_goals first | (cases h; rfl) | cases h
theorem has : HasK12 tb := by
  constructor
  · exact ⟨hasV, rfl, rfl, rfl, rfl, rfl, rfl, rfl, rfl⟩
  all_goals rfl
theorem plain : ∀ ns : List Int, ns.length ≤ 63 → ∃ μ', Mi.run tb 21 276 [.scr ns] [] = .ok (.bl true) μ' := fun ns _ => plain_k12 (n := 11) has ns

end Lw
open PySem PySem.W PyProof.Rows
set_option maxHeartbeats 0 in
theorem PySem.Challenge.cw_nospare_k12_changes_images_holds : PySem.Challenge.rw_nospare_k12_changes_images.Holds := by
  w_on; o_law; k_head; (case hw => w_witness2)
  k_fill
  refine L2.walk_of (l := PySem.Challenge.rw_nospare_k12_changes_images) (n := 63) (k := 24) (x := "script") (CX := fun w => L2.CX (PySem.Challenge.rw_nospare_k12_changes_images).prog w) (sp := fun w => Mi.spL _) rfl (by decide) rfl ⟨rfl, by decide, by decide⟩ (fun w h Y => PySem.W.kIn_of Y) ?F (fun _ H a ns hl hO hS => Mi.spL_of H a ns hl hO hS) (fun _ _ _ _ _ h => Mi.cx_no h)
  case F =>
    intro w mg fa h KX G hmg
    refine' Lw.mod_mk KX G ?a73 ?l73 ?c73 ?k73 ?a74 ?l74 ?c74 ?k74 ?a75 ?l75 ?c75 ?k75 ?a76 ?l76 ?c76 ?k76 ?a126 ?l126 ?c126 ?k126 ?a127 ?l127 ?c127 ?k127 ?a247 ?l247 ?c247 ?k247 ?a248 ?l248 ?c248 ?k248 ?a128 ?l128 ?c128 ?k128 ?a261 ?l261 ?c261 ?k261 ?a262 ?l262 ?c262 ?k262 ?a263 ?l263 ?c263 ?k263 ?a264 ?l264 ?c264 ?k264 ?a265 ?l265 ?c265 ?k265 ?a266 ?l266 ?c266 ?k266 ?a267 ?l267 ?c267 ?k267 ?a268 ?l268 ?c268 ?k268 ?a238 ?l238 ?c238 ?k238 ?a239 ?l239 ?c239 ?k239 ?a253 ?l253 ?c253 ?k253 ?a240 ?l240 ?c240 ?k240 ?a254 ?l254 ?c254 ?k254 ?a255 ?l255 ?c255 ?k255 ?a269 ?l269 ?c269 ?k269 ?a270 ?l270 ?c270 ?k270 ?a271 ?l271 ?c271 ?k271 ?a272 ?l272 ?c272 ?k272 ?a273 ?l273 ?c273 ?k273 ?a274 ?l274 ?c274 ?k274 ?a275 ?l275 ?c275 ?k275 ?a276 ?l276 ?c276 ?k276 ?z_abs ?z_bool ?z_int ?z_isinstance ?z_len ?z_list ?z_min ?z_range ?z_str ?z_tuple ?aC0 ?xC0 ?rV0 ?sa0 ?ga0 ?gg0 ?eC0 ?tC0 ?kC0 ?hC0 ?iC0 ?tI0 ?lI0 ?cI0 ?kI0 ?n0_at ?n0_word ?aC4 ?xC4 ?rV4 ?sa4 ?ga4 ?gg4 ?eC4 ?tC4 ?kC4 ?hC4 ?iC4 ?tI4 ?lI4 ?cI4 ?kI4 ?n4_word ?em0_0 ?em4_0 ?em0_4 ?em4_4 Lw.plain hmg
    case a73 => first | rfl | k_is
    case l73 => first | rfl | k_is
    case c73 => first | rfl | k_is
    case k73 => first | rfl | k_is
    case a74 => first | rfl | k_is
    case l74 => first | rfl | k_is
    case c74 => first | rfl | k_is
    case k74 => first | rfl | k_is
    case a75 => first | rfl | k_is
    case l75 => first | rfl | k_is
    case c75 => first | rfl | k_is
    case k75 => first | rfl | k_is
    case a76 => first | rfl | k_is
    case l76 => first | rfl | k_is
    case c76 => first | rfl | k_is
    case k76 => first | rfl | k_is
    case a126 => first | rfl | k_is
    case l126 => first | rfl | k_is
    case c126 => first | rfl | k_is
    case k126 => first | rfl | k_is
    case a127 => first | rfl | k_is
    case l127 => first | rfl | k_is
    case c127 => first | rfl | k_is
    case k127 => first | rfl | k_is
    case a247 => first | rfl | k_is
    case l247 => first | rfl | k_is
    case c247 => first | rfl | k_is
    case k247 => first | rfl | k_is
    case a248 => first | rfl | k_is
    case l248 => first | rfl | k_is
    case c248 => first | rfl | k_is
    case k248 => first | rfl | k_is
    case a128 => first | rfl | k_is
    case l128 => first | rfl | k_is
    case c128 => first | rfl | k_is
    case k128 => first | rfl | k_is
    case a261 => first | rfl | k_is
    case l261 => first | rfl | k_is
    case c261 => first | rfl | k_is
    case k261 => first | rfl | k_is
    case a262 => first | rfl | k_is
    case l262 => first | rfl | k_is
    case c262 => first | rfl | k_is
    case k262 => first | rfl | k_is
    case a263 => first | rfl | k_is
    case l263 => first | rfl | k_is
    case c263 => first | rfl | k_is
    case k263 => first | rfl | k_is
    case a264 => first | rfl | k_is
    case l264 => first | rfl | k_is
    case c264 => first | rfl | k_is
    case k264 => first | rfl | k_is
    case a265 => first | rfl | k_is
    case l265 => first | rfl | k_is
    case c265 => first | rfl | k_is
    case k265 => first | rfl | k_is
    case a266 => first | rfl | k_is
    case l266 => first | rfl | k_is
    case c266 => first | rfl | k_is
    case k266 => first | rfl | k_is
    case a267 => first | rfl | k_is
    case l267 => first | rfl | k_is
    case c267 => first | rfl | k_is
    case k267 => first | rfl | k_is
    case a268 => first | rfl | k_is
    case l268 => first | rfl | k_is
    case c268 => first | rfl | k_is
    case k268 => first | rfl | k_is
    case a238 => first | rfl | k_is
    case l238 => first | rfl | k_is
    case c238 => first | rfl | k_is
    case k238 => first | rfl | k_is
    case a239 => first | rfl | k_is
    case l239 => first | rfl | k_is
    case c239 => first | rfl | k_is
    case k239 => first | rfl | k_is
    case a253 => first | rfl | k_is
    case l253 => first | rfl | k_is
    case c253 => first | rfl | k_is
    case k253 => first | rfl | k_is
    case a240 => first | rfl | k_is
    case l240 => first | rfl | k_is
    case c240 => first | rfl | k_is
    case k240 => first | rfl | k_is
    case a254 => first | rfl | k_is
    case l254 => first | rfl | k_is
    case c254 => first | rfl | k_is
    case k254 => first | rfl | k_is
    case a255 => first | rfl | k_is
    case l255 => first | rfl | k_is
    case c255 => first | rfl | k_is
    case k255 => first | rfl | k_is
    case a269 => first | rfl | k_is
    case l269 => first | rfl | k_is
    case c269 => first | rfl | k_is
    case k269 => first | rfl | k_is
    case a270 => first | rfl | k_is
    case l270 => first | rfl | k_is
    case c270 => first | rfl | k_is
    case k270 => first | rfl | k_is
    case a271 => first | rfl | k_is
    case l271 => first | rfl | k_is
    case c271 => first | rfl | k_is
    case k271 => first | rfl | k_is
    case a272 => first | rfl | k_is
    case l272 => first | rfl | k_is
    case c272 => first | rfl | k_is
    case k272 => first | rfl | k_is
    case a273 => first | rfl | k_is
    case l273 => first | rfl | k_is
    case c273 => first | rfl | k_is
    case k273 => first | rfl | k_is
    case a274 => first | rfl | k_is
    case l274 => first | rfl | k_is
    case c274 => first | rfl | k_is
    case k274 => first | rfl | k_is
    case a275 => first | rfl | k_is
    case l275 => first | rfl | k_is
    case c275 => first | rfl | k_is
    case k275 => first | rfl | k_is
    case a276 => first | rfl | k_is
    case l276 => first | rfl | k_is
    case c276 => first | rfl | k_is
    case k276 => first | rfl | k_is
    case z_abs => first | rfl | k_is
    case z_bool => first | rfl | k_is
    case z_int => first | rfl | k_is
    case z_isinstance => first | rfl | k_is
    case z_len => first | rfl | k_is
    case z_list => first | rfl | k_is
    case z_min => first | rfl | k_is
    case z_range => first | rfl | k_is
    case z_str => first | rfl | k_is
    case z_tuple => first | rfl | k_is
    case aC0 => first | rfl | k_is
    case xC0 => first | rfl | k_is
    case rV0 => first | rfl | k_is
    case sa0 => first | rfl | k_is
    case ga0 => first | rfl | k_is
    case gg0 => first | rfl | k_is
    case eC0 => first | rfl | k_is
    case tC0 => first | rfl | k_is
    case kC0 => first | rfl | k_is
    case hC0 => first | rfl | k_is
    case iC0 => first | rfl | k_is
    case tI0 => first | rfl | k_is
    case lI0 => first | rfl | k_is
    case cI0 => first | rfl | k_is
    case kI0 => first | rfl | k_is
    case n0_at => first | rfl | k_is
    case n0_word => first | rfl | k_is
    case aC4 => first | rfl | k_is
    case xC4 => first | rfl | k_is
    case rV4 => first | rfl | k_is
    case sa4 => first | rfl | k_is
    case ga4 => first | rfl | k_is
    case gg4 => first | rfl | k_is
    case eC4 => first | rfl | k_is
    case tC4 => first | rfl | k_is
    case kC4 => first | rfl | k_is
    case hC4 => first | rfl | k_is
    case iC4 => first | rfl | k_is
    case tI4 => first | rfl | k_is
    case lI4 => first | rfl | k_is
    case cI4 => first | rfl | k_is
    case kI4 => first | rfl | k_is
    case n4_word => first | rfl | k_is
    case em0_0 => first | rfl | k_is
    case em4_0 => first | rfl | k_is
    case em0_4 => first | rfl | k_is
    case em4_4 => first | rfl | k_is
