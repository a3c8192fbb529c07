import PyProof.Rows.All
import PySem.Challenge.RW_nospare_k21_states
import HandS.TupMul
import HandS.Dict
import KE.KDictKeyed
import KE.KDictPairs
import KE.KeyNested
import Wide.All
import OpenK.AllK
import Wide.FinOn
import HandS.ForMost
import HandS.ForExc
import HandS.IsInst
import HandS.Wide
import HandS.TupAny
import HandS.TupLe
import HandS.Conv
import HandS.Deep
import HandS.ExcInit
import HandS.TryMany
import HandS.ExcField
import HandS.SetKeys
import KE.KTupSum
import HandS.List
import KE.KRevSl
import HandS.SetFor
import HandS.Zip
import HandS.TupSets
import HandS.SortInts
import KE.DataMinMax
import KE.SortData
import HandS.Style
section
set_option Elab.async false
set_option linter.all false
set_option maxRecDepth 100000
set_option maxHeartbeats 4000000
/-! TupM: tuple * int where no copy is made. -/
namespace Mi
open PySem PySem.Spec L2 PyProof.Rows
theorem mul_same (l : Addr) (items : Array Value) (n : Nat) (dd : Option Addr) (sl : Array (Option Value)) (x : Int) (u : Tok) (c0 : (decide (x < -(2 ^ 63)) || decide (x ≥ 2 ^ 63)) = false) (c1 : (items.isEmpty || x == 1) = true) :
    Meets (Builtin.«tuple.__mul__» ⟨[.ref l, .int x u], []⟩) (fun _ R s => s.heap.get? l = some { cls := .type "tuple", dict := dd, data := .seq items n, slots := sl } ∧ R (.ok (.ret (Value.ref l))) s) :=
  .of_wp fun prog w A R s h => by
    obtain ⟨hp, g, d, tk, os⟩ := s
    obtain ⟨hl, h⟩ := h
    have f1 := AutoSeq1.idx_int
    wp_walk using wpAny_loadPart' hl
    refine wpAny_ite_false (decide_eq_false (by rw [c0]; exact Bool.false_ne_true)) ?_
    wp_walk using wpAny_loadPart' hl
    exact ⟨_, rfl, h⟩
theorem mul_none (l : Addr) (items : Array Value) (n : Nat) (dd : Option Addr) (sl : Array (Option Value)) (x : Int) (u : Tok) (c0 : (decide (x < -(2 ^ 63)) || decide (x ≥ 2 ^ 63)) = false) (c1 : (items.isEmpty || x == 1) = false) (c2 : (decide (x ≤ 0) || items.isEmpty) = true) :
    Meets (Builtin.«tuple.__mul__» ⟨[.ref l, .int x u], []⟩) (fun _ R s => s.heap.get? l = some { cls := .type "tuple", dict := dd, data := .seq items n, slots := sl } ∧ R (.ok (.ret (Value.ref s.heap.objs.size))) { s with heap := s.heap.push { cls := Value.type "tuple", data := Data.seq #[] }, toks := s.toks }) :=
  .of_wp fun prog w A R s h => by
    obtain ⟨hp, g, d, tk, os⟩ := s
    obtain ⟨hl, h⟩ := h
    have f1 := AutoSeq1.idx_int
    wp_walk using wpAny_loadPart' hl
    refine wpAny_ite_false (decide_eq_false (by rw [c0]; exact Bool.false_ne_true)) ?_
    wp_walk using wpAny_loadPart' hl
    first
      | exact ⟨_, rfl, h⟩
      | (refine wpAny_ite_true (decide_eq_true c2) ?_; wp_walk using wpAny_loadPart' hl; exact ⟨_, rfl, h⟩)
      | trace_state
/-- .. to the same tuple, to an empty one -/
def rRepS (K : PySem.W.Frag) : R2 := fun x y H Q => ∃ l k xs, x = .ref l ∧ y = .int k ∧ SqT K H l xs ∧ -1000 ≤ k ∧ k ≤ 1000 ∧ (((xs = [] ∨ k = 1) ∧ Q (.ref l) H) ∨ (xs ≠ [] ∧ k ≤ 0 ∧ ∀ p, H p = none → Q (.ref p) (upd H p (.tup []))))
theorem op_repS {X : Cx} : OpR X (binaryOp .Mult) (rRepS X.K) := by
  intro pins s σ H x y v u Q I rx ry h
  obtain ⟨l, k, xs, rfl, rfl, hT, k1, k2, h⟩ := h
  cases rx
  obtain ⟨t, rfl⟩ := ry
  obtain ⟨its, r, ⟨⟨cls, dd, data, sl⟩, ho, hc, n, hd⟩, hs⟩ := I.tuple hT
  simp only at hc hd
  subst hc hd
  have hle : xs.length = its.length := r.length
  have c0 : (decide (k < -(2 ^ 63)) || decide (k ≥ 2 ^ 63)) = false := by
    rw [decide_eq_false (by omega), decide_eq_false (by omega)] <;> rfl
  rcases h with ⟨hsm, q⟩ | ⟨hne, hk, q⟩
  · have c1 : (its.toArray.isEmpty || k == 1) = true := by
      rcases hsm with e | e
      · have : its = [] := List.eq_nil_of_length_eq_zero (by rw [← hle, e]; rfl)
        subst this
        rfl
      · subst e
        simp
    exact wpAny_binaryOp_repeat_ref (T := "tuple") (U := "int") (by decide) ⟨_, ho, rfl⟩ (fun s' => typeIs_int s' k t) noFill_tuple_mul F.fills_int_mul F.slot_int_rmul repeat_tuple F.slot_int_index.lookup
      (call_meets F.slot_int_rmul (typeIs_int s k t) F.entry_int_rmul (F.args_int_rmul_2 _ _) (int_rmul_tuple k t l its.toArray n dd sl)
        ⟨ho, rfl, ⟨_, ho, rfl⟩, call_meets F.slot_tuple_mul ⟨_, ho, rfl⟩ F.entry_tuple_mul (F.args_tuple_mul_2 _ _) (mul_same l its.toArray n dd sl k t c0 c1) ⟨ho, ⟨.ref l, H, I, rfl, q⟩⟩⟩)
  · have hn : its ≠ [] := fun e => hne (List.eq_nil_of_length_eq_zero (by rw [hle, e]; rfl))
    have hi : its.toArray.isEmpty = false := by
      cases its with
      | nil => exact absurd rfl hn
      | cons a b => rfl
    have c1 : (its.toArray.isEmpty || k == 1) = false := by
      rw [hi, Bool.false_or]
      exact beq_eq_false_iff_ne.mpr (by omega)
    have c2 : (decide (k ≤ 0) || its.toArray.isEmpty) = true := by
      rw [decide_eq_true hk]; rfl
    refine wpAny_binaryOp_repeat_ref (T := "tuple") (U := "int") (by decide) ⟨_, ho, rfl⟩ (fun s' => typeIs_int s' k t) noFill_tuple_mul F.fills_int_mul F.slot_int_rmul repeat_tuple F.slot_int_index.lookup
      (call_meets F.slot_int_rmul (typeIs_int s k t) F.entry_int_rmul (F.args_int_rmul_2 _ _) (int_rmul_tuple k t l its.toArray n dd sl)
        ⟨ho, rfl, ⟨_, ho, rfl⟩, call_meets F.slot_tuple_mul ⟨_, ho, rfl⟩ F.entry_tuple_mul (F.args_tuple_mul_2 _ _) (mul_none l its.toArray n dd sl k t c0 c1 c2) ⟨ho, ?_⟩⟩)
    refine ⟨.ref s.heap.objs.size, _, I.laid (t' := s.toks) (o := .tup []) (fun b ob q => Heap.get?_push_of_some _ q) (Nat.le_refl _) ?_, rfl, q _ (I.hok.fresh (Nat.le_refl _))⟩
    exact ⟨by rw [sizeLine_eq]; exact Nat.zero_le _, [], .nil, IsTup.new _ _⟩
end Mi
end

section
set_option linter.all false
/-! Mini: a small language of values, a store of cells, and what its terms come to. Plain Lean. -/
namespace Mi

inductive Ty where
  | int | bool | str | tuple | list
  deriving DecidableEq, Repr

/-- values: a tuple is what it holds; a list, a dict, an instance is a cell's number; scr is the law's own script -/
inductive Val where
  | non | bl (b : Bool) | int (i : Int) | str (s : List Nat) | tup (vs : List Val) | ref (n : Nat) | scr (ns : List Int)
  /-- what zip gives: the two that are walked side by side, their items; no value of a program -/
  | zp (a b : Val) (xs ys : List Val)
  deriving Repr, Inhabited

mutual
def Val.dec : (a b : Val) → Decidable (a = b)
  | .non, b => match b with
    | .non => isTrue rfl
    | .bl _ | .int _ | .str _ | .tup _ | .ref _ | .scr _ | .zp .. => isFalse (fun h => nomatch h)
  | .bl x, b => match b with
    | .bl y => if h : x = y then isTrue (by rw [h]) else isFalse (fun e => h (Val.bl.inj e))
    | .non | .int _ | .str _ | .tup _ | .ref _ | .scr _ | .zp .. => isFalse (fun h => nomatch h)
  | .int x, b => match b with
    | .int y => if h : x = y then isTrue (by rw [h]) else isFalse (fun e => h (Val.int.inj e))
    | .non | .bl _ | .str _ | .tup _ | .ref _ | .scr _ | .zp .. => isFalse (fun h => nomatch h)
  | .str x, b => match b with
    | .str y => if h : x = y then isTrue (by rw [h]) else isFalse (fun e => h (Val.str.inj e))
    | .non | .bl _ | .int _ | .tup _ | .ref _ | .scr _ | .zp .. => isFalse (fun h => nomatch h)
  | .tup x, b => match b with
    | .tup y => match decs x y with
      | isTrue h => isTrue (by rw [h])
      | isFalse h => isFalse (fun e => h (Val.tup.inj e))
    | .non | .bl _ | .int _ | .str _ | .ref _ | .scr _ | .zp .. => isFalse (fun h => nomatch h)
  | .ref x, b => match b with
    | .ref y => if h : x = y then isTrue (by rw [h]) else isFalse (fun e => h (Val.ref.inj e))
    | .non | .bl _ | .int _ | .str _ | .tup _ | .scr _ | .zp .. => isFalse (fun h => nomatch h)
  | .scr x, b => match b with
    | .scr y => if h : x = y then isTrue (by rw [h]) else isFalse (fun e => h (Val.scr.inj e))
    | .non | .bl _ | .int _ | .str _ | .tup _ | .ref _ | .zp .. => isFalse (fun h => nomatch h)
  | .zp a b x y, c => match c with
    | .zp a' b' x' y' => match Val.dec a a', Val.dec b b', decs x x', decs y y' with
      | isTrue h1, isTrue h2, isTrue h3, isTrue h4 => isTrue (by rw [h1, h2, h3, h4])
      | isFalse h, _, _, _ => isFalse (fun e => h (Val.zp.inj e).1)
      | _, isFalse h, _, _ => isFalse (fun e => h (Val.zp.inj e).2.1)
      | _, _, isFalse h, _ => isFalse (fun e => h (Val.zp.inj e).2.2.1)
      | _, _, _, isFalse h => isFalse (fun e => h (Val.zp.inj e).2.2.2)
    | .non | .bl _ | .int _ | .str _ | .tup _ | .ref _ | .scr _ => isFalse (fun h => nomatch h)
def decs : (a b : List Val) → Decidable (a = b)
  | [], b => match b with
    | [] => isTrue rfl
    | _ :: _ => isFalse (fun h => nomatch h)
  | x :: xs, b => match b with
    | [] => isFalse (fun h => nomatch h)
    | y :: ys => match Val.dec x y, decs xs ys with
      | isTrue h, isTrue k => isTrue (by rw [h, k])
      | isFalse h, _ => isFalse (fun e => h (List.cons.inj e).1)
      | _, isFalse h => isFalse (fun e => h (List.cons.inj e).2)
end
instance : DecidableEq Val := Val.dec

inductive Cell where
  | lst (vs : List Val)
  /-- t: the keys are tuples; else ints and texts -/
  | dict (t : Bool) (kvs : List (Val × Val))
  | ins (c : Nat) (fs : List (Nat × Val))
  deriving Repr, Inhabited, DecidableEq

abbrev Sto := List Cell
abbrev Loc := List (Option Val)

inductive Out (α : Type) where
  | ok (a : α) (μ : Sto) | exc (c : Nat) (fs : List Val) (μ : Sto) | fail
  deriving Repr

def Out.bind {α β : Type} (m : Out α) (k : α → Sto → Out β) : Out β := match m with
  | .ok a μ => k a μ
  | .exc c fs μ => .exc c fs μ
  | .fail => .fail
@[simp] theorem Out.bind_ok {α β : Type} (a : α) (μ : Sto) (k : α → Sto → Out β) : (Out.ok a μ).bind k = k a μ := rfl
@[simp] theorem Out.bind_exc {α β : Type} (c : Nat) (fs : List Val) (μ : Sto) (k : α → Sto → Out β) : (Out.exc c fs μ : Out α).bind k = .exc c fs μ := rfl
@[simp] theorem Out.bind_fail {α β : Type} (k : α → Sto → Out β) : (Out.fail : Out α).bind k = .fail := rfl

abbrev LIM : Nat := 16777216

/-! ### reach: which cells a value speaks of -/
mutual
def Val.under (n : Nat) : Val → Bool
  | .ref k => decide (k < n)
  | .tup vs => underAll n vs
  | _ => true
def underAll (n : Nat) : List Val → Bool
  | [] => true
  | v :: vs => v.under n && underAll n vs
end
def Cell.under (n : Nat) : Cell → Bool
  | .lst vs => underAll n vs
  | .dict _ kvs => kvs.all fun p => p.1.under n && p.2.under n
  | .ins _ fs => fs.all fun p => p.2.under n
/-- the cells below n are as they were, or speak of cells below n alone -/
def stable (μ μ' : Sto) : Bool := decide (μ.length ≤ μ'.length) && (List.range μ.length).all fun k => decide (μ'[k]? = μ[k]?) || (match μ'[k]? with | some c => c.under μ.length | none => false)
/-- behind a call: cells that nothing speaks of any more are forgotten -/
def clean (μ : Sto) (v : Val) (μ' : Sto) : Val × Sto :=
  if stable μ μ' then
    if v.under μ.length then (v, μ'.take μ.length)
    else match v with
      | .ref k => match μ'[k]? with
        | some (.lst xs) => if underAll μ.length xs && decide (μ.length ≤ k) then (.ref μ.length, μ'.take μ.length ++ [.lst xs]) else (v, μ')
        | _ => (v, μ')
      | _ => (v, μ')
  else (v, μ')
def cleanO (μ : Sto) : Out Val → Out Val
  | .ok v μ' => .ok (clean μ v μ').1 (clean μ v μ').2
  | .exc c fs μ' => if stable μ μ' && underAll μ.length fs then .exc c fs (μ'.take μ.length) else .exc c fs μ'
  | .fail => .fail

/-! ### operations -/
inductive O1 where
  | neg | not | len | abs | int | toTup | toLst | isN | notN | isi (ts : List Ty) | sum | pop | dict (t : Bool) | str | lset | srt | min1 | max1
  deriving DecidableEq, Repr
inductive O2 where
  | add | sub | mul | fdiv | mod | pow | shl | eq | ne | lt | le | gt | ge | inn | nin | idx | append | extend | min2 | max2 | slF | slT | popAt | index | get1 | rev
  deriving DecidableEq, Repr
inductive O3 where
  | slice | get2 | setd
  deriving DecidableEq, Repr

def isTy (μ : Sto) (v : Val) (t : Ty) : Option Bool := match v with
  | .non => some false
  | .bl _ => some (match t with | .int => true | .bool => true | _ => false)
  | .int _ => some (match t with | .int => true | _ => false)
  | .str _ => some (match t with | .str => true | _ => false)
  | .tup _ => some (match t with | .tuple => true | _ => false)
  | .scr _ => some (match t with | .list => true | _ => false)
  | .zp .. => some false
  | .ref n => match μ[n]? with
    | some (.lst _) => some (match t with | .list => true | _ => false)
    | some (.dict false _) => some false
    | _ => none
def isTys (μ : Sto) (v : Val) : List Ty → Option Bool
  | [] => some false
  | t :: ts => match isTy μ v t with
    | some true => some true
    | some false => isTys μ v ts
    | none => none

/-- the items of what is walked or measured -/
def items (μ : Sto) : Val → Option (List Val)
  | .tup vs => some vs
  | .scr ns => some (ns.map .int)
  | .ref n => match μ[n]? with
    | some (.lst vs) => some vs
    | _ => none
  | .str s => some (s.map fun c => .str [c])
  | .zp a b xs ys => if (match a with
    | .ref n => decide (μ[n]? = some (.lst xs))
    | _ => true) && (match b with
    | .ref n => decide (μ[n]? = some (.lst ys))
    | _ => true) then some ((xs.zip ys).map fun p => .tup [p.1, p.2]) else none
  | _ => none

/-- .. of a list -/
def lItems (μ : Sto) : Val → Option (List Val)
  | .scr ns => some (ns.map .int)
  | .ref n => match μ[n]? with
    | some (.lst vs) => some vs
    | _ => none
  | _ => none
/-- the place of an index of any sign -/
def place (n : Nat) (i : Int) : Option Nat := if 0 ≤ i then (if i < n then some i.toNat else none) else if -(n : Int) ≤ i then some (i + n).toNat else none
/-- a slice's end, clipped -/
def clip (n : Nat) (v : Int) : Nat := if v < 0 then (v + (n : Int)).toNat else min v.toNat n
def cut {α : Type} (xs : List α) (lo hi : Nat) : List α := (xs.drop lo).take (hi - lo)

/-! == as Python has it -/
mutual
def eqv : Val → Val → Bool
  | .non, .non => true
  | .bl a, .bl b => a == b
  | .bl a, .int j => (if a then 1 else 0) == j
  | .int i, .bl b => i == (if b then 1 else 0)
  | .int i, .int j => i == j
  | .str x, .str y => x == y
  | .tup xs, .tup ys => eqvs xs ys
  | _, _ => false
def eqvs : List Val → List Val → Bool
  | [], [] => true
  | x :: xs, y :: ys => eqv x y && eqvs xs ys
  | _, _ => false
end
/-- no list within, not nested deep -/
def Val.flat : Val → Bool
  | .non => true | .bl _ => true | .int _ => true | .str _ => true | _ => false
mutual
def Val.plain : Nat → Val → Bool
  | _, .non => true
  | _, .bl _ => true
  | _, .int _ => true
  | _, .str s => s.all fun c => decide (c < 1114112)
  | n + 1, .tup vs => plains n vs
  | _, _ => false
def plains : Nat → List Val → Bool
  | _, [] => true
  | n, v :: vs => v.plain n && plains n vs
end
/-- what == is asked of -/
def eqOk (a b : Val) : Bool := (a.flat && b.flat) || (a.plain 60 && b.plain 60)
mutual
/-- a part of a key: no text, no list -/
def Val.hk : Nat → Val → Bool
  | _, .non => true
  | _, .bl _ => true
  | _, .int _ => true
  | n + 1, .tup vs => hks n vs
  | _, _ => false
def hks : Nat → List Val → Bool
  | _, [] => true
  | n, v :: vs => v.hk n && hks n vs
end
/-- what may be a key -/
def keyOk (t : Bool) : Val → Bool
  | .int _ => !t
  | .str _ => !t
  | .tup vs => t && hks 7 vs
  | _ => false
def dget (kvs : List (Val × Val)) (k : Val) : Option Val := (kvs.find? fun p => eqv p.1 k).map (·.2)
def dput (kvs : List (Val × Val)) (k v : Val) : List (Val × Val) := if (dget kvs k).isSome then kvs.map (fun p => if eqv p.1 k then (p.1, v) else p) else kvs ++ [(k, v)]
def dputs (kvs ps : List (Val × Val)) : List (Val × Val) := ps.foldl (fun a p => dput a p.1 p.2) kvs
/-- the pairs of a list -/
def pairsOf (t : Bool) : List Val → Option (List (Val × Val))
  | [] => some []
  | .tup [k, v] :: r => if keyOk t k then (pairsOf t r).map ((k, v) :: ·) else none
  | _ :: _ => none
/-- the dict there -/
def dictAt (μ : Sto) : Val → Option (Bool × List (Val × Val))
  | .ref n => match μ[n]? with
    | some (.dict t kvs) => some (t, kvs)
    | _ => none
  | _ => none
/-- a number's figures -/
def strI (i : Int) : List Nat := (toString i).toList.map Char.toNat
/-- the asInts of a list of asInts -/
def asInts : List Val → Option (List Int)
  | [] => some []
  | .int i :: vs => (asInts vs).map (i :: ·)
  | _ :: _ => none
def lexLt : List Int → List Int → Bool
  | [], [] => false
  | [], _ :: _ => true
  | _ :: _, [] => false
  | x :: xs, y :: ys => if x = y then lexLt xs ys else decide (x < y)
/-- how many different ones -/
def dlen {α : Type} [DecidableEq α] : List α → Nat
  | [] => 0
  | x :: xs => if x ∈ xs then dlen xs else dlen xs + 1
mutual
/-- v < w of alike ones -/
def ltv : Val → Val → Bool
  | .bl a, .bl b => !a && b
  | .int i, .int j => decide (i < j)
  | .str x, .str y => decide (x < y)
  | .tup xs, .tup ys => ltvs xs ys
  | _, _ => false
def ltvs : List Val → List Val → Bool
  | [], [] => false
  | [], _ :: _ => true
  | _ :: _, [] => false
  | x :: xs, y :: ys => if eqv x y then ltvs xs ys else ltv x y
end
mutual
/-- of one kind, place by place -/
def alk : Val → Val → Bool
  | .bl _, .bl _ => true
  | .int _, .int _ => true
  | .str _, .str _ => true
  | .tup xs, .tup ys => alks xs ys
  | _, _ => false
def alks : List Val → List Val → Bool
  | x :: xs, y :: ys => alk x y && alks xs ys
  | _, _ => true
end
def alkAll (xs : List Val) : Bool := xs.all fun x => xs.all fun y => alk x y
def minV (x : Val) (xs : List Val) : Val := xs.foldl (fun a y => if ltv y a then y else a) x
def maxV (x : Val) (xs : List Val) : Val := xs.foldl (fun a y => if ltv a y then y else a) x
def srtV (xs : List Val) : List Val := xs.mergeSort fun a b => !ltv b a
/-- tuples with something in them alone, or none at all -/
def srtOk (xs : List Val) : Bool := (xs.all fun v => match v with
  | .tup (_ :: _) => true
  | _ => false) || (xs.all fun v => match v with
  | .tup _ => false
  | .non => false
  | _ => true)
/-- x in xs, the items flat -/
def inFlat (x : Val) (xs : List Val) : Bool := xs.any fun y => eqv y x

def ofOpt (o : Option Val) (μ : Sto) : Out Val := match o with
  | some v => .ok v μ
  | none => .fail
def newLst (vs : List Val) (μ : Sto) : Out Val := .ok (.ref μ.length) (μ ++ [.lst vs])

def lenL (a : Val) (μ : Sto) : Out Val := match a with
  | .str s => if s.length ≤ LIM then .ok (.int s.length) μ else .fail
  | _ => match items μ a with
    | some vs => .ok (.int vs.length) μ
    | none => .fail
def innL (neg : Bool) (a b : Val) (μ : Sto) : Out Val := match b with
  | .str _ => .fail
  | _ => match items μ b with
    | some xs => if a.flat ∧ xs.all Val.flat then .ok (.bl (if neg then !inFlat a xs else inFlat a xs)) μ else .fail
    | none => .fail
def idxL (a b : Val) (μ : Sto) : Out Val := match b with
  | .int i => match a with
    | .str s => if s.length ≤ LIM then ofOpt ((place s.length i).bind fun j => (s[j]?).map fun c => .str [c]) μ else .fail
    | _ => match items μ a with
      | some xs => ofOpt ((place xs.length i).bind fun j => xs[j]?) μ
      | none => .fail
  | _ => .fail
/-- a tuple's or a list's items -/
def seqI (μ : Sto) : Val → Option (List Val)
  | .tup vs => some vs
  | .ref n => match μ[n]? with
    | some (.lst vs) => some vs
    | _ => none
  | _ => none
def srtI (ns : List Int) : List Int := ns.mergeSort fun a b => decide (a ≤ b)
def sem1 (o : O1) (a : Val) (μ : Sto) : Out Val := match o with
  | .neg => match a with
    | .int i => .ok (.int (-i)) μ
    | _ => .fail
  | .not => match a with
    | .bl b => .ok (.bl (!b)) μ
    | _ => .fail
  | .len => match dictAt μ a with
    | some (_, kvs) => .ok (.int kvs.length) μ
    | none => lenL a μ
  | .abs => match a with
    | .int i => .ok (.int (if i < 0 then -i else i)) μ
    | _ => .fail
  | .int => match a with
    | .int i => .ok (.int i) μ
    | .bl b => .ok (.int (if b then 1 else 0)) μ
    | _ => .fail
  | .toTup => match a with
    | .str _ => .fail
    | _ => match items μ a with
      | some vs => .ok (.tup vs) μ
      | none => .fail
  | .toLst => match a with
    | .str _ => .fail
    | _ => match items μ a with
      | some vs => newLst vs μ
      | none => .fail
  | .isN => .ok (.bl (decide (a = .non))) μ
  | .notN => .ok (.bl (!decide (a = .non))) μ
  | .isi ts => match isTys μ a ts with
    | some b => .ok (.bl b) μ
    | none => .fail
  | .sum => match a with
    | .tup vs => match asInts vs with
      | some ns => .ok (.int ns.sum) μ
      | none => .fail
    | .ref n => match μ[n]? with
      | some (.lst vs) => match asInts vs with
        | some ns => .ok (.int ns.sum) μ
        | none => .fail
      | _ => .fail
    | _ => .fail
  | .pop => match a with
    | .ref n => match μ[n]? with
      | some (.lst vs) => match vs.getLast? with
        | some v => .ok v (μ.set n (.lst vs.dropLast))
        | none => .fail
      | _ => .fail
    | _ => .fail
  | .dict t => match a with
    | .ref n => match μ[n]? with
      | some (.lst vs) => match pairsOf t vs with
        | some ps => .ok (.ref μ.length) (μ ++ [.dict t (dputs [] ps)])
        | none => .fail
      | _ => .fail
    | _ => .fail
  | .str => match a with
    | .int i => if i.natAbs < 1000000000000000000000000 then .ok (.str (strI i)) μ else .fail
    | _ => .fail
  | .lset => match seqI μ a with
    | some vs => match asInts vs with
      | some ns => if ns.length ≤ 4000 then .ok (.int (dlen ns)) μ else .fail
      | none => .fail
    | none => .fail
  | .srt => match a with
    | .tup vs => match asInts vs with
      | some ns => newLst ((srtI ns).map .int) μ
      | none => .fail
    | .ref n => match μ[n]? with
      | some (.lst vs) => if plains 50 vs && alkAll vs && srtOk vs then newLst (srtV vs) μ else .fail
      | _ => .fail
    | _ => .fail
  | .min1 => match seqI μ a with
    | some (x :: xs) => if plains 50 (x :: xs) && alkAll (x :: xs) then .ok (minV x xs) μ else .fail
    | _ => .fail
  | .max1 => match seqI μ a with
    | some (x :: xs) => if plains 50 (x :: xs) && alkAll (x :: xs) then .ok (maxV x xs) μ else .fail
    | _ => .fail

def cmpI (p : Int → Int → Bool) (a b : Val) (μ : Sto) : Out Val := match a, b with
  | .int i, .int j => .ok (.bl (p i j)) μ
  | _, _ => .fail

/-- ==, != : of two lists by their items -/
def eqL (neg : Bool) (a b : Val) (μ : Sto) : Out Val := match a, b with
  | .ref m, .ref n => match μ[m]?, μ[n]? with
    | some (.lst xs), some (.lst ys) => if plains 50 xs && plains 50 ys then .ok (.bl (if neg then !eqvs xs ys else eqvs xs ys)) μ else .fail
    | _, _ => .fail
  | a, b => if eqOk a b then .ok (.bl (if neg then !eqv a b else eqv a b)) μ else .fail
def sem2 (o : O2) (a b : Val) (μ : Sto) : Out Val := match o with
  | .add => match a, b with
    | .int i, .int j => .ok (.int (i + j)) μ
    | .tup xs, .tup ys => if xs.length + ys.length ≤ LIM then .ok (.tup (xs ++ ys)) μ else .fail
    | .str x, .str y => if x.length + y.length ≤ LIM then .ok (.str (x ++ y)) μ else .fail
    | .ref n, .ref m => match μ[n]?, μ[m]? with
      | some (.lst xs), some (.lst ys) => if xs.length + ys.length ≤ LIM then newLst (xs ++ ys) μ else .fail
      | _, _ => .fail
    | _, _ => .fail
  | .sub => match a, b with
    | .int i, .int j => .ok (.int (i - j)) μ
    | _, _ => .fail
  | .mul => match a, b with
    | .int i, .int j => if i.natAbs.log2 + j.natAbs.log2 < 1000000 then .ok (.int (i * j)) μ else .fail
    | .ref n, .int k => match μ[n]? with
      | some (.lst xs) => if -1000000000 ≤ k ∧ k ≤ 1000000000 ∧ xs.length * k.toNat ≤ LIM then newLst (List.replicate k.toNat xs).flatten μ else .fail
      | _ => .fail
    | .tup xs, .int k => if -1000 ≤ k ∧ k ≤ 1000 ∧ xs.length ≤ 1000 then .ok (.tup (List.replicate k.toNat xs).flatten) μ else .fail
    | _, _ => .fail
  | .fdiv => match a, b with
    | .int i, .int j => if 0 < j ∧ j.natAbs.log2 < 9000 then .ok (.int (i / j)) μ else .fail
    | _, _ => .fail
  | .mod => match a, b with
    | .int i, .int j => if 0 < j then .ok (.int (i % j)) μ else .fail
    | _, _ => .fail
  | .pow => match a, b with
    | .int i, .int j => if 0 ≤ j ∧ j ≤ 1000000 ∧ i.natAbs < 2 ^ 64 then .ok (.int (i ^ j.toNat)) μ else .fail
    | _, _ => .fail
  | .shl => match a, b with
    | .int i, .int j => if 0 ≤ j ∧ j ≤ 1000000 ∧ i.natAbs < 2 ^ 64 then .ok (.int (i * 2 ^ j.toNat)) μ else .fail
    | _, _ => .fail
  | .eq => eqL false a b μ
  | .ne => eqL true a b μ
  | .lt => match a, b with
    | .tup xs, .tup ys => match asInts xs, asInts ys with
      | some ns, some ms => .ok (.bl (lexLt ns ms)) μ
      | _, _ => .fail
    | _, _ => cmpI (fun i j => decide (i < j)) a b μ
  | .le => cmpI (fun i j => decide (i ≤ j)) a b μ
  | .gt => cmpI (fun i j => decide (j < i)) a b μ
  | .ge => cmpI (fun i j => decide (j ≤ i)) a b μ
  | .inn => match dictAt μ b with
    | some (t, kvs) => if keyOk t a then .ok (.bl (dget kvs a).isSome) μ else .fail
    | none => innL false a b μ
  | .nin => match dictAt μ b with
    | some (t, kvs) => if keyOk t a then .ok (.bl (!(dget kvs a).isSome)) μ else .fail
    | none => innL true a b μ
  | .idx => match dictAt μ a with
    | some (t, kvs) => if keyOk t b then ofOpt (dget kvs b) μ else .fail
    | none => idxL a b μ
  | .rev => match b with
    | .int (-1) => match a with
      | .tup xs => .ok (.tup xs.reverse) μ
      | .ref n => match μ[n]? with
        | some (.lst xs) => newLst xs.reverse μ
        | _ => .fail
      | _ => .fail
    | _ => .fail
  | .append => match a with
    | .ref n => match μ[n]? with
      | some (.lst xs) => if xs.length < LIM then .ok .non (μ.set n (.lst (xs ++ [b]))) else .fail
      | _ => .fail
    | _ => .fail
  | .extend => match a, b with
    | .ref n, .ref m => match μ[n]?, μ[m]? with
      | some (.lst xs), some (.lst ys) => if xs.length + ys.length ≤ LIM then .ok .non (μ.set n (.lst (xs ++ ys))) else .fail
      | _, _ => .fail
    | _, _ => .fail
  | .min2 => match a, b with
    | .int i, .int j => .ok (.int (if j < i then j else i)) μ
    | _, _ => .fail
  | .max2 => match a, b with
    | .int i, .int j => .ok (.int (if j > i then j else i)) μ
    | _, _ => .fail
  | .slF => match a, b with
    | .tup xs, .int lo => .ok (.tup (cut xs (clip xs.length lo) xs.length)) μ
    | .scr xs, .int lo => newLst ((cut xs (clip xs.length lo) xs.length).map .int) μ
    | .ref n, .int lo => match μ[n]? with
      | some (.lst xs) => newLst (cut xs (clip xs.length lo) xs.length) μ
      | _ => .fail
    | _, _ => .fail
  | .slT => match a, b with
    | .tup xs, .int hi => .ok (.tup (cut xs 0 (clip xs.length hi))) μ
    | .scr xs, .int hi => newLst ((cut xs 0 (clip xs.length hi)).map .int) μ
    | .ref n, .int hi => match μ[n]? with
      | some (.lst xs) => newLst (cut xs 0 (clip xs.length hi)) μ
      | _ => .fail
    | _, _ => .fail
  | .index => match a with
    | .ref n => match μ[n]? with
      | some (.lst xs) => if plains 60 xs ∧ b.plain 60 ∧ xs.length ≤ LIM then (match xs.findIdx? (fun y => eqv y b) with
        | some j => .ok (.int (j : Nat)) μ
        | none => .fail) else .fail
      | _ => .fail
    | _ => .fail
  | .get1 => match dictAt μ a with
    | some (t, kvs) => if keyOk t b then .ok ((dget kvs b).getD .non) μ else .fail
    | none => .fail
  | .popAt => match a, b with
    | .ref n, .int i => match μ[n]? with
      | some (.lst xs) => if 0 ≤ i ∧ i < xs.length ∧ xs.length ≤ LIM then match xs[i.toNat]? with
        | some v => .ok v (μ.set n (.lst (xs.eraseIdx i.toNat)))
        | none => .fail
        else .fail
      | _ => .fail
    | _, _ => .fail

def sem3 (o : O3) (a b c : Val) (μ : Sto) : Out Val := match o with
  | .get2 => match dictAt μ a with
    | some (t, kvs) => if keyOk t b then .ok ((dget kvs b).getD c) μ else .fail
    | none => .fail
  | .setd => match a with
    | .ref n => match μ[n]? with
      | some (.dict t kvs) => if keyOk t b ∧ kvs.length < LIM then (match dget kvs b with
        | some v => .ok v μ
        | none => .ok c (μ.set n (.dict t (dput kvs b c)))) else .fail
      | _ => .fail
    | _ => .fail
  | .slice => match a, b, c with
    | .tup xs, .int lo, .int hi => .ok (.tup (cut xs (clip xs.length lo) (clip xs.length hi))) μ
    | .ref n, .int lo, .int hi => match μ[n]? with
      | some (.lst xs) => newLst (cut xs (clip xs.length lo) (clip xs.length hi)) μ
      | _ => .fail
    | _, _, _ => .fail

/-! ### terms -/
/-- targets that are names -/
inductive MT where
  | nm (i : Nat)
  | tp (is : List Nat)
  deriving Repr
inductive ME where
  | var (i : Nat)
  | cst (v : Val)
  | nil
  | cons (a b : ME)
  | tupE (a : ME)
  | lstE (a : ME)
  | op1 (o : O1) (a : ME)
  | op2 (o : O2) (a b : ME)
  | op3 (o : O3) (a b c : ME)
  | and (a b : ME)
  | or (a b : ME)
  | ite (c a b : ME)
  | chain (o o' : O2) (a b c : ME)
  | call (k : Nat) (a : ME)
  | callK (k : Nat) (perm : List Nat) (a : ME)
  | rng (a : ME)
  | rng2 (a b : ME)
  | rng3 (a : ME)
  /-- a dict that is written down, its keys ints and texts (or an empty one) -/
  | dct (t : Bool) (ks : List Val) (a : ME)
  | zip (a b : ME)
  /-- list(range(a)), tuple(range(a)) -/
  | lstR (t : Bool) (a : ME)
  | comp (tg : MT) (it cond elt : ME)
  | tmp (a : ME)
  deriving Repr

/-- these of them, in that order -/
def pick {α : Type} (perm : List Nat) (vs : List α) : List α := perm.filterMap fun i => vs[i]?
def setAll : List Nat → List Val → Loc → Loc
  | i :: is, v :: vs, ρ => setAll is vs (ρ.set i (some v))
  | _, _, ρ => ρ
def bindT (tg : MT) (v : Val) (ρ : Loc) : Option Loc := match tg with
  | .nm i => some (ρ.set i (some v))
  | .tp is => match v with
    | .tup vs => if vs.length = is.length then some (setAll is vs ρ) else none
    | _ => none
/-- the walked list stands as it stood -/
def guard (v : Val) (xs : List Val) (μ : Sto) : Bool := match v with
  | .ref n => decide (μ[n]? = some (.lst xs))
  | .zp a b us ws => (match a with
    | .ref n => decide (μ[n]? = some (.lst us))
    | _ => true) && (match b with
    | .ref n => decide (μ[n]? = some (.lst ws))
    | _ => true)
  | _ => true

def compL (bind : Val → Option Loc) (cond elt : Loc → Sto → Out Val) (src : Val) (all : List Val) : List Val → Sto → Out (List Val)
  | [], μ => .ok [] μ
  | x :: xs, μ => match bind x with
    | none => .fail
    | some ρ => match cond ρ μ with
      | .ok (.bl true) μ1 => match elt ρ μ1 with
        | .ok y μ2 => if guard src all μ2 then match compL bind cond elt src all xs μ2 with
          | .ok ys μ3 => .ok (y :: ys) μ3
          | _ => .fail
          else .fail
        | _ => .fail
      | .ok (.bl false) μ1 => if guard src all μ1 then compL bind cond elt src all xs μ1 else .fail
      | _ => .fail

/-- what a method's receiver must be, ahead of the argument -/
def pre2 (o : O2) (x : Val) (μ : Sto) : Bool := match o with
  | .append | .extend | .popAt | .index => (match x with
    | .ref n => (match μ[n]? with
      | some (.lst _) => true
      | _ => false)
    | _ => false)
  | .get1 => (dictAt μ x).isSome
  | _ => true
/-- .. with two arguments -/
def pre2' (o : O3) (x : Val) (μ : Sto) : Bool := match o with
  | .slice => true
  | _ => (dictAt μ x).isSome

/-- what a slice's first part must be, ahead of the second -/
def pre3 (o : O3) (y : Val) : Bool := match o with
  | .slice => (match y with
    | .int _ => true
    | _ => false)
  | _ => true

/-- how many items range(a, b, c) has -/
def rsize (a b c : Int) : Int := if c > 0 then (if a < b then (b - a - 1) / c + 1 else 0) else (if a > b then (a - b - 1) / (-c) + 1 else 0)
def rng3 (vs : List Val) (μ : Sto) : Out Val := match vs with
  | [.int i, .int j, .int k] => if -LIM ≤ i ∧ i ≤ LIM ∧ -LIM ≤ j ∧ j ≤ LIM ∧ -LIM ≤ k ∧ k ≤ LIM ∧ k ≠ 0 then .ok (.tup ((List.range (rsize i j k).toNat).map fun m => .int (i + (m : Nat) * k))) μ else .fail
  | _ => .fail
abbrev CallF := Nat → List Val → Sto → Out Val

def ev (C : CallF) : ME → Loc → Sto → Out Val
  | .var i, ρ, μ => match ρ[i]? with
    | some (some v) => .ok v μ
    | _ => .fail
  | .cst v, _, μ => .ok v μ
  | .nil, _, μ => .ok (.tup []) μ
  | .cons a b, ρ, μ => (ev C a ρ μ).bind fun x μ1 => (ev C b ρ μ1).bind fun ys μ2 => match ys with
    | .tup vs => .ok (.tup (x :: vs)) μ2
    | _ => .fail
  | .tupE a, ρ, μ => ev C a ρ μ
  | .lstE a, ρ, μ => (ev C a ρ μ).bind fun ys μ1 => match ys with
    | .tup vs => newLst vs μ1
    | _ => .fail
  | .op1 o a, ρ, μ => (ev C a ρ μ).bind fun x μ1 => sem1 o x μ1
  | .op2 o a b, ρ, μ => (ev C a ρ μ).bind fun x μ1 => if pre2 o x μ1 then (ev C b ρ μ1).bind fun y μ2 => sem2 o x y μ2 else .fail
  | .op3 o a b c, ρ, μ => (ev C a ρ μ).bind fun x μ1 => if pre2' o x μ1 then (ev C b ρ μ1).bind fun y μ2 => if pre3 o y then (ev C c ρ μ2).bind fun z μ3 => sem3 o x y z μ3 else .fail else .fail
  | .and a b, ρ, μ => (ev C a ρ μ).bind fun x μ1 => match x with
    | .bl true => ev C b ρ μ1
    | .bl false => .ok (.bl false) μ1
    | _ => .fail
  | .or a b, ρ, μ => (ev C a ρ μ).bind fun x μ1 => match x with
    | .bl true => .ok (.bl true) μ1
    | .bl false => ev C b ρ μ1
    | _ => .fail
  | .ite c a b, ρ, μ => (ev C c ρ μ).bind fun x μ1 => match x with
    | .bl true => ev C a ρ μ1
    | .bl false => ev C b ρ μ1
    | _ => .fail
  | .chain o o' a b c, ρ, μ => (ev C a ρ μ).bind fun x μ1 => (ev C b ρ μ1).bind fun y μ2 => (sem2 o x y μ2).bind fun r μ3 => match r with
    | .bl true => (ev C c ρ μ3).bind fun z μ4 => sem2 o' y z μ4
    | .bl false => .ok (.bl false) μ3
    | _ => .fail
  | .call k a, ρ, μ => (ev C a ρ μ).bind fun ys μ1 => match ys with
    | .tup vs => C k vs μ1
    | _ => .fail
  | .callK k perm a, ρ, μ => (ev C a ρ μ).bind fun ys μ1 => match ys with
    | .tup vs => C k (pick perm vs) μ1
    | _ => .fail
  | .rng a, ρ, μ => (ev C a ρ μ).bind fun x μ1 => match x with
    | .int j => if -LIM ≤ j ∧ j ≤ LIM then .ok (.tup ((List.range j.toNat).map fun i => .int (i : Nat))) μ1 else .fail
    | _ => .fail
  | .rng2 a b, ρ, μ => (ev C a ρ μ).bind fun x μ1 => (ev C b ρ μ1).bind fun y μ2 => match x, y with
    | .int i, .int j => if -LIM ≤ i ∧ i ≤ LIM ∧ j ≤ LIM ∧ -LIM ≤ j then .ok (.tup ((List.range (j - i).toNat).map fun k => .int (i + (k : Nat)))) μ2 else .fail
    | _, _ => .fail
  | .rng3 a, ρ, μ => (ev C a ρ μ).bind fun ys μ1 => match ys with
    | .tup vs => rng3 vs μ1
    | _ => .fail
  | .dct t ks a, ρ, μ => (ev C a ρ μ).bind fun ys μ1 => match ys with
    | .tup vs => if vs.length = ks.length ∧ ks.all (keyOk t) ∧ (t = true → ks = []) then .ok (.ref μ1.length) (μ1 ++ [.dict t (dputs [] (ks.zip vs))]) else .fail
    | _ => .fail
  | .lstR t a, ρ, μ => (ev C a ρ μ).bind fun x μ1 => match x with
    | .int j => if -LIM ≤ j ∧ j ≤ LIM then (if t then .ok (.tup ((List.range j.toNat).map fun i => .int (i : Nat))) μ1 else newLst ((List.range j.toNat).map fun i => .int (i : Nat)) μ1) else .fail
    | _ => .fail
  | .zip a b, ρ, μ => (ev C a ρ μ).bind fun x μ1 => (ev C b ρ μ1).bind fun y μ2 => match x, y with
    | .tup xs, .tup ys => .ok (.zp x y xs ys) μ2
    | _, _ => match lItems μ2 x, lItems μ2 y with
      | some xs, some ys => .ok (.zp x y xs ys) μ2
      | _, _ => .fail
  | .comp tg it cond elt, ρ, μ => (ev C it ρ μ).bind fun src μ1 => match items μ1 src with
    | some xs => if xs.length ≤ LIM then (compL (fun v => bindT tg v ρ) (ev C cond) (ev C elt) src xs xs μ1).bind fun ys μ2 => newLst ys μ2 else .fail
    | none => .fail
  | .tmp a, ρ, μ => match ev C a ρ μ with
    | .ok v μ1 => .ok (clean μ v μ1).1 (clean μ v μ1).2
    | r => r

/-- what an except suite gives back: flat expressions alone; a field of the caught one by its class -/
inductive FE where
  | var (i : Nat) | cst (v : Val) | fld (t : List (Nat × Nat)) | nil | cons (a b : FE) | tup (a : FE)
  deriving Repr
/-- an except clause: the classes it catches; its name's slot; what its suite gives back -/
structure HC where
  ks : List Nat
  nm : Option Nat
  fe : FE
  deriving Repr

inductive MS where
  | skip
  | seq (a b : MS)
  | set (tg : MT) (e : ME)
  | put (a b e : ME)
  | aug (i : Nat) (o : O2) (e : ME)
  | expr (e : ME)
  | ret (e : ME)
  | ite (c : ME) (a b : MS)
  | whl (c : ME) (b : MS)
  | forE (tg : MT) (it : ME) (b : MS)
  | raise (c : Nat) (a : ME)
  | tryx (b : MS) (hs : List HC)
  | brk
  | cnt
  deriving Repr

inductive OS where
  | nx (ρ : Loc) (μ : Sto) | ret (v : Val) (μ : Sto) | brk (ρ : Loc) (μ : Sto) | cnt (ρ : Loc) (μ : Sto) | exc (c : Nat) (fs : List Val) (ρ : Loc) (μ : Sto) | fail
  deriving Repr
/-- behind an expression -/
def Out.on (m : Out Val) (ρ : Loc) (k : Val → Sto → OS) : OS := match m with
  | .ok v μ => k v μ
  | .exc c fs μ => .exc c fs ρ μ
  | .fail => .fail
@[simp] theorem Out.on_ok (v : Val) (μ : Sto) (ρ : Loc) (k : Val → Sto → OS) : (Out.ok v μ).on ρ k = k v μ := rfl
@[simp] theorem Out.on_exc (c : Nat) (fs : List Val) (μ : Sto) (ρ : Loc) (k : Val → Sto → OS) : (Out.exc c fs μ).on ρ k = .exc c fs ρ μ := rfl
@[simp] theorem Out.on_fail (ρ : Loc) (k : Val → Sto → OS) : (Out.fail).on ρ k = .fail := rfl
def OS.then (m : OS) (k : Loc → Sto → OS) : OS := match m with
  | .nx ρ μ => k ρ μ
  | r => r
@[simp] theorem OS.then_nx (ρ : Loc) (μ : Sto) (k : Loc → Sto → OS) : (OS.nx ρ μ).then k = k ρ μ := rfl
@[simp] theorem OS.then_ret (v : Val) (μ : Sto) (k : Loc → Sto → OS) : (OS.ret v μ).then k = .ret v μ := rfl
@[simp] theorem OS.then_brk (ρ : Loc) (μ : Sto) (k : Loc → Sto → OS) : (OS.brk ρ μ).then k = .brk ρ μ := rfl
@[simp] theorem OS.then_cnt (ρ : Loc) (μ : Sto) (k : Loc → Sto → OS) : (OS.cnt ρ μ).then k = .cnt ρ μ := rfl
@[simp] theorem OS.then_exc (c : Nat) (fs : List Val) (ρ : Loc) (μ : Sto) (k : Loc → Sto → OS) : (OS.exc c fs ρ μ).then k = .exc c fs ρ μ := rfl
@[simp] theorem OS.then_fail (k : Loc → Sto → OS) : (OS.fail).then k = .fail := rfl
/-- a turn's end: on with the loop, or out -/
def OS.turn (m : OS) (k : Loc → Sto → OS) : OS := match m with
  | .nx ρ μ => k ρ μ
  | .cnt ρ μ => k ρ μ
  | .brk ρ μ => .nx ρ μ
  | r => r
@[simp] theorem OS.turn_nx (ρ : Loc) (μ : Sto) (k : Loc → Sto → OS) : (OS.nx ρ μ).turn k = k ρ μ := rfl
@[simp] theorem OS.turn_cnt (ρ : Loc) (μ : Sto) (k : Loc → Sto → OS) : (OS.cnt ρ μ).turn k = k ρ μ := rfl
@[simp] theorem OS.turn_brk (ρ : Loc) (μ : Sto) (k : Loc → Sto → OS) : (OS.brk ρ μ).turn k = .nx ρ μ := rfl
@[simp] theorem OS.turn_ret (v : Val) (μ : Sto) (k : Loc → Sto → OS) : (OS.ret v μ).turn k = .ret v μ := rfl
@[simp] theorem OS.turn_exc (c : Nat) (fs : List Val) (ρ : Loc) (μ : Sto) (k : Loc → Sto → OS) : (OS.exc c fs ρ μ).turn k = .exc c fs ρ μ := rfl
@[simp] theorem OS.turn_fail (k : Loc → Sto → OS) : (OS.fail).turn k = .fail := rfl

def forL (bind : Val → Loc → Option Loc) (body : Loc → Sto → OS) (src : Val) (all : List Val) : List Val → Loc → Sto → OS
  | [], ρ, μ => .nx ρ μ
  | x :: xs, ρ, μ => match bind x ρ with
    | none => .fail
    | some ρ1 => (body ρ1 μ).turn fun ρ2 μ2 => if guard src all μ2 then forL bind body src all xs ρ2 μ2 else .fail
def whlN (c : Loc → Sto → Out Val) (body : Loc → Sto → OS) : Nat → Loc → Sto → OS
  | 0, _, _ => .fail
  | n + 1, ρ, μ => (c ρ μ).on ρ fun v μ1 => match v with
    | .bl true => (body ρ μ1).turn fun ρ2 μ2 => whlN c body n ρ2 μ2
    | .bl false => .nx ρ μ1
    | _ => .fail
abbrev FUEL : Nat := 2 ^ 64

def evF (c : Nat) (fs : List Val) : FE → Loc → Option Val
  | .var i, ρ => match ρ[i]? with
    | some (some v) => some v
    | _ => none
  | .cst v, _ => some v
  | .fld t, _ => (t.lookup c).bind fun k => fs[k]?
  | .nil, _ => some (.tup [])
  | .cons a b, ρ => match evF c fs a ρ, evF c fs b ρ with
    | some x, some (.tup ys) => some (.tup (x :: ys))
    | _, _ => none
  | .tup a, ρ => evF c fs a ρ
def hcLoc (n : Option Nat) (ρ : Loc) : Loc := match n with
  | none => ρ
  | some i => ρ.set i none
def hcOk (n : Option Nat) (ρ : Loc) : Bool := match n with
  | none => true
  | some i => decide (i < ρ.length)
/-- the clauses: the first that catches -/
def handle (c : Nat) (fs : List Val) (ρ : Loc) (μ : Sto) : List HC → OS
  | [] => .exc c fs ρ μ
  | h :: hs => if h.ks.contains c then (if hcOk h.nm ρ then (match evF c fs h.fe (hcLoc h.nm ρ) with
    | some v => .ret v μ
    | none => .fail) else .fail) else handle c fs ρ μ hs

def setLst (n : Nat) (xs : List Val) (i v : Val) (μ : Sto) : Option Sto := match i with
  | .int k => (place xs.length k).map fun j => μ.set n (.lst (xs.set j v))
  | _ => none
def setItem (o i v : Val) (μ : Sto) : Option Sto := match o, i with
  | .ref n, i => match μ[n]? with
    | some (.lst xs) => setLst n xs i v μ
    | some (.dict t kvs) => if keyOk t i ∧ kvs.length < LIM then some (μ.set n (.dict t (dput kvs i v))) else none
    | _ => none
  | _, _ => none

def ex (C : CallF) : MS → Loc → Sto → OS
  | .skip, ρ, μ => .nx ρ μ
  | .seq a b, ρ, μ => (ex C a ρ μ).then fun ρ1 μ1 => ex C b ρ1 μ1
  | .set tg e, ρ, μ => (ev C e ρ μ).on ρ fun v μ1 => match bindT tg v ρ with
    | some ρ1 => .nx ρ1 μ1
    | none => .fail
  | .put a b e, ρ, μ => (ev C e ρ μ).on ρ fun v μ1 => (ev C a ρ μ1).on ρ fun o μ2 => (ev C b ρ μ2).on ρ fun i μ3 => match setItem o i v μ3 with
    | some μ4 => .nx ρ μ4
    | none => .fail
  | .aug i o e, ρ, μ => match ρ[i]? with
    | some (some x) => (ev C e ρ μ).on ρ fun v μ1 => (match x, v with
      | .int a, .int b => (match o with
        | .add => .nx (ρ.set i (some (.int (a + b)))) μ1
        | .sub => .nx (ρ.set i (some (.int (a - b)))) μ1
        | _ => .fail)
      | _, _ => .fail)
    | _ => .fail
  | .expr e, ρ, μ => (ev C e ρ μ).on ρ fun _ μ1 => .nx ρ μ1
  | .ret e, ρ, μ => (ev C e ρ μ).on ρ fun v μ1 => .ret v μ1
  | .ite c a b, ρ, μ => (ev C c ρ μ).on ρ fun v μ1 => match v with
    | .bl true => ex C a ρ μ1
    | .bl false => ex C b ρ μ1
    | _ => .fail
  | .whl c b, ρ, μ => whlN (ev C c) (ex C b) FUEL ρ μ
  | .forE tg it b, ρ, μ => (ev C it ρ μ).on ρ fun src μ1 => match items μ1 src with
    | some xs => forL (bindT tg) (ex C b) src xs xs ρ μ1
    | none => .fail
  | .raise c a, ρ, μ => (ev C a ρ μ).on ρ fun v μ1 => match v with
    | .tup fs => .exc c fs ρ μ1
    | _ => .fail
  | .tryx b hs, ρ, μ => match ex C b ρ μ with
    | .exc c fs ρ1 μ1 => handle c fs ρ1 μ1 hs
    | r => r
  | .brk, ρ, μ => .brk ρ μ
  | .cnt, ρ, μ => .cnt ρ μ

def fin : OS → Out Val
  | .nx _ μ => .ok .non μ
  | .ret v μ => .ok v μ
  | .exc c fs _ μ => .exc c fs μ
  | _ => .fail

structure Fn where
  params : Nat
  slots : Nat
  body : MS
  deriving Repr
def enter (d : Fn) (vs : List Val) : Loc := vs.map some ++ List.replicate (d.slots - vs.length) none
/-- a call, n calls deep at most -/
def run (P : Nat → Option Fn) : Nat → CallF
  | 0, _, _, _ => .fail
  | n + 1, k, vs, μ => match P k with
    | some d => if vs.length = d.params then cleanO μ (fin (ex (run P n) d.body (enter d vs) μ)) else .fail
    | none => .fail
end Mi
end

section
set_option Elab.async false
set_option linter.all false
set_option maxRecDepth 100000
set_option autoImplicit false
/-! DX: dicts whose keys are tuples (of ints, bools, None and such tuples), seen as one thing of the heap. -/
namespace DX
open PySem PySem.Spec L2
open PyProof.Rows hiding St
abbrev Ent := NestedKey × Addr × V
abbrev EntR : List Ent → List (NestedKey × Addr × Value) → Prop := Paired fun p q => p.1 = q.1 ∧ p.2.1 = q.2.1 ∧ RelV p.2.2 q.2.2
/-- its hash is the same in all worlds -/
def TF (k : NestedKey) : Prop := ∀ w w' : World, k.hash w = k.hash w'
def DXok (a : Addr) (ents : List Ent) (h : Heap) : Prop := (a == sysModules) = false ∧ ents.length ≤ sizeLine ∧ (∀ e ∈ ents, TF e.1) ∧ (ents.map (·.1)).Nodup ∧
  ∃ xs, EntR ents xs ∧ ∃ o es ep, h.get? a = some o ∧ o.ExactDict ∧ o.data = .dict es ep ∧ ∀ w : World, es.toList = xs.map fun x => (⟨x.1.hash w, .ref x.2.1, x.2.2⟩ : DictEntry)
def DXo (a : Addr) (ents : List Ent) : HO := .ext (DXok a ents)
theorem dx_ok {P : Program} {w : World} {H : Hp} {h : Heap} {a : Addr} {ents : List Ent} (R : DXok a ents h) : ObjOk P w H h a (DXo a ents) := by
  obtain ⟨h1, h2, h3, h4, xs, hr, o, es, ep, ho, hx, hd, he⟩ := id R
  refine ⟨R, ⟨o, ho⟩, fun g1 g2 p k => ?_⟩
  obtain ⟨h1, h2, h3, h4, xs, hr, o, es, ep, ho, hx, hd, he⟩ := p
  exact ⟨h1, h2, h3, h4, xs, hr, o, es, ep, k o ho, hx, hd, he⟩
def lookX (ents : List Ent) (k : NestedKey) : Option V := (ents.find? fun x => decide (x.1 = k)).map (·.2.2)
def putX (ents : List Ent) (k : NestedKey) (b : Addr) (v : V) : List Ent :=
  if (lookX ents k).isSome then ents.map (fun x => if x.1 = k then (x.1, x.2.1, v) else x) else ents ++ [(k, b, v)]
theorem EntR.keys : ∀ {ents : List Ent} {xs : List (NestedKey × Addr × Value)}, EntR ents xs → ents.map (·.1) = xs.map (·.1)
  | _, _, .nil => rfl
  | _, _, .cons h t => by rw [List.map_cons, List.map_cons, h.1, EntR.keys t]
theorem EntR.look : ∀ {ents : List Ent} {xs : List (NestedKey × Addr × Value)} (k : NestedKey), EntR ents xs → RelO (lookX ents k) ((atKey xs k).map (·.2))
  | _, _, k, .nil => True.intro
  | e :: ents, x :: xs, k, .cons h t => by
    unfold lookX atKey
    rw [List.find?_cons, List.find?_cons]
    by_cases hk : e.1 = k
    · rw [decide_eq_true hk, decide_eq_true (h.1.symm.trans hk)]
      exact h.2.2
    · rw [decide_eq_false hk, decide_eq_false (fun z => hk (h.1.trans z))]
      exact EntR.look k t
theorem EntR.repl (k : NestedKey) {v : V} {u : Value} (rv : RelV v u) : ∀ {ents : List Ent} {xs : List (NestedKey × Addr × Value)}, EntR ents xs → EntR (ents.map fun x => if x.1 = k then (x.1, x.2.1, v) else x) (xs.map (putAt k u))
  | _, _, .nil => .nil
  | e :: ents, x :: xs, .cons h t => by
    rw [List.map_cons, List.map_cons]
    refine .cons ?_ (EntR.repl k rv t)
    unfold putAt
    by_cases hk : e.1 = k
    · rw [if_pos hk, if_pos (h.1.symm.trans hk)]
      exact ⟨h.1, h.2.1, rv⟩
    · rw [if_neg hk, if_neg (fun z => hk (h.1.trans z))]
      exact h
theorem EntR.snoc {e : Ent} {x : NestedKey × Addr × Value} (h : e.1 = x.1 ∧ e.2.1 = x.2.1 ∧ RelV e.2.2 x.2.2) : ∀ {ents : List Ent} {xs : List (NestedKey × Addr × Value)}, EntR ents xs → EntR (ents ++ [e]) (xs ++ [x])
  | _, _, .nil => .cons h .nil
  | _, _, .cons g t => .cons g (EntR.snoc h t)
theorem RelO.some_eq {o : Option V} {u : Option Value} (r : RelO o u) : o.isSome = u.isSome := by
  cases o <;> cases u <;> first | rfl | exact r.elim
theorem EntR.put {ents : List Ent} {xs : List (NestedKey × Addr × Value)} (r : EntR ents xs) (k : NestedKey) (b : Addr) {v : V} {u : Value} (rv : RelV v u) : EntR (putX ents k b v) (storedH xs k b u) := by
  have e := RelO.some_eq (r.look k)
  rw [Option.isSome_map] at e
  unfold putX storedH
  rw [e]
  by_cases h : (atKey xs k).isSome = true
  · rw [if_pos h, if_pos h]; exact r.repl k rv
  · rw [if_neg h, if_neg h]; exact r.snoc ⟨rfl, rfl, rv⟩
theorem EntR.mem : ∀ {ents : List Ent} {xs : List (NestedKey × Addr × Value)}, EntR ents xs → ∀ x ∈ xs, ∃ e ∈ ents, e.1 = x.1 ∧ e.2.1 = x.2.1
  | _, _, .nil, x, hx => by cases hx
  | e :: _, _ :: _, .cons h t, x, hx => by
    rcases List.mem_cons.mp hx with rfl | hx
    · exact ⟨e, List.mem_cons_self .., h.1, h.2.1⟩
    · obtain ⟨e', he, h'⟩ := EntR.mem t x hx
      exact ⟨e', List.mem_cons_of_mem _ he, h'⟩
theorem putX_len (ents : List Ent) (k : NestedKey) (b : Addr) (v : V) : (putX ents k b v).length ≤ ents.length + 1 := by
  unfold putX
  split <;> simp
theorem putX_mem {ents : List Ent} {k : NestedKey} {b : Addr} {v : V} {e : Ent} (h : e ∈ putX ents k b v) : (∃ e' ∈ ents, e'.1 = e.1 ∧ e'.2.1 = e.2.1) ∨ (e.1 = k ∧ e.2.1 = b) := by
  unfold putX at h
  split at h
  · obtain ⟨x, hx, rfl⟩ := List.mem_map.mp h
    refine .inl ⟨x, hx, ?_⟩
    split <;> exact ⟨rfl, rfl⟩
  · rcases List.mem_append.mp h with h | h
    · exact .inl ⟨e, h, rfl, rfl⟩
    · rw [List.mem_singleton.mp h]; exact .inr ⟨rfl, rfl⟩
section
variable {X : Cx} {pins : List (Addr × Obj)} {σ : St} {H : Hp} {s : Shared} {a b : Addr} {ents : List Ent} {k : NestedKey} {A : Around} {E : Value → Shared → Prop}
abbrev Keyed (X : Cx) (s : Shared) (ents : List Ent) : Prop := ∀ e ∈ ents, (nestedKind X.prog X.w).is s.heap e.1 e.2.1
theorem dx_at (I : Inv X pins σ H s) (e : H a = some (DXo a ents)) : DXok a ents s.heap := (I.hok a _ e).1
theorem dx_of (R : DXok a ents s.heap) (hk : Keyed X s ents) : ∃ xs, EntR ents xs ∧ s.heap.DictOfH (nestedKind X.prog X.w) a xs := by
  obtain ⟨h1, h2, h3, h4, xs, hr, o, es, ep, ho, hx, hd, he⟩ := R
  refine ⟨xs, hr, o, es, ep, ho, hx, hd, he X.w, fun x hx => ?_, by rw [← hr.keys]; exact h4⟩
  obtain ⟨e', he', e1, e2⟩ := hr.mem x hx
  rw [← e1, ← e2]
  exact hk e' he'
theorem dx_typeIs (I : Inv X pins σ H s) (e : H a = some (DXo a ents)) : s.TypeIs (.ref a) "dict" ∧ (∀ b, Value.ref a = .ref b → ∃ ob, s.heap.get? b = some ob ∧ ob.dict = none) := by
  obtain ⟨h1, h2, h3, h4, xs, hr, o, es, ep, ho, hx, hd, he⟩ := dx_at I e
  exact ⟨⟨o, ho, hx.1⟩, fun b z => by cases z; exact ⟨o, ho, hx.2.1⟩⟩
theorem back {h' : Heap} {xs : List (NestedKey × Addr × Value)} (h1 : (a == sysModules) = false) (h2 : ents.length ≤ sizeLine) (h3 : ∀ e ∈ ents, TF e.1) (hr : EntR ents xs) (hd : h'.DictOfH (nestedKind X.prog X.w) a xs) : DXok a ents h' := by
  obtain ⟨o, es, ep, ho, hx, hd, he, _, hn⟩ := hd
  refine ⟨h1, h2, h3, by rw [hr.keys]; exact hn, xs, hr, o, es, ep, ho, hx, hd, fun w => ?_⟩
  rw [he]
  refine List.map_congr_left fun x hx => ?_
  obtain ⟨e', he', e1, e2⟩ := hr.mem x hx
  show (⟨x.1.hash X.w, .ref x.2.1, x.2.2⟩ : DictEntry) = _
  rw [show x.1.hash X.w = x.1.hash w from by rw [← e1]; exact h3 e' he' _ _]
theorem dx_getItem {v : V} {Q : Value → Shared → Prop} (hu : (nestedKind X.prog X.w).room A.in1) (I : Inv X pins σ H s) (e : H a = some (DXo a ents)) (hk : Keyed X s ents) (hb : (nestedKind X.prog X.w).is s.heap k b) (l : lookX ents k = some v)
    (h : ∀ w' s', Inv X pins σ H s' → RelV v w' → Q w' s') : wpAny (model X.prog X.w) A (getItem (.ref a) (.ref b)) Q E s := by
  obtain ⟨xs, hr, hd⟩ := dx_of (dx_at I e) hk
  have r := hr.look k
  rw [l] at r
  cases q : atKey xs k with
  | none => rw [q] at r; exact r.elim
  | some p =>
    rw [q] at r
    exact wpAny_getItem_heap hu hb hd q (h _ _ (I.tok _) r)
theorem dx_in {Q : Value → Shared → Prop} (hu : (nestedKind X.prog X.w).room A.in1) (I : Inv X pins σ H s) (e : H a = some (DXo a ents)) (hk : Keyed X s ents) (hb : (nestedKind X.prog X.w).is s.heap k b)
    (h : ∀ s', Inv X pins σ H s' → Q (.bool (lookX ents k).isSome) s') : wpAny (model X.prog X.w) A (compareOp .In (.ref b) (.ref a)) Q E s := by
  obtain ⟨xs, hr, hd⟩ := dx_of (dx_at I e) hk
  have r := RelO.some_eq (hr.look k)
  rw [Option.isSome_map] at r
  refine wpAny_in_heap hu hb (dx_at I e).1 hd ?_
  rw [← r]
  exact h _ (I.tok _)
theorem dx_notIn {Q : Value → Shared → Prop} (hu : (nestedKind X.prog X.w).room A.in1) (I : Inv X pins σ H s) (e : H a = some (DXo a ents)) (hk : Keyed X s ents) (hb : (nestedKind X.prog X.w).is s.heap k b)
    (h : ∀ s', Inv X pins σ H s' → Q (.bool (!(lookX ents k).isSome)) s') : wpAny (model X.prog X.w) A (compareOp .NotIn (.ref b) (.ref a)) Q E s := by
  obtain ⟨xs, hr, hd⟩ := dx_of (dx_at I e) hk
  have r := RelO.some_eq (hr.look k)
  rw [Option.isSome_map] at r
  refine wpAny_notIn_heap hu hb (dx_at I e).1 hd ?_
  rw [← r]
  exact h _ (I.tok _)
theorem relO_getD {o : Option V} {u : Option Value} {d : V} {r : Value} (h : RelO o u) (rd : RelV d r) : RelV (o.getD d) (u.getD r) := by
  cases o <;> cases u <;> first | exact rd | exact h | exact h.elim
theorem dx_get1 {Q : Value → Shared → Prop} (hu : (nestedKind X.prog X.w).room A.in1) (I : Inv X pins σ H s) (e : H a = some (DXo a ents)) (hk : Keyed X s ents) (hb : (nestedKind X.prog X.w).is s.heap k b)
    (h : ∀ w' s', Inv X pins σ H s' → RelV ((lookX ents k).getD .non) w' → Q w' s') : wpAny (model X.prog X.w) A (call (.builtin "dict.get") [.ref a, .ref b]) Q E s := by
  obtain ⟨xs, hr, hd⟩ := dx_of (dx_at I e) hk
  exact call_meetsIn PySem.F.slot_dict_get hd.typeIs PySem.F.entry_dict_get (PySem.F.args_dict_get_2 _ _) (meetsH_dict_get (nestedKind X.prog X.w) a b (dx_at I e).1) ⟨hu, k, xs, hb, hd, h _ _ (I.tok _) (relO_getD (hr.look k) rfl)⟩
theorem dx_get2 {d : V} {r : Value} {Q : Value → Shared → Prop} (hu : (nestedKind X.prog X.w).room A.in1) (I : Inv X pins σ H s) (e : H a = some (DXo a ents)) (hk : Keyed X s ents) (hb : (nestedKind X.prog X.w).is s.heap k b) (rd : RelV d r)
    (h : ∀ w' s', Inv X pins σ H s' → RelV ((lookX ents k).getD d) w' → Q w' s') : wpAny (model X.prog X.w) A (call (.builtin "dict.get") [.ref a, .ref b, r]) Q E s := by
  obtain ⟨xs, hr, hd⟩ := dx_of (dx_at I e) hk
  exact call_meetsIn PySem.F.slot_dict_get hd.typeIs PySem.F.entry_dict_get (PySem.F.args_dict_get_3 _ _ _) (meetsH_dict_get_default (nestedKind X.prog X.w) a b (dx_at I e).1 r) ⟨hu, k, xs, hb, hd, h _ _ (I.tok _) (relO_getD (hr.look k) rd)⟩
theorem dx_written {h' : Heap} {t' : Nat} {v : V} {u : Value} {xs : List (NestedKey × Addr × Value)} (I : Inv X pins σ H s) (e : H a = some (DXo a ents)) (hl : ents.length < sizeLine) (tf : TF k) (hr : EntR ents xs) (rv : RelV v u)
    (hd : h'.DictOfH (nestedKind X.prog X.w) a (storedH xs k b u)) (hs : Heap.SameBut a s.heap h') : Inv X pins σ (upd H a (DXo a (putX ents k b v))) { s with heap := h', toks := t' } := by
  have R := dx_at I e
  have R' : DXok a (putX ents k b v) h' := back R.1 (by have := putX_len ents k b v; omega) (fun x hx => by
    rcases putX_mem hx with ⟨y, hy, e1, _⟩ | ⟨e1, _⟩
    · rw [← e1]; exact R.2.2.1 y hy
    · rw [e1]; exact tf) (hr.put k b rv) hd
  obtain ⟨_, _, _, _, _, _, o, _, _, ho, _⟩ := id R'
  exact I.write (x := a) (e := a) (t' := t') (by rw [e]; exact True.intro) (.inl rfl) (fun c q hc z => (hs.2 c hc).trans z) ⟨o, ho⟩ (dx_ok R')
theorem dx_setItem {v : V} {u : Value} {Q : Unit → Shared → Prop} (hu : (nestedKind X.prog X.w).room A.in1) (I : Inv X pins σ H s) (e : H a = some (DXo a ents)) (hl : ents.length < sizeLine) (tf : TF k) (hk : Keyed X s ents) (hb : (nestedKind X.prog X.w).is s.heap k b) (rv : RelV v u)
    (h : ∀ s', Inv X pins σ (upd H a (DXo a (putX ents k b v))) s' → Q () s') : wpAny (model X.prog X.w) A (setItem (.ref a) (.ref b) u) Q E s := by
  obtain ⟨xs, hr, hd⟩ := dx_of (dx_at I e) hk
  exact wpAny_setItem_heap (hsz := by rw [← Paired.length hr]; omega) hu hb hd fun h' hd' hs => h _ (dx_written I e hl tf hr rv hd' hs)
theorem dx_setd {d : V} {r : Value} {Q : Value → Shared → Prop} (hu : (nestedKind X.prog X.w).room A.in1) (I : Inv X pins σ H s) (e : H a = some (DXo a ents)) (hl : ents.length < sizeLine) (tf : TF k) (hk : Keyed X s ents) (hb : (nestedKind X.prog X.w).is s.heap k b) (rd : RelV d r)
    (h1 : ∀ v, lookX ents k = some v → ∀ w' s', Inv X pins σ H s' → RelV v w' → Q w' s') (h2 : lookX ents k = none → ∀ w' s', Inv X pins σ (upd H a (DXo a (putX ents k b d))) s' → RelV d w' → Q w' s') :
    wpAny (model X.prog X.w) A (call (.builtin "dict.setdefault") [.ref a, .ref b, r]) Q E s := by
  obtain ⟨xs, hr, hd⟩ := dx_of (dx_at I e) hk
  have rl := hr.look k
  refine call_setdefault_heap (hsz := by rw [← Paired.length hr]; omega) hu hb (dx_at I e).1 hd (fun p hp => ?_) fun hn h' hd' hs => ?_
  · rw [hp] at rl
    cases q : lookX ents k with
    | none => rw [q] at rl; exact rl.elim
    | some v => rw [q] at rl; exact h1 v q _ _ (I.tok _) rl
  · rw [hn] at rl
    cases q : lookX ents k with
    | some v => rw [q] at rl; exact rl.elim
    | none => exact h2 q _ _ (dx_written I e hl tf hr rd hd' hs) rd
theorem dx_len {Q : Value → Shared → Prop} (I : Inv X pins σ H s) (e : H a = some (DXo a ents)) (hk : Keyed X s ents) (h : ∀ t s', Inv X pins σ H s' → Q (.int ents.length t) s') : wpAny (model X.prog X.w) A (call (.builtin "len") [.ref a]) Q E s := by
  have R := dx_at I e
  obtain ⟨xs, hr, hd⟩ := dx_of R hk
  have hn : xs.length = ents.length := (Paired.length hr).symm
  have hz := R.2.1
  rw [sizeLine_eq] at hz
  have hm : s.heap.DictKeyed (nestedKind X.prog X.w) a (pairsH xs) := ⟨xs, hd, rfl⟩
  refine call_len_slot (n := ((pairsH xs).length : Nat)) hm.typeIs PySem.F.slot_dict_len (fun Q' hq => len_keyed R.1 hm hq) (by omega) (by rw [pairsH_length, hn]; omega) ?_
  rw [pairsH_length, hn]
  exact h _ _ (I.tok _)
end
/-! {} -/
theorem dx_empty {h : Heap} (hb : sysModules < h.objs.size) : DXok h.objs.size [] (h.push { cls := .type "dict", data := .dict #[] }) := by
  refine ⟨beq_eq_false_iff_ne.mpr (Ne.symm (Nat.ne_of_lt hb)), Nat.zero_le _, ?_, List.nodup_nil, [], .nil, ?_⟩
  · intro e he
    cases he
  · exact ⟨_, #[], 0, Heap.get?_push_size _ rfl, ⟨rfl, rfl, rfl⟩, rfl, fun _ => rfl⟩
def tDNewX : TE := fun _ H Q => ∀ p, H p = none → Q (.ref p) (upd H p (DXo p []))
theorem pe_dnewX {X : Cx} {pos : Pos} : PE X (.Dict [] [] pos) tDNewX := ⟨fun pins s σ H Q I h =>
  wpAny_Dict_empty ⟨.ref s.heap.objs.size, _, I.laid (a := s.heap.objs.size) (o := DXo s.heap.objs.size []) (t' := s.toks) (fun _ _ q => Heap.get?_push_of_some _ q) (Nat.le_refl _) (dx_ok (dx_empty I.big)), rfl, h _ (I.hok.fresh (Nat.le_refl _))⟩⟩
/-! dict(pairs) -/
def putsX (acc : List Ent) (ents : List Ent) : List Ent := ents.foldl (fun acc e => putX acc e.1 e.2.1 e.2.2) acc
theorem EntR.puts : ∀ {ents acc : List Ent} {ys xs : List (NestedKey × Addr × Value)}, EntR ents ys → EntR acc xs → EntR (putsX acc ents) (storedAllH xs ys)
  | [], _, [], _, .nil, r => r
  | e :: ents, acc, y :: ys, xs, .cons h t, r => by
    show EntR (putsX (putX acc e.1 e.2.1 e.2.2) ents) (storedAllH (storedH xs y.1 y.2.1 y.2.2) ys)
    rw [← h.1, ← h.2.1]
    exact EntR.puts t (r.put _ _ h.2.2)
theorem putsX_len : ∀ (ents acc : List Ent), (putsX acc ents).length ≤ acc.length + ents.length
  | [], acc => Nat.le_refl _
  | e :: ents, acc => by
    have h1 := putsX_len ents (putX acc e.1 e.2.1 e.2.2)
    have h2 := putX_len acc e.1 e.2.1 e.2.2
    show (putsX (putX acc e.1 e.2.1 e.2.2) ents).length ≤ _
    rw [List.length_cons]; omega
theorem putsX_mem : ∀ {ents acc : List Ent} {e : Ent}, e ∈ putsX acc ents → ∃ e' ∈ acc ++ ents, e'.1 = e.1 ∧ e'.2.1 = e.2.1
  | [], acc, e, h => ⟨e, List.mem_append_left _ h, rfl, rfl⟩
  | x :: ents, acc, e, h => by
    obtain ⟨e', he', e1, e2⟩ := putsX_mem (ents := ents) (acc := putX acc x.1 x.2.1 x.2.2) h
    rcases List.mem_append.mp he' with h | h
    · rcases putX_mem h with ⟨y, hy, z1, z2⟩ | ⟨z1, z2⟩
      · exact ⟨y, List.mem_append_left _ hy, z1.trans e1, z2.trans e2⟩
      · exact ⟨x, by simp, z1.symm.trans e1, z2.symm.trans e2⟩
    · exact ⟨e', by simp [h], e1, e2⟩
theorem two_of {xs : List V} {its : List Value} {x y : V} (h : Vals [x, y] its) : ∃ u v, its = [u, v] ∧ RelV x u ∧ RelV y v := by
  cases h with
  | cons h1 t =>
    cases t with
    | cons h2 t2 =>
      cases t2
      exact ⟨_, _, rfl, h1, h2⟩
theorem pairs_X {X : Cx} {pins : List (Addr × Obj)} {σ : St} {H : Hp} {s : Shared} (I : Inv X pins σ H s) : ∀ {ps : List Addr} {ents : List Ent}, Paired (fun p (e : Ent) => SqT X.K H p [.ref e.2.1, e.2.2]) ps ents →
    ∃ ys : List (NestedKey × Addr × Value), EntR ents ys ∧ ys.length = ps.length ∧ ∀ (j : Nat) (y : NestedKey × Addr × Value), ys[j]? = some y → ∃ b, ps[j]? = some b ∧ IsTup s.heap b #[.ref y.2.1, y.2.2]
  | _, _, .nil => ⟨[], .nil, rfl, fun j q e => by simp at e⟩
  | _, _, .cons (a := p) (b := e) h t => by
    obtain ⟨ys, r, hl, hp⟩ := pairs_X I t
    obtain ⟨its, rv, ht, _⟩ := I.tuple h
    obtain ⟨u, v, rfl, ru, ry⟩ := two_of (xs := []) rv
    obtain rfl : u = .ref e.2.1 := ru
    refine ⟨(e.1, e.2.1, v) :: ys, .cons ⟨rfl, rfl, ry⟩ r, by rw [List.length_cons, List.length_cons, hl], fun j q hq => ?_⟩
    cases j with
    | zero => cases hq; exact ⟨p, rfl, ht⟩
    | succ j =>
      obtain ⟨b, e1, e2⟩ := hp j q (by simpa using hq)
      exact ⟨b, by simpa using e1, e2⟩
theorem call_dictX {X : Cx} (hcalm : X.calm = true) (hu : X.A.units + 16 < cLine) : CallR X (.type "dict") (fun xs H Q => ∃ (a : Addr) (ps : List Addr) (ents : List Ent), xs = [.ref a] ∧ SqL X.K H a (ps.map V.ref) ∧ Paired (fun p (e : Ent) => SqT X.K H p [.ref e.2.1, e.2.2]) ps ents ∧
    (∀ e ∈ ents, TF e.1) ∧ (∀ pins σ s, Inv X pins σ H s → Keyed X s ents) ∧ ∀ p, H p = none → Q (.ref p) (upd H p (DXo p (putsX [] ents)))) := by
  intro pins s σ H xs us Q I r q
  obtain ⟨a, ps, ents, ex, hq, hp, htf, hky, q⟩ := q
  subst ex
  obtain ⟨u, eu, rx⟩ := vals1 r
  subst eu
  cases rx
  obtain ⟨its, rv, pl, hz⟩ := I.list hq
  have ei := refs_at rv
  subst ei
  rw [List.length_map] at hz
  obtain ⟨ys, rel, hl, hpr⟩ := pairs_X I hp
  have hpl : PlainSeq "list" s.heap a (ps.map Value.ref).toArray := pl
  have hk0 := hky _ _ _ I
  have hkeys : ∀ y ∈ ys, (nestedKind X.prog X.w).is s.heap y.1 y.2.1 := fun y hy => by
    obtain ⟨e, he, e1, e2⟩ := rel.mem y hy
    rw [← e1, ← e2]
    exact hk0 e he
  have hitems : PairItems s.heap (ps.map Value.ref).toArray (fun j => ps.getD j 0) (ys.map fun y => (Value.ref y.2.1, y.2.2)) := by
    refine ⟨by simp [hl], fun j k v e => ?_⟩
    rw [List.getElem?_map] at e
    cases hy : ys[j]? with
    | none => rw [hy] at e; cases e
    | some y =>
      rw [hy] at e
      cases e
      obtain ⟨b, e1, e2⟩ := hpr j y hy
      have eb : ps.getD j 0 = b := by rw [List.getD_eq_getElem?_getD, e1]; rfl
      refine ⟨by simp [e1, eb], .inl ?_⟩
      show s.heap.IsTuple (ps.getD j 0) #[Value.ref y.snd.fst, y.snd.snd]
      rw [eb]
      obtain ⟨o, ho, hc, n, hd⟩ := e2
      exact ⟨o, ho, hc, n, hd⟩
  have hroom : (nestedKind X.prog X.w).room X.A.in1.in1 := by
    show X.A.units + 1 + 1 + 8 < cLine
    omega
  refine call_dict_pairsH (knd := nestedKind X.prog X.w) (ps := ys) (PairArg.list (prog := X.prog) (w := X.w) a (ps.map Value.ref).toArray (fun j => ps.getD j 0) (ys.map fun y => (Value.ref y.2.1, y.2.2))) (I.ok.hd hcalm) hroom ⟨hpl, hitems⟩
    ⟨by simp, fun i key v e => ?_⟩ (fun h' hk x hx => nestedKind_stays.stays (fun b o vs n e _ => hk b o (Nat.ne_of_lt (Heap.lt_size e)) (fun z => nomatch z) e) (hkeys x hx)) (by rw [List.length_map, hl]; exact hz) fun h' tk hd' k => ?_
  · have e' : (ys.map fun y => (Value.ref y.2.1, y.2.2))[i]? = some (key, v) := e
    rw [List.getElem?_map] at e'
    cases hy : ys[i]? with
    | none => rw [hy] at e'; cases e'
    | some y =>
      rw [hy] at e'
      cases e'
      exact ⟨y.1, y.2.1, rfl, rfl⟩
  · have hm : (s.heap.objs.size == sysModules) = false := beq_eq_false_iff_ne.mpr (Nat.ne_of_gt I.big)
    have hR := EntR.puts (acc := []) rel .nil
    have R : DXok s.heap.objs.size (putsX [] ents) h' := back hm (by have := putsX_len ents []; have := Paired.length rel; simp at *; omega) (fun e he => by
      obtain ⟨e', he', e1, _⟩ := putsX_mem he
      rw [← e1]
      exact htf e' (by simpa using he')) hR hd'
    exact ⟨.ref s.heap.objs.size, upd H s.heap.objs.size (DXo s.heap.objs.size (putsX [] ents)), I.laid (t' := tk) (fun b o e => k b o (fun z => nomatch z) e) (Nat.le_refl _) (dx_ok R), rfl, q _ (I.hok.fresh (Nat.le_refl _))⟩
end DX
end

section
set_option Elab.async false
set_option linter.all false
set_option maxRecDepth 100000
set_option autoImplicit false
/-! Dkey: keys of dicts. -/
namespace Mi
open PySem PySem.Spec L2
open PyProof.Rows hiding St
mutual
def nk : Val → NestedKey
  | .non => .none
  | .bl b => .num (if b then 1 else 0)
  | .int i => .num i
  | .str s => .text ⟨s.toArray⟩
  | .tup vs => .tup (nks vs)
  | _ => .none
def nks : List Val → List NestedKey
  | [] => []
  | v :: vs => nk v :: nks vs
end
mutual
theorem nk_depth : ∀ (n : Nat) (v : Val), v.hk n = true → (nk v).depth ≤ n
  | _, .non, _ => by simp [nk, NestedKey.depth]
  | _, .bl _, _ => by simp [nk, NestedKey.depth]
  | _, .int _, _ => by simp [nk, NestedKey.depth]
  | n, .str _, h => by cases n <;> simp [Val.hk] at h
  | 0, .tup _, h => by simp [Val.hk] at h
  | n + 1, .tup vs, h => by
    rw [Val.hk] at h
    have := nks_depth n vs h
    simp only [nk, NestedKey.depth]
    omega
  | n, .ref _, h => by cases n <;> simp [Val.hk] at h
  | n, .scr _, h => by cases n <;> simp [Val.hk] at h
  | n, .zp .., h => by cases n <;> simp [Val.hk] at h
theorem nks_depth : ∀ (n : Nat) (vs : List Val), hks n vs = true → NestedKey.depthAll (nks vs) ≤ n
  | _, [], _ => by simp [nks, NestedKey.depthAll]
  | n, v :: vs, h => by
    rw [hks, Bool.and_eq_true] at h
    have h1 := nk_depth n v h.1
    have h2 := nks_depth n vs h.2
    simp only [nks, NestedKey.depthAll]
    omega
end
mutual
theorem nk_hash (w w' : World) : ∀ (n : Nat) (v : Val), v.hk n = true → (nk v).hash w = (nk v).hash w'
  | _, .non, _ => by simp only [nk, NestedKey.hash]
  | _, .bl _, _ => by simp only [nk, NestedKey.hash]
  | _, .int _, _ => by simp only [nk, NestedKey.hash]
  | n, .str _, h => by cases n <;> simp [Val.hk] at h
  | 0, .tup _, h => by simp [Val.hk] at h
  | n + 1, .tup vs, h => by
    rw [Val.hk] at h
    simp only [nk, NestedKey.hash]
    rw [nks_hash w w' n vs h]
  | n, .ref _, h => by cases n <;> simp [Val.hk] at h
  | n, .scr _, h => by cases n <;> simp [Val.hk] at h
  | n, .zp .., h => by cases n <;> simp [Val.hk] at h
theorem nks_hash (w w' : World) : ∀ (n : Nat) (vs : List Val), hks n vs = true → NestedKey.hashes w (nks vs) = NestedKey.hashes w' (nks vs)
  | _, [], _ => by simp only [nks, NestedKey.hashes]
  | n, v :: vs, h => by
    rw [hks, Bool.and_eq_true] at h
    simp only [nks, NestedKey.hashes]
    rw [nk_hash w w' n v h.1, nks_hash w w' n vs h.2]
end
theorem dec_b {p q : Prop} [Decidable p] [Decidable q] (h : p ↔ q) : decide p = decide q := by
  by_cases hp : p
  · rw [decide_eq_true hp, decide_eq_true (h.mp hp)]
  · rw [decide_eq_false hp, decide_eq_false (fun z => hp (h.mpr z))]
mutual
theorem eqv_nk : ∀ (n m : Nat) (v w : Val), v.hk n = true → w.hk m = true → eqv v w = NestedKey.beq (nk v) (nk w)
  | n, m, v, w, hv, hw => by
    cases v with
    | non => cases w <;> first | (simp [nk, NestedKey.beq, eqv]; done) | (cases m <;> simp [Val.hk] at hw)
    | bl a =>
      cases w with
      | bl b => cases a <;> cases b <;> simp [nk, NestedKey.beq, eqv]
      | int b => simp only [nk, NestedKey.beq, eqv]; exact Bool.beq_eq_decide_eq _ _
      | non => simp [nk, NestedKey.beq, eqv]
      | str b => simp [nk, NestedKey.beq, eqv]
      | tup b => simp [nk, NestedKey.beq, eqv]
      | _ => cases m <;> simp [Val.hk] at hw
    | int a =>
      cases w with
      | bl b => simp only [nk, NestedKey.beq, eqv]; exact Bool.beq_eq_decide_eq _ _
      | int b => simp only [nk, NestedKey.beq, eqv]; exact Bool.beq_eq_decide_eq _ _
      | non => simp [nk, NestedKey.beq, eqv]
      | str b => simp [nk, NestedKey.beq, eqv]
      | tup b => simp [nk, NestedKey.beq, eqv]
      | _ => cases m <;> simp [Val.hk] at hw
    | str a => cases n <;> simp [Val.hk] at hv
    | tup a =>
      cases n with
      | zero => simp [Val.hk] at hv
      | succ n =>
        cases w with
        | tup b =>
          cases m with
          | zero => simp [Val.hk] at hw
          | succ m =>
            rw [Val.hk] at hv hw
            simp only [nk, NestedKey.beq, eqv]
            exact eqvs_nk n m a b hv hw
        | _ => first | (simp [nk, NestedKey.beq, eqv]; done) | (cases m <;> simp [Val.hk] at hw)
    | ref _ => cases n <;> simp [Val.hk] at hv
    | scr _ => cases n <;> simp [Val.hk] at hv
    | zp _ _ _ _ => cases n <;> simp [Val.hk] at hv
theorem eqvs_nk : ∀ (n m : Nat) (vs ws : List Val), hks n vs = true → hks m ws = true → eqvs vs ws = NestedKey.beqAll (nks vs) (nks ws)
  | _, _, [], [], _, _ => by simp [nks, NestedKey.beqAll, eqvs]
  | _, _, [], w :: ws, _, _ => by simp [nks, NestedKey.beqAll, eqvs]
  | _, _, v :: vs, [], _, _ => by simp [nks, NestedKey.beqAll, eqvs]
  | n, m, v :: vs, w :: ws, hv, hw => by
    rw [hks, Bool.and_eq_true] at hv hw
    simp only [nks, NestedKey.beqAll, eqvs, eqv_nk n m v w hv.1 hw.1, eqvs_nk n m vs ws hv.2 hw.2]
end
theorem keyOk_t {k : Val} (h : keyOk true k = true) : ∃ vs, k = .tup vs ∧ k.hk 8 = true := by
  cases k with
  | tup vs => exact ⟨vs, rfl, by simpa [keyOk, Val.hk] using h⟩
  | _ => simp [keyOk] at h
theorem eqv_nkd {k k' : Val} (h : keyOk true k = true) (h' : keyOk true k' = true) : eqv k k' = decide (nk k = nk k') := by
  obtain ⟨_, _, h1⟩ := keyOk_t h
  obtain ⟨_, _, h2⟩ := keyOk_t h'
  rw [NestedKey.decide_eq]
  exact eqv_nk 8 8 k k' h1 h2
theorem tf_of {k : Val} (h : keyOk true k = true) : DX.TF (nk k) := by
  obtain ⟨_, _, h1⟩ := keyOk_t h
  exact fun w w' => nk_hash w w' 8 k h1
/-- ints and texts -/
def keyV : Val → Key
  | .int i => .inl i
  | .str s => .inr ⟨s.toArray⟩
  | _ => .inl 0
theorem eqv_key {k k' : Val} (h : keyOk false k = true) (h' : keyOk false k' = true) : eqv k k' = decide (keyV k = keyV k') := by
  cases k with
  | int i =>
    cases k' with
    | int j =>
      show (i == j) = decide ((Sum.inl i : Key) = Sum.inl j)
      rw [Bool.beq_eq_decide_eq]
      exact dec_b ⟨fun e => by rw [e], fun e => Sum.inl.inj e⟩
    | str s =>
      show false = decide ((Sum.inl i : Key) = Sum.inr _)
      exact (decide_eq_false (fun z => nomatch z)).symm
    | _ => simp [keyOk] at h'
  | str s =>
    cases k' with
    | int j =>
      show false = decide ((Sum.inr _ : Key) = Sum.inl j)
      exact (decide_eq_false (fun z => nomatch z)).symm
    | str t =>
      show (s == t) = decide ((Sum.inr (⟨s.toArray⟩ : Str) : Key) = Sum.inr ⟨t.toArray⟩)
      rw [Bool.beq_eq_decide_eq]
      refine dec_b ⟨fun e => by rw [e], fun e => ?_⟩
      have e1 : (⟨s.toArray⟩ : Str) = ⟨t.toArray⟩ := Sum.inr.inj e
      have e2 : s.toArray = t.toArray := by injection e1
      simpa using congrArg Array.toList e2
    | _ => simp [keyOk] at h'
  | _ => simp [keyOk] at h
end Mi
end

section
set_option Elab.async false
set_option linter.all false
set_option maxRecDepth 100000
set_option autoImplicit false
/-! Sound1: how values and cells lie in the heap; operations. -/
namespace Mi
open PySem PySem.Spec L2
open PyProof.Rows hiding St

/-- a list that never changes: a locked one, or one of the written part -/
def Fz (K : PySem.W.Frag) (H : Hp) (a : Addr) (xs : List V) : Prop :=
  (∃ o, H a = some (.frz o (.lst xs))) ∨
    ∃ (o : Obj) (its : Array Value) (n : Nat), K.lookup a = some o ∧ o.cls = .type "list" ∧ o.dict = none ∧ o.data = .seq its n ∧ its.size ≤ sizeLine ∧ Vals xs its.toList
theorem Fz.seq {K : PySem.W.Frag} {H : Hp} {a : Addr} {xs : List V} (h : Fz K H a xs) : SqL K H a xs := by
  rcases h with ⟨o, h⟩ | h
  · exact .inl (.inr ⟨o, h⟩)
  · exact .inr h

mutual
def VR (K : PySem.W.Frag) (f : List Addr) (H : Hp) : Val → V → Prop
  | .non, x => x = .non
  | .bl b, x => x = .bl b
  | .int i, x => x = .int i
  | .str s, x => x = .str ⟨s.toArray⟩
  | .tup vs, x => ∃ a xs, x = .ref a ∧ SqT K H a xs ∧ VRs K f H vs xs
  | .ref n, x => ∃ a, f[n]? = some a ∧ x = .ref a
  | .scr ns, x => ∃ a, x = .ref a ∧ Fz K H a (ns.map V.int)
  | .zp .., _ => False
def VRs (K : PySem.W.Frag) (f : List Addr) (H : Hp) : List Val → List V → Prop
  | [], xs => xs = []
  | v :: vs, xs => ∃ x r, xs = x :: r ∧ VR K f H v x ∧ VRs K f H vs r
end

/-- tuples and locked things stand -/
structure Keep (H H' : Hp) : Prop where
  tup : ∀ b xs, H b = some (.tup xs) → H' b = some (.tup xs)
  frz : ∀ b o u, H b = some (.frz o u) → H' b = some (.frz o u)
theorem Keep.refl (H : Hp) : Keep H H := ⟨fun _ _ h => h, fun _ _ _ h => h⟩
theorem Keep.trans {H H1 H2 : Hp} (a : Keep H H1) (b : Keep H1 H2) : Keep H H2 := ⟨fun c xs h => b.tup c xs (a.tup c xs h), fun c o u h => b.frz c o u (a.frz c o u h)⟩
theorem Keep.sqT {K : PySem.W.Frag} {H H' : Hp} {a : Addr} {xs : List V} (k : Keep H H') (h : SqT K H a xs) : SqT K H' a xs := by
  rcases h with (h | ⟨o, h⟩) | h
  · exact .inl (.inl (k.tup _ _ h))
  · exact .inl (.inr ⟨o, k.frz _ _ _ h⟩)
  · exact .inr h
theorem Keep.fz {K : PySem.W.Frag} {H H' : Hp} {a : Addr} {xs : List V} (k : Keep H H') (h : Fz K H a xs) : Fz K H' a xs := by
  rcases h with ⟨o, h⟩ | h
  · exact .inl ⟨o, k.frz _ _ _ h⟩
  · exact .inr h
theorem Keep.new {H : Hp} {p : Addr} {o : HO} (h : H p = none) : Keep H (upd H p o) :=
  ⟨fun b xs e => by rw [upd_ne (ne_of_none e h)]; exact e, fun b x u e => by rw [upd_ne (ne_of_none e h)]; exact e⟩
theorem Keep.lst {H : Hp} {p : Addr} {xs : List V} {o : HO} (h : H p = some (.lst xs)) : Keep H (upd H p o) :=
  ⟨fun b ys e => by rw [upd_ne (ne_of e h (by intro z; cases z))]; exact e, fun b x u e => by rw [upd_ne (ne_of e h (by intro z; cases z))]; exact e⟩

theorem Keep.put {H : Hp} {p : Addr} {u o : HO} (h : H p = some u) (ht : ∀ xs, u ≠ .tup xs) (hf : ∀ o' u', u ≠ .frz o' u') : Keep H (upd H p o) :=
  ⟨fun b ys e => by rw [upd_ne (ne_of e h (fun z => ht _ z.symm))]; exact e, fun b x w e => by rw [upd_ne (ne_of e h (fun z => hf _ _ z.symm))]; exact e⟩
/-- one place further on -/
structure Le (f : List Addr) (H : Hp) (f' : List Addr) (H' : Hp) : Prop where
  pre : f <+: f'
  kp : Keep H H'
  oth : ∀ b o, b ∉ f → H b = some o → H' b = some o ∧ b ∉ f'
theorem Le.refl (f : List Addr) (H : Hp) : Le f H f H := ⟨List.prefix_refl _, Keep.refl _, fun _ _ h e => ⟨e, h⟩⟩
theorem Le.trans {f f1 f2 : List Addr} {H H1 H2 : Hp} (a : Le f H f1 H1) (b : Le f1 H1 f2 H2) : Le f H f2 H2 := ⟨a.pre.trans b.pre, a.kp.trans b.kp, fun c o h e => let ⟨e1, h1⟩ := a.oth c o h e; b.oth c o h1 e1⟩
theorem Le.newL {f : List Addr} {H : Hp} {p : Addr} {o : HO} (hp : H p = none) : Le f H (f ++ [p]) (upd H p o) := ⟨⟨[p], rfl⟩, Keep.new hp, fun b u h e => by
  have hb : b ≠ p := ne_of_none e hp
  exact ⟨by rw [upd_ne hb]; exact e, by simp [h, hb]⟩⟩
theorem Le.beside {f : List Addr} {H : Hp} {p : Addr} {o : HO} (hp : H p = none) : Le f H f (upd H p o) := ⟨List.prefix_refl _, Keep.new hp, fun b u h e => ⟨by rw [upd_ne (ne_of_none e hp)]; exact e, h⟩⟩
theorem Le.setL {f : List Addr} {H : Hp} {p : Addr} {xs : List V} {o : HO} (hf : p ∈ f) (hp : H p = some (.lst xs)) : Le f H f (upd H p o) := ⟨List.prefix_refl _, Keep.lst hp, fun b u h e => ⟨by rw [upd_ne (show b ≠ p from fun z => h (by rw [z]; exact hf))]; exact e, h⟩⟩
theorem Le.put {f : List Addr} {H : Hp} {p : Addr} {u o : HO} (hf : p ∈ f) (hp : H p = some u) (ht : ∀ xs, u ≠ .tup xs) (hz : ∀ o' u', u ≠ .frz o' u') : Le f H f (upd H p o) := ⟨List.prefix_refl _, Keep.put hp ht hz, fun b u h e => ⟨by rw [upd_ne (show b ≠ p from fun z => h (by rw [z]; exact hf))]; exact e, h⟩⟩
theorem Le.get {f f' : List Addr} {H H' : Hp} (l : Le f H f' H') {n : Nat} {a : Addr} (h : f[n]? = some a) : f'[n]? = some a := by
  obtain ⟨t, rfl⟩ := l.pre
  have hn : n < f.length := (List.getElem?_eq_some_iff.mp h).1
  rw [List.getElem?_append_left hn]; exact h

section
variable {K : PySem.W.Frag} {f f' : List Addr} {H H' : Hp}
mutual
theorem VR.mono (l : Le f H f' H') : ∀ (v : Val) (x : V), VR K f H v x → VR K f' H' v x
  | .non, _, h => h
  | .bl _, _, h => h
  | .int _, _, h => h
  | .str _, _, h => h
  | .tup vs, x, ⟨a, xs, e, h, r⟩ => ⟨a, xs, e, l.kp.sqT h, VRs.mono l vs xs r⟩
  | .ref n, x, ⟨a, h, e⟩ => ⟨a, l.get h, e⟩
  | .scr ns, x, ⟨a, e, h⟩ => ⟨a, e, l.kp.fz h⟩
  | .zp .., _, h => h.elim
theorem VRs.mono (l : Le f H f' H') : ∀ (vs : List Val) (xs : List V), VRs K f H vs xs → VRs K f' H' vs xs
  | [], _, h => h
  | v :: vs, _, ⟨x, r, e, h, t⟩ => ⟨x, r, e, VR.mono l v x h, VRs.mono l vs r t⟩
end
mutual
/-- with more cells alone -/
theorem VR.mono0 {t : List Addr} : ∀ (v : Val) (x : V), VR K f H v x → VR K (f ++ t) H v x
  | .non, _, h => h
  | .bl _, _, h => h
  | .int _, _, h => h
  | .str _, _, h => h
  | .tup vs, x, ⟨a, xs, e, h, r⟩ => ⟨a, xs, e, h, VRs.mono0 vs xs r⟩
  | .ref n, x, ⟨a, h, e⟩ => ⟨a, by rw [List.getElem?_append_left (List.getElem?_eq_some_iff.mp h).1]; exact h, e⟩
  | .scr ns, x, ⟨a, e, h⟩ => ⟨a, e, h⟩
  | .zp .., _, h => h.elim
theorem VRs.mono0 {t : List Addr} : ∀ (vs : List Val) (xs : List V), VRs K f H vs xs → VRs K (f ++ t) H vs xs
  | [], _, h => h
  | v :: vs, _, ⟨x, r, e, h, t⟩ => ⟨x, r, e, VR.mono0 v x h, VRs.mono0 vs r t⟩
end
mutual
theorem VR.monoK (k : Keep H H') : ∀ (v : Val) (x : V), VR K f H v x → VR K f H' v x
  | .non, _, h => h
  | .bl _, _, h => h
  | .int _, _, h => h
  | .str _, _, h => h
  | .tup vs, x, ⟨a, xs, e, h, r⟩ => ⟨a, xs, e, k.sqT h, VRs.monoK k vs xs r⟩
  | .ref n, x, ⟨a, h, e⟩ => ⟨a, h, e⟩
  | .scr ns, x, ⟨a, e, h⟩ => ⟨a, e, k.fz h⟩
  | .zp .., _, h => h.elim
theorem VRs.monoK (k : Keep H H') : ∀ (vs : List Val) (xs : List V), VRs K f H vs xs → VRs K f H' vs xs
  | [], _, h => h
  | v :: vs, _, ⟨x, r, e, h, t⟩ => ⟨x, r, e, VR.monoK k v x h, VRs.monoK k vs r t⟩
end
theorem VRs.nil : VRs K f H [] [] := rfl
theorem VRs.cons {v : Val} {x : V} {vs : List Val} {xs : List V} (h : VR K f H v x) (t : VRs K f H vs xs) : VRs K f H (v :: vs) (x :: xs) := ⟨x, xs, rfl, h, t⟩
theorem VRs.length : ∀ {vs : List Val} {xs : List V}, VRs K f H vs xs → xs.length = vs.length
  | [], _, h => by rw [show _ = [] from h]; rfl
  | v :: vs, _, ⟨x, r, e, h, t⟩ => by rw [e, List.length_cons, List.length_cons, VRs.length t]
theorem VRs.append : ∀ {vs ws : List Val} {xs ys : List V}, VRs K f H vs xs → VRs K f H ws ys → VRs K f H (vs ++ ws) (xs ++ ys)
  | [], _, _, _, h, q => by rw [show _ = [] from h]; exact q
  | v :: vs, _, _, _, ⟨x, r, e, h, t⟩, q => by rw [e]; exact ⟨x, _, rfl, h, VRs.append t q⟩
theorem VRs.get : ∀ {vs : List Val} {xs : List V} {i : Nat} {v : Val}, VRs K f H vs xs → vs[i]? = some v → ∃ x, xs[i]? = some x ∧ VR K f H v x
  | [], _, _, _, _, e => by simp at e
  | v :: vs, _, 0, w, ⟨x, r, e, h, t⟩, q => by simp at q; subst q; subst e; exact ⟨x, rfl, h⟩
  | v :: vs, _, i + 1, w, ⟨x, r, e, h, t⟩, q => by
    subst e
    obtain ⟨y, h1, h2⟩ := VRs.get (i := i) t (by simpa using q)
    exact ⟨y, by simpa using h1, h2⟩
theorem VRs.get' : ∀ {vs : List Val} {xs : List V} {i : Nat} {x : V}, VRs K f H vs xs → xs[i]? = some x → ∃ v, vs[i]? = some v ∧ VR K f H v x := fun {vs xs i x} r e => by
  have hl := r.length
  have hi : i < vs.length := by rw [← hl]; exact (List.getElem?_eq_some_iff.mp e).1
  obtain ⟨y, h1, h2⟩ := r.get (List.getElem?_eq_getElem hi)
  rw [e] at h1; cases h1
  exact ⟨_, List.getElem?_eq_getElem hi, h2⟩
theorem VRs.set {v : Val} {x : V} (h : VR K f H v x) : ∀ {vs : List Val} {xs : List V} (i : Nat), VRs K f H vs xs → VRs K f H (vs.set i v) (xs.set i x)
  | [], _, _, q => by rw [show _ = [] from q]; exact rfl
  | w :: vs, _, 0, ⟨y, r, e, q, t⟩ => by subst e; exact ⟨x, r, rfl, h, t⟩
  | w :: vs, _, i + 1, ⟨y, r, e, q, t⟩ => by subst e; exact ⟨y, _, rfl, q, VRs.set h i t⟩
theorem VRs.drop : ∀ {vs : List Val} {xs : List V} (n : Nat), VRs K f H vs xs → VRs K f H (vs.drop n) (xs.drop n)
  | _, _, 0, h => h
  | [], _, n + 1, h => by rw [show _ = [] from h]; exact rfl
  | v :: vs, _, n + 1, ⟨x, r, e, h, t⟩ => by subst e; exact VRs.drop n t
theorem VRs.take : ∀ {vs : List Val} {xs : List V} (n : Nat), VRs K f H vs xs → VRs K f H (vs.take n) (xs.take n)
  | _, _, 0, h => rfl
  | [], _, n + 1, h => by rw [show _ = [] from h]; exact rfl
  | v :: vs, _, n + 1, ⟨x, r, e, h, t⟩ => by subst e; exact ⟨x, _, rfl, h, VRs.take n t⟩
theorem VRs.eraseIdx : ∀ {vs : List Val} {xs : List V} (n : Nat), VRs K f H vs xs → VRs K f H (vs.eraseIdx n) (xs.eraseIdx n)
  | [], _, n, h => by rw [show _ = [] from h]; exact rfl
  | v :: vs, _, 0, ⟨x, r, e, h, t⟩ => by subst e; exact t
  | v :: vs, _, n + 1, ⟨x, r, e, h, t⟩ => by subst e; exact ⟨x, _, rfl, h, VRs.eraseIdx n t⟩
theorem VRs.dropLast {vs : List Val} {xs : List V} (h : VRs K f H vs xs) : VRs K f H vs.dropLast xs.dropLast := by
  rw [List.dropLast_eq_take, List.dropLast_eq_take, h.length]
  exact h.take _
theorem VRs.rep {vs : List Val} {xs : List V} (h : VRs K f H vs xs) : ∀ k : Nat, VRs K f H (List.replicate k vs).flatten (List.replicate k xs).flatten
  | 0 => rfl
  | k + 1 => by
    rw [List.replicate_succ, List.replicate_succ, List.flatten_cons, List.flatten_cons]
    exact VRs.append h (VRs.rep h k)
theorem VRs.ints : ∀ (ns : List Int), VRs K f H (ns.map .int) (ns.map V.int)
  | [] => rfl
  | n :: ns => ⟨.int n, _, rfl, rfl, VRs.ints ns⟩
theorem VRs.ints_of : ∀ {vs : List Val} {ns : List Int} {xs : List V}, VRs K f H vs xs → Mi.asInts vs = some ns → xs = ns.map V.int
  | [], ns, xs, h, e => by
    rw [show xs = [] from h]
    cases (show some [] = some ns from e)
    rfl
  | .int i :: vs, ns, xs, ⟨x, r, e1, h, t⟩, e => by
    have e' : (Mi.asInts vs).map (i :: ·) = some ns := e
    cases q : Mi.asInts vs with
    | none => rw [q] at e'; cases e'
    | some ms =>
      rw [q] at e'
      cases e'
      rw [e1, show x = .int i from h, VRs.ints_of t q]
      rfl
  | .non :: _, _, _, _, e => by cases e
  | .bl _ :: _, _, _, _, e => by cases e
  | .str _ :: _, _, _, _, e => by cases e
  | .tup _ :: _, _, _, _, e => by cases e
  | .ref _ :: _, _, _, _, e => by cases e
  | .scr _ :: _, _, _, _, e => by cases e
end

/-! ### cells -/
/-- what a dict holds: keys ints and texts -/
def KRs (K : PySem.W.Frag) (f : List Addr) (H : Hp) : List (Val × Val) → List (Key × V) → Prop
  | [], ks => ks = []
  | p :: r, ks => ∃ x t, ks = (keyV p.1, x) :: t ∧ keyOk false p.1 = true ∧ VR K f H p.2 x ∧ KRs K f H r t
/-- .. tuples -/
def TRs (K : PySem.W.Frag) (f : List Addr) (H : Hp) : List (Val × Val) → List DX.Ent → Prop
  | [], ks => ks = []
  | p :: r, ks => ∃ b x t, ks = (nk p.1, b, x) :: t ∧ keyOk true p.1 = true ∧ VR K f H p.1 (.ref b) ∧ VR K f H p.2 x ∧ TRs K f H r t
section
variable {K : PySem.W.Frag} {f f' : List Addr} {H H' : Hp}
theorem KRs.mono (l : Le f H f' H') : ∀ {kvs : List (Val × Val)} {ks : List (Key × V)}, KRs K f H kvs ks → KRs K f' H' kvs ks
  | [], _, h => h
  | p :: r, _, ⟨x, t, e, ho, h, q⟩ => ⟨x, t, e, ho, VR.mono l _ _ h, KRs.mono l q⟩
theorem TRs.mono (l : Le f H f' H') : ∀ {kvs : List (Val × Val)} {ks : List DX.Ent}, TRs K f H kvs ks → TRs K f' H' kvs ks
  | [], _, h => h
  | p :: r, _, ⟨b, x, t, e, ho, hk, h, q⟩ => ⟨b, x, t, e, ho, VR.mono l _ _ hk, VR.mono l _ _ h, TRs.mono l q⟩
end
section
variable {K : PySem.W.Frag} {f t : List Addr} {H H' : Hp}
theorem KRs.mono0 : ∀ {kvs : List (Val × Val)} {ks : List (Key × V)}, KRs K f H kvs ks → KRs K (f ++ t) H kvs ks
  | [], _, h => h
  | p :: r, _, ⟨x, t, e, ho, h, q⟩ => ⟨x, t, e, ho, VR.mono0 _ _ h, KRs.mono0 q⟩
theorem TRs.mono0 : ∀ {kvs : List (Val × Val)} {ks : List DX.Ent}, TRs K f H kvs ks → TRs K (f ++ t) H kvs ks
  | [], _, h => h
  | p :: r, _, ⟨b, x, t, e, ho, hk, h, q⟩ => ⟨b, x, t, e, ho, VR.mono0 _ _ hk, VR.mono0 _ _ h, TRs.mono0 q⟩
theorem KRs.monoK (k : Keep H H') : ∀ {kvs : List (Val × Val)} {ks : List (Key × V)}, KRs K f H kvs ks → KRs K f H' kvs ks
  | [], _, h => h
  | p :: r, _, ⟨x, t, e, ho, h, q⟩ => ⟨x, t, e, ho, VR.monoK k _ _ h, KRs.monoK k q⟩
theorem TRs.monoK (k : Keep H H') : ∀ {kvs : List (Val × Val)} {ks : List DX.Ent}, TRs K f H kvs ks → TRs K f H' kvs ks
  | [], _, h => h
  | p :: r, _, ⟨b, x, t, e, ho, hk, h, q⟩ => ⟨b, x, t, e, ho, VR.monoK k _ _ hk, VR.monoK k _ _ h, TRs.monoK k q⟩
end
def DR (K : PySem.W.Frag) (f : List Addr) (H : Hp) (t : Bool) (kvs : List (Val × Val)) (a : Addr) : Prop := match t with
  | false => ∃ ks, H a = some (.dK ks) ∧ KRs K f H kvs ks
  | true => ∃ ents, H a = some (DX.DXo a ents) ∧ TRs K f H kvs ents
def CR (K : PySem.W.Frag) (f : List Addr) (H : Hp) (c : Cell) (a : Addr) : Prop := match c with
  | .lst vs => ∃ xs, H a = some (.lst xs) ∧ VRs K f H vs xs
  | .dict t kvs => DR K f H t kvs a
  | .ins _ _ => False
structure SR (K : PySem.W.Frag) (f : List Addr) (μ : Sto) (H : Hp) : Prop where
  len : f.length = μ.length
  nd : f.Nodup
  cell : ∀ (n : Nat) (c : Cell) (a : Addr), μ[n]? = some c → f[n]? = some a → CR K f H c a
section
variable {K : PySem.W.Frag} {f f' : List Addr} {H H' : Hp} {μ μ' : Sto}
theorem SR.at (S : SR K f μ H) {n : Nat} {c : Cell} (h : μ[n]? = some c) : ∃ a, f[n]? = some a ∧ CR K f H c a := by
  have hn : n < f.length := by rw [S.len]; exact (List.getElem?_eq_some_iff.mp h).1
  exact ⟨f[n], List.getElem?_eq_getElem hn, S.cell n c _ h (List.getElem?_eq_getElem hn)⟩
theorem SR.there (S : SR K f μ H) {n : Nat} {a : Addr} (h : f[n]? = some a) : ∃ c o, μ[n]? = some c ∧ H a = some o := by
  have hn : n < μ.length := by rw [← S.len]; exact (List.getElem?_eq_some_iff.mp h).1
  have q := S.cell n μ[n] a (List.getElem?_eq_getElem hn) h
  refine ⟨μ[n], ?_⟩
  cases e : μ[n] with
  | lst vs => rw [e] at q; obtain ⟨xs, q1, _⟩ := q; exact ⟨_, by rw [List.getElem?_eq_getElem hn, e], q1⟩
  | dict t kvs =>
    rw [e] at q
    cases t with
    | false => obtain ⟨ks, q1, _⟩ := q; exact ⟨_, by rw [List.getElem?_eq_getElem hn, e], q1⟩
    | true => obtain ⟨ks, q1, _⟩ := q; exact ⟨_, by rw [List.getElem?_eq_getElem hn, e], q1⟩
  | ins _ _ => rw [e] at q; exact q.elim
theorem SR.mem (S : SR K f μ H) {a : Addr} (h : a ∈ f) : ∃ o, H a = some o := by
  obtain ⟨n, hn, e⟩ := List.getElem_of_mem h
  obtain ⟨_, o, _, q⟩ := S.there (n := n) (a := a) (by rw [List.getElem?_eq_getElem hn, e])
  exact ⟨o, q⟩
theorem SR.new_ne (S : SR K f μ H) {a p : Addr} (h : a ∈ f) (hp : H p = none) : a ≠ p := fun e => by
  obtain ⟨o, q⟩ := S.mem h
  rw [e, hp] at q; cases q
theorem CR.mono {c : Cell} {a : Addr} (l : Le f H f' H') (he : H' a = H a) (h : CR K f H c a) : CR K f' H' c a := by
  cases c with
  | lst vs => obtain ⟨xs, q, r⟩ := h; exact ⟨xs, he.trans q, VRs.mono l _ _ r⟩
  | dict t kvs =>
    cases t with
    | false => obtain ⟨xs, q, r⟩ := h; exact ⟨xs, he.trans q, KRs.mono l r⟩
    | true => obtain ⟨xs, q, r⟩ := h; exact ⟨xs, he.trans q, TRs.mono l r⟩
  | ins _ _ => exact h.elim
theorem CR.mono0 {c : Cell} {a : Addr} {t : List Addr} (h : CR K f H c a) : CR K (f ++ t) H c a := by
  cases c with
  | lst vs => obtain ⟨xs, q, r⟩ := h; exact ⟨xs, q, VRs.mono0 _ _ r⟩
  | dict d kvs =>
    cases d with
    | false => obtain ⟨xs, q, r⟩ := h; exact ⟨xs, q, KRs.mono0 r⟩
    | true => obtain ⟨xs, q, r⟩ := h; exact ⟨xs, q, TRs.mono0 r⟩
  | ins _ _ => exact h.elim
theorem CR.monoK {c : Cell} {a : Addr} (k : Keep H H') (he : H' a = H a) (h : CR K f H c a) : CR K f H' c a := by
  cases c with
  | lst vs => obtain ⟨xs, q, r⟩ := h; exact ⟨xs, he.trans q, VRs.monoK k _ _ r⟩
  | dict d kvs =>
    cases d with
    | false => obtain ⟨xs, q, r⟩ := h; exact ⟨xs, he.trans q, KRs.monoK k r⟩
    | true => obtain ⟨xs, q, r⟩ := h; exact ⟨xs, he.trans q, TRs.monoK k r⟩
  | ins _ _ => exact h.elim
/-- a new object beside the cells -/
theorem SR.beside (S : SR K f μ H) {p : Addr} {o : HO} (hp : H p = none) : SR K f μ (upd H p o) :=
  ⟨S.len, S.nd, fun n c a h1 h2 => CR.mono (Le.beside hp) (upd_ne (S.new_ne (List.mem_of_getElem? h2) hp)) (S.cell n c a h1 h2)⟩
/-- a new cell -/
theorem SR.newC (S : SR K f μ H) {p : Addr} {c : Cell} {o : HO} (hp : H p = none) (hc : CR K (f ++ [p]) (upd H p o) c p) : SR K (f ++ [p]) (μ ++ [c]) (upd H p o) := by
  have l : Le f H (f ++ [p]) (upd H p o) := Le.newL hp
  refine ⟨by simp [S.len], ?_, fun n c' a h1 h2 => ?_⟩
  · rw [List.nodup_append]
    refine ⟨S.nd, by simp, fun a ha b hb => ?_⟩
    have e : b = p := by simpa using hb
    subst e
    exact S.new_ne ha hp
  · by_cases hn : n < f.length
    · rw [List.getElem?_append_left hn] at h2
      rw [List.getElem?_append_left (by rw [← S.len]; exact hn)] at h1
      exact CR.mono l (upd_ne (S.new_ne (List.mem_of_getElem? h2) hp)) (S.cell n c' a h1 h2)
    · have e : n = f.length := by
        have := (List.getElem?_eq_some_iff.mp h2).1
        simp at this
        omega
      subst e
      rw [List.getElem?_append_right (Nat.le_refl _)] at h2
      rw [S.len, List.getElem?_append_right (Nat.le_refl _)] at h1
      simp at h1 h2
      subst h1 h2
      exact hc
/-- a cell is changed -/
theorem SR.setC (S : SR K f μ H) {n : Nat} {p : Addr} {c : Cell} {u o : HO} (hn : f[n]? = some p) (hp : H p = some u) (ht : ∀ xs, u ≠ .tup xs) (hz : ∀ o' u', u ≠ .frz o' u') (hc : CR K f (upd H p o) c p) : SR K f (μ.set n c) (upd H p o) := by
  have l : Le f H f (upd H p o) := Le.put (List.mem_of_getElem? hn) hp ht hz
  have hnl : n < f.length := (List.getElem?_eq_some_iff.mp hn).1
  refine ⟨by simp [S.len], S.nd, fun m c' a h1 h2 => ?_⟩
  by_cases hm : m = n
  · subst hm
    rw [List.getElem?_set_self (by rw [← S.len]; exact hnl)] at h1
    cases h1
    rw [hn] at h2; cases h2
    exact hc
  · rw [List.getElem?_set_ne (Ne.symm hm)] at h1
    refine CR.mono l (upd_ne fun e => hm ?_) (S.cell m c' a h1 h2)
    subst e
    exact (List.getElem?_inj (by exact (List.getElem?_eq_some_iff.mp h2).1) S.nd).mp (h2.trans hn.symm)
/-- a new list, a new cell -/
theorem SR.newL (S : SR K f μ H) {p : Addr} {vs : List Val} {xs : List V} (hp : H p = none) (r : VRs K f H vs xs) : SR K (f ++ [p]) (μ ++ [.lst vs]) (upd H p (.lst xs)) := by
  have l : Le f H (f ++ [p]) (upd H p (.lst xs)) := Le.newL hp
  refine ⟨by simp [S.len], ?_, fun n c a h1 h2 => ?_⟩
  · rw [List.nodup_append]
    refine ⟨S.nd, by simp, fun a ha b hb => ?_⟩
    have e : b = p := by simpa using hb
    subst e
    exact S.new_ne ha hp
  · by_cases hn : n < f.length
    · rw [List.getElem?_append_left hn] at h2
      rw [List.getElem?_append_left (by rw [← S.len]; exact hn)] at h1
      exact CR.mono l (upd_ne (S.new_ne (List.mem_of_getElem? h2) hp)) (S.cell n c a h1 h2)
    · have e : n = f.length := by
        have := (List.getElem?_eq_some_iff.mp h2).1
        simp at this
        omega
      subst e
      rw [List.getElem?_append_right (Nat.le_refl _)] at h2
      rw [S.len, List.getElem?_append_right (Nat.le_refl _)] at h1
      simp at h1 h2
      subst h1 h2
      exact ⟨xs, upd_same, VRs.mono l _ _ r⟩
/-- a list is changed -/
theorem SR.setL (S : SR K f μ H) {n : Nat} {p : Addr} {us vs : List Val} {xs ys : List V} (hn : f[n]? = some p) (hp : H p = some (.lst ys)) (r : VRs K f H vs xs) : SR K f (μ.set n (.lst vs)) (upd H p (.lst xs)) := by
  have l : Le f H f (upd H p (.lst xs)) := Le.setL (List.mem_of_getElem? hn) hp
  have hnl : n < f.length := (List.getElem?_eq_some_iff.mp hn).1
  refine ⟨by simp [S.len], S.nd, fun m c a h1 h2 => ?_⟩
  by_cases hm : m = n
  · subst hm
    rw [List.getElem?_set_self (by rw [← S.len]; exact hnl)] at h1
    cases h1
    rw [hn] at h2; cases h2
    exact ⟨xs, upd_same, VRs.mono l _ _ r⟩
  · rw [List.getElem?_set_ne (Ne.symm hm)] at h1
    refine CR.mono l (upd_ne fun e => hm ?_) (S.cell m c a h1 h2)
    subst e
    exact (List.getElem?_inj (by exact (List.getElem?_eq_some_iff.mp h2).1) S.nd).mp (h2.trans hn.symm)
theorem VR.ref_new (S : SR K f μ H) {p : Addr} {H' : Hp} : VR K (f ++ [p]) H' (.ref μ.length) (.ref p) := ⟨p, by rw [← S.len]; simp, rfl⟩
end

/-! ### slots -/
structure LR (K : PySem.W.Frag) (f : List Addr) (H : Hp) (ρ : Loc) (σ : St) : Prop where
  len : σ.length = ρ.length
  get : ∀ (i : Nat) (v : Val), ρ[i]? = some (some v) → ∃ x, σ[i]? = some (some x) ∧ VR K f H v x
theorem LR.mono {K : PySem.W.Frag} {f f' : List Addr} {H H' : Hp} {ρ : Loc} {σ : St} (l : Le f H f' H') (h : LR K f H ρ σ) : LR K f' H' ρ σ :=
  ⟨h.len, fun i v e => let ⟨x, q, r⟩ := h.get i v e; ⟨x, q, VR.mono l v x r⟩⟩
theorem LR.set {K : PySem.W.Frag} {f : List Addr} {H : Hp} {ρ : Loc} {σ : St} {i : Nat} {v : Val} {x : V} (h : LR K f H ρ σ) (r : VR K f H v x) : LR K f H (ρ.set i (some v)) (σ.set i (some x)) := by
  refine ⟨by simp [h.len], fun j w e => ?_⟩
  by_cases hj : i = j
  · subst hj
    by_cases hl : i < ρ.length
    · rw [List.getElem?_set_self hl] at e
      cases e
      exact ⟨x, by rw [List.getElem?_set_self (by rw [h.len]; exact hl)], r⟩
    · rw [List.getElem?_eq_none (by simpa using hl)] at e; cases e
  · rw [List.getElem?_set_ne hj] at e
    obtain ⟨y, q, r⟩ := h.get j w e
    exact ⟨y, by rw [List.getElem?_set_ne hj]; exact q, r⟩

/-! ### exceptions -/
/-- a class of exceptions: its name, its address, its fields -/
structure EC where
  no : Nat
  name : Str
  C : Addr
  flds : List Str
/-- the class of that number -/
def eAt (es : List EC) (c : Nat) : Option EC := es.find? fun e => e.no == c
theorem eAt_mem {es : List EC} {c : Nat} {e : EC} (h : eAt es c = some e) : e ∈ es := List.mem_of_find?_eq_some h
def XR (K : PySem.W.Frag) (es : List EC) (f : List Addr) (H : Hp) (c : Nat) (fs : List Val) (cls : Value) (d : Option Addr) : Prop :=
  ∃ e dd ps, eAt es c = some e ∧ cls = .ref e.C ∧ d = some dd ∧ H dd = some (.xd ps) ∧ fs.length = e.flds.length ∧
    ∀ (i : Nat) (nm : Str) (v : Val), e.flds[i]? = some nm → fs[i]? = some v → ∃ y, ps.lookup nm = some y ∧ VR K f H v y

/-! ### what is wanted behind an expression -/
section
variable (K : PySem.W.Frag) (es : List EC)
def Post (W : WX) (σ : St) (f : List Addr) (H : Hp) (o : Out Val) (Q : VK) : Prop := match o with
  | .ok v μ' => ∀ f' H' x, Le f H f' H' → SR K f' μ' H' → VR K f' H' v x → Q x H'
  | .exc c fs μ' => ∀ f' H' cls d, Le f H f' H' → SR K f' μ' H' → XR K es f' H' c fs cls d → W cls d σ H'
  | .fail => False
/-- the reading of an expression: from a state told by ρ and μ what m comes to -/
def tM (W : WX) (m : Loc → Sto → Out Val) : TE := fun σ H Q => ∃ f ρ μ, SR K f μ H ∧ LR K f H ρ σ ∧ Post K es W σ f H (m ρ μ) Q
/-- .. of arguments: m comes to a tup -/
def tMA (W : WX) (m : Loc → Sto → Out Val) : TA := fun σ H Q => ∃ f ρ μ, SR K f μ H ∧ LR K f H ρ σ ∧ (match m ρ μ with
  | .ok (.tup vs) μ' => ∀ f' H' xs, Le f H f' H' → SR K f' μ' H' → VRs K f' H' vs xs → Q xs H'
  | .exc c fs μ' => ∀ f' H' cls d, Le f H f' H' → SR K f' μ' H' → XR K es f' H' c fs cls d → W cls d σ H'
  | _ => False)
end
section
variable {K : PySem.W.Frag} {es : List EC} {W : WX} {σ : St} {f f1 : List Addr} {H H1 : Hp} {μ : Sto} {ρ : Loc} {Q : VK}
theorem Post.mono {o : Out Val} (l : Le f H f1 H1) (h : Post K es W σ f H o Q) : Post K es W σ f1 H1 o Q := by
  cases o with
  | ok v μ' => exact fun f' H' x l' S r => h f' H' x (l.trans l') S r
  | exc c fs μ' => exact fun f' H' cls d l' S r => h f' H' cls d (l.trans l') S r
  | fail => exact h
/-- an expression first, then what hangs on it -/
theorem bindP {ma : Loc → Sto → Out Val} {k : Val → Sto → Out Val} {Q1 : VK} (S : SR K f μ H) (L : LR K f H ρ σ) (h : Post K es W σ f H ((ma ρ μ).bind k) Q)
    (hk : ∀ v μ1 f1 H1 x, Le f H f1 H1 → SR K f1 μ1 H1 → LR K f1 H1 ρ σ → VR K f1 H1 v x → Post K es W σ f1 H1 (k v μ1) Q → Q1 x H1) : tM K es W ma σ H Q1 := by
  refine ⟨f, ρ, μ, S, L, ?_⟩
  cases e : ma ρ μ with
  | ok v μ1 =>
    rw [e] at h
    exact fun f' H' x l' S' r => hk v μ1 f' H' x l' S' (L.mono l') r (Post.mono l' h)
  | exc c fs μ1 =>
    rw [e] at h
    exact h
  | fail =>
    rw [e] at h
    exact h
theorem bindPA {ma : Loc → Sto → Out Val} {k : Val → Sto → Out Val} {Q1 : List V → Hp → Prop} (S : SR K f μ H) (L : LR K f H ρ σ) (hf : ∀ v μ1, (∀ vs, v ≠ .tup vs) → k v μ1 = .fail) (h : Post K es W σ f H ((ma ρ μ).bind k) Q)
    (hk : ∀ vs μ1 f1 H1 xs, Le f H f1 H1 → SR K f1 μ1 H1 → LR K f1 H1 ρ σ → VRs K f1 H1 vs xs → Post K es W σ f1 H1 (k (.tup vs) μ1) Q → Q1 xs H1) : tMA K es W ma σ H Q1 := by
  refine ⟨f, ρ, μ, S, L, ?_⟩
  cases e : ma ρ μ with
  | ok v μ1 =>
    rw [e] at h
    cases v with
    | tup vs => exact fun f' H' xs l' S' r => hk vs μ1 f' H' xs l' S' (L.mono l') r (Post.mono l' h)
    | _ => rw [Out.bind_ok, hf _ _ (by intro vs z; cases z)] at h; exact h
  | exc c fs μ1 =>
    rw [e] at h
    exact h
  | fail =>
    rw [e] at h
    exact h
theorem Post.done {v : Val} {x : V} (h : Post K es W σ f H (.ok v μ) Q) (S : SR K f μ H) (r : VR K f H v x) : Q x H := h f H x (Le.refl _ _) S r
theorem Post.newL {vs : List Val} {xs : List V} (h : Post K es W σ f H (newLst vs μ) Q) (S : SR K f μ H) (r : VRs K f H vs xs) : ∀ p, H p = none → Q (.ref p) (upd H p (.lst xs)) := fun p hp =>
  h (f ++ [p]) _ _ (Le.newL hp) (S.newL hp r) (VR.ref_new S)
theorem Post.newT {vs : List Val} {xs : List V} (h : Post K es W σ f H (.ok (.tup vs) μ) Q) (S : SR K f μ H) (r : VRs K f H vs xs) : ∀ p, H p = none → Q (.ref p) (upd H p (.tup xs)) := fun p hp =>
  h f _ _ (Le.beside hp) (S.beside hp) ⟨p, xs, rfl, SqT.of upd_same, VRs.mono (Le.beside hp) _ _ r⟩
end
/-- a stronger reading -/
theorem PE.weak {X : Cx} {e : Expr} {t t' : TE} (h : PE X e t) (k : ∀ σ H Q, t' σ H Q → t σ H Q) : PE X e t' := ⟨fun pins s σ H Q I q => h.run pins s σ H Q I (k σ H Q q)⟩
theorem PT.weak {X : Cx} {e : Expr} {t t' : TT} (h : PT X e t) (k : ∀ σ H Q, t' σ H Q → t σ H Q) : PT X e t' := ⟨fun pins s σ H Q I q => h.run pins s σ H Q I (k σ H Q q)⟩
theorem PW.weak {X : Cx} {e : Expr} {t t' : TT} (h : PW X e t) (k : ∀ σ H Q, t' σ H Q → t σ H Q) : PW X e t' := ⟨fun wh pins s σ H Q I q => h.run wh pins s σ H Q I (k σ H Q q)⟩
theorem PA.weak {X : Cx} {e : List Expr} {t t' : TA} (h : PA X e t) (k : ∀ σ H Q, t' σ H Q → t σ H Q) : PA X e t' := ⟨fun pos pins s σ H Q I q => h.run pos pins s σ H Q I (k σ H Q q)⟩
theorem PS.weak {X : Cx} {e : Stmt} {t t' : TS} (h : PS X e t) (k : ∀ D σ H, t' D σ H → t D σ H) : PS X e t' := ⟨fun pins s σ H D I q => h.run pins s σ H D I (k D σ H q)⟩
theorem PSs.weak {X : Cx} {e : List Stmt} {t t' : TS} (h : PSs X e t) (k : ∀ D σ H, t' D σ H → t D σ H) : PSs X e t' := ⟨fun pins s σ H D I q => h.run pins s σ H D I (k D σ H q)⟩
end Mi
end

section
set_option Elab.async false
set_option linter.all false
set_option maxRecDepth 100000
set_option autoImplicit false
set_option maxHeartbeats 1000000
/-! Sound2: the operations. -/
namespace Mi
open PySem PySem.Spec L2
open PyProof.Rows hiding St
section
variable {K : PySem.W.Frag} {es : List EC} {W : WX} {σ : St} {f : List Addr} {H : Hp} {μ : Sto} {Q : VK}

/-- an operation of two values, as the model asks for it -/
def r2 (K : PySem.W.Frag) (es : List EC) (s : Val → Val → Sto → Out Val) : R2 := fun x y H Q => ∃ f μ v w W σ, SR K f μ H ∧ VR K f H v x ∧ VR K f H w y ∧ Post K es W σ f H (s v w μ) Q
def r1 (K : PySem.W.Frag) (es : List EC) (s : Val → Sto → Out Val) : V → Hp → VK → Prop := fun x H Q => ∃ f μ v W σ, SR K f μ H ∧ VR K f H v x ∧ Post K es W σ f H (s v μ) Q
theorem OpR.weak {X : Cx} {g : Value → Value → Sem Value} {r r' : R2} (h : OpR X g r) (k : ∀ x y H Q, r' x y H Q → r x y H Q) : OpR X g r' := fun pins s σ H x y v u Q I rx ry q => h pins s σ H x y v u Q I rx ry (k _ _ _ _ q)

theorem SR.lst {n : Nat} {x : V} {vs : List Val} (S : SR K f μ H) (r : VR K f H (.ref n) x) (h : μ[n]? = some (.lst vs)) : ∃ a xs, x = .ref a ∧ f[n]? = some a ∧ H a = some (.lst xs) ∧ VRs K f H vs xs := by
  obtain ⟨a, ha, e⟩ := r
  obtain ⟨xs, q, t⟩ := S.cell n _ a h ha
  exact ⟨a, xs, e, ha, q, t⟩
/-- what is walked or measured, where it is no text -/
theorem SR.items {v : Val} {x : V} {vs : List Val} (S : SR K f μ H) (r : VR K f H v x) (h : items μ v = some vs) (hs : ∀ s, v ≠ .str s) :
    ∃ a xs, x = .ref a ∧ VRs K f H vs xs ∧ ((SqL K H a xs ∧ ∀ ws, v ≠ .tup ws) ∨ (SqT K H a xs ∧ v = .tup vs)) := by
  cases v with
  | tup ws =>
    obtain ⟨a, xs, e, q, t⟩ := r
    cases (show some ws = some vs from h)
    exact ⟨a, xs, e, t, .inr ⟨q, rfl⟩⟩
  | scr ns =>
    obtain ⟨a, e, q⟩ := r
    cases (show some (ns.map Val.int) = some vs from h)
    exact ⟨a, _, e, VRs.ints ns, .inl ⟨q.seq, fun _ z => by cases z⟩⟩
  | ref n =>
    cases e : μ[n]? with
    | none =>
      have h' : (match μ[n]? with | some (.lst vs) => some vs | _ => none) = some vs := h
      rw [e] at h'; cases h'
    | some c =>
      have h' : (match μ[n]? with | some (.lst vs) => some vs | _ => none) = some vs := h
      rw [e] at h'
      cases c with
      | lst ws =>
        cases h'
        obtain ⟨a, xs, ex, ha, q, t⟩ := S.lst r e
        exact ⟨a, xs, ex, t, .inl ⟨SqL.of q, fun _ z => by cases z⟩⟩
      | dict _ _ => cases h'
      | ins _ _ => cases h'
  | str s => exact absurd rfl (hs s)
  | zp a b x y => exact r.elim
  | _ => cases h
theorem Post.ite_ok {c : Prop} [Decidable c] {v : Val} (h : Post K es W σ f H (if c then .ok v μ else .fail) Q) : c ∧ Post K es W σ f H (.ok v μ) Q := by
  by_cases hc : c
  · rw [if_pos hc] at h; exact ⟨hc, h⟩
  · rw [if_neg hc] at h; exact h.elim
theorem Post.ite {c : Prop} [Decidable c] {o : Out Val} (h : Post K es W σ f H (if c then o else .fail) Q) : c ∧ Post K es W σ f H o Q := by
  by_cases hc : c
  · rw [if_pos hc] at h; exact ⟨hc, h⟩
  · rw [if_neg hc] at h; exact h.elim
end
section
variable {X : Cx} {es : List EC}
theorem no_list (c : Cell) : (∃ vs, c = .lst vs) ∨ (∀ vs, c ≠ .lst vs) := by
  cases c with
  | lst vs => exact .inl ⟨vs, rfl⟩
  | _ => exact .inr (fun _ z => by cases z)
theorem str_app (x y : List Nat) : (⟨x.toArray⟩ : Str) ++ ⟨y.toArray⟩ = ⟨(x ++ y).toArray⟩ := by
  show (⟨x.toArray ++ y.toArray⟩ : Str) = _
  rw [List.append_toArray]
theorem op2_add : OpR X (binaryOp .Add) (r2 X.K es (sem2 .add)) := by
  refine OpR.weak (op_add.or (op_add_str.or (op_catA.or op_cat))) fun x y H Q h => ?_
  obtain ⟨f, μ, v, w, W, σ, S, rv, rw', h⟩ := h
  cases v with
  | int i =>
    cases w with
    | int j => exact .inl ⟨i, j, rv, rw', h.done S rfl⟩
    | _ => exact h.elim
  | str a =>
    cases w with
    | str b =>
      obtain ⟨hc, h⟩ := Post.ite_ok h
      refine .inr (.inl ⟨⟨a.toArray⟩, ⟨b.toArray⟩, rv, rw', ?_, ?_⟩)
      · show a.toArray.size + b.toArray.size ≤ sizeLine
        rw [sizeLine_eq]; simpa using hc
      · rw [str_app]; exact h.done S rfl
    | _ => exact h.elim
  | tup a =>
    cases w with
    | tup b =>
      obtain ⟨hc, h⟩ := Post.ite_ok h
      obtain ⟨p, xs, rfl, hp, tx⟩ := rv
      obtain ⟨q, ys, rfl, hq, ty⟩ := rw'
      refine .inr (.inr (.inl ⟨p, q, xs, ys, rfl, rfl, hp, hq, ?_, fun e => ?_, fun _ e => ?_, fun _ _ => h.newT S (tx.append ty)⟩))
      · rw [tx.length, ty.length, sizeLine_eq]; exact hc
      · subst e
        have ea : a = [] := List.eq_nil_of_length_eq_zero tx.length.symm
        subst ea
        exact h.done S ⟨q, ys, rfl, hq, ty⟩
      · subst e
        have eb : b = [] := List.eq_nil_of_length_eq_zero ty.length.symm
        subst eb
        rw [List.append_nil] at h
        exact h.done S ⟨p, xs, rfl, hp, tx⟩
    | _ => exact h.elim
  | ref n =>
    cases w with
    | ref m =>
      have h' : Post X.K es W σ f H (match μ[n]?, μ[m]? with
        | some (.lst xs), some (.lst ys) => if xs.length + ys.length ≤ LIM then newLst (xs ++ ys) μ else .fail
        | _, _ => .fail) Q := h
      split at h'
      · rename_i us ws e1 e2
        obtain ⟨hc, h⟩ := Post.ite h'
        obtain ⟨a, xs, rfl, ha, hq, tx⟩ := S.lst rv e1
        obtain ⟨b, ys, rfl, hb, hq2, ty⟩ := S.lst rw' e2
        exact .inr (.inr (.inr ⟨a, b, xs, ys, rfl, rfl, hq, hq2, by rw [tx.length, ty.length, sizeLine_eq]; exact hc, h.newL S (tx.append ty)⟩))
      · exact h'.elim
    | _ => exact h.elim
  | _ => exact h.elim
theorem op2_sub : OpR X (binaryOp .Sub) (r2 X.K es (sem2 .sub)) := by
  refine OpR.weak op_sub fun x y H Q h => ?_
  obtain ⟨f, μ, v, w, W, σ, S, rv, rw', h⟩ := h
  cases v with
  | int i =>
    cases w with
    | int j => exact ⟨i, j, rv, rw', h.done S rfl⟩
    | _ => exact h.elim
  | _ => exact h.elim
theorem op2_mul : OpR X (binaryOp .Mult) (r2 X.K es (sem2 .mul)) := by
  refine OpR.weak (((op_mulW.or op_repT).or op_repS).or op_rep) fun x y H Q h => ?_
  obtain ⟨f, μ, v, w, W, σ, S, rv, rw', h⟩ := h
  cases v with
  | int i =>
    cases w with
    | int j =>
      obtain ⟨hc, h⟩ := Post.ite_ok h
      exact .inl (.inl (.inl ⟨i, j, rv, rw', hc, h.done S rfl⟩))
    | _ => exact h.elim
  | tup a =>
    cases w with
    | int k =>
      obtain ⟨⟨h2, h3, h4⟩, h⟩ := Post.ite_ok h
      obtain ⟨p, xs, rfl, hp, tx⟩ := rv
      by_cases h1 : a = []
      · subst h1
        have e0 : (List.replicate k.toNat ([] : List Val)).flatten = [] := by simp
        rw [e0] at h
        rw [show xs = [] from tx] at hp
        exact .inl (.inr ⟨p, k, [], rfl, rw', hp, h2, h3, .inl ⟨.inl rfl, h.done S ⟨p, [], rfl, hp, rfl⟩⟩⟩)
      by_cases hk1 : k = 1
      · subst hk1
        have e0 : (List.replicate (1 : Int).toNat a).flatten = a := by simp
        rw [e0] at h
        exact .inl (.inr ⟨p, 1, xs, rfl, rw', hp, h2, h3, .inl ⟨.inr rfl, h.done S ⟨p, xs, rfl, hp, tx⟩⟩⟩)
      have hx : xs ≠ [] := fun e => h1 (List.eq_nil_of_length_eq_zero (by rw [← tx.length, e]; rfl))
      by_cases hk0 : k ≤ 0
      · have e0 : (List.replicate k.toNat a).flatten = [] := by
          rw [show k.toNat = 0 by omega]; rfl
        rw [e0] at h
        exact .inl (.inr ⟨p, k, xs, rfl, rw', hp, h2, h3, .inr ⟨hx, hk0, h.newT S VRs.nil⟩⟩)
      · exact .inl (.inl (.inr ⟨p, k, xs, rfl, rw', hp, hx, by omega, h3, by rw [tx.length]; exact h4, h.newT S (tx.rep _)⟩))
    | _ => exact h.elim
  | ref n =>
    cases w with
    | int k =>
      have h' : Post X.K es W σ f H (match μ[n]? with
        | some (.lst xs) => if -1000000000 ≤ k ∧ k ≤ 1000000000 ∧ xs.length * k.toNat ≤ LIM then newLst (List.replicate k.toNat xs).flatten μ else .fail
        | _ => .fail) Q := h
      split at h'
      · rename_i us e1
        obtain ⟨⟨h1, h2, h3⟩, h⟩ := Post.ite h'
        obtain ⟨a, xs, rfl, ha, hq, tx⟩ := S.lst rv e1
        exact .inr ⟨a, k, xs, rfl, rw', hq, by omega, by omega, by rw [tx.length, sizeLine_eq]; exact h3, h.newL S (tx.rep _)⟩
      · exact h'.elim
    | _ => exact h.elim
  | _ => exact h.elim
theorem op2_fdiv : OpR X (binaryOp .FloorDiv) (r2 X.K es (sem2 .fdiv)) := by
  refine OpR.weak op_fdivW fun x y H Q h => ?_
  obtain ⟨f, μ, v, w, W, σ, S, rv, rw', h⟩ := h
  cases v with
  | int i =>
    cases w with
    | int j =>
      obtain ⟨hc, h⟩ := Post.ite_ok h
      exact ⟨i, j, rv, rw', hc, h.done S rfl⟩
    | _ => exact h.elim
  | _ => exact h.elim
theorem op2_mod : OpR X (binaryOp .Mod) (r2 X.K es (sem2 .mod)) := by
  refine OpR.weak op_mod fun x y H Q h => ?_
  obtain ⟨f, μ, v, w, W, σ, S, rv, rw', h⟩ := h
  cases v with
  | int i =>
    cases w with
    | int j =>
      obtain ⟨hc, h⟩ := Post.ite_ok h
      exact ⟨i, j, rv, rw', hc, h.done S rfl⟩
    | _ => exact h.elim
  | _ => exact h.elim
theorem op2_pow : OpR X (binaryOp .Pow) (r2 X.K es (sem2 .pow)) := by
  refine OpR.weak op_pow fun x y H Q h => ?_
  obtain ⟨f, μ, v, w, W, σ, S, rv, rw', h⟩ := h
  cases v with
  | int i =>
    cases w with
    | int j =>
      obtain ⟨hc, h⟩ := Post.ite_ok h
      exact ⟨i, j, rv, rw', hc, h.done S rfl⟩
    | _ => exact h.elim
  | _ => exact h.elim
theorem op2_shl : OpR X (binaryOp .LShift) (r2 X.K es (sem2 .shl)) := by
  refine OpR.weak op_shl fun x y H Q h => ?_
  obtain ⟨f, μ, v, w, W, σ, S, rv, rw', h⟩ := h
  cases v with
  | int i =>
    cases w with
    | int j =>
      obtain ⟨hc, h⟩ := Post.ite_ok h
      exact ⟨i, j, rv, rw', hc, h.done S rfl⟩
    | _ => exact h.elim
  | _ => exact h.elim

/-! ### comparisons -/
theorem cmpI_get {p : Int → Int → Bool} {K : PySem.W.Frag} {W : WX} {σ : St} {f : List Addr} {H : Hp} {μ : Sto} {Q : VK} {v w : Val} {x y : V} (S : SR K f μ H) (rv : VR K f H v x) (rw' : VR K f H w y) (h : Post K es W σ f H (cmpI p v w μ) Q) :
    ∃ i j, x = .int i ∧ y = .int j ∧ Q (.bl (p i j)) H := by
  cases v with
  | int i =>
    cases w with
    | int j => exact ⟨i, j, rv, rw', h.done S rfl⟩
    | _ => exact h.elim
  | _ => exact h.elim
theorem op2_le : OpR X (compareOp .LtE) (r2 X.K es (sem2 .le)) := OpR.weak op_le fun x y H Q ⟨f, μ, v, w, W, σ, S, rv, rw', h⟩ => cmpI_get S rv rw' h
theorem op2_gt : OpR X (compareOp .Gt) (r2 X.K es (sem2 .gt)) := OpR.weak op_gt fun x y H Q ⟨f, μ, v, w, W, σ, S, rv, rw', h⟩ => cmpI_get S rv rw' h
theorem op2_ge : OpR X (compareOp .GtE) (r2 X.K es (sem2 .ge)) := OpR.weak op_ge fun x y H Q ⟨f, μ, v, w, W, σ, S, rv, rw', h⟩ => cmpI_get S rv rw' h
theorem lexLt_eq : ∀ ns ms : List Int, HT.lexLt ns ms = lexLt ns ms
  | [], [] => rfl
  | [], _ :: _ => rfl
  | _ :: _, [] => rfl
  | x :: xs, y :: ys => by
    have ih := lexLt_eq xs ys
    unfold HT.lexLt lexLt
    rw [ih]
    try rfl
theorem op2_lt (hu : X.A.units < cLine) : OpR X (compareOp .Lt) (r2 X.K es (sem2 .lt)) := by
  refine OpR.weak (op_lt.or (op_ltT hu)) fun x y H Q ⟨f, μ, v, w, W, σ, S, rv, rw', h⟩ => ?_
  cases v with
  | tup a =>
    cases w with
    | tup b =>
      have h' : Post X.K es W σ f H (match Mi.asInts a, Mi.asInts b with
        | some ns, some ms => .ok (.bl (lexLt ns ms)) μ
        | _, _ => .fail) Q := h
      split at h'
      · rename_i ns ms e1 e2
        obtain ⟨p, xs, rfl, hp, tx⟩ := rv
        obtain ⟨q, ys, rfl, hq, ty⟩ := rw'
        have ex := tx.ints_of e1
        have ey := ty.ints_of e2
        subst ex ey
        refine .inr ⟨p, q, ns, ms, rfl, rfl, hp, hq, ?_⟩
        rw [lexLt_eq]
        exact h'.done S rfl
      · exact h'.elim
    | _ => exact h.elim
  | _ => exact .inl (cmpI_get S rv rw' h)
mutual
def dat : Val → PyData
  | .non => .none
  | .bl b => .bool b
  | .int i => .int i
  | .str s => .str ⟨s.toArray⟩
  | .tup vs => .tuple (dats vs)
  | _ => .none
def dats : List Val → List PyData
  | [] => []
  | v :: vs => dat v :: dats vs
end
mutual
theorem dat_dp {K : PySem.W.Frag} {f : List Addr} {H : Hp} : ∀ (n : Nat) (v : Val) (x : V), v.plain n = true → VR K f H v x → Dp K H x (dat v)
  | _, .non, _, _, r => by rw [show _ = V.non from r]; exact .non
  | _, .bl b, _, _, r => by rw [show _ = V.bl b from r]; exact .bl b
  | _, .int i, _, _, r => by rw [show _ = V.int i from r]; exact .int i
  | _, .str s, _, _, r => by rw [show _ = V.str ⟨s.toArray⟩ from r]; exact .str _
  | 0, .tup vs, _, h, _ => by cases h
  | n + 1, .tup vs, _, h, ⟨a, xs, e, q, t⟩ => by rw [e]; exact .tup q (dats_dp n vs xs h t)
  | 0, .ref _, _, h, _ => by cases h
  | _ + 1, .ref _, _, h, _ => by cases h
  | 0, .scr _, _, h, _ => by cases h
  | _ + 1, .scr _, _, h, _ => by cases h
  | 0, .zp .., _, h, _ => by cases h
  | _ + 1, .zp .., _, h, _ => by cases h
theorem dats_dp {K : PySem.W.Frag} {f : List Addr} {H : Hp} : ∀ (n : Nat) (vs : List Val) (xs : List V), plains n vs = true → VRs K f H vs xs → DpAll K H xs (dats vs)
  | _, [], _, _, r => by rw [show _ = [] from r]; exact .nil
  | n, v :: vs, _, h, ⟨x, r, e, q, t⟩ => by
    have h' : (v.plain n && plains n vs) = true := by unfold plains at h; exact h
    rw [Bool.and_eq_true] at h'
    rw [e]; exact .cons (dat_dp n v x h'.1 q) (dats_dp n vs r h'.2 t)
end
mutual
theorem dat_lay : ∀ (n : Nat) (v : Val), v.plain n = true → (dat v).canLay0 = true ∧ (dat v).depth ≤ n
  | _, .non, _ => ⟨by simp [dat, PyData.canLay0], by simp [dat, PyData.depth]⟩
  | _, .bl b, _ => ⟨by simp [dat, PyData.canLay0], by simp [dat, PyData.depth]⟩
  | _, .int i, _ => ⟨by simp [dat, PyData.canLay0], by simp [dat, PyData.depth]⟩
  | n, .str s, h => by
    have h' : (s.all fun c => decide (c < 1114112)) = true := by unfold Val.plain at h; exact h
    refine ⟨?_, by simp [dat, PyData.depth]⟩
    simp only [dat, PyData.canLay0, PyData.strOk]
    simpa using h'
  | 0, .tup vs, h => by cases h
  | n + 1, .tup vs, h => by
    obtain ⟨h1, h2⟩ := dats_lay n vs h
    simp only [dat, PyData.canLay0, PyData.depth]
    exact ⟨h1, by omega⟩
  | 0, .ref _, h => by cases h
  | _ + 1, .ref _, h => by cases h
  | 0, .scr _, h => by cases h
  | _ + 1, .scr _, h => by cases h
  | 0, .zp .., h => by cases h
  | _ + 1, .zp .., h => by cases h
theorem dats_lay : ∀ (n : Nat) (vs : List Val), plains n vs = true → PyData.canLayAll0 (dats vs) = true ∧ PyData.depthAll (dats vs) ≤ n
  | _, [], _ => ⟨by simp [dats, PyData.canLayAll0], by simp [dats, PyData.depthAll]⟩
  | n, v :: vs, h => by
    have h' : (v.plain n && plains n vs) = true := by unfold plains at h; exact h
    rw [Bool.and_eq_true] at h'
    obtain ⟨a1, a2⟩ := dat_lay n v h'.1
    obtain ⟨b1, b2⟩ := dats_lay n vs h'.2
    simp only [dats, PyData.canLayAll0, PyData.depthAll, a1, b1, Bool.and_self, true_and]
    omega
end
theorem arr_beq (x y : List Nat) : ((⟨x.toArray⟩ : Str) == ⟨y.toArray⟩) = (x == y) := by
  rw [Bool.eq_iff_iff]
  simp
mutual
theorem eqv_dat : ∀ (n m : Nat) (v w : Val), v.plain n = true → w.plain m = true → PyData.eqv (dat v) (dat w) = eqv v w
  | n, m, v, w, hv, hw => by
    cases v with
    | non => cases w <;> first | (simp [dat, PyData.eqv, eqv]; done) | (cases m <;> cases hw)
    | bl a => cases w <;> first | (simp [dat, PyData.eqv, eqv]; done) | (cases m <;> cases hw)
    | int a => cases w <;> first | (simp [dat, PyData.eqv, eqv]; done) | (cases m <;> cases hw)
    | str a =>
      cases w with
      | str b => simp only [dat, PyData.eqv, eqv]; exact arr_beq a b
      | _ => first | (simp [dat, PyData.eqv, eqv]; done) | (cases m <;> cases hw)
    | tup a =>
      cases n with
      | zero => cases hv
      | succ n =>
        cases w with
        | tup b =>
          cases m with
          | zero => cases hw
          | succ m =>
            simp only [dat, PyData.eqv, eqv]
            exact eqvs_dat n m a b hv hw
        | _ => first | (simp [dat, PyData.eqv, eqv]; done) | (cases m <;> cases hw)
    | ref _ => cases n <;> cases hv
    | scr _ => cases n <;> cases hv
    | zp _ _ _ _ => cases n <;> cases hv
theorem eqvs_dat : ∀ (n m : Nat) (vs ws : List Val), plains n vs = true → plains m ws = true → PyData.eqvAll (dats vs) (dats ws) = eqvs vs ws
  | _, _, [], [], _, _ => by simp [dats, PyData.eqvAll, eqvs]
  | _, _, [], w :: ws, _, _ => by simp [dats, PyData.eqvAll, eqvs]
  | _, _, v :: vs, [], _, _ => by simp [dats, PyData.eqvAll, eqvs]
  | n, m, v :: vs, w :: ws, hv, hw => by
    have h1 : (v.plain n && plains n vs) = true := by unfold plains at hv; exact hv
    have h2 : (w.plain m && plains m ws) = true := by unfold plains at hw; exact hw
    rw [Bool.and_eq_true] at h1 h2
    simp only [dats, PyData.eqvAll, eqvs, eqv_dat n m v w h1.1 h2.1, eqvs_dat n m vs ws h1.2 h2.2]
end
theorem shaped_of {v : Val} (h : v.plain 60 = true) : SeqAt.shaped (dat v) = true := by
  obtain ⟨h1, h2⟩ := dat_lay 60 v h
  unfold SeqAt.shaped
  rw [h1, Bool.true_and]
  exact decide_eq_true (by omega)
theorem eqOk_get {K : PySem.W.Frag} {f : List Addr} {H : Hp} {v w : Val} {x y : V} (rv : VR K f H v x) (rw' : VR K f H w y) (h : eqOk v w = true) :
    (scal x y = true ∧ decide (x = y) = eqv v w) ∨ (∃ d e, Dp K H x d ∧ Dp K H y e ∧ SeqAt.shaped d = true ∧ SeqAt.shaped e = true ∧ PyData.eqv d e = eqv v w) := by
  have viaD : v.plain 60 = true → w.plain 60 = true → ∃ d e, Dp K H x d ∧ Dp K H y e ∧ SeqAt.shaped d = true ∧ SeqAt.shaped e = true ∧ PyData.eqv d e = eqv v w := fun h1 h2 =>
    ⟨dat v, dat w, dat_dp 60 v x h1 rv, dat_dp 60 w y h2 rw', shaped_of h1, shaped_of h2, eqv_dat 60 60 v w h1 h2⟩
  unfold eqOk at h
  rw [Bool.or_eq_true, Bool.and_eq_true, Bool.and_eq_true] at h
  rcases h with ⟨h1, h2⟩ | ⟨h1, h2⟩
  · cases v with
    | non =>
      cases (show x = .non from rv)
      cases w with
      | non => cases (show y = .non from rw'); exact .inl ⟨rfl, rfl⟩
      | bl b => cases (show y = .bl b from rw'); exact .inl ⟨rfl, rfl⟩
      | int b => cases (show y = .int b from rw'); exact .inl ⟨rfl, rfl⟩
      | str b => cases (show y = _ from rw'); exact .inl ⟨rfl, rfl⟩
      | _ => cases h2
    | bl a =>
      cases (show x = .bl a from rv)
      cases w with
      | non => cases (show y = .non from rw'); exact .inl ⟨rfl, rfl⟩
      | bl b => cases (show y = .bl b from rw'); exact .inl ⟨rfl, dec_bl⟩
      | int b => exact .inr (viaD rfl rfl)
      | str b => cases (show y = _ from rw'); exact .inl ⟨rfl, rfl⟩
      | _ => cases h2
    | int a =>
      cases (show x = .int a from rv)
      cases w with
      | non => cases (show y = .non from rw'); exact .inl ⟨rfl, rfl⟩
      | bl b => exact .inr (viaD rfl rfl)
      | int b => cases (show y = .int b from rw'); exact .inl ⟨rfl, dec_int⟩
      | str b => cases (show y = _ from rw'); exact .inl ⟨rfl, rfl⟩
      | _ => cases h2
    | str a =>
      cases (show x = _ from rv)
      cases w with
      | non => cases (show y = .non from rw'); exact .inl ⟨rfl, rfl⟩
      | bl b => cases (show y = .bl b from rw'); exact .inl ⟨rfl, rfl⟩
      | int b => cases (show y = .int b from rw'); exact .inl ⟨rfl, rfl⟩
      | str b => cases (show y = _ from rw'); exact .inl ⟨rfl, dec_str.trans (arr_beq a b)⟩
      | _ => cases h2
    | _ => cases h1
  · exact .inr (viaD h1 h2)
theorem shaped_list {vs : List Val} (h : plains 50 vs = true) : SeqAt.shaped (.list (dats vs)) = true := by
  obtain ⟨h1, h2⟩ := dats_lay 50 vs h
  unfold SeqAt.shaped
  rw [show (PyData.list (dats vs)).canLay0 = true by simpa [PyData.canLay0] using h1, Bool.true_and]
  refine decide_eq_true ?_
  have : (PyData.list (dats vs)).depth = PyData.depthAll (dats vs) + 1 := by simp [PyData.depth]
  omega
theorem eqL_get {neg : Bool} {K : PySem.W.Frag} {es : List EC} {W : WX} {σ : St} {f : List Addr} {H : Hp} {μ : Sto} {Q : VK} {v w : Val} {x y : V} (S : SR K f μ H) (rv : VR K f H v x) (rw' : VR K f H w y) (h : Post K es W σ f H (eqL neg v w μ) Q) :
    ∃ b : Bool, Q (.bl (if neg then !b else b)) H ∧ ((scal x y = true ∧ decide (x = y) = b) ∨ (∃ d e, Dp K H x d ∧ Dp K H y e ∧ SeqAt.shaped d = true ∧ SeqAt.shaped e = true ∧ PyData.eqv d e = b)) := by
  by_cases hr : ∃ m n, v = .ref m ∧ w = .ref n
  · obtain ⟨m, n, rfl, rfl⟩ := hr
    have h' : Post K es W σ f H (match μ[m]?, μ[n]? with
      | some (.lst xs), some (.lst ys) => if plains 50 xs && plains 50 ys then .ok (.bl (if neg then !eqvs xs ys else eqvs xs ys)) μ else .fail
      | _, _ => .fail) Q := h
    split at h'
    · rename_i xs ys e1 e2
      obtain ⟨hc, h2⟩ := Post.ite_ok h'
      rw [Bool.and_eq_true] at hc
      obtain ⟨a, us, rfl, ha, hq, t⟩ := S.lst rv e1
      obtain ⟨b, ws, rfl, hb, hq2, t2⟩ := S.lst rw' e2
      refine ⟨eqvs xs ys, h2.done S rfl, .inr ⟨.list (dats xs), .list (dats ys), .lst (SqL.of hq) (dats_dp 50 xs us hc.1 t), .lst (SqL.of hq2) (dats_dp 50 ys ws hc.2 t2), shaped_list hc.1, shaped_list hc.2, ?_⟩⟩
      rw [PyData.eqv]
      exact eqvs_dat 50 50 xs ys hc.1 hc.2
    · exact h'.elim
  · have h' : Post K es W σ f H (if eqOk v w then .ok (.bl (if neg then !eqv v w else eqv v w)) μ else .fail) Q := by
      have e : eqL neg v w μ = if eqOk v w then .ok (.bl (if neg then !eqv v w else eqv v w)) μ else .fail := by
        cases v <;> cases w <;> first | rfl | exact absurd ⟨_, _, rfl, rfl⟩ hr
      rw [e] at h; exact h
    obtain ⟨hc, h2⟩ := Post.ite_ok h'
    exact ⟨eqv v w, h2.done S rfl, eqOk_get rv rw' hc⟩
theorem op2_eq (hu : X.A.units + 64 < cLine) : OpR X (compareOp .Eq) (r2 X.K es (sem2 .eq)) := by
  refine OpR.weak (op_eq.or (op_eqD hu)) fun x y H Q ⟨f, μ, v, w, W, σ, S, rv, rw', h⟩ => ?_
  obtain ⟨b, hQ, ⟨h1, h2⟩ | ⟨d, e, h1, h2, h3, h4, h5⟩⟩ := eqL_get (neg := false) S rv rw' h
  · exact .inl ⟨h1, by rw [h2]; exact hQ⟩
  · exact .inr ⟨d, e, h1, h2, h3, h4, by rw [h5]; exact hQ⟩
theorem op2_ne (hu : X.A.units + 64 < cLine) : OpR X (compareOp .NotEq) (r2 X.K es (sem2 .ne)) := by
  refine OpR.weak (op_ne.or (op_neD hu)) fun x y H Q ⟨f, μ, v, w, W, σ, S, rv, rw', h⟩ => ?_
  obtain ⟨b, hQ, ⟨h1, h2⟩ | ⟨d, e, h1, h2, h3, h4, h5⟩⟩ := eqL_get (neg := true) S rv rw' h
  · exact .inl ⟨h1, by rw [h2]; exact hQ⟩
  · exact .inr ⟨d, e, h1, h2, h3, h4, by rw [h5]; exact hQ⟩
end
end Mi
end

section
set_option Elab.async false
set_option linter.all false
set_option maxRecDepth 100000
set_option autoImplicit false
set_option maxHeartbeats 1000000
/-! SoundD: dicts. -/
namespace Mi
open PySem PySem.Spec L2
open PyProof.Rows hiding St
section
variable {X : Cx} {pins : List (Addr × Obj)} {σ : L2.St} {H : Hp} {s : Shared} {f : List Addr}
mutual
theorem nested_of (I : Inv X pins σ H s) : ∀ (n : Nat) (v : Val) (x : V) (u : Value), v.hk n = true → VR X.K f H v x → RelV x u → NestedIs s.heap (nk v) u
  | _, .non, x, u, _, r, ru => by
    cases (show x = .non from r)
    cases (show u = .none from ru)
    simp only [nk]; exact .none
  | _, .bl b, x, u, _, r, ru => by
    cases (show x = .bl b from r)
    cases (show u = .bool b from ru)
    simp only [nk]; exact .bool rfl
  | _, .int i, x, u, _, r, ru => by
    cases (show x = .int i from r)
    obtain ⟨t, rfl⟩ := ru
    simp only [nk]; exact .int i t
  | n, .str _, _, _, h, _, _ => by cases n <;> simp [Val.hk] at h
  | 0, .tup _, _, _, h, _, _ => by simp [Val.hk] at h
  | n + 1, .tup vs, x, u, h, ⟨a, xs, e, q, t⟩, ru => by
    subst e
    obtain rfl : u = Value.ref a := ru
    obtain ⟨its, rv, ⟨o, ho, hc, m, hd⟩, _⟩ := I.tuple q
    rw [Val.hk] at h
    simp only [nk]
    exact .tup ho hc hd (nested_all I n vs xs its h t rv)
  | n, .ref _, _, _, h, _, _ => by cases n <;> simp [Val.hk] at h
  | n, .scr _, _, _, h, _, _ => by cases n <;> simp [Val.hk] at h
  | n, .zp .., _, _, h, _, _ => by cases n <;> simp [Val.hk] at h
theorem nested_all (I : Inv X pins σ H s) : ∀ (n : Nat) (vs : List Val) (xs : List V) (us : List Value), hks n vs = true → VRs X.K f H vs xs → Vals xs us → NestedAll s.heap (nks vs) us
  | _, [], xs, us, _, r, ru => by
    cases (show xs = [] from r)
    cases ru
    simp only [nks]; exact .nil
  | n, v :: vs, xs, us, h, ⟨x, t, e, r, q⟩, ru => by
    subst e
    rw [hks, Bool.and_eq_true] at h
    cases ru with
    | cons ru1 ru2 =>
      simp only [nks]
      exact .cons (nested_of I n v x _ h.1 r ru1) (nested_all I n vs t _ h.2 q ru2)
end
theorem key_is (I : Inv X pins σ H s) {k : Val} {b : Addr} (h : keyOk true k = true) (r : VR X.K f H k (.ref b)) : (nestedKind X.prog X.w).is s.heap (nk k) b := by
  obtain ⟨vs, rfl, h8⟩ := keyOk_t h
  exact ⟨nested_of I 8 _ (.ref b) (.ref b) h8 r rfl, nk_depth 8 _ h8⟩
theorem TRs.keyed (I : Inv X pins σ H s) : ∀ {kvs : List (Val × Val)} {ents : List DX.Ent}, TRs X.K f H kvs ents → DX.Keyed X s ents
  | [], ents, h, e, he => by rw [show ents = [] from h] at he; cases he
  | p :: r, ents, ⟨b, x, t, e, ho, hk, h, q⟩, d, hd => by
    rw [e] at hd
    rcases List.mem_cons.mp hd with rfl | hd
    · exact key_is I ho hk
    · exact TRs.keyed I q d hd
theorem key_ref {k : Val} {y : V} {K : PySem.W.Frag} (h : keyOk true k = true) (r : VR K f H k y) : ∃ b, y = .ref b := by
  obtain ⟨vs, rfl, _⟩ := keyOk_t h
  obtain ⟨a, xs, e, _⟩ := r
  exact ⟨a, e⟩
theorem key_kV {k : Val} {y : V} {K : PySem.W.Frag} (h : keyOk false k = true) (r : VR K f H k y) : y = kV (keyV k) := by
  cases k with
  | int i => exact r
  | str s => exact r
  | _ => simp [keyOk] at h
end
section
variable {K : PySem.W.Frag} {f : List Addr} {H : Hp}
theorem KRs.look {k : Val} (hk : keyOk false k = true) : ∀ {kvs : List (Val × Val)} {ks : List (Key × V)}, KRs K f H kvs ks → (dget kvs k = none ∧ valV ks (keyV k) = none) ∨ ∃ v z, dget kvs k = some v ∧ valV ks (keyV k) = some z ∧ VR K f H v z
  | [], ks, h => by rw [show ks = [] from h]; exact .inl ⟨rfl, rfl⟩
  | p :: r, ks, ⟨x, t, e, ho, h, q⟩ => by
    rw [e]
    unfold dget
    rw [List.find?_cons]
    have he := eqv_key ho hk
    by_cases hq : keyV p.1 = keyV k
    · rw [he, decide_eq_true hq]
      exact .inr ⟨p.2, x, rfl, valV_pos hq, h⟩
    · rw [he, decide_eq_false hq]
      rw [valV_neg (p := (keyV p.1, x)) hq]
      exact KRs.look hk q
theorem TRs.look {k : Val} (hk : keyOk true k = true) : ∀ {kvs : List (Val × Val)} {ks : List DX.Ent}, TRs K f H kvs ks → (dget kvs k = none ∧ DX.lookX ks (nk k) = none) ∨ ∃ v z, dget kvs k = some v ∧ DX.lookX ks (nk k) = some z ∧ VR K f H v z
  | [], ks, h => by rw [show ks = [] from h]; exact .inl ⟨rfl, rfl⟩
  | p :: r, ks, ⟨b, x, t, e, ho, hb, h, q⟩ => by
    rw [e]
    unfold dget DX.lookX
    rw [List.find?_cons, List.find?_cons]
    have he := eqv_nkd ho hk
    by_cases hq : nk p.1 = nk k
    · rw [he, decide_eq_true hq]
      exact .inr ⟨p.2, x, rfl, rfl, h⟩
    · rw [he, decide_eq_false hq]
      exact TRs.look hk q
theorem KRs.len : ∀ {kvs : List (Val × Val)} {ks : List (Key × V)}, KRs K f H kvs ks → ks.length = kvs.length
  | [], ks, h => by rw [show ks = [] from h]; rfl
  | p :: r, ks, ⟨x, t, e, ho, h, q⟩ => by rw [e, List.length_cons, List.length_cons, KRs.len q]
theorem TRs.len : ∀ {kvs : List (Val × Val)} {ks : List DX.Ent}, TRs K f H kvs ks → ks.length = kvs.length
  | [], ks, h => by rw [show ks = [] from h]; rfl
  | p :: r, ks, ⟨b, x, t, e, ho, hb, h, q⟩ => by rw [e, List.length_cons, List.length_cons, TRs.len q]
theorem KRs.repl {k v : Val} {z : V} (hk : keyOk false k = true) (rz : VR K f H v z) : ∀ {kvs : List (Val × Val)} {ks : List (Key × V)}, KRs K f H kvs ks → KRs K f H (kvs.map fun p => if eqv p.1 k then (p.1, v) else p) (ks.map fun kv => if kv.1 = keyV k then (kv.1, z) else kv)
  | [], ks, h => by rw [show ks = [] from h]; exact rfl
  | p :: r, ks, ⟨x, t, e, ho, h, q⟩ => by
    rw [e, List.map_cons, List.map_cons]
    have he := eqv_key ho hk
    by_cases hq : keyV p.1 = keyV k
    · rw [he, decide_eq_true hq, if_pos rfl, if_pos hq]
      exact ⟨z, _, rfl, ho, rz, KRs.repl hk rz q⟩
    · rw [he, decide_eq_false hq, if_neg (by simp), if_neg hq]
      exact ⟨x, _, rfl, ho, h, KRs.repl hk rz q⟩
theorem KRs.snoc {k v : Val} {z : V} (hk : keyOk false k = true) (rz : VR K f H v z) : ∀ {kvs : List (Val × Val)} {ks : List (Key × V)}, KRs K f H kvs ks → KRs K f H (kvs ++ [(k, v)]) (ks ++ [(keyV k, z)])
  | [], ks, h => by rw [show ks = [] from h]; exact ⟨z, [], rfl, hk, rz, rfl⟩
  | p :: r, ks, ⟨x, t, e, ho, h, q⟩ => by rw [e]; exact ⟨x, _, rfl, ho, h, KRs.snoc hk rz q⟩
theorem KRs.put {k v : Val} {z : V} (hk : keyOk false k = true) (rz : VR K f H v z) {kvs : List (Val × Val)} {ks : List (Key × V)} (h : KRs K f H kvs ks) : KRs K f H (dput kvs k v) (putK ks (keyV k) z) := by
  unfold dput putK
  rw [valV_any]
  rcases h.look hk with ⟨e1, e2⟩ | ⟨w, y, e1, e2, _⟩
  · rw [e1, e2, if_neg (by simp), if_neg (by simp)]
    exact h.snoc hk rz
  · rw [e1, e2]
    exact h.repl hk rz
theorem TRs.repl {k v : Val} {z : V} (hk : keyOk true k = true) (rz : VR K f H v z) : ∀ {kvs : List (Val × Val)} {ks : List DX.Ent}, TRs K f H kvs ks → TRs K f H (kvs.map fun p => if eqv p.1 k then (p.1, v) else p) (ks.map fun e => if e.1 = nk k then (e.1, e.2.1, z) else e)
  | [], ks, h => by rw [show ks = [] from h]; exact rfl
  | p :: r, ks, ⟨b, x, t, e, ho, hb, h, q⟩ => by
    rw [e, List.map_cons, List.map_cons]
    have he := eqv_nkd ho hk
    by_cases hq : nk p.1 = nk k
    · rw [he, decide_eq_true hq, if_pos rfl, if_pos hq]
      exact ⟨b, z, _, rfl, ho, hb, rz, TRs.repl hk rz q⟩
    · rw [he, decide_eq_false hq, if_neg (by simp), if_neg hq]
      exact ⟨b, x, _, rfl, ho, hb, h, TRs.repl hk rz q⟩
theorem TRs.snoc {k v : Val} {b : Addr} {z : V} (hk : keyOk true k = true) (rk : VR K f H k (.ref b)) (rz : VR K f H v z) : ∀ {kvs : List (Val × Val)} {ks : List DX.Ent}, TRs K f H kvs ks → TRs K f H (kvs ++ [(k, v)]) (ks ++ [(nk k, b, z)])
  | [], ks, h => by rw [show ks = [] from h]; exact ⟨b, z, [], rfl, hk, rk, rz, rfl⟩
  | p :: r, ks, ⟨c, x, t, e, ho, hb, h, q⟩ => by rw [e]; exact ⟨c, x, _, rfl, ho, hb, h, TRs.snoc hk rk rz q⟩
theorem TRs.put {k v : Val} {b : Addr} {z : V} (hk : keyOk true k = true) (rk : VR K f H k (.ref b)) (rz : VR K f H v z) {kvs : List (Val × Val)} {ks : List DX.Ent} (h : TRs K f H kvs ks) : TRs K f H (dput kvs k v) (DX.putX ks (nk k) b z) := by
  unfold dput DX.putX
  rcases h.look hk with ⟨e1, e2⟩ | ⟨w, y, e1, e2, _⟩
  · rw [e1, e2, if_neg (by simp), if_neg (by simp)]
    exact h.snoc hk rk rz
  · rw [e1, e2]
    exact h.repl hk rz
theorem SR.dct {μ : Sto} {n : Nat} {x : V} {t : Bool} {kvs : List (Val × Val)} (S : SR K f μ H) (r : VR K f H (.ref n) x) (h : μ[n]? = some (.dict t kvs)) : ∃ a, x = .ref a ∧ f[n]? = some a ∧ DR K f H t kvs a := by
  obtain ⟨a, ha, e⟩ := r
  exact ⟨a, e, ha, S.cell n _ a h ha⟩
theorem dictAt_get {μ : Sto} {v : Val} {t : Bool} {kvs : List (Val × Val)} (h : dictAt μ v = some (t, kvs)) : ∃ n, v = .ref n ∧ μ[n]? = some (.dict t kvs) := by
  cases v with
  | ref n =>
    refine ⟨n, rfl, ?_⟩
    have h' : (match μ[n]? with
      | some (.dict t kvs) => some (t, kvs)
      | _ => none) = some (t, kvs) := h
    cases e : μ[n]? with
    | none => rw [e] at h'; cases h'
    | some c =>
      rw [e] at h'
      cases c with
      | dict t' k' => cases h'; rfl
      | _ => cases h'
  | _ => cases h
end
/-! rules by values -/
section
variable {X : Cx} {es : List EC}
/-- d[k], k in d, d.get: what is asked of the dict at x -/
def rDk (K : PySem.W.Frag) (g : Option V → Hp → VK → Prop) : V → V → Hp → VK → Prop := fun x y H Q => ∃ f μ n t kvs k, SR K f μ H ∧ VR K f H (.ref n) x ∧ μ[n]? = some (.dict t kvs) ∧ keyOk t k = true ∧ VR K f H k y ∧
  (∀ v, dget kvs k = some v → ∀ z, VR K f H v z → g (some z) H Q) ∧ (dget kvs k = none → g none H Q)
def gIdx : Option V → Hp → VK → Prop := fun o H Q => match o with
  | some z => Q z H
  | none => False
def gIn (neg : Bool) : Option V → Hp → VK → Prop := fun o H Q => Q (.bl (if neg then !o.isSome else o.isSome)) H
def gGet (d : V) : Option V → Hp → VK → Prop := fun o H Q => Q (o.getD d) H
theorem d_type {pins : List (Addr × Obj)} {σ : L2.St} {H : Hp} {s : Shared} {f : List Addr} {t : Bool} {kvs : List (Val × Val)} {a : Addr} (I : Inv X pins σ H s) (h : DR X.K f H t kvs a) : s.TypeIs (.ref a) "dict" ∧ (∀ b, Value.ref a = .ref b → ∃ ob, s.heap.get? b = some ob ∧ ob.dict = none) := by
  cases t with
  | false =>
    obtain ⟨ks, e, _⟩ := h
    obtain ⟨h1, h2, _⟩ := isD_at I (.inl ⟨ks, .inl e⟩)
    exact ⟨h1, h2⟩
  | true =>
    obtain ⟨ents, e, _⟩ := h
    exact DX.dx_typeIs I e
theorem room8 (hu : X.A.units + 16 < cLine) : (nestedKind X.prog X.w).room X.A.in1 := by
  show X.A.units + 1 + 8 < cLine
  omega
/-- one of the two kinds of dicts, looked at -/
theorem look_get {pins : List (Addr × Obj)} {σ : L2.St} {H : Hp} {s : Shared} {x y : V} {u w : Value} {Q : VK} {g : Option V → Hp → VK → Prop} {P : Prop} (I : Inv X pins σ H s) (rx : RelV x u) (ry : RelV y w) (h : rDk X.K g x y H Q)
    (hK : ∀ a kvs k o, u = .ref a → y = kV k → H a = some (.dK kvs) → valV kvs k = o → g o H Q → P)
    (hT : ∀ a b ents k o, u = .ref a → w = .ref b → H a = some (DX.DXo a ents) → DX.Keyed X s ents → (nestedKind X.prog X.w).is s.heap k b → DX.lookX ents k = o → g o H Q → P) : P := by
  obtain ⟨f, μ, n, t, kvs, k, S, rv, hn, hk, rk, h1, h2⟩ := h
  obtain ⟨a, rfl, ha, hd⟩ := S.dct rv hn
  obtain rfl : u = Value.ref a := rx
  cases t with
  | false =>
    obtain ⟨ks, e, r⟩ := hd
    have ey := key_kV hk rk
    rcases r.look hk with ⟨e1, e2⟩ | ⟨v, z, e1, e2, e3⟩
    · exact hK a ks (keyV k) none rfl ey e e2 (h2 e1)
    · exact hK a ks (keyV k) (some z) rfl ey e e2 (h1 v e1 z e3)
  | true =>
    obtain ⟨ents, e, r⟩ := hd
    obtain ⟨b, rfl⟩ := key_ref hk rk
    obtain rfl : w = Value.ref b := ry
    rcases r.look hk with ⟨e1, e2⟩ | ⟨v, z, e1, e2, e3⟩
    · exact hT a b ents (nk k) none rfl rfl e (r.keyed I) (key_is I hk rk) e2 (h2 e1)
    · exact hT a b ents (nk k) (some z) rfl rfl e (r.keyed I) (key_is I hk rk) e2 (h1 v e1 z e3)
theorem ix_dict (hu : X.A.units + 16 < cLine) : IxR X (rDk X.K gIdx) := by
  intro value slice pins s σ H x y v u Q I rx ry h hs
  have tail : ∀ a, v = .ref a → s.TypeIs v "dict" → wpAny (model X.prog X.w) X.A (getItem v u) (EP X pins σ Q) X.xe s → wpAny (model X.prog X.w) X.A (subscriptTail value slice v u) (EP X pins σ Q) X.xe s := by
    intro a _ hT h2
    unfold subscriptTail
    refine wpAny_bind ?_
    rw [getitemInPython_of_ne hT.not_modules]
    refine wpAny_bind (wpAny_specialOf hT PySem.F.slot_dict_getitem.lookup ?_)
    have fin : wpAny (model X.prog X.w) X.A (subscripted slice false v u) (fun r s₃ => wpAny (model X.prog X.w) X.A (letTemporaryGo value v r >>= fun _ => pure r) (EP X pins σ Q) X.xe s₃) X.xe s := by
      rw [hs]
      exact wpAny_operating (wpAny_mono h2 (fun r s₃ h₃ => wpAny_bind (wpAny_letTemporaryGo (wpAny_pure h₃))) fun _ _ x => x)
    first
      | exact wpAny_pure (wpAny_bind fin)
      | exact wpAny_bind (wpAny_pure (wpAny_bind fin))
      | exact wpAny_bind fin
  refine look_get I rx ry h (fun a kvs k o eu ey e l q => ?_) fun a b ents k o eu ew e hk hb l q => ?_
  · subst eu
    cases o with
    | none => exact q.elim
    | some z =>
      subst ey
      exact tail a rfl (isD_at I (.inl ⟨kvs, .inl e⟩)).1 (d_getItem (by omega) I (show DGet H a (kV k) (some z) from l ▸ DGet.k e) ry fun w' s3 I3 rw' => ⟨z, H, I3, rw', q⟩)
  · subst eu ew
    cases o with
    | none => exact q.elim
    | some z => exact tail a rfl (DX.dx_typeIs I e).1 (DX.dx_getItem (room8 hu) I e hk hb l fun w' s3 I3 rw' => ⟨z, H, I3, rw', q⟩)
theorem in_dict (hu : X.A.units + 16 < cLine) : OpR X (compareOp .In) (fun x y => rDk X.K (gIn false) y x) := by
  intro pins s σ H x y v u Q I rx ry h
  refine look_get I ry rx h (fun a kvs k o eu ey e l q => ?_) fun a b ents k o eu ew e hk hb l q => ?_
  · subst eu ey
    exact d_in (by omega) I (l ▸ DGet.k e) rx fun s' I' => ⟨.bl o.isSome, H, I', rfl, q⟩
  · subst eu ew
    exact DX.dx_in (room8 hu) I e hk hb fun s' I' => ⟨.bl o.isSome, H, I', by rw [l]; exact rfl, q⟩
theorem notin_dict (hu : X.A.units + 16 < cLine) : OpR X (compareOp .NotIn) (fun x y => rDk X.K (gIn true) y x) := by
  intro pins s σ H x y v u Q I rx ry h
  refine look_get I ry rx h (fun a kvs k o eu ey e l q => ?_) fun a b ents k o eu ew e hk hb l q => ?_
  · subst eu ey
    exact d_notIn (by omega) I (l ▸ DGet.k e) rx fun s' I' => ⟨.bl (!o.isSome), H, I', rfl, q⟩
  · subst eu ew
    exact DX.dx_notIn (room8 hu) I e hk hb fun s' I' => ⟨.bl (!o.isSome), H, I', by rw [l]; exact rfl, q⟩
theorem m_get1 (hu : X.A.units + 16 < cLine) : MtR X "dict.get" (fun x xs H Q => ∃ y, xs = [y] ∧ rDk X.K (gGet .non) x y H Q) := by
  intro pins s σ H x xs v us Q I rx rxs h
  obtain ⟨y, rfl, h⟩ := h
  obtain ⟨u, rfl, ry⟩ := vals1 rxs
  refine look_get I rx ry h (fun a kvs k o eu ey e l q => ?_) fun a b ents k o eu ew e hk hb l q => ?_
  · subst eu ey
    exact d_get1 (by omega) I (l ▸ DGet.k e) ry fun w' s' I' r' => ⟨_, H, I', r', q⟩
  · subst eu ew
    exact DX.dx_get1 (room8 hu) I e hk hb fun w' s' I' r' => ⟨_, H, I', by rw [l] at r'; exact r', q⟩
theorem m_get2 (hu : X.A.units + 16 < cLine) : MtR X "dict.get" (fun x xs H Q => ∃ y d, xs = [y, d] ∧ rDk X.K (gGet d) x y H Q) := by
  intro pins s σ H x xs v us Q I rx rxs h
  obtain ⟨y, d, rfl, h⟩ := h
  obtain ⟨u, r, rfl, ry, rd⟩ := DX.two_of (xs := []) rxs
  refine look_get I rx ry h (fun a kvs k o eu ey e l q => ?_) fun a b ents k o eu ew e hk hb l q => ?_
  · subst eu ey
    exact d_get2 (by omega) I (l ▸ DGet.k e) ry rd fun w' s' I' r' => ⟨_, H, I', r', q⟩
  · subst eu ew
    exact DX.dx_get2 (room8 hu) I e hk hb rd fun w' s' I' r' => ⟨_, H, I', by rw [l] at r'; exact r', q⟩
def rDLen (K : PySem.W.Frag) : List V → Hp → VK → Prop := fun xs H Q => ∃ x f μ n t kvs, xs = [x] ∧ SR K f μ H ∧ VR K f H (.ref n) x ∧ μ[n]? = some (.dict t kvs) ∧ Q (.int kvs.length) H
theorem c_dlen : CallR X (.builtin "len") (rDLen X.K) := by
  intro pins s σ H xs us Q I rx h
  obtain ⟨x, f, μ, n, t, kvs, rfl, S, rv, hn, q⟩ := h
  obtain ⟨u, rfl, ru⟩ := vals1 rx
  obtain ⟨a, rfl, ha, hd⟩ := S.dct rv hn
  obtain rfl : u = Value.ref a := ru
  cases t with
  | false =>
    obtain ⟨ks, e, r⟩ := hd
    exact d_len I (.inl e) fun t s' I' => ⟨.int kvs.length, H, I', ⟨t, by rw [r.len]⟩, q⟩
  | true =>
    obtain ⟨ents, e, r⟩ := hd
    exact DX.dx_len I e (r.keyed I) fun t s' I' => ⟨.int kvs.length, H, I', ⟨t, by rw [r.len]⟩, q⟩
end
end Mi
namespace Mi
open PySem PySem.Spec L2
open PyProof.Rows hiding St
section
variable {K : PySem.W.Frag} {f : List Addr} {H : Hp} {μ : Sto}
theorem SR.putK (S : SR K f μ H) {n : Nat} {a : Addr} {kvs : List (Val × Val)} {ks : List (Key × V)} {k v : Val} {z : V} (ha : f[n]? = some a) (e : H a = some (.dK ks)) (r : KRs K f H kvs ks) (hk : keyOk false k = true) (rz : VR K f H v z) :
    Le f H f (upd H a (.dK (L2.putK ks (keyV k) z))) ∧ SR K f (μ.set n (.dict false (dput kvs k v))) (upd H a (.dK (L2.putK ks (keyV k) z))) := by
  have l : Le f H f (upd H a (.dK (L2.putK ks (keyV k) z))) := Le.put (List.mem_of_getElem? ha) e (fun _ z => nomatch z) (fun _ _ z => nomatch z)
  exact ⟨l, S.setC ha e (fun _ z => nomatch z) (fun _ _ z => nomatch z) ⟨_, upd_same, KRs.mono l (r.put hk rz)⟩⟩
theorem SR.putT (S : SR K f μ H) {n : Nat} {a b : Addr} {kvs : List (Val × Val)} {ks : List DX.Ent} {k v : Val} {z : V} (ha : f[n]? = some a) (e : H a = some (DX.DXo a ks)) (r : TRs K f H kvs ks) (hk : keyOk true k = true) (rk : VR K f H k (.ref b)) (rz : VR K f H v z) :
    Le f H f (upd H a (DX.DXo a (DX.putX ks (nk k) b z))) ∧ SR K f (μ.set n (.dict true (dput kvs k v))) (upd H a (DX.DXo a (DX.putX ks (nk k) b z))) := by
  have l : Le f H f (upd H a (DX.DXo a (DX.putX ks (nk k) b z))) := Le.put (List.mem_of_getElem? ha) e (fun _ z => nomatch z) (fun _ _ z => nomatch z)
  exact ⟨l, S.setC ha e (fun _ z => nomatch z) (fun _ _ z => nomatch z) ⟨_, upd_same, TRs.mono l (r.put hk rk rz)⟩⟩
end
section
variable {X : Cx} {es : List EC}
def rSetDD (K : PySem.W.Frag) : TSet := fun o i v H Q => ∃ f μ n t kvs k w, SR K f μ H ∧ VR K f H (.ref n) o ∧ μ[n]? = some (.dict t kvs) ∧ kvs.length < LIM ∧ keyOk t k = true ∧ VR K f H k i ∧ VR K f H w v ∧
  ∀ H', Le f H f H' → SR K f (μ.set n (.dict t (dput kvs k w))) H' → Q H'
theorem set_dd (hu : X.A.units + 16 < cLine) : PSet X (rSetDD X.K) := by
  intro pins s σ H o i v ov iv u Q I ro ri rv h
  obtain ⟨f, μ, n, t, kvs, k, w, S, rn, hn, hl, hk, rk, rw', h⟩ := h
  obtain ⟨a, rfl, ha, hd⟩ := S.dct rn hn
  obtain rfl : ov = Value.ref a := ro
  cases t with
  | false =>
    obtain ⟨ks, e, r⟩ := hd
    have ey := key_kV hk rk
    subst ey
    obtain ⟨l, S'⟩ := S.putK ha e r hk rw'
    exact d_setItem (by omega) I (DPut.k e (by rw [r.len, sizeLine_eq]; exact hl)) ri rv fun s' I' => ⟨_, I', h _ l S'⟩
  | true =>
    obtain ⟨ents, e, r⟩ := hd
    obtain ⟨b, rfl⟩ := key_ref hk rk
    obtain rfl : iv = Value.ref b := ri
    obtain ⟨l, S'⟩ := S.putT ha e r hk rk rw'
    exact DX.dx_setItem (room8 hu) I e (by rw [r.len, sizeLine_eq]; exact hl) (tf_of hk) (r.keyed I) (key_is I hk rk) rv fun s' I' => ⟨_, I', h _ l S'⟩
def rSetX (K : PySem.W.Frag) : TSet := fun o i v H Q => rSetL o i v H Q ∨ rSetDD K o i v H Q
theorem set_x (hu : X.A.units + 16 < cLine) : PSet X (rSetX X.K) := by
  intro pins s σ H o i v ov iv u Q I ro ri rv h
  rcases h with h | h
  · exact set_list pins s σ H o i v ov iv u Q I ro ri rv h
  · exact set_dd hu pins s σ H o i v ov iv u Q I ro ri rv h
def rSetd (K : PySem.W.Frag) : V → V → V → Hp → VK → Prop := fun x y d H Q => ∃ f μ n t kvs k w, SR K f μ H ∧ VR K f H (.ref n) x ∧ μ[n]? = some (.dict t kvs) ∧ kvs.length < LIM ∧ keyOk t k = true ∧ VR K f H k y ∧ VR K f H w d ∧
  (∀ v, dget kvs k = some v → ∀ z, VR K f H v z → Q z H) ∧ (dget kvs k = none → ∀ H', Le f H f H' → SR K f (μ.set n (.dict t (dput kvs k w))) H' → Q d H')
theorem m_setd (hu : X.A.units + 16 < cLine) : MtR X "dict.setdefault" (fun x xs H Q => ∃ y d, xs = [y, d] ∧ rSetd X.K x y d H Q) := by
  intro pins s σ H x xs v us Q I rx rxs h
  obtain ⟨y, d, rfl, f, μ, n, t, kvs, k, w, S, rn, hn, hl, hk, rk, rw', h1, h2⟩ := h
  obtain ⟨u, r0, rfl, ry, rd⟩ := DX.two_of (xs := []) rxs
  obtain ⟨a, rfl, ha, hd⟩ := S.dct rn hn
  obtain rfl : v = Value.ref a := rx
  cases t with
  | false =>
    obtain ⟨ks, e, r⟩ := hd
    have ey := key_kV hk rk
    subst ey
    obtain ⟨l, S'⟩ := S.putK ha e r hk rw'
    refine d_setd I e ry rd (by rw [r.len, sizeLine_eq]; exact hl) (fun z hz w' s' I' r' => ?_) fun hz w' s' I' r' => ?_
    · rcases r.look hk with ⟨e1, e2⟩ | ⟨v', z', e1, e2, e3⟩
      · rw [e2] at hz; cases hz
      · rw [e2] at hz; cases hz
        exact ⟨_, H, I', r', h1 v' e1 _ e3⟩
    · rcases r.look hk with ⟨e1, e2⟩ | ⟨v', z', e1, e2, e3⟩
      · exact ⟨_, _, I', r', h2 e1 _ l S'⟩
      · rw [e2] at hz; cases hz
  | true =>
    obtain ⟨ents, e, r⟩ := hd
    obtain ⟨b, rfl⟩ := key_ref hk rk
    obtain rfl : u = Value.ref b := ry
    obtain ⟨l, S'⟩ := S.putT ha e r hk rk rw'
    refine DX.dx_setd (room8 hu) I e (by rw [r.len, sizeLine_eq]; exact hl) (tf_of hk) (r.keyed I) (key_is I hk rk) rd (fun z hz w' s' I' r' => ?_) fun hz w' s' I' r' => ?_
    · rcases r.look hk with ⟨e1, e2⟩ | ⟨v', z', e1, e2, e3⟩
      · rw [e2] at hz; cases hz
      · rw [e2] at hz; cases hz
        exact ⟨_, H, I', r', h1 v' e1 _ e3⟩
    · rcases r.look hk with ⟨e1, e2⟩ | ⟨v', z', e1, e2, e3⟩
      · exact ⟨_, _, I', r', h2 e1 _ l S'⟩
      · rw [e2] at hz; cases hz
end
end Mi
end

section
set_option Elab.async false
set_option linter.all false
set_option maxRecDepth 100000
set_option autoImplicit false
set_option maxHeartbeats 1000000
/-! Sound3: more operations: in, subscripts, slices, calls of built-ins, methods of lists. -/
namespace Mi
open PySem PySem.Spec L2
open PyProof.Rows hiding St
theorem IxR.weak {X : Cx} {r r' : R2} (h : IxR X r) (k : ∀ x y H Q, r' x y H Q → r x y H Q) : IxR X r' := fun value slice pins s σ H x y v u Q I rx ry q hs => h value slice pins s σ H x y v u Q I rx ry (k _ _ _ _ q) hs
theorem SlR.weak {X : Cx} {r r' : V → Option Int → Option Int → Hp → VK → Prop} (h : SlR X r) (k : ∀ x lo hi H Q, r' x lo hi H Q → r x lo hi H Q) : SlR X r' := fun pins s σ H x v vl vu lo hi sl Q I rx hs pl pu q => h pins s σ H x v vl vu lo hi sl Q I rx hs pl pu (k _ _ _ _ _ q)
theorem CallR.weak {X : Cx} {f : Value} {r r' : List V → Hp → VK → Prop} (h : CallR X f r) (k : ∀ xs H Q, r' xs H Q → r xs H Q) : CallR X f r' := fun pins s σ H xs us Q I rs q => h pins s σ H xs us Q I rs (k _ _ _ q)
theorem MtR.weak {X : Cx} {id : String} {r r' : V → List V → Hp → VK → Prop} (h : MtR X id r) (k : ∀ x xs H Q, r' x xs H Q → r x xs H Q) : MtR X id r' := fun pins s σ H x xs v us Q I rx rs q => h pins s σ H x xs v us Q I rx rs (k _ _ _ _ q)
theorem UnR.weak {X : Cx} {f : Value → Sem Value} {r r' : V → Hp → VK → Prop} (h : UnR X f r) (k : ∀ x H Q, r' x H Q → r x H Q) : UnR X f r' := fun pins s σ H x v Q I rx q => h pins s σ H x v Q I rx (k _ _ _ q)
section
variable {K : PySem.W.Frag} {f : List Addr} {H : Hp}
theorem flat_V {v : Val} {x : V} (r : VR K f H v x) (h : v.flat = true) : flatV x = true := by
  cases v with
  | non => rw [show x = _ from r]; rfl
  | bl _ => rw [show x = _ from r]; rfl
  | int _ => rw [show x = _ from r]; rfl
  | str _ => rw [show x = _ from r]; rfl
  | _ => cases h
theorem flat_eq {v w : Val} {x y : V} (r : VR K f H v x) (h : v.flat = true) (r2 : VR K f H w y) (h2 : w.flat = true) : eqV x y = eqv v w := by
  cases v with
  | non =>
    rw [show x = _ from r]
    cases w with
    | non => rw [show y = _ from r2]; rfl
    | bl _ => rw [show y = _ from r2]; rfl
    | int _ => rw [show y = _ from r2]; rfl
    | str _ => rw [show y = _ from r2]; rfl
    | _ => cases h2
  | bl _ =>
    rw [show x = _ from r]
    cases w with
    | non => rw [show y = _ from r2]; rfl
    | bl _ => rw [show y = _ from r2]; rfl
    | int _ => rw [show y = _ from r2]; rfl
    | str _ => rw [show y = _ from r2]; rfl
    | _ => cases h2
  | int _ =>
    rw [show x = _ from r]
    cases w with
    | non => rw [show y = _ from r2]; rfl
    | bl _ => rw [show y = _ from r2]; rfl
    | int _ => rw [show y = _ from r2]; rfl
    | str _ => rw [show y = _ from r2]; rfl
    | _ => cases h2
  | str a =>
    rw [show x = _ from r]
    cases w with
    | non => rw [show y = _ from r2]; rfl
    | bl _ => rw [show y = _ from r2]; rfl
    | int _ => rw [show y = _ from r2]; rfl
    | str b => rw [show y = _ from r2]; exact arr_beq a b
    | _ => cases h2
  | _ => cases h
theorem flats_V : ∀ {vs : List Val} {xs : List V}, VRs K f H vs xs → vs.all Val.flat = true → xs.all flatV = true
  | [], _, r, _ => by rw [show _ = [] from r]; rfl
  | v :: vs, _, ⟨x, r, e, q, t⟩, h => by
    rw [List.all_cons, Bool.and_eq_true] at h
    rw [e, List.all_cons, flat_V q h.1, flats_V t h.2]; rfl
theorem in_V {w : Val} {y : V} (rw' : VR K f H w y) (hw : w.flat = true) : ∀ {vs : List Val} {xs : List V}, VRs K f H vs xs → vs.all Val.flat = true → inV y xs = inFlat w vs
  | [], _, r, _ => by rw [show _ = [] from r]; rfl
  | v :: vs, _, ⟨x, r, e, q, t⟩, h => by
    rw [List.all_cons, Bool.and_eq_true] at h
    have ih := in_V rw' hw t h.2
    subst e
    show (eqV x y || inV y r) = (eqv v w || inFlat w vs)
    rw [ih, flat_eq q h.1 rw' hw]
end
section
variable {X : Cx} {es : List EC}
theorem in_get {K : PySem.W.Frag} {W : WX} {σ : St} {f : List Addr} {H : Hp} {μ : Sto} {Q : VK} {v w : Val} {x y : V} {neg : Bool} (S : SR K f μ H) (rv : VR K f H v x) (rw' : VR K f H w y)
    (h : Post K es W σ f H (innL neg v w μ) Q) : rIn K neg x y H Q := by
  have h' : (∀ s, w ≠ .str s) ∧ ∃ vs, items μ w = some vs ∧ (v.flat = true ∧ vs.all Val.flat = true) ∧ Post K es W σ f H (.ok (.bl (if neg then !inFlat v vs else inFlat v vs)) μ) Q := by
    unfold innL at h
    split at h
    · exact h.elim
    · rename_i hn
      split at h
      · rename_i vs e
        obtain ⟨hc, h2⟩ := Post.ite_ok h
        exact ⟨fun s z => hn s z, vs, e, hc, h2⟩
      · exact h.elim
  obtain ⟨hs, vs, e, ⟨h1, h2⟩, h3⟩ := h'
  obtain ⟨a, xs, rfl, t, hq⟩ := S.items rw' e hs
  refine ⟨a, xs, rfl, hq.imp (fun z => z.1) fun z => z.1, flat_V rv h1, flats_V t h2, ?_⟩
  rw [in_V rv h1 t h2]
  exact h3.done S (by cases neg <;> rfl)
theorem din_get {K : PySem.W.Frag} {W : WX} {σ : St} {f : List Addr} {H : Hp} {μ : Sto} {Q : VK} {v w : Val} {x y : V} {neg : Bool} (S : SR K f μ H) (rv : VR K f H v x) (rw' : VR K f H w y)
    (h : Post K es W σ f H (match dictAt μ w with
      | some (t, kvs) => if keyOk t v then .ok (.bl (if neg then !(dget kvs v).isSome else (dget kvs v).isSome)) μ else .fail
      | none => innL neg v w μ) Q) : rIn K neg x y H Q ∨ rDk K (gIn neg) y x H Q := by
  cases e : dictAt μ w with
  | none => simp only [e] at h; exact .inl (in_get S rv rw' h)
  | some p =>
    obtain ⟨t, kvs⟩ := p
    simp only [e] at h
    obtain ⟨n, rfl, hn⟩ := dictAt_get e
    obtain ⟨hk, h⟩ := Post.ite_ok h
    refine .inr ⟨f, μ, n, t, kvs, v, S, rw', hn, hk, rv, fun u hu z rz => ?_, fun hu => ?_⟩
    · rw [hu] at h; exact h.done S (by cases neg <;> rfl)
    · rw [hu] at h; exact h.done S (by cases neg <;> rfl)
theorem op2_in (hu : X.A.units + 16 < cLine) : OpR X (compareOp .In) (r2 X.K es (sem2 .inn)) := OpR.weak (op_in_seq.or (in_dict hu)) fun x y H Q ⟨f, μ, v, w, W, σ, S, rv, rw', h⟩ => din_get (neg := false) S rv rw' h
theorem op2_nin (hu : X.A.units + 16 < cLine) : OpR X (compareOp .NotIn) (r2 X.K es (sem2 .nin)) := OpR.weak (op_notIn_seq.or (notin_dict hu)) fun x y H Q ⟨f, μ, v, w, W, σ, S, rv, rw', h⟩ => din_get (neg := true) S rv rw' h

/-! ### subscripts -/
theorem place_eq (n : Nat) (i : Int) : place n i = ixN n i := rfl
theorem atI_of {K : PySem.W.Frag} {f : List Addr} {H : Hp} {vs : List Val} {xs : List V} {i : Int} {v : Val} (t : VRs K f H vs xs) (h : ((place vs.length i).bind fun j => vs[j]?) = some v) : ∃ x, atI xs i = some x ∧ VR K f H v x := by
  cases e : place vs.length i with
  | none => rw [e] at h; cases h
  | some j =>
    rw [e] at h
    obtain ⟨x, h1, h2⟩ := t.get (show vs[j]? = some v from h)
    refine ⟨x, ?_, h2⟩
    unfold atI
    rw [t.length, ← place_eq, e]
    exact h1
theorem idx_get {W : WX} {σ : St} {f : List Addr} {H : Hp} {μ : Sto} {Q : VK} {v w : Val} {x y : V} (S : SR X.K f μ H) (rv : VR X.K f H v x) (rw' : VR X.K f H w y) (h : Post X.K es W σ f H (idxL v w μ) Q) : rIx X.K x y H Q := by
  cases w with
  | int i =>
    by_cases hs : ∃ s, v = .str s
    · obtain ⟨s, rfl⟩ := hs
      have h1 : Post X.K es W σ f H (if s.length ≤ LIM then ofOpt ((place s.length i).bind fun j => (s[j]?).map fun c => Val.str [c]) μ else .fail) Q := h
      obtain ⟨hc, h2⟩ := Post.ite h1
      cases e : place s.length i with
      | none => rw [e] at h2; exact h2.elim
      | some j =>
        rw [e] at h2
        cases e2 : s[j]? with
        | none =>
          have h3 : Post X.K es W σ f H (ofOpt ((s[j]?).map fun c => Val.str [c]) μ) Q := h2
          rw [e2] at h3; exact h3.elim
        | some c =>
          have h3 : Post X.K es W σ f H (ofOpt ((s[j]?).map fun c => Val.str [c]) μ) Q := h2
          rw [e2] at h3
          refine .inr (.inr ⟨⟨s.toArray⟩, i, c, rv, rw', ?_, ?_, ?_⟩)
          · show s.toArray.size ≤ sizeLine
            rw [sizeLine_eq]; simpa using hc
          · show atI s.toArray.toList i = some c
            rw [List.toList_toArray]
            unfold atI
            rw [← place_eq, e]
            exact e2
          · exact Post.done (v := .str [c]) h3 S rfl
    · have hs' : ∀ s, v ≠ .str s := fun s z => hs ⟨s, z⟩
      cases e : items μ v with
      | none =>
        exfalso
        unfold idxL at h
        dsimp only at h
        split at h
        · exact absurd rfl (hs' _)
        · rw [e] at h; exact h.elim
      | some vs =>
        have h1 : Post X.K es W σ f H (ofOpt ((place vs.length i).bind fun j => vs[j]?) μ) Q := by
          unfold idxL at h
          dsimp only at h
          split at h
          · exact absurd rfl (hs' _)
          · rw [e] at h; exact h
        obtain ⟨a, xs, rfl, t, hq⟩ := S.items rv e hs'
        cases e2 : ((place vs.length i).bind fun j => vs[j]?) with
        | none => rw [e2] at h1; exact h1.elim
        | some u =>
          rw [e2] at h1
          obtain ⟨z, h2, h3⟩ := atI_of t e2
          rcases hq with ⟨hq, _⟩ | ⟨hq, _⟩
          · exact .inl ⟨a, xs, i, z, rfl, rw', hq, h2, h1.done S h3⟩
          · exact .inr (.inl ⟨a, xs, i, z, rfl, rw', hq, h2, h1.done S h3⟩)
  | _ => exact h.elim

theorem op2_idx (hu : X.A.units + 16 < cLine) : IxR X (r2 X.K es (sem2 .idx)) := by
  refine IxR.weak (ix_seq.or (ix_dict hu)) fun x y H Q ⟨f, μ, v, w, W, σ, S, rv, rw', h⟩ => ?_
  have h' : Post X.K es W σ f H (match dictAt μ v with
    | some (t, kvs) => if keyOk t w then ofOpt (dget kvs w) μ else .fail
    | none => idxL v w μ) Q := h
  cases e : dictAt μ v with
  | none => simp only [e] at h'; exact .inl (idx_get S rv rw' h')
  | some p =>
    obtain ⟨t, kvs⟩ := p
    simp only [e] at h'
    obtain ⟨n, rfl, hn⟩ := dictAt_get e
    obtain ⟨hk, h'⟩ := Post.ite h'
    refine .inr ⟨f, μ, n, t, kvs, w, S, rv, hn, hk, rw', fun u hu z rz => ?_, fun hu => ?_⟩
    · rw [hu] at h'; exact h'.done S rz
    · rw [hu] at h'; exact h'.elim

/-! ### slices -/
theorem clip_sIx (n d : Nat) (v : Int) : HT.sIx n d (some v) = clip n v := rfl
theorem VRs.cut {K : PySem.W.Frag} {f : List Addr} {H : Hp} {vs : List Val} {xs : List V} (t : VRs K f H vs xs) (lo hi : Nat) : VRs K f H (Mi.cut vs lo hi) ((xs.drop lo).take (hi - lo)) := (t.drop lo).take _
def sIxV (n d : Nat) : Option Int → Nat
  | none => d
  | some v => clip n v
theorem sIxV_eq (n d : Nat) (o : Option Int) : HT.sIx n d o = sIxV n d o := by cases o <;> rfl
/-- what a slice is, by its two parts -/
def slc (v : Val) (lo hi : Option Int) (μ : Sto) : Out Val := match v with
  | .tup xs => .ok (.tup (cut xs (sIxV xs.length 0 lo) (sIxV xs.length xs.length hi))) μ
  | .scr xs => newLst ((cut xs (sIxV xs.length 0 lo) (sIxV xs.length xs.length hi)).map .int) μ
  | .ref n => match μ[n]? with
    | some (.lst xs) => newLst (cut xs (sIxV xs.length 0 lo) (sIxV xs.length xs.length hi)) μ
    | _ => .fail
  | _ => .fail
def rSl (K : PySem.W.Frag) (es : List EC) : V → Option Int → Option Int → Hp → VK → Prop := fun x lo hi H Q => ∃ f μ v W σ, SR K f μ H ∧ VR K f H v x ∧ Post K es W σ f H (slc v lo hi μ) Q
theorem cut_whole {α : Type} (xs : List α) : cut xs 0 xs.length = xs := by
  unfold cut
  rw [List.drop_zero, Nat.sub_zero, List.take_length]
theorem VRs.map_int {K : PySem.W.Frag} {f : List Addr} {H : Hp} (ns : List Int) : VRs K f H (ns.map .int) (ns.map V.int) := VRs.ints ns
theorem sl_any : SlR X (rSl X.K es) := by
  refine SlR.weak (sl_tupA.or sl_list) fun x lo hi H Q ⟨f, μ, v, W, σ, S, rv, h⟩ => ?_
  cases v with
  | tup vs =>
    obtain ⟨a, xs, rfl, hq, t⟩ := rv
    refine .inl ⟨a, xs, rfl, hq, fun hw => ?_, fun _ => ?_⟩
    · have h1 : Post X.K es W σ f H (.ok (.tup (cut vs (sIxV vs.length 0 lo) (sIxV vs.length vs.length hi))) μ) Q := h
      rw [← sIxV_eq, ← sIxV_eq, ← t.length, hw.1, hw.2, t.length, cut_whole] at h1
      exact h1.done S ⟨a, xs, rfl, hq, t⟩
    · have h1 : Post X.K es W σ f H (.ok (.tup (cut vs (sIxV vs.length 0 lo) (sIxV vs.length vs.length hi))) μ) Q := h
      unfold cutV
      rw [sIxV_eq, sIxV_eq, t.length]
      exact h1.newT S (t.cut _ _)
  | scr ns =>
    obtain ⟨a, rfl, hq⟩ := rv
    have h1 : Post X.K es W σ f H (newLst ((cut ns (sIxV ns.length 0 lo) (sIxV ns.length ns.length hi)).map .int) μ) Q := h
    refine .inr ⟨a, _, rfl, hq.seq, ?_⟩
    unfold cutV
    rw [sIxV_eq, sIxV_eq, List.length_map, ← List.map_drop, ← List.map_take]
    exact h1.newL S (VRs.ints _)
  | ref n =>
    have h1 : Post X.K es W σ f H (match μ[n]? with
      | some (.lst xs) => newLst (cut xs (sIxV xs.length 0 lo) (sIxV xs.length xs.length hi)) μ
      | _ => .fail) Q := h
    split at h1
    · rename_i vs e
      obtain ⟨a, xs, rfl, _, hq, t⟩ := S.lst rv e
      refine .inr ⟨a, xs, rfl, SqL.of hq, ?_⟩
      unfold cutV
      rw [sIxV_eq, sIxV_eq, t.length]
      exact h1.newL S (t.cut _ _)
    · exact h1.elim
  | _ => exact h.elim

/-! ### built-ins of one value -/
theorem un1_neg : UnR X (unaryOp .USub) (r1 X.K es (sem1 .neg)) := by
  refine UnR.weak un_neg fun x H Q ⟨f, μ, v, W, σ, S, rv, h⟩ => ?_
  cases v with
  | int i => exact ⟨i, rv, h.done S rfl⟩
  | _ => exact h.elim
/-- a call of one argument -/
def c1 (K : PySem.W.Frag) (es : List EC) (s : Val → Sto → Out Val) : List V → Hp → VK → Prop := fun xs H Q => ∃ x, xs = [x] ∧ r1 K es s x H Q
def c2 (K : PySem.W.Frag) (es : List EC) (s : Val → Val → Sto → Out Val) : List V → Hp → VK → Prop := fun xs H Q => ∃ x y, xs = [x, y] ∧ r2 K es s x y H Q
theorem c1_abs : CallR X (.builtin "abs") (c1 X.K es (sem1 .abs)) := by
  refine CallR.weak call_abs fun xs H Q ⟨x, e, f, μ, v, W, σ, S, rv, h⟩ => ?_
  cases v with
  | int i => exact ⟨i, by rw [e, show x = _ from rv], h.done S rfl⟩
  | _ => exact h.elim
theorem c1_int : CallR X (.type "int") (c1 X.K es (sem1 .int)) := by
  refine CallR.weak call_int1 fun xs H Q ⟨x, e, f, μ, v, W, σ, S, rv, h⟩ => ?_
  cases v with
  | int i => exact .inl ⟨i, by rw [e, show x = _ from rv], h.done S rfl⟩
  | bl b => exact .inr ⟨b, by rw [e, show x = _ from rv], h.done S rfl⟩
  | _ => exact h.elim
theorem items_get {K : PySem.W.Frag} {W : WX} {σ : St} {f : List Addr} {H : Hp} {μ : Sto} {Q : VK} {v : Val} {k : List Val → Out Val} (h : Post K es W σ f H (match v with
    | .str _ => .fail
    | _ => match items μ v with
      | some vs => k vs
      | none => .fail) Q) : (∀ s, v ≠ .str s) ∧ ∃ vs, items μ v = some vs ∧ Post K es W σ f H (k vs) Q := by
  split at h
  · exact h.elim
  · rename_i hn
    split at h
    · rename_i vs e
      exact ⟨fun s z => hn s z, vs, e, h⟩
    · exact h.elim
theorem c1_len : CallR X (.builtin "len") (c1 X.K es (sem1 .len)) := by
  refine CallR.weak ((call_len_seq.or call_len_str).or c_dlen) fun xs H Q ⟨x, e, f, μ, v, W, σ, S, rv, h0⟩ => ?_
  have h' : Post X.K es W σ f H (match dictAt μ v with
    | some (_, kvs) => .ok (.int kvs.length) μ
    | none => lenL v μ) Q := h0
  cases ed : dictAt μ v with
  | some p =>
    obtain ⟨t, kvs⟩ := p
    simp only [ed] at h'
    obtain ⟨n, rfl, hn⟩ := dictAt_get ed
    exact .inr ⟨x, f, μ, n, t, kvs, e, S, rv, hn, h'.done S rfl⟩
  | none =>
  simp only [ed] at h'
  have h := h'
  left
  by_cases hs : ∃ s, v = .str s
  · obtain ⟨s, rfl⟩ := hs
    obtain ⟨hc, h⟩ := Post.ite_ok (show Post X.K es W σ f H (if s.length ≤ LIM then .ok (.int s.length) μ else .fail) Q from h)
    refine .inr ⟨⟨s.toArray⟩, by rw [e, show x = _ from rv], ?_, ?_⟩
    · show s.toArray.size ≤ sizeLine
      rw [sizeLine_eq]; simpa using hc
    · show Q (.int (s.toArray.size : Nat)) H
      rw [List.size_toArray]; exact h.done S rfl
  · have hs' : ∀ s, v ≠ .str s := fun s z => hs ⟨s, z⟩
    cases e2 : items μ v with
    | none =>
      exfalso
      unfold lenL at h
      split at h
      · exact absurd rfl (hs' _)
      · rw [e2] at h; exact h.elim
    | some vs =>
      have h1 : Post X.K es W σ f H (.ok (.int vs.length) μ) Q := by
        unfold lenL at h
        split at h
        · exact absurd rfl (hs' _)
        · rw [e2] at h; exact h
      obtain ⟨a, xs', rfl, t, hq⟩ := S.items rv e2 hs'
      refine .inl ⟨a, xs', e, hq.imp (fun z => z.1) fun z => z.1, ?_⟩
      rw [t.length]; exact h1.done S rfl
theorem c1_tup : CallR X (.type "tuple") (c1 X.K es (sem1 .toTup)) := by
  refine CallR.weak call_tuple_of fun xs H Q ⟨x, e, f, μ, v, W, σ, S, rv, h⟩ => ?_
  obtain ⟨hs, vs, e2, h1⟩ := items_get (k := fun vs => .ok (.tup vs) μ) (show Post X.K es W σ f H _ Q from h)
  obtain ⟨a, xs', rfl, t, hq⟩ := S.items rv e2 hs
  rcases hq with ⟨hq, _⟩ | ⟨hq, _⟩
  · exact ⟨a, xs', e, .inl ⟨hq, h1.newT S t⟩⟩
  · exact ⟨a, xs', e, .inr ⟨hq, h1.done S ⟨a, xs', rfl, hq, t⟩⟩⟩
theorem c1_lst : CallR X (.type "list") (c1 X.K es (sem1 .toLst)) := by
  refine CallR.weak call_list_of fun xs H Q ⟨x, e, f, μ, v, W, σ, S, rv, h⟩ => ?_
  obtain ⟨hs, vs, e2, h1⟩ := items_get (k := fun vs => newLst vs μ) (show Post X.K es W σ f H _ Q from h)
  obtain ⟨a, xs', rfl, t, hq⟩ := S.items rv e2 hs
  exact ⟨a, xs', e, hq.imp (fun z => z.1) fun z => z.1, h1.newL S t⟩
theorem c2_min (hc : X.calm = true) : CallR X (.builtin "min") (c2 X.K es (sem2 .min2)) := by
  refine CallR.weak (call_min2 hc) fun xs H Q ⟨x, y, e, f, μ, v, w, W, σ, S, rv, rw', h⟩ => ?_
  cases v with
  | int i =>
    cases w with
    | int j => exact ⟨i, j, by rw [e, show x = _ from rv, show y = _ from rw'], h.done S rfl⟩
    | _ => exact h.elim
  | _ => exact h.elim
theorem c2_max (hc : X.calm = true) : CallR X (.builtin "max") (c2 X.K es (sem2 .max2)) := by
  refine CallR.weak (call_max2 hc) fun xs H Q ⟨x, y, e, f, μ, v, w, W, σ, S, rv, rw', h⟩ => ?_
  cases v with
  | int i =>
    cases w with
    | int j => exact ⟨i, j, by rw [e, show x = _ from rv, show y = _ from rw'], h.done S rfl⟩
    | _ => exact h.elim
  | _ => exact h.elim


/-! ### isinstance -/
def tyN : Ty → String
  | .int => "int" | .bool => "bool" | .str => "str" | .tuple => "tuple" | .list => "list"
def tyB (a : String) (t : Ty) : Bool := match t with
  | .int => a == "int" || a == "bool"
  | .bool => a == "bool"
  | .str => a == "str"
  | .tuple => a == "tuple"
  | .list => a == "list"
theorem kit_all (a : String) (h : a = "NoneType" ∨ a = "bool" ∨ a = "int" ∨ a = "str" ∨ a = "tuple" ∨ a = "list" ∨ a = "dict") (t : Ty) : kitB a (tyN t) = some (tyB a t) := by
  rcases h with rfl | rfl | rfl | rfl | rfl | rfl | rfl <;> cases t <;> decide +kernel
theorem kit_some {a : String} (h : a = "NoneType" ∨ a = "bool" ∨ a = "int" ∨ a = "str" ∨ a = "tuple" ∨ a = "list" ∨ a = "dict") {t : Ty} {o : Option Bool} {b : Bool} (e : o = some b) (q : o = some (tyB a t)) : kitB a (tyN t) = some b := by
  rw [kit_all a h t, ← q, e]
theorem isTy_get {K : PySem.W.Frag} {f : List Addr} {H : Hp} {μ : Sto} {v : Val} {x : V} {t0 : Ty} {b0 : Bool} (h0 : isTy μ v t0 = some b0) (S : SR K f μ H) (rv : VR K f H v x) : ∃ a : String, TyX K H x (.type a) ∧ ∀ t b, isTy μ v t = some b → kitB a (tyN t) = some b := by
  cases v with
  | non =>
    rw [show x = _ from rv]
    exact ⟨"NoneType", .base .non, fun t b e => kit_some (.inl rfl) e (by cases t <;> rfl)⟩
  | bl y =>
    rw [show x = _ from rv]
    exact ⟨"bool", .base (.bl y), fun t b e => kit_some (.inr (.inl rfl)) e (by cases t <;> rfl)⟩
  | int y =>
    rw [show x = _ from rv]
    exact ⟨"int", .base (.int y), fun t b e => kit_some (.inr (.inr (.inl rfl))) e (by cases t <;> rfl)⟩
  | str y =>
    rw [show x = _ from rv]
    exact ⟨"str", .base (.str _), fun t b e => kit_some (.inr (.inr (.inr (.inl rfl)))) e (by cases t <;> rfl)⟩
  | tup vs =>
    obtain ⟨a, xs, rfl, hq, t⟩ := rv
    refine ⟨"tuple", ?_, fun t b e => kit_some (.inr (.inr (.inr (.inr (.inl rfl))))) e (by cases t <;> rfl)⟩
    rcases hq with (hq | ⟨o, hq⟩) | ⟨o, its, n, hk, hc, _⟩
    · exact .base (.tup hq)
    · exact .fTuple hq
    · exact .kTuple hk hc
  | scr ns =>
    obtain ⟨a, rfl, hq⟩ := rv
    refine ⟨"list", ?_, fun t b e => kit_some (.inr (.inr (.inr (.inr (.inr (.inl rfl)))))) e (by cases t <;> rfl)⟩
    rcases hq with ⟨o, hq⟩ | ⟨o, its, n, hk, hc, _⟩
    · exact .base (.frz hq)
    · exact .kList hk hc
  | ref n =>
    obtain ⟨a, ha, rfl⟩ := rv
    obtain ⟨c, o, hc, ho⟩ := S.there ha
    have q := S.cell n c a hc ha
    cases c with
    | lst vs =>
      obtain ⟨xs, hx, _⟩ := q
      refine ⟨"list", .base (.lst hx), fun t b e => kit_some (.inr (.inr (.inr (.inr (.inr (.inl rfl)))))) e ?_⟩
      cases t <;> (simp only [isTy, hc]; rfl)
    | dict d kvs =>
      cases d with
      | false =>
        obtain ⟨ks, hx, _⟩ := q
        refine ⟨"dict", .base (.dK hx), fun t b e => kit_some (.inr (.inr (.inr (.inr (.inr (.inr rfl)))))) e ?_⟩
        cases t <;> (simp only [isTy, hc]; rfl)
      | true =>
        exfalso
        simp [isTy, hc] at h0
    | ins _ _ => exact q.elim
  | zp a b c d => exact rv.elim
theorem isTys_kit {K : PySem.W.Frag} {μ : Sto} {v : Val} {a : String} (h : ∀ t b, isTy μ v t = some b → kitB a (tyN t) = some b) : ∀ (ts : List Ty) (b : Bool), isTys μ v ts = some b →
    PySem.W.kitAny K (.type a) (ts.map fun t => Value.type (tyN t)) = some b
  | [], b, e => by cases (show some false = some b from e); exact kitAny_nil
  | t :: ts, b, e => by
    cases q : isTy μ v t with
    | none =>
      have e' : (match isTy μ v t with | some true => some true | some false => isTys μ v ts | none => none) = some b := e
      rw [q] at e'; cases e'
    | some c =>
      have e' : (match isTy μ v t with | some true => some true | some false => isTys μ v ts | none => none) = some b := e
      rw [q] at e'
      refine kitAny_cons (kit_ty (h t c q)) (fun hc => ?_) fun hc => ?_
      · subst hc; exact isTys_kit h ts b e'
      · subst hc; exact (Option.some.inj e').symm
/-- isinstance(x, T), (T1, T2) -/
def rI1 (K : PySem.W.Frag) (es : List EC) (t : Ty) : List V → Hp → VK → Prop := fun xs H Q => ∃ x, xs = [x, .ty (tyN t)] ∧ r1 K es (sem1 (.isi [t])) x H Q
theorem c_isi (t : Ty) : CallR X (.builtin "isinstance") (rI1 X.K es t) := by
  refine CallR.weak call_isi fun xs H Q ⟨x, e, f, μ, v, W, σ, S, rv, h⟩ => ?_
  have h1 : Post X.K es W σ f H (match isTys μ v [t] with
    | some b => .ok (.bl b) μ
    | none => .fail) Q := h
  cases q : isTy μ v t with
  | none =>
    have : isTys μ v [t] = none := by unfold isTys; rw [q]
    rw [this] at h1; exact h1.elim
  | some b =>
    obtain ⟨a, ty, k⟩ := isTy_get q S rv
    have : isTys μ v [t] = some b := by unfold isTys; rw [q]; cases b <;> rfl
    rw [this] at h1
    exact ⟨x, .ty (tyN t), .type a, .type (tyN t), b, e, .ty _, ty, kit_ty (k t b q), h1.done S rfl⟩
def rI2 (K : PySem.W.Frag) (es : List EC) (ts : List Ty) : List V → Hp → VK → Prop := fun xs H Q => ∃ x tp, xs = [x, .ref tp] ∧ H tp = some (.tup (ts.map fun t => V.ty (tyN t))) ∧ r1 K es (sem1 (.isi ts)) x H Q
theorem clsVs : ∀ ts : List Ty, Paired ClsV (ts.map fun t => V.ty (tyN t)) (ts.map fun t => Value.type (tyN t))
  | [] => .nil
  | t :: ts => .cons (.ty _) (clsVs ts)
theorem c_isiT (ts : List Ty) (hne : ts ≠ []) : CallR X (.builtin "isinstance") (rI2 X.K es ts) := by
  refine CallR.weak call_isiT fun xs H Q ⟨x, tp, e, ht, f, μ, v, W, σ, S, rv, h⟩ => ?_
  have h1 : Post X.K es W σ f H (match isTys μ v ts with
    | some b => .ok (.bl b) μ
    | none => .fail) Q := h
  cases q : isTys μ v ts with
  | none => rw [q] at h1; exact h1.elim
  | some b =>
    rw [q] at h1
    obtain ⟨t0, b0, h0⟩ : ∃ t0 b0, isTy μ v t0 = some b0 := by
      cases ts with
      | nil => exact absurd rfl hne
      | cons t0 ts =>
        cases q0 : isTy μ v t0 with
        | some b0 => exact ⟨t0, b0, q0⟩
        | none =>
          have q1 : (match isTy μ v t0 with | some true => some true | some false => isTys μ v ts | none => none) = some b := q
          rw [q0] at q1
          cases q1
    obtain ⟨a, ty, k⟩ := isTy_get h0 S rv
    exact ⟨x, tp, _, .type a, _, b, e, ht, clsVs ts, ty, isTys_kit k ts b q, h1.done S rfl⟩

/-! ### methods of lists, sums -/
def m1 (K : PySem.W.Frag) (es : List EC) (s : Val → Val → Sto → Out Val) : V → List V → Hp → VK → Prop := fun x xs H Q => ∃ y, xs = [y] ∧ r2 K es s x y H Q
def m0 (K : PySem.W.Frag) (es : List EC) (s : Val → Sto → Out Val) : V → List V → Hp → VK → Prop := fun x xs H Q => xs = [] ∧ r1 K es s x H Q
theorem lst_get {K : PySem.W.Frag} {W : WX} {σ : St} {f : List Addr} {H : Hp} {μ : Sto} {Q : VK} {v : Val} {k : Nat → List Val → Out Val} (h : Post K es W σ f H (match v with
    | .ref n => match μ[n]? with
      | some (.lst xs) => k n xs
      | _ => .fail
    | _ => .fail) Q) : ∃ n xs, v = .ref n ∧ μ[n]? = some (.lst xs) ∧ Post K es W σ f H (k n xs) Q := by
  split at h
  · rename_i n
    split at h
    · rename_i xs e
      exact ⟨n, xs, rfl, e, h⟩
    · exact h.elim
  · exact h.elim
theorem sum_rawT {prog : Program} {w : World} {A : Around} {E : Value → Shared → Prop} {s : Shared} {l : Addr} {its : List Value} {ns : List Int} {Q : Value → Shared → Prop} (hh : A.handled = none) (hl : s.heap.IsTuple l its.toArray) (hi : IntsAre its ns)
    (h : ∀ h' tk t', (∀ b o, s.heap.get? b = some o → h'.get? b = some o) → Q (.int ns.sum t') { s with heap := h', toks := tk }) : wpAny (model prog w) A (call (.builtin "sum") [.ref l]) Q E s := by
  obtain ⟨xs, e⟩ := hi.allInts.items
  have hn : numsOf (intItems xs).toList = ns := by rw [← e]; exact hi.numsOf
  rw [nums_intItems] at hn
  rw [e] at hl
  refine PySem.W.ktm_sumG hh hl fun h' tk t' hk => ?_
  have := h h' tk t' hk
  rw [preSum_eq, List.take_of_length_le (by simp), hn]; exact this
theorem cr_sumT (hc : X.calm = true) : CallR X (.builtin "sum") (fun vs H Q => ∃ (a : Addr) (ns : List Int), vs = [V.ref a] ∧ SqT X.K H a (ns.map V.int) ∧ Q (.int ns.sum) H) := by
  intro pins s σ H vs us Q I r h
  obtain ⟨a, ns, rfl, hs, q⟩ := h
  obtain ⟨its, rv, ⟨o, ho, hc', n, hd⟩, _⟩ := I.tuple hs
  rw [Vals.ref1 r]
  exact sum_rawT (I.ok.hd hc) ⟨o, ho, hc', n, hd⟩ rv.ints fun h' tk t' hk => ⟨.int _, H, I.kept hk, ⟨_, rfl⟩, q⟩
theorem c1_sum (hc : X.calm = true) : CallR X (.builtin "sum") (c1 X.K es (sem1 .sum)) := by
  refine CallR.weak ((cr_sum hc).or (cr_sumT hc)) fun xs H Q ⟨x, e, f, μ, v, W, σ, S, rv, h⟩ => ?_
  by_cases ht : ∃ vs, v = .tup vs
  · obtain ⟨vs, rfl⟩ := ht
    have h1 : Post X.K es W σ f H (match Mi.asInts vs with
      | some ns => .ok (.int ns.sum) μ
      | none => .fail) Q := h
    cases e3 : Mi.asInts vs with
    | none => rw [e3] at h1; exact h1.elim
    | some ns =>
      rw [e3] at h1
      obtain ⟨a, us, rfl, hq, t⟩ := rv
      have e4 := t.ints_of e3
      subst e4
      exact .inr ⟨a, ns, e, hq, h1.done S rfl⟩
  left
  cases v with
  | ref m =>
    obtain ⟨n, vs, e1, e2, h1⟩ := lst_get (v := .ref m) (k := fun n vs => match Mi.asInts vs with
          | some ns => .ok (.int ns.sum) μ
          | none => .fail) h
    cases e1
    obtain ⟨a, us, rfl, ha, hq, t⟩ := S.lst rv e2
    cases e3 : Mi.asInts vs with
    | none => rw [e3] at h1; exact h1.elim
    | some ns =>
      rw [e3] at h1
      have e4 := t.ints_of e3
      subst e4
      exact ⟨a, ns, e, SqL.of hq, h1.done S rfl⟩
  | tup vs => exact absurd ⟨vs, rfl⟩ ht
  | _ => exact h.elim
theorem Post.setL {K : PySem.W.Frag} {W : WX} {σ : St} {f : List Addr} {H : Hp} {μ : Sto} {Q : VK} {n : Nat} {a : Addr} {v : Val} {x : V} {vs : List Val} {xs ys : List V} (h : Post K es W σ f H (.ok v (μ.set n (.lst vs))) Q) (S : SR K f μ H) (ha : f[n]? = some a)
    (hp : H a = some (.lst ys)) (t : VRs K f H vs xs) (r : VR K f H v x) : Q x (upd H a (.lst xs)) :=
  h f _ _ (Le.setL (List.mem_of_getElem? ha) hp) (S.setL (us := []) ha hp t) (VR.mono (Le.setL (List.mem_of_getElem? ha) hp) v x r)
theorem m_append : MtR X "list.append" (m1 X.K es (sem2 .append)) := by
  refine MtR.weak mt_append fun x xs H Q ⟨y, e, f, μ, v, w, W, σ, S, rv, rw', h⟩ => ?_
  obtain ⟨n, vs, rfl, e2, h1⟩ := lst_get (k := fun n xs => if xs.length < LIM then .ok .non (μ.set n (.lst (xs ++ [w]))) else .fail) h
  obtain ⟨hc, h2⟩ := Post.ite_ok h1
  obtain ⟨a, us, rfl, ha, hq, t⟩ := S.lst rv e2
  exact ⟨a, us, y, rfl, e, hq, by rw [t.length, sizeLine_eq]; exact hc, h2.setL S ha hq (t.append ⟨y, [], rfl, rw', rfl⟩) rfl⟩
theorem dats_map : ∀ vs : List Val, dats vs = vs.map dat
  | [] => rfl
  | v :: vs => by rw [dats, dats_map vs]; rfl
theorem plains_get {n : Nat} : ∀ {vs : List Val} {i : Nat} {v : Val}, plains n vs = true → vs[i]? = some v → v.plain n = true
  | w :: vs, 0, v, h, e => by
    rw [plains, Bool.and_eq_true] at h
    cases (show some w = some v from e)
    exact h.1
  | w :: vs, i + 1, v, h, e => by
    rw [plains, Bool.and_eq_true] at h
    exact plains_get h.2 (show vs[i]? = some v from e)
  | [], _, _, _, e => by simp at e
theorem m_index (hu : X.A.units + 65 < cLine) : MtR X "list.index" (m1 X.K es (sem2 .index)) := by
  refine MtR.weak (mt_indexD hu) fun x xs H Q ⟨y, e, f, μ, v, w, W, σ, S, rv, rw', h⟩ => ?_
  obtain ⟨n, vs, rfl, e2, h1⟩ := lst_get (k := fun n xs => if plains 60 xs ∧ w.plain 60 ∧ xs.length ≤ LIM then (match xs.findIdx? (fun y => eqv y w) with
        | some j => .ok (.int (j : Nat)) μ
        | none => .fail) else .fail) h
  obtain ⟨⟨c1, c2, c3⟩, h2⟩ := Post.ite h1
  obtain ⟨a, us, rfl, ha, hq, t⟩ := S.lst rv e2
  cases hf : vs.findIdx? (fun y => eqv y w) with
  | none => rw [hf] at h2; exact h2.elim
  | some j =>
    rw [hf] at h2
    obtain ⟨hj, q1, q2⟩ := List.findIdx?_eq_some_iff_getElem.mp hf
    have hm : ∀ (m : Nat) (hm : m < vs.length), (dats vs)[m]? = some (dat vs[m]) := fun m hm => by rw [dats_map, List.getElem?_map, List.getElem?_eq_getElem hm]; rfl
    have pl : ∀ (m : Nat) (hm : m < vs.length), (vs[m]).plain 60 = true := fun m hm => plains_get c1 (List.getElem?_eq_getElem hm)
    have dl : Dp X.K H (V.ref a) (.list (dats vs)) := .lst (SqL.of hq) (dats_dp 60 vs us c1 t)
    refine ⟨a, y, dat w, dats vs, j, dat vs[j], rfl, e, dl, dat_dp 60 w y c2 rw', ?_, shaped_of c2, hm j hj, ?_, fun m z' hmj hz => ?_, h2.done S rfl⟩
    · obtain ⟨a1, a2⟩ := dats_lay 60 vs c1
      unfold SeqAt.shaped
      simp only [PyData.canLay0, PyData.depth, a1, Bool.true_and]
      exact decide_eq_true (by omega)
    · rw [eqv_dat 60 60 _ _ (pl j hj) c2]; exact q1
    · have hml : m < vs.length := by omega
      rw [hm m hml] at hz
      cases hz
      rw [eqv_dat 60 60 _ _ (pl m hml) c2]
      simpa using q2 m hmj
theorem m_extend : MtR X "list.extend" (m1 X.K es (sem2 .extend)) := by
  refine MtR.weak mt_extend fun x xs H Q ⟨y, e, f, μ, v, w, W, σ, S, rv, rw', h⟩ => ?_
  cases v with
  | ref n =>
    cases w with
    | ref m =>
      have h' : Post X.K es W σ f H (match μ[n]?, μ[m]? with
        | some (.lst xs), some (.lst ys) => if xs.length + ys.length ≤ LIM then .ok .non (μ.set n (.lst (xs ++ ys))) else .fail
        | _, _ => .fail) Q := h
      split at h'
      · rename_i us ws e1 e2
        obtain ⟨hc, h⟩ := Post.ite_ok h'
        obtain ⟨a, xs', rfl, ha, hq, tx⟩ := S.lst rv e1
        obtain ⟨b, ys, rfl, hb, hq2, ty⟩ := S.lst rw' e2
        exact ⟨a, b, xs', ys, rfl, e, hq, hq2, by rw [tx.length, ty.length, sizeLine_eq]; exact hc, h.setL S ha hq (tx.append ty) rfl⟩
      · exact h'.elim
    | _ => exact h.elim
  | _ => exact h.elim
theorem m_pop : MtR X "list.pop" (m0 X.K es (sem1 .pop)) := by
  refine MtR.weak mt_pop fun x xs H Q ⟨e, f, μ, v, W, σ, S, rv, h⟩ => ?_
  obtain ⟨n, vs, rfl, e2, h1⟩ := lst_get (k := fun n vs => match vs.getLast? with
        | some v => .ok v (μ.set n (.lst vs.dropLast))
        | none => .fail) h
  obtain ⟨a, us, rfl, ha, hq, t⟩ := S.lst rv e2
  cases e3 : vs.getLast? with
  | none => rw [e3] at h1; exact h1.elim
  | some v =>
    rw [e3] at h1
    rw [List.getLast?_eq_getElem?] at e3
    obtain ⟨z, h3, h4⟩ := t.get e3
    exact ⟨a, us, z, rfl, e, hq, by rw [t.length]; exact h3, h1.setL S ha hq t.dropLast h4⟩
theorem m_popAt : MtR X "list.pop" (m1 X.K es (sem2 .popAt)) := by
  refine MtR.weak mt_popAt fun x xs H Q ⟨y, e, f, μ, v, w, W, σ, S, rv, rw', h⟩ => ?_
  cases v with
  | ref n =>
    cases w with
    | int i =>
      have h' : Post X.K es W σ f H (match μ[n]? with
        | some (.lst xs) => if 0 ≤ i ∧ i < xs.length ∧ xs.length ≤ LIM then match xs[i.toNat]? with
          | some v => .ok v (μ.set n (.lst (xs.eraseIdx i.toNat)))
          | none => .fail
          else .fail
        | _ => .fail) Q := h
      split at h'
      · rename_i vs e2
        obtain ⟨⟨h1, h2, hz⟩, h3⟩ := Post.ite h'
        obtain ⟨a, us, rfl, ha, hq, t⟩ := S.lst rv e2
        cases e3 : vs[i.toNat]? with
        | none => rw [e3] at h3; exact h3.elim
        | some v =>
          rw [e3] at h3
          obtain ⟨z, h4, h5⟩ := t.get e3
          refine ⟨a, us, i, i.toNat, z, rfl, by rw [e, show y = _ from rw'], hq, by omega, ?_, ?_, h4, h3.setL S ha hq (t.eraseIdx _) h5⟩
          · have : LIM = 16777216 := rfl
            omega
          · rw [t.length]; exact seqIndex_of h1 h2
      · exact h'.elim
    | _ => exact h.elim
  | _ => exact h.elim
end
end Mi
end

section
set_option Elab.async false
set_option linter.all false
set_option maxRecDepth 100000
set_option autoImplicit false
set_option maxHeartbeats 1000000
/-! SoundE: dicts made. -/
namespace Mi
open PySem PySem.Spec L2
open PyProof.Rows hiding St
section
variable {K : PySem.W.Frag} {f : List Addr} {H : Hp}
theorem KRs.puts : ∀ {ps acc : List (Val × Val)} {qs ks : List (Key × V)}, KRs K f H ps qs → KRs K f H acc ks → KRs K f H (dputs acc ps) (mergeK ks qs)
  | [], acc, qs, ks, h, r => by rw [show qs = [] from h]; exact r
  | p :: ps, acc, qs, ks, ⟨x, t, e, ho, hv, q⟩, r => by
    rw [e]
    show KRs K f H (dputs (dput acc p.1 p.2) ps) (mergeK (L2.putK ks (keyV p.1) x) t)
    exact KRs.puts q (r.put ho hv)
theorem TRs.puts : ∀ {ps acc : List (Val × Val)} {qs ks : List DX.Ent}, TRs K f H ps qs → TRs K f H acc ks → TRs K f H (dputs acc ps) (DX.putsX ks qs)
  | [], acc, qs, ks, h, r => by rw [show qs = [] from h]; exact r
  | p :: ps, acc, qs, ks, ⟨b, x, t, e, ho, hk, hv, q⟩, r => by
    rw [e]
    show TRs K f H (dputs (dput acc p.1 p.2) ps) (DX.putsX (DX.putX ks (nk p.1) b x) t)
    exact TRs.puts q (r.put ho hk hv)
theorem pairs_K : ∀ {vs : List Val} {ps : List (Val × Val)} {xs : List V}, pairsOf false vs = some ps → VRs K f H vs xs →
    ∃ (as : List Addr) (ks : List (Key × V)), xs = as.map V.ref ∧ KRs K f H ps ks ∧ Paired (fun p kv => SqT K H p [kV kv.1, kv.2]) as ks
  | [], ps, xs, h, r => by
    cases (show some [] = some ps from h)
    exact ⟨[], [], r, rfl, .nil⟩
  | v :: vs, ps, xs, h, ⟨x, t, e, rx, q⟩ => by
    cases v with
    | tup l =>
      match l, h, rx with
      | [k, v], h, rx =>
        have h' : (if keyOk false k = true then (pairsOf false vs).map ((k, v) :: ·) else none) = some ps := h
        by_cases hk : keyOk false k = true
        · rw [if_pos hk] at h'
          cases e2 : pairsOf false vs with
          | none => rw [e2] at h'; cases h'
          | some r =>
            rw [e2] at h'
            cases h'
            obtain ⟨as, ks, ea, rk, rp⟩ := pairs_K e2 q
            obtain ⟨a, ys, rfl, hq, ty⟩ := rx
            obtain ⟨y, r1, e3, ry, ⟨z, r2, e4, rz, e5⟩⟩ := ty
            have e6 : r2 = [] := e5
            subst e6 e4 e3
            have ey := key_kV hk ry
            subst ey
            exact ⟨a :: as, (keyV k, z) :: ks, by rw [e, ea]; rfl, ⟨z, ks, rfl, hk, rz, rk⟩, .cons hq rp⟩
        · rw [if_neg hk] at h'; cases h'
      | [], h, _ => cases h
      | [_], h, _ => cases h
      | _ :: _ :: _ :: _, h, _ => cases h
    | _ => cases h
theorem pairs_T : ∀ {vs : List Val} {ps : List (Val × Val)} {xs : List V}, pairsOf true vs = some ps → VRs K f H vs xs →
    ∃ (as : List Addr) (ks : List DX.Ent), xs = as.map V.ref ∧ TRs K f H ps ks ∧ Paired (fun p (e : DX.Ent) => SqT K H p [.ref e.2.1, e.2.2]) as ks ∧ ∀ e ∈ ks, DX.TF e.1
  | [], ps, xs, h, r => by
    cases (show some [] = some ps from h)
    exact ⟨[], [], r, rfl, .nil, fun e he => by cases he⟩
  | v :: vs, ps, xs, h, ⟨x, t, e, rx, q⟩ => by
    cases v with
    | tup l =>
      match l, h, rx with
      | [k, v], h, rx =>
        have h' : (if keyOk true k = true then (pairsOf true vs).map ((k, v) :: ·) else none) = some ps := h
        by_cases hk : keyOk true k = true
        · rw [if_pos hk] at h'
          cases e2 : pairsOf true vs with
          | none => rw [e2] at h'; cases h'
          | some r =>
            rw [e2] at h'
            cases h'
            obtain ⟨as, ks, ea, rk, rp, htf⟩ := pairs_T e2 q
            obtain ⟨a, ys, rfl, hq, ty⟩ := rx
            obtain ⟨y, r1, e3, ry, ⟨z, r2, e4, rz, e5⟩⟩ := ty
            have e6 : r2 = [] := e5
            subst e6 e4 e3
            obtain ⟨b, rfl⟩ := key_ref hk ry
            refine ⟨a :: as, (nk k, b, z) :: ks, by rw [e, ea]; rfl, ⟨b, z, ks, rfl, hk, ry, rz, rk⟩, .cons hq rp, fun d hd => ?_⟩
            rcases List.mem_cons.mp hd with rfl | hd
            · exact tf_of hk
            · exact htf d hd
        · rw [if_neg hk] at h'; cases h'
      | [], h, _ => cases h
      | [_], h, _ => cases h
      | _ :: _ :: _ :: _, h, _ => cases h
    | _ => cases h
end
section
variable {X : Cx} {es : List EC}
theorem Post.newD {K : PySem.W.Frag} {W : WX} {σ : L2.St} {f : List Addr} {H : Hp} {μ : Sto} {Q : VK} {t : Bool} {kvs : List (Val × Val)} {o : Addr → HO} (h : Post K es W σ f H (.ok (.ref μ.length) (μ ++ [.dict t kvs])) Q) (S : SR K f μ H)
    (hd : ∀ p, H p = none → DR K (f ++ [p]) (upd H p (o p)) t kvs p) : ∀ p, H p = none → Q (.ref p) (upd H p (o p)) := fun p hp =>
  h (f ++ [p]) _ _ (Le.newL hp) (S.newC hp (hd p hp)) (VR.ref_new S)
theorem dict_in {W : WX} {σ : L2.St} {f : List Addr} {H : Hp} {μ : Sto} {Q : VK} {t : Bool} {v : Val} (h : Post X.K es W σ f H (sem1 (.dict t) v μ) Q) : ∃ n vs ps, v = .ref n ∧ μ[n]? = some (.lst vs) ∧ pairsOf t vs = some ps ∧ Post X.K es W σ f H (.ok (.ref μ.length) (μ ++ [.dict t (dputs [] ps)])) Q := by
  cases v with
  | ref n =>
    have h1 : Post X.K es W σ f H (match μ[n]? with
      | some (.lst vs) => match pairsOf t vs with
        | some ps => .ok (.ref μ.length) (μ ++ [.dict t (dputs [] ps)])
        | none => .fail
      | _ => .fail) Q := h
    split at h1
    · rename_i vs e
      split at h1
      · rename_i ps e2
        exact ⟨n, vs, ps, rfl, e, e2, h1⟩
      · exact h1.elim
    · exact h1.elim
  | _ => exact h.elim
theorem c1_dict (hc : X.calm = true) (hu : X.A.units + 16 < cLine) (t : Bool) : CallR X (.type "dict") (c1 X.K es (sem1 (.dict t))) := by
  cases t with
  | false =>
    refine CallR.weak (call_dictP hc) fun xs H Q ⟨x, e, f, μ, v, W, σ, S, rv, h⟩ => ?_
    obtain ⟨n, vs, ps, rfl, e1, e2, h⟩ := dict_in h
    obtain ⟨a, ys, rfl, ha, hq, ty⟩ := S.lst rv e1
    obtain ⟨as, ks, rfl, rk, rp⟩ := pairs_K e2 ty
    refine ⟨a, as, ks, e, SqL.of hq, rp, h.newD (o := fun _ => .dK (mergeK [] ks)) S fun p hp => ⟨_, upd_same, ?_⟩⟩
    exact KRs.mono (Le.newL hp) (KRs.puts rk (show KRs X.K f H [] [] from rfl))
  | true =>
    refine CallR.weak (DX.call_dictX hc hu) fun xs H Q ⟨x, e, f, μ, v, W, σ, S, rv, h⟩ => ?_
    obtain ⟨n, vs, ps, rfl, e1, e2, h⟩ := dict_in h
    obtain ⟨a, ys, rfl, ha, hq, ty⟩ := S.lst rv e1
    obtain ⟨as, ks, rfl, rk, rp, htf⟩ := pairs_T e2 ty
    refine ⟨a, as, ks, e, SqL.of hq, rp, htf, fun pins σ s I => rk.keyed I, h.newD (o := fun p => DX.DXo p (DX.putsX [] ks)) S fun p hp => ⟨_, upd_same, ?_⟩⟩
    exact TRs.mono (Le.newL hp) (TRs.puts rk (show TRs X.K f H [] [] from rfl))
theorem c1_str : CallR X (.type "str") (c1 X.K es (sem1 .str)) := by
  refine CallR.weak call_str_int fun xs H Q ⟨x, e, f, μ, v, W, σ, S, rv, h⟩ => ?_
  cases v with
  | int i =>
    obtain ⟨hc, h⟩ := Post.ite_ok (show Post X.K es W σ f H (if i.natAbs < 1000000000000000000000000 then .ok (.str (strI i)) μ else .fail) Q from h)
    refine ⟨i, by rw [e, show x = _ from rv], ?_, ?_⟩
    · by_cases h0 : i.natAbs = 0
      · rw [h0]; decide
      · have := (Nat.log2_lt (k := 80) h0).mpr (by omega)
        omega
    · refine h.done S ?_
      show L2.V.str (Str.ofString (toString i)) = L2.V.str ⟨(strI i).toArray⟩
      rw [Str.ofString_eq_toList]
      rfl
  | _ => exact h.elim
end
end Mi
end

section
set_option Elab.async false
set_option linter.all false
set_option maxRecDepth 100000
set_option autoImplicit false
set_option maxHeartbeats 1000000
/-! KF1: a[::-1] of lists and tuples of anything. -/
namespace Mi
open PySem PySem.Spec L2
open PyProof.Rows hiding St
theorem back_adjust (n : Nat) : Builtin.Slice.sliceAdjust none none (-1) (n : Int) = ((n : Int) - 1, -1) := rfl
theorem back_places (n : Nat) : Builtin.Slice.slicePlaces ((n : Int) - 1) (-1) (-1) = n := by
  unfold Builtin.Slice.slicePlaces
  rw [if_neg (by decide)]
  by_cases h : n = 0
  · rw [if_neg (by omega), h]; rfl
  · rw [if_pos (by omega)]
    have e : ((n : Int) - 1 - -1 - 1) / (- -1) = (n : Int) - 1 := by
      rw [show (- -1 : Int) = 1 by decide, Int.ediv_one]; omega
    rw [e]; omega
theorem filterMap_same {α β : Type} {f g : α → Option β} : ∀ {l : List α}, (∀ k ∈ l, f k = g k) → l.filterMap f = l.filterMap g
  | [], _ => rfl
  | x :: l, h => by
    rw [List.filterMap_cons, List.filterMap_cons, h x (List.mem_cons_self ..), filterMap_same fun k hk => h k (List.mem_cons_of_mem _ hk)]
theorem back_pick (xs : Array Value) : ((List.range xs.size).filterMap fun (k : Nat) => xs[(((xs.size : Nat) : Int) - 1 + (k : Int) * (-1)).toNat]?).toArray = xs.toList.reverse.toArray := by
  have e : ((List.range xs.size).filterMap fun (k : Nat) => xs[(((xs.size : Nat) : Int) - 1 + (k : Int) * (-1)).toNat]?) = ((List.range xs.size).map fun k => xs.size - 1 - k).filterMap (xs[·]?) := by
    rw [List.filterMap_map]
    refine filterMap_same fun k hk => ?_
    have := List.mem_range.mp hk
    show xs[(((xs.size : Nat) : Int) - 1 + (k : Int) * (-1)).toNat]? = xs[xs.size - 1 - k]?
    congr 1
    omega
  rw [e, PySem.W.krv_range, List.filterMap_reverse, PySem.W.krv_all]
section
variable {prog : Program} {w : World} {A : Around} {E : Value → Shared → Prop} {s : Shared}
theorem getItem_tuple_back {t sl : Addr} {u : Tok} {items : Array Value} {Q : Value → Shared → Prop} (ht : IsTup s.heap t items) (hs : s.heap.IsSliceOf sl .none .none (.int (-1) u))
    (h : Q (.ref s.heap.objs.size) { s with heap := s.heap.push { cls := .type "tuple", data := .seq items.toList.reverse.toArray } })
    (hsz : items.size ≤ sizeLine) : wpAny (model prog w) A (getItem (.ref t) (.ref sl)) Q E s := by
  have hfit : sizeOk (.seq items.toList.reverse.toArray) := by
    show items.toList.reverse.toArray.size ≤ sizeLine
    simpa using hsz
  obtain ⟨os, hos, hcs, hds⟩ := id hs
  have hTs : s.TypeIs (.ref sl) "slice" := ⟨os, hos, hcs⟩
  unfold getItem
  try with_reducible refine wpAny_holding ?_
  first | refine wpAny_bind (wpAny_pure ?_) | skip
  refine wpAny_bind (wpAny_sequenceKey ht.typeIs (by decide) ?_)
  refine wpAny_bind (wpAny_callSpecial?_slot (name := Str.ofString "__getitem__") ht.typeIs PyProof.Rows.slot_tuple_getitem
    (wpAny_call_entry PyProof.Rows.slot_tuple_getitem ht.typeIs entry_tuple_getitem ?_ (args_tuple_getitem _ _)))
  show wpAny _ _ (Builtin.Tuple.tupleItemsOf (.ref t) >>= _) _ _ s
  refine wpAny_bind (tupleItemsOf_ ht ?_)
  refine wpAny_bind (wpAny_typeOf hTs ?_)
  rw [if_pos (by decide)]
  have ap : ∀ {R : Int × Int × Nat → Shared → Prop} {A' : Around} {E' : Value → Shared → Prop}, R ((items.size : Int) - 1, -1, items.size) s → wpAny (model prog w) A' (Builtin.Slice.sliceApplied (.ref sl) (pure ((items.size : Nat) : Int))) R E' s := by
    intro R A' E' hR
    unfold Builtin.Slice.sliceApplied Builtin.Slice.sliceFields
    refine wpAny_bind (wpAny_bind (wpAny_field hos hds (x := .none) rfl (wpAny_bind (wpAny_field hos hds (x := .none) rfl (wpAny_bind (wpAny_field hos hds (x := .int (-1) u) rfl (wpAny_pure ?_)))))))
    refine wpAny_bind (HT.slicePart_ (.int (-1) u) ?_)
    show wpAny _ _ (if ((-1 : Int) == 0) = true then _ else _) _ _ s
    rw [if_neg (by decide)]
    refine wpAny_bind (HT.slicePart_ .none (wpAny_bind (HT.slicePart_ .none (wpAny_bind (wpAny_pure ?_)))))
    show wpAny _ _ (match Builtin.Slice.sliceAdjust none none (-1) ((items.size : Nat) : Int) with | (lo, hi) => pure (lo, (-1 : Int), Builtin.Slice.slicePlaces lo hi (-1))) _ _ s
    rw [back_adjust]
    show wpAny _ _ (pure (((items.size : Nat) : Int) - 1, (-1 : Int), Builtin.Slice.slicePlaces (((items.size : Nat) : Int) - 1) (-1) (-1))) _ _ s
    rw [back_places]
    exact wpAny_pure hR
  refine wpAny_bind (ap ?_)
  have hno : ¬ ((((items.size : Int) - 1) == 0 && (-1 : Int) == 1 && items.size == items.size) = true) := by
    intro q
    rw [Bool.and_eq_true, Bool.and_eq_true] at q
    exact absurd q.1.2 (by decide)
  show wpAny _ _ (if ((((items.size : Int) - 1) == 0 && (-1 : Int) == 1 && items.size == items.size) = true) then _ else _) _ _ s
  rw [if_neg hno, back_pick]
  first
    | exact wpAny_bind (m := Builtin.Tuple.tupleExact _) (wpAny_newObj_type (wpAny_pure ⟨_, rfl, wpAny_pure h⟩) hfit)
    | exact wpAny_bind (m := Builtin.Tuple.tupleExact _) (wpAny_newObj_type (wpAny_bind (wpAny_pure (wpAny_pure ⟨_, rfl, wpAny_pure h⟩))) hfit)
    | exact wpAny_bind (wpAny_bind (m := Builtin.Tuple.tupleExact _) (wpAny_newObj_type (wpAny_pure (wpAny_pure ⟨_, rfl, wpAny_pure h⟩)) hfit))
    | exact wpAny_bind (wpAny_bind (m := Builtin.Tuple.tupleExact _) (wpAny_newObj_type (wpAny_pure ⟨_, rfl, wpAny_pure h⟩) hfit))
end
section
variable {X : Cx} {e st : PySem.Expr} {te ts : TE} {pos p2 : Pos}
/-- the items from the back: a new list or tuple -/
def tBack (K : PySem.W.Frag) (te ts : TE) : TE := fun σ H Q => te σ H fun x H1 => ts σ H1 fun y H2 => y = .int (-1) ∧ ∃ a xs, x = .ref a ∧
  ((SqL K H2 a xs ∧ ∀ p, H2 p = none → Q (.ref p) (upd H2 p (.lst xs.reverse))) ∨ (SqT K H2 a xs ∧ ∀ p, H2 p = none → Q (.ref p) (upd H2 p (.tup xs.reverse))))
theorem pe_back (he : PE X e te) (hst : PE X st ts) : PE X (.Subscript e (.Slice none none (some st) p2) pos) (tBack X.K te ts) := by
  refine ⟨fun pins s σ H Q I h => ?_⟩
  refine Subscript_ (thn (he.run pins s σ H _ I h) fun v s1 ⟨x, H1, I1, r1, q1⟩ => ?_)
  refine wpAny_Slice ?_
  rw [evalPart_none]
  refine wpAny_pure (wpAny_pure ?_)
  rw [evalPart_some]
  refine thn (hst.run pins s1 σ H1 _ I1 q1) fun u s2 ⟨y, H2, I2, r2, ey, a, xs, ex, q2⟩ => ?_
  subst ey ex
  obtain ⟨tk, rfl⟩ := r2
  cases r1
  have I3 : Inv X pins σ H2 { s2 with heap := s2.heap.push { cls := .type "slice", data := .fields #[.none, .none, .int (-1) tk] } } := I2.kept (t' := s2.toks) fun b ob q => Heap.get?_push_of_some _ q
  have hs := Heap.IsSliceOf.new s2.heap .none .none (.int (-1) tk)
  rcases q2 with ⟨hq, q⟩ | ⟨hq, q⟩
  · obtain ⟨its, r, ht, hz⟩ := I3.list hq
    refine tail_any (ops := [.ref a, .ref s2.heap.objs.size]) ht.isList.typeIs slot_list_getitem.lookup ?_ (by with_unfolding_all rfl)
    refine wpAny_getItem_list_slice ht.isList hs .none .none (.int (-1) tk) (by simp) ?_ (by rw [List.size_toArray, ← r.length]; exact hz)
    rw [PySem.W.krv_pick]
    have hv : Vals xs.reverse its.reverse := r.reverse
    refine ⟨.ref _, _, I3.laid (t' := s2.toks) (o := .lst xs.reverse) (fun b ob q => Heap.get?_push_of_some _ q) (Nat.le_refl _) ?_, rfl, q _ (I3.hok.fresh (Nat.le_refl _))⟩
    exact ⟨by rw [List.length_reverse]; exact hz, _, 0, hv, Heap.get?_push_size _ rfl⟩
  · obtain ⟨its, r, ht, hz⟩ := I3.tuple hq
    refine tail_any (ops := [.ref a, .ref s2.heap.objs.size]) ht.typeIs PyProof.Rows.slot_tuple_getitem.lookup ?_ (by with_unfolding_all rfl)
    refine getItem_tuple_back ht hs ?_ (by rw [List.size_toArray, ← r.length]; exact hz)
    have hv : Vals xs.reverse its.reverse := r.reverse
    refine ⟨.ref _, _, I3.laid (t' := s2.toks) (o := .tup xs.reverse) (fun b ob q => Heap.get?_push_of_some _ q) (Nat.le_refl _) ?_, rfl, q _ (I3.hok.fresh (Nat.le_refl _))⟩
    exact ⟨by rw [List.length_reverse]; exact hz, _, hv, ⟨_, Heap.get?_push_size _ rfl, rfl, _, rfl⟩⟩
end
end Mi
end

section
set_option Elab.async false
set_option linter.all false
set_option maxRecDepth 100000
set_option autoImplicit false
set_option maxHeartbeats 1000000
/-! KF2: len(set(a)) of ints. -/
namespace Mi
open PySem PySem.Spec L2
open PyProof.Rows hiding St
section
variable {α : Type} [DecidableEq α]
theorem len_sub : ∀ {l D : List α}, l.Nodup → (∀ x ∈ l, x ∈ D) → l.length ≤ D.length
  | [], _, _, _ => Nat.zero_le _
  | x :: l, D, hn, hs => by
    obtain ⟨h1, h2⟩ := List.nodup_cons.mp hn
    have hx : x ∈ D := hs x (List.mem_cons_self ..)
    have ih := len_sub (l := l) (D := D.erase x) h2 fun y hy => by
      have hne : y ≠ x := fun e => h1 (e ▸ hy)
      exact (List.mem_erase_of_ne hne).2 (hs y (List.mem_cons_of_mem _ hy))
    have e := List.length_erase_of_mem hx
    have hp : 0 < D.length := List.length_pos_of_mem hx
    rw [List.length_cons]
    omega
theorem dlen_rep : ∀ xs : List α, ∃ D : List α, D.Nodup ∧ (∀ x, x ∈ D ↔ x ∈ xs) ∧ D.length = dlen xs
  | [] => ⟨[], List.nodup_nil, fun _ => Iff.rfl, rfl⟩
  | x :: xs => by
    obtain ⟨D, h1, h2, h3⟩ := dlen_rep xs
    by_cases hx : x ∈ xs
    · refine ⟨D, h1, fun y => ?_, by rw [dlen, if_pos hx, h3]⟩
      rw [h2, List.mem_cons]
      exact ⟨.inr, fun h => h.elim (fun e => e ▸ hx) id⟩
    · refine ⟨x :: D, List.nodup_cons.mpr ⟨fun h => hx ((h2 x).mp h), h1⟩, fun y => ?_, by rw [dlen, if_neg hx, List.length_cons, h3]⟩
      rw [List.mem_cons, List.mem_cons, h2]
theorem dlen_of {l xs : List α} (hn : l.Nodup) (hm : ∀ x, x ∈ l ↔ x ∈ xs) : l.length = dlen xs := by
  obtain ⟨D, h1, h2, h3⟩ := dlen_rep xs
  rw [← h3]
  exact Nat.le_antisymm (len_sub hn fun x hx => (h2 x).mpr ((hm x).mp hx)) (len_sub h1 fun x hx => (hm x).mpr ((h2 x).mp hx))
theorem dlen_le (xs : List α) : dlen xs ≤ xs.length := by
  induction xs with
  | nil => exact Nat.le_refl _
  | cons x xs ih => rw [dlen, List.length_cons]; split <;> omega
end
theorem met_nodup (val : Nat → Int) : ∀ i, (firstMet val i).Nodup
  | 0 => List.nodup_nil
  | i + 1 => by
    rw [firstMet_succ]
    unfold step_dedup
    split
    · exact met_nodup val i
    · rename_i h
      refine List.nodup_append.mpr ⟨met_nodup val i, by simp, fun x hx y hy e => h ?_⟩
      rw [List.mem_singleton.mp hy] at e
      exact List.any_eq_true.mpr ⟨x, hx, by rw [e]; exact beq_self_eq_true _⟩
theorem met_mem (ns : List Int) : ∀ x, x ∈ firstMet (fun i => ns.getD i 0) ns.length ↔ x ∈ ns := fun x => by
  have h := firstMet_any (fun i => ns.getD i 0) ns.length x
  have e1 : ∀ l : List Int, l.any (· == x) = true ↔ x ∈ l := fun l => by
    rw [List.any_eq_true]
    exact ⟨fun ⟨y, hy, e⟩ => (eq_of_beq e) ▸ hy, fun h => ⟨x, h, beq_self_eq_true _⟩⟩
  have e2 : (List.range ns.length).map (fun i => ns.getD i 0) = ns := by
    apply List.ext_getElem
    · simp
    · intro i h1 h2
      simp [h2]
  rw [e2] at h
  rw [← e1, ← e1 ns, h]
section
variable {X : Cx}
def tDist (K : PySem.W.Frag) (ta : TE) : TE := fun σ H Q => ta σ H fun x H1 => ∃ (l : Addr) (ns : List Int), x = .ref l ∧ (SqL K H1 l (ns.map V.int) ∨ SqT K H1 l (ns.map V.int)) ∧ ns.length ≤ 4000 ∧ Q (.int (dlen ns : Nat)) H1
theorem pe_dist {a : PySem.Expr} {ta : TE} {p p2 q pos : Pos} (hc : X.calm = true) (hg : Gl X "len") (hm : X.mg "len" = none) (hg2 : Gl X "set") (hm2 : X.mg "set" = none) (ha : PE X a ta)
    (na : starEach [a] X.env = (false, eval a X.env) :: starEach [] X.env := by rfl) : PE X (.Call (.Name "len" p) [.Call (.Name "set" p2) [a] [] q] [] pos) (tDist X.K ta) := by
  refine ⟨fun pins s σ H Q I h => ?_⟩
  refine Call_ (ld_blt I hg hm PySem.boot_len ?_)
  refine PyProof.Rows.callWith_builtin1 (PyProof.Rows.args_cons ?_ rfl) rfl rfl
  refine Call_ (ld_blt I hg2 hm2 PyProof.Rows.boot_set ?_)
  refine PyProof.Rows.callWith_type1 (PyProof.Rows.args_cons (thn (ha.run pins s σ H _ I h) fun v s1 ⟨x, H1, I1, r1, q1⟩ => PyProof.Rows.args_nil ?_) na) na rfl
  obtain ⟨l, ns, rfl, hq, hl, q1⟩ := q1
  cases r1
  rcases hq with hq | hq
  · obtain ⟨its, r, pl, hz⟩ := I1.list hq
    have hlen : its.toArray.size = ns.length := by rw [List.size_toArray, ← r.length, List.length_map]
    refine call_set_list (I1.ok.hd hc) pl.isList (by simpa using r.ints) (by rw [hlen]; unfold scanBound; omega) fun h' tk hS hk => ?_
    refine PyProof.Rows.args_nil ?_
    rw [hlen] at hS
    obtain ⟨o, es, ep, t, ho, hex, hd, _, _, _, hf, hn⟩ := hS
    have hn2 : es.size = dlen ns := by rw [hn]; exact dlen_of (met_nodup _ _) (met_mem ns)
    have hle := dlen_le ns
    have I2 : L2.Inv X pins σ H1 { s1 with heap := h', toks := tk } := I1.kept fun b o e => hk b o (Heap.lt_size e) e
    exact call_len_set ho hex hd hf (by omega) ⟨.int (dlen ns : Nat), H1, I2.tok _, ⟨_, by rw [hn2]⟩, q1⟩
  · obtain ⟨its, r, pl, hz⟩ := I1.tuple hq
    have hlen : its.toArray.size = ns.length := by rw [List.size_toArray, ← r.length, List.length_map]
    refine call_set_tupI ns (I1.ok.hd hc) (show s1.heap.IsTuple l its.toArray from pl) (by simpa using r.ints) (by unfold scanBound; omega) fun h' tk c R1 hcn k => ?_
    refine PyProof.Rows.args_nil ?_
    obtain ⟨o, es, ep, t, ho, hex, hdt, g, nd, hm2, hb, hf, hn, hr, hl2⟩ := R1
    have hn2 : es.size = dlen ns := by
      rw [← Array.length_toList, ← List.length_map (f := keyOf)]
      exact dlen_of nd fun x => by rw [← hm2]; simp
    have hle := dlen_le ns
    have I2 : L2.Inv X pins σ H1 { s1 with heap := h', toks := tk } := I1.kept fun b o e => k b o e
    exact call_len_set ho hex hdt hf (by omega) ⟨.int (dlen ns : Nat), H1, I2.tok _, ⟨_, by rw [hn2]⟩, q1⟩
end
end Mi
end

section
set_option Elab.async false
set_option linter.all false
set_option maxRecDepth 100000
set_option autoImplicit false
set_option maxHeartbeats 1000000
/-! KF3: sorted(t), t a tuple of ints. -/
namespace Mi
open PySem PySem.Spec L2
open PyProof.Rows hiding St
section
variable {prog : Program} {w : World} {A : Around} {E : Value → Shared → Prop} {s : Shared}
theorem collect_tup {l : Addr} {vs : List Value} {Q : List Value → Shared → Prop} (hl : s.heap.IsTuple l vs.toArray)
    (h : Q vs { s with heap := (s.heap.push (seqObj "list" #[] 0)).update s.heap.objs.size (Obj.mapSeq (· ++ vs.toArray)) }) (hsz : vs.length ≤ sizeLine) :
    wpAny (model prog w) A (collect (.ref l)) Q E s := by
  obtain ⟨o, ho, hc, n, hd⟩ := id hl
  have hnew : (s.heap.push (seqObj "list" #[] 0)).get? s.heap.objs.size = some (seqObj "list" #[] 0) := Heap.get?_push_size _ rfl
  have ho' : (s.heap.push (seqObj "list" #[] 0)).get? l = some o := Heap.get?_push_of_some _ ho
  unfold collect
  refine wpAny_bind (wpAny_runValue (codeAny_builtin entry_proto_collect' ?_))
  show wpAny _ _ (do again (.builtin "list.__iadd__" ⟨[← newList [], .ref l], []⟩)) _ _ s
  refine wpAny_bind (wpAny_newList (wpAny_pure ⟨Code.quiet_builtin _ (by decide +kernel), codeAny_builtin entry_list_iadd' ?_⟩))
  show wpAny _ _ (Builtin.List.listExtendWith (.ref s.heap.objs.size) (.ref l) (.ref s.heap.objs.size)) _ _ { s with heap := s.heap.push (seqObj "list" #[] 0) }
  unfold Builtin.List.listExtendWith
  refine wpAny_bind (wpAny_typeOf (T := "tuple") ⟨o, ho', hc⟩ ?_)
  have ht : (Value.type "tuple" == Value.type "tuple") = true := by rfl
  rw [if_pos (by rw [ht]; simp)]
  refine wpAny_bind (listItems_at ho' hd ?_)
  refine wpAny_bind (listItems_at (xs := #[]) (n := 0) hnew rfl ?_)
  rw [if_neg (by simp)]
  refine wpAny_bind (listUpdate_at (xs := #[]) (n := 0) hnew rfl ?_ (Nat.zero_le _) (by show (#[] ++ vs.toArray).size ≤ sizeLine + 1; simp only [Array.size_append, List.size_toArray, List.length_nil]; omega))
  refine wpAny_pure ?_
  show wpAny (model prog w) A (do
      let o ← load s.heap.objs.size
      match o.data with
      | .seq xs _ => pure xs.toList
      | _ => unsupported "internal:collect") Q E { s with heap := (s.heap.push (seqObj "list" #[] 0)).update s.heap.objs.size (Obj.mapSeq (· ++ vs.toArray)) }
  refine wpAny_bind (wpAny_load (get?_update_seq hnew _) ?_)
  show wpAny _ _ (pure ((#[] : Array Value) ++ vs.toArray).toList) Q E _
  rw [show ((#[] : Array Value) ++ vs.toArray).toList = vs by simp]
  exact wpAny_pure h
theorem sorted_tup {l : Addr} {vs : List Value} {ltv : Value → Value → Bool} {Q : Value → Shared → Prop} (O : SrtO.Swo ltv) (hl : s.heap.IsTuple l vs.toArray) (hz : vs.length ≤ sizeLine)
    (hS : 2 ≤ vs.length → ∀ (h₁ : Heap) (a : Addr), h₁.get? a = some (seqObj "list" vs.toArray 0) → (∀ b o, s.heap.get? b = some o → b ≠ a ∧ h₁.get? b = some o) → SrtO.SortableO prog w A.in1.in1 { s with heap := h₁ } a vs ltv)
    (h : ∀ out : List Value, SrtO.Srtd ltv out → SrtO.Stb ltv out vs → Q (.ref (s.heap.objs.size + 1)) { s with heap := sortedAll s.heap vs out.toArray }) :
    wpAny (model prog w) A (call (.builtin "sorted") [.ref l]) Q E s := by
  refine Calls.call_function_entry kind_sorted plain_sorted entry_sorted (args_sorted1 _) ?_
  unfold Builtin.«sorted»
  refine wpAny_bind (m := checkCount "sorted" 1 1 _) (wpAny_pure ?_)
  refine wpAny_bind (collect_tup hl ?_ hz)
  refine wpAny_bind (wpAny_newList ?_ hz)
  obtain ⟨h2, eh2⟩ : ∃ h2, ((s.heap.push (seqObj "list" #[] 0)).update s.heap.objs.size (Obj.mapSeq (· ++ vs.toArray))) = h2 := ⟨_, rfl⟩
  have hsz : h2.objs.size = s.heap.objs.size + 1 := by rw [← eh2, Heap.size_update, size_push']
  have hoL : (h2.push (seqObj "list" vs.toArray 0)).get? (s.heap.objs.size + 1) = some (seqObj "list" vs.toArray 0) := by
    rw [← hsz]; exact Heap.get?_push_size _ rfl
  have keep : ∀ b o, s.heap.get? b = some o → b ≠ s.heap.objs.size + 1 ∧ (h2.push (seqObj "list" vs.toArray 0)).get? b = some o := fun b o q => by
    have hlt : b < s.heap.objs.size := Heap.lt_size q
    refine ⟨Nat.ne_of_lt (Nat.lt_succ_of_lt hlt), Heap.get?_push_of_some _ ?_⟩
    rw [← eh2, Heap.get?_update_ne _ _ _ _ (Nat.ne_of_lt hlt)]
    exact Heap.get?_push_of_some _ q
  show wpAny _ _ _ _ _ { s with heap := ((s.heap.push (seqObj "list" #[] 0)).update s.heap.objs.size (Obj.mapSeq (· ++ vs.toArray))).push (seqObj "list" vs.toArray 0) }
  rw [eh2, hsz]
  refine wpAny_bind (wpAny_holding (wpAny_call_entry slot_list_sort ⟨_, hoL, rfl⟩ entry_list_sort (SrtO.list_sort_ord O hoL hz (fun h2 => hS h2 _ _ hoL keep) fun out hs hb => ⟨_, rfl, ?_⟩) (args_list_sort _)))
  have := h out hs hb
  unfold sortedAll at this
  rw [eh2] at this
  exact wpAny_pure ⟨_, rfl, this⟩
end
section
variable {X : Cx}
/-- sorted(t), ints -/
theorem cr_sortedTI : CallR X (.builtin "sorted") (fun vs H Q => ∃ (a : Addr) (ns : List Int), vs = [V.ref a] ∧ SqT X.K H a (ns.map V.int) ∧
    ∀ (ns' : List Int) (p : Addr), ns'.Perm ns → ns'.Pairwise (· ≤ ·) → H p = none → Q (.ref p) (upd H p (.lst (ns'.map V.int)))) := by
  intro pins s σ H vs us Q I r h
  obtain ⟨a, ns, rfl, hs, q⟩ := h
  obtain ⟨its, rv, hl, hz⟩ := I.tuple hs
  rw [Vals.ref1 r]
  have hi := rv.ints
  have hln : its.length ≤ sizeLine := by rw [← rv.length]; exact hz
  refine sorted_tup SrtO.swo_int (show s.heap.IsTuple a its.toArray from hl) hln (fun h2 h₁ a' _ _ => SrtO.ints_sortable hi h2) fun out h1 h2 => ?_
  obtain ⟨k1, k2, k3⟩ := SrtO.ints_out hi h1 h2
  obtain ⟨ep, he'⟩ := PyProof.Rows.sortedAll_at s.heap its out.toArray
  have hlen : ((out.map SrtO.iv).map V.int).length ≤ sizeLine := by
    rw [List.length_map, k2.length_eq]
    rw [List.length_map] at hz
    exact hz
  exact ⟨.ref _, upd H (s.heap.objs.size + 1) (.lst ((out.map SrtO.iv).map V.int)), I.laid (t' := s.toks) (fun _ _ => PyProof.Rows.sortedAll_old) (Nat.le_succ _) ⟨hlen, out, ep, vals_of_ints k1, he'⟩, rfl, q _ _ k2 k3 (I.hok.fresh (Nat.le_succ _))⟩
end
end Mi
end

section
set_option Elab.async false
set_option linter.all false
set_option maxRecDepth 100000
set_option autoImplicit false
set_option maxHeartbeats 1000000
/-! KF4: min, max, sorted of data. -/
namespace Mi
open PySem PySem.Spec L2
open PyProof.Rows hiding St
open PySem.W (minD maxD AlikeAll AllAlike Sortable dataLe EachIs)
section
variable {X : Cx}
def rBest (K : PySem.W.Frag) (g : PyData → List PyData → PyData) : List V → Hp → VK → Prop := fun vs H Q => ∃ (a : Addr) (xs : List V) (d : PyData) (ds : List PyData), vs = [.ref a] ∧ (SqL K H a xs ∨ SqT K H a xs) ∧ DpAll K H xs (d :: ds) ∧ AlikeAll (d :: ds) ∧ PyData.depthAll (d :: ds) ≤ 60 ∧
  ∀ (i : Nat) (x : V), xs[i]? = some x → (d :: ds)[i]? = some (g d ds) → Q x H
theorem dp_at {K : PySem.W.Frag} {H : Hp} : ∀ {xs : List V} {ds : List PyData}, DpAll K H xs ds → ∀ (i : Nat) (x : V), xs[i]? = some x → ∃ d, ds[i]? = some d ∧ Dp K H x d
  | _, _, .nil, i, x, h => by simp at h
  | _, _, .cons h1 h2, 0, x, h => by cases h; exact ⟨_, rfl, h1⟩
  | _, _, .cons h1 h2, i + 1, x, h => by
    obtain ⟨d, e, q⟩ := dp_at h2 i x (by simpa using h)
    exact ⟨d, by simpa using e, q⟩
theorem vals_at {xs : List V} {us : List Value} (r : Vals xs us) : ∀ (i : Nat) (u : Value), us[i]? = some u → ∃ x, xs[i]? = some x ∧ RelV x u := by
  induction r with
  | nil => intro i u h; simp at h
  | cons r1 r2 ih =>
    intro i u h
    cases i with
    | zero => cases h; exact ⟨_, rfl, r1⟩
    | succ i => obtain ⟨x, e, q⟩ := ih i u (by simpa using h); exact ⟨x, by simpa using e, q⟩
theorem best_fin {pins : List (Addr × Obj)} {σ : St} {H : Hp} {s : Shared} {Q : VK} (I : L2.Inv X pins σ H s) {g : PyData → List PyData → PyData} {xs : List V} {its : List Value} {d : PyData} {ds : List PyData} (rv : Vals xs its) (hd : DpAll X.K H xs (d :: ds))
    (q : ∀ (i : Nat) (x : V), xs[i]? = some x → (d :: ds)[i]? = some (g d ds) → Q x H) (i : Nat) (v : Value) (h' : Heap) (tk : Nat) (bs : List Addr) (hv : its[i]? = some v) (r : Reads h' v (g d ds) bs) (hk : ∀ b o, s.heap.get? b = some o → h'.get? b = some o) :
    EP X pins σ Q v { s with heap := h', toks := tk } := by
  obtain ⟨x, ex, rx⟩ := vals_at rv i v hv
  obtain ⟨e, he, hde⟩ := dp_at hd i x ex
  obtain ⟨as, ra⟩ := Dp.reads I e x v hde rx
  have hu := (Reads.unique r e as (PySem.W.reads_keeps hk ra)).1
  exact ⟨x, H, I.kept hk, rx, q i x ex (by rw [he, hu])⟩
theorem cr_minData (hc : X.calm = true) (hu : X.A.units + 64 < cLine) : CallR X (.builtin "min") (rBest X.K minD) := by
  intro pins s σ H vs us Q I r h
  obtain ⟨a, xs, d, ds, rfl, hq, hd, ha, hdep, q⟩ := h
  rw [Vals.ref1 r]
  rcases hq with hq | hq
  · obtain ⟨its, rv, hl, hz⟩ := I.list hq
    obtain ⟨as, ra⟩ := Dp.readsAll I (d :: ds) xs its hd rv
    refine PySem.W.min_list_data (I.ok.hd hc) hl.isList (by simpa using ra) ha (by omega) fun i v h' tk bs hv r hk => ?_
    exact best_fin I rv hd q i v h' tk bs (by simpa using hv) r hk
  · obtain ⟨its, rv, hl, hz⟩ := I.tuple hq
    obtain ⟨as, ra⟩ := Dp.readsAll I (d :: ds) xs its hd rv
    refine PySem.W.min_tuple_data (I.ok.hd hc) (show s.heap.IsTuple a its.toArray from hl) (by simpa using ra) ha (by omega) fun i v h' tk bs hv r hk => ?_
    exact best_fin I rv hd q i v h' tk bs (by simpa using hv) r hk
theorem cr_maxData (hc : X.calm = true) (hu : X.A.units + 64 < cLine) : CallR X (.builtin "max") (rBest X.K maxD) := by
  intro pins s σ H vs us Q I r h
  obtain ⟨a, xs, d, ds, rfl, hq, hd, ha, hdep, q⟩ := h
  rw [Vals.ref1 r]
  rcases hq with hq | hq
  · obtain ⟨its, rv, hl, hz⟩ := I.list hq
    obtain ⟨as, ra⟩ := Dp.readsAll I (d :: ds) xs its hd rv
    refine PySem.W.max_list_data (I.ok.hd hc) hl.isList (by simpa using ra) ha (by omega) fun i v h' tk bs hv r hk => ?_
    exact best_fin I rv hd q i v h' tk bs (by simpa using hv) r hk
  · obtain ⟨its, rv, hl, hz⟩ := I.tuple hq
    obtain ⟨as, ra⟩ := Dp.readsAll I (d :: ds) xs its hd rv
    refine PySem.W.max_tuple_data (I.ok.hd hc) (show s.heap.IsTuple a its.toArray from hl) (by simpa using ra) ha (by omega) fun i v h' tk bs hv r hk => ?_
    exact best_fin I rv hd q i v h' tk bs (by simpa using hv) r hk
def rSrtD (K : PySem.W.Frag) : List V → Hp → VK → Prop := fun vs H Q => ∃ (a : Addr) (xs : List V) (ds : List PyData), vs = [.ref a] ∧ SqL K H a xs ∧ DpAll K H xs ds ∧ AllAlike ds ∧ Sortable ds ∧ PyData.depthAll ds ≤ 60 ∧
  ∀ p, H p = none → Q (.ref p) (upd H p (.lst (((xs.zip ds).mergeSort (dataLe false (·.2))).map (·.1))))
theorem depth_mem : ∀ {ds : List PyData} {d : PyData}, d ∈ ds → d.depth ≤ PyData.depthAll ds
  | e :: ds, d, h => by
    rw [PyData.depthAll]
    rcases List.mem_cons.mp h with rfl | h
    · omega
    · have := depth_mem h; omega
theorem each_zip {I : Prop} {K : PySem.W.Frag} {H : Hp} : ∀ {xs : List V} {us : List Value} {ds : List PyData}, Vals xs us → DpAll K H xs ds → EachIs (fun u (b : V × PyData) => RelV b.1 u ∧ Dp K H b.1 b.2) us (xs.zip ds)
  | _, _, _, .nil, .nil => .nil
  | _, _, _, .cons r1 r2, .cons h1 h2 => .cons ⟨r1, h1⟩ (each_zip (I := I) r2 h2)
theorem zip_snd {K : PySem.W.Frag} {H : Hp} : ∀ {xs : List V} {ds : List PyData}, DpAll K H xs ds → (xs.zip ds).map (·.2) = ds ∧ (xs.zip ds).map (·.1) = xs
  | _, _, .nil => ⟨rfl, rfl⟩
  | _, _, .cons h1 h2 => by
    obtain ⟨e1, e2⟩ := zip_snd h2
    exact ⟨by rw [List.zip_cons_cons, List.map_cons, e1], by rw [List.zip_cons_cons, List.map_cons, e2]⟩
theorem each_vals {R : V → PyData → Prop} : ∀ {us : List Value} {bs : List (V × PyData)}, EachIs (fun u (b : V × PyData) => RelV b.1 u ∧ R b.1 b.2) us bs → Vals (bs.map (·.1)) us
  | _, _, .nil => .nil
  | _, _, .cons h t => .cons h.1 (each_vals t)
theorem cr_srtData (hu : X.A.units + 64 < cLine) : CallR X (.builtin "sorted") (rSrtD X.K) := by
  intro pins s σ H vs us Q I r h
  obtain ⟨a, xs, ds, rfl, hq, hd, hal, hso, hdep, q⟩ := h
  obtain ⟨its, rv, hl, hz⟩ := I.list hq
  rw [Vals.ref1 r]
  obtain ⟨z1, z2⟩ := zip_snd hd
  have hlz : (xs.zip ds).length = xs.length := by rw [← List.length_map (f := (·.1)), z2]
  have e := each_zip (I := True) rv hd
  refine PySem.W.sorted_data (R := fun u (b : V × PyData) => RelV b.1 u ∧ Dp X.K H b.1 b.2) (enc := fun (b : V × PyData) => b.2) (bs := xs.zip ds) hl.isList e (e.mono fun u b h => Dp.reads I b.2 b.1 u h.2 h.1) (by rw [z1]; exact hal) (by rw [z1]; exact hso) (by rw [hlz]; exact hz) (fun b hb => ?_) fun out hlen ho => ?_
  · have : b.2 ∈ ds := by rw [← z1]; exact List.mem_map.mpr ⟨b, hb, rfl⟩
    have := depth_mem this
    omega
  · have hv := each_vals ho
    obtain ⟨ep, he'⟩ := PyProof.Rows.sortedAll_at s.heap its out.toArray
    have hlen2 : (((xs.zip ds).mergeSort (dataLe false (·.2))).map (·.1)).length ≤ sizeLine := by
      rw [hv.length, hlen, hlz]; exact hz
    exact ⟨.ref _, upd H (s.heap.objs.size + 1) (.lst (((xs.zip ds).mergeSort (dataLe false (·.2))).map (·.1))), I.laid (t' := s.toks) (fun _ _ => PyProof.Rows.sortedAll_old) (Nat.le_succ _) ⟨hlen2, out, ep, hv, he'⟩, rfl, q _ (I.hok.fresh (Nat.le_succ _))⟩
end
end Mi
end

section
set_option Elab.async false
set_option linter.all false
set_option maxRecDepth 100000
set_option autoImplicit false
set_option maxHeartbeats 1000000
/-! SoundF: a[::-1], len(set(a)), sorted, min, max. -/
namespace Mi
open PySem PySem.Spec L2
open PyProof.Rows hiding St
open PySem.W (minD maxD AlikeAll AllAlike Sortable dataLe EachIs alike alikeAll dataLt keyToksAll dataLt_cons)
section
mutual
theorem alk_dat : ∀ (v w : Val), alk v w = true → alike (dat v) (dat w) = true
  | .bl _, .bl _, _ => by simp [dat, alike]
  | .int _, .int _, _ => by simp [dat, alike]
  | .str _, .str _, _ => by simp [dat, alike]
  | .tup xs, .tup ys, h => by
    rw [alk] at h
    rw [dat, dat, alike]
    exact alks_dat xs ys h
  | .non, w, h => by cases w <;> cases h
  | .ref _, w, h => by cases w <;> cases h
  | .scr _, w, h => by cases w <;> cases h
  | .zp .., w, h => by cases w <;> cases h
  | .bl _, .non, h => by cases h
  | .bl _, .int _, h => by cases h
  | .bl _, .str _, h => by cases h
  | .bl _, .tup _, h => by cases h
  | .bl _, .ref _, h => by cases h
  | .bl _, .scr _, h => by cases h
  | .bl _, .zp .., h => by cases h
  | .int _, .non, h => by cases h
  | .int _, .bl _, h => by cases h
  | .int _, .str _, h => by cases h
  | .int _, .tup _, h => by cases h
  | .int _, .ref _, h => by cases h
  | .int _, .scr _, h => by cases h
  | .int _, .zp .., h => by cases h
  | .str _, .non, h => by cases h
  | .str _, .bl _, h => by cases h
  | .str _, .int _, h => by cases h
  | .str _, .tup _, h => by cases h
  | .str _, .ref _, h => by cases h
  | .str _, .scr _, h => by cases h
  | .str _, .zp .., h => by cases h
  | .tup _, .non, h => by cases h
  | .tup _, .bl _, h => by cases h
  | .tup _, .int _, h => by cases h
  | .tup _, .str _, h => by cases h
  | .tup _, .ref _, h => by cases h
  | .tup _, .scr _, h => by cases h
  | .tup _, .zp .., h => by cases h
theorem alks_dat : ∀ (xs ys : List Val), alks xs ys = true → alikeAll (dats xs) (dats ys) = true
  | [], _, _ => by rw [dats]; simp [alikeAll]
  | _ :: _, [], _ => by rw [dats, dats]; simp [alikeAll]
  | x :: xs, y :: ys, h => by
    rw [alks, Bool.and_eq_true] at h
    rw [dats, dats, alikeAll, alk_dat x y h.1, alks_dat xs ys h.2]; rfl
end
mutual
theorem lt_dat : ∀ (n m : Nat) (v w : Val), v.plain n = true → w.plain m = true → alk v w = true → dataLt (dat v) (dat w) = ltv v w
  | n, m, v, w, hv, hw, h => by
    cases v with
    | bl a => cases w with
      | bl b => rw [dat, dat, PySem.W.dataLt_bool, ltv]; cases a <;> cases b <;> rfl
      | _ => cases h
    | int a => cases w with
      | int b => rw [dat, dat, PySem.W.dataLt_int, ltv]
      | _ => cases h
    | str a => cases w with
      | str b => rw [dat, dat, PySem.W.dataLt_str, ltv]
      | _ => cases h
    | tup a =>
      cases w with
      | tup b =>
        cases n with
        | zero => cases hv
        | succ n =>
          cases m with
          | zero => cases hw
          | succ m =>
            rw [alk] at h
            rw [dat, dat, PySem.W.dataLt_tuple, ltv]
            exact lts_dat n m a b hv hw h
      | _ => cases h
    | _ => cases w <;> cases h
theorem lts_dat : ∀ (n m : Nat) (vs ws : List Val), plains n vs = true → plains m ws = true → alks vs ws = true → PySem.W.rowLt (dats vs) (dats ws) = ltvs vs ws
  | _, _, [], [], _, _, _ => by rw [dats]; rfl
  | _, _, [], w :: ws, _, _, _ => by rw [dats, dats]; unfold PySem.W.rowLt; rw [PySem.W.toks_all_cons]; rfl
  | _, _, v :: vs, [], _, _, _ => by rw [dats, dats]; unfold PySem.W.rowLt; rw [PySem.W.toks_all_cons]; rfl
  | n, m, v :: vs, w :: ws, hv, hw, h => by
    have h1 : (v.plain n && plains n vs) = true := by unfold plains at hv; exact hv
    have h2 : (w.plain m && plains m ws) = true := by unfold plains at hw; exact hw
    rw [Bool.and_eq_true] at h1 h2
    rw [alks, Bool.and_eq_true] at h
    rw [dats, dats]
    unfold PySem.W.rowLt
    rw [dataLt_cons (alk_dat v w h.1), eqv_dat n m v w h1.1 h2.1, lt_dat n m v w h1.1 h2.1 h.1, ltvs]
    have ih := lts_dat n m vs ws h1.2 h2.2 h.2
    unfold PySem.W.rowLt at ih
    rw [ih]
end
mutual
theorem dat_inj : ∀ (n m : Nat) (v w : Val), v.plain n = true → w.plain m = true → dat v = dat w → v = w
  | n, m, v, w, hv, hw, h => by
    cases v with
    | tup a =>
      cases w with
      | tup b =>
        cases n with
        | zero => cases hv
        | succ n =>
          cases m with
          | zero => cases hw
          | succ m =>
            rw [dat, dat] at h
            rw [dats_inj n m a b hv hw (PyData.tuple.inj h)]
      | _ => first | (rw [dat, dat] at h; cases h; done) | (cases m <;> cases hw)
    | str a =>
      cases w with
      | str b =>
        rw [dat, dat] at h
        have h1 := PyData.str.inj h
        have h2 : a.toArray = b.toArray := by injection h1
        have h3 : a = b := by simpa using h2
        rw [h3]
      | _ => first | (rw [dat, dat] at h; cases h; done) | (cases m <;> cases hw)
    | non => cases w <;> first | rfl | (rw [dat, dat] at h; cases h; done) | (cases m <;> cases hw)
    | bl a => cases w <;> first | (rw [dat, dat] at h; cases h; rfl) | (rw [dat, dat] at h; cases h; done) | (cases m <;> cases hw)
    | int a => cases w <;> first | (rw [dat, dat] at h; cases h; rfl) | (rw [dat, dat] at h; cases h; done) | (cases m <;> cases hw)
    | ref _ => cases n <;> cases hv
    | scr _ => cases n <;> cases hv
    | zp _ _ _ _ => cases n <;> cases hv
theorem dats_inj : ∀ (n m : Nat) (vs ws : List Val), plains n vs = true → plains m ws = true → dats vs = dats ws → vs = ws
  | _, _, [], [], _, _, _ => rfl
  | _, _, [], w :: ws, _, _, h => by rw [dats, dats] at h; cases h
  | _, _, v :: vs, [], _, _, h => by rw [dats, dats] at h; cases h
  | n, m, v :: vs, w :: ws, hv, hw, h => by
    have h1 : (v.plain n && plains n vs) = true := by unfold plains at hv; exact hv
    have h2 : (w.plain m && plains m ws) = true := by unfold plains at hw; exact hw
    rw [Bool.and_eq_true] at h1 h2
    rw [dats, dats] at h
    obtain ⟨e1, e2⟩ := List.cons.inj h
    rw [dat_inj n m v w h1.1 h2.1 e1, dats_inj n m vs ws h1.2 h2.2 e2]
end
theorem dats_mapF : ∀ (vs : List Val), dats vs = vs.map dat
  | [] => rfl
  | v :: vs => by rw [dats, dats_mapF vs]; rfl
theorem plains_mem {n : Nat} : ∀ {vs : List Val}, plains n vs = true → ∀ v ∈ vs, v.plain n = true
  | w :: vs, h, v, hv => by
    unfold plains at h
    rw [Bool.and_eq_true] at h
    rcases List.mem_cons.mp hv with rfl | hv
    · exact h.1
    · exact plains_mem h.2 v hv
theorem alkAll_mem {L : List Val} (h : alkAll L = true) {v w : Val} (hv : v ∈ L) (hw : w ∈ L) : alk v w = true :=
  List.all_eq_true.mp (List.all_eq_true.mp h v hv) w hw
theorem min_dat {L : List Val} (hp : plains 50 L = true) (ha : alkAll L = true) : ∀ (xs : List Val) (x : Val), x ∈ L → (∀ y ∈ xs, y ∈ L) → minD (dat x) (xs.map dat) = dat (minV x xs) ∧ minV x xs ∈ L
  | [], x, hx, _ => ⟨rfl, hx⟩
  | y :: xs, x, hx, h => by
    have hy := h y (List.mem_cons_self ..)
    have e := lt_dat 50 50 y x (plains_mem hp y hy) (plains_mem hp x hx) (alkAll_mem ha hy hx)
    have ih := min_dat hp ha xs (if ltv y x then y else x) (by split <;> assumption) fun z hz => h z (List.mem_cons_of_mem _ hz)
    refine ⟨?_, ih.2⟩
    show minD (if dataLt (dat y) (dat x) then dat y else dat x) (xs.map dat) = _
    rw [e, ← apply_ite dat]
    exact ih.1
theorem max_dat {L : List Val} (hp : plains 50 L = true) (ha : alkAll L = true) : ∀ (xs : List Val) (x : Val), x ∈ L → (∀ y ∈ xs, y ∈ L) → maxD (dat x) (xs.map dat) = dat (maxV x xs) ∧ maxV x xs ∈ L
  | [], x, hx, _ => ⟨rfl, hx⟩
  | y :: xs, x, hx, h => by
    have hy := h y (List.mem_cons_self ..)
    have e := lt_dat 50 50 x y (plains_mem hp x hx) (plains_mem hp y hy) (alkAll_mem ha hx hy)
    have ih := max_dat hp ha xs (if ltv x y then y else x) (by split <;> assumption) fun z hz => h z (List.mem_cons_of_mem _ hz)
    refine ⟨?_, ih.2⟩
    show maxD (if dataLt (dat x) (dat y) then dat y else dat x) (xs.map dat) = _
    rw [e, ← apply_ite dat]
    exact ih.1
theorem alike_all {L : List Val} (hp : plains 50 L = true) (ha : alkAll L = true) : AlikeAll (dats L) := by
  rw [dats_mapF]
  refine ⟨fun d hd e he => ?_, fun d hd z => ?_⟩
  · obtain ⟨v, hv, rfl⟩ := List.mem_map.mp hd
    obtain ⟨w, hw, rfl⟩ := List.mem_map.mp he
    exact alk_dat v w (alkAll_mem ha hv hw)
  · obtain ⟨v, hv, rfl⟩ := List.mem_map.mp hd
    have h := alkAll_mem ha hv hv
    have h2 := plains_mem hp v hv
    cases v with
    | non => cases h
    | ref _ => cases h2
    | scr _ => cases h2
    | zp _ _ _ _ => cases h2
    | _ => rw [dat] at z; cases z
end
section
variable {X : Cx} {es : List EC}
theorem VRs.at {K : PySem.W.Frag} {f : List Addr} {H : Hp} : ∀ {vs : List Val} {xs : List V}, VRs K f H vs xs → ∀ (i : Nat) (x : V), xs[i]? = some x → ∃ v, vs[i]? = some v ∧ VR K f H v x
  | [], xs, h, i, x, hx => by rw [show xs = [] from h] at hx; simp at hx
  | v :: vs, xs, h, i, x, hx => by
    obtain ⟨y, ys, rfl, r, t⟩ := h
    cases i with
    | zero => cases hx; exact ⟨v, rfl, r⟩
    | succ i => obtain ⟨w, e, q⟩ := VRs.at t i x (by simpa using hx); exact ⟨w, by simpa using e, q⟩
theorem seq_get {W : WX} {σ : St} {f : List Addr} {H : Hp} {μ : Sto} {Q : VK} {v : Val} {x : V} {k : List Val → Out Val} (S : SR X.K f μ H) (rv : VR X.K f H v x) (h : Post X.K es W σ f H (match seqI μ v with
    | some vs => k vs
    | none => .fail) Q) : ∃ vs a xs, x = .ref a ∧ (SqL X.K H a xs ∨ SqT X.K H a xs) ∧ VRs X.K f H vs xs ∧ Post X.K es W σ f H (k vs) Q := by
  cases v with
  | tup vs =>
    obtain ⟨a, xs, rfl, q, t⟩ := rv
    exact ⟨vs, a, xs, rfl, .inr q, t, h⟩
  | ref n =>
    have h' : Post X.K es W σ f H (match (match μ[n]? with | some (.lst vs) => some vs | _ => none) with
      | some vs => k vs
      | none => .fail) Q := h
    split at h'
    · rename_i vs e
      split at e
      · rename_i ws e2
        cases e
        obtain ⟨a, xs, rfl, _, hq, t⟩ := S.lst rv e2
        exact ⟨vs, a, xs, rfl, .inl (SqL.of hq), t, h'⟩
      · cases e
    · exact h'.elim
  | _ => exact h.elim
theorem c1_best {o : O1} {id : String} {gD : PyData → List PyData → PyData} {gV : Val → List Val → Val} (hcr : CallR X (.builtin id) (rBest X.K gD)) (hsem : ∀ v μ, sem1 o v μ = match seqI μ v with
    | some vs => (match vs with
      | x :: xs => if plains 50 (x :: xs) && alkAll (x :: xs) then .ok (gV x xs) μ else .fail
      | [] => .fail)
    | none => .fail) (hg : ∀ {L : List Val}, plains 50 L = true → alkAll L = true → ∀ (xs : List Val) (x : Val), x ∈ L → (∀ y ∈ xs, y ∈ L) → gD (dat x) (xs.map dat) = dat (gV x xs) ∧ gV x xs ∈ L) : CallR X (.builtin id) (c1 X.K es (sem1 o)) := by
  refine CallR.weak hcr fun vs H Q ⟨x, e, f, μ, v, W, σ, S, rv, h⟩ => ?_
  rw [hsem] at h
  obtain ⟨L, a, xs, rfl, hq, t, h1⟩ := seq_get S rv h
  cases L with
  | nil => exact h1.elim
  | cons v0 vs0 =>
    obtain ⟨hc, h2⟩ := Post.ite_ok h1
    rw [Bool.and_eq_true] at hc
    have hdep : PyData.depthAll (dats (v0 :: vs0)) ≤ 60 := by
      have := (dats_lay 50 (v0 :: vs0) hc.1).2
      omega
    obtain ⟨g1, g2⟩ := hg hc.1 hc.2 vs0 v0 (List.mem_cons_self ..) fun y hy => List.mem_cons_of_mem _ hy
    refine ⟨a, xs, dat v0, dats vs0, e, hq, dats_dp 50 (v0 :: vs0) xs hc.1 t, alike_all hc.1 hc.2, hdep, fun i x hx he => ?_⟩
    obtain ⟨w, hw, rw'⟩ := VRs.at t i x hx
    rw [dats_mapF, g1, ← List.map_cons, List.getElem?_map, hw] at he
    have hwl := List.mem_of_getElem? hw
    have : w = gV v0 vs0 := dat_inj 50 50 w _ (plains_mem hc.1 w hwl) (plains_mem hc.1 _ g2) (by simpa using he)
    rw [← this] at h2
    exact h2.done S rw'
theorem c1_min (hc : X.calm = true) (hu : X.A.units + 64 < cLine) : CallR X (.builtin "min") (c1 X.K es (sem1 .min1)) :=
  c1_best (cr_minData hc hu) (fun v μ => by
    show (match seqI μ v with | some (x :: xs) => _ | _ => _) = _
    cases seqI μ v with
    | none => rfl
    | some vs => cases vs <;> rfl) min_dat
theorem c1_max (hc : X.calm = true) (hu : X.A.units + 64 < cLine) : CallR X (.builtin "max") (c1 X.K es (sem1 .max1)) :=
  c1_best (cr_maxData hc hu) (fun v μ => by
    show (match seqI μ v with | some (x :: xs) => _ | _ => _) = _
    cases seqI μ v with
    | none => rfl
    | some vs => cases vs <;> rfl) max_dat
theorem srtI_uniq {ns ns' : List Int} (h1 : ns'.Perm ns) (h2 : ns'.Pairwise (· ≤ ·)) : ns' = srtI ns := by
  have p := List.mergeSort_perm ns fun a b => decide (a ≤ b)
  have s : (srtI ns).Pairwise (· ≤ ·) := by
    have := List.pairwise_mergeSort (le := fun a b : Int => decide (a ≤ b)) (fun a b c h1 h2 => by simp at *; omega) (fun a b => by simp; omega) ns
    exact this.imp fun h => by simpa using h
  exact List.Perm.eq_of_pairwise (le := (· ≤ ·)) (fun a b _ _ h1 h2 => Int.le_antisymm h1 h2) h2 s (h1.trans p.symm)
theorem VRs.pairs {K : PySem.W.Frag} {f : List Addr} {H : Hp} : ∀ {ts : List (Val × V)}, (∀ p ∈ ts, VR K f H p.1 p.2) → VRs K f H (ts.map (·.1)) (ts.map (·.2))
  | [], _ => rfl
  | p :: ts, h => ⟨p.2, _, rfl, h p (List.mem_cons_self ..), VRs.pairs fun q hq => h q (List.mem_cons_of_mem _ hq)⟩
theorem VRs.zip_mem {K : PySem.W.Frag} {f : List Addr} {H : Hp} : ∀ {vs : List Val} {xs : List V}, VRs K f H vs xs → (∀ p ∈ vs.zip xs, VR K f H p.1 p.2 ∧ p.1 ∈ vs) ∧ (vs.zip xs).map (·.1) = vs ∧ (vs.zip xs).map (fun p => (p.2, dat p.1)) = xs.zip (dats vs)
  | [], xs, h => by rw [show xs = [] from h]; exact ⟨by simp, rfl, rfl⟩
  | v :: vs, xs, h => by
    obtain ⟨y, ys, rfl, r, t⟩ := h
    obtain ⟨h1, h2, h3⟩ := VRs.zip_mem t
    refine ⟨fun p hp => ?_, by rw [List.zip_cons_cons, List.map_cons, h2], by rw [List.zip_cons_cons, List.map_cons, h3, dats, List.zip_cons_cons]⟩
    rw [List.zip_cons_cons] at hp
    rcases List.mem_cons.mp hp with rfl | hp
    · exact ⟨r, List.mem_cons_self ..⟩
    · exact ⟨(h1 p hp).1, List.mem_cons_of_mem _ (h1 p hp).2⟩
theorem sortable_dat {vs : List Val} (hp : plains 50 vs = true) (h : srtOk vs = true) : Sortable (dats vs) := by
  unfold srtOk at h
  rw [Bool.or_eq_true, List.all_eq_true, List.all_eq_true] at h
  rw [dats_mapF]
  rcases h with h | h
  · left
    intro d hd
    obtain ⟨v, hv, rfl⟩ := List.mem_map.mp hd
    have := h v hv
    split at this
    · rename_i x xs
      exact ⟨dat x, dats xs, by rw [dat, dats]⟩
    · cases this
  · right
    intro d hd
    obtain ⟨v, hv, rfl⟩ := List.mem_map.mp hd
    have h1 := h v hv
    have h2 := plains_mem hp v hv
    cases v with
    | tup _ => cases h1
    | non => cases h1
    | ref _ => cases h2
    | scr _ => cases h2
    | zp _ _ _ _ => cases h2
    | _ => exact ⟨(fun z => by rw [dat] at z; cases z), fun xs z => by rw [dat] at z; cases z⟩
theorem c1_srt (hu : X.A.units + 64 < cLine) : CallR X (.builtin "sorted") (c1 X.K es (sem1 .srt)) := by
  refine CallR.weak ((cr_srtData hu).or cr_sortedTI) fun us H Q ⟨x, e, f, μ, v, W, σ, S, rv, h⟩ => ?_
  cases v with
  | tup vs =>
    right
    have h1 : Post X.K es W σ f H (match Mi.asInts vs with
      | some ns => newLst ((srtI ns).map .int) μ
      | none => .fail) Q := h
    cases e3 : Mi.asInts vs with
    | none => rw [e3] at h1; exact h1.elim
    | some ns =>
      rw [e3] at h1
      obtain ⟨a, xs, rfl, hq, t⟩ := rv
      have e4 := t.ints_of e3
      subst e4
      refine ⟨a, ns, e, hq, fun ns' p k1 k2 hp => ?_⟩
      rw [srtI_uniq k1 k2]
      exact h1.newL S (VRs.ints _) p hp
  | ref n =>
    left
    have h1 : Post X.K es W σ f H (match μ[n]? with
      | some (.lst vs) => if plains 50 vs && alkAll vs && srtOk vs then newLst (srtV vs) μ else .fail
      | _ => .fail) Q := h
    split at h1
    · rename_i vs e2
      obtain ⟨a, xs, rfl, _, hq, t⟩ := S.lst rv e2
      obtain ⟨hc, h2⟩ : (plains 50 vs && alkAll vs && srtOk vs) = true ∧ Post X.K es W σ f H (newLst (srtV vs) μ) Q := by
        by_cases hc : (plains 50 vs && alkAll vs && srtOk vs) = true
        · rw [if_pos hc] at h1; exact ⟨hc, h1⟩
        · rw [if_neg hc] at h1; exact h1.elim
      rw [Bool.and_eq_true, Bool.and_eq_true] at hc
      have hdep : PyData.depthAll (dats vs) ≤ 60 := by
        have := (dats_lay 50 vs hc.1.1).2
        omega
      refine ⟨a, xs, dats vs, e, SqL.of hq, dats_dp 50 vs xs hc.1.1 t, (alike_all hc.1.1 hc.1.2).1, sortable_dat hc.1.1 hc.2, hdep, fun p hp => ?_⟩
      obtain ⟨z1, z2, z3⟩ := VRs.zip_mem t
      have m1 : (((vs.zip xs).mergeSort fun p q => dataLe false (fun b : V × PyData => b.2) (p.2, dat p.1) (q.2, dat q.1)).map fun p => (p.2, dat p.1)) = (xs.zip (dats vs)).mergeSort (dataLe false (·.2)) := by
        rw [← z3]
        exact List.map_mergeSort fun a _ b _ => rfl
      have m2 : (((vs.zip xs).mergeSort fun p q => dataLe false (fun b : V × PyData => b.2) (p.2, dat p.1) (q.2, dat q.1)).map (·.1)) = srtV vs := by
        unfold srtV
        conv => rhs; rw [← z2]
        refine List.map_mergeSort fun p hp q hq => ?_
        have hl := lt_dat 50 50 q.1 p.1 (plains_mem hc.1.1 _ (z1 q hq).2) (plains_mem hc.1.1 _ (z1 p hp).2) (alkAll_mem hc.1.2 (z1 q hq).2 (z1 p hp).2)
        show (!dataLt (dat q.1) (dat p.1)) = _
        rw [hl]
      obtain ⟨ts, hts⟩ : ∃ ts, ((vs.zip xs).mergeSort fun p q => dataLe false (fun b : V × PyData => b.2) (p.2, dat p.1) (q.2, dat q.1)) = ts := ⟨_, rfl⟩
      have hmem : ∀ p ∈ ts, VR X.K f H p.1 p.2 := fun p hp => by
        rw [← hts] at hp
        exact (z1 p ((List.mergeSort_perm _ _).mem_iff.mp hp)).1
      rw [hts] at m1 m2
      rw [← m1, List.map_map]
      rw [← m2] at h2
      exact h2.newL S (VRs.pairs hmem) p hp
    · exact h1.elim
  | _ => exact h.elim
end
end Mi
end

section
set_option Elab.async false
set_option linter.all false
set_option maxRecDepth 100000
set_option autoImplicit false
set_option maxHeartbeats 1000000
/-! Sound4: which term of Mini an expression of the text is; what is walked. -/
namespace Mi
open PySem PySem.Spec L2
open PyProof.Rows hiding St

/-! ### shapes -/
/-- what is known of a body's names: their places; how the scope tells them; which have a cell of their own -/
structure SS where
  N : List Str
  sc : Scope
  fn : Str → Bool
/-- what is known of the module -/
structure Gam where
  fns : List (Nat × Str × Nat)
  exn : List (Nat × Str × List Str)
  cat : List (Str × List Nat)
  kws : List (Nat × List Str × List Nat)
  cs : List (Str × Val)
  abs : List Str

def visB (sc : Scope) (x : Str) : Bool := match sc.names.lookup x with
  | some .local => true | some .cell => true | some .free => true | _ => false
def locB (sc : Scope) (x : Str) : Bool := match sc.names.lookup x with
  | some .local => true | some .cell => true | _ => false
def glB (sc : Scope) (x : Str) : Bool := match sc.names.lookup x with
  | some .globalImplicit => true | _ => false
theorem visB_ok {sc : Scope} {x : Str} (h : visB sc x = true) : Vis sc x := by
  unfold visB at h
  split at h <;> first | exact .inl (by assumption) | exact .inr (.inl (by assumption)) | exact .inr (.inr (by assumption)) | cases h
theorem locB_ok {sc : Scope} {x : Str} (h : locB sc x = true) : L2.Loc sc x := by
  unfold locB at h
  split at h <;> first | exact .inl (by assumption) | exact .inr (by assumption) | cases h
theorem glB_ok {sc : Scope} {x : Str} (h : glB sc x = true) : sc.names.lookup x = some .globalImplicit := by
  unfold glB at h
  split at h <;> first | assumption | cases h
def plainName (x : Str) : Bool := !(x == ("__debug__" : Str)) && !(x == ("__classdict__" : Str)) && !(x == ("__name__" : Str))
theorem plainName_ok {x : Str} (h : plainName x = true) : (x == ("__debug__" : Str)) = false ∧ (x == ("__classdict__" : Str)) = false ∧ x ≠ "__name__" := by
  unfold plainName at h
  simp only [Bool.and_eq_true, Bool.not_eq_true'] at h
  obtain ⟨⟨h1, h2⟩, h3⟩ := h
  exact ⟨h1, h2, fun z => by rw [z] at h3; simp at h3⟩
/-- a plain argument -/
def plainArg : Expr → Bool
  | .Starred _ _ => false
  | .Slice _ _ _ _ => false
  | _ => true
theorem star_cons {e : Expr} (h : plainArg e = true) (rest : List Expr) (env : Env) : starEach (e :: rest) env = (false, eval e env) :: starEach rest env := by
  cases e <;> first | rfl | cases h
theorem star_any {pos : Pos} {env : Env} : ∀ {l : List Expr}, l.all plainArg = true → (backTo pos (starEach l env)).any (·.1) = false
  | [], _ => rfl
  | e :: l, h => by
    rw [List.all_cons, Bool.and_eq_true] at h
    rw [star_cons h.1]
    show (false || (backTo pos (starEach l env)).any (·.1)) = false
    rw [Bool.false_or]
    exact star_any h.2
theorem plain_ix {e : Expr} (h : plainArg e = true) : PlainIx e := by
  intro o i
  cases e <;> first | rfl | cases h
/-- not an attribute's base of its own kind -/
def baseOk : Expr → Bool
  | .Call _ _ _ _ => false
  | _ => true
theorem base_ok {o : Expr} {m : Str} {env : Env} (h : baseOk o = true) : attributeBase o m env (eval o env) = eval o env := by
  cases o <;> first | rfl | cases h
/-- no comprehension itself -/
def noComp : Expr → Bool
  | .ListComp _ _ _ _ => false
  | .SetComp _ _ _ _ => false
  | .DictComp _ _ _ _ _ => false
  | _ => true
theorem swaps_no {e : Expr} {t : Option Expr} {l : Nat} {env : Env} (h : noComp e = true) : swapsWith e t l env = pure false := by
  cases e <;> first | rfl | cases h
def noSet : Expr → Bool
  | .Set _ _ _ => false
  | _ => true
theorem folded_no {e : Expr} {env : Env} (h : noSet e = true) (x : Value) : foldedSetIterable e env x = pure x := by
  cases e <;> first | rfl | cases h
theorem marks_no {op : CmpOp} {e : Expr} (h : noSet e = true) : behindInMarks op e = false := by
  cases e <;> first | rfl | cases h
/-- a test that is asked by its value -/
def byVal : Expr → Bool
  | .UnaryOp .Not _ _ => false
  | .BoolOp _ _ _ => false
  | .IfExp _ _ _ _ => false
  | .Compare _ _ _ _ => false
  | _ => true
theorem byVal_ok {e : Expr} {env : Env} (h : byVal e = true) (whole : Sem Value) : isTrue e env whole = (do let v ← whole; standAt e.pos; holding [v] (truthy v)) := by
  cases e with
  | UnaryOp op x p => cases op <;> first | rfl | cases h
  | _ => first | rfl | cases h

def asName : Expr → Option Str
  | .Name x _ => some x
  | _ => none
theorem asName_ok {e : Expr} {x : Str} (h : asName e = some x) : ∃ p, e = .Name x p := by
  cases e <;> first | (cases h; done) | (cases h; exact ⟨_, rfl⟩)
def asCall : Expr → Option (Str × List Expr)
  | .Call (.Name f _) es [] _ => some (f, es)
  | _ => none
theorem asCall_ok {e : Expr} {f : Str} {es : List Expr} (h : asCall e = some (f, es)) : ∃ p q, e = .Call (.Name f p) es [] q := by
  unfold asCall at h
  split at h
  · cases h; exact ⟨_, _, rfl⟩
  · cases h
/-- f(k = v, ..) -/
def asCallK : Expr → Option (Str × List Keyword)
  | .Call (.Name f _) [] kws _ => some (f, kws)
  | _ => none
theorem asCallK_ok {e : Expr} {f : Str} {kws : List Keyword} (h : asCallK e = some (f, kws)) : ∃ p q, e = .Call (.Name f p) [] kws q := by
  unfold asCallK at h
  split at h
  · cases h; exact ⟨_, _, rfl⟩
  · cases h
def ksOf (kws : List Keyword) : List Str := kws.filterMap (·.arg)
/-- o.m(..), on one line -/
def asMeth : Expr → Option (Expr × Str × List Expr)
  | .Call (.Attribute o m p) es [] q => if (p.endLine == q.line) = true then some (o, m, es) else none
  | _ => none
theorem asMeth_ok {e o : Expr} {m : Str} {es : List Expr} (h : asMeth e = some (o, m, es)) : ∃ p q, e = .Call (.Attribute o m p) es [] q ∧ (p.endLine == q.line) = true := by
  unfold asMeth at h
  split at h
  · split at h
    · cases h; exact ⟨_, _, rfl, by assumption⟩
    · cases h
  · cases h
/-- {k: v, ..} -/
def asDict : Expr → Option (List (Option Expr) × List Expr)
  | .Dict ks vs _ => some (ks, vs)
  | _ => none
theorem asDict_ok {e : Expr} {ks : List (Option Expr)} {vs : List Expr} (h : asDict e = some (ks, vs)) : ∃ p, e = .Dict ks vs p := by
  cases e <;> first | (cases h; done) | (cases h; exact ⟨_, rfl⟩)
def asBin : Expr → Option (Expr × Operator × Expr)
  | .BinOp a o b _ => some (a, o, b)
  | _ => none
theorem asBin_ok {e a b : Expr} {o : Operator} (h : asBin e = some (a, o, b)) : ∃ p, e = .BinOp a o b p := by
  cases e <;> first | (cases h; done) | (cases h; exact ⟨_, rfl⟩)
def asCmp : Expr → Option (Expr × CmpOp × Expr)
  | .Compare a [o] [b] _ => some (a, o, b)
  | _ => none
theorem asCmp_ok {e a b : Expr} {o : CmpOp} (h : asCmp e = some (a, o, b)) : ∃ p, e = .Compare a [o] [b] p := by
  unfold asCmp at h
  split at h
  · cases h; exact ⟨_, rfl⟩
  · cases h
def asCmp2 : Expr → Option (Expr × CmpOp × CmpOp × Expr × Expr)
  | .Compare a [o, o'] [b, c] _ => some (a, o, o', b, c)
  | _ => none
theorem asCmp2_ok {e a b c : Expr} {o o' : CmpOp} (h : asCmp2 e = some (a, o, o', b, c)) : ∃ p, e = .Compare a [o, o'] [b, c] p := by
  unfold asCmp2 at h
  split at h
  · cases h; exact ⟨_, rfl⟩
  · cases h
def asUn : Expr → Option (UnaryOp × Expr)
  | .UnaryOp o a _ => some (o, a)
  | _ => none
theorem asUn_ok {e a : Expr} {o : UnaryOp} (h : asUn e = some (o, a)) : ∃ p, e = .UnaryOp o a p := by
  cases e <;> first | (cases h; done) | (cases h; exact ⟨_, rfl⟩)
def asBool : Expr → Option (BoolOp × List Expr × Pos)
  | .BoolOp o l p => some (o, l, p)
  | _ => none
theorem asBool_ok {e : Expr} {o : BoolOp} {l : List Expr} {p : Pos} (h : asBool e = some (o, l, p)) : e = .BoolOp o l p := by
  cases e <;> first | (cases h; done) | (cases h; rfl)
def asIf : Expr → Option (Expr × Expr × Expr)
  | .IfExp c a b _ => some (c, a, b)
  | _ => none
theorem asIf_ok {e c a b : Expr} (h : asIf e = some (c, a, b)) : ∃ p, e = .IfExp c a b p := by
  cases e <;> first | (cases h; done) | (cases h; exact ⟨_, rfl⟩)
def asSub : Expr → Option (Expr × Expr)
  | .Subscript a b _ => some (a, b)
  | _ => none
theorem asSub_ok {e a b : Expr} (h : asSub e = some (a, b)) : ∃ p, e = .Subscript a b p := by
  cases e <;> first | (cases h; done) | (cases h; exact ⟨_, rfl⟩)
def asBk : Expr → Option (Expr × Expr)
  | .Subscript a (.Slice none none (some st) _) _ => some (a, st)
  | _ => none
theorem asBk_ok {e a st : Expr} (h : asBk e = some (a, st)) : ∃ p q, e = .Subscript a (.Slice none none (some st) p) q := by
  unfold asBk at h
  split at h
  · cases h; exact ⟨_, _, rfl⟩
  · cases h
def asSl : Expr → Option (Expr × Option Expr × Option Expr)
  | .Subscript a (.Slice lo hi none _) _ => some (a, lo, hi)
  | _ => none
theorem asSl_ok {e a : Expr} {lo hi : Option Expr} (h : asSl e = some (a, lo, hi)) : ∃ p q, e = .Subscript a (.Slice lo hi none p) q := by
  unfold asSl at h
  split at h
  · cases h; exact ⟨_, _, rfl⟩
  · cases h
def asTup : Expr → Option (List Expr)
  | .Tuple es _ _ => some es
  | _ => none
theorem asTup_ok {e : Expr} {es : List Expr} (h : asTup e = some es) : ∃ k p, e = .Tuple es k p := by
  cases e <;> first | (cases h; done) | (cases h; exact ⟨_, _, rfl⟩)
def asLst : Expr → Option (List Expr)
  | .List es _ => some es
  | _ => none
theorem asLst_ok {e : Expr} {es : List Expr} (h : asLst e = some es) : ∃ p, e = .List es p := by
  cases e <;> first | (cases h; done) | (cases h; exact ⟨_, rfl⟩)
def isNone : Expr → Bool
  | .Constant .none _ _ => true
  | _ => false
theorem isNone_ok {e : Expr} (h : isNone e = true) : ∃ j p, e = .Constant .none j p := by
  unfold isNone at h
  split at h
  · exact ⟨_, _, rfl⟩
  · cases h
def asConst : Expr → Option Val
  | .Constant .none _ _ => some .non
  | .Constant (.bool b) _ _ => some (.bl b)
  | .Constant (.int i) _ _ => some (.int i)
  | .Constant (.str s) _ _ => some (.str s.cps.toList)
  | _ => none
/-- a comprehension of one clause -/
def asComp : Expr → Option (Expr × Expr × Expr × List Expr × Scope)
  | .ListComp elt [⟨tg, iter, ifs, 0⟩] sc _ => some (elt, tg, iter, ifs, sc)
  | _ => none
theorem asComp_ok {e elt tg iter : Expr} {ifs : List Expr} {sc : Scope} (h : asComp e = some (elt, tg, iter, ifs, sc)) : ∃ p, e = .ListComp elt [⟨tg, iter, ifs, 0⟩] sc p := by
  unfold asComp at h
  split at h
  · cases h; exact ⟨_, rfl⟩
  · cases h

/-! ### the contexts -/
/-- keywords' values in the parameters' order -/
def gK {α : Type} (m : Nat) (perm : List Nat) (us ws : List α) : List α := if us.length = 0 ∧ ws.length = m then pick perm ws else []
/-- what a def of the text promises: what F comes to -/
def spM (K : PySem.W.Frag) (es : List EC) (n : Nat) (F : List Val → Sto → Out Val) : Sp := fun vs H Q E => ∃ f μ args, SR K f μ H ∧ VRs K f H args vs ∧ args.length = n ∧ Post K es (fun cls d _ H' => E cls d H') [] f H (F args μ) Q
structure XOk (Γ : Gam) (es : List EC) (C : CallF) (lv : Nat) (S : SS) (X : Cx) : Prop where
  hN : X.N = S.N
  nd : S.N.Nodup
  hsc : X.env.scope = S.sc
  hfn : X.fn = S.fn
  calm : X.calm = true
  room : Room lv X.A
  po : PassesOwn (model X.prog X.w) X.A X.env X.xe
  abs : ∀ x, x ∈ Γ.abs → X.mg x = none
  cs : ∀ x v, Γ.cs.lookup x = some v → ∃ u y, X.mg x = some u ∧ RelV y u ∧ ∀ f H, VR X.K f H v y
  fns : ∀ (k : Nat) (x : Str) (n : Nat), Γ.fns.lookup k = some (x, n) → ∃ f fd ps, X.mg x = some (.ref f) ∧ PySem.W.keepIn X.K (.ref f) = true ∧ Binds X.K fd ps [] ∧ FnOk X.prog X.w X.K X.mg X.base (L2.CX X.prog X.w) lv f fd ps (spM X.K es n (C k)) ∧ ∀ ks perm, (k, ks, perm) ∈ Γ.kws → KBinds X.K fd ps ks (gK ks.length perm) (gK ks.length perm)
  arity : ∀ (k : Nat) (x : Str) (n : Nat), Γ.fns.lookup k = some (x, n) → ∀ vs μ, vs.length ≠ n → C k vs μ = .fail
theorem XOk.gl {Γ : Gam} {es : List EC} {C : CallF} {lv : Nat} {S : SS} {X : Cx} (h : XOk Γ es C lv S X) {x : Str} (q : glB S.sc x = true) : Gl X x := by
  show X.env.scope.names.lookup x = _
  rw [h.hsc]; exact glB_ok q
theorem XOk.units {Γ : Gam} {es : List EC} {C : CallF} {lv : Nat} {S : SS} {X : Cx} (h : XOk Γ es C lv S X) : X.A.units + 64 < cLine := h.room.units

/-! ### tests -/
def tTM (K : PySem.W.Frag) (es : List EC) (W : WX) (m : Loc → Sto → Out Val) : TT := fun σ H Q => ∃ f ρ μ, SR K f μ H ∧ LR K f H ρ σ ∧ (match m ρ μ with
  | .ok (.bl b) μ' => ∀ f' H', Le f H f' H' → SR K f' μ' H' → Q b H'
  | .exc c fs μ' => ∀ f' H' cls d, Le f H f' H' → SR K f' μ' H' → XR K es f' H' c fs cls d → W cls d σ H'
  | _ => False)
section
variable {K : PySem.W.Frag} {es : List EC} {W : WX} {σ : St} {f : List Addr} {H : Hp} {μ : Sto} {ρ : Loc}
/-- what a test wants, of what m comes to -/
def PostT (K : PySem.W.Frag) (es : List EC) (W : WX) (σ : St) (f : List Addr) (H : Hp) (o : Out Val) (Q : Bool → Hp → Prop) : Prop := Post K es W σ f H o fun x H' => ∃ b, x = .bl b ∧ Q b H'
theorem tTM_of {m : Loc → Sto → Out Val} {Q : Bool → Hp → Prop} (S : SR K f μ H) (L : LR K f H ρ σ) (h : match m ρ μ with
  | .ok (.bl b) μ' => ∀ f' H', Le f H f' H' → SR K f' μ' H' → Q b H'
  | .exc c fs μ' => ∀ f' H' cls d, Le f H f' H' → SR K f' μ' H' → XR K es f' H' c fs cls d → W cls d σ H'
  | _ => False) : tTM K es W m σ H Q := ⟨f, ρ, μ, S, L, h⟩
/-- a test by its value -/
theorem tTM_val {m : Loc → Sto → Out Val} {Q : Bool → Hp → Prop} (h : tTM K es W m σ H Q) : tB (tM K es W m) σ H Q := by
  obtain ⟨f, ρ, μ, S, L, h⟩ := h
  refine ⟨f, ρ, μ, S, L, ?_⟩
  cases e : m ρ μ with
  | ok v μ1 =>
    rw [e] at h
    cases v with
    | bl b => exact fun f' H' x l S' r => ⟨b, r, h f' H' l S'⟩
    | _ => exact h.elim
  | exc c fs μ1 => rw [e] at h; exact h
  | fail => rw [e] at h; exact h
/-- a test first, then what hangs on it -/
theorem bindT' {ma : Loc → Sto → Out Val} {k : Val → Sto → Out Val} {Q : VK} {Q1 : Bool → Hp → Prop} (S : SR K f μ H) (L : LR K f H ρ σ) (h : Post K es W σ f H ((ma ρ μ).bind k) Q) (hf : ∀ v μ1, (∀ b, v ≠ .bl b) → k v μ1 = .fail)
    (hk : ∀ b μ1 f1 H1, Le f H f1 H1 → SR K f1 μ1 H1 → LR K f1 H1 ρ σ → Post K es W σ f1 H1 (k (.bl b) μ1) Q → Q1 b H1) : tTM K es W ma σ H Q1 := by
  refine ⟨f, ρ, μ, S, L, ?_⟩
  cases e : ma ρ μ with
  | ok v μ1 =>
    rw [e] at h
    cases v with
    | bl b => exact fun f' H' l S' => hk b μ1 f' H' l S' (L.mono l) (Post.mono l h)
    | _ => rw [Out.bind_ok, hf _ _ (by intro b z; cases z)] at h; exact h
  | exc c fs μ1 => rw [e] at h; exact h
  | fail => rw [e] at h; exact h
end

/-! ### what is walked -/
/-- the iterator J walks xs, the items of src -/
structure ItOk (K : PySem.W.Frag) (J : It) (src : Val) (xs : List Val) (f1 : List Addr) (H1 : Hp) : Prop where
  go : ∀ i f μ H, Le f1 H1 f H → SR K f μ H → guard src xs μ = true → i < xs.length → J.go i H
  yl : ∀ i f μ H x H', Le f1 H1 f H → SR K f μ H → guard src xs μ = true → i < xs.length → J.yld i H x H' → ∃ v, xs[i]? = some v ∧ VR K f H' v x ∧ SR K f μ H' ∧ Le f H f H'
  st : ∀ i f μ H, Le f1 H1 f H → SR K f μ H → guard src xs μ = true → xs.length ≤ i → J.stop i H
def iM (K : PySem.W.Frag) (es : List EC) (W : WX) (m : Loc → Sto → Out Val) : TI := fun σ H R => ∃ f ρ μ, SR K f μ H ∧ LR K f H ρ σ ∧ (match m ρ μ with
  | .ok src μ' => ∃ xs, items μ' src = some xs ∧ ∀ f' H' J, Le f H f' H' → SR K f' μ' H' → ItOk K J src xs f' H' → R J H'
  | .exc c fs μ' => ∀ f' H' cls d, Le f H f' H' → SR K f' μ' H' → XR K es f' H' c fs cls d → W cls d σ H'
  | .fail => False)
theorem PI.weak {X : Cx} {tg e : Expr} {t t' : TI} (h : PI X tg e t) (k : ∀ σ H R, t' σ H R → t σ H R) : PI X tg e t' := ⟨fun pins s σ H R I q => h.run pins s σ H R I (k σ H R q)⟩
section
variable {X : Cx} {es : List EC} {tg : Expr}
/-- a list, a tuple or a text -/
def iAny (K : PySem.W.Frag) (tl : TE) : TI := fun σ H R => tl σ H fun x H1 => (∃ a, x = .ref a ∧ (∃ xs, SqL K H1 a xs) ∧ R (Itl K a) H1) ∨ (∃ a, x = .ref a ∧ (∃ xs, SqT K H1 a xs) ∧ R (Itt K a) H1) ∨ (∃ z, x = .str z ∧ R (Its z) H1)
theorem pi_str_at {pins : List (Addr × Obj)} {s1 : Shared} {σ : L2.St} {H1 : Hp} {R : It → Hp → Prop} {v : Value} {x : Str} (I1 : Inv X pins σ H1 s1) (r : RelV (.str x) v) (q : R (Its x) H1) :
    wpAny (model X.prog X.w) X.A (pyIter v) (PIE X pins σ tg R) X.xe s1 := by
  obtain ⟨t, rfl⟩ := r
  by_cases ha : x.cps.all (· < 128) = true
  · exact wpAny_pyIter_ascii ha (pi_one (tk := s1.toks) I1 _ (turn_str _ x t _ (.inl rfl)) ⟨_, Heap.get?_push_size _ rfl, rfl, rfl⟩ q)
  · exact wpAny_pyIter_wide (by simpa using ha) (pi_one (tk := s1.toks) I1 _ (turn_str _ x t _ (.inr rfl)) ⟨_, Heap.get?_push_size _ rfl, rfl, rfl⟩ q)
theorem pi_any {l : Expr} {tl : TE} (hl : PE X l tl) : PI X tg l (iAny X.K tl) := by
  refine ⟨fun pins s σ H R I h => ?_⟩
  refine thn (hl.run pins s σ H _ I h) fun v s1 ⟨x, H1, I1, r1, q1⟩ => ?_
  rcases q1 with ⟨a, rfl, ⟨xs, hq⟩, q⟩ | ⟨a, rfl, ⟨xs, hq⟩, q⟩ | ⟨x, ex, q⟩
  · obtain ⟨its, _, p, _⟩ := I1.list hq
    obtain rfl : v = Value.ref a := r1
    exact wpAny_pyIter_list p.isList (pi_one (tk := s1.toks) I1 _ (turn_list a _) ⟨_, Heap.get?_push_size _ rfl, rfl, rfl⟩ q)
  · obtain ⟨its, _, p, _⟩ := I1.tuple hq
    obtain rfl : v = Value.ref a := r1
    exact wpAny_pyIter_tuple p (pi_one (tk := s1.toks) I1 _ (turn_tuple a _) ⟨_, Heap.get?_push_size _ rfl, rfl, rfl⟩ q)
  · exact thn ((pi_str_at I1 (v := v) (x := x) (by rw [← ex]; exact r1) q)) fun _ _ z => z
end
theorem guard_ref {n : Nat} {xs : List Val} {μ : Sto} (h : guard (.ref n) xs μ = true) : μ[n]? = some (.lst xs) := of_decide_eq_true h
section
variable {K : PySem.W.Frag} {f1 : List Addr} {H1 : Hp} {μ1 : Sto}
theorem itOk_ref {n : Nat} {vs : List Val} {a : Addr} (ha : f1[n]? = some a) : ItOk K (Itl K a) (.ref n) vs f1 H1 := by
  have at' : ∀ f μ H, Le f1 H1 f H → SR K f μ H → guard (.ref n) vs μ = true → ∃ xs, H a = some (.lst xs) ∧ VRs K f H vs xs := fun f μ H l S g => S.cell n _ a (guard_ref g) (l.get ha)
  refine ⟨fun i f μ H l S g hi => ?_, fun i f μ H x H' l S g hi y => ?_, fun i f μ H l S g hi => ?_⟩
  · obtain ⟨xs, q, t⟩ := at' f μ H l S g
    obtain ⟨x, e, _⟩ := t.get (List.getElem?_eq_getElem hi)
    exact ⟨xs, x, SqL.of q, e⟩
  · obtain ⟨xs, q, t⟩ := at' f μ H l S g
    obtain ⟨rfl, y⟩ := y
    obtain ⟨v, e, r⟩ := t.get' (y xs (SqL.of q))
    exact ⟨v, e, r, S, Le.refl _ _⟩
  · obtain ⟨xs, q, t⟩ := at' f μ H l S g
    exact ⟨xs, SqL.of q, by rw [t.length]; exact hi⟩
theorem itOk_scr {ns : List Int} {a : Addr} (h : Fz K H1 a (ns.map V.int)) : ItOk K (Itl K a) (.scr ns) (ns.map .int) f1 H1 := by
  refine ⟨fun i f μ H l S g hi => ?_, fun i f μ H x H' l S g hi y => ?_, fun i f μ H l S g hi => ?_⟩
  · exact ⟨_, .int (ns[i]'(by simpa using hi)), (l.kp.fz h).seq, by simp⟩
  · obtain ⟨rfl, y⟩ := y
    obtain ⟨v, e, r⟩ := (VRs.ints (K := K) (f := f) (H := H') ns).get' (y _ (l.kp.fz h).seq)
    exact ⟨v, e, r, S, Le.refl _ _⟩
  · exact ⟨_, (l.kp.fz h).seq, by simpa using hi⟩
theorem itOk_tup {vs : List Val} {a : Addr} {xs : List V} (h : SqT K H1 a xs) (t : VRs K f1 H1 vs xs) : ItOk K (Itt K a) (.tup vs) vs f1 H1 := by
  refine ⟨fun i f μ H l S g hi => ?_, fun i f μ H x H' l S g hi y => ?_, fun i f μ H l S g hi => ?_⟩
  · obtain ⟨x, e, _⟩ := t.get (List.getElem?_eq_getElem hi)
    exact ⟨xs, x, l.kp.sqT h, e⟩
  · obtain ⟨rfl, y⟩ := y
    obtain ⟨v, e, r⟩ := (VRs.mono l _ _ t).get' (y _ (l.kp.sqT h))
    exact ⟨v, e, r, S, Le.refl _ _⟩
  · exact ⟨xs, l.kp.sqT h, by rw [t.length]; exact hi⟩
theorem itOk_rng {lo : Int} {n : Nat} : ItOk K (Itr lo n) (.tup ((List.range n).map fun i => .int (lo + (i : Nat)))) ((List.range n).map fun i => .int (lo + (i : Nat))) f1 H1 := by
  refine ⟨fun i f μ H l S g hi => ?_, fun i f μ H x H' l S g hi y => ?_, fun i f μ H l S g hi => ?_⟩
  · show i < n
    simpa using hi
  · obtain ⟨rfl, rfl⟩ := y
    have hi' : i < n := by simpa using hi
    exact ⟨.int (lo + (i : Nat)), by simp [hi'], rfl, S, Le.refl _ _⟩
  · show n ≤ i
    simpa using hi
theorem itOk_rngC {lo c : Int} {n : Nat} : ItOk K (Itc lo c n) (.tup ((List.range n).map fun i => .int (lo + (i : Nat) * c))) ((List.range n).map fun i => .int (lo + (i : Nat) * c)) f1 H1 := by
  refine ⟨fun i f μ H l S g hi => ?_, fun i f μ H x H' l S g hi y => ?_, fun i f μ H l S g hi => ?_⟩
  · show i < n
    simpa using hi
  · obtain ⟨rfl, rfl⟩ := y
    have hi' : i < n := by simpa using hi
    exact ⟨.int (lo + (i : Nat) * c), by simp [hi'], rfl, S, Le.refl _ _⟩
  · show n ≤ i
    simpa using hi
theorem itOk_str {s : List Nat} : ItOk K (Its ⟨s.toArray⟩) (.str s) (s.map fun c => .str [c]) f1 H1 := by
  refine ⟨fun i f μ H l S g hi => ?_, fun i f μ H x H' l S g hi y => ?_, fun i f μ H l S g hi => ?_⟩
  · show i < s.toArray.size
    simpa using hi
  · obtain ⟨rfl, c, h, rfl⟩ := y
    have h' : s[i]? = some c := by simpa using h
    exact ⟨.str [c], by rw [List.getElem?_map, h']; rfl, rfl, S, Le.refl _ _⟩
  · show s.toArray.size ≤ i
    simpa using hi
/-- from an expression's end to the walk -/
theorem iM_any {es : List EC} {W : WX} {σ : St} {H : Hp} {m : Loc → Sto → Out Val} {R : It → Hp → Prop} (h : iM K es W m σ H R) : iAny K (tM K es W m) σ H R := by
  obtain ⟨f, ρ, μ, S, L, h⟩ := h
  refine ⟨f, ρ, μ, S, L, ?_⟩
  cases e : m ρ μ with
  | ok src μ' =>
    rw [e] at h
    obtain ⟨xs, hi, h⟩ := h
    intro f' H' x l S' r
    cases src with
    | tup vs =>
      cases (show some vs = some xs from hi)
      obtain ⟨a, ys, rfl, hq, t⟩ := r
      exact .inr (.inl ⟨a, rfl, ⟨ys, hq⟩, h f' H' _ l S' (itOk_tup hq t)⟩)
    | scr ns =>
      cases (show some (ns.map Val.int) = some xs from hi)
      obtain ⟨a, rfl, hq⟩ := r
      exact .inl ⟨a, rfl, ⟨_, hq.seq⟩, h f' H' _ l S' (itOk_scr hq)⟩
    | ref n =>
      cases e2 : μ'[n]? with
      | none =>
        have h' : (match μ'[n]? with | some (.lst vs) => some vs | _ => none) = some xs := hi
        rw [e2] at h'; cases h'
      | some c =>
        have h' : (match μ'[n]? with | some (.lst vs) => some vs | _ => none) = some xs := hi
        rw [e2] at h'
        cases c with
        | lst ws =>
          cases h'
          obtain ⟨a, ys, rfl, ha, hq, t⟩ := S'.lst r e2
          exact .inl ⟨a, rfl, ⟨ys, SqL.of hq⟩, h f' H' _ l S' (itOk_ref ha)⟩
        | dict _ _ => cases h'
        | ins _ _ => cases h'
    | str s =>
      cases (show some (s.map fun c => Val.str [c]) = some xs from hi)
      exact .inr (.inr ⟨_, r, h f' H' _ l S' itOk_str⟩)
    | zp a b c d => exact r.elim
    | _ => cases hi
  | exc c fs μ' => rw [e] at h; exact h
  | fail => rw [e] at h; exact h
end
end Mi
end

section
set_option Elab.async false
set_option linter.all false
set_option maxRecDepth 100000
set_option autoImplicit false
set_option maxHeartbeats 1000000
/-! Sound5: an expression of the text comes to what its term comes to. -/
namespace Mi
open PySem PySem.Spec L2
open PyProof.Rows hiding St

def argc : ME → Nat
  | .cons _ b => argc b + 1
  | _ => 0
/-- a term that has a value of the text -/
def vE : ME → Bool
  | .rng _ => false | .rng2 _ _ => false | .rng3 _ => false | .zip _ _ => false | .nil => false | .cons _ _ => false
  | _ => true
/-- a term that may stand as a test -/
def tstM : ME → Bool
  | .ite _ _ _ => false
  | .and a b => tstM a && tstM b
  | .or a b => tstM a && tstM b
  | .op1 .not a => tstM a
  | .tmp a => tstM a
  | _ => true
def chkNm (S : SS) (i : Nat) (e : Expr) : Bool := match asName e with
  | some x => decide (S.N[i]? = some x) && locB S.sc x && (S.fn x || decide (S.sc.names.lookup x = some .local))
  | none => false
def chkNs (S : SS) : List Nat → List Expr → Bool
  | [], [] => true
  | i :: is, e :: es => chkNm S i e && chkNs S is es
  | _, _ => false
def chkTg (S : SS) : MT → Expr → Bool
  | .nm i, e => chkNm S i e
  | .tp is, e => match asTup e with
    | some es => chkNs S is es
    | none => false
/-- a built-in's call of one argument -/
def bi1 (Γ : Gam) (S : SS) (f : Str) (e : Expr) : Option Expr := match asCall e with
  | some (g, [x]) => if (decide (g = f) && glB S.sc f && decide (f ∈ Γ.abs) && plainName f) = true then some x else none
  | _ => none
def bi2 (Γ : Gam) (S : SS) (f : Str) (e : Expr) : Option (Expr × Expr) := match asCall e with
  | some (g, [x, y]) => if (decide (g = f) && glB S.sc f && decide (f ∈ Γ.abs) && plainName f) = true then some (x, y) else none
  | _ => none
def bi3 (Γ : Gam) (S : SS) (f : Str) (e : Expr) : Option (List Expr) := match asCall e with
  | some (g, [x, y, z]) => if (decide (g = f) && glB S.sc f && decide (f ∈ Γ.abs) && plainName f) = true then some [x, y, z] else none
  | _ => none
def me1 (m : Str) (e : Expr) : Option (Expr × Expr) := match asMeth e with
  | some (o, n, [x]) => if (decide (n = m) && baseOk o) = true then some (o, x) else none
  | _ => none
def me2 (m : Str) (e : Expr) : Option (Expr × Expr × Expr) := match asMeth e with
  | some (o, n, [x, y]) => if (decide (n = m) && baseOk o) = true then some (o, x, y) else none
  | _ => none
/-- zip stands ahead of a written tuple alone -/
def zipOk : ME → Expr → Bool
  | .zip _ _, t => (asTup t).isSome
  | _, _ => true
def keysOk : List (Option Expr) → List Val → Bool
  | [], [] => true
  | some e :: es, v :: vs => decide (asConst e = some v) && keysOk es vs
  | _, _ => false
def me0 (m : Str) (e : Expr) : Option Expr := match asMeth e with
  | some (o, n, []) => if (decide (n = m) && baseOk o) = true then some o else none
  | _ => none
def tyName (Γ : Gam) (S : SS) (t : Ty) (e : Expr) : Bool := match asName e with
  | some x => decide (x = Str.ofString (tyN t)) && glB S.sc x && decide (x ∈ Γ.abs) && plainName x
  | none => false
def tyNames (Γ : Gam) (S : SS) : List Ty → List Expr → Bool
  | [], [] => true
  | t :: ts, e :: es => tyName Γ S t e && plainArg e && tyNames Γ S ts es
  | _, _ => false
def tysOf (Γ : Gam) (S : SS) (ts : List Ty) (e : Expr) : Bool := match ts with
  | [t] => tyName Γ S t e
  | ts => match asTup e with
    | some es => tyNames Γ S ts es && decide (ts.length ≤ 9) && !ts.isEmpty
    | none => false
def sub1 (Γ : Gam) (S : SS) (o : O1) (e : Expr) : Option Expr := match o with
  | .neg => match asUn e with
    | some (.USub, x) => some x
    | _ => none
  | .not => match asUn e with
    | some (.Not, x) => some x
    | _ => none
  | .len => bi1 Γ S "len" e
  | .abs => bi1 Γ S "abs" e
  | .int => bi1 Γ S "int" e
  | .toTup => bi1 Γ S "tuple" e
  | .toLst => bi1 Γ S "list" e
  | .sum => bi1 Γ S "sum" e
  | .isN => match asCmp e with
    | some (x, .Is, y) => if isNone y = true then some x else none
    | _ => none
  | .notN => match asCmp e with
    | some (x, .IsNot, y) => if isNone y = true then some x else none
    | _ => none
  | .isi ts => match bi2 Γ S "isinstance" e with
    | some (x, y) => if (tysOf Γ S ts y && plainArg y) = true then some x else none
    | none => none
  | .pop => me0 "pop" e
  | .dict _ => bi1 Γ S "dict" e
  | .str => bi1 Γ S "str" e
  | .lset => match bi1 Γ S "len" e with
    | some r => bi1 Γ S "set" r
    | none => none
  | .srt => bi1 Γ S "sorted" e
  | .min1 => bi1 Γ S "min" e
  | .max1 => bi1 Γ S "max" e
def binOp : O2 → Option Operator
  | .add => some .Add | .sub => some .Sub | .mul => some .Mult | .fdiv => some .FloorDiv | .mod => some .Mod | .pow => some .Pow | .shl => some .LShift
  | _ => none
def cmpOp : O2 → Option CmpOp
  | .eq => some .Eq | .ne => some .NotEq | .lt => some .Lt | .le => some .LtE | .gt => some .Gt | .ge => some .GtE | .inn => some .In | .nin => some .NotIn
  | _ => none
def binEq (a b : Operator) : Bool := match a, b with
  | .Add, .Add => true | .Sub, .Sub => true | .Mult, .Mult => true | .FloorDiv, .FloorDiv => true | .Mod, .Mod => true | .Pow, .Pow => true | .LShift, .LShift => true
  | _, _ => false
theorem binEq_ok {a b : Operator} (h : binEq a b = true) : a = b := by
  unfold binEq at h
  split at h <;> first | rfl | cases h
def cmpEq (a b : CmpOp) : Bool := match a, b with
  | .Eq, .Eq => true | .NotEq, .NotEq => true | .Lt, .Lt => true | .LtE, .LtE => true | .Gt, .Gt => true | .GtE, .GtE => true | .In, .In => true | .NotIn, .NotIn => true
  | _, _ => false
theorem cmpEq_ok {a b : CmpOp} (h : cmpEq a b = true) : a = b := by
  unfold cmpEq at h
  split at h <;> first | rfl | cases h
def sub2 (Γ : Gam) (S : SS) (o : O2) (e : Expr) : Option (Expr × Expr) := match binOp o with
  | some op => match asBin e with
    | some (a, op', b) => if binEq op' op = true then some (a, b) else none
    | none => none
  | none => match cmpOp o with
    | some op => match asCmp e with
      | some (a, op', b) => if (cmpEq op' op && noSet b) = true then some (a, b) else none
      | none => none
    | none => match o with
      | .idx => asSub e
      | .append => me1 "append" e
      | .extend => me1 "extend" e
      | .popAt => me1 "pop" e
      | .index => me1 "index" e
      | .get1 => me1 "get" e
      | .min2 => bi2 Γ S "min" e
      | .max2 => bi2 Γ S "max" e
      | .slF => match asSl e with
        | some (a, some lo, none) => some (a, lo)
        | _ => none
      | .slT => match asSl e with
        | some (a, none, some hi) => some (a, hi)
        | _ => none
      | .rev => asBk e
      | _ => none
def sub3 (Γ : Gam) (S : SS) (o : O3) (e : Expr) : Option (Expr × Expr × Expr) := match o with
  | .slice => match asSl e with
    | some (a, some lo, some hi) => some (a, lo, hi)
    | _ => none
  | .get2 => me2 "get" e
  | .setd => me2 "setdefault" e
def isSl : O3 → Bool
  | .slice => true
  | _ => false
def isTrueC : ME → Bool
  | .cst (.bl true) => true
  | _ => false
theorem isTrueC_ok {m : ME} (h : isTrueC m = true) : m = .cst (.bl true) := by
  unfold isTrueC at h
  split at h
  · rfl
  · cases h
mutual
/-- the expression is what the term says -/
def chk (Γ : Gam) (S : SS) : ME → Expr → Bool
  | .var i, e => match asName e with
    | some x => decide (S.N[i]? = some x) && visB S.sc x && plainName x
    | none => false
  | .cst v, e => match asConst e with
    | some u => decide (u = v)
    | none => match asName e with
      | some x => glB S.sc x && plainName x && decide (Γ.cs.lookup x = some v)
      | none => false
  | .nil, _ => false
  | .cons _ _, _ => false
  | .tupE a, e => match asTup e with
    | some es => chkA Γ S a es && decide (argc a ≤ 1000)
    | none => false
  | .lstE a, e => match asLst e with
    | some es => chkA Γ S a es && decide (argc a ≤ 1000)
    | none => false
  | .op1 o a, e => match sub1 Γ S o e with
    | some x => vE a && plainArg x && chk Γ S a x
    | none => false
  | .op2 o a b, e => match sub2 Γ S o e with
    | some (x, y) => vE a && vE b && plainArg x && plainArg y && chk Γ S a x && chk Γ S b y
    | none => false
  | .op3 o a b c, e => match sub3 Γ S o e with
    | some (x, y, z) => (isSl o || (plainArg y && plainArg z)) && vE a && vE b && vE c && chk Γ S a x && chk Γ S b y && chk Γ S c z
    | none => false
  | .and a b, e => match asBool e with
    | some (.And, [x, y], _) => vE a && vE b && chk Γ S a x && chk Γ S b y
    | some (.And, x :: y :: z :: r, p) => vE a && vE b && chk Γ S a x && chk Γ S b (.BoolOp .And (y :: z :: r) p)
    | _ => false
  | .or a b, e => match asBool e with
    | some (.Or, [x, y], _) => vE a && vE b && chk Γ S a x && chk Γ S b y
    | some (.Or, x :: y :: z :: r, p) => vE a && vE b && chk Γ S a x && chk Γ S b (.BoolOp .Or (y :: z :: r) p)
    | _ => false
  | .ite c a b, e => match asIf e with
    | some (x, y, z) => vE a && vE b && vE c && tstM c && chk Γ S c x && chk Γ S a y && chk Γ S b z
    | none => false
  | .chain o o' a b c, e => match asCmp2 e with
    | some (x, op, op', y, z) => (match cmpOp o, cmpOp o' with
      | some q, some q' => cmpEq op q && cmpEq op' q' && noSet y && noSet z
      | _, _ => false) && vE a && vE b && vE c && chk Γ S a x && chk Γ S b y && chk Γ S c z
    | none => false
  | .call k a, e => match asCall e with
    | some (f, es) => decide ((Γ.fns.lookup k).map (·.1) = some f) && glB S.sc f && plainName f && es.all plainArg && chkA Γ S a es
    | none => false
  | .callK k perm a, e => match asCallK e with
    | some (f, kws) => decide ((Γ.fns.lookup k).map (·.1) = some f) && glB S.sc f && plainName f && decide ((k, ksOf kws, perm) ∈ Γ.kws) && kws.all (fun q => q.arg.isSome) && chkA Γ S a (kws.map (·.value))
    | none => false
  | .rng a, e => match bi1 Γ S "range" e with
    | some x => vE a && plainArg x && chk Γ S a x
    | none => false
  | .rng2 a b, e => match bi2 Γ S "range" e with
    | some (x, y) => vE a && vE b && plainArg x && plainArg y && chk Γ S a x && chk Γ S b y
    | none => false
  | .rng3 a, e => match bi3 Γ S "range" e with
    | some l => l.all plainArg && chkA Γ S a l
    | none => false
  | .dct t ks a, e => match asDict e with
    | some (ks', vs) => keysOk ks' ks && chkA Γ S a vs && decide (ks.length ≤ 15) && decide (vs.length = ks.length) && ks.all (keyOk false) && (!t || ks.isEmpty)
    | none => false
  | .lstR t a, e => match bi1 Γ S (if t then "tuple" else "list") e with
    | some r => (match bi1 Γ S "range" r with
      | some x => vE a && plainArg x && plainArg r && chk Γ S a x
      | none => false)
    | none => false
  | .zip a b, e => match bi2 Γ S "zip" e with
    | some (x, y) => vE a && vE b && plainArg x && plainArg y && chk Γ S a x && chk Γ S b y
    | none => false
  | .comp tg it cond elt, e => match asComp e with
    | some (x, t, iter, ifs, sc) => zipOk it t && noSet iter && chk Γ S it iter && vE cond && vE elt && tstM cond &&
        (match tg with
          | .nm i => (match asName t with
            | some y => blkC S.N S.sc sc [(y, i)] &&
                chkTg ⟨S.N, relS sc S.sc, fun x => sc.names.lookup x == some .cell⟩ tg t && chk Γ ⟨S.N, relS sc S.sc, fun x => sc.names.lookup x == some .cell⟩ elt x &&
                (match ifs with
                  | [] => isTrueC cond
                  | [c] => chk Γ ⟨S.N, relS sc S.sc, fun x => sc.names.lookup x == some .cell⟩ cond c
                  | _ => false)
            | none => false)
          | .tp is => (match asTup t with
            | some ys => blkC S.N S.sc sc ((ys.filterMap asName).zip is) && decide (ys.length = is.length) &&
                chkTg ⟨S.N, relS sc S.sc, fun x => sc.names.lookup x == some .cell⟩ tg t && chk Γ ⟨S.N, relS sc S.sc, fun x => sc.names.lookup x == some .cell⟩ elt x &&
                (match ifs with
                  | [] => isTrueC cond
                  | [c] => chk Γ ⟨S.N, relS sc S.sc, fun x => sc.names.lookup x == some .cell⟩ cond c
                  | _ => false)
            | none => false))
    | none => false
  | .tmp a, e => vE a && chk Γ S a e
def chkA (Γ : Gam) (S : SS) : ME → List Expr → Bool
  | .nil, [] => true
  | .cons a b, e :: es => vE a && plainArg e && chk Γ S a e && chkA Γ S b es
  | _, _ => false
end
end Mi
end

section
set_option Elab.async false
set_option linter.all false
set_option maxRecDepth 100000
set_option autoImplicit false
set_option maxHeartbeats 1000000
/-! Sound6: the operations' places in the text. -/
namespace Mi
open PySem PySem.Spec L2
open PyProof.Rows hiding St
section
variable {Γ : Gam} {es : List EC} {C : CallF} {lv : Nat} {S : SS} {X : Cx} {W : WX} {ma mb mc : Loc → Sto → Out Val}
theorem bi1_ok {f : Str} {e x : Expr} (h : bi1 Γ S f e = some x) : ∃ p q, e = .Call (.Name f p) [x] [] q ∧ glB S.sc f = true ∧ f ∈ Γ.abs ∧ plainName f = true := by
  unfold bi1 at h
  split at h
  · rename_i g y e1
    split at h
    · rename_i hc
      cases h
      simp only [Bool.and_eq_true, decide_eq_true_eq] at hc
      obtain ⟨⟨⟨rfl, h1⟩, h2⟩, h3⟩ := hc
      obtain ⟨p, q, rfl⟩ := asCall_ok e1
      exact ⟨p, q, rfl, h1, h2, h3⟩
    · cases h
  · cases h
theorem bi2_ok {f : Str} {e x y : Expr} (h : bi2 Γ S f e = some (x, y)) : ∃ p q, e = .Call (.Name f p) [x, y] [] q ∧ glB S.sc f = true ∧ f ∈ Γ.abs ∧ plainName f = true := by
  unfold bi2 at h
  split at h
  · rename_i g y z e1
    split at h
    · rename_i hc
      cases h
      simp only [Bool.and_eq_true, decide_eq_true_eq] at hc
      obtain ⟨⟨⟨rfl, h1⟩, h2⟩, h3⟩ := hc
      obtain ⟨p, q, rfl⟩ := asCall_ok e1
      exact ⟨p, q, rfl, h1, h2, h3⟩
    · cases h
  · cases h
theorem bi3_ok {f : Str} {e : Expr} {l : List Expr} (h : bi3 Γ S f e = some l) : ∃ x y z p q, l = [x, y, z] ∧ e = .Call (.Name f p) [x, y, z] [] q ∧ glB S.sc f = true ∧ f ∈ Γ.abs ∧ plainName f = true := by
  unfold bi3 at h
  split at h
  · rename_i g x y z hc
    obtain ⟨p, q, rfl⟩ := asCall_ok hc
    split at h
    · rename_i hb
      simp only [Bool.and_eq_true, decide_eq_true_eq] at hb
      obtain ⟨⟨⟨h1, h2⟩, h3⟩, h4⟩ := hb
      subst h1
      cases h
      exact ⟨x, y, z, p, q, rfl, rfl, h2, h3, h4⟩
    · cases h
  · cases h
theorem me1_ok {m : Str} {e o x : Expr} (h : me1 m e = some (o, x)) : ∃ p q, e = .Call (.Attribute o m p) [x] [] q ∧ (p.endLine == q.line) = true ∧ baseOk o = true := by
  unfold me1 at h
  split at h
  · rename_i o' n y e1
    split at h
    · rename_i hc
      cases h
      simp only [Bool.and_eq_true, decide_eq_true_eq] at hc
      obtain ⟨rfl, h1⟩ := hc
      obtain ⟨p, q, rfl, hl⟩ := asMeth_ok e1
      exact ⟨p, q, rfl, hl, h1⟩
    · cases h
  · cases h
theorem me2_ok {m : Str} {e o x y : Expr} (h : me2 m e = some (o, x, y)) : ∃ p q, e = .Call (.Attribute o m p) [x, y] [] q ∧ (p.endLine == q.line) = true ∧ baseOk o = true := by
  unfold me2 at h
  split at h
  · rename_i o' n y' z' e1
    split at h
    · rename_i hc
      cases h
      simp only [Bool.and_eq_true, decide_eq_true_eq] at hc
      obtain ⟨rfl, h1⟩ := hc
      obtain ⟨p, q, rfl, hl⟩ := asMeth_ok e1
      exact ⟨p, q, rfl, hl, h1⟩
    · cases h
  · cases h
theorem me0_ok {m : Str} {e o : Expr} (h : me0 m e = some o) : ∃ p q, e = .Call (.Attribute o m p) [] [] q ∧ (p.endLine == q.line) = true ∧ baseOk o = true := by
  unfold me0 at h
  split at h
  · rename_i o' n e1
    split at h
    · rename_i hc
      cases h
      simp only [Bool.and_eq_true, decide_eq_true_eq] at hc
      obtain ⟨rfl, h1⟩ := hc
      obtain ⟨p, q, rfl, hl⟩ := asMeth_ok e1
      exact ⟨p, q, rfl, hl, h1⟩
    · cases h
  · cases h
/-- the terms' ends -/
def e1 (o : O1) (ma : Loc → Sto → Out Val) : Loc → Sto → Out Val := fun ρ μ => (ma ρ μ).bind fun x μ1 => sem1 o x μ1
def e2 (o : O2) (ma mb : Loc → Sto → Out Val) : Loc → Sto → Out Val := fun ρ μ => (ma ρ μ).bind fun x μ1 => if pre2 o x μ1 then (mb ρ μ1).bind fun y μ2 => sem2 o x y μ2 else .fail
def e3 (o : O3) (ma mb mc : Loc → Sto → Out Val) : Loc → Sto → Out Val := fun ρ μ => (ma ρ μ).bind fun x μ1 => if pre2' o x μ1 then (mb ρ μ1).bind fun y μ2 => if pre3 o y then (mc ρ μ2).bind fun z μ3 => sem3 o x y z μ3 else .fail else .fail
theorem t1 {K : PySem.W.Frag} {o : O1} {σ : St} {H : Hp} {Q : VK} (h : tM K es W (e1 o ma) σ H Q) : tM K es W ma σ H fun x H1 => r1 K es (sem1 o) x H1 Q := by
  obtain ⟨f, ρ, μ, S, L, h⟩ := h
  exact bindP S L h fun v μ1 f1 H1 x l1 S1 L1 rv h1 => ⟨f1, μ1, v, W, σ, S1, rv, h1⟩
theorem t2 {K : PySem.W.Frag} {o : O2} {σ : St} {H : Hp} {Q : VK} (h : tM K es W (e2 o ma mb) σ H Q) : tM K es W ma σ H fun x H1 => (∃ f1 μ1 v, SR K f1 μ1 H1 ∧ VR K f1 H1 v x ∧ pre2 o v μ1 = true) ∧ tM K es W mb σ H1 fun y H2 => r2 K es (sem2 o) x y H2 Q := by
  obtain ⟨f, ρ, μ, S, L, h⟩ := h
  refine bindP S L h fun v μ1 f1 H1 x l1 S1 L1 rv h1 => ?_
  obtain ⟨hc, h1⟩ := Post.ite h1
  exact ⟨⟨f1, μ1, v, S1, rv, hc⟩, bindP S1 L1 h1 fun w μ2 f2 H2 y l2 S2 L2 rw' h2 => ⟨f2, μ2, v, w, W, σ, S2, VR.mono l2 _ _ rv, rw', h2⟩⟩
theorem tOp2 {K : PySem.W.Frag} {o : O2} {σ : St} {H : Hp} {Q : VK} (h : tM K es W (e2 o ma mb) σ H Q) : tOp (r2 K es (sem2 o)) (tM K es W ma) (tM K es W mb) σ H Q := by
  obtain ⟨f, ρ, μ, S, L, h⟩ := h
  refine bindP S L h fun v μ1 f1 H1 x l1 S1 L1 rv h1 => ?_
  obtain ⟨hc, h1⟩ := Post.ite h1
  exact bindP S1 L1 h1 fun w μ2 f2 H2 y l2 S2 L2 rw' h2 => ⟨f2, μ2, v, w, W, σ, S2, VR.mono l2 _ _ rv, rw', h2⟩
theorem pt_default {e : Expr} {m : Loc → Sto → Out Val} (he : PE X e (tM X.K es W m)) (h : byVal e = true) : PT X e (tTM X.K es W m) := PT.weak (pt_val he fun whole => byVal_ok h whole) fun _ _ _ q => tTM_val q
theorem cmp_PE {o : O2} {op : CmpOp} {a b : Expr} {p : Pos} (ho : OpR X (compareOp op) (r2 X.K es (sem2 o))) (ha : PE X a (tM X.K es W ma)) (hb : PE X b (tM X.K es W mb)) (hm : behindInMarks op b = false) : PE X (.Compare a [op] [b] p) (tM X.K es W (e2 o ma mb)) :=
  PE.weak (pe_cmpR ho ha hb hm) fun _ _ _ q => tOp2 q
theorem cmp_PT {o : O2} {op : CmpOp} {a b : Expr} {p : Pos} (ho : OpR X (compareOp op) (r2 X.K es (sem2 o))) (ha : PE X a (tM X.K es W ma)) (hb : PE X b (tM X.K es W mb)) (hm : behindInMarks op b = false) : PT X (.Compare a [op] [b] p) (tTM X.K es W (e2 o ma mb)) :=
  PT.weak (pt_cmpR ho ha hb hm) fun _ _ _ q => tOp2 (tTM_val q)
theorem cmp_op (HX : XOk Γ es C lv S X) {o : O2} {op : CmpOp} (h : cmpOp o = some op) : OpR X (compareOp op) (r2 X.K es (sem2 o)) := by
  cases o <;> first
    | (cases h; exact op2_eq HX.units)
    | (cases h; exact op2_ne HX.units)
    | (cases h; exact op2_lt HX.room.units0)
    | (cases h; exact op2_le)
    | (cases h; exact op2_gt)
    | (cases h; exact op2_ge)
    | (cases h; exact op2_in (by have := HX.units; omega))
    | (cases h; exact op2_nin (by have := HX.units; omega))
    | cases h
theorem bin_op {o : O2} {op : Operator} (h : binOp o = some op) : OpR X (binaryOp op) (r2 X.K es (sem2 o)) := by
  cases o <;> first
    | (cases h; exact op2_add)
    | (cases h; exact op2_sub)
    | (cases h; exact op2_mul)
    | (cases h; exact op2_fdiv)
    | (cases h; exact op2_mod)
    | (cases h; exact op2_pow)
    | (cases h; exact op2_shl)
    | cases h
theorem isN_op {neg : Bool} {x : V} {H : Hp} {Q : VK} {K : PySem.W.Frag} {W : WX} {σ : St} {f : List Addr} {μ : Sto} {v : Val} (S : SR K f μ H) (rv : VR K f H v x) (h : Post K es W σ f H (sem1 (if neg then .notN else .isN) v μ) Q) :
    Q (.bl (if neg then !decide (x = .non) else decide (x = .non))) H := by
  have e : decide (v = Val.non) = decide (x = V.non) := by
    cases v with
    | non => rw [show x = _ from rv]; rfl
    | bl _ => rw [show x = _ from rv]; rfl
    | int _ => rw [show x = _ from rv]; rfl
    | str _ => rw [show x = _ from rv]; rfl
    | tup _ => obtain ⟨a, xs, rfl, _⟩ := rv; rfl
    | ref _ => obtain ⟨a, _, rfl⟩ := rv; rfl
    | scr _ => obtain ⟨a, rfl, _⟩ := rv; rfl
    | zp _ _ _ _ => exact rv.elim
  cases neg with
  | true =>
    have h' : Post K es W σ f H (.ok (.bl (!decide (v = .non))) μ) Q := h
    rw [e] at h'
    exact h'.done S rfl
  | false =>
    have h' : Post K es W σ f H (.ok (.bl (decide (v = .non))) μ) Q := h
    rw [e] at h'
    exact h'.done S rfl
theorem isN_OpR (neg : Bool) : OpR X (compareOp (if neg then .IsNot else .Is)) (fun x y H Q => y = .non ∧ r1 X.K es (sem1 (if neg then .notN else .isN)) x H Q) := by
  cases neg with
  | true => exact OpR.weak op_notN fun x y H Q ⟨e, f, μ, v, W, σ, S, rv, h⟩ => ⟨e, isN_op (neg := true) S rv h⟩
  | false => exact OpR.weak op_isN fun x y H Q ⟨e, f, μ, v, W, σ, S, rv, h⟩ => ⟨e, isN_op (neg := false) S rv h⟩
theorem tOpN {K : PySem.W.Frag} {o : O1} {σ : St} {H : Hp} {Q : VK} (h : tM K es W (e1 o ma) σ H Q) : tOp (fun x y H Q => y = .non ∧ r1 K es (sem1 o) x H Q) (tM K es W ma) (tC .non) σ H Q := by
  obtain ⟨f, ρ, μ, S, L, h⟩ := h
  exact bindP S L h fun v μ1 f1 H1 x l1 S1 L1 rv h1 => ⟨rfl, f1, μ1, v, W, σ, S1, rv, h1⟩
theorem isN_all (neg : Bool) {a : Expr} {j : Nat} {p p' : Pos} (ha : PE X a (tM X.K es W ma)) :
    PE X (.Compare a [if neg then .IsNot else .Is] [.Constant .none j p'] p) (tM X.K es W (e1 (if neg then .notN else .isN) ma)) ∧ PT X (.Compare a [if neg then .IsNot else .Is] [.Constant .none j p'] p) (tTM X.K es W (e1 (if neg then .notN else .isN) ma)) := by
  have hm : behindInMarks (if neg then CmpOp.IsNot else CmpOp.Is) (.Constant .none j p') = false := marks_no rfl
  exact ⟨PE.weak (pe_cmpR (isN_OpR neg) ha pe_non hm) fun _ _ _ q => tOpN q, PT.weak (pt_cmpR (isN_OpR neg) ha pe_non hm) fun _ _ _ q => tOpN (tTM_val q)⟩

/-! calls of built-ins -/
theorem pa_1 {x : Expr} {tx : TE} (hp : plainArg x = true) (ha : PE X x tx) : PA X [x] (tCons tx tNil) := pa_cons ha pa_nil (star_cons hp _ _)
theorem pa_2 {x y : Expr} {tx ty : TE} (hp : plainArg x = true) (hq : plainArg y = true) (ha : PE X x tx) (hb : PE X y ty) : PA X [x, y] (tCons tx (tCons ty tNil)) := pa_cons ha (pa_1 hq hb) (star_cons hp _ _)
theorem call_B1 (HX : XOk Γ es C lv S X) {f : Str} {id : String} {o : O1} {x : Expr} {p q : Pos} (hf : glB S.sc f = true ∧ f ∈ Γ.abs ∧ plainName f = true) (hb : bootBuiltins f = some (.builtin id)) (hc : CallR X (.builtin id) (c1 X.K es (sem1 o))) (hp : plainArg x = true) (ha : PE X x (tM X.K es W ma)) :
    PE X (.Call (.Name f p) [x] [] q) (tM X.K es W (e1 o ma)) := by
  obtain ⟨h1, h2, h3⟩ := hf
  obtain ⟨n1, n2, n3⟩ := plainName_ok h3
  exact PE.weak (pe_callB hc (HX.gl h1) (HX.abs f h2) hb (pa_1 hp ha) n3 n1 (star_cons hp _ _) rfl) fun σ H Q h => by
    obtain ⟨f, ρ, μ, S, L, h⟩ := h
    exact bindP S L h fun v μ1 f1 H1 x l1 S1 L1 rv h1 => ⟨x, rfl, f1, μ1, v, W, σ, S1, rv, h1⟩
theorem call_T1 (HX : XOk Γ es C lv S X) {f : Str} {id : String} {o : O1} {x : Expr} {p q : Pos} (hf : glB S.sc f = true ∧ f ∈ Γ.abs ∧ plainName f = true) (hb : bootBuiltins f = some (.type id)) (hc : CallR X (.type id) (c1 X.K es (sem1 o))) (hp : plainArg x = true) (ha : PE X x (tM X.K es W ma)) :
    PE X (.Call (.Name f p) [x] [] q) (tM X.K es W (e1 o ma)) := by
  obtain ⟨h1, h2, h3⟩ := hf
  obtain ⟨n1, n2, n3⟩ := plainName_ok h3
  exact PE.weak (pe_callTy hc (HX.gl h1) (HX.abs f h2) hb (pa_1 hp ha) n3 n1 (star_cons hp _ _) rfl) fun σ H Q h => by
    obtain ⟨f, ρ, μ, S, L, h⟩ := h
    exact bindP S L h fun v μ1 f1 H1 x l1 S1 L1 rv h1 => ⟨x, rfl, f1, μ1, v, W, σ, S1, rv, h1⟩
theorem call_B2 (HX : XOk Γ es C lv S X) {f : Str} {id : String} {o : O2} {x y : Expr} {p q : Pos} (hf : glB S.sc f = true ∧ f ∈ Γ.abs ∧ plainName f = true) (hb : bootBuiltins f = some (.builtin id)) (hc : CallR X (.builtin id) (c2 X.K es (sem2 o)))
    (hp : plainArg x = true) (hq : plainArg y = true) (ha : PE X x (tM X.K es W ma)) (hb' : PE X y (tM X.K es W mb)) :
    PE X (.Call (.Name f p) [x, y] [] q) (tM X.K es W (e2 o ma mb)) := by
  obtain ⟨h1, h2, h3⟩ := hf
  obtain ⟨n1, n2, n3⟩ := plainName_ok h3
  exact PE.weak (pe_callB hc (HX.gl h1) (HX.abs f h2) hb (pa_2 hp hq ha hb') n3 n1 (star_cons hp _ _) (star_any (by simp [hq]))) fun σ H Q h => by
    obtain ⟨f, ρ, μ, S, L, h⟩ := h
    refine bindP S L h fun v μ1 f1 H1 x l1 S1 L1 rv h1 => ?_
    obtain ⟨hc, h1⟩ := Post.ite h1
    exact bindP S1 L1 h1 fun w μ2 f2 H2 y l2 S2 L2 rw' h2 => ⟨x, y, rfl, f2, μ2, v, w, W, σ, S2, VR.mono l2 _ _ rv, rw', h2⟩
/-! methods of lists -/
theorem pre_tyV {K : PySem.W.Frag} {f : List Addr} {H : Hp} {μ : Sto} {v : Val} {x : V} (S : SR K f μ H) (rv : VR K f H v x) {n : Nat} {vs : List Val} (e : v = .ref n) (h : μ[n]? = some (.lst vs)) : tyV K "list" x H := by
  subst e
  obtain ⟨a, xs, rfl, _, hq, _⟩ := S.lst rv h
  exact .inl ⟨rfl, xs, SqL.of hq⟩
theorem pre2_lst {o : O2} {v : Val} {μ : Sto} (h : pre2 o v μ = true) (ho : o = .append ∨ o = .extend ∨ o = .popAt ∨ o = .index) : ∃ n vs, v = .ref n ∧ μ[n]? = some (.lst vs) := by
  cases v with
  | ref n =>
    cases e : μ[n]? with
    | none => rcases ho with rfl | rfl | rfl | rfl <;> (simp only [pre2, e] at h; cases h)
    | some c =>
      cases c with
      | lst vs => exact ⟨n, vs, rfl, e⟩
      | _ => rcases ho with rfl | rfl | rfl | rfl <;> (simp only [pre2, e] at h; cases h)
  | _ => rcases ho with rfl | rfl | rfl | rfl <;> cases h
theorem meth_1 {m : Str} {id : String} {o : O2} {a x : Expr} {p q : Pos} (slot : Slot "list" m id) (hty : typeOf (.builtin id) = pure (.type "method_descriptor")) (hm : MtR X id (m1 X.K es (sem2 o))) (ho : o = .append ∨ o = .extend ∨ o = .popAt ∨ o = .index)
    (hb : baseOk a = true) (hl : (p.endLine == q.line) = true) (hp : plainArg x = true) (ha : PE X a (tM X.K es W ma)) (hx : PE X x (tM X.K es W mb)) : PE X (.Call (.Attribute a m p) [x] [] q) (tM X.K es W (e2 o ma mb)) := by
  refine PE.weak (pe_bm PySem.F.plainAttrs_list slot hty hm ha (pa_1 hp hx) (base_ok hb) ?_ hl (star_cons hp _ _) rfl) fun σ H Q h => ?_
  · rw [star_cons hp]; rfl
  · obtain ⟨f, ρ, μ, S, L, h⟩ := h
    refine bindP S L h fun v μ1 f1 H1 x l1 S1 L1 rv h1 => ?_
    obtain ⟨hc, h1⟩ := Post.ite h1
    obtain ⟨n, vs, e1, e2⟩ := pre2_lst hc ho
    exact ⟨pre_tyV S1 rv e1 e2, bindP S1 L1 h1 fun w μ2 f2 H2 y l2 S2 L2 rw' h2 => ⟨y, rfl, f2, μ2, v, w, W, σ, S2, VR.mono l2 _ _ rv, rw', h2⟩⟩
theorem meth_pop {a : Expr} {p q : Pos} (hb : baseOk a = true) (hl : (p.endLine == q.line) = true) (ha : PE X a (tM X.K es W ma)) : PE X (.Call (.Attribute a "pop" p) [] [] q) (tM X.K es W (e1 .pop ma)) := by
  refine PE.weak (pe_bm0 PySem.F.plainAttrs_list PySem.F.slot_list_pop PySem.F.type_list_pop (m_pop (es := es)) ha (base_ok hb) hl) fun σ H Q h => ?_
  obtain ⟨f, ρ, μ, S, L, h⟩ := h
  refine bindP S L h fun v μ1 f1 H1 x l1 S1 L1 rv h1 => ?_
  obtain ⟨n, vs, rfl, e2, _⟩ := lst_get (k := fun n vs => match vs.getLast? with
        | some v => .ok v (μ1.set n (.lst vs.dropLast))
        | none => .fail) h1
  exact ⟨pre_tyV S1 rv rfl e2, rfl, f1, μ1, _, W, σ, S1, rv, h1⟩
/-! methods of dicts -/
def tDM (K : PySem.W.Frag) (r : V → List V → Hp → VK → Prop) (to : TE) (t : TA) : TE := fun σ H Q => to σ H fun x H1 => (∃ f μ n b kvs, SR K f μ H1 ∧ VR K f H1 (.ref n) x ∧ μ[n]? = some (.dict b kvs)) ∧ t σ H1 fun xs H2 => r x xs H2 Q
theorem pe_dm {name : Str} {id : String} {r : V → List V → Hp → VK → Prop} {o e : Expr} {l : List Expr} {to : TE} {t : TA} {apos cpos : Pos} (slot : Slot "dict" name id) (hty : typeOf (.builtin id) = pure (.type "method_descriptor")) (hm : MtR X id r) (ho : PE X o to) (ha : PA X (e :: l) t)
    (hbase : attributeBase o name X.env (eval o X.env) = eval o X.env)
    (hfew : ((backTo cpos (starEach (e :: l) X.env)).all (fun x => !x.1) && (backToKw cpos (keywordEach [] X.env)).all (fun x => x.1.isSome)
      && decide ((e :: l).length + ([] : List Keyword).length + (if ([] : List Keyword).isEmpty then 0 else 1) < 30)) = true)
    (hline : (apos.endLine == cpos.line) = true) (hs : starEach (e :: l) X.env = (false, eval e X.env) :: starEach l X.env) (hplain : (backTo cpos (starEach l X.env)).any (·.1) = false) :
    PE X (.Call (.Attribute o name apos) (e :: l) [] cpos) (tDM X.K r to t) := by
  refine ⟨fun pins s σ H Q I h => ?_⟩
  refine wpAny_Call_method_late hbase hfew hline rfl (thn (ho.run pins s σ H _ I h) fun v s1 ⟨x, H1, I1, r1, ty, q1⟩ => ?_)
  obtain ⟨f, μ, n, b, kvs, S, rv, hn⟩ := ty
  obtain ⟨a, rfl, _, hd⟩ := S.dct rv hn
  obtain rfl : v = Value.ref a := r1
  obtain ⟨h1, h2⟩ := d_type I1 hd
  refine ⟨"dict", id, PySem.F.plainAttrs_dict, slot, hty, h1, h2, ?_⟩
  have hA := ha.run cpos pins s1 σ H1 _ I1 q1
  rw [hs] at hA ⊢
  refine Calls.callWith_builtin (by show (false || (backTo cpos (starEach l X.env)).any (·.1)) = false; rw [hplain] <;> rfl) (Calls.evalArgs_plain ?_)
  exact thn hA fun us s2 ⟨vs, H2, I2, r2, q2⟩ => hm pins s2 σ H2 (.ref a) vs (.ref a) us Q I2 rfl r2 q2
theorem isSome_dict {μ : Sto} {v : Val} (h : (dictAt μ v).isSome = true) : ∃ n t kvs, v = .ref n ∧ μ[n]? = some (.dict t kvs) := by
  cases e : dictAt μ v with
  | none => rw [e] at h; cases h
  | some p =>
    obtain ⟨n, h1, h2⟩ := dictAt_get (t := p.1) (kvs := p.2) e
    exact ⟨n, p.1, p.2, h1, h2⟩
theorem dmeth_get1 {a x : Expr} {p q : Pos} (hu : X.A.units + 16 < cLine) (hb : baseOk a = true) (hl : (p.endLine == q.line) = true) (hp : plainArg x = true) (ha : PE X a (tM X.K es W ma)) (hx : PE X x (tM X.K es W mb)) : PE X (.Call (.Attribute a "get" p) [x] [] q) (tM X.K es W (e2 .get1 ma mb)) := by
  refine PE.weak (pe_dm PySem.F.slot_dict_get PySem.F.type_dict_get (m_get1 hu) ha (pa_1 hp hx) (base_ok hb) ?_ hl (star_cons hp _ _) rfl) fun σ H Q h => ?_
  · rw [star_cons hp]; rfl
  · obtain ⟨f, ρ, μ, S, L, h⟩ := h
    refine bindP S L h fun v μ1 f1 H1 x l1 S1 L1 rv h1 => ?_
    obtain ⟨hc, h1⟩ := Post.ite h1
    obtain ⟨n, t, kvs, rfl, hn⟩ := isSome_dict hc
    refine ⟨⟨f1, μ1, n, t, kvs, S1, rv, hn⟩, bindP S1 L1 h1 fun w μ2 f2 H2 y l2 S2 L2 rw' h2 => ⟨y, rfl, ?_⟩⟩
    have h2' : Post X.K es W σ f2 H2 (match dictAt μ2 (.ref n) with
      | some (t, kvs) => if keyOk t w then .ok ((dget kvs w).getD .non) μ2 else .fail
      | none => .fail) Q := h2
    cases e : dictAt μ2 (.ref n) with
    | none => simp only [e] at h2'; exact h2'.elim
    | some p2 =>
      simp only [e] at h2'
      obtain ⟨n', e1, hn'⟩ := dictAt_get (t := p2.1) (kvs := p2.2) e
      cases e1
      obtain ⟨hk, h2'⟩ := Post.ite_ok h2'
      refine ⟨f2, μ2, n, p2.1, p2.2, w, S2, VR.mono l2 _ _ rv, hn', hk, rw', fun u hu z rz => ?_, fun hu => ?_⟩
      · rw [hu] at h2'; exact h2'.done S2 rz
      · rw [hu] at h2'; exact h2'.done S2 rfl
theorem dmeth_get2 {a x y : Expr} {p q : Pos} (hu : X.A.units + 16 < cLine) (hb : baseOk a = true) (hl : (p.endLine == q.line) = true) (hp : plainArg x = true) (hp2 : plainArg y = true) (ha : PE X a (tM X.K es W ma)) (hx : PE X x (tM X.K es W mb)) (hy : PE X y (tM X.K es W mc)) : PE X (.Call (.Attribute a "get" p) [x, y] [] q) (tM X.K es W (e3 .get2 ma mb mc)) := by
  refine PE.weak (pe_dm PySem.F.slot_dict_get PySem.F.type_dict_get (m_get2 hu) ha (pa_2 hp hp2 hx hy) (base_ok hb) ?_ hl (star_cons hp _ _) (star_any (by simp [hp2]))) fun σ H Q h => ?_
  · rw [star_cons hp, star_cons hp2]; rfl
  · obtain ⟨f, ρ, μ, S, L, h⟩ := h
    refine bindP S L h fun v μ1 f1 H1 x l1 S1 L1 rv h1 => ?_
    obtain ⟨hc, h1⟩ := Post.ite h1
    obtain ⟨n, t, kvs, rfl, hn⟩ := isSome_dict hc
    refine ⟨⟨f1, μ1, n, t, kvs, S1, rv, hn⟩, bindP S1 L1 h1 fun w μ2 f2 H2 y l2 S2 L2 rw' h2 => ?_⟩
    obtain ⟨_, h2⟩ := Post.ite h2
    refine bindP S2 L2 h2 fun u μ3 f3 H3 z l3 S3 L3 ru h3 => ⟨y, z, rfl, ?_⟩
    have h3' : Post X.K es W σ f3 H3 (match dictAt μ3 (.ref n) with
      | some (t, kvs) => if keyOk t w then .ok ((dget kvs w).getD u) μ3 else .fail
      | none => .fail) Q := h3
    cases e : dictAt μ3 (.ref n) with
    | none => simp only [e] at h3'; exact h3'.elim
    | some p2 =>
      simp only [e] at h3'
      obtain ⟨n', e1, hn'⟩ := dictAt_get (t := p2.1) (kvs := p2.2) e
      cases e1
      obtain ⟨hk, h3'⟩ := Post.ite_ok h3'
      refine ⟨f3, μ3, n, p2.1, p2.2, w, S3, VR.mono (l2.trans l3) _ _ rv, hn', hk, VR.mono l3 _ _ rw', fun i hi z2 rz => ?_, fun hi => ?_⟩
      · rw [hi] at h3'; exact h3'.done S3 rz
      · rw [hi] at h3'; exact h3'.done S3 ru
theorem dmeth_setd {a x y : Expr} {p q : Pos} (hu : X.A.units + 16 < cLine) (hb : baseOk a = true) (hl : (p.endLine == q.line) = true) (hp : plainArg x = true) (hp2 : plainArg y = true) (ha : PE X a (tM X.K es W ma)) (hx : PE X x (tM X.K es W mb)) (hy : PE X y (tM X.K es W mc)) : PE X (.Call (.Attribute a "setdefault" p) [x, y] [] q) (tM X.K es W (e3 .setd ma mb mc)) := by
  refine PE.weak (pe_dm PySem.F.slot_dict_setdefault PySem.F.type_dict_setdefault (m_setd hu) ha (pa_2 hp hp2 hx hy) (base_ok hb) ?_ hl (star_cons hp _ _) (star_any (by simp [hp2]))) fun σ H Q h => ?_
  · rw [star_cons hp, star_cons hp2]; rfl
  · obtain ⟨f, ρ, μ, S, L, h⟩ := h
    refine bindP S L h fun v μ1 f1 H1 x l1 S1 L1 rv h1 => ?_
    obtain ⟨hc, h1⟩ := Post.ite h1
    obtain ⟨n, t, kvs, rfl, hn⟩ := isSome_dict hc
    refine ⟨⟨f1, μ1, n, t, kvs, S1, rv, hn⟩, bindP S1 L1 h1 fun w μ2 f2 H2 y l2 S2 L2 rw' h2 => ?_⟩
    obtain ⟨_, h2⟩ := Post.ite h2
    refine bindP S2 L2 h2 fun u μ3 f3 H3 z l3 S3 L3 ru h3 => ⟨y, z, rfl, ?_⟩
    have h3' : Post X.K es W σ f3 H3 (match μ3[n]? with
      | some (.dict t kvs) => if keyOk t w ∧ kvs.length < LIM then (match dget kvs w with
        | some v => .ok v μ3
        | none => .ok u (μ3.set n (.dict t (dput kvs w u)))) else .fail
      | _ => .fail) Q := h3
    split at h3'
    · rename_i t' kvs' e
      obtain ⟨⟨hk, hlim⟩, h3'⟩ := Post.ite h3'
      refine ⟨f3, μ3, n, t', kvs', w, u, S3, VR.mono (l2.trans l3) _ _ rv, e, hlim, hk, VR.mono l3 _ _ rw', ru, fun i hi z2 rz => ?_, fun hi H' l' S' => ?_⟩
      · rw [hi] at h3'; exact h3'.done S3 rz
      · rw [hi] at h3'; exact h3' f3 H' _ l' S' (VR.mono l' _ _ ru)
    · exact h3'.elim
/-! slices -/
theorem slc_F (v : Val) (i : Int) (μ : Sto) : sem2 .slF v (.int i) μ = slc v (some i) none μ := by
  cases v <;> rfl
theorem slc_T (v : Val) (i : Int) (μ : Sto) : sem2 .slT v (.int i) μ = slc v none (some i) μ := by
  cases v <;> rfl
theorem VRs.rev {K : PySem.W.Frag} {f : List Addr} {H : Hp} : ∀ {vs : List Val} {xs : List V}, VRs K f H vs xs → VRs K f H vs.reverse xs.reverse
  | [], xs, h => by rw [show xs = [] from h]; exact rfl
  | v :: vs, xs, h => by
    obtain ⟨y, ys, rfl, r, t⟩ := h
    rw [List.reverse_cons, List.reverse_cons]
    exact (VRs.rev t).append ⟨y, [], rfl, r, rfl⟩
theorem rev_not {v w : Val} {μ : Sto} (h : w ≠ .int (-1)) : sem2 .rev v w μ = .fail := by
  unfold sem2
  dsimp only
  split
  · exact absurd rfl h
  · rfl
theorem slice_B {a b : Expr} {p q : Pos} (ha : PE X a (tM X.K es W ma)) (hb : PE X b (tM X.K es W mb)) : PE X (.Subscript a (.Slice none none (some b) p) q) (tM X.K es W (e2 .rev ma mb)) := by
  refine PE.weak (pe_back ha hb) fun σ H Q h => ?_
  obtain ⟨f, ρ, μ, S, L, h⟩ := h
  refine bindP S L h fun v μ1 f1 H1 x l1 S1 L1 rv h1 => ?_
  refine bindP S1 L1 (show Post X.K es W σ f1 H1 ((mb ρ μ1).bind fun y μ2 => sem2 .rev v y μ2) Q from h1) fun w μ2 f2 H2 y l2 S2 L2 rw' h2 => ?_
  have rv2 := VR.mono l2 _ _ rv
  by_cases hw : w = .int (-1)
  · subst hw
    refine ⟨rw', ?_⟩
    cases v with
    | tup vs =>
      obtain ⟨a, xs, rfl, hq, t⟩ := rv2
      have h3 : Post X.K es W σ f2 H2 (.ok (.tup vs.reverse) μ2) Q := h2
      exact ⟨a, xs, rfl, .inr ⟨hq, h3.newT S2 t.rev⟩⟩
    | ref n =>
      have h3 : Post X.K es W σ f2 H2 (match μ2[n]? with
        | some (.lst xs) => newLst xs.reverse μ2
        | _ => .fail) Q := h2
      split at h3
      · rename_i vs e
        obtain ⟨a, xs, rfl, _, hq, t⟩ := S2.lst rv2 e
        exact ⟨a, xs, rfl, .inl ⟨SqL.of hq, h3.newL S2 t.rev⟩⟩
      · exact h3.elim
    | _ => exact h2.elim
  · rw [rev_not hw] at h2
    exact h2.elim
theorem lset_PE (HX : XOk Γ es C lv S X) {x : Expr} {p p2 q pos : Pos} (hf : glB S.sc "len" = true ∧ ("len" : Str) ∈ Γ.abs ∧ plainName "len" = true) (hf2 : glB S.sc "set" = true ∧ ("set" : Str) ∈ Γ.abs ∧ plainName "set" = true) (hp : plainArg x = true) (ha : PE X x (tM X.K es W ma)) :
    PE X (.Call (.Name "len" p) [.Call (.Name "set" p2) [x] [] q] [] pos) (tM X.K es W (e1 .lset ma)) := by
  refine PE.weak (pe_dist HX.calm (HX.gl hf.1) (HX.abs _ hf.2.1) (HX.gl hf2.1) (HX.abs _ hf2.2.1) ha (star_cons hp _ _)) fun σ H Q h => ?_
  obtain ⟨f, ρ, μ, S, L, h⟩ := h
  refine bindP S L h fun v μ1 f1 H1 x l1 S1 L1 rv h1 => ?_
  obtain ⟨vs, a, xs, rfl, hq, t, h2⟩ := seq_get (k := fun vs => match Mi.asInts vs with
      | some ns => if ns.length ≤ 4000 then .ok (.int (dlen ns)) μ1 else .fail
      | none => .fail) S1 rv h1
  cases e3 : Mi.asInts vs with
  | none => rw [e3] at h2; exact h2.elim
  | some ns =>
    rw [e3] at h2
    have e4 := t.ints_of e3
    subst e4
    by_cases hc : ns.length ≤ 4000
    · have h3 : Post X.K es W σ f1 H1 (if ns.length ≤ 4000 then .ok (.int (dlen ns)) μ1 else .fail) Q := h2
      rw [if_pos hc] at h3
      exact ⟨a, ns, rfl, hq, hc, h3.done S1 rfl⟩
    · have h3 : Post X.K es W σ f1 H1 (if ns.length ≤ 4000 then .ok (.int (dlen ns)) μ1 else .fail) Q := h2
      rw [if_neg hc] at h3
      exact h3.elim
theorem slice_F {a lo : Expr} {p q : Pos} (ha : PE X a (tM X.K es W ma)) (hb : PE X lo (tM X.K es W mb)) : PE X (.Subscript a (.Slice (some lo) none none p) q) (tM X.K es W (e2 .slF ma mb)) := by
  refine PE.weak (pe_slice (sl_any (es := es)) ha (po_some hb) po_none) fun σ H Q h => ?_
  obtain ⟨f, ρ, μ, S, L, h⟩ := h
  refine bindP S L h fun v μ1 f1 H1 x l1 S1 L1 rv h1 => ?_
  refine bindP S1 L1 (show Post X.K es W σ f1 H1 ((mb ρ μ1).bind fun y μ2 => sem2 .slF v y μ2) Q from h1) fun w μ2 f2 H2 y l2 S2 L2 rw' h2 => ?_
  cases w with
  | int i => exact ⟨i, rw', f2, μ2, v, W, σ, S2, VR.mono l2 _ _ rv, by rw [← slc_F]; exact h2⟩
  | _ => cases v <;> exact h2.elim
theorem slice_T {a hi : Expr} {p q : Pos} (ha : PE X a (tM X.K es W ma)) (hb : PE X hi (tM X.K es W mb)) : PE X (.Subscript a (.Slice none (some hi) none p) q) (tM X.K es W (e2 .slT ma mb)) := by
  refine PE.weak (pe_slice (sl_any (es := es)) ha po_none (po_some hb)) fun σ H Q h => ?_
  obtain ⟨f, ρ, μ, S, L, h⟩ := h
  refine bindP S L h fun v μ1 f1 H1 x l1 S1 L1 rv h1 => ?_
  refine bindP S1 L1 (show Post X.K es W σ f1 H1 ((mb ρ μ1).bind fun y μ2 => sem2 .slT v y μ2) Q from h1) fun w μ2 f2 H2 y l2 S2 L2 rw' h2 => ?_
  cases w with
  | int i => exact ⟨i, rw', f2, μ2, v, W, σ, S2, VR.mono l2 _ _ rv, by rw [← slc_T]; exact h2⟩
  | _ => cases v <;> exact h2.elim
theorem slice_3 {a lo hi : Expr} {p q : Pos} (ha : PE X a (tM X.K es W ma)) (hb : PE X lo (tM X.K es W mb)) (hc : PE X hi (tM X.K es W mc)) : PE X (.Subscript a (.Slice (some lo) (some hi) none p) q) (tM X.K es W (e3 .slice ma mb mc)) := by
  refine PE.weak (pe_slice (sl_any (es := es)) ha (po_some hb) (po_some hc)) fun σ H Q h => ?_
  obtain ⟨f, ρ, μ, S, L, h⟩ := h
  refine bindP S L h fun v μ1 f1 H1 x l1 S1 L1 rv h1 => ?_
  obtain ⟨_, h1⟩ := Post.ite h1
  refine bindP S1 L1 h1 fun w μ2 f2 H2 y l2 S2 L2 rw' h2 => ?_
  obtain ⟨hc, h2⟩ := Post.ite h2
  cases w with
  | int i =>
    refine ⟨i, rw', ?_⟩
    refine bindP S2 L2 h2 fun u μ3 f3 H3 z l3 S3 L3 ru h3 => ?_
    cases u with
    | int j =>
      refine ⟨j, ru, f3, μ3, v, W, σ, S3, VR.mono (l2.trans l3) _ _ rv, ?_⟩
      cases v <;> first | exact h3 | exact h3.elim
    | _ => cases v <;> exact h3.elim
  | _ => cases hc
end
end Mi
end

section
set_option Elab.async false
set_option linter.all false
set_option maxRecDepth 100000
set_option autoImplicit false
set_option maxHeartbeats 1000000
/-! Sound7: expressions. -/
namespace Mi
open PySem PySem.Spec L2
open PyProof.Rows hiding St
section
variable {Γ : Gam} {es : List EC} {C : CallF} {lv : Nat} {S : SS} {X : Cx} {W : WX} {ma mb mc : Loc → Sto → Out Val}
theorem boot_abs : bootBuiltins "abs" = some (.builtin "abs") := by decide +kernel
theorem ty_boot (t : Ty) : bootBuiltins (Str.ofString (tyN t)) = some (.type (tyN t)) := by cases t <;> decide +kernel
theorem tyName_ok {t : Ty} {e : Expr} (h : tyName Γ S t e = true) : ∃ p, e = .Name (Str.ofString (tyN t)) p ∧ glB S.sc (Str.ofString (tyN t)) = true ∧ Str.ofString (tyN t) ∈ Γ.abs ∧ plainName (Str.ofString (tyN t)) = true := by
  unfold tyName at h
  split at h
  · rename_i x e1
    obtain ⟨p, rfl⟩ := asName_ok e1
    simp only [Bool.and_eq_true, decide_eq_true_eq] at h
    obtain ⟨⟨⟨rfl, h1⟩, h2⟩, h3⟩ := h
    exact ⟨p, rfl, h1, h2, h3⟩
  · cases h
theorem ty_PE (HX : XOk Γ es C lv S X) {t : Ty} {e : Expr} (h : tyName Γ S t e = true) : PE X e (tC (.ty (tyN t))) := by
  obtain ⟨p, rfl, h1, h2, h3⟩ := tyName_ok h
  obtain ⟨n1, n2, n3⟩ := plainName_ok h3
  exact pe_bltn (HX.gl h1) (HX.abs _ h2) (ty_boot t) rfl n3 n1
theorem tys_PA (HX : XOk Γ es C lv S X) : ∀ (ts : List Ty) (l : List Expr), tyNames Γ S ts l = true → PA X l (fun _ H Q => Q (ts.map fun t => V.ty (tyN t)) H)
  | [], [], _ => pa_nil
  | t :: ts, e :: l, h => by
    have h' : (tyName Γ S t e && plainArg e && tyNames Γ S ts l) = true := h
    simp only [Bool.and_eq_true] at h'
    exact pa_cons (ty_PE HX h'.1.1) (tys_PA HX ts l h'.2) (star_cons h'.1.2 _ _)
  | [], _ :: _, h => by cases h
  | _ :: _, [], h => by cases h
theorem isi_PE (HX : XOk Γ es C lv S X) {ts : List Ty} {x y : Expr} {p q : Pos} (hf : glB S.sc "isinstance" = true ∧ Str.ofString "isinstance" ∈ Γ.abs ∧ plainName "isinstance" = true) (ht : tysOf Γ S ts y = true) (hp : plainArg x = true) (hq : plainArg y = true) (ha : PE X x (tM X.K es W ma)) :
    PE X (.Call (.Name "isinstance" p) [x, y] [] q) (tM X.K es W (e1 (.isi ts) ma)) := by
  obtain ⟨h1, h2, h3⟩ := hf
  obtain ⟨n1, n2, n3⟩ := plainName_ok h3
  have one : ∀ t, ts = [t] → tyName Γ S t y = true → PE X (.Call (.Name "isinstance" p) [x, y] [] q) (tM X.K es W (e1 (.isi ts) ma)) := by
    intro t e ht'
    subst e
    exact PE.weak (pe_callB (c_isi (es := es) t) (HX.gl h1) (HX.abs _ h2) PyProof.Rows.boot_isinstance (pa_2 hp hq ha (ty_PE HX ht')) n3 n1 (star_cons hp _ _) (star_any (by simp [hq]))) fun σ H Q h => by
      obtain ⟨f, ρ, μ, S, L, h⟩ := h
      exact bindP S L h fun v μ1 f1 H1 x l1 S1 L1 rv h1 => ⟨x, rfl, f1, μ1, v, W, σ, S1, rv, h1⟩
  have many : ∀ l, asTup y = some l → (tyNames Γ S ts l && decide (ts.length ≤ 9) && !ts.isEmpty) = true → PE X (.Call (.Name "isinstance" p) [x, y] [] q) (tM X.K es W (e1 (.isi ts) ma)) := by
    intro l e ht'
    rw [Bool.and_eq_true, Bool.and_eq_true, decide_eq_true_eq] at ht'
    obtain ⟨ht', hne⟩ := ht'
    obtain ⟨k, p', rfl⟩ := asTup_ok e
    exact PE.weak (pe_callB (c_isiT (es := es) ts (by intro z; subst z; cases hne)) (HX.gl h1) (HX.abs _ h2) PyProof.Rows.boot_isinstance (pa_2 hp hq ha (pe_tup (tys_PA HX ts l ht'.1))) n3 n1 (star_cons hp _ _) (star_any (by simp [hq]))) fun σ H Q h => by
      obtain ⟨f, ρ, μ, S, L, h⟩ := h
      refine bindP S L h fun v μ1 f1 H1 x l1 S1 L1 rv h1 => ⟨?_, fun tp htp => ⟨x, tp, rfl, upd_same, f1, μ1, v, W, σ, S1.beside htp, VR.mono (Le.beside htp) _ _ rv, Post.mono (Le.beside htp) h1⟩⟩
      have : ts.length ≤ 9 := ht'.2
      rw [List.length_map, sizeLine_eq]; omega
  match ts, one, many, ht with
  | [t], one, _, ht => exact one t rfl ht
  | [], _, many, ht =>
    have ht2 : (match asTup y with
      | some es => tyNames Γ S [] es && decide (([] : List Ty).length ≤ 9) && !([] : List Ty).isEmpty
      | none => false) = true := ht
    split at ht2
    · rename_i l e; exact many l e ht2
    · cases ht2
  | t :: t' :: r, _, many, ht =>
    have ht2 : (match asTup y with
      | some es => tyNames Γ S (t :: t' :: r) es && decide ((t :: t' :: r).length ≤ 9) && !(t :: t' :: r).isEmpty
      | none => false) = true := ht
    split at ht2
    · rename_i l e; exact many l e ht2
    · cases ht2
/-- one operand -/
theorem snd1 (HX : XOk Γ es C lv S X) {o : O1} {e x : Expr} (h : sub1 Γ S o e = some x) (hp : plainArg x = true) (ha : PE X x (tM X.K es W ma)) : PE X e (tM X.K es W (e1 o ma)) ∧ (o ≠ .not → PT X e (tTM X.K es W (e1 o ma))) := by
  cases o with
  | neg =>
    unfold sub1 at h
    dsimp only at h
    split at h
    · rename_i y e1'
      cases h
      obtain ⟨p, rfl⟩ := asUn_ok e1'
      have q : PE X (.UnaryOp .USub x p) (tM X.K es W (e1 .neg ma)) := PE.weak (pe_un (un1_neg (es := es)) ha) fun _ _ _ q => t1 q
      exact ⟨q, fun _ => pt_default q rfl⟩
    · cases h
  | not =>
    unfold sub1 at h
    dsimp only at h
    split at h
    · rename_i y e1'
      cases h
      obtain ⟨p, rfl⟩ := asUn_ok e1'
      refine ⟨PE.weak (pe_not ha) fun σ H Q q => ?_, fun z => absurd rfl z⟩
      obtain ⟨f, ρ, μ, S, L, h⟩ := q
      refine bindP S L h fun v μ1 f1 H1 x l1 S1 L1 rv h1 => ?_
      cases v with
      | bl b => exact ⟨b, rv, h1.done S1 rfl⟩
      | _ => exact h1.elim
    · cases h
  | len =>
    obtain ⟨p, q, rfl, hf⟩ := bi1_ok h
    have q := call_B1 (p := p) (q := q) HX hf PySem.boot_len (c1_len (es := es)) hp ha
    exact ⟨q, fun _ => pt_default q rfl⟩
  | abs =>
    obtain ⟨p, q, rfl, hf⟩ := bi1_ok h
    have q := call_B1 (p := p) (q := q) HX hf boot_abs (c1_abs (es := es)) hp ha
    exact ⟨q, fun _ => pt_default q rfl⟩
  | int =>
    obtain ⟨p, q, rfl, hf⟩ := bi1_ok h
    have q := call_T1 (p := p) (q := q) HX hf (ty_boot .int) (c1_int (es := es)) hp ha
    exact ⟨q, fun _ => pt_default q rfl⟩
  | toTup =>
    obtain ⟨p, q, rfl, hf⟩ := bi1_ok h
    have q := call_T1 (p := p) (q := q) HX hf (ty_boot .tuple) (c1_tup (es := es)) hp ha
    exact ⟨q, fun _ => pt_default q rfl⟩
  | toLst =>
    obtain ⟨p, q, rfl, hf⟩ := bi1_ok h
    have q := call_T1 (p := p) (q := q) HX hf (ty_boot .list) (c1_lst (es := es)) hp ha
    exact ⟨q, fun _ => pt_default q rfl⟩
  | sum =>
    obtain ⟨p, q, rfl, hf⟩ := bi1_ok h
    have q := call_B1 (p := p) (q := q) HX hf PyProof.Rows.boot_sum (c1_sum (es := es) HX.calm) hp ha
    exact ⟨q, fun _ => pt_default q rfl⟩
  | isN =>
    unfold sub1 at h
    dsimp only at h
    split at h
    · rename_i y z e1'
      split at h
      · rename_i hn
        cases h
        obtain ⟨p, rfl⟩ := asCmp_ok e1'
        obtain ⟨j, p', rfl⟩ := isNone_ok hn
        obtain ⟨q1, q2⟩ := isN_all (es := es) (j := j) (p := p) (p' := p') false ha
        exact ⟨q1, fun _ => q2⟩
      · cases h
    · cases h
  | notN =>
    unfold sub1 at h
    dsimp only at h
    split at h
    · rename_i y z e1'
      split at h
      · rename_i hn
        cases h
        obtain ⟨p, rfl⟩ := asCmp_ok e1'
        obtain ⟨j, p', rfl⟩ := isNone_ok hn
        obtain ⟨q1, q2⟩ := isN_all (es := es) (j := j) (p := p) (p' := p') true ha
        exact ⟨q1, fun _ => q2⟩
      · cases h
    · cases h
  | isi ts =>
    unfold sub1 at h
    dsimp only at h
    split at h
    · rename_i y z e1'
      split at h
      · rename_i hn
        cases h
        rw [Bool.and_eq_true] at hn
        obtain ⟨p, q, rfl, hf⟩ := bi2_ok e1'
        have q := isi_PE (p := p) (q := q) HX hf hn.1 hp hn.2 ha
        exact ⟨q, fun _ => pt_default q rfl⟩
      · cases h
    · cases h
  | pop =>
    obtain ⟨p, q, rfl, hl, hb⟩ := me0_ok h
    have q := meth_pop hb hl ha
    exact ⟨q, fun _ => pt_default q rfl⟩
  | dict t =>
    obtain ⟨p, q, rfl, hf⟩ := bi1_ok h
    have q := call_T1 (p := p) (q := q) HX hf PyProof.Rows.boot_dict (c1_dict (es := es) HX.calm (by have := HX.units; omega) t) hp ha
    exact ⟨q, fun _ => pt_default q rfl⟩
  | str =>
    obtain ⟨p, q, rfl, hf⟩ := bi1_ok h
    have q := call_T1 (p := p) (q := q) HX hf (ty_boot .str) (c1_str (es := es)) hp ha
    exact ⟨q, fun _ => pt_default q rfl⟩
  | lset =>
    unfold sub1 at h
    dsimp only at h
    split at h
    · rename_i r e1'
      obtain ⟨p, q, rfl, hf⟩ := bi1_ok e1'
      obtain ⟨p2, q2, rfl, hf2⟩ := bi1_ok h
      have q := lset_PE (p := p) (p2 := p2) (q := q2) (pos := q) HX hf hf2 hp ha
      exact ⟨q, fun _ => pt_default q rfl⟩
    · cases h
  | srt =>
    obtain ⟨p, q, rfl, hf⟩ := bi1_ok h
    have q := call_B1 (p := p) (q := q) HX hf PyProof.Rows.boot_sorted (c1_srt (es := es) HX.units) hp ha
    exact ⟨q, fun _ => pt_default q rfl⟩
  | min1 =>
    obtain ⟨p, q, rfl, hf⟩ := bi1_ok h
    have q := call_B1 (p := p) (q := q) HX hf PyProof.Rows.boot_min (c1_min (es := es) HX.calm HX.units) hp ha
    exact ⟨q, fun _ => pt_default q rfl⟩
  | max1 =>
    obtain ⟨p, q, rfl, hf⟩ := bi1_ok h
    have q := call_B1 (p := p) (q := q) HX hf PyProof.Rows.boot_max (c1_max (es := es) HX.calm HX.units) hp ha
    exact ⟨q, fun _ => pt_default q rfl⟩
/-- two operands -/
theorem snd2 (HX : XOk Γ es C lv S X) {o : O2} {e x y : Expr} (h : sub2 Γ S o e = some (x, y)) (hp : plainArg x = true) (hq : plainArg y = true) (ha : PE X x (tM X.K es W ma)) (hb : PE X y (tM X.K es W mb)) : PE X e (tM X.K es W (e2 o ma mb)) ∧ PT X e (tTM X.K es W (e2 o ma mb)) := by
  unfold sub2 at h
  split at h
  · rename_i op ho
    split at h
    · rename_i a op' b e1'
      split at h
      · rename_i hc
        cases h
        obtain ⟨p, rfl⟩ := asBin_ok e1'
        rw [binEq_ok hc]
        have q : PE X (.BinOp x op y p) (tM X.K es W (e2 o ma mb)) := PE.weak (pe_op (bin_op (es := es) ho) ha hb) fun _ _ _ q => tOp2 q
        exact ⟨q, pt_default q rfl⟩
      · cases h
    · cases h
  · split at h
    · rename_i op ho
      split at h
      · rename_i a op' b e1'
        split at h
        · rename_i hc
          cases h
          rw [Bool.and_eq_true] at hc
          obtain ⟨p, rfl⟩ := asCmp_ok e1'
          rw [cmpEq_ok hc.1]
          exact ⟨cmp_PE (cmp_op HX ho) ha hb (marks_no hc.2), cmp_PT (cmp_op HX ho) ha hb (marks_no hc.2)⟩
        · cases h
      · cases h
    · split at h
      · obtain ⟨p, rfl⟩ := asSub_ok h
        have q : PE X (.Subscript x y p) (tM X.K es W (e2 .idx ma mb)) := PE.weak (pe_ix (op2_idx (es := es) (by have := HX.units; omega)) ha hb (plain_ix hq)) fun _ _ _ q => tOp2 q
        exact ⟨q, pt_default q rfl⟩
      · obtain ⟨p, q, rfl, hl, hb'⟩ := me1_ok h
        have q := meth_1 PySem.F.slot_list_append PySem.F.type_list_append (m_append (es := es)) (.inl rfl) hb' hl hq ha hb
        exact ⟨q, pt_default q rfl⟩
      · obtain ⟨p, q, rfl, hl, hb'⟩ := me1_ok h
        have q := meth_1 PySem.F.slot_list_extend PySem.F.type_list_extend (m_extend (es := es)) (.inr (.inl rfl)) hb' hl hq ha hb
        exact ⟨q, pt_default q rfl⟩
      · obtain ⟨p, q, rfl, hl, hb'⟩ := me1_ok h
        have q := meth_1 PySem.F.slot_list_pop PySem.F.type_list_pop (m_popAt (es := es)) (.inr (.inr (.inl rfl))) hb' hl hq ha hb
        exact ⟨q, pt_default q rfl⟩
      · obtain ⟨p, q, rfl, hl, hb'⟩ := me1_ok h
        have q := meth_1 PySem.F.slot_list_index PySem.F.type_list_index (m_index (es := es) (by have := HX.room.un; omega)) (.inr (.inr (.inr rfl))) hb' hl hq ha hb
        exact ⟨q, pt_default q rfl⟩
      · obtain ⟨p, q, rfl, hl, hb'⟩ := me1_ok h
        have q := dmeth_get1 (es := es) (by have := HX.units; omega) hb' hl hq ha hb
        exact ⟨q, pt_default q rfl⟩
      · obtain ⟨p, q, rfl, hf⟩ := bi2_ok h
        have q := call_B2 (p := p) (q := q) HX hf PyProof.Rows.boot_min (c2_min (es := es) HX.calm) hp hq ha hb
        exact ⟨q, pt_default q rfl⟩
      · obtain ⟨p, q, rfl, hf⟩ := bi2_ok h
        have q := call_B2 (p := p) (q := q) HX hf PyProof.Rows.boot_max (c2_max (es := es) HX.calm) hp hq ha hb
        exact ⟨q, pt_default q rfl⟩
      · split at h
        · rename_i a lo e1'
          cases h
          obtain ⟨p, q, rfl⟩ := asSl_ok e1'
          have q := slice_F (p := p) (q := q) ha hb
          exact ⟨q, pt_default q rfl⟩
        · cases h
      · split at h
        · rename_i a hi e1'
          cases h
          obtain ⟨p, q, rfl⟩ := asSl_ok e1'
          have q := slice_T (p := p) (q := q) ha hb
          exact ⟨q, pt_default q rfl⟩
        · cases h
      · obtain ⟨p, q, rfl⟩ := asBk_ok h
        have q := slice_B (p := p) (q := q) ha hb
        exact ⟨q, pt_default q rfl⟩
      · cases h
theorem snd3 (HX : XOk Γ es C lv S X) {o : O3} {e x y z : Expr} (h : sub3 Γ S o e = some (x, y, z)) (hp : (isSl o || (plainArg y && plainArg z)) = true) (ha : PE X x (tM X.K es W ma)) (hb : PE X y (tM X.K es W mb)) (hc : PE X z (tM X.K es W mc)) : PE X e (tM X.K es W (e3 o ma mb mc)) ∧ PT X e (tTM X.K es W (e3 o ma mb mc)) := by
  cases o with
  | slice =>
    unfold sub3 at h
    dsimp only at h
    split at h
    · rename_i a lo hi e1'
      cases h
      obtain ⟨p, q, rfl⟩ := asSl_ok e1'
      have q := slice_3 (p := p) (q := q) ha hb hc
      exact ⟨q, pt_default q rfl⟩
    · cases h
  | get2 =>
    obtain ⟨p, q, rfl, hl, hb'⟩ := me2_ok h
    have hp' : plainArg y = true ∧ plainArg z = true := by simpa [isSl] using hp
    have q := dmeth_get2 (es := es) (by have := HX.units; omega) hb' hl hp'.1 hp'.2 ha hb hc
    exact ⟨q, pt_default q rfl⟩
  | setd =>
    obtain ⟨p, q, rfl, hl, hb'⟩ := me2_ok h
    have hp' : plainArg y = true ∧ plainArg z = true := by simpa [isSl] using hp
    have q := dmeth_setd (es := es) (by have := HX.units; omega) hb' hl hp'.1 hp'.2 ha hb hc
    exact ⟨q, pt_default q rfl⟩

/-! ### targets -/
theorem nm_PG (HX : XOk Γ es C lv S X) {i : Nat} {e : Expr} (h : chkNm S i e = true) : PG X e (gName i) := by
  unfold chkNm at h
  split at h
  · rename_i x e1'
    obtain ⟨p, rfl⟩ := asName_ok e1'
    simp only [Bool.and_eq_true, Bool.or_eq_true, decide_eq_true_eq] at h
    obtain ⟨⟨h1, h2⟩, h3⟩ := h
    refine pg_name (by rw [HX.hN]; exact HX.nd) (by rw [HX.hN]; exact h1) (by rw [HX.hsc]; exact locB_ok h2) ?_
    rcases h3 with h3 | h3
    · exact .inl (by rw [HX.hfn]; exact h3)
    · exact .inr (by rw [HX.hsc]; exact h3)
  · cases h
/-- several names -/
def gNs : List Nat → TGs
  | [] => gNil
  | i :: is => gCons (gName i) (gNs is)
theorem ns_plain : ∀ {is : List Nat} {l : List Expr}, chkNs S is l = true → l.all plainArg = true
  | [], [], _ => rfl
  | i :: is, e :: l, h => by
    have h' : (chkNm S i e && chkNs S is l) = true := h
    rw [Bool.and_eq_true] at h'
    have hp : plainArg e = true := by
      have := h'.1
      unfold chkNm at this
      cases e <;> first | rfl | cases this
    rw [List.all_cons, hp, ns_plain h'.2]; rfl
  | [], _ :: _, h => by cases h
  | _ :: _, [], h => by cases h
theorem each_cons {e : Expr} (h : plainArg e = true) (l : List Expr) (env : Env) : assignEach (e :: l) env = (false, assign e env) :: assignEach l env := by
  cases e <;> first | rfl | cases h
theorem each_len {env : Env} : ∀ {l : List Expr}, l.all plainArg = true → (assignEach l env).length = l.length
  | [], _ => rfl
  | e :: l, h => by
    rw [List.all_cons, Bool.and_eq_true] at h
    rw [each_cons h.1, List.length_cons, List.length_cons, each_len h.2]
theorem each_none {env : Env} : ∀ {l : List Expr}, l.all plainArg = true → (assignEach l env).findIdx? (·.1) = none
  | [], _ => rfl
  | e :: l, h => by
    rw [List.all_cons, Bool.and_eq_true] at h
    rw [each_cons h.1, List.findIdx?_cons]
    simp [each_none h.2]
theorem ns_PGs (HX : XOk Γ es C lv S X) : ∀ {is : List Nat} {l : List Expr}, chkNs S is l = true → PGs X l (gNs is)
  | [], [], _ => pgs_nil
  | i :: is, e :: l, h => by
    have hp := ns_plain h
    have h' : (chkNm S i e && chkNs S is l) = true := h
    rw [Bool.and_eq_true] at h'
    rw [List.all_cons, Bool.and_eq_true] at hp
    exact pgs_cons (nm_PG HX h'.1) (ns_PGs HX h'.2) (by rw [each_cons hp.1]; rfl)
  | [], _ :: _, h => by cases h
  | _ :: _, [], h => by cases h
theorem ns_len : ∀ {is : List Nat} {l : List Expr}, chkNs S is l = true → l.length = is.length
  | [], [], _ => rfl
  | i :: is, e :: l, h => by
    have h' : (chkNm S i e && chkNs S is l) = true := h
    rw [Bool.and_eq_true] at h'
    rw [List.length_cons, List.length_cons, ns_len h'.2]
  | [], _ :: _, h => by cases h
  | _ :: _, [], h => by cases h
/-- a target's reading -/
def gT (K : PySem.W.Frag) : MT → TG
  | .nm i => gName i
  | .tp is => gTup K is.length (gNs is)
theorem tg_PG (HX : XOk Γ es C lv S X) {tg : MT} {e : Expr} (h : chkTg S tg e = true) : PG X e (gT X.K tg) := by
  cases tg with
  | nm i => exact nm_PG HX h
  | tp is =>
    have h' : (match asTup e with
      | some l => chkNs S is l
      | none => false) = true := h
    split at h'
    · rename_i l e1'
      obtain ⟨k, p, rfl⟩ := asTup_ok e1'
      exact pg_tup HX.calm (ns_PGs HX h') (by rw [each_len (ns_plain h'), ns_len h']) (each_none (ns_plain h'))
    · cases h'
theorem gNs_set {K : PySem.W.Frag} {f : List Addr} {H : Hp} {Q : L2.St → Hp → Prop} : ∀ {is : List Nat} {vs : List Val} {xs : List V} {ρ : Loc} {σ : L2.St}, LR K f H ρ σ → VRs K f H vs xs → vs.length = is.length → (∀ σ', LR K f H (setAll is vs ρ) σ' → (∀ w, (∀ i ∈ is, i ∈ w) → wipe σ' w = wipe σ w) → Q σ' H) → gNs is xs σ H Q
  | [], [], _, ρ, σ, L, r, _, h => by rw [show _ = [] from r]; exact ⟨rfl, h σ L (fun _ _ => rfl)⟩
  | i :: is, v :: vs, _, ρ, σ, L, ⟨x, xs, e, rv, t⟩, hl, h => by
    subst e
    refine ⟨x, xs, rfl, ?_⟩
    refine gNs_set (L.set rv) t (by simpa using hl) fun σ' L' hw => h σ' L' fun w hi => ?_
    rw [hw w (fun j hj => hi j (List.mem_cons_of_mem _ hj))]
    exact wipe_set w (hi i (List.mem_cons_self ..))
  | [], _ :: _, _, _, _, _, _, hl, _ => by cases hl
  | _ :: _, [], _, _, _, _, _, hl, _ => by cases hl
where
  wipe_set {i : Nat} {o : Option V} {σ : L2.St} (w : List Nat) (h : i ∈ w) : wipe (σ.set i o) w = wipe σ w := by
    induction w with
    | nil => cases h
    | cons j w ih =>
      unfold wipe
      by_cases hj : i = j
      · subst hj
        by_cases hw : i ∈ w
        · rw [ih hw]
        · have : ∀ w : List Nat, i ∉ w → wipe (σ.set i o) w = (wipe σ w).set i o := by
            intro w
            induction w with
            | nil => intro _; rfl
            | cons k w ih2 =>
              intro hn
              rw [List.mem_cons, not_or] at hn
              unfold wipe
              rw [ih2 hn.2, List.set_comm _ _ hn.1]
          rw [this w hw, List.set_set]
      · have hw : i ∈ w := by
          rcases List.mem_cons.mp h with h | h
          · exact absurd h hj
          · exact h
        rw [ih hw]
theorem wipe_set {i : Nat} {o : Option V} {σ : L2.St} (w : List Nat) (h : i ∈ w) : wipe (σ.set i o) w = wipe σ w := gNs_set.wipe_set w h
def tgs : MT → List Nat
  | .nm i => [i]
  | .tp is => is
/-- a target takes a value -/
theorem gT_set {K : PySem.W.Frag} {f : List Addr} {H : Hp} {Q : L2.St → Hp → Prop} {tg : MT} {v : Val} {x : V} {ρ ρ' : Loc} {σ : L2.St} (L : LR K f H ρ σ) (r : VR K f H v x) (h : bindT tg v ρ = some ρ') (hQ : ∀ σ', LR K f H ρ' σ' → (∀ w, (∀ i ∈ tgs tg, i ∈ w) → wipe σ' w = wipe σ w) → Q σ' H) : gT K tg x σ H Q := by
  cases tg with
  | nm i =>
    cases (show some (ρ.set i (some v)) = some ρ' from h)
    exact hQ _ (L.set r) fun w hw => wipe_set w (hw i (List.mem_cons_self ..))
  | tp is =>
    cases v with
    | tup vs =>
      have h' : (if vs.length = is.length then some (setAll is vs ρ) else none) = some ρ' := h
      by_cases hl : vs.length = is.length
      · rw [if_pos hl] at h'
        cases h'
        obtain ⟨a, xs, rfl, hq, t⟩ := r
        exact ⟨a, xs, rfl, hq, by rw [t.length, hl], gNs_set L t hl fun σ' L' hw => hQ σ' L' hw⟩
      · rw [if_neg hl] at h'; cases h'
    | _ => cases h
end
end Mi
end

section
set_option Elab.async false
set_option linter.all false
set_option maxRecDepth 100000
set_option autoImplicit false
set_option maxHeartbeats 1000000
/-! Sound8: comprehensions; the whole of expressions. -/
namespace Mi
open PySem PySem.Spec L2
open PyProof.Rows hiding St
/-! ### slots forgotten -/
def wipeL (ρ : Loc) : List Nat → Loc
  | [] => ρ
  | v :: vs => (wipeL ρ vs).set v none
theorem LR.wipe {K : PySem.W.Frag} {f : List Addr} {H : Hp} {ρ : Loc} {σ : L2.St} (L : LR K f H ρ σ) : ∀ w : List Nat, LR K f H (wipeL ρ w) (L2.wipe σ w)
  | [] => L
  | v :: w => by
    have ih := LR.wipe L w
    unfold wipeL L2.wipe
    refine ⟨by simp [ih.len], fun i u e => ?_⟩
    by_cases hi : v = i
    · subst hi
      by_cases hl : v < (wipeL ρ w).length
      · rw [List.getElem?_set_self hl] at e; cases e
      · rw [List.getElem?_eq_none (by simpa using hl)] at e; cases e
    · rw [List.getElem?_set_ne hi] at e
      obtain ⟨x, q, r⟩ := ih.get i u e
      exact ⟨x, by rw [List.getElem?_set_ne hi]; exact q, r⟩
theorem wipe_idem (σ : L2.St) : ∀ w : List Nat, (∀ v : List Nat, (∀ i ∈ w, i ∈ v) → wipe (wipe σ w) v = wipe σ v)
  | [], _, _ => rfl
  | i :: w, v, h => by
    show wipe ((wipe σ w).set i none) v = _
    rw [wipe_set v (h i (List.mem_cons_self ..))]
    exact wipe_idem σ w v fun j hj => h j (List.mem_cons_of_mem _ hj)
theorem setAll_wipe1 : ∀ {is : List Nat} {vs : List Val} {ρ : Loc} {j : Nat}, vs.length = is.length → j ∈ is → setAll is vs (ρ.set j none) = setAll is vs ρ
  | [], _, _, _, _, h => by cases h
  | i :: is, [], _, _, hl, _ => by cases hl
  | i :: is, v :: vs, ρ, j, hl, h => by
    show setAll is vs ((ρ.set j none).set i (some v)) = setAll is vs (ρ.set i (some v))
    by_cases e : j = i
    · subst e; rw [List.set_set]
    · rw [List.set_comm _ _ e]
      refine setAll_wipe1 (by simpa using hl) ?_
      rcases List.mem_cons.mp h with h | h
      · exact absurd h e
      · exact h
theorem setAll_wipe {is : List Nat} {vs : List Val} {ρ : Loc} (hl : vs.length = is.length) : ∀ w : List Nat, (∀ i ∈ w, i ∈ is) → setAll is vs (wipeL ρ w) = setAll is vs ρ
  | [], _ => rfl
  | j :: w, h => by
    show setAll is vs ((wipeL ρ w).set j none) = _
    rw [setAll_wipe1 hl (h j (List.mem_cons_self ..))]
    exact setAll_wipe hl w fun i hi => h i (List.mem_cons_of_mem _ hi)
theorem bindT_wipe {tg : MT} {v : Val} {ρ : Loc} : bindT tg v (wipeL ρ (tgs tg)) = bindT tg v ρ := by
  cases tg with
  | nm i =>
    show some (((ρ.set i none)).set i (some v)) = some (ρ.set i (some v))
    rw [List.set_set]
  | tp is =>
    cases v with
    | tup vs =>
      show (if vs.length = is.length then some (setAll is vs (wipeL ρ is)) else none) = (if vs.length = is.length then some (setAll is vs ρ) else none)
      by_cases hl : vs.length = is.length
      · rw [if_pos hl, if_pos hl, setAll_wipe hl is fun _ h => h]
      · rw [if_neg hl, if_neg hl]
    | _ => rfl
theorem guard_items {src : Val} {xs : List Val} {μ : Sto} (h : items μ src = some xs) : guard src xs μ = true := by
  cases src with
  | ref n =>
    have h' : (match μ[n]? with | some (.lst vs) => some vs | _ => none) = some xs := h
    split at h'
    · rename_i vs e
      cases h'
      exact decide_eq_true e
    · cases h'
  | zp a b us ws =>
    have h' : (if guard (.zp a b us ws) xs μ then some ((us.zip ws).map fun p => Val.tup [p.1, p.2]) else none) = some xs := h
    by_cases hc : guard (.zp a b us ws) xs μ = true
    · exact hc
    · rw [if_neg hc] at h'; cases h'
  | _ => rfl
/-- a list that is made beside the store -/
theorem Le.side {f1 f : List Addr} {H1 H : Hp} {D : Addr} {o : HO} (l : Le f1 H1 f H) (h : H1 D = none) : Le f1 H1 f (upd H D o) :=
  ⟨l.pre, ⟨fun b xs e => by rw [upd_ne (ne_of_none e h)]; exact l.kp.tup b xs e, fun b x u e => by rw [upd_ne (ne_of_none e h)]; exact l.kp.frz b x u e⟩,
    fun b u hb e => let ⟨e1, h1⟩ := l.oth b u hb e; ⟨by rw [upd_ne (ne_of_none e h)]; exact e1, h1⟩⟩
/-- .. and comes into it -/
theorem Le.join {f1 f : List Addr} {H1 H : Hp} {D : Addr} (l : Le f1 H1 f H) (h : H1 D = none) : Le f1 H1 (f ++ [D]) H :=
  ⟨l.pre.trans ⟨[D], rfl⟩, l.kp, fun b u hb e => let ⟨e1, h1⟩ := l.oth b u hb e; ⟨e1, by simp [h1, ne_of_none e h]⟩⟩
theorem SR.join {K : PySem.W.Frag} {f : List Addr} {μ : Sto} {H : Hp} {D : Addr} {vs : List Val} {xs : List V} (S : SR K f μ H) (hD : D ∉ f) (hH : H D = some (.lst xs)) (t : VRs K f H vs xs) : SR K (f ++ [D]) (μ ++ [.lst vs]) H := by
  have mono : ∀ (v : Val) (x : V), VR K f H v x → VR K (f ++ [D]) H v x := fun v x r => VR.mono0 v x r
  have monos : ∀ (v : List Val) (x : List V), VRs K f H v x → VRs K (f ++ [D]) H v x := fun v x r => VRs.mono0 v x r
  refine ⟨by simp [S.len], ?_, fun n c a h1 h2 => ?_⟩
  · rw [List.nodup_append]
    exact ⟨S.nd, by simp, fun a ha b hb e => hD (by rw [← List.mem_singleton.mp hb, ← e]; exact ha)⟩
  · by_cases hn : n < f.length
    · rw [List.getElem?_append_left hn] at h2
      rw [List.getElem?_append_left (by rw [← S.len]; exact hn)] at h1
      exact (S.cell n c a h1 h2).mono0
    · have e : n = f.length := by
        have := (List.getElem?_eq_some_iff.mp h2).1
        simp at this
        omega
      subst e
      rw [List.getElem?_append_right (Nat.le_refl _)] at h2
      rw [S.len, List.getElem?_append_right (Nat.le_refl _)] at h1
      simp at h1 h2
      subst h1 h2
      exact ⟨xs, hH, monos _ _ t⟩

abbrev W0 : WX := fun _ _ _ _ => False
/-- no exception leaves a comprehension's block -/
theorem takesW0 {X : Cx} : Takes X W0 := takes0
/-- the ends of a comprehension -/
def eC (tg : MT) (mi mc me : Loc → Sto → Out Val) : Loc → Sto → Out Val := fun ρ μ => (mi ρ μ).bind fun src μ1 => match items μ1 src with
    | some xs => if xs.length ≤ LIM then (compL (fun v => bindT tg v ρ) mc me src xs xs μ1).bind fun ys μ2 => newLst ys μ2 else .fail
    | none => .fail
/-- the tests of a clause: none, or one -/
def ttOk (K : PySem.W.Frag) (es : List EC) (tt : TT) (mc : Loc → Sto → Out Val) : Prop := ∀ σ H Q, tTM K es W0 mc σ H Q → tt σ H Q
theorem lc_read {K : PySem.W.Frag} {es : List EC} {W : WX} {tg : MT} {mi mc me : Loc → Sto → Out Val} {tt : TT} (ht : ttOk K es tt mc) {σ : L2.St} {H : Hp} {Q : VK} {vs : List Nat} (hv : vs = tgs tg) (h : tM K es W (eC tg mi mc me) σ H Q) :
    tLc (iM K es W mi) (gT K tg) tt (tM K es W0 me) vs σ H Q := by
  subst hv
  obtain ⟨f, ρ, μ, S, L, h⟩ := h
  refine ⟨f, ρ, μ, S, L, ?_⟩
  cases e : mi ρ μ with
  | exc c fs μ1 =>
    have h' : Post K es W σ f H ((mi ρ μ).bind _) Q := h
    rw [e] at h'; exact h'
  | fail =>
    have h' : Post K es W σ f H ((mi ρ μ).bind _) Q := h
    rw [e] at h'; exact h'.elim
  | ok src μ1 =>
    have h' : Post K es W σ f H ((mi ρ μ).bind _) Q := h
    rw [e] at h'
    have h1 : Post K es W σ f H (match items μ1 src with
      | some xs => if xs.length ≤ LIM then (compL (fun v => bindT tg v ρ) mc me src xs xs μ1).bind fun ys μ2 => newLst ys μ2 else .fail
      | none => .fail) Q := h'
    split at h1
    · rename_i xs hi
      obtain ⟨hlim, h2⟩ := Post.ite h1
      refine ⟨xs, hi, fun f1 H1 J l1 S1 J1 D hD => ?_⟩
      have h3 := Post.mono l1 h2
      have hDf : D ∉ f1 := fun z => by
        obtain ⟨o, q⟩ := S1.mem z
        rw [hD] at q; cases q
      -- the invariant
      refine ⟨fun i m H' => m = xs.length - i ∧ i ≤ xs.length ∧ ∃ f' μ' acc accV, Le f1 H1 f' H' ∧ D ∉ f' ∧ SR K f' μ' H' ∧ H' D = some (.lst accV) ∧ VRs K f' H' acc accV ∧ acc.length ≤ i ∧ guard src xs μ' = true ∧
        Post K es W σ f1 H1 ((compL (fun v => bindT tg v ρ) mc me src xs (xs.drop i) μ').bind fun ys μ2 => newLst (acc ++ ys) μ2) Q,
        ⟨xs.length, by simp, Nat.zero_le _, f1, μ1, [], [], (Le.refl f1 H1).side hD, hDf, S1.beside hD, upd_same, rfl, Nat.le_refl _, guard_items hi, by simpa using h3⟩, ?_⟩
      rintro i m H' ⟨rfl, hile, f', μ', acc, accV, l', hDf', S', hDl, tacc, hacc, hg, hP⟩
      by_cases hlt : i < xs.length
      · refine .inr ⟨J1.go i f' μ' H' l' S' hg hlt, fun H'' => ∃ f' μ' acc accV, Le f1 H1 f' H'' ∧ D ∉ f' ∧ SR K f' μ' H'' ∧ H'' D = some (.lst accV) ∧ VRs K f' H'' acc accV ∧ acc.length ≤ i + 1 ∧ guard src xs μ' = true ∧
          Post K es W σ f1 H1 ((compL (fun v => bindT tg v ρ) mc me src xs (xs.drop (i + 1)) μ').bind fun ys μ2 => newLst (acc ++ ys) μ2) Q, fun H'' q => ⟨xs.length - (i + 1), by omega, rfl, hlt, q⟩, fun x H2 y => ?_⟩
        obtain ⟨v, hv, rv, S2, l2⟩ := J1.yl i f' μ' H' x H2 l' S' hg hlt y
        have hd : xs.drop i = v :: xs.drop (i + 1) := by
          rw [List.drop_eq_getElem_cons hlt]
          congr 1
          rw [List.getElem?_eq_getElem hlt] at hv
          exact Option.some.inj hv
        rw [hd] at hP
        have l1' := l'.trans l2
        have hD2 : H2 D = some (.lst accV) := (l2.oth D _ hDf' hDl).1
        have tacc2 := VRs.mono l2 _ _ tacc
        cases hb : bindT tg v ρ with
        | none =>
          exfalso
          have : compL (fun v => bindT tg v ρ) mc me src xs (v :: xs.drop (i + 1)) μ' = .fail := by
            unfold compL; simp only [hb]
          rw [this] at hP; exact hP
        | some ρ' =>
          have L2' : LR K f' H2 (wipeL ρ (tgs tg)) (wipe σ (tgs tg)) := ((L.mono (l1.trans l1')).wipe _)
          refine gT_set L2' rv (by rw [bindT_wipe]; exact hb) fun σ2 Lσ hw => ⟨?_, ht σ2 H2 _ ⟨f', ρ', μ', S2, Lσ, ?_⟩⟩
          · rw [hw _ fun i h => h, wipe_idem σ _ _ fun i h => h]
          · cases hc : mc ρ' μ' with
            | fail =>
              have : compL (fun v => bindT tg v ρ) mc me src xs (v :: xs.drop (i + 1)) μ' = .fail := by
                unfold compL; simp only [hb, hc]
              rw [this] at hP; exact hP
            | exc c fs μ2 =>
              have : compL (fun v => bindT tg v ρ) mc me src xs (v :: xs.drop (i + 1)) μ' = .fail := by
                unfold compL; simp only [hb, hc]
              rw [this] at hP; exact hP.elim
            | ok u μ2 =>
              cases u with
              | bl b =>
                intro f3 H3 l3 S3
                have hD3 : H3 D = some (.lst accV) ∧ D ∉ f3 := l3.oth D _ hDf' hD2
                have tacc3 := VRs.mono l3 _ _ tacc2
                cases b with
                | false =>
                  have e2 : compL (fun v => bindT tg v ρ) mc me src xs (v :: xs.drop (i + 1)) μ' = if guard src xs μ2 then compL (fun v => bindT tg v ρ) mc me src xs (xs.drop (i + 1)) μ2 else .fail := by
                    conv => lhs; unfold compL
                    simp only [hb, hc]
                  rw [e2] at hP
                  by_cases hg2 : guard src xs μ2 = true
                  · rw [if_pos hg2] at hP
                    rw [if_neg (by decide)]
                    exact ⟨f3, μ2, acc, accV, l1'.trans l3, hD3.2, S3, hD3.1, tacc3, by omega, hg2, hP⟩
                  · rw [if_neg hg2] at hP; exact hP.elim
                | true =>
                  rw [if_pos rfl]
                  refine ⟨f3, ρ', μ2, S3, Lσ.mono l3, ?_⟩
                  cases he : me ρ' μ2 with
                  | fail =>
                    have : compL (fun v => bindT tg v ρ) mc me src xs (v :: xs.drop (i + 1)) μ' = .fail := by
                      unfold compL; simp only [hb, hc, he]
                    rw [this] at hP; exact hP
                  | exc c fs μ3 =>
                    have : compL (fun v => bindT tg v ρ) mc me src xs (v :: xs.drop (i + 1)) μ' = .fail := by
                      unfold compL; simp only [hb, hc, he]
                    rw [this] at hP; exact hP.elim
                  | ok y μ3 =>
                    intro f4 H4 yv l4 S4 ry
                    have hD4 : H4 D = some (.lst accV) ∧ D ∉ f4 := l4.oth D _ hD3.2 hD3.1
                    have tacc4 := VRs.mono l4 _ _ tacc3
                    have e2 : compL (fun v => bindT tg v ρ) mc me src xs (v :: xs.drop (i + 1)) μ' = if guard src xs μ3 then (match compL (fun v => bindT tg v ρ) mc me src xs (xs.drop (i + 1)) μ3 with
                        | .ok ys μ4 => .ok (y :: ys) μ4
                        | _ => .fail) else .fail := by
                      conv => lhs; unfold compL
                      simp only [hb, hc, he]
                      try rfl
                    rw [e2] at hP
                    by_cases hg2 : guard src xs μ3 = true
                    · rw [if_pos hg2] at hP
                      have lD := (l1'.trans (l3.trans l4)).side (o := .lst (accV ++ [yv])) hD
                      have hne : ∀ a ∈ f4, a ≠ D := fun a ha e => hD4.2 (by rw [← e]; exact ha)
                      have S5 : SR K f4 μ3 (upd H4 D (.lst (accV ++ [yv]))) := ⟨S4.len, S4.nd, fun n c a h1 h2 => by
                        have q := S4.cell n c a h1 h2
                        have ha := hne a (List.mem_of_getElem? h2)
                        exact q.monoK (Keep.lst hD4.1) (upd_ne ha)⟩
                      refine ⟨accV, hD4.1, by have hL : LIM = 16777216 := rfl; rw [tacc4.length, sizeLine_eq]; omega, f4, μ3, acc ++ [y], accV ++ [yv], lD, hD4.2, S5, upd_same, VRs.monoK (Keep.lst hD4.1) _ _ (tacc4.append ⟨yv, [], rfl, ry, rfl⟩), by simp; omega, hg2, ?_⟩
                      cases hcl : compL (fun v => bindT tg v ρ) mc me src xs (xs.drop (i + 1)) μ3 with
                      | ok ys μ4 =>
                        rw [hcl] at hP
                        have hP' : Post K es W σ f1 H1 (newLst (acc ++ (y :: ys)) μ4) Q := hP
                        show Post K es W σ f1 H1 (newLst ((acc ++ [y]) ++ ys) μ4) Q
                        rw [List.append_assoc]
                        exact hP'
                      | exc c fs μ4 => rw [hcl] at hP; exact hP.elim
                      | fail => rw [hcl] at hP; exact hP.elim
                    · rw [if_neg hg2] at hP; exact hP.elim
              | _ =>
                exfalso
                have : compL (fun v => bindT tg v ρ) mc me src xs (v :: xs.drop (i + 1)) μ' = .fail := by
                  unfold compL; simp only [hb, hc]
                rw [this] at hP; exact hP
      · have hi' : i = xs.length := by omega
        refine .inl ⟨J1.st i f' μ' H' l' S' hg (by omega), ?_⟩
        rw [hi', List.drop_length] at hP
        have hP' : Post K es W σ f1 H1 (newLst (acc ++ []) μ') Q := hP
        rw [List.append_nil] at hP'
        exact hP' (f' ++ [D]) H' (.ref D) (l'.join hD) (S'.join hDf' hDl tacc) ⟨D, by rw [← S'.len]; simp, rfl⟩
    · exact h1.elim
end Mi
end

section
set_option Elab.async false
set_option linter.all false
set_option maxRecDepth 100000
set_option autoImplicit false
set_option maxHeartbeats 1000000
/-! Sound9: the whole of expressions. -/
namespace Mi
open PySem PySem.Spec L2
open PyProof.Rows hiding St
section
variable {Γ : Gam} {es : List EC} {C : CallF} {lv : Nat} {S : SS} {X : Cx} {W : WX} {ma mb mc : Loc → Sto → Out Val}
/-- what holds of a term: as a value, as a test, as what is walked, as an argument list -/
structure Snd (Γ : Gam) (es : List EC) (C : CallF) (lv : Nat) (m : ME) : Prop where
  e : ∀ {S X W e}, XOk Γ es C lv S X → Takes X W → chk Γ S m e = true → vE m = true → PE X e (tM X.K es W (ev C m))
  t : ∀ {S X W e}, XOk Γ es C lv S X → Takes X W → chk Γ S m e = true → vE m = true → tstM m = true → PT X e (tTM X.K es W (ev C m)) ∧ ∀ o l p, e = .BoolOp o l p → PW X e (tTM X.K es W (ev C m))
  i : ∀ {S X W e}, XOk Γ es C lv S X → Takes X W → chk Γ S m e = true → ∀ tg, zipOk m tg = true → PI X tg e (iM X.K es W (ev C m))
  a : ∀ {S X W l}, XOk Γ es C lv S X → Takes X W → chkA Γ S m l = true → PA X l (tMA X.K es W (ev C m))
  k : ∀ {S X W} {kws : List Keyword}, XOk Γ es C lv S X → Takes X W → chkA Γ S m (kws.map (·.value)) = true → PK X kws (tMA X.K es W (ev C m))
  d : ∀ {S X W vs keys ks pos}, XOk Γ es C lv S X → Takes X W → chkA Γ S m vs = true → keysOk keys ks = true → ks.all (keyOk false) = true → ks.length = vs.length →
    ∃ trs, PPs X pos keys vs trs ∧ ∀ σ H Q, tMA X.K es W (ev C m) σ H (fun xs H1 => Q ((ks.map fun k => kV (keyV k)).zip xs) H1) → tPairs trs σ H Q
theorem PK.weak {X : Cx} {e : List Keyword} {t t' : TA} (h : PK X e t) (k : ∀ σ H Q, t' σ H Q → t σ H Q) : PK X e t' := ⟨fun pos pins s σ H Q I q => h.run pos pins s σ H Q I (k σ H Q q)⟩
/-- a term that has a value: what is left to be shown -/
theorem Snd.val {m : ME} (hv : vE m = true) (he : ∀ {S X W e}, XOk Γ es C lv S X → Takes X W → chk Γ S m e = true → PE X e (tM X.K es W (ev C m)))
    (ht : ∀ {S X W e}, XOk Γ es C lv S X → Takes X W → chk Γ S m e = true → tstM m = true → PT X e (tTM X.K es W (ev C m)) ∧ ∀ o l p, e = .BoolOp o l p → PW X e (tTM X.K es W (ev C m))) (ha : ∀ S l, chkA Γ S m l = false) : Snd Γ es C lv m :=
  ⟨fun h1 h2 h3 _ => he h1 h2 h3, fun h1 h2 h3 _ h5 => ht h1 h2 h3 h5, fun h1 h2 h3 tg _ => PI.weak (pi_any (he h1 h2 h3)) fun _ _ _ q => iM_any q, fun h1 h2 h3 => (by rw [ha] at h3; cases h3), fun h1 h2 h3 => (by rw [ha] at h3; cases h3), fun h1 h2 h3 => (by rw [ha] at h3; cases h3)⟩
theorem noBool {e : Expr} (h : byVal e = true) {P : Prop} : ∀ o l p, e = .BoolOp o l p → P := fun o l p z => by subst z; cases h
theorem noBoolC {a : Expr} {l : List CmpOp} {m : List Expr} {q : Pos} {P : Prop} : ∀ o l' p, Expr.Compare a l m q = .BoolOp o l' p → P := fun o l p z => by cases z
theorem pa_read {K : PySem.W.Frag} {σ : L2.St} {H : Hp} {Q : List V → Hp → Prop} (h : tMA K es W (fun ρ μ => (ma ρ μ).bind fun x μ1 => (mb ρ μ1).bind fun ys μ2 => match ys with
    | .tup vs => .ok (.tup (x :: vs)) μ2
    | _ => .fail) σ H Q) : tCons (tM K es W ma) (tMA K es W mb) σ H Q := by
  obtain ⟨f, ρ, μ, S, L, h⟩ := h
  refine ⟨f, ρ, μ, S, L, ?_⟩
  cases e : ma ρ μ with
  | exc c fs μ1 => simp only [e, Out.bind_exc] at h; exact h
  | fail => simp only [e, Out.bind_fail] at h
  | ok v μ1 =>
    simp only [e, Out.bind_ok] at h
    intro f1 H1 x l1 S1 rv
    refine ⟨f1, ρ, μ1, S1, L.mono l1, ?_⟩
    cases e2 : mb ρ μ1 with
    | exc c fs μ2 =>
      simp only [e2, Out.bind_exc] at h
      exact fun f' H' cls d l' S' r => h f' H' cls d (l1.trans l') S' r
    | fail => simp only [e2, Out.bind_fail] at h
    | ok ys μ2 =>
      simp only [e2, Out.bind_ok] at h
      cases ys with
      | tup vs => exact fun f' H' xs l' S' t => h f' H' (x :: xs) (l1.trans l') S' ⟨x, xs, rfl, VR.mono l' _ _ rv, t⟩
      | _ => exact h.elim
/-- a call's reading -/
theorem call_read {K : PySem.W.Frag} {F : List Val → Sto → Out Val} {n : Nat} (har : ∀ vs μ, vs.length ≠ n → F vs μ = .fail) {σ : L2.St} {H : Hp} {Q : VK} (h : tM K es W (fun ρ μ => (ma ρ μ).bind fun ys μ1 => match ys with
    | .tup vs => F vs μ1
    | _ => .fail) σ H Q) : tCallS (spM K es n F) (WE W) (tMA K es W ma) σ H Q := by
  obtain ⟨f, ρ, μ, S, L, h⟩ := h
  refine bindPA S L (fun v μ1 hn => by cases v <;> first | rfl | exact absurd rfl (hn _)) h fun vs μ1 f1 H1 xs l1 S1 L1 t h1 => ?_
  have h1' : Post K es W σ f1 H1 (F vs μ1) Q := h1
  refine ⟨f1, μ1, vs, S1, t, ?_, ?_⟩
  · by_cases e : vs.length = n
    · exact e
    · rw [har vs μ1 e] at h1'; exact h1'.elim
  · cases e : F vs μ1 with
    | ok v μ2 => rw [e] at h1'; exact h1'
    | exc c fs μ2 => rw [e] at h1'; exact h1'
    | fail => rw [e] at h1'; exact h1'
theorem pe_callS0 {CX : CXT} {k : Nat} {f : Addr} {fd : FuncData} {ps : List Str} {sp : Sp} {E : L2.St → XK} {x : Str} {p pos : Pos} (F : FnOk X.prog X.w X.K X.mg X.base CX k f fd ps sp) (hr : Room k X.A) (hg : Gl X x) (hm : X.mg x = some (.ref f)) (hk : PySem.W.keepIn X.K (.ref f) = true) (hb : Binds X.K fd ps [])
    (hx : ∀ σ, PassesAt CX X σ (E σ)) (hdb : (x == ("__debug__" : Str)) = false) : PE X (.Call (.Name x p) [] [] pos) (fun σ H Q => sp [] H Q (E σ)) := by
  refine ⟨fun pins s σ H Q I h => ?_⟩
  refine wpAny_Call_Name_kw (ld_glob I hg hm ?_ hdb)
  exact PySem.W.callWith_K0 I.kIn hk (run_fnS (us := []) F hr hb (hx σ) I .nil h)
/-! keywords -/
theorem run_kwS {CX : CXT} {k : Nat} {f : Addr} {fd : FuncData} {ps ks : List Str} {sp : Sp} {E : XK} {g : List Value → List Value → List Value} {gV : List V → List V → List V} {pins : List (Addr × Obj)} {σ : L2.St} {H : Hp} {s : Shared} {Q : VK} {ws : List Value} {zs : List V} (F : FnOk X.prog X.w X.K X.mg X.base CX k f fd ps sp) (hr : Room k X.A) (hb : KBinds X.K fd ps ks g gV)
    (hx : PassesAt CX X σ E) (I : Inv X pins σ H s) (rz : Vals zs ws) (h : sp (gV [] zs) H Q E) : wpAny (model X.prog X.w) X.A (call (.ref f) [] (ks.zip ws)) (EP X pins σ Q) X.xe s := by
  have rg : Vals (gV [] zs) (g [] ws) := hb.rel .nil rz
  have len : (g [] ws).length = ps.length := by rw [← rg.length]; exact F.len _ _ _ _ h
  have bt := hb.to s [] ws I.kIn len
  refine wpAny_call (codeAny_mono (F.run X.A X.stack s H ⟨[], ks.zip ws⟩ (g [] ws) (gV [] zs) Q E hr I.env0 bt rg h) fun o s' ho => ?_)
  match o, ho with
  | .error e, ho => exact hx pins H s e s' I ho
  | .ok (.ret u), ho => exact I.after ho
  | .ok .next, ho => exact ho.elim
  | .ok .brk, ho => exact ho.elim
  | .ok .cont, ho => exact ho.elim
theorem kw_all {env : Env} {pos : Pos} : ∀ {kws : List Keyword}, kws.all (fun q => q.arg.isSome) = true → (backToKw pos (keywordEach kws env)).all (·.1.isSome) = true ∧ (backToKw pos (keywordEach kws env)).filterMap (·.1) = ksOf kws ∧ (backToKw pos (keywordEach kws env)).any (·.1.isNone) = false
  | [], _ => ⟨rfl, rfl, rfl⟩
  | ⟨a, v, p⟩ :: r, h => by
    rw [List.all_cons, Bool.and_eq_true] at h
    obtain ⟨h1, h2, h3⟩ := kw_all (env := env) (pos := pos) h.2
    cases a with
    | none => cases h.1
    | some x =>
      refine ⟨?_, ?_, ?_⟩
      · show (true && (backToKw pos (keywordEach r env)).all (·.1.isSome)) = true
        rw [h1]; rfl
      · show x :: (backToKw pos (keywordEach r env)).filterMap (·.1) = x :: ksOf r
        rw [h2]
      · show (false || (backToKw pos (keywordEach r env)).any (·.1.isNone)) = false
        rw [h3]; rfl
theorem pe_kw0 {CX : CXT} {k : Nat} {f : Addr} {fd : FuncData} {ps : List Str} {sp : Sp} {E : L2.St → XK} {x : Str} {p pos : Pos} {kws : List Keyword} {g : List Value → List Value → List Value} {gV : List V → List V → List V} {tk : TA} (F : FnOk X.prog X.w X.K X.mg X.base CX k f fd ps sp) (hr : Room k X.A) (hg : Gl X x) (hm : X.mg x = some (.ref f)) (hk : PySem.W.keepIn X.K (.ref f) = true) (hb : KBinds X.K fd ps (ksOf kws) g gV)
    (hx : ∀ σ, PassesAt CX X σ (E σ)) (hdb : (x == ("__debug__" : Str)) = false) (hkw : PK X kws tk) (ha : kws.all (fun q => q.arg.isSome) = true) : PE X (.Call (.Name x p) [] kws pos) (fun σ H Q => tk σ H fun zs H2 => sp (gV [] zs) H2 Q (E σ)) := by
  obtain ⟨h1, h2, h3⟩ := kw_all (env := X.env) (pos := pos) ha
  refine ⟨fun pins s σ H Q I h => ?_⟩
  refine wpAny_Call_Name_kw (ld_glob I hg hm ?_ hdb)
  refine PySem.W.callWith_KW0 (h₀ := X.base) I.ok.mod.kin hk h1 (thn (hkw.run pos pins s σ H _ I h) fun ws s2 ⟨zs, H2, I2, rz, q2⟩ => ⟨I2.kIn, ?_⟩) (by rw [h3]; rfl)
  rw [h2]
  exact run_kwS F hr hb (hx σ) I2 rz q2
theorem pick_rel {α β : Type} {R : List α → List β → Prop} (g : ∀ {vs : List α} {xs : List β}, R vs xs → ∀ i : Nat, (vs[i]? = none ∧ xs[i]? = none) ∨ ∃ v x, vs[i]? = some v ∧ xs[i]? = some x ∧ ∀ {a b}, R a b → R (v :: a) (x :: b)) (n : R [] []) {vs : List α} {xs : List β} (h : R vs xs) : ∀ perm : List Nat, R (pick perm vs) (pick perm xs)
  | [] => n
  | i :: perm => by
    have ih := pick_rel @g n h perm
    unfold pick at ih ⊢
    rcases g h i with ⟨e1, e2⟩ | ⟨v, x, e1, e2, k⟩
    · rw [List.filterMap_cons_none e1, List.filterMap_cons_none e2]; exact ih
    · rw [List.filterMap_cons_some e1, List.filterMap_cons_some e2]; exact k ih
theorem VRs.pick {K : PySem.W.Frag} {f : List Addr} {H : Hp} {vs : List Val} {xs : List V} (t : VRs K f H vs xs) (perm : List Nat) : VRs K f H (pick perm vs) (pick perm xs) := by
  refine pick_rel (R := VRs K f H) (fun {vs xs} t i => ?_) VRs.nil t perm
  cases e : vs[i]? with
  | none =>
    refine .inl ⟨rfl, ?_⟩
    rw [List.getElem?_eq_none_iff] at e ⊢
    rw [t.length]; exact e
  | some v =>
    obtain ⟨x, e2, r⟩ := t.get e
    exact .inr ⟨v, x, rfl, e2, fun h => VRs.cons r h⟩
theorem Vals.pick {xs : List V} {us : List Value} (t : Vals xs us) (perm : List Nat) : Vals (Mi.pick perm xs) (Mi.pick perm us) := by
  refine pick_rel (R := Vals) (fun {vs xs} t i => ?_) .nil t perm
  cases e : vs[i]? with
  | none =>
    refine .inl ⟨rfl, ?_⟩
    rw [List.getElem?_eq_none_iff] at e ⊢
    rw [← t.length]; exact e
  | some v =>
    obtain ⟨x, e2, r⟩ := t.get e
    exact .inr ⟨v, x, rfl, e2, fun h => .cons r h⟩
/-- a keyword call's reading -/
theorem kw_read {K : PySem.W.Frag} {F : List Val → Sto → Out Val} {n m : Nat} {perm : List Nat} (hl : ∀ ρ μ v μ', ma ρ μ = .ok v μ' → ∃ vs, v = .tup vs ∧ vs.length = m) (har : ∀ vs μ, vs.length ≠ n → F vs μ = .fail) {σ : L2.St} {H : Hp} {Q : VK} (h : tM K es W (fun ρ μ => (ma ρ μ).bind fun ys μ1 => match ys with
    | .tup vs => F (pick perm vs) μ1
    | _ => .fail) σ H Q) : tMA K es W ma σ H (fun zs H2 => spM K es n F (gK m perm [] zs) H2 Q (WE W σ)) := by
  obtain ⟨f, ρ, μ, S, L, h⟩ := h
  refine ⟨f, ρ, μ, S, L, ?_⟩
  have hl' := hl ρ μ
  cases e : ma ρ μ with
  | exc c fs μ1 => simp only [e, Out.bind_exc] at h; exact h
  | fail => simp only [e, Out.bind_fail] at h; exact h
  | ok v μ1 =>
    obtain ⟨vs, rfl, hv⟩ := hl' v μ1 e
    simp only [e, Out.bind_ok] at h
    intro f1 H1 xs l1 S1 t
    have h1 := Post.mono l1 h
    have eg : gK m perm [] xs = pick perm xs := by
      unfold gK
      rw [if_pos ⟨rfl, by rw [t.length, hv]⟩]
    rw [eg]
    refine ⟨f1, μ1, pick perm vs, S1, VRs.pick t perm, ?_, ?_⟩
    · by_cases q : (pick perm vs).length = n
      · exact q
      · rw [har _ μ1 q] at h1; exact h1.elim
    · cases e2 : F (pick perm vs) μ1 with
      | ok v μ2 => rw [e2] at h1; exact h1
      | exc c fs μ2 => rw [e2] at h1; exact h1
      | fail => rw [e2] at h1; exact h1
/-- a display's reading -/
theorem argc_len : ∀ (m : ME) (l : List Expr), chkA Γ S m l = true → ∀ ρ μ v μ', ev C m ρ μ = .ok v μ' → ∃ vs, v = .tup vs ∧ vs.length = argc m
  | .nil, [], _, ρ, μ, v, μ', h => by cases (show Out.ok (Val.tup []) μ = .ok v μ' from h); exact ⟨[], rfl, rfl⟩
  | .cons a b, e :: l, hc, ρ, μ, v, μ', h => by
    have hc' : (vE a && plainArg e && chk Γ S a e && chkA Γ S b l) = true := by unfold chkA at hc; exact hc
    simp only [Bool.and_eq_true] at hc'
    have h' : ((ev C a ρ μ).bind fun x μ1 => (ev C b ρ μ1).bind fun ys μ2 => match ys with
      | .tup vs => .ok (.tup (x :: vs)) μ2
      | _ => .fail) = .ok v μ' := h
    cases e1 : ev C a ρ μ with
    | exc c fs μ1 => rw [e1] at h'; cases h'
    | fail => rw [e1] at h'; cases h'
    | ok x μ1 =>
      rw [e1, Out.bind_ok] at h'
      cases e2 : ev C b ρ μ1 with
      | exc c fs μ2 => rw [e2] at h'; cases h'
      | fail => rw [e2] at h'; cases h'
      | ok ys μ2 =>
        rw [e2, Out.bind_ok] at h'
        obtain ⟨vs, rfl, hl⟩ := argc_len b l hc'.2 ρ μ1 ys μ2 e2
        cases h'
        exact ⟨x :: vs, rfl, by simp [argc, hl]⟩
  | .nil, _ :: _, h, _, _, _, _, _ => by unfold chkA at h; cases h
  | .cons _ _, [], h, _, _, _, _, _ => by unfold chkA at h; cases h
  | .var _, _, h, _, _, _, _, _ => by unfold chkA at h; cases h
  | .cst _, _, h, _, _, _, _, _ => by unfold chkA at h; cases h
  | .tupE _, _, h, _, _, _, _, _ => by unfold chkA at h; cases h
  | .lstE _, _, h, _, _, _, _, _ => by unfold chkA at h; cases h
  | .op1 _ _, _, h, _, _, _, _, _ => by unfold chkA at h; cases h
  | .op2 _ _ _, _, h, _, _, _, _, _ => by unfold chkA at h; cases h
  | .op3 _ _ _ _, _, h, _, _, _, _, _ => by unfold chkA at h; cases h
  | .and _ _, _, h, _, _, _, _, _ => by unfold chkA at h; cases h
  | .or _ _, _, h, _, _, _, _, _ => by unfold chkA at h; cases h
  | .ite _ _ _, _, h, _, _, _, _, _ => by unfold chkA at h; cases h
  | .chain _ _ _ _ _, _, h, _, _, _, _, _ => by unfold chkA at h; cases h
  | .call _ _, _, h, _, _, _, _, _ => by unfold chkA at h; cases h
  | .callK _ _ _, _, h, _, _, _, _, _ => by unfold chkA at h; cases h
  | .rng _, _, h, _, _, _, _, _ => by unfold chkA at h; cases h
  | .rng2 _ _, _, h, _, _, _, _, _ => by unfold chkA at h; cases h
  | .rng3 _, _, h, _, _, _, _, _ => by unfold chkA at h; cases h
  | .dct .., _, h, _, _, _, _, _ => by unfold chkA at h; cases h
  | .zip .., _, h, _, _, _, _, _ => by unfold chkA at h; cases h
  | .lstR .., _, h, _, _, _, _, _ => by unfold chkA at h; cases h
  | .comp _ _ _ _, _, h, _, _, _, _, _ => by unfold chkA at h; cases h
  | .tmp _, _, h, _, _, _, _, _ => by unfold chkA at h; cases h
theorem tup_read {K : PySem.W.Frag} {σ : L2.St} {H : Hp} {Q : VK} {n : Nat} (hn : n ≤ 1000) (hl : ∀ ρ μ v μ', ma ρ μ = .ok v μ' → ∃ vs, v = .tup vs ∧ vs.length = n) (h : tM K es W ma σ H Q) : tTup (tMA K es W ma) σ H Q := by
  obtain ⟨f, ρ, μ, S, L, h⟩ := h
  refine ⟨f, ρ, μ, S, L, ?_⟩
  cases e : ma ρ μ with
  | exc c fs μ1 => rw [e] at h; exact h
  | fail => rw [e] at h; exact h
  | ok v μ1 =>
    rw [e] at h
    obtain ⟨vs, rfl, hv⟩ := hl ρ μ v μ1 e
    exact fun f' H' xs l' S' t => ⟨by rw [t.length, hv, sizeLine_eq]; omega, fun p hp => Post.newT (Post.mono l' h) S' t p hp⟩
theorem lst_read {K : PySem.W.Frag} {σ : L2.St} {H : Hp} {Q : VK} {n : Nat} (hn : n ≤ 1000) (hl : ∀ ρ μ v μ', ma ρ μ = .ok v μ' → ∃ vs, v = .tup vs ∧ vs.length = n) (h : tM K es W (fun ρ μ => (ma ρ μ).bind fun ys μ1 => match ys with
    | .tup vs => newLst vs μ1
    | _ => .fail) σ H Q) : tLst (tMA K es W ma) σ H Q := by
  obtain ⟨f, ρ, μ, S, L, h⟩ := h
  refine ⟨f, ρ, μ, S, L, ?_⟩
  cases e : ma ρ μ with
  | exc c fs μ1 => simp only [e, Out.bind_exc] at h; exact h
  | fail => simp only [e, Out.bind_fail] at h; exact h
  | ok v μ1 =>
    obtain ⟨vs, rfl, hv⟩ := hl ρ μ v μ1 e
    simp only [e, Out.bind_ok] at h
    exact fun f' H' xs l' S' t => ⟨by rw [t.length, hv, sizeLine_eq]; omega, fun p hp => Post.newL (Post.mono l' h) S' t p hp⟩
/-- and, or as values -/
theorem and_read {K : PySem.W.Frag} {σ : L2.St} {H : Hp} {Q : VK} (h : tM K es W (fun ρ μ => (ma ρ μ).bind fun x μ1 => match x with
    | .bl true => mb ρ μ1
    | .bl false => .ok (.bl false) μ1
    | _ => .fail) σ H Q) : tAndV (tM K es W ma) (tM K es W mb) σ H Q := by
  obtain ⟨f, ρ, μ, S, L, h⟩ := h
  refine bindP S L h fun v μ1 f1 H1 x l1 S1 L1 rv h1 => ?_
  cases v with
  | bl b =>
    refine ⟨b, rv, ?_⟩
    cases b with
    | true => rw [if_pos rfl]; exact ⟨f1, ρ, μ1, S1, L1, h1⟩
    | false => rw [if_neg (by decide)]; exact Post.done (v := .bl false) h1 S1 rfl
  | _ => exact h1.elim
theorem or_read {K : PySem.W.Frag} {σ : L2.St} {H : Hp} {Q : VK} (h : tM K es W (fun ρ μ => (ma ρ μ).bind fun x μ1 => match x with
    | .bl true => .ok (.bl true) μ1
    | .bl false => mb ρ μ1
    | _ => .fail) σ H Q) : tOrV (tM K es W ma) (tM K es W mb) σ H Q := by
  obtain ⟨f, ρ, μ, S, L, h⟩ := h
  refine bindP S L h fun v μ1 f1 H1 x l1 S1 L1 rv h1 => ?_
  cases v with
  | bl b =>
    refine ⟨b, rv, ?_⟩
    cases b with
    | false => rw [if_neg (by decide)]; exact ⟨f1, ρ, μ1, S1, L1, h1⟩
    | true => rw [if_pos rfl]; exact Post.done (v := .bl true) h1 S1 rfl
  | _ => exact h1.elim
/-- the match of a test's end -/
def TP' (K : PySem.W.Frag) (es : List EC) (W : WX) (σ : L2.St) (f : List Addr) (H : Hp) (o : Out Val) (Q : Bool → Hp → Prop) : Prop := match o with
  | .ok (.bl b) μ' => ∀ f' H', Le f H f' H' → SR K f' μ' H' → Q b H'
  | .exc c fs μ' => ∀ f' H' cls d, Le f H f' H' → SR K f' μ' H' → XR K es f' H' c fs cls d → W cls d σ H'
  | _ => False
theorem TP'.mono {K : PySem.W.Frag} {σ : L2.St} {f f1 : List Addr} {H H1 : Hp} {o : Out Val} {Q : Bool → Hp → Prop} (l : Le f H f1 H1) (h : TP' K es W σ f H o Q) : TP' K es W σ f1 H1 o Q := by
  cases o with
  | ok v μ' =>
    cases v with
    | bl b => exact fun f' H' l' S => h f' H' (l.trans l') S
    | _ => exact h
  | exc c fs μ' => exact fun f' H' cls d l' S r => h f' H' cls d (l.trans l') S r
  | fail => exact h
theorem bindTT {K : PySem.W.Frag} {σ : L2.St} {f : List Addr} {H : Hp} {ρ : Loc} {μ : Sto} {k : Val → Sto → Out Val} {Q Q1 : Bool → Hp → Prop} (S : SR K f μ H) (L : LR K f H ρ σ) (h : TP' K es W σ f H ((ma ρ μ).bind k) Q) (hf : ∀ v μ1, (∀ b, v ≠ .bl b) → k v μ1 = .fail)
    (hk : ∀ b μ1 f1 H1, Le f H f1 H1 → SR K f1 μ1 H1 → LR K f1 H1 ρ σ → TP' K es W σ f1 H1 (k (.bl b) μ1) Q → Q1 b H1) : tTM K es W ma σ H Q1 := by
  refine ⟨f, ρ, μ, S, L, ?_⟩
  cases e : ma ρ μ with
  | ok v μ1 =>
    rw [e] at h
    cases v with
    | bl b => exact fun f' H' l S' => hk b μ1 f' H' l S' (L.mono l) (h.mono l)
    | _ => rw [Out.bind_ok, hf _ _ (by intro b z; cases z)] at h; exact h
  | exc c fs μ1 => rw [e] at h; exact h
  | fail => rw [e] at h; exact h
theorem andT_read {K : PySem.W.Frag} {σ : L2.St} {H : Hp} {Q : Bool → Hp → Prop} (h : tTM K es W (fun ρ μ => (ma ρ μ).bind fun x μ1 => match x with
    | .bl true => mb ρ μ1
    | .bl false => .ok (.bl false) μ1
    | _ => .fail) σ H Q) : tAnd (tTM K es W ma) (tTM K es W mb) σ H Q := by
  obtain ⟨f, ρ, μ, S, L, h⟩ := h
  refine bindTT S L h (fun v μ1 hn => by cases v <;> first | rfl | exact absurd rfl (hn _)) fun b μ1 f1 H1 l1 S1 L1 h1 => ?_
  cases b with
  | true => rw [if_pos rfl]; exact ⟨f1, ρ, μ1, S1, L1, h1⟩
  | false =>
    rw [if_neg (by decide)]
    exact h1 f1 H1 (Le.refl _ _) S1
theorem orT_read {K : PySem.W.Frag} {σ : L2.St} {H : Hp} {Q : Bool → Hp → Prop} (h : tTM K es W (fun ρ μ => (ma ρ μ).bind fun x μ1 => match x with
    | .bl true => .ok (.bl true) μ1
    | .bl false => mb ρ μ1
    | _ => .fail) σ H Q) : tOr (tTM K es W ma) (tTM K es W mb) σ H Q := by
  obtain ⟨f, ρ, μ, S, L, h⟩ := h
  refine bindTT S L h (fun v μ1 hn => by cases v <;> first | rfl | exact absurd rfl (hn _)) fun b μ1 f1 H1 l1 S1 L1 h1 => ?_
  cases b with
  | false => rw [if_neg (by decide)]; exact ⟨f1, ρ, μ1, S1, L1, h1⟩
  | true =>
    rw [if_pos rfl]
    exact h1 f1 H1 (Le.refl _ _) S1
theorem notT_read {K : PySem.W.Frag} {σ : L2.St} {H : Hp} {Q : Bool → Hp → Prop} (h : tTM K es W (e1 .not ma) σ H Q) : tNot (tTM K es W ma) σ H Q := by
  obtain ⟨f, ρ, μ, S, L, h⟩ := h
  refine bindTT S L h (fun v μ1 hn => by cases v <;> first | rfl | exact absurd rfl (hn _)) fun b μ1 f1 H1 l1 S1 L1 h1 => h1 f1 H1 (Le.refl _ _) S1
theorem ite_read {K : PySem.W.Frag} {σ : L2.St} {H : Hp} {Q : VK} (h : tM K es W (fun ρ μ => (mc ρ μ).bind fun x μ1 => match x with
    | .bl true => ma ρ μ1
    | .bl false => mb ρ μ1
    | _ => .fail) σ H Q) : tIf (tTM K es W mc) (tM K es W ma) (tM K es W mb) σ H Q := by
  obtain ⟨f, ρ, μ, S, L, h⟩ := h
  refine bindT' S L h (fun v μ1 hn => by cases v <;> first | rfl | exact absurd rfl (hn _)) fun b μ1 f1 H1 l1 S1 L1 h1 => ?_
  cases b with
  | true => rw [if_pos rfl]; exact ⟨f1, ρ, μ1, S1, L1, h1⟩
  | false => rw [if_neg (by decide)]; exact ⟨f1, ρ, μ1, S1, L1, h1⟩
theorem chain_read {K : PySem.W.Frag} {o o' : O2} {σ : L2.St} {H : Hp} {Q : VK} (h : tM K es W (fun ρ μ => (ma ρ μ).bind fun x μ1 => (mb ρ μ1).bind fun y μ2 => (sem2 o x y μ2).bind fun r μ3 => match r with
    | .bl true => (mc ρ μ3).bind fun z μ4 => sem2 o' y z μ4
    | .bl false => .ok (.bl false) μ3
    | _ => .fail) σ H Q) : tChain (r2 K es (sem2 o)) (r2 K es (sem2 o')) (tM K es W ma) (tM K es W mb) (tM K es W mc) σ H Q := by
  obtain ⟨f, ρ, μ, S, L, h⟩ := h
  refine bindP S L h fun v μ1 f1 H1 x l1 S1 L1 rv h1 => bindP S1 L1 h1 fun w μ2 f2 H2 y l2 S2 L2 rw' h2 => ?_
  refine ⟨f2, μ2, v, w, W, σ, S2, VR.mono l2 _ _ rv, rw', ?_⟩
  cases e : sem2 o v w μ2 with
  | exc c fs μ3 => rw [e] at h2; exact h2
  | fail => rw [e] at h2; exact h2
  | ok r μ3 =>
    rw [e, Out.bind_ok] at h2
    cases r with
    | bl b =>
      intro f3 H3 z l3 S3 rz
      refine ⟨b, rz, ?_⟩
      cases b with
      | true =>
        rw [if_pos rfl]
        exact bindP S3 (L2.mono l3) (Post.mono l3 h2) fun u μ4 f4 H4 z' l4 S4 L4 ru h4 => ⟨f4, μ4, w, u, W, σ, S4, VR.mono (l3.trans l4) _ _ rw', ru, h4⟩
      | false =>
        rw [if_neg (by decide)]
        exact Post.done (v := .bl false) (Post.mono l3 h2) S3 rfl
    | _ => exact h2.elim
theorem cmp_calm {o : O2} {op : CmpOp} (h : cmpOp o = some op) : pre2 o = fun _ _ => true := by
  cases o <;> first | rfl | cases h
end
end Mi
end

section
set_option Elab.async false
set_option linter.all false
set_option maxRecDepth 100000
set_option autoImplicit false
set_option maxHeartbeats 1000000
/-! Sound10: forgetting cells; every term. -/
namespace Mi
open PySem PySem.Spec L2
open PyProof.Rows hiding St
section
variable {K : PySem.W.Frag} {f f' : List Addr} {H H' : Hp} {μ μ' : Sto}
mutual
theorem VR.under : ∀ (v : Val) (x : V), VR K f H v x → v.under f.length = true
  | .non, _, _ => rfl
  | .bl _, _, _ => rfl
  | .int _, _, _ => rfl
  | .str _, _, _ => rfl
  | .tup vs, x, ⟨a, xs, e, h, r⟩ => VRs.under vs xs r
  | .ref n, x, ⟨a, h, e⟩ => decide_eq_true (List.getElem?_eq_some_iff.mp h).1
  | .scr ns, x, _ => rfl
theorem VRs.under : ∀ (vs : List Val) (xs : List V), VRs K f H vs xs → underAll f.length vs = true
  | [], _, _ => rfl
  | v :: vs, _, ⟨x, r, e, h, t⟩ => by
    show (v.under f.length && underAll f.length vs) = true
    rw [VR.under v x h, VRs.under vs r t]; rfl
end
mutual
theorem VR.shrink (hp : f <+: f') : ∀ (v : Val) (x : V), v.under f.length = true → VR K f' H v x → VR K f H v x
  | .non, _, _, h => h
  | .bl _, _, _, h => h
  | .int _, _, _, h => h
  | .str _, _, _, h => h
  | .tup vs, x, hu, ⟨a, xs, e, h, r⟩ => ⟨a, xs, e, h, VRs.shrink hp vs xs hu r⟩
  | .ref n, x, hu, ⟨a, h, e⟩ => by
    obtain ⟨t, rfl⟩ := hp
    have hn : n < f.length := of_decide_eq_true hu
    rw [List.getElem?_append_left hn] at h
    exact ⟨a, h, e⟩
  | .scr ns, x, _, h => h
theorem VRs.shrink (hp : f <+: f') : ∀ (vs : List Val) (xs : List V), underAll f.length vs = true → VRs K f' H vs xs → VRs K f H vs xs
  | [], _, _, h => h
  | v :: vs, _, hu, ⟨x, r, e, h, t⟩ => by
    have hu' : (v.under f.length && underAll f.length vs) = true := hu
    rw [Bool.and_eq_true] at hu'
    exact ⟨x, r, e, VR.shrink hp v x hu'.1 h, VRs.shrink hp vs r hu'.2 t⟩
end
theorem key_under {n : Nat} {k : Val} (h : keyOk false k = true) : k.under n = true := by
  cases k with
  | int i => rfl
  | str s => rfl
  | _ => simp [keyOk] at h
theorem KRs.under : ∀ {kvs : List (Val × Val)} {ks : List (Key × V)}, KRs K f H kvs ks → (kvs.all fun p => p.1.under f.length && p.2.under f.length) = true
  | [], _, _ => rfl
  | p :: r, _, ⟨x, t, e, ho, h, q⟩ => by rw [List.all_cons, key_under ho, VR.under _ _ h, KRs.under q]; rfl
theorem TRs.under : ∀ {kvs : List (Val × Val)} {ks : List DX.Ent}, TRs K f H kvs ks → (kvs.all fun p => p.1.under f.length && p.2.under f.length) = true
  | [], _, _ => rfl
  | p :: r, _, ⟨b, x, t, e, ho, hk, h, q⟩ => by rw [List.all_cons, VR.under _ _ hk, VR.under _ _ h, TRs.under q]; rfl
theorem KRs.shrink (hp : f <+: f') : ∀ {kvs : List (Val × Val)} {ks : List (Key × V)}, (kvs.all fun p => p.1.under f.length && p.2.under f.length) = true → KRs K f' H kvs ks → KRs K f H kvs ks
  | [], _, _, h => h
  | p :: r, _, hu, ⟨x, t, e, ho, h, q⟩ => by
    rw [List.all_cons, Bool.and_eq_true, Bool.and_eq_true] at hu
    exact ⟨x, t, e, ho, VR.shrink hp _ _ hu.1.2 h, KRs.shrink hp hu.2 q⟩
theorem TRs.shrink (hp : f <+: f') : ∀ {kvs : List (Val × Val)} {ks : List DX.Ent}, (kvs.all fun p => p.1.under f.length && p.2.under f.length) = true → TRs K f' H kvs ks → TRs K f H kvs ks
  | [], _, _, h => h
  | p :: r, _, hu, ⟨b, x, t, e, ho, hk, h, q⟩ => by
    rw [List.all_cons, Bool.and_eq_true, Bool.and_eq_true] at hu
    exact ⟨b, x, t, e, ho, VR.shrink hp _ _ hu.1.1 hk, VR.shrink hp _ _ hu.1.2 h, TRs.shrink hp hu.2 q⟩
theorem pre_get (hp : f <+: f') {n : Nat} (hn : n < f.length) : f'[n]? = f[n]? := by
  obtain ⟨t, rfl⟩ := hp
  exact List.getElem?_append_left hn
theorem stable_SR (S : SR K f μ H) (l : Le f H f' H') (S' : SR K f' μ' H') (h : stable μ μ' = true) : SR K f (μ'.take μ.length) H' := by
  unfold stable at h
  rw [Bool.and_eq_true, decide_eq_true_eq] at h
  obtain ⟨hl, hc⟩ := h
  refine ⟨by rw [List.length_take, S.len]; omega, S.nd, fun n c a h1 h2 => ?_⟩
  have hn : n < f.length := (List.getElem?_eq_some_iff.mp h2).1
  have hn' : n < μ.length := by rw [← S.len]; exact hn
  rw [List.getElem?_take_of_lt hn'] at h1
  have q := S'.cell n c a h1 (by rw [pre_get l.pre hn]; exact h2)
  have hk := List.all_eq_true.mp hc n (List.mem_range.mpr hn')
  rw [Bool.or_eq_true, decide_eq_true_eq] at hk
  cases c with
  | lst vs =>
    obtain ⟨xs, q1, q2⟩ := q
    refine ⟨xs, q1, VRs.shrink l.pre _ _ ?_ q2⟩
    rcases hk with hk | hk
    · rw [h1] at hk
      obtain ⟨ys, _, t⟩ := S.cell n _ a hk.symm h2
      exact VRs.under _ _ t
    · rw [h1] at hk
      rw [S.len]
      exact hk
  | dict d kvs =>
    have hu : (kvs.all fun p => p.1.under f.length && p.2.under f.length) = true := by
      rcases hk with hk | hk
      · rw [h1] at hk
        have q0 := S.cell n _ a hk.symm h2
        cases d with
        | false => obtain ⟨ys, _, t⟩ := q0; exact t.under
        | true => obtain ⟨ys, _, t⟩ := q0; exact t.under
      · rw [h1] at hk
        rw [S.len]
        exact hk
    cases d with
    | false => obtain ⟨xs, q1, q2⟩ := q; exact ⟨xs, q1, KRs.shrink l.pre hu q2⟩
    | true => obtain ⟨xs, q1, q2⟩ := q; exact ⟨xs, q1, TRs.shrink l.pre hu q2⟩
  | ins _ _ => exact q.elim
theorem Le.back (l : Le f H f' H') : Le f H f H' := ⟨List.prefix_refl _, l.kp, fun b o h e => ⟨(l.oth b o h e).1, h⟩⟩
theorem clean_ok {v : Val} {x : V} (S : SR K f μ H) (l : Le f H f' H') (S' : SR K f' μ' H') (r : VR K f' H' v x) : ∃ f2, Le f H f2 H' ∧ SR K f2 (clean μ v μ').2 H' ∧ VR K f2 H' (clean μ v μ').1 x := by
  have id' : ∃ f2, Le f H f2 H' ∧ SR K f2 μ' H' ∧ VR K f2 H' v x := ⟨f', l, S', r⟩
  unfold clean
  by_cases h : stable μ μ' = true
  · rw [if_pos h]
    have S0 := stable_SR S l S' h
    by_cases hu : v.under μ.length = true
    · rw [if_pos hu]
      exact ⟨f, l.back, S0, VR.shrink l.pre v x (by rw [S.len]; exact hu) r⟩
    · rw [if_neg hu]
      split
      · rename_i k
        split
        · rename_i xs e
          by_cases hc : (underAll μ.length xs && decide (μ.length ≤ k)) = true
          · rw [if_pos hc]
            rw [Bool.and_eq_true, decide_eq_true_eq] at hc
            obtain ⟨a, ha, rfl⟩ := r
            obtain ⟨ys, hq, t⟩ := S'.cell k _ a e ha
            have haf : a ∉ f := fun hm => by
              obtain ⟨n, hn, en⟩ := List.getElem_of_mem hm
              have e1 : f'[n]? = some a := by rw [pre_get l.pre hn, List.getElem?_eq_getElem hn, en]
              have hlt : n < f'.length := (List.getElem?_eq_some_iff.mp e1).1
              have := (List.getElem?_inj hlt S'.nd).mp (e1.trans ha.symm)
              have := S.len
              omega
            refine ⟨f ++ [a], ⟨⟨[a], rfl⟩, l.kp, fun b o hb eb => ?_⟩, S0.join haf hq (VRs.shrink l.pre _ _ (by rw [S.len]; exact hc.1) t), ⟨a, by rw [← S.len]; simp, rfl⟩⟩
            obtain ⟨e1, h1⟩ := l.oth b o hb eb
            refine ⟨e1, ?_⟩
            rw [List.mem_append, List.mem_singleton, not_or]
            exact ⟨hb, fun z => h1 (by rw [z]; exact List.mem_of_getElem? ha)⟩
          · rw [if_neg hc]; exact id'
        · exact id'
      · exact id'
  · rw [if_neg h]; exact id'
end
theorem clean_bl {μ μ' : Sto} {v : Val} {b : Bool} (h : (clean μ v μ').1 = .bl b) : v = .bl b := by
  unfold clean at h
  split at h
  · split at h
    · exact h
    · split at h
      · split at h
        · split at h
          · cases h
          · exact h
        · exact h
      · exact h
  · exact h
section
variable {Γ : Gam} {es : List EC} {C : CallF} {lv : Nat}
theorem tmp_read {K : PySem.W.Frag} {W : WX} {ma : Loc → Sto → Out Val} {σ : L2.St} {H : Hp} {Q : VK} (h : tM K es W (fun ρ μ => match ma ρ μ with
    | .ok v μ1 => .ok (clean μ v μ1).1 (clean μ v μ1).2
    | r => r) σ H Q) : tM K es W ma σ H Q := by
  obtain ⟨f, ρ, μ, S, L, h⟩ := h
  refine ⟨f, ρ, μ, S, L, ?_⟩
  cases e : ma ρ μ with
  | exc c fs μ1 => simp only [e] at h; exact h
  | fail => simp only [e] at h; exact h
  | ok v μ1 =>
    simp only [e] at h
    intro f' H' x l S' r
    obtain ⟨f2, l2, S2, r2⟩ := clean_ok S l S' r
    exact h f2 H' x l2 S2 r2
theorem tmp_readT {K : PySem.W.Frag} {W : WX} {ma : Loc → Sto → Out Val} {σ : L2.St} {H : Hp} {Q : Bool → Hp → Prop} (h : tTM K es W (fun ρ μ => match ma ρ μ with
    | .ok v μ1 => .ok (clean μ v μ1).1 (clean μ v μ1).2
    | r => r) σ H Q) : tTM K es W ma σ H Q := by
  obtain ⟨f, ρ, μ, S, L, h⟩ := h
  refine ⟨f, ρ, μ, S, L, ?_⟩
  cases e : ma ρ μ with
  | exc c fs μ1 => simp only [e] at h; exact h
  | fail => simp only [e] at h
  | ok v μ1 =>
    simp only [e] at h
    cases v with
    | bl b =>
      intro f' H' l S'
      obtain ⟨f2, l2, S2, r2⟩ := clean_ok (v := .bl b) S l S' (x := .bl b) rfl
      have e1 : (clean μ (.bl b) μ1).1 = .bl b := by
        unfold clean
        split
        · rfl
        · rfl
      rw [e1] at h
      exact h f2 H' l2 S2
    | _ =>
      split at h
      · rename_i b' μ2 he
        injection he with e1 e2
        exact absurd (clean_bl e1) (by intro z; cases z)
      · rename_i he; cases he
      · exact h.elim
end
end Mi
end

section
set_option Elab.async false
set_option linter.all false
set_option maxRecDepth 100000
set_option autoImplicit false
set_option maxHeartbeats 1000000
/-! Sound11: every term. -/
namespace Mi
open PySem PySem.Spec L2
open PyProof.Rows hiding St
section
variable {Γ : Gam} {es : List EC} {C : CallF} {lv : Nat}
theorem constV_ok {X : Cx} {e : Expr} {u : Val} {K : PySem.W.Frag} (h : asConst e = some u) : ∃ y, PE X e (tC y) ∧ (∀ f H, VR K f H u y) ∧ byVal e = true := by
  unfold asConst at h
  split at h <;> first | cases h | skip
  · exact ⟨.non, pe_non, fun f H => rfl, rfl⟩
  · exact ⟨.bl _, pe_bl, fun f H => rfl, rfl⟩
  · exact ⟨.int _, pe_int, fun f H => rfl, rfl⟩
  · rename_i s _ _
    exact ⟨.str s, pe_str, fun f H => by
      show V.str s = .str ⟨s.cps.toList.toArray⟩
      rw [Array.toArray_toList], rfl⟩
/-- cst -/
theorem snd_cst {v : Val} : Snd Γ es C lv (.cst v) := by
  have he : ∀ {S X W e}, XOk Γ es C lv S X → Takes X W → chk Γ S (.cst v) e = true → PE X e (tM X.K es W (ev C (.cst v))) ∧ byVal e = true := by
    intro S X W e HX tk h
    have fin : ∀ y, PE X e (tC y) → (∀ f H, VR X.K f H v y) → PE X e (tM X.K es W (ev C (.cst v))) := fun y hy hr => PE.weak hy fun σ H Q q => by
      obtain ⟨f, ρ, μ, S, L, h⟩ := q
      exact Post.done (v := v) h S (hr f H)
    unfold chk at h
    split at h
    · rename_i u hu
      obtain ⟨y, h1, h2, h3⟩ := constV_ok (X := X) (K := X.K) hu
      have e1 := of_decide_eq_true h
      subst e1
      exact ⟨fin y h1 h2, h3⟩
    · split at h
      · rename_i x hx
        obtain ⟨p, rfl⟩ := asName_ok hx
        simp only [Bool.and_eq_true, decide_eq_true_eq] at h
        obtain ⟨⟨h1, h2⟩, h3⟩ := h
        obtain ⟨u, y, hm, hr, hv⟩ := HX.cs x v h3
        exact ⟨fin y (pe_glob (HX.gl h1) hm hr (plainName_ok h2).1) hv, rfl⟩
      · cases h
  exact Snd.val rfl (fun h1 h2 h3 => (he h1 h2 h3).1) (fun h1 h2 h3 _ => ⟨pt_default (he h1 h2 h3).1 (he h1 h2 h3).2, noBool (he h1 h2 h3).2⟩) (fun S l => by unfold chkA; rfl)
theorem snd_var {i : Nat} : Snd Γ es C lv (.var i) := by
  have he : ∀ {S X W e}, XOk Γ es C lv S X → Takes X W → chk Γ S (.var i) e = true → PE X e (tM X.K es W (ev C (.var i))) ∧ byVal e = true := by
    intro S X W e HX tk h
    unfold chk at h
    split at h
    · rename_i x hx
      obtain ⟨p, rfl⟩ := asName_ok hx
      simp only [Bool.and_eq_true, decide_eq_true_eq] at h
      obtain ⟨⟨h1, h2⟩, h3⟩ := h
      obtain ⟨n1, n2, _⟩ := plainName_ok h3
      refine ⟨PE.weak (pe_var (i := i) (by rw [HX.hN]; exact h1) (by rw [HX.hsc]; exact visB_ok h2) n1 n2) fun σ H Q q => ?_, rfl⟩
      obtain ⟨f, ρ, μ, S, L, h⟩ := q
      have h' : Post X.K es W σ f H (match ρ[i]? with
        | some (some v) => .ok v μ
        | _ => .fail) Q := h
      split at h'
      · rename_i v hv
        obtain ⟨y, e1, r⟩ := L.get i v hv
        exact ⟨y, e1, h'.done S r⟩
      · exact h'.elim
    · cases h
  exact Snd.val rfl (fun h1 h2 h3 => (he h1 h2 h3).1) (fun h1 h2 h3 _ => ⟨pt_default (he h1 h2 h3).1 (he h1 h2 h3).2, noBool (he h1 h2 h3).2⟩) (fun S l => by unfold chkA; rfl)
theorem snd_nil : Snd Γ es C lv .nil := by
  refine ⟨fun _ _ h _ => (by unfold chk at h; cases h), fun _ _ h _ _ => (by unfold chk at h; cases h), fun _ _ h _ _ => (by unfold chk at h; cases h), ?_, ?_, ?_⟩
  · intro S X W l HX tk h
    cases l with
    | nil => exact PA.weak pa_nil fun σ H Q ⟨f, ρ, μ, S, L, h⟩ => h f H [] (Le.refl _ _) S rfl
    | cons _ _ => unfold chkA at h; cases h
  · intro S X W kws HX tk h
    cases kws with
    | nil => exact PK.weak pk_nil fun σ H Q ⟨f, ρ, μ, S, L, h⟩ => h f H [] (Le.refl _ _) S rfl
    | cons _ _ => rw [List.map_cons] at h; unfold chkA at h; cases h
  · intro S X W vs keys ks pos HX tk h hk hko hl
    cases vs with
    | cons _ _ => unfold chkA at h; cases h
    | nil =>
      cases ks with
      | cons _ _ => cases hl
      | nil =>
        cases keys with
        | cons k _ => cases k <;> cases hk
        | nil => exact ⟨[], pps_nil, fun σ H Q ⟨f, ρ, μ, S, L, h⟩ => h f H [] (Le.refl _ _) S rfl⟩
theorem snd_cons {a b : ME} (ha : Snd Γ es C lv a) (hb : Snd Γ es C lv b) : Snd Γ es C lv (.cons a b) := by
  refine ⟨fun _ _ h _ => (by unfold chk at h; cases h), fun _ _ h _ _ => (by unfold chk at h; cases h), fun _ _ h _ _ => (by unfold chk at h; cases h), ?_, ?_, ?_⟩
  · intro S X W l HX tk h
    cases l with
    | nil => unfold chkA at h; cases h
    | cons e r =>
      have h' : (vE a && plainArg e && chk Γ S a e && chkA Γ S b r) = true := by unfold chkA at h; exact h
      simp only [Bool.and_eq_true] at h'
      obtain ⟨⟨⟨h1, h2⟩, h3⟩, h4⟩ := h'
      exact PA.weak (pa_cons (ha.e HX tk h3 h1) (hb.a HX tk h4) (star_cons h2 _ _)) fun σ H Q q => pa_read q
  · intro S X W kws HX tk h
    cases kws with
    | nil => rw [List.map_nil] at h; unfold chkA at h; cases h
    | cons e r =>
      obtain ⟨nm, ex, kp⟩ := e
      have h' : (vE a && plainArg ex && chk Γ S a ex && chkA Γ S b (r.map (·.value))) = true := by rw [List.map_cons] at h; unfold chkA at h; exact h
      simp only [Bool.and_eq_true] at h'
      obtain ⟨⟨⟨h1, h2⟩, h3⟩, h4⟩ := h'
      exact PK.weak (pk_cons (ha.e HX tk h3 h1) (hb.k HX tk h4)) fun σ H Q q => pa_read q
  · intro S X W vs keys ks pos HX tk h hk hko hl
    cases vs with
    | nil => unfold chkA at h; cases h
    | cons e r =>
      have h' : (vE a && plainArg e && chk Γ S a e && chkA Γ S b r) = true := by unfold chkA at h; exact h
      simp only [Bool.and_eq_true] at h'
      obtain ⟨⟨⟨h1, h2⟩, h3⟩, h4⟩ := h'
      cases ks with
      | nil => cases hl
      | cons k ks =>
        match keys, hk with
        | some ke :: keys, hk =>
          have hk' : (decide (asConst ke = some k) && keysOk keys ks) = true := hk
          rw [Bool.and_eq_true, decide_eq_true_eq] at hk'
          rw [List.all_cons, Bool.and_eq_true] at hko
          obtain ⟨y, c1, c2, _⟩ := constV_ok (X := X) (K := X.K) hk'.1
          obtain ⟨trs, p1, p2⟩ := hb.d (pos := pos) HX tk h4 hk'.2 hko.2 (by simpa using hl)
          refine ⟨(tC y, tM X.K es W (ev C a)) :: trs, pps_cons c1 (ha.e HX tk h3 h1) p1, fun σ H Q q => ?_⟩
          have q' := pa_read q
          show tM X.K es W (ev C a) σ H fun v H2 => tPairs trs σ H2 fun ps H3 => Q ((y, v) :: ps) H3
          obtain ⟨f, ρ, μ, S0, L, q'⟩ := q'
          refine ⟨f, ρ, μ, S0, L, ?_⟩
          have ey : y = kV (keyV k) := key_kV hko.1 (c2 f H)
          cases e1 : ev C a ρ μ with
          | ok v μ1 =>
            rw [e1] at q'
            exact fun f' H' x l' S' rx => p2 σ H' _ (by rw [ey]; exact q' f' H' x l' S' rx)
          | exc c fs μ1 => rw [e1] at q'; exact q'
          | fail => rw [e1] at q'; exact q'
        | none :: keys, hk => cases hk
        | [], hk => cases hk
theorem snd_tupE {a : ME} (ha : Snd Γ es C lv a) : Snd Γ es C lv (.tupE a) := by
  have he : ∀ {S X W e}, XOk Γ es C lv S X → Takes X W → chk Γ S (.tupE a) e = true → PE X e (tM X.K es W (ev C (.tupE a))) ∧ byVal e = true := by
    intro S X W e HX tk h
    unfold chk at h
    split at h
    · rename_i l hl
      obtain ⟨k, p, rfl⟩ := asTup_ok hl
      rw [Bool.and_eq_true, decide_eq_true_eq] at h
      exact ⟨PE.weak (pe_tup (ha.a HX tk h.1)) fun σ H Q q => tup_read h.2 (argc_len a l h.1) q, rfl⟩
    · cases h
  exact Snd.val rfl (fun h1 h2 h3 => (he h1 h2 h3).1) (fun h1 h2 h3 _ => ⟨pt_default (he h1 h2 h3).1 (he h1 h2 h3).2, noBool (he h1 h2 h3).2⟩) (fun S l => by unfold chkA; rfl)
theorem snd_lstE {a : ME} (ha : Snd Γ es C lv a) : Snd Γ es C lv (.lstE a) := by
  have he : ∀ {S X W e}, XOk Γ es C lv S X → Takes X W → chk Γ S (.lstE a) e = true → PE X e (tM X.K es W (ev C (.lstE a))) ∧ byVal e = true := by
    intro S X W e HX tk h
    unfold chk at h
    split at h
    · rename_i l hl
      obtain ⟨p, rfl⟩ := asLst_ok hl
      rw [Bool.and_eq_true, decide_eq_true_eq] at h
      exact ⟨PE.weak (pe_lst (ha.a HX tk h.1)) fun σ H Q q => lst_read h.2 (argc_len a l h.1) q, rfl⟩
    · cases h
  exact Snd.val rfl (fun h1 h2 h3 => (he h1 h2 h3).1) (fun h1 h2 h3 _ => ⟨pt_default (he h1 h2 h3).1 (he h1 h2 h3).2, noBool (he h1 h2 h3).2⟩) (fun S l => by unfold chkA; rfl)
theorem sub1_noBool {S : SS} {o : O1} {e x : Expr} (h : sub1 Γ S o e = some x) : ∀ op l p, e ≠ .BoolOp op l p := by
  intro op l p z
  subst z
  cases o <;> first | (unfold sub1 at h; dsimp only at h; cases h; done) | cases h
theorem snd_op1 {o : O1} {a : ME} (ha : Snd Γ es C lv a) : Snd Γ es C lv (.op1 o a) := by
  have hx : ∀ {S e}, chk Γ S (.op1 o a) e = true → ∃ x, sub1 Γ S o e = some x ∧ vE a = true ∧ plainArg x = true ∧ chk Γ S a x = true := by
    intro S e h
    unfold chk at h
    split at h
    · rename_i x hx
      simp only [Bool.and_eq_true] at h
      exact ⟨x, hx, h.1.1, h.1.2, h.2⟩
    · cases h
  refine Snd.val rfl (fun HX tk h => ?_) (fun {S X W e} HX tk h ht => ?_) (fun S l => by unfold chkA; rfl)
  · obtain ⟨x, h1, h2, h3, h4⟩ := hx h
    exact (snd1 HX h1 h3 (ha.e HX tk h4 h2)).1
  · obtain ⟨x, h1, h2, h3, h4⟩ := hx h
    refine ⟨?_, fun op l p z => absurd z (sub1_noBool h1 op l p)⟩
    by_cases ho : o = .not
    · subst ho
      have hu : ∃ p, e = .UnaryOp .Not x p := by
        unfold sub1 at h1
        dsimp only at h1
        split at h1
        · rename_i y e1'
          cases h1
          exact asUn_ok e1'
        · cases h1
      obtain ⟨p, rfl⟩ := hu
      exact PT.weak (pt_not (ha.t HX tk h4 h2 ht).1) fun σ H Q q => notT_read q
    · exact (snd1 HX h1 h3 (ha.e HX tk h4 h2)).2 ho
theorem sub2_noBool {S : SS} {o : O2} {e : Expr} {r : Expr × Expr} (h : sub2 Γ S o e = some r) : ∀ op l p, e ≠ .BoolOp op l p := by
  intro op l p z
  subst z
  cases o <;> cases h
theorem snd_op2 {o : O2} {a b : ME} (ha : Snd Γ es C lv a) (hb : Snd Γ es C lv b) : Snd Γ es C lv (.op2 o a b) := by
  have hx : ∀ {S e}, chk Γ S (.op2 o a b) e = true → ∃ x y, sub2 Γ S o e = some (x, y) ∧ vE a = true ∧ vE b = true ∧ plainArg x = true ∧ plainArg y = true ∧ chk Γ S a x = true ∧ chk Γ S b y = true := by
    intro S e h
    unfold chk at h
    split at h
    · rename_i x y hx
      simp only [Bool.and_eq_true] at h
      exact ⟨x, y, hx, h.1.1.1.1.1, h.1.1.1.1.2, h.1.1.1.2, h.1.1.2, h.1.2, h.2⟩
    · cases h
  refine Snd.val rfl (fun HX tk h => ?_) (fun HX tk h _ => ?_) (fun S l => by unfold chkA; rfl)
  · obtain ⟨x, y, h1, h2, h3, h4, h5, h6, h7⟩ := hx h
    exact (snd2 HX h1 h4 h5 (ha.e HX tk h6 h2) (hb.e HX tk h7 h3)).1
  · obtain ⟨x, y, h1, h2, h3, h4, h5, h6, h7⟩ := hx h
    exact ⟨(snd2 HX h1 h4 h5 (ha.e HX tk h6 h2) (hb.e HX tk h7 h3)).2, fun op l p z => absurd z (sub2_noBool h1 op l p)⟩
theorem sub3_noBool {S : SS} {o : O3} {e : Expr} {r : Expr × Expr × Expr} (h : sub3 Γ S o e = some r) : ∀ op l p, e ≠ .BoolOp op l p := by
  intro op l p z
  subst z
  cases o <;> cases h
theorem snd_op3 {o : O3} {a b c : ME} (ha : Snd Γ es C lv a) (hb : Snd Γ es C lv b) (hc : Snd Γ es C lv c) : Snd Γ es C lv (.op3 o a b c) := by
  have hx : ∀ {S e}, chk Γ S (.op3 o a b c) e = true → ∃ x y z, sub3 Γ S o e = some (x, y, z) ∧ (isSl o || (plainArg y && plainArg z)) = true ∧ vE a = true ∧ vE b = true ∧ vE c = true ∧ chk Γ S a x = true ∧ chk Γ S b y = true ∧ chk Γ S c z = true := by
    intro S e h
    unfold chk at h
    split at h
    · rename_i x y z hx
      rw [Bool.and_eq_true, Bool.and_eq_true, Bool.and_eq_true, Bool.and_eq_true, Bool.and_eq_true, Bool.and_eq_true] at h
      exact ⟨x, y, z, hx, h.1.1.1.1.1.1, h.1.1.1.1.1.2, h.1.1.1.1.2, h.1.1.1.2, h.1.1.2, h.1.2, h.2⟩
    · cases h
  refine Snd.val rfl (fun HX tk h => ?_) (fun HX tk h _ => ?_) (fun S l => by unfold chkA; rfl)
  · obtain ⟨x, y, z, h1, h0, h2, h3, h4, h5, h6, h7⟩ := hx h
    exact (snd3 HX h1 h0 (ha.e HX tk h5 h2) (hb.e HX tk h6 h3) (hc.e HX tk h7 h4)).1
  · obtain ⟨x, y, z, h1, h0, h2, h3, h4, h5, h6, h7⟩ := hx h
    exact ⟨(snd3 HX h1 h0 (ha.e HX tk h5 h2) (hb.e HX tk h6 h3) (hc.e HX tk h7 h4)).2, fun op l p z => absurd z (sub3_noBool h1 op l p)⟩
theorem snd_and {a b : ME} (ha : Snd Γ es C lv a) (hb : Snd Γ es C lv b) : Snd Γ es C lv (.and a b) := by
  refine Snd.val rfl (fun {S X W e} HX tk h => ?_) (fun {S X W e} HX tk h ht => ?_) (fun S l => by unfold chkA; rfl)
  · unfold chk at h
    split at h
    · rename_i x y p hl
      have := asBool_ok hl
      subst this
      simp only [Bool.and_eq_true] at h
      obtain ⟨⟨⟨h1, h2⟩, h3⟩, h4⟩ := h
      exact PE.weak (pe_and (ha.e HX tk h3 h1) (pe_one (hb.e HX tk h4 h2))) fun σ H Q q => and_read q
    · rename_i x y z r p hl
      have := asBool_ok hl
      subst this
      simp only [Bool.and_eq_true] at h
      obtain ⟨⟨⟨h1, h2⟩, h3⟩, h4⟩ := h
      exact PE.weak (pe_and (ha.e HX tk h3 h1) (hb.e HX tk h4 h2)) fun σ H Q q => and_read q
    · cases h
  · have ht' : (tstM a && tstM b) = true := ht
    rw [Bool.and_eq_true] at ht'
    have hw : PW X e (tTM X.K es W (ev C (.and a b))) := by
      unfold chk at h
      split at h
      · rename_i x y p hl
        have := asBool_ok hl
        subst this
        simp only [Bool.and_eq_true] at h
        obtain ⟨⟨⟨h1, h2⟩, h3⟩, h4⟩ := h
        exact PW.weak (pw_and (ha.t HX tk h3 h1 ht'.1).1 (pw_and1 (hb.t HX tk h4 h2 ht'.2).1)) fun σ H Q q => andT_read q
      · rename_i x y z r p hl
        have := asBool_ok hl
        subst this
        simp only [Bool.and_eq_true] at h
        obtain ⟨⟨⟨h1, h2⟩, h3⟩, h4⟩ := h
        exact PW.weak (pw_and (ha.t HX tk h3 h1 ht'.1).1 ((hb.t HX tk h4 h2 ht'.2).2 _ _ _ rfl)) fun σ H Q q => andT_read q
      · cases h
    exact ⟨hw.pt, fun _ _ _ _ => hw⟩
theorem snd_or {a b : ME} (ha : Snd Γ es C lv a) (hb : Snd Γ es C lv b) : Snd Γ es C lv (.or a b) := by
  refine Snd.val rfl (fun {S X W e} HX tk h => ?_) (fun {S X W e} HX tk h ht => ?_) (fun S l => by unfold chkA; rfl)
  · unfold chk at h
    split at h
    · rename_i x y p hl
      have := asBool_ok hl
      subst this
      simp only [Bool.and_eq_true] at h
      obtain ⟨⟨⟨h1, h2⟩, h3⟩, h4⟩ := h
      exact PE.weak (pe_or (ha.e HX tk h3 h1) (pe_one (hb.e HX tk h4 h2))) fun σ H Q q => or_read q
    · rename_i x y z r p hl
      have := asBool_ok hl
      subst this
      simp only [Bool.and_eq_true] at h
      obtain ⟨⟨⟨h1, h2⟩, h3⟩, h4⟩ := h
      exact PE.weak (pe_or (ha.e HX tk h3 h1) (hb.e HX tk h4 h2)) fun σ H Q q => or_read q
    · cases h
  · have ht' : (tstM a && tstM b) = true := ht
    rw [Bool.and_eq_true] at ht'
    have hw : PW X e (tTM X.K es W (ev C (.or a b))) := by
      unfold chk at h
      split at h
      · rename_i x y p hl
        have := asBool_ok hl
        subst this
        simp only [Bool.and_eq_true] at h
        obtain ⟨⟨⟨h1, h2⟩, h3⟩, h4⟩ := h
        exact PW.weak (pw_or (ha.t HX tk h3 h1 ht'.1).1 (pw_or1 (hb.t HX tk h4 h2 ht'.2).1)) fun σ H Q q => orT_read q
      · rename_i x y z r p hl
        have := asBool_ok hl
        subst this
        simp only [Bool.and_eq_true] at h
        obtain ⟨⟨⟨h1, h2⟩, h3⟩, h4⟩ := h
        exact PW.weak (pw_or (ha.t HX tk h3 h1 ht'.1).1 ((hb.t HX tk h4 h2 ht'.2).2 _ _ _ rfl)) fun σ H Q q => orT_read q
      · cases h
    exact ⟨hw.pt, fun _ _ _ _ => hw⟩
theorem snd_ite {c a b : ME} (hc : Snd Γ es C lv c) (ha : Snd Γ es C lv a) (hb : Snd Γ es C lv b) : Snd Γ es C lv (.ite c a b) := by
  refine Snd.val rfl (fun {S X W e} HX tk h => ?_) (fun {S X W e} HX tk h ht => by cases ht) (fun S l => by unfold chkA; rfl)
  unfold chk at h
  split at h
  · rename_i x y z hl
    obtain ⟨p, rfl⟩ := asIf_ok hl
    simp only [Bool.and_eq_true] at h
    obtain ⟨⟨⟨⟨⟨⟨h1, h2⟩, h3⟩, h4⟩, h5⟩, h6⟩, h7⟩ := h
    exact PE.weak (pe_ifExp (hc.t HX tk h5 h3 h4).1 (ha.e HX tk h6 h1) (hb.e HX tk h7 h2)) fun σ H Q q => ite_read q
  · cases h
theorem marks2 {op op' : CmpOp} {b c : Expr} (hb : noSet b = true) (hc : noSet c = true) : lastMarks [op, op'] [b, c] = false := by
  show behindInMarks op' c = false
  exact marks_no hc
theorem snd_chain {o o' : O2} {a b c : ME} (ha : Snd Γ es C lv a) (hb : Snd Γ es C lv b) (hc : Snd Γ es C lv c) : Snd Γ es C lv (.chain o o' a b c) := by
  have hx : ∀ {S X W e}, XOk Γ es C lv S X → Takes X W → chk Γ S (.chain o o' a b c) e = true → PE X e (tM X.K es W (ev C (.chain o o' a b c))) ∧ PT X e (tTM X.K es W (ev C (.chain o o' a b c))) ∧ ∀ op l p, e ≠ .BoolOp op l p := by
    intro S X W e HX tk h
    unfold chk at h
    split at h
    · rename_i x op op' y z hl
      obtain ⟨p, rfl⟩ := asCmp2_ok hl
      simp only [Bool.and_eq_true] at h
      obtain ⟨⟨⟨⟨⟨⟨h0, h1⟩, h2⟩, h3⟩, h4⟩, h5⟩, h6⟩ := h
      split at h0
      · rename_i q q' hq hq'
        simp only [Bool.and_eq_true] at h0
        obtain ⟨⟨⟨k1, k2⟩, k3⟩, k4⟩ := h0
        have z1 := cmpEq_ok k1
        have z2 := cmpEq_ok k2
        subst z1 z2
        refine ⟨PE.weak (pe_chain (cmp_op HX hq) (cmp_op HX hq') (ha.e HX tk h4 h1) (hb.e HX tk h5 h2) (hc.e HX tk h6 h3) (marks2 k3 k4)) fun σ H Q q => chain_read q,
          PT.weak (pt_chain (cmp_op HX hq) (cmp_op HX hq') (ha.e HX tk h4 h1) (hb.e HX tk h5 h2) (hc.e HX tk h6 h3) (marks2 k3 k4)) fun σ H Q q => chain_read (tTM_val q), fun op l p z => by cases z⟩
      · cases h0
    · cases h
  exact Snd.val rfl (fun h1 h2 h3 => (hx h1 h2 h3).1) (fun h1 h2 h3 _ => ⟨(hx h1 h2 h3).2.1, fun o l p z => absurd z ((hx h1 h2 h3).2.2 o l p)⟩) (fun S l => by unfold chkA; rfl)
theorem snd_call {k : Nat} {a : ME} (ha : Snd Γ es C lv a) : Snd Γ es C lv (.call k a) := by
  have he : ∀ {S X W e}, XOk Γ es C lv S X → Takes X W → chk Γ S (.call k a) e = true → PE X e (tM X.K es W (ev C (.call k a))) ∧ byVal e = true := by
    intro S X W e HX tk h
    unfold chk at h
    split at h
    · rename_i x l hl
      obtain ⟨p, q, rfl⟩ := asCall_ok hl
      simp only [Bool.and_eq_true, decide_eq_true_eq] at h
      obtain ⟨⟨⟨⟨h1, h2⟩, h3⟩, h4⟩, h5⟩ := h
      obtain ⟨n1, n2, n3⟩ := plainName_ok h3
      cases hk : Γ.fns.lookup k with
      | none => rw [hk] at h1; cases h1
      | some d =>
        obtain ⟨x', n⟩ := d
        rw [hk] at h1
        have hxx : x' = x := Option.some.inj h1
        subst hxx
        obtain ⟨fa, fd, ps, hm, hkp, hbd, F, _⟩ := HX.fns k _ n hk
        refine ⟨?_, rfl⟩
        cases l with
        | nil =>
          refine PE.weak (pe_callS0 F HX.room (HX.gl h2) hm hkp hbd (fun σ => passAt tk σ) n1) fun σ H Q q => ?_
          have q' := call_read (HX.arity k _ n hk) q
          -- no argument: the list is empty
          have h6 : a = .nil := by
            cases a <;> first | rfl | (unfold chkA at h5; cases h5)
          subst h6
          obtain ⟨f, ρ, μ, S, L, h⟩ := q'
          exact h f H [] (Le.refl _ _) S rfl
        | cons e r =>
          rw [List.all_cons, Bool.and_eq_true] at h4
          exact PE.weak (pe_callS F HX.room (HX.gl h2) hm hkp hbd (fun σ => passAt tk σ) (ha.a HX tk h5) n1 (star_cons h4.1 _ _) (star_any h4.2)) fun σ H Q q => call_read (HX.arity k _ n hk) q
    · cases h
  exact Snd.val rfl (fun h1 h2 h3 => (he h1 h2 h3).1) (fun h1 h2 h3 _ => ⟨pt_default (he h1 h2 h3).1 (he h1 h2 h3).2, noBool (he h1 h2 h3).2⟩) (fun S l => by unfold chkA; rfl)
theorem snd_callK {k : Nat} {perm : List Nat} {a : ME} (ha : Snd Γ es C lv a) : Snd Γ es C lv (.callK k perm a) := by
  have he : ∀ {S X W e}, XOk Γ es C lv S X → Takes X W → chk Γ S (.callK k perm a) e = true → PE X e (tM X.K es W (ev C (.callK k perm a))) ∧ byVal e = true := by
    intro S X W e HX tk h
    unfold chk at h
    split at h
    · rename_i x kws hl
      obtain ⟨p, q, rfl⟩ := asCallK_ok hl
      simp only [Bool.and_eq_true, decide_eq_true_eq] at h
      obtain ⟨⟨⟨⟨⟨h1, h2⟩, h3⟩, h4⟩, h5⟩, h6⟩ := h
      obtain ⟨n1, n2, n3⟩ := plainName_ok h3
      cases hk : Γ.fns.lookup k with
      | none => rw [hk] at h1; cases h1
      | some d =>
        obtain ⟨x', n⟩ := d
        rw [hk] at h1
        have hxx : x' = x := Option.some.inj h1
        subst hxx
        obtain ⟨fa, fd, ps, hm, hkp, hbd, F, hkw⟩ := HX.fns k _ n hk
        refine ⟨PE.weak (pe_kw0 F HX.room (HX.gl h2) hm hkp (hkw _ _ h4) (fun σ => passAt tk σ) n1 (ha.k HX tk h6) h5) fun σ H Q q => ?_, rfl⟩
        refine kw_read (fun ρ μ v μ' hv => ?_) (HX.arity k _ n hk) q
        obtain ⟨vs, e1, e2⟩ := argc_len a _ h6 ρ μ v μ' hv
        refine ⟨vs, e1, e2.trans ?_⟩
        rw [chkA_len h6, ks_len h5, List.length_map]
    · cases h
  exact Snd.val rfl (fun h1 h2 h3 => (he h1 h2 h3).1) (fun h1 h2 h3 _ => ⟨pt_default (he h1 h2 h3).1 (he h1 h2 h3).2, noBool (he h1 h2 h3).2⟩) (fun S l => by unfold chkA; rfl)
where
  ks_len : ∀ {kws : List Keyword}, kws.all (fun q => q.arg.isSome) = true → (ksOf kws).length = kws.length
    | [], _ => rfl
    | q :: r, h => by
      rw [List.all_cons, Bool.and_eq_true] at h
      cases e : q.arg with
      | none => rw [e] at h; cases h.1
      | some x =>
        unfold ksOf
        rw [List.filterMap_cons_some e, List.length_cons, List.length_cons]
        exact congrArg (· + 1) (ks_len h.2)
  chkA_len {Γ : Gam} {S : SS} : ∀ {m : ME} {l : List Expr}, chkA Γ S m l = true → argc m = l.length
    | .nil, [], _ => rfl
    | .cons a b, e :: l, h => by
      have h' : (vE a && plainArg e && chk Γ S a e && chkA Γ S b l) = true := by unfold chkA at h; exact h
      rw [Bool.and_eq_true] at h'
      rw [List.length_cons, ← chkA_len h'.2]
      rfl
    | .nil, _ :: _, h => by unfold chkA at h; cases h
    | .cons _ _, [], h => by unfold chkA at h; cases h
    | .var _, _, h => by unfold chkA at h; cases h
    | .cst _, _, h => by unfold chkA at h; cases h
    | .tupE _, _, h => by unfold chkA at h; cases h
    | .lstE _, _, h => by unfold chkA at h; cases h
    | .op1 _ _, _, h => by unfold chkA at h; cases h
    | .op2 _ _ _, _, h => by unfold chkA at h; cases h
    | .op3 _ _ _ _, _, h => by unfold chkA at h; cases h
    | .and _ _, _, h => by unfold chkA at h; cases h
    | .or _ _, _, h => by unfold chkA at h; cases h
    | .ite _ _ _, _, h => by unfold chkA at h; cases h
    | .chain _ _ _ _ _, _, h => by unfold chkA at h; cases h
    | .call _ _, _, h => by unfold chkA at h; cases h
    | .callK _ _ _, _, h => by unfold chkA at h; cases h
    | .rng _, _, h => by unfold chkA at h; cases h
    | .rng2 _ _, _, h => by unfold chkA at h; cases h
    | .rng3 _, _, h => by unfold chkA at h; cases h
    | .dct .., _, h => by unfold chkA at h; cases h
    | .zip .., _, h => by unfold chkA at h; cases h
    | .lstR .., _, h => by unfold chkA at h; cases h
    | .comp _ _ _ _, _, h => by unfold chkA at h; cases h
    | .tmp _, _, h => by unfold chkA at h; cases h
theorem snd_tmp {a : ME} (ha : Snd Γ es C lv a) : Snd Γ es C lv (.tmp a) := by
  have hx : ∀ {S e}, chk Γ S (.tmp a) e = true → vE a = true ∧ chk Γ S a e = true := by
    intro S e h
    unfold chk at h
    rw [Bool.and_eq_true] at h
    exact h
  refine Snd.val rfl (fun {S X W e} HX tk h => ?_) (fun {S X W e} HX tk h ht => ?_) (fun S l => by unfold chkA; rfl)
  · obtain ⟨h1, h2⟩ := hx h
    exact PE.weak (ha.e HX tk h2 h1) fun σ H Q q => tmp_read q
  · obtain ⟨h1, h2⟩ := hx h
    obtain ⟨t1, t2⟩ := ha.t HX tk h2 h1 ht
    exact ⟨PT.weak t1 fun σ H Q q => tmp_readT q, fun o l p z => PW.weak (t2 o l p z) fun σ H Q q => tmp_readT q⟩
theorem snd_rng {a : ME} (ha : Snd Γ es C lv a) : Snd Γ es C lv (.rng a) := by
  refine ⟨fun _ _ _ h => (by cases h), fun _ _ _ h => (by cases h), ?_, fun {S X W l} _ _ h => (by unfold chkA at h; cases h), fun {S X W l} _ _ h => (by unfold chkA at h; cases h), fun {S X W vs keys ks pos} _ _ h => (by unfold chkA at h; cases h)⟩
  intro S X W e HX tk h tg _
  unfold chk at h
  split at h
  · rename_i x hx
    simp only [Bool.and_eq_true] at h
    obtain ⟨⟨h1, h2⟩, h3⟩ := h
    obtain ⟨p, q, rfl, g1, g2, g3⟩ := bi1_ok hx
    refine PI.weak (pi_range1 (HX.gl g1) (HX.abs _ g2) (pa_1 h2 (ha.e HX tk h3 h1)) (star_cons h2 _ _)) fun σ H R q => ?_
    obtain ⟨f, ρ, μ, S, L, h⟩ := q
    refine ⟨f, ρ, μ, S, L, ?_⟩
    have hev : ev C (.rng a) ρ μ = (ev C a ρ μ).bind fun x μ1 => match x with
      | .int j => if -LIM ≤ j ∧ j ≤ LIM then .ok (.tup ((List.range j.toNat).map fun i => .int (i : Nat))) μ1 else .fail
      | _ => .fail := rfl
    rw [hev] at h
    cases e : ev C a ρ μ with
    | exc c fs μ1 => rw [e] at h; exact h
    | fail => rw [e] at h; exact h
    | ok v μ1 =>
      rw [e, Out.bind_ok] at h
      cases v with
      | int j =>
        by_cases hj : -(LIM : Int) ≤ j ∧ j ≤ LIM
        · simp only [hj, and_self, if_true] at h
          obtain ⟨xs, hi, h⟩ := h
          cases (show some ((List.range j.toNat).map fun i => Val.int (i : Nat)) = some xs from hi)
          intro f' H' x l S' r
          have hr : x = .int j := r
          subst hr
          have hL : LIM = 16777216 := rfl
          refine ⟨j, rfl, by omega, by omega, h f' H' _ l S' ?_⟩
          have := itOk_rng (K := X.K) (lo := 0) (n := j.toNat) (f1 := f') (H1 := H')
          simpa using this
        · simp only [hj, if_false] at h
      | _ => exact h.elim
  · cases h
theorem snd_rng2 {a b : ME} (ha : Snd Γ es C lv a) (hb : Snd Γ es C lv b) : Snd Γ es C lv (.rng2 a b) := by
  refine ⟨fun _ _ _ h => (by cases h), fun _ _ _ h => (by cases h), ?_, fun {S X W l} _ _ h => (by unfold chkA at h; cases h), fun {S X W l} _ _ h => (by unfold chkA at h; cases h), fun {S X W vs keys ks pos} _ _ h => (by unfold chkA at h; cases h)⟩
  intro S X W e HX tk h tg _
  unfold chk at h
  split at h
  · rename_i x y hx
    simp only [Bool.and_eq_true] at h
    obtain ⟨⟨⟨⟨⟨h1, h2⟩, h3⟩, h4⟩, h5⟩, h6⟩ := h
    obtain ⟨p, q, rfl, g1, g2, g3⟩ := bi2_ok hx
    refine PI.weak (pi_range2 (HX.gl g1) (HX.abs _ g2) (pa_2 h3 h4 (ha.e HX tk h5 h1) (hb.e HX tk h6 h2)) (by rw [star_cons h3, star_cons h4]; rfl) (star_cons h4 _ _)) fun σ H R q => ?_
    obtain ⟨f, ρ, μ, S, L, h⟩ := q
    refine ⟨f, ρ, μ, S, L, ?_⟩
    have hev : ev C (.rng2 a b) ρ μ = (ev C a ρ μ).bind fun x μ1 => (ev C b ρ μ1).bind fun y μ2 => match x, y with
      | .int i, .int j => if -LIM ≤ i ∧ i ≤ LIM ∧ j ≤ LIM ∧ -LIM ≤ j then .ok (.tup ((List.range (j - i).toNat).map fun k => .int (i + (k : Nat)))) μ2 else .fail
      | _, _ => .fail := rfl
    rw [hev] at h
    cases e : ev C a ρ μ with
    | exc c fs μ1 => rw [e] at h; exact h
    | fail => rw [e] at h; exact h
    | ok v μ1 =>
      rw [e, Out.bind_ok] at h
      intro f1 H1 x l1 S1 rx
      refine ⟨f1, ρ, μ1, S1, L.mono l1, ?_⟩
      cases e' : ev C b ρ μ1 with
      | exc c fs μ2 =>
        rw [e'] at h
        exact fun f' H' cls d l' S' r => h f' H' cls d (l1.trans l') S' r
      | fail => rw [e'] at h; exact h
      | ok w μ2 =>
        rw [e', Out.bind_ok] at h
        cases v with
        | int i =>
          cases w with
          | int j =>
            by_cases hj : -(LIM : Int) ≤ i ∧ i ≤ LIM ∧ j ≤ LIM ∧ -(LIM : Int) ≤ j
            · simp only [hj, and_self, if_true] at h
              obtain ⟨xs, hi, h⟩ := h
              cases (show some ((List.range (j - i).toNat).map fun k => Val.int (i + (k : Nat))) = some xs from hi)
              intro f' H' y l' S' r
              have hr : y = .int j := r
              subst hr
              have hr2 : x = .int i := rx
              subst hr2
              have hL : LIM = 16777216 := rfl
              exact ⟨i, j, rfl, ⟨by omega, by omega, by omega, by omega⟩, h f' H' _ (l1.trans l') S' itOk_rng⟩
            · simp only [hj, if_false] at h
          | _ => exact h.elim
        | _ => exact h.elim
  · cases h
theorem rsize_b {i j k : Int} (hk : k ≠ 0) : 0 ≤ rsize i j k ∧ (rsize i j k ≤ j - i ∨ rsize i j k ≤ i - j ∨ rsize i j k = 0) := by
  unfold rsize
  by_cases h : k > 0
  · rw [if_pos h]
    by_cases h2 : i < j
    · rw [if_pos h2]
      have h3 := Int.ediv_nonneg (show 0 ≤ j - i - 1 by omega) (show 0 ≤ k by omega)
      have h4 := Int.ediv_le_self k (show 0 ≤ j - i - 1 by omega)
      exact ⟨by omega, .inl (by omega)⟩
    · rw [if_neg h2]; exact ⟨by omega, .inr (.inr rfl)⟩
  · rw [if_neg h]
    by_cases h2 : i > j
    · rw [if_pos h2]
      have h3 := Int.ediv_nonneg (show 0 ≤ i - j - 1 by omega) (show 0 ≤ -k by omega)
      have h4 := Int.ediv_le_self (-k) (show 0 ≤ i - j - 1 by omega)
      exact ⟨by omega, .inr (.inl (by omega))⟩
    · rw [if_neg h2]; exact ⟨by omega, .inr (.inr rfl)⟩
theorem rgC_of {i j k : Int} (h : -(LIM : Int) ≤ i ∧ i ≤ LIM ∧ -(LIM : Int) ≤ j ∧ j ≤ LIM ∧ -(LIM : Int) ≤ k ∧ k ≤ LIM ∧ k ≠ 0) : RgC i j k (rsize i j k).toNat := by
  have hL : (LIM : Int) = 16777216 := rfl
  have hb := rsize_b (i := i) (j := j) h.2.2.2.2.2.2
  have hr : Builtin.Range.rangeSize i j k = rsize i j k := rfl
  refine ⟨h.2.2.2.2.2.2, by omega, ?_, by rw [hr]; omega⟩
  unfold Builtin.Range.small
  rw [hr]
  obtain ⟨n, hn⟩ : ∃ n, rsize i j k = n := ⟨_, rfl⟩
  rw [hn] at hb ⊢
  simp only [Builtin.Range.rangeFitsLong, Bool.and_eq_true, Bool.or_eq_true, decide_eq_true_eq, beq_iff_eq]
  refine ⟨⟨⟨⟨⟨by omega, by omega⟩, ⟨by omega, by omega⟩⟩, ⟨by omega, by omega⟩⟩, ⟨by omega, by omega⟩⟩, .inr ?_⟩
  split <;> (simp only [Bool.and_eq_true, decide_eq_true_eq]; omega)
/-- what a range of three comes to -/
theorem rng3_inv {vs : List Val} {μ : Sto} : rng3 vs μ = .fail ∨ ∃ i j k : Int, vs = [.int i, .int j, .int k] ∧ (-(LIM : Int) ≤ i ∧ i ≤ LIM ∧ -(LIM : Int) ≤ j ∧ j ≤ LIM ∧ -(LIM : Int) ≤ k ∧ k ≤ LIM ∧ k ≠ 0) ∧ rng3 vs μ = .ok (.tup ((List.range (rsize i j k).toNat).map fun m => .int (i + (m : Nat) * k))) μ := by
  unfold rng3
  split
  · rename_i i j k
    split
    · rename_i hb
      exact .inr ⟨i, j, k, rfl, hb, rfl⟩
    · exact .inl rfl
  · exact .inl rfl
theorem snd_rng3 {a : ME} (ha : Snd Γ es C lv a) : Snd Γ es C lv (.rng3 a) := by
  refine ⟨fun _ _ _ h => (by cases h), fun _ _ _ h => (by cases h), ?_, fun {S X W l} _ _ h => (by unfold chkA at h; cases h), fun {S X W l} _ _ h => (by unfold chkA at h; cases h), fun {S X W vs keys ks pos} _ _ h => (by unfold chkA at h; cases h)⟩
  intro S X W e HX tk h tg _
  unfold chk at h
  split at h
  · rename_i l hx
    rw [Bool.and_eq_true] at h
    obtain ⟨x, y, z, p, q, rfl, rfl, g1, g2, g3⟩ := bi3_ok hx
    have hp := h.1
    simp only [List.all_cons, List.all_nil, Bool.and_true, Bool.and_eq_true] at hp
    refine PI.weak (pi_range3 (HX.gl g1) (HX.abs _ g2) (ha.a HX tk h.2) (star_cons hp.1 _ _) (star_any (by rw [List.all_cons, List.all_cons, List.all_nil, hp.2.1, hp.2.2]; rfl))) fun σ H R q => ?_
    obtain ⟨f, ρ, μ, S, L, h⟩ := q
    refine ⟨f, ρ, μ, S, L, ?_⟩
    have hev : ev C (.rng3 a) ρ μ = (ev C a ρ μ).bind fun ys μ1 => match ys with
      | .tup vs => rng3 vs μ1
      | _ => .fail := rfl
    rw [hev] at h
    cases e : ev C a ρ μ with
    | exc c fs μ1 => rw [e] at h; exact h
    | fail => rw [e] at h; exact h
    | ok v μ1 =>
      rw [e, Out.bind_ok] at h
      cases v with
      | tup vs =>
        simp only [] at h
        rcases rng3_inv (vs := vs) (μ := μ1) with e3 | ⟨i, j, k, rfl, hb, e3⟩
        · rw [e3] at h; exact h.elim
        · rw [e3] at h
          obtain ⟨xs, hi, h⟩ := h
          have hi' : xs = (List.range (rsize i j k).toNat).map fun m => Val.int (i + (m : Nat) * k) := (Option.some.inj (show some _ = some xs from hi)).symm
          subst hi'
          intro f' H' ys l' S' t
          obtain ⟨_, _, rfl, r1, _, _, rfl, r2, _, _, rfl, r3, r4⟩ := t
          rw [show _ = _ from r1, show _ = _ from r2, show _ = _ from r3, show _ = _ from r4]
          exact ⟨i, j, k, _, rfl, rgC_of hb, h f' H' _ l' S' itOk_rngC⟩
      | _ => exact h.elim
  · cases h
end
end Mi
end

section
set_option Elab.async false
set_option linter.all false
set_option maxRecDepth 100000
set_option autoImplicit false
set_option maxHeartbeats 1000000
/-! Sound12: comprehensions among the terms; every term is sound. -/
namespace Mi
open PySem PySem.Spec L2
open PyProof.Rows hiding St
section
variable {Γ : Gam} {es : List EC} {C : CallF} {lv : Nat}
/-- the names of a comprehension's block -/
def blkS (S : SS) (sc : Scope) : SS := ⟨S.N, relS sc S.sc, fun x => sc.names.lookup x == some .cell⟩
theorem XOk.blk {S : SS} {X : Cx} (h : XOk Γ es C lv S X) (s : Shared) (H : Hp) (sc : Scope) (cl : List (Str × Addr)) (D : Addr) (fp : List Addr) : XOk Γ es C lv (blkS S sc) (X.blk s H sc (compEnvC sc cl D X.env) fp) where
  hN := h.hN
  nd := h.nd
  hsc := by
    show relS sc X.env.scope = relS sc S.sc
    rw [h.hsc]
  hfn := rfl
  calm := h.calm
  room := h.room
  po := PassesOwn.never
  abs := h.abs
  cs := h.cs
  fns := h.fns
  arity := h.arity
theorem own_ix : ∀ {is : List Nat} {l : List Expr} {S : SS}, chkNs S is l = true → ((l.filterMap asName).zip is).map (·.2) = is
  | [], [], _, _ => rfl
  | i :: is, e :: l, S, h => by
    have h' : (chkNm S i e && chkNs S is l) = true := h
    rw [Bool.and_eq_true] at h'
    have ih := own_ix h'.2
    have hn : ∃ x, asName e = some x := by
      have := h'.1
      unfold chkNm at this
      split at this
      · exact ⟨_, by assumption⟩
      · cases this
    obtain ⟨x, hx⟩ := hn
    rw [List.filterMap_cons_some hx, List.zip_cons_cons, List.map_cons, ih]
  | [], _ :: _, _, h => by cases h
  | _ :: _, [], _, h => by cases h
/-- a comprehension, once its parts are known -/
theorem comp_all {tg : MT} {it cond elt : ME} (hi : Snd Γ es C lv it) (hc : Snd Γ es C lv cond) (he : Snd Γ es C lv elt) {S : SS} {X : Cx} {W : WX} (HX : XOk Γ es C lv S X) (tk : Takes X W) {x t iter : Expr} {ifs : List Expr} {sc : Scope} {p : Pos} {own : List (Str × Nat)}
    (h0 : zipOk it t = true) (h1 : noSet iter = true) (h2 : chk Γ S it iter = true) (h3 : vE cond = true) (h4 : vE elt = true) (h5 : tstM cond = true) (h6 : blkC S.N S.sc sc own = true) (h7 : chkTg (blkS S sc) tg t = true) (h8 : chk Γ (blkS S sc) elt x = true)
    (h9 : (match ifs with
      | [] => isTrueC cond
      | [c] => chk Γ (blkS S sc) cond c
      | _ => false) = true) (h10 : own.map (·.2) = tgs tg) : PE X (.ListComp x [⟨t, iter, ifs, 0⟩] sc p) (tM X.K es W (ev C (.comp tg it cond elt))) := by
  have ok : BlkOk X.N X.env.scope sc own := by rw [HX.hN, HX.hsc]; exact blkOk_by h6
  have htt : ∃ tt : TT, ttOk X.K es tt (ev C cond) ∧ ∀ (s : Shared) (H : Hp) (D : Addr) (cl : List (Str × Addr)) (fp : List Addr), PTs (X.blk s H sc (compEnvC sc cl D X.env) fp) ifs tt := by
    cases ifs with
    | nil =>
      have h9' := isTrueC_ok h9
      refine ⟨tYes, fun σ H Q q => ?_, fun _ _ _ _ _ => pts_nil⟩
      obtain ⟨f, ρ, μ, S, L, h⟩ := q
      rw [h9'] at h
      exact h f H (Le.refl _ _) S
    | cons c r =>
      cases r with
      | nil => exact ⟨tTM X.K es W0 (ev C cond), fun _ _ _ q => q, fun s H D cl fp => pts_one (hc.t (HX.blk s H sc cl D fp) takesW0 h9 h3 h5).1⟩
      | cons _ _ => cases h9
  obtain ⟨tt, ht1, ht2⟩ := htt
  exact PE.weak (pe_lc (own := own) (g := gT X.K tg) (tt := tt) (te := tM X.K es W0 (ev C elt)) HX.calm (by rw [HX.hN]; exact HX.nd) (hi.i (W := W) HX tk h2 t h0) ok (fun s H D cl fp => tg_PG (HX.blk s H sc cl D fp) h7) ht2
    (fun s H D cl fp => he.e (HX.blk s H sc cl D fp) takesW0 h8 h4) (folded_no h1)) fun σ H Q q => lc_read ht1 h10 q
theorem comp_noBool {Γ : Gam} {S : SS} {tg : MT} {it cond elt : ME} {e : Expr} (h : chk Γ S (.comp tg it cond elt) e = true) : byVal e = true := by
  unfold chk at h
  split at h
  · rename_i hl
    obtain ⟨p, rfl⟩ := asComp_ok hl
    rfl
  · cases h
theorem snd_comp {tg : MT} {it cond elt : ME} (hi : Snd Γ es C lv it) (hc : Snd Γ es C lv cond) (he : Snd Γ es C lv elt) : Snd Γ es C lv (.comp tg it cond elt) := by
  have hx : ∀ {S X W e}, XOk Γ es C lv S X → Takes X W → chk Γ S (.comp tg it cond elt) e = true → PE X e (tM X.K es W (ev C (.comp tg it cond elt))) := by
    intro S X W e HX tk h
    unfold chk at h
    split at h
    · rename_i x t iter ifs sc hl
      obtain ⟨p, rfl⟩ := asComp_ok hl
      simp only [Bool.and_eq_true] at h
      obtain ⟨⟨⟨⟨⟨h1, h2⟩, h3⟩, h4⟩, h5⟩, h6⟩ := h
      cases tg with
      | nm i =>
        dsimp only at h6
        split at h6
        · rename_i y hy
          simp only [Bool.and_eq_true] at h6
          obtain ⟨⟨⟨k1, k2⟩, k3⟩, k4⟩ := h6
          exact comp_all hi hc he HX tk h1.1 h1.2 h2 h3 h4 h5 k1 k2 k3 k4 rfl
        · cases h6
      | tp is =>
        dsimp only at h6
        split at h6
        · rename_i ys hy
          simp only [Bool.and_eq_true] at h6
          obtain ⟨⟨⟨⟨k1, k0⟩, k2⟩, k3⟩, k4⟩ := h6
          refine comp_all hi hc he HX tk h1.1 h1.2 h2 h3 h4 h5 k1 k2 k3 k4 ?_
          have k2' : (match asTup t with
            | some l => chkNs (blkS S sc) is l
            | none => false) = true := k2
          rw [hy] at k2'
          exact own_ix k2'
        · cases h6
    · cases h
  exact Snd.val rfl (fun h1 h2 h3 => hx h1 h2 h3) (fun h1 h2 h3 _ => ⟨pt_default (hx h1 h2 h3) (comp_noBool h3), noBool (comp_noBool h3)⟩) (fun S l => by unfold chkA; rfl)
/-! ### dicts written down, zip -/
theorem chkA_nil {Γ : Gam} {S : SS} {a : ME} (h : chkA Γ S a [] = true) : a = .nil := by
  cases a <;> first | rfl | (unfold chkA at h; cases h)
theorem Le.newAt {f f' : List Addr} {H H' : Hp} {p : Addr} {o o' : HO} (hp : H p = none) (l : Le f (upd H p o) f' H') : Le f H (f' ++ [p]) (upd H' p o') := by
  have old : ∀ b u, H b = some u → b ≠ p := fun b u e => ne_of_none e hp
  refine ⟨l.pre.trans ⟨[p], rfl⟩, ⟨fun b xs e => ?_, fun b x u e => ?_⟩, fun b u hb e => ?_⟩
  · rw [upd_ne (old b _ e)]; exact l.kp.tup b xs (by rw [upd_ne (old b _ e)]; exact e)
  · rw [upd_ne (old b _ e)]; exact l.kp.frz b x u (by rw [upd_ne (old b _ e)]; exact e)
  · have hne := old b _ e
    obtain ⟨h1, h2⟩ := l.oth b u hb (by rw [upd_ne hne]; exact e)
    exact ⟨by rw [upd_ne hne]; exact h1, by simp [h2, hne]⟩
theorem SR.joinAt {K : PySem.W.Frag} {f : List Addr} {μ : Sto} {H : Hp} {p : Addr} {u o : HO} {c : Cell} (S : SR K f μ H) (hD : p ∉ f) (hH : H p = some u) (ht : ∀ xs, u ≠ .tup xs) (hz : ∀ o' u', u ≠ .frz o' u') (hc : CR K (f ++ [p]) (upd H p o) c p) : SR K (f ++ [p]) (μ ++ [c]) (upd H p o) := by
  refine ⟨by simp [S.len], ?_, fun n c' a h1 h2 => ?_⟩
  · rw [List.nodup_append]
    exact ⟨S.nd, by simp, fun a ha b hb e => hD (by rw [← List.mem_singleton.mp hb, ← e]; exact ha)⟩
  · by_cases hn : n < f.length
    · rw [List.getElem?_append_left hn] at h2
      rw [List.getElem?_append_left (by rw [← S.len]; exact hn)] at h1
      have ha : a ≠ p := fun e => hD (by rw [← e]; exact List.mem_of_getElem? h2)
      exact ((S.cell n c' a h1 h2).monoK (Keep.put hH ht hz) (upd_ne ha)).mono0
    · have e : n = f.length := by
        have := (List.getElem?_eq_some_iff.mp h2).1
        simp at this
        omega
      subst e
      rw [List.getElem?_append_right (Nat.le_refl _)] at h2
      rw [S.len, List.getElem?_append_right (Nat.le_refl _)] at h1
      simp at h1 h2
      subst h1 h2
      exact hc
theorem KRs.zip {K : PySem.W.Frag} {f : List Addr} {H : Hp} : ∀ {ks vs : List Val} {xs : List V}, ks.all (keyOk false) = true → VRs K f H vs xs → KRs K f H (ks.zip vs) ((ks.map keyV).zip xs)
  | [], vs, xs, _, _ => by rw [List.map_nil, List.zip_nil_left, List.zip_nil_left]; exact rfl
  | k :: ks, [], xs, _, t => by rw [show xs = [] from t, List.zip_nil_right, List.zip_nil_right]; exact rfl
  | k :: ks, v :: vs, xs, h, ⟨x, r, e, rv, t⟩ => by
    rw [List.all_cons, Bool.and_eq_true] at h
    subst e
    rw [List.zip_cons_cons, List.map_cons, List.zip_cons_cons]
    exact ⟨x, _, rfl, h.1, rv, KRs.zip h.2 t⟩
theorem zip_map_kV : ∀ (ks : List Val) (xs : List V), (ks.map fun k => kV (keyV k)).zip xs = ((ks.map keyV).zip xs).map fun kv => (kV kv.1, kv.2)
  | [], xs => rfl
  | k :: ks, [] => rfl
  | k :: ks, x :: xs => by rw [List.map_cons, List.map_cons, List.zip_cons_cons, List.zip_cons_cons, List.map_cons, zip_map_kV ks xs]
theorem keysOk_len : ∀ {es : List (Option Expr)} {ks : List Val}, keysOk es ks = true → es.length = ks.length ∧ es.all (·.isSome) = true
  | [], [], _ => ⟨rfl, rfl⟩
  | some e :: es, k :: ks, h => by
    have h' : (decide (asConst e = some k) && keysOk es ks) = true := h
    rw [Bool.and_eq_true] at h'
    obtain ⟨h1, h2⟩ := keysOk_len h'.2
    exact ⟨by rw [List.length_cons, List.length_cons, h1], by rw [List.all_cons, h2]; rfl⟩
  | none :: _, _ :: _, h => by cases h
  | [], _ :: _, h => by cases h
  | some _ :: _, [], h => by cases h
  | none :: _, [], h => by cases h
theorem snd_dct {t : Bool} {ks : List Val} {a : ME} (ha : Snd Γ es C lv a) : Snd Γ es C lv (.dct t ks a) := by
  have he : ∀ {S X W e}, XOk Γ es C lv S X → Takes X W → chk Γ S (.dct t ks a) e = true → PE X e (tM X.K es W (ev C (.dct t ks a))) ∧ byVal e = true := by
    intro S X W e HX tk h
    unfold chk at h
    split at h
    · rename_i ks' vs hd
      obtain ⟨pos, rfl⟩ := asDict_ok hd
      simp only [Bool.and_eq_true, decide_eq_true_eq] at h
      obtain ⟨⟨⟨⟨⟨h1, h2⟩, h3⟩, h4⟩, h5⟩, h6⟩ := h
      obtain ⟨k1, k2⟩ := keysOk_len h1
      refine ⟨?_, rfl⟩
      cases ks with
      | nil =>
        have ev0 : vs = [] := List.eq_nil_of_length_eq_zero h4
        have ek0 : ks' = [] := List.eq_nil_of_length_eq_zero k1
        subst ev0 ek0
        have ea := chkA_nil h2
        subst ea
        cases t with
        | false =>
          refine PE.weak pe_dnewK fun σ H Q ⟨f, ρ, μ, S0, L, q⟩ => ?_
          have q' : Post X.K es W σ f H (.ok (.ref μ.length) (μ ++ [.dict false []])) Q := by simpa [ev, dputs] using q
          exact q'.newD (o := fun _ => .dK []) S0 fun p hp => ⟨[], upd_same, rfl⟩
        | true =>
          refine PE.weak DX.pe_dnewX fun σ H Q ⟨f, ρ, μ, S0, L, q⟩ => ?_
          have q' : Post X.K es W σ f H (.ok (.ref μ.length) (μ ++ [.dict true []])) Q := by simpa [ev, dputs] using q
          exact q'.newD (o := fun p => DX.DXo p []) S0 fun p hp => ⟨[], upd_same, rfl⟩
      | cons k0 kr =>
        have ht : t = false := by
          cases t
          · rfl
          · simp at h6
        subst ht
        obtain ⟨trs, p1, p2⟩ := ha.d (pos := pos) HX tk h2 h1 h5 h4.symm
        refine PE.weak (pe_disp p1 k2 (by rw [k1, h4]) (by intro z; subst z; cases k1) (by omega)) fun σ H Q q p hp => ?_
        obtain ⟨f, ρ, μ, S0, L, q⟩ := q
        refine p2 σ _ _ ⟨f, ρ, μ, S0.beside hp, L.mono (Le.beside hp), ?_⟩
        have q' : Post X.K es W σ f H ((ev C a ρ μ).bind fun ys μ1 => match ys with
          | .tup vs => if vs.length = (k0 :: kr).length ∧ (k0 :: kr).all (keyOk false) ∧ (false = true → (k0 :: kr) = []) then .ok (.ref μ1.length) (μ1 ++ [.dict false (dputs [] ((k0 :: kr).zip vs))]) else .fail
          | _ => .fail) Q := q
        cases e1 : ev C a ρ μ with
        | exc c fs μ1 =>
          rw [e1] at q'
          exact fun f' H' cls d l' S' r => q' f' H' cls d ((Le.beside hp).trans l') S' r
        | fail => rw [e1] at q'; exact q'
        | ok v μ1 =>
          rw [e1, Out.bind_ok] at q'
          cases v with
          | tup ws =>
            obtain ⟨⟨c1, _, _⟩, q2⟩ := Post.ite q'
            intro f' H' xs l' S' tx
            have hpf : p ∉ f := fun hm => by
              obtain ⟨o, ho⟩ := S0.mem hm
              rw [hp] at ho; cases ho
            obtain ⟨o1, o2⟩ := l'.oth p _ hpf upd_same
            refine ⟨o1, ((k0 :: kr).map keyV).zip xs, zip_map_kV _ _, ?_, ?_⟩
            · rw [List.length_zip, List.length_map]; omega
            · refine q2 (f' ++ [p]) _ (.ref p) (Le.newAt hp l') (S'.joinAt o2 o1 (fun _ z => nomatch z) (fun _ _ z => nomatch z) ⟨_, upd_same, ?_⟩) ⟨p, by rw [← S'.len]; simp, rfl⟩
              have r1 : KRs X.K f' H' (dputs [] ((k0 :: kr).zip ws)) (mergeK [] (((k0 :: kr).map keyV).zip xs)) := KRs.puts (KRs.zip h5 tx) (show KRs X.K f' H' [] [] from rfl)
              exact (r1.monoK (Keep.put o1 (fun _ z => nomatch z) (fun _ _ z => nomatch z))).mono0
          | _ => exact q'.elim
    · cases h
  exact Snd.val rfl (fun h1 h2 h3 => (he h1 h2 h3).1) (fun h1 h2 h3 _ => ⟨pt_default (he h1 h2 h3).1 (he h1 h2 h3).2, noBool (he h1 h2 h3).2⟩) (fun S l => by unfold chkA; rfl)
theorem RgOk.of_le' {j : Int} (h1 : -(LIM : Int) ≤ j) (h2 : j ≤ LIM) : RgOk 0 j := by
  have hL : (LIM : Int) = 16777216 := rfl
  exact ⟨by omega, by omega, by omega, by omega, by omega⟩
theorem rgV_vals {K : PySem.W.Frag} {f : List Addr} {H : Hp} (n : Int) : VRs K f H ((List.range n.toNat).map fun i => Val.int (i : Nat)) (rgV 0 n) := by
  have e : rgV 0 n = ((List.range n.toNat).map fun i => ((i : Nat) : Int)).map V.int := by
    unfold rgV
    simp
  rw [e]
  have h := VRs.ints (K := K) (f := f) (H := H) ((List.range n.toNat).map fun i => ((i : Nat) : Int))
  rw [List.map_map] at h
  exact h
theorem snd_lstR {t : Bool} {a : ME} (ha : Snd Γ es C lv a) : Snd Γ es C lv (.lstR t a) := by
  have he : ∀ {S X W e}, XOk Γ es C lv S X → Takes X W → chk Γ S (.lstR t a) e = true → PE X e (tM X.K es W (ev C (.lstR t a))) ∧ byVal e = true := by
    intro S X W e HX tk h
    unfold chk at h
    split at h
    · rename_i r hr
      split at h
      · rename_i x hx
        simp only [Bool.and_eq_true] at h
        obtain ⟨⟨⟨h1, h2⟩, h3⟩, h4⟩ := h
        obtain ⟨p, q, rfl, g1, g2, g3⟩ := bi1_ok hr
        obtain ⟨p2, q2, rfl, k1, k2, k3⟩ := bi1_ok hx
        have hrg := prg_1 (p := p2) (pos := q2) (HX.gl k1) (HX.abs _ k2) (ha.e HX tk h4 h1) (star_cons h2 _ _)
        have hL : LIM = 16777216 := rfl
        cases t with
        | false =>
          refine ⟨PE.weak (pe_listRg (p := p) (pos := q) HX.calm (HX.gl g1) (HX.abs _ g2) hrg (star_cons h3 _ _)) fun σ H Q ⟨f, ρ, μ, S0, L, h⟩ => ?_, rfl⟩
          refine bindP S0 L h fun v μ1 f1 H1 x l1 S1 L1 rv h1 => ?_
          cases v with
          | int j =>
            obtain ⟨hj, h1⟩ := Post.ite h1
            refine ⟨j, rv, RgOk.of_le' hj.1 hj.2, (show Post X.K es W σ f1 H1 (newLst _ μ1) Q from h1).newL S1 (rgV_vals j)⟩
          | _ => exact h1.elim
        | true =>
          refine ⟨PE.weak (pe_tupRg (p := p) (pos := q) HX.calm (HX.gl g1) (HX.abs _ g2) hrg (star_cons h3 _ _)) fun σ H Q ⟨f, ρ, μ, S0, L, h⟩ => ?_, rfl⟩
          refine bindP S0 L h fun v μ1 f1 H1 x l1 S1 L1 rv h1 => ?_
          cases v with
          | int j =>
            obtain ⟨hj, h1⟩ := Post.ite h1
            refine ⟨j, rv, RgOk.of_le' hj.1 hj.2, (show Post X.K es W σ f1 H1 (.ok (.tup _) μ1) Q from h1).newT S1 (rgV_vals j)⟩
          | _ => exact h1.elim
      · cases h
    · cases h
  exact Snd.val rfl (fun h1 h2 h3 => (he h1 h2 h3).1) (fun h1 h2 h3 _ => ⟨pt_default (he h1 h2 h3).1 (he h1 h2 h3).2, noBool (he h1 h2 h3).2⟩) (fun S l => by unfold chkA; rfl)
/-- a list that stands while it is walked -/
def zSrc (v : Val) (us : List Val) (μ : Sto) : Bool := match v with
  | .ref n => decide (μ[n]? = some (.lst us))
  | _ => true
theorem zSrc_at {K : PySem.W.Frag} {f1 : List Addr} {H1 : Hp} {μ1 : Sto} {v : Val} {x : V} {us : List Val} (S1 : SR K f1 μ1 H1) (r : VR K f1 H1 v x) (h : lItems μ1 v = some us) : ∃ a, x = .ref a ∧ ∀ f μ H, Le f1 H1 f H → SR K f μ H → zSrc v us μ = true → ∃ xs, SqL K H a xs ∧ VRs K f H us xs := by
  cases v with
  | scr ns =>
    cases (show some (ns.map Val.int) = some us from h)
    obtain ⟨a, rfl, hq⟩ := r
    exact ⟨a, rfl, fun f μ H l S _ => ⟨_, (l.kp.fz hq).seq, VRs.ints ns⟩⟩
  | ref n =>
    obtain ⟨a, ha, rfl⟩ := r
    exact ⟨a, rfl, fun f μ H l S g => by
      obtain ⟨xs, q, t⟩ := S.cell n _ a (of_decide_eq_true g) (l.get ha)
      exact ⟨xs, SqL.of q, t⟩⟩
  | _ => cases h
theorem zip_get {us ws : List Val} {i : Nat} (h : i < ((us.zip ws).map fun p => Val.tup [p.1, p.2]).length) : ∃ u w, us[i]? = some u ∧ ws[i]? = some w ∧ ((us.zip ws).map fun p => Val.tup [p.1, p.2])[i]? = some (.tup [u, w]) := by
  rw [List.length_map, List.length_zip] at h
  have h1 : i < us.length := by omega
  have h2 : i < ws.length := by omega
  refine ⟨us[i], ws[i], List.getElem?_eq_getElem h1, List.getElem?_eq_getElem h2, ?_⟩
  have e : (us.zip ws)[i]? = some (us[i], ws[i]) := List.getElem?_zip_eq_some.mpr ⟨List.getElem?_eq_getElem h1, List.getElem?_eq_getElem h2⟩
  rw [List.getElem?_map, e]
  rfl
theorem itOk_zipL {K : PySem.W.Frag} {f1 : List Addr} {H1 : Hp} {v w : Val} {a b : Addr} {us ws : List Val}
    (ha : ∀ f μ H, Le f1 H1 f H → SR K f μ H → zSrc v us μ = true → ∃ xs, SqL K H a xs ∧ VRs K f H us xs) (hb : ∀ f μ H, Le f1 H1 f H → SR K f μ H → zSrc w ws μ = true → ∃ xs, SqL K H b xs ∧ VRs K f H ws xs) :
    ItOk K (Itz K a b) (.zp v w us ws) ((us.zip ws).map fun p => .tup [p.1, p.2]) f1 H1 := by
  have both : ∀ μ : Sto, guard (.zp v w us ws) ((us.zip ws).map fun p => .tup [p.1, p.2]) μ = true → zSrc v us μ = true ∧ zSrc w ws μ = true := fun μ g => by
    have g' : (zSrc v us μ && zSrc w ws μ) = true := g
    rwa [Bool.and_eq_true] at g'
  refine ⟨fun i f μ H l S g hi => ?_, fun i f μ H x H' l S g hi y => ?_, fun i f μ H l S g hi => ?_⟩
  · obtain ⟨u, z, e1, e2, _⟩ := zip_get hi
    obtain ⟨xs, q1, t1⟩ := ha f μ H l S (both μ g).1
    obtain ⟨ys, q2, t2⟩ := hb f μ H l S (both μ g).2
    obtain ⟨x, e3, _⟩ := t1.get e1
    obtain ⟨y, e4, _⟩ := t2.get e2
    exact ⟨xs, ys, x, y, q1, q2, e3, e4⟩
  · obtain ⟨u, z, e1, e2, e3⟩ := zip_get hi
    obtain ⟨xs, q1, t1⟩ := ha f μ H l S (both μ g).1
    obtain ⟨ys, q2, t2⟩ := hb f μ H l S (both μ g).2
    obtain ⟨T, x', y', rfl, hT, rfl, f1', f2'⟩ := y
    obtain ⟨x0, e4, r1⟩ := t1.get e1
    obtain ⟨y0, e5, r2⟩ := t2.get e2
    have ex : x0 = x' := Option.some.inj (e4.symm.trans (f1' xs q1))
    have ey : y0 = y' := Option.some.inj (e5.symm.trans (f2' ys q2))
    subst ex ey
    exact ⟨_, e3, ⟨T, [x0, y0], rfl, SqT.of upd_same, VRs.mono (Le.beside hT) _ _ (VRs.cons r1 (VRs.cons r2 VRs.nil))⟩, S.beside hT, Le.beside hT⟩
  · obtain ⟨xs, q1, t1⟩ := ha f μ H l S (both μ g).1
    obtain ⟨ys, q2, t2⟩ := hb f μ H l S (both μ g).2
    refine ⟨xs, ys, q1, q2, ?_⟩
    rw [List.length_map, List.length_zip] at hi
    rw [t1.length, t2.length]; omega
theorem itOk_zipT {K : PySem.W.Frag} {f1 : List Addr} {H1 : Hp} {v w : Val} {a b : Addr} {us ws : List Val} {xs ys : List V}
    (qx : SqT K H1 a xs) (tx : VRs K f1 H1 us xs) (qy : SqT K H1 b ys) (ty : VRs K f1 H1 ws ys) :
    ItOk K (RZ.ItzT K a b) (.zp v w us ws) ((us.zip ws).map fun p => .tup [p.1, p.2]) f1 H1 := by
  refine ⟨fun i f μ H l S g hi => ?_, fun i f μ H x H' l S g hi y => ?_, fun i f μ H l S g hi => ?_⟩
  · obtain ⟨u, z, e1, e2, _⟩ := zip_get hi
    obtain ⟨x, e3, _⟩ := tx.get e1
    obtain ⟨y, e4, _⟩ := ty.get e2
    exact ⟨xs, ys, x, y, l.kp.sqT qx, l.kp.sqT qy, e3, e4⟩
  · obtain ⟨u, z, e1, e2, e3⟩ := zip_get hi
    obtain ⟨T, x', y', rfl, hT, rfl, f1', f2'⟩ := y
    obtain ⟨x0, e4, r1⟩ := (VRs.mono l _ _ tx).get e1
    obtain ⟨y0, e5, r2⟩ := (VRs.mono l _ _ ty).get e2
    have ex : x0 = x' := Option.some.inj (e4.symm.trans (f1' xs (l.kp.sqT qx)))
    have ey : y0 = y' := Option.some.inj (e5.symm.trans (f2' ys (l.kp.sqT qy)))
    subst ex ey
    exact ⟨_, e3, ⟨T, [x0, y0], rfl, SqT.of upd_same, VRs.mono (Le.beside hT) _ _ (VRs.cons r1 (VRs.cons r2 VRs.nil))⟩, S.beside hT, Le.beside hT⟩
  · refine ⟨xs, ys, l.kp.sqT qx, l.kp.sqT qy, ?_⟩
    rw [List.length_map, List.length_zip] at hi
    rw [tx.length, ty.length]; omega
theorem snd_zip {a b : ME} (ha : Snd Γ es C lv a) (hb : Snd Γ es C lv b) : Snd Γ es C lv (.zip a b) := by
  refine ⟨fun _ _ _ h => (by cases h), fun _ _ _ h => (by cases h), ?_, fun {S X W l} _ _ h => (by unfold chkA at h; cases h), fun {S X W l} _ _ h => (by unfold chkA at h; cases h), fun {S X W vs keys ks pos} _ _ h => (by unfold chkA at h; cases h)⟩
  intro S X W e HX tk h tg hz
  obtain ⟨l, hl⟩ := Option.isSome_iff_exists.mp (show (asTup tg).isSome = true from hz)
  obtain ⟨kk, tp, rfl⟩ := asTup_ok hl
  unfold chk at h
  split at h
  · rename_i x y hx
    simp only [Bool.and_eq_true] at h
    obtain ⟨⟨⟨⟨⟨h1, h2⟩, h3⟩, h4⟩, h5⟩, h6⟩ := h
    obtain ⟨p, q, rfl, g1, g2, g3⟩ := bi2_ok hx
    refine PI.weak (RZ.pi_zipA (HX.gl g1) (HX.abs _ g2) (pa_2 h3 h4 (ha.e HX tk h5 h1) (hb.e HX tk h6 h2)) (by rw [star_cons h3]) (star_any (by simp [h4]))) fun σ H R q => ?_
    obtain ⟨f, ρ, μ, S0, L, h⟩ := q
    have hev : ev C (.zip a b) ρ μ = (ev C a ρ μ).bind fun x μ1 => (ev C b ρ μ1).bind fun y μ2 => match x, y with
      | .tup xs, .tup ys => .ok (.zp x y xs ys) μ2
      | _, _ => match lItems μ2 x, lItems μ2 y with
        | some xs, some ys => .ok (.zp x y xs ys) μ2
        | _, _ => .fail := rfl
    rw [hev] at h
    refine ⟨f, ρ, μ, S0, L, ?_⟩
    cases e1 : ev C a ρ μ with
    | exc c fs μ1 => rw [e1] at h; exact h
    | fail => rw [e1] at h; exact h
    | ok v μ1 =>
      rw [e1, Out.bind_ok] at h
      intro f1 H1 x1 l1 S1 r1
      refine ⟨f1, ρ, μ1, S1, L.mono l1, ?_⟩
      cases e2 : ev C b ρ μ1 with
      | exc c fs μ2 => rw [e2] at h; exact fun f' H' cls d l' S' r => h f' H' cls d (l1.trans l') S' r
      | fail => rw [e2] at h; exact h
      | ok w μ2 =>
        rw [e2, Out.bind_ok] at h
        intro f2 H2 y2 l2 S2 r2
        have r1' := VR.mono l2 _ _ r1
        have tupC : ∀ us ws, v = .tup us → w = .tup ws → ∃ a b xs ys, [x1, y2] = [V.ref a, V.ref b] ∧ ((SqL X.K H2 a xs ∧ SqL X.K H2 b ys ∧ R (Itz X.K a b) H2) ∨ (SqT X.K H2 a xs ∧ SqT X.K H2 b ys ∧ R (RZ.ItzT X.K a b) H2)) := by
          rintro us ws rfl rfl
          have h' : ∃ xs, items μ2 (.zp (.tup us) (.tup ws) us ws) = some xs ∧ ∀ f' H' J, Le f H f' H' → SR X.K f' μ2 H' → ItOk X.K J (.zp (.tup us) (.tup ws) us ws) xs f' H' → R J H' := h
          obtain ⟨zs, hi, h'⟩ := h'
          cases (show some ((us.zip ws).map fun p => Val.tup [p.1, p.2]) = some zs from hi)
          obtain ⟨a, xs, rfl, q1, t1⟩ := r1'
          obtain ⟨b, ys, rfl, q2, t2⟩ := r2
          exact ⟨a, b, xs, ys, rfl, .inr ⟨q1, q2, h' f2 H2 _ (l1.trans l2) S2 (itOk_zipT q1 t1 q2 t2)⟩⟩
        by_cases ht : (∃ us, v = .tup us) ∧ ∃ ws, w = .tup ws
        · obtain ⟨⟨us, eu⟩, ws, ew⟩ := ht
          exact tupC us ws eu ew
        · have h2' : (match (match lItems μ2 v, lItems μ2 w with
              | some xs, some ys => Out.ok (Val.zp v w xs ys) μ2
              | _, _ => Out.fail) with
            | .ok src μ' => ∃ xs, items μ' src = some xs ∧ ∀ f' H' J, Le f H f' H' → SR X.K f' μ' H' → ItOk X.K J src xs f' H' → R J H'
            | .exc c fs μ' => ∀ f' H' cls d, Le f H f' H' → SR X.K f' μ' H' → XR X.K es f' H' c fs cls d → W cls d σ H'
            | .fail => False) := by
            cases v <;> cases w <;> first | exact h | exact absurd ⟨⟨_, rfl⟩, _, rfl⟩ ht
          cases i1 : lItems μ2 v with
          | none => rw [i1] at h2'; exact h2'.elim
          | some us =>
            cases i2 : lItems μ2 w with
            | none => rw [i1, i2] at h2'; exact h2'.elim
            | some ws =>
              rw [i1, i2] at h2'
              obtain ⟨zs, hi, h'⟩ := h2'
              obtain ⟨a, rfl, A⟩ := zSrc_at S2 r1' i1
              obtain ⟨b, rfl, B⟩ := zSrc_at S2 r2 i2
              have hi' : (if (zSrc v us μ2 && zSrc w ws μ2) = true then some ((us.zip ws).map fun p => Val.tup [p.1, p.2]) else none) = some zs := hi
              by_cases hg : (zSrc v us μ2 && zSrc w ws μ2) = true
              · rw [if_pos hg] at hi'
                cases hi'
                rw [Bool.and_eq_true] at hg
                obtain ⟨xs, q1, _⟩ := A f2 μ2 H2 (Le.refl _ _) S2 hg.1
                obtain ⟨ys, q2, _⟩ := B f2 μ2 H2 (Le.refl _ _) S2 hg.2
                exact ⟨a, b, xs, ys, rfl, .inl ⟨q1, q2, h' f2 H2 _ (l1.trans l2) S2 (itOk_zipL A B)⟩⟩
              · rw [if_neg hg] at hi'; cases hi'
  · cases h
/-- every term is sound -/
theorem snd : ∀ m : ME, Snd Γ es C lv m
  | .var _ => snd_var
  | .cst _ => snd_cst
  | .nil => snd_nil
  | .cons a b => snd_cons (snd a) (snd b)
  | .tupE a => snd_tupE (snd a)
  | .lstE a => snd_lstE (snd a)
  | .op1 _ a => snd_op1 (snd a)
  | .op2 _ a b => snd_op2 (snd a) (snd b)
  | .op3 _ a b c => snd_op3 (snd a) (snd b) (snd c)
  | .and a b => snd_and (snd a) (snd b)
  | .or a b => snd_or (snd a) (snd b)
  | .ite c a b => snd_ite (snd c) (snd a) (snd b)
  | .chain _ _ a b c => snd_chain (snd a) (snd b) (snd c)
  | .call _ a => snd_call (snd a)
  | .callK _ _ a => snd_callK (snd a)
  | .rng a => snd_rng (snd a)
  | .rng2 a b => snd_rng2 (snd a) (snd b)
  | .rng3 a => snd_rng3 (snd a)
  | .dct _ _ a => snd_dct (snd a)
  | .zip a b => snd_zip (snd a) (snd b)
  | .lstR _ a => snd_lstR (snd a)
  | .comp _ a b c => snd_comp (snd a) (snd b) (snd c)
  | .tmp a => snd_tmp (snd a)
end
end Mi
end

section
set_option Elab.async false
set_option linter.all false
set_option maxRecDepth 100000
set_option autoImplicit false
set_option maxHeartbeats 1000000
/-! Sound13: exceptions: how one is made, raised. -/
namespace Mi
open PySem PySem.Spec L2
open PyProof.Rows hiding St
/-- the promise of an __init__ that keeps its arguments in fields of their names, one after the other -/
def spI (C : Addr) (flds : List Str) : Sp := fun vs H Q _ => ∃ (a : Addr) (ys : List V), vs = .ref a :: ys ∧ ys.length = flds.length ∧ 0 < flds.length ∧ H a = some (exo a C none) ∧
  ∀ (d : Addr) (H2 : Hp), H d = none → d ≠ a → H2 a = some (exo a C (some d)) → H2 d = some (exd d (flds.zip ys).reverse) → (∀ b, b ≠ a → b ≠ d → H2 b = H b) → Q .non H2
/-- self.f = f, .. -/
def chkI (self : Str) : List Str → List Stmt → Bool
  | [], [] => true
  | f :: fs, .Assign [.Attribute (.Name s _) g _] (.Name x _) _ :: r => decide (s = self) && decide (g = f) && decide (x = f) && chkI self fs r
  | _, _ => false
section
variable {X : Cx} {C a : Addr} {flds : List Str} {ys : List V} {H0 : Hp}
/-- behind the first stores -/
def InitAt (C a : Addr) (H0 : Hp) (done : List (Str × V)) (H : Hp) : Prop :=
  (done = [] ∧ H = H0) ∨ (done ≠ [] ∧ ∃ d, H0 d = none ∧ d ≠ a ∧ H a = some (exo a C (some d)) ∧ H d = some (exd d done.reverse) ∧ ∀ b, b ≠ a → b ≠ d → H b = H0 b)
theorem init_body {X : Cx} {C a : Addr} {H0 : Hp} {self : Str} (T : OexC X.K C) (hself : X.N[0]? = some self) (hs : Vis X.env.scope self) (ns : plainName self = true) (h0 : H0 a = some (exo a C none)) :
    ∀ (k : Nat) (fs : List Str) (ys : List V) (sts : List Stmt) (done : List (Str × V)), fs.length = ys.length → done.length + fs.length ≤ 20 → chkI self fs sts = true → (∀ j f, fs[j]? = some f → X.N[k + j]? = some f ∧ Vis X.env.scope f ∧ plainName f = true ∧ PySem.W.findIn X.K (.ref C) f = some none) →
      ∃ t, PSs X sts t ∧ ∀ (D : Ends) (σ : L2.St) (H : Hp), σ[0]? = some (some (.ref a)) → (∀ j y, ys[j]? = some y → σ[k + j]? = some (some y)) → InitAt C a H0 done H → (∀ H', InitAt C a H0 (done ++ fs.zip ys) H' → D.nx σ H') → t D σ H
  | k, [], [], [], done, _, _, _, _ => ⟨_, pss_nil, fun D σ H _ _ hi hq => hq H (by rw [List.zip_nil_left, List.append_nil]; exact hi)⟩
  | k, f :: fs, y :: ys, st :: sts, done, hl, hz, hc, hf => by
    have hc' : ∃ s p1 g p2 x p3 p4, st = .Assign [.Attribute (.Name s p1) g p2] (.Name x p3) p4 ∧ s = self ∧ g = f ∧ x = f ∧ chkI self fs sts = true := by
      unfold chkI at hc
      split at hc
      · rename_i h1 _; cases h1
      · rename_i h1 h2
        cases h1
        cases h2
        simp only [Bool.and_eq_true, decide_eq_true_eq] at hc
        exact ⟨_, _, _, _, _, _, _, rfl, hc.1.1.1, hc.1.1.2, hc.1.2, hc.2⟩
      · cases hc
    obtain ⟨s, p1, g, p2, x, p3, p4, rfl, rfl, rfl, rfl, hc2⟩ := hc'
    obtain ⟨n1, v1, m1, nf⟩ := hf 0 _ rfl
    rw [Nat.add_zero] at n1
    obtain ⟨a1, a2, _⟩ := plainName_ok ns
    obtain ⟨b1, b2, _⟩ := plainName_ok m1
    obtain ⟨t, ht, rd⟩ := init_body T hself hs ns h0 (k + 1) fs ys sts (done ++ [(x, y)]) (by simpa using hl) (by simp at hz ⊢; omega) hc2 (fun j f' e => by
      have := hf (j + 1) f' (by simpa using e)
      rw [show k + 1 + j = k + (j + 1) by omega]; exact this)
    refine ⟨_, pss_cons (ps_ost (pe_var hself hs a1 a2) (pe_var n1 v1 b1 b2) (swaps_no rfl)) ht, fun D σ H hs0 hsy hi hq => ?_⟩
    have hy := hsy 0 y rfl
    rw [Nat.add_zero] at hy
    have fin : ∀ H', InitAt C a H0 (done ++ [(x, y)]) H' → t D σ H' := fun H' hi' => rd D σ H' hs0 (fun j z e => by
      rw [show k + 1 + j = k + (j + 1) by omega]; exact hsy (j + 1) z (by simpa using e)) hi' (fun H'' hi'' => hq H'' (by
        rw [List.append_assoc] at hi''
        exact hi''))
    refine ⟨y, hy, .ref a, hs0, a, C, rfl, T, nf, ?_⟩
    rcases hi with ⟨rfl, rfl⟩ | ⟨hne, d, hd, hda, ha, hdd, hot⟩
    · refine .inl ⟨h0, fun dx hdx hne => fin _ (.inr ⟨by simp, dx, hdx, hne, upd_same, ?_, fun b h1 h2 => ?_⟩)⟩
      · rw [upd_ne hne, upd_same]; rfl
      · rw [upd_ne h1, upd_ne h2]
    · refine .inr ⟨d, done.reverse, ha, hdd, by simp at hz ⊢; omega, fin _ (.inr ⟨by simp, d, hd, hda, ?_, ?_, fun b h1 h2 => ?_⟩)⟩
      · rw [upd_ne (Ne.symm hda)]; exact ha
      · rw [upd_same, List.reverse_append]; rfl
      · rw [upd_ne h2]; exact hot b h1 h2
  | k, [], _ :: _, _, _, hl, _, _, _ => by cases hl
  | k, _ :: _, [], _, _, hl, _, _, _ => by cases hl
  | k, [], [], _ :: _, _, _, _, hc, _ => by cases hc
  | k, _ :: _, _ :: _, [], _, _, _, hc, _ => by cases hc
/-- an __init__ of the text keeps it -/
theorem init_ok {P : Program} {w : World} {K : PySem.W.Frag} {mg : Str → Option Value} {base : Heap} {qual : Str} {st : Stmt} {f : Addr} {fd : FuncData} {C : Addr} {self : Str} {flds : List Str} (F : Fun K "__init__" qual st f fd) (S : FnScope (self :: flds) (self :: flds) (defScope st))
    (T : OexC K C) (hc : chkI self flds (defBody st) = true) (hv : ∀ x ∈ self :: flds, visB (defScope st) x = true ∧ plainName x = true) (hno : ∀ x ∈ flds, PySem.W.findIn K (.ref C) x = some none) (hz : flds.length ≤ 20) : FnOk P w K mg base (L2.CX P w) 1 f fd (self :: flds) (spI C flds) := by
  refine F.okX S (fun vs H Q E h => ?_) (fun cdv A outer s H vs Q E hr h => ?_)
  · obtain ⟨a, ys, rfl, hl, _⟩ := h
    simp [hl]
  · obtain ⟨a, ys, rfl, hl, hpos, ha, hq⟩ := h
    have hN : ∀ {i : Nat} {x : Str}, (self :: flds)[i]? = some x → x ∈ self :: flds := fun h => List.mem_of_getElem? h
    obtain ⟨t, ht, rd⟩ := init_body (X := cxOf (L2.CX P w) P w K mg base (self :: flds) qual (defScope st) f cdv A outer s H E) (H0 := H) T rfl (visB_ok (hv self (List.mem_cons_self ..)).1) (hv self (List.mem_cons_self ..)).2 ha 1 flds ys (defBody st) [] hl.symm (by simpa using hz) hc (fun j x e => by
      have hm : x ∈ flds := List.mem_of_getElem? e
      refine ⟨?_, visB_ok (hv x (List.mem_cons_of_mem _ hm)).1, (hv x (List.mem_cons_of_mem _ hm)).2, hno x hm⟩
      show (self :: flds)[1 + j]? = some x
      rw [Nat.add_comm]; simpa using e)
    refine ⟨t, ht, rd _ _ H ?_ ?_ (.inl ⟨rfl, rfl⟩) fun H' hi => ?_⟩
    · rfl
    · intro j y e
      show (L2.start (self :: flds) (V.ref a :: ys))[1 + j]? = some (some y)
      unfold L2.start
      rw [Nat.add_comm, List.map_cons, List.cons_append, List.getElem?_cons_succ, List.getElem?_append_left (by simpa using (List.getElem?_eq_some_iff.mp e).1), List.getElem?_map, e]
      rfl
    · rcases hi with ⟨h1, _⟩ | ⟨_, d, hd, hda, h1, h2, h3⟩
      · exfalso
        have : ([] ++ flds.zip ys).length = flds.length := by simp [hl]
        rw [h1] at this
        simp at this
        omega
      · exact hq d H' hd hda h1 h2 h3
end

/-! ### raise -/
/-- what is known of the classes of exceptions -/
structure EOk (Γ : Gam) (es : List EC) (P : Program) (w : World) (K : PySem.W.Frag) (mg : Str → Option Value) (base : Heap) : Prop where
  len : es.map (fun e => (e.no, e.name, e.flds)) = Γ.exn
  cls : ∀ e ∈ es, mg e.name = some (.ref e.C)
  mkx : ∀ e ∈ es, 0 < e.flds.length → OexC K e.C ∧ e.flds.length ≤ 20 ∧ ∃ fI fd ps, PySem.W.findIn K (.ref e.C) "__init__" = some (some (.ref fI)) ∧ PySem.W.typeIn K (.ref fI) = some (.type "function") ∧ Binds K fd ps [] ∧ FnOk P w K mg base (L2.CX P w) 1 fI fd ps (spI e.C e.flds)
  nd : ∀ e ∈ es, e.flds.Nodup
theorem eAt_lookup {c : Nat} : ∀ {es : List EC}, (es.map (fun e => (e.no, e.name, e.flds))).lookup c = (eAt es c).map fun e => (e.name, e.flds)
  | [] => rfl
  | e :: es => by
    rw [List.map_cons, List.lookup_cons]
    unfold eAt
    rw [List.find?_cons]
    by_cases h : e.no = c
    · subst h
      simp
    · have h1 : (c == e.no) = false := by simpa using fun z => h z.symm
      have h2 : (e.no == c) = false := by simpa using h
      rw [h1, h2]
      exact eAt_lookup
theorem EOk.look {Γ : Gam} {es : List EC} {P : Program} {w : World} {K : PySem.W.Frag} {mg : Str → Option Value} {base : Heap} (E : EOk Γ es P w K mg base) (c : Nat) : Γ.exn.lookup c = (eAt es c).map fun e => (e.name, e.flds) := by
  rw [← E.len]; exact eAt_lookup
/-- looking up in what the stores have left -/
theorem zip_lookup : ∀ {fs : List Str} {ys : List V} {i : Nat} {f : Str} {y : V}, fs.Nodup → fs[i]? = some f → ys[i]? = some y → ys.length = fs.length → (fs.zip ys).reverse.lookup f = some y := by
  intro fs
  have key : ∀ {l : List (Str × V)} {f : Str} {y : V}, (l.map (·.1)).Nodup → (f, y) ∈ l → l.lookup f = some y := by
    intro l
    induction l with
    | nil => intro f y _ h; cases h
    | cons p l ih =>
      intro f y hn h
      obtain ⟨g, z⟩ := p
      rw [List.map_cons, List.nodup_cons] at hn
      rw [lookup_put]
      rcases List.mem_cons.mp h with e | h
      · cases e; rw [if_pos rfl]
      · have : f ≠ g := fun e => hn.1 (by rw [← e]; exact List.mem_map.mpr ⟨(f, y), h, rfl⟩)
        rw [if_neg this]; exact ih hn.2 h
  intro ys i f y hn h1 h2 hl
  refine key ?_ ?_
  · rw [List.map_reverse, List.map_fst_zip (by omega)]
    exact (List.reverse_perm fs).nodup_iff.mpr hn
  · rw [List.mem_reverse]
    exact List.mem_of_getElem? (i := i) (List.getElem?_zip_eq_some (z := (f, y)) |>.mpr ⟨h1, h2⟩)
section
variable {Γ : Gam} {es : List EC} {C : CallF} {lv : Nat} {S : SS} {X : Cx} {W : WX}
theorem del_same' {H : Hp} {a : Addr} : L2.del H a a = none := L2.del_same
/-- the end of a raise's making -/
theorem raise_read {K : PySem.W.Frag} {e : EC} {c : Nat} {ma : Loc → Sto → Out Val} (hc : eAt es c = some e) (hz : e.flds.length ≤ 20) (hn : e.flds.Nodup) (hpos : 0 < e.flds.length) {σ : L2.St} {H : Hp} (h : tMA K es W (fun ρ μ => match ma ρ μ with
    | .ok (.tup fs) μ1 => if fs.length = e.flds.length then .ok (.tup fs) μ1 else .fail
    | r => r) σ H fun vs H1 => vs.length = e.flds.length ∧ ∃ f1 μ1 fs, SR K f1 μ1 H1 ∧ VRs K f1 H1 fs vs ∧ ∀ f' H' cls d, Le f1 H1 f' H' → SR K f' μ1 H' → XR K es f' H' c fs cls d → W cls d σ H') :
    tMkO e.C (spI e.C e.flds) [] (tMA K es W (fun ρ μ => match ma ρ μ with
    | .ok (.tup fs) μ1 => if fs.length = e.flds.length then .ok (.tup fs) μ1 else .fail
    | r => r)) σ H (fun cls d H' => W cls d σ H') := by
  refine tMA_mono h fun vs H1 ⟨hl, f1, μ1, fs, S1, t, hw⟩ => ⟨by omega, fun a ha => ?_⟩
  rw [List.append_nil]
  refine ⟨a, vs, rfl, hl, hpos, upd_same, fun d H2 hd hda h1 h2 h3 => ⟨rfl, d, _, h1, h2, ?_, ?_⟩⟩
  · rw [upd_ne hda] at hd; exact hd
  · have hd1 : H1 d = none := by rw [upd_ne hda] at hd; exact hd
    have hoth : ∀ b, b ≠ a → b ≠ d → (upd (L2.del H2 a) d (.xd (e.flds.zip vs).reverse)) b = H1 b := fun b n1 n2 => by
      rw [upd_ne n2, L2.del_ne n1, h3 b n1 n2, upd_ne n1]
    have old : ∀ b o, H1 b = some o → (upd (L2.del H2 a) d (.xd (e.flds.zip vs).reverse)) b = some o := fun b o q => by
      rw [hoth b (ne_of_none q ha) (ne_of_none q hd1)]; exact q
    have l : Le f1 H1 f1 (upd (L2.del H2 a) d (.xd (e.flds.zip vs).reverse)) := ⟨List.prefix_refl _, ⟨fun b xs q => old b _ q, fun b o u q => old b _ q⟩, fun b o hb q => ⟨old b o q, hb⟩⟩
    refine hw f1 _ (.ref e.C) (some d) l ⟨S1.len, S1.nd, fun n c a' q1 q2 => ?_⟩ ⟨e, d, _, hc, rfl, rfl, upd_same, by rw [← t.length]; exact hl, fun i nm v e1 e2 => ?_⟩
    · have q := S1.cell n c a' q1 q2
      obtain ⟨o, ho⟩ := S1.mem (List.mem_of_getElem? q2)
      refine CR.mono l ?_ q
      rw [old _ _ ho, ho]
    · obtain ⟨y, q1, q2⟩ := t.get e2
      exact ⟨y, zip_lookup hn e1 q1 hl, VR.mono l _ _ q2⟩
where
  tMA_mono {K : PySem.W.Frag} {es : List EC} {W : WX} {m : Loc → Sto → Out Val} {σ : L2.St} {H : Hp} {Q Q' : List V → Hp → Prop} (h : tMA K es W m σ H Q) (k : ∀ vs H, Q vs H → Q' vs H) : tMA K es W m σ H Q' := by
    obtain ⟨f, ρ, μ, S, L, h⟩ := h
    refine ⟨f, ρ, μ, S, L, ?_⟩
    split
    · rename_i vs μ' e
      rw [e] at h
      exact fun f' H' xs l S' t => k _ _ (h f' H' xs l S' t)
    · rename_i c fs μ' e
      rw [e] at h
      exact h
    · rename_i o h1 h2
      split at h
      · exact absurd (by assumption) (h1 _ _)
      · exact absurd (by assumption) (h2 _ _ _)
      · exact h
end
end Mi
end

section
set_option Elab.async false
set_option linter.all false
set_option maxRecDepth 100000
set_option autoImplicit false
set_option maxHeartbeats 1000000
/-! Sound14: a try with any number of except clauses, each with a name or without. -/
namespace Mi
open PySem PySem.Spec L2
open PyProof.Rows hiding St
/-- a clause: the class it names; its name's slot; what its suite does -/
structure Cl where
  c : Value
  nm : Option Nat
  ts : Addr → Value → Option Addr → TS
def Cl.inn (k : Cl) (a : Addr) (σ : L2.St) : L2.St := match k.nm with
  | none => σ
  | some i => σ.set i (some (.ref a))
def Cl.out (k : Cl) (σ : L2.St) : L2.St := match k.nm with
  | none => σ
  | some i => σ.set i none
def Cl.ends (k : Cl) (D : Ends) : Ends where
  nx := fun σ H => D.nx (k.out σ) H
  rt := D.rt
  bk := fun σ H => D.bk (k.out σ) H
  ct := fun σ H => D.ct (k.out σ) H
def wCl (K : PySem.W.Frag) (Wo : WX) (D : Ends) : List Cl → WX
  | [] => Wo
  | k :: r => fun cls d σ H => ∃ b : Bool, PySem.W.exmOne K cls k.c = some b ∧ cond b (∀ a, H a = none → k.ts a cls d (k.ends D) (k.inn a σ) H) (wCl K Wo D r cls d σ H)
/-- a clause's name and its slot -/
def NmOk (X : Cx) : Option Str → Option Nat → Prop
  | none, none => True
  | some n, some i => X.N[i]? = some n ∧ X.env.kindOf n = some .local
  | _, _ => False
/-- a clause's suite -/
def SuOk (X : Cx) (b : List Stmt) (ts : Addr → Value → Option Addr → TS) : Prop :=
  b ≠ [] ∧ ∀ (a : Addr) (oe : Obj) (cls : Value) (d : Option Addr) (pn : List (Addr × Obj)), Zc cls d oe → (∃ vs, oe.data = .fields vs) → PSs (X.suite a ((a, oe) :: pn)) b (ts a cls d)
def ClsOk (X : Cx) : List ExceptHandler → List Cl → Prop
  | [], [] => True
  | .ExceptHandler (some e) nm b _ :: hs, k :: ks => (∃ x p, e = .Name x p ∧ Names X x k.c) ∧ NmOk X nm k.nm ∧ SuOk X b k.ts ∧ ClsOk X hs ks
  | .ExceptHandler none _ _ _ :: _, _ :: _ => False
  | [], _ :: _ => False
  | _ :: _, [] => False
section
variable {X : Cx} {pins : List (Addr × Obj)} {σ : L2.St} {H : Hp} {a : Addr} {cls : Value} {d : Option Addr} {B : Heap} {sI s : Shared} {D : Ends}
/-- an exception at rest ahead of the clauses -/
structure Rest (X : Cx) (pins : List (Addr × Obj)) (σ : L2.St) (H : Hp) (a : Addr) (cls : Value) (d : Option Addr) (B : Heap) (sI s : Shared) : Prop where
  inv : Inv X pins σ H sI
  nb : ∀ b o, sI.heap.get? b = some o → b ∉ frs X.stack → B.get? b = some o
  up : sI.heap.UpToSlots s.heap
  fl : HandSPX.FlyingZ B (X.env :: X.outer) a (Zc cls d) s.heap
  na : H a = none
  os : s.os = sI.os
  ag : AllBare s.gens
theorem Rest.here (r : Rest X pins σ H a cls d B sI s) : Inv X pins σ H s := r.inv.landed r.nb r.fl.1 r.up r.os r.ag
theorem Rest.move (r : Rest X pins σ H a cls d B sI s) {h : Heap} (fl : HandSPX.FlyingZ B (X.env :: X.outer) a (Zc cls d) h) (up : s.heap.UpToSlots h) : Rest X pins σ H a cls d B sI { s with heap := h } :=
  ⟨r.inv, r.nb, r.up.trans up, fl, r.na, r.os, r.ag⟩
/-- the suite's own context -/
theorem Rest.suite (hf : X.env.frame = some X.env.locals) (r : Rest X pins σ H a cls d B sI s) : ∃ oe, s.heap.get? a = some oe ∧ Zc cls d oe ∧ (∃ vs, oe.data = .fields vs) ∧ Inv (X.suite a ((a, oe) :: (X.pn ++ pins))) [] σ H s := by
  obtain ⟨oe, vs, he, hz, hd⟩ := r.fl.there
  have no : a ∉ frs (X.env :: X.outer) := fun hm => by
    obtain ⟨_, o, e, hnf⟩ := r.fl.2.2.1.mem hm
    rw [he] at e
    cases e
    exact hnf _ hd
  refine ⟨oe, he, hz, ⟨vs, hd⟩, r.here.suite he hd r.na (fun z => no ?_) fun hm => no ?_⟩
  · exact List.mem_filterMap.mpr ⟨X.env, List.mem_cons_self, by rw [hf, z]⟩
  · obtain ⟨e, q, q'⟩ := List.mem_filterMap.mp hm
    exact List.mem_filterMap.mpr ⟨e, List.mem_cons_of_mem _ q, q'⟩
/-- no clause has caught it: off it goes -/
theorem Rest.off {Wo : WX} (hs : X.stack = X.env :: X.outer) (hf : X.env.frame = some X.env.locals) (tk : Takes X Wo) (r : Rest X pins σ H a cls d B sI s) (w : Wo cls d σ H) :
    wpAny (model X.prog X.w) X.A (handleBy (.ref a) X.env []) (SP X pins D) X.xe s := by
  refine wpAny_handleBy_nil ?_
  have fl := r.fl
  obtain ⟨_, _, _, oe, vs, T, _, _, he, _, hd, h1, _⟩ := r.fl
  unfold PySem.passOn
  refine wpAny_bind (wpAny_field he hd h1 ?_)
  rw [if_neg (show ¬ ((Value.ref T == Value.none) = true) from by simp)]
  have go : wpAny (model X.prog X.w) X.A (setFlight (.ref a) X.env.frame) (fun _ s4 => wpAny (model X.prog X.w) X.A (throw (.ref a) : Sem Flow) (SP X pins D) X.xe s4) X.xe s := by
    rw [hf]
    refine HandSPX.setFlight_upZ fl fun h4 hh up4 => wpAny_throw (tk _ _ ?_)
    refine ⟨a, B, sI, pins, σ, H, cls, d, rfl, r.inv, r.nb, r.up.trans up4, ?_, r.na, r.os, r.ag, w⟩
    rw [hs]
    exact .inr (.inr hh)
  first
    | exact wpAny_bind (wpAny_pure (wpAny_bind go))
    | exact wpAny_bind go
/-- what a suite has come to holds of the whole -/
theorem sp_of (ok : X.Ok) {q : Addr × Obj} {D' : Ends} {f : Flow} {s' : Shared} (h : SP (X.suite a (q :: (X.pn ++ pins))) [] D' f s') : SP X pins D' f s' := by
  cases f with
  | next => obtain ⟨σ6, H6, S6, q6⟩ := h; exact ⟨_, _, S6.unsuite ok, q6⟩
  | brk => obtain ⟨σ6, H6, S6, q6⟩ := h; exact ⟨_, _, S6.unsuite ok, q6⟩
  | cont => obtain ⟨σ6, H6, S6, q6⟩ := h; exact ⟨_, _, S6.unsuite ok, q6⟩
  | ret u => obtain ⟨v6, σ6, H6, S6, r6, q6⟩ := h; exact ⟨_, _, _, S6.unsuite ok, r6, q6⟩
/-- the clauses, one after the other -/
theorem Rest.clauses {Wo : WX} (hs : X.stack = X.env :: X.outer) (hf : X.env.frame = some X.env.locals) (hN : X.N.Nodup) (tk : Takes X Wo) (ok : X.Ok) : ∀ (hds : List ExceptHandler) (ks : List Cl), ClsOk X hds ks → ∀ {s : Shared}, Rest X pins σ H a cls d B sI s → wCl X.K Wo D ks cls d σ H →
    wpAny (model X.prog X.w) X.A (handleBy (.ref a) X.env hds) (SP X pins D) X.xe s
  | [], [], _, s, r, w => r.off hs hf tk w
  | .ExceptHandler (some ex) nm b pos :: hds, k :: ks, hk, s, r, w => by
    obtain ⟨⟨x, np, rfl, hc⟩, hn, ⟨hb, hsu⟩, hr⟩ := hk
    obtain ⟨b₀, b, rfl⟩ : ∃ b₀ b', b = b₀ :: b' := by
      cases b with
      | nil => exact absurd rfl hb
      | cons b₀ b => exact ⟨b₀, b, rfl⟩
    obtain ⟨hit, hm, w⟩ := w
    obtain ⟨oe, he, hz, hd, Su⟩ := r.suite hf
    refine wpAny_handleBy_cons (codeAny_handlers_test ?_) (by intro q; cases q)
    have LT : PySem.W.Looks (model X.prog X.w) s.heap (typeOf (.ref a)) cls := fun A Q E s k q => wpAny_typeOf_ref (k _ _ he) (by rw [hz.1]; exact q)
    have LM := PySem.W.exm_one (M := model X.prog X.w) (r.here.kIn) LT hm
    have ask : ∀ {Q E : Value → Shared → Prop}, Q k.c s → wpAny (model X.prog X.w) (X.A.mark (some (.ref a))) (eval (.Name x np) X.env) Q E s := fun {Q E} q => by
      obtain ⟨g1, g2, g3 | ⟨g3, g4, g5⟩⟩ := hc
      · exact ld_glob (X := X.suite a ((a, oe) :: (X.pn ++ pins))) Su g1 g3 q g2
      · exact ld_blt (X := X.suite a ((a, oe) :: (X.pn ++ pins))) Su g1 g3 g4 q g5 g2
    refine ask (LM.here ?_)
    cases hit with
    | false =>
      show wpAny _ X.A (handleBy (.ref a) X.env hds) _ _ _
      exact Rest.clauses hs hf hN tk ok hds ks hr r w
    | true =>
      cases nm with
      | none =>
        have hk0 : k.nm = none := by
          cases e : k.nm with
          | none => rfl
          | some i => rw [e] at hn; exact hn.elim
        refine codeAny_handlers_suite (HandSPX.lands_againZ r.fl fun h4 fl4 up4 => ?_)
        have r4 := r.move fl4 up4
        obtain ⟨oe4, _, hz4, hd4, S4⟩ := r4.suite hf
        have w4 := w a r.na
        have e1 : k.ends D = D := by unfold Cl.ends Cl.out; rw [hk0]
        have e2 : k.inn a σ = σ := by unfold Cl.inn; rw [hk0]
        rw [e1, e2] at w4
        exact wpAny_mono ((hsu a oe4 cls d (X.pn ++ pins) hz4 hd4).run [] _ _ H _ S4 w4) (fun f s6 h6 => by
          have := sp_of ok h6
          cases f <;> exact this) (fun _ _ z => False.elim z)
      | some n =>
        obtain ⟨i, hk0, hi, hln⟩ : ∃ i, k.nm = some i ∧ X.N[i]? = some n ∧ X.env.kindOf n = some .local := by
          cases e : k.nm with
          | none => rw [e] at hn; exact hn.elim
          | some i => rw [e] at hn; exact ⟨i, rfl, hn.1, hn.2⟩
        refine codeAny_handlers_suite_as (HandSPX.lands_againZ r.fl fun h4 fl4 up4 => ?_)
        have r4 := r.move fl4 up4
        obtain ⟨oe4, _, hz4, hd4, S4⟩ := r4.suite hf
        have w4 := w a r.na
        have e2 : k.inn a σ = σ.set i (some (.ref a)) := by unfold Cl.inn; rw [hk0]
        have e3 : ∀ σ', k.out σ' = σ'.set i none := fun σ' => by unfold Cl.out; rw [hk0]
        rw [e2] at w4
        refine store_ok (X := X.suite a ((a, oe4) :: (X.pn ++ pins))) (v := .ref a) S4 hN hi (.inl hln) rfl (fun s5 S5 => ?_) (.inr hln)
        refine wpAny_mono ((hsu a oe4 cls d (X.pn ++ pins) hz4 hd4).run [] s5 _ H _ S5 w4) (fun f s6 h6 => ?_) (fun _ _ z => False.elim z)
        have h6 := sp_of ok h6
        have off : ∀ {σ6 : L2.St} {H6 : Hp} {Q : Shared → Prop}, Inv X pins σ6 H6 s6 → (∀ s7, Inv X pins (σ6.set i none) H6 s7 → Q s7) → wpAny (model X.prog X.w) X.A (do bindName X.env n .none; unbindBehindTheSuite X.env n pos) (fun _ s7 => Q s7) X.xe s6 := fun J q => gone_ok J hN hi hln q
        cases f with
        | next =>
          obtain ⟨σ6, H6, J6, q6⟩ := h6
          exact off J6 fun s7 J7 => ⟨_, _, J7, by rw [← e3]; exact q6⟩
        | brk =>
          obtain ⟨σ6, H6, J6, q6⟩ := h6
          exact off J6 fun s7 J7 => ⟨_, _, J7, by rw [← e3]; exact q6⟩
        | cont =>
          obtain ⟨σ6, H6, J6, q6⟩ := h6
          exact off J6 fun s7 J7 => ⟨_, _, J7, by rw [← e3]; exact q6⟩
        | ret u =>
          obtain ⟨v6, σ6, H6, J6, r6, q6⟩ := h6
          exact off J6 fun s7 J7 => ⟨_, _, _, J7, r6, q6⟩
  | [], _ :: _, hk, _, _, _ => False.elim hk
  | h :: _, [], hk, _, _, _ => by obtain ⟨t, _, _, _⟩ := h; cases t <;> exact False.elim hk
  | .ExceptHandler none _ _ _ :: _, _ :: _, hk, _, _, _ => False.elim hk
/-- try: body, except ..: suite, .. -/
theorem ps_try_cl {body : List Stmt} {h₀ : ExceptHandler} {hds : List ExceptHandler} {ks : List Cl} {pos : Pos} {tb : WX → TS} {Wo : WX} (hs : X.stack = X.env :: X.outer) (hf : X.env.frame = some X.env.locals) (hN : X.N.Nodup) (tk : Takes X Wo)
    (hb : ∀ (W : WX) (pn : List (Addr × Obj)) (xe : Value → Shared → Prop), Takes (X.tr pn xe) W → PassesOwn (model X.prog X.w) X.A X.env xe → PSs (X.tr pn xe) body (tb W)) (hh : ClsOk X (h₀ :: hds) ks) :
    PS X (.Try body (h₀ :: hds) [] [] pos) (fun D σ H => tb (wCl X.K Wo D ks) D σ H) := by
  refine ⟨fun pins s σ H D I h => wpAny_Try_except ?_⟩
  have ok := I.ok
  have b0 := hb (wCl X.K Wo D ks) (X.pn ++ pins) (fun e s₁ => wpAny (model X.prog X.w) X.A (noteFrame e X.env) (fun _ s₂ => wpAny (model X.prog X.w) X.A (setFlight e none) (fun _ s₃ => wpAny (model X.prog X.w) X.A (handleBy e X.env (h₀ :: hds)) (SP X pins D) X.xe s₃) X.xe s₂) X.xe s₁) (fun u s' xx => ?_) PassesOwn.looking
  · refine wpAny_mono (b0.run [] s σ H D (I.toTry _) h) (fun f s1 h1 => ?_) (fun e s1 he => he)
    cases f with
    | next => obtain ⟨σ', H', J, q⟩ := h1; exact wpAny_execs_nil ⟨σ', H', J.ofTry ok, q⟩
    | brk => obtain ⟨σ', H', J, q⟩ := h1; exact ⟨σ', H', J.ofTry ok, q⟩
    | cont => obtain ⟨σ', H', J, q⟩ := h1; exact ⟨σ', H', J.ofTry ok, q⟩
    | ret u => obtain ⟨v, σ', H', J, r, q⟩ := h1; exact ⟨v, σ', H', J.ofTry ok, r, q⟩
  · obtain ⟨a, B, sI, pins', σ', H', cls, d, rfl, J, nb, up, sky, na, os, ag, w⟩ := xx
    have sky' : Sky B (X.env :: X.outer) a (Zc cls d) X.env.locals s'.heap := by rw [← hs]; exact sky
    exact Sky.land Zc.steady (by rw [ok.frames, hs]) hf sky' fun h3 fl3 up3 => Rest.clauses hs hf hN tk ok (h₀ :: hds) ks hh ⟨J.ofTry ok, nb, up.trans up3, fl3, na, os, ag⟩ w
end
end Mi
end

section
set_option Elab.async false
set_option linter.all false
set_option maxRecDepth 100000
set_option autoImplicit false
set_option maxHeartbeats 1000000
/-! Sound15: readings of statements. -/
namespace Mi
open PySem PySem.Spec L2
open PyProof.Rows hiding St
section
variable (K : PySem.W.Frag) (es : List EC)
def PostS (W : WX) (D : Ends) (f : List Addr) (H : Hp) (o : OS) : Prop := match o with
  | .nx ρ μ => ∀ f' H' σ', Le f H f' H' → SR K f' μ H' → LR K f' H' ρ σ' → D.nx σ' H'
  | .ret v μ => ∀ f' H' x, Le f H f' H' → SR K f' μ H' → VR K f' H' v x → D.rt x H'
  | .brk ρ μ => ∀ f' H' σ', Le f H f' H' → SR K f' μ H' → LR K f' H' ρ σ' → D.bk σ' H'
  | .cnt ρ μ => ∀ f' H' σ', Le f H f' H' → SR K f' μ H' → LR K f' H' ρ σ' → D.ct σ' H'
  | .exc c fs ρ μ => ∀ f' H' σ' cls d, Le f H f' H' → SR K f' μ H' → LR K f' H' ρ σ' → XR K es f' H' c fs cls d → W cls d σ' H'
  | .fail => False
/-- what a statement wants -/
def tS (W : WX) (m : Loc → Sto → OS) : TS := fun D σ H => ∃ f ρ μ, SR K f μ H ∧ LR K f H ρ σ ∧ PostS K es W D f H (m ρ μ)
end
section
variable {K : PySem.W.Frag} {es : List EC} {W : WX} {σ : L2.St} {f f1 : List Addr} {H H1 : Hp} {μ : Sto} {ρ : Loc} {D : Ends}
theorem PostS.mono {o : OS} (l : Le f H f1 H1) (h : PostS K es W D f H o) : PostS K es W D f1 H1 o := by
  cases o with
  | nx ρ μ => exact fun f' H' σ' l' => h f' H' σ' (l.trans l')
  | ret v μ => exact fun f' H' x l' => h f' H' x (l.trans l')
  | brk ρ μ => exact fun f' H' σ' l' => h f' H' σ' (l.trans l')
  | cnt ρ μ => exact fun f' H' σ' l' => h f' H' σ' (l.trans l')
  | exc c fs ρ μ => exact fun f' H' σ' cls d l' => h f' H' σ' cls d (l.trans l')
  | fail => exact h
/-- an expression first, then the rest of its statement -/
theorem on_read {m : Loc → Sto → Out Val} {k : Val → Sto → OS} {Q : VK} (S : SR K f μ H) (L : LR K f H ρ σ) (h : PostS K es W D f H ((m ρ μ).on ρ k))
    (hk : ∀ v μ1 f1 H1 x, Le f H f1 H1 → SR K f1 μ1 H1 → LR K f1 H1 ρ σ → VR K f1 H1 v x → PostS K es W D f1 H1 (k v μ1) → Q x H1) : tM K es W m σ H Q := by
  refine ⟨f, ρ, μ, S, L, ?_⟩
  cases e : m ρ μ with
  | ok v μ1 =>
    rw [e] at h
    exact fun f' H' x l' S' r => hk v μ1 f' H' x l' S' (L.mono l') r (PostS.mono l' h)
  | exc c fs μ1 =>
    rw [e] at h
    exact fun f' H' cls d l' S' r => h f' H' σ cls d l' S' (L.mono l') r
  | fail =>
    rw [e] at h
    exact h
/-- .. a test .. -/
theorem on_readT {m : Loc → Sto → Out Val} {k : Val → Sto → OS} {Q : Bool → Hp → Prop} (S : SR K f μ H) (L : LR K f H ρ σ) (hf : ∀ v μ1, (∀ b, v ≠ .bl b) → k v μ1 = .fail) (h : PostS K es W D f H ((m ρ μ).on ρ k))
    (hk : ∀ b μ1 f1 H1, Le f H f1 H1 → SR K f1 μ1 H1 → LR K f1 H1 ρ σ → PostS K es W D f1 H1 (k (.bl b) μ1) → Q b H1) : tTM K es W m σ H Q := by
  refine ⟨f, ρ, μ, S, L, ?_⟩
  cases e : m ρ μ with
  | ok v μ1 =>
    rw [e] at h
    cases v with
    | bl b => exact fun f' H' l' S' => hk b μ1 f' H' l' S' (L.mono l') (PostS.mono l' h)
    | _ => rw [Out.on_ok, hf _ _ (by intro b z; cases z)] at h; exact h
  | exc c fs μ1 =>
    rw [e] at h
    exact fun f' H' cls d l' S' r => h f' H' σ cls d l' S' (L.mono l') r
  | fail =>
    rw [e] at h
    exact h
/-- .. arguments .. -/
theorem on_readA {m : Loc → Sto → Out Val} {k : Val → Sto → OS} {Q : List V → Hp → Prop} (S : SR K f μ H) (L : LR K f H ρ σ) (hf : ∀ v μ1, (∀ b, v ≠ .tup b) → k v μ1 = .fail) (h : PostS K es W D f H ((m ρ μ).on ρ k))
    (hk : ∀ vs μ1 f1 H1 xs, Le f H f1 H1 → SR K f1 μ1 H1 → LR K f1 H1 ρ σ → VRs K f1 H1 vs xs → PostS K es W D f1 H1 (k (.tup vs) μ1) → Q xs H1) : tMA K es W m σ H Q := by
  refine ⟨f, ρ, μ, S, L, ?_⟩
  cases e : m ρ μ with
  | ok v μ1 =>
    rw [e] at h
    cases v with
    | tup vs => exact fun f' H' xs l' S' t => hk vs μ1 f' H' xs l' S' (L.mono l') t (PostS.mono l' h)
    | _ => rw [Out.on_ok, hf _ _ (by intro b z; cases z)] at h; exact h
  | exc c fs μ1 =>
    rw [e] at h
    exact fun f' H' cls d l' S' r => h f' H' σ cls d l' S' (L.mono l') r
  | fail =>
    rw [e] at h
    exact h
/-- one statement, then the others -/
theorem seq_read {a b : Loc → Sto → OS} (h : tS K es W (fun ρ μ => (a ρ μ).then b) D σ H) : tSeq (tS K es W a) (tS K es W b) D σ H := by
  obtain ⟨f, ρ, μ, S, L, h⟩ := h
  refine ⟨f, ρ, μ, S, L, ?_⟩
  cases e : a ρ μ with
  | nx ρ1 μ1 =>
    simp only [e] at h
    exact fun f' H' σ' l S' L' => ⟨f', ρ1, μ1, S', L', PostS.mono l h⟩
  | _ => simp only [e] at h; exact h
theorem if_read {c : Loc → Sto → Out Val} {a b : Loc → Sto → OS} (h : tS K es W (fun ρ μ => (c ρ μ).on ρ fun v μ1 => match v with
    | .bl true => a ρ μ1
    | .bl false => b ρ μ1
    | _ => .fail) D σ H) : tIfS (tTM K es W c) (tS K es W a) (tS K es W b) D σ H := by
  obtain ⟨f, ρ, μ, S, L, h⟩ := h
  refine on_readT S L (fun v μ1 hn => by cases v <;> first | rfl | exact absurd rfl (hn _)) h fun t μ1 f1 H1 l S1 L1 h1 => ?_
  cases t with
  | true => rw [if_pos rfl]; exact ⟨f1, ρ, μ1, S1, L1, h1⟩
  | false => rw [if_neg (by simp)]; exact ⟨f1, ρ, μ1, S1, L1, h1⟩
theorem ret_read {m : Loc → Sto → Out Val} (h : tS K es W (fun ρ μ => (m ρ μ).on ρ fun v μ1 => .ret v μ1) D σ H) : tRet (tM K es W m) D σ H := by
  obtain ⟨f, ρ, μ, S, L, h⟩ := h
  exact on_read S L h fun v μ1 f1 H1 x l S1 L1 r h1 => h1 f1 H1 x (Le.refl _ _) S1 r
theorem expr_read {m : Loc → Sto → Out Val} (h : tS K es W (fun ρ μ => (m ρ μ).on ρ fun _ μ1 => .nx ρ μ1) D σ H) : tDrop (tM K es W m) D σ H := by
  obtain ⟨f, ρ, μ, S, L, h⟩ := h
  exact on_read S L h fun v μ1 f1 H1 x l S1 L1 r h1 => h1 f1 H1 σ (Le.refl _ _) S1 L1
theorem set_read {tg : MT} {m : Loc → Sto → Out Val} (h : tS K es W (fun ρ μ => (m ρ μ).on ρ fun v μ1 => match bindT tg v ρ with
    | some ρ1 => .nx ρ1 μ1
    | none => .fail) D σ H) : tAsg (tM K es W m) (gT K tg) D σ H := by
  obtain ⟨f, ρ, μ, S, L, h⟩ := h
  refine on_read S L h fun v μ1 f1 H1 x l S1 L1 r h1 => ?_
  cases e : bindT tg v ρ with
  | none => rw [e] at h1; exact h1.elim
  | some ρ1 => rw [e] at h1; exact gT_set L1 r e fun σ' L' _ => h1 f1 H1 σ' (Le.refl _ _) S1 L'
theorem bindT_long {is : List Nat} {vs : List Val} {ρ : Loc} (h : vs.length ≠ is.length) : bindT (.tp is) (.tup vs) ρ = none := by
  show (if vs.length = is.length then _ else none) = none
  rw [if_neg h]
/-- a, b = x, y -/
theorem par_read {i j : Nat} {m : Loc → Sto → Out Val} (h : tS K es W (fun ρ μ => (m ρ μ).on ρ fun v μ1 => match bindT (.tp [i, j]) v ρ with
    | some ρ1 => .nx ρ1 μ1
    | none => .fail) D σ H) : tPar i j (tMA K es W m) D σ H := by
  obtain ⟨f, ρ, μ, S, L, h⟩ := h
  refine on_readA S L (fun v μ1 hn => by cases v <;> first | rfl | exact absurd rfl (hn _)) h fun vs μ1 f1 H1 xs l S1 L1 t h1 => ?_
  match vs, xs, t, h1 with
  | [v, w], _, ⟨x, xs1, e1, rv, y, xs2, e2, rw', e3⟩, h1 =>
    subst e1
    subst e2
    rw [show xs2 = [] from e3]
    refine ⟨x, y, rfl, ?_⟩
    have h1' : PostS K es W D f1 H1 (.nx ((ρ.set i (some v)).set j (some w)) μ1) := h1
    exact h1' f1 H1 _ (Le.refl _ _) S1 ((L1.set rv).set rw')
  | [], _, _, h1 => exact h1.elim
  | [_], _, _, h1 => exact h1.elim
  | _ :: _ :: _ :: _, _, _, h1 =>
    rw [bindT_long (by simp)] at h1
    exact h1.elim
theorem par3_read {i j k : Nat} {m : Loc → Sto → Out Val} (h : tS K es W (fun ρ μ => (m ρ μ).on ρ fun v μ1 => match bindT (.tp [i, j, k]) v ρ with
    | some ρ1 => .nx ρ1 μ1
    | none => .fail) D σ H) : tPar3 i j k (tMA K es W m) D σ H := by
  obtain ⟨f, ρ, μ, S, L, h⟩ := h
  refine on_readA S L (fun v μ1 hn => by cases v <;> first | rfl | exact absurd rfl (hn _)) h fun vs μ1 f1 H1 xs l S1 L1 t h1 => ?_
  match vs, xs, t, h1 with
  | [v, w, u], _, ⟨x, xs1, e1, rv, y, xs2, e2, rw', z, xs3, e3, ru, e4⟩, h1 =>
    subst e1
    subst e2
    subst e3
    rw [show xs3 = [] from e4]
    refine ⟨x, y, z, rfl, ?_⟩
    have h1' : PostS K es W D f1 H1 (.nx (((ρ.set i (some v)).set j (some w)).set k (some u)) μ1) := h1
    exact h1' f1 H1 _ (Le.refl _ _) S1 (((L1.set rv).set rw').set ru)
  | [], _, _, h1 => exact h1.elim
  | [_], _, _, h1 => exact h1.elim
  | [_, _], _, _, h1 => exact h1.elim
  | _ :: _ :: _ :: _ :: _, _, _, h1 =>
    rw [bindT_long (by simp)] at h1
    exact h1.elim
theorem aug_read {i : Nat} {neg : Bool} {m : Loc → Sto → Out Val} (h : tS K es W (fun ρ μ => match ρ[i]? with
    | some (some x) => (m ρ μ).on ρ fun v μ1 => (match x, v with
      | .int a, .int b => .nx (ρ.set i (some (.int (if neg then a - b else a + b)))) μ1
      | _, _ => .fail)
    | _ => .fail) D σ H) : tAug i (tM K es W m) (ipI fun a b => if neg then a - b else a + b) D σ H := by
  obtain ⟨f, ρ, μ, S, L, h⟩ := h
  cases e : ρ[i]? with
  | none => simp only [e] at h; exact h.elim
  | some o =>
    cases o with
    | none => simp only [e] at h; exact h.elim
    | some u =>
      simp only [e] at h
      obtain ⟨x, hx, rx⟩ := L.get i u e
      refine ⟨x, hx, on_read S L h fun v μ1 f1 H1 y l S1 L1 ry h1 => ?_⟩
      cases u with
      | int a =>
        cases v with
        | int b =>
          obtain rfl : x = .int a := rx
          obtain rfl : y = .int b := ry
          exact ⟨a, b, rfl, rfl, h1 f1 H1 _ (Le.refl _ _) S1 (L1.set rfl)⟩
        | _ => exact h1.elim
      | _ => exact h1.elim
theorem put_read {ma mb m : Loc → Sto → Out Val} (h : tS K es W (fun ρ μ => (m ρ μ).on ρ fun v μ1 => (ma ρ μ1).on ρ fun o μ2 => (mb ρ μ2).on ρ fun i μ3 => match setItem o i v μ3 with
    | some μ4 => .nx ρ μ4
    | none => .fail) D σ H) : tAsg (tM K es W m) (gSub (tM K es W ma) (tM K es W mb) (rSetX K)) D σ H := by
  obtain ⟨f, ρ, μ, S, L, h⟩ := h
  refine on_read S L h fun v μ1 f1 H1 x l1 S1 L1 rv h1 => on_read S1 L1 h1 fun o μ2 f2 H2 p l2 S2 L2 ro h2 => on_read S2 L2 h2 fun i μ3 f3 H3 y l3 S3 L3 ri h3 => ?_
  cases e : setItem o i v μ3 with
  | none => rw [e] at h3; exact h3.elim
  | some μ4 =>
    rw [e] at h3
    have h3' : ∀ f' H' σ', Le f3 H3 f' H' → SR K f' μ4 H' → LR K f' H' ρ σ' → D.nx σ' H' := h3
    have rv3 : VR K f3 H3 v x := VR.mono l3 _ _ (VR.mono l2 _ _ rv)
    cases o with
    | ref n =>
      have e' : (match μ3[n]? with
        | some (.lst xs) => setLst n xs i v μ3
        | some (.dict t kvs) => if keyOk t i ∧ kvs.length < LIM then some (μ3.set n (.dict t (dput kvs i v))) else none
        | _ => none) = some μ4 := e
      cases e2 : μ3[n]? with
      | none => rw [e2] at e'; cases e'
      | some c =>
        rw [e2] at e'
        cases c with
        | lst vs =>
          cases i with
          | int k =>
            have e'' : (place vs.length k).map (fun j => μ3.set n (.lst (vs.set j v))) = some μ4 := e'
            cases e4 : place vs.length k with
            | none => rw [e4] at e''; cases e''
            | some j =>
              rw [e4] at e''
              cases e''
              obtain ⟨a, ys, rfl, ha, hq, t⟩ := S3.lst (VR.mono l3 _ _ ro) e2
              obtain rfl : y = .int k := ri
              refine .inl ⟨a, ys, k, j, rfl, rfl, hq, by rw [t.length]; exact e4, ?_⟩
              refine h3' f3 _ σ (Le.setL (List.mem_of_getElem? ha) hq) (S3.setL (us := vs) ha hq (VRs.set rv3 j t)) (L3.mono (Le.setL (List.mem_of_getElem? ha) hq))
          | _ => cases e'
        | dict t kvs =>
          have e'' : (if keyOk t i ∧ kvs.length < LIM then some (μ3.set n (.dict t (dput kvs i v))) else none) = some μ4 := e'
          by_cases hc : keyOk t i = true ∧ kvs.length < LIM
          · rw [if_pos hc] at e''
            cases e''
            exact .inr ⟨f3, μ3, n, t, kvs, i, v, S3, VR.mono l3 _ _ ro, e2, hc.2, hc.1, ri, rv3, fun H' l' S' => h3' f3 H' σ l' S' (L3.mono l')⟩
          · rw [if_neg hc] at e''; cases e''
        | ins _ _ => cases e'
    | _ => cases e
end
end Mi
end

section
set_option Elab.async false
set_option linter.all false
set_option maxRecDepth 100000
set_option autoImplicit false
set_option maxHeartbeats 1000000
/-! Sound16: except suites; loops. -/
namespace Mi
open PySem PySem.Spec L2
open PyProof.Rows hiding St
section
variable {K : PySem.W.Frag} {es : List EC} {f f' : List Addr} {H H' : Hp} {μ : Sto}
theorem SR.no_xd (S : SR K f μ H) {a : Addr} {ps : List (Str × V)} (h : H a = some (.xd ps)) : a ∉ f := fun hm => by
  obtain ⟨n, hn, e⟩ := List.getElem_of_mem hm
  obtain ⟨c, o, h1, h2⟩ := S.there (n := n) (a := a) (by rw [List.getElem?_eq_getElem hn, e])
  have q := S.cell n c a h1 (by rw [List.getElem?_eq_getElem hn, e])
  cases c with
  | lst vs => obtain ⟨xs, q1, _⟩ := q; rw [h] at q1; cases q1
  | dict t kvs =>
    cases t with
    | false => obtain ⟨xs, q1, _⟩ := q; rw [h] at q1; cases q1
    | true => obtain ⟨xs, q1, _⟩ := q; rw [h] at q1; cases q1
  | ins _ _ => exact q.elim
theorem XR.mono {c : Nat} {fs : List Val} {cls : Value} {d : Option Addr} (S : SR K f μ H) (l : Le f H f' H') (h : XR K es f H c fs cls d) : XR K es f' H' c fs cls d := by
  obtain ⟨e, dd, ps, h1, h2, h3, h4, h5, h6⟩ := h
  exact ⟨e, dd, ps, h1, h2, h3, (l.oth dd _ (S.no_xd h4) h4).1, h5, fun i nm v q1 q2 => let ⟨y, q3, q4⟩ := h6 i nm v q1 q2; ⟨y, q3, VR.mono l _ _ q4⟩⟩
end
/-! ### what a suite gives back -/
/-- the caught one lies where its name says -/
def Lies (nm : Option Nat) (a : Addr) (σ : L2.St) : Prop := ∀ i, nm = some i → σ[i]? = some (some (.ref a))
def tF (K : PySem.W.Frag) (es : List EC) (nm : Option Nat) (fe : FE) (a : Addr) (cls : Value) (d : Option Addr) : TE := fun σ H Q => ∃ f ρ μ c fs, SR K f μ H ∧ LR K f H ρ σ ∧ Lies nm a σ ∧ XR K es f H c fs cls d ∧ (match evF c fs fe ρ with
  | some v => ∀ f' H' x, Le f H f' H' → SR K f' μ H' → VR K f' H' v x → Q x H'
  | none => False)
def tFA (K : PySem.W.Frag) (es : List EC) (nm : Option Nat) (fe : FE) (a : Addr) (cls : Value) (d : Option Addr) : TA := fun σ H Q => ∃ f ρ μ c fs, SR K f μ H ∧ LR K f H ρ σ ∧ Lies nm a σ ∧ XR K es f H c fs cls d ∧ (match evF c fs fe ρ with
  | some (.tup vs) => ∀ f' H' xs, Le f H f' H' → SR K f' μ H' → VRs K f' H' vs xs → Q xs H'
  | _ => False)
def asAttr : Expr → Option (Str × Str)
  | .Attribute (.Name x _) g _ => some (x, g)
  | _ => none
theorem asAttr_ok {e : Expr} {x g : Str} (h : asAttr e = some (x, g)) : ∃ p q, e = .Attribute (.Name x p) g q := by
  unfold asAttr at h
  split at h
  · cases h; exact ⟨_, _, rfl⟩
  · cases h
def argcF : FE → Nat
  | .cons _ b => argcF b + 1
  | _ => 0
mutual
def chkF (Γ : Gam) (S : SS) (nm : Option Nat) : FE → Expr → Bool
  | .var i, e => match asName e with
    | some x => decide (S.N[i]? = some x) && visB S.sc x && plainName x
    | none => false
  | .cst v, e => decide (asConst e = some v)
  | .fld t, e => match asAttr e with
    | some (x, g) => (match nm with
      | some i => decide (S.N[i]? = some x)
      | none => false) && visB S.sc x && plainName x && t.all fun p => match Γ.exn.lookup p.1 with
        | some q => decide (q.2[p.2]? = some g)
        | none => false
    | none => false
  | .nil, _ => false
  | .cons _ _, _ => false
  | .tup a, e => match asTup e with
    | some l => chkFA Γ S nm a l && decide (argcF a ≤ 1000)
    | none => false
def chkFA (Γ : Gam) (S : SS) (nm : Option Nat) : FE → List Expr → Bool
  | .nil, [] => true
  | .cons a b, e :: l => plainArg e && chkF Γ S nm a e && chkFA Γ S nm b l
  | _, _ => false
end
/-- what is known of the module's exceptions -/
structure SOk (Γ : Gam) (es : List EC) (S : SS) (X : Cx) : Prop where
  ex : EOk Γ es X.prog X.w X.K X.mg X.base
  xf : ∀ e ∈ es, XfC X.K e.C ∧ ∀ g ∈ e.flds, PySem.W.findIn X.K (.ref e.C) g = some none
  cat : ∀ x ks, Γ.cat.lookup x = some ks → ∃ cv, (X.mg x = some cv ∨ (X.mg x = none ∧ bootBuiltins x = some cv ∧ x ≠ "__name__")) ∧ ∀ (c : Nat) (e : EC), eAt es c = some e → PySem.W.exmOne X.K (.ref e.C) cv = some (ks.contains c)
  stk : X.stack = X.env :: X.outer
  frm : X.env.frame = some X.env.locals
  kind : S.sc.kind = .function
  room2 : Room 2 X.A
theorem evF_len : ∀ (a : FE) (c : Nat) (fs : List Val) (ρ : Loc) (v : Val) (Γ : Gam) (S : SS) (nm : Option Nat) (l : List Expr), chkFA Γ S nm a l = true → evF c fs a ρ = some v → ∃ vs, v = .tup vs ∧ vs.length = argcF a
  | .nil, c, fs, ρ, v, _, _, _, _, _, h => by cases (show some (Val.tup []) = some v from h); exact ⟨[], rfl, rfl⟩
  | .cons a b, c, fs, ρ, v, Γ, S, nm, l, hc, h => by
    cases l with
    | nil => unfold chkFA at hc; cases hc
    | cons e l =>
      have hc' : (plainArg e && chkF Γ S nm a e && chkFA Γ S nm b l) = true := by unfold chkFA at hc; exact hc
      rw [Bool.and_eq_true] at hc'
      have h' : (match evF c fs a ρ, evF c fs b ρ with
        | some x, some (.tup ys) => some (Val.tup (x :: ys))
        | _, _ => none) = some v := h
      cases e1 : evF c fs a ρ with
      | none => rw [e1] at h'; cases h'
      | some x =>
        rw [e1] at h'
        cases e2 : evF c fs b ρ with
        | none => rw [e2] at h'; cases h'
        | some y =>
          rw [e2] at h'
          obtain ⟨vs, rfl, hl⟩ := evF_len b c fs ρ y Γ S nm l hc'.2 e2
          cases h'
          exact ⟨x :: vs, rfl, by simp [argcF, hl]⟩
  | .var _, _, _, _, _, _, _, _, _, h, _ => by unfold chkFA at h; cases h
  | .cst _, _, _, _, _, _, _, _, _, h, _ => by unfold chkFA at h; cases h
  | .fld _, _, _, _, _, _, _, _, _, h, _ => by unfold chkFA at h; cases h
  | .tup _, _, _, _, _, _, _, _, _, h, _ => by unfold chkFA at h; cases h
theorem lookup_mem {c k : Nat} : ∀ {t : List (Nat × Nat)}, t.lookup c = some k → (c, k) ∈ t
  | (b, j) :: t, h => by
    rw [List.lookup_cons] at h
    split at h
    · rename_i e
      cases h
      rw [eq_of_beq e]
      exact List.mem_cons_self ..
    · exact List.mem_cons_of_mem _ (lookup_mem h)
theorem PE.none {X : Cx} {e : Expr} : PE X e (fun _ _ _ => False) := ⟨fun _ _ _ _ _ _ h => h.elim⟩
section
variable {Γ : Gam} {es : List EC} {S : SS} {X : Cx} {a : Addr} {oe : Obj} {cls : Value} {d : Option Addr} {pn : List (Addr × Obj)} {nm : Option Nat}
mutual
/-- flat expressions of a suite -/
theorem chkF_ok (hN : X.N = S.N) (hsc : X.env.scope = S.sc) (HS : SOk Γ es S X) (hz : Zc cls d oe) (hf : ∃ vs, oe.data = .fields vs) : ∀ (fe : FE) (e : Expr), chkF Γ S nm fe e = true → PE (X.suite a ((a, oe) :: pn)) e (tF X.K es nm fe a cls d)
  | .var i, e, h => by
    unfold chkF at h
    split at h
    · rename_i x hx
      obtain ⟨p, rfl⟩ := asName_ok hx
      simp only [Bool.and_eq_true, decide_eq_true_eq] at h
      obtain ⟨⟨h1, h2⟩, h3⟩ := h
      obtain ⟨n1, n2, _⟩ := plainName_ok h3
      refine PE.weak (pe_var (X := X.suite a ((a, oe) :: pn)) (i := i) (by show X.N[i]? = _; rw [hN]; exact h1) (by show Vis X.env.scope x; rw [hsc]; exact visB_ok h2) n1 n2) fun σ H Q q => ?_
      obtain ⟨f, ρ, μ, c, fs, S1, L, _, _, q⟩ := q
      have q' : (match (match ρ[i]? with
        | some (some v) => some v
        | _ => none) with
        | some v => ∀ f' H' x, Le f H f' H' → SR X.K f' μ H' → VR X.K f' H' v x → Q x H'
        | none => False) := q
      cases e1 : ρ[i]? with
      | none => rw [e1] at q'; exact q'.elim
      | some o =>
        cases o with
        | none => rw [e1] at q'; exact q'.elim
        | some v =>
          rw [e1] at q'
          obtain ⟨x, q1, q2⟩ := L.get i v e1
          exact ⟨x, q1, q' f H x (Le.refl _ _) S1 q2⟩
    · cases h
  | .cst v, e, h => by
    have h' : asConst e = some v := by unfold chkF at h; exact of_decide_eq_true h
    obtain ⟨y, h1, h2, _⟩ := constV_ok (X := X.suite a ((a, oe) :: pn)) (K := X.K) h'
    refine PE.weak h1 fun σ H Q q => ?_
    obtain ⟨f, ρ, μ, c, fs, S1, L, _, _, q⟩ := q
    exact q f H y (Le.refl _ _) S1 (h2 f H)
  | .fld t, e, h => by
    unfold chkF at h
    split at h
    · rename_i x g hx
      obtain ⟨p, p2, rfl⟩ := asAttr_ok hx
      simp only [Bool.and_eq_true] at h
      obtain ⟨⟨⟨h1, h2⟩, h3⟩, h4⟩ := h
      obtain ⟨n1, n2, _⟩ := plainName_ok h3
      cases nm with
      | none => cases h1
      | some i =>
        have h1' : S.N[i]? = some x := of_decide_eq_true h1
        have hx' : PE (X.suite a ((a, oe) :: pn)) (.Name x p) (tVar i) := pe_var (X := X.suite a ((a, oe) :: pn)) (i := i) (by show X.N[i]? = _; rw [hN]; exact h1') (by show Vis X.env.scope x; rw [hsc]; exact visB_ok h2) n1 n2
        by_cases hC : ∃ C : Addr, cls = .ref C ∧ XfC X.K C ∧ PySem.W.findIn X.K (.ref C) g = some none
        · obtain ⟨C, ec, T, hno⟩ := hC
          refine PE.weak (pe_xf T hno hz hf hx' rfl) fun σ H Q q => ?_
          obtain ⟨f, ρ, μ, c, fs, S1, L, hl, xr, q⟩ := q
          obtain ⟨ex, dd, ps, k1, k2, k3, k4, k5, k6⟩ := xr
          have q' : (match (t.lookup c).bind fun k => fs[k]? with
            | some v => ∀ f' H' x, Le f H f' H' → SR X.K f' μ H' → VR X.K f' H' v x → Q x H'
            | none => False) := q
          cases e1 : t.lookup c with
          | none => rw [e1] at q'; exact q'.elim
          | some k =>
            rw [e1, Option.bind_some] at q'
            cases e2 : fs[k]? with
            | none => rw [e2] at q'; exact q'.elim
            | some v =>
              rw [e2] at q'
              have hm : (c, k) ∈ t := lookup_mem e1
              have h5 := List.all_eq_true.mp h4 _ hm
              have h6 : ex.flds[k]? = some g := by
                have hg : Γ.exn.lookup c = some (ex.name, ex.flds) := by rw [HS.ex.look, k1]; rfl
                have h5' : (match Γ.exn.lookup c with
                  | some q => decide (q.2[k]? = some g)
                  | none => false) = true := h5
                rw [hg] at h5'
                exact of_decide_eq_true h5'
              obtain ⟨y, m1, m2⟩ := k6 k g v h6 e2
              exact ⟨.ref a, hl i rfl, rfl, ec, dd, ps, y, k3, k4, m1, q' f H y (Le.refl _ _) S1 m2⟩
        · refine PE.weak PE.none fun σ H Q q => hC ?_
          obtain ⟨f, ρ, μ, c, fs, S1, L, hl, xr, q⟩ := q
          obtain ⟨ex, dd, ps, k1, k2, k3, k4, k5, k6⟩ := xr
          have he := HS.xf ex (eAt_mem k1)
          refine ⟨ex.C, k2, he.1, ?_⟩
          have q' : (match (t.lookup c).bind fun k => fs[k]? with
            | some v => ∀ f' H' x, Le f H f' H' → SR X.K f' μ H' → VR X.K f' H' v x → Q x H'
            | none => False) := q
          cases e1 : t.lookup c with
          | none => rw [e1] at q'; exact q'.elim
          | some k =>
            have hm : (c, k) ∈ t := lookup_mem e1
            have h5 := List.all_eq_true.mp h4 _ hm
            have hg : Γ.exn.lookup c = some (ex.name, ex.flds) := by rw [HS.ex.look, k1]; rfl
            have h5' : (match Γ.exn.lookup c with
              | some q => decide (q.2[k]? = some g)
              | none => false) = true := h5
            rw [hg] at h5'
            exact he.2 g (List.mem_of_getElem? (of_decide_eq_true h5'))
    · cases h
  | .nil, e, h => by unfold chkF at h; cases h
  | .cons _ _, e, h => by unfold chkF at h; cases h
  | .tup fa, e, h => by
    unfold chkF at h
    split at h
    · rename_i l hl
      obtain ⟨k, p, rfl⟩ := asTup_ok hl
      rw [Bool.and_eq_true, decide_eq_true_eq] at h
      refine PE.weak (pe_tup (chkFA_ok hN hsc HS hz hf fa l h.1)) fun σ H Q q => ?_
      obtain ⟨f, ρ, μ, c, fs, S1, L, hli, xr, q⟩ := q
      refine ⟨f, ρ, μ, c, fs, S1, L, hli, xr, ?_⟩
      have q' : (match evF c fs fa ρ with
        | some v => ∀ f' H' x, Le f H f' H' → SR X.K f' μ H' → VR X.K f' H' v x → Q x H'
        | none => False) := q
      cases e1 : evF c fs fa ρ with
      | none => rw [e1] at q'; exact q'.elim
      | some v =>
        rw [e1] at q'
        obtain ⟨vs, rfl, hlen⟩ := evF_len fa c fs ρ v Γ S nm l h.1 e1
        intro f' H' xs l' S' t
        refine ⟨by rw [t.length, hlen, sizeLine_eq]; omega, fun p hp => ?_⟩
        exact q' f' _ _ (l'.trans (Le.beside hp)) (S'.beside hp) ⟨p, xs, rfl, SqT.of upd_same, VRs.mono (Le.beside hp) _ _ t⟩
    · cases h
theorem chkFA_ok (hN : X.N = S.N) (hsc : X.env.scope = S.sc) (HS : SOk Γ es S X) (hz : Zc cls d oe) (hf : ∃ vs, oe.data = .fields vs) : ∀ (fe : FE) (l : List Expr), chkFA Γ S nm fe l = true → PA (X.suite a ((a, oe) :: pn)) l (tFA X.K es nm fe a cls d)
  | .nil, [], _ => PA.weak pa_nil fun σ H Q ⟨f, ρ, μ, c, fs, S1, L, _, _, q⟩ => q f H [] (Le.refl _ _) S1 VRs.nil
  | .cons fa fb, e :: l, h => by
    have h' : (plainArg e && chkF Γ S nm fa e && chkFA Γ S nm fb l) = true := by unfold chkFA at h; exact h
    simp only [Bool.and_eq_true] at h'
    refine PA.weak (pa_cons (chkF_ok hN hsc HS hz hf fa e h'.1.2) (chkFA_ok hN hsc HS hz hf fb l h'.2) (star_cons h'.1.1 _ _)) fun σ H Q q => ?_
    obtain ⟨f, ρ, μ, c, fs, S1, L, hli, xr, q⟩ := q
    refine ⟨f, ρ, μ, c, fs, S1, L, hli, xr, ?_⟩
    have q' : (match (match evF c fs fa ρ, evF c fs fb ρ with
      | some x, some (.tup ys) => some (Val.tup (x :: ys))
      | _, _ => none) with
      | some (.tup vs) => ∀ f' H' xs, Le f H f' H' → SR X.K f' μ H' → VRs X.K f' H' vs xs → Q xs H'
      | _ => False) := q
    cases e1 : evF c fs fa ρ with
    | none => rw [e1] at q'; exact q'.elim
    | some v =>
      cases e2 : evF c fs fb ρ with
      | none => rw [e1, e2] at q'; exact q'.elim
      | some w =>
        rw [e1, e2] at q'
        obtain ⟨ws, rfl, _⟩ := evF_len fb c fs ρ w Γ S nm l h'.2 e2
        intro f1 H1 x l1 S1' rv
        refine ⟨f1, ρ, μ, c, fs, S1', L.mono l1, hli, xr.mono S1 l1, ?_⟩
        rw [e2]
        exact fun f' H' xs l' S' t => q' f' H' (x :: xs) (l1.trans l') S' ⟨x, xs, rfl, VR.mono l' _ _ rv, t⟩
  | .nil, _ :: _, h => by unfold chkFA at h; cases h
  | .cons _ _, [], h => by unfold chkFA at h; cases h
  | .var _, _, h => by unfold chkFA at h; cases h
  | .cst _, _, h => by unfold chkFA at h; cases h
  | .fld _, _, h => by unfold chkFA at h; cases h
  | .tup _, _, h => by unfold chkFA at h; cases h
end
end
end Mi
end

section
set_option Elab.async false
set_option linter.all false
set_option maxRecDepth 100000
set_option autoImplicit false
set_option maxHeartbeats 1000000
/-! Sound17: readings of loops, of try, of raise. -/
namespace Mi
open PySem PySem.Spec L2
open PyProof.Rows hiding St
section
variable {K : PySem.W.Frag} {es : List EC} {W : WX} {σ : L2.St} {H : Hp} {D : Ends}
/-- the ends of a loop's turn -/
def turnD (D : Ends) (N : L2.St → Hp → Prop) : Ends := { D with nx := N, ct := N, bk := D.nx }
theorem turn_post {f : List Addr} {N : L2.St → Hp → Prop} {o : OS} {k : Loc → Sto → OS} (h : PostS K es W D f H (o.turn k)) (hk : ∀ ρ μ, PostS K es W D f H (k ρ μ) → ∀ f' H' σ', Le f H f' H' → SR K f' μ H' → LR K f' H' ρ σ' → N σ' H') : PostS K es W (turnD D N) f H o := by
  cases o with
  | nx ρ μ => exact hk ρ μ h
  | cnt ρ μ => exact hk ρ μ h
  | brk ρ μ => exact h
  | ret v μ => exact h
  | exc c fs ρ μ => exact h
  | fail => exact h
theorem while_read {c : Loc → Sto → Out Val} {b : Loc → Sto → OS} {n : Nat} (h : tS K es W (fun ρ μ => whlN c b n ρ μ) D σ H) : tWhile (tTM K es W c) (tS K es W b) D σ H := by
  refine ⟨fun m σ H => tS K es W (fun ρ μ => whlN c b m ρ μ) D σ H, ⟨n, h⟩, fun m σ H h => ?_⟩
  obtain ⟨f, ρ, μ, S, L, h⟩ := h
  cases m with
  | zero => exact h.elim
  | succ m =>
    have h' : PostS K es W D f H ((c ρ μ).on ρ fun v μ1 => match v with
      | .bl true => (b ρ μ1).turn fun ρ2 μ2 => whlN c b m ρ2 μ2
      | .bl false => .nx ρ μ1
      | _ => .fail) := h
    refine on_readT S L (fun v μ1 hn => by cases v <;> first | rfl | exact absurd rfl (hn _)) h' fun t μ1 f1 H1 l S1 L1 h1 => ?_
    cases t with
    | false => rw [if_neg (by simp)]; exact h1 f1 H1 σ (Le.refl _ _) S1 L1
    | true =>
      rw [if_pos rfl]
      refine ⟨fun σ' H' => tS K es W (fun ρ μ => whlN c b m ρ μ) D σ' H', fun σ' H' q => ⟨m, Nat.lt_succ_self m, q⟩, f1, ρ, μ1, S1, L1, ?_⟩
      exact turn_post h1 fun ρ2 μ2 q f' H' σ' l' S' L' => ⟨f', ρ2, μ2, S', L', PostS.mono l' q⟩
theorem for_read {it : Loc → Sto → Out Val} {tg : MT} {b : Loc → Sto → OS} (h : tS K es W (fun ρ μ => (it ρ μ).on ρ fun src μ1 => match items μ1 src with
    | some xs => forL (bindT tg) b src xs xs ρ μ1
    | none => .fail) D σ H) : tFor (iM K es W it) (gT K tg) (tS K es W b) D σ H := by
  obtain ⟨f, ρ, μ, S, L, h⟩ := h
  refine ⟨f, ρ, μ, S, L, ?_⟩
  cases e : it ρ μ with
  | exc c fs μ1 =>
    simp only [e] at h
    exact fun f' H' cls d l' S' r => h f' H' σ cls d l' S' (L.mono l') r
  | fail => simp only [e] at h; exact h
  | ok src μ1 =>
    simp only [e, Out.on_ok] at h
    cases hi : items μ1 src with
    | none => rw [hi] at h; exact h.elim
    | some xs =>
      rw [hi] at h
      refine ⟨xs, hi, fun f1 H1 J l1 S1 J1 => ?_⟩
      refine ⟨fun i m σ H => ∃ f ρ μ, Le f1 H1 f H ∧ SR K f μ H ∧ LR K f H ρ σ ∧ guard src xs μ = true ∧ i ≤ xs.length ∧ m = xs.length - i ∧ PostS K es W D f H (forL (bindT tg) b src xs (xs.drop i) ρ μ), ⟨_, f1, ρ, μ1, Le.refl _ _, S1, L.mono l1, guard_items hi, Nat.zero_le _, rfl, PostS.mono l1 h⟩, ?_⟩
      rintro i m σ2 H2 ⟨f2, ρ2, μ2, l2, S2, L2, g2, hi2, rfl, h2⟩
      by_cases hx : i < xs.length
      · refine .inr ⟨J1.go i f2 μ2 H2 l2 S2 g2 hx, ?_⟩
        have hd : xs.drop i = xs[i] :: xs.drop (i + 1) := List.drop_eq_getElem_cons hx
        rw [hd] at h2
        have h2' : PostS K es W D f2 H2 (match bindT tg xs[i] ρ2 with
          | none => .fail
          | some ρ1 => (b ρ1 μ2).turn fun ρ3 μ3 => if guard src xs μ3 then forL (bindT tg) b src xs (xs.drop (i + 1)) ρ3 μ3 else .fail) := h2
        cases e3 : bindT tg xs[i] ρ2 with
        | none => rw [e3] at h2'; exact h2'.elim
        | some ρ1 =>
          rw [e3] at h2'
          have h3 : PostS K es W D f2 H2 ((b ρ1 μ2).turn fun ρ3 μ3 => if guard src xs μ3 then forL (bindT tg) b src xs (xs.drop (i + 1)) ρ3 μ3 else .fail) := h2'
          refine ⟨fun σ' H' => ∃ f ρ μ, Le f1 H1 f H' ∧ SR K f μ H' ∧ LR K f H' ρ σ' ∧ guard src xs μ = true ∧ PostS K es W D f H' (forL (bindT tg) b src xs (xs.drop (i + 1)) ρ μ), ?_, fun x H' hy => ?_⟩
          · rintro σ' H' ⟨f, ρ, μ, k1, k2, k3, k4, k5⟩
            exact ⟨_, by omega, f, ρ, μ, k1, k2, k3, k4, hx, rfl, k5⟩
          · obtain ⟨v, ev, rv, S3, l3⟩ := J1.yl i f2 μ2 H2 x H' l2 S2 g2 hx hy
            have ev' : v = xs[i] := by rw [List.getElem?_eq_getElem hx] at ev; exact (Option.some.inj ev).symm
            subst ev'
            refine gT_set (L2.mono l3) rv e3 fun σ4 L4 _ => ⟨f2, ρ1, μ2, S3, L4, ?_⟩
            refine turn_post (PostS.mono l3 h3) fun ρ5 μ5 q f5 H5 σ5 l5 S5 L5 => ?_
            by_cases g5 : guard src xs μ5 = true
            · rw [if_pos g5] at q
              exact ⟨f5, ρ5, μ5, (l2.trans l3).trans l5, S5, L5, g5, PostS.mono l5 q⟩
            · rw [if_neg g5] at q
              exact q.elim
      · refine .inl ⟨J1.st i f2 μ2 H2 l2 S2 g2 (by omega), ?_⟩
        rw [List.drop_eq_nil_of_le (by omega)] at h2
        exact h2 f2 H2 σ2 (Le.refl _ _) S2 L2
/-- the clauses of a try -/
def clOf (K : PySem.W.Frag) (es : List EC) (h : HC) (cv : Value) : Cl := ⟨cv, h.nm, fun a cls d => tRet (tF K es h.nm h.fe a cls d)⟩
def clsOf (K : PySem.W.Frag) (es : List EC) : List HC → List Value → List Cl
  | h :: hs, cv :: cvs => clOf K es h cv :: clsOf K es hs cvs
  | _, _ => []
/-- the classes' answers -/
def AnsOk (K : PySem.W.Frag) (es : List EC) : List HC → List Value → Prop
  | [], [] => True
  | h :: hs, cv :: cvs => (∀ (c : Nat) (e : EC), eAt es c = some e → PySem.W.exmOne K (.ref e.C) cv = some (h.ks.contains c)) ∧ AnsOk K es hs cvs
  | _, _ => False
theorem handle_read {f : List Addr} {ρ : Loc} {μ : Sto} {c : Nat} {fs : List Val} {cls : Value} {d : Option Addr} (S : SR K f μ H) (L : LR K f H ρ σ) (x : XR K es f H c fs cls d) : ∀ (hs : List HC) (cvs : List Value), AnsOk K es hs cvs → PostS K es W D f H (handle c fs ρ μ hs) → wCl K W D (clsOf K es hs cvs) cls d σ H
  | [], [], _, h => h f H σ cls d (Le.refl _ _) S L x
  | k :: hs, cv :: cvs, ha, h => by
    obtain ⟨h1, h2⟩ := ha
    have x' := x
    obtain ⟨e, dd, ps, k1, k2, k3, k4, k5, k6⟩ := x'
    refine ⟨k.ks.contains c, by rw [k2]; exact h1 c e k1, ?_⟩
    have h' : PostS K es W D f H (if k.ks.contains c = true then (if hcOk k.nm ρ then (match evF c fs k.fe (hcLoc k.nm ρ) with
      | some v => .ret v μ
      | none => .fail) else .fail) else handle c fs ρ μ hs) := h
    cases hb : k.ks.contains c with
    | false =>
      rw [hb, if_neg (by simp)] at h'
      exact handle_read S L x hs cvs h2 h'
    | true =>
      rw [hb, if_pos rfl] at h'
      show ∀ a, H a = none → (clOf K es k cv).ts a cls d ((clOf K es k cv).ends D) ((clOf K es k cv).inn a σ) H
      intro a hna
      by_cases ho : hcOk k.nm ρ = true
      · rw [if_pos ho] at h'
        refine ⟨f, hcLoc k.nm ρ, μ, c, fs, S, ?_, ?_, x, ?_⟩
        · show LR K f H (hcLoc k.nm ρ) (match k.nm with
            | none => σ
            | some i => σ.set i (some (.ref a)))
          cases e : k.nm with
          | none => exact L
          | some i =>
            refine ⟨by simp [hcLoc, L.len], fun j w q => ?_⟩
            have q' : (ρ.set i none)[j]? = some (some w) := q
            by_cases hj : i = j
            · subst hj
              by_cases hl : i < ρ.length
              · rw [List.getElem?_set_self hl] at q'; cases q'
              · rw [List.getElem?_eq_none (by simpa using hl)] at q'; cases q'
            · rw [List.getElem?_set_ne hj] at q'
              obtain ⟨y, m1, m2⟩ := L.get j w q'
              exact ⟨y, by show (σ.set i _)[j]? = _; rw [List.getElem?_set_ne hj]; exact m1, m2⟩
        · intro i e
          show (match k.nm with
            | none => σ
            | some i => σ.set i (some (.ref a)))[i]? = _
          rw [e]
          rw [e] at ho
          exact List.getElem?_set_self (by rw [L.len]; exact of_decide_eq_true ho)
        · cases e : evF c fs k.fe (hcLoc k.nm ρ) with
          | none => rw [e] at h'; exact h'.elim
          | some v =>
            rw [e] at h'
            exact h'
      · rw [if_neg ho] at h'
        exact h'.elim
  | [], _ :: _, h, _ => h.elim
  | _ :: _, [], h, _ => h.elim
theorem try_read {b : Loc → Sto → OS} {hs : List HC} {cvs : List Value} (ha : AnsOk K es hs cvs) (h : tS K es W (fun ρ μ => match b ρ μ with
    | .exc c fs ρ1 μ1 => handle c fs ρ1 μ1 hs
    | r => r) D σ H) : tS K es (wCl K W D (clsOf K es hs cvs)) b D σ H := by
  obtain ⟨f, ρ, μ, S, L, h⟩ := h
  refine ⟨f, ρ, μ, S, L, ?_⟩
  cases e : b ρ μ with
  | exc c fs ρ1 μ1 =>
    simp only [e] at h
    exact fun f' H' σ' cls d l' S' L' x => handle_read S' L' x hs cvs ha (PostS.mono l' h)
  | _ => simp only [e] at h; exact h
theorem raise_readS {e : EC} {c : Nat} {m : Loc → Sto → Out Val} (hc : eAt es c = some e) (hz : e.flds.length ≤ 20) (hn : e.flds.Nodup) (hpos : 0 < e.flds.length) (hl : ∀ ρ μ v μ', m ρ μ = .ok v μ' → ∃ vs, v = .tup vs ∧ vs.length = e.flds.length)
    (h : tS K es W (fun ρ μ => (m ρ μ).on ρ fun v μ1 => match v with
      | .tup fs => .exc c fs ρ μ1
      | _ => .fail) D σ H) : tMkO e.C (spI e.C e.flds) [] (tMA K es W m) σ H (fun cls d H' => W cls d σ H') := by
  have hm : m = fun ρ μ => match m ρ μ with
      | .ok (.tup fs) μ1 => if fs.length = e.flds.length then .ok (.tup fs) μ1 else .fail
      | r => r := by
    funext ρ μ
    cases q : m ρ μ with
    | ok v μ1 =>
      obtain ⟨vs, rfl, hv⟩ := hl ρ μ v μ1 q
      simp only []
      rw [if_pos hv]
    | exc c fs μ1 => rfl
    | fail => rfl
  rw [hm]
  refine raise_read hc hz hn hpos ?_
  have back : ∀ {Q : List V → Hp → Prop}, tMA K es W m σ H Q → tMA K es W (fun ρ μ => match m ρ μ with
      | .ok (.tup fs) μ1 => if fs.length = e.flds.length then .ok (.tup fs) μ1 else .fail
      | r => r) σ H Q := fun {Q} q => by rw [hm] at q; exact q
  refine back ?_
  obtain ⟨f, ρ, μ, S, L, h⟩ := h
  have hl' := hl ρ μ
  refine ⟨f, ρ, μ, S, L, ?_⟩
  cases q : m ρ μ with
  | exc c fs μ1 =>
    simp only [q] at h
    exact fun f' H' cls d l' S' r => h f' H' σ cls d l' S' (L.mono l') r
  | fail => simp only [q] at h; exact h
  | ok v μ1 =>
    simp only [q, Out.on_ok] at h
    obtain ⟨vs, rfl, hv⟩ := hl' v μ1 q
    intro f1 H1 xs l1 S1 t
    refine ⟨by rw [t.length, hv], f1, μ1, vs, S1, t, fun f' H' cls d l' S' x => h f' H' σ cls d (l1.trans l') S' (L.mono (l1.trans l')) x⟩
end
end Mi
end

section
set_option Elab.async false
set_option linter.all false
set_option maxRecDepth 100000
set_option autoImplicit false
set_option maxHeartbeats 1000000
/-! Sound18: statements. -/
namespace Mi
open PySem PySem.Spec L2
open PyProof.Rows hiding St

/-! ### shapes -/
def asPass : Stmt → Bool
  | .Pass _ => true
  | .Expr (.Constant (.str _) _ _) _ => true
  | _ => false
def asAsg : Stmt → Option (Expr × Expr × Pos)
  | .Assign [t] v p => some (t, v, p)
  | _ => none
theorem asAsg_ok {st : Stmt} {t v : Expr} {p : Pos} (h : asAsg st = some (t, v, p)) : st = .Assign [t] v p := by
  unfold asAsg at h
  split at h
  · cases h; rfl
  · cases h
def asAug : Stmt → Option (Str × Operator × Expr)
  | .AugAssign (.Name x _) op v _ => some (x, op, v)
  | _ => none
theorem asAug_ok {st : Stmt} {x : Str} {op : Operator} {v : Expr} (h : asAug st = some (x, op, v)) : ∃ p q, st = .AugAssign (.Name x p) op v q := by
  unfold asAug at h
  split at h
  · cases h; exact ⟨_, _, rfl⟩
  · cases h
def asEx : Stmt → Option (Expr × Pos)
  | .Expr v p => some (v, p)
  | _ => none
theorem asEx_ok {st : Stmt} {v : Expr} {p : Pos} (h : asEx st = some (v, p)) : st = .Expr v p := by
  cases st <;> first | (cases h; done) | (cases h; rfl)
def asRet : Stmt → Option (Option Expr)
  | .Return v _ => some v
  | _ => none
theorem asRet_ok {st : Stmt} {v : Option Expr} (h : asRet st = some v) : ∃ p, st = .Return v p := by
  cases st <;> first | (cases h; done) | (cases h; exact ⟨_, rfl⟩)
def asIfS : Stmt → Option (Expr × List Stmt × List Stmt)
  | .If c a b _ => some (c, a, b)
  | _ => none
theorem asIfS_ok {st : Stmt} {c : Expr} {a b : List Stmt} (h : asIfS st = some (c, a, b)) : ∃ p, st = .If c a b p := by
  cases st <;> first | (cases h; done) | (cases h; exact ⟨_, rfl⟩)
def asWh : Stmt → Option (Expr × List Stmt)
  | .While c b [] _ => some (c, b)
  | _ => none
theorem asWh_ok {st : Stmt} {c : Expr} {b : List Stmt} (h : asWh st = some (c, b)) : ∃ p, st = .While c b [] p := by
  unfold asWh at h
  split at h
  · cases h; exact ⟨_, rfl⟩
  · cases h
def asFor : Stmt → Option (Expr × Expr × List Stmt)
  | .For t i b [] _ => some (t, i, b)
  | _ => none
theorem asFor_ok {st : Stmt} {t i : Expr} {b : List Stmt} (h : asFor st = some (t, i, b)) : ∃ p, st = .For t i b [] p := by
  unfold asFor at h
  split at h
  · cases h; exact ⟨_, rfl⟩
  · cases h
def asRaise : Stmt → Option (Str × List Expr)
  | .Raise (some (.Call (.Name x _) es [] _)) none _ => some (x, es)
  | _ => none
theorem asRaise_ok {st : Stmt} {x : Str} {es : List Expr} (h : asRaise st = some (x, es)) : ∃ p q r, st = .Raise (some (.Call (.Name x p) es [] q)) none r := by
  unfold asRaise at h
  split at h
  · cases h; exact ⟨_, _, _, rfl⟩
  · cases h
def asTry : Stmt → Option (List Stmt × List ExceptHandler)
  | .Try b hs [] [] _ => some (b, hs)
  | _ => none
theorem asTry_ok {st : Stmt} {b : List Stmt} {hs : List ExceptHandler} (h : asTry st = some (b, hs)) : ∃ p, st = .Try b hs [] [] p := by
  unfold asTry at h
  split at h
  · cases h; exact ⟨_, rfl⟩
  · cases h
def asBrk : Stmt → Bool
  | .Break _ => true
  | _ => false
def asCnt : Stmt → Bool
  | .Continue _ => true
  | _ => false
/-- a handler that gives back -/
def asHd : ExceptHandler → Option (Str × Option Str × Expr)
  | .ExceptHandler (some (.Name x _)) n [.Return (some v) _] _ => some (x, n, v)
  | _ => none
theorem asHd_ok {hd : ExceptHandler} {x : Str} {n : Option Str} {v : Expr} (h : asHd hd = some (x, n, v)) : ∃ p q r, hd = .ExceptHandler (some (.Name x p)) n [.Return (some v) q] r := by
  unfold asHd at h
  split at h
  · cases h; exact ⟨_, _, _, rfl⟩
  · cases h

/-! ### tuples of names -/
/-- no quick exchange of names -/
def swN (t v : Expr) : Bool := match asTup t, asTup v with
  | some ts, some vs => !(ts.length == 2 || ts.length == 3) || vs.all (foldedForSure 8)
  | _, _ => true
def sameLine (ts : List Expr) : Bool := match ts with
  | [a, b] => a.pos.line == b.pos.line
  | [a, b, c] => a.pos.line == b.pos.line && a.pos.line == c.pos.line
  | _ => false
def starless : Expr → Bool
  | .Starred _ _ => false
  | _ => true
def parQ (S : SS) (is : List Nat) (ts vs : List Expr) : Bool :=
  decide (is.Nodup) && sameLine ts && decide (ts.length = vs.length) && vs.all plainArg && !(vs.all (foldedForSure 8)) && !(vs.all (constantsAlone 8)) && chkNs S is ts && ts.all fun t => match asName t with
    | some x => decide (S.sc.names.lookup x = some .local)
    | none => false
def opE : O2 → Operator → Bool
  | .add, .Add => true
  | .sub, .Sub => true
  | _, _ => false
/-- a name that is no local one: shared with a comprehension -/
def notLoc (S : SS) (t : Expr) : Bool := match asName t with
  | some x => decide (S.sc.names.lookup x ≠ some .local)
  | none => false
def notLocT (S : SS) (t : Expr) : Bool := match asTup t with
  | some ts => ts.any fun e => match asName e with
    | some x => decide (S.sc.names.lookup x ≠ some .local)
    | none => false
  | none => false
theorem filterMap_short {α β : Type} {f : α → Option β} : ∀ {l : List α}, (∃ x ∈ l, f x = none) → (l.filterMap f).length < l.length
  | [], ⟨_, h, _⟩ => by cases h
  | y :: l, ⟨x, hx, e⟩ => by
    have hle : (l.filterMap f).length ≤ l.length := List.length_filterMap_le _ _
    cases hy : f y with
    | none => rw [List.filterMap_cons_none hy, List.length_cons]; omega
    | some z =>
      rw [List.filterMap_cons_some hy, List.length_cons, List.length_cons]
      rcases List.mem_cons.mp hx with rfl | hx
      · rw [e] at hy; cases hy
      · have := filterMap_short ⟨x, hx, e⟩
        omega
theorem swapped_notLoc {t v : Expr} {env : Env} {S : SS} (hsc : env.scope = S.sc) (h : notLocT S t = true) : swappedStores [t] v env = pure none := by
  unfold notLocT at h
  split at h
  · rename_i ts et
    obtain ⟨k, p, rfl⟩ := asTup_ok et
    obtain ⟨e, he, h⟩ := List.any_eq_true.mp h
    split at h
    · rename_i x ex
      obtain ⟨px, rfl⟩ := asName_ok ex
      have hx : env.kindOf x ≠ some .local := by
        show env.scope.names.lookup x ≠ _
        rw [hsc]; exact of_decide_eq_true h
      have hb : (env.kindOf x == some .local) = false := by simpa using hx
      cases v with
      | Tuple vs k2 p2 =>
        unfold swappedStores
        simp only []
        split
        · rfl
        · split
          · rfl
          · split
            · rfl
            · rename_i hc
              exfalso
              apply hc
              rw [Bool.or_eq_true]
              left
              rw [bne_iff_ne]
              exact Nat.ne_of_lt (filterMap_short ⟨_, he, by simp [hb]⟩)
      | _ => rfl
    · cases h
  · cases h
theorem swaps_loc {v : Expr} {x : Str} {p : Pos} {l : Nat} {env : Env} (h : env.kindOf x ≠ some .local) : swapsWith v (some (.Name x p)) l env = pure false := by
  have hb : (env.kindOf x == some .local) = false := by simpa using h
  cases v <;> first | rfl | (unfold swapsWith; simp [hb])
def chkHs (Γ : Gam) (S : SS) : List HC → List ExceptHandler → Bool
  | [], [] => true
  | h :: hs, hd :: hds => (match asHd hd with
    | some (x, n, v) => glB S.sc x && plainName x && decide (Γ.cat.lookup x = some h.ks) && (match n, h.nm with
      | none, none => true
      | some y, some i => decide (S.N[i]? = some y) && decide (S.sc.names.lookup y = some .local)
      | _, _ => false) && chkF Γ S h.nm h.fe v
    | none => false) && chkHs Γ S hs hds
  | _, _ => false
mutual
/-- the statement is what Mini's says -/
def chkS (Γ : Gam) (S : SS) : MS → Stmt → Bool
  | .skip, st => asPass st
  | .seq _ _, _ => false
  | .set tg e, st => match asAsg st with
    | some (t, v, p) => vE e && chk Γ S e v && ((chkTg S tg t && (noComp v || notLoc S t) && (swN t v || notLocT S t)) ||
        (match tg, e with
          | .tp is, .tupE a => (match asTup t, asTup v with
            | some ts, some vs => parQ S is ts vs && chkA Γ S a vs
            | _, _ => false)
          | .nm i, .comp _ _ _ _ => (match asName t, asComp v with
            | some y, some (_, _, _, _, sc) => decide (S.N[i]? = some y) && decide (S.sc.names.lookup y = some .local) && t.pos.line == v.pos.line && !(sc.names.any fun (n, k) => n == y && (k == .local || k == .cell))
            | _, _ => false)
          | _, _ => false))
    | none => false
  | .put a b e, st => match asAsg st with
    | some (t, v, _) => (match asSub t with
      | some (o, i) => vE a && vE b && vE e && chk Γ S a o && chk Γ S b i && chk Γ S e v && plainArg i && noComp v
      | none => false)
    | none => false
  | .aug i o e, st => match asAug st with
    | some (x, op, v) => decide (S.N[i]? = some x) && locB S.sc x && (S.fn x || decide (S.sc.names.lookup x = some .local)) && opE o op && vE e && chk Γ S e v
    | none => false
  | .expr e, st => match asEx st with
    | some (v, _) => vE e && chk Γ S e v && noComp v
    | none => false
  | .ret e, st => match asRet st with
    | some (some v) => vE e && chk Γ S e v
    | some none => (match e with
      | .cst .non => true
      | _ => false)
    | none => false
  | .ite c a b, st => match asIfS st with
    | some (x, l, r) => vE c && tstM c && chk Γ S c x && chkB Γ S a l && chkB Γ S b r
    | none => false
  | .whl c b, st => match asWh st with
    | some (x, l) => vE c && tstM c && chk Γ S c x && chkB Γ S b l
    | none => false
  | .forE tg it b, st => match asFor st with
    | some (t, i, l) => zipOk it t && chkTg S tg t && noSet i && chk Γ S it i && chkB Γ S b l
    | none => false
  | .raise c a, st => match asRaise st with
    | some (x, l) => (match Γ.exn.lookup c with
      | some (y, fl) => decide (x = y) && decide (argc a = fl.length) && decide (0 < fl.length)
      | none => false) && glB S.sc x && plainName x && l.all plainArg && chkA Γ S a l
    | none => false
  | .tryx b hs, st => match asTry st with
    | some (l, hds) => chkB Γ S b l && !hds.isEmpty && chkHs Γ S hs hds
    | none => false
  | .brk, st => asBrk st
  | .cnt, st => asCnt st
def chkB (Γ : Gam) (S : SS) : MS → List Stmt → Bool
  | .skip, [] => true
  | .seq a b, st :: l => chkS Γ S a st && chkB Γ S b l
  | _, _ => false
end
theorem swapped_none {t v : Expr} {env : Env} (ht : (∃ x p, t = .Name x p) ∨ (∃ l k p, t = .Tuple l k p)) (h : swN t v = true) : swappedStores [t] v env = pure none := by
  rcases ht with ⟨x, p, rfl⟩ | ⟨ts, k, p, rfl⟩
  · rfl
  · cases v with
    | Tuple vs k2 p2 =>
      have h' : (!(ts.length == 2 || ts.length == 3) || vs.all (foldedForSure 8)) = true := h
      unfold swappedStores
      simp only []
      by_cases h2 : (ts.length == 2 || ts.length == 3) = true
      · rw [h2] at h'
        have h3 : vs.all (foldedForSure 8) = true := by simpa using h'
        rw [h3]
        repeat' (first | rfl | split)
      · rw [Bool.not_eq_true] at h2
        rw [h2]
        rfl
    | _ => rfl
end Mi
end

section
set_option Elab.async false
set_option linter.all false
set_option maxRecDepth 100000
set_option autoImplicit false
set_option maxHeartbeats 1000000
/-! Sound19: every statement is sound. -/
namespace Mi
open PySem PySem.Spec L2
open PyProof.Rows hiding St
theorem any_no {g : Expr → Bool} (hg : ∀ e, plainArg e = true → g e = false) : ∀ {vs : List Expr}, vs.all plainArg = true → vs.any g = false
  | [], _ => rfl
  | e :: vs, h => by
    rw [List.all_cons, Bool.and_eq_true] at h
    rw [List.any_cons, hg e h.1, any_no hg h.2]
    rfl
theorem filterMap_two {g : Expr → Option Str} {a b : Expr} {x y : Str} (h1 : g a = some x) (h2 : g b = some y) : [a, b].filterMap g = [x, y] := by
  rw [List.filterMap_cons_some h1, List.filterMap_cons_some h2]; rfl
theorem filterMap_three {g : Expr → Option Str} {a b c : Expr} {x y z : Str} (h1 : g a = some x) (h2 : g b = some y) (h3 : g c = some z) : [a, b, c].filterMap g = [x, y, z] := by
  rw [List.filterMap_cons_some h1, List.filterMap_cons_some h2, List.filterMap_cons_some h3]; rfl
theorem dups_two {x y : Str} (h : x ≠ y) : [x, y].eraseDups = [x, y] := by
  have h1 : (y == x) = false := by simpa using fun e => h e.symm
  simp [List.eraseDups_cons, h1]
theorem dups_three {x y z : Str} (h : x ≠ y) (h2 : x ≠ z) (h3 : y ≠ z) : [x, y, z].eraseDups = [x, y, z] := by
  have h1 : (y == x) = false := by simpa using fun e => h e.symm
  have h4 : (z == x) = false := by simpa using fun e => h2 e.symm
  have h5 : (z == y) = false := by simpa using fun e => h3 e.symm
  simp [List.eraseDups_cons, h1, h4, h5]
theorem swapped_two {env : Env} {x y : Str} {px py pt pt2 : Pos} {kt k2 : Nat} {a b : Expr} (hb : env.blockKind = .function) (hx : env.kindOf x = some .local) (hy : env.kindOf y = some .local) (hl : (px.line == py.line) = true) (hxy : x ≠ y)
    (ha : [a, b].all plainArg = true) (h8 : [a, b].all (foldedForSure 8) = false) (h9 : [a, b].all (constantsAlone 8) = false) : swappedStores [.Tuple [.Name x px, .Name y py] kt pt] (.Tuple [a, b] k2 pt2) env = pure (some [x, y]) := by
  unfold swappedStores
  simp only []
  split
  · rename_i h
    rw [hb] at h
    exact absurd h (by simp)
  split
  · rename_i h
    rw [any_no (fun e he => by cases e <;> first | rfl | cases he) ha] at h
    cases h
  split
  · rename_i h
    rw [filterMap_two (x := x) (y := y) (by simp [hx, Expr.pos]) (by simp [hy, eq_of_beq hl, Expr.pos])] at h
    rw [dups_two hxy] at h
    exact absurd h (by simp)
  split
  · rename_i h
    rw [h8] at h; cases h
  split
  · rename_i h
    rw [h9] at h; cases h
  rw [filterMap_two (x := x) (y := y) (by simp [hx, Expr.pos]) (by simp [hy, eq_of_beq hl, Expr.pos])]
theorem swapped_three {env : Env} {x y z : Str} {px py pz pt pt2 : Pos} {kt k2 : Nat} {a b c : Expr} (hb : env.blockKind = .function) (hx : env.kindOf x = some .local) (hy : env.kindOf y = some .local) (hz : env.kindOf z = some .local) (hl : (px.line == py.line) = true) (hl2 : (px.line == pz.line) = true) (hxy : x ≠ y) (hxz : x ≠ z) (hyz : y ≠ z)
    (ha : [a, b, c].all plainArg = true) (h8 : [a, b, c].all (foldedForSure 8) = false) (h9 : [a, b, c].all (constantsAlone 8) = false) : swappedStores [.Tuple [.Name x px, .Name y py, .Name z pz] kt pt] (.Tuple [a, b, c] k2 pt2) env = pure (some [x, y, z]) := by
  unfold swappedStores
  simp only []
  split
  · rename_i h
    rw [hb] at h
    exact absurd h (by simp)
  split
  · rename_i h
    rw [any_no (fun e he => by cases e <;> first | rfl | cases he) ha] at h
    cases h
  split
  · rename_i h
    rw [filterMap_three (x := x) (y := y) (z := z) (by simp [hx, Expr.pos]) (by simp [hy, eq_of_beq hl, Expr.pos]) (by simp [hz, eq_of_beq hl2, Expr.pos])] at h
    rw [dups_three hxy hxz hyz] at h
    exact absurd h (by simp)
  split
  · rename_i h
    rw [h8] at h; cases h
  split
  · rename_i h
    rw [h9] at h; cases h
  rw [filterMap_three (x := x) (y := y) (z := z) (by simp [hx, Expr.pos]) (by simp [hy, eq_of_beq hl, Expr.pos]) (by simp [hz, eq_of_beq hl2, Expr.pos])]
end Mi
end

section
set_option Elab.async false
set_option linter.all false
set_option maxRecDepth 100000
set_option autoImplicit false
set_option maxHeartbeats 1000000
/-! Sound20: every statement is sound. -/
namespace Mi
open PySem PySem.Spec L2
open PyProof.Rows hiding St
section
variable {Γ : Gam} {es : List EC} {C : CallF} {lv : Nat}
structure SndS (Γ : Gam) (es : List EC) (C : CallF) (lv : Nat) (m : MS) : Prop where
  s : ∀ {S X W st}, XOk Γ es C lv S X → SOk Γ es S X → Takes X W → chkS Γ S m st = true → PS X st (tS X.K es W (ex C m))
  b : ∀ {S X W l}, XOk Γ es C lv S X → SOk Γ es S X → Takes X W → chkB Γ S m l = true → PSs X l (tS X.K es W (ex C m))
theorem SndS.stm {m : MS} (hb : ∀ S l, chkB Γ S m l = false) (hs : ∀ {S X W st}, XOk Γ es C lv S X → SOk Γ es S X → Takes X W → chkS Γ S m st = true → PS X st (tS X.K es W (ex C m))) : SndS Γ es C lv m :=
  ⟨hs, fun _ _ _ h => by rw [hb] at h; cases h⟩
theorem XOk.tr {S : SS} {X : Cx} (h : XOk Γ es C lv S X) {pn : List (Addr × Obj)} {xe : Value → Shared → Prop} (po : PassesOwn (model X.prog X.w) X.A X.env xe) : XOk Γ es C lv S (X.tr pn xe) where
  hN := h.hN
  nd := h.nd
  hsc := h.hsc
  hfn := h.hfn
  calm := h.calm
  room := h.room
  po := po
  abs := h.abs
  cs := h.cs
  fns := h.fns
  arity := h.arity
theorem SOk.tr {S : SS} {X : Cx} (h : SOk Γ es S X) {pn : List (Addr × Obj)} {xe : Value → Shared → Prop} : SOk Γ es S (X.tr pn xe) where
  ex := h.ex
  xf := h.xf
  cat := h.cat
  stk := h.stk
  frm := h.frm
  kind := h.kind
  room2 := h.room2
theorem skip_read {K : PySem.W.Frag} {W : WX} {D : Ends} {σ : L2.St} {H : Hp} (h : tS K es W (ex C .skip) D σ H) : tNext D σ H := by
  obtain ⟨f, ρ, μ, S, L, h⟩ := h
  exact h f H σ (Le.refl _ _) S L
theorem snds_skip : SndS Γ es C lv .skip where
  s := by
    intro S X W st HX HS tk h
    unfold chkS at h
    unfold asPass at h
    split at h
    · exact PS.weak ps_pass fun D σ H q => skip_read q
    · exact PS.weak ps_doc fun D σ H q => skip_read q
    · cases h
  b := by
    intro S X W l HX HS tk h
    cases l with
    | nil => exact PSs.weak pss_nil fun D σ H q => skip_read q
    | cons _ _ => unfold chkB at h; cases h
theorem snds_seq {a b : MS} (ha : SndS Γ es C lv a) (hb : SndS Γ es C lv b) : SndS Γ es C lv (.seq a b) where
  s := by
    intro S X W st HX HS tk h
    unfold chkS at h; cases h
  b := by
    intro S X W l HX HS tk h
    cases l with
    | nil => unfold chkB at h; cases h
    | cons st l =>
      have h' : (chkS Γ S a st && chkB Γ S b l) = true := by unfold chkB at h; exact h
      rw [Bool.and_eq_true] at h'
      exact PSs.weak (pss_cons (ha.s HX HS tk h'.1) (hb.b HX HS tk h'.2)) fun D σ H q => seq_read q
theorem snds_brk : SndS Γ es C lv .brk := by
  refine SndS.stm (fun S l => by unfold chkB; rfl) fun {S X W st} HX HS tk h => ?_
  have h' : asBrk st = true := by unfold chkS at h; exact h
  cases st <;> first | (cases h'; done) | exact PS.weak ps_break fun D σ H ⟨f, ρ, μ, S, L, q⟩ => q f H σ (Le.refl _ _) S L
theorem snds_cnt : SndS Γ es C lv .cnt := by
  refine SndS.stm (fun S l => by unfold chkB; rfl) fun {S X W st} HX HS tk h => ?_
  have h' : asCnt st = true := by unfold chkS at h; exact h
  cases st <;> first | (cases h'; done) | exact PS.weak ps_continue fun D σ H ⟨f, ρ, μ, S, L, q⟩ => q f H σ (Le.refl _ _) S L
theorem snds_expr {e : ME} : SndS Γ es C lv (.expr e) := by
  refine SndS.stm (fun S l => by unfold chkB; rfl) fun {S X W st} HX HS tk h => ?_
  unfold chkS at h
  split at h
  · rename_i v p hst
    obtain rfl := asEx_ok hst
    simp only [Bool.and_eq_true] at h
    exact PS.weak (ps_expr ((snd e).e HX tk h.1.2 h.1.1) (swaps_no h.2)) fun D σ H q => expr_read q
  · cases h
theorem snds_ret {e : ME} : SndS Γ es C lv (.ret e) := by
  refine SndS.stm (fun S l => by unfold chkB; rfl) fun {S X W st} HX HS tk h => ?_
  unfold chkS at h
  split at h
  · rename_i v hst
    obtain ⟨p, rfl⟩ := asRet_ok hst
    simp only [Bool.and_eq_true] at h
    exact PS.weak (ps_ret ((snd e).e HX tk h.2 h.1)) fun D σ H q => ret_read q
  · rename_i hst
    obtain ⟨p, rfl⟩ := asRet_ok hst
    split at h
    · exact PS.weak ps_retN fun D σ H ⟨f, ρ, μ, S, L, q⟩ => q f H .non (Le.refl _ _) S rfl
    · cases h
  · cases h
theorem snds_ite {c : ME} {a b : MS} (ha : SndS Γ es C lv a) (hb : SndS Γ es C lv b) : SndS Γ es C lv (.ite c a b) := by
  refine SndS.stm (fun S l => by unfold chkB; rfl) fun {S X W st} HX HS tk h => ?_
  unfold chkS at h
  split at h
  · rename_i x l r hst
    obtain ⟨p, rfl⟩ := asIfS_ok hst
    simp only [Bool.and_eq_true] at h
    obtain ⟨⟨⟨⟨h1, h2⟩, h3⟩, h4⟩, h5⟩ := h
    exact PS.weak (ps_if ((snd c).t HX tk h3 h1 h2).1 (ha.b HX HS tk h4) (hb.b HX HS tk h5)) fun D σ H q => if_read q
  · cases h
theorem snds_whl {c : ME} {b : MS} (hb : SndS Γ es C lv b) : SndS Γ es C lv (.whl c b) := by
  refine SndS.stm (fun S l => by unfold chkB; rfl) fun {S X W st} HX HS tk h => ?_
  unfold chkS at h
  split at h
  · rename_i x l hst
    obtain ⟨p, rfl⟩ := asWh_ok hst
    simp only [Bool.and_eq_true] at h
    obtain ⟨⟨⟨h1, h2⟩, h3⟩, h4⟩ := h
    exact PS.weak (ps_while HX.po ((snd c).t HX tk h3 h1 h2).1 (hb.b HX HS tk h4)) fun D σ H q => while_read q
  · cases h
theorem snds_for {tg : MT} {it : ME} {b : MS} (hb : SndS Γ es C lv b) : SndS Γ es C lv (.forE tg it b) := by
  refine SndS.stm (fun S l => by unfold chkB; rfl) fun {S X W st} HX HS tk h => ?_
  unfold chkS at h
  split at h
  · rename_i t i l hst
    obtain ⟨p, rfl⟩ := asFor_ok hst
    simp only [Bool.and_eq_true] at h
    obtain ⟨⟨⟨⟨h0, h1⟩, h2⟩, h3⟩, h4⟩ := h
    exact PS.weak (ps_for HX.po HX.calm ((snd it).i HX tk h3 t h0) (tg_PG HX h1) (hb.b HX HS tk h4) (folded_no h2)) fun D σ H q => for_read q
  · cases h
theorem snds_aug {i : Nat} {o : O2} {e : ME} : SndS Γ es C lv (.aug i o e) := by
  refine SndS.stm (fun S l => by unfold chkB; rfl) fun {S X W st} HX HS tk h => ?_
  unfold chkS at h
  split at h
  · rename_i x op v hst
    obtain ⟨p, q, rfl⟩ := asAug_ok hst
    simp only [Bool.and_eq_true, Bool.or_eq_true, decide_eq_true_eq] at h
    obtain ⟨⟨⟨⟨⟨h1, h2⟩, h3⟩, h4⟩, h5⟩, h6⟩ := h
    have hN : X.N.Nodup := by rw [HX.hN]; exact HX.nd
    have hf : X.fn x = true ∨ X.env.scope.names.lookup x = some .local := by rw [HX.hfn, HX.hsc]; exact h3
    have hx : L2.Loc X.env.scope x := by rw [HX.hsc]; exact locB_ok h2
    have hi : X.N[i]? = some x := by rw [HX.hN]; exact h1
    unfold opE at h4
    split at h4
    · refine PS.weak (ps_aug hN hi hx ((snd e).e HX tk h6 h5) ip_add hf) fun D σ H q => ?_
      refine aug_read (neg := false) ?_
      obtain ⟨f, ρ, μ, S1, L, q⟩ := q
      refine ⟨f, ρ, μ, S1, L, ?_⟩
      have q' : PostS X.K es W D f H (match ρ[i]? with
        | some (some x) => (ev C e ρ μ).on ρ fun v μ1 => (match x, v with
          | .int a, .int b => .nx (ρ.set i (some (.int (a + b)))) μ1
          | _, _ => .fail)
        | _ => .fail) := q
      exact q'
    · refine PS.weak (ps_aug hN hi hx ((snd e).e HX tk h6 h5) ip_sub hf) fun D σ H q => ?_
      refine aug_read (neg := true) ?_
      obtain ⟨f, ρ, μ, S1, L, q⟩ := q
      refine ⟨f, ρ, μ, S1, L, ?_⟩
      have q' : PostS X.K es W D f H (match ρ[i]? with
        | some (some x) => (ev C e ρ μ).on ρ fun v μ1 => (match x, v with
          | .int a, .int b => .nx (ρ.set i (some (.int (a - b)))) μ1
          | _, _ => .fail)
        | _ => .fail) := q
      exact q'
    · cases h4
  · cases h
theorem snds_put {a b e : ME} : SndS Γ es C lv (.put a b e) := by
  refine SndS.stm (fun S l => by unfold chkB; rfl) fun {S X W st} HX HS tk h => ?_
  unfold chkS at h
  split at h
  · rename_i t v p hst
    obtain rfl := asAsg_ok hst
    split at h
    · rename_i o i ht
      obtain ⟨p2, rfl⟩ := asSub_ok ht
      simp only [Bool.and_eq_true] at h
      obtain ⟨⟨⟨⟨⟨⟨⟨h1, h2⟩, h3⟩, h4⟩, h5⟩, h6⟩, h7⟩, h8⟩ := h
      have hg : PG X (.Subscript o i p2) (gSub (tM X.K es W (ev C a)) (tM X.K es W (ev C b)) (rSetX X.K)) := pg_sub ((snd a).e HX tk h4 h1) ((snd b).e HX tk h5 h2) (set_x (by have := HX.units; omega)) (by
        intro w
        cases i <;> first | rfl | cases h7)
      exact PS.weak (ps_asg ((snd e).e HX tk h6 h3) hg (by unfold swapsWithSole; exact swaps_no h8) rfl rfl) fun D σ H q => put_read q
    · cases h
  · cases h
theorem snds_raise {c : Nat} {a : ME} : SndS Γ es C lv (.raise c a) := by
  refine SndS.stm (fun S l => by unfold chkB; rfl) fun {S X W st} HX HS tk h => ?_
  unfold chkS at h
  split at h
  · rename_i x l hst
    obtain ⟨p, q, r, rfl⟩ := asRaise_ok hst
    simp only [Bool.and_eq_true] at h
    obtain ⟨⟨⟨⟨h1, h2⟩, h3⟩, h4⟩, h5⟩ := h
    split at h1
    · rename_i y fl hg
      simp only [Bool.and_eq_true, decide_eq_true_eq] at h1
      obtain ⟨⟨rfl, e2⟩, e3⟩ := h1
      obtain ⟨n1, n2, _⟩ := plainName_ok h3
      have hm : ∃ e, eAt es c = some e ∧ e.name = x ∧ e.flds = fl := by
        rw [HS.ex.look] at hg
        cases e1 : eAt es c with
        | none => rw [e1] at hg; cases hg
        | some e => rw [e1] at hg; cases hg; exact ⟨e, rfl, rfl, rfl⟩
      obtain ⟨e, he, rfl, rfl⟩ := hm
      have hmem := eAt_mem he
      obtain ⟨T, hz, fI, fd, ps, iC, tI, hb, F1⟩ := HS.ex.mkx e hmem e3
      cases l with
      | nil =>
        have := (argc_len_nil h5)
        omega
      | cons e0 l0 =>
        have hpl : plainArg e0 = true ∧ l0.all plainArg = true := by rw [List.all_cons, Bool.and_eq_true] at h4; exact h4
        have hmk := pmk_oex (CX := L2.CX X.prog X.w) (pos := q) (p := p) (x := e.name) T iC tI F1 HS.room2 hb (show Vals ([] : List V) ([] : List Value) from .nil) (passN tk) (HX.gl h2) (HS.ex.cls e hmem) ((snd a).a HX tk h5) n1 (star_cons hpl.1 _ _) (star_any hpl.2)
        refine PS.weak (ps_raise HX.calm tk hmk) fun D σ H q => ?_
        refine raise_readS he hz (HS.ex.nd e hmem) e3 (fun ρ μ v μ' hv => ?_) q
        obtain ⟨vs, hv1, hv2⟩ := argc_len a _ h5 ρ μ v μ' hv
        exact ⟨vs, hv1, hv2.trans e2⟩
    · cases h1
  · cases h
where
  argc_len_nil {Γ : Gam} {S : SS} {a : ME} (h : chkA Γ S a [] = true) : argc a = 0 := by
    cases a <;> first | rfl | (unfold chkA at h; cases h)
  passN {X : Cx} {W : WX} (tk : Takes X W) : Passes (L2.CX X.prog X.w) X (fun _ _ _ => False) := fun _ _ _ _ e s' I c => tk e s' (XE.of_call I (fun _ _ _ h => h.elim) c)
end
end Mi
end

section
set_option Elab.async false
set_option linter.all false
set_option maxRecDepth 100000
set_option autoImplicit false
set_option maxHeartbeats 1000000
/-! Sound21: assignments; try; every statement is sound. -/
namespace Mi
open PySem PySem.Spec L2
open PyProof.Rows hiding St
section
variable {Γ : Gam} {es : List EC} {C : CallF} {lv : Nat}
theorem sole {t v : Expr} {l : Nat} {env : Env} {b : Bool} (h : swapsWith v (some t) l env = pure b) : swapsWithSole [t] v l env = pure b := by
  unfold swapsWithSole; exact h
theorem block_kind {S : SS} {X : Cx} (HX : XOk Γ es C lv S X) (HS : SOk Γ es S X) : X.env.blockKind = .function := by
  unfold Env.blockKind
  rw [HX.hsc, HS.kind]
  rfl
theorem noTup_swap {vs : List Expr} {k : Nat} {p : Pos} {t : Option Expr} {l : Nat} {env : Env} : swapsWith (.Tuple vs k p) t l env = pure false := rfl
theorem name_of {S : SS} {i : Nat} {t : Expr} (h : chkNm S i t = true) : ∃ x p, t = .Name x p ∧ S.N[i]? = some x := by
  unfold chkNm at h
  split at h
  · rename_i x hx
    obtain ⟨p, rfl⟩ := asName_ok hx
    simp only [Bool.and_eq_true, decide_eq_true_eq] at h
    exact ⟨x, p, rfl, h.1.1⟩
  · cases h
theorem loc_of {S : SS} {x : Str} {p : Pos} (h : (match asName (.Name x p) with
    | some x => decide (S.sc.names.lookup x = some NameKind.local)
    | none => false) = true) : S.sc.names.lookup x = some .local := of_decide_eq_true h
/-- a comprehension's parts -/
theorem comp_parts {S : SS} {tg : MT} {it cond elt : ME} {e : Expr} (h : chk Γ S (.comp tg it cond elt) e = true) : ∃ x t iter ifs sc p own, e = .ListComp x [⟨t, iter, ifs, 0⟩] sc p ∧ asComp e = some (x, t, iter, ifs, sc) ∧ zipOk it t = true ∧ noSet iter = true ∧ chk Γ S it iter = true ∧ vE cond = true ∧ vE elt = true ∧ tstM cond = true ∧
    blkC S.N S.sc sc own = true ∧ chkTg (blkS S sc) tg t = true ∧ chk Γ (blkS S sc) elt x = true ∧ (match ifs with
      | [] => isTrueC cond
      | [c] => chk Γ (blkS S sc) cond c
      | _ => false) = true ∧ own.map (·.2) = tgs tg := by
  unfold chk at h
  split at h
  · rename_i x t iter ifs sc hl
    have hl0 := hl
    obtain ⟨p, rfl⟩ := asComp_ok hl
    simp only [Bool.and_eq_true] at h
    obtain ⟨⟨⟨⟨⟨⟨h0, h1⟩, h2⟩, h3⟩, h4⟩, h5⟩, h6⟩ := h
    cases tg with
    | nm i =>
      dsimp only at h6
      split at h6
      · rename_i y hy
        simp only [Bool.and_eq_true] at h6
        obtain ⟨⟨⟨k1, k2⟩, k3⟩, k4⟩ := h6
        exact ⟨x, t, iter, ifs, sc, p, _, rfl, hl0, h0, h1, h2, h3, h4, h5, k1, k2, k3, k4, rfl⟩
      · cases h6
    | tp is =>
      dsimp only at h6
      split at h6
      · rename_i ys hy
        simp only [Bool.and_eq_true] at h6
        obtain ⟨⟨⟨⟨k1, k0⟩, k2⟩, k3⟩, k4⟩ := h6
        refine ⟨x, t, iter, ifs, sc, p, _, rfl, hl0, h0, h1, h2, h3, h4, h5, k1, k2, k3, k4, ?_⟩
        have k2' : (match asTup t with
          | some l => chkNs (blkS S sc) is l
          | none => false) = true := k2
        rw [hy] at k2'
        exact own_ix k2'
      · cases h6
  · cases h
/-- x = [.. for ..] -/
theorem set_comp {S : SS} {X : Cx} {W : WX} (HX : XOk Γ es C lv S X) (HS : SOk Γ es S X) (tk : Takes X W) {i : Nat} {y : Str} {py p : Pos} {tg : MT} {it cond elt : ME} {v : Expr} (h : chk Γ S (.comp tg it cond elt) v = true) {a1 a2 a3 : Expr} {a4 : List Expr} {sc : Scope} (hv : asComp v = some (a1, a2, a3, a4, sc))
    (hi : S.N[i]? = some y) (hy : S.sc.names.lookup y = some .local) (hl : (py.line == v.pos.line) = true) (hn : (sc.names.any fun (n, k) => n == y && (k == .local || k == .cell)) = false) :
    PS X (.Assign [.Name y py] v p) (tS X.K es W (ex C (.set (.nm i) (.comp tg it cond elt)))) := by
  obtain ⟨x, t, iter, ifs, sc', pv, own, rfl, hl0, h0, h1, h2, h3, h4, h5, h6, h7, h8, h9, h10⟩ := comp_parts h
  rw [hv] at hl0
  cases hl0
  have ok : BlkOk X.N X.env.scope sc own := by rw [HX.hN, HX.hsc]; exact blkOk_by h6
  have htt : ∃ tt : TT, ttOk X.K es tt (ev C cond) ∧ ∀ (s : Shared) (H : Hp) (D : Addr) (cl : List (Str × Addr)) (fp : List Addr), PTs (X.blk s H sc (compEnvC sc cl D X.env) fp) a4 tt := by
    cases a4 with
    | nil =>
      have h9' := isTrueC_ok h9
      refine ⟨tYes, fun σ H Q q => ?_, fun _ _ _ _ _ => pts_nil⟩
      obtain ⟨f, ρ, μ, S, L, h⟩ := q
      rw [h9'] at h
      exact h f H (Le.refl _ _) S
    | cons c r =>
      cases r with
      | nil => exact ⟨tTM X.K es W0 (ev C cond), fun _ _ _ q => q, fun s H D cl fp => pts_one ((snd cond).t (HX.blk s H sc cl D fp) takesW0 h9 h3 h5).1⟩
      | cons _ _ => cases h9
  obtain ⟨tt, ht1, ht2⟩ := htt
  refine PS.weak (ps_setLc (i := i) (own := own) (g := gT X.K tg) (tt := tt) (te := tM X.K es W0 (ev C elt)) HX.calm (by rw [HX.hN]; exact HX.nd) (by rw [HX.hN]; exact hi) (by rw [HX.hsc]; exact hy) (sw_true (by rw [HX.hsc]; exact HS.kind) (by rw [HX.hsc]; exact hy) hl hn)
    ((snd it).i (W := W) HX tk h2 a2 h0) ok (fun s H D cl fp => tg_PG (HX.blk s H sc cl D fp) h7) ht2 (fun s H D cl fp => (snd elt).e (HX.blk s H sc cl D fp) takesW0 h8 h4) (folded_no h1)) fun D σ H q => ?_
  have q1 : tAsg (tM X.K es W (ev C (.comp tg it cond elt))) (gT X.K (.nm i)) D σ H := set_read q
  exact lc_read ht1 h10 q1
theorem snds_set {tg : MT} {e : ME} : SndS Γ es C lv (.set tg e) := by
  refine SndS.stm (fun S l => by unfold chkB; rfl) fun {S X W st} HX HS tk h => ?_
  unfold chkS at h
  split at h
  · rename_i t v p hst
    obtain rfl := asAsg_ok hst
    simp only [Bool.and_eq_true, Bool.or_eq_true] at h
    obtain ⟨⟨h1, h2⟩, h3⟩ := h
    have hNn : X.N.Nodup := by rw [HX.hN]; exact HX.nd
    rcases h3 with ⟨⟨h3, h4⟩, h5⟩ | h3
    · have ht : (∃ x p, t = .Name x p) ∨ (∃ l k p, t = .Tuple l k p) := by
        cases tg with
        | nm i => obtain ⟨x, p, e, _⟩ := name_of (show chkNm S i t = true from h3); exact .inl ⟨x, p, e⟩
        | tp is =>
          have h3' : (match asTup t with
            | some l => chkNs S is l
            | none => false) = true := h3
          split at h3'
          · rename_i l e1
            obtain ⟨k, p, rfl⟩ := asTup_ok e1
            exact .inr ⟨l, k, p, rfl⟩
          · cases h3'
      have hsw : ∀ l, swapsWith v (some t) l X.env = pure false := fun l => by
        rcases h4 with h4 | h4
        · exact swaps_no h4
        · unfold notLoc at h4
          split at h4
          · rename_i x ex
            obtain ⟨p, rfl⟩ := asName_ok ex
            refine swaps_loc ?_
            show X.env.scope.names.lookup x ≠ _
            rw [HX.hsc]
            exact of_decide_eq_true h4
          · cases h4
      exact PS.weak (ps_asg ((snd e).e HX tk h2 h1) (tg_PG HX h3) (sole (hsw _)) (by
        rcases h5 with h5 | h5
        · exact swapped_none ht h5
        · exact swapped_notLoc HX.hsc h5) (by rcases ht with ⟨x, p, rfl⟩ | ⟨l, k, p, rfl⟩ <;> rfl)) fun D σ H q => set_read q
    · split at h3
      · rename_i is a
        split at h3
        · rename_i ts vs e1 e2
          obtain ⟨k, pt, rfl⟩ := asTup_ok e1
          obtain ⟨k2, pt2, rfl⟩ := asTup_ok e2
          simp only [Bool.and_eq_true] at h3
          obtain ⟨h3, ha⟩ := h3
          unfold parQ at h3
          simp only [Bool.and_eq_true, decide_eq_true_eq, Bool.not_eq_true'] at h3
          obtain ⟨⟨⟨⟨⟨⟨⟨q1, q2⟩, q3⟩, q4⟩, q5⟩, q6⟩, q7⟩, q8⟩ := h3
          have hA := (snd a).a HX tk ha
          unfold sameLine at q2
          split at q2
          · rename_i t1 t2
            match is, vs, q3, ns_len q7, q7 with
            | [i, j], [a', b'], _, _, q7 =>
              have q7' : (chkNm S i t1 && (chkNm S j t2 && true)) = true := q7
              simp only [Bool.and_eq_true] at q7'
              obtain ⟨x, px, rfl, nx⟩ := name_of q7'.1
              obtain ⟨y, py, rfl, ny⟩ := name_of q7'.2.1
              simp only [List.all_cons, List.all_nil, Bool.and_true, Bool.and_eq_true] at q8
              have lx := loc_of (p := px) q8.1
              have ly := loc_of (p := py) q8.2
              have hij : i ≠ j := by
                have := q1
                simp at this
                exact this
              have hxy : x ≠ y := fun e => hij (nodup_ix HX.nd nx (by rw [e]; exact ny))
              refine PS.weak (ps_par HX.calm hNn (by rw [HX.hN]; exact nx) (by rw [HX.hN]; exact ny) hij (by rw [HX.hsc]; exact lx) (by rw [HX.hsc]; exact ly) hA
                (swapped_two (block_kind HX HS) (by show X.env.scope.names.lookup x = _; rw [HX.hsc]; exact lx) (by show X.env.scope.names.lookup y = _; rw [HX.hsc]; exact ly) q2 hxy q4 q5 q6) (sole noTup_swap)) fun D σ H q => par_read q
          · rename_i t1 t2 t3
            match is, vs, q3, ns_len q7, q7 with
            | [i, j, l], [a', b', c'], _, _, q7 =>
              have q7' : (chkNm S i t1 && (chkNm S j t2 && (chkNm S l t3 && true))) = true := q7
              simp only [Bool.and_eq_true] at q7' q2
              obtain ⟨x, px, rfl, nx⟩ := name_of q7'.1
              obtain ⟨y, py, rfl, ny⟩ := name_of q7'.2.1
              obtain ⟨z, pz, rfl, nz⟩ := name_of q7'.2.2.1
              simp only [List.all_cons, List.all_nil, Bool.and_true, Bool.and_eq_true] at q8
              have lx := loc_of (p := px) q8.1
              have ly := loc_of (p := py) q8.2.1
              have lz := loc_of (p := pz) q8.2.2
              have hd : i ≠ j ∧ i ≠ l ∧ j ≠ l := by
                have := q1
                simp at this
                exact ⟨this.1.1, this.1.2, this.2⟩
              have hxy : x ≠ y := fun e => hd.1 (nodup_ix HX.nd nx (by rw [e]; exact ny))
              have hxz : x ≠ z := fun e => hd.2.1 (nodup_ix HX.nd nx (by rw [e]; exact nz))
              have hyz : y ≠ z := fun e => hd.2.2 (nodup_ix HX.nd ny (by rw [e]; exact nz))
              refine PS.weak (ps_par3 HX.calm hNn (by rw [HX.hN]; exact nx) (by rw [HX.hN]; exact ny) (by rw [HX.hN]; exact nz) hd.1 hd.2.1 hd.2.2 (by rw [HX.hsc]; exact lx) (by rw [HX.hsc]; exact ly) (by rw [HX.hsc]; exact lz) hA
                (swapped_three (block_kind HX HS) (by show X.env.scope.names.lookup x = _; rw [HX.hsc]; exact lx) (by show X.env.scope.names.lookup y = _; rw [HX.hsc]; exact ly) (by show X.env.scope.names.lookup z = _; rw [HX.hsc]; exact lz) q2.1 q2.2 hxy hxz hyz q4 q5 q6) (sole noTup_swap)) fun D σ H q => par3_read q
          · cases q2
        · cases h3
      · rename_i i _ _ _ _
        split at h3
        · rename_i y sc e1 e2
          obtain ⟨py, rfl⟩ := asName_ok e1
          simp only [Bool.and_eq_true, decide_eq_true_eq, Bool.not_eq_true'] at h3
          exact set_comp HX HS tk h2 e2 h3.1.1.1 h3.1.1.2 h3.1.2 h3.2
        · cases h3
      · cases h3
  · cases h
/-- the clauses of a try -/
theorem clauses_ok {S : SS} {X : Cx} (HX : XOk Γ es C lv S X) (HS : SOk Γ es S X) : ∀ (hs : List HC) (hds : List ExceptHandler), chkHs Γ S hs hds = true → ∃ cvs, AnsOk X.K es hs cvs ∧ ClsOk X hds (clsOf X.K es hs cvs)
  | [], [], _ => ⟨[], trivial, trivial⟩
  | h :: hs, hd :: hds, hc => by
    have hc' : ((match asHd hd with
      | some (x, n, v) => glB S.sc x && plainName x && decide (Γ.cat.lookup x = some h.ks) && (match n, h.nm with
        | none, none => true
        | some y, some i => decide (S.N[i]? = some y) && decide (S.sc.names.lookup y = some NameKind.local)
        | _, _ => false) && chkF Γ S h.nm h.fe v
      | none => false) && chkHs Γ S hs hds) = true := hc
    rw [Bool.and_eq_true] at hc'
    obtain ⟨hc1, hc2⟩ := hc'
    obtain ⟨cvs, i1, i2⟩ := clauses_ok HX HS hs hds hc2
    split at hc1
    · rename_i x n v hh
      obtain ⟨p, q, r, rfl⟩ := asHd_ok hh
      simp only [Bool.and_eq_true, decide_eq_true_eq] at hc1
      obtain ⟨⟨⟨⟨k1, k2⟩, k3⟩, k4⟩, k5⟩ := hc1
      obtain ⟨cv, hcv, hans⟩ := HS.cat x h.ks k3
      obtain ⟨n1, _, _⟩ := plainName_ok k2
      refine ⟨cv :: cvs, ⟨hans, i1⟩, ⟨x, p, rfl, HX.gl k1, n1, hcv⟩, ?_, ⟨by simp, fun a oe cls d pn hz hf => ?_⟩, i2⟩
      · show NmOk X n h.nm
        cases n with
        | none =>
          cases e : h.nm with
          | none => trivial
          | some i => rw [e] at k4; cases k4
        | some y =>
          cases e : h.nm with
          | none => rw [e] at k4; cases k4
          | some i =>
            rw [e] at k4
            simp only [Bool.and_eq_true, decide_eq_true_eq] at k4
            refine ⟨by rw [HX.hN]; exact k4.1, ?_⟩
            show X.env.scope.names.lookup y = _
            rw [HX.hsc]; exact k4.2
      · exact PSs.weak (pss_one (ps_ret (chkF_ok HX.hN HX.hsc HS hz hf h.fe v k5))) fun D σ H q => q
    · cases hc1
  | [], _ :: _, hc => by cases hc
  | _ :: _, [], hc => by cases hc
theorem snds_try {b : MS} {hs : List HC} (hb : SndS Γ es C lv b) : SndS Γ es C lv (.tryx b hs) := by
  refine SndS.stm (fun S l => by unfold chkB; rfl) fun {S X W st} HX HS tk h => ?_
  unfold chkS at h
  split at h
  · rename_i l hds hst
    obtain ⟨p, rfl⟩ := asTry_ok hst
    simp only [Bool.and_eq_true] at h
    obtain ⟨⟨h1, h2⟩, h3⟩ := h
    cases hds with
    | nil => cases h2
    | cons hd hds =>
      obtain ⟨cvs, a1, a2⟩ := clauses_ok HX HS hs (hd :: hds) h3
      exact PS.weak (ps_try_cl (tb := fun W => tS X.K es W (ex C b)) HS.stk HS.frm (by rw [HX.hN]; exact HX.nd) tk (fun W pn xe tkW po => hb.b (HX.tr po) HS.tr tkW h1) a2) fun D σ H q => try_read a1 q
  · cases h
/-- every statement is sound -/
theorem snds : ∀ m : MS, SndS Γ es C lv m
  | .skip => snds_skip
  | .seq a b => snds_seq (snds a) (snds b)
  | .set _ _ => snds_set
  | .put _ _ _ => snds_put
  | .aug _ _ _ => snds_aug
  | .expr _ => snds_expr
  | .ret _ => snds_ret
  | .ite _ a b => snds_ite (snds a) (snds b)
  | .whl _ b => snds_whl (snds b)
  | .forE _ _ b => snds_for (snds b)
  | .raise _ _ => snds_raise
  | .tryx b _ => snds_try (snds b)
  | .brk => snds_brk
  | .cnt => snds_cnt
end
end Mi
end

section
set_option Elab.async false
set_option linter.all false
set_option maxRecDepth 100000
set_option autoImplicit false
set_option maxHeartbeats 1000000
/-! Sound22: the module's defs do what run says. -/
namespace Mi
open PySem PySem.Spec L2
open PyProof.Rows hiding St
section
variable {K : PySem.W.Frag} {es : List EC} {f f' : List Addr} {H H' : Hp} {μ μ' : Sto}
theorem exc_clean {c : Nat} {fs : List Val} {cls : Value} {d : Option Addr} (S : SR K f μ H) (l : Le f H f' H') (S' : SR K f' μ' H') (x : XR K es f' H' c fs cls d) : ∃ f2 μ2, cleanO μ (.exc c fs μ') = .exc c fs μ2 ∧ Le f H f2 H' ∧ SR K f2 μ2 H' ∧ XR K es f2 H' c fs cls d := by
  show ∃ f2 μ2, (if (stable μ μ' && underAll μ.length fs) = true then Out.exc c fs (μ'.take μ.length) else .exc c fs μ') = (.exc c fs μ2 : Out Val) ∧ _
  by_cases h : (stable μ μ' && underAll μ.length fs) = true
  · rw [if_pos h]
    rw [Bool.and_eq_true] at h
    refine ⟨f, _, rfl, l.back, stable_SR S l S' h.1, ?_⟩
    obtain ⟨e, dd, ps, h1, h2, h3, h4, h5, h6⟩ := x
    refine ⟨e, dd, ps, h1, h2, h3, h4, h5, fun i nm v q1 q2 => ?_⟩
    obtain ⟨y, q3, q4⟩ := h6 i nm v q1 q2
    refine ⟨y, q3, VR.shrink l.pre v y ?_ q4⟩
    rw [S.len]
    exact under_get h.2 q2
  · rw [if_neg h]
    exact ⟨f', _, rfl, l, S', x⟩
where
  under_get {n : Nat} : ∀ {vs : List Val} {i : Nat} {v : Val}, underAll n vs = true → vs[i]? = some v → v.under n = true
  | w :: vs, 0, v, h, e => by
    have h' : (w.under n && underAll n vs) = true := by rw [underAll] at h; exact h
    rw [Bool.and_eq_true] at h'
    cases (show some w = some v from e)
    exact h'.1
  | w :: vs, i + 1, v, h, e => by
    have h' : (w.under n && underAll n vs) = true := by rw [underAll] at h; exact h
    rw [Bool.and_eq_true] at h'
    exact under_get h'.2 (show vs[i]? = some v from e)
  | [], _, _, _, e => by cases e
end
/-- a def of the table -/
structure DefOk (Γ : Gam) (K : PySem.W.Frag) (mg : Str → Option Value) (x : Str) (n : Nat) (d : Fn) (f : Addr) (fd : FuncData) (ps N : List Str) (qual : Str) (st : Stmt) : Prop where
  at_ : mg x = some (.ref f)
  fn : Fun K x qual st f fd
  bi : Binds K fd ps []
  sc : FnScope N ps (defScope st)
  pn : ps.length = n
  dn : d.params = n
  sl : d.slots = N.length
  ck : chkB Γ ⟨N, defScope st, fun _ => true⟩ d.body (defBody st) = true
/-- the module -/
structure ModOk (Γ : Gam) (es : List EC) (P : Program) (w : World) (K : PySem.W.Frag) (mg : Str → Option Value) (base : Heap) (tb : Nat → Option Fn) : Prop where
  abs : ∀ x, x ∈ Γ.abs → mg x = none
  cs : ∀ x v, Γ.cs.lookup x = some v → ∃ u y, mg x = some u ∧ RelV y u ∧ ∀ f H, VR K f H v y
  defs : ∀ (k : Nat) (x : Str) (n : Nat), Γ.fns.lookup k = some (x, n) → ∃ d f fd ps N qual st, tb k = some d ∧ DefOk Γ K mg x n d f fd ps N qual st ∧ ∀ ks perm, (k, ks, perm) ∈ Γ.kws → KBinds K fd ps ks (gK ks.length perm) (gK ks.length perm)
  ex : EOk Γ es P w K mg base
  xf : ∀ e ∈ es, XfC K e.C ∧ ∀ g ∈ e.flds, PySem.W.findIn K (.ref e.C) g = some none
  cat : ∀ x ks, Γ.cat.lookup x = some ks → ∃ cv, (mg x = some cv ∨ (mg x = none ∧ bootBuiltins x = some cv ∧ x ≠ "__name__")) ∧ ∀ (c : Nat) (e : EC), eAt es c = some e → PySem.W.exmOne K (.ref e.C) cv = some (ks.contains c)
theorem enter_LR {K : PySem.W.Frag} {f : List Addr} {H : Hp} {d : Fn} {N : List Str} {args : List Val} {vs : List V} (hs : d.slots = N.length) (t : VRs K f H args vs) : LR K f H (enter d args) (L2.start N vs) := by
  have hl := t.length
  refine ⟨by unfold L2.start enter; simp [hl, hs], fun i v e => ?_⟩
  unfold enter at e
  by_cases hi : i < args.length
  · rw [List.getElem?_append_left (by simpa using hi), List.getElem?_map] at e
    cases ea : args[i]? with
    | none => rw [ea] at e; cases e
    | some w =>
      rw [ea] at e
      cases e
      obtain ⟨x, q1, q2⟩ := t.get ea
      refine ⟨x, ?_, q2⟩
      unfold L2.start
      rw [List.getElem?_append_left (by simp [hl]; exact hi), List.getElem?_map, q1]
      rfl
  · rw [List.getElem?_append_right (by simpa using hi)] at e
    have := List.mem_of_getElem? e
    rw [List.mem_replicate] at this
    cases this.2
theorem run_arity {tb : Nat → Option Fn} {n k : Nat} {d : Fn} (hd : tb k = some d) (vs : List Val) (μ : Sto) (h : vs.length ≠ d.params) : run tb n k vs μ = .fail := by
  cases n with
  | zero => rfl
  | succ n =>
    unfold run
    rw [hd]
    simp only []
    rw [if_neg h]
section
variable {Γ : Gam} {es : List EC} {P : Program} {w : World} {K : PySem.W.Frag} {mg : Str → Option Value} {base : Heap} {tb : Nat → Option Fn}
/-- one call deeper -/
theorem def_step (M : ModOk Γ es P w K mg base tb) {n : Nat} (ih : ∀ (k : Nat) (x : Str) (m : Nat), Γ.fns.lookup k = some (x, m) → ∃ f fd ps, mg x = some (.ref f) ∧ PySem.W.keepIn K (.ref f) = true ∧ Binds K fd ps [] ∧ FnOk P w K mg base (L2.CX P w) (n + 3) f fd ps (spM K es m (run tb n k)) ∧ ∀ ks perm, (k, ks, perm) ∈ Γ.kws → KBinds K fd ps ks (gK ks.length perm) (gK ks.length perm))
    {k : Nat} {x : Str} {m : Nat} {d : Fn} {f : Addr} {fd : FuncData} {ps N : List Str} {qual : Str} {st : Stmt} (hd : tb k = some d) (D : DefOk Γ K mg x m d f fd ps N qual st) : FnOk P w K mg base (L2.CX P w) (n + 4) f fd ps (spM K es m (run tb (n + 1) k)) := by
  refine D.fn.okX (k := n + 3) D.sc (fun vs H Q E h => ?_) (fun cdv A outer s H vs Q E hr h => ?_)
  · obtain ⟨f, μ, args, S, t, hl, h⟩ := h
    rw [t.length, hl, D.pn]
  · obtain ⟨fs, μ, args, S, t, hl, h⟩ := h
    have HX : XOk Γ es (run tb n) (n + 3) ⟨N, defScope st, fun _ => true⟩ (cxOf (L2.CX P w) P w K mg base N qual (defScope st) f cdv A outer s H E) :=
      { hN := rfl, nd := D.sc.nd, hsc := rfl, hfn := rfl, calm := rfl, room := hr, po := passes_of rfl, abs := M.abs, cs := M.cs, fns := ih,
        arity := fun k x n' hk vs μ hne => by
          obtain ⟨d, f, fd, ps, N, qual, st, hd, D, _⟩ := M.defs k x n' hk
          exact run_arity hd vs μ (by rw [D.dn]; exact hne) }
    have HS : SOk Γ es ⟨N, defScope st, fun _ => true⟩ (cxOf (L2.CX P w) P w K mg base N qual (defScope st) f cdv A outer s H E) :=
      { ex := M.ex, xf := M.xf, cat := M.cat, stk := rfl, frm := rfl, kind := D.sc.kind, room2 := hr.mono (by omega) }
    have tk : Takes (cxOf (L2.CX P w) P w K mg base N qual (defScope st) f cdv A outer s H E) (fun cls d _ H => E cls d H) := takes_of rfl rfl rfl rfl
    refine ⟨_, (snds d.body).b HX HS tk D.ck, fs, enter d args, μ, S, enter_LR D.sl t, ?_⟩
    have h' : Post K es (fun cls d _ H' => E cls d H') [] fs H (if args.length = d.params then cleanO μ (fin (ex (run tb n) d.body (enter d args) μ)) else .fail) Q := by
      have e : run tb (n + 1) k args μ = if args.length = d.params then cleanO μ (fin (ex (run tb n) d.body (enter d args) μ)) else .fail := by
        rw [run, hd]
      rw [← e]; exact h
    rw [if_pos (by rw [hl, D.dn])] at h'
    cases eo : ex (run tb n) d.body (enter d args) μ with
    | nx ρ1 μ1 =>
      rw [eo] at h'
      intro f' H' σ' l S' L'
      obtain ⟨f2, k1, k2, k3⟩ := clean_ok (v := .non) (x := .non) S l S' rfl
      exact h' f2 H' .non k1 k2 k3
    | ret v μ1 =>
      rw [eo] at h'
      intro f' H' x l S' r
      obtain ⟨f2, k1, k2, k3⟩ := clean_ok S l S' r
      exact h' f2 H' x k1 k2 k3
    | exc c vs ρ1 μ1 =>
      rw [eo] at h'
      intro f' H' σ' cls dd l S' L' xr
      obtain ⟨f2, μ2, k0, k1, k2, k3⟩ := exc_clean S l S' xr
      have h2 : Post K es (fun cls d _ H' => E cls d H') [] fs H (cleanO μ (.exc c vs μ1)) Q := h'
      rw [k0] at h2
      exact h2 f2 H' cls dd k1 k2 k3
    | brk _ _ => rw [eo] at h'; exact h'.elim
    | cnt _ _ => rw [eo] at h'; exact h'.elim
    | fail => rw [eo] at h'; exact h'.elim
/-- every def of the table keeps its promise -/
theorem defs_ok (M : ModOk Γ es P w K mg base tb) : ∀ (n k : Nat) (x : Str) (m : Nat), Γ.fns.lookup k = some (x, m) → ∃ f fd ps, mg x = some (.ref f) ∧ PySem.W.keepIn K (.ref f) = true ∧ Binds K fd ps [] ∧ FnOk P w K mg base (L2.CX P w) (n + 3) f fd ps (spM K es m (run tb n k)) ∧ ∀ ks perm, (k, ks, perm) ∈ Γ.kws → KBinds K fd ps ks (gK ks.length perm) (gK ks.length perm)
  | 0, k, x, m, hk => by
    obtain ⟨d, f, fd, ps, N, qual, st, _, D, hkw⟩ := M.defs k x m hk
    refine ⟨f, fd, ps, D.at_, D.fn.kp, D.bi, D.fn.okX (k := 2) D.sc (fun vs H Q E h => ?_) (fun cdv A outer s H vs Q E hr h => ?_), hkw⟩
    · obtain ⟨f, μ, args, S, t, hl, h⟩ := h
      exact h.elim
    · obtain ⟨f, μ, args, S, t, hl, h⟩ := h
      exact h.elim
  | n + 1, k, x, m, hk => by
    obtain ⟨d, f, fd, ps, N, qual, st, hd, D, hkw⟩ := M.defs k x m hk
    exact ⟨f, fd, ps, D.at_, D.fn.kp, D.bi, def_step M (defs_ok M n) hd D, hkw⟩
end
end Mi
end

section
set_option Elab.async false
set_option linter.all false
set_option maxRecDepth 100000
set_option autoImplicit false
set_option maxHeartbeats 1000000
/-! Sound23: what a law's head wants. -/
namespace Mi
open PySem PySem.Spec L2
open PyProof.Rows hiding St
theorem look_all {α β : Type} [BEq α] [LawfulBEq α] {P : α → β → Prop} : ∀ {l : List (α × β)}, (∀ p ∈ l, P p.1 p.2) → ∀ x v, l.lookup x = some v → P x v
  | (y, u) :: l, h, x, v, e => by
    rw [List.lookup_cons] at e
    split at e
    · rename_i hb
      cases e
      rw [eq_of_beq hb]
      exact h (y, u) (List.mem_cons_self ..)
    · exact look_all (fun p hp => h p (List.mem_cons_of_mem _ hp)) x v e
theorem cx_no {P : Program} {w : World} {H : Hp} {s : Shared} {e : Value} {s' : Shared} (h : L2.CX P w [] H s (fun _ _ _ => False) e s') : False := by
  obtain ⟨_, _, _, _, _, _, _, _, _, _, _, _, h⟩ := h
  exact h
/-- the law's promise, with no word of the module's classes -/
def spL (K : PySem.W.Frag) : Sp := fun vs H Q _ => ∃ (a : Addr) (ns : List Int), vs = [.ref a] ∧ ns.length ≤ 63 ∧ Fz K H a (ns.map V.int) ∧ ∀ H', Q (.bl true) H'
theorem spL_of {K : PySem.W.Frag} (H : Hp) (a : Addr) (ns : List Int) (hl : ns.length ≤ 63) (hO : Only H) (hS : SqL K H a (ns.map V.int)) : spL K [.ref a] H (fun v _ => v = .bl true) (fun _ _ _ => False) := by
  refine ⟨a, ns, rfl, hl, ?_, fun _ => rfl⟩
  rcases hS with (h | h) | h
  · exfalso
    rcases hO a with q | ⟨o, xs, q⟩
    · rw [h] at q; cases q
    · rw [h] at q; cases q
  · exact .inl h
  · exact .inr h
theorem spL_M {K : PySem.W.Frag} {es : List EC} {tb : Nat → Option Fn} {n k : Nat} (plain : ∀ ns : List Int, ns.length ≤ 63 → ∃ μ', run tb n k [.scr ns] [] = .ok (.bl true) μ') : ∀ vs H Q E, spL K vs H Q E → spM K es 1 (run tb n k) vs H Q E := by
  rintro vs H Q E ⟨a, ns, rfl, hl, hF, q⟩
  obtain ⟨μ', e⟩ := plain ns hl
  refine ⟨[], [], [.scr ns], ⟨rfl, List.nodup_nil, fun n c a h => by cases h⟩, ⟨.ref a, [], rfl, ⟨a, rfl, hF⟩, rfl⟩, rfl, ?_⟩
  rw [e]
  intro f' H' x _ _ r
  rw [show x = .bl true from r]
  exact q H'
theorem eAt_no {es : List EC} {c : Nat} {e : EC} (h : eAt es c = some e) : e.no = c := by
  have := List.find?_some h
  exact eq_of_beq this
theorem cat_of {K : PySem.W.Frag} {es : List EC} {cv : Value} {ks : List Nat} (h : ∀ e ∈ es, PySem.W.exmOne K (.ref e.C) cv = some (ks.contains e.no)) : ∀ (c : Nat) (e : EC), eAt es c = some e → PySem.W.exmOne K (.ref e.C) cv = some (ks.contains c) := fun c e q => by
  rw [← eAt_no q]; exact h e (eAt_mem q)
theorem all_two {α : Type} {P : α → Prop} {a : α} {l : List α} (h : P a) (t : ∀ x ∈ l, P x) : ∀ x ∈ a :: l, P x := fun x hx => by
  rcases List.mem_cons.mp hx with e | e
  · rw [e]; exact h
  · exact t x e
theorem all_nil {α : Type} {P : α → Prop} : ∀ x ∈ ([] : List α), P x := fun x hx => by cases hx
/-! ### the module's constants -/
def CsOk (K : PySem.W.Frag) (mg : Str → Option Value) (x : Str) (v : Val) : Prop := ∃ u y, mg x = some u ∧ RelV y u ∧ ∀ f H, VR K f H v y
theorem cs_int {K : PySem.W.Frag} {mg : Str → Option Value} {x : Str} {i : Int} {t : Tok} (h : mg x = some (.int i t)) : CsOk K mg x (.int i) := ⟨_, .int i, h, ⟨t, rfl⟩, fun _ _ => rfl⟩
/-! ### keywords -/
theorem kws_of {Γ : Gam} {k : Nat} {l : List (List Str × List Nat)} {Pr : List Str → List Nat → Prop} (he : (Γ.kws.filter (fun q => q.1 == k)).map (·.2) = l) (h : ∀ q ∈ l, Pr q.1 q.2) : ∀ ks perm, (k, ks, perm) ∈ Γ.kws → Pr ks perm := fun ks perm hm => by
  refine h (ks, perm) ?_
  rw [← he]
  exact List.mem_map.mpr ⟨(k, ks, perm), List.mem_filter.mpr ⟨hm, by simp⟩, rfl⟩
theorem gK_len {α : Type} {m n : Nat} {perm : List Nat} {us ws : List α} (h : (gK m perm us ws).length = n + 1) : us.length = 0 ∧ ws.length = m := by
  unfold gK at h
  split at h
  · assumption
  · cases h
theorem gK_rel {m : Nat} {perm : List Nat} {vs : List V} {us : List Value} {zs : List V} {ws : List Value} (r : Vals vs us) (rz : Vals zs ws) : Vals (gK m perm vs zs) (gK m perm us ws) := by
  unfold gK
  rw [r.length, rz.length]
  split
  · exact Vals.pick rz perm
  · exact .nil
/-- the statement of a class -/
def mthOf (st : Stmt) (j : Nat) : Stmt := match st with
  | .ClassDef _ _ _ body _ _ _ _ _ _ _ => body.getD j (.Pass ⟨0, 0, 0, 0⟩)
  | _ => .Pass ⟨0, 0, 0, 0⟩
end Mi
end

section
set_option linter.all false
namespace Mi
/-- is_whole -/
def F73 : Fn := ⟨1, 1,
  (.seq (.ret (.and (.op1 (.isi [.int]) (.var 0)) (.op1 .not (.op1 (.isi [.bool]) (.var 0)))))
  .skip)⟩

/-- is_number -/
def F74 : Fn := ⟨1, 1,
  (.seq (.ret (.and (.call 73 (.cons (.var 0) .nil)) (.op2 .ge (.var 0) (.cst (.int 0)))))
  .skip)⟩

/-- is_below -/
def F75 : Fn := ⟨2, 2,
  (.seq (.ret (.and (.call 74 (.cons (.var 0) .nil)) (.op2 .lt (.var 0) (.var 1))))
  .skip)⟩

/-- is_row -/
def F76 : Fn := ⟨2, 2,
  (.seq (.ret (.and (.op1 (.isi [.tuple]) (.var 0)) (.op2 .eq (.op1 .len (.var 0)) (.var 1))))
  .skip)⟩

/-- is_record -/
def F247 : Fn := ⟨2, 3,
  (.seq (.ite (.op1 .not (.call 76 (.cons (.var 1) (.cons (.op1 .len (.var 0)) .nil))))
  (.seq (.ret (.cst (.bl false)))
  .skip)
  .skip)
  (.seq (.ret (.op2 .eq (.op1 .len (.comp (.nm 2) (.rng (.op1 .len (.var 0))) (.op1 .not (.call 75 (.cons (.op2 .idx (.var 1) (.var 2)) (.cons (.op2 .idx (.var 0) (.var 2)) .nil)))) (.var 2))) (.cst (.int 0))))
  .skip))⟩

/-- look_for_record -/
def F248 : Fn := ⟨2, 2,
  (.seq (.ite (.op1 .not (.call 247 (.cons (.var 0) (.cons (.var 1) .nil))))
  (.seq (.raise 4 (.cons (.cst (.str [114, 101, 99, 111, 114, 100])) .nil))
  .skip)
  .skip)
  .skip)⟩

def B128_1 : MS := (.seq (.set (.nm 2) (.op2 .add (.op2 .mul (.var 2) (.op2 .idx (.var 0) (.var 3))) (.op2 .idx (.var 1) (.var 3))))
  .skip)
/-- place_in -/
def F128 : Fn := ⟨2, 4,
  (.seq (.set (.nm 2) (.cst (.int 0)))
  (.seq (.forE (.nm 3) (.rng (.op1 .len (.var 0))) B128_1)
  (.seq (.ret (.var 2))
  .skip)))⟩

def B375_1 : MS := (.seq (.expr (.op2 .extend (.var 3) (.comp (.nm 5) (.rng (.op1 .len (.var 0))) (.op2 .nin (.var 5) (.var 4)) (.op2 .add (.var 4) (.tupE (.cons (.var 5) .nil))))))
  .skip)
def B375_2 : MS := (.seq (.set (.nm 3) (.lstE .nil))
  (.seq (.forE (.nm 4) (.var 1) B375_1)
  (.seq (.set (.nm 1) (.var 3))
  .skip)))
/-- all_orders -/
def F375 : Fn := ⟨1, 6,
  (.seq (.set (.nm 1) (.lstE (.cons (.tupE .nil) .nil)))
  (.seq (.forE (.nm 2) (.rng (.op1 .len (.var 0))) B375_2)
  (.seq (.ret (.op1 .toTup (.var 1)))
  .skip)))⟩

/-- is_order -/
def F360 : Fn := ⟨2, 3,
  (.seq (.ite (.or (.op1 .not (.call 76 (.cons (.var 1) (.cons (.op1 .len (.var 0)) .nil)))) (.op2 .gt (.op1 .len (.comp (.nm 2) (.var 1) (.op1 .not (.call 75 (.cons (.var 2) (.cons (.op1 .len (.var 0)) .nil)))) (.var 2))) (.cst (.int 0))))
  (.seq (.ret (.cst (.bl false)))
  .skip)
  .skip)
  (.seq (.ret (.op2 .eq (.op1 .lset (.var 1)) (.op1 .len (.var 1))))
  .skip))⟩

/-- look_for_order -/
def F361 : Fn := ⟨2, 2,
  (.seq (.ite (.op1 .not (.call 360 (.cons (.var 0) (.cons (.var 1) .nil))))
  (.seq (.raise 4 (.cons (.cst (.str [111, 114, 100, 101, 114])) .nil))
  .skip)
  .skip)
  .skip)⟩

def B362_1 : MS := (.seq (.put (.var 4) (.var 5) (.op2 .idx (.var 3) (.var 5)))
  .skip)
/-- state -/
def F362 : Fn := ⟨4, 6,
  (.seq (.set (.nm 4) (.op1 .toLst (.var 2)))
  (.seq (.forE (.nm 5) (.op2 .slT (.var 0) (.var 1)) B362_1)
  (.seq (.ret (.op1 .toTup (.var 4)))
  .skip)))⟩

/-- state_behind -/
def F388 : Fn := ⟨5, 5,
  (.seq (.expr (.call 248 (.cons (.var 0) (.cons (.var 4) .nil))))
  (.seq (.expr (.call 361 (.cons (.var 0) (.cons (.var 2) .nil))))
  (.seq (.ite (.or (.op1 .not (.call 74 (.cons (.var 3) .nil))) (.op2 .gt (.var 3) (.op1 .len (.var 0))))
  (.seq (.raise 4 (.cons (.cst (.str [110, 117, 109, 98, 101, 114])) .nil))
  .skip)
  .skip)
  (.seq (.ret (.call 362 (.cons (.var 2) (.cons (.var 3) (.cons (.var 4) (.cons (.op2 .idx (.var 1) (.call 128 (.cons (.var 0) (.cons (.var 4) .nil)))) .nil))))))
  .skip))))⟩

def B306_1 : MS := (.seq (.set (.nm 3) (.op2 .mod (.op1 .abs (.op1 .int (.op2 .idx (.var 0) (.var 2)))) (.op2 .shl (.cst (.int 1)) (.cst (.int 1080)))))
  (.seq (.put (.var 1) (.cst (.str [109, 105, 120])) (.op2 .mod (.op1 .int (.op2 .add (.op2 .add (.op2 .add (.op2 .mul (.op2 .idx (.var 1) (.cst (.str [109, 105, 120]))) (.cst (.int 2411))) (.op2 .mod (.var 3) (.cst (.int 998071)))) (.op2 .mul (.cst (.int 19)) (.var 2))) (.cst (.int 7)))) (.cst (.int 2147480347))))
  (.seq (.ite (.op2 .ge (.var 3) (.op2 .pow (.cst (.int 10)) (.cst (.int 18))))
  (.seq (.expr (.op2 .append (.op2 .idx (.var 1) (.cst (.str [100, 101, 101, 112]))) (.var 3)))
  .skip)
  .skip)
  .skip)))
/-- _law_pail -/
def F306 : Fn := ⟨1, 4,
  (.seq (.set (.nm 1) (.dct false [(.str [109, 105, 120]), (.str [108, 97, 112]), (.str [100, 101, 101, 112])] (.cons (.cst (.int 15013)) (.cons (.cst (.int 0)) (.cons (.lstE .nil) .nil)))))
  (.seq (.forE (.nm 2) (.rng (.op2 .min2 (.op1 .len (.var 0)) (.cst (.int 46)))) B306_1)
  (.seq (.ret (.var 1))
  .skip)))⟩

/-- _law_scoop -/
def F307 : Fn := ⟨2, 3,
  (.seq (.put (.var 0) (.cst (.str [108, 97, 112])) (.op2 .add (.op2 .idx (.var 0) (.cst (.str [108, 97, 112]))) (.cst (.int 1))))
  (.seq (.ite (.op2 .gt (.op1 .len (.op2 .idx (.var 0) (.cst (.str [100, 101, 101, 112])))) (.cst (.int 0)))
  (.seq (.set (.nm 2) (.op1 .pop (.op2 .idx (.var 0) (.cst (.str [100, 101, 101, 112])))))
  (.seq (.ite (.op2 .ge (.var 2) (.var 1))
  (.seq (.expr (.op2 .append (.op2 .idx (.var 0) (.cst (.str [100, 101, 101, 112]))) (.op2 .fdiv (.var 2) (.var 1))))
  .skip)
  .skip)
  (.seq (.ret (.op2 .mod (.op1 .int (.var 2)) (.var 1)))
  .skip)))
  .skip)
  (.seq (.put (.var 0) (.cst (.str [109, 105, 120])) (.op2 .mod (.op1 .int (.op2 .add (.op2 .add (.op2 .mul (.op2 .idx (.var 0) (.cst (.str [109, 105, 120]))) (.cst (.int 31393))) (.op2 .mul (.op2 .idx (.var 0) (.cst (.str [108, 97, 112]))) (.cst (.int 4801)))) (.cst (.int 31)))) (.cst (.int 2147480347))))
  (.seq (.ret (.op2 .mod (.op1 .int (.op2 .fdiv (.op2 .idx (.var 0) (.cst (.str [109, 105, 120]))) (.cst (.int 101)))) (.var 1)))
  .skip))))⟩

/-- _law_one -/
def F308 : Fn := ⟨2, 2,
  (.seq (.ret (.op2 .idx (.var 1) (.call 307 (.cons (.var 0) (.cons (.op1 .len (.var 1)) .nil)))))
  .skip)⟩

def B309_1 : MS := (.seq (.expr (.op2 .append (.var 3) (.op2 .popAt (.var 2) (.call 307 (.cons (.var 0) (.cons (.op1 .len (.var 2)) .nil))))))
  .skip)
/-- _law_mixed -/
def F309 : Fn := ⟨2, 5,
  (.seq (.set (.nm 2) (.op1 .toLst (.var 1)))
  (.seq (.set (.nm 3) (.lstE .nil))
  (.seq (.forE (.nm 4) (.rng (.op1 .len (.var 1))) B309_1)
  (.seq (.ret (.var 3))
  .skip))))⟩

def B310_1 : MS := (.seq (.set (.nm 6) (.op2 .add (.cst (.int 1)) (.call 307 (.cons (.var 0) (.cons (.op2 .idx (.tupE (.cons (.cst (.int 4)) (.cons (.cst (.int 3)) (.cons (.cst (.int 2)) (.cons (.cst (.int 12)) .nil))))) (.var 4)) .nil)))))
  (.seq (.ite (.op2 .le (.op2 .mul (.var 3) (.var 6)) (.var 1))
  (.seq (.expr (.op2 .append (.var 2) (.var 6)))
  (.seq (.set (.nm 3) (.op2 .mul (.var 3) (.var 6)))
  .skip))
  .skip)
  .skip))
/-- _law_frame -/
def F310 : Fn := ⟨2, 7,
  (.seq (.set (.nm 2) (.lstE .nil))
  (.seq (.set (.nm 3) (.cst (.int 1)))
  (.seq (.set (.nm 4) (.call 307 (.cons (.var 0) (.cons (.cst (.int 4)) .nil))))
  (.seq (.forE (.nm 5) (.rng (.op2 .add (.cst (.int 1)) (.call 307 (.cons (.var 0) (.cons (.op2 .idx (.tupE (.cons (.cst (.int 3)) (.cons (.cst (.int 4)) (.cons (.cst (.int 6)) (.cons (.cst (.int 3)) .nil))))) (.var 4)) .nil))))) B310_1)
  (.seq (.ret (.ite (.op2 .gt (.op1 .len (.var 2)) (.cst (.int 0))) (.op1 .toTup (.var 2)) (.tupE (.cons (.cst (.int 2)) .nil))))
  .skip)))))⟩

def B311_1 : MS := (.seq (.expr (.op2 .extend (.var 3) (.comp (.nm 5) (.rng (.var 2)) (.cst (.bl true)) (.op2 .add (.var 4) (.tupE (.cons (.var 5) .nil))))))
  .skip)
def B311_2 : MS := (.seq (.set (.nm 3) (.lstE .nil))
  (.seq (.forE (.nm 4) (.var 1) B311_1)
  (.seq (.set (.nm 1) (.var 3))
  .skip)))
/-- _law_records -/
def F311 : Fn := ⟨1, 6,
  (.seq (.set (.nm 1) (.lstE (.cons (.tupE .nil) .nil)))
  (.seq (.forE (.nm 2) (.var 0) B311_2)
  (.seq (.ret (.var 1))
  .skip)))⟩

/-- _law_set -/
def F312 : Fn := ⟨3, 3,
  (.seq (.ret (.op2 .add (.op2 .add (.op2 .slT (.var 0) (.var 1)) (.tupE (.cons (.var 2) .nil))) (.op2 .slF (.var 0) (.op2 .add (.var 1) (.cst (.int 1))))))
  .skip)⟩

/-- _law_change -/
def F328 : Fn := ⟨2, 11,
  (.seq (.set (.nm 2) (.call 311 (.cons (.var 1) .nil)))
  (.seq (.set (.nm 3) (.call 307 (.cons (.var 0) (.cons (.cst (.int 7)) .nil))))
  (.seq (.set (.nm 4) (.call 309 (.cons (.var 0) (.cons (.var 2) .nil))))
  (.seq (.ite (.op2 .eq (.var 3) (.cst (.int 1)))
  (.seq (.set (.nm 5) (.op2 .slT (.var 4) (.op2 .add (.cst (.int 1)) (.call 307 (.cons (.var 0) (.cons (.cst (.int 3)) .nil))))))
  (.seq (.set (.nm 4) (.comp (.nm 10) (.var 2) (.cst (.bl true)) (.call 308 (.cons (.var 0) (.cons (.var 5) .nil)))))
  .skip))
  .skip)
  (.seq (.ite (.op2 .eq (.var 3) (.cst (.int 2)))
  (.seq (.set (.nm 6) (.call 307 (.cons (.var 0) (.cons (.op1 .len (.var 2)) .nil))))
  (.seq (.set (.nm 4) (.op2 .add (.op2 .add (.op2 .slT (.var 4) (.var 6)) (.lstE (.cons (.call 308 (.cons (.var 0) (.cons (.var 2) .nil))) .nil))) (.op2 .slF (.var 4) (.op2 .add (.var 6) (.cst (.int 1))))))
  .skip))
  .skip)
  (.seq (.ite (.op2 .eq (.var 3) (.cst (.int 3)))
  (.seq (.set (.nm 7) (.call 307 (.cons (.var 0) (.cons (.op1 .len (.var 1)) .nil))))
  (.seq (.set (.nm 4) (.comp (.nm 10) (.var 2) (.cst (.bl true)) (.call 312 (.cons (.var 10) (.cons (.var 7) (.cons (.call 307 (.cons (.var 0) (.cons (.op2 .idx (.var 1) (.var 7)) .nil))) .nil))))))
  .skip))
  .skip)
  (.seq (.ite (.op2 .eq (.var 3) (.cst (.int 4)))
  (.seq (.set (.tp [8, 9]) (.tupE (.cons (.call 307 (.cons (.var 0) (.cons (.op1 .len (.var 1)) .nil))) (.cons (.call 307 (.cons (.var 0) (.cons (.op1 .len (.var 1)) .nil))) .nil))))
  (.seq (.set (.nm 4) (.comp (.nm 10) (.var 2) (.cst (.bl true)) (.call 329 (.cons (.var 1) (.cons (.var 10) (.cons (.var 8) (.cons (.var 9) .nil)))))))
  .skip))
  .skip)
  (.seq (.ite (.op2 .eq (.var 3) (.cst (.int 5)))
  (.seq (.set (.nm 4) (.op1 .toLst (.var 2)))
  .skip)
  .skip)
  (.seq (.ret (.op1 .toTup (.var 4)))
  .skip)))))))))⟩

/-- _law_turned -/
def F329 : Fn := ⟨4, 4,
  (.seq (.ite (.op2 .eq (.op2 .idx (.var 0) (.var 2)) (.op2 .idx (.var 0) (.var 3)))
  (.seq (.ret (.call 312 (.cons (.call 312 (.cons (.var 1) (.cons (.var 2) (.cons (.op2 .idx (.var 1) (.var 3)) .nil)))) (.cons (.var 3) (.cons (.op2 .idx (.var 1) (.var 2)) .nil)))))
  .skip)
  .skip)
  (.seq (.ret (.call 312 (.cons (.var 1) (.cons (.var 2) (.cons (.op2 .mod (.op1 .int (.op2 .add (.op2 .idx (.var 1) (.var 2)) (.op2 .idx (.var 1) (.var 3)))) (.op2 .idx (.var 0) (.var 2))) .nil)))))
  .skip))⟩

/-- _law_order -/
def F368 : Fn := ⟨2, 4,
  (.seq (.set (.nm 2) (.lstR false (.op1 .len (.var 1))))
  (.seq (.set (.nm 3) (.call 307 (.cons (.var 0) (.cons (.cst (.int 4)) .nil))))
  (.seq (.ret (.op1 .toTup (.ite (.op2 .eq (.var 3) (.cst (.int 0))) (.var 2) (.ite (.op2 .eq (.var 3) (.cst (.int 1))) (.op2 .rev (.var 2) (.op1 .neg (.cst (.int 1)))) (.call 309 (.cons (.var 0) (.cons (.var 2) .nil)))))))
  .skip)))⟩

def B317_1 : MS := (.seq (.set (.tp [3, 4]) (.op1 .pop (.var 2)))
  (.seq (.ite (.op1 .isN (.var 4))
  (.seq (.ite (.op1 .notN (.var 3))
  (.seq (.ret (.cst (.bl false)))
  .skip)
  .skip)
  .skip)
  (.seq (.ite (.or (.op1 (.isi [.bool]) (.var 4)) (.op1 (.isi [.bool]) (.var 3)))
  (.seq (.ite (.or (.op1 .not (.op1 (.isi [.bool]) (.var 3))) (.or (.op1 .not (.op1 (.isi [.bool]) (.var 4))) (.op2 .ne (.var 3) (.var 4))))
  (.seq (.ret (.cst (.bl false)))
  .skip)
  .skip)
  .skip)
  (.seq (.ite (.op1 (.isi [.int]) (.var 4))
  (.seq (.ite (.or (.op1 .not (.op1 (.isi [.int]) (.var 3))) (.op2 .ne (.var 3) (.var 4)))
  (.seq (.ret (.cst (.bl false)))
  .skip)
  .skip)
  .skip)
  (.seq (.ite (.op1 (.isi [.str]) (.var 4))
  (.seq (.ite (.or (.op1 .not (.op1 (.isi [.str]) (.var 3))) (.op2 .ne (.var 3) (.var 4)))
  (.seq (.ret (.cst (.bl false)))
  .skip)
  .skip)
  .skip)
  (.seq (.ite (.or (.op2 .ne (.op1 (.isi [.tuple]) (.var 3)) (.op1 (.isi [.tuple]) (.var 4))) (.or (.op1 .not (.op1 (.isi [.tuple, .list]) (.var 3))) (.op2 .ne (.op1 .len (.var 3)) (.op1 .len (.var 4)))))
  (.seq (.ret (.cst (.bl false)))
  .skip)
  (.seq (.expr (.op2 .extend (.var 2) (.comp (.nm 5) (.rng (.op1 .len (.var 4))) (.cst (.bl true)) (.tupE (.cons (.op2 .idx (.var 3) (.var 5)) (.cons (.op2 .idx (.var 4) (.var 5)) .nil))))))
  .skip))
  .skip))
  .skip))
  .skip))
  .skip))
  .skip))
/-- _law_same -/
def F317 : Fn := ⟨2, 6,
  (.seq (.set (.nm 2) (.lstE (.cons (.tupE (.cons (.var 0) (.cons (.var 1) .nil))) .nil)))
  (.seq (.whl (.op2 .gt (.op1 .len (.var 2)) (.cst (.int 0))) B317_1)
  (.seq (.ret (.cst (.bl true)))
  .skip)))⟩

/-- _law_strange -/
def F320 : Fn := ⟨3, 5,
  (.seq (.set (.nm 3) (.call 307 (.cons (.var 0) (.cons (.op1 .len (.var 1)) .nil))))
  (.seq (.set (.nm 4) (.call 308 (.cons (.var 0) (.cons (.lstE (.cons (.op2 .idx (.var 1) (.var 3)) (.cons (.op1 .neg (.cst (.int 1))) (.cons (.cst .non) (.cons (.cst (.bl true)) (.cons (.op1 .str (.op2 .idx (.var 2) (.var 3))) (.cons (.op2 .pow (.cst (.int 10)) (.cst (.int 40))) (.cons (.tupE (.cons (.op2 .idx (.var 2) (.var 3)) .nil)) (.cons (.lstE .nil) .nil))))))))) .nil))))
  (.seq (.ret (.call 308 (.cons (.var 0) (.cons (.lstE (.cons (.op2 .add (.op2 .add (.op2 .slT (.var 2) (.var 3)) (.tupE (.cons (.var 4) .nil))) (.op2 .slF (.var 2) (.op2 .add (.var 3) (.cst (.int 1))))) (.cons (.op1 .toLst (.var 2)) (.cons (.op2 .add (.var 2) (.tupE (.cons (.cst (.int 0)) .nil))) (.cons (.op2 .slT (.var 2) (.op1 .neg (.cst (.int 1)))) (.cons (.cst .non) (.cons (.cst (.int 0)) (.cons (.cst (.str [114, 101, 99, 111, 114, 100])) (.cons (.tupE .nil) .nil))))))))) .nil))))
  .skip)))⟩

def B389_1 : MS := (.seq (.set (.nm 6) (.call 312 (.cons (.var 6) (.cons (.var 7) (.cons (.op2 .idx (.var 5) (.var 7)) .nil)))))
  .skip)
/-- _law_state -/
def F389 : Fn := ⟨5, 8,
  (.seq (.set (.nm 5) (.op2 .idx (.var 1) (.op2 .index (.var 0) (.var 4))))
  (.seq (.set (.nm 6) (.var 4))
  (.seq (.forE (.nm 7) (.op2 .slT (.var 2) (.var 3)) B389_1)
  (.seq (.ret (.var 6))
  .skip))))⟩

def B379_1 : MS := (.seq (.expr (.op2 .extend (.var 3) (.comp (.nm 5) (.rng (.var 0)) (.op2 .nin (.var 5) (.var 4)) (.op2 .add (.var 4) (.tupE (.cons (.var 5) .nil))))))
  .skip)
def B379_2 : MS := (.seq (.set (.nm 3) (.lstE .nil))
  (.seq (.forE (.nm 4) (.var 1) B379_1)
  (.seq (.set (.nm 1) (.var 3))
  .skip)))
/-- _law_orders -/
def F379 : Fn := ⟨1, 6,
  (.seq (.set (.nm 1) (.lstE (.cons (.tupE .nil) .nil)))
  (.seq (.forE (.nm 2) (.rng (.var 0)) B379_2)
  (.seq (.ret (.var 1))
  .skip)))⟩

/-- _law_raised -/
def F390 : Fn := ⟨5, 6,
  (.seq (.tryx (.seq (.ret (.tupE (.cons (.cst (.str [116, 111, 108, 100])) (.cons (.call 388 (.cons (.var 0) (.cons (.var 1) (.cons (.var 2) (.cons (.var 3) (.cons (.var 4) .nil)))))) .nil))))
  .skip)
  [⟨[4], some 5, (.tup (.cons (.cst (.str [98, 97, 100])) (.cons (.fld [(4, 0)]) .nil)))⟩, ⟨[4, 8, 15], none, (.tup (.cons (.cst (.str [111, 116, 104, 101, 114])) .nil))⟩])
  .skip)⟩

/-- _law_wrong_order -/
def F391 : Fn := ⟨2, 4,
  (.seq (.set (.nm 2) (.lstE (.cons (.op1 .toLst (.var 1)) (.cons (.op2 .slT (.var 1) (.op1 .neg (.cst (.int 1)))) (.cons (.op2 .add (.var 1) (.tupE (.cons (.cst (.int 0)) .nil))) (.cons (.op2 .add (.var 1) (.tupE (.cons (.op1 .len (.var 1)) .nil))) (.cons (.op2 .add (.op2 .slT (.var 1) (.op1 .neg (.cst (.int 1)))) (.tupE (.cons (.op1 .len (.var 1)) .nil))) (.cons (.cst .non) (.cons (.cst (.int 0)) (.cons (.cst (.str [111, 114, 100, 101, 114])) (.cons (.tupE .nil) (.cons (.op2 .add (.op2 .slT (.var 1) (.op1 .neg (.cst (.int 1)))) (.tupE (.cons (.op1 .neg (.cst (.int 1))) .nil))) (.cons (.tupE (.cons (.var 1) .nil)) (.cons (.op2 .add (.op2 .slT (.var 1) (.op1 .neg (.cst (.int 1)))) (.tupE (.cons (.cst (.str [48])) .nil))) .nil))))))))))))))
  (.seq (.ite (.op2 .gt (.op1 .len (.var 1)) (.cst (.int 1)))
  (.seq (.set (.nm 2) (.op2 .add (.var 2) (.lstE (.cons (.op2 .add (.op2 .slT (.var 1) (.op1 .neg (.cst (.int 1)))) (.op2 .slT (.var 1) (.cst (.int 1)))) (.cons (.op1 .toTup (.comp (.nm 3) (.var 1) (.cst (.bl true)) (.ite (.op2 .lt (.var 3) (.cst (.int 2))) (.op2 .eq (.var 3) (.cst (.int 1))) (.var 3)))) .nil)))))
  .skip)
  .skip)
  (.seq (.ret (.op2 .idx (.var 2) (.call 307 (.cons (.var 0) (.cons (.op1 .len (.var 2)) .nil)))))
  .skip)))⟩

def B392_1 : MS := (.seq (.ite (.op1 .not (.call 317 (.cons (.call 390 (.cons (.var 1) (.cons (.var 3) (.cons (.var 11) (.cons (.var 12) (.cons (.var 13) .nil)))))) (.cons (.tupE (.cons (.cst (.str [98, 97, 100])) (.cons (.var 14) .nil))) .nil))))
  (.seq (.ret (.cst (.bl false)))
  .skip)
  .skip)
  .skip)
def B392_2 : MS := (.seq (.ite (.op1 .not (.call 317 (.cons (.call 390 (.cons (.var 1) (.cons (.var 3) (.cons (.var 4) (.cons (.var 10) (.cons (.var 5) .nil)))))) (.cons (.tupE (.cons (.cst (.str [116, 111, 108, 100])) (.cons (.call 389 (.cons (.var 2) (.cons (.var 3) (.cons (.var 4) (.cons (.var 10) (.cons (.var 5) .nil)))))) .nil))) .nil))))
  (.seq (.ret (.cst (.bl false)))
  .skip)
  .skip)
  .skip)
def B392_3 : MS := (.seq (.forE (.nm 10) (.tupE (.cons (.call 307 (.cons (.var 0) (.cons (.op2 .add (.op1 .len (.var 1)) (.cst (.int 1))) .nil))) (.cons (.cst (.int 0)) (.cons (.op1 .len (.var 1)) .nil)))) B392_2)
  .skip)
/-- _law_asked -/
def F392 : Fn := ⟨2, 15,
  (.seq (.set (.nm 2) (.call 311 (.cons (.var 1) .nil)))
  (.seq (.set (.nm 3) (.call 328 (.cons (.var 0) (.cons (.var 1) .nil))))
  (.seq (.set (.nm 4) (.call 368 (.cons (.var 0) (.cons (.var 1) .nil))))
  (.seq (.forE (.nm 5) (.tupE (.cons (.call 308 (.cons (.var 0) (.cons (.var 2) .nil))) (.cons (.op2 .idx (.var 2) (.cst (.int 0))) (.cons (.op2 .idx (.var 2) (.op1 .neg (.cst (.int 1)))) .nil)))) B392_3)
  (.seq (.set (.nm 6) (.call 320 (.cons (.var 0) (.cons (.var 1) (.cons (.call 308 (.cons (.var 0) (.cons (.var 2) .nil))) .nil)))))
  (.seq (.set (.nm 7) (.call 391 (.cons (.var 0) (.cons (.var 4) .nil))))
  (.seq (.set (.nm 8) (.call 308 (.cons (.var 0) (.cons (.lstE (.cons (.op2 .add (.op1 .len (.var 1)) (.cst (.int 1))) (.cons (.op1 .neg (.cst (.int 1))) (.cons (.cst (.bl true)) (.cons (.cst .non) (.cons (.cst (.str [48])) (.cons (.op2 .pow (.cst (.int 10)) (.cst (.int 45))) (.cons (.tupE (.cons (.cst (.int 0)) .nil)) (.cons (.cst (.bl false)) .nil))))))))) .nil))))
  (.seq (.set (.tp [5, 10]) (.tupE (.cons (.call 308 (.cons (.var 0) (.cons (.var 2) .nil))) (.cons (.call 307 (.cons (.var 0) (.cons (.op2 .add (.op1 .len (.var 1)) (.cst (.int 1))) .nil))) .nil))))
  (.seq (.set (.nm 9) (.lstE (.cons (.tupE (.cons (.var 4) (.cons (.var 10) (.cons (.var 6) (.cons (.cst (.str [114, 101, 99, 111, 114, 100])) .nil))))) (.cons (.tupE (.cons (.var 7) (.cons (.var 10) (.cons (.var 5) (.cons (.cst (.str [111, 114, 100, 101, 114])) .nil))))) (.cons (.tupE (.cons (.var 4) (.cons (.var 8) (.cons (.var 5) (.cons (.cst (.str [110, 117, 109, 98, 101, 114])) .nil))))) .nil)))))
  (.seq (.set (.nm 9) (.op2 .add (.var 9) (.lstE (.cons (.tupE (.cons (.var 7) (.cons (.var 8) (.cons (.var 6) (.cons (.cst (.str [114, 101, 99, 111, 114, 100])) .nil))))) (.cons (.tupE (.cons (.var 7) (.cons (.var 8) (.cons (.var 5) (.cons (.cst (.str [111, 114, 100, 101, 114])) .nil))))) (.cons (.tupE (.cons (.var 4) (.cons (.var 8) (.cons (.var 6) (.cons (.cst (.str [114, 101, 99, 111, 114, 100])) .nil))))) (.cons (.tupE (.cons (.var 7) (.cons (.var 10) (.cons (.var 6) (.cons (.cst (.str [114, 101, 99, 111, 114, 100])) .nil))))) .nil)))))))
  (.seq (.forE (.tp [11, 12, 13, 14]) (.var 9) B392_1)
  (.seq (.ret (.or (.op2 .gt (.op1 .len (.var 1)) (.cst (.int 5))) (.call 317 (.cons (.call 375 (.cons (.var 1) .nil)) (.cons (.op1 .toTup (.call 379 (.cons (.op1 .len (.var 1)) .nil))) .nil)))))
  .skip))))))))))))⟩

def B393_1 : MS := (.seq (.ite (.op1 .not (.call 392 (.cons (.var 1) (.cons (.call 310 (.cons (.var 1) (.cons (.cst (.int 40)) .nil))) .nil))))
  (.seq (.ret (.cst (.bl false)))
  .skip)
  .skip)
  .skip)
/-- law -/
def F393 : Fn := ⟨1, 7,
  (.seq (.set (.nm 1) (.call 306 (.cons (.var 0) .nil)))
  (.seq (.forE (.nm 2) (.rng (.cst (.int 4))) B393_1)
  (.seq (.set (.nm 3) (.call 307 (.cons (.var 1) (.cons (.cst (.int 13)) .nil))))
  (.seq (.ite (.and (.op2 .eq (.var 3) (.cst (.int 2))) (.op1 .not (.call 392 (.cons (.var 1) (.cons (.call 310 (.cons (.var 1) (.cons (.cst (.int 500)) .nil))) .nil)))))
  (.seq (.ret (.cst (.bl false)))
  .skip)
  .skip)
  (.seq (.ite (.and (.op2 .eq (.var 3) (.cst (.int 11))) (.op1 .not (.call 317 (.cons (.call 375 (.cons (.tupE (.cons (.cst (.int 1)) (.cons (.cst (.int 2)) (.cons (.cst (.int 1)) (.cons (.cst (.int 3)) (.cons (.cst (.int 2)) (.cons (.cst (.int 1)) .nil))))))) .nil)) (.cons (.op1 .toTup (.call 379 (.cons (.cst (.int 6)) .nil))) .nil)))))
  (.seq (.ret (.cst (.bl false)))
  .skip)
  .skip)
  (.seq (.set (.nm 4) (.op1 .toTup (.comp (.nm 6) (.call 311 (.cons (.tupE (.cons (.cst (.int 2)) (.cons (.cst (.int 3)) .nil))) .nil)) (.cst (.bl true)) (.tupE (.cons (.op2 .mod (.op1 .int (.op2 .add (.op2 .idx (.var 6) (.cst (.int 0))) (.op2 .idx (.var 6) (.cst (.int 1))))) (.cst (.int 2))) (.cons (.op2 .mod (.op1 .int (.op2 .add (.op2 .idx (.var 6) (.cst (.int 1))) (.cst (.int 1)))) (.cst (.int 3))) .nil))))))
  (.seq (.set (.nm 5) (.tupE (.cons (.call 388 (.cons (.tupE (.cons (.cst (.int 2)) (.cons (.cst (.int 3)) .nil))) (.cons (.var 4) (.cons (.tupE (.cons (.cst (.int 0)) (.cons (.cst (.int 1)) .nil))) (.cons (.cst (.int 1)) (.cons (.tupE (.cons (.cst (.int 0)) (.cons (.cst (.int 1)) .nil))) .nil)))))) (.cons (.callK 388 [4, 3, 2, 1, 0] (.cons (.tupE (.cons (.cst (.int 0)) (.cons (.cst (.int 1)) .nil))) (.cons (.cst (.int 1)) (.cons (.tupE (.cons (.cst (.int 1)) (.cons (.cst (.int 0)) .nil))) (.cons (.var 4) (.cons (.tupE (.cons (.cst (.int 2)) (.cons (.cst (.int 3)) .nil))) .nil)))))) (.cons (.call 375 (.cons (.tupE (.cons (.cst (.int 12)) .nil)) .nil)) (.cons (.call 375 (.cons (.tupE (.cons (.cst (.int 1)) (.cons (.cst (.int 1)) .nil))) .nil)) .nil))))))
  (.seq (.ret (.call 317 (.cons (.var 5) (.cons (.tupE (.cons (.tupE (.cons (.cst (.int 1)) (.cons (.cst (.int 1)) .nil))) (.cons (.tupE (.cons (.cst (.int 0)) (.cons (.cst (.int 2)) .nil))) (.cons (.tupE (.cons (.tupE (.cons (.cst (.int 0)) .nil)) .nil)) (.cons (.tupE (.cons (.tupE (.cons (.cst (.int 0)) (.cons (.cst (.int 1)) .nil))) (.cons (.tupE (.cons (.cst (.int 1)) (.cons (.cst (.int 0)) .nil))) .nil))) .nil))))) .nil))))
  .skip))))))))⟩

end Mi
end

section
set_option linter.all false
set_option autoImplicit false
/-! Plain1: how a run is reckoned: stores cleaned, loops. -/
namespace Mi
/-! ### stores -/
theorem stable_app (μ g : Sto) : stable μ (μ ++ g) = true := by
  unfold stable
  rw [Bool.and_eq_true]
  refine ⟨by simp, List.all_eq_true.mpr fun k hk => ?_⟩
  have hk' : k < μ.length := List.mem_range.mp hk
  rw [List.getElem?_append_left hk']
  simp
theorem stable_of {μ μ' : Sto} (hl : μ.length ≤ μ'.length) (h : ∀ k, k < μ.length → μ'[k]? = μ[k]? ∨ ∃ c, μ'[k]? = some c ∧ c.under μ.length = true) : stable μ μ' = true := by
  unfold stable
  rw [Bool.and_eq_true]
  refine ⟨by simpa using hl, List.all_eq_true.mpr fun k hk => ?_⟩
  rcases h k (List.mem_range.mp hk) with e | ⟨c, e, hc⟩
  · rw [e]; simp
  · rw [e]; simp [hc]
theorem clean_take {μ μ' : Sto} {v : Val} (h : stable μ μ' = true) (hv : v.under μ.length = true) : clean μ v μ' = (v, μ'.take μ.length) := by
  unfold clean
  rw [if_pos h, if_pos hv]
theorem clean_new {μ μ' : Sto} {k : Nat} {xs : List Val} (h : stable μ μ' = true) (hk : μ.length ≤ k) (e : μ'[k]? = some (.lst xs)) (hx : underAll μ.length xs = true) : clean μ (.ref k) μ' = (.ref μ.length, μ'.take μ.length ++ [.lst xs]) := by
  unfold clean
  rw [if_pos h, if_neg (by simp [Val.under]; exact hk)]
  simp only [e]
  rw [if_pos (by rw [hx, decide_eq_true hk]; rfl)]
theorem stable_self (μ : Sto) : stable μ μ = true := by
  have := stable_app μ []
  rwa [List.append_nil] at this
theorem clean_same (v : Val) (μ : Sto) : clean μ v μ = (v, μ) := by
  unfold clean
  rw [if_pos (stable_self μ)]
  by_cases hu : v.under μ.length = true
  · rw [if_pos hu, List.take_length]
  · rw [if_neg hu]
    cases v with
    | ref k =>
      have hk : μ[k]? = none := by
        rw [List.getElem?_eq_none_iff]
        rw [Val.under] at hu
        simpa using hu
      simp only [hk]
    | _ => rfl
theorem clean_app {μ g : Sto} {v : Val} (hv : v.under μ.length = true) : clean μ v (μ ++ g) = (v, μ) := by
  rw [clean_take (stable_app μ g) hv, List.take_left']
  rfl
theorem cleanO_same (v : Val) (μ : Sto) : cleanO μ (.ok v μ) = .ok v μ := by
  show Out.ok (clean μ v μ).1 (clean μ v μ).2 = _
  rw [clean_same]
theorem cleanO_app {μ g : Sto} {v : Val} (hv : v.under μ.length = true) : cleanO μ (.ok v (μ ++ g)) = .ok v μ := by
  show Out.ok (clean μ v (μ ++ g)).1 (clean μ v (μ ++ g)).2 = _
  rw [clean_app hv]
theorem cleanO_take {μ μ' : Sto} {v : Val} (h : stable μ μ' = true) (hv : v.under μ.length = true) : cleanO μ (.ok v μ') = .ok v (μ'.take μ.length) := by
  show Out.ok (clean μ v μ').1 (clean μ v μ').2 = _
  rw [clean_take h hv]
theorem cleanO_new {μ μ' : Sto} {k : Nat} {xs : List Val} (h : stable μ μ' = true) (hk : μ.length ≤ k) (e : μ'[k]? = some (.lst xs)) (hx : underAll μ.length xs = true) : cleanO μ (.ok (.ref k) μ') = .ok (.ref μ.length) (μ'.take μ.length ++ [.lst xs]) := by
  show Out.ok (clean μ (.ref k) μ').1 (clean μ (.ref k) μ').2 = _
  rw [clean_new h hk e hx]
theorem cleanO_exc_same (c : Nat) (fs : List Val) (μ : Sto) : cleanO μ (.exc c fs μ) = .exc c fs μ := by
  show (if _ then Out.exc c fs (μ.take μ.length) else .exc c fs μ) = _
  rw [List.take_length]
  split <;> rfl
/-- a list of values that speak of no cell -/
def scl : Val → Bool
  | .ref _ => false
  | .tup _ => false
  | _ => true
theorem scl_under {v : Val} {n : Nat} (h : scl v = true) : v.under n = true := by
  cases v <;> first | rfl | cases h
mutual
/-- no cell within -/
def Val.nor : Val → Bool
  | .ref _ => false
  | .tup vs => nors vs
  | _ => true
def nors : List Val → Bool
  | [] => true
  | v :: vs => v.nor && nors vs
end
mutual
theorem nor_under {n : Nat} : ∀ (v : Val), v.nor = true → v.under n = true
  | .ref _, h => by simp [Val.nor] at h
  | .tup vs, h => by rw [Val.under]; exact nors_under vs (by rw [Val.nor] at h; exact h)
  | .non, _ => by rfl
  | .bl _, _ => by rfl
  | .int _, _ => by rfl
  | .str _, _ => by rfl
  | .scr _, _ => by rfl
  | .zp .., _ => by rfl
theorem nors_under {n : Nat} : ∀ (vs : List Val), nors vs = true → underAll n vs = true
  | [], _ => by rfl
  | v :: vs, h => by
    rw [nors, Bool.and_eq_true] at h
    rw [underAll, Bool.and_eq_true]
    exact ⟨nor_under v h.1, nors_under vs h.2⟩
end
theorem nors_of : ∀ {vs : List Val}, (∀ v ∈ vs, v.nor = true) → nors vs = true
  | [], _ => rfl
  | v :: vs, h => by
    rw [nors, Bool.and_eq_true]
    exact ⟨h v (List.mem_cons_self ..), nors_of fun w hw => h w (List.mem_cons_of_mem _ hw)⟩
theorem nors_mem : ∀ {vs : List Val}, nors vs = true → ∀ v ∈ vs, v.nor = true
  | w :: vs, h, v, hv => by
    rw [nors, Bool.and_eq_true] at h
    rcases List.mem_cons.mp hv with e | hv
    · rw [e]; exact h.1
    · exact nors_mem h.2 v hv
theorem nors_ints (ns : List Int) : nors (ns.map .int) = true := nors_of fun v hv => by
  obtain ⟨i, _, rfl⟩ := List.mem_map.mp hv
  rfl
theorem nor_tup {vs : List Val} (h : ∀ v ∈ vs, v.nor = true) : (Val.tup vs).nor = true := by
  rw [Val.nor]; exact nors_of h
theorem under_mono {n m : Nat} (h : n ≤ m) : ∀ (v : Val), v.under n = true → v.under m = true := fun v => (under_mono' h).1 v
where
  under_mono' {n m : Nat} (h : n ≤ m) : (∀ v : Val, v.under n = true → v.under m = true) ∧ (∀ vs : List Val, underAll n vs = true → underAll m vs = true) := by
    have key : ∀ k : Nat, (∀ v : Val, sizeOf v ≤ k → v.under n = true → v.under m = true) ∧ (∀ vs : List Val, sizeOf vs ≤ k → underAll n vs = true → underAll m vs = true) := by
      intro k
      induction k with
      | zero =>
        refine ⟨fun v hv => ?_, fun vs hv => ?_⟩
        · cases v <;> simp at hv
        · cases vs <;> simp at hv
      | succ k ih =>
        refine ⟨fun v hv hu => ?_, fun vs hv hu => ?_⟩
        · cases v with
          | ref i => rw [Val.under] at hu ⊢; simp at hu ⊢; omega
          | tup vs => rw [Val.under] at hu ⊢; exact ih.2 vs (by simp at hv; omega) hu
          | _ => rfl
        · cases vs with
          | nil => rfl
          | cons v vs =>
            rw [underAll, Bool.and_eq_true] at hu ⊢
            simp at hv
            exact ⟨ih.1 v (by omega) hu.1, ih.2 vs (by omega) hu.2⟩
    exact ⟨fun v => (key (sizeOf v)).1 v (Nat.le_refl _), fun vs => (key (sizeOf vs)).2 vs (Nat.le_refl _)⟩

/-! ### runs -/
theorem run_succ {P : Nat → Option Fn} {n k : Nat} {d : Fn} (h : P k = some d) (vs : List Val) (μ : Sto) (hl : vs.length = d.params) : run P (n + 1) k vs μ = cleanO μ (fin (ex (run P n) d.body (enter d vs) μ)) := by
  rw [run, h]
  simp only []
  rw [if_pos hl]

/-! ### loops -/
section
variable {bind : Val → Loc → Option Loc} {body : Loc → Sto → OS} {src : Val} {all : List Val}
theorem forL_step {x : Val} {xs : List Val} {ρ ρ1 ρ2 : Loc} {μ μ2 : Sto} (hb : bind x ρ = some ρ1) (he : body ρ1 μ = .nx ρ2 μ2) (hg : guard src all μ2 = true) : forL bind body src all (x :: xs) ρ μ = forL bind body src all xs ρ2 μ2 := by
  rw [forL, hb]
  simp [he, hg]
/-- a walk to its end -/
theorem forL_all {I : Nat → Loc → Sto → Prop} : ∀ {xs : List Val} {i : Nat} {ρ : Loc} {μ : Sto}, I i ρ μ →
    (∀ j x ρ μ, xs[j]? = some x → I (i + j) ρ μ → ∃ ρ1 ρ2 μ2, bind x ρ = some ρ1 ∧ (body ρ1 μ = .nx ρ2 μ2 ∨ body ρ1 μ = .cnt ρ2 μ2) ∧ guard src all μ2 = true ∧ I (i + j + 1) ρ2 μ2) →
    ∃ ρ' μ', forL bind body src all xs ρ μ = .nx ρ' μ' ∧ I (i + xs.length) ρ' μ'
  | [], i, ρ, μ, h, _ => ⟨ρ, μ, rfl, h⟩
  | x :: xs, i, ρ, μ, h, hs => by
    obtain ⟨ρ1, ρ2, μ2, hb, he, hg, hi⟩ := hs 0 x ρ μ rfl h
    have e : forL bind body src all (x :: xs) ρ μ = forL bind body src all xs ρ2 μ2 := by
      rw [forL, hb]
      rcases he with he | he <;> simp [he, hg]
    rw [e]
    obtain ⟨ρ', μ', e', h'⟩ := forL_all (xs := xs) (i := i + 1) hi (fun j y ρ μ hy hI => by
      have := hs (j + 1) y ρ μ hy (by rw [show i + (j + 1) = i + 1 + j by omega]; exact hI)
      rw [show i + (j + 1) + 1 = i + 1 + j + 1 by omega] at this
      exact this)
    exact ⟨ρ', μ', e', by rw [List.length_cons, show i + (xs.length + 1) = i + 1 + xs.length by omega]; exact h'⟩
/-- a walk that one turn ends -/
theorem forL_to {I : Nat → Loc → Sto → Prop} {r : OS} : ∀ {xs : List Val} {i k : Nat} {y : Val} {ρ : Loc} {μ : Sto}, I i ρ μ → xs[k]? = some y →
    (∀ j x ρ μ, j < k → xs[j]? = some x → I (i + j) ρ μ → ∃ ρ1 ρ2 μ2, bind x ρ = some ρ1 ∧ (body ρ1 μ = .nx ρ2 μ2 ∨ body ρ1 μ = .cnt ρ2 μ2) ∧ guard src all μ2 = true ∧ I (i + j + 1) ρ2 μ2) →
    (∀ ρ μ, I (i + k) ρ μ → ∃ ρ1, bind y ρ = some ρ1 ∧ ∀ kk, (body ρ1 μ).turn kk = r) → forL bind body src all xs ρ μ = r
  | [], _, k, y, _, _, _, hy, _, _ => by simp at hy
  | x :: xs, i, 0, y, ρ, μ, h, hy, _, hl => by
    cases (show some x = some y from hy)
    obtain ⟨ρ1, hb, he⟩ := hl ρ μ h
    rw [forL, hb]
    exact he _
  | x :: xs, i, k + 1, y, ρ, μ, h, hy, hs, hl => by
    obtain ⟨ρ1, ρ2, μ2, hb, he, hg, hi⟩ := hs 0 x ρ μ (by omega) rfl h
    have e : forL bind body src all (x :: xs) ρ μ = forL bind body src all xs ρ2 μ2 := by
      rw [forL, hb]
      rcases he with he | he <;> simp [he, hg]
    rw [e]
    refine forL_to (xs := xs) (i := i + 1) (k := k) hi hy (fun j y ρ μ hj hy hI => ?_) (fun ρ μ hI => hl ρ μ (by rw [show i + (k + 1) = i + 1 + k by omega]; exact hI))
    have := hs (j + 1) y ρ μ (by omega) hy (by rw [show i + (j + 1) = i + 1 + j by omega]; exact hI)
    rw [show i + (j + 1) + 1 = i + 1 + j + 1 by omega] at this
    exact this
end
/-- a while, its measure falling -/
theorem whl_all {c : Loc → Sto → Out Val} {body : Loc → Sto → OS} {I : Loc → Sto → Prop} (ms : Loc → Sto → Nat) (hs : ∀ ρ μ, I ρ μ → (∃ μ1, c ρ μ = .ok (.bl false) μ1 ∧ μ1 = μ) ∨ (∃ ρ2 μ2, c ρ μ = .ok (.bl true) μ ∧ (body ρ μ = .nx ρ2 μ2 ∨ body ρ μ = .cnt ρ2 μ2) ∧ I ρ2 μ2 ∧ ms ρ2 μ2 < ms ρ μ)) :
    ∀ {n : Nat} {ρ : Loc} {μ : Sto}, I ρ μ → ms ρ μ < n → ∃ ρ' μ', whlN c body n ρ μ = .nx ρ' μ' ∧ I ρ' μ' ∧ c ρ' μ' = .ok (.bl false) μ'
  | 0, _, _, _, h => by omega
  | n + 1, ρ, μ, hi, hn => by
    rcases hs ρ μ hi with ⟨μ1, e, rfl⟩ | ⟨ρ2, μ2, e, he, h2, hm⟩
    · exact ⟨ρ, μ1, by rw [whlN, e]; rfl, hi, e⟩
    · obtain ⟨ρ', μ', e', h'⟩ := whl_all ms hs (n := n) h2 (by omega)
      refine ⟨ρ', μ', ?_, h'⟩
      rw [whlN, e]
      rcases he with he | he <;> simp [he, e']
/-- a comprehension that changes nothing -/
theorem compL_map {bind : Val → Option Loc} {cond elt : Loc → Sto → Out Val} {src : Val} {all : List Val} {g : Val → Val} {μ : Sto} (hg : guard src all μ = true) : ∀ {xs : List Val}, (∀ x ∈ xs, ∃ ρ, bind x = some ρ ∧ cond ρ μ = .ok (.bl true) μ ∧ elt ρ μ = .ok (g x) μ) → compL bind cond elt src all xs μ = .ok (xs.map g) μ
  | [], _ => rfl
  | x :: xs, h => by
    obtain ⟨ρ, h1, h2, h3⟩ := h x (List.mem_cons_self ..)
    rw [compL, h1]
    simp only [h2, h3, hg, if_true]
    rw [compL_map hg fun y hy => h y (List.mem_cons_of_mem _ hy)]
    rfl
theorem rng_at {n i : Nat} {x : Val} (h : ((List.range n).map fun i => Val.int (i : Nat))[i]? = some x) : i < n ∧ x = .int i := by
  rw [List.getElem?_map] at h
  by_cases hi : i < n
  · rw [List.getElem?_range hi] at h
    cases h
    exact ⟨hi, rfl⟩
  · rw [List.getElem?_eq_none (by simpa using hi)] at h
    cases h
end Mi
end

section
set_option linter.all false
set_option autoImplicit false
/-! Plain2: the rules of reckoning, for simp. -/
namespace Mi
section
variable {C : CallF} {ρ : Loc} {μ : Sto}
@[simp] theorem ev_var (i : Nat) : ev C (.var i) ρ μ = (match ρ[i]? with
    | some (some v) => .ok v μ
    | _ => .fail) := rfl
@[simp] theorem ev_cst (v : Val) : ev C (.cst v) ρ μ = .ok v μ := rfl
@[simp] theorem ev_nil : ev C .nil ρ μ = .ok (.tup []) μ := rfl
@[simp] theorem ev_cons (a b : ME) : ev C (.cons a b) ρ μ = (ev C a ρ μ).bind fun x μ1 => (ev C b ρ μ1).bind fun ys μ2 => match ys with
    | .tup vs => .ok (.tup (x :: vs)) μ2
    | _ => .fail := rfl
@[simp] theorem ev_tupE (a : ME) : ev C (.tupE a) ρ μ = ev C a ρ μ := rfl
@[simp] theorem ev_lstE (a : ME) : ev C (.lstE a) ρ μ = (ev C a ρ μ).bind fun ys μ1 => match ys with
    | .tup vs => newLst vs μ1
    | _ => .fail := rfl
@[simp] theorem ev_op1 (o : O1) (a : ME) : ev C (.op1 o a) ρ μ = (ev C a ρ μ).bind fun x μ1 => sem1 o x μ1 := rfl
@[simp] theorem ev_op2 (o : O2) (a b : ME) : ev C (.op2 o a b) ρ μ = (ev C a ρ μ).bind fun x μ1 => if pre2 o x μ1 then (ev C b ρ μ1).bind fun y μ2 => sem2 o x y μ2 else .fail := rfl
@[simp] theorem ev_op3 (o : O3) (a b c : ME) : ev C (.op3 o a b c) ρ μ = (ev C a ρ μ).bind fun x μ1 => if pre2' o x μ1 then (ev C b ρ μ1).bind fun y μ2 => if pre3 o y then (ev C c ρ μ2).bind fun z μ3 => sem3 o x y z μ3 else .fail else .fail := rfl
@[simp] theorem ev_and (a b : ME) : ev C (.and a b) ρ μ = (ev C a ρ μ).bind fun x μ1 => match x with
    | .bl true => ev C b ρ μ1
    | .bl false => .ok (.bl false) μ1
    | _ => .fail := rfl
@[simp] theorem ev_or (a b : ME) : ev C (.or a b) ρ μ = (ev C a ρ μ).bind fun x μ1 => match x with
    | .bl true => .ok (.bl true) μ1
    | .bl false => ev C b ρ μ1
    | _ => .fail := rfl
@[simp] theorem ev_ite (c a b : ME) : ev C (.ite c a b) ρ μ = (ev C c ρ μ).bind fun x μ1 => match x with
    | .bl true => ev C a ρ μ1
    | .bl false => ev C b ρ μ1
    | _ => .fail := rfl
@[simp] theorem ev_chain (o o' : O2) (a b c : ME) : ev C (.chain o o' a b c) ρ μ = (ev C a ρ μ).bind fun x μ1 => (ev C b ρ μ1).bind fun y μ2 => (sem2 o x y μ2).bind fun r μ3 => match r with
    | .bl true => (ev C c ρ μ3).bind fun z μ4 => sem2 o' y z μ4
    | .bl false => .ok (.bl false) μ3
    | _ => .fail := rfl
@[simp] theorem ev_call (k : Nat) (a : ME) : ev C (.call k a) ρ μ = (ev C a ρ μ).bind fun ys μ1 => match ys with
    | .tup vs => C k vs μ1
    | _ => .fail := rfl
@[simp] theorem ev_callK (k : Nat) (perm : List Nat) (a : ME) : ev C (.callK k perm a) ρ μ = (ev C a ρ μ).bind fun ys μ1 => match ys with
    | .tup vs => C k (pick perm vs) μ1
    | _ => .fail := rfl
@[simp] theorem ev_rng (a : ME) : ev C (.rng a) ρ μ = (ev C a ρ μ).bind fun x μ1 => match x with
    | .int j => if -LIM ≤ j ∧ j ≤ LIM then .ok (.tup ((List.range j.toNat).map fun i => .int (i : Nat))) μ1 else .fail
    | _ => .fail := rfl
@[simp] theorem ev_rng2 (a b : ME) : ev C (.rng2 a b) ρ μ = (ev C a ρ μ).bind fun x μ1 => (ev C b ρ μ1).bind fun y μ2 => match x, y with
    | .int i, .int j => if -LIM ≤ i ∧ i ≤ LIM ∧ j ≤ LIM ∧ -LIM ≤ j then .ok (.tup ((List.range (j - i).toNat).map fun k => .int (i + (k : Nat)))) μ2 else .fail
    | _, _ => .fail := rfl
@[simp] theorem ev_rng3 (a : ME) : ev C (.rng3 a) ρ μ = (ev C a ρ μ).bind fun ys μ1 => match ys with
    | .tup vs => rng3 vs μ1
    | _ => .fail := rfl
@[simp] theorem ev_dct (t : Bool) (ks : List Val) (a : ME) : ev C (.dct t ks a) ρ μ = (ev C a ρ μ).bind fun ys μ1 => match ys with
    | .tup vs => if vs.length = ks.length ∧ ks.all (keyOk t) ∧ (t = true → ks = []) then .ok (.ref μ1.length) (μ1 ++ [.dict t (dputs [] (ks.zip vs))]) else .fail
    | _ => .fail := rfl
@[simp] theorem ev_lstR (t : Bool) (a : ME) : ev C (.lstR t a) ρ μ = (ev C a ρ μ).bind fun x μ1 => match x with
    | .int j => if -LIM ≤ j ∧ j ≤ LIM then (if t then .ok (.tup ((List.range j.toNat).map fun i => .int (i : Nat))) μ1 else newLst ((List.range j.toNat).map fun i => .int (i : Nat)) μ1) else .fail
    | _ => .fail := rfl
@[simp] theorem ev_zip (a b : ME) : ev C (.zip a b) ρ μ = (ev C a ρ μ).bind fun x μ1 => (ev C b ρ μ1).bind fun y μ2 => match x, y with
    | .tup xs, .tup ys => .ok (.zp x y xs ys) μ2
    | _, _ => match lItems μ2 x, lItems μ2 y with
      | some xs, some ys => .ok (.zp x y xs ys) μ2
      | _, _ => .fail := rfl
@[simp] theorem ev_comp (tg : MT) (it cond elt : ME) : ev C (.comp tg it cond elt) ρ μ = (ev C it ρ μ).bind fun src μ1 => match items μ1 src with
    | some xs => if xs.length ≤ LIM then (compL (fun v => bindT tg v ρ) (ev C cond) (ev C elt) src xs xs μ1).bind fun ys μ2 => newLst ys μ2 else .fail
    | none => .fail := rfl
@[simp] theorem ex_skip : ex C .skip ρ μ = .nx ρ μ := rfl
@[simp] theorem ex_seq (a b : MS) : ex C (.seq a b) ρ μ = (ex C a ρ μ).then fun ρ1 μ1 => ex C b ρ1 μ1 := rfl
@[simp] theorem ex_set (tg : MT) (e : ME) : ex C (.set tg e) ρ μ = (ev C e ρ μ).on ρ fun v μ1 => match bindT tg v ρ with
    | some ρ1 => .nx ρ1 μ1
    | none => .fail := rfl
@[simp] theorem ex_put (a b e : ME) : ex C (.put a b e) ρ μ = (ev C e ρ μ).on ρ fun v μ1 => (ev C a ρ μ1).on ρ fun o μ2 => (ev C b ρ μ2).on ρ fun i μ3 => match setItem o i v μ3 with
    | some μ4 => .nx ρ μ4
    | none => .fail := rfl
@[simp] theorem ex_aug (i : Nat) (o : O2) (e : ME) : ex C (.aug i o e) ρ μ = (match ρ[i]? with
    | some (some x) => (ev C e ρ μ).on ρ fun v μ1 => (match x, v with
      | .int a, .int b => (match o with
        | .add => .nx (ρ.set i (some (.int (a + b)))) μ1
        | .sub => .nx (ρ.set i (some (.int (a - b)))) μ1
        | _ => .fail)
      | _, _ => .fail)
    | _ => .fail) := rfl
@[simp] theorem ex_expr (e : ME) : ex C (.expr e) ρ μ = (ev C e ρ μ).on ρ fun _ μ1 => .nx ρ μ1 := rfl
@[simp] theorem ex_ret (e : ME) : ex C (.ret e) ρ μ = (ev C e ρ μ).on ρ fun v μ1 => .ret v μ1 := rfl
@[simp] theorem ex_ite (c : ME) (a b : MS) : ex C (.ite c a b) ρ μ = (ev C c ρ μ).on ρ fun v μ1 => match v with
    | .bl true => ex C a ρ μ1
    | .bl false => ex C b ρ μ1
    | _ => .fail := rfl
@[simp] theorem ex_whl (c : ME) (b : MS) : ex C (.whl c b) ρ μ = whlN (ev C c) (ex C b) FUEL ρ μ := rfl
@[simp] theorem ex_for (tg : MT) (it : ME) (b : MS) : ex C (.forE tg it b) ρ μ = (ev C it ρ μ).on ρ fun src μ1 => match items μ1 src with
    | some xs => forL (bindT tg) (ex C b) src xs xs ρ μ1
    | none => .fail := rfl
@[simp] theorem ex_raise (c : Nat) (a : ME) : ex C (.raise c a) ρ μ = (ev C a ρ μ).on ρ fun v μ1 => match v with
    | .tup fs => .exc c fs ρ μ1
    | _ => .fail := rfl
@[simp] theorem ex_try (b : MS) (hs : List HC) : ex C (.tryx b hs) ρ μ = (match ex C b ρ μ with
    | .exc c fs ρ1 μ1 => handle c fs ρ1 μ1 hs
    | r => r) := rfl
@[simp] theorem ex_brk : ex C .brk ρ μ = .brk ρ μ := rfl
@[simp] theorem ex_cnt : ex C .cnt ρ μ = .cnt ρ μ := rfl
@[simp] theorem bindT_nm (i : Nat) (v : Val) : bindT (.nm i) v ρ = some (ρ.set i (some v)) := rfl
@[simp] theorem bindT_tp (is : List Nat) (vs : List Val) : bindT (.tp is) (.tup vs) ρ = if vs.length = is.length then some (setAll is vs ρ) else none := rfl
@[simp] theorem setAll_cons (i : Nat) (is : List Nat) (v : Val) (vs : List Val) : setAll (i :: is) (v :: vs) ρ = setAll is vs (ρ.set i (some v)) := rfl
@[simp] theorem setAll_nil : setAll [] [] ρ = ρ := rfl
@[simp] theorem fin_nx : fin (.nx ρ μ) = .ok .non μ := rfl
@[simp] theorem fin_ret (v : Val) : fin (.ret v μ) = .ok v μ := rfl
@[simp] theorem fin_exc (c : Nat) (fs : List Val) : fin (.exc c fs ρ μ) = .exc c fs μ := rfl
@[simp] theorem items_tup (vs : List Val) : items μ (.tup vs) = some vs := rfl
@[simp] theorem items_scr (ns : List Int) : items μ (.scr ns) = some (ns.map .int) := rfl
@[simp] theorem items_ref (n : Nat) : items μ (.ref n) = (match μ[n]? with
    | some (.lst vs) => some vs
    | _ => none) := rfl
@[simp] theorem guard_tup (vs xs : List Val) : guard (.tup vs) xs μ = true := rfl
@[simp] theorem guard_scr (vs : List Int) (xs : List Val) : guard (.scr vs) xs μ = true := rfl
/-! pre2 -/
@[simp] theorem pre_app (n : Nat) : pre2 .append (.ref n) μ = (match μ[n]? with
      | some (.lst _) => true
      | _ => false) := rfl
@[simp] theorem pre_ext (n : Nat) : pre2 .extend (.ref n) μ = (match μ[n]? with
      | some (.lst _) => true
      | _ => false) := rfl
@[simp] theorem pre_popAt (n : Nat) : pre2 .popAt (.ref n) μ = (match μ[n]? with
      | some (.lst _) => true
      | _ => false) := rfl
@[simp] theorem pre_index (n : Nat) : pre2 .index (.ref n) μ = (match μ[n]? with
      | some (.lst _) => true
      | _ => false) := rfl
@[simp] theorem pre_add (v : Val) : pre2 .add v μ = true := rfl
@[simp] theorem pre_sub (v : Val) : pre2 .sub v μ = true := rfl
@[simp] theorem pre_mul (v : Val) : pre2 .mul v μ = true := rfl
@[simp] theorem pre_fdiv (v : Val) : pre2 .fdiv v μ = true := rfl
@[simp] theorem pre_mod (v : Val) : pre2 .mod v μ = true := rfl
@[simp] theorem pre_pow (v : Val) : pre2 .pow v μ = true := rfl
@[simp] theorem pre_shl (v : Val) : pre2 .shl v μ = true := rfl
@[simp] theorem pre_eq (v : Val) : pre2 .eq v μ = true := rfl
@[simp] theorem pre_ne (v : Val) : pre2 .ne v μ = true := rfl
@[simp] theorem pre_lt (v : Val) : pre2 .lt v μ = true := rfl
@[simp] theorem pre_le (v : Val) : pre2 .le v μ = true := rfl
@[simp] theorem pre_gt (v : Val) : pre2 .gt v μ = true := rfl
@[simp] theorem pre_ge (v : Val) : pre2 .ge v μ = true := rfl
@[simp] theorem pre_inn (v : Val) : pre2 .inn v μ = true := rfl
@[simp] theorem pre_nin (v : Val) : pre2 .nin v μ = true := rfl
@[simp] theorem pre_idx (v : Val) : pre2 .idx v μ = true := rfl
@[simp] theorem pre_min (v : Val) : pre2 .min2 v μ = true := rfl
@[simp] theorem pre_max (v : Val) : pre2 .max2 v μ = true := rfl
@[simp] theorem pre_slF (v : Val) : pre2 .slF v μ = true := rfl
@[simp] theorem pre_slT (v : Val) : pre2 .slT v μ = true := rfl
@[simp] theorem pre_rev (v : Val) : pre2 .rev v μ = true := rfl
@[simp] theorem pre_get1 (v : Val) : pre2 .get1 v μ = (dictAt μ v).isSome := rfl
@[simp] theorem pre2'_sl (v : Val) : pre2' .slice v μ = true := rfl
@[simp] theorem pre2'_get2 (v : Val) : pre2' .get2 v μ = (dictAt μ v).isSome := rfl
@[simp] theorem pre2'_setd (v : Val) : pre2' .setd v μ = (dictAt μ v).isSome := rfl
@[simp] theorem pre3_get2 (v : Val) : pre3 .get2 v = true := rfl
@[simp] theorem pre3_setd (v : Val) : pre3 .setd v = true := rfl
theorem dictAt_of {n : Nat} {t : Bool} {kvs : List (Val × Val)} (h : μ[n]? = some (.dict t kvs)) : dictAt μ (.ref n) = some (t, kvs) := by simp [dictAt, h]
@[simp] theorem pre3_i (i : Int) : pre3 .slice (.int i) = true := rfl
/-! operations -/
@[simp] theorem s_neg (i : Int) : sem1 .neg (.int i) μ = .ok (.int (-i)) μ := rfl
@[simp] theorem s_not (b : Bool) : sem1 .not (.bl b) μ = .ok (.bl (!b)) μ := rfl
@[simp] theorem s_lent (vs : List Val) : sem1 .len (.tup vs) μ = .ok (.int vs.length) μ := rfl
@[simp] theorem s_lens (ns : List Int) : sem1 .len (.scr ns) μ = .ok (.int ns.length) μ := by show (Out.ok (Val.int (((ns.map Val.int).length : Nat) : Int)) μ : Out Val) = _; rw [List.length_map]
@[simp] theorem s_lenr (n : Nat) : sem1 .len (.ref n) μ = (match μ[n]? with
      | some (.lst vs) => .ok (.int vs.length) μ
      | some (.dict _ kvs) => .ok (.int kvs.length) μ
      | _ => .fail) := by
  cases h : μ[n]? with
  | none => simp [sem1, lenL, dictAt, items, h]
  | some c => cases c <;> simp [sem1, lenL, dictAt, items, h]
@[simp] theorem s_sumt (vs : List Val) : sem1 .sum (.tup vs) μ = (match asInts vs with
      | some ns => .ok (.int ns.sum) μ
      | none => .fail) := rfl
@[simp] theorem s_pop (n : Nat) : sem1 .pop (.ref n) μ = (match μ[n]? with
      | some (.lst vs) => match vs.getLast? with
        | some v => .ok v (μ.set n (.lst vs.dropLast))
        | none => .fail
      | _ => .fail) := rfl
@[simp] theorem s_abs (i : Int) : sem1 .abs (.int i) μ = .ok (.int (if i < 0 then -i else i)) μ := rfl
@[simp] theorem s_inti (i : Int) : sem1 .int (.int i) μ = .ok (.int i) μ := rfl
@[simp] theorem s_intb (b : Bool) : sem1 .int (.bl b) μ = .ok (.int (if b then 1 else 0)) μ := rfl
@[simp] theorem s_tupt (vs : List Val) : sem1 .toTup (.tup vs) μ = .ok (.tup vs) μ := rfl
@[simp] theorem s_tupr (n : Nat) : sem1 .toTup (.ref n) μ = (match items μ (.ref n) with
      | some vs => .ok (.tup vs) μ
      | none => .fail) := rfl
@[simp] theorem s_lstt (vs : List Val) : sem1 .toLst (.tup vs) μ = newLst vs μ := rfl
@[simp] theorem s_lstr (n : Nat) : sem1 .toLst (.ref n) μ = (match items μ (.ref n) with
      | some vs => newLst vs μ
      | none => .fail) := rfl
@[simp] theorem s_isN (v : Val) : sem1 .isN v μ = .ok (.bl (decide (v = .non))) μ := rfl
@[simp] theorem s_notN (v : Val) : sem1 .notN v μ = .ok (.bl (!decide (v = .non))) μ := rfl
@[simp] theorem s_isi (v : Val) (ts : List Ty) : sem1 (.isi ts) v μ = (match isTys μ v ts with
    | some b => .ok (.bl b) μ
    | none => .fail) := rfl
theorem isTys1 (v : Val) (t : Ty) : isTys μ v [t] = isTy μ v t := by
  unfold isTys
  cases isTy μ v t with
  | none => rfl
  | some b => cases b <;> rfl
@[simp] theorem s_addi (i j : Int) : sem2 .add (.int i) (.int j) μ = .ok (.int (i + j)) μ := rfl
@[simp] theorem s_revt (xs : List Val) : sem2 .rev (.tup xs) (.int (-1)) μ = .ok (.tup xs.reverse) μ := rfl
theorem s_revr {n : Nat} {xs : List Val} (h : μ[n]? = some (.lst xs)) : sem2 .rev (.ref n) (.int (-1)) μ = newLst xs.reverse μ := by
  show ((match μ[n]? with
    | some (.lst xs) => newLst xs.reverse μ
    | _ => .fail) : Out Val) = _
  simp only [h]
theorem s_lsett {vs : List Val} {ns : List Int} (h : asInts vs = some ns) (h2 : ns.length ≤ 4000) : sem1 .lset (.tup vs) μ = .ok (.int (dlen ns)) μ := by
  show ((match asInts vs with
    | some ns => if ns.length ≤ 4000 then .ok (.int (dlen ns)) μ else .fail
    | none => .fail) : Out Val) = _
  simp only [h, if_pos h2]
theorem s_eqr {m n : Nat} {xs ys : List Val} (h1 : μ[m]? = some (.lst xs)) (h2 : μ[n]? = some (.lst ys)) (h : (plains 50 xs && plains 50 ys) = true) : sem2 .eq (.ref m) (.ref n) μ = .ok (.bl (eqvs xs ys)) μ := by
  show ((match μ[m]?, μ[n]? with
    | some (.lst xs), some (.lst ys) => if plains 50 xs && plains 50 ys then .ok (.bl (if false then !eqvs xs ys else eqvs xs ys)) μ else .fail
    | _, _ => .fail) : Out Val) = _
  simp only [h1, h2, if_pos h]
  rfl
theorem s_addt {xs ys : List Val} (h : xs.length + ys.length ≤ LIM) : sem2 .add (.tup xs) (.tup ys) μ = .ok (.tup (xs ++ ys)) μ := if_pos h
theorem s_adds {xs ys : List Nat} (h : xs.length + ys.length ≤ LIM) : sem2 .add (.str xs) (.str ys) μ = .ok (.str (xs ++ ys)) μ := if_pos h
theorem s_addr {n m : Nat} {xs ys : List Val} (h1 : μ[n]? = some (.lst xs)) (h2 : μ[m]? = some (.lst ys)) (h : xs.length + ys.length ≤ LIM) : sem2 .add (.ref n) (.ref m) μ = newLst (xs ++ ys) μ := by
  show (match μ[n]?, μ[m]? with
      | some (.lst xs), some (.lst ys) => if xs.length + ys.length ≤ LIM then newLst (xs ++ ys) μ else .fail
      | _, _ => .fail) = _
  rw [h1, h2]
  exact if_pos h
@[simp] theorem s_subi (i j : Int) : sem2 .sub (.int i) (.int j) μ = .ok (.int (i - j)) μ := rfl
theorem s_muli {i j : Int} (h : i.natAbs < 340282366920938463463374607431768211456) (h' : j.natAbs < 340282366920938463463374607431768211456) : sem2 .mul (.int i) (.int j) μ = .ok (.int (i * j)) μ := by
  refine if_pos ?_
  have h1 : ∀ n : Nat, n < 340282366920938463463374607431768211456 → n.log2 < 128 := fun n hn => by
    by_cases h0 : n = 0
    · subst h0; decide
    · exact (Nat.log2_lt h0).mpr (by have : (2 : Nat) ^ 128 = 340282366920938463463374607431768211456 := by decide
                                     omega)
  have := h1 _ h
  have := h1 _ h'
  omega
theorem s_mult {xs : List Val} {k : Int} (h : -1000 ≤ k ∧ k ≤ 1000 ∧ xs.length ≤ 1000) : sem2 .mul (.tup xs) (.int k) μ = .ok (.tup (List.replicate k.toNat xs).flatten) μ := if_pos h
theorem s_mulr {n : Nat} {xs : List Val} {k : Int} (h : μ[n]? = some (.lst xs)) (h2 : -1000000000 ≤ k ∧ k ≤ 1000000000 ∧ xs.length * k.toNat ≤ LIM) : sem2 .mul (.ref n) (.int k) μ = newLst (List.replicate k.toNat xs).flatten μ := by
  show (match μ[n]? with
      | some (.lst xs) => if -1000000000 ≤ k ∧ k ≤ 1000000000 ∧ xs.length * k.toNat ≤ LIM then newLst (List.replicate k.toNat xs).flatten μ else .fail
      | _ => .fail) = _
  rw [h]
  exact if_pos h2
theorem s_fdiv {i j : Int} (h : 0 < j) (h' : j.natAbs < 340282366920938463463374607431768211456) : sem2 .fdiv (.int i) (.int j) μ = .ok (.int (i / j)) μ := by
  refine if_pos ⟨h, ?_⟩
  have : j.natAbs.log2 < 128 := (Nat.log2_lt (by omega)).mpr (by have : (2 : Nat) ^ 128 = 340282366920938463463374607431768211456 := by decide
                                                                 omega)
  omega
theorem s_mod {i j : Int} (h : 0 < j) : sem2 .mod (.int i) (.int j) μ = .ok (.int (i % j)) μ := if_pos h
theorem s_eqf {a b : Val} (h : eqOk a b = true) : sem2 .eq a b μ = .ok (.bl (eqv a b)) μ := by
  show eqL false a b μ = _
  cases a <;> cases b <;> first | (unfold eqL; exact if_pos h) | (simp [eqOk, Val.flat, Val.plain] at h; done)
theorem s_nef {a b : Val} (h : eqOk a b = true) : sem2 .ne a b μ = .ok (.bl (!eqv a b)) μ := by
  show eqL true a b μ = _
  cases a <;> cases b <;> first | (unfold eqL; exact if_pos h) | (simp [eqOk, Val.flat, Val.plain] at h; done)
@[simp] theorem s_eqi (i j : Int) : sem2 .eq (.int i) (.int j) μ = .ok (.bl (decide (i = j))) μ := rfl
@[simp] theorem s_nei (i j : Int) : sem2 .ne (.int i) (.int j) μ = .ok (.bl (!decide (i = j))) μ := rfl
@[simp] theorem s_eqb (i j : Bool) : sem2 .eq (.bl i) (.bl j) μ = .ok (.bl (i == j)) μ := rfl
@[simp] theorem s_eqs (i j : List Nat) : sem2 .eq (.str i) (.str j) μ = .ok (.bl (i == j)) μ := rfl
@[simp] theorem s_neb (i j : Bool) : sem2 .ne (.bl i) (.bl j) μ = .ok (.bl (!(i == j))) μ := rfl
@[simp] theorem s_nes (i j : List Nat) : sem2 .ne (.str i) (.str j) μ = .ok (.bl (!(i == j))) μ := rfl
@[simp] theorem s_lti (i j : Int) : sem2 .lt (.int i) (.int j) μ = .ok (.bl (decide (i < j))) μ := rfl
@[simp] theorem s_lei (i j : Int) : sem2 .le (.int i) (.int j) μ = .ok (.bl (decide (i ≤ j))) μ := rfl
@[simp] theorem s_gti (i j : Int) : sem2 .gt (.int i) (.int j) μ = .ok (.bl (decide (j < i))) μ := rfl
@[simp] theorem s_gei (i j : Int) : sem2 .ge (.int i) (.int j) μ = .ok (.bl (decide (j ≤ i))) μ := rfl
@[simp] theorem s_mini (i j : Int) : sem2 .min2 (.int i) (.int j) μ = .ok (.int (if j < i then j else i)) μ := rfl
@[simp] theorem s_maxi (i j : Int) : sem2 .max2 (.int i) (.int j) μ = .ok (.int (if j > i then j else i)) μ := rfl
@[simp] theorem s_idxt (xs : List Val) (i : Int) : sem2 .idx (.tup xs) (.int i) μ = ofOpt ((place xs.length i).bind fun j => xs[j]?) μ := rfl
@[simp] theorem s_idxc (ns : List Int) (i : Int) : sem2 .idx (.scr ns) (.int i) μ = ofOpt ((place (ns.map Val.int).length i).bind fun j => (ns.map Val.int)[j]?) μ := rfl
@[simp] theorem s_idxr (n : Nat) (i : Int) : sem2 .idx (.ref n) (.int i) μ = (match μ[n]? with
        | some (.lst xs) => ofOpt ((place xs.length i).bind fun j => xs[j]?) μ
        | some (.dict t kvs) => if keyOk t (.int i) then ofOpt (dget kvs (.int i)) μ else .fail
        | _ => .fail) := by
  cases h : μ[n]? with
  | none => simp [sem2, idxL, dictAt, items, h]
  | some c => cases c <;> simp [sem2, idxL, dictAt, items, h]
/-- of a dict -/
@[simp] theorem s_idxs (n : Nat) (k : List Nat) : sem2 .idx (.ref n) (.str k) μ = (match μ[n]? with
        | some (.dict t kvs) => if keyOk t (.str k) then ofOpt (dget kvs (.str k)) μ else .fail
        | _ => .fail) := by
  cases h : μ[n]? with
  | none => simp [sem2, idxL, dictAt, items, h]
  | some c => cases c <;> simp [sem2, idxL, dictAt, items, h]
@[simp] theorem s_idxk (n : Nat) (k : List Val) : sem2 .idx (.ref n) (.tup k) μ = (match μ[n]? with
        | some (.dict t kvs) => if keyOk t (.tup k) then ofOpt (dget kvs (.tup k)) μ else .fail
        | _ => .fail) := by
  cases h : μ[n]? with
  | none => simp [sem2, idxL, dictAt, items, h]
  | some c => cases c <;> simp [sem2, idxL, dictAt, items, h]
@[simp] theorem s_app (n : Nat) (v : Val) : sem2 .append (.ref n) v μ = (match μ[n]? with
      | some (.lst xs) => if xs.length < LIM then .ok .non (μ.set n (.lst (xs ++ [v]))) else .fail
      | _ => .fail) := rfl
@[simp] theorem s_ext (n m : Nat) : sem2 .extend (.ref n) (.ref m) μ = (match μ[n]?, μ[m]? with
      | some (.lst xs), some (.lst ys) => if xs.length + ys.length ≤ LIM then .ok .non (μ.set n (.lst (xs ++ ys))) else .fail
      | _, _ => .fail) := rfl
@[simp] theorem s_slFt (xs : List Val) (lo : Int) : sem2 .slF (.tup xs) (.int lo) μ = .ok (.tup (cut xs (clip xs.length lo) xs.length)) μ := rfl
@[simp] theorem s_slTt (xs : List Val) (hi : Int) : sem2 .slT (.tup xs) (.int hi) μ = .ok (.tup (cut xs 0 (clip xs.length hi))) μ := rfl
@[simp] theorem s_slFr (n : Nat) (lo : Int) : sem2 .slF (.ref n) (.int lo) μ = (match μ[n]? with
      | some (.lst xs) => newLst (cut xs (clip xs.length lo) xs.length) μ
      | _ => .fail) := rfl
@[simp] theorem s_slTr (n : Nat) (hi : Int) : sem2 .slT (.ref n) (.int hi) μ = (match μ[n]? with
      | some (.lst xs) => newLst (cut xs 0 (clip xs.length hi)) μ
      | _ => .fail) := rfl
@[simp] theorem s_slTs (ns : List Int) (hi : Int) : sem2 .slT (.scr ns) (.int hi) μ = newLst ((cut ns 0 (clip ns.length hi)).map .int) μ := rfl
@[simp] theorem s_slFs (ns : List Int) (lo : Int) : sem2 .slF (.scr ns) (.int lo) μ = newLst ((cut ns (clip ns.length lo) ns.length).map .int) μ := rfl
@[simp] theorem s_sl3t (xs : List Val) (lo hi : Int) : sem3 .slice (.tup xs) (.int lo) (.int hi) μ = .ok (.tup (cut xs (clip xs.length lo) (clip xs.length hi))) μ := rfl
@[simp] theorem setItem_r (n : Nat) (k : Int) (v : Val) : setItem (.ref n) (.int k) v μ = (match μ[n]? with
    | some (.lst xs) => (place xs.length k).map fun j => μ.set n (.lst (xs.set j v))
    | some (.dict t kvs) => if keyOk t (.int k) ∧ kvs.length < LIM then some (μ.set n (.dict t (dput kvs (.int k) v))) else none
    | _ => none) := by
  cases h : μ[n]? with
  | none => simp [setItem, setLst, h]
  | some c => cases c <;> simp [setItem, setLst, h]
@[simp] theorem setItem_s (n : Nat) (k : List Nat) (v : Val) : setItem (.ref n) (.str k) v μ = (match μ[n]? with
    | some (.dict t kvs) => if keyOk t (.str k) ∧ kvs.length < LIM then some (μ.set n (.dict t (dput kvs (.str k) v))) else none
    | _ => none) := by
  cases h : μ[n]? with
  | none => simp [setItem, setLst, h]
  | some c => cases c <;> simp [setItem, setLst, h]
@[simp] theorem setItem_k (n : Nat) (k : List Val) (v : Val) : setItem (.ref n) (.tup k) v μ = (match μ[n]? with
    | some (.dict t kvs) => if keyOk t (.tup k) ∧ kvs.length < LIM then some (μ.set n (.dict t (dput kvs (.tup k) v))) else none
    | _ => none) := by
  cases h : μ[n]? with
  | none => simp [setItem, setLst, h]
  | some c => cases c <;> simp [setItem, setLst, h]
@[simp] theorem ofOpt_some (v : Val) : ofOpt (some v) μ = .ok v μ := rfl
theorem place_nat {n k : Nat} (h : k < n) : place n (k : Int) = some k := by
  unfold place
  rw [if_pos (by omega), if_pos (by omega)]
  rfl
theorem place_pos {n : Nat} {i : Int} (h0 : 0 ≤ i) (h : i < n) : place n i = some i.toNat := by
  unfold place
  rw [if_pos h0, if_pos h]
end
@[simp] theorem then_skip (m : OS) : (m.then fun ρ μ => .nx ρ μ) = m := by cases m <;> rfl
/-- the one table is part of the other -/
def Ext (T P : Nat → Option Fn) : Prop := ∀ k d, T k = some d → P k = some d
end Mi
end

section
set_option linter.all false
set_option autoImplicit false
/-! TVals: kinds; is_whole, is_number. -/
namespace Mi
/-- a value whose kind is known -/
def Kn (μ : Sto) (v : Val) : Prop := ∀ k, v = .ref k → ∃ xs, μ[k]? = some (.lst xs)
def isInt : Val → Bool
  | .int _ => true
  | _ => false
def isNum : Val → Bool
  | .int i => decide (0 ≤ i)
  | _ => false
def items0 : Val → List Val
  | .tup vs => vs
  | _ => []
/-- the whole thing is of known kinds -/
def KnT (μ : Sto) (v : Val) : Prop := Kn μ v ∧ ∀ w ∈ items0 v, Kn μ w
theorem isTy_kn {μ : Sto} {v : Val} (h : Kn μ v) (t : Ty) : ∃ b, isTy μ v t = some b := by
  cases v with
  | ref k =>
    obtain ⟨xs, e⟩ := h k rfl
    exact ⟨(match t with | .list => true | _ => false), by unfold isTy; simp only [e] <;> (cases t <;> rfl)⟩
  | _ => exact ⟨_, rfl⟩
theorem isTy_int {μ : Sto} {v : Val} (h : Kn μ v) (hb : ∀ b, v ≠ .bl b) : isTy μ v .int = some (isInt v) := by
  cases v with
  | ref k =>
    obtain ⟨xs, e⟩ := h k rfl
    unfold isTy; simp only [e]; rfl
  | bl b => exact absurd rfl (hb b)
  | _ => rfl
theorem findIdx_none {p : Val → Bool} : ∀ {vs : List Val}, vs.findIdx? p = none → ∀ v ∈ vs, p v = false := fun {vs} h v hv => by
  have := List.findIdx?_eq_none_iff.mp h v hv
  simpa using this
theorem findIdx_some {p : Val → Bool} {vs : List Val} {k : Nat} (h : vs.findIdx? p = some k) : ∃ v, vs[k]? = some v ∧ p v = true ∧ ∀ j w, j < k → vs[j]? = some w → p w = false := by
  obtain ⟨hk, h1, h2⟩ := List.findIdx?_eq_some_iff_getElem.mp h
  refine ⟨vs[k], List.getElem?_eq_getElem hk, h1, fun j w hj hw => ?_⟩
  have h3 := h2 j hj
  obtain ⟨_, e⟩ := List.getElem?_eq_some_iff.mp hw
  rw [e] at h3
  simpa using h3
def tbVals : Nat → Option Fn := fun k => match k with
  | 73 => some F73
  | 74 => some F74
  | _ => none
section
variable {P : Nat → Option Fn} (hV : Ext tbVals P) {n : Nat} {μ : Sto}
include hV
theorem r_is_whole (v : Val) (h : Kn μ v) : run P (n + 1) 73 [v] μ = .ok (.bl (isInt v)) μ := by
  rw [run_succ (hV 73 _ rfl) _ _ rfl]
  cases v with
  | ref k =>
    obtain ⟨xs, e⟩ := h k rfl
    simp [F73, enter, isTys1, isTy, e, isInt, cleanO_same]
  | _ => simp [F73, enter, isTys1, isTy, isInt, cleanO_same]
theorem r_is_number (v : Val) (h : Kn μ v) : run P (n + 2) 74 [v] μ = .ok (.bl (isNum v)) μ := by
  rw [run_succ (hV 74 _ rfl) _ _ rfl]
  cases v <;> simp [F74, enter, r_is_whole hV _ h, isInt, isNum, cleanO_same]
end
end Mi
end

section
set_option linter.all false
set_option autoImplicit false
/-! TCount: count_of. -/
namespace Mi
def sizeOk : Val → Bool
  | .int i => decide (1 ≤ i) && decide (i ≤ 12)
  | _ => false
def prodV : List Val → Int
  | .int i :: vs => i * prodV vs
  | _ => 1
section
variable {P : Nat → Option Fn} {n : Nat} {μ : Sto}
end
end Mi
end

section
set_option linter.all false
set_option autoImplicit false
/-! PRecs: records_of. -/
namespace Mi
def stepR (s : Int) (r : List Val) : List (List Val) := (List.range s.toNat).map fun i => r ++ [.int (i : Nat)]
def recsF : List (List Val) → List Int → List (List Val)
  | found, [] => found
  | found, s :: ss => recsF (found.flatMap (stepR s)) ss
def recsOf (fr : List Int) : List (List Val) := recsF [[]] fr
theorem stepR_len (s : Int) (r : List Val) : (stepR s r).length = s.toNat := by simp [stepR]
theorem flatMap_len (s : Int) : ∀ (l : List (List Val)), (l.flatMap (stepR s)).length = l.length * s.toNat
  | [] => by simp
  | r :: l => by rw [List.flatMap_cons, List.length_append, stepR_len, flatMap_len s l, List.length_cons, Nat.succ_mul]; omega
theorem set_app {μ g : Sto} {k : Nat} {c : Cell} (h : μ.length ≤ k) : (μ ++ g).set k c = μ ++ g.set (k - μ.length) c := by
  rw [List.set_append_right _ _ h]
section
variable {C : CallF} {μ : Sto}
/-- one record is made longer -/
theorem recs_one {g : Sto} {k kf : Nat} {v0 : Val} {s : Int} {r : List Val} {xs : List Val} {o5 : Option Val} (hk : μ.length ≤ k) (hx : (μ ++ g)[k]? = some (.lst xs)) (hr : r.length ≤ 1000) (hs : 0 ≤ s) (hs2 : s ≤ 1000) (hl : xs.length ≤ 1000000) :
    ∃ g', ex C B311_1 [some v0, some (.ref kf), some (.int s), some (.ref k), some (.tup r), o5] (μ ++ g) = .nx [some v0, some (.ref kf), some (.int s), some (.ref k), some (.tup r), o5] (μ ++ g') ∧ (μ ++ g')[k]? = some (.lst (xs ++ (stepR s r).map .tup)) ∧ ∀ j, j ≠ k → j < (μ ++ g).length → (μ ++ g')[j]? = (μ ++ g)[j]? := by
  have hkl : k < (μ ++ g).length := (List.getElem?_eq_some_iff.mp hx).1
  have hc : compL (fun v => bindT (.nm 5) v [some v0, some (.ref kf), some (.int s), some (.ref k), some (.tup r), o5]) (ev C (.cst (.bl true))) (ev C (.op2 .add (.var 4) (.tupE (.cons (.var 5) .nil)))) (.tup ((List.range s.toNat).map fun i => Val.int (i : Nat))) ((List.range s.toNat).map fun i => Val.int (i : Nat)) ((List.range s.toNat).map fun i => Val.int (i : Nat)) (μ ++ g) = .ok (((List.range s.toNat).map fun i => Val.int (i : Nat)).map fun v => .tup (r ++ [v])) (μ ++ g) := by
    refine compL_map rfl fun x hx => ⟨_, rfl, rfl, ?_⟩
    simp [s_addt (μ := μ ++ g) (xs := r) (ys := [x]) (by simp [LIM]; omega)]
  have hm : ((List.range s.toNat).map fun i => Val.int (i : Nat)).map (fun v => Val.tup (r ++ [v])) = (stepR s r).map .tup := by
    simp [stepR]
  rw [hm] at hc
  simp only [bindT_nm, List.set_cons_succ, List.set_cons_zero] at hc
  have h1 : -(16777216 : Int) ≤ s := by omega
  have h2 : s ≤ 16777216 := by omega
  have h3 : s.toNat ≤ 16777216 := by omega
  have u1 : ∀ X : Sto, (μ ++ (g ++ X))[k]? = some (.lst xs) := fun X => by rw [← List.append_assoc, List.getElem?_append_left hkl]; exact hx
  have u2 : ∀ c : Cell, (μ ++ (g ++ [c]))[μ.length + g.length]? = some c := fun c => by rw [← List.append_assoc, List.getElem?_append_right (by simp)]; simp
  have hlen : xs.length + (stepR s r).length ≤ 16777216 := by rw [stepR_len]; omega
  refine ⟨(g ++ [Cell.lst ((stepR s r).map Val.tup)]).set (k - μ.length) (Cell.lst (xs ++ (stepR s r).map Val.tup)), ?_, ?_, ?_⟩
  · rw [← set_app hk]
    simp [B311_1, hx, h1, h2, h3, hc, newLst, u1, u2, hlen]
  · rw [← set_app hk, List.getElem?_set_self (by simp at hkl ⊢; omega)]
  · intro j hj hjl
    rw [← set_app hk, List.getElem?_set_ne (Ne.symm hj), ← List.append_assoc, List.getElem?_append_left hjl]
/-- all records are made longer -/
theorem recs_inner {g : Sto} {kf k : Nat} {v0 : Val} {s : Int} {found : List (List Val)} {o4 o5 : Option Val} (hk : μ.length ≤ k) (hkf : kf ≠ k) (hf : (μ ++ g)[kf]? = some (.lst (found.map .tup))) (hx : (μ ++ g)[k]? = some (.lst [])) (hr : ∀ r ∈ found, r.length ≤ 1000) (hs : 0 ≤ s) (hs2 : s ≤ 12) (hl : found.length ≤ 1000) :
    ∃ g' o4' o5', forL (bindT (.nm 4)) (ex C B311_1) (.ref kf) (found.map .tup) (found.map .tup) [some v0, some (.ref kf), some (.int s), some (.ref k), o4, o5] (μ ++ g) = .nx [some v0, some (.ref kf), some (.int s), some (.ref k), o4', o5'] (μ ++ g') ∧ (μ ++ g')[k]? = some (.lst ((found.flatMap (stepR s)).map .tup)) := by
  obtain ⟨ρ', μ', e, ⟨g', o4', o5', rfl, rfl, h1, h2⟩⟩ := forL_all (bind := bindT (.nm 4)) (body := ex C B311_1) (src := .ref kf) (all := found.map .tup)
    (I := fun j ρ μ' => ∃ g' o4' o5', ρ = [some v0, some (.ref kf), some (.int s), some (.ref k), o4', o5'] ∧ μ' = μ ++ g' ∧ (μ ++ g')[kf]? = some (.lst (found.map .tup)) ∧ (μ ++ g')[k]? = some (.lst (((found.take j).flatMap (stepR s)).map .tup)))
    (xs := found.map .tup) (i := 0) (ρ := [some v0, some (.ref kf), some (.int s), some (.ref k), o4, o5]) (μ := μ ++ g) ⟨g, o4, o5, rfl, rfl, hf, by simpa using hx⟩
    (fun j x ρ μ' hj hI => by
      obtain ⟨g1, p4, p5, rfl, rfl, h1, h2⟩ := hI
      rw [Nat.zero_add] at h2 ⊢
      rw [List.getElem?_map] at hj
      cases hr' : found[j]? with
      | none => rw [hr'] at hj; cases hj
      | some r =>
        rw [hr'] at hj
        cases hj
        have hjl : j < found.length := (List.getElem?_eq_some_iff.mp hr').1
        have hlen : (((found.take j).flatMap (stepR s)).map Val.tup).length ≤ 1000000 := by
          rw [List.length_map, flatMap_len, List.length_take]
          have : min j found.length * s.toNat ≤ 1000 * 12 := Nat.mul_le_mul (by omega) (by omega)
          omega
        obtain ⟨g2, e2, h3, h4⟩ := recs_one (C := C) (v0 := v0) (kf := kf) (o5 := p5) hk h2 (hr r (List.mem_of_getElem? hr')) hs (by omega) hlen
        have hkfl : kf < (μ ++ g1).length := (List.getElem?_eq_some_iff.mp h1).1
        have h5 : (μ ++ g2)[kf]? = some (.lst (found.map .tup)) := by rw [h4 kf hkf hkfl]; exact h1
        refine ⟨_, _, _, rfl, .inl e2, ?_, g2, some (.tup r), p5, rfl, rfl, h5, ?_⟩
        · show decide (_ = _) = true
          exact decide_eq_true h5
        · rw [h3, List.take_add_one, hr']
          simp)
  refine ⟨g', o4', o5', e, ?_⟩
  rw [h2]
  simp
/-- the whole walk -/
theorem recs_outer {src : Val} {all : List Val} {v0 : Val} (hg : ∀ μ, guard src all μ = true) : ∀ (ss : List Int) (found : List (List Val)) (g : Sto) (kf b : Nat) (o2 o3 o4 o5 : Option Val), (∀ s ∈ ss, 0 ≤ s ∧ s ≤ 12) → (μ ++ g)[kf]? = some (.lst (found.map .tup)) → μ.length ≤ kf → (∀ r ∈ found, r.length ≤ b) → b + ss.length ≤ 1000 → (∀ n, n ≤ ss.length → (recsF found (ss.take n)).length ≤ 1000) →
    ∃ g' kf' o2' o3' o4' o5', forL (bindT (.nm 2)) (ex C B311_2) src all (ss.map .int) [some v0, some (.ref kf), o2, o3, o4, o5] (μ ++ g) = .nx [some v0, some (.ref kf'), o2', o3', o4', o5'] (μ ++ g') ∧ (μ ++ g')[kf']? = some (.lst ((recsF found ss).map .tup)) ∧ μ.length ≤ kf'
  | [], found, g, kf, b, o2, o3, o4, o5, _, hf, hk, _, _, _ => ⟨g, kf, o2, o3, o4, o5, rfl, hf, hk⟩
  | s :: ss, found, g, kf, b, o2, o3, o4, o5, hs, hf, hk, hr, hb, hl => by
    have hkl : kf < (μ ++ g).length := (List.getElem?_eq_some_iff.mp hf).1
    have hs1 := hs s (List.mem_cons_self ..)
    obtain ⟨g1, p4, p5, e1, h1⟩ := recs_inner (C := C) (μ := μ) (g := g ++ [.lst []]) (kf := kf) (k := (μ ++ g).length) (v0 := v0) (s := s) (found := found) (o4 := o4) (o5 := o5) (by simp) (by omega) (by rw [← List.append_assoc, List.getElem?_append_left hkl]; exact hf) (by rw [← List.append_assoc, List.getElem?_append_right (Nat.le_refl _)]; simp) (fun r h => by have := hr r h; omega) hs1.1 hs1.2 (by simpa [recsF] using hl 0 (by omega))
    have hfl : ∀ r ∈ found.flatMap (stepR s), r.length ≤ b + 1 := fun r h => by
      obtain ⟨q, hq, hr'⟩ := List.mem_flatMap.mp h
      obtain ⟨i, _, rfl⟩ := List.mem_map.mp hr'
      have := hr q hq
      simp; omega
    obtain ⟨g', kf', o2', o3', o4', o5', e2, h2, h3⟩ := recs_outer hg ss (found.flatMap (stepR s)) g1 (μ ++ g).length (b + 1) (some (.int s)) (some (.ref (μ ++ g).length)) p4 p5 (fun x hx => hs x (List.mem_cons_of_mem _ hx)) h1 (by simp) hfl (by simp at hb; omega) (fun n hn => by simpa [recsF] using hl (n + 1) (by simp; omega))
    refine ⟨g', kf', o2', o3', o4', o5', ?_, h2, h3⟩
    have hb1 : ex C B311_2 [some v0, some (.ref kf), some (.int s), o3, o4, o5] (μ ++ g) = .nx [some v0, some (.ref (μ ++ g).length), some (.int s), some (.ref (μ ++ g).length), p4, p5] (μ ++ g1) := by
      have hf' : (μ ++ (g ++ [Cell.lst []]))[kf]? = some (.lst (found.map .tup)) := by rw [← List.append_assoc, List.getElem?_append_left hkl]; exact hf
      simp only [List.length_append] at e1
      simp [B311_2, newLst, hf', e1]
    exact (forL_step (x := .int s) rfl hb1 (hg _)).trans e2
theorem recsF_bound : ∀ (ss : List Int) (found : List (List Val)) (b : Nat), (∀ r ∈ found, r.length ≤ b) → ∀ r ∈ recsF found ss, r.length ≤ b + ss.length
  | [], found, b, h, r, hr => by simpa using h r hr
  | s :: ss, found, b, h, r, hr => by
    have := recsF_bound ss (found.flatMap (stepR s)) (b + 1) (fun q hq => by
      obtain ⟨q', hq', h'⟩ := List.mem_flatMap.mp hq
      obtain ⟨i, _, rfl⟩ := List.mem_map.mp h'
      have := h q' hq'
      simp; omega) r hr
    simp; omega
theorem recsF_nor : ∀ (ss : List Int) (found : List (List Val)), (∀ r ∈ found, ∀ v ∈ r, ∃ i, v = .int i) → ∀ r ∈ recsF found ss, ∀ v ∈ r, ∃ i, v = .int i
  | [], found, h => h
  | s :: ss, found, h => recsF_nor ss (found.flatMap (stepR s)) fun q hq => by
    obtain ⟨q', hq', h'⟩ := List.mem_flatMap.mp hq
    obtain ⟨i, _, rfl⟩ := List.mem_map.mp h'
    intro v hv
    rcases List.mem_append.mp hv with hv | hv
    · exact h q' hq' v hv
    · exact ⟨_, List.mem_singleton.mp hv⟩
theorem recsF_len : ∀ (ss : List Int) (found : List (List Val)), (recsF found ss).length = found.length * (ss.map Int.toNat).prod
  | [], found => by simp [recsF]
  | s :: ss, found => by rw [recsF, recsF_len ss, flatMap_len, List.map_cons, List.prod_cons, Nat.mul_assoc]
end
end Mi
end

section
set_option linter.all false
set_option autoImplicit false
/-! TSame: _law_same of equal things. -/
namespace Mi
mutual
/-- a value without cells, its tuples of a measure -/
def smp : Val → Bool
  | .ref _ => false
  | .scr _ => false
  | .zp .. => false
  | .tup vs => decide (vs.length ≤ 16777216) && smps vs
  | _ => true
def smps : List Val → Bool
  | [] => true
  | v :: vs => smp v && smps vs
end
mutual
def dpt : Val → Nat
  | .tup vs => dpts vs + 1
  | _ => 0
def dpts : List Val → Nat
  | [] => 0
  | v :: vs => max (dpt v) (dpts vs)
end
theorem smps_mem : ∀ {vs : List Val}, smps vs = true → ∀ v ∈ vs, smp v = true
  | w :: vs, h, v, hv => by
    rw [smps, Bool.and_eq_true] at h
    rcases List.mem_cons.mp hv with e | hv
    · rw [e]; exact h.1
    · exact smps_mem h.2 v hv
theorem smps_of : ∀ {vs : List Val}, (∀ v ∈ vs, smp v = true) → smps vs = true
  | [], _ => rfl
  | v :: vs, h => by
    rw [smps, Bool.and_eq_true]
    exact ⟨h v (List.mem_cons_self ..), smps_of fun w hw => h w (List.mem_cons_of_mem _ hw)⟩
theorem dpts_mem : ∀ {vs : List Val} (v : Val), v ∈ vs → dpt v ≤ dpts vs
  | w :: vs, v, hv => by
    rw [dpts]
    rcases List.mem_cons.mp hv with e | hv
    · rw [e]; omega
    · have := dpts_mem v hv
      omega
theorem dpts_le {n : Nat} : ∀ {vs : List Val}, (∀ v ∈ vs, dpt v ≤ n) → dpts vs ≤ n
  | [], _ => Nat.zero_le _
  | v :: vs, h => by
    rw [dpts]
    have h1 := h v (List.mem_cons_self ..)
    have h2 := dpts_le fun w hw => h w (List.mem_cons_of_mem _ hw)
    omega
section
variable {P : Nat → Option Fn} {μ : Sto}
end
end Mi
end

section
set_option linter.all false
set_option autoImplicit false
/-! TStore: stores with a till in them; things of known kinds. -/
namespace Mi
theorem clean_val {μ μ' : Sto} {v : Val} (h : ∀ k, v ≠ .ref k) : (clean μ v μ').1 = v := by
  unfold Mi.clean
  split
  · split
    · rfl
    · split
      · exact absurd rfl (h _)
      · rfl
  · rfl
def goodSizes (s : List Int) : Prop := ∀ x ∈ s, 1 ≤ x ∧ x ≤ 12
def prodI : List Int → Int
  | [] => 1
  | x :: xs => x * prodI xs
theorem prodI_append : ∀ (xs ys : List Int), prodI (xs ++ ys) = prodI xs * prodI ys
  | [], ys => by simp [prodI]
  | x :: xs, ys => by simp [prodI, prodI_append xs ys, Int.mul_assoc]
theorem prodI_pos : ∀ {xs : List Int}, goodSizes xs → 1 ≤ prodI xs
  | [], _ => by simp [prodI]
  | x :: xs, h => by
    have h1 := h x (List.mem_cons_self ..)
    have h2 := prodI_pos fun y hy => h y (List.mem_cons_of_mem _ hy)
    rw [prodI]
    have := Int.mul_le_mul h1.1 h2 (by omega) (by omega)
    omega
/-- lists stay lists -/
def Grow (μ μ' : Sto) : Prop := ∀ (k : Nat) (xs : List Val), μ[k]? = some (Cell.lst xs) → ∃ ys : List Val, μ'[k]? = some (Cell.lst ys)
theorem Grow.refl (μ : Sto) : Grow μ μ := fun _ xs h => ⟨xs, h⟩
theorem Grow.trans {a b c : Sto} (h1 : Grow a b) (h2 : Grow b c) : Grow a c := fun k xs h => let ⟨ys, h'⟩ := h1 k xs h; h2 k ys h'
theorem Grow.app (μ g : Sto) : Grow μ (μ ++ g) := fun k xs h => ⟨xs, by rw [List.getElem?_append_left (List.getElem?_eq_some_iff.mp h).1]; exact h⟩
theorem Grow.set (μ : Sto) (t : Nat) (zs : List Val) : Grow μ (μ.set t (.lst zs)) := fun k xs h => by
  by_cases e : t = k
  · subst e
    exact ⟨zs, List.getElem?_set_self (List.getElem?_eq_some_iff.mp h).1⟩
  · exact ⟨xs, by rw [List.getElem?_set_ne e]; exact h⟩
theorem Kn.grow {μ μ' : Sto} {v : Val} (h : Kn μ v) (g : Grow μ μ') : Kn μ' v := fun k e => let ⟨xs, q⟩ := h k e; g k xs q
theorem KnT.grow {μ μ' : Sto} {v : Val} (h : KnT μ v) (g : Grow μ μ') : KnT μ' v := ⟨h.1.grow g, fun w hw => (h.2 w hw).grow g⟩
theorem Kn.flat {μ : Sto} {v : Val} (h : ∀ k, v ≠ .ref k) : Kn μ v := fun k e => absurd e (h k)
theorem KnT.tup {μ : Sto} {vs : List Val} (h : ∀ w ∈ vs, Kn μ w) : KnT μ (.tup vs) := ⟨Kn.flat (by intro k z; cases z), h⟩
theorem KnT.one {μ : Sto} {v : Val} (h : Kn μ v) (h2 : items0 v = []) : KnT μ v := ⟨h, fun w hw => by rw [h2] at hw; cases hw⟩
theorem underAll_mem {n : Nat} : ∀ {vs : List Val}, underAll n vs = true → ∀ v ∈ vs, v.under n = true
  | w :: vs, h, v, hv => by
    rw [underAll, Bool.and_eq_true] at h
    rcases List.mem_cons.mp hv with e | hv
    · rw [e]; exact h.1
    · exact underAll_mem h.2 v hv
/-- a list given back by a call -/
theorem clean_ref {μ μ' : Sto} {k : Nat} {xs : List Val} (hk : μ.length ≤ k) (e : μ'[k]? = some (.lst xs)) (h : ∀ v ∈ xs, KnT μ' v) : ∃ k', (clean μ (.ref k) μ').1 = .ref k' ∧ (clean μ (.ref k) μ').2[k']? = some (.lst xs) ∧ (∀ v ∈ xs, KnT (clean μ (.ref k) μ').2 v) ∧ μ.length ≤ k' := by
  by_cases hs : stable μ μ' = true
  · by_cases hu : underAll μ.length xs = true
    · rw [clean_new hs hk e hu]
      have hl : μ.length ≤ μ'.length := by
        unfold stable at hs
        rw [Bool.and_eq_true] at hs
        simpa using hs.1
      refine ⟨μ.length, rfl, ?_, fun v hv => ?_, Nat.le_refl _⟩
      · rw [List.getElem?_append_right (by rw [List.length_take]; omega)]
        simp [Nat.min_eq_left hl]
      · have hvu := underAll_mem hu v hv
        have key : ∀ w : Val, w.under μ.length = true → Kn μ' w → Kn (μ'.take μ.length ++ [.lst xs]) w := fun w hw kw j ej => by
          obtain ⟨ys, hy⟩ := kw j ej
          subst ej
          rw [Val.under] at hw
          have hj : j < μ.length := by simpa using hw
          exact ⟨ys, by rw [List.getElem?_append_left (by rw [List.length_take]; omega), List.getElem?_take_of_lt hj]; exact hy⟩
        have kv := h v hv
        refine ⟨key v hvu kv.1, fun w hw => key w ?_ (kv.2 w hw)⟩
        cases v with
        | tup vs =>
          rw [Val.under] at hvu
          exact underAll_mem hvu w hw
        | _ => cases hw
    · refine ⟨k, ?_⟩
      have : clean μ (.ref k) μ' = (.ref k, μ') := by
        unfold clean
        rw [if_pos hs, if_neg (by rw [Val.under]; simp; exact hk)]
        simp only [e]
        rw [if_neg (by intro z; rw [Bool.and_eq_true] at z; exact hu z.1)]
      rw [this]
      exact ⟨rfl, e, h, hk⟩
  · refine ⟨k, ?_⟩
    have : clean μ (.ref k) μ' = (.ref k, μ') := by
      unfold clean
      rw [if_neg hs]
    rw [this]
    exact ⟨rfl, e, h, hk⟩
theorem cut_len {α : Type} (xs : List α) (a b : Nat) : (cut xs a b).length ≤ xs.length := by
  unfold cut
  rw [List.length_take, List.length_drop]; omega
theorem cut_mem {α : Type} {xs : List α} {a b : Nat} {x : α} (h : x ∈ cut xs a b) : x ∈ xs := List.mem_of_mem_drop (List.mem_of_mem_take h)
theorem mul_ex (xs : List Val) (k : Int) (h1 : -1000 ≤ k) (h2 : k ≤ 10) (h3 : xs.length ≤ 10) : ∃ M : List Val, (∀ μ, sem2 .mul (.tup xs) (.int k) μ = .ok (.tup M) μ) ∧ (∀ w ∈ M, w ∈ xs) ∧ M.length ≤ 100 := by
  refine ⟨(List.replicate k.toNat xs).flatten, fun μ => s_mult ⟨h1, by omega, by omega⟩, fun w hw => ?_, ?_⟩
  · obtain ⟨l, hl, hw⟩ := List.mem_flatten.mp hw
    rw [(List.mem_replicate.mp hl).2] at hw
    exact hw
  · simp
    have : k.toNat * xs.length ≤ 10 * 10 := Nat.mul_le_mul (by omega) h3
    omega
theorem add_ex (xs ys : List Val) {m n : Nat} (h1 : xs.length ≤ m) (h2 : ys.length ≤ n) (h : m + n ≤ 10000) : ∃ A : List Val, (∀ μ, sem2 .add (.tup xs) (.tup ys) μ = .ok (.tup A) μ) ∧ (∀ w ∈ A, w ∈ xs ∨ w ∈ ys) ∧ A.length ≤ m + n :=
  ⟨xs ++ ys, fun μ => s_addt (by simp only [LIM]; omega), fun w hw => List.mem_append.mp hw, by simp; omega⟩
/-- a place of a tuple is put anew -/
theorem put_ex (F : List Val) (v : Val) {m : Nat} (hF : F.length ≤ m) (hm : m ≤ 1000) (a : Int) : ∃ A B : List Val, (∀ μ, sem2 .add (.tup (cut F 0 (clip F.length a))) (.tup [v]) μ = .ok (.tup A) μ) ∧ (∀ μ, sem2 .add (.tup A) (.tup (cut F (clip F.length (a + 1)) F.length)) μ = .ok (.tup B) μ) ∧ (∀ w ∈ B, w ∈ F ∨ w = v) ∧ B.length ≤ 2 * m + 1 := by
  obtain ⟨A, h1, h2, h3⟩ := add_ex (cut F 0 (clip F.length a)) [v] (m := m) (n := 1) (by have := cut_len F 0 (clip F.length a); omega) (by simp) (by omega)
  obtain ⟨B, h4, h5, h6⟩ := add_ex A (cut F (clip F.length (a + 1)) F.length) (m := m + 1) (n := m) h3 (by have := cut_len F (clip F.length (a + 1)) F.length; omega) (by omega)
  refine ⟨A, B, h1, h4, fun w hw => ?_, by omega⟩
  rcases h5 w hw with hw | hw
  · rcases h2 w hw with hw | hw
    · exact .inl (cut_mem hw)
    · exact .inr (List.mem_singleton.mp hw)
  · exact .inl (cut_mem hw)
/-- a comprehension that may change the store -/
theorem compL_all {bind : Val → Option Loc} {cond elt : Loc → Sto → Out Val} {src : Val} {all : List Val} {I : Nat → Sto → Prop} {Q : Val → Prop} : ∀ {xs : List Val} {i : Nat} {μ : Sto}, I i μ → (∀ j x μ, x ∈ xs → j < i + xs.length → I j μ → ∃ ρ y μ2, bind x = some ρ ∧ cond ρ μ = .ok (.bl true) μ ∧ elt ρ μ = .ok y μ2 ∧ guard src all μ2 = true ∧ I (j + 1) μ2 ∧ Q y) →
    ∃ ys μ', compL bind cond elt src all xs μ = .ok ys μ' ∧ I (i + xs.length) μ' ∧ (∀ y ∈ ys, Q y) ∧ ys.length = xs.length
  | [], i, μ, h, _ => ⟨[], μ, rfl, h, by simp, rfl⟩
  | x :: xs, i, μ, h, hs => by
    obtain ⟨ρ, y, μ2, h1, h2, h3, h4, h5, h6⟩ := hs i x μ (List.mem_cons_self ..) (by simp) h
    obtain ⟨ys, μ', e, h7, h8, h9⟩ := compL_all (xs := xs) (i := i + 1) h5 (fun j x μ hx hj hI => hs j x μ (List.mem_cons_of_mem _ hx) (by simp; omega) hI)
    refine ⟨y :: ys, μ', ?_, by rw [List.length_cons, show i + (xs.length + 1) = i + 1 + xs.length by omega]; exact h7, fun z hz => ?_, by simp [h9]⟩
    · rw [compL, h1]
      simp only [h2, h3, h4, if_true, e]
    · rcases List.mem_cons.mp hz with rfl | hz
      · exact h6
      · exact h8 z hz
theorem KnT_nor {v : Val} (h : v.nor = true) (μ : Sto) : KnT μ v := by
  have key : ∀ w : Val, w.nor = true → Kn μ w := fun w hw k e => by subst e; simp [Val.nor] at hw
  refine ⟨key v h, fun w hw => key w ?_⟩
  cases v with
  | tup vs => rw [Val.nor] at h; exact nors_mem h w hw
  | _ => cases hw
/-- all but the till stands -/
def Keeps (t : Nat) (μ μ' : Sto) : Prop := ∀ j, j < μ.length → j ≠ t → μ'[j]? = μ[j]?
theorem clean_keep {μ X : Sto} {v : Val} {j : Nat} (hj : j < μ.length) : (clean μ v X).2[j]? = X[j]? := by
  have key : μ.length ≤ X.length → ∀ g : Sto, (X.take μ.length ++ g)[j]? = X[j]? := fun hl g => by
    rw [List.getElem?_append_left (by rw [List.length_take]; omega), List.getElem?_take_of_lt hj]
  unfold Mi.clean
  split
  · rename_i hs
    have hl : μ.length ≤ X.length := by
      unfold stable at hs
      rw [Bool.and_eq_true] at hs
      simpa using hs.1
    split
    · exact List.getElem?_take_of_lt hj
    · split
      · split
        · split
          · exact key hl _
          · rfl
        · rfl
      · rfl
  · rfl
theorem Keeps.clean {t : Nat} {μ X : Sto} (h : Keeps t μ X) (v : Val) : Keeps t μ (clean μ v X).2 := fun j hj hjt => by rw [clean_keep hj]; exact h j hj hjt
section
variable {P : Nat → Option Fn} {μ : Sto} {t p : Nat} {purse : List Int} {r N c m : Int} {n : Nat}
end
end Mi
end

section
set_option linter.all false
set_option autoImplicit false
/-! TRecs: records of both kinds. -/
namespace Mi
theorem recs_tuple_nor (ss : List Int) : nors ((recsOf ss).map .tup) = true := nors_of fun v hv => by
  obtain ⟨r, hr, rfl⟩ := List.mem_map.mp hv
  refine nor_tup fun w hw => ?_
  obtain ⟨i, rfl⟩ := recsF_nor ss [[]] (by simp) r hr w hw
  rfl
theorem prod_toNat : ∀ {fr : List Int}, goodSizes fr → ((fr.map Int.toNat).prod : Int) = prodI fr
  | [], _ => rfl
  | x :: xs, h => by
    have h1 := h x (List.mem_cons_self ..)
    rw [List.map_cons, List.prod_cons, prodI, Int.natCast_mul, prod_toNat fun y hy => h y (List.mem_cons_of_mem _ hy), Int.toNat_of_nonneg (by omega)]
theorem prodI_take {fr : List Int} (h : goodSizes fr) (n : Nat) : prodI (fr.take n) ≤ prodI fr := by
  have e : prodI fr = prodI (fr.take n) * prodI (fr.drop n) := by rw [← prodI_append, List.take_append_drop]
  have h1 := prodI_pos (xs := fr.take n) fun y hy => h y (List.mem_of_mem_take hy)
  have h2 := prodI_pos (xs := fr.drop n) fun y hy => h y (List.mem_of_mem_drop hy)
  have := Int.mul_le_mul_of_nonneg_left h2 (show 0 ≤ prodI (fr.take n) by omega)
  omega
theorem recs_few {fr : List Int} (h : goodSizes fr) (hp : prodI fr ≤ 500) (n : Nat) : (recsF [[]] (fr.take n)).length ≤ 1000 := by
  rw [recsF_len]
  have e := prod_toNat (fr := fr.take n) fun y hy => h y (List.mem_of_mem_take hy)
  have := prodI_take h n
  simp only [List.length_singleton, Nat.one_mul]
  omega
section
variable {P : Nat → Option Fn} {μ : Sto} {n : Nat} {fr : List Int}
theorem r_law_records (h311 : P 311 = some F311) (h : goodSizes fr) (hp : prodI fr ≤ 500) (hl : fr.length ≤ 6) : run P (n + 1) 311 [.tup (fr.map .int)] μ = .ok (.ref μ.length) (μ ++ [.lst ((recsOf fr).map .tup)]) := by
  obtain ⟨g', kf', o2', o3', o4', o5', e, h1, h2⟩ := recs_outer (C := run P n) (μ := μ) (src := .tup (fr.map .int)) (all := fr.map .int) (v0 := .tup (fr.map .int)) (fun _ => rfl) fr [[]] [.lst [.tup []]] μ.length 0 none none none none (fun s hs => by have := h s hs; omega) (by rw [List.getElem?_append_right (Nat.le_refl _)]; simp) (Nat.le_refl _) (by simp) (by omega) (fun n _ => recs_few h hp n)
  rw [run_succ h311 _ _ rfl]
  rw [show B311_2 = B311_2 from rfl] at e
  have eo : ex (run P n) F311.body (enter F311 [.tup (fr.map .int)]) μ = .ret (.ref kf') (μ ++ g') := by
    simp [F311, enter, newLst, e]
  rw [eo]
  show cleanO μ (.ok (.ref kf') (μ ++ g')) = _
  rw [cleanO_new (stable_app μ g') h2 h1 (nors_under _ (recs_tuple_nor fr)), List.take_left' rfl]
  rfl
end
end Mi
end

section
set_option linter.all false
set_option autoImplicit false
/-! TGood: right frames. -/
namespace Mi
structure GoodF (fr : List Int) : Prop where
  l1 : 1 ≤ fr.length
  l2 : fr.length ≤ 6
  g : goodSizes fr
  p : prodI fr ≤ 500
theorem KnT_ints (μ : Sto) (fr : List Int) : KnT μ (.tup (fr.map .int)) := KnT_nor (by rw [Val.nor]; exact nors_ints fr) μ
theorem recs_smp {fr : List Int} (h : GoodF fr) : smp (.tup ((recsOf fr).map .tup)) = true ∧ dpt (.tup ((recsOf fr).map .tup)) ≤ 2 := by
  have hl : (recsOf fr).length ≤ 1000 := by
    have := recs_few h.g h.p fr.length
    rw [List.take_length] at this
    exact this
  have hb := recsF_bound fr [[]] 0 (by simp)
  have hn := recsF_nor fr [[]] (by simp)
  have h2 := h.l2
  refine ⟨?_, ?_⟩
  · rw [smp, Bool.and_eq_true]
    refine ⟨by simp; omega, smps_of fun v hv => ?_⟩
    obtain ⟨r, hr, rfl⟩ := List.mem_map.mp hv
    rw [smp, Bool.and_eq_true]
    refine ⟨by have := hb r hr; simp; omega, smps_of fun w hw => ?_⟩
    obtain ⟨i, rfl⟩ := hn r hr w hw
    rfl
  · rw [dpt]
    have : dpts ((recsOf fr).map .tup) ≤ 1 := dpts_le fun v hv => by
      obtain ⟨r, hr, rfl⟩ := List.mem_map.mp hv
      rw [dpt]
      have : dpts r ≤ 0 := dpts_le fun w hw => by
        obtain ⟨i, rfl⟩ := hn r hr w hw
        exact Nat.le_refl _
      omega
    omega
end Mi
end

section
set_option linter.all false
set_option autoImplicit false
/-! TOnly: what a draw leaves alone; things known to a depth. -/
namespace Mi
/-- the till alone is changed -/
def Only (t : Nat) (μ μ' : Sto) : Prop := μ'.length = μ.length ∧ ∀ j, j ≠ t → μ'[j]? = μ[j]?
theorem Only.refl (t : Nat) (μ : Sto) : Only t μ μ := ⟨rfl, fun _ _ => rfl⟩
theorem Only.trans {t : Nat} {a b c : Sto} (h1 : Only t a b) (h2 : Only t b c) : Only t a c := ⟨h2.1.trans h1.1, fun j hj => (h2.2 j hj).trans (h1.2 j hj)⟩
theorem Only.keeps {t : Nat} {a b : Sto} (h : Only t a b) : Keeps t a b := fun j _ hj => h.2 j hj
theorem Keeps.refl (t : Nat) (μ : Sto) : Keeps t μ μ := fun _ _ _ => rfl
theorem Keeps.only {t : Nat} {a b c : Sto} (h1 : Keeps t a b) (h2 : Only t b c) : Keeps t a c := fun j hj hjt => (h2.2 j hjt).trans (h1 j hj hjt)
theorem Keeps.app {t : Nat} {a b : Sto} (h1 : Keeps t a b) (hl : a.length ≤ b.length) (g : Sto) : Keeps t a (b ++ g) := fun j hj hjt => by
  rw [List.getElem?_append_left (by omega)]; exact h1 j hj hjt
theorem Keeps.set {t : Nat} {a b : Sto} (h1 : Keeps t a b) {k : Nat} (hk : a.length ≤ k) (c : Cell) : Keeps t a (b.set k c) := fun j hj hjt => by
  rw [List.getElem?_set_ne (by omega)]; exact h1 j hj hjt
theorem Keeps.trans {t : Nat} {a b c : Sto} (h1 : Keeps t a b) (hl : a.length ≤ b.length) (h2 : Keeps t b c) : Keeps t a c := fun j hj hjt => (h2 j (by omega) hjt).trans (h1 j hj hjt)
/-- known to a depth -/
def KnD : Nat → Sto → Val → Prop
  | 0, μ, v => Kn μ v
  | n + 1, μ, v => Kn μ v ∧ ∀ w ∈ items0 v, KnD n μ w
theorem KnD.kn {μ : Sto} {v : Val} : ∀ {n : Nat}, KnD n μ v → Kn μ v
  | 0, h => h
  | _ + 1, h => h.1
theorem KnD_nor {v : Val} (μ : Sto) : ∀ (n : Nat) (v : Val), v.nor = true → KnD n μ v
  | 0, v, h => fun k e => by subst e; simp [Val.nor] at h
  | n + 1, v, h => ⟨fun k e => by subst e; simp [Val.nor] at h, fun w hw => KnD_nor (v := w) μ n w (by
    cases v with
    | tup vs => rw [Val.nor] at h; exact nors_mem h w hw
    | _ => cases hw)⟩
theorem KnD.grow {μ μ' : Sto} (g : Grow μ μ') : ∀ {n : Nat} {v : Val}, KnD n μ v → KnD n μ' v
  | 0, v, h => Kn.grow h g
  | n + 1, v, h => ⟨h.1.grow g, fun w hw => KnD.grow g (h.2 w hw)⟩
theorem KnD.tup {μ : Sto} {n : Nat} {vs : List Val} (h : ∀ w ∈ vs, KnD n μ w) : KnD (n + 1) μ (.tup vs) := ⟨Kn.flat (by intro k z; cases z), h⟩
theorem KnD.ref {μ : Sto} {n : Nat} {k : Nat} {xs : List Val} (h : μ[k]? = some (.lst xs)) : KnD n μ (.ref k) := by
  have hk : Kn μ (.ref k) := fun j e => by cases e; exact ⟨xs, h⟩
  cases n with
  | zero => exact hk
  | succ n => exact ⟨hk, fun w hw => by cases hw⟩
theorem KnD.clean {μ μ' : Sto} {xs : List Val} (hl : μ.length ≤ μ'.length) : ∀ {n : Nat} {v : Val}, v.under μ.length = true → KnD n μ' v → KnD n (μ'.take μ.length ++ [.lst xs]) v := by
  have key : ∀ w : Val, w.under μ.length = true → Kn μ' w → Kn (μ'.take μ.length ++ [.lst xs]) w := fun w hw kw j ej => by
    obtain ⟨ys, hy⟩ := kw j ej
    subst ej
    rw [Val.under] at hw
    have hj : j < μ.length := by simpa using hw
    exact ⟨ys, by rw [List.getElem?_append_left (by rw [List.length_take]; omega), List.getElem?_take_of_lt hj]; exact hy⟩
  intro n
  induction n with
  | zero => exact fun hu h => key _ hu h
  | succ n ih =>
    intro v hu h
    refine ⟨key v hu h.1, fun w hw => ih ?_ (h.2 w hw)⟩
    cases v with
    | tup vs =>
      rw [Val.under] at hu
      exact underAll_mem hu w hw
    | _ => cases hw
/-- a list given back by a call -/
theorem clean_refD {μ μ' : Sto} {k d : Nat} {xs : List Val} (hk : μ.length ≤ k) (e : μ'[k]? = some (.lst xs)) (h : ∀ v ∈ xs, KnD d μ' v) : ∃ k', (clean μ (.ref k) μ').1 = .ref k' ∧ (clean μ (.ref k) μ').2[k']? = some (.lst xs) ∧ (∀ v ∈ xs, KnD d (clean μ (.ref k) μ').2 v) ∧ μ.length ≤ k' ∧ μ.length ≤ (clean μ (.ref k) μ').2.length := by
  have hkl := (List.getElem?_eq_some_iff.mp e).1
  by_cases hs : stable μ μ' = true
  · have hl : μ.length ≤ μ'.length := by
      unfold stable at hs
      rw [Bool.and_eq_true] at hs
      simpa using hs.1
    by_cases hu : underAll μ.length xs = true
    · rw [clean_new hs hk e hu]
      refine ⟨μ.length, rfl, ?_, fun v hv => KnD.clean hl (underAll_mem hu v hv) (h v hv), Nat.le_refl _, by simp; omega⟩
      rw [List.getElem?_append_right (by rw [List.length_take]; omega)]
      simp [Nat.min_eq_left hl]
    · refine ⟨k, ?_⟩
      have : Mi.clean μ (.ref k) μ' = (.ref k, μ') := by
        unfold Mi.clean
        rw [if_pos hs, if_neg (by rw [Val.under]; simp; exact hk)]
        simp only [e]
        rw [if_neg (by intro z; rw [Bool.and_eq_true] at z; exact hu z.1)]
      rw [this]
      exact ⟨rfl, e, h, hk, hl⟩
  · refine ⟨k, ?_⟩
    have : Mi.clean μ (.ref k) μ' = (.ref k, μ') := by
      unfold Mi.clean
      rw [if_neg hs]
    rw [this]
    exact ⟨rfl, e, h, hk, by simp; omega⟩
theorem clean_len {μ μ' : Sto} (v : Val) (h : μ.length ≤ μ'.length) : μ.length ≤ (Mi.clean μ v μ').2.length := by
  unfold Mi.clean
  split
  · split
    · simp; omega
    · split
      · split
        · split
          · simp; omega
          · exact h
        · exact h
      · exact h
  · exact h
/-- a place of a tuple is put anew -/
theorem put_ex2 (F : List Val) (v : Val) {m : Nat} (hF : F.length ≤ m) (hm : m ≤ 4000) (a : Int) : ∃ A B : List Val, (∀ μ, sem2 .add (.tup (cut F 0 (clip F.length a))) (.tup [v]) μ = .ok (.tup A) μ) ∧ (∀ μ, sem2 .add (.tup A) (.tup (cut F (clip F.length (a + 1)) F.length)) μ = .ok (.tup B) μ) ∧ (∀ w ∈ B, w ∈ F ∨ w = v) ∧ B.length ≤ 2 * m + 1 := by
  obtain ⟨A, h1, h2, h3⟩ := add_ex (cut F 0 (clip F.length a)) [v] (m := m) (n := 1) (by have := cut_len F 0 (clip F.length a); omega) (by simp) (by omega)
  obtain ⟨B, h4, h5, h6⟩ := add_ex A (cut F (clip F.length (a + 1)) F.length) (m := m + 1) (n := m) h3 (by have := cut_len F (clip F.length (a + 1)) F.length; omega) (by omega)
  refine ⟨A, B, h1, h4, fun w hw => ?_, by omega⟩
  rcases h5 w hw with hw | hw
  · rcases h2 w hw with hw | hw
    · exact .inl (cut_mem hw)
    · exact .inr (List.mem_singleton.mp hw)
  · exact .inl (cut_mem hw)
/-- the parts of a text -/
def MS.a : MS → MS
  | .seq a _ => a
  | .ite _ a _ => a
  | s => s
def MS.b : MS → MS
  | .seq _ b => b
  | .ite _ _ b => b
  | s => s
section
variable {P : Nat → Option Fn} {μ : Sto} {t p : Nat} {purse : List Int} {r N c m : Int} {n : Nat}
end
end Mi
end

section
set_option linter.all false
set_option autoImplicit false
/-! TRecA: records and their places. -/
namespace Mi
def belowV : Val → Int → Bool
  | .int i, m => decide (0 ≤ i) && decide (i < m)
  | _, _ => false
def rowV : Val → Int → Bool
  | .tup vs, m => decide ((vs.length : Int) = m)
  | _, _ => false
/-- a record of that frame -/
def recB (fr : List Int) (vs : List Val) : Bool := decide (vs.length = fr.length) && (List.range fr.length).all fun k => belowV (vs.getD k .non) (fr.getD k 0)
def recV (fr : List Int) : Val → Bool
  | .tup vs => recB fr vs
  | _ => false
/-- a comprehension with a test that changes nothing -/
theorem compL_filter {bind : Val → Option Loc} {cond elt : Loc → Sto → Out Val} {src : Val} {all : List Val} {c : Val → Bool} {g : Val → Val} {μ : Sto} (hg : guard src all μ = true) : ∀ {xs : List Val}, (∀ x ∈ xs, ∃ ρ, bind x = some ρ ∧ cond ρ μ = .ok (.bl (c x)) μ ∧ elt ρ μ = .ok (g x) μ) → compL bind cond elt src all xs μ = .ok ((xs.filter c).map g) μ
  | [], _ => rfl
  | x :: xs, h => by
    obtain ⟨ρ, h1, h2, h3⟩ := h x (List.mem_cons_self ..)
    have ih := compL_filter hg fun y hy => h y (List.mem_cons_of_mem _ hy)
    rw [compL, h1]
    cases e : c x with
    | true =>
      rw [e] at h2
      simp only [h2, h3, hg, if_true, ih]
      rw [List.filter_cons_of_pos e]
      rfl
    | false =>
      rw [e] at h2
      simp only [h2, hg, if_true, ih]
      rw [List.filter_cons_of_neg (by rw [e]; simp)]
/-- the place of a record -/
def placeL : Int → List Int → List Int → Int
  | p, s :: ss, r :: rs => placeL (p * s + r) ss rs
  | p, _, _ => p
theorem placeL_snoc : ∀ (p : Int) (ss rs : List Int) (s r : Int), ss.length = rs.length → placeL p (ss ++ [s]) (rs ++ [r]) = placeL p ss rs * s + r
  | p, [], [], s, r, _ => rfl
  | p, s0 :: ss, r0 :: rs, s, r, h => placeL_snoc (p * s0 + r0) ss rs s r (by simpa using h)
  | _, [], _ :: _, _, _, h => by cases h
  | _, _ :: _, [], _, _, h => by cases h
/-- within the frame -/
def inF : List Int → List Int → Prop
  | [], [] => True
  | s :: ss, r :: rs => 0 ≤ r ∧ r < s ∧ inF ss rs
  | _, _ => False
theorem inF_len : ∀ {ss rs : List Int}, inF ss rs → ss.length = rs.length
  | [], [], _ => rfl
  | _ :: ss, _ :: rs, h => by simp [inF_len h.2.2]
  | [], _ :: _, h => h.elim
  | _ :: _, [], h => h.elim
theorem inF_snoc : ∀ {ss rs : List Int} {s r : Int}, inF ss rs → 0 ≤ r → r < s → inF (ss ++ [s]) (rs ++ [r])
  | [], [], s, r, _, h1, h2 => ⟨h1, h2, trivial⟩
  | _ :: ss, _ :: rs, s, r, h, h1, h2 => ⟨h.1, h.2.1, inF_snoc h.2.2 h1 h2⟩
  | [], _ :: _, _, _, h, _, _ => h.elim
  | _ :: _, [], _, _, h, _, _ => h.elim
theorem placeL_bound : ∀ {ss rs : List Int} {p q : Int}, inF ss rs → goodSizes ss → 0 ≤ p → p < q → 0 ≤ placeL p ss rs ∧ placeL p ss rs < q * prodI ss
  | [], [], p, q, _, _, h0, h1 => by simp [placeL, prodI]; omega
  | s :: ss, r :: rs, p, q, h, hg, h0, h1 => by
    have hs := hg s (List.mem_cons_self ..)
    have hp : 0 ≤ p * s := Int.mul_nonneg h0 (by omega)
    have hq : p * s + s ≤ q * s := by
      have : (p + 1) * s ≤ q * s := Int.mul_le_mul_of_nonneg_right (by omega) (by omega)
      rw [Int.add_mul, Int.one_mul] at this
      exact this
    have h3 := h.2.1
    have h4 := h.1
    have := placeL_bound (p := p * s + r) (q := q * s) h.2.2 (fun x hx => hg x (List.mem_cons_of_mem _ hx)) (by omega) (by omega)
    rw [placeL, prodI, ← Int.mul_assoc]
    exact this
  | [], _ :: _, _, _, h, _, _, _ => h.elim
  | _ :: _, [], _, _, h, _, _, _ => h.elim
theorem flat_at {s : Int} : ∀ {l : List (List Val)} {i : Nat} {r : List Val}, (l.flatMap (stepR s))[i]? = some r → ∃ j k q, l[j]? = some q ∧ k < s.toNat ∧ r = q ++ [.int (k : Nat)] ∧ i = j * s.toNat + k
  | [], i, r, h => by simp at h
  | q :: l, i, r, h => by
    rw [List.flatMap_cons] at h
    by_cases hi : i < s.toNat
    · rw [List.getElem?_append_left (by rw [stepR_len]; exact hi)] at h
      unfold stepR at h
      rw [List.getElem?_map, List.getElem?_range hi] at h
      cases h
      exact ⟨0, i, q, rfl, hi, rfl, by omega⟩
    · rw [List.getElem?_append_right (by rw [stepR_len]; omega), stepR_len] at h
      obtain ⟨j, k, q', h1, h2, h3, h4⟩ := flat_at h
      refine ⟨j + 1, k, q', h1, h2, h3, ?_⟩
      rw [Nat.succ_mul]; omega
/-- which record stands where -/
def RecAt (pre : List Int) (r : List Val) (j : Nat) : Prop := ∃ rs : List Int, r = rs.map .int ∧ inF pre rs ∧ placeL 0 pre rs = (j : Nat)
theorem recsF_at : ∀ (ss pre : List Int) (found : List (List Val)), (∀ s ∈ ss, 0 ≤ s) → (∀ j r, found[j]? = some r → RecAt pre r j) → ∀ i r, (recsF found ss)[i]? = some r → RecAt (pre ++ ss) r i
  | [], pre, found, _, h, i, r, e => by rw [List.append_nil]; exact h i r e
  | s :: ss, pre, found, hs, h, i, r, e => by
    have := recsF_at ss (pre ++ [s]) (found.flatMap (stepR s)) (fun x hx => hs x (List.mem_cons_of_mem _ hx)) (fun j r' hr' => by
      obtain ⟨j0, k, q, h1, h2, rfl, rfl⟩ := flat_at hr'
      obtain ⟨rs, rfl, h4, h5⟩ := h j0 q h1
      have s0 := hs s (List.mem_cons_self ..)
      refine ⟨rs ++ [((k : Nat) : Int)], by simp, inF_snoc h4 (by omega) (by omega), ?_⟩
      rw [placeL_snoc _ _ _ _ _ (inF_len h4), h5]
      have : ((j0 * s.toNat + k : Nat) : Int) = (j0 : Int) * s + (k : Int) := by
        rw [Int.natCast_add, Int.natCast_mul, Int.toNat_of_nonneg s0]
      rw [this]) i r e
    rw [List.append_assoc] at this
    exact this
theorem recs_at {fr : List Int} (hg : goodSizes fr) {i : Nat} {r : List Val} (h : (recsOf fr)[i]? = some r) : RecAt fr r i := by
  have := recsF_at fr [] [[]] (fun s hs => by have := hg s hs; omega) (fun j r hr => by
    cases j with
    | zero => cases hr; exact ⟨[], rfl, trivial, rfl⟩
    | succ j => simp at hr) i r h
  exact this
/-- being a record, two ways -/
theorem recB_iff : ∀ (fr : List Int) (vs : List Val), recB fr vs = true ↔ ∃ rs : List Int, vs = rs.map .int ∧ inF fr rs := by
  intro fr
  induction fr with
  | nil =>
    intro vs
    constructor
    · intro h
      simp [recB] at h
      exact ⟨[], by simp [h], trivial⟩
    · rintro ⟨rs, rfl, h⟩
      cases rs with
      | nil => rfl
      | cons _ _ => exact h.elim
  | cons s fr ih =>
    intro vs
    have key : ∀ v vs, recB (s :: fr) (v :: vs) = (belowV v s && recB fr vs) := fun v vs => by
      unfold recB
      rw [List.length_cons, List.length_cons, List.range_succ_eq_map, List.all_cons, List.all_map]
      have e1 : (decide (vs.length + 1 = fr.length + 1)) = decide (vs.length = fr.length) := by simp
      have e2 : ((fun k => belowV ((v :: vs).getD k .non) ((s :: fr).getD k 0)) ∘ Nat.succ) = fun k => belowV (vs.getD k .non) (fr.getD k 0) := by
        funext k
        simp
      rw [e1, e2]
      simp only [List.getD_cons_zero]
      cases belowV v s <;> cases decide (vs.length = fr.length) <;> rfl
    cases vs with
    | nil =>
      constructor
      · intro h; simp [recB] at h
      · rintro ⟨rs, e, h⟩
        cases rs with
        | nil => exact h.elim
        | cons _ _ => cases e
    | cons v vs =>
      rw [key, Bool.and_eq_true, ih]
      constructor
      · rintro ⟨h1, rs, rfl, h2⟩
        cases v with
        | int i =>
          simp [belowV] at h1
          exact ⟨i :: rs, rfl, h1.1, h1.2, h2⟩
        | _ => cases h1
      · rintro ⟨rs, e, h⟩
        cases rs with
        | nil => cases e
        | cons r rs =>
          cases e
          exact ⟨by simp [belowV, h.1, h.2.1], rs, rfl, h.2.2⟩
section
variable {P : Nat → Option Fn} {n : Nat} {μ : Sto}
theorem r_is_below (hV : Ext tbVals P) (h75 : P 75 = some F75) (v : Val) (m : Int) (h : Kn μ v) : run P (n + 3) 75 [v, .int m] μ = .ok (.bl (belowV v m)) μ := by
  rw [run_succ h75 _ _ rfl]
  have e := r_is_number hV (n := n) v h
  cases v with
  | int i =>
    by_cases h0 : 0 ≤ i
    · simp [F75, enter, e, isNum, h0, belowV, cleanO_same]
    · simp [F75, enter, e, isNum, h0, belowV, cleanO_same]
  | _ => simp [F75, enter, e, isNum, belowV, cleanO_same]
theorem r_is_row (h76 : P 76 = some F76) (v : Val) (m : Int) (h : Kn μ v) : run P (n + 1) 76 [v, .int m] μ = .ok (.bl (rowV v m)) μ := by
  rw [run_succ h76 _ _ rfl]
  cases v with
  | ref k =>
    obtain ⟨xs, e⟩ := h k rfl
    simp [F76, enter, isTys1, isTy, e, rowV, cleanO_same]
  | _ => simp [F76, enter, isTys1, isTy, rowV, cleanO_same]
end
end Mi
end

section
set_option linter.all false
set_option autoImplicit false
/-! TRecB: is_record, places. -/
namespace Mi
/-- the records' part of a table -/
structure HasRec (P : Nat → Option Fn) : Prop where
  v : Ext tbVals P
  h75 : P 75 = some F75
  h76 : P 76 = some F76
  h128 : P 128 = some F128
  h247 : P 247 = some F247
theorem place_i {α : Type} {xs : List α} {k : Nat} (h : k < xs.length) : ((place xs.length (k : Int)).bind fun j => xs[j]?) = some xs[k] := by
  rw [place_nat h]
  exact List.getElem?_eq_getElem h
section
variable {P : Nat → Option Fn} (H : HasRec P) {n : Nat} {μ : Sto} {fr : List Int}
include H
theorem r_is_record (v : Val) (h : KnT μ v) (hl : fr.length ≤ 6) : run P (n + 4) 247 [.tup (fr.map .int), v] μ = .ok (.bl (recV fr v)) μ := by
  rw [run_succ H.h247 _ _ rfl]
  have e1 := r_is_row H.h76 (n := n + 2) v (fr.length : Int) h.1
  cases v with
  | tup vs =>
    by_cases hv : vs.length = fr.length
    · have hv' : (vs.length : Int) = (fr.length : Int) := by omega
      have hb : ∀ k, k < fr.length → run P (n + 3) 75 [vs.getD k .non, .int (fr.getD k 0)] μ = .ok (.bl (belowV (vs.getD k .non) (fr.getD k 0))) μ := fun k hk => by
        refine r_is_below H.v H.h75 _ _ (h.2 _ ?_)
        rw [List.getD_eq_getElem?_getD, List.getElem?_eq_getElem (by omega : k < vs.length)]
        exact List.getElem_mem _
      have hc : compL (fun v => some [some (Val.tup (fr.map .int)), some (.tup vs), some v]) (ev (run P (n + 3)) (.op1 .not (.call 75 (.cons (.op2 .idx (.var 1) (.var 2)) (.cons (.op2 .idx (.var 0) (.var 2)) .nil))))) (ev (run P (n + 3)) (.var 2)) (.tup ((List.range fr.length).map fun i => Val.int (i : Nat))) ((List.range fr.length).map fun i => Val.int (i : Nat)) ((List.range fr.length).map fun i => Val.int (i : Nat)) μ = .ok ((((List.range fr.length).map fun i => Val.int (i : Nat)).filter fun x => match x with
          | .int k => !belowV (vs.getD k.toNat .non) (fr.getD k.toNat 0)
          | _ => true).map id) μ := by
        refine compL_filter rfl fun x hx => ?_
        obtain ⟨k, hk, rfl⟩ := List.mem_map.mp hx
        have hk' : k < fr.length := List.mem_range.mp hk
        have p1 : place vs.length (k : Int) = some k := place_nat (by omega)
        have p2 : place fr.length (k : Int) = some k := place_nat hk'
        have g1 : vs[k]? = some (vs[k]'(by omega)) := List.getElem?_eq_getElem (by omega)
        have g2 : fr[k]? = some fr[k] := List.getElem?_eq_getElem hk'
        have d1 : vs.getD k .non = vs[k]'(by omega) := by rw [List.getD_eq_getElem?_getD, List.getElem?_eq_getElem (by omega : k < vs.length)]; rfl
        have d2 : fr.getD k 0 = fr[k] := by rw [List.getD_eq_getElem?_getD, List.getElem?_eq_getElem hk']; rfl
        have hbk := hb k hk'
        rw [d1, d2] at hbk
        refine ⟨_, rfl, ?_, rfl⟩
        simp only [Int.toNat_natCast, d1, d2]
        simp [p1, p2, g1, g2, hbk]
      have hz : recB fr vs = true ↔ ((((List.range fr.length).map fun i => Val.int (i : Nat)).filter fun x => match x with
          | .int k => !belowV (vs.getD k.toNat .non) (fr.getD k.toNat 0)
          | _ => true).map id).length = 0 := by
        rw [List.map_id, List.length_eq_zero_iff, List.filter_eq_nil_iff]
        unfold recB
        rw [Bool.and_eq_true, decide_eq_true_eq, List.all_eq_true]
        constructor
        · rintro ⟨_, h2⟩ x hx
          obtain ⟨k, hk, rfl⟩ := List.mem_map.mp hx
          have := h2 k hk
          simp only [Int.toNat_natCast, this]
          simp
        · intro h2
          refine ⟨hv, fun k hk => ?_⟩
          have := h2 (.int (k : Nat)) (List.mem_map.mpr ⟨k, hk, rfl⟩)
          simp only [Int.toNat_natCast] at this
          simpa using this
      have l1 : (fr.length : Int) ≤ 16777216 := by omega
      have l2 : -(16777216 : Int) ≤ (fr.length : Int) := by omega
      have l3 : fr.length ≤ LIM := by simp only [LIM]; omega
      obtain ⟨L, hL⟩ : ∃ L, ((((List.range fr.length).map fun i => Val.int (i : Nat)).filter fun x => match x with
          | .int k => !belowV (vs.getD k.toNat .non) (fr.getD k.toNat 0)
          | _ => true).map id) = L := ⟨_, rfl⟩
      rw [hL] at hc hz
      have eo : ex (run P (n + 3)) F247.body (enter F247 [.tup (fr.map .int), .tup vs]) μ = .ret (.bl (recV fr (.tup vs))) (μ ++ [.lst L]) := by
        have hz' : decide ((L.length : Int) = 0) = recB fr vs := by
          by_cases q : L.length = 0
          · rw [decide_eq_true (by omega), hz.mpr q]
          · rw [decide_eq_false (by omega)]
            cases hr : recB fr vs with
            | true => exact absurd (hz.mp hr) q
            | false => rfl
        have hz'' : decide (L = []) = recB fr vs := by rw [← hz']; simp
        simp [F247, enter, e1, rowV, hv', l1, l2, hc, l3, newLst, hz'', recV]
      rw [eo]
      exact cleanO_app rfl
    · have hv' : ¬ (vs.length : Int) = (fr.length : Int) := by omega
      have hr : recB fr vs = false := by unfold recB; rw [decide_eq_false hv]; rfl
      simp [F247, enter, e1, rowV, hv', recV, hr, cleanO_same]
  | _ => simp [F247, enter, e1, rowV, recV, cleanO_same]
end
theorem inF_take : ∀ {ss rs : List Int} (j : Nat), inF ss rs → inF (ss.take j) (rs.take j)
  | [], [], j, _ => by simp; trivial
  | s :: ss, r :: rs, 0, _ => trivial
  | s :: ss, r :: rs, j + 1, h => ⟨h.1, h.2.1, inF_take j h.2.2⟩
  | [], _ :: _, _, h => h.elim
  | _ :: _, [], _, h => h.elim
theorem inF_at : ∀ {ss rs : List Int} {j : Nat} {s r : Int}, inF ss rs → ss[j]? = some s → rs[j]? = some r → 0 ≤ r ∧ r < s
  | s0 :: ss, r0 :: rs, 0, s, r, h, e1, e2 => by cases e1; cases e2; exact ⟨h.1, h.2.1⟩
  | s0 :: ss, r0 :: rs, j + 1, s, r, h, e1, e2 => inF_at h.2.2 e1 e2
  | [], _, _, _, _, _, e1, _ => by simp at e1
  | _ :: _, [], _, _, _, h, _, _ => h.elim
theorem GoodF.place {fr rs : List Int} (G : GoodF fr) (h : inF fr rs) (j : Nat) : 0 ≤ placeL 0 (fr.take j) (rs.take j) ∧ placeL 0 (fr.take j) (rs.take j) < 500 := by
  have := placeL_bound (p := 0) (q := 1) (inF_take j h) (fun x hx => G.g x (List.mem_of_mem_take hx)) (by omega) (by omega)
  have h2 := prodI_take G.g j
  have h3 := G.p
  omega
section
variable {P : Nat → Option Fn} (H : HasRec P) {n : Nat} {μ : Sto} {fr : List Int}
theorem pl_loop {C : CallF} (G : GoodF fr) {rs : List Int} (h : inF fr rs) : ∃ o, forL (bindT (.nm 3)) (ex C B128_1) (.tup ((List.range fr.length).map fun i => Val.int (i : Nat))) ((List.range fr.length).map fun i => Val.int (i : Nat)) ((List.range fr.length).map fun i => Val.int (i : Nat)) [some (.tup (fr.map .int)), some (.tup (rs.map .int)), some (.int 0), none] μ = .nx [some (.tup (fr.map .int)), some (.tup (rs.map .int)), some (.int (placeL 0 fr rs)), o] μ := by
  have hl := inF_len h
  obtain ⟨ρ', μ', e, rfl, o, rfl⟩ := forL_all (bind := bindT (.nm 3)) (body := ex C B128_1) (src := .tup ((List.range fr.length).map fun i => Val.int (i : Nat))) (all := (List.range fr.length).map fun i => Val.int (i : Nat))
    (I := fun j ρ μ' => μ = μ' ∧ ∃ o, ρ = [some (.tup (fr.map .int)), some (.tup (rs.map .int)), some (.int (placeL 0 (fr.take j) (rs.take j))), o]) (xs := (List.range fr.length).map fun i => Val.int (i : Nat)) (i := 0) (ρ := [some (.tup (fr.map .int)), some (.tup (rs.map .int)), some (.int 0), none]) (μ := μ) ⟨rfl, none, rfl⟩
    (fun j x ρ μ' hx hI => by
      obtain ⟨rfl, o, rfl⟩ := hI
      obtain ⟨hj, rfl⟩ := rng_at hx
      rw [Nat.zero_add]
      have hb := G.place h j
      have g1 : fr[j]? = some fr[j] := List.getElem?_eq_getElem hj
      have g2 : rs[j]? = some (rs[j]'(by omega)) := List.getElem?_eq_getElem (by omega)
      have p1 : place fr.length (j : Int) = some j := place_nat hj
      have p2 : place rs.length (j : Int) = some j := place_nat (by omega)
      have hs := G.g fr[j] (List.getElem_mem hj)
      have hm : ∀ μ, sem2 .mul (.int (placeL 0 (fr.take j) (rs.take j))) (.int fr[j]) μ = .ok (.int (placeL 0 (fr.take j) (rs.take j) * fr[j])) μ := fun μ => s_muli (by omega) (by omega)
      have e1 : placeL 0 (fr.take (j + 1)) (rs.take (j + 1)) = placeL 0 (fr.take j) (rs.take j) * fr[j] + rs[j]'(by omega) := by
        rw [List.take_add_one, List.take_add_one, g1, g2]
        exact placeL_snoc _ _ _ _ _ (by rw [List.length_take, List.length_take]; omega)
      refine ⟨_, [some (.tup (fr.map .int)), some (.tup (rs.map .int)), some (.int (placeL 0 (fr.take j) (rs.take j) * fr[j] + rs[j]'(by omega))), some (.int (j : Nat))], μ, rfl, .inl ?_, rfl, rfl, _, by rw [e1]⟩
      simp [B128_1, p1, p2, g1, g2, hm])
  refine ⟨o, ?_⟩
  rw [Nat.zero_add, show ((List.range fr.length).map fun i => Val.int (i : Nat)).length = fr.length by simp, List.take_length, show rs.take fr.length = rs by rw [hl]; exact List.take_length] at e
  exact e
include H
theorem r_place_in (G : GoodF fr) {rs : List Int} (h : inF fr rs) : run P (n + 1) 128 [.tup (fr.map .int), .tup (rs.map .int)] μ = .ok (.int (placeL 0 fr rs)) μ := by
  rw [run_succ H.h128 _ _ rfl]
  obtain ⟨o, e⟩ := pl_loop (C := run P n) (μ := μ) G h
  have l2 := G.l2
  have l3 : (fr.length : Int) ≤ 16777216 := by omega
  have l4 : -(16777216 : Int) ≤ (fr.length : Int) := by omega
  simp [F128, enter, l3, l4, e, cleanO_same]
end
end Mi
end

section
set_option linter.all false
set_option autoImplicit false
/-! SPail: a law's pail: a dict of a number that is milled, a count, and deep cells; draws of it. -/
namespace Mi
def pc (d : Nat) (m l : Int) : List (Val × Val) := [(.str [109, 105, 120], .int m), (.str [108, 97, 112], .int l), (.str [100, 101, 101, 112], .ref d)]
section
variable {d : Nat} {m l x : Int}
@[simp] theorem g_mix : dget (pc d m l) (.str [109, 105, 120]) = some (.int m) := rfl
@[simp] theorem g_lap : dget (pc d m l) (.str [108, 97, 112]) = some (.int l) := rfl
@[simp] theorem g_deep : dget (pc d m l) (.str [100, 101, 101, 112]) = some (.ref d) := rfl
@[simp] theorem p_mix : dput (pc d m l) (.str [109, 105, 120]) (.int x) = pc d x l := rfl
@[simp] theorem p_lap : dput (pc d m l) (.str [108, 97, 112]) (.int x) = pc d m x := rfl
@[simp] theorem pc_len : (pc d m l).length = 3 := rfl
@[simp] theorem lim3 : 3 < LIM := by decide
@[simp] theorem keyOk_s (s : List Nat) : keyOk false (.str s) = true := rfl
end
structure Pail (μ : Sto) (t d : Nat) (N : Int) : Prop where
  ex : ∃ (m l : Int) (ds : List Int), μ[t]? = some (.dict false (pc d m l)) ∧ μ[d]? = some (.lst (ds.map .int)) ∧ 0 ≤ m ∧ m < 2147480347 ∧ 0 ≤ l ∧ l ≤ N ∧ (∀ x ∈ ds, (0 : Int) ≤ x) ∧ ds.length ≤ 46
  ne : t ≠ d
theorem Pail.tl {μ : Sto} {t d : Nat} {N : Int} (T : Pail μ t d N) : t < μ.length := by
  obtain ⟨⟨m, l, ds, h, _⟩, _⟩ := T
  exact (List.getElem?_eq_some_iff.mp h).1
theorem Pail.dl {μ : Sto} {t d : Nat} {N : Int} (T : Pail μ t d N) : d < μ.length := by
  obtain ⟨⟨m, l, ds, _, h, _⟩, _⟩ := T
  exact (List.getElem?_eq_some_iff.mp h).1
theorem Pail.same {μ μ' : Sto} {t d : Nat} {N : Int} (T : Pail μ t d N) (h1 : μ'[t]? = μ[t]?) (h2 : μ'[d]? = μ[d]?) : Pail μ' t d N := by
  obtain ⟨⟨m, l, ds, h, h', r⟩, ne⟩ := T
  exact ⟨⟨m, l, ds, h1.trans h, h2.trans h', r⟩, ne⟩
theorem Pail.app {μ : Sto} {t d : Nat} {N : Int} (T : Pail μ t d N) (g : Sto) : Pail (μ ++ g) t d N := T.same (List.getElem?_append_left T.tl) (List.getElem?_append_left T.dl)
theorem Pail.set {μ : Sto} {t d k : Nat} {c : Cell} {N : Int} (T : Pail μ t d N) (h1 : k ≠ t) (h2 : k ≠ d) : Pail (μ.set k c) t d N := T.same (List.getElem?_set_ne h1) (List.getElem?_set_ne h2)
theorem Pail.le {μ : Sto} {t d : Nat} {N M : Int} (T : Pail μ t d N) (h : N ≤ M) : Pail μ t d M := by
  obtain ⟨⟨m, l, ds, h1, h2, h3, h4, h5, h6, r⟩, ne⟩ := T
  exact ⟨⟨m, l, ds, h1, h2, h3, h4, h5, by omega, r⟩, ne⟩
theorem Pail.clean {μ X : Sto} {t d : Nat} {N : Int} (T : Pail X t d N) (h1 : t < μ.length) (h2 : d < μ.length) (v : Val) : Pail (Mi.clean μ v X).2 t d N := T.same (clean_keep h1) (clean_keep h2)
/-- the pail alone is changed -/
def Only2 (t d : Nat) (μ μ' : Sto) : Prop := μ'.length = μ.length ∧ ∀ j, j ≠ t → j ≠ d → μ'[j]? = μ[j]?
theorem Only2.refl (t d : Nat) (μ : Sto) : Only2 t d μ μ := ⟨rfl, fun _ _ _ => rfl⟩
theorem Only2.trans {t d : Nat} {a b c : Sto} (h1 : Only2 t d a b) (h2 : Only2 t d b c) : Only2 t d a c := ⟨h2.1.trans h1.1, fun j x y => (h2.2 j x y).trans (h1.2 j x y)⟩
def Keep2 (t d : Nat) (μ μ' : Sto) : Prop := μ.length ≤ μ'.length ∧ ∀ j, j < μ.length → j ≠ t → j ≠ d → μ'[j]? = μ[j]?
theorem Keep2.refl (t d : Nat) (μ : Sto) : Keep2 t d μ μ := ⟨Nat.le_refl _, fun _ _ _ _ => rfl⟩
theorem Only2.keep {t d : Nat} {a b : Sto} (h : Only2 t d a b) : Keep2 t d a b := ⟨Nat.le_of_eq h.1.symm, fun j _ x y => h.2 j x y⟩
theorem Keep2.trans {t d : Nat} {a b c : Sto} (h1 : Keep2 t d a b) (h2 : Keep2 t d b c) : Keep2 t d a c := ⟨Nat.le_trans h1.1 h2.1, fun j hj x y => (h2.2 j (Nat.lt_of_lt_of_le hj h1.1) x y).trans (h1.2 j hj x y)⟩
theorem Keep2.app {t d : Nat} {a b : Sto} (h1 : Keep2 t d a b) (g : Sto) : Keep2 t d a (b ++ g) := ⟨by have := h1.1; simp; omega, fun j hj x y => by rw [List.getElem?_append_left (Nat.lt_of_lt_of_le hj h1.1)]; exact h1.2 j hj x y⟩
theorem Keep2.set {t d : Nat} {a b : Sto} (h1 : Keep2 t d a b) {k : Nat} (hk : a.length ≤ k) (c : Cell) : Keep2 t d a (b.set k c) := ⟨by rw [List.length_set]; exact h1.1, fun j hj x y => by rw [List.getElem?_set_ne (by omega)]; exact h1.2 j hj x y⟩
theorem Keep2.clean {t d : Nat} {a b : Sto} (h1 : Keep2 t d a b) (v : Val) : Keep2 t d a (Mi.clean a v b).2 := ⟨clean_len v h1.1, fun j hj x y => by rw [clean_keep hj]; exact h1.2 j hj x y⟩
theorem cleanO_len {μ X : Sto} {v : Val} (hv : v.under μ.length = true) (hl : X.length = μ.length) : cleanO μ (.ok v X) = .ok v X := by
  by_cases hs : stable μ X = true
  · rw [cleanO_take hs hv, ← hl, List.take_length]
  · show Out.ok (Mi.clean μ v X).1 (Mi.clean μ v X).2 = _
    unfold Mi.clean
    rw [if_neg hs]
section
variable {P : Nat → Option Fn} {μ : Sto} {t d : Nat} {N : Int} {n : Nat}
theorem r_scoop (h307 : P 307 = some F307) (T : Pail μ t d N) (hN : N ≤ 1000000000) {many : Int} (hm : 1 ≤ many) (hm2 : many ≤ 1000000000) : ∃ x μ2, run P (n + 1) 307 [.ref t, .int many] μ = .ok (.int x) μ2 ∧ 0 ≤ x ∧ x < many ∧ Pail μ2 t d (N + 1) ∧ Only2 t d μ μ2 := by
  have tl := T.tl
  have dl := T.dl
  obtain ⟨⟨m, l, ds, hT, hD, m0, m1, l0, l1, dp, dn⟩, ne⟩ := T
  obtain ⟨μ1, hμ1⟩ : ∃ μ1, μ.set t (.dict false (pc d m (l + 1))) = μ1 := ⟨_, rfl⟩
  have t1 : μ1[t]? = some (.dict false (pc d m (l + 1))) := by rw [← hμ1]; exact List.getElem?_set_self tl
  have d1 : μ1[d]? = some (.lst (ds.map .int)) := by rw [← hμ1, List.getElem?_set_ne ne]; exact hD
  have len1 : μ1.length = μ.length := by rw [← hμ1]; simp
  have o1 : ∀ j, j ≠ t → μ1[j]? = μ[j]? := fun j hj => by rw [← hμ1]; exact List.getElem?_set_ne (Ne.symm hj)
  have kmod : ∀ w μ, sem2 .mod (.int w) (.int many) μ = .ok (.int (w % many)) μ := fun w μ => s_mod (by omega)
  have rng : ∀ w : Int, 0 ≤ w % many ∧ w % many < many := fun w => ⟨Int.emod_nonneg _ (by omega), Int.emod_lt_of_pos _ (by omega)⟩
  rcases List.eq_nil_or_concat ds with rfl | ⟨ds', c, rfl⟩
  · have k1 : ∀ μ, sem2 .mul (.int m) (.int 31393) μ = .ok (.int (m * 31393)) μ := fun μ => s_muli (by omega) (by omega)
    have k2 : ∀ μ, sem2 .mul (.int (l + 1)) (.int 4801) μ = .ok (.int ((l + 1) * 4801)) μ := fun μ => s_muli (by omega) (by omega)
    obtain ⟨m', hm'⟩ : ∃ m', (m * 31393 + (l + 1) * 4801 + 31) % 2147480347 = m' := ⟨_, rfl⟩
    have k3 : ∀ μ, sem2 .mod (.int (m * 31393 + (l + 1) * 4801 + 31)) (.int 2147480347) μ = .ok (.int m') μ := fun μ => by rw [← hm']; exact s_mod (by omega)
    have m0' : 0 ≤ m' := by rw [← hm']; exact Int.emod_nonneg _ (by omega)
    have m1' : m' < 2147480347 := by rw [← hm']; exact Int.emod_lt_of_pos _ (by omega)
    have k4 : ∀ μ, sem2 .fdiv (.int m') (.int 101) μ = .ok (.int (m' / 101)) μ := fun μ => s_fdiv (by omega) (by omega)
    obtain ⟨μ2, hμ2⟩ : ∃ μ2, μ1.set t (.dict false (pc d m' (l + 1))) = μ2 := ⟨_, rfl⟩
    have t2 : μ2[t]? = some (.dict false (pc d m' (l + 1))) := by rw [← hμ2]; exact List.getElem?_set_self (by omega)
    have d2 : μ2[d]? = some (.lst (([] : List Int).map .int)) := by rw [← hμ2, List.getElem?_set_ne ne]; exact d1
    have len2 : μ2.length = μ.length := by rw [← hμ2]; simp [len1]
    refine ⟨m' / 101 % many, μ2, ?_, (rng _).1, (rng _).2, ⟨⟨m', l + 1, [], t2, d2, m0', m1', by omega, by omega, by simp, by simp⟩, ne⟩, len2, fun j h1 h2 => by rw [← hμ2, List.getElem?_set_ne (Ne.symm h1)]; exact o1 j h1⟩
    rw [run_succ h307 _ _ rfl]
    have eo : ex (run P n) F307.body (enter F307 [.ref t, .int many]) μ = .ret (.int (m' / 101 % many)) μ2 := by
      simp at d1
      simp [F307, enter, hT, hμ1, t1, d1, k1, k2, k3, hμ2, t2, k4, kmod]
    rw [eo]
    exact cleanO_len rfl len2
  · rw [List.concat_eq_append] at *
    have hc : 0 ≤ c := dp c (by simp)
    have dp' : ∀ x ∈ ds', (0 : Int) ≤ x := fun x hx => dp x (by simp [hx])
    have dn' : ds'.length ≤ 45 := by simp at dn; omega
    have d1' : μ1[d]? = some (.lst (ds'.map .int ++ [.int c])) := by rw [d1]; simp
    obtain ⟨μ2, hμ2⟩ : ∃ μ2, μ1.set d (.lst (ds'.map .int)) = μ2 := ⟨_, rfl⟩
    have t2 : μ2[t]? = some (.dict false (pc d m (l + 1))) := by rw [← hμ2, List.getElem?_set_ne (Ne.symm ne)]; exact t1
    have d2 : μ2[d]? = some (.lst (ds'.map .int)) := by rw [← hμ2]; exact List.getElem?_set_self (by omega)
    have len2 : μ2.length = μ.length := by rw [← hμ2]; simp [len1]
    have o2 : ∀ j, j ≠ t → j ≠ d → μ2[j]? = μ[j]? := fun j h1 h2 => by rw [← hμ2, List.getElem?_set_ne (Ne.symm h2)]; exact o1 j h1
    have kdiv : ∀ μ, sem2 .fdiv (.int c) (.int many) μ = .ok (.int (c / many)) μ := fun μ => s_fdiv (by omega) (by omega)
    have hlen : (0 : Int) < (ds'.length : Int) + 1 := by omega
    by_cases hge : many ≤ c
    · obtain ⟨μ3, hμ3⟩ : ∃ μ3, μ2.set d (.lst (ds'.map .int ++ [.int (c / many)])) = μ3 := ⟨_, rfl⟩
      have t3 : μ3[t]? = some (.dict false (pc d m (l + 1))) := by rw [← hμ3, List.getElem?_set_ne (Ne.symm ne)]; exact t2
      have d3 : μ3[d]? = some (.lst ((ds' ++ [c / many]).map .int)) := by rw [← hμ3, List.getElem?_set_self (by omega)]; simp
      have len3 : μ3.length = μ.length := by rw [← hμ3]; simp [len2]
      have hlim : ds'.length < 16777216 := by omega
      refine ⟨c % many, μ3, ?_, (rng _).1, (rng _).2, ⟨⟨m, l + 1, ds' ++ [c / many], t3, d3, m0, m1, by omega, by omega, fun x hx => ?_, by simp; omega⟩, ne⟩, len3, fun j h1 h2 => by rw [← hμ3, List.getElem?_set_ne (Ne.symm h2)]; exact o2 j h1 h2⟩
      · rw [run_succ h307 _ _ rfl]
        have eo : ex (run P n) F307.body (enter F307 [.ref t, .int many]) μ = .ret (.int (c % many)) μ3 := by
          simp [F307, enter, hT, hμ1, t1, d1', hlen, hμ2, hge, t2, d2, kdiv, hlim, hμ3, kmod]
        rw [eo]
        exact cleanO_len rfl len3
      · rcases List.mem_append.mp hx with hx | hx
        · exact dp' x hx
        · rw [List.mem_singleton.mp hx]; exact Int.ediv_nonneg hc (by omega)
    · refine ⟨c % many, μ2, ?_, (rng _).1, (rng _).2, ⟨⟨m, l + 1, ds', t2, d2, m0, m1, by omega, by omega, dp', by omega⟩, ne⟩, len2, o2⟩
      rw [run_succ h307 _ _ rfl]
      have eo : ex (run P n) F307.body (enter F307 [.ref t, .int many]) μ = .ret (.int (c % many)) μ2 := by
        simp [F307, enter, hT, hμ1, t1, d1', hlen, hμ2, hge, kmod]
      rw [eo]
      exact cleanO_len rfl len2
end
end Mi
end

section
set_option linter.all false
set_option autoImplicit false
/-! SLaw: things drawn, frames drawn, places. -/
namespace Mi
def rcs (fr : List Int) : List Val := (recsOf fr).map .tup
theorem recs_length {fr : List Int} (G : GoodF fr) : ((recsOf fr).length : Int) = prodI fr := by
  unfold recsOf
  rw [recsF_len, ← prod_toNat G.g]
  simp
theorem rcs_len {fr : List Int} (G : GoodF fr) : ((rcs fr).length : Int) = prodI fr := by
  rw [rcs, List.length_map]; exact recs_length G
theorem rcs_at {fr : List Int} (G : GoodF fr) {i : Nat} {v : Val} (h : (rcs fr)[i]? = some v) : ∃ rs : List Int, v = .tup (rs.map .int) ∧ inF fr rs ∧ placeL 0 fr rs = (i : Nat) := by
  rw [rcs, List.getElem?_map] at h
  cases hq : (recsOf fr)[i]? with
  | none => rw [hq] at h; cases h
  | some q =>
    rw [hq] at h
    cases h
    obtain ⟨rs, rfl, h1, h2⟩ := recs_at G.g hq
    exact ⟨rs, rfl, h1, h2⟩
theorem GoodF.pl {fr rs : List Int} (G : GoodF fr) (h : inF fr rs) : 0 ≤ placeL 0 fr rs ∧ placeL 0 fr rs < prodI fr := by
  have := placeL_bound (p := 0) (q := 1) h G.g (by omega) (by omega)
  omega
theorem placeL_inj : ∀ {ss a b : List Int} {p q : Int}, inF ss a → inF ss b → placeL p ss a = placeL q ss b → p = q ∧ a = b
  | [], [], [], p, q, _, _, h => ⟨h, rfl⟩
  | s :: ss, x :: a, y :: b, p, q, h1, h2, h => by
    obtain ⟨e1, e2⟩ := placeL_inj h1.2.2 h2.2.2 h
    have hx := h1.1
    have hx2 := h1.2.1
    have hy := h2.1
    have hy2 := h2.2.1
    have d1 : (x + p * s) / s = p := by rw [Int.add_mul_ediv_right _ _ (by omega), Int.ediv_eq_zero_of_lt hx hx2]; omega
    have d2 : (y + q * s) / s = q := by rw [Int.add_mul_ediv_right _ _ (by omega), Int.ediv_eq_zero_of_lt hy hy2]; omega
    have e3 : x + p * s = y + q * s := by omega
    rw [e3, d2] at d1
    subst d1
    exact ⟨rfl, by rw [e2, show x = y by omega]⟩
  | [], _ :: _, _, _, _, h, _, _ => h.elim
  | [], [], _ :: _, _, _, _, h, _ => h.elim
  | _ :: _, [], _, _, _, h, _, _ => h.elim
  | _ :: _, _ :: _, [], _, _, _, h, _ => h.elim
theorem rcs_place {fr rs : List Int} (G : GoodF fr) (h : inF fr rs) : (rcs fr)[(placeL 0 fr rs).toNat]? = some (.tup (rs.map .int)) := by
  have hp := G.pl h
  have hl := rcs_len G
  have g := List.getElem?_eq_getElem (by omega : (placeL 0 fr rs).toNat < (rcs fr).length)
  obtain ⟨rs', e, h1, h2⟩ := rcs_at G g
  rw [g, e]
  have := placeL_inj h1 h (p := 0) (q := 0) (by rw [h2]; omega)
  rw [this.2]
theorem eqvs_ints : ∀ (a b : List Int), eqvs (a.map .int) (b.map .int) = decide (a = b)
  | [], [] => by simp [eqvs]
  | [], _ :: _ => by simp [eqvs]
  | _ :: _, [] => by simp [eqvs]
  | x :: a, y :: b => by
    rw [List.map_cons, List.map_cons, eqvs, eqvs_ints a b, eqv]
    by_cases h1 : x = y
    · subst h1; simp
    · simp [h1]
theorem hks_ints {n : Nat} : ∀ ns : List Int, hks n (ns.map .int) = true
  | [] => by rfl
  | i :: ns => by rw [List.map_cons, hks, hks_ints ns]; rfl
theorem keyOk_ints (rs : List Int) : keyOk true (.tup (rs.map .int)) = true := by
  show (true && hks 7 (rs.map .int)) = true
  rw [hks_ints]; rfl
theorem mapInt_inj : ∀ {a b : List Int}, a.map Val.int = b.map Val.int → a = b
  | [], [], _ => rfl
  | [], _ :: _, h => by cases h
  | _ :: _, [], h => by cases h
  | x :: a, y :: b, h => by
    rw [List.map_cons, List.map_cons] at h
    obtain ⟨h1, h2⟩ := List.cons.inj h
    rw [Val.int.inj h1, mapInt_inj h2]
/-- keys that are tuples of ints -/
def IK (k : Val) : Prop := ∃ rs : List Int, k = .tup (rs.map .int)
theorem eqv_IK {a b : Val} (ha : IK a) (hb : IK b) : eqv a b = decide (a = b) := by
  obtain ⟨x, rfl⟩ := ha
  obtain ⟨y, rfl⟩ := hb
  rw [eqv, eqvs_ints]
  by_cases h : x = y
  · subst h; simp
  · rw [decide_eq_false h, decide_eq_false]
    intro z
    apply h
    have z' : x.map Val.int = y.map Val.int := Val.tup.inj z
    exact mapInt_inj z'
theorem dget_put {k k' v : Val} (hk : IK k) (hk' : IK k') : ∀ {kvs : List (Val × Val)}, (∀ p ∈ kvs, IK p.1) → dget (dput kvs k v) k' = if k = k' then some v else dget kvs k' := by
  have repl : ∀ {kvs : List (Val × Val)}, (∀ p ∈ kvs, IK p.1) → (dget kvs k).isSome = true → dget (kvs.map fun p => if eqv p.1 k then (p.1, v) else p) k' = if k = k' then some v else dget kvs k' := by
    intro kvs
    induction kvs with
    | nil => intro _ h; simp [dget] at h
    | cons p r ih =>
      intro hp h
      have h1 := hp p (List.mem_cons_self ..)
      have hr : ∀ q ∈ r, IK q.1 := fun q hq => hp q (List.mem_cons_of_mem _ hq)
      have e1 := eqv_IK h1 hk
      have e2 := eqv_IK h1 hk'
      by_cases c1 : p.1 = k
      · by_cases c2 : k = k'
        · subst c2
          rw [if_pos rfl]
          unfold dget
          rw [List.map_cons, List.find?_cons, e1, decide_eq_true c1, if_pos rfl]
          simp only [e1, decide_eq_true c1]
          rfl
        · have : (dget r k).isSome = true ∨ (dget r k).isSome = false := by cases (dget r k).isSome <;> simp
          have c3 : ¬ p.1 = k' := fun z => c2 (c1.symm.trans z)
          have tail : ∀ {s : List (Val × Val)}, (∀ q ∈ s, IK q.1) → dget (s.map fun p => if eqv p.1 k then (p.1, v) else p) k' = dget s k' := by
            intro s
            induction s with
            | nil => intro _; rfl
            | cons q s ihs =>
              intro hs
              have q1 := hs q (List.mem_cons_self ..)
              have f1 := eqv_IK q1 hk
              have f2 := eqv_IK q1 hk'
              have ihs' := ihs fun x hx => hs x (List.mem_cons_of_mem _ hx)
              unfold dget at ihs' ⊢
              rw [List.map_cons, List.find?_cons, List.find?_cons]
              by_cases d1 : q.1 = k
              · have d2 : ¬ q.1 = k' := fun z => c2 (d1.symm.trans z)
                rw [f1, decide_eq_true d1, if_pos rfl]
                simp only [f2, decide_eq_false d2]
                exact ihs'
              · rw [f1, decide_eq_false d1, if_neg (by simp)]
                cases hq : eqv q.1 k' with
                | true => rfl
                | false => exact ihs'
          rw [if_neg c2]
          have t := tail hr
          unfold dget at t ⊢
          rw [List.map_cons, List.find?_cons, List.find?_cons, e1, decide_eq_true c1, if_pos rfl]
          simp only [e2, decide_eq_false c3]
          exact t
      · have hs : (dget r k).isSome = true := by
          unfold dget at h ⊢
          rw [List.find?_cons, e1, decide_eq_false c1] at h
          exact h
        have ih' := ih hr hs
        unfold dget at ih' ⊢
        rw [List.map_cons, List.find?_cons, List.find?_cons, e1, decide_eq_false c1, if_neg (by simp)]
        cases hq : eqv p.1 k' with
        | true =>
          have c2 : p.1 = k' := by rw [e2] at hq; exact of_decide_eq_true hq
          rw [if_neg (fun z => c1 (c2.trans z.symm))]
        | false => exact ih'
  intro kvs hp
  unfold dput
  by_cases h : (dget kvs k).isSome = true
  · rw [if_pos h]; exact repl hp h
  · rw [if_neg h]
    have e2 := eqv_IK hk hk'
    unfold dget
    rw [List.find?_append]
    cases hq : (kvs.find? fun p => eqv p.1 k') with
    | none =>
      by_cases c : k = k'
      · subst c
        have e3 : eqv k k = true := by rw [e2]; simp
        simp [e3]
      · rw [if_neg c]
        simp [e2, c]
    | some q =>
      by_cases c : k = k'
      · subst c
        exfalso
        apply h
        unfold dget
        rw [hq]; rfl
      · rw [if_neg c]; rfl
theorem dput_IK {k v : Val} (hk : IK k) {kvs : List (Val × Val)} (h : ∀ p ∈ kvs, IK p.1) : ∀ p ∈ dput kvs k v, IK p.1 := by
  intro p hp
  unfold dput at hp
  split at hp
  · obtain ⟨q, hq, rfl⟩ := List.mem_map.mp hp
    split
    · exact h q hq
    · exact h q hq
  · rcases List.mem_append.mp hp with hp | hp
    · exact h p hp
    · rw [List.mem_singleton.mp hp]; exact hk
/-- what pairs with distinct keys come to -/
theorem dget_puts {k' : Val} (hk' : IK k') : ∀ {ps acc : List (Val × Val)}, (∀ p ∈ acc, IK p.1) → (∀ p ∈ ps, IK p.1) → (ps.map (·.1)).Nodup → (∀ v, (k', v) ∈ ps → dget (dputs acc ps) k' = some v) ∧ ((∀ v, (k', v) ∉ ps) → dget (dputs acc ps) k' = dget acc k')
  | [], acc, _, _, _ => ⟨fun v h => (by cases h), fun _ => rfl⟩
  | p :: ps, acc, ha, hp, hn => by
    have h1 := hp p (List.mem_cons_self ..)
    have hps : ∀ q ∈ ps, IK q.1 := fun q hq => hp q (List.mem_cons_of_mem _ hq)
    rw [List.map_cons, List.nodup_cons] at hn
    obtain ⟨r1, r2⟩ := dget_puts hk' (acc := dput acc p.1 p.2) (dput_IK h1 ha) hps hn.2
    refine ⟨fun v hv => ?_, fun hv => ?_⟩
    · show dget (dputs (dput acc p.1 p.2) ps) k' = some v
      rcases List.mem_cons.mp hv with rfl | hv
      · rw [r2 (fun w hw => hn.1 (List.mem_map.mpr ⟨_, hw, rfl⟩)), dget_put h1 hk' ha, if_pos rfl]
      · exact r1 v hv
    · show dget (dputs (dput acc p.1 p.2) ps) k' = dget acc k'
      rw [r2 (fun v h => hv v (List.mem_cons_of_mem _ h)), dget_put h1 hk' ha, if_neg]
      intro e
      exact hv p.2 (by rw [← e]; exact List.mem_cons_self ..)
/-- the places of a frame's records -/
def plp (fr : List Int) : List (Val × Val) := (List.range (rcs fr).length).map fun i => ((rcs fr).getD i .non, .int (i : Nat))
def plc (fr : List Int) : List (Val × Val) := dputs [] (plp fr)
theorem plp_IK {fr : List Int} (G : GoodF fr) : ∀ p ∈ plp fr, IK p.1 := fun p hp => by
  obtain ⟨i, hi, rfl⟩ := List.mem_map.mp hp
  have hi' := List.mem_range.mp hi
  have g := List.getElem?_eq_getElem hi'
  obtain ⟨rs, e, _⟩ := rcs_at G g
  exact ⟨rs, by simp [g, e]⟩
theorem plp_keys {fr : List Int} (G : GoodF fr) : ((plp fr).map (·.1)).Nodup := by
  have e : (plp fr).map (·.1) = rcs fr := by
    unfold plp
    rw [List.map_map]
    apply List.ext_getElem
    · simp
    · intro i h1 h2
      simp at h1
      simp [h2]
  rw [e]
  refine List.pairwise_iff_getElem.mpr fun i j hi hj hij z => ?_
  have g1 := List.getElem?_eq_getElem hi
  have g2 := List.getElem?_eq_getElem hj
  rw [z] at g1
  obtain ⟨a, ea, ia, pa⟩ := rcs_at G g1
  obtain ⟨b, eb, ib, pb⟩ := rcs_at G g2
  have z' : a.map Val.int = b.map Val.int := Val.tup.inj (ea.symm.trans eb)
  have z2 : a = b := mapInt_inj z'
  rw [z2] at pa
  omega
theorem plc_get {fr rs : List Int} (G : GoodF fr) (h : inF fr rs) : dget (plc fr) (.tup (rs.map .int)) = some (.int (placeL 0 fr rs)) := by
  have hp := G.pl h
  have hl := rcs_len G
  refine (dget_puts ⟨rs, rfl⟩ (by simp) (plp_IK G) (plp_keys G)).1 _ ?_
  refine List.mem_map.mpr ⟨(placeL 0 fr rs).toNat, List.mem_range.mpr (by omega), ?_⟩
  have := rcs_place G h
  rw [List.getD_eq_getElem?_getD, this]
  simp
  omega
theorem cons_erase {α : Type} : ∀ (l : List α) (i : Nat) (h : i < l.length), (l[i] :: l.eraseIdx i).Perm l
  | x :: xs, 0, _ => List.Perm.refl _
  | x :: xs, i + 1, h => by
    have ih := cons_erase xs i (by simpa using h)
    show (xs[i]'(by simpa using h) :: x :: xs.eraseIdx i).Perm (x :: xs)
    exact (List.Perm.swap x _ _).trans (ih.cons x)
def setV (R : List Val) (f : Int) (v : Val) : List Val := cut R 0 (clip R.length f) ++ [v] ++ cut R (clip R.length (f + 1)) R.length
theorem setV_len (R : List Val) (f : Int) (v : Val) : (setV R f v).length ≤ 2 * R.length + 1 := by
  have h1 := cut_len R 0 (clip R.length f)
  have h2 := cut_len R (clip R.length (f + 1)) R.length
  simp [setV]; omega
theorem setV_mem {R : List Val} {f : Int} {v w : Val} (h : w ∈ setV R f v) : w ∈ R ∨ w = v := by
  rcases List.mem_append.mp h with h | h
  · rcases List.mem_append.mp h with h | h
    · exact .inl (cut_mem h)
    · exact .inr (List.mem_singleton.mp h)
  · exact .inl (cut_mem h)
theorem cleanO_any {μ X : Sto} {v : Val} (hl : X.length = μ.length) : cleanO μ (.ok v X) = .ok v X := by
  by_cases hu : v.under μ.length = true
  · exact cleanO_len hu hl
  · show Out.ok (Mi.clean μ v X).1 (Mi.clean μ v X).2 = _
    unfold Mi.clean
    by_cases hs : stable μ X = true
    · rw [if_pos hs, if_neg hu]
      cases v with
      | ref k =>
        have hk : X[k]? = none := by
          rw [List.getElem?_eq_none_iff]
          rw [Val.under] at hu
          simp at hu
          omega
        simp only [hk]
      | _ => rfl
    · rw [if_neg hs]
section
variable {P : Nat → Option Fn} {μ : Sto} {t d : Nat} {N : Int} {n : Nat} {fr : List Int}
theorem setV_ev {C : CallF} {R : List Val} (hR : R.length ≤ 1000) (f : Int) (v : Val) : (∀ μ, sem2 .add (.tup (cut R 0 (clip R.length f))) (.tup [v]) μ = .ok (.tup (cut R 0 (clip R.length f) ++ [v])) μ) ∧ (∀ μ, sem2 .add (.tup (cut R 0 (clip R.length f) ++ [v])) (.tup (cut R (clip R.length (f + 1)) R.length)) μ = .ok (.tup (setV R f v)) μ) := by
  have h1 := cut_len R 0 (clip R.length f)
  have h2 := cut_len R (clip R.length (f + 1)) R.length
  exact ⟨fun μ => s_addt (by simp [LIM]; omega), fun μ => s_addt (by simp [LIM]; omega)⟩
theorem r_set (h312 : P 312 = some F312) {R : List Val} (hR : R.length ≤ 1000) (f : Int) (v : Val) : run P (n + 1) 312 [.tup R, .int f, v] μ = .ok (.tup (setV R f v)) μ := by
  rw [run_succ h312 _ _ rfl]
  have h := setV_ev (C := run P n) hR f v
  simp [F312, enter, h.1, h.2, cleanO_same]
theorem r_one (h307 : P 307 = some F307) (h308 : P 308 = some F308) (T : Pail μ t d N) (hN : N ≤ 100000000) {k : Nat} {xs : List Val} (hk : μ[k]? = some (.lst xs)) (k1 : k ≠ t) (k2 : k ≠ d) (l1 : 1 ≤ xs.length) (l2 : xs.length ≤ 1000000) :
    ∃ (i : Nat) (v : Val) (μ2 : Sto), run P (n + 2) 308 [.ref t, .ref k] μ = .ok v μ2 ∧ xs[i]? = some v ∧ Pail μ2 t d (N + 1) ∧ Only2 t d μ μ2 := by
  obtain ⟨x, μ2, e, x0, x1, T2, O2⟩ := r_scoop h307 (n := n) T (by omega) (many := (xs.length : Int)) (by omega) (by omega)
  have hx : x.toNat < xs.length := by omega
  have gx : xs[x.toNat]? = some xs[x.toNat] := List.getElem?_eq_getElem hx
  have px : place xs.length x = some x.toNat := place_pos x0 (by omega)
  have hk2 : μ2[k]? = some (.lst xs) := by rw [O2.2 _ k1 k2]; exact hk
  refine ⟨x.toNat, xs[x.toNat], μ2, ?_, gx, T2, O2⟩
  rw [run_succ h308 _ _ rfl]
  have eo : ex (run P (n + 1)) F308.body (enter F308 [.ref t, .ref k]) μ = .ret xs[x.toNat] μ2 := by
    simp [F308, enter, hk, e, hk2, px, gx]
  rw [eo]
  exact cleanO_any O2.1
theorem r_mixed (h307 : P 307 = some F307) (h309 : P 309 = some F309) (T : Pail μ t d N) (hN : N ≤ 100000) {k : Nat} {xs : List Val} (hk : μ[k]? = some (.lst xs)) (k1 : k ≠ t) (k2 : k ≠ d) (l2 : xs.length ≤ 1000) (hx : ∀ v ∈ xs, v.nor = true) :
    ∃ (k' : Nat) (ys : List Val) (μ' : Sto), run P (n + 2) 309 [.ref t, .ref k] μ = .ok (.ref k') μ' ∧ μ'[k']? = some (.lst ys) ∧ ys.length = xs.length ∧ (∀ y ∈ ys, y ∈ xs) ∧ Pail μ' t d (N + 1000) ∧ Keep2 t d μ μ' ∧ μ.length ≤ k' := by
  have tl := T.tl
  have dl := T.dl
  have lx1 : (xs.length : Int) ≤ 16777216 := by omega
  have lx2 : -(16777216 : Int) ≤ (xs.length : Int) := by omega
  obtain ⟨μ1, hμ1⟩ : ∃ μ1, μ ++ [.lst xs, .lst []] = μ1 := ⟨_, rfl⟩
  have len1 : μ1.length = μ.length + 2 := by rw [← hμ1]; simp
  have T1 : Pail μ1 t d N := by rw [← hμ1]; exact T.app _
  have K1 : Keep2 t d μ μ1 := by rw [← hμ1]; exact (Keep2.refl t d μ).app _
  have a1 : μ1[μ.length]? = some (.lst xs) := by rw [← hμ1, List.getElem?_append_right (Nat.le_refl _)]; simp
  have b1 : μ1[μ.length + 1]? = some (.lst []) := by rw [← hμ1, List.getElem?_append_right (by omega)]; simp
  have c1 : μ1[k]? = some (.lst xs) := by rw [← hμ1, List.getElem?_append_left (List.getElem?_eq_some_iff.mp hk).1]; exact hk
  obtain ⟨RG, hRG⟩ : ∃ RG, ((List.range xs.length).map fun i => Val.int (i : Nat)) = RG := ⟨_, rfl⟩
  have hRl : RG.length = xs.length := by rw [← hRG]; simp
  obtain ⟨ρ2, μ2, e2, left, ys, o4, rfl, T2, a2, b2, lsum, m1, m2, K2⟩ := forL_all (bind := bindT (.nm 4)) (body := ex (run P (n + 1)) B309_1) (src := .tup RG) (all := RG)
    (I := fun j ρ μ' => ∃ (left ys : List Val) (o4 : Option Val), ρ = [some (.ref t), some (.ref k), some (.ref μ.length), some (.ref (μ.length + 1)), o4] ∧ Pail μ' t d (N + j) ∧ μ'[μ.length]? = some (.lst left) ∧ μ'[μ.length + 1]? = some (.lst ys) ∧ left.length + j = xs.length ∧ ys.length = j ∧ (∀ v, v ∈ left ∨ v ∈ ys → v ∈ xs) ∧ Keep2 t d μ μ') (xs := RG) (i := 0) (ρ := [some (.ref t), some (.ref k), some (.ref μ.length), some (.ref (μ.length + 1)), none]) (μ := μ1)
    ⟨xs, [], none, rfl, by simpa using T1, a1, b1, by omega, rfl, by simp, K1⟩
    (fun j y ρ μ' hy hI => by
      obtain ⟨left, ys, o4, rfl, T', a', b', ls, hj, hm, K'⟩ := hI
      rw [Nat.zero_add] at *
      have hjn : j < xs.length := by have := (List.getElem?_eq_some_iff.mp hy).1; omega
      obtain ⟨x, μ3, e3, x0, x1, T3, O3⟩ := r_scoop h307 (n := n) T' (by omega) (many := (left.length : Int)) (by omega) (by omega)
      have a3 : μ3[μ.length]? = some (.lst left) := by rw [O3.2 _ (by omega) (by omega)]; exact a'
      have b3 : μ3[μ.length + 1]? = some (.lst ys) := by rw [O3.2 _ (by omega) (by omega)]; exact b'
      have hxl : x.toNat < left.length := by omega
      have gx : left[x.toNat]? = some left[x.toNat] := List.getElem?_eq_getElem hxl
      have hk3 : μ.length < μ3.length := (List.getElem?_eq_some_iff.mp a3).1
      have hk3' : μ.length + 1 < μ3.length := (List.getElem?_eq_some_iff.mp b3).1
      have hpop : sem2 .popAt (.ref μ.length) (.int x) μ3 = .ok left[x.toNat] (μ3.set μ.length (.lst (left.eraseIdx x.toNat))) := by
        have q1 : 0 ≤ x ∧ x < (left.length : Int) ∧ left.length ≤ LIM := ⟨x0, x1, by simp only [LIM]; omega⟩
        simp only [sem2, a3]
        rw [if_pos q1]
        simp only [gx]
      obtain ⟨μ4, hμ4⟩ : ∃ μ4, μ3.set μ.length (.lst (left.eraseIdx x.toNat)) = μ4 := ⟨_, rfl⟩
      rw [hμ4] at hpop
      have b4 : μ4[μ.length + 1]? = some (.lst ys) := by rw [← hμ4, List.getElem?_set_ne (by omega)]; exact b3
      have hlim : ys.length < 16777216 := by omega
      refine ⟨_, [some (.ref t), some (.ref k), some (.ref μ.length), some (.ref (μ.length + 1)), some y], μ4.set (μ.length + 1) (.lst (ys ++ [left[x.toNat]])), rfl, .inl ?_, rfl, left.eraseIdx x.toNat, ys ++ [left[x.toNat]], some y, rfl, ?_, ?_, ?_, ?_, by simp [hj], ?_, ?_⟩
      · simp [B309_1, a', b', e3, hpop, b4, hlim]
      · rw [← hμ4]
        exact ((T3.set (k := μ.length) (by omega) (by omega)).set (by omega) (by omega)).le (by push_cast; omega)
      · rw [List.getElem?_set_ne (by omega), ← hμ4]; exact List.getElem?_set_self hk3
      · exact List.getElem?_set_self (by rw [← hμ4]; simpa using hk3')
      · rw [List.length_eraseIdx_of_lt hxl]; omega
      · rintro v (hv | hv)
        · exact hm v (.inl (List.mem_of_mem_eraseIdx hv))
        · rcases List.mem_append.mp hv with hv | hv
          · exact hm v (.inr hv)
          · rw [List.mem_singleton.mp hv]; exact hm _ (.inl (List.getElem_mem hxl))
      · rw [← hμ4]
        exact ((K'.trans O3.keep).set (by omega) _).set (by omega) _)
  have hnor : ∀ v ∈ ys, KnD 0 μ2 v := fun v hv => KnD_nor (v := v) μ2 0 v (hx v (m2 v (.inr hv)))
  obtain ⟨k', w1, w2, w3, w4, w5⟩ := clean_refD (μ := μ) (k := μ.length + 1) (by omega) b2 hnor
  rw [Nat.zero_add, hRl] at m1 T2
  refine ⟨k', ys, (Mi.clean μ (.ref (μ.length + 1)) μ2).2, ?_, w2, m1, fun y hy => m2 y (.inr hy), (T2.clean tl dl _).le (by omega), K2.clean _, w4⟩
  rw [run_succ h309 _ _ rfl]
  have eo : ex (run P (n + 1)) F309.body (enter F309 [.ref t, .ref k]) μ = .ret (.ref (μ.length + 1)) μ2 := by
    simp [F309, enter, hk, newLst, hμ1, c1, lx1, lx2, hRG, e2]
  rw [eo]
  show Out.ok (Mi.clean μ _ μ2).1 _ = _
  rw [w1]
/-- .. and it is the same things -/
theorem r_mixedP (h307 : P 307 = some F307) (h309 : P 309 = some F309) (T : Pail μ t d N) (hN : N ≤ 100000) {k : Nat} {xs : List Val} (hk : μ[k]? = some (.lst xs)) (k1 : k ≠ t) (k2 : k ≠ d) (l2 : xs.length ≤ 1000) (hx : ∀ v ∈ xs, v.nor = true) :
    ∃ (k' : Nat) (ys : List Val) (μ' : Sto), run P (n + 2) 309 [.ref t, .ref k] μ = .ok (.ref k') μ' ∧ μ'[k']? = some (.lst ys) ∧ ys.length = xs.length ∧ ys.Perm xs ∧ Pail μ' t d (N + 1000) ∧ Keep2 t d μ μ' ∧ μ.length ≤ k' := by
  have tl := T.tl
  have dl := T.dl
  have lx1 : (xs.length : Int) ≤ 16777216 := by omega
  have lx2 : -(16777216 : Int) ≤ (xs.length : Int) := by omega
  obtain ⟨μ1, hμ1⟩ : ∃ μ1, μ ++ [.lst xs, .lst []] = μ1 := ⟨_, rfl⟩
  have len1 : μ1.length = μ.length + 2 := by rw [← hμ1]; simp
  have T1 : Pail μ1 t d N := by rw [← hμ1]; exact T.app _
  have K1 : Keep2 t d μ μ1 := by rw [← hμ1]; exact (Keep2.refl t d μ).app _
  have a1 : μ1[μ.length]? = some (.lst xs) := by rw [← hμ1, List.getElem?_append_right (Nat.le_refl _)]; simp
  have b1 : μ1[μ.length + 1]? = some (.lst []) := by rw [← hμ1, List.getElem?_append_right (by omega)]; simp
  have c1 : μ1[k]? = some (.lst xs) := by rw [← hμ1, List.getElem?_append_left (List.getElem?_eq_some_iff.mp hk).1]; exact hk
  obtain ⟨RG, hRG⟩ : ∃ RG, ((List.range xs.length).map fun i => Val.int (i : Nat)) = RG := ⟨_, rfl⟩
  have hRl : RG.length = xs.length := by rw [← hRG]; simp
  obtain ⟨ρ2, μ2, e2, left, ys, o4, rfl, T2, a2, b2, lsum, m1, m2, K2⟩ := forL_all (bind := bindT (.nm 4)) (body := ex (run P (n + 1)) B309_1) (src := .tup RG) (all := RG)
    (I := fun j ρ μ' => ∃ (left ys : List Val) (o4 : Option Val), ρ = [some (.ref t), some (.ref k), some (.ref μ.length), some (.ref (μ.length + 1)), o4] ∧ Pail μ' t d (N + j) ∧ μ'[μ.length]? = some (.lst left) ∧ μ'[μ.length + 1]? = some (.lst ys) ∧ left.length + j = xs.length ∧ ys.length = j ∧ (left ++ ys).Perm xs ∧ Keep2 t d μ μ') (xs := RG) (i := 0) (ρ := [some (.ref t), some (.ref k), some (.ref μ.length), some (.ref (μ.length + 1)), none]) (μ := μ1)
    ⟨xs, [], none, rfl, by simpa using T1, a1, b1, by omega, rfl, by rw [List.append_nil], K1⟩
    (fun j y ρ μ' hy hI => by
      obtain ⟨left, ys, o4, rfl, T', a', b', ls, hj, hm, K'⟩ := hI
      rw [Nat.zero_add] at *
      have hjn : j < xs.length := by have := (List.getElem?_eq_some_iff.mp hy).1; omega
      obtain ⟨x, μ3, e3, x0, x1, T3, O3⟩ := r_scoop h307 (n := n) T' (by omega) (many := (left.length : Int)) (by omega) (by omega)
      have a3 : μ3[μ.length]? = some (.lst left) := by rw [O3.2 _ (by omega) (by omega)]; exact a'
      have b3 : μ3[μ.length + 1]? = some (.lst ys) := by rw [O3.2 _ (by omega) (by omega)]; exact b'
      have hxl : x.toNat < left.length := by omega
      have gx : left[x.toNat]? = some left[x.toNat] := List.getElem?_eq_getElem hxl
      have hk3 : μ.length < μ3.length := (List.getElem?_eq_some_iff.mp a3).1
      have hk3' : μ.length + 1 < μ3.length := (List.getElem?_eq_some_iff.mp b3).1
      have hpop : sem2 .popAt (.ref μ.length) (.int x) μ3 = .ok left[x.toNat] (μ3.set μ.length (.lst (left.eraseIdx x.toNat))) := by
        have q1 : 0 ≤ x ∧ x < (left.length : Int) ∧ left.length ≤ LIM := ⟨x0, x1, by simp only [LIM]; omega⟩
        simp only [sem2, a3]
        rw [if_pos q1]
        simp only [gx]
      obtain ⟨μ4, hμ4⟩ : ∃ μ4, μ3.set μ.length (.lst (left.eraseIdx x.toNat)) = μ4 := ⟨_, rfl⟩
      rw [hμ4] at hpop
      have b4 : μ4[μ.length + 1]? = some (.lst ys) := by rw [← hμ4, List.getElem?_set_ne (by omega)]; exact b3
      have hlim : ys.length < 16777216 := by omega
      refine ⟨_, [some (.ref t), some (.ref k), some (.ref μ.length), some (.ref (μ.length + 1)), some y], μ4.set (μ.length + 1) (.lst (ys ++ [left[x.toNat]])), rfl, .inl ?_, rfl, left.eraseIdx x.toNat, ys ++ [left[x.toNat]], some y, rfl, ?_, ?_, ?_, ?_, by simp [hj], ?_, ?_⟩
      · simp [B309_1, a', b', e3, hpop, b4, hlim]
      · rw [← hμ4]
        exact ((T3.set (k := μ.length) (by omega) (by omega)).set (by omega) (by omega)).le (by push_cast; omega)
      · rw [List.getElem?_set_ne (by omega), ← hμ4]; exact List.getElem?_set_self hk3
      · exact List.getElem?_set_self (by rw [← hμ4]; simpa using hk3')
      · rw [List.length_eraseIdx_of_lt hxl]; omega
      · refine List.Perm.trans ?_ hm
        have h1 : (left[x.toNat] :: left.eraseIdx x.toNat).Perm left := cons_erase _ _ hxl
        have h2 := h1.append_right ys
        refine List.Perm.trans ?_ h2
        rw [← List.append_assoc]
        exact (List.perm_append_comm (l₁ := left.eraseIdx x.toNat ++ ys) (l₂ := [left[x.toNat]]))
      · rw [← hμ4]
        exact ((K'.trans O3.keep).set (by omega) _).set (by omega) _)
  have hnor : ∀ v ∈ ys, KnD 0 μ2 v := fun v hv => KnD_nor (v := v) μ2 0 v (hx v (m2.mem_iff.mp (List.mem_append_right _ hv)))
  obtain ⟨k', w1, w2, w3, w4, w5⟩ := clean_refD (μ := μ) (k := μ.length + 1) (by omega) b2 hnor
  rw [Nat.zero_add, hRl] at m1 T2 lsum
  refine ⟨k', ys, (Mi.clean μ (.ref (μ.length + 1)) μ2).2, ?_, w2, m1, (by have : left = [] := List.length_eq_zero_iff.mp (by omega); rw [this] at m2; exact m2), (T2.clean tl dl _).le (by omega), K2.clean _, w4⟩
  rw [run_succ h309 _ _ rfl]
  have eo : ex (run P (n + 1)) F309.body (enter F309 [.ref t, .ref k]) μ = .ret (.ref (μ.length + 1)) μ2 := by
    simp [F309, enter, hk, newLst, hμ1, c1, lx1, lx2, hRG, e2]
  rw [eo]
  show Out.ok (Mi.clean μ _ μ2).1 _ = _
  rw [w1]
end
end Mi
end

section
set_option linter.all false
set_option autoImplicit false
/-! SSame: a law's comparing with a stack of pairs, of equal things. -/
namespace Mi
mutual
def cnt : Val → Nat
  | .tup vs => cnts vs + 1
  | _ => 1
def cnts : List Val → Nat
  | [] => 0
  | v :: vs => cnt v + cnts vs
end
theorem cnt_pos : ∀ v : Val, 1 ≤ cnt v := fun v => by cases v <;> simp [cnt]
theorem cnts_append : ∀ (a b : List Val), cnts (a ++ b) = cnts a + cnts b
  | [], b => by simp [cnts]
  | v :: a, b => by rw [List.cons_append, cnts, cnts, cnts_append a b]; omega
theorem cnts_len : ∀ (a : List Val), a.length ≤ cnts a
  | [] => Nat.le_refl _
  | v :: a => by have := cnt_pos v; have := cnts_len a; rw [cnts, List.length_cons]; omega
theorem cnts_le {B : Nat} : ∀ {a : List Val}, (∀ v ∈ a, cnt v ≤ B) → cnts a ≤ a.length * B
  | [], _ => by simp [cnts]
  | v :: a, h => by
    have h1 := h v (List.mem_cons_self ..)
    have h2 := cnts_le fun w hw => h w (List.mem_cons_of_mem _ hw)
    rw [cnts, List.length_cons, Nat.succ_mul]; omega
def pairV (x : Val) : Val := .tup [x, x]
def cntS : List Val → Nat
  | .tup (x :: _) :: r => cnt x + cntS r
  | _ :: r => cntS r
  | [] => 0
theorem cntS_map : ∀ (a : List Val), cntS (a.map pairV) = cnts a
  | [] => rfl
  | v :: a => by rw [List.map_cons, cnts, ← cntS_map a]; rfl
section
variable {P : Nat → Option Fn} {μ : Sto} {n : Nat}
structure SmI (v : Val) (μ : Sto) (B : Nat) (ρ : Loc) (μ' : Sto) : Prop where
  ex : ∃ (todo : List Val) (g : Sto) (o3 o4 o5 : Option Val), ρ = [some v, some v, some (.ref μ.length), o3, o4, o5] ∧ μ' = μ ++ g ∧ (μ ++ g)[μ.length]? = some (.lst (todo.map pairV)) ∧ (∀ x ∈ todo, smp x = true) ∧ cnts todo ≤ B
theorem same_step {C : CallF} {v : Val} {B : Nat} (hB : B ≤ 10000000) {ρ : Loc} {μ' : Sto} (h : SmI v μ B ρ μ') :
    (∃ μ1, ev C (.op2 .gt (.op1 .len (.var 2)) (.cst (.int 0))) ρ μ' = .ok (.bl false) μ1 ∧ μ1 = μ') ∨
    (∃ ρ2 μ2, ev C (.op2 .gt (.op1 .len (.var 2)) (.cst (.int 0))) ρ μ' = .ok (.bl true) μ' ∧ (ex C B317_1 ρ μ' = .nx ρ2 μ2 ∨ ex C B317_1 ρ μ' = .cnt ρ2 μ2) ∧ SmI v μ B ρ2 μ2 ∧ (match μ2[μ.length]? with | some (.lst xs) => cntS xs | _ => 0) < (match μ'[μ.length]? with | some (.lst xs) => cntS xs | _ => 0)) := by
  obtain ⟨todo, g, o3, o4, o5, rfl, rfl, hk, hs, hb⟩ := h
  rcases List.eq_nil_or_concat todo with rfl | ⟨todo', x, rfl⟩
  · left
    refine ⟨_, ?_, rfl⟩
    simp at hk
    simp [hk]
  · right
    rw [List.concat_eq_append] at *
    have hkl := (List.getElem?_eq_some_iff.mp hk).1
    have hk' : (μ ++ g)[μ.length]? = some (.lst (todo'.map pairV ++ [pairV x])) := by rw [hk]; simp
    have hs' : ∀ y ∈ todo', smp y = true := fun y hy => hs y (by simp [hy])
    have hsx : smp x = true := hs x (by simp)
    have hcn : cnts todo' + cnt x ≤ B := by rw [cnts_append] at hb; simpa [cnts] using hb
    obtain ⟨μ1, hμ1⟩ : ∃ μ1, (μ ++ g).set μ.length (.lst (todo'.map pairV)) = μ1 := ⟨_, rfl⟩
    have g1 : ∃ g1, μ1 = μ ++ g1 := ⟨g.set 0 (.lst (todo'.map pairV)), by rw [← hμ1, List.set_append_right _ _ (Nat.le_refl _)]; simp⟩
    have k1 : μ1[μ.length]? = some (.lst (todo'.map pairV)) := by rw [← hμ1]; exact List.getElem?_set_self hkl
    have hlen : (0 : Int) < (todo'.length : Int) + 1 := by omega
    have ec : ev C (.op2 .gt (.op1 .len (.var 2)) (.cst (.int 0))) [some v, some v, some (.ref μ.length), o3, o4, o5] (μ ++ g) = .ok (.bl true) (μ ++ g) := by
      simp [hk', hlen]
    have fin' : ∀ (X : Sto) (todo2 : List Val) (o5' : Option Val), (∃ g2, X = μ ++ g2) → X[μ.length]? = some (.lst (todo2.map pairV)) → (∀ y ∈ todo2, smp y = true) → cnts todo2 < cnts todo' + cnt x → ex C B317_1 [some v, some v, some (.ref μ.length), o3, o4, o5] (μ ++ g) = .nx [some v, some v, some (.ref μ.length), some x, some x, o5'] X →
        (∃ ρ2 μ2, ev C (.op2 .gt (.op1 .len (.var 2)) (.cst (.int 0))) [some v, some v, some (.ref μ.length), o3, o4, o5] (μ ++ g) = .ok (.bl true) (μ ++ g) ∧ (ex C B317_1 [some v, some v, some (.ref μ.length), o3, o4, o5] (μ ++ g) = .nx ρ2 μ2 ∨ ex C B317_1 [some v, some v, some (.ref μ.length), o3, o4, o5] (μ ++ g) = .cnt ρ2 μ2) ∧ SmI v μ B ρ2 μ2 ∧ (match μ2[μ.length]? with | some (.lst xs) => cntS xs | _ => 0) < (match (μ ++ g)[μ.length]? with | some (.lst xs) => cntS xs | _ => 0)) := by
      rintro X todo2 o5' ⟨g2, rfl⟩ hX hs2 hc2 he
      refine ⟨_, μ ++ g2, ec, .inl he, ⟨todo2, g2, some x, some x, o5', rfl, rfl, hX, hs2, by omega⟩, ?_⟩
      rw [hX, hk]
      simp only [cntS_map]
      rw [cnts_append]
      simpa [cnts] using hc2
    have cx := cnt_pos x
    have hpk : sem1 .pop (.ref μ.length) (μ ++ g) = .ok (pairV x) μ1 := by
      rw [s_pop, hk']
      simp [hμ1]
    have hpk2 : sem1 .pop (.ref μ.length) (μ ++ g) = .ok (.tup [x, x]) μ1 := hpk
    cases x with
    | tup vs =>
      rw [smp, Bool.and_eq_true, decide_eq_true_eq] at hsx
      have hvl : vs.length ≤ B := by have := cnts_len vs; rw [cnt] at hcn; omega
      have l1 : (vs.length : Int) ≤ 16777216 := by omega
      have l2 : -(16777216 : Int) ≤ (vs.length : Int) := by omega
      have l3 : vs.length ≤ LIM := by simp only [LIM]; omega
      obtain ⟨RG, hRG⟩ : ∃ RG, ((List.range vs.length).map fun i => Val.int (i : Nat)) = RG := ⟨_, rfl⟩
      have hRl : RG.length = vs.length := by rw [← hRG]; simp
      have hc : compL (fun w => some [some v, some v, some (.ref μ.length), some (.tup vs), some (.tup vs), some w]) (ev C (.cst (.bl true))) (ev C (.tupE (.cons (.op2 .idx (.var 3) (.var 5)) (.cons (.op2 .idx (.var 4) (.var 5)) .nil)))) (.tup RG) RG RG μ1 = .ok (RG.map fun w => match w with
          | .int i => pairV (vs.getD i.toNat .non)
          | w => w) μ1 := by
        refine compL_map rfl fun y hy => ?_
        rw [← hRG] at hy
        obtain ⟨i, hi, rfl⟩ := List.mem_map.mp hy
        have hi' := List.mem_range.mp hi
        have pi : place vs.length (i : Int) = some i := place_nat hi'
        have gi : vs[i]? = some vs[i] := List.getElem?_eq_getElem hi'
        exact ⟨_, rfl, rfl, by simp [pi, gi, pairV]⟩
      have hM : (RG.map fun w => match w with
          | .int i => pairV (vs.getD i.toNat .non)
          | w => w) = vs.map pairV := by
        rw [← hRG, List.map_map]
        apply List.ext_getElem
        · simp
        · intro i h1 h2
          simp at h1
          simp [h1]
      rw [hM] at hc
      obtain ⟨g1, rfl⟩ := g1
      have hl1 : μ.length < (μ ++ g1).length := (List.getElem?_eq_some_iff.mp k1).1
      obtain ⟨μ2, hμ2⟩ : ∃ μ2, (μ ++ g1) ++ [.lst (vs.map pairV)] = μ2 := ⟨_, rfl⟩
      have k2 : μ2[μ.length]? = some (.lst (todo'.map pairV)) := by rw [← hμ2, List.getElem?_append_left hl1]; exact k1
      have k2' : μ2[(μ ++ g1).length]? = some (.lst (vs.map pairV)) := by rw [← hμ2, List.getElem?_append_right (Nat.le_refl _)]; simp
      have hl2 : μ.length < μ2.length := (List.getElem?_eq_some_iff.mp k2).1
      have hlim : todo'.length + vs.length ≤ LIM := by
        have h1 := cnts_len todo'
        have h2 := cnts_len vs
        rw [cnt] at hcn
        simp only [LIM]; omega
      have hlim' : (todo'.map pairV).length + (vs.map pairV).length ≤ LIM := by simpa using hlim
      have hex : sem2 .extend (.ref μ.length) (.ref (μ ++ g1).length) μ2 = .ok .non (μ2.set μ.length (.lst (todo'.map pairV ++ vs.map pairV))) := by
        rw [s_ext, k2, k2']
        exact if_pos hlim'
      refine fin' (μ2.set μ.length (.lst (todo'.map pairV ++ vs.map pairV))) (todo' ++ vs) o5 ⟨(g1 ++ [Cell.lst (vs.map pairV)]).set 0 (.lst (todo'.map pairV ++ vs.map pairV)), ?_⟩ ?_ ?_ ?_ ?_
      · rw [← hμ2, List.append_assoc, List.set_append_right _ _ (Nat.le_refl _)]; simp
      · rw [List.getElem?_set_self hl2]; simp
      · intro y hy
        rcases List.mem_append.mp hy with hy | hy
        · exact hs' y hy
        · exact smps_mem hsx.2 y hy
      · rw [cnts_append, cnt]; omega
      · simp only [List.length_append] at hex hμ2
        simp [B317_1, hpk2, isTys, isTy, k1, l1, l2, l3, hRG, hRl, hc, newLst, hμ2, k2, hex]
    | ref k => simp [smp] at hsx
    | scr k => simp [smp] at hsx
    | zp a b c d => simp [smp] at hsx
    | _ => exact fin' μ1 todo' o5 g1 k1 hs' (by omega) (by simp [B317_1, hpk2, isTys, isTy])
theorem r_same2 (h317 : P 317 = some F317) (v : Val) (hs : smp v = true) (hc : cnt v ≤ 10000000) : run P (n + 1) 317 [v, v] μ = .ok (.bl true) μ := by
  obtain ⟨μ0, hμ0⟩ : ∃ μ0, μ ++ [.lst [.tup [v, v]]] = μ0 := ⟨_, rfl⟩
  obtain ⟨ρ', μ', e, ⟨todo, g, o3, o4, o5, rfl, rfl, _⟩, _⟩ := whl_all (c := ev (run P n) (.op2 .gt (.op1 .len (.var 2)) (.cst (.int 0)))) (body := ex (run P n) B317_1) (I := SmI v μ 10000000) (fun ρ μ' => match μ'[μ.length]? with | some (.lst xs) => cntS xs | _ => 0)
    (fun ρ μ' h => same_step (by omega) h) (n := FUEL) (ρ := [some v, some v, some (.ref μ.length), none, none, none]) (μ := μ0)
    ⟨[v], [.lst [.tup [v, v]]], none, none, none, rfl, hμ0.symm, by simp [pairV], by simpa using hs, by simpa [cnts] using hc⟩ (by
      have : μ0[μ.length]? = some (.lst [.tup [v, v]]) := by rw [← hμ0]; simp
      rw [this]
      simp only [cntS]
      have : (10000000 : Nat) < FUEL := by decide
      omega)
  rw [run_succ h317 _ _ rfl]
  have eo : ex (run P n) F317.body (enter F317 [v, v]) μ = .ret (.bl true) (μ ++ g) := by
    simp [F317, enter, newLst, hμ0, e]
  rw [eo]
  exact cleanO_app rfl
end
end Mi
end

section
set_option linter.all false
set_option autoImplicit false
/-! SFrame: frames drawn; places; steps done; the pail. -/
namespace Mi
theorem goodS_one {s : Int} (h1 : 1 ≤ s) (h2 : s ≤ 12) : goodSizes [s] := fun x hx => by rw [List.mem_singleton.mp hx]; exact ⟨h1, h2⟩
section
variable {P : Nat → Option Fn} {μ : Sto} {t d : Nat} {N : Int} {n : Nat} {fr : List Int}
theorem r_sframe (h307 : P 307 = some F307) (h310 : P 310 = some F310) (T : Pail μ t d N) (hN : N ≤ 10000000) {most : Int} (hm1 : 2 ≤ most) (hm2 : most ≤ 500) :
    ∃ (fr : List Int) (μ' : Sto), run P (n + 2) 310 [.ref t, .int most] μ = .ok (.tup (fr.map .int)) μ' ∧ GoodF fr ∧ Pail μ' t d (N + 8) ∧ Keep2 t d μ μ' := by
  have tl := T.tl
  have dl := T.dl
  obtain ⟨μ1, hμ1⟩ : ∃ μ1, μ ++ [.lst []] = μ1 := ⟨_, rfl⟩
  have T1 : Pail μ1 t d N := by rw [← hμ1]; exact T.app _
  have K1 : Keep2 t d μ μ1 := by rw [← hμ1]; exact (Keep2.refl t d μ).app _
  have a1 : μ1[μ.length]? = some (.lst (([] : List Int).map .int)) := by rw [← hμ1, List.getElem?_append_right (Nat.le_refl _)]; simp
  obtain ⟨s, μ2, e2, s0, s1, T2, O2⟩ := r_scoop h307 (n := n) T1 (by omega) (many := 4) (by omega) (by omega)
  obtain ⟨a, b, ha, hb, ha1, ha2, hb1, hb2⟩ : ∃ a b : Int, [Val.int 3, .int 4, .int 6, .int 3][s.toNat]? = some (.int a) ∧ [Val.int 4, .int 3, .int 2, .int 12][s.toNat]? = some (.int b) ∧ 1 ≤ a ∧ a ≤ 6 ∧ 1 ≤ b ∧ b ≤ 12 := by
    rcases (show s.toNat = 0 ∨ s.toNat = 1 ∨ s.toNat = 2 ∨ s.toNat = 3 by omega) with e | e | e | e <;> rw [e]
    · exact ⟨3, 4, rfl, rfl, by omega, by omega, by omega, by omega⟩
    · exact ⟨4, 3, rfl, rfl, by omega, by omega, by omega, by omega⟩
    · exact ⟨6, 2, rfl, rfl, by omega, by omega, by omega, by omega⟩
    · exact ⟨3, 12, rfl, rfl, by omega, by omega, by omega, by omega⟩
  have ps : place 4 s = some s.toNat := place_pos s0 (by omega)
  obtain ⟨x, μ3, e3, x0, x1, T3, O3⟩ := r_scoop h307 (n := n) T2 (by omega) (many := a) (by omega) (by omega)
  have O23 := O2.trans O3
  have K3 := K1.trans O23.keep
  have a3 : μ3[μ.length]? = some (.lst (([] : List Int).map .int)) := by rw [O23.2 _ (by omega) (by omega)]; exact a1
  obtain ⟨laps, hlaps⟩ : ∃ laps : Int, 1 + x = laps := ⟨_, rfl⟩
  obtain ⟨RG, hRG⟩ : ∃ RG, ((List.range laps.toNat).map fun i => Val.int (i : Nat)) = RG := ⟨_, rfl⟩
  have hRl : RG.length = laps.toNat := by rw [← hRG]; simp
  obtain ⟨ρ4, μ4, e4, told, many, o5, o6, rfl, T4, a4, g4, l4, p4, m4, K4⟩ := forL_all (bind := bindT (.nm 5)) (body := ex (run P (n + 1)) B310_1) (src := .tup RG) (all := RG)
    (I := fun j ρ μ' => ∃ (told : List Int) (many : Int) (o5 o6 : Option Val), ρ = [some (.ref t), some (.int most), some (.ref μ.length), some (.int many), some (.int s), o5, o6] ∧ Pail μ' t d (N + 2 + j) ∧ μ'[μ.length]? = some (.lst (told.map .int)) ∧ goodSizes told ∧ told.length ≤ j ∧ prodI told = many ∧ many ≤ most ∧ Keep2 t d μ μ') (xs := RG) (i := 0) (ρ := [some (.ref t), some (.int most), some (.ref μ.length), some (.int 1), some (.int s), none, none]) (μ := μ3)
    ⟨[], 1, none, none, rfl, T3.le (by omega), a3, (by intro x hx; cases hx), by simp, rfl, by omega, K3⟩
    (fun j y ρ μ' hy hI => by
      obtain ⟨told, many, o5, o6, rfl, T', a', g', l', p', m', K'⟩ := hI
      rw [Nat.zero_add] at *
      have hjn : j < 6 := by have := (List.getElem?_eq_some_iff.mp hy).1; omega
      obtain ⟨z, μ5, e5, z0, z1, T5, O5⟩ := r_scoop h307 (n := n) T' (by omega) (many := b) (by omega) (by omega)
      have a5 : μ5[μ.length]? = some (.lst (told.map .int)) := by rw [O5.2 _ (by omega) (by omega)]; exact a'
      have hkl : μ.length < μ5.length := (List.getElem?_eq_some_iff.mp a5).1
      have mp := prodI_pos g'
      have hmul : ∀ μ, sem2 .mul (.int many) (.int (1 + z)) μ = .ok (.int (many * (1 + z))) μ := fun μ => s_muli (by omega) (by omega)
      have hlim : told.length < 16777216 := by omega
      by_cases hle : many * (1 + z) ≤ most
      · refine ⟨_, [some (.ref t), some (.int most), some (.ref μ.length), some (.int (many * (1 + z))), some (.int s), some y, some (.int (1 + z))], μ5.set μ.length (.lst (told.map .int ++ [.int (1 + z)])), rfl, .inl ?_, rfl, told ++ [1 + z], many * (1 + z), some y, some (.int (1 + z)), rfl, (T5.set (by omega) (by omega)).le (by push_cast; omega), by rw [List.getElem?_set_self hkl]; simp, ?_, by simp; omega, ?_, hle, (K'.trans O5.keep).set (Nat.le_refl _) _⟩
        · simp [B310_1, ps, hb, e5, hmul, hle, a5, hlim]
        · intro w hw
          rcases List.mem_append.mp hw with hw | hw
          · exact g' w hw
          · rw [List.mem_singleton.mp hw]; omega
        · rw [prodI_append, p']; simp [prodI]
      · refine ⟨_, [some (.ref t), some (.int most), some (.ref μ.length), some (.int many), some (.int s), some y, some (.int (1 + z))], μ5, rfl, .inl ?_, rfl, told, many, some y, some (.int (1 + z)), rfl, T5.le (by push_cast; omega), a5, g', by omega, p', m', K'.trans O5.keep⟩
        simp [B310_1, ps, hb, e5, hmul, hle])
  rw [Nat.zero_add, hRl] at l4 T4
  have hl1 : -(16777216 : Int) ≤ laps := by omega
  have hl2 : laps ≤ 16777216 := by omega
  obtain ⟨fr, G, efr⟩ : ∃ fr : List Int, GoodF fr ∧ ex (run P (n + 1)) F310.body (enter F310 [.ref t, .int most]) μ = .ret (.tup (fr.map .int)) μ4 := by
    by_cases hz : 0 < told.length
    · have hz' : (0 : Int) < (told.length : Int) := by omega
      exact ⟨told, ⟨by omega, by omega, g4, by omega⟩, by simp [F310, enter, newLst, hμ1, e2, ps, ha, e3, hlaps, hl1, hl2, hRG, e4, a4, hz]⟩
    · have hz' : ¬ (0 : Int) < (told.length : Int) := by omega
      exact ⟨[2], ⟨by decide, by decide, goodS_one (by omega) (by omega), by decide⟩, by simp [F310, enter, newLst, hμ1, e2, ps, ha, e3, hlaps, hl1, hl2, hRG, e4, a4, hz]⟩
  refine ⟨fr, (Mi.clean μ (.tup (fr.map .int)) μ4).2, ?_, G, (T4.clean tl dl _).le (by omega), K4.clean _⟩
  rw [run_succ h310 _ _ rfl, efr]
  show Out.ok (Mi.clean μ _ μ4).1 _ = _
  rw [clean_val (by intro k z; cases z)]
theorem pairsOf_map : ∀ {ps : List (Val × Val)}, (∀ p ∈ ps, IK p.1) → pairsOf true (ps.map fun p => Val.tup [p.1, p.2]) = some ps
  | [], _ => rfl
  | p :: ps, h => by
    obtain ⟨rs, e⟩ := h p (List.mem_cons_self ..)
    have ih := pairsOf_map fun q hq => h q (List.mem_cons_of_mem _ hq)
    rw [List.map_cons, pairsOf, ih, e, if_pos (keyOk_ints rs)]
    show some ((Val.tup (rs.map .int), p.2) :: ps) = some (p :: ps)
    rw [← e]
end
end Mi
end

section
set_option linter.all false
set_option autoImplicit false
/-! SPail2: the pail; steps drawn. -/
namespace Mi
section
variable {P : Nat → Option Fn} {n : Nat}
theorem r_pail (h306 : P 306 = some F306) (ns : List Int) : ∃ μ', run P (n + 1) 306 [.scr ns] [] = .ok (.ref 1) μ' ∧ Pail μ' 1 0 0 := by
  obtain ⟨W, hW⟩ : ∃ W : Int, 1 * 2 ^ (1080 : Int).toNat = W := ⟨_, rfl⟩
  have W0 : 0 < W := by rw [← hW]; exact Int.mul_pos (by decide) (Int.pow_pos (by decide))
  have hshl : ∀ μ, sem2 .shl (.int 1) (.int 1080) μ = .ok (.int W) μ := fun μ => by
    rw [← hW]
    show (if (0 : Int) ≤ 1080 ∧ (1080 : Int) ≤ 1000000 ∧ (1 : Int).natAbs < 2 ^ 64 then Out.ok (Val.int (1 * 2 ^ (1080 : Int).toNat)) μ else Out.fail) = _
    exact if_pos ⟨by decide, by decide, by decide⟩
  have hpow : ∀ μ, sem2 .pow (.int 10) (.int 18) μ = .ok (.int 1000000000000000000) μ := fun _ => rfl
  obtain ⟨most, hmost⟩ : ∃ most : Int, (if (46 : Int) < (ns.length : Int) then 46 else (ns.length : Int)) = most := ⟨_, rfl⟩
  have hm : 0 ≤ most ∧ most ≤ 46 ∧ most ≤ ns.length := by rw [← hmost]; split <;> omega
  obtain ⟨RG, hRG⟩ : ∃ RG, ((List.range most.toNat).map fun i => Val.int (i : Nat)) = RG := ⟨_, rfl⟩
  have hRl : RG.length = most.toNat := by rw [← hRG]; simp
  obtain ⟨ρ', μ', e, m, ds, o2, o3, rfl, rfl, m0, m1, dp, dn⟩ := forL_all (bind := bindT (.nm 2)) (body := ex (run P n) B306_1) (src := .tup RG) (all := RG)
    (I := fun j ρ μ' => ∃ (m : Int) (ds : List Int) (o2 o3 : Option Val), ρ = [some (.scr ns), some (.ref 1), o2, o3] ∧ μ' = [.lst (ds.map .int), .dict false (pc 0 m 0)] ∧ 0 ≤ m ∧ m < 2147480347 ∧ (∀ x ∈ ds, (0 : Int) ≤ x) ∧ ds.length ≤ j) (xs := RG) (i := 0) (ρ := [some (.scr ns), some (.ref 1), none, none]) (μ := [.lst [], .dict false (pc 0 15013 0)])
    ⟨15013, [], none, none, rfl, rfl, by omega, by omega, by simp, by simp⟩
    (fun j y ρ μ' hy hI => by
      obtain ⟨m, ds, o2, o3, rfl, rfl, m0, m1, dp, dn⟩ := hI
      rw [Nat.zero_add] at *
      rw [← hRG] at hy
      obtain ⟨hj, rfl⟩ := rng_at hy
      have hjl : j < ns.length := by omega
      have pj : place ns.length (j : Int) = some j := place_nat hjl
      have gj : ns[j]? = some ns[j] := List.getElem?_eq_getElem hjl
      obtain ⟨ab, hab⟩ : ∃ ab : Int, (if ns[j] < 0 then -ns[j] else ns[j]) = ab := ⟨_, rfl⟩
      obtain ⟨cell, hcell⟩ : ∃ cell : Int, ab % W = cell := ⟨_, rfl⟩
      have c0 : 0 ≤ cell := by rw [← hcell]; exact Int.emod_nonneg _ (by omega)
      have k1 : ∀ μ, sem2 .mod (.int ab) (.int W) μ = .ok (.int cell) μ := fun μ => by rw [← hcell]; exact s_mod W0
      have k2 : ∀ μ, sem2 .mod (.int cell) (.int 998071) μ = .ok (.int (cell % 998071)) μ := fun μ => s_mod (by omega)
      have c1 := Int.emod_nonneg cell (show (998071 : Int) ≠ 0 by omega)
      have c2 := Int.emod_lt_of_pos cell (show (0 : Int) < 998071 by omega)
      have k3 : ∀ μ, sem2 .mul (.int m) (.int 2411) μ = .ok (.int (m * 2411)) μ := fun μ => s_muli (by omega) (by omega)
      have k4 : ∀ μ, sem2 .mul (.int 19) (.int (j : Int)) μ = .ok (.int (19 * j)) μ := fun μ => s_muli (by omega) (by omega)
      obtain ⟨m', hm'⟩ : ∃ m', (m * 2411 + cell % 998071 + 19 * (j : Int) + 7) % 2147480347 = m' := ⟨_, rfl⟩
      have k5 : ∀ μ, sem2 .mod (.int (m * 2411 + cell % 998071 + 19 * (j : Int) + 7)) (.int 2147480347) μ = .ok (.int m') μ := fun μ => by rw [← hm']; exact s_mod (by omega)
      have m0' : 0 ≤ m' := by rw [← hm']; exact Int.emod_nonneg _ (by omega)
      have m1' : m' < 2147480347 := by rw [← hm']; exact Int.emod_lt_of_pos _ (by omega)
      have hlim : ds.length < 16777216 := by omega
      by_cases hge : (1000000000000000000 : Int) ≤ cell
      · refine ⟨_, [some (.scr ns), some (.ref 1), some (.int (j : Nat)), some (.int cell)], _, rfl, .inl ?_, rfl, m', ds ++ [cell], some (.int (j : Nat)), some (.int cell), rfl, rfl, m0', m1', fun x hx => ?_, by simp; omega⟩
        · simp [B306_1, pj, gj, hab, hshl, k1, k2, k3, k4, k5, hpow, hge, hlim]
        · rcases List.mem_append.mp hx with hx | hx
          · exact dp x hx
          · rw [List.mem_singleton.mp hx]; exact c0
      · refine ⟨_, [some (.scr ns), some (.ref 1), some (.int (j : Nat)), some (.int cell)], _, rfl, .inl ?_, rfl, m', ds, some (.int (j : Nat)), some (.int cell), rfl, rfl, m0', m1', dp, by omega⟩
        simp [B306_1, pj, gj, hab, hshl, k1, k2, k3, k4, k5, hpow, hge])
  rw [Nat.zero_add, hRl] at dn
  have hl1 : -(16777216 : Int) ≤ most := by omega
  have hl2 : most ≤ 16777216 := by omega
  refine ⟨[.lst (ds.map .int), .dict false (pc 0 m 0)], ?_, ⟨⟨m, 0, ds, rfl, rfl, m0, m1, by omega, by omega, dp, by omega⟩, by decide⟩⟩
  rw [run_succ h306 _ _ rfl]
  have hdis : dputs [] [(Val.str [109, 105, 120], Val.int 15013), (.str [108, 97, 112], .int 0), (.str [100, 101, 101, 112], .ref 0)] = pc 0 15013 0 := rfl
  have eo : ex (run P n) F306.body (enter F306 [.scr ns]) [] = .ret (.ref 1) [.lst (ds.map .int), .dict false (pc 0 m 0)] := by
    simp [F306, enter, newLst, hdis, hmost, hl1, hl2, hRG, e]
  rw [eo]
  rfl
end
end Mi
end

section
set_option linter.all false
set_option autoImplicit false
/-! SKind: things of known kinds through calls. -/
namespace Mi
theorem KnD.take {μ μ' : Sto} (hl : μ.length ≤ μ'.length) : ∀ {n : Nat} {v : Val}, v.under μ.length = true → KnD n μ' v → KnD n (μ'.take μ.length) v := by
  have key : ∀ w : Val, w.under μ.length = true → Kn μ' w → Kn (μ'.take μ.length) w := fun w hw kw j ej => by
    obtain ⟨ys, hy⟩ := kw j ej
    subst ej
    rw [Val.under] at hw
    have hj : j < μ.length := by simpa using hw
    exact ⟨ys, by rw [List.getElem?_take_of_lt hj]; exact hy⟩
  intro n
  induction n with
  | zero => exact fun hu h => key _ hu h
  | succ n ih =>
    intro v hu h
    refine ⟨key v hu h.1, fun w hw => ih ?_ (h.2 w hw)⟩
    cases v with
    | tup vs => rw [Val.under] at hu; exact underAll_mem hu w hw
    | _ => cases hw
theorem KnD.cl {μ X : Sto} {n : Nat} {v : Val} (h : KnD n X v) : KnD n (Mi.clean μ v X).2 (Mi.clean μ v X).1 := by
  unfold Mi.clean
  by_cases hs : stable μ X = true
  · have hl : μ.length ≤ X.length := by
      unfold stable at hs
      rw [Bool.and_eq_true] at hs
      simpa using hs.1
    rw [if_pos hs]
    by_cases hu : v.under μ.length = true
    · rw [if_pos hu]; exact KnD.take hl hu h
    · rw [if_neg hu]
      cases v with
      | ref k =>
        simp only
        split
        · rename_i xs e
          split
          · refine KnD.ref (xs := xs) ?_
            simp only
            rw [List.getElem?_append_right (by rw [List.length_take]; omega)]
            simp [Nat.min_eq_left hl]
          · exact h
        · exact h
      | _ => exact h
  · rw [if_neg hs]; exact h
/-- what a call gives back, its kind known -/
theorem cleanO_kn {μ X : Sto} {n : Nat} {v : Val} {t d : Nat} {N : Int} (h : KnD n X v) (T : Pail X t d N) (h1 : t < μ.length) (h2 : d < μ.length) (K : Keep2 t d μ X) : ∃ v' μ', cleanO μ (.ok v X) = .ok v' μ' ∧ KnD n μ' v' ∧ Pail μ' t d N ∧ Keep2 t d μ μ' :=
  ⟨_, _, rfl, h.cl, T.clean h1 h2 v, K.clean v⟩
theorem belowV_int {a : Val} {m : Int} (h : belowV a m = true) : ∃ i : Int, a = .int i ∧ 0 ≤ i ∧ i < m := by
  cases a with
  | int i => simp [belowV] at h; exact ⟨i, rfl, h.1, h.2⟩
  | _ => cases h
theorem notAll_none {p : Val → Bool} {g : Val → Val} (xs : List Val) : decide ((((xs.filter fun x => !p x).map g).length : Int) = 0) = xs.all p := by
  rw [Bool.eq_iff_iff, decide_eq_true_eq, List.all_eq_true]
  constructor
  · intro h x hx
    have h' : (xs.filter fun x => !p x) = [] := by
      have : ((xs.filter fun x => !p x).map g).length = 0 := by omega
      rw [List.length_map] at this
      exact List.length_eq_zero_iff.mp this
    rw [List.filter_eq_nil_iff] at h'
    simpa using h' x hx
  · intro h
    have h' : (xs.filter fun x => !p x) = [] := List.filter_eq_nil_iff.mpr fun x hx => by simp [h x hx]
    rw [h']; rfl
theorem Keep2.grow {μ μ' : Sto} {t d : Nat} {N M : Int} (K : Keep2 t d μ μ') (T : Pail μ t d N) (T' : Pail μ' t d M) : Grow μ μ' := fun k xs h => by
  have hk := (List.getElem?_eq_some_iff.mp h).1
  by_cases h1 : k = t
  · subst h1
    obtain ⟨⟨m, l, ds, hT, _⟩, _⟩ := T
    rw [hT] at h; cases h
  · by_cases h2 : k = d
    · subst h2
      obtain ⟨⟨m, l, ds, _, hD, _⟩, _⟩ := T'
      exact ⟨_, hD⟩
    · exact ⟨xs, by rw [K.2 k hk h1 h2]; exact h⟩
theorem s_strI {y : Int} (h0 : 0 ≤ y) (h1 : y < 100) (μ : Sto) : sem1 .str (.int y) μ = .ok (.str (strI y)) μ := if_pos (by omega)
theorem KnD.flat {μ : Sto} {v : Val} (h : ∀ k, v ≠ .ref k) (h2 : items0 v = []) : ∀ {n : Nat}, KnD n μ v
  | 0 => Kn.flat h
  | _ + 1 => ⟨Kn.flat h, fun w hw => by rw [h2] at hw; cases hw⟩
theorem Kn_int (μ : Sto) (i : Int) : Kn μ (.int i) := Kn.flat (by intro k z; cases z)
theorem recV_in {fr : List Int} {v : Val} (h : recV fr v = true) : ∃ rs : List Int, v = .tup (rs.map .int) ∧ inF fr rs := by
  cases v with
  | tup vs => obtain ⟨rs, rfl, hi⟩ := (recB_iff fr vs).mp h; exact ⟨rs, rfl, hi⟩
  | _ => cases h
theorem in_recV {fr rs : List Int} (h : inF fr rs) : recV fr (.tup (rs.map .int)) = true := (recB_iff fr _).mpr ⟨rs, rfl, h⟩
section
variable {P : Nat → Option Fn} {μ : Sto} {t d : Nat} {N : Int} {n : Nat} {fr : List Int}
/-- one of a list's things -/
theorem r_pick (h307 : P 307 = some F307) (h308 : P 308 = some F308) (T : Pail μ t d N) (hN : N ≤ 100000000) {m k : Nat} {xs : List Val} (hx : ∀ v ∈ xs, KnD m μ v) (hk : μ[k]? = some (.lst xs)) (k1 : k ≠ t) (k2 : k ≠ d) (l1 : 1 ≤ xs.length) (l2 : xs.length ≤ 1000000) :
    ∃ (v : Val) (μ2 : Sto), run P (n + 2) 308 [.ref t, .ref k] μ = .ok v μ2 ∧ KnD m μ2 v ∧ v ∈ xs ∧ Pail μ2 t d (N + 1) ∧ Only2 t d μ μ2 := by
  obtain ⟨i, v, μ2, e, hv, T2, O2⟩ := r_one h307 h308 (n := n) T hN hk k1 k2 l1 l2
  have hm := List.mem_of_getElem? hv
  exact ⟨v, μ2, e, (hx v hm).grow (O2.keep.grow T T2), hm, T2, O2⟩
end
end Mi
end

section
set_option linter.all false
set_option autoImplicit false
/-! SOdd: things that are no records. -/
namespace Mi
theorem recV_clean {fr : List Int} {μ X : Sto} {v : Val} (h : recV fr v = false) : recV fr (Mi.clean μ v X).1 = false := by
  unfold Mi.clean
  split
  · split
    · exact h
    · split
      · split
        · split <;> rfl
        · rfl
      · exact h
  · exact h
theorem setV_at {R : List Val} {x : Int} {v : Val} (h0 : 0 ≤ x) (h1 : x < R.length) : (setV R x v).length = R.length ∧ (setV R x v)[x.toNat]? = some v := by
  have c1 : clip R.length x = x.toNat := by unfold clip; rw [if_neg (by omega)]; omega
  have c2 : clip R.length (x + 1) = x.toNat + 1 := by unfold clip; rw [if_neg (by omega)]; omega
  unfold setV
  rw [c1, c2]
  unfold cut
  constructor
  · simp; omega
  · rw [List.append_assoc, List.getElem?_append_right (by simp; omega)]
    simp
    rw [show x.toNat - min x.toNat R.length = 0 by omega]; rfl
theorem recV_len {fr : List Int} {vs : List Val} (h : vs.length ≠ fr.length) : recV fr (.tup vs) = false := by
  show recB fr vs = false
  unfold recB; rw [decide_eq_false h]; rfl
section
variable {P : Nat → Option Fn} {μ : Sto} {t d : Nat} {N : Int} {n : Nat} {fr : List Int}
theorem r_strange (h307 : P 307 = some F307) (h308 : P 308 = some F308) (h320 : P 320 = some F320) (T : Pail μ t d N) (hN : N ≤ 10000000) (G : GoodF fr) {rs : List Int} (h : inF fr rs) :
    ∃ (v : Val) (μ' : Sto), run P (n + 3) 320 [.ref t, .tup (fr.map .int), .tup (rs.map .int)] μ = .ok v μ' ∧ KnT μ' v ∧ recV fr v = false ∧ Pail μ' t d (N + 3) ∧ Keep2 t d μ μ' := by
  have tl := T.tl
  have dl := T.dl
  have g1 := G.l1
  have g2 := G.l2
  have hlen := inF_len h
  obtain ⟨x, μ1, e1, x0, x1, T1, O1⟩ := r_scoop h307 (n := n + 1) T (by omega) (many := (fr.length : Int)) (by omega) (by omega)
  have hx : x.toNat < fr.length := by omega
  have pf : place fr.length x = some x.toNat := place_pos x0 (by omega)
  have pr : place rs.length x = some x.toNat := place_pos x0 (by omega)
  obtain ⟨s, gs⟩ : ∃ s, fr[x.toNat]? = some s := ⟨_, List.getElem?_eq_getElem hx⟩
  obtain ⟨y, gy⟩ : ∃ y, rs[x.toNat]? = some y := ⟨_, List.getElem?_eq_getElem (by omega)⟩
  have hy := inF_at h gs gy
  have hs := G.g s (List.mem_of_getElem? gs)
  have hstr : ∀ μ, sem1 .str (.int y) μ = .ok (.str (strI y)) μ := s_strI hy.1 (by omega)
  obtain ⟨B10, hB⟩ : ∃ B, (10000000000000000000000000000000000000000 : Int) = B := ⟨_, rfl⟩
  have hpow : ∀ μ, sem2 .pow (.int 10) (.int 40) μ = .ok (.int B10) μ := fun _ => by rw [← hB]; rfl
  obtain ⟨told0, ht0⟩ : ∃ told0 : List Val, [Val.int s, .int (-1), .non, .bl true, .str (strI y), .int B10, .tup [.int y], .ref μ1.length] = told0 := ⟨_, rfl⟩
  obtain ⟨μ2, hμ2⟩ : ∃ μ2, μ1 ++ [.lst [], .lst told0] = μ2 := ⟨_, rfl⟩
  have T2 : Pail μ2 t d (N + 1) := by rw [← hμ2]; exact T1.app _
  have K2 : Keep2 t d μ μ2 := by rw [← hμ2]; exact O1.keep.app _
  have l1 : μ1.length = μ.length := O1.1
  have a2 : μ2[μ1.length + 1]? = some (.lst told0) := by rw [← hμ2, List.getElem?_append_right (by omega)]; simp
  have b2 : μ2[μ1.length]? = some (.lst []) := by rw [← hμ2, List.getElem?_append_right (by omega)]; simp
  have n2 : ∀ v ∈ told0, KnD 0 μ2 v := by
    rw [← ht0]
    intro v hv
    simp only [List.mem_cons, List.not_mem_nil, or_false] at hv
    rcases hv with rfl | rfl | rfl | rfl | rfl | rfl | rfl | rfl
    · exact Kn_int _ _
    · exact Kn_int _ _
    · exact Kn.flat (by intro k z; cases z)
    · exact Kn.flat (by intro k z; cases z)
    · exact Kn.flat (by intro k z; cases z)
    · exact Kn_int _ _
    · exact Kn.flat (by intro k z; cases z)
    · exact KnD.ref (n := 0) b2
  obtain ⟨v, μ3, e3, kv, mv, T3, O3⟩ := r_pick h307 h308 (n := n) T2 (by omega) n2 a2 (by omega) (by omega) (by rw [← ht0]; simp) (by rw [← ht0]; simp)
  have K3 := K2.trans O3.keep
  obtain ⟨R, hR⟩ : ∃ R : List Val, rs.map .int = R := ⟨_, rfl⟩
  have lR : R.length = rs.length := by rw [← hR]; simp
  have kR : ∀ {μ : Sto}, ∀ w ∈ R, Kn μ w := fun w hw => by
    rw [← hR] at hw
    obtain ⟨i, _, rfl⟩ := List.mem_map.mp hw
    exact Kn_int _ _
  have gR : R[x.toNat]? = some (.int y) := by rw [← hR, List.getElem?_map, gy]; rfl
  have pR : place R.length x = some x.toNat := place_pos x0 (by omega)
  obtain ⟨A, hA⟩ : ∃ A, cut R 0 (clip R.length x) ++ [v] = A := ⟨_, rfl⟩
  obtain ⟨B, hB'⟩ : ∃ B, setV R x v = B := ⟨_, rfl⟩
  obtain ⟨a1, a3⟩ := setV_ev (C := run P (n + 2)) (R := R) (by omega) x v
  rw [hA] at a1
  rw [hA, hB'] at a3
  have b3 : ∀ w ∈ B, w ∈ R ∨ w = v := fun w hw => setV_mem (by rw [hB']; exact hw)
  have atB := setV_at (R := R) (v := v) x0 (by omega)
  rw [hB'] at atB
  obtain ⟨E, hE⟩ : ∃ E, R ++ [.int 0] = E := ⟨_, rfl⟩
  have c1 : ∀ μ, sem2 .add (.tup R) (.tup [.int 0]) μ = .ok (.tup E) μ := fun μ => by rw [← hE]; exact s_addt (by simp [LIM]; omega)
  have c2 : ∀ w ∈ E, w ∈ R ∨ w ∈ [Val.int 0] := fun w hw => by rw [← hE] at hw; exact List.mem_append.mp hw
  have c3 : E.length = R.length + 1 := by rw [← hE]; simp
  obtain ⟨told1, ht1⟩ : ∃ told1 : List Val, [Val.tup B, .ref μ3.length, .tup E, .tup (cut R 0 (clip R.length (-1))), .non, .int 0, .str [114, 101, 99, 111, 114, 100], .tup []] = told1 := ⟨_, rfl⟩
  obtain ⟨μ4, hμ4⟩ : ∃ μ4, μ3 ++ [.lst R, .lst told1] = μ4 := ⟨_, rfl⟩
  have T4 : Pail μ4 t d (N + 1 + 1) := by rw [← hμ4]; exact T3.app _
  have K4 : Keep2 t d μ μ4 := by rw [← hμ4]; exact K3.app _
  have a4 : μ4[μ3.length + 1]? = some (.lst told1) := by rw [← hμ4, List.getElem?_append_right (by omega)]; simp
  have b4 : μ4[μ3.length]? = some (.lst R) := by rw [← hμ4, List.getElem?_append_right (by omega)]; simp
  have kv4 : Kn μ4 v := by rw [← hμ4]; exact Kn.grow kv (Grow.app _ _)
  have n4 : ∀ v ∈ told1, KnD 1 μ4 v := by
    rw [← ht1]
    intro u hv
    simp only [List.mem_cons, List.not_mem_nil, or_false] at hv
    rcases hv with rfl | rfl | rfl | rfl | rfl | rfl | rfl | rfl
    · refine KnD.tup fun w hw => ?_
      rcases b3 w hw with hw | rfl
      · exact kR w hw
      · exact kv4
    · exact KnD.ref b4
    · refine KnD.tup fun w hw => ?_
      rcases c2 w hw with hw | hw
      · exact kR w hw
      · rw [List.mem_singleton.mp hw]; exact Kn_int _ _
    · exact KnD.tup fun w hw => kR w (cut_mem hw)
    · exact KnD_nor (v := .non) _ _ _ rfl
    · exact KnD_nor (v := .int 0) _ _ _ rfl
    · exact KnD.flat (by intro k z; cases z) (by rfl)
    · exact KnD.flat (by intro k z; cases z) (by rfl)
  have l3 : μ.length ≤ μ3.length := K3.1
  obtain ⟨w, μ5, e5, kw, mw, T5, O5⟩ := r_pick h307 h308 (n := n) T4 (by omega) n4 a4 (by omega) (by omega) (by rw [← ht1]; simp) (by rw [← ht1]; simp)
  have hb : belowV v s = false := by
    rw [← ht0] at mv
    simp only [List.mem_cons, List.not_mem_nil, or_false] at mv
    rcases mv with rfl | rfl | rfl | rfl | rfl | rfl | rfl | rfl
    · simp [belowV]
    · simp [belowV]
    · rfl
    · rfl
    · rfl
    · have : ¬ B10 < s := by rw [← hB]; omega
      simp [belowV, this]
    · rfl
    · rfl
  have hw0 : recV fr w = false := by
    rw [← ht1] at mw
    simp only [List.mem_cons, List.not_mem_nil, or_false] at mw
    rcases mw with rfl | rfl | rfl | rfl | rfl | rfl | rfl | rfl
    · show recB fr B = false
      cases hq : recB fr B with
      | false => rfl
      | true =>
        unfold recB at hq
        rw [Bool.and_eq_true, List.all_eq_true] at hq
        have := hq.2 x.toNat (List.mem_range.mpr hx)
        rw [List.getD_eq_getElem?_getD, List.getD_eq_getElem?_getD, atB.2, gs] at this
        simp only [Option.getD_some] at this
        rw [hb] at this; cases this
    · rfl
    · exact recV_len (by omega)
    · refine recV_len ?_
      have : clip R.length (-1) = R.length - 1 := by unfold clip; rw [if_pos (by omega)]; omega
      rw [this]; unfold cut; simp; omega
    · rfl
    · rfl
    · rfl
    · exact recV_len (by simp; omega)
  refine ⟨(Mi.clean μ w μ5).1, (Mi.clean μ w μ5).2, ?_, kw.cl, recV_clean hw0, (T5.clean tl dl w).le (by omega), (K4.trans O5.keep).clean w⟩
  rw [run_succ h320 _ _ rfl]
  have eo : ex (run P (n + 2)) F320.body (enter F320 [.ref t, .tup (fr.map .int), .tup R]) μ = .ret w μ5 := by
    simp [F320, enter, e1, pf, gs, pR, gR, hstr, hpow, newLst, ht0, hμ2, e3, a1, a3, c1, ht1, hμ4, e5]
  rw [hR, eo]
  rfl
end
end Mi
end

section
set_option linter.all false
set_option autoImplicit false
/-! SChange: changes and orders drawn. -/
namespace Mi
/-- a record of the frame, as a value -/
def RV (fr : List Int) (v : Val) : Prop := ∃ rs : List Int, v = .tup (rs.map .int) ∧ inF fr rs
theorem inF_set : ∀ {ss rs : List Int} {f : Nat} {s x : Int}, inF ss rs → ss[f]? = some s → 0 ≤ x → x < s → inF ss (rs.set f x)
  | [], [], _, _, _, _, h, _, _ => by simp at h
  | s0 :: ss, r0 :: rs, 0, s, x, hi, h, h0, h1 => by cases h; exact ⟨h0, h1, hi.2.2⟩
  | s0 :: ss, r0 :: rs, f + 1, s, x, hi, h, h0, h1 => ⟨hi.1, hi.2.1, inF_set hi.2.2 (by simpa using h) h0 h1⟩
  | [], _ :: _, _, _, _, h, _, _, _ => h.elim
  | _ :: _, [], _, _, _, h, _, _, _ => h.elim
theorem cutV_map {α β : Type} (g : α → β) (xs : List α) (a b : Nat) : cut (xs.map g) a b = (cut xs a b).map g := by
  unfold cut
  rw [List.map_take, List.map_drop]
theorem setV_set {rs : List Int} {f : Nat} {x : Int} (hf : f < rs.length) : setV (rs.map .int) f (.int x) = (rs.set f x).map .int := by
  have c1 : clip (rs.map Val.int).length (f : Int) = f := by unfold clip; rw [if_neg (by omega), List.length_map]; omega
  have c2 : clip (rs.map Val.int).length ((f : Int) + 1) = f + 1 := by unfold clip; rw [if_neg (by omega), List.length_map]; omega
  unfold setV
  rw [c1, c2, List.set_eq_take_append_cons_drop, if_pos hf, cutV_map, cutV_map]
  unfold cut
  simp
  exact List.take_of_length_le (by simp)
theorem RV.set {fr : List Int} {rs : List Int} {f : Nat} {s x : Int} (h : inF fr rs) (hs : fr[f]? = some s) (x0 : 0 ≤ x) (x1 : x < s) : RV fr (.tup (setV (rs.map .int) f (.int x))) := by
  have hf := (List.getElem?_eq_some_iff.mp hs).1
  have hlen := inF_len h
  rw [setV_set (by omega)]
  exact ⟨_, rfl, inF_set h hs x0 x1⟩
theorem rcs_RV {fr : List Int} (G : GoodF fr) : ∀ r ∈ rcs fr, RV fr r := fun r hr => by
  obtain ⟨i, hi⟩ := List.getElem?_of_mem hr
  obtain ⟨rs, rfl, h1, _⟩ := rcs_at G hi
  exact ⟨rs, rfl, h1⟩
theorem RV.nor {fr : List Int} {v : Val} (h : RV fr v) : v.nor = true := by
  obtain ⟨rs, rfl, _⟩ := h
  rw [Val.nor]; exact nors_ints rs
section
variable {P : Nat → Option Fn} {μ : Sto} {t d : Nat} {N : Int} {n : Nat} {fr : List Int}
theorem r_turned (h312 : P 312 = some F312) (h329 : P 329 = some F329) (G : GoodF fr) {rs : List Int} (h : inF fr rs) {a b : Nat} (ha : a < fr.length) (hb : b < fr.length) : ∃ v, run P (n + 2) 329 [.tup (fr.map .int), .tup (rs.map .int), .int (a : Nat), .int (b : Nat)] μ = .ok v μ ∧ RV fr v := by
  have g2 := G.l2
  have hlen := inF_len h
  have pa : place fr.length (a : Int) = some a := place_nat ha
  have pb : place fr.length (b : Int) = some b := place_nat hb
  have qa : place rs.length (a : Int) = some a := place_nat (by omega)
  have qb : place rs.length (b : Int) = some b := place_nat (by omega)
  obtain ⟨s, gs⟩ : ∃ s, fr[a]? = some s := ⟨_, List.getElem?_eq_getElem ha⟩
  obtain ⟨u, gu⟩ : ∃ u, fr[b]? = some u := ⟨_, List.getElem?_eq_getElem hb⟩
  obtain ⟨x, gx⟩ : ∃ x, rs[a]? = some x := ⟨_, List.getElem?_eq_getElem (by omega)⟩
  obtain ⟨y, gy⟩ : ∃ y, rs[b]? = some y := ⟨_, List.getElem?_eq_getElem (by omega)⟩
  have hx := inF_at h gs gx
  have hy := inF_at h gu gy
  have hs := G.g s (List.mem_of_getElem? gs)
  have e1 : ∀ z : Int, run P (n + 1) 312 [.tup (rs.map .int), .int (a : Nat), .int z] μ = .ok (.tup (setV (rs.map .int) (a : Nat) (.int z))) μ := fun z => r_set h312 (by simp; omega) _ _
  rw [run_succ h329 _ _ rfl]
  by_cases hsu : s = u
  · subst hsu
    have e2 : run P (n + 1) 312 [.tup (setV (rs.map .int) (a : Nat) (.int y)), .int (b : Nat), .int x] μ = .ok (.tup (setV (setV (rs.map .int) (a : Nat) (.int y)) (b : Nat) (.int x))) μ := r_set h312 (by rw [setV_set (by omega)]; simp; omega) _ _
    refine ⟨.tup (setV (setV (rs.map .int) (a : Nat) (.int y)) (b : Nat) (.int x)), ?_, ?_⟩
    · simp [F329, enter, pa, pb, gs, gu, qa, qb, gx, gy, e1, e2, cleanO_same]
    · rw [setV_set (by omega)]
      exact RV.set (inF_set h gs hy.1 hy.2) gu hx.1 hx.2
  · have kmod : ∀ μ, sem2 .mod (.int (x + y)) (.int s) μ = .ok (.int ((x + y) % s)) μ := fun μ => s_mod (by omega)
    refine ⟨.tup (setV (rs.map .int) (a : Nat) (.int ((x + y) % s))), ?_, RV.set h gs (Int.emod_nonneg _ (by omega)) (Int.emod_lt_of_pos _ (by omega))⟩
    simp [F329, enter, pa, pb, gs, gu, hsu, qa, qb, gx, gy, kmod, e1, cleanO_same]
theorem r_change (h307 : P 307 = some F307) (h308 : P 308 = some F308) (h309 : P 309 = some F309) (h311 : P 311 = some F311) (h312 : P 312 = some F312) (h328 : P 328 = some F328) (h329 : P 329 = some F329) (T : Pail μ t d N) (hN : N ≤ 90000) (G : GoodF fr) :
    ∃ (vs : List Val) (μ' : Sto), run P (n + 4) 328 [.ref t, .tup (fr.map .int)] μ = .ok (.tup vs) μ' ∧ vs.length = (rcs fr).length ∧ (∀ v ∈ vs, RV fr v) ∧ Pail μ' t d (N + 1600) ∧ Keep2 t d μ μ' := by
  have tl := T.tl
  have dl := T.dl
  have g1 := G.l1
  have g2 := G.l2
  have hlen := rcs_len G
  have hp5 := G.p
  have hp1 := prodI_pos G.g
  have rv := rcs_RV G
  have e1 : run P (n + 3) 311 [.tup (fr.map .int)] μ = .ok (.ref μ.length) (μ ++ [.lst (rcs fr)]) := r_law_records h311 (n := n + 2) (μ := μ) G.g G.p G.l2
  obtain ⟨μ1, hμ1⟩ : ∃ μ1, μ ++ [.lst (rcs fr)] = μ1 := ⟨_, rfl⟩
  rw [hμ1] at e1
  have T1 : Pail μ1 t d N := by rw [← hμ1]; exact T.app _
  have K1 : Keep2 t d μ μ1 := by rw [← hμ1]; exact (Keep2.refl t d μ).app _
  have l1 : μ1.length = μ.length + 1 := by rw [← hμ1]; simp
  have a1 : μ1[μ.length]? = some (.lst (rcs fr)) := by rw [← hμ1, List.getElem?_append_right (Nat.le_refl _)]; simp
  obtain ⟨st, μ2, e2, s0, s1, T2, O2⟩ := r_scoop h307 (n := n + 2) T1 (by omega) (many := 7) (by omega) (by omega)
  have a2 : μ2[μ.length]? = some (.lst (rcs fr)) := by rw [O2.2 _ (by omega) (by omega)]; exact a1
  obtain ⟨k3, ys, μ3, e3, f3, y1, y2, T3, K23, hk3⟩ := r_mixed h307 h309 (n := n + 1) T2 (by omega) a2 (by omega) (by omega) (by omega) (fun v hv => (rv v hv).nor)
  have K3 := (K1.trans O2.keep).trans K23
  have l2 : μ2.length = μ.length + 1 := by rw [O2.1]; exact l1
  have l3 := K23.1
  have a3 : μ3[μ.length]? = some (.lst (rcs fr)) := by rw [K23.2 _ (by omega) (by omega) (by omega)]; exact a2
  have yv : ∀ v ∈ ys, RV fr v := fun v hv => rv v (y2 v hv)
  have hk3l := (List.getElem?_eq_some_iff.mp f3).1
  have lim : (rcs fr).length ≤ LIM := by simp only [LIM]; omega
  have fin' : ∀ (vs : List Val) (X : Sto) (M : Int), ex (run P (n + 3)) F328.body (enter F328 [.ref t, .tup (fr.map .int)]) μ = .ret (.tup vs) X → vs.length = (rcs fr).length → (∀ v ∈ vs, RV fr v) → Pail X t d M → M ≤ N + 1600 → Keep2 t d μ X → ∃ (vs : List Val) (μ' : Sto), run P (n + 4) 328 [.ref t, .tup (fr.map .int)] μ = .ok (.tup vs) μ' ∧ vs.length = (rcs fr).length ∧ (∀ v ∈ vs, RV fr v) ∧ Pail μ' t d (N + 1600) ∧ Keep2 t d μ μ' := fun vs X M eo h1 h2 TX hM KX => by
    refine ⟨vs, (Mi.clean μ (.tup vs) X).2, ?_, h1, h2, (TX.clean tl dl _).le hM, KX.clean _⟩
    rw [run_succ h328 _ _ rfl, eo]
    show Out.ok (Mi.clean μ _ X).1 _ = _
    rw [clean_val (by intro k z; cases z)]
  by_cases c1 : st = 1
  · subst c1
    obtain ⟨z, μ4, e4, z0, z1, T4, O4⟩ := r_scoop h307 (n := n + 2) T3 (by omega) (many := 3) (by omega) (by omega)
    have f4 : μ4[k3]? = some (.lst ys) := by rw [O4.2 _ (by omega) (by omega)]; exact f3
    obtain ⟨few, hfew⟩ : ∃ few, cut ys 0 (clip ys.length (1 + z)) = few := ⟨_, rfl⟩
    have lf : 1 ≤ few.length ∧ few.length ≤ 500 := by
      rw [← hfew]; unfold cut clip
      rw [if_neg (by omega), List.length_take, List.drop_zero]
      omega
    obtain ⟨μ5, hμ5⟩ : ∃ μ5, μ4 ++ [.lst few] = μ5 := ⟨_, rfl⟩
    have T5 : Pail μ5 t d (N + 1 + 1000 + 1) := by rw [← hμ5]; exact T4.app _
    have K5 : Keep2 t d μ μ5 := by rw [← hμ5]; exact (K3.trans O4.keep).app _
    have l4 : μ4.length = μ3.length := O4.1
    have l5 : μ5.length = μ4.length + 1 := by rw [← hμ5]; simp
    have b5 : μ5[μ4.length]? = some (.lst few) := by rw [← hμ5, List.getElem?_append_right (Nat.le_refl _)]; simp
    have a5 : μ5[μ.length]? = some (.lst (rcs fr)) := by rw [← hμ5, List.getElem?_append_left (by omega), O4.2 _ (by omega) (by omega)]; exact a3
    obtain ⟨vs, μ6, e6, ⟨T6, O6⟩, q6, l6⟩ := compL_all (bind := fun v => some [some (.ref t), some (.tup (fr.map .int)), some (.ref μ.length), some (.int 1), some (.ref k3), some (.ref μ4.length), none, none, none, none, some v]) (cond := ev (run P (n + 3)) (.cst (.bl true))) (elt := ev (run P (n + 3)) (.call 308 (.cons (.var 0) (.cons (.var 5) .nil)))) (src := .ref μ.length) (all := rcs fr) (I := fun j μ' => Pail μ' t d (N + 1002 + j) ∧ Only2 t d μ5 μ') (Q := RV fr) (xs := rcs fr) (i := 0) (μ := μ5) ⟨T5.le (by omega), Only2.refl _ _ _⟩
      (fun j x μ' hx hj hI => by
        obtain ⟨T', O'⟩ := hI
        have b' : μ'[μ4.length]? = some (.lst few) := by rw [O'.2 _ (by omega) (by omega)]; exact b5
        obtain ⟨i, v, μ7, e7, hv, T7, O7⟩ := r_one h307 h308 (n := n + 1) T' (by omega) b' (by omega) (by omega) lf.1 (by omega)
        have a7 : μ7[μ.length]? = some (.lst (rcs fr)) := by rw [(O'.trans O7).2 _ (by omega) (by omega)]; exact a5
        have hm := List.mem_of_getElem? hv
        rw [← hfew] at hm
        exact ⟨_, v, μ7, rfl, rfl, by simp [e7], decide_eq_true a7, ⟨T7.le (by push_cast; omega), O'.trans O7⟩, yv v (cut_mem hm)⟩)
    rw [Nat.zero_add] at T6
    refine fin' vs (μ6 ++ [.lst vs]) _ ?_ l6 q6 (T6.app _) (by omega) ((K5.trans O6.keep).app _)
    simp [F328, enter, e1, e2, e3, f4, e4, hfew, newLst, hμ5, a5, lim, e6]
  by_cases c2 : st = 2
  · subst c2
    obtain ⟨z, μ4, e4, z0, z1, T4, O4⟩ := r_scoop h307 (n := n + 2) T3 (by omega) (many := ((rcs fr).length : Int)) (by omega) (by omega)
    have f4 : μ4[k3]? = some (.lst ys) := by rw [O4.2 _ (by omega) (by omega)]; exact f3
    have a4 : μ4[μ.length]? = some (.lst (rcs fr)) := by rw [O4.2 _ (by omega) (by omega)]; exact a3
    have l4 : μ4.length = μ3.length := O4.1
    obtain ⟨A, hA⟩ : ∃ A, cut ys 0 (clip ys.length z) = A := ⟨_, rfl⟩
    obtain ⟨C, hC⟩ : ∃ C, cut ys (clip ys.length (z + 1)) ys.length = C := ⟨_, rfl⟩
    have T5 : Pail (μ4 ++ [.lst A]) t d (N + 1 + 1000 + 1) := T4.app _
    have a5 : (μ4 ++ [Cell.lst A])[μ.length]? = some (.lst (rcs fr)) := by rw [List.getElem?_append_left (by omega)]; exact a4
    obtain ⟨i, v, μ6, e6, hv, T6, O6⟩ := r_one h307 h308 (n := n + 1) T5 (by omega) a5 (by omega) (by omega) (by omega) (by omega)
    have l6 : μ6.length = μ4.length + 1 := by rw [O6.1]; simp
    have b6 : μ6[μ4.length]? = some (.lst A) := by rw [O6.2 _ (by omega) (by omega), List.getElem?_append_right (Nat.le_refl _)]; simp
    have f6 : μ6[k3]? = some (.lst ys) := by rw [O6.2 _ (by omega) (by omega), List.getElem?_append_left (by omega)]; exact f4
    have lA := cut_len ys 0 (clip ys.length z)
    have lC := cut_len ys (clip ys.length (z + 1)) ys.length
    rw [hA] at lA
    rw [hC] at lC
    have ad1 : sem2 .add (.ref μ4.length) (.ref μ6.length) (μ6 ++ [.lst [v]]) = .ok (.ref (μ6.length + 1)) (μ6 ++ [.lst [v], .lst (A ++ [v])]) := by
      rw [s_addr (xs := A) (ys := [v]) (by rw [List.getElem?_append_left (by omega)]; exact b6) (by simp) (by simp [LIM]; omega)]
      simp [newLst]
    have f7 : (μ6 ++ [Cell.lst [v], .lst (A ++ [v])])[k3]? = some (.lst ys) := by rw [List.getElem?_append_left (by omega)]; exact f6
    have ad2 : sem2 .add (.ref (μ6.length + 1)) (.ref (μ6.length + 2)) (μ6 ++ [.lst [v], .lst (A ++ [v]), .lst C]) = .ok (.ref (μ6.length + 3)) (μ6 ++ [.lst [v], .lst (A ++ [v]), .lst C, .lst (setV ys z v)]) := by
      rw [s_addr (xs := A ++ [v]) (ys := C) (by rw [List.getElem?_append_right (by omega), show μ6.length + 1 - μ6.length = 1 by omega]; rfl) (by rw [List.getElem?_append_right (by omega), show μ6.length + 2 - μ6.length = 2 by omega]; rfl) (by simp [LIM]; omega)]
      simp [newLst, setV, hA, hC]
    have lS : (setV ys z v).length = ys.length := by
      have c1 : clip ys.length z = z.toNat := by unfold clip; rw [if_neg (by omega)]; omega
      have c2 : clip ys.length (z + 1) = z.toNat + 1 := by unfold clip; rw [if_neg (by omega)]; omega
      unfold setV
      rw [c1, c2]; unfold cut; simp; omega
    have gS : (μ6 ++ [Cell.lst [v], .lst (A ++ [v]), .lst C, .lst (setV ys z v)])[μ6.length + 3]? = some (.lst (setV ys z v)) := by rw [List.getElem?_append_right (by omega), show μ6.length + 3 - μ6.length = 3 by omega]; rfl
    refine fin' (setV ys z v) (μ6 ++ [.lst [v], .lst (A ++ [v]), .lst C, .lst (setV ys z v)]) _ ?_ (by omega) (fun w hw => ?_) (T6.app _) (by omega) ((((K3.trans O4.keep).app [.lst A]).trans O6.keep).app _)
    · simp [F328, enter, e1, e2, e3, a3, e4, f4, hA, newLst, e6, ad1, f7, hC, ad2, gS]
    · rcases setV_mem hw with h | rfl
      · exact yv w h
      · exact rv _ (List.mem_of_getElem? hv)
  by_cases c3 : st = 3
  · subst c3
    obtain ⟨z, μ4, e4, z0, z1, T4, O4⟩ := r_scoop h307 (n := n + 2) T3 (by omega) (many := (fr.length : Int)) (by omega) (by omega)
    have a4 : μ4[μ.length]? = some (.lst (rcs fr)) := by rw [O4.2 _ (by omega) (by omega)]; exact a3
    have hz : z.toNat < fr.length := by omega
    have pz : place fr.length z = some z.toNat := place_pos z0 (by omega)
    obtain ⟨s, gs⟩ : ∃ s, fr[z.toNat]? = some s := ⟨_, List.getElem?_eq_getElem hz⟩
    have hs := G.g s (List.mem_of_getElem? gs)
    obtain ⟨vs, μ6, e6, ⟨T6, O6⟩, q6, l6⟩ := compL_all (bind := fun v => some [some (.ref t), some (.tup (fr.map .int)), some (.ref μ.length), some (.int 3), some (.ref k3), none, none, some (.int z), none, none, some v]) (cond := ev (run P (n + 3)) (.cst (.bl true))) (elt := ev (run P (n + 3)) (.call 312 (.cons (.var 10) (.cons (.var 7) (.cons (.call 307 (.cons (.var 0) (.cons (.op2 .idx (.var 1) (.var 7)) .nil))) .nil))))) (src := .ref μ.length) (all := rcs fr) (I := fun j μ' => Pail μ' t d (N + 1002 + j) ∧ Only2 t d μ4 μ') (Q := RV fr) (xs := rcs fr) (i := 0) (μ := μ4) ⟨T4.le (by omega), Only2.refl _ _ _⟩
      (fun j x μ' hx hj hI => by
        obtain ⟨T', O'⟩ := hI
        obtain ⟨rs, rfl, hin⟩ := rv x hx
        have hl := inF_len hin
        obtain ⟨w, μ7, e7, w0, w1, T7, O7⟩ := r_scoop h307 (n := n + 2) T' (by omega) (many := s) (by omega) (by omega)
        have e8 := r_set (n := n + 2) (μ := μ7) h312 (R := rs.map .int) (by simp; omega) z (.int w)
        have a7 : μ7[μ.length]? = some (.lst (rcs fr)) := by rw [(O'.trans O7).2 _ (by omega) (by omega)]; exact a4
        have hR := RV.set hin gs w0 w1
        rw [Int.toNat_of_nonneg z0] at hR
        exact ⟨_, _, μ7, rfl, rfl, by simp [pz, gs, e7, e8], decide_eq_true a7, ⟨T7.le (by push_cast; omega), O'.trans O7⟩, hR⟩)
    rw [Nat.zero_add] at T6
    refine fin' vs (μ6 ++ [.lst vs]) _ ?_ l6 q6 (T6.app _) (by omega) (((K3.trans O4.keep).trans O6.keep).app _)
    simp [F328, enter, e1, e2, e3, a3, e4, a4, lim, e6, newLst]
  by_cases c4 : st = 4
  · subst c4
    obtain ⟨z, μ4, e4, z0, z1, T4, O4⟩ := r_scoop h307 (n := n + 2) T3 (by omega) (many := (fr.length : Int)) (by omega) (by omega)
    obtain ⟨w, μ5, e5, w0, w1, T5, O5⟩ := r_scoop h307 (n := n + 2) T4 (by omega) (many := (fr.length : Int)) (by omega) (by omega)
    have a5 : μ5[μ.length]? = some (.lst (rcs fr)) := by rw [(O4.trans O5).2 _ (by omega) (by omega)]; exact a3
    obtain ⟨vs, μ6, e6, I6, q6, l6⟩ := compL_all (bind := fun v => some [some (.ref t), some (.tup (fr.map .int)), some (.ref μ.length), some (.int 4), some (.ref k3), none, none, none, some (.int z), some (.int w), some v]) (cond := ev (run P (n + 3)) (.cst (.bl true))) (elt := ev (run P (n + 3)) (.call 329 (.cons (.var 1) (.cons (.var 10) (.cons (.var 8) (.cons (.var 9) .nil)))))) (src := .ref μ.length) (all := rcs fr) (I := fun j μ' => μ' = μ5) (Q := RV fr) (xs := rcs fr) (i := 0) (μ := μ5) rfl
      (fun j x μ' hx hj hI => by
        subst hI
        obtain ⟨rs, rfl, hin⟩ := rv x hx
        obtain ⟨v, e7, hv⟩ := r_turned (n := n + 1) (μ := μ') h312 h329 G hin (a := z.toNat) (b := w.toNat) (by omega) (by omega)
        rw [Int.toNat_of_nonneg z0, Int.toNat_of_nonneg w0] at e7
        exact ⟨_, v, μ', rfl, rfl, by simp [e7], decide_eq_true a5, rfl, hv⟩)
    subst I6
    refine fin' vs (μ6 ++ [.lst vs]) _ ?_ l6 q6 (T5.app _) (by omega) (((K3.trans O4.keep).trans O5.keep).app _)
    simp [F328, enter, e1, e2, e3, e4, e5, a5, lim, e6, newLst]
  by_cases c5 : st = 5
  · subst c5
    refine fin' (rcs fr) (μ3 ++ [.lst (rcs fr)]) _ ?_ rfl rv (T3.app _) (by omega) (K3.app _)
    simp [F328, enter, e1, e2, e3, a3, newLst]
  · refine fin' ys μ3 _ ?_ (by omega) yv T3 (by omega) K3
    simp [F328, enter, e1, e2, e3, c1, c2, c3, c4, c5, f3]
/-- the fields in some order -/
def Ord (m : Nat) (os : List Int) : Prop := os.Perm ((List.range m).map fun i => ((i : Nat) : Int))
theorem Ord.len {m : Nat} {os : List Int} (h : Ord m os) : os.length = m := by rw [h.length_eq]; simp
theorem Ord.mem {m : Nat} {os : List Int} (h : Ord m os) {x : Int} (hx : x ∈ os) : 0 ≤ x ∧ x < m := by
  obtain ⟨i, hi, rfl⟩ := List.mem_map.mp (h.mem_iff.mp hx)
  have := List.mem_range.mp hi
  omega
theorem Ord.nodup {m : Nat} {os : List Int} (h : Ord m os) : os.Nodup := by
  refine h.nodup_iff.mpr ?_
  refine List.pairwise_map.mpr (List.nodup_range.imp fun {a b} hne e => hne (by omega))
theorem r_order (h307 : P 307 = some F307) (h309 : P 309 = some F309) (h368 : P 368 = some F368) (T : Pail μ t d N) (hN : N ≤ 90000) (G : GoodF fr) :
    ∃ (os : List Int) (μ' : Sto), run P (n + 3) 368 [.ref t, .tup (fr.map .int)] μ = .ok (.tup (os.map .int)) μ' ∧ Ord fr.length os ∧ Pail μ' t d (N + 1001) ∧ Keep2 t d μ μ' := by
  have tl := T.tl
  have dl := T.dl
  have g2 := G.l2
  obtain ⟨RG, hRG⟩ : ∃ RG, ((List.range fr.length).map fun i => Val.int (i : Nat)) = RG := ⟨_, rfl⟩
  have hR2 : RG = (((List.range fr.length).map fun i => ((i : Nat) : Int))).map .int := by rw [← hRG, List.map_map]; rfl
  have lR : RG.length = fr.length := by rw [← hRG]; simp
  obtain ⟨μ1, hμ1⟩ : ∃ μ1, μ ++ [.lst RG] = μ1 := ⟨_, rfl⟩
  have T1 : Pail μ1 t d N := by rw [← hμ1]; exact T.app _
  have K1 : Keep2 t d μ μ1 := by rw [← hμ1]; exact (Keep2.refl t d μ).app _
  have a1 : μ1[μ.length]? = some (.lst RG) := by rw [← hμ1, List.getElem?_append_right (Nat.le_refl _)]; simp
  obtain ⟨st, μ2, e2, s0, s1, T2, O2⟩ := r_scoop h307 (n := n + 1) T1 (by omega) (many := 4) (by omega) (by omega)
  have a2 : μ2[μ.length]? = some (.lst RG) := by rw [O2.2 _ (by omega) (by omega)]; exact a1
  have lim1 : (fr.length : Int) ≤ 16777216 := by omega
  have lim2 : -(16777216 : Int) ≤ (fr.length : Int) := by omega
  have fin' : ∀ (os : List Int) (X : Sto) (M : Int), ex (run P (n + 2)) F368.body (enter F368 [.ref t, .tup (fr.map .int)]) μ = .ret (.tup (os.map .int)) X → Ord fr.length os → Pail X t d M → M ≤ N + 1001 → Keep2 t d μ X → ∃ (os : List Int) (μ' : Sto), run P (n + 3) 368 [.ref t, .tup (fr.map .int)] μ = .ok (.tup (os.map .int)) μ' ∧ Ord fr.length os ∧ Pail μ' t d (N + 1001) ∧ Keep2 t d μ μ' := fun os X M eo h1 TX hM KX => by
    refine ⟨os, (Mi.clean μ (.tup (os.map .int)) X).2, ?_, h1, (TX.clean tl dl _).le hM, KX.clean _⟩
    rw [run_succ h368 _ _ rfl, eo]
    show Out.ok (Mi.clean μ _ X).1 _ = _
    rw [clean_val (by intro k z; cases z)]
  by_cases c0 : st = 0
  · subst c0
    refine fin' ((List.range fr.length).map fun i => ((i : Nat) : Int)) μ2 _ ?_ (List.Perm.refl _) T2 (by omega) (K1.trans O2.keep)
    rw [← hR2]
    simp [F368, enter, lim1, lim2, hRG, newLst, hμ1, e2, a2]
  by_cases c1 : st = 1
  · subst c1
    have er := s_revr (μ := μ2) a2
    refine fin' ((List.range fr.length).map fun i => ((i : Nat) : Int)).reverse (μ2 ++ [.lst RG.reverse]) _ ?_ (List.reverse_perm _) (T2.app _) (by omega) ((K1.trans O2.keep).app _)
    rw [List.map_reverse, ← hR2]
    simp [F368, enter, lim1, lim2, hRG, newLst, hμ1, e2, er]
  · obtain ⟨k3, ys, μ3, e3, f3, y1, y2, T3, K23, hk3⟩ := r_mixedP h307 h309 (n := n) T2 (by omega) a2 (by omega) (by omega) (by omega) (fun v hv => by
      rw [hR2] at hv
      obtain ⟨i, _, rfl⟩ := List.mem_map.mp hv
      rfl)
    obtain ⟨os, hos, hperm⟩ : ∃ os : List Int, ys = os.map .int ∧ Ord fr.length os := by
      have hall : ∀ v ∈ ys, ∃ i : Int, v = .int i := fun v hv => by
        have := y2.mem_iff.mp hv
        rw [hR2] at this
        obtain ⟨i, _, rfl⟩ := List.mem_map.mp this
        exact ⟨i, rfl⟩
      have hys : ys = (ys.map fun v => match v with | .int i => i | _ => 0).map .int := by
        rw [List.map_map]
        conv => lhs; rw [← List.map_id ys]
        apply List.map_congr_left
        intro v hv
        obtain ⟨i, rfl⟩ := hall v hv
        rfl
      refine ⟨_, hys, ?_⟩
      have h := y2.map (fun v => match v with | Val.int i => i | _ => (0 : Int))
      rw [hR2, List.map_map] at h
      have : ((fun v => match v with | Val.int i => i | _ => (0 : Int)) ∘ Val.int) = id := rfl
      rw [this, List.map_id] at h
      exact h
    subst hos
    refine fin' os μ3 _ ?_ hperm T3 (by omega) ((K1.trans O2.keep).trans K23)
    simp [F368, enter, lim1, lim2, hRG, newLst, hμ1, e2, c0, c1, e3, f3]
end
end Mi
end

section
set_option linter.all false
set_option autoImplicit false
/-! SOrders: all orders, two ways. -/
namespace Mi
def rgV (m : Nat) : List Val := (List.range m).map fun i => Val.int (i : Nat)
def stepW (m : Nat) (r : List Val) : List (List Val) := ((rgV m).filter fun x => !inFlat x r).map fun x => r ++ [x]
def allW (m : Nat) : Nat → List (List Val)
  | 0 => [[]]
  | j + 1 => (allW m j).flatMap (stepW m)
theorem stepW_len (m : Nat) (r : List Val) : (stepW m r).length ≤ m := by
  unfold stepW rgV
  rw [List.length_map]
  have := List.length_filter_le (fun x => !inFlat x r) ((List.range m).map fun i => Val.int (i : Nat))
  simpa using this
theorem flat_len {α β : Type} (f : α → List β) {m : Nat} (h : ∀ x, (f x).length ≤ m) : ∀ l : List α, (l.flatMap f).length ≤ l.length * m
  | [] => by simp
  | x :: l => by
    have := flat_len f h l
    have := h x
    rw [List.flatMap_cons, List.length_append, List.length_cons, Nat.succ_mul]; omega
theorem allW_len {m : Nat} (hm : m ≤ 6) : ∀ j, (allW m j).length ≤ 6 ^ j
  | 0 => Nat.le_refl _
  | j + 1 => by
    have h1 := flat_len (stepW m) (stepW_len m) (allW m j)
    have h2 := allW_len hm j
    rw [allW, Nat.pow_succ]
    exact Nat.le_trans h1 (Nat.mul_le_mul h2 hm)
theorem allW_row {m : Nat} : ∀ (j : Nat) (r : List Val), r ∈ allW m j → r.length = j ∧ ∀ v ∈ r, ∃ i : Int, v = .int i
  | 0, r, h => by rw [allW, List.mem_singleton] at h; subst h; exact ⟨rfl, by simp⟩
  | j + 1, r, h => by
    rw [allW, List.mem_flatMap] at h
    obtain ⟨q, hq, h⟩ := h
    obtain ⟨h1, h2⟩ := allW_row j q hq
    unfold stepW at h
    obtain ⟨x, hx, rfl⟩ := List.mem_map.mp h
    have hx' := (List.mem_filter.mp hx).1
    unfold rgV at hx'
    obtain ⟨i, _, rfl⟩ := List.mem_map.mp hx'
    refine ⟨by simp [h1], fun v hv => ?_⟩
    rcases List.mem_append.mp hv with hv | hv
    · exact h2 v hv
    · rw [List.mem_singleton.mp hv]; exact ⟨_, rfl⟩
def OB1 (RE : ME) : MS := (.seq (.expr (.op2 .extend (.var 3) (.comp (.nm 5) RE (.op2 .nin (.var 5) (.var 4)) (.op2 .add (.var 4) (.tupE (.cons (.var 5) .nil))))))
  .skip)
def OB2 (RE : ME) : MS := (.seq (.set (.nm 3) (.lstE .nil))
  (.seq (.forE (.nm 4) (.var 1) (OB1 RE))
  (.seq (.set (.nm 1) (.var 3))
  .skip)))
section
variable {C : CallF} {RE : ME} {v0 : Val} {m : Nat}
theorem ord_one (hRE : ∀ o1 o2 o3 o4 o5 μ, ev C RE [some v0, o1, o2, o3, o4, o5] μ = .ok (.tup (rgV m)) μ) (hm : m ≤ 6) {μ : Sto} {o1 o2 o5 : Option Val} {k : Nat} {xs : List Val} (hk : μ[k]? = some (.lst xs)) (hl : xs.length ≤ 100000) {r : List Val} (hr : ∀ v ∈ r, ∃ i : Int, v = .int i) (hrl : r.length ≤ 6) :
    ∃ μ2, ex C (OB1 RE) [some v0, o1, o2, some (.ref k), some (.tup r), o5] μ = .nx [some v0, o1, o2, some (.ref k), some (.tup r), o5] μ2 ∧ μ2[k]? = some (.lst (xs ++ (stepW m r).map .tup)) ∧ μ.length ≤ μ2.length ∧ ∀ j, j < μ.length → j ≠ k → μ2[j]? = μ[j]? := by
  have hkl := (List.getElem?_eq_some_iff.mp hk).1
  have hflat : r.all Val.flat = true := List.all_eq_true.mpr fun v hv => by obtain ⟨i, rfl⟩ := hr v hv; rfl
  have hc : compL (fun v => some [some v0, o1, o2, some (.ref k), some (.tup r), some v]) (ev C (.op2 .nin (.var 5) (.var 4))) (ev C (.op2 .add (.var 4) (.tupE (.cons (.var 5) .nil)))) (.tup (rgV m)) (rgV m) (rgV m) μ = .ok (((rgV m).filter fun x => !inFlat x r).map fun x => .tup (r ++ [x])) μ := by
    refine compL_filter rfl fun x hx => ?_
    unfold rgV at hx
    obtain ⟨i, _, rfl⟩ := List.mem_map.mp hx
    refine ⟨_, rfl, ?_, ?_⟩
    · show (match dictAt μ (.tup r) with
        | some (t, kvs) => (if keyOk t (.int (i : Nat)) then .ok (.bl (!(dget kvs (.int (i : Nat))).isSome)) μ else .fail : Out Val)
        | none => innL true (.int (i : Nat)) (.tup r) μ) = _
      show (if (Val.int (i : Nat)).flat ∧ r.all Val.flat then (.ok (.bl (if true then !inFlat (.int (i : Nat)) r else inFlat (.int (i : Nat)) r)) μ : Out Val) else .fail) = _
      rw [if_pos ⟨rfl, hflat⟩]; rfl
    · have := s_addt (μ := μ) (xs := r) (ys := [Val.int (i : Nat)]) (by simp [LIM]; omega)
      simp [this]
  have he : (((rgV m).filter fun x => !inFlat x r).map fun x => Val.tup (r ++ [x])) = (stepW m r).map .tup := by unfold stepW; rw [List.map_map]; rfl
  rw [he] at hc
  obtain ⟨L, hL⟩ : ∃ L, (stepW m r).map Val.tup = L := ⟨_, rfl⟩
  have lL : L.length ≤ 6 := by rw [← hL, List.length_map]; exact Nat.le_trans (stepW_len m r) hm
  rw [hL] at hc ⊢
  have lrg : (rgV m).length ≤ LIM := by unfold rgV; simp [LIM]; omega
  have hlim : xs.length + L.length ≤ 16777216 := by omega
  have hk2 : (μ ++ [Cell.lst L])[k]? = some (.lst xs) := by rw [List.getElem?_append_left hkl]; exact hk
  refine ⟨(μ ++ [Cell.lst L]).set k (.lst (xs ++ L)), ?_, List.getElem?_set_self (by simp; omega), by simp, fun j hj hjk => ?_⟩
  · unfold OB1
    simp [hk, hRE, hc, lrg, newLst, hk2, hlim]
  · rw [List.getElem?_set_ne (Ne.symm hjk), List.getElem?_append_left hj]
theorem ord_lap (hRE : ∀ o1 o2 o3 o4 o5 μ, ev C RE [some v0, o1, o2, o3, o4, o5] μ = .ok (.tup (rgV m)) μ) (hm : m ≤ 6) {μ : Sto} {o2 o3 o4 : Option Val} {kf : Nat} {found : List (List Val)} (hk : μ[kf]? = some (.lst (found.map .tup))) (hl : found.length ≤ 10000) (hr : ∀ r ∈ found, r.length ≤ 6 ∧ ∀ v ∈ r, ∃ i : Int, v = .int i) :
    ∃ μ2 o4', ex C (OB2 RE) [some v0, some (.ref kf), o2, o3, o4, none] μ = .nx [some v0, some (.ref μ.length), o2, some (.ref μ.length), o4', none] μ2 ∧ μ2[μ.length]? = some (.lst ((found.flatMap (stepW m)).map .tup)) ∧ μ.length ≤ μ2.length ∧ ∀ j, j < μ.length → μ2[j]? = μ[j]? := by
  have hkl := (List.getElem?_eq_some_iff.mp hk).1
  obtain ⟨ρ2, μ2, e2, o4', rfl, a2, b2, c2, d2⟩ := forL_all (bind := bindT (.nm 4)) (body := ex C (OB1 RE)) (src := .ref kf) (all := found.map .tup)
    (I := fun j ρ μ' => ∃ o4', ρ = [some v0, some (.ref kf), o2, some (.ref μ.length), o4', none] ∧ μ'[μ.length]? = some (.lst (((found.take j).flatMap (stepW m)).map .tup)) ∧ μ'[kf]? = some (.lst (found.map .tup)) ∧ μ.length ≤ μ'.length ∧ ∀ i, i < μ.length → μ'[i]? = μ[i]?) (xs := found.map .tup) (i := 0) (ρ := [some v0, some (.ref kf), o2, some (.ref μ.length), o4, none]) (μ := μ ++ [.lst []])
    ⟨o4, rfl, by simp, by rw [List.getElem?_append_left hkl]; exact hk, by simp, fun i hi => List.getElem?_append_left hi⟩
    (fun j x ρ μ' hx hI => by
      obtain ⟨o4', rfl, a', b', c', d'⟩ := hI
      rw [Nat.zero_add] at *
      rw [List.getElem?_map] at hx
      obtain ⟨r, hr', rfl⟩ := Option.map_eq_some_iff.mp hx
      have hj := (List.getElem?_eq_some_iff.mp hr').1
      have hrr := hr r (List.mem_of_getElem? hr')
      have hlen : ((((found.take j).flatMap (stepW m)).map Val.tup)).length ≤ 100000 := by
        rw [List.length_map]
        have := flat_len (stepW m) (stepW_len m) (found.take j)
        rw [List.length_take] at this
        have h6 : min j found.length * m ≤ 10000 * 6 := Nat.mul_le_mul (by omega) hm
        omega
      obtain ⟨μ3, e3, f3, l3, g3⟩ := ord_one hRE hm (o1 := some (.ref kf)) (o2 := o2) (o5 := none) a' hlen hrr.2 hrr.1
      have b3 : μ3[kf]? = some (.lst (found.map .tup)) := by rw [g3 _ (by omega) (by omega)]; exact b'
      refine ⟨_, _, μ3, rfl, .inl e3, decide_eq_true b3, _, rfl, ?_, b3, by omega, fun i hi => by rw [g3 _ (by omega) (by omega)]; exact d' i hi⟩
      rw [f3, List.take_add_one, hr', List.flatMap_append, List.map_append]
      simp)
  rw [Nat.zero_add, List.length_map, List.take_length] at a2
  refine ⟨μ2, o4', ?_, a2, c2, d2⟩
  have hk' : (μ ++ [Cell.lst []])[kf]? = some (.lst (found.map .tup)) := by rw [List.getElem?_append_left hkl]; exact hk
  simp only [OB2, ex_seq, ex_set, ev_lstE, ev_nil, Out.bind, newLst, Out.on_ok, bindT_nm]
  simp [hk', e2]
theorem ord_laps (hRE : ∀ o1 o2 o3 o4 o5 μ, ev C RE [some v0, o1, o2, o3, o4, o5] μ = .ok (.tup (rgV m)) μ) (hm : m ≤ 6) (μ : Sto) :
    ∃ μ2 kf o2 o3 o4, forL (bindT (.nm 2)) (ex C (OB2 RE)) (.tup (rgV m)) (rgV m) (rgV m) [some v0, some (.ref μ.length), none, none, none, none] (μ ++ [.lst [.tup []]]) = .nx [some v0, some (.ref kf), o2, o3, o4, none] μ2 ∧ μ2[kf]? = some (.lst ((allW m m).map .tup)) ∧ μ.length ≤ kf ∧ μ.length ≤ μ2.length ∧ ∀ j, j < μ.length → μ2[j]? = μ[j]? := by
  obtain ⟨ρ2, μ2, e2, kf, o2, o3, o4, rfl, a2, b2, c2, d2⟩ := forL_all (bind := bindT (.nm 2)) (body := ex C (OB2 RE)) (src := .tup (rgV m)) (all := rgV m)
    (I := fun j ρ μ' => ∃ kf o2 o3 o4, ρ = [some v0, some (.ref kf), o2, o3, o4, none] ∧ μ'[kf]? = some (.lst ((allW m j).map .tup)) ∧ μ.length ≤ kf ∧ μ.length ≤ μ'.length ∧ ∀ i, i < μ.length → μ'[i]? = μ[i]?) (xs := rgV m) (i := 0) (ρ := [some v0, some (.ref μ.length), none, none, none, none]) (μ := μ ++ [.lst [.tup []]])
    ⟨_, none, none, none, rfl, by simp [allW], Nat.le_refl _, by simp, fun i hi => List.getElem?_append_left hi⟩
    (fun j x ρ μ' hx hI => by
      obtain ⟨kf, o2, o3, o4, rfl, a', b', c', d'⟩ := hI
      rw [Nat.zero_add] at *
      have hj : j < m := by have := (List.getElem?_eq_some_iff.mp hx).1; simpa [rgV] using this
      have hl : (allW m j).length ≤ 10000 := by
        have h1 := allW_len hm j
        have h2 : 6 ^ j ≤ 6 ^ 5 := Nat.pow_le_pow_right (by omega) (by omega)
        omega
      obtain ⟨μ3, o4', e3, f3, l3, g3⟩ := ord_lap hRE hm (o2 := some x) (o3 := o3) (o4 := o4) a' hl (fun r hr => by
        obtain ⟨h1, h2⟩ := allW_row j r hr
        exact ⟨by omega, h2⟩)
      exact ⟨_, _, μ3, rfl, .inl e3, rfl, μ'.length, some x, _, o4', rfl, f3, c', by omega, fun i hi => by rw [g3 _ (by omega)]; exact d' i hi⟩)
  rw [Nat.zero_add, show (rgV m).length = m by simp [rgV]] at a2
  exact ⟨μ2, kf, o2, o3, o4, e2, a2, b2, c2, d2⟩
end
theorem allW_smp {m : Nat} (hm : m ≤ 6) : smps ((allW m m).map .tup) = true ∧ cnts ((allW m m).map .tup) ≤ 1000000 ∧ (allW m m).length ≤ 50000 := by
  have hl : (allW m m).length ≤ 50000 := by
    have h1 := allW_len hm m
    have h2 : 6 ^ m ≤ 6 ^ 6 := Nat.pow_le_pow_right (by omega) hm
    omega
  have key : ∀ v ∈ (allW m m).map Val.tup, smp v = true ∧ cnt v ≤ 7 := fun v hv => by
    obtain ⟨r, hr, rfl⟩ := List.mem_map.mp hv
    obtain ⟨h1, h2⟩ := allW_row m r hr
    constructor
    · rw [smp, decide_eq_true (by omega), smps_of fun w hw => by obtain ⟨i, rfl⟩ := h2 w hw; rfl]; rfl
    · rw [cnt]
      have := cnts_le (B := 1) (a := r) fun w hw => by obtain ⟨i, rfl⟩ := h2 w hw; exact Nat.le_refl _
      omega
  refine ⟨smps_of fun v hv => (key v hv).1, ?_, hl⟩
  have := cnts_le (B := 7) (a := (allW m m).map Val.tup) fun v hv => (key v hv).2
  rw [List.length_map] at this
  omega
section
variable {P : Nat → Option Fn} {μ : Sto} {n : Nat} {fr : List Int}
theorem r_all_orders (h375 : P 375 = some F375) (hl : fr.length ≤ 6) : run P (n + 1) 375 [.tup (fr.map .int)] μ = .ok (.tup ((allW fr.length fr.length).map .tup)) μ := by
  have l1 : (fr.length : Int) ≤ 16777216 := by omega
  have l2 : -(16777216 : Int) ≤ (fr.length : Int) := by omega
  obtain ⟨μ2, kf, o2, o3, o4, e2, a2, b2, c2, d2⟩ := ord_laps (C := run P n) (RE := .rng (.op1 .len (.var 0))) (v0 := .tup (fr.map .int)) (m := fr.length) (fun o1 o2 o3 o4 o5 μ => by
    simp [l1, l2, rgV]) hl μ
  have sm := allW_smp hl
  obtain ⟨W, hW⟩ : ∃ W, (allW fr.length fr.length).map Val.tup = W := ⟨_, rfl⟩
  rw [hW] at a2 sm ⊢
  have hb : B375_2 = OB2 (.rng (.op1 .len (.var 0))) := rfl
  have eo : ex (run P n) F375.body (enter F375 [.tup (fr.map .int)]) μ = .ret (.tup W) μ2 := by
    unfold rgV at e2
    simp [F375, hb, enter, newLst, l1, l2, e2, a2]
  rw [run_succ h375 _ _ rfl, eo]
  obtain ⟨g, rfl⟩ : ∃ g, μ2 = μ ++ g := by
    refine ⟨μ2.drop μ.length, ?_⟩
    have : μ2.take μ.length = μ := by
      apply List.ext_getElem?
      intro i
      by_cases hi : i < μ.length
      · rw [List.getElem?_take_of_lt hi]; exact d2 i hi
      · rw [List.getElem?_eq_none (by rw [List.length_take]; omega), List.getElem?_eq_none (by omega)]
    conv => lhs; rw [← List.take_append_drop μ.length μ2]
    rw [this]
  refine cleanO_app ?_
  rw [Val.under]
  exact nors_under _ (nors_of fun v hv => by
    rw [← hW] at hv
    obtain ⟨r, hr, rfl⟩ := List.mem_map.mp hv
    refine nor_tup fun w hw => ?_
    obtain ⟨i, rfl⟩ := (allW_row _ r hr).2 w hw
    rfl)
theorem r_law_orders (h379 : P 379 = some F379) {m : Nat} (hm : m ≤ 6) : ∃ k μ', run P (n + 1) 379 [.int (m : Nat)] μ = .ok (.ref k) μ' ∧ μ'[k]? = some (.lst ((allW m m).map .tup)) ∧ μ.length ≤ μ'.length ∧ ∀ j, j < μ.length → μ'[j]? = μ[j]? := by
  have l1 : (m : Int) ≤ 16777216 := by omega
  have l2 : -(16777216 : Int) ≤ (m : Int) := by omega
  obtain ⟨μ2, kf, o2, o3, o4, e2, a2, b2, c2, d2⟩ := ord_laps (C := run P n) (RE := .rng (.var 0)) (v0 := .int (m : Nat)) (m := m) (fun o1 o2 o3 o4 o5 μ => by
    simp [l1, l2, rgV]) hm μ
  have hb : B379_2 = OB2 (.rng (.var 0)) := rfl
  have eo : ex (run P n) F379.body (enter F379 [.int (m : Nat)]) μ = .ret (.ref kf) μ2 := by
    unfold rgV at e2
    simp [F379, hb, enter, newLst, l1, l2, e2]
  obtain ⟨k', w1, w2, w3, w4, w5⟩ := clean_refD (μ := μ) (k := kf) (d := 0) b2 a2 fun v hv => by
    obtain ⟨r, hr, rfl⟩ := List.mem_map.mp hv
    exact Kn.flat (by intro k z; cases z)
  refine ⟨k', (Mi.clean μ (.ref kf) μ2).2, ?_, w2, w5, fun j hj => by rw [clean_keep hj]; exact d2 j hj⟩
  rw [run_succ h379 _ _ rfl, eo]
  show Out.ok (Mi.clean μ _ μ2).1 _ = _
  rw [w1]
end
end Mi
end

section
set_option linter.all false
set_option autoImplicit false
/-! PK21a: orders looked at, states. -/
namespace Mi
structure HasK21 (P : Nat → Option Fn) : Prop where
  r : HasRec P
  h248 : P 248 = some F248
  h375 : P 375 = some F375
  h360 : P 360 = some F360
  h361 : P 361 = some F361
  h362 : P 362 = some F362
  h388 : P 388 = some F388
  h306 : P 306 = some F306
  h307 : P 307 = some F307
  h308 : P 308 = some F308
  h309 : P 309 = some F309
  h310 : P 310 = some F310
  h311 : P 311 = some F311
  h312 : P 312 = some F312
  h328 : P 328 = some F328
  h329 : P 329 = some F329
  h368 : P 368 = some F368
  h317 : P 317 = some F317
  h320 : P 320 = some F320
  h389 : P 389 = some F389
  h379 : P 379 = some F379
  h390 : P 390 = some F390
  h391 : P 391 = some F391
  h392 : P 392 = some F392
  h393 : P 393 = some F393
theorem dlen_leP {α : Type} [DecidableEq α] : ∀ xs : List α, dlen xs ≤ xs.length
  | [] => Nat.le_refl _
  | x :: xs => by have := dlen_leP xs; rw [dlen, List.length_cons]; split <;> omega
theorem dlen_nodup {α : Type} [DecidableEq α] : ∀ xs : List α, dlen xs = xs.length ↔ xs.Nodup
  | [] => by simp [dlen]
  | x :: xs => by
    have ih := dlen_nodup xs
    have hl := dlen_leP xs
    rw [dlen, List.length_cons, List.nodup_cons]
    by_cases h : x ∈ xs
    · rw [if_pos h]
      constructor
      · intro e; omega
      · intro e; exact absurd h e.1
    · rw [if_neg h]
      constructor
      · intro e; exact ⟨h, ih.mp (by omega)⟩
      · intro e; rw [ih.mpr e.2]
/-- an order of so many fields -/
def ordV (m : Nat) : Val → Bool
  | .tup vs => decide (vs.length = m) && (vs.all (fun v => belowV v m) && (match asInts vs with
    | some ns => decide (ns.Nodup)
    | none => false))
  | _ => false
theorem all_ints : ∀ {vs : List Val} {m : Int}, vs.all (fun v => belowV v m) = true → ∃ ns : List Int, vs = ns.map .int ∧ asInts vs = some ns
  | [], _, _ => ⟨[], rfl, rfl⟩
  | v :: vs, m, h => by
    rw [List.all_cons, Bool.and_eq_true] at h
    obtain ⟨i, rfl, _⟩ := belowV_int h.1
    obtain ⟨ns, e1, e2⟩ := all_ints h.2
    refine ⟨i :: ns, by rw [e1]; rfl, ?_⟩
    show (asInts vs).map (i :: ·) = _
    rw [e2]; rfl
theorem asInts_mapP : ∀ l : List Int, asInts (l.map .int) = some l
  | [] => rfl
  | x :: l => by
    show (asInts (l.map .int)).map (x :: ·) = _
    rw [asInts_mapP l]; rfl
theorem ord_ordV {m : Nat} {os : List Int} (h : Ord m os) : ordV m (.tup (os.map .int)) = true := by
  have h1 : (os.map Val.int).all (fun v => belowV v m) = true := List.all_eq_true.mpr fun v hv => by
    obtain ⟨i, hi, rfl⟩ := List.mem_map.mp hv
    have := h.mem hi
    simp [belowV, this]
  rw [ordV, h1, asInts_mapP, decide_eq_true (by rw [List.length_map]; exact h.len)]
  simp [h.nodup]
section
variable {P : Nat → Option Fn} {μ : Sto} {n : Nat} {fr : List Int} {t d : Nat} {N : Int} (H : HasK21 P)
include H
theorem r_is_order (hl : fr.length ≤ 6) (v : Val) (kv : KnT μ v) : run P (n + 4) 360 [.tup (fr.map .int), v] μ = .ok (.bl (ordV fr.length v)) μ := by
  rw [run_succ H.h360 _ _ rfl]
  have e1 := r_is_row H.r.h76 (n := n + 2) v (fr.length : Int) kv.1
  cases v with
  | tup vs =>
    by_cases hv : vs.length = fr.length
    · have hv' : (vs.length : Int) = (fr.length : Int) := by omega
      have hc : compL (fun v => some [some (Val.tup (fr.map .int)), some (.tup vs), some v]) (ev (run P (n + 3)) (.op1 .not (.call 75 (.cons (.var 2) (.cons (.op1 .len (.var 0)) .nil))))) (ev (run P (n + 3)) (.var 2)) (.tup vs) vs vs μ = .ok ((vs.filter fun x => !belowV x fr.length).map id) μ :=
        compL_filter rfl fun x hx => by
          have e4 := r_is_below H.r.v H.r.h75 (n := n) (μ := μ) x (fr.length : Int) (kv.2 x hx)
          exact ⟨_, rfl, by simp [e4], rfl⟩
      have hz := notAll_none (p := fun x => belowV x fr.length) (g := id) vs
      obtain ⟨L, hL⟩ : ∃ L, ((vs.filter fun x => !belowV x fr.length).map id) = L := ⟨_, rfl⟩
      rw [hL] at hc hz
      have lim : vs.length ≤ LIM := by simp only [LIM]; omega
      by_cases hb : vs.all (fun v => belowV v fr.length) = true
      · obtain ⟨ns, rfl, e2⟩ := all_ints hb
        rw [hb] at hz
        have hL0 : L.length = 0 := by have := of_decide_eq_true hz; omega
        have hL0' : L = [] := List.length_eq_zero_iff.mp hL0
        subst hL0'
        have es := s_lsett (μ := μ ++ [Cell.lst []]) e2 (by rw [List.length_map] at lim hv; omega)
        have hi : ordV fr.length (.tup (ns.map .int)) = decide (dlen ns = ns.length) := by
          rw [ordV, hb, e2, decide_eq_true hv]
          simp only [Bool.true_and]
          rw [Bool.eq_iff_iff, decide_eq_true_eq, decide_eq_true_eq, dlen_nodup]
        rw [hi]
        have eo : ex (run P (n + 3)) F360.body (enter F360 [.tup (fr.map .int), .tup (ns.map .int)]) μ = .ret (.bl (decide (dlen ns = ns.length))) (μ ++ [.lst []]) := by
          simp at hv' lim hv
          have hde : decide ((dlen ns : Int) = (fr.length : Int)) = decide (dlen ns = ns.length) := by
            rw [hv]
            by_cases q : dlen ns = fr.length
            · rw [decide_eq_true q, decide_eq_true (by omega)]
            · rw [decide_eq_false q, decide_eq_false (by omega)]
          have limF : fr.length ≤ LIM := by simp only [LIM]; omega
          simp [F360, enter, e1, rowV, hv, hc, lim, limF, newLst, es, hde]
        rw [eo]
        exact cleanO_app rfl
      · have hb' : vs.all (fun v => belowV v fr.length) = false := by simpa using hb
        have hi : ordV fr.length (.tup vs) = false := by rw [ordV, hb']; simp
        rw [hi]
        rw [hb'] at hz
        have hL0 : (0 : Int) < (L.length : Int) := by have := of_decide_eq_false hz; omega
        have eo : ex (run P (n + 3)) F360.body (enter F360 [.tup (fr.map .int), .tup vs]) μ = .ret (.bl false) (μ ++ [.lst L]) := by
          have hL0' : 0 < L.length := by omega
          simp [F360, enter, e1, rowV, hv', hc, lim, newLst, hL0']
        rw [eo]
        exact cleanO_app rfl
    · have hv' : ¬ (vs.length : Int) = (fr.length : Int) := by omega
      have hi : ordV fr.length (.tup vs) = false := by rw [ordV, decide_eq_false hv]; rfl
      simp [F360, enter, e1, rowV, hv', hi, cleanO_same]
  | _ => simp [F360, enter, e1, rowV, ordV, cleanO_same]
/-- the told record's fields, so many of an order, taken over -/
def stI (os ts rs : List Int) : List Int := os.foldl (fun r f => r.set f.toNat (ts.getD f.toNat 0)) rs
omit H in
theorem stI_in (G : GoodF fr) {ts : List Int} (ht : inF fr ts) : ∀ {os rs : List Int}, (∀ x ∈ os, 0 ≤ x ∧ x < (fr.length : Int)) → inF fr rs → inF fr (stI os ts rs)
  | [], rs, _, h => h
  | f :: os, rs, ho, h => by
    have hf := ho f (List.mem_cons_self ..)
    have hlt : f.toNat < fr.length := by omega
    have hlen := inF_len ht
    obtain ⟨s, gs⟩ : ∃ s, fr[f.toNat]? = some s := ⟨_, List.getElem?_eq_getElem hlt⟩
    obtain ⟨x, gx⟩ : ∃ x, ts[f.toNat]? = some x := ⟨_, List.getElem?_eq_getElem (by omega)⟩
    have hd : ts.getD f.toNat 0 = x := by rw [List.getD_eq_getElem?_getD, gx]; rfl
    have hx := inF_at ht gs gx
    show inF fr (stI os ts (rs.set f.toNat (ts.getD f.toNat 0)))
    rw [hd]
    exact stI_in G ht (fun y hy => ho y (List.mem_cons_of_mem _ hy)) (inF_set h gs hx.1 hx.2)
theorem st_loop (G : GoodF fr) {ts : List Int} (ht : inF fr ts) {all : List Val} {v0 v1 v2 : Option Val} : ∀ {os rs : List Int} {o : Option Val}, (∀ x ∈ os, 0 ≤ x ∧ x < (fr.length : Int)) → inF fr rs →
    ∃ o', forL (bindT (.nm 5)) (ex (run P n) B362_1) (.tup all) all (os.map .int) [v0, v1, v2, some (.tup (ts.map .int)), some (.ref μ.length), o] (μ ++ [.lst (rs.map .int)]) = .nx [v0, v1, v2, some (.tup (ts.map .int)), some (.ref μ.length), o'] (μ ++ [.lst ((stI os ts rs).map .int)])
  | [], rs, o, _, _ => ⟨o, rfl⟩
  | f :: os, rs, o, ho, h => by
    have hf := ho f (List.mem_cons_self ..)
    have hlt : f.toNat < fr.length := by omega
    have hlen := inF_len ht
    have hlen2 := inF_len h
    obtain ⟨s, gs⟩ : ∃ s, fr[f.toNat]? = some s := ⟨_, List.getElem?_eq_getElem hlt⟩
    obtain ⟨x, gx⟩ : ∃ x, ts[f.toNat]? = some x := ⟨_, List.getElem?_eq_getElem (by omega)⟩
    have hd : ts.getD f.toNat 0 = x := by rw [List.getD_eq_getElem?_getD, gx]; rfl
    have hx := inF_at ht gs gx
    obtain ⟨o', ih⟩ := st_loop G ht (all := all) (v0 := v0) (v1 := v1) (v2 := v2) (os := os) (rs := rs.set f.toNat x) (o := some (.int f)) (fun y hy => ho y (List.mem_cons_of_mem _ hy)) (inF_set h gs hx.1 hx.2)
    refine ⟨o', ?_⟩
    have pt : place ts.length f = some f.toNat := place_pos hf.1 (by omega)
    have pr : place rs.length f = some f.toNat := place_pos hf.1 (by omega)
    have eb : ex (run P n) B362_1 [v0, v1, v2, some (.tup (ts.map .int)), some (.ref μ.length), some (.int f)] (μ ++ [.lst (rs.map .int)]) = .nx [v0, v1, v2, some (.tup (ts.map .int)), some (.ref μ.length), some (.int f)] (μ ++ [.lst ((rs.set f.toNat x).map .int)]) := by
      simp [B362_1, pt, gx, setLst, pr]
    rw [List.map_cons, forL]
    show ((ex (run P n) B362_1 [v0, v1, v2, some (.tup (ts.map .int)), some (.ref μ.length), some (.int f)] (μ ++ [.lst (rs.map .int)])).turn fun ρ2 μ2 => _) = _
    rw [eb, OS.turn_nx, guard_tup, if_pos rfl, ih]
    show _ = OS.nx [v0, v1, v2, some (.tup (ts.map .int)), some (.ref μ.length), o'] (μ ++ [.lst ((stI os ts (rs.set f.toNat (ts.getD f.toNat 0))).map .int)])
    rw [hd]
end
end Mi
end

section
set_option linter.all false
set_option autoImplicit false
/-! PK21b: states behind steps; what is raised. -/
namespace Mi
abbrev wRec : List Nat := [114, 101, 99, 111, 114, 100]
abbrev wOrd : List Nat := [111, 114, 100, 101, 114]
abbrev wNumb : List Nat := [110, 117, 109, 98, 101, 114]
/-- a number of steps -/
def numV (m : Nat) : Val → Bool
  | .int i => decide (0 ≤ i) && decide (i ≤ m)
  | _ => false
theorem clip_nat {m : Nat} {i : Int} (h0 : 0 ≤ i) (h1 : i ≤ m) : clip m i = i.toNat := by unfold clip; rw [if_neg (by omega)]; omega
section
variable {P : Nat → Option Fn} {μ : Sto} {n : Nat} {fr : List Int} {t d : Nat} {N : Int} (H : HasK21 P)
include H
theorem r_state (G : GoodF fr) {os ts rs : List Int} (ho : ∀ x ∈ os, 0 ≤ x ∧ x < (fr.length : Int)) {m : Int} (m0 : 0 ≤ m) (m1 : m ≤ os.length) (ht : inF fr ts) (h : inF fr rs) :
    run P (n + 1) 362 [.tup (os.map .int), .int m, .tup (rs.map .int), .tup (ts.map .int)] μ = .ok (.tup ((stI (os.take m.toNat) ts rs).map .int)) μ := by
  have hc : cut (os.map Val.int) 0 (clip (os.map Val.int).length m) = (os.take m.toNat).map .int := by
    rw [List.length_map, clip_nat m0 m1, cutV_map]; unfold cut; simp
  obtain ⟨o', e⟩ := st_loop H (n := n) (μ := μ) G ht (all := (os.take m.toNat).map .int) (v0 := some (.tup (os.map .int))) (v1 := some (.int m)) (v2 := some (.tup (rs.map .int))) (os := os.take m.toNat) (rs := rs) (o := none) (fun x hx => ho x (List.mem_of_mem_take hx)) h
  obtain ⟨Z, hZ⟩ : ∃ Z, (stI (os.take m.toNat) ts rs).map Val.int = Z := ⟨_, rfl⟩
  obtain ⟨Y, hY⟩ : ∃ Y, (os.take m.toNat).map Val.int = Y := ⟨_, rfl⟩
  rw [hZ, hY] at e
  rw [hY] at hc
  rw [run_succ H.h362 _ _ rfl]
  have eo : ex (run P n) F362.body (enter F362 [.tup (os.map .int), .int m, .tup (rs.map .int), .tup (ts.map .int)]) μ = .ret (.tup Z) (μ ++ [.lst Z]) := by
    rw [List.length_map] at hc
    simp [F362, enter, newLst, hc, e]
  rw [eo, hZ]
  refine cleanO_app ?_
  rw [← hZ, Val.under]
  exact nors_under _ (nors_ints _)
theorem look_rec (G : GoodF fr) (v : Val) (kv : KnT μ v) : run P (n + 5) 248 [.tup (fr.map .int), v] μ = (if recV fr v then .ok .non μ else .exc 4 [.str wRec] μ) := by
  have e1 := r_is_record H.r (n := n) (μ := μ) (fr := fr) v kv G.l2
  rw [run_succ H.h248 _ _ rfl]
  cases hq : recV fr v with
  | true => rw [hq] at e1; simp [F248, enter, e1, cleanO_same]
  | false => rw [hq] at e1; simp [F248, enter, e1, cleanO_exc_same]
theorem look_ord (G : GoodF fr) (v : Val) (kv : KnT μ v) : run P (n + 5) 361 [.tup (fr.map .int), v] μ = (if ordV fr.length v then .ok .non μ else .exc 4 [.str wOrd] μ) := by
  have e1 := r_is_order H (n := n) (μ := μ) (fr := fr) G.l2 v kv
  rw [run_succ H.h361 _ _ rfl]
  cases hq : ordV fr.length v with
  | true => rw [hq] at e1; simp [F361, enter, e1, cleanO_same]
  | false => rw [hq] at e1; simp [F361, enter, e1, cleanO_exc_same]
omit H in
theorem ordV_ints {m : Nat} {v : Val} (h : ordV m v = true) : ∃ os : List Int, v = .tup (os.map .int) ∧ os.length = m ∧ ∀ x ∈ os, 0 ≤ x ∧ x < (m : Int) := by
  cases v with
  | tup vs =>
    rw [ordV, Bool.and_eq_true, Bool.and_eq_true] at h
    obtain ⟨os, rfl, _⟩ := all_ints h.2.1
    refine ⟨os, rfl, by simpa using h.1, fun x hx => ?_⟩
    have := List.all_eq_true.mp h.2.1 (.int x) (List.mem_map.mpr ⟨x, hx, rfl⟩)
    simpa [belowV] using this
  | _ => cases h
/-- what is wrong with a state asked for -/
def wrongV (fr : List Int) (o m r : Val) : Option (List Nat) := if recV fr r then (if ordV fr.length o then (if numV fr.length m then none else some wNumb) else some wOrd) else some wRec
theorem behind_bad (G : GoodF fr) (c o m r : Val) (ko : KnT μ o) (km : Kn μ m) (kr : KnT μ r) {w : List Nat} (hw : wrongV fr o m r = some w) : run P (n + 6) 388 [.tup (fr.map .int), c, o, m, r] μ = .exc 4 [.str w] μ := by
  have e1 := look_rec H (n := n) (μ := μ) G r kr
  have e2 := look_ord H (n := n) (μ := μ) G o ko
  have e3 := r_is_number H.r.v (n := n + 3) m km
  have g2 := G.l2
  rw [run_succ H.h388 _ _ rfl]
  unfold wrongV at hw
  by_cases h1 : recV fr r = true
  · rw [if_pos h1] at hw e1
    by_cases h2 : ordV fr.length o = true
    · rw [if_pos h2] at hw e2
      by_cases h3 : numV fr.length m = true
      · rw [if_pos h3] at hw; cases hw
      · rw [if_neg h3] at hw; cases hw
        cases m with
        | int i =>
          by_cases h0 : 0 ≤ i
          · have h4 : (fr.length : Int) < i := by
              simp [numV, h0] at h3; exact h3
            have hn : isNum (.int i) = true := by simp [isNum, h0]
            rw [hn] at e3
            simp [F388, enter, e1, e2, e3, h4, cleanO_exc_same]
          · have hn : isNum (.int i) = false := by simp [isNum, h0]
            rw [hn] at e3
            simp [F388, enter, e1, e2, e3, cleanO_exc_same]
        | _ => simp [F388, enter, e1, e2, e3, isNum, cleanO_exc_same]
    · rw [if_neg h2] at hw e2; cases hw
      simp [F388, enter, e1, e2, cleanO_exc_same]
  · rw [if_neg h1] at hw e1; cases hw
    simp [F388, enter, e1, cleanO_exc_same]
theorem behind_ok (G : GoodF fr) {vs : List Val} (hvs : vs.length = (rcs fr).length) (hv : ∀ v ∈ vs, RV fr v) {os rs : List Int} (ho : ordV fr.length (.tup (os.map .int)) = true) {m : Int} (m0 : 0 ≤ m) (m1 : m ≤ fr.length) (h : inF fr rs) :
    ∃ ts : List Int, vs[(placeL 0 fr rs).toNat]? = some (.tup (ts.map .int)) ∧ inF fr ts ∧ run P (n + 6) 388 [.tup (fr.map .int), .tup vs, .tup (os.map .int), .int m, .tup (rs.map .int)] μ = .ok (.tup ((stI (os.take m.toNat) ts rs).map .int)) μ := by
  have hp := G.pl h
  have hl := rcs_len G
  have hk : (placeL 0 fr rs).toNat < vs.length := by omega
  obtain ⟨ts, ets, ht⟩ := hv _ (List.getElem_mem hk)
  have gk : vs[(placeL 0 fr rs).toNat]? = some (.tup (ts.map .int)) := by rw [List.getElem?_eq_getElem hk, ets]
  refine ⟨ts, gk, ht, ?_⟩
  have pk : place vs.length (placeL 0 fr rs) = some (placeL 0 fr rs).toNat := place_pos hp.1 (by omega)
  have e1 := look_rec H (n := n) (μ := μ) G (.tup (rs.map .int)) (KnT_ints μ rs)
  have e2 := look_ord H (n := n) (μ := μ) G (.tup (os.map .int)) (KnT_ints μ os)
  rw [if_pos (in_recV h)] at e1
  rw [if_pos ho] at e2
  have e3 := r_is_number H.r.v (n := n + 3) (μ := μ) (.int m) (Kn_int _ _)
  have hn : isNum (.int m) = true := by simp [isNum, m0]
  rw [hn] at e3
  have m2 : ¬ (fr.length : Int) < m := by omega
  have e4 := r_place_in H.r (n := n + 4) (μ := μ) G h
  obtain ⟨os', e', l1, l2⟩ := ordV_ints ho
  have hos : os = os' := mapInt_inj (Val.tup.inj e')
  subst hos
  have e5 := r_state H (n := n + 4) (μ := μ) G l2 m0 (by omega) ht h
  rw [run_succ H.h388 _ _ rfl]
  simp [F388, enter, e1, e2, e3, m2, e4, pk, gk, e5, cleanO_same]
theorem raised_bad (G : GoodF fr) (c o m r : Val) (ko : KnT μ o) (km : Kn μ m) (kr : KnT μ r) {w : List Nat} (hw : wrongV fr o m r = some w) : run P (n + 7) 390 [.tup (fr.map .int), c, o, m, r] μ = .ok (.tup [.str [98, 97, 100], .str w]) μ := by
  have e := behind_bad H (n := n) G c o m r ko km kr hw
  rw [run_succ H.h390 _ _ rfl]
  simp [F390, enter, e, cleanO_same, handle, hcOk, hcLoc, evF, List.lookup]
theorem law_loop (G : GoodF fr) {ts : List Int} (ht : inF fr ts) {all : List Val} {v0 v1 v2 v3 v4 : Option Val} : ∀ {os rs : List Int} {o : Option Val}, (∀ x ∈ os, 0 ≤ x ∧ x < (fr.length : Int)) → inF fr rs →
    ∃ o', forL (bindT (.nm 7)) (ex (run P (n + 1)) B389_1) (.tup all) all (os.map .int) [v0, v1, v2, v3, v4, some (.tup (ts.map .int)), some (.tup (rs.map .int)), o] μ = .nx [v0, v1, v2, v3, v4, some (.tup (ts.map .int)), some (.tup ((stI os ts rs).map .int)), o'] μ
  | [], rs, o, _, _ => ⟨o, rfl⟩
  | f :: os, rs, o, ho, h => by
    have hf := ho f (List.mem_cons_self ..)
    have hlt : f.toNat < fr.length := by omega
    have hlen := inF_len ht
    have hlen2 := inF_len h
    have g2 := G.l2
    obtain ⟨s, gs⟩ : ∃ s, fr[f.toNat]? = some s := ⟨_, List.getElem?_eq_getElem hlt⟩
    obtain ⟨x, gx⟩ : ∃ x, ts[f.toNat]? = some x := ⟨_, List.getElem?_eq_getElem (by omega)⟩
    have hd : ts.getD f.toNat 0 = x := by rw [List.getD_eq_getElem?_getD, gx]; rfl
    have hx := inF_at ht gs gx
    obtain ⟨o', ih⟩ := law_loop G ht (all := all) (v0 := v0) (v1 := v1) (v2 := v2) (v3 := v3) (v4 := v4) (os := os) (rs := rs.set f.toNat x) (o := some (.int f)) (fun y hy => ho y (List.mem_cons_of_mem _ hy)) (inF_set h gs hx.1 hx.2)
    refine ⟨o', ?_⟩
    have pt : place ts.length f = some f.toNat := place_pos hf.1 (by omega)
    have e1 := r_set (n := n) (μ := μ) H.h312 (R := rs.map .int) (by simp; omega) f (.int x)
    have hs : setV (rs.map .int) f (.int x) = (rs.set f.toNat x).map .int := by
      have := setV_set (rs := rs) (f := f.toNat) (x := x) (by omega)
      rw [Int.toNat_of_nonneg hf.1] at this
      exact this
    rw [hs] at e1
    have eb : ex (run P (n + 1)) B389_1 [v0, v1, v2, v3, v4, some (.tup (ts.map .int)), some (.tup (rs.map .int)), some (.int f)] μ = .nx [v0, v1, v2, v3, v4, some (.tup (ts.map .int)), some (.tup ((rs.set f.toNat x).map .int)), some (.int f)] μ := by
      simp only [B389_1, ex_seq, ex_set, ev_call, ev_cons, ev_var, ev_nil, ev_op2]
      simp [pt, gx, e1]
    rw [List.map_cons, forL]
    show ((ex (run P (n + 1)) B389_1 [v0, v1, v2, v3, v4, some (.tup (ts.map .int)), some (.tup (rs.map .int)), some (.int f)] μ).turn fun ρ2 μ2 => _) = _
    rw [eb, OS.turn_nx, guard_tup, if_pos rfl, ih]
    show _ = OS.nx [v0, v1, v2, v3, v4, some (.tup (ts.map .int)), some (.tup ((stI os ts (rs.set f.toNat (ts.getD f.toNat 0))).map .int)), o'] μ
    rw [hd]
omit H in
theorem rcs_index {fr rs : List Int} (G : GoodF fr) (h : inF fr rs) : (rcs fr).findIdx? (fun y => eqv y (.tup (rs.map .int))) = some (placeL 0 fr rs).toNat := by
  have g := rcs_place G h
  rw [List.findIdx?_eq_some_iff_getElem]
  obtain ⟨hlt, e⟩ := List.getElem?_eq_some_iff.mp g
  refine ⟨hlt, ?_, fun j hj => ?_⟩
  · rw [e, eqv, eqvs_ints]; simp
  · have gj := List.getElem?_eq_getElem (by omega : j < (rcs fr).length)
    obtain ⟨rs', e', h1, h2⟩ := rcs_at G gj
    rw [e', eqv, eqvs_ints]
    simp
    rintro rfl
    omega
omit H in
theorem plain_ints : ∀ (rs : List Int) (n : Nat), plains n (rs.map .int) = true
  | [], _ => rfl
  | x :: rs, n => by rw [List.map_cons, plains, plain_ints rs n]; cases n <;> rfl
omit H in
theorem rcs_plain {fr : List Int} (G : GoodF fr) : plains 60 (rcs fr) = true := by
  have : ∀ vs : List Val, (∀ v ∈ vs, v.plain 60 = true) → plains 60 vs = true := by
    intro vs
    induction vs with
    | nil => intro _; rfl
    | cons v vs ih => intro h; rw [plains, h v (List.mem_cons_self ..), ih fun w hw => h w (List.mem_cons_of_mem _ hw)]; rfl
  exact this _ fun v hv => by
    obtain ⟨rs, rfl, _⟩ := rcs_RV G v hv
    exact plain_ints rs 59
theorem law_state (G : GoodF fr) {kr : Nat} (hkr : μ[kr]? = some (.lst (rcs fr))) {vs : List Val} (hvs : vs.length = (rcs fr).length) {os ts rs : List Int} (ho : ∀ x ∈ os, 0 ≤ x ∧ x < (fr.length : Int)) {m : Int} (m0 : 0 ≤ m) (m1 : m ≤ os.length) (h : inF fr rs) (gk : vs[(placeL 0 fr rs).toNat]? = some (.tup (ts.map .int))) (ht : inF fr ts) :
    run P (n + 2) 389 [.ref kr, .tup vs, .tup (os.map .int), .int m, .tup (rs.map .int)] μ = .ok (.tup ((stI (os.take m.toNat) ts rs).map .int)) μ := by
  have hp := G.pl h
  have hl := rcs_len G
  have hp5 := G.p
  have hpl : (Val.tup (rs.map .int)).plain 60 = true := plain_ints rs 59
  have ei : sem2 .index (.ref kr) (.tup (rs.map .int)) μ = .ok (.int ((placeL 0 fr rs).toNat : Nat)) μ := by
    simp only [sem2, hkr]
    rw [if_pos ⟨rcs_plain G, hpl, by simp only [LIM]; omega⟩, rcs_index G h]
  have p1 : place vs.length (((placeL 0 fr rs).toNat : Nat) : Int) = some (placeL 0 fr rs).toNat := place_nat (by omega)
  have hc : cut (os.map Val.int) 0 (clip (os.map Val.int).length m) = (os.take m.toNat).map .int := by
    rw [List.length_map, clip_nat m0 m1, cutV_map]; unfold cut; simp
  obtain ⟨o', e⟩ := law_loop H (n := n) (μ := μ) G ht (all := (os.take m.toNat).map .int) (v0 := some (.ref kr)) (v1 := some (.tup vs)) (v2 := some (.tup (os.map .int))) (v3 := some (.int m)) (v4 := some (.tup (rs.map .int))) (os := os.take m.toNat) (rs := rs) (o := none) (fun x hx => ho x (List.mem_of_mem_take hx)) h
  obtain ⟨Z, hZ⟩ : ∃ Z, (stI (os.take m.toNat) ts rs).map Val.int = Z := ⟨_, rfl⟩
  obtain ⟨Y, hY⟩ : ∃ Y, (os.take m.toNat).map Val.int = Y := ⟨_, rfl⟩
  rw [hZ, hY] at e
  rw [hY] at hc
  rw [List.length_map] at hc
  obtain ⟨K, hK⟩ : ∃ K, (placeL 0 fr rs).toNat = K := ⟨_, rfl⟩
  rw [hK] at ei p1 gk
  rw [run_succ H.h389 _ _ rfl, hZ]
  simp only [F389, enter]
  simp [hkr, ei, p1, gk, hc, e, cleanO_same]
end
end Mi
end

section
set_option linter.all false
set_option autoImplicit false
/-! PK21c: things that are no orders; a frame that is asked. -/
namespace Mi
theorem ordV_len {m : Nat} {vs : List Val} (h : vs.length ≠ m) : ordV m (.tup vs) = false := by rw [ordV, decide_eq_false h]; rfl
theorem ordV_bad {m : Nat} {vs : List Val} {v : Val} (hv : v ∈ vs) (h : belowV v m = false) : ordV m (.tup vs) = false := by
  have : vs.all (fun v => belowV v m) = false := by
    rw [Bool.eq_false_iff]
    intro e
    rw [List.all_eq_true.mp e v hv] at h; cases h
  rw [ordV, this]; simp
theorem clean_fst (μ : Sto) (v : Val) (X : Sto) : (Mi.clean μ v X).1 = v ∨ ∃ k, (Mi.clean μ v X).1 = .ref k := by
  unfold Mi.clean
  split
  · split
    · exact .inl rfl
    · split
      · split
        · split
          · exact .inr ⟨_, rfl⟩
          · exact .inl rfl
        · exact .inl rfl
      · exact .inl rfl
  · exact .inl rfl
section
variable {P : Nat → Option Fn} {μ : Sto} {n : Nat} {fr : List Int} {t d : Nat} {N : Int} (H : HasK21 P)
include H
theorem r_wrong (T : Pail μ t d N) (hN : N ≤ 10000000) {m : Nat} (m1 : 1 ≤ m) (m6 : m ≤ 6) {os : List Int} (ho : Ord m os) :
    ∃ (v : Val) (μ' : Sto), run P (n + 2) 391 [.ref t, .tup (os.map .int)] μ = .ok v μ' ∧ KnT μ' v ∧ ordV m v = false ∧ Pail μ' t d (N + 1) ∧ Keep2 t d μ μ' := by
  have tl := T.tl
  have dl := T.dl
  have hlo := ho.len
  obtain ⟨O, hO⟩ : ∃ O : List Val, os.map .int = O := ⟨_, rfl⟩
  have lO : O.length = m := by rw [← hO]; simp [hlo]
  have kO : ∀ w ∈ O, ∃ i : Int, w = .int i := fun w hw => by
    rw [← hO] at hw
    obtain ⟨i, _, rfl⟩ := List.mem_map.mp hw
    exact ⟨i, rfl⟩
  have c1 : clip O.length (-1) = m - 1 := by unfold clip; rw [if_pos (by omega)]; omega
  obtain ⟨A, hA⟩ : ∃ A, cut O 0 (clip O.length (-1)) = A := ⟨_, rfl⟩
  have lA : A.length = m - 1 := by rw [← hA, c1]; unfold cut; simp; omega
  have kA : ∀ w ∈ A, ∃ i : Int, w = .int i := fun w hw => kO w (by rw [← hA] at hw; exact cut_mem hw)
  have ad : ∀ (X : List Val) (v : Val), X.length ≤ 6 → ∀ μ, sem2 .add (.tup X) (.tup [v]) μ = .ok (.tup (X ++ [v])) μ := fun X v hX μ => s_addt (by simp [LIM]; omega)
  have a1 := ad O (.int 0) (by omega)
  have a2 := ad O (.int O.length) (by omega)
  have a3 := ad A (.int O.length) (by omega)
  have a4 := ad A (.int (-1)) (by omega)
  have a5 := ad A (.str [48]) (by omega)
  obtain ⟨near0, hn0⟩ : ∃ near0 : List Val, [Val.ref μ.length, .tup A, .tup (O ++ [.int 0]), .tup (O ++ [.int O.length]), .tup (A ++ [.int O.length]), .non, .int 0, .str wOrd, .tup [], .tup (A ++ [.int (-1)]), .tup [.tup O], .tup (A ++ [.str [48]])] = near0 := ⟨_, rfl⟩
  have z0 : near0.length = 12 := by rw [← hn0]; rfl
  obtain ⟨μ1, hμ1⟩ : ∃ μ1, μ ++ [.lst O, .lst near0] = μ1 := ⟨_, rfl⟩
  have T1 : Pail μ1 t d N := by rw [← hμ1]; exact T.app _
  have K1 : Keep2 t d μ μ1 := by rw [← hμ1]; exact (Keep2.refl t d μ).app _
  have l1 : μ1.length = μ.length + 2 := by rw [← hμ1]; simp
  have b1 : μ1[μ.length + 1]? = some (.lst near0) := by rw [← hμ1, List.getElem?_append_right (by omega)]; simp
  have q1 : μ1[μ.length]? = some (.lst O) := by rw [← hμ1, List.getElem?_append_right (by omega)]; simp
  have kI : ∀ (ν : Sto) (X : List Val) (v : Val), (∀ w ∈ X, ∃ i : Int, w = .int i) → (∀ k, v ≠ .ref k) → KnT ν (.tup (X ++ [v])) := fun ν X v hX hv => KnT.tup fun w hw => by
    rcases List.mem_append.mp hw with hw | hw
    · obtain ⟨i, rfl⟩ := hX w hw; exact Kn_int _ _
    · rw [List.mem_singleton.mp hw]; exact Kn.flat hv
  have kI0 : ∀ (ν : Sto) (X : List Val), (∀ w ∈ X, ∃ i : Int, w = .int i) → KnT ν (.tup X) := fun ν X hX => KnT.tup fun w hw => by
    obtain ⟨i, rfl⟩ := hX w hw; exact Kn_int _ _
  have good0 : ∀ (ν : Sto), ν[μ.length]? = some (.lst O) → ∀ v ∈ near0, KnT ν v ∧ ordV m v = false := fun ν hν v hv => by
    rw [← hn0] at hv
    simp only [List.mem_cons, List.not_mem_nil, or_false] at hv
    rcases hv with rfl | rfl | rfl | rfl | rfl | rfl | rfl | rfl | rfl | rfl | rfl | rfl
    · exact ⟨KnT.one (fun k e => by cases e; exact ⟨_, hν⟩) rfl, rfl⟩
    · exact ⟨kI0 _ _ kA, ordV_len (by omega)⟩
    · exact ⟨kI _ _ _ kO (by intro k z; cases z), ordV_len (by simp; omega)⟩
    · exact ⟨kI _ _ _ kO (by intro k z; cases z), ordV_len (by simp; omega)⟩
    · exact ⟨kI _ _ _ kA (by intro k z; cases z), ordV_bad (v := .int O.length) (by simp) (by simp [belowV, lO])⟩
    · exact ⟨KnT.one (Kn.flat (by intro k z; cases z)) rfl, rfl⟩
    · exact ⟨KnT.one (Kn.flat (by intro k z; cases z)) rfl, rfl⟩
    · exact ⟨KnT.one (Kn.flat (by intro k z; cases z)) rfl, rfl⟩
    · exact ⟨KnT.tup (by simp), ordV_len (by simp; omega)⟩
    · exact ⟨kI _ _ _ kA (by intro k z; cases z), ordV_bad (v := .int (-1)) (by simp) (by simp [belowV])⟩
    · exact ⟨KnT.tup fun w hw => by rw [List.mem_singleton.mp hw]; exact Kn.flat (by intro k z; cases z), ordV_bad (v := .tup O) (by simp) rfl⟩
    · exact ⟨kI _ _ _ kA (by intro k z; cases z), ordV_bad (v := .str [48]) (by simp) rfl⟩
  have fin' : ∀ (near : List Val) (X Y : Sto) (k : Nat), (∀ ν, ν[μ.length]? = some (.lst O) → ∀ v ∈ near, KnT ν v ∧ ordV m v = false) → 1 ≤ near.length → near.length ≤ 20 → Pail X t d N → Keep2 t d μ X → X[μ.length]? = some (.lst O) → X[k]? = some (.lst near) → k ≠ t → k ≠ d →
      (∀ (x : Int) (Y : Sto), run P (n + 1) 307 [.ref t, .int near.length] X = .ok (.int x) Y → Y[k]? = some (.lst near) → ∀ j v, place near.length x = some j → near[j]? = some v → ex (run P (n + 1)) F391.body (enter F391 [.ref t, .tup O]) μ = .ret v Y) →
      ∃ (v : Val) (μ' : Sto), run P (n + 2) 391 [.ref t, .tup O] μ = .ok v μ' ∧ KnT μ' v ∧ ordV m v = false ∧ Pail μ' t d (N + 1) ∧ Keep2 t d μ μ' := fun near X Y k hg hl1 hl2 TX KX hO' hk nt nd hev => by
    obtain ⟨x, Y, e, x0, x1, TY, OY⟩ := r_scoop H.h307 (n := n) TX (by omega) (many := (near.length : Int)) (by omega) (by omega)
    have hx : x.toNat < near.length := by omega
    have px : place near.length x = some x.toNat := place_pos x0 (by omega)
    have gx : near[x.toNat]? = some near[x.toNat] := List.getElem?_eq_getElem hx
    have hOl : μ.length ≠ t ∧ μ.length ≠ d := ⟨by omega, by omega⟩
    have eo := hev x Y e (by rw [OY.2 _ nt nd]; exact hk) _ _ px gx
    obtain ⟨g1, g2⟩ := hg Y (by rw [OY.2 _ hOl.1 hOl.2]; exact hO') _ (List.getElem_mem hx)
    have g3 : KnD 1 Y near[x.toNat] := g1
    refine ⟨(Mi.clean μ near[x.toNat] Y).1, (Mi.clean μ near[x.toNat] Y).2, ?_, g3.cl, ?_, TY.clean tl dl _, (KX.trans OY.keep).clean _⟩
    · rw [run_succ H.h391 _ _ rfl, eo]; rfl
    · rcases clean_fst μ near[x.toNat] Y with e | ⟨k', e⟩
      · rw [e]; exact g2
      · rw [e]; rfl
  rw [hO]
  by_cases hm1 : m = 1
  · have hm1' : ¬ (1 : Int) < (O.length : Int) := by omega
    have hm1'' : ¬ 1 < O.length := by omega
    refine fin' near0 μ1 μ1 (μ.length + 1) good0 (by omega) (by omega) T1 K1 q1 b1 (by omega) (by omega) fun x Y e hY j v hj hv => ?_
    rw [z0] at e hj
    have z0' : (near0.length : Int) = 12 := by omega
    simp at e
    simp [F391, enter, newLst, hA, a1, a2, a3, a4, a5, hn0, hμ1, hm1', b1, z0, e, hY, hj, hv]
  · have hm1'' : 1 < O.length := by omega
    have hm1' : (1 : Int) < (O.length : Int) := by omega
    have c2 : clip O.length 1 = 1 := by unfold clip; rw [if_neg (by omega)]; omega
    obtain ⟨o0, ro, hro⟩ : ∃ o0 ro, O = .int o0 :: ro := by
      cases O with
      | nil => simp at hm1''
      | cons v ro => obtain ⟨i, rfl⟩ := kO v (List.mem_cons_self ..); exact ⟨i, ro, rfl⟩
    have hB : cut O 0 (clip O.length 1) = [.int o0] := by rw [c2, hro]; unfold cut; simp
    have a6 := ad A (.int o0) (by omega)
    obtain ⟨bv, hbv⟩ : ∃ bv : Val → Val, bv = fun v => match v with | .int i => (if i < 2 then .bl (decide (i = 1)) else .int i) | w => w := ⟨_, rfl⟩
    have hc : compL (fun v => some [some (.ref t), some (.tup O), some (.ref (μ.length + 1)), some v]) (ev (run P (n + 1)) (.cst (.bl true))) (ev (run P (n + 1)) (.ite (.op2 .lt (.var 3) (.cst (.int 2))) (.op2 .eq (.var 3) (.cst (.int 1))) (.var 3))) (.tup O) O O μ1 = .ok (O.map bv) μ1 := by
      refine compL_map rfl fun y hy => ?_
      obtain ⟨i, rfl⟩ := kO y hy
      refine ⟨_, rfl, rfl, ?_⟩
      rw [hbv]
      by_cases hi : i < 2
      · simp [hi]
      · simp [hi]
    obtain ⟨BV, hBV⟩ : ∃ BV, O.map bv = BV := ⟨_, rfl⟩
    rw [hBV] at hc
    have limO : O.length ≤ LIM := by simp only [LIM]; omega
    obtain ⟨more, hmore⟩ : ∃ more : List Val, [Val.tup (A ++ [.int o0]), .tup BV] = more := ⟨_, rfl⟩
    have zm : more.length = 2 := by rw [← hmore]; rfl
    have ad1 : sem2 .add (.ref (μ.length + 1)) (.ref (μ1.length + 1)) (μ1 ++ [.lst BV, .lst more]) = .ok (.ref (μ1.length + 2)) (μ1 ++ [.lst BV, .lst more, .lst (near0 ++ more)]) := by
      rw [s_addr (xs := near0) (ys := more) (by rw [List.getElem?_append_left (by omega)]; exact b1) (by rw [List.getElem?_append_right (by omega), show μ1.length + 1 - μ1.length = 1 by omega]; rfl) (by rw [z0, zm]; simp [LIM])]
      simp [newLst]
    have good : ∀ ν, ν[μ.length]? = some (.lst O) → ∀ v ∈ near0 ++ more, KnT ν v ∧ ordV m v = false := fun ν hν v hv => by
      rcases List.mem_append.mp hv with hv | hv
      · exact good0 ν hν v hv
      · rw [← hmore] at hv
        simp only [List.mem_cons, List.not_mem_nil, or_false] at hv
        rcases hv with rfl | rfl
        · refine ⟨kI _ _ _ kA (by intro k z; cases z), ?_⟩
          have hmem : Val.int o0 ∈ A := by
            rw [← hA, c1, hro]; unfold cut
            rw [Nat.sub_zero, List.drop_zero, show m - 1 = (m - 2) + 1 by omega]
            simp
          obtain ⟨as, has⟩ : ∃ as : List Int, A = as.map .int := by
            rw [← hA, ← hO, cutV_map]; exact ⟨_, rfl⟩
          have hm2 : o0 ∈ as := by
            rw [has] at hmem
            obtain ⟨x, hx, e⟩ := List.mem_map.mp hmem
            cases e; exact hx
          have e1 : A ++ [Val.int o0] = (as ++ [o0]).map .int := by rw [has]; simp
          rw [e1, ordV, asInts_mapP]
          have hnd : ¬ (as ++ [o0]).Nodup := fun h => (List.nodup_append.mp h).2.2 o0 hm2 o0 (by simp) rfl
          simp [hnd]
        · refine ⟨KnT.tup fun w hw => ?_, ?_⟩
          · rw [← hBV, hbv] at hw
            obtain ⟨y, hy, rfl⟩ := List.mem_map.mp hw
            obtain ⟨i, rfl⟩ := kO y hy
            dsimp only
            split <;> exact Kn.flat (by intro k z; cases z)
          · have h0 : (0 : Int) ∈ os := ho.mem_iff.mpr (List.mem_map.mpr ⟨0, List.mem_range.mpr (by omega), rfl⟩)
            refine ordV_bad (v := .bl false) ?_ rfl
            rw [← hBV, hbv, ← hO]
            exact List.mem_map.mpr ⟨.int 0, List.mem_map.mpr ⟨0, h0, rfl⟩, rfl⟩
    have z2 : (near0 ++ more).length = 14 := by rw [List.length_append, z0, zm]
    obtain ⟨near, hnear⟩ : ∃ near, near0 ++ more = near := ⟨_, rfl⟩
    rw [hnear] at ad1 good z2
    obtain ⟨μ2, hμ2⟩ : ∃ μ2, μ1 ++ [.lst BV, .lst more, .lst near] = μ2 := ⟨_, rfl⟩
    rw [hμ2] at ad1
    have T2 : Pail μ2 t d N := by rw [← hμ2]; exact T1.app _
    have K2 : Keep2 t d μ μ2 := by rw [← hμ2]; exact K1.app _
    have b2 : μ2[μ1.length + 2]? = some (.lst near) := by rw [← hμ2, List.getElem?_append_right (by omega), show μ1.length + 2 - μ1.length = 2 by omega]; rfl
    have q2 : μ2[μ.length]? = some (.lst O) := by rw [← hμ2, List.getElem?_append_left (by omega)]; exact q1
    refine fin' near μ2 μ2 (μ1.length + 2) good (by omega) (by omega) T2 K2 q2 b2 (by omega) (by omega) fun x Y e hY j v hj hv => ?_
    rw [z2] at e hj
    simp at e
    simp [F391, enter, newLst, hA, hB, a1, a2, a3, a4, a5, a6, hn0, hμ1, hm1', hc, limO, hmore, ad1, b2, z2, e, hY, hj, hv]
end
end Mi
end

section
set_option linter.all false
set_option autoImplicit false
/-! PK21d: a frame that is asked; the law. -/
namespace Mi
abbrev zTold : Val := .str [116, 111, 108, 100]
section
variable {P : Nat → Option Fn} {μ : Sto} {n : Nat} {fr : List Int} {t d : Nat} {N : Int} (H : HasK21 P)
omit H in
theorem RV.tsmp {v : Val} (h : RV fr v) (G : GoodF fr) (w : Val) (hw : smp w = true) (hc : cnt w ≤ 2) : smp (.tup [w, v]) = true ∧ cnt (.tup [w, v]) ≤ 20 := by
  obtain ⟨rs, rfl, h⟩ := h
  have g2 := G.l2
  have hlen := inF_len h
  have h1 : smps (rs.map Val.int) = true := smps_of fun v hv => by
    obtain ⟨i, _, rfl⟩ := List.mem_map.mp hv; rfl
  have h2 := cnts_le (B := 1) (a := rs.map Val.int) fun v hv => by
    obtain ⟨i, _, rfl⟩ := List.mem_map.mp hv; exact Nat.le_refl _
  rw [List.length_map] at h2
  constructor
  · simp [smp, smps, h1, hw]; omega
  · simp only [cnt, cnts]; omega
include H
theorem b2_step (G : GoodF fr) {kr : Nat} (hkr : μ[kr]? = some (.lst (rcs fr))) {vs : List Val} (hvs : vs.length = (rcs fr).length) (hv : ∀ v ∈ vs, RV fr v) {os : List Int} (ho : Ord fr.length os) {rs : List Int} (h : inF fr rs) {m : Int} (m0 : 0 ≤ m) (m1 : m ≤ fr.length) (o0 o6 o7 o8 o9 o11 o12 o13 o14 : Option Val) :
    ex (run P (n + 7)) B392_2 [o0, some (.tup (fr.map .int)), some (.ref kr), some (.tup vs), some (.tup (os.map .int)), some (.tup (rs.map .int)), o6, o7, o8, o9, some (.int m), o11, o12, o13, o14] μ = .nx [o0, some (.tup (fr.map .int)), some (.ref kr), some (.tup vs), some (.tup (os.map .int)), some (.tup (rs.map .int)), o6, o7, o8, o9, some (.int m), o11, o12, o13, o14] μ := by
  obtain ⟨ts, gk, ht, e1⟩ := behind_ok H (n := n) (μ := μ) G hvs hv (ord_ordV ho) m0 m1 h
  have ol := ho.len
  have e2 := law_state H (n := n + 5) (μ := μ) G hkr hvs (fun x hx => ho.mem hx) m0 (by omega) h gk ht
  have hin := stI_in G ht (os := os.take m.toNat) (rs := rs) (fun x hx => ho.mem (List.mem_of_mem_take hx)) h
  have sm := RV.tsmp (fr := fr) ⟨_, rfl, hin⟩ G zTold rfl (by simp [cnt])
  obtain ⟨Z, hZ⟩ : ∃ Z, (stI (os.take m.toNat) ts rs).map Val.int = Z := ⟨_, rfl⟩
  rw [hZ] at e1 e2 sm
  have e3 := r_same2 H.h317 (n := n + 6) (μ := μ) (.tup [zTold, .tup Z]) sm.1 (by have := sm.2; omega)
  have e4 : run P (n + 7) 390 [.tup (fr.map .int), .tup vs, .tup (os.map .int), .int m, .tup (rs.map .int)] μ = .ok (.tup [zTold, .tup Z]) μ := by
    rw [run_succ H.h390 _ _ rfl]
    simp [F390, enter, e1, cleanO_same]
  simp [B392_2, e4, e2, e3]
theorem b3_step (T : Pail μ t d N) (hN : N ≤ 1000000) (G : GoodF fr) {kr : Nat} (hkr : μ[kr]? = some (.lst (rcs fr))) (nt : kr ≠ t) (nd : kr ≠ d) {vs : List Val} (hvs : vs.length = (rcs fr).length) (hv : ∀ v ∈ vs, RV fr v) {os : List Int} (ho : Ord fr.length os) {rs : List Int} (h : inF fr rs) (o6 o7 o8 o9 o10 o11 o12 o13 o14 : Option Val) :
    ∃ o10' μ', ex (run P (n + 7)) B392_3 [some (.ref t), some (.tup (fr.map .int)), some (.ref kr), some (.tup vs), some (.tup (os.map .int)), some (.tup (rs.map .int)), o6, o7, o8, o9, o10, o11, o12, o13, o14] μ = .nx [some (.ref t), some (.tup (fr.map .int)), some (.ref kr), some (.tup vs), some (.tup (os.map .int)), some (.tup (rs.map .int)), o6, o7, o8, o9, o10', o11, o12, o13, o14] μ' ∧ Pail μ' t d (N + 1) ∧ Only2 t d μ μ' := by
  have g2 := G.l2
  obtain ⟨x, μ1, e1, x0, x1, T1, O1⟩ := r_scoop H.h307 (n := n + 6) T (by omega) (many := (fr.length : Int) + 1) (by omega) (by omega)
  have hk1 : μ1[kr]? = some (.lst (rcs fr)) := by rw [O1.2 _ nt nd]; exact hkr
  obtain ⟨ρ2, μ2, e2, o10', rfl, rfl⟩ := forL_all (bind := bindT (.nm 10)) (body := ex (run P (n + 7)) B392_2) (src := .tup [.int x, .int 0, .int fr.length]) (all := [.int x, .int 0, .int fr.length])
    (I := fun j ρ μ' => ∃ o10', ρ = [some (.ref t), some (.tup (fr.map .int)), some (.ref kr), some (.tup vs), some (.tup (os.map .int)), some (.tup (rs.map .int)), o6, o7, o8, o9, o10', o11, o12, o13, o14] ∧ μ' = μ1) (xs := [.int x, .int 0, .int fr.length]) (i := 0) (ρ := [some (.ref t), some (.tup (fr.map .int)), some (.ref kr), some (.tup vs), some (.tup (os.map .int)), some (.tup (rs.map .int)), o6, o7, o8, o9, o10, o11, o12, o13, o14]) (μ := μ1)
    ⟨o10, rfl, rfl⟩
    (fun j y ρ μ' hy hI => by
      obtain ⟨o10', rfl, rfl⟩ := hI
      obtain ⟨m, rfl, m0, m1⟩ : ∃ m : Int, y = .int m ∧ 0 ≤ m ∧ m ≤ fr.length := by
        have := List.mem_of_getElem? hy
        simp only [List.mem_cons, List.not_mem_nil, or_false] at this
        rcases this with rfl | rfl | rfl
        · exact ⟨x, rfl, x0, by omega⟩
        · exact ⟨0, rfl, by omega, by omega⟩
        · exact ⟨_, rfl, by omega, by omega⟩
      have e := b2_step H (n := n) G hk1 hvs hv ho h m0 m1 (some (.ref t)) o6 o7 o8 o9 o11 o12 o13 o14
      exact ⟨_, _, _, rfl, .inl e, rfl, some (.int m), rfl, rfl⟩)
  exact ⟨o10', μ2, by simp [B392_3, e1, e2], T1, O1⟩
theorem b1_step (G : GoodF fr) {c o m r : Val} (ko : KnT μ o) (km : Kn μ m) (kr : KnT μ r) {w : List Nat} (hw : wrongV fr o m r = some w) (o0 o2 o4 o5 o6 o7 o8 o9 o10 : Option Val) :
    ex (run P (n + 7)) B392_1 [o0, some (.tup (fr.map .int)), o2, some c, o4, o5, o6, o7, o8, o9, o10, some o, some m, some r, some (.str w)] μ = .nx [o0, some (.tup (fr.map .int)), o2, some c, o4, o5, o6, o7, o8, o9, o10, some o, some m, some r, some (.str w)] μ := by
  have e1 := raised_bad H (n := n) G c o m r ko km kr hw
  have e3 := r_same2 H.h317 (n := n + 6) (μ := μ) (.tup [.str [98, 97, 100], .str w]) rfl (by simp [cnt, cnts])
  simp [B392_1, e1, e3]
/-- all orders, two ways -/
theorem two_ways {m : Nat} (hm : m ≤ 6) {frv : List Int} (hf : frv.length = m) : ∃ k μ', run P (n + 7) 375 [.tup (frv.map .int)] μ = .ok (.tup ((allW m m).map .tup)) μ ∧ run P (n + 7) 379 [.int (m : Nat)] μ = .ok (.ref k) μ' ∧ μ'[k]? = some (.lst ((allW m m).map .tup)) ∧ run P (n + 7) 317 [.tup ((allW m m).map .tup), .tup ((allW m m).map .tup)] μ' = .ok (.bl true) μ' ∧ μ.length ≤ μ'.length ∧ ∀ j, j < μ.length → μ'[j]? = μ[j]? := by
  subst hf
  obtain ⟨k, μ', e2, f2, l2, g2⟩ := r_law_orders (n := n + 6) (μ := μ) H.h379 (m := frv.length) hm
  have sm := allW_smp hm
  refine ⟨k, μ', r_all_orders (n := n + 6) H.h375 hm, e2, f2, r_same2 H.h317 _ ?_ ?_, l2, g2⟩
  · rw [smp, sm.1, decide_eq_true (by rw [List.length_map]; omega)]; rfl
  · rw [cnt]; omega
theorem r_asked (T : Pail μ t d N) (hN : N ≤ 50000) (G : GoodF fr) : ∃ μ', run P (n + 8) 392 [.ref t, .tup (fr.map .int)] μ = .ok (.bl true) μ' ∧ Pail μ' t d (N + 3000) ∧ Keep2 t d μ μ' := by
  have tl := T.tl
  have dl := T.dl
  have g1 := G.l1
  have g2 := G.l2
  have hlen := rcs_len G
  have hp5 := G.p
  have hp1 := prodI_pos G.g
  have rv := rcs_RV G
  have e1 : run P (n + 7) 311 [.tup (fr.map .int)] μ = .ok (.ref μ.length) (μ ++ [.lst (rcs fr)]) := r_law_records H.h311 (n := n + 6) (μ := μ) G.g G.p G.l2
  obtain ⟨μ1, hμ1⟩ : ∃ μ1, μ ++ [.lst (rcs fr)] = μ1 := ⟨_, rfl⟩
  rw [hμ1] at e1
  have T1 : Pail μ1 t d N := by rw [← hμ1]; exact T.app _
  have K1 : Keep2 t d μ μ1 := by rw [← hμ1]; exact (Keep2.refl t d μ).app _
  have l1 : μ1.length = μ.length + 1 := by rw [← hμ1]; simp
  have a1 : μ1[μ.length]? = some (.lst (rcs fr)) := by rw [← hμ1, List.getElem?_append_right (Nat.le_refl _)]; simp
  obtain ⟨vs, μ2, e2, hvs, hv, T2, K12⟩ := r_change H.h307 H.h308 H.h309 H.h311 H.h312 H.h328 H.h329 (n := n + 3) T1 (by omega) G
  obtain ⟨os, μ3, e3, ho, T3, K23⟩ := r_order H.h307 H.h309 H.h368 (n := n + 4) T2 (by omega) G
  have K13 := K12.trans K23
  have a3 : μ3[μ.length]? = some (.lst (rcs fr)) := by rw [K13.2 _ (by omega) (by omega) (by omega)]; exact a1
  have l3 := K13.1
  obtain ⟨i4, r4, μ4, e4, g4, T4, O4⟩ := r_one H.h307 H.h308 (n := n + 5) T3 (by omega) a3 (by omega) (by omega) (by omega) (by omega)
  have a4 : μ4[μ.length]? = some (.lst (rcs fr)) := by rw [O4.2 _ (by omega) (by omega)]; exact a3
  have rv4 := rv _ (List.mem_of_getElem? g4)
  have pfst : place (rcs fr).length 0 = some 0 := place_nat (k := 0) (by omega)
  have gfst : (rcs fr)[0]? = some ((rcs fr)[0]'(by omega)) := List.getElem?_eq_getElem (by omega)
  have rvf := rv _ (List.mem_of_getElem? gfst)
  have plast : place (rcs fr).length (-1) = some ((rcs fr).length - 1) := by
    unfold place
    rw [if_neg (by omega), if_pos (by omega)]
    congr 1
    omega
  have glast : (rcs fr)[(rcs fr).length - 1]? = some ((rcs fr)[(rcs fr).length - 1]'(by omega)) := List.getElem?_eq_getElem (by omega)
  have rvl := rv _ (List.mem_of_getElem? glast)
  obtain ⟨rf, hrf⟩ : ∃ rf, (rcs fr)[0]'(by omega) = rf := ⟨_, rfl⟩
  obtain ⟨rl, hrl⟩ : ∃ rl, (rcs fr)[(rcs fr).length - 1]'(by omega) = rl := ⟨_, rfl⟩
  rw [hrf] at gfst rvf
  rw [hrl] at glast rvl
  obtain ⟨ρ5, μ5, e5, o5, o10, rfl, T5, O45⟩ := forL_all (bind := bindT (.nm 5)) (body := ex (run P (n + 7)) B392_3) (src := .tup [r4, rf, rl]) (all := [r4, rf, rl])
    (I := fun j ρ μ' => ∃ o5 o10, ρ = [some (.ref t), some (.tup (fr.map .int)), some (.ref μ.length), some (.tup vs), some (.tup (os.map .int)), o5, none, none, none, none, o10, none, none, none, none] ∧ Pail μ' t d (N + 1600 + 1001 + 1 + j) ∧ Only2 t d μ4 μ') (xs := [r4, rf, rl]) (i := 0) (ρ := [some (.ref t), some (.tup (fr.map .int)), some (.ref μ.length), some (.tup vs), some (.tup (os.map .int)), none, none, none, none, none, none, none, none, none, none]) (μ := μ4)
    ⟨none, none, rfl, T4.le (by omega), Only2.refl _ _ _⟩
    (fun j x ρ μ' hx hI => by
      obtain ⟨o5, o10, rfl, T', O'⟩ := hI
      have hj : j < 3 := by have := (List.getElem?_eq_some_iff.mp hx).1; simpa using this
      have rx : RV fr x := by
        have := List.mem_of_getElem? hx
        simp only [List.mem_cons, List.not_mem_nil, or_false] at this
        rcases this with rfl | rfl | rfl
        · exact rv4
        · exact rvf
        · exact rvl
      obtain ⟨rs, rfl, h⟩ := rx
      have a' : μ'[μ.length]? = some (.lst (rcs fr)) := by rw [O'.2 _ (by omega) (by omega)]; exact a4
      obtain ⟨o10', μ6, e, T6, O6⟩ := b3_step H (n := n) T' (by omega) G a' (by omega) (by omega) hvs hv ho h none none none none o10 none none none none
      exact ⟨_, _, μ6, rfl, .inl e, rfl, _, o10', rfl, T6.le (by push_cast; omega), O'.trans O6⟩)
  have a5 : μ5[μ.length]? = some (.lst (rcs fr)) := by rw [O45.2 _ (by omega) (by omega)]; exact a4
  have K5 : Keep2 t d μ1 μ5 := (K13.trans O4.keep).trans O45.keep
  have T5' : Pail μ5 t d (N + 2605) := T5.le (by simp; omega)
  -- strange, wrong, odd
  obtain ⟨i6, r6, μ6, e6, g6, T6, O6⟩ := r_one H.h307 H.h308 (n := n + 5) T5' (by omega) a5 (by omega) (by omega) (by omega) (by omega)
  obtain ⟨q6, rfl, in6⟩ := rv _ (List.mem_of_getElem? g6)
  obtain ⟨w7, μ7, e7, kw7, hw7, T7, K7⟩ := r_strange H.h307 H.h308 H.h320 (n := n + 4) T6 (by omega) G in6
  obtain ⟨w8, μ8, e8, kw8, hw8, T8, K8⟩ := r_wrong H (n := n + 5) T7 (by omega) (m := fr.length) (by omega) (by omega) ho
  obtain ⟨B45, hB⟩ : ∃ B, (1000000000000000000000000000000000000000000000 : Int) = B := ⟨_, rfl⟩
  have hpow : ∀ μ, sem2 .pow (.int 10) (.int 45) μ = .ok (.int B45) μ := fun _ => by rw [← hB]; rfl
  obtain ⟨odds, hodds⟩ : ∃ odds : List Val, [Val.int ((fr.length : Int) + 1), .int (-1), .bl true, .non, .str [48], .int B45, .tup [.int 0], .bl false] = odds := ⟨_, rfl⟩
  obtain ⟨μ9, hμ9⟩ : ∃ μ9, μ8 ++ [.lst odds] = μ9 := ⟨_, rfl⟩
  have T9 : Pail μ9 t d (N + 2605 + 1 + 3 + 1) := by rw [← hμ9]; exact T8.app _
  have l8 := K8.1
  have l7 := K7.1
  have l6 : μ6.length = μ5.length := O6.1
  have l5 := K5.1
  have a9 : μ9[μ8.length]? = some (.lst odds) := by rw [← hμ9, List.getElem?_append_right (by omega)]; simp
  have nodds : ∀ v ∈ odds, KnD 0 μ9 v ∧ numV fr.length v = false := fun v hv => by
    rw [← hodds] at hv
    simp only [List.mem_cons, List.not_mem_nil, or_false] at hv
    rcases hv with rfl | rfl | rfl | rfl | rfl | rfl | rfl | rfl
    · exact ⟨Kn_int _ _, by simp [numV]; omega⟩
    · exact ⟨Kn_int _ _, by simp [numV]⟩
    · exact ⟨Kn.flat (by intro k z; cases z), rfl⟩
    · exact ⟨Kn.flat (by intro k z; cases z), rfl⟩
    · exact ⟨Kn.flat (by intro k z; cases z), rfl⟩
    · refine ⟨Kn_int _ _, ?_⟩
      have : ¬ B45 ≤ (fr.length : Int) := by rw [← hB]; omega
      simp [numV, this]
    · exact ⟨Kn.flat (by intro k z; cases z), rfl⟩
    · exact ⟨Kn.flat (by intro k z; cases z), rfl⟩
  obtain ⟨od, μ10, e10, kod, mod', T10, O10⟩ := r_pick H.h307 H.h308 (n := n + 5) T9 (by omega) (fun v hv => (nodds v hv).1) a9 (by omega) (by omega) (by rw [← hodds]; simp) (by rw [← hodds]; simp)
  have hod := (nodds od mod').2
  have K68 : Keep2 t d μ5 μ9 := by rw [← hμ9]; exact ((O6.keep.trans K7).trans K8).app _
  have a10 : μ10[μ.length]? = some (.lst (rcs fr)) := by rw [O10.2 _ (by omega) (by omega), K68.2 _ (by omega) (by omega) (by omega)]; exact a5
  obtain ⟨i11, r11, μ11, e11, g11, T11, O11⟩ := r_one H.h307 H.h308 (n := n + 5) T10 (by omega) a10 (by omega) (by omega) (by omega) (by omega)
  obtain ⟨q11, rfl, in11⟩ := rv _ (List.mem_of_getElem? g11)
  obtain ⟨mm, μ12, e12, mm0, mm1, T12, O12⟩ := r_scoop H.h307 (n := n + 6) T11 (by omega) (many := (fr.length : Int) + 1) (by omega) (by omega)
  -- the rows
  obtain ⟨O, hO⟩ : ∃ O : List Val, os.map .int = O := ⟨_, rfl⟩
  obtain ⟨R, hR⟩ : ∃ R : List Val, q11.map .int = R := ⟨_, rfl⟩
  obtain ⟨rows1, hrows1⟩ : ∃ rows1 : List Val, [Val.tup [.tup O, .int mm, w7, .str wRec], .tup [w8, .int mm, .tup R, .str wOrd], .tup [.tup O, od, .tup R, .str wNumb]] = rows1 := ⟨_, rfl⟩
  obtain ⟨rows2, hrows2⟩ : ∃ rows2 : List Val, [Val.tup [w8, od, w7, .str wRec], .tup [w8, od, .tup R, .str wOrd], .tup [.tup O, od, w7, .str wRec], .tup [w8, .int mm, w7, .str wRec]] = rows2 := ⟨_, rfl⟩
  have z1 : rows1.length = 3 := by rw [← hrows1]; rfl
  have z2 : rows2.length = 4 := by rw [← hrows2]; rfl
  have ad : sem2 .add (.ref μ12.length) (.ref (μ12.length + 1)) (μ12 ++ [.lst rows1, .lst rows2]) = .ok (.ref (μ12.length + 2)) (μ12 ++ [.lst rows1, .lst rows2, .lst (rows1 ++ rows2)]) := by
    rw [s_addr (xs := rows1) (ys := rows2) (by rw [List.getElem?_append_right (by omega), Nat.sub_self]; rfl) (by rw [List.getElem?_append_right (by omega), show μ12.length + 1 - μ12.length = 1 by omega]; rfl) (by rw [z1, z2]; simp [LIM])]
    simp [newLst]
  obtain ⟨rows, hrows⟩ : ∃ rows, rows1 ++ rows2 = rows := ⟨_, rfl⟩
  rw [hrows] at ad
  obtain ⟨μ13, hμ13⟩ : ∃ μ13, μ12 ++ [.lst rows1, .lst rows2, .lst rows] = μ13 := ⟨_, rfl⟩
  rw [hμ13] at ad
  have T13 : Pail μ13 t d (N + 2613) := by rw [← hμ13]; exact (T12.app _).le (by omega)
  have a13 : μ13[μ12.length + 2]? = some (.lst rows) := by rw [← hμ13, List.getElem?_append_right (by omega), show μ12.length + 2 - μ12.length = 2 by omega]; rfl
  have K1012 : Keep2 t d μ9 μ13 := by rw [← hμ13]; exact ((O10.trans O11).trans O12).keep.app _
  have K10' : Keep2 t d μ10 μ13 := by rw [← hμ13]; exact (O11.trans O12).keep.app _
  have kw7' : KnT μ13 w7 := ((kw7.grow (K8.grow T7 T8)).grow (by rw [← hμ9] at K1012; exact (Grow.app μ8 [.lst odds]))).grow (by rw [hμ9]; exact K1012.grow T9 T13)
  have kw8' : KnT μ13 w8 := (kw8.grow (Grow.app μ8 [.lst odds])).grow (by rw [hμ9]; exact K1012.grow T9 T13)
  have kod' : Kn μ13 od := Kn.grow kod (K10'.grow T10 T13)
  have kO : KnT μ13 (.tup O) := by rw [← hO]; exact KnT_ints _ os
  have kR : KnT μ13 (.tup R) := by rw [← hR]; exact KnT_ints _ q11
  have rR : recV fr (.tup R) = true := by rw [← hR]; exact in_recV in11
  have oO : ordV fr.length (.tup O) = true := by rw [← hO]; exact ord_ordV ho
  have nm : numV fr.length (.int mm) = true := by simp [numV, mm0]; omega
  have each : ∀ x ∈ rows, ∃ o m r w, x = .tup [o, m, r, .str w] ∧ KnT μ13 o ∧ Kn μ13 m ∧ KnT μ13 r ∧ wrongV fr o m r = some w := fun x hx => by
    rw [← hrows, ← hrows1, ← hrows2] at hx
    simp only [List.cons_append, List.nil_append, List.mem_cons, List.not_mem_nil, or_false] at hx
    rcases hx with rfl | rfl | rfl | rfl | rfl | rfl | rfl
    · exact ⟨_, _, _, _, rfl, kO, Kn_int _ _, kw7', by simp [wrongV, hw7]⟩
    · exact ⟨_, _, _, _, rfl, kw8', Kn_int _ _, kR, by simp [wrongV, rR, hw8]⟩
    · exact ⟨_, _, _, _, rfl, kO, kod', kR, by simp [wrongV, rR, oO, hod]⟩
    · exact ⟨_, _, _, _, rfl, kw8', kod', kw7', by simp [wrongV, hw7]⟩
    · exact ⟨_, _, _, _, rfl, kw8', kod', kR, by simp [wrongV, rR, hw8]⟩
    · exact ⟨_, _, _, _, rfl, kO, kod', kw7', by simp [wrongV, hw7]⟩
    · exact ⟨_, _, _, _, rfl, kw8', Kn_int _ _, kw7', by simp [wrongV, hw7]⟩
  obtain ⟨ρ14, μ14, e14, o11, o12, o13, o14, rfl, rfl⟩ := forL_all (bind := bindT (.tp [11, 12, 13, 14])) (body := ex (run P (n + 7)) B392_1) (src := .ref (μ12.length + 2)) (all := rows)
    (I := fun j ρ μ' => ∃ o11 o12 o13 o14, ρ = [some (.ref t), some (.tup (fr.map .int)), some (.ref μ.length), some (.tup vs), some (.tup O), some (.tup R), some w7, some w8, some od, some (.ref (μ12.length + 2)), some (.int mm), o11, o12, o13, o14] ∧ μ' = μ13) (xs := rows) (i := 0) (ρ := [some (.ref t), some (.tup (fr.map .int)), some (.ref μ.length), some (.tup vs), some (.tup O), some (.tup R), some w7, some w8, some od, some (.ref (μ12.length + 2)), some (.int mm), none, none, none, none]) (μ := μ13)
    ⟨none, none, none, none, rfl, rfl⟩
    (fun j x ρ μ' hx hI => by
      obtain ⟨o11, o12, o13, o14, rfl, rfl⟩ := hI
      obtain ⟨o, m, r, w, rfl, ko, km, kr, hw⟩ := each x (List.mem_of_getElem? hx)
      have e := b1_step H (n := n) (c := .tup vs) G ko km kr hw (some (.ref t)) (some (.ref μ.length)) (some (.tup O)) (some (.tup R)) (some w7) (some w8) (some od) (some (.ref (μ12.length + 2))) (some (.int mm))
      exact ⟨_, _, _, rfl, .inl e, decide_eq_true a13, _, _, _, _, rfl, rfl⟩)
  have Kall : Keep2 t d μ μ14 := ((K1.trans K5).trans K68).trans K1012
  have hB5 : ∃ X, Pail X t d (N + 2613) ∧ Keep2 t d μ X ∧ ex (run P (n + 7)) F392.body (enter F392 [.ref t, .tup (fr.map .int)]) μ = .ret (.bl true) X := by
    rw [hO] at e3 e5 e8
    rw [hR] at e11
    by_cases h5 : (5 : Int) < (fr.length : Int)
    · refine ⟨μ14, T13, Kall, ?_⟩
      simp [F392, enter, e1, e2, e3, a3, e4, pfst, gfst, plast, glast, a4, e5, a5, e6, e7, e8, hpow, newLst, hodds, hμ9, e10, e11, e12, hrows1, hrows2, ad, a13, e14, h5]
    · obtain ⟨k, X, t1, t2, t3, t4, t5, t6⟩ := two_ways H (n := n) (μ := μ14) (m := fr.length) (by omega) (frv := fr) rfl
      obtain ⟨W, hW⟩ : ∃ W, (allW fr.length fr.length).map Val.tup = W := ⟨_, rfl⟩
      rw [hW] at t1 t3 t4
      have KX : Keep2 t d μ14 X := ⟨t5, fun j hj _ _ => t6 j hj⟩
      have TX : Pail X t d (N + 2613) := T13.same (t6 _ T13.tl) (t6 _ T13.dl)
      refine ⟨X, TX, Kall.trans KX, ?_⟩
      simp [F392, enter, e1, e2, e3, a3, e4, pfst, gfst, plast, glast, a4, e5, a5, e6, e7, e8, hpow, newLst, hodds, hμ9, e10, e11, e12, hrows1, hrows2, ad, a13, e14, h5, t1, t2, t3, t4]
  obtain ⟨X, TX, KX, eo⟩ := hB5
  refine ⟨(Mi.clean μ (.bl true) X).2, ?_, (TX.clean tl dl _).le (by omega), KX.clean _⟩
  rw [run_succ H.h392 _ _ rfl, eo]
  show Out.ok (Mi.clean μ _ X).1 _ = _
  rw [clean_val (by intro k z; cases z)]
end
end Mi
end

section
set_option linter.all false
set_option autoImplicit false
/-! PK21e: the law. -/
namespace Mi
section
variable {P : Nat → Option Fn} {μ : Sto} {n : Nat} {t d : Nat} {N : Int} (H : HasK21 P)
include H
theorem fin21 (s : Val) (o2 o3 : Option Val) : ∃ μ', ex (run P (n + 9)) F393.body.b.b.b.b.b [some s, some (.ref t), o2, o3, none, none, none] μ = .ret (.bl true) μ' := by
  have good : ∀ l : List Int, (1 ≤ l.length ∧ l.length ≤ 6 ∧ (∀ x ∈ l, 1 ≤ x ∧ x ≤ 12) ∧ prodI l ≤ 500) → GoodF l := fun l h => ⟨h.1, h.2.1, h.2.2.1, h.2.2.2⟩
  have G : GoodF [2, 3] := good _ (by decide)
  have e1 : run P (n + 9) 311 [.tup [.int 2, .int 3]] μ = .ok (.ref μ.length) (μ ++ [.lst (rcs [2, 3])]) := r_law_records H.h311 (n := n + 8) (μ := μ) G.g G.p G.l2
  obtain ⟨RC, hRC⟩ : ∃ RC, rcs [2, 3] = RC := ⟨_, rfl⟩
  have hRC2 : RC = [.tup [.int 0, .int 0], .tup [.int 0, .int 1], .tup [.int 0, .int 2], .tup [.int 1, .int 0], .tup [.int 1, .int 1], .tup [.int 1, .int 2]] := by rw [← hRC]; rfl
  rw [hRC] at e1
  obtain ⟨μ1, hμ1⟩ : ∃ μ1, μ ++ [.lst RC] = μ1 := ⟨_, rfl⟩
  rw [hμ1] at e1
  have a1 : μ1[μ.length]? = some (.lst RC) := by rw [← hμ1]; simp
  obtain ⟨adds, hadds⟩ : ∃ adds : List Val, [Val.tup [.int 0, .int 1], .tup [.int 1, .int 2], .tup [.int 0, .int 0], .tup [.int 1, .int 1], .tup [.int 0, .int 2], .tup [.int 1, .int 0]] = adds := ⟨_, rfl⟩
  obtain ⟨f, hf⟩ : ∃ f : Val → Val, f = fun v => match v with | .tup [.int a, .int b] => .tup [.int ((a + b) % 2), .int ((b + 1) % 3)] | w => w := ⟨_, rfl⟩
  have p20 : place 2 0 = some 0 := rfl
  have p21 : place 2 1 = some 1 := rfl
  have hc : compL (fun v => some [some s, some (.ref t), o2, o3, none, none, some v]) (ev (run P (n + 9)) (.cst (.bl true))) (ev (run P (n + 9)) (.tupE (.cons (.op2 .mod (.op1 .int (.op2 .add (.op2 .idx (.var 6) (.cst (.int 0))) (.op2 .idx (.var 6) (.cst (.int 1))))) (.cst (.int 2))) (.cons (.op2 .mod (.op1 .int (.op2 .add (.op2 .idx (.var 6) (.cst (.int 1))) (.cst (.int 1)))) (.cst (.int 3))) .nil)))) (.ref μ.length) RC RC μ1 = .ok (RC.map f) μ1 := by
    have hg : guard (.ref μ.length) RC μ1 = true := decide_eq_true a1
    refine compL_map hg fun y hy => ?_
    obtain ⟨a, b, rfl⟩ : ∃ a b : Int, y = .tup [.int a, .int b] := by
      rw [hRC2] at hy
      simp only [List.mem_cons, List.not_mem_nil, or_false] at hy
      rcases hy with rfl | rfl | rfl | rfl | rfl | rfl <;> exact ⟨_, _, rfl⟩
    have k2 : ∀ μ, sem2 .mod (.int (a + b)) (.int 2) μ = .ok (.int ((a + b) % 2)) μ := fun μ => s_mod (by omega)
    have k3 : ∀ μ, sem2 .mod (.int (b + 1)) (.int 3) μ = .ok (.int ((b + 1) % 3)) μ := fun μ => s_mod (by omega)
    refine ⟨_, rfl, rfl, ?_⟩
    rw [hf]
    simp [p20, p21, k2, k3]
  have hm : RC.map f = adds := by rw [hRC2, hf, ← hadds]; rfl
  rw [hm] at hc
  have lim : RC.length ≤ LIM := by rw [hRC2]; simp [LIM]
  obtain ⟨μ2, hμ2⟩ : ∃ μ2, μ1 ++ [.lst adds] = μ2 := ⟨_, rfl⟩
  have a2 : μ2[μ1.length]? = some (.lst adds) := by rw [← hμ2]; simp
  have hadd : ∀ v ∈ adds, RV [2, 3] v := fun v hv => by
    rw [← hadds] at hv
    simp only [List.mem_cons, List.not_mem_nil, or_false] at hv
    rcases hv with rfl | rfl | rfl | rfl | rfl | rfl
    · exact ⟨[0, 1], rfl, by simp [inF]⟩
    · exact ⟨[1, 2], rfl, by simp [inF]⟩
    · exact ⟨[0, 0], rfl, by simp [inF]⟩
    · exact ⟨[1, 1], rfl, by simp [inF]⟩
    · exact ⟨[0, 2], rfl, by simp [inF]⟩
    · exact ⟨[1, 0], rfl, by simp [inF]⟩
  have ladd : adds.length = (rcs [2, 3]).length := by rw [← hadds]; rfl
  have hin : inF [2, 3] [0, 1] := by simp [inF]
  have p1 : run P (n + 9) 388 [.tup [.int 2, .int 3], .tup adds, .tup [.int 0, .int 1], .int 1, .tup [.int 0, .int 1]] μ2 = .ok (.tup [.int 1, .int 1]) μ2 := by
    obtain ⟨ts, gk, ht, e⟩ := behind_ok H (n := n + 3) (μ := μ2) G ladd hadd (os := [0, 1]) (rs := [0, 1]) (m := 1) rfl (by omega) (by simp) hin
    rw [← hadds] at gk
    have e2 : ts = [1, 2] := mapInt_inj (Val.tup.inj (Option.some.inj (gk.symm.trans (show _ = some (Val.tup ([1, 2].map .int)) from rfl))))
    subst e2
    exact e
  have p2 : run P (n + 9) 388 [.tup [.int 2, .int 3], .tup adds, .tup [.int 1, .int 0], .int 1, .tup [.int 0, .int 1]] μ2 = .ok (.tup [.int 0, .int 2]) μ2 := by
    obtain ⟨ts, gk, ht, e⟩ := behind_ok H (n := n + 3) (μ := μ2) G ladd hadd (os := [1, 0]) (rs := [0, 1]) (m := 1) rfl (by omega) (by simp) hin
    rw [← hadds] at gk
    have e2 : ts = [1, 2] := mapInt_inj (Val.tup.inj (Option.some.inj (gk.symm.trans (show _ = some (Val.tup ([1, 2].map .int)) from rfl))))
    subst e2
    exact e
  have p3 : run P (n + 9) 375 [.tup [.int 12]] μ2 = .ok (.tup [.tup [.int 0]]) μ2 := r_all_orders (n := n + 8) (μ := μ2) H.h375 (fr := [12]) (by simp)
  have p4 : run P (n + 9) 375 [.tup [.int 1, .int 1]] μ2 = .ok (.tup [.tup [.int 0, .int 1], .tup [.int 1, .int 0]]) μ2 := r_all_orders (n := n + 8) (μ := μ2) H.h375 (fr := [1, 1]) (by simp)
  have s1 := r_same2 H.h317 (n := n + 8) (μ := μ2) (.tup [.tup [.int 1, .int 1], .tup [.int 0, .int 2], .tup [.tup [.int 0]], .tup [.tup [.int 0, .int 1], .tup [.int 1, .int 0]]]) rfl (by simp [cnt, cnts])
  refine ⟨μ2, ?_⟩
  simp [F393, MS.b, e1, a1, hc, lim, newLst, hμ2, a2, p1, p2, p3, p4, pick, s1]
theorem plain_k21 (ns : List Int) : ∃ μ', run P (n + 10) 393 [.scr ns] [] = .ok (.bl true) μ' := by
  obtain ⟨μ1, e1, T1⟩ := r_pail H.h306 (n := n + 8) ns
  obtain ⟨ρ2, μ2, e2, o2, rfl, T2⟩ := forL_all (bind := bindT (.nm 2)) (body := ex (run P (n + 9)) B393_1) (src := .tup ((List.range 4).map fun i => Val.int (i : Nat))) (all := (List.range 4).map fun i => Val.int (i : Nat))
    (I := fun j ρ μ' => ∃ o2, ρ = [some (.scr ns), some (.ref 1), o2, none, none, none, none] ∧ Pail μ' 1 0 (4000 * (j : Nat))) (xs := (List.range 4).map fun i => Val.int (i : Nat)) (i := 0) (ρ := [some (.scr ns), some (.ref 1), none, none, none, none, none]) (μ := μ1) ⟨none, rfl, T1.le (by omega)⟩
    (fun j y ρ μ' hy hI => by
      obtain ⟨o2, rfl, T⟩ := hI
      have hj : j < 4 := by have := (List.getElem?_eq_some_iff.mp hy).1; simpa using this
      obtain ⟨fr, μ3, e3, G, T3, K3⟩ := r_sframe H.h307 H.h310 (n := n + 7) T (by omega) (most := 40) (by omega) (by omega)
      obtain ⟨μ4, e4, T4, K4⟩ := r_asked H (n := n + 1) T3 (by omega) G
      refine ⟨_, [some (.scr ns), some (.ref 1), some y, none, none, none, none], μ4, rfl, .inl ?_, rfl, some y, rfl, T4.le (by push_cast; omega)⟩
      simp [B393_1, e3, e4])
  obtain ⟨x, μ3, e3, x0, x1, T3, O3⟩ := r_scoop H.h307 (n := n + 8) T2 (by simp) (many := 13) (by omega) (by omega)
  have hb : F393.body = .seq F393.body.a (.seq (.forE (.nm 2) (.rng (.cst (.int 4))) B393_1) (.seq F393.body.b.b.a (.seq F393.body.b.b.b.a (.seq F393.body.b.b.b.b.a F393.body.b.b.b.b.b)))) := rfl
  have hB : F393.body.b.b.b.a = (.ite (.and (.op2 .eq (.var 3) (.cst (.int 2))) (.op1 .not (.call 392 (.cons (.var 1) (.cons (.call 310 (.cons (.var 1) (.cons (.cst (.int 500)) .nil))) .nil)))))
  (.seq (.ret (.cst (.bl false)))
  .skip)
  .skip) := rfl
  have hC : F393.body.b.b.b.b.a = (.ite (.and (.op2 .eq (.var 3) (.cst (.int 11))) (.op1 .not (.call 317 (.cons (.call 375 (.cons (.tupE (.cons (.cst (.int 1)) (.cons (.cst (.int 2)) (.cons (.cst (.int 1)) (.cons (.cst (.int 3)) (.cons (.cst (.int 2)) (.cons (.cst (.int 1)) .nil))))))) .nil)) (.cons (.op1 .toTup (.call 379 (.cons (.cst (.int 6)) .nil))) .nil)))))
  (.seq (.ret (.cst (.bl false)))
  .skip)
  .skip) := rfl
  have fin' : ∃ X, ex (run P (n + 9)) F393.body (enter F393 [.scr ns]) [] = .ret (.bl true) X := by
    rw [hb, hB, hC]
    by_cases h2 : x = 2
    · subst h2
      obtain ⟨fr, μ4, e4, G, T4, K4⟩ := r_sframe H.h307 H.h310 (n := n + 7) T3 (by simp) (most := 500) (by omega) (by omega)
      obtain ⟨μ5, e5, T5, K5⟩ := r_asked H (n := n + 1) T4 (by simp) G
      obtain ⟨X, eX⟩ := fin21 H (n := n) (μ := μ5) (t := 1) (.scr ns) o2 (some (.int 2))
      refine ⟨X, ?_⟩
      obtain ⟨Z, hZ⟩ : ∃ Z, F393.body.b.b.b.b.b = Z := ⟨_, rfl⟩
      rw [hZ] at eX ⊢
      simp [F393, MS.a, MS.b, enter, e1, e2, e3, e4, e5, eX]
    · by_cases h11 : x = 11
      · subst h11
        obtain ⟨k, Y, t1, t2, t3, t4, t5, t6⟩ := two_ways H (n := n + 2) (μ := μ3) (m := 6) (by omega) (frv := [1, 2, 1, 3, 2, 1]) rfl
        obtain ⟨W, hW⟩ : ∃ W, (allW 6 6).map Val.tup = W := ⟨_, rfl⟩
        rw [hW] at t1 t3 t4
        simp only [List.map_cons, List.map_nil] at t1
        have t2' : run P (n + 9) 379 [.int 6] μ3 = .ok (.ref k) Y := t2
        obtain ⟨X, eX⟩ := fin21 H (n := n) (μ := Y) (t := 1) (.scr ns) o2 (some (.int 11))
        refine ⟨X, ?_⟩
        obtain ⟨Z, hZ⟩ : ∃ Z, F393.body.b.b.b.b.b = Z := ⟨_, rfl⟩
        rw [hZ] at eX ⊢
        simp [F393, MS.a, MS.b, enter, e1, e2, e3, t1, t2', t3, t4, eX]
      · obtain ⟨X, eX⟩ := fin21 H (n := n) (μ := μ3) (t := 1) (.scr ns) o2 (some (.int x))
        refine ⟨X, ?_⟩
        obtain ⟨Z, hZ⟩ : ∃ Z, F393.body.b.b.b.b.b = Z := ⟨_, rfl⟩
        rw [hZ] at eX ⊢
        simp [F393, MS.a, MS.b, enter, e1, e2, e3, h2, h11, eX]
  obtain ⟨X, eo⟩ := fin'
  refine ⟨(clean [] (.bl true) X).2, ?_⟩
  rw [run_succ H.h393 _ _ rfl, eo]
  show Out.ok (clean [] (.bl true) X).1 _ = _
  rw [clean_val (by intro k z; cases z)]
end
end Mi
end

set_option Elab.async false
set_option linter.all false
set_option maxRecDepth 100000
set_option autoImplicit false
set_option maxHeartbeats 1000000
namespace Lw
open PySem PySem.Spec L2 Mi
open PyProof.Rows hiding St
abbrev top (i : Nat) : Stmt := PySem.Challenge.pw_nospare_k21_states.main.body.getD i (.Pass ⟨0, 0, 0, 0⟩)
def tb : Nat → Option Fn := fun k => match k with
  | 73 => some F73
  | 74 => some F74
  | 75 => some F75
  | 76 => some F76
  | 247 => some F247
  | 248 => some F248
  | 128 => some F128
  | 375 => some F375
  | 360 => some F360
  | 361 => some F361
  | 362 => some F362
  | 388 => some F388
  | 306 => some F306
  | 307 => some F307
  | 308 => some F308
  | 309 => some F309
  | 310 => some F310
  | 311 => some F311
  | 312 => some F312
  | 328 => some F328
  | 329 => some F329
  | 368 => some F368
  | 317 => some F317
  | 320 => some F320
  | 389 => some F389
  | 379 => some F379
  | 390 => some F390
  | 391 => some F391
  | 392 => some F392
  | 393 => some F393
  | _ => none
def Γ : Gam where
  fns := [(73, ("is_whole" : Str), 1), (74, ("is_number" : Str), 1), (75, ("is_below" : Str), 2), (76, ("is_row" : Str), 2), (247, ("is_record" : Str), 2), (248, ("look_for_record" : Str), 2), (128, ("place_in" : Str), 2), (375, ("all_orders" : Str), 1), (360, ("is_order" : Str), 2), (361, ("look_for_order" : Str), 2), (362, ("state" : Str), 4), (388, ("state_behind" : Str), 5), (306, ("_law_pail" : Str), 1), (307, ("_law_scoop" : Str), 2), (308, ("_law_one" : Str), 2), (309, ("_law_mixed" : Str), 2), (310, ("_law_frame" : Str), 2), (311, ("_law_records" : Str), 1), (312, ("_law_set" : Str), 3), (328, ("_law_change" : Str), 2), (329, ("_law_turned" : Str), 4), (368, ("_law_order" : Str), 2), (317, ("_law_same" : Str), 2), (320, ("_law_strange" : Str), 3), (389, ("_law_state" : Str), 5), (379, ("_law_orders" : Str), 1), (390, ("_law_raised" : Str), 5), (391, ("_law_wrong_order" : Str), 2), (392, ("_law_asked" : Str), 2), (393, ("law" : Str), 1)]
  exn := [(4, "BadStep", ["word"])]
  cat := [("BadStep", [4]), ("SpareError", [4, 8, 15])]
  kws := [(388, ["record", "many", "order", "change", "frame"], [4, 3, 2, 1, 0])]
  cs := []
  abs := ["abs", "bool", "int", "isinstance", "len", "list", "min", "range", "set", "str", "tuple"]
theorem sc73 : FnScope ["thing"] ["thing"] (defScope (top 5)) := ⟨rfl, rfl, rfl, by decide +kernel, rfl, by decide +kernel, by decide +kernel⟩
theorem ck73 : chkB Γ ⟨["thing"], defScope (top 5), fun _ => true⟩ F73.body (defBody (top 5)) = true := by decide +kernel
theorem sc74 : FnScope ["thing"] ["thing"] (defScope (top 6)) := ⟨rfl, rfl, rfl, by decide +kernel, rfl, by decide +kernel, by decide +kernel⟩
theorem ck74 : chkB Γ ⟨["thing"], defScope (top 6), fun _ => true⟩ F74.body (defBody (top 6)) = true := by decide +kernel
theorem sc75 : FnScope ["thing", "most"] ["thing", "most"] (defScope (top 7)) := ⟨rfl, rfl, rfl, by decide +kernel, rfl, by decide +kernel, by decide +kernel⟩
theorem ck75 : chkB Γ ⟨["thing", "most"], defScope (top 7), fun _ => true⟩ F75.body (defBody (top 7)) = true := by decide +kernel
theorem sc76 : FnScope ["thing", "many"] ["thing", "many"] (defScope (top 8)) := ⟨rfl, rfl, rfl, by decide +kernel, rfl, by decide +kernel, by decide +kernel⟩
theorem ck76 : chkB Γ ⟨["thing", "many"], defScope (top 8), fun _ => true⟩ F76.body (defBody (top 8)) = true := by decide +kernel
theorem sc247 : FnScope ["frame", "thing", "at"] ["frame", "thing"] (defScope (top 10)) := ⟨rfl, rfl, rfl, by decide +kernel, rfl, by decide +kernel, by decide +kernel⟩
theorem ck247 : chkB Γ ⟨["frame", "thing", "at"], defScope (top 10), fun _ => true⟩ F247.body (defBody (top 10)) = true := by decide +kernel
theorem sc248 : FnScope ["frame", "record"] ["frame", "record"] (defScope (top 11)) := ⟨rfl, rfl, rfl, by decide +kernel, rfl, by decide +kernel, by decide +kernel⟩
theorem ck248 : chkB Γ ⟨["frame", "record"], defScope (top 11), fun _ => true⟩ F248.body (defBody (top 11)) = true := by decide +kernel
theorem sc128 : FnScope ["frame", "record", "place", "at"] ["frame", "record"] (defScope (top 12)) := ⟨rfl, rfl, rfl, by decide +kernel, rfl, by decide +kernel, by decide +kernel⟩
theorem ck128 : chkB Γ ⟨["frame", "record", "place", "at"], defScope (top 12), fun _ => true⟩ F128.body (defBody (top 12)) = true := by decide +kernel
theorem sc375 : FnScope ["frame", "found", "lap", "longer", "order", "field"] ["frame"] (defScope (top 14)) := ⟨rfl, rfl, rfl, by decide +kernel, rfl, by decide +kernel, by decide +kernel⟩
theorem ck375 : chkB Γ ⟨["frame", "found", "lap", "longer", "order", "field"], defScope (top 14), fun _ => true⟩ F375.body (defBody (top 14)) = true := by decide +kernel
theorem sc360 : FnScope ["frame", "thing", "field"] ["frame", "thing"] (defScope (top 15)) := ⟨rfl, rfl, rfl, by decide +kernel, rfl, by decide +kernel, by decide +kernel⟩
theorem ck360 : chkB Γ ⟨["frame", "thing", "field"], defScope (top 15), fun _ => true⟩ F360.body (defBody (top 15)) = true := by decide +kernel
theorem sc361 : FnScope ["frame", "order"] ["frame", "order"] (defScope (top 16)) := ⟨rfl, rfl, rfl, by decide +kernel, rfl, by decide +kernel, by decide +kernel⟩
theorem ck361 : chkB Γ ⟨["frame", "order"], defScope (top 16), fun _ => true⟩ F361.body (defBody (top 16)) = true := by decide +kernel
theorem sc362 : FnScope ["order", "many", "record", "told", "fresh", "field"] ["order", "many", "record", "told"] (defScope (top 17)) := ⟨rfl, rfl, rfl, by decide +kernel, rfl, by decide +kernel, by decide +kernel⟩
theorem ck362 : chkB Γ ⟨["order", "many", "record", "told", "fresh", "field"], defScope (top 17), fun _ => true⟩ F362.body (defBody (top 17)) = true := by decide +kernel
theorem sc388 : FnScope ["frame", "change", "order", "many", "record"] ["frame", "change", "order", "many", "record"] (defScope (top 18)) := ⟨rfl, rfl, rfl, by decide +kernel, rfl, by decide +kernel, by decide +kernel⟩
theorem ck388 : chkB Γ ⟨["frame", "change", "order", "many", "record"], defScope (top 18), fun _ => true⟩ F388.body (defBody (top 18)) = true := by decide +kernel
theorem sc306 : FnScope ["script", "pail", "at", "cell"] ["script"] (defScope (top 20)) := ⟨rfl, rfl, rfl, by decide +kernel, rfl, by decide +kernel, by decide +kernel⟩
theorem ck306 : chkB Γ ⟨["script", "pail", "at", "cell"], defScope (top 20), fun _ => true⟩ F306.body (defBody (top 20)) = true := by decide +kernel
theorem sc307 : FnScope ["pail", "many", "cell"] ["pail", "many"] (defScope (top 21)) := ⟨rfl, rfl, rfl, by decide +kernel, rfl, by decide +kernel, by decide +kernel⟩
theorem ck307 : chkB Γ ⟨["pail", "many", "cell"], defScope (top 21), fun _ => true⟩ F307.body (defBody (top 21)) = true := by decide +kernel
theorem sc308 : FnScope ["pail", "things"] ["pail", "things"] (defScope (top 22)) := ⟨rfl, rfl, rfl, by decide +kernel, rfl, by decide +kernel, by decide +kernel⟩
theorem ck308 : chkB Γ ⟨["pail", "things"], defScope (top 22), fun _ => true⟩ F308.body (defBody (top 22)) = true := by decide +kernel
theorem sc309 : FnScope ["pail", "things", "left", "told", "lap"] ["pail", "things"] (defScope (top 23)) := ⟨rfl, rfl, rfl, by decide +kernel, rfl, by decide +kernel, by decide +kernel⟩
theorem ck309 : chkB Γ ⟨["pail", "things", "left", "told", "lap"], defScope (top 23), fun _ => true⟩ F309.body (defBody (top 23)) = true := by decide +kernel
theorem sc310 : FnScope ["pail", "most", "sizes", "many", "style", "lap", "size"] ["pail", "most"] (defScope (top 24)) := ⟨rfl, rfl, rfl, by decide +kernel, rfl, by decide +kernel, by decide +kernel⟩
theorem ck310 : chkB Γ ⟨["pail", "most", "sizes", "many", "style", "lap", "size"], defScope (top 24), fun _ => true⟩ F310.body (defBody (top 24)) = true := by decide +kernel
theorem sc311 : FnScope ["frame", "told", "size", "more", "record", "number"] ["frame"] (defScope (top 25)) := ⟨rfl, rfl, rfl, by decide +kernel, rfl, by decide +kernel, by decide +kernel⟩
theorem ck311 : chkB Γ ⟨["frame", "told", "size", "more", "record", "number"], defScope (top 25), fun _ => true⟩ F311.body (defBody (top 25)) = true := by decide +kernel
theorem sc312 : FnScope ["record", "field", "number"] ["record", "field", "number"] (defScope (top 26)) := ⟨rfl, rfl, rfl, by decide +kernel, rfl, by decide +kernel, by decide +kernel⟩
theorem ck312 : chkB Γ ⟨["record", "field", "number"], defScope (top 26), fun _ => true⟩ F312.body (defBody (top 26)) = true := by decide +kernel
theorem sc328 : FnScope ["pail", "frame", "records", "style", "images", "few", "at", "field", "one", "other", "record"] ["pail", "frame"] (defScope (top 27)) := ⟨rfl, rfl, rfl, by decide +kernel, rfl, by decide +kernel, by decide +kernel⟩
theorem ck328 : chkB Γ ⟨["pail", "frame", "records", "style", "images", "few", "at", "field", "one", "other", "record"], defScope (top 27), fun _ => true⟩ F328.body (defBody (top 27)) = true := by decide +kernel
theorem sc329 : FnScope ["frame", "record", "one", "other"] ["frame", "record", "one", "other"] (defScope (top 28)) := ⟨rfl, rfl, rfl, by decide +kernel, rfl, by decide +kernel, by decide +kernel⟩
theorem ck329 : chkB Γ ⟨["frame", "record", "one", "other"], defScope (top 28), fun _ => true⟩ F329.body (defBody (top 28)) = true := by decide +kernel
theorem sc368 : FnScope ["pail", "frame", "fields", "style"] ["pail", "frame"] (defScope (top 29)) := ⟨rfl, rfl, rfl, by decide +kernel, rfl, by decide +kernel, by decide +kernel⟩
theorem ck368 : chkB Γ ⟨["pail", "frame", "fields", "style"], defScope (top 29), fun _ => true⟩ F368.body (defBody (top 29)) = true := by decide +kernel
theorem sc317 : FnScope ["told", "due", "rows", "one", "other", "k"] ["told", "due"] (defScope (top 30)) := ⟨rfl, rfl, rfl, by decide +kernel, rfl, by decide +kernel, by decide +kernel⟩
theorem ck317 : chkB Γ ⟨["told", "due", "rows", "one", "other", "k"], defScope (top 30), fun _ => true⟩ F317.body (defBody (top 30)) = true := by decide +kernel
theorem sc320 : FnScope ["pail", "frame", "record", "at", "odd"] ["pail", "frame", "record"] (defScope (top 33)) := ⟨rfl, rfl, rfl, by decide +kernel, rfl, by decide +kernel, by decide +kernel⟩
theorem ck320 : chkB Γ ⟨["pail", "frame", "record", "at", "odd"], defScope (top 33), fun _ => true⟩ F320.body (defBody (top 33)) = true := by decide +kernel
theorem sc389 : FnScope ["records", "change", "order", "many", "record", "image", "told", "field"] ["records", "change", "order", "many", "record"] (defScope (top 34)) := ⟨rfl, rfl, rfl, by decide +kernel, rfl, by decide +kernel, by decide +kernel⟩
theorem ck389 : chkB Γ ⟨["records", "change", "order", "many", "record", "image", "told", "field"], defScope (top 34), fun _ => true⟩ F389.body (defBody (top 34)) = true := by decide +kernel
theorem sc379 : FnScope ["many", "told", "lap", "more", "row", "field"] ["many"] (defScope (top 35)) := ⟨rfl, rfl, rfl, by decide +kernel, rfl, by decide +kernel, by decide +kernel⟩
theorem ck379 : chkB Γ ⟨["many", "told", "lap", "more", "row", "field"], defScope (top 35), fun _ => true⟩ F379.body (defBody (top 35)) = true := by decide +kernel
theorem sc390 : FnScope ["frame", "change", "order", "many", "record", "error"] ["frame", "change", "order", "many", "record"] (defScope (top 36)) := ⟨rfl, rfl, rfl, by decide +kernel, rfl, by decide +kernel, by decide +kernel⟩
theorem ck390 : chkB Γ ⟨["frame", "change", "order", "many", "record", "error"], defScope (top 36), fun _ => true⟩ F390.body (defBody (top 36)) = true := by decide +kernel
theorem sc391 : FnScope ["pail", "order", "near", "field"] ["pail", "order"] (defScope (top 37)) := ⟨rfl, rfl, rfl, by decide +kernel, rfl, by decide +kernel, by decide +kernel⟩
theorem ck391 : chkB Γ ⟨["pail", "order", "near", "field"], defScope (top 37), fun _ => true⟩ F391.body (defBody (top 37)) = true := by decide +kernel
theorem sc392 : FnScope ["pail", "frame", "records", "change", "order", "record", "strange", "wrong", "odd", "rows", "many", "way", "number", "thing", "word"] ["pail", "frame"] (defScope (top 38)) := ⟨rfl, rfl, rfl, by decide +kernel, rfl, by decide +kernel, by decide +kernel⟩
theorem ck392 : chkB Γ ⟨["pail", "frame", "records", "change", "order", "record", "strange", "wrong", "odd", "rows", "many", "way", "number", "thing", "word"], defScope (top 38), fun _ => true⟩ F392.body (defBody (top 38)) = true := by decide +kernel
theorem sc393 : FnScope ["script", "pail", "lap", "wide", "adds", "told", "record"] ["script"] (defScope (top 39)) := ⟨rfl, rfl, rfl, by decide +kernel, rfl, by decide +kernel, by decide +kernel⟩
theorem ck393 : chkB Γ ⟨["script", "pail", "lap", "wide", "adds", "told", "record"], defScope (top 39), fun _ => true⟩ F393.body (defBody (top 39)) = true := by decide +kernel
theorem si4 : FnScope ["self", "word"] ["self", "word"] (defScope (mthOf (top 3) 0)) := ⟨rfl, rfl, rfl, by decide +kernel, rfl, by decide +kernel, by decide +kernel⟩
theorem mod_mk {P : Program} {w : World} {K : PySem.W.Frag} {h : Heap} {mg : Str → Option Value} (X : K.In h) (G : h.Ns mainGlobals mg)
    {f73 : Addr} {od73 an73 : Option Addr} {sl73 : Array (Option Value)} {oc73 kV73 dc73 pm73 cd73 ct73 : Value}
    (a73 : PySem.W.nsIn K mainGlobals "is_whole" = some (some (.ref f73))) (l73 : K.lookup f73 = some ⟨oc73, od73, .func (PySem.W.fnOf "is_whole" "is_whole" (defArgs (top 5)) (defBody (top 5)) (defScope (top 5)) .none kV73 dc73 pm73 an73 cd73 ct73), sl73⟩) (c73 : PySem.W.codeIn K cd73 "is_whole" = true) (k73 : PySem.W.keepIn K (.ref f73) = true)
    {f74 : Addr} {od74 an74 : Option Addr} {sl74 : Array (Option Value)} {oc74 kV74 dc74 pm74 cd74 ct74 : Value}
    (a74 : PySem.W.nsIn K mainGlobals "is_number" = some (some (.ref f74))) (l74 : K.lookup f74 = some ⟨oc74, od74, .func (PySem.W.fnOf "is_number" "is_number" (defArgs (top 6)) (defBody (top 6)) (defScope (top 6)) .none kV74 dc74 pm74 an74 cd74 ct74), sl74⟩) (c74 : PySem.W.codeIn K cd74 "is_number" = true) (k74 : PySem.W.keepIn K (.ref f74) = true)
    {f75 : Addr} {od75 an75 : Option Addr} {sl75 : Array (Option Value)} {oc75 kV75 dc75 pm75 cd75 ct75 : Value}
    (a75 : PySem.W.nsIn K mainGlobals "is_below" = some (some (.ref f75))) (l75 : K.lookup f75 = some ⟨oc75, od75, .func (PySem.W.fnOf "is_below" "is_below" (defArgs (top 7)) (defBody (top 7)) (defScope (top 7)) .none kV75 dc75 pm75 an75 cd75 ct75), sl75⟩) (c75 : PySem.W.codeIn K cd75 "is_below" = true) (k75 : PySem.W.keepIn K (.ref f75) = true)
    {f76 : Addr} {od76 an76 : Option Addr} {sl76 : Array (Option Value)} {oc76 kV76 dc76 pm76 cd76 ct76 : Value}
    (a76 : PySem.W.nsIn K mainGlobals "is_row" = some (some (.ref f76))) (l76 : K.lookup f76 = some ⟨oc76, od76, .func (PySem.W.fnOf "is_row" "is_row" (defArgs (top 8)) (defBody (top 8)) (defScope (top 8)) .none kV76 dc76 pm76 an76 cd76 ct76), sl76⟩) (c76 : PySem.W.codeIn K cd76 "is_row" = true) (k76 : PySem.W.keepIn K (.ref f76) = true)
    {f247 : Addr} {od247 an247 : Option Addr} {sl247 : Array (Option Value)} {oc247 kV247 dc247 pm247 cd247 ct247 : Value}
    (a247 : PySem.W.nsIn K mainGlobals "is_record" = some (some (.ref f247))) (l247 : K.lookup f247 = some ⟨oc247, od247, .func (PySem.W.fnOf "is_record" "is_record" (defArgs (top 10)) (defBody (top 10)) (defScope (top 10)) .none kV247 dc247 pm247 an247 cd247 ct247), sl247⟩) (c247 : PySem.W.codeIn K cd247 "is_record" = true) (k247 : PySem.W.keepIn K (.ref f247) = true)
    {f248 : Addr} {od248 an248 : Option Addr} {sl248 : Array (Option Value)} {oc248 kV248 dc248 pm248 cd248 ct248 : Value}
    (a248 : PySem.W.nsIn K mainGlobals "look_for_record" = some (some (.ref f248))) (l248 : K.lookup f248 = some ⟨oc248, od248, .func (PySem.W.fnOf "look_for_record" "look_for_record" (defArgs (top 11)) (defBody (top 11)) (defScope (top 11)) .none kV248 dc248 pm248 an248 cd248 ct248), sl248⟩) (c248 : PySem.W.codeIn K cd248 "look_for_record" = true) (k248 : PySem.W.keepIn K (.ref f248) = true)
    {f128 : Addr} {od128 an128 : Option Addr} {sl128 : Array (Option Value)} {oc128 kV128 dc128 pm128 cd128 ct128 : Value}
    (a128 : PySem.W.nsIn K mainGlobals "place_in" = some (some (.ref f128))) (l128 : K.lookup f128 = some ⟨oc128, od128, .func (PySem.W.fnOf "place_in" "place_in" (defArgs (top 12)) (defBody (top 12)) (defScope (top 12)) .none kV128 dc128 pm128 an128 cd128 ct128), sl128⟩) (c128 : PySem.W.codeIn K cd128 "place_in" = true) (k128 : PySem.W.keepIn K (.ref f128) = true)
    {f375 : Addr} {od375 an375 : Option Addr} {sl375 : Array (Option Value)} {oc375 kV375 dc375 pm375 cd375 ct375 : Value}
    (a375 : PySem.W.nsIn K mainGlobals "all_orders" = some (some (.ref f375))) (l375 : K.lookup f375 = some ⟨oc375, od375, .func (PySem.W.fnOf "all_orders" "all_orders" (defArgs (top 14)) (defBody (top 14)) (defScope (top 14)) .none kV375 dc375 pm375 an375 cd375 ct375), sl375⟩) (c375 : PySem.W.codeIn K cd375 "all_orders" = true) (k375 : PySem.W.keepIn K (.ref f375) = true)
    {f360 : Addr} {od360 an360 : Option Addr} {sl360 : Array (Option Value)} {oc360 kV360 dc360 pm360 cd360 ct360 : Value}
    (a360 : PySem.W.nsIn K mainGlobals "is_order" = some (some (.ref f360))) (l360 : K.lookup f360 = some ⟨oc360, od360, .func (PySem.W.fnOf "is_order" "is_order" (defArgs (top 15)) (defBody (top 15)) (defScope (top 15)) .none kV360 dc360 pm360 an360 cd360 ct360), sl360⟩) (c360 : PySem.W.codeIn K cd360 "is_order" = true) (k360 : PySem.W.keepIn K (.ref f360) = true)
    {f361 : Addr} {od361 an361 : Option Addr} {sl361 : Array (Option Value)} {oc361 kV361 dc361 pm361 cd361 ct361 : Value}
    (a361 : PySem.W.nsIn K mainGlobals "look_for_order" = some (some (.ref f361))) (l361 : K.lookup f361 = some ⟨oc361, od361, .func (PySem.W.fnOf "look_for_order" "look_for_order" (defArgs (top 16)) (defBody (top 16)) (defScope (top 16)) .none kV361 dc361 pm361 an361 cd361 ct361), sl361⟩) (c361 : PySem.W.codeIn K cd361 "look_for_order" = true) (k361 : PySem.W.keepIn K (.ref f361) = true)
    {f362 : Addr} {od362 an362 : Option Addr} {sl362 : Array (Option Value)} {oc362 kV362 dc362 pm362 cd362 ct362 : Value}
    (a362 : PySem.W.nsIn K mainGlobals "state" = some (some (.ref f362))) (l362 : K.lookup f362 = some ⟨oc362, od362, .func (PySem.W.fnOf "state" "state" (defArgs (top 17)) (defBody (top 17)) (defScope (top 17)) .none kV362 dc362 pm362 an362 cd362 ct362), sl362⟩) (c362 : PySem.W.codeIn K cd362 "state" = true) (k362 : PySem.W.keepIn K (.ref f362) = true)
    {f388 : Addr} {od388 an388 : Option Addr} {sl388 : Array (Option Value)} {oc388 kV388 dc388 pm388 cd388 ct388 : Value}
    (a388 : PySem.W.nsIn K mainGlobals "state_behind" = some (some (.ref f388))) (l388 : K.lookup f388 = some ⟨oc388, od388, .func (PySem.W.fnOf "state_behind" "state_behind" (defArgs (top 18)) (defBody (top 18)) (defScope (top 18)) .none kV388 dc388 pm388 an388 cd388 ct388), sl388⟩) (c388 : PySem.W.codeIn K cd388 "state_behind" = true) (k388 : PySem.W.keepIn K (.ref f388) = true)
    {f306 : Addr} {od306 an306 : Option Addr} {sl306 : Array (Option Value)} {oc306 kV306 dc306 pm306 cd306 ct306 : Value}
    (a306 : PySem.W.nsIn K mainGlobals "_law_pail" = some (some (.ref f306))) (l306 : K.lookup f306 = some ⟨oc306, od306, .func (PySem.W.fnOf "_law_pail" "_law_pail" (defArgs (top 20)) (defBody (top 20)) (defScope (top 20)) .none kV306 dc306 pm306 an306 cd306 ct306), sl306⟩) (c306 : PySem.W.codeIn K cd306 "_law_pail" = true) (k306 : PySem.W.keepIn K (.ref f306) = true)
    {f307 : Addr} {od307 an307 : Option Addr} {sl307 : Array (Option Value)} {oc307 kV307 dc307 pm307 cd307 ct307 : Value}
    (a307 : PySem.W.nsIn K mainGlobals "_law_scoop" = some (some (.ref f307))) (l307 : K.lookup f307 = some ⟨oc307, od307, .func (PySem.W.fnOf "_law_scoop" "_law_scoop" (defArgs (top 21)) (defBody (top 21)) (defScope (top 21)) .none kV307 dc307 pm307 an307 cd307 ct307), sl307⟩) (c307 : PySem.W.codeIn K cd307 "_law_scoop" = true) (k307 : PySem.W.keepIn K (.ref f307) = true)
    {f308 : Addr} {od308 an308 : Option Addr} {sl308 : Array (Option Value)} {oc308 kV308 dc308 pm308 cd308 ct308 : Value}
    (a308 : PySem.W.nsIn K mainGlobals "_law_one" = some (some (.ref f308))) (l308 : K.lookup f308 = some ⟨oc308, od308, .func (PySem.W.fnOf "_law_one" "_law_one" (defArgs (top 22)) (defBody (top 22)) (defScope (top 22)) .none kV308 dc308 pm308 an308 cd308 ct308), sl308⟩) (c308 : PySem.W.codeIn K cd308 "_law_one" = true) (k308 : PySem.W.keepIn K (.ref f308) = true)
    {f309 : Addr} {od309 an309 : Option Addr} {sl309 : Array (Option Value)} {oc309 kV309 dc309 pm309 cd309 ct309 : Value}
    (a309 : PySem.W.nsIn K mainGlobals "_law_mixed" = some (some (.ref f309))) (l309 : K.lookup f309 = some ⟨oc309, od309, .func (PySem.W.fnOf "_law_mixed" "_law_mixed" (defArgs (top 23)) (defBody (top 23)) (defScope (top 23)) .none kV309 dc309 pm309 an309 cd309 ct309), sl309⟩) (c309 : PySem.W.codeIn K cd309 "_law_mixed" = true) (k309 : PySem.W.keepIn K (.ref f309) = true)
    {f310 : Addr} {od310 an310 : Option Addr} {sl310 : Array (Option Value)} {oc310 kV310 dc310 pm310 cd310 ct310 : Value}
    (a310 : PySem.W.nsIn K mainGlobals "_law_frame" = some (some (.ref f310))) (l310 : K.lookup f310 = some ⟨oc310, od310, .func (PySem.W.fnOf "_law_frame" "_law_frame" (defArgs (top 24)) (defBody (top 24)) (defScope (top 24)) .none kV310 dc310 pm310 an310 cd310 ct310), sl310⟩) (c310 : PySem.W.codeIn K cd310 "_law_frame" = true) (k310 : PySem.W.keepIn K (.ref f310) = true)
    {f311 : Addr} {od311 an311 : Option Addr} {sl311 : Array (Option Value)} {oc311 kV311 dc311 pm311 cd311 ct311 : Value}
    (a311 : PySem.W.nsIn K mainGlobals "_law_records" = some (some (.ref f311))) (l311 : K.lookup f311 = some ⟨oc311, od311, .func (PySem.W.fnOf "_law_records" "_law_records" (defArgs (top 25)) (defBody (top 25)) (defScope (top 25)) .none kV311 dc311 pm311 an311 cd311 ct311), sl311⟩) (c311 : PySem.W.codeIn K cd311 "_law_records" = true) (k311 : PySem.W.keepIn K (.ref f311) = true)
    {f312 : Addr} {od312 an312 : Option Addr} {sl312 : Array (Option Value)} {oc312 kV312 dc312 pm312 cd312 ct312 : Value}
    (a312 : PySem.W.nsIn K mainGlobals "_law_set" = some (some (.ref f312))) (l312 : K.lookup f312 = some ⟨oc312, od312, .func (PySem.W.fnOf "_law_set" "_law_set" (defArgs (top 26)) (defBody (top 26)) (defScope (top 26)) .none kV312 dc312 pm312 an312 cd312 ct312), sl312⟩) (c312 : PySem.W.codeIn K cd312 "_law_set" = true) (k312 : PySem.W.keepIn K (.ref f312) = true)
    {f328 : Addr} {od328 an328 : Option Addr} {sl328 : Array (Option Value)} {oc328 kV328 dc328 pm328 cd328 ct328 : Value}
    (a328 : PySem.W.nsIn K mainGlobals "_law_change" = some (some (.ref f328))) (l328 : K.lookup f328 = some ⟨oc328, od328, .func (PySem.W.fnOf "_law_change" "_law_change" (defArgs (top 27)) (defBody (top 27)) (defScope (top 27)) .none kV328 dc328 pm328 an328 cd328 ct328), sl328⟩) (c328 : PySem.W.codeIn K cd328 "_law_change" = true) (k328 : PySem.W.keepIn K (.ref f328) = true)
    {f329 : Addr} {od329 an329 : Option Addr} {sl329 : Array (Option Value)} {oc329 kV329 dc329 pm329 cd329 ct329 : Value}
    (a329 : PySem.W.nsIn K mainGlobals "_law_turned" = some (some (.ref f329))) (l329 : K.lookup f329 = some ⟨oc329, od329, .func (PySem.W.fnOf "_law_turned" "_law_turned" (defArgs (top 28)) (defBody (top 28)) (defScope (top 28)) .none kV329 dc329 pm329 an329 cd329 ct329), sl329⟩) (c329 : PySem.W.codeIn K cd329 "_law_turned" = true) (k329 : PySem.W.keepIn K (.ref f329) = true)
    {f368 : Addr} {od368 an368 : Option Addr} {sl368 : Array (Option Value)} {oc368 kV368 dc368 pm368 cd368 ct368 : Value}
    (a368 : PySem.W.nsIn K mainGlobals "_law_order" = some (some (.ref f368))) (l368 : K.lookup f368 = some ⟨oc368, od368, .func (PySem.W.fnOf "_law_order" "_law_order" (defArgs (top 29)) (defBody (top 29)) (defScope (top 29)) .none kV368 dc368 pm368 an368 cd368 ct368), sl368⟩) (c368 : PySem.W.codeIn K cd368 "_law_order" = true) (k368 : PySem.W.keepIn K (.ref f368) = true)
    {f317 : Addr} {od317 an317 : Option Addr} {sl317 : Array (Option Value)} {oc317 kV317 dc317 pm317 cd317 ct317 : Value}
    (a317 : PySem.W.nsIn K mainGlobals "_law_same" = some (some (.ref f317))) (l317 : K.lookup f317 = some ⟨oc317, od317, .func (PySem.W.fnOf "_law_same" "_law_same" (defArgs (top 30)) (defBody (top 30)) (defScope (top 30)) .none kV317 dc317 pm317 an317 cd317 ct317), sl317⟩) (c317 : PySem.W.codeIn K cd317 "_law_same" = true) (k317 : PySem.W.keepIn K (.ref f317) = true)
    {f320 : Addr} {od320 an320 : Option Addr} {sl320 : Array (Option Value)} {oc320 kV320 dc320 pm320 cd320 ct320 : Value}
    (a320 : PySem.W.nsIn K mainGlobals "_law_strange" = some (some (.ref f320))) (l320 : K.lookup f320 = some ⟨oc320, od320, .func (PySem.W.fnOf "_law_strange" "_law_strange" (defArgs (top 33)) (defBody (top 33)) (defScope (top 33)) .none kV320 dc320 pm320 an320 cd320 ct320), sl320⟩) (c320 : PySem.W.codeIn K cd320 "_law_strange" = true) (k320 : PySem.W.keepIn K (.ref f320) = true)
    {f389 : Addr} {od389 an389 : Option Addr} {sl389 : Array (Option Value)} {oc389 kV389 dc389 pm389 cd389 ct389 : Value}
    (a389 : PySem.W.nsIn K mainGlobals "_law_state" = some (some (.ref f389))) (l389 : K.lookup f389 = some ⟨oc389, od389, .func (PySem.W.fnOf "_law_state" "_law_state" (defArgs (top 34)) (defBody (top 34)) (defScope (top 34)) .none kV389 dc389 pm389 an389 cd389 ct389), sl389⟩) (c389 : PySem.W.codeIn K cd389 "_law_state" = true) (k389 : PySem.W.keepIn K (.ref f389) = true)
    {f379 : Addr} {od379 an379 : Option Addr} {sl379 : Array (Option Value)} {oc379 kV379 dc379 pm379 cd379 ct379 : Value}
    (a379 : PySem.W.nsIn K mainGlobals "_law_orders" = some (some (.ref f379))) (l379 : K.lookup f379 = some ⟨oc379, od379, .func (PySem.W.fnOf "_law_orders" "_law_orders" (defArgs (top 35)) (defBody (top 35)) (defScope (top 35)) .none kV379 dc379 pm379 an379 cd379 ct379), sl379⟩) (c379 : PySem.W.codeIn K cd379 "_law_orders" = true) (k379 : PySem.W.keepIn K (.ref f379) = true)
    {f390 : Addr} {od390 an390 : Option Addr} {sl390 : Array (Option Value)} {oc390 kV390 dc390 pm390 cd390 ct390 : Value}
    (a390 : PySem.W.nsIn K mainGlobals "_law_raised" = some (some (.ref f390))) (l390 : K.lookup f390 = some ⟨oc390, od390, .func (PySem.W.fnOf "_law_raised" "_law_raised" (defArgs (top 36)) (defBody (top 36)) (defScope (top 36)) .none kV390 dc390 pm390 an390 cd390 ct390), sl390⟩) (c390 : PySem.W.codeIn K cd390 "_law_raised" = true) (k390 : PySem.W.keepIn K (.ref f390) = true)
    {f391 : Addr} {od391 an391 : Option Addr} {sl391 : Array (Option Value)} {oc391 kV391 dc391 pm391 cd391 ct391 : Value}
    (a391 : PySem.W.nsIn K mainGlobals "_law_wrong_order" = some (some (.ref f391))) (l391 : K.lookup f391 = some ⟨oc391, od391, .func (PySem.W.fnOf "_law_wrong_order" "_law_wrong_order" (defArgs (top 37)) (defBody (top 37)) (defScope (top 37)) .none kV391 dc391 pm391 an391 cd391 ct391), sl391⟩) (c391 : PySem.W.codeIn K cd391 "_law_wrong_order" = true) (k391 : PySem.W.keepIn K (.ref f391) = true)
    {f392 : Addr} {od392 an392 : Option Addr} {sl392 : Array (Option Value)} {oc392 kV392 dc392 pm392 cd392 ct392 : Value}
    (a392 : PySem.W.nsIn K mainGlobals "_law_asked" = some (some (.ref f392))) (l392 : K.lookup f392 = some ⟨oc392, od392, .func (PySem.W.fnOf "_law_asked" "_law_asked" (defArgs (top 38)) (defBody (top 38)) (defScope (top 38)) .none kV392 dc392 pm392 an392 cd392 ct392), sl392⟩) (c392 : PySem.W.codeIn K cd392 "_law_asked" = true) (k392 : PySem.W.keepIn K (.ref f392) = true)
    {f393 : Addr} {od393 an393 : Option Addr} {sl393 : Array (Option Value)} {oc393 kV393 dc393 pm393 cd393 ct393 : Value}
    (a393 : PySem.W.nsIn K mainGlobals "law" = some (some (.ref f393))) (l393 : K.lookup f393 = some ⟨oc393, od393, .func (PySem.W.fnOf "law" "law" (defArgs (top 39)) (defBody (top 39)) (defScope (top 39)) .none kV393 dc393 pm393 an393 cd393 ct393), sl393⟩) (c393 : PySem.W.codeIn K cd393 "law" = true) (k393 : PySem.W.keepIn K (.ref f393) = true)
    (z_abs : PySem.W.nsIn K mainGlobals "abs" = some none)
    (z_bool : PySem.W.nsIn K mainGlobals "bool" = some none)
    (z_int : PySem.W.nsIn K mainGlobals "int" = some none)
    (z_isinstance : PySem.W.nsIn K mainGlobals "isinstance" = some none)
    (z_len : PySem.W.nsIn K mainGlobals "len" = some none)
    (z_list : PySem.W.nsIn K mainGlobals "list" = some none)
    (z_min : PySem.W.nsIn K mainGlobals "min" = some none)
    (z_range : PySem.W.nsIn K mainGlobals "range" = some none)
    (z_set : PySem.W.nsIn K mainGlobals "set" = some none)
    (z_str : PySem.W.nsIn K mainGlobals "str" = some none)
    (z_tuple : PySem.W.nsIn K mainGlobals "tuple" = some none)
    {C4 I4 : Addr} {nm4 q4 : Str} {N4 : Addr} {bs4 bm4 : List Value} {sn4 : _} {sub4 : _} {ab4 : _} {col4 : _} {dd4 : _} {m04 m14 m24 m34 m54 : _}
    (aC4 : PySem.W.nsIn K mainGlobals "BadStep" = some (some (.ref C4))) (xC4 : K.lookup C4 = some (excClassObj nm4 q4 C4 N4 bs4 bm4 true sn4 sub4 ab4 col4 dd4 m04 m14 m24 m34 m54 "ValueError.__new__")) (rV4 : PySem.HandSPX.refsVE bm4 = true)
    (sa4 : PySem.W.findIn K (.ref C4) "__setattr__" = some (some (.builtin "object.__setattr__"))) (ga4 : PySem.W.findIn K (.ref C4) "__getattribute__" = some (some (.builtin "BaseException.__getattribute__"))) (gg4 : PySem.W.findIn K (.ref C4) "__getattr__" = some none)
    (eC4 : PySem.W.subIn K (.ref C4) (.type "BaseException") = some true) (tC4 : PySem.W.typeIn K (.ref C4) = some (.type "type")) (kC4 : PySem.W.keepIn K (.ref C4) = true) (hC4 : PySem.W.hasDictIn K C4 = true)
    {iod4 ian4 : Option Addr} {isl4 : Array (Option Value)} {ioc4 ikV4 idc4 ipm4 icd4 ict4 : Value}
    (iC4 : PySem.W.findIn K (.ref C4) "__init__" = some (some (.ref I4))) (tI4 : PySem.W.typeIn K (.ref I4) = some (.type "function")) (lI4 : K.lookup I4 = some ⟨ioc4, iod4, .func (PySem.W.fnOf "__init__" "BadStep.__init__" (defArgs (mthOf (top 3) 0)) (defBody (mthOf (top 3) 0)) (defScope (mthOf (top 3) 0)) .none ikV4 idc4 ipm4 ian4 icd4 ict4), isl4⟩) (cI4 : PySem.W.codeIn K icd4 "BadStep.__init__" = true) (kI4 : PySem.W.keepIn K (.ref I4) = true)
    (n4_word : PySem.W.findIn K (.ref C4) "word" = some none)
    (em4_4 : PySem.W.exmOne K (.ref C4) (.ref C4) = some true)
    {C15 : Addr} (aC15 : PySem.W.nsIn K mainGlobals "SpareError" = some (some (.ref C15)))
    (em4_15 : PySem.W.exmOne K (.ref C4) (.ref C15) = some true)
    (hplain : ∀ ns : List Int, ns.length ≤ 63 → ∃ μ', Mi.run Lw.tb 21 393 [.scr ns] [] = .ok (.bl true) μ') {fa : Addr} (hfa : mg "law" = some (.ref fa)) :
    ∃ fd : FuncData, (∀ (s : Shared) (v : Value), BindsTo s fd ⟨[v], []⟩ [("script", v)]) ∧ ∀ base : Heap, K.In base → base.Ns mainGlobals mg → FnOk P w K mg base (L2.CX P w) 24 fa fd ["script"] (spL K) := by
  have e := hfa.symm.trans (PySem.W.mg_of X G a393)
  cases e
  have U73 := fun_mk (st := top 5) (x := "is_whole") (qual := "is_whole") l73 c73 k73
  have D73 : DefOk Γ K mg "is_whole" 1 F73 f73 _ ["thing"] ["thing"] "is_whole" (top 5) := ⟨PySem.W.mg_of X G a73, U73, U73.binds fun _ _ _ _ _ _ us hl => match us, hl with | [_], _ => rfl, sc73, rfl, rfl, rfl, ck73⟩
  have K73 : ∀ ks perm, (73, ks, perm) ∈ Γ.kws → KBinds K (PySem.W.fnOf "is_whole" "is_whole" (defArgs (top 5)) (defBody (top 5)) (defScope (top 5)) .none kV73 dc73 pm73 an73 cd73 ct73) ["thing"] ks (gK ks.length perm) (gK ks.length perm) := kws_of (l := []) (Pr := fun ks perm => KBinds K _ _ ks (gK ks.length perm) (gK ks.length perm)) (by decide +kernel) all_nil
  have U74 := fun_mk (st := top 6) (x := "is_number") (qual := "is_number") l74 c74 k74
  have D74 : DefOk Γ K mg "is_number" 1 F74 f74 _ ["thing"] ["thing"] "is_number" (top 6) := ⟨PySem.W.mg_of X G a74, U74, U74.binds fun _ _ _ _ _ _ us hl => match us, hl with | [_], _ => rfl, sc74, rfl, rfl, rfl, ck74⟩
  have K74 : ∀ ks perm, (74, ks, perm) ∈ Γ.kws → KBinds K (PySem.W.fnOf "is_number" "is_number" (defArgs (top 6)) (defBody (top 6)) (defScope (top 6)) .none kV74 dc74 pm74 an74 cd74 ct74) ["thing"] ks (gK ks.length perm) (gK ks.length perm) := kws_of (l := []) (Pr := fun ks perm => KBinds K _ _ ks (gK ks.length perm) (gK ks.length perm)) (by decide +kernel) all_nil
  have U75 := fun_mk (st := top 7) (x := "is_below") (qual := "is_below") l75 c75 k75
  have D75 : DefOk Γ K mg "is_below" 2 F75 f75 _ ["thing", "most"] ["thing", "most"] "is_below" (top 7) := ⟨PySem.W.mg_of X G a75, U75, U75.binds fun _ _ _ _ _ _ us hl => match us, hl with | [_, _], _ => rfl, sc75, rfl, rfl, rfl, ck75⟩
  have K75 : ∀ ks perm, (75, ks, perm) ∈ Γ.kws → KBinds K (PySem.W.fnOf "is_below" "is_below" (defArgs (top 7)) (defBody (top 7)) (defScope (top 7)) .none kV75 dc75 pm75 an75 cd75 ct75) ["thing", "most"] ks (gK ks.length perm) (gK ks.length perm) := kws_of (l := []) (Pr := fun ks perm => KBinds K _ _ ks (gK ks.length perm) (gK ks.length perm)) (by decide +kernel) all_nil
  have U76 := fun_mk (st := top 8) (x := "is_row") (qual := "is_row") l76 c76 k76
  have D76 : DefOk Γ K mg "is_row" 2 F76 f76 _ ["thing", "many"] ["thing", "many"] "is_row" (top 8) := ⟨PySem.W.mg_of X G a76, U76, U76.binds fun _ _ _ _ _ _ us hl => match us, hl with | [_, _], _ => rfl, sc76, rfl, rfl, rfl, ck76⟩
  have K76 : ∀ ks perm, (76, ks, perm) ∈ Γ.kws → KBinds K (PySem.W.fnOf "is_row" "is_row" (defArgs (top 8)) (defBody (top 8)) (defScope (top 8)) .none kV76 dc76 pm76 an76 cd76 ct76) ["thing", "many"] ks (gK ks.length perm) (gK ks.length perm) := kws_of (l := []) (Pr := fun ks perm => KBinds K _ _ ks (gK ks.length perm) (gK ks.length perm)) (by decide +kernel) all_nil
  have U247 := fun_mk (st := top 10) (x := "is_record") (qual := "is_record") l247 c247 k247
  have D247 : DefOk Γ K mg "is_record" 2 F247 f247 _ ["frame", "thing"] ["frame", "thing", "at"] "is_record" (top 10) := ⟨PySem.W.mg_of X G a247, U247, U247.binds fun _ _ _ _ _ _ us hl => match us, hl with | [_, _], _ => rfl, sc247, rfl, rfl, rfl, ck247⟩
  have K247 : ∀ ks perm, (247, ks, perm) ∈ Γ.kws → KBinds K (PySem.W.fnOf "is_record" "is_record" (defArgs (top 10)) (defBody (top 10)) (defScope (top 10)) .none kV247 dc247 pm247 an247 cd247 ct247) ["frame", "thing"] ks (gK ks.length perm) (gK ks.length perm) := kws_of (l := []) (Pr := fun ks perm => KBinds K _ _ ks (gK ks.length perm) (gK ks.length perm)) (by decide +kernel) all_nil
  have U248 := fun_mk (st := top 11) (x := "look_for_record") (qual := "look_for_record") l248 c248 k248
  have D248 : DefOk Γ K mg "look_for_record" 2 F248 f248 _ ["frame", "record"] ["frame", "record"] "look_for_record" (top 11) := ⟨PySem.W.mg_of X G a248, U248, U248.binds fun _ _ _ _ _ _ us hl => match us, hl with | [_, _], _ => rfl, sc248, rfl, rfl, rfl, ck248⟩
  have K248 : ∀ ks perm, (248, ks, perm) ∈ Γ.kws → KBinds K (PySem.W.fnOf "look_for_record" "look_for_record" (defArgs (top 11)) (defBody (top 11)) (defScope (top 11)) .none kV248 dc248 pm248 an248 cd248 ct248) ["frame", "record"] ks (gK ks.length perm) (gK ks.length perm) := kws_of (l := []) (Pr := fun ks perm => KBinds K _ _ ks (gK ks.length perm) (gK ks.length perm)) (by decide +kernel) all_nil
  have U128 := fun_mk (st := top 12) (x := "place_in") (qual := "place_in") l128 c128 k128
  have D128 : DefOk Γ K mg "place_in" 2 F128 f128 _ ["frame", "record"] ["frame", "record", "place", "at"] "place_in" (top 12) := ⟨PySem.W.mg_of X G a128, U128, U128.binds fun _ _ _ _ _ _ us hl => match us, hl with | [_, _], _ => rfl, sc128, rfl, rfl, rfl, ck128⟩
  have K128 : ∀ ks perm, (128, ks, perm) ∈ Γ.kws → KBinds K (PySem.W.fnOf "place_in" "place_in" (defArgs (top 12)) (defBody (top 12)) (defScope (top 12)) .none kV128 dc128 pm128 an128 cd128 ct128) ["frame", "record"] ks (gK ks.length perm) (gK ks.length perm) := kws_of (l := []) (Pr := fun ks perm => KBinds K _ _ ks (gK ks.length perm) (gK ks.length perm)) (by decide +kernel) all_nil
  have U375 := fun_mk (st := top 14) (x := "all_orders") (qual := "all_orders") l375 c375 k375
  have D375 : DefOk Γ K mg "all_orders" 1 F375 f375 _ ["frame"] ["frame", "found", "lap", "longer", "order", "field"] "all_orders" (top 14) := ⟨PySem.W.mg_of X G a375, U375, U375.binds fun _ _ _ _ _ _ us hl => match us, hl with | [_], _ => rfl, sc375, rfl, rfl, rfl, ck375⟩
  have K375 : ∀ ks perm, (375, ks, perm) ∈ Γ.kws → KBinds K (PySem.W.fnOf "all_orders" "all_orders" (defArgs (top 14)) (defBody (top 14)) (defScope (top 14)) .none kV375 dc375 pm375 an375 cd375 ct375) ["frame"] ks (gK ks.length perm) (gK ks.length perm) := kws_of (l := []) (Pr := fun ks perm => KBinds K _ _ ks (gK ks.length perm) (gK ks.length perm)) (by decide +kernel) all_nil
  have U360 := fun_mk (st := top 15) (x := "is_order") (qual := "is_order") l360 c360 k360
  have D360 : DefOk Γ K mg "is_order" 2 F360 f360 _ ["frame", "thing"] ["frame", "thing", "field"] "is_order" (top 15) := ⟨PySem.W.mg_of X G a360, U360, U360.binds fun _ _ _ _ _ _ us hl => match us, hl with | [_, _], _ => rfl, sc360, rfl, rfl, rfl, ck360⟩
  have K360 : ∀ ks perm, (360, ks, perm) ∈ Γ.kws → KBinds K (PySem.W.fnOf "is_order" "is_order" (defArgs (top 15)) (defBody (top 15)) (defScope (top 15)) .none kV360 dc360 pm360 an360 cd360 ct360) ["frame", "thing"] ks (gK ks.length perm) (gK ks.length perm) := kws_of (l := []) (Pr := fun ks perm => KBinds K _ _ ks (gK ks.length perm) (gK ks.length perm)) (by decide +kernel) all_nil
  have U361 := fun_mk (st := top 16) (x := "look_for_order") (qual := "look_for_order") l361 c361 k361
  have D361 : DefOk Γ K mg "look_for_order" 2 F361 f361 _ ["frame", "order"] ["frame", "order"] "look_for_order" (top 16) := ⟨PySem.W.mg_of X G a361, U361, U361.binds fun _ _ _ _ _ _ us hl => match us, hl with | [_, _], _ => rfl, sc361, rfl, rfl, rfl, ck361⟩
  have K361 : ∀ ks perm, (361, ks, perm) ∈ Γ.kws → KBinds K (PySem.W.fnOf "look_for_order" "look_for_order" (defArgs (top 16)) (defBody (top 16)) (defScope (top 16)) .none kV361 dc361 pm361 an361 cd361 ct361) ["frame", "order"] ks (gK ks.length perm) (gK ks.length perm) := kws_of (l := []) (Pr := fun ks perm => KBinds K _ _ ks (gK ks.length perm) (gK ks.length perm)) (by decide +kernel) all_nil
  have U362 := fun_mk (st := top 17) (x := "state") (qual := "state") l362 c362 k362
  have D362 : DefOk Γ K mg "state" 4 F362 f362 _ ["order", "many", "record", "told"] ["order", "many", "record", "told", "fresh", "field"] "state" (top 17) := ⟨PySem.W.mg_of X G a362, U362, U362.binds fun _ _ _ _ _ _ us hl => match us, hl with | [_, _, _, _], _ => rfl, sc362, rfl, rfl, rfl, ck362⟩
  have K362 : ∀ ks perm, (362, ks, perm) ∈ Γ.kws → KBinds K (PySem.W.fnOf "state" "state" (defArgs (top 17)) (defBody (top 17)) (defScope (top 17)) .none kV362 dc362 pm362 an362 cd362 ct362) ["order", "many", "record", "told"] ks (gK ks.length perm) (gK ks.length perm) := kws_of (l := []) (Pr := fun ks perm => KBinds K _ _ ks (gK ks.length perm) (gK ks.length perm)) (by decide +kernel) all_nil
  have U388 := fun_mk (st := top 18) (x := "state_behind") (qual := "state_behind") l388 c388 k388
  have D388 : DefOk Γ K mg "state_behind" 5 F388 f388 _ ["frame", "change", "order", "many", "record"] ["frame", "change", "order", "many", "record"] "state_behind" (top 18) := ⟨PySem.W.mg_of X G a388, U388, U388.binds fun _ _ _ _ _ _ us hl => match us, hl with | [_, _, _, _, _], _ => rfl, sc388, rfl, rfl, rfl, ck388⟩
  have K388 : ∀ ks perm, (388, ks, perm) ∈ Γ.kws → KBinds K (PySem.W.fnOf "state_behind" "state_behind" (defArgs (top 18)) (defBody (top 18)) (defScope (top 18)) .none kV388 dc388 pm388 an388 cd388 ct388) ["frame", "change", "order", "many", "record"] ks (gK ks.length perm) (gK ks.length perm) := kws_of (l := [(["record", "many", "order", "change", "frame"], [4, 3, 2, 1, 0])]) (Pr := fun ks perm => KBinds K _ _ ks (gK ks.length perm) (gK ks.length perm)) (by decide +kernel) (all_two ⟨fun s us ws _ hl => match us, ws, gK_len hl with | [], [_, _, _, _, _], _ => .of_eq rfl, gK_rel⟩ all_nil)
  have U306 := fun_mk (st := top 20) (x := "_law_pail") (qual := "_law_pail") l306 c306 k306
  have D306 : DefOk Γ K mg "_law_pail" 1 F306 f306 _ ["script"] ["script", "pail", "at", "cell"] "_law_pail" (top 20) := ⟨PySem.W.mg_of X G a306, U306, U306.binds fun _ _ _ _ _ _ us hl => match us, hl with | [_], _ => rfl, sc306, rfl, rfl, rfl, ck306⟩
  have K306 : ∀ ks perm, (306, ks, perm) ∈ Γ.kws → KBinds K (PySem.W.fnOf "_law_pail" "_law_pail" (defArgs (top 20)) (defBody (top 20)) (defScope (top 20)) .none kV306 dc306 pm306 an306 cd306 ct306) ["script"] ks (gK ks.length perm) (gK ks.length perm) := kws_of (l := []) (Pr := fun ks perm => KBinds K _ _ ks (gK ks.length perm) (gK ks.length perm)) (by decide +kernel) all_nil
  have U307 := fun_mk (st := top 21) (x := "_law_scoop") (qual := "_law_scoop") l307 c307 k307
  have D307 : DefOk Γ K mg "_law_scoop" 2 F307 f307 _ ["pail", "many"] ["pail", "many", "cell"] "_law_scoop" (top 21) := ⟨PySem.W.mg_of X G a307, U307, U307.binds fun _ _ _ _ _ _ us hl => match us, hl with | [_, _], _ => rfl, sc307, rfl, rfl, rfl, ck307⟩
  have K307 : ∀ ks perm, (307, ks, perm) ∈ Γ.kws → KBinds K (PySem.W.fnOf "_law_scoop" "_law_scoop" (defArgs (top 21)) (defBody (top 21)) (defScope (top 21)) .none kV307 dc307 pm307 an307 cd307 ct307) ["pail", "many"] ks (gK ks.length perm) (gK ks.length perm) := kws_of (l := []) (Pr := fun ks perm => KBinds K _ _ ks (gK ks.length perm) (gK ks.length perm)) (by decide +kernel) all_nil
  have U308 := fun_mk (st := top 22) (x := "_law_one") (qual := "_law_one") l308 c308 k308
  have D308 : DefOk Γ K mg "_law_one" 2 F308 f308 _ ["pail", "things"] ["pail", "things"] "_law_one" (top 22) := ⟨PySem.W.mg_of X G a308, U308, U308.binds fun _ _ _ _ _ _ us hl => match us, hl with | [_, _], _ => rfl, sc308, rfl, rfl, rfl, ck308⟩
  have K308 : ∀ ks perm, (308, ks, perm) ∈ Γ.kws → KBinds K (PySem.W.fnOf "_law_one" "_law_one" (defArgs (top 22)) (defBody (top 22)) (defScope (top 22)) .none kV308 dc308 pm308 an308 cd308 ct308) ["pail", "things"] ks (gK ks.length perm) (gK ks.length perm) := kws_of (l := []) (Pr := fun ks perm => KBinds K _ _ ks (gK ks.length perm) (gK ks.length perm)) (by decide +kernel) all_nil
  have U309 := fun_mk (st := top 23) (x := "_law_mixed") (qual := "_law_mixed") l309 c309 k309
  have D309 : DefOk Γ K mg "_law_mixed" 2 F309 f309 _ ["pail", "things"] ["pail", "things", "left", "told", "lap"] "_law_mixed" (top 23) := ⟨PySem.W.mg_of X G a309, U309, U309.binds fun _ _ _ _ _ _ us hl => match us, hl with | [_, _], _ => rfl, sc309, rfl, rfl, rfl, ck309⟩
  have K309 : ∀ ks perm, (309, ks, perm) ∈ Γ.kws → KBinds K (PySem.W.fnOf "_law_mixed" "_law_mixed" (defArgs (top 23)) (defBody (top 23)) (defScope (top 23)) .none kV309 dc309 pm309 an309 cd309 ct309) ["pail", "things"] ks (gK ks.length perm) (gK ks.length perm) := kws_of (l := []) (Pr := fun ks perm => KBinds K _ _ ks (gK ks.length perm) (gK ks.length perm)) (by decide +kernel) all_nil
  have U310 := fun_mk (st := top 24) (x := "_law_frame") (qual := "_law_frame") l310 c310 k310
  have D310 : DefOk Γ K mg "_law_frame" 2 F310 f310 _ ["pail", "most"] ["pail", "most", "sizes", "many", "style", "lap", "size"] "_law_frame" (top 24) := ⟨PySem.W.mg_of X G a310, U310, U310.binds fun _ _ _ _ _ _ us hl => match us, hl with | [_, _], _ => rfl, sc310, rfl, rfl, rfl, ck310⟩
  have K310 : ∀ ks perm, (310, ks, perm) ∈ Γ.kws → KBinds K (PySem.W.fnOf "_law_frame" "_law_frame" (defArgs (top 24)) (defBody (top 24)) (defScope (top 24)) .none kV310 dc310 pm310 an310 cd310 ct310) ["pail", "most"] ks (gK ks.length perm) (gK ks.length perm) := kws_of (l := []) (Pr := fun ks perm => KBinds K _ _ ks (gK ks.length perm) (gK ks.length perm)) (by decide +kernel) all_nil
  have U311 := fun_mk (st := top 25) (x := "_law_records") (qual := "_law_records") l311 c311 k311
  have D311 : DefOk Γ K mg "_law_records" 1 F311 f311 _ ["frame"] ["frame", "told", "size", "more", "record", "number"] "_law_records" (top 25) := ⟨PySem.W.mg_of X G a311, U311, U311.binds fun _ _ _ _ _ _ us hl => match us, hl with | [_], _ => rfl, sc311, rfl, rfl, rfl, ck311⟩
  have K311 : ∀ ks perm, (311, ks, perm) ∈ Γ.kws → KBinds K (PySem.W.fnOf "_law_records" "_law_records" (defArgs (top 25)) (defBody (top 25)) (defScope (top 25)) .none kV311 dc311 pm311 an311 cd311 ct311) ["frame"] ks (gK ks.length perm) (gK ks.length perm) := kws_of (l := []) (Pr := fun ks perm => KBinds K _ _ ks (gK ks.length perm) (gK ks.length perm)) (by decide +kernel) all_nil
  have U312 := fun_mk (st := top 26) (x := "_law_set") (qual := "_law_set") l312 c312 k312
  have D312 : DefOk Γ K mg "_law_set" 3 F312 f312 _ ["record", "field", "number"] ["record", "field", "number"] "_law_set" (top 26) := ⟨PySem.W.mg_of X G a312, U312, U312.binds fun _ _ _ _ _ _ us hl => match us, hl with | [_, _, _], _ => rfl, sc312, rfl, rfl, rfl, ck312⟩
  have K312 : ∀ ks perm, (312, ks, perm) ∈ Γ.kws → KBinds K (PySem.W.fnOf "_law_set" "_law_set" (defArgs (top 26)) (defBody (top 26)) (defScope (top 26)) .none kV312 dc312 pm312 an312 cd312 ct312) ["record", "field", "number"] ks (gK ks.length perm) (gK ks.length perm) := kws_of (l := []) (Pr := fun ks perm => KBinds K _ _ ks (gK ks.length perm) (gK ks.length perm)) (by decide +kernel) all_nil
  have U328 := fun_mk (st := top 27) (x := "_law_change") (qual := "_law_change") l328 c328 k328
  have D328 : DefOk Γ K mg "_law_change" 2 F328 f328 _ ["pail", "frame"] ["pail", "frame", "records", "style", "images", "few", "at", "field", "one", "other", "record"] "_law_change" (top 27) := ⟨PySem.W.mg_of X G a328, U328, U328.binds fun _ _ _ _ _ _ us hl => match us, hl with | [_, _], _ => rfl, sc328, rfl, rfl, rfl, ck328⟩
  have K328 : ∀ ks perm, (328, ks, perm) ∈ Γ.kws → KBinds K (PySem.W.fnOf "_law_change" "_law_change" (defArgs (top 27)) (defBody (top 27)) (defScope (top 27)) .none kV328 dc328 pm328 an328 cd328 ct328) ["pail", "frame"] ks (gK ks.length perm) (gK ks.length perm) := kws_of (l := []) (Pr := fun ks perm => KBinds K _ _ ks (gK ks.length perm) (gK ks.length perm)) (by decide +kernel) all_nil
  have U329 := fun_mk (st := top 28) (x := "_law_turned") (qual := "_law_turned") l329 c329 k329
  have D329 : DefOk Γ K mg "_law_turned" 4 F329 f329 _ ["frame", "record", "one", "other"] ["frame", "record", "one", "other"] "_law_turned" (top 28) := ⟨PySem.W.mg_of X G a329, U329, U329.binds fun _ _ _ _ _ _ us hl => match us, hl with | [_, _, _, _], _ => rfl, sc329, rfl, rfl, rfl, ck329⟩
  have K329 : ∀ ks perm, (329, ks, perm) ∈ Γ.kws → KBinds K (PySem.W.fnOf "_law_turned" "_law_turned" (defArgs (top 28)) (defBody (top 28)) (defScope (top 28)) .none kV329 dc329 pm329 an329 cd329 ct329) ["frame", "record", "one", "other"] ks (gK ks.length perm) (gK ks.length perm) := kws_of (l := []) (Pr := fun ks perm => KBinds K _ _ ks (gK ks.length perm) (gK ks.length perm)) (by decide +kernel) all_nil
  have U368 := fun_mk (st := top 29) (x := "_law_order") (qual := "_law_order") l368 c368 k368
  have D368 : DefOk Γ K mg "_law_order" 2 F368 f368 _ ["pail", "frame"] ["pail", "frame", "fields", "style"] "_law_order" (top 29) := ⟨PySem.W.mg_of X G a368, U368, U368.binds fun _ _ _ _ _ _ us hl => match us, hl with | [_, _], _ => rfl, sc368, rfl, rfl, rfl, ck368⟩
  have K368 : ∀ ks perm, (368, ks, perm) ∈ Γ.kws → KBinds K (PySem.W.fnOf "_law_order" "_law_order" (defArgs (top 29)) (defBody (top 29)) (defScope (top 29)) .none kV368 dc368 pm368 an368 cd368 ct368) ["pail", "frame"] ks (gK ks.length perm) (gK ks.length perm) := kws_of (l := []) (Pr := fun ks perm => KBinds K _ _ ks (gK ks.length perm) (gK ks.length perm)) (by decide +kernel) all_nil
  have U317 := fun_mk (st := top 30) (x := "_law_same") (qual := "_law_same") l317 c317 k317
  have D317 : DefOk Γ K mg "_law_same" 2 F317 f317 _ ["told", "due"] ["told", "due", "rows", "one", "other", "k"] "_law_same" (top 30) := ⟨PySem.W.mg_of X G a317, U317, U317.binds fun _ _ _ _ _ _ us hl => match us, hl with | [_, _], _ => rfl, sc317, rfl, rfl, rfl, ck317⟩
  have K317 : ∀ ks perm, (317, ks, perm) ∈ Γ.kws → KBinds K (PySem.W.fnOf "_law_same" "_law_same" (defArgs (top 30)) (defBody (top 30)) (defScope (top 30)) .none kV317 dc317 pm317 an317 cd317 ct317) ["told", "due"] ks (gK ks.length perm) (gK ks.length perm) := kws_of (l := []) (Pr := fun ks perm => KBinds K _ _ ks (gK ks.length perm) (gK ks.length perm)) (by decide +kernel) all_nil
  have U320 := fun_mk (st := top 33) (x := "_law_strange") (qual := "_law_strange") l320 c320 k320
  have D320 : DefOk Γ K mg "_law_strange" 3 F320 f320 _ ["pail", "frame", "record"] ["pail", "frame", "record", "at", "odd"] "_law_strange" (top 33) := ⟨PySem.W.mg_of X G a320, U320, U320.binds fun _ _ _ _ _ _ us hl => match us, hl with | [_, _, _], _ => rfl, sc320, rfl, rfl, rfl, ck320⟩
  have K320 : ∀ ks perm, (320, ks, perm) ∈ Γ.kws → KBinds K (PySem.W.fnOf "_law_strange" "_law_strange" (defArgs (top 33)) (defBody (top 33)) (defScope (top 33)) .none kV320 dc320 pm320 an320 cd320 ct320) ["pail", "frame", "record"] ks (gK ks.length perm) (gK ks.length perm) := kws_of (l := []) (Pr := fun ks perm => KBinds K _ _ ks (gK ks.length perm) (gK ks.length perm)) (by decide +kernel) all_nil
  have U389 := fun_mk (st := top 34) (x := "_law_state") (qual := "_law_state") l389 c389 k389
  have D389 : DefOk Γ K mg "_law_state" 5 F389 f389 _ ["records", "change", "order", "many", "record"] ["records", "change", "order", "many", "record", "image", "told", "field"] "_law_state" (top 34) := ⟨PySem.W.mg_of X G a389, U389, U389.binds fun _ _ _ _ _ _ us hl => match us, hl with | [_, _, _, _, _], _ => rfl, sc389, rfl, rfl, rfl, ck389⟩
  have K389 : ∀ ks perm, (389, ks, perm) ∈ Γ.kws → KBinds K (PySem.W.fnOf "_law_state" "_law_state" (defArgs (top 34)) (defBody (top 34)) (defScope (top 34)) .none kV389 dc389 pm389 an389 cd389 ct389) ["records", "change", "order", "many", "record"] ks (gK ks.length perm) (gK ks.length perm) := kws_of (l := []) (Pr := fun ks perm => KBinds K _ _ ks (gK ks.length perm) (gK ks.length perm)) (by decide +kernel) all_nil
  have U379 := fun_mk (st := top 35) (x := "_law_orders") (qual := "_law_orders") l379 c379 k379
  have D379 : DefOk Γ K mg "_law_orders" 1 F379 f379 _ ["many"] ["many", "told", "lap", "more", "row", "field"] "_law_orders" (top 35) := ⟨PySem.W.mg_of X G a379, U379, U379.binds fun _ _ _ _ _ _ us hl => match us, hl with | [_], _ => rfl, sc379, rfl, rfl, rfl, ck379⟩
  have K379 : ∀ ks perm, (379, ks, perm) ∈ Γ.kws → KBinds K (PySem.W.fnOf "_law_orders" "_law_orders" (defArgs (top 35)) (defBody (top 35)) (defScope (top 35)) .none kV379 dc379 pm379 an379 cd379 ct379) ["many"] ks (gK ks.length perm) (gK ks.length perm) := kws_of (l := []) (Pr := fun ks perm => KBinds K _ _ ks (gK ks.length perm) (gK ks.length perm)) (by decide +kernel) all_nil
  have U390 := fun_mk (st := top 36) (x := "_law_raised") (qual := "_law_raised") l390 c390 k390
  have D390 : DefOk Γ K mg "_law_raised" 5 F390 f390 _ ["frame", "change", "order", "many", "record"] ["frame", "change", "order", "many", "record", "error"] "_law_raised" (top 36) := ⟨PySem.W.mg_of X G a390, U390, U390.binds fun _ _ _ _ _ _ us hl => match us, hl with | [_, _, _, _, _], _ => rfl, sc390, rfl, rfl, rfl, ck390⟩
  have K390 : ∀ ks perm, (390, ks, perm) ∈ Γ.kws → KBinds K (PySem.W.fnOf "_law_raised" "_law_raised" (defArgs (top 36)) (defBody (top 36)) (defScope (top 36)) .none kV390 dc390 pm390 an390 cd390 ct390) ["frame", "change", "order", "many", "record"] ks (gK ks.length perm) (gK ks.length perm) := kws_of (l := []) (Pr := fun ks perm => KBinds K _ _ ks (gK ks.length perm) (gK ks.length perm)) (by decide +kernel) all_nil
  have U391 := fun_mk (st := top 37) (x := "_law_wrong_order") (qual := "_law_wrong_order") l391 c391 k391
  have D391 : DefOk Γ K mg "_law_wrong_order" 2 F391 f391 _ ["pail", "order"] ["pail", "order", "near", "field"] "_law_wrong_order" (top 37) := ⟨PySem.W.mg_of X G a391, U391, U391.binds fun _ _ _ _ _ _ us hl => match us, hl with | [_, _], _ => rfl, sc391, rfl, rfl, rfl, ck391⟩
  have K391 : ∀ ks perm, (391, ks, perm) ∈ Γ.kws → KBinds K (PySem.W.fnOf "_law_wrong_order" "_law_wrong_order" (defArgs (top 37)) (defBody (top 37)) (defScope (top 37)) .none kV391 dc391 pm391 an391 cd391 ct391) ["pail", "order"] ks (gK ks.length perm) (gK ks.length perm) := kws_of (l := []) (Pr := fun ks perm => KBinds K _ _ ks (gK ks.length perm) (gK ks.length perm)) (by decide +kernel) all_nil
  have U392 := fun_mk (st := top 38) (x := "_law_asked") (qual := "_law_asked") l392 c392 k392
  have D392 : DefOk Γ K mg "_law_asked" 2 F392 f392 _ ["pail", "frame"] ["pail", "frame", "records", "change", "order", "record", "strange", "wrong", "odd", "rows", "many", "way", "number", "thing", "word"] "_law_asked" (top 38) := ⟨PySem.W.mg_of X G a392, U392, U392.binds fun _ _ _ _ _ _ us hl => match us, hl with | [_, _], _ => rfl, sc392, rfl, rfl, rfl, ck392⟩
  have K392 : ∀ ks perm, (392, ks, perm) ∈ Γ.kws → KBinds K (PySem.W.fnOf "_law_asked" "_law_asked" (defArgs (top 38)) (defBody (top 38)) (defScope (top 38)) .none kV392 dc392 pm392 an392 cd392 ct392) ["pail", "frame"] ks (gK ks.length perm) (gK ks.length perm) := kws_of (l := []) (Pr := fun ks perm => KBinds K _ _ ks (gK ks.length perm) (gK ks.length perm)) (by decide +kernel) all_nil
  have U393 := fun_mk (st := top 39) (x := "law") (qual := "law") l393 c393 k393
  have D393 : DefOk Γ K mg "law" 1 F393 f393 _ ["script"] ["script", "pail", "lap", "wide", "adds", "told", "record"] "law" (top 39) := ⟨PySem.W.mg_of X G a393, U393, U393.binds fun _ _ _ _ _ _ us hl => match us, hl with | [_], _ => rfl, sc393, rfl, rfl, rfl, ck393⟩
  have K393 : ∀ ks perm, (393, ks, perm) ∈ Γ.kws → KBinds K (PySem.W.fnOf "law" "law" (defArgs (top 39)) (defBody (top 39)) (defScope (top 39)) .none kV393 dc393 pm393 an393 cd393 ct393) ["script"] ks (gK ks.length perm) (gK ks.length perm) := kws_of (l := []) (Pr := fun ks perm => KBinds K _ _ ks (gK ks.length perm) (gK ks.length perm)) (by decide +kernel) all_nil
  have O4 : OexC K C4 := ⟨⟨_, _, _, _, _, _, _, _, _, _, _, _, _, _, _, xC4, rV4⟩, sa4, eC4, tC4, kC4⟩
  have V4 := fun_mk (st := mthOf (top 3) 0) (x := "__init__") (qual := "BadStep.__init__") lI4 cI4 kI4
  have no4 : ∀ g ∈ (["word"] : List Str), PySem.W.findIn K (.ref C4) g = some none := (all_two n4_word all_nil)
  have J4 := fun (base : Heap) => init_ok (P := P) (w := w) (mg := mg) (base := base) (flds := ["word"]) V4 si4 O4 (by decide +kernel) (by decide +kernel) no4 (by decide)
  have B4 : L2.Binds K _ (["self", "word"] : List Str) [] := V4.binds fun _ _ _ _ _ _ us hl => match us, hl with | [_, _], _ => rfl
  have M : ∀ base : Heap, ModOk Γ [⟨4, "BadStep", C4, ["word"]⟩] P w K mg base tb := by
    intro base
    refine ⟨fun x hx => ?_, look_all (P := CsOk K mg) ?_, fun k x n hk => ?_, ⟨rfl, ?_, ?_, ?_⟩, ?_, look_all (P := fun (x : Str) (ks : List Nat) => ∃ cv, (mg x = some cv ∨ (mg x = none ∧ bootBuiltins x = some cv ∧ x ≠ "__name__")) ∧ ∀ (c : Nat) (e : EC), eAt [⟨4, "BadStep", C4, ["word"]⟩] c = some e → PySem.W.exmOne K (.ref e.C) cv = some (ks.contains c)) ?_⟩
    · revert x
      exact (all_two (PySem.W.mg_none_of X G z_abs) (all_two (PySem.W.mg_none_of X G z_bool) (all_two (PySem.W.mg_none_of X G z_int) (all_two (PySem.W.mg_none_of X G z_isinstance) (all_two (PySem.W.mg_none_of X G z_len) (all_two (PySem.W.mg_none_of X G z_list) (all_two (PySem.W.mg_none_of X G z_min) (all_two (PySem.W.mg_none_of X G z_range) (all_two (PySem.W.mg_none_of X G z_set) (all_two (PySem.W.mg_none_of X G z_str) (all_two (PySem.W.mg_none_of X G z_tuple) all_nil)))))))))))
    · exact all_nil
    · revert k
      intro k hk
      have := look_all (P := fun (k : Nat) (p : Str × Nat) => ∃ d f fd ps N qual st, tb k = some d ∧ DefOk Γ K mg p.1 p.2 d f fd ps N qual st ∧ ∀ ks perm, (k, ks, perm) ∈ Γ.kws → KBinds K fd ps ks (gK ks.length perm) (gK ks.length perm)) (l := Γ.fns) (all_two ⟨_, _, _, _, _, _, _, rfl, D73, K73⟩ (all_two ⟨_, _, _, _, _, _, _, rfl, D74, K74⟩ (all_two ⟨_, _, _, _, _, _, _, rfl, D75, K75⟩ (all_two ⟨_, _, _, _, _, _, _, rfl, D76, K76⟩ (all_two ⟨_, _, _, _, _, _, _, rfl, D247, K247⟩ (all_two ⟨_, _, _, _, _, _, _, rfl, D248, K248⟩ (all_two ⟨_, _, _, _, _, _, _, rfl, D128, K128⟩ (all_two ⟨_, _, _, _, _, _, _, rfl, D375, K375⟩ (all_two ⟨_, _, _, _, _, _, _, rfl, D360, K360⟩ (all_two ⟨_, _, _, _, _, _, _, rfl, D361, K361⟩ (all_two ⟨_, _, _, _, _, _, _, rfl, D362, K362⟩ (all_two ⟨_, _, _, _, _, _, _, rfl, D388, K388⟩ (all_two ⟨_, _, _, _, _, _, _, rfl, D306, K306⟩ (all_two ⟨_, _, _, _, _, _, _, rfl, D307, K307⟩ (all_two ⟨_, _, _, _, _, _, _, rfl, D308, K308⟩ (all_two ⟨_, _, _, _, _, _, _, rfl, D309, K309⟩ (all_two ⟨_, _, _, _, _, _, _, rfl, D310, K310⟩ (all_two ⟨_, _, _, _, _, _, _, rfl, D311, K311⟩ (all_two ⟨_, _, _, _, _, _, _, rfl, D312, K312⟩ (all_two ⟨_, _, _, _, _, _, _, rfl, D328, K328⟩ (all_two ⟨_, _, _, _, _, _, _, rfl, D329, K329⟩ (all_two ⟨_, _, _, _, _, _, _, rfl, D368, K368⟩ (all_two ⟨_, _, _, _, _, _, _, rfl, D317, K317⟩ (all_two ⟨_, _, _, _, _, _, _, rfl, D320, K320⟩ (all_two ⟨_, _, _, _, _, _, _, rfl, D389, K389⟩ (all_two ⟨_, _, _, _, _, _, _, rfl, D379, K379⟩ (all_two ⟨_, _, _, _, _, _, _, rfl, D390, K390⟩ (all_two ⟨_, _, _, _, _, _, _, rfl, D391, K391⟩ (all_two ⟨_, _, _, _, _, _, _, rfl, D392, K392⟩ (all_two ⟨_, _, _, _, _, _, _, rfl, D393, K393⟩ all_nil)))))))))))))))))))))))))))))) k (x, n) hk
      exact this
    · exact (all_two (PySem.W.mg_of X G aC4) all_nil)
    · exact (all_two (fun _ => ⟨O4, (show (["word"] : List Str).length ≤ 20 by decide +kernel), I4, _, _, iC4, tI4, B4, J4 base⟩) all_nil)
    · exact (all_two (show (["word"] : List Str).Nodup by decide +kernel) all_nil)
    · exact (all_two ⟨⟨ga4, gg4, eC4, hC4⟩, no4⟩ all_nil)
    · exact (all_two ⟨_, .inl (PySem.W.mg_of X G aC4), cat_of (all_two em4_4 all_nil)⟩ (all_two ⟨_, .inl (PySem.W.mg_of X G aC15), cat_of (all_two em4_15 all_nil)⟩ all_nil))
  exact ⟨_, fun s v => .of_eq rfl, fun base _ _ => (def_step (M base) (defs_ok (M base) 20) (x := "law") rfl D393).imp (spL_M hplain)⟩
theorem hasV : Ext tbVals tb := by
  intro k d h
  unfold tbVals at h
  split at h
  all_goals first | (cases h; rfl) | cases h
theorem hasR : HasRec tb := by
  constructor
  · exact hasV
  all_goals rfl
theorem has : HasK21 tb := by
  constructor
  · exact hasR
  all_goals rfl
theorem plain : ∀ ns : List Int, ns.length ≤ 63 → ∃ μ', Mi.run tb 21 393 [.scr ns] [] = .ok (.bl true) μ' := fun ns _ => plain_k21 (n := 11) has ns

end Lw
open PySem PySem.W PyProof.Rows
set_option maxHeartbeats 0 in
theorem PySem.Challenge.cw_nospare_k21_states_holds : PySem.Challenge.rw_nospare_k21_states.Holds := by
  w_on; o_law; k_head; (case hw => w_witness2)
  k_fill
  refine L2.walk_of (l := PySem.Challenge.rw_nospare_k21_states) (n := 63) (k := 24) (x := "script") (CX := fun w => L2.CX (PySem.Challenge.rw_nospare_k21_states).prog w) (sp := fun w => Mi.spL _) rfl (by decide) rfl ⟨rfl, by decide, by decide⟩ (fun w h Y => PySem.W.kIn_of Y) ?F (fun _ H a ns hl hO hS => Mi.spL_of H a ns hl hO hS) (fun _ _ _ _ _ h => Mi.cx_no h)
  case F =>
    intro w mg fa h KX G hmg
    refine' Lw.mod_mk KX G ?a73 ?l73 ?c73 ?k73 ?a74 ?l74 ?c74 ?k74 ?a75 ?l75 ?c75 ?k75 ?a76 ?l76 ?c76 ?k76 ?a247 ?l247 ?c247 ?k247 ?a248 ?l248 ?c248 ?k248 ?a128 ?l128 ?c128 ?k128 ?a375 ?l375 ?c375 ?k375 ?a360 ?l360 ?c360 ?k360 ?a361 ?l361 ?c361 ?k361 ?a362 ?l362 ?c362 ?k362 ?a388 ?l388 ?c388 ?k388 ?a306 ?l306 ?c306 ?k306 ?a307 ?l307 ?c307 ?k307 ?a308 ?l308 ?c308 ?k308 ?a309 ?l309 ?c309 ?k309 ?a310 ?l310 ?c310 ?k310 ?a311 ?l311 ?c311 ?k311 ?a312 ?l312 ?c312 ?k312 ?a328 ?l328 ?c328 ?k328 ?a329 ?l329 ?c329 ?k329 ?a368 ?l368 ?c368 ?k368 ?a317 ?l317 ?c317 ?k317 ?a320 ?l320 ?c320 ?k320 ?a389 ?l389 ?c389 ?k389 ?a379 ?l379 ?c379 ?k379 ?a390 ?l390 ?c390 ?k390 ?a391 ?l391 ?c391 ?k391 ?a392 ?l392 ?c392 ?k392 ?a393 ?l393 ?c393 ?k393 ?z_abs ?z_bool ?z_int ?z_isinstance ?z_len ?z_list ?z_min ?z_range ?z_set ?z_str ?z_tuple ?aC4 ?xC4 ?rV4 ?sa4 ?ga4 ?gg4 ?eC4 ?tC4 ?kC4 ?hC4 ?iC4 ?tI4 ?lI4 ?cI4 ?kI4 ?n4_word ?em4_4 ?aC15 ?em4_15 Lw.plain hmg
    case a73 => first | rfl | k_is
    case l73 => first | rfl | k_is
    case c73 => first | rfl | k_is
    case k73 => first | rfl | k_is
    case a74 => first | rfl | k_is
    case l74 => first | rfl | k_is
    case c74 => first | rfl | k_is
    case k74 => first | rfl | k_is
    case a75 => first | rfl | k_is
    case l75 => first | rfl | k_is
    case c75 => first | rfl | k_is
    case k75 => first | rfl | k_is
    case a76 => first | rfl | k_is
    case l76 => first | rfl | k_is
    case c76 => first | rfl | k_is
    case k76 => first | rfl | k_is
    case a247 => first | rfl | k_is
    case l247 => first | rfl | k_is
    case c247 => first | rfl | k_is
    case k247 => first | rfl | k_is
    case a248 => first | rfl | k_is
    case l248 => first | rfl | k_is
    case c248 => first | rfl | k_is
    case k248 => first | rfl | k_is
    case a128 => first | rfl | k_is
    case l128 => first | rfl | k_is
    case c128 => first | rfl | k_is
    case k128 => first | rfl | k_is
    case a375 => first | rfl | k_is
    case l375 => first | rfl | k_is
    case c375 => first | rfl | k_is
    case k375 => first | rfl | k_is
    case a360 => first | rfl | k_is
    case l360 => first | rfl | k_is
    case c360 => first | rfl | k_is
    case k360 => first | rfl | k_is
    case a361 => first | rfl | k_is
    case l361 => first | rfl | k_is
    case c361 => first | rfl | k_is
    case k361 => first | rfl | k_is
    case a362 => first | rfl | k_is
    case l362 => first | rfl | k_is
    case c362 => first | rfl | k_is
    case k362 => first | rfl | k_is
    case a388 => first | rfl | k_is
    case l388 => first | rfl | k_is
    case c388 => first | rfl | k_is
    case k388 => first | rfl | k_is
    case a306 => first | rfl | k_is
    case l306 => first | rfl | k_is
    case c306 => first | rfl | k_is
    case k306 => first | rfl | k_is
    case a307 => first | rfl | k_is
    case l307 => first | rfl | k_is
    case c307 => first | rfl | k_is
    case k307 => first | rfl | k_is
    case a308 => first | rfl | k_is
    case l308 => first | rfl | k_is
    case c308 => first | rfl | k_is
    case k308 => first | rfl | k_is
    case a309 => first | rfl | k_is
    case l309 => first | rfl | k_is
    case c309 => first | rfl | k_is
    case k309 => first | rfl | k_is
    case a310 => first | rfl | k_is
    case l310 => first | rfl | k_is
    case c310 => first | rfl | k_is
    case k310 => first | rfl | k_is
    case a311 => first | rfl | k_is
    case l311 => first | rfl | k_is
    case c311 => first | rfl | k_is
    case k311 => first | rfl | k_is
    case a312 => first | rfl | k_is
    case l312 => first | rfl | k_is
    case c312 => first | rfl | k_is
    case k312 => first | rfl | k_is
    case a328 => first | rfl | k_is
    case l328 => first | rfl | k_is
    case c328 => first | rfl | k_is
    case k328 => first | rfl | k_is
    case a329 => first | rfl | k_is
    case l329 => first | rfl | k_is
    case c329 => first | rfl | k_is
    case k329 => first | rfl | k_is
    case a368 => first | rfl | k_is
    case l368 => first | rfl | k_is
    case c368 => first | rfl | k_is
    case k368 => first | rfl | k_is
    case a317 => first | rfl | k_is
    case l317 => first | rfl | k_is
    case c317 => first | rfl | k_is
    case k317 => first | rfl | k_is
    case a320 => first | rfl | k_is
    case l320 => first | rfl | k_is
    case c320 => first | rfl | k_is
    case k320 => first | rfl | k_is
    case a389 => first | rfl | k_is
    case l389 => first | rfl | k_is
    case c389 => first | rfl | k_is
    case k389 => first | rfl | k_is
    case a379 => first | rfl | k_is
    case l379 => first | rfl | k_is
    case c379 => first | rfl | k_is
    case k379 => first | rfl | k_is
    case a390 => first | rfl | k_is
    case l390 => first | rfl | k_is
    case c390 => first | rfl | k_is
    case k390 => first | rfl | k_is
    case a391 => first | rfl | k_is
    case l391 => first | rfl | k_is
    case c391 => first | rfl | k_is
    case k391 => first | rfl | k_is
    case a392 => first | rfl | k_is
    case l392 => first | rfl | k_is
    case c392 => first | rfl | k_is
    case k392 => first | rfl | k_is
    case a393 => first | rfl | k_is
    case l393 => first | rfl | k_is
    case c393 => first | rfl | k_is
    case k393 => first | rfl | k_is
    case z_abs => first | rfl | k_is
    case z_bool => first | rfl | k_is
    case z_int => first | rfl | k_is
    case z_isinstance => first | rfl | k_is
    case z_len => first | rfl | k_is
    case z_list => first | rfl | k_is
    case z_min => first | rfl | k_is
    case z_range => first | rfl | k_is
    case z_set => first | rfl | k_is
    case z_str => first | rfl | k_is
    case z_tuple => first | rfl | k_is
    case aC4 => first | rfl | k_is
    case xC4 => first | rfl | k_is
    case rV4 => first | rfl | k_is
    case sa4 => first | rfl | k_is
    case ga4 => first | rfl | k_is
    case gg4 => first | rfl | k_is
    case eC4 => first | rfl | k_is
    case tC4 => first | rfl | k_is
    case kC4 => first | rfl | k_is
    case hC4 => first | rfl | k_is
    case iC4 => first | rfl | k_is
    case tI4 => first | rfl | k_is
    case lI4 => first | rfl | k_is
    case cI4 => first | rfl | k_is
    case kI4 => first | rfl | k_is
    case n4_word => first | rfl | k_is
    case em4_4 => first | rfl | k_is
    case aC15 => first | rfl | k_is
    case em4_15 => first | rfl | k_is
