import PyProof.Rows.All
import Wide.All
import OpenK.AllK
import Wide.FinOn
import PySem.Challenge.RW_nt0001_01
set_option Elab.async false
set_option tactic.hygienic false
set_option maxRecDepth 100000
set_option linter.unusedVariables false
set_option linter.unusedSimpArgs false
set_option linter.unusedSectionVars false

namespace Mine
open PySem

/-! ### data in the heap -/
noncomputable abbrev lstO (vs : List Value) (n : Nat) : Obj := { cls := .type "list", data := .seq vs.toArray n }
noncomputable abbrev tupO (vs : List Value) (n : Nat) : Obj := { cls := .type "tuple", data := .seq vs.toArray n }

mutual
inductive Rep (h : Heap) (Hd : List Addr) : Value → PyData → Prop
  | none : Rep h Hd .none .none
  | bool (b : Bool) : Rep h Hd (.bool b) (.bool b)
  | int (i : Int) (t : Tok) : Rep h Hd (.int i t) (.int i)
  | list {a : Addr} {vs : List Value} {n : Nat} {xs : List PyData} : h.get? a = some (lstO vs n) → a ∉ Hd → RepAll h Hd vs xs → Rep h Hd (.ref a) (.list xs)
  | tuple {a : Addr} {vs : List Value} {n : Nat} {xs : List PyData} : h.get? a = some (tupO vs n) → a ∉ Hd → RepAll h Hd vs xs → Rep h Hd (.ref a) (.tuple xs)
inductive RepAll (h : Heap) (Hd : List Addr) : List Value → List PyData → Prop
  | nil : RepAll h Hd [] []
  | cons {v : Value} {vs : List Value} {d : PyData} {ds : List PyData} : Rep h Hd v d → RepAll h Hd vs ds → RepAll h Hd (v :: vs) (d :: ds)
end

section
variable {h h' : Heap} {Hd Hd' : List Addr}
mutual
theorem Rep.mono (hk : ∀ b o, b ∉ Hd → h.get? b = some o → h'.get? b = some o ∧ b ∉ Hd') : ∀ {v : Value} {d : PyData}, Rep h Hd v d → Rep h' Hd' v d
  | _, _, .none => .none
  | _, _, .bool b => .bool b
  | _, _, .int i t => .int i t
  | _, _, .list e n r => .list (hk _ _ n e).1 (hk _ _ n e).2 (RepAll.mono hk r)
  | _, _, .tuple e n r => .tuple (hk _ _ n e).1 (hk _ _ n e).2 (RepAll.mono hk r)
theorem RepAll.mono (hk : ∀ b o, b ∉ Hd → h.get? b = some o → h'.get? b = some o ∧ b ∉ Hd') : ∀ {vs : List Value} {ds : List PyData}, RepAll h Hd vs ds → RepAll h' Hd' vs ds
  | _, _, .nil => .nil
  | _, _, .cons r s => .cons (Rep.mono hk r) (RepAll.mono hk s)
end
theorem Rep.keeps (hk : ∀ b o, h.get? b = some o → h'.get? b = some o) {v : Value} {d : PyData} (r : Rep h Hd v d) : Rep h' Hd v d := r.mono fun b o n e => ⟨hk b o e, n⟩
theorem RepAll.keeps (hk : ∀ b o, h.get? b = some o → h'.get? b = some o) {vs : List Value} {ds : List PyData} (r : RepAll h Hd vs ds) : RepAll h' Hd vs ds := r.mono fun b o n e => ⟨hk b o e, n⟩

theorem RepAll.length : ∀ {vs : List Value} {ds : List PyData}, RepAll h Hd vs ds → vs.length = ds.length
  | _, _, .nil => rfl
  | _, _, .cons _ s => by rw [List.length_cons, List.length_cons, s.length]
theorem RepAll.append : ∀ {vs ws : List Value} {ds es : List PyData}, RepAll h Hd vs ds → RepAll h Hd ws es → RepAll h Hd (vs ++ ws) (ds ++ es)
  | _, _, _, _, .nil, k => k
  | _, _, _, _, .cons r s, k => .cons r (s.append k)
theorem RepAll.one {v : Value} {d : PyData} (r : Rep h Hd v d) : RepAll h Hd [v] [d] := .cons r .nil
theorem RepAll.get : ∀ {vs : List Value} {ds : List PyData}, RepAll h Hd vs ds → ∀ {k : Nat} {d : PyData}, ds[k]? = some d → ∃ v, vs[k]? = some v ∧ Rep h Hd v d
  | _, _, .nil, _, _, e => by simp at e
  | _, _, .cons r s, 0, _, e => by simp at e; subst e; exact ⟨_, rfl, r⟩
  | _, _, .cons r s, k + 1, _, e => by
    obtain ⟨v, e', r'⟩ := s.get (k := k) (by simpa using e)
    exact ⟨v, by simpa using e', r'⟩
theorem RepAll.drop : ∀ {vs : List Value} {ds : List PyData}, RepAll h Hd vs ds → ∀ k, RepAll h Hd (vs.drop k) (ds.drop k)
  | _, _, .nil, k => by simp; exact .nil
  | _, _, .cons r s, 0 => .cons r s
  | _, _, .cons r s, k + 1 => by simpa using s.drop k
theorem RepAll.take : ∀ {vs : List Value} {ds : List PyData}, RepAll h Hd vs ds → ∀ k, RepAll h Hd (vs.take k) (ds.take k)
  | _, _, .nil, k => by simp; exact .nil
  | _, _, .cons r s, 0 => .nil
  | _, _, .cons r s, k + 1 => by simpa using RepAll.cons r (s.take k)
theorem RepAll.reverse : ∀ {vs : List Value} {ds : List PyData}, RepAll h Hd vs ds → RepAll h Hd vs.reverse ds.reverse
  | _, _, .nil => .nil
  | _, _, .cons r s => by rw [List.reverse_cons, List.reverse_cons]; exact s.reverse.append (.one r)
theorem RepAll.set : ∀ {vs : List Value} {ds : List PyData}, RepAll h Hd vs ds → ∀ {v : Value} {d : PyData} (k : Nat), Rep h Hd v d → RepAll h Hd (vs.set k v) (ds.set k d)
  | _, _, .nil, _, _, _, _ => by simp; exact .nil
  | _, _, .cons r s, _, _, 0, q => .cons q s
  | _, _, .cons r s, _, _, k + 1, q => .cons r (s.set k q)
theorem RepAll.replicate {v : Value} {d : PyData} (r : Rep h Hd v d) : ∀ n, RepAll h Hd (List.replicate n v) (List.replicate n d)
  | 0 => .nil
  | n + 1 => .cons r (RepAll.replicate r n)

theorem Rep.int_inv {v : Value} {i : Int} (r : Rep h Hd v (.int i)) : ∃ t, v = .int i t := by cases r with | int _ t => exact ⟨t, rfl⟩
theorem Rep.bool_inv {v : Value} {b : Bool} (r : Rep h Hd v (.bool b)) : v = .bool b := by cases r; rfl
theorem Rep.none_inv {v : Value} (r : Rep h Hd v .none) : v = .none := by cases r; rfl
theorem Rep.list_inv {v : Value} {xs : List PyData} (r : Rep h Hd v (.list xs)) : ∃ a vs n, v = .ref a ∧ h.get? a = some (lstO vs n) ∧ a ∉ Hd ∧ RepAll h Hd vs xs := by
  cases r with | list e n r => exact ⟨_, _, _, rfl, e, n, r⟩
theorem Rep.tuple_inv {v : Value} {xs : List PyData} (r : Rep h Hd v (.tuple xs)) : ∃ a vs n, v = .ref a ∧ h.get? a = some (tupO vs n) ∧ a ∉ Hd ∧ RepAll h Hd vs xs := by
  cases r with | tuple e n r => exact ⟨_, _, _, rfl, e, n, r⟩
theorem RepAll.cons_inv {vs : List Value} {d : PyData} {ds : List PyData} (r : RepAll h Hd vs (d :: ds)) : ∃ v ws, vs = v :: ws ∧ Rep h Hd v d ∧ RepAll h Hd ws ds := by
  cases r with | cons a b => exact ⟨_, _, rfl, a, b⟩
theorem RepAll.nil_inv {vs : List Value} (r : RepAll h Hd vs []) : vs = [] := by cases r; rfl

mutual
theorem Rep.reads : ∀ {v : Value} {d : PyData}, Rep h Hd v d → ∃ as, Reads h v d as
  | _, _, .none => ⟨_, Reads.none⟩
  | _, _, .bool b => ⟨_, Reads.bool b⟩
  | _, _, .int i t => ⟨_, Reads.int i t⟩
  | _, _, .list e n r => by obtain ⟨as, q⟩ := RepAll.reads r; exact ⟨_, Reads.list e rfl rfl (by simpa using q)⟩
  | _, _, .tuple e n r => by obtain ⟨as, q⟩ := RepAll.reads r; exact ⟨_, Reads.tuple e rfl rfl (by simpa using q)⟩
theorem RepAll.reads : ∀ {vs : List Value} {ds : List PyData}, RepAll h Hd vs ds → ∃ as, ReadsAll h vs ds as
  | _, _, .nil => ⟨_, ReadsAll.nil⟩
  | _, _, .cons r s => by
    obtain ⟨as, q⟩ := Rep.reads r
    obtain ⟨bs, p⟩ := RepAll.reads s
    exact ⟨_, ReadsAll.cons q p⟩
end

/-- data that hold no reference -/
noncomputable def flat : PyData → Bool
  | .none | .bool _ | .int _ => true
  | _ => false
theorem Rep.flat {v : Value} {d : PyData} (r : Rep h Hd v d) (f : flat d = true) : Rep h' Hd' v d := by
  cases r with
  | none => exact .none
  | bool b => exact .bool b
  | int i t => exact .int i t
  | list => simp [Mine.flat] at f
  | tuple => simp [Mine.flat] at f
theorem RepAll.flat : ∀ {vs : List Value} {ds : List PyData}, RepAll h Hd vs ds → ds.all Mine.flat = true → RepAll h' Hd' vs ds
  | _, _, .nil, _ => .nil
  | _, _, .cons r s, f => by simp at f; exact .cons (r.flat f.1) (s.flat (by simpa using f.2))
end

theorem lst_isList {h : Heap} {a : Addr} {vs : List Value} {n : Nat} (e : h.get? a = some (lstO vs n)) : h.IsList a vs.toArray := ⟨_, e, rfl, n, rfl⟩
theorem tup_isTuple {h : Heap} {a : Addr} {vs : List Value} {n : Nat} (e : h.get? a = some (tupO vs n)) : h.IsTuple a vs.toArray := ⟨_, e, rfl, n, rfl⟩

/-! ### what an expression's evaluation ends in -/
noncomputable abbrev NoE : Value → Shared → Prop := fun _ _ => False
/-- the value represents d, and all that stood stands -/
noncomputable def Ends (s : Shared) (Hd : List Addr) (d : PyData) (v : Value) (s' : Shared) : Prop := Keeps s s' ∧ Rep s'.heap Hd v d
theorem keeps_refl (s : Shared) : Keeps s s := ⟨s.heap, s.toks, rfl, fun _ _ e => e⟩
theorem keeps_trans {s s₁ s₂ : Shared} (a : Keeps s s₁) (b : Keeps s₁ s₂) : Keeps s s₂ := by
  obtain ⟨h, t, rfl, k⟩ := a
  obtain ⟨h', t', rfl, k'⟩ := b
  exact ⟨h', t', rfl, fun c o e => k' c o (k c o e)⟩
theorem keeps_get {s s' : Shared} (k : Keeps s s') : ∀ b o, s.heap.get? b = some o → s'.heap.get? b = some o := by
  obtain ⟨h, t, rfl, k⟩ := k; exact k
theorem keeps_toks (s : Shared) (t : Nat) : Keeps s { s with toks := t } := ⟨s.heap, t, rfl, fun _ _ e => e⟩
theorem keeps_push (s : Shared) (o : Obj) (t : Nat) : Keeps s { s with heap := s.heap.push o, toks := t } := ⟨_, _, rfl, fun _ _ e => Heap.get?_push_of_some _ e⟩
theorem keeps_heap {s : Shared} {h' : Heap} {t : Nat} (k : ∀ b o, s.heap.get? b = some o → h'.get? b = some o) : Keeps s { s with heap := h', toks := t } := ⟨_, _, rfl, k⟩
theorem Ends.rep {s s' : Shared} {Hd : List Addr} {d : PyData} {v : Value} (e : Ends s Hd d v s') : Rep s'.heap Hd v d := e.2
theorem Ends.after {s s₁ s₂ : Shared} {Hd : List Addr} {d : PyData} {v : Value} (k : Keeps s s₁) (e : Ends s₁ Hd d v s₂) : Ends s Hd d v s₂ := ⟨keeps_trans k e.1, e.2⟩
theorem keeps_rep {s s' : Shared} (k : Keeps s s') {Hd : List Addr} {v : Value} {d : PyData} (r : Rep s.heap Hd v d) : Rep s'.heap Hd v d := r.keeps (keeps_get k)

/-- the room that is left -/
structure Room (n : Nat) (A : Around) : Prop where
  hd : A.handled = none
  dep : A.depth + n < recursionLimit
  un : A.units + 8 * n + 200 < cLine
theorem Room.less {n m : Nat} {A : Around} (R : Room n A) (h : m ≤ n) : Room m A := ⟨R.hd, by have := R.dep; omega, by have := R.un; omega⟩
theorem Room.deeper {n : Nat} {A : Around} (R : Room (n + 1) A) (env : Env) : Room n (A.deeper env) := ⟨R.hd, by have := R.dep; show A.depth + 1 + n < _; omega, by have := R.un; show A.units + 3 + _ + _ < _; omega⟩
theorem Room.in1 {n : Nat} {A : Around} (R : Room (n + 1) A) : Room n A.in1 := ⟨R.hd, by have := R.dep; show A.depth + n < _; omega, by have := R.un; show A.units + 1 + _ + _ < _; omega⟩
end Mine

namespace Mine
open PySem

/-! ### a small reader of the text, over plain data -/
inductive Slot where
  | sh (d : PyData)
  | own (xs : List PyData)
noncomputable abbrev Vars := List (Str × Slot)
noncomputable def look : Vars → Str → Option Slot
  | [], _ => none
  | (y, t) :: r, x => if x = y then some t else look r x
noncomputable def put : Vars → Str → Slot → Vars
  | [], x, s => [(x, s)]
  | (y, t) :: r, x, s => if x = y then (y, s) :: r else (y, t) :: put r x s
noncomputable def kindIn : List (Str × NameKind) → Str → Option NameKind
  | [], _ => none
  | (y, t) :: r, x => if x = y then some t else kindIn r x
structure Fn where
  params : List Str
  body : List Stmt
  scope : Scope
noncomputable abbrev Tbl := List (Str × Fn)
noncomputable def fnOf : Tbl → Str → Option Fn
  | [], _ => none
  | (y, t) :: r, x => if x = y then some t else fnOf r x
inductive Fl where
  | next
  | ret (d : PyData)

noncomputable def shOf : Option Slot → Option PyData
  | some (.sh d) => some d
  | _ => none
noncomputable def borrow : Option Slot → Option PyData
  | some (.sh d) => some d
  | some (.own xs) => some (.list xs)
  | none => none
noncomputable def intOf : PyData → Option Int
  | .int i => some i
  | _ => none
noncomputable def listOf : PyData → Option (List PyData)
  | .list xs => some xs
  | _ => none
noncomputable def boolOf : PyData → Option Bool
  | .bool b => some b
  | _ => none
noncomputable def intsOf : List PyData → Option (List Int)
  | [] => some []
  | d :: r => (intOf d).bind fun i => (intsOf r).map (i :: ·)
/-- where a place lies, counted from the end if it is below nought -/
noncomputable def placeIn (i : Int) (n : Nat) : Option Nat :=
  if 0 ≤ i then (if i < n then some i.toNat else none) else (if -(n : Int) ≤ i then some (i + n).toNat else none)
noncomputable def itemOf (d : PyData) (i : Int) : Option PyData :=
  match d with
  | .list xs | .tuple xs => if xs.length ≤ 2 ^ 20 then (placeIn i xs.length).bind fun k => xs[k]? else none
  | _ => none
noncomputable def small (i : Int) : Bool := i.natAbs < 2 ^ 64
noncomputable def arI (f : Int → Int → Option PyData) : PyData → PyData → Option PyData
  | .int a, .int b => f a b
  | _, _ => none
noncomputable def addD (a b : PyData) : Option PyData :=
  match a with
  | .int a => (match b with
    | .int b => some (.int (a + b))
    | _ => none)
  | .list xs => (match b with
    | .list ys => if xs.length + ys.length ≤ 2 ^ 20 then some (.list (xs ++ ys)) else none
    | _ => none)
  | _ => none
noncomputable def mulD (a b : PyData) : Option PyData :=
  match b with
  | .int b => (match a with
    | .int a => if small a && small b then some (.int (a * b)) else none
    | .list xs => if xs.length * b.toNat ≤ 2 ^ 20 ∧ b.natAbs ≤ 2 ^ 20 then some (.list (List.replicate b.toNat xs).flatten) else none
    | _ => none)
  | _ => none
noncomputable def arith : Operator → PyData → PyData → Option PyData
  | .Add, a, b => addD a b
  | .Mult, a, b => mulD a b
  | .Sub, a, b => arI (fun a b => some (.int (a - b))) a b
  | .Mod, a, b => arI (fun a b => if b = 0 then none else some (.int (a.fmod b))) a b
  | .FloorDiv, a, b => arI (fun a b => if b ≠ 0 ∧ b.natAbs < 1073741824 then some (.int (a.fdiv b)) else none) a b
  | _, _, _ => none
theorem ar_add {a b : Int} : arith .Add (.int a) (.int b) = some (.int (a + b)) := rfl
theorem ar_sub {a b : Int} : arith .Sub (.int a) (.int b) = some (.int (a - b)) := rfl
theorem ar_mul {a b : Int} : arith .Mult (.int a) (.int b) = if small a && small b then some (.int (a * b)) else none := rfl
theorem ar_mod {a b : Int} : arith .Mod (.int a) (.int b) = if b = 0 then none else some (.int (a.fmod b)) := rfl
theorem ar_div {a b : Int} : arith .FloorDiv (.int a) (.int b) = if b ≠ 0 ∧ b.natAbs < 1073741824 then some (.int (a.fdiv b)) else none := rfl
theorem ar_cat {a b : List PyData} : arith .Add (.list a) (.list b) = if a.length + b.length ≤ 2 ^ 20 then some (.list (a ++ b)) else none := rfl
theorem ar_rep {xs : List PyData} {b : Int} : arith .Mult (.list xs) (.int b) = if xs.length * b.toNat ≤ 2 ^ 20 ∧ b.natAbs ≤ 2 ^ 20 then some (.list (List.replicate b.toNat xs).flatten) else none := rfl
noncomputable def isNone : PyData → Bool
  | .none => true
  | _ => false
noncomputable def cmpI (f : Int → Int → Bool) : PyData → PyData → Option Bool
  | .int a, .int b => some (f a b)
  | _, _ => none
noncomputable def eqD (a b : PyData) : Option Bool :=
  match a with
  | .int a => (match b with
    | .int b => some (a == b)
    | _ => none)
  | .bool a => (match b with
    | .bool b => some (a == b)
    | _ => none)
  | .list a => (match b with
    | .list b => if SeqAt.shaped (.list a) && SeqAt.shaped (.list b) then some (PyData.eqv (.list a) (.list b)) else none
    | _ => none)
  | _ => none
noncomputable def isD (a b : PyData) : Option Bool :=
  match b with
  | .none => some (isNone a)
  | .bool b => (match a with
    | .bool a => some (a == b)
    | _ => none)
  | _ => none
noncomputable def compare : CmpOp → PyData → PyData → Option Bool
  | .Lt, a, b => cmpI (fun a b => decide (a < b)) a b
  | .LtE, a, b => cmpI (fun a b => decide (a ≤ b)) a b
  | .Gt, a, b => cmpI (fun a b => decide (b < a)) a b
  | .GtE, a, b => cmpI (fun a b => decide (b ≤ a)) a b
  | .Eq, a, b => eqD a b
  | .NotEq, a, b => (eqD a b).map (!·)
  | .Is, a, b => isD a b
  | .IsNot, a, b => (isD a b).map (!·)
  | _, _, _ => none
theorem cp_lt {a b : Int} : compare .Lt (.int a) (.int b) = some (decide (a < b)) := rfl
theorem cp_le {a b : Int} : compare .LtE (.int a) (.int b) = some (decide (a ≤ b)) := rfl
theorem cp_gt {a b : Int} : compare .Gt (.int a) (.int b) = some (decide (b < a)) := rfl
theorem cp_ge {a b : Int} : compare .GtE (.int a) (.int b) = some (decide (b ≤ a)) := rfl
theorem cp_eq {a b : Int} : compare .Eq (.int a) (.int b) = some (a == b) := rfl
theorem cp_ne {a b : Int} : compare .NotEq (.int a) (.int b) = some (a != b) := rfl
theorem cp_eqb {a b : Bool} : compare .Eq (.bool a) (.bool b) = some (a == b) := rfl
theorem cp_neb {a b : Bool} : compare .NotEq (.bool a) (.bool b) = some (a != b) := rfl
theorem cp_is {a : PyData} : compare .Is a .none = some (isNone a) := rfl
theorem cp_isnt {a : PyData} : compare .IsNot a .none = some (!isNone a) := rfl
theorem cp_isb {a b : Bool} : compare .Is (.bool a) (.bool b) = some (a == b) := rfl
theorem cp_isntb {a b : Bool} : compare .IsNot (.bool a) (.bool b) = some (a != b) := rfl
theorem cp_eql {a b : List PyData} : compare .Eq (.list a) (.list b) = if SeqAt.shaped (.list a) && SeqAt.shaped (.list b) then some (PyData.eqv (.list a) (.list b)) else none := rfl
theorem cp_nel {a b : List PyData} : compare .NotEq (.list a) (.list b) = (if SeqAt.shaped (.list a) && SeqAt.shaped (.list b) then some (PyData.eqv (.list a) (.list b)) else none).map (!·) := rfl
noncomputable def insI (i : Int) : List Int → List Int
  | [] => [i]
  | j :: r => if i ≤ j then i :: j :: r else j :: insI i r
noncomputable def sortI : List Int → List Int
  | [] => []
  | i :: r => insI i (sortI r)
/-- a tuple with an int ahead -/
noncomputable def firstOf : PyData → Option Int
  | .tuple (.int i :: _) => some i
  | _ => none
noncomputable def firstsOf : List PyData → Option (List Int)
  | [] => some []
  | d :: r => (firstOf d).bind fun i => (firstsOf r).map (i :: ·)
noncomputable def insT (i : Int) (d : PyData) : List (Int × PyData) → List (Int × PyData)
  | [] => [(i, d)]
  | (j, e) :: r => if i ≤ j then (i, d) :: (j, e) :: r else (j, e) :: insT i d r
noncomputable def sortT : List (Int × PyData) → List (Int × PyData)
  | [] => []
  | (i, d) :: r => insT i d (sortT r)
noncomputable def sorted (xs : List PyData) : Option (List PyData) :=
  if xs.length < 64 then
    match intsOf xs with
    | some ns => some ((sortI ns).map .int)
    | none => match firstsOf xs with
      | some fs => if fs.Nodup then some ((sortT (fs.zip xs)).map (·.2)) else none
      | none => none
  else none
noncomputable def minL : Int → List Int → Int
  | a, [] => a
  | a, b :: r => minL (if b < a then b else a) r
noncomputable def builtin (f : Str) (as : List PyData) : Option PyData :=
  if f = Str.ofString "len" then (match as with
    | [.list xs] => if xs.length ≤ 2 ^ 20 then some (.int xs.length) else none
    | _ => none)
  else if f = Str.ofString "sorted" then (match as with
    | [.list xs] => (sorted xs).map .list
    | _ => none)
  else if f = Str.ofString "min" then (match as with
    | [.int a, .int b] => some (.int (if b < a then b else a))
    | [.list xs] => if xs.length ≤ 2 ^ 20 then (match intsOf xs with
      | some (a :: r) => some (.int (minL a r))
      | _ => none) else none
    | _ => none)
  else if f = Str.ofString "list" then (match as with
    | [.list xs] => if xs.length ≤ 2 ^ 20 then some (.list xs) else none
    | _ => none)
  else if f = Str.ofString "tuple" then (match as with
    | [.tuple xs] => some (.tuple xs)
    | _ => none)
  else none
noncomputable def rangeL (a b : Int) : List Int := (List.range (b - a).toNat).map fun (k : Nat) => a + (k : Int)
noncomputable def downL (a b : Int) : List Int := (List.range (a - b).toNat).map fun (k : Nat) => a - (k : Int)
noncomputable def mid (i : Int) : Bool := i.natAbs < 2 ^ 19
noncomputable def rangeOf : List PyData → Option (List PyData)
  | [.int b] => if mid b then some ((rangeL 0 b).map .int) else none
  | [.int a, .int b] => if mid a && mid b then some ((rangeL a b).map .int) else none
  | [.int a, .int b, .int c] => if c = -1 ∧ mid a = true ∧ mid b = true then some ((downL a b).map .int) else none
  | _ => none
noncomputable def pairsFrom : Nat → List PyData → List PyData
  | _, [] => []
  | k, d :: r => .tuple [.int k, d] :: pairsFrom (k + 1) r
noncomputable def cut (xs : List PyData) (lo hi : Option Int) : Option PyData :=
  if xs.length ≤ 2 ^ 20 then
    match lo, hi with
    | none, none => some (.list xs)
    | some a, none => if 0 ≤ a ∧ a < 2 ^ 60 then some (.list (xs.drop a.toNat)) else none
    | none, some b => if 0 ≤ b ∧ b < 2 ^ 60 then some (.list (xs.take b.toNat)) else none
    | some a, some b => if 0 ≤ a ∧ a ≤ b ∧ b ≤ xs.length then some (.list ((xs.drop a.toNat).take (b.toNat - a.toNat))) else none
  else none

noncomputable def bindNames : Vars → List Expr → List PyData → Option Vars
  | ρ, [], [] => some ρ
  | ρ, .Name x _ :: ts, d :: ds => bindNames (put ρ x (.sh d)) ts ds
  | _, _, _ => none
noncomputable def bindT (ρ : Vars) (t : Expr) (d : PyData) : Option Vars :=
  match t with
  | .Name x _ => some (put ρ x (.sh d))
  | .Tuple ts _ _ => match d with
    | .tuple ds => bindNames ρ ts ds
    | _ => none
  | _ => none
noncomputable def freeOf (sc : Scope) (ρ : Vars) : Vars := ρ.filter fun p => kindIn sc.names p.1 == some .free
noncomputable def compL (tst : Vars → Option Bool) (f : Vars → Option PyData) (bind : PyData → Option Vars) : List PyData → Option (List PyData)
  | [] => some []
  | d :: r => (bind d).bind fun ρ => (tst ρ).bind fun b =>
      if b then (f ρ).bind fun x => (compL tst f bind r).map (x :: ·) else compL tst f bind r
noncomputable def forL (body : Vars → Option (Fl × Vars)) (bind : Vars → PyData → Option Vars) : Vars → List PyData → Option (Fl × Vars)
  | ρ, [] => some (.next, ρ)
  | ρ, d :: r => (bind ρ d).bind fun ρ₁ => (body ρ₁).bind fun p =>
      match p.1 with
      | .next => forL body bind p.2 r
      | .ret x => some (.ret x, p.2)
noncomputable def targetOk (sc : Scope) : Expr → Bool
  | .Name x _ => kindIn sc.names x == some .local
  | .Tuple ts _ _ => ts.all fun t => match t with
    | .Name x _ => kindIn sc.names x == some .local
    | _ => false
  | _ => false
noncomputable def plainName (x : Str) : Bool := x != Str.ofString "__debug__" && x != Str.ofString "__classdict__"
/-- a comprehension's block: what it closes over stands in a cell and is known -/
noncomputable def compOk (sc csc : Scope) (target : Expr) : Bool :=
  csc.kind == .function && targetOk csc target && csc.names.all fun p =>
    p.2 != .cell && plainName p.1 && (p.2 != .local || kindIn csc.names p.1 == some .local) &&
    (p.2 != .free || kindIn sc.names p.1 == some .cell || kindIn sc.names p.1 == some .free)
/-- two names that are given two values at once -/
noncomputable def swapOk (sc : Scope) (x y : Str) (px py : Pos) (a b : Expr) : Bool :=
  kindIn sc.names x == some .local && kindIn sc.names y == some .local && x != y && px.line == py.line &&
  !([a, b].any fun e => match e with | .Starred .. => true | _ => false) && !([a, b].all (foldedForSure 8)) && !([a, b].all (constantsAlone 8))
noncomputable def storable (sc : Scope) (x : Str) : Bool := (kindIn sc.names x == some .local || kindIn sc.names x == some .cell) && plainName x
noncomputable def targetSt (sc : Scope) : Expr → Bool
  | .Name x _ => storable sc x
  | .Tuple ts _ _ => ts.all fun t => match t with
    | .Name x _ => storable sc x
    | _ => false
  | _ => false
noncomputable def isGlobal (sc : Scope) (f : Str) : Bool := kindIn sc.names f == some .globalImplicit
noncomputable def allFlat (d : PyData) : Option (List PyData) :=
  match d with
  | .list xs => if xs.all flat then some xs else none
  | _ => none
noncomputable def isMade : Expr → Bool
  | .List [] _ => true
  | .BinOp (.List _ _) .Mult _ _ => true
  | _ => false

noncomputable def plainE : Expr → Bool
  | .Set _ _ _ => false
  | .Starred _ _ => false
  | _ => true
noncomputable def isTupD : PyData → Bool
  | .tuple _ => true
  | _ => false
/-- what a loop with this target can go over -/
noncomputable def goOver (target : Expr) (xs : List PyData) : Bool :=
  decide (xs.length ≤ 2 ^ 20) && match target with
    | .Name _ _ => true
    | .Tuple _ _ _ => xs.all isTupD
    | _ => false

mutual
noncomputable def ev (T : Tbl) : Nat → Scope → Vars → Expr → Option PyData
  | 0, _, _, _ => none
  | n + 1, sc, ρ, .Constant .none _ _ => some .none
  | n + 1, sc, ρ, .Constant (.bool b) _ _ => some (.bool b)
  | n + 1, sc, ρ, .Constant (.int i) _ _ => some (.int i)
  | n + 1, sc, ρ, .Name x _ => shOf (look ρ x)
  | n + 1, sc, ρ, .BinOp l op r _ => (evB T n sc ρ l).bind fun a => (evB T n sc ρ r).bind fun b => arith op a b
  | n + 1, sc, ρ, .UnaryOp .USub x _ => (ev T n sc ρ x).bind fun a => (intOf a).map fun i => .int (-i)
  | n + 1, sc, ρ, .BoolOp .And [x, y] _ => (ev T n sc ρ x).bind fun a => (boolOf a).bind fun b => if b then ev T n sc ρ y else some (.bool false)
  | n + 1, sc, ρ, .IfExp t b o _ => (evT T n sc ρ t).bind fun c => if c then ev T n sc ρ b else ev T n sc ρ o
  | n + 1, sc, ρ, .Compare l [op] [r] _ => (evB T n sc ρ l).bind fun a => (evB T n sc ρ r).bind fun b => (compare op a b).map .bool
  | n + 1, sc, ρ, .Subscript v (.Slice lo hi none _) _ => (evB T n sc ρ v).bind fun d => (listOf d).bind fun xs => (evO T n sc ρ lo).bind fun a => (evO T n sc ρ hi).bind fun b => cut xs a b
  | n + 1, sc, ρ, .Subscript v (.Slice none none (some (.UnaryOp .USub (.Constant (.int 1) _ _) _)) _) _ => (evB T n sc ρ v).bind fun d => (listOf d).bind fun xs => if xs.length ≤ 2 ^ 20 then some (.list xs.reverse) else none
  | n + 1, sc, ρ, .Subscript _ (.Slice _ _ _ _) _ => none
  | n + 1, sc, ρ, .Subscript v i _ => (evB T n sc ρ v).bind fun d => (ev T n sc ρ i).bind fun k => (intOf k).bind fun k => itemOf d k
  | n + 1, sc, ρ, .List es _ => (evL T n sc ρ es).bind fun ds => if ds.length ≤ 100 then some (.list ds) else none
  | n + 1, sc, ρ, .Tuple es _ _ => (evL T n sc ρ es).bind fun ds => if ds.length ≤ 100 then some (.tuple ds) else none
  | n + 1, sc, ρ, .Call (.Name f _) (a :: as) [] _ =>
      if isGlobal sc f then
        match fnOf T f with
        | some fn => (evL T n sc ρ (a :: as)).bind fun ds => evF T n fn ds
        | none => (evBL T n sc ρ (a :: as)).bind fun ds => builtin f ds
      else none
  | n + 1, sc, ρ, .ListComp elt [⟨target, iter, ifs, 0⟩] csc _ =>
      if compOk sc csc target then
        (evI T n sc ρ iter target).bind fun items => (compL (fun ρ => evTs T n csc ρ ifs) (fun ρ => ev T n csc ρ elt) (bindT (freeOf csc ρ) target) items).map .list
      else none
  | _ + 1, _, _, _ => none
/-- borrowed: a list of the frame's own is read as it stands -/
noncomputable def evB (T : Tbl) : Nat → Scope → Vars → Expr → Option PyData
  | 0, _, _, _ => none
  | n + 1, sc, ρ, .Name x _ => borrow (look ρ x)
  | n + 1, sc, ρ, e => ev T n sc ρ e
noncomputable def evO (T : Tbl) : Nat → Scope → Vars → Option Expr → Option (Option Int)
  | 0, _, _, _ => none
  | n + 1, sc, ρ, none => some none
  | n + 1, sc, ρ, some e => (ev T n sc ρ e).bind fun d => (intOf d).map some
noncomputable def evL (T : Tbl) : Nat → Scope → Vars → List Expr → Option (List PyData)
  | 0, _, _, _ => none
  | n + 1, sc, ρ, [] => some []
  | n + 1, sc, ρ, e :: r => (ev T n sc ρ e).bind fun d => (evL T n sc ρ r).map (d :: ·)
noncomputable def evBL (T : Tbl) : Nat → Scope → Vars → List Expr → Option (List PyData)
  | 0, _, _, _ => none
  | n + 1, sc, ρ, [] => some []
  | n + 1, sc, ρ, e :: r => (evB T n sc ρ e).bind fun d => (evBL T n sc ρ r).map (d :: ·)
/-- a test -/
noncomputable def evT (T : Tbl) : Nat → Scope → Vars → Expr → Option Bool
  | 0, _, _, _ => none
  | n + 1, sc, ρ, .UnaryOp .Not x _ => (evT T n sc ρ x).map (!·)
  | n + 1, sc, ρ, .BoolOp op vs _ => evA T n sc ρ op vs
  | n + 1, sc, ρ, .IfExp _ _ _ _ => none
  | n + 1, sc, ρ, .Compare l [op] [r] _ => (evB T n sc ρ l).bind fun a => (evB T n sc ρ r).bind fun b => compare op a b
  | n + 1, sc, ρ, .Compare l [op, op'] [r, r'] _ => if plainE r' = true then (evB T n sc ρ l).bind fun a => (evB T n sc ρ r).bind fun b => (compare op a b).bind fun c =>
      if c then (evB T n sc ρ r').bind fun b' => compare op' b b' else some false
    else none
  | n + 1, sc, ρ, .Compare _ _ _ _ => none
  | n + 1, sc, ρ, e => (ev T n sc ρ e).bind boolOf
noncomputable def evA (T : Tbl) : Nat → Scope → Vars → BoolOp → List Expr → Option Bool
  | 0, _, _, _, _ => none
  | n + 1, sc, ρ, .And, [] => some true
  | n + 1, sc, ρ, .Or, [] => some false
  | n + 1, sc, ρ, .And, e :: r => (evT T n sc ρ e).bind fun b => if b then evA T n sc ρ .And r else some false
  | n + 1, sc, ρ, .Or, e :: r => (evT T n sc ρ e).bind fun b => if b then some true else evA T n sc ρ .Or r
/-- a comprehension's tests -/
noncomputable def evTs (T : Tbl) : Nat → Scope → Vars → List Expr → Option Bool
  | 0, _, _, _ => none
  | n + 1, sc, ρ, [] => some true
  | n + 1, sc, ρ, [e] => evT T n sc ρ e
  | n + 1, sc, ρ, _ => none
/-- what a loop goes over -/
noncomputable def evI (T : Tbl) : Nat → Scope → Vars → Expr → Expr → Option (List PyData)
  | 0, _, _, _, _ => none
  | n + 1, sc, ρ, .Call (.Name f q) (a :: as) [] p, target =>
      if isGlobal sc f = true ∧ f = Str.ofString "range" then
        match target with
        | .Name _ _ => (evBL T n sc ρ (a :: as)).bind rangeOf
        | _ => none
      else if isGlobal sc f = true ∧ f = Str.ofString "enumerate" then
        match target, as with
        | .Tuple [.Name _ _, .Name _ _] _ _, [] => (ev T n sc ρ a).bind fun d => (listOf d).bind fun xs => if xs.length ≤ 2 ^ 20 then some (pairsFrom 0 xs) else none
        | _, _ => none
      else (ev T n sc ρ (.Call (.Name f q) (a :: as) [] p)).bind fun d => (listOf d).bind fun xs => if goOver target xs then some xs else none
  | n + 1, sc, ρ, e, target => (ev T n sc ρ e).bind fun d => (listOf d).bind fun xs => if goOver target xs then some xs else none
noncomputable def evF (T : Tbl) : Nat → Fn → List PyData → Option PyData
  | 0, _, _ => none
  | n + 1, fn, ds => if fn.params.length = ds.length then
      (evSs T n fn.scope (fn.params.zip (ds.map .sh)) fn.body).bind fun p => match p.1 with
        | .ret d => some d
        | .next => some .none
    else none
/-- what a name is given -/
noncomputable def evG (T : Tbl) : Nat → Scope → Vars → Expr → Option Slot
  | 0, _, _, _ => none
  | n + 1, sc, ρ, e => if isMade e then (ev T n sc ρ e).bind fun d => (allFlat d).map .own else (ev T n sc ρ e).map .sh
noncomputable def evGs (T : Tbl) : Nat → Scope → Vars → List Expr → Option (List Slot)
  | 0, _, _, _ => none
  | n + 1, sc, ρ, [] => some []
  | n + 1, sc, ρ, e :: r => (evG T n sc ρ e).bind fun d => (evGs T n sc ρ r).map (d :: ·)
noncomputable def evS (T : Tbl) : Nat → Scope → Vars → Stmt → Option (Fl × Vars)
  | 0, _, _, _ => none
  | n + 1, sc, ρ, .Assign [.Name x _] e _ => if storable sc x then (evG T n sc ρ e).map fun s => (.next, put ρ x s) else none
  | n + 1, sc, ρ, .Assign [.Tuple [.Name x px, .Name y py] _ _] (.Tuple [a, b] _ _) _ =>
      if swapOk sc x y px py a b = false ∨ plainName x = false ∨ plainName y = false then none else (evG T n sc ρ a).bind fun s => (evG T n sc ρ b).map fun t => (.next, put (put ρ x s) y t)
  | n + 1, sc, ρ, .Assign [.Subscript (.Name x _) i _] e _ => (ev T n sc ρ e).bind fun d =>
      match look ρ x with
      | some (.own xs) => (ev T n sc ρ i).bind fun k => (intOf k).bind fun k => if xs.length ≤ 2 ^ 20 then (placeIn k xs.length).map fun j => (.next, put ρ x (.own (xs.set j d))) else none
      | _ => none
  | n + 1, sc, ρ, .Expr (.Call (.Attribute (.Name x _) m ap) [e] [] cp) _ =>
      if (ap.endLine == cp.line) = true then
      match look ρ x with
      | some (.own xs) =>
        if m = Str.ofString "append" then (ev T n sc ρ e).bind fun d => if xs.length ≤ 2 ^ 20 then some (.next, put ρ x (.own (xs ++ [d]))) else none
        else if m = Str.ofString "extend" then (ev T n sc ρ e).bind fun d => (listOf d).bind fun ys => if xs.length ≤ 2 ^ 20 ∧ ys.length ≤ 2 ^ 20 then some (.next, put ρ x (.own (xs ++ ys))) else none
        else none
      | _ => none
      else none
  | n + 1, sc, ρ, .If t b o _ => (evT T n sc ρ t).bind fun c => if c then evSs T n sc ρ b else evSs T n sc ρ o
  | n + 1, sc, ρ, .For target iter body [] _ => if targetSt sc target = false then none else (evI T n sc ρ iter target).bind fun items => forL (fun ρ => evSs T n sc ρ body) (fun ρ d => bindT ρ target d) ρ items
  | n + 1, sc, ρ, .Return (some e) _ => (evB T n sc ρ e).map fun d => (.ret d, ρ)
  | _ + 1, _, _, _ => none
noncomputable def evSs (T : Tbl) : Nat → Scope → Vars → List Stmt → Option (Fl × Vars)
  | 0, _, _, _ => none
  | n + 1, sc, ρ, [] => some (.next, ρ)
  | n + 1, sc, ρ, st :: r => (evS T n sc ρ st).bind fun p => match p.1 with
      | .next => evSs T n sc p.2 r
      | .ret d => some (.ret d, p.2)
end

noncomputable def tblOf (p : Program) : Tbl := p.main.body.filterMap fun st => match st with
  | .FunctionDef n args body _ _ _ sc _ _ _ => some (n, ⟨args.args.map (·.arg), body, sc⟩)
  | _ => none
/-! ### the reader's arms, one by one -/
section
variable {T : Tbl} {n k : Nat} {sc csc : Scope} {ρ : Vars} {p q q1 q2 q3 : Pos} {x f m : Str} {e l r v i t b o target iter elt : Expr} {es as ifs : List Expr} {op op' : CmpOp} {bop : Operator} {c : Const} {lo hi : Option Expr} {st : Stmt} {sts body els : List Stmt}
theorem ev_z : ev T 0 sc ρ e = none := rfl
theorem evB_z : evB T 0 sc ρ e = none := rfl
theorem evO_z {oe : Option Expr} : evO T 0 sc ρ oe = none := rfl
theorem evL_z : evL T 0 sc ρ es = none := rfl
theorem evBL_z : evBL T 0 sc ρ es = none := rfl
theorem evT_z : evT T 0 sc ρ e = none := rfl
theorem evA_z {u : BoolOp} : evA T 0 sc ρ u es = none := rfl
theorem evTs_z : evTs T 0 sc ρ es = none := rfl
theorem evI_z : evI T 0 sc ρ e target = none := rfl
theorem evF_z {fn : Fn} {ds : List PyData} : evF T 0 fn ds = none := rfl
theorem evG_z : evG T 0 sc ρ e = none := rfl
theorem evS_z : evS T 0 sc ρ st = none := rfl
theorem evSs_z : evSs T 0 sc ρ sts = none := rfl
theorem ev_none : ev T (n + 1) sc ρ (.Constant .none k p) = some .none := rfl
theorem ev_bool {y : Bool} : ev T (n + 1) sc ρ (.Constant (.bool y) k p) = some (.bool y) := rfl
theorem ev_int {y : Int} : ev T (n + 1) sc ρ (.Constant (.int y) k p) = some (.int y) := rfl
theorem ev_name : ev T (n + 1) sc ρ (.Name x p) = shOf (look ρ x) := rfl
theorem ev_bin : ev T (n + 1) sc ρ (.BinOp l bop r p) = (evB T n sc ρ l).bind fun a => (evB T n sc ρ r).bind fun b => arith bop a b := rfl
theorem ev_neg : ev T (n + 1) sc ρ (.UnaryOp .USub e p) = (ev T n sc ρ e).bind fun a => (intOf a).map fun i => .int (-i) := rfl
theorem ev_and : ev T (n + 1) sc ρ (.BoolOp .And [l, r] p) = (ev T n sc ρ l).bind fun a => (boolOf a).bind fun b => if b then ev T n sc ρ r else some (.bool false) := rfl
theorem ev_ife : ev T (n + 1) sc ρ (.IfExp t b o p) = (evT T n sc ρ t).bind fun c => if c then ev T n sc ρ b else ev T n sc ρ o := rfl
theorem ev_cmp : ev T (n + 1) sc ρ (.Compare l [op] [r] p) = (evB T n sc ρ l).bind fun a => (evB T n sc ρ r).bind fun b => (compare op a b).map .bool := rfl
theorem ev_cut : ev T (n + 1) sc ρ (.Subscript v (.Slice lo hi none q) p) = (evB T n sc ρ v).bind fun d => (listOf d).bind fun xs => (evO T n sc ρ lo).bind fun a => (evO T n sc ρ hi).bind fun b => cut xs a b := rfl
theorem ev_rev : ev T (n + 1) sc ρ (.Subscript v (.Slice none none (some (.UnaryOp .USub (.Constant (.int 1) k q1) q2)) q3) p) = (evB T n sc ρ v).bind fun d => (listOf d).bind fun xs => if xs.length ≤ 2 ^ 20 then some (.list xs.reverse) else none := rfl
theorem ev_ixc : ev T (n + 1) sc ρ (.Subscript v (.Constant c k q) p) = (evB T n sc ρ v).bind fun d => (ev T n sc ρ (.Constant c k q)).bind fun k => (intOf k).bind fun k => itemOf d k := rfl
theorem ev_ixn : ev T (n + 1) sc ρ (.Subscript v (.Name x q) p) = (evB T n sc ρ v).bind fun d => (ev T n sc ρ (.Name x q)).bind fun k => (intOf k).bind fun k => itemOf d k := rfl
theorem ev_ixu {u : UnaryOp} : ev T (n + 1) sc ρ (.Subscript v (.UnaryOp u e q) p) = (evB T n sc ρ v).bind fun d => (ev T n sc ρ (.UnaryOp u e q)).bind fun k => (intOf k).bind fun k => itemOf d k := rfl
theorem ev_ixb : ev T (n + 1) sc ρ (.Subscript v (.BinOp l bop r q) p) = (evB T n sc ρ v).bind fun d => (ev T n sc ρ (.BinOp l bop r q)).bind fun k => (intOf k).bind fun k => itemOf d k := rfl
theorem ev_lst : ev T (n + 1) sc ρ (.List es p) = (evL T n sc ρ es).bind fun ds => if ds.length ≤ 100 then some (.list ds) else none := rfl
theorem ev_tup : ev T (n + 1) sc ρ (.Tuple es k p) = (evL T n sc ρ es).bind fun ds => if ds.length ≤ 100 then some (.tuple ds) else none := rfl
theorem ev_call : ev T (n + 1) sc ρ (.Call (.Name f q) (e :: as) [] p) = if isGlobal sc f then (match fnOf T f with
        | some fn => (evL T n sc ρ (e :: as)).bind fun ds => evF T n fn ds
        | none => (evBL T n sc ρ (e :: as)).bind fun ds => builtin f ds) else none := rfl
theorem ev_lc : ev T (n + 1) sc ρ (.ListComp elt [⟨target, iter, ifs, 0⟩] csc p) = if compOk sc csc target then
        (evI T n sc ρ iter target).bind fun items => (compL (fun ρ => evTs T n csc ρ ifs) (fun ρ => ev T n csc ρ elt) (bindT (freeOf csc ρ) target) items).map .list else none := rfl
theorem evB_nm : evB T (n + 1) sc ρ (.Name x p) = borrow (look ρ x) := rfl
theorem evB_co : evB T (n + 1) sc ρ (.Constant c k p) = ev T n sc ρ (.Constant c k p) := rfl
theorem evB_bi : evB T (n + 1) sc ρ (.BinOp l bop r p) = ev T n sc ρ (.BinOp l bop r p) := rfl
theorem evB_un {u : UnaryOp} : evB T (n + 1) sc ρ (.UnaryOp u e p) = ev T n sc ρ (.UnaryOp u e p) := rfl
theorem evB_bo {u : BoolOp} : evB T (n + 1) sc ρ (.BoolOp u es p) = ev T n sc ρ (.BoolOp u es p) := rfl
theorem evB_if : evB T (n + 1) sc ρ (.IfExp t b o p) = ev T n sc ρ (.IfExp t b o p) := rfl
theorem evB_cm {ops : List CmpOp} : evB T (n + 1) sc ρ (.Compare l ops es p) = ev T n sc ρ (.Compare l ops es p) := rfl
theorem evB_su : evB T (n + 1) sc ρ (.Subscript v i p) = ev T n sc ρ (.Subscript v i p) := rfl
theorem evB_li : evB T (n + 1) sc ρ (.List es p) = ev T n sc ρ (.List es p) := rfl
theorem evB_tu : evB T (n + 1) sc ρ (.Tuple es k p) = ev T n sc ρ (.Tuple es k p) := rfl
theorem evB_ca {ks : List Keyword} : evB T (n + 1) sc ρ (.Call e as ks p) = ev T n sc ρ (.Call e as ks p) := rfl
theorem evB_lc {gs : List Comprehension} : evB T (n + 1) sc ρ (.ListComp elt gs csc p) = ev T n sc ρ (.ListComp elt gs csc p) := rfl
theorem evO_no : evO T (n + 1) sc ρ none = some none := rfl
theorem evO_so : evO T (n + 1) sc ρ (some e) = (ev T n sc ρ e).bind fun d => (intOf d).map some := rfl
theorem evL_ni : evL T (n + 1) sc ρ [] = some [] := rfl
theorem evL_co : evL T (n + 1) sc ρ (e :: es) = (ev T n sc ρ e).bind fun d => (evL T n sc ρ es).map (d :: ·) := rfl
theorem evBL_ni : evBL T (n + 1) sc ρ [] = some [] := rfl
theorem evBL_co : evBL T (n + 1) sc ρ (e :: es) = (evB T n sc ρ e).bind fun d => (evBL T n sc ρ es).map (d :: ·) := rfl
theorem evT_no : evT T (n + 1) sc ρ (.UnaryOp .Not e p) = (evT T n sc ρ e).map (!·) := rfl
theorem evT_bo {u : BoolOp} : evT T (n + 1) sc ρ (.BoolOp u es p) = evA T n sc ρ u es := rfl
theorem evT_c1 : evT T (n + 1) sc ρ (.Compare l [op] [r] p) = (evB T n sc ρ l).bind fun a => (evB T n sc ρ r).bind fun b => compare op a b := rfl
theorem evT_c2 {r' : Expr} : evT T (n + 1) sc ρ (.Compare l [op, op'] [r, r'] p) = if plainE r' = true then (evB T n sc ρ l).bind fun a => (evB T n sc ρ r).bind fun b => (compare op a b).bind fun c =>
      if c then (evB T n sc ρ r').bind fun b' => compare op' b b' else some false
    else none := rfl
theorem evT_ca {ks : List Keyword} : evT T (n + 1) sc ρ (.Call e as ks p) = (ev T n sc ρ (.Call e as ks p)).bind boolOf := rfl
theorem evA_an : evA T (n + 1) sc ρ .And [] = some true := rfl
theorem evA_on : evA T (n + 1) sc ρ .Or [] = some false := rfl
theorem evA_ac : evA T (n + 1) sc ρ .And (e :: es) = (evT T n sc ρ e).bind fun b => if b then evA T n sc ρ .And es else some false := rfl
theorem evA_oc : evA T (n + 1) sc ρ .Or (e :: es) = (evT T n sc ρ e).bind fun b => if b then some true else evA T n sc ρ .Or es := rfl
theorem evTs_ni : evTs T (n + 1) sc ρ [] = some true := rfl
theorem evTs_on : evTs T (n + 1) sc ρ [e] = evT T n sc ρ e := rfl
theorem evG_eq : evG T (n + 1) sc ρ e = if isMade e then (ev T n sc ρ e).bind fun d => (allFlat d).map .own else (ev T n sc ρ e).map .sh := rfl
theorem evS_as : evS T (n + 1) sc ρ (.Assign [.Name x q] e p) = if storable sc x then (evG T n sc ρ e).map fun s => (.next, put ρ x s) else none := rfl
theorem evS_pa {y : Str} {a : Expr} {k' : Nat} {px py pt : Pos} : evS T (n + 1) sc ρ (.Assign [.Tuple [.Name x px, .Name y py] k q] (.Tuple [a, b] k' pt) p) = if swapOk sc x y px py a b = false ∨ plainName x = false ∨ plainName y = false then none else (evG T n sc ρ a).bind fun s => (evG T n sc ρ b).map fun t => (.next, put (put ρ x s) y t) := rfl
theorem evS_it : evS T (n + 1) sc ρ (.Assign [.Subscript (.Name x q) i q1] e p) = (ev T n sc ρ e).bind fun d =>
      match look ρ x with
      | some (.own xs) => (ev T n sc ρ i).bind fun k => (intOf k).bind fun k => if xs.length ≤ 2 ^ 20 then (placeIn k xs.length).map fun j => (.next, put ρ x (.own (xs.set j d))) else none
      | _ => none := rfl
theorem evS_me : evS T (n + 1) sc ρ (.Expr (.Call (.Attribute (.Name x q) m q1) [e] [] q2) p) = if (q1.endLine == q2.line) = true then
      match look ρ x with
      | some (.own xs) =>
        if m = Str.ofString "append" then (ev T n sc ρ e).bind fun d => if xs.length ≤ 2 ^ 20 then some (.next, put ρ x (.own (xs ++ [d]))) else none
        else if m = Str.ofString "extend" then (ev T n sc ρ e).bind fun d => (listOf d).bind fun ys => if xs.length ≤ 2 ^ 20 ∧ ys.length ≤ 2 ^ 20 then some (.next, put ρ x (.own (xs ++ ys))) else none
        else none
      | _ => none
      else none := rfl
theorem evS_if : evS T (n + 1) sc ρ (.If t body els p) = (evT T n sc ρ t).bind fun c => if c then evSs T n sc ρ body else evSs T n sc ρ els := rfl
theorem evS_fo : evS T (n + 1) sc ρ (.For target iter body [] p) = if targetSt sc target = false then none else (evI T n sc ρ iter target).bind fun items => forL (fun ρ => evSs T n sc ρ body) (fun ρ d => bindT ρ target d) ρ items := rfl
theorem evS_re : evS T (n + 1) sc ρ (.Return (some e) p) = (evB T n sc ρ e).map fun d => (.ret d, ρ) := rfl
theorem evSs_ni : evSs T (n + 1) sc ρ [] = some (.next, ρ) := rfl
theorem evSs_co : evSs T (n + 1) sc ρ (st :: sts) = (evS T n sc ρ st).bind fun p => match p.1 with
      | .next => evSs T n sc p.2 sts
      | .ret d => some (.ret d, p.2) := rfl
theorem evF_eq {fn : Fn} {ds : List PyData} : evF T (n + 1) fn ds = if fn.params.length = ds.length then
      (evSs T n fn.scope (fn.params.zip (ds.map .sh)) fn.body).bind fun p => match p.1 with
        | .ret d => some d
        | .next => some .none
    else none := rfl
theorem evI_na : evI T (n + 1) sc ρ (.Name x p) target = (ev T n sc ρ (.Name x p)).bind fun d => (listOf d).bind fun xs => if goOver target xs then some xs else none := rfl
theorem evI_su : evI T (n + 1) sc ρ (.Subscript v i p) target = (ev T n sc ρ (.Subscript v i p)).bind fun d => (listOf d).bind fun xs => if goOver target xs then some xs else none := rfl
theorem evI_ca : evI T (n + 1) sc ρ (.Call (.Name f q) (e :: as) [] p) target = (if isGlobal sc f = true ∧ f = Str.ofString "range" then
        match target with
        | .Name _ _ => (evBL T n sc ρ (e :: as)).bind rangeOf
        | _ => none
      else if isGlobal sc f = true ∧ f = Str.ofString "enumerate" then
        match target, as with
        | .Tuple [.Name _ _, .Name _ _] _ _, [] => (ev T n sc ρ e).bind fun d => (listOf d).bind fun xs => if xs.length ≤ 2 ^ 20 then some (pairsFrom 0 xs) else none
        | _, _ => none
      else (ev T n sc ρ (.Call (.Name f q) (e :: as) [] p)).bind fun d => (listOf d).bind fun xs => if goOver target xs then some xs else none) := rfl
theorem made_ni : isMade (.List [] p) = true := rfl
theorem made_mu : isMade (.BinOp (.List es q) .Mult r p) = true := rfl
theorem made_ca {ks : List Keyword} : isMade (.Call e as ks p) = false := rfl
theorem made_lc {gs : List Comprehension} : isMade (.ListComp elt gs csc p) = false := rfl
theorem made_su : isMade (.Subscript v i p) = false := rfl
theorem made_if : isMade (.IfExp t b o p) = false := rfl
theorem made_co : isMade (.Constant c k p) = false := rfl
theorem made_bn : isMade (.BinOp (.Name x q) bop r p) = false := rfl
theorem made_bb {op2 : Operator} : isMade (.BinOp (.BinOp l op2 e q) bop r p) = false := rfl
theorem bindT_n {d : PyData} : bindT ρ (.Name x p) d = some (put ρ x (.sh d)) := rfl
end
end Mine

namespace Mine
open PySem

/-- a value read where a list of the frame's own may stand too -/
noncomputable def BRep (h : Heap) (Hd : List Addr) (v : Value) (d : PyData) : Prop :=
  Rep h Hd v d ∨ ∃ a vs n xs, v = .ref a ∧ d = .list xs ∧ h.get? a = some (lstO vs n) ∧ RepAll h Hd vs xs
section
variable {h h' : Heap} {Hd : List Addr} {v : Value}
theorem BRep.list_inv {xs : List PyData} (r : BRep h Hd v (.list xs)) : ∃ a vs n, v = .ref a ∧ h.get? a = some (lstO vs n) ∧ RepAll h Hd vs xs := by
  rcases r with r | ⟨a, vs, n, ys, rfl, e, hg, hr⟩
  · obtain ⟨a, vs, n, e, hg, _, hr⟩ := r.list_inv
    exact ⟨a, vs, n, e, hg, hr⟩
  · cases e; exact ⟨a, vs, n, rfl, hg, hr⟩
theorem BRep.rep {d : PyData} (r : BRep h Hd v d) (hd : ∀ xs, d ≠ .list xs) : Rep h Hd v d := by
  rcases r with r | ⟨a, vs, n, ys, rfl, e, hg, hr⟩
  · exact r
  · exact absurd e (hd ys)
theorem BRep.int_inv {i : Int} (r : BRep h Hd v (.int i)) : ∃ t, v = .int i t := (r.rep fun _ e => by cases e).int_inv
theorem BRep.bool_inv {i : Bool} (r : BRep h Hd v (.bool i)) : v = .bool i := (r.rep fun _ e => by cases e).bool_inv
theorem BRep.none_inv (r : BRep h Hd v .none) : v = .none := (r.rep fun _ e => by cases e).none_inv
theorem BRep.tuple_inv {xs : List PyData} (r : BRep h Hd v (.tuple xs)) : ∃ a vs n, v = .ref a ∧ h.get? a = some (tupO vs n) ∧ a ∉ Hd ∧ RepAll h Hd vs xs := (r.rep fun _ e => by cases e).tuple_inv
theorem BRep.keeps (hk : ∀ b o, h.get? b = some o → h'.get? b = some o) {d : PyData} (r : BRep h Hd v d) : BRep h' Hd v d := by
  rcases r with r | ⟨a, vs, n, ys, rfl, e, hg, hr⟩
  · exact .inl (r.keeps hk)
  · exact .inr ⟨a, vs, n, ys, rfl, e, hk _ _ hg, hr.keeps hk⟩
theorem BRep.reads {d : PyData} (r : BRep h Hd v d) : ∃ as, Reads h v d as := by
  rcases r with r | ⟨a, vs, n, ys, rfl, rfl, hg, hr⟩
  · exact r.reads
  · obtain ⟨as, q⟩ := hr.reads
    exact ⟨_, Reads.list hg rfl rfl (by simpa using q)⟩
end

section
variable {prog : Program} {w : World} {A : Around} {s : Shared} {Hd : List Addr} {n : Nat}

theorem ends_toks {s : Shared} {Hd : List Addr} {v : Value} {d : PyData} {t : Nat} (r : Rep s.heap Hd v d) : Ends s Hd d v { s with toks := t } := ⟨keeps_toks s t, r⟩
theorem ends_here {s : Shared} {Hd : List Addr} {v : Value} {d : PyData} (r : Rep s.heap Hd v d) : Ends s Hd d v s := ⟨keeps_refl s, r⟩
theorem not_old {s : Shared} {Hd : List Addr} (hb : ∀ b ∈ Hd, b < s.heap.objs.size) : s.heap.objs.size ∉ Hd := fun hm => Nat.lt_irrefl _ (hb _ hm)

/-- a list newly made -/
theorem ends_push {s : Shared} {Hd : List Addr} {vs : List Value} {xs : List PyData} (hb : ∀ b ∈ Hd, b < s.heap.objs.size) (r : RepAll s.heap Hd vs xs) :
    Ends s Hd (.list xs) (.ref s.heap.objs.size) { s with heap := s.heap.push (lstO vs 0) } :=
  ⟨keeps_push s _ _, .list (Heap.get?_push_size _ rfl) (not_old hb) (r.keeps fun _ _ e => Heap.get?_push_of_some _ e)⟩
theorem ends_pushT {s : Shared} {Hd : List Addr} {vs : List Value} {xs : List PyData} (hb : ∀ b ∈ Hd, b < s.heap.objs.size) (r : RepAll s.heap Hd vs xs) :
    Ends s Hd (.tuple xs) (.ref s.heap.objs.size) { s with heap := s.heap.push (tupO vs 0) } :=
  ⟨keeps_push s _ _, .tuple (Heap.get?_push_size _ rfl) (not_old hb) (r.keeps fun _ _ e => Heap.get?_push_of_some _ e)⟩

theorem list_mul {l : Addr} {vs : List Value} {k : Nat} {x : Int} {u : Tok} {E : Value → Shared → Prop} {Q : Value → Shared → Prop}
    (hl : s.heap.get? l = some (lstO vs k)) (hx : x.natAbs ≤ 2 ^ 20) (hsz : vs.length * x.toNat ≤ 2 ^ 20)
    (h : Q (.ref s.heap.objs.size) { s with heap := s.heap.push (lstO (List.replicate x.toNat vs).flatten 0) }) :
    wpAny (model prog w) A (binaryOp .Mult (.ref l) (.int x u)) Q E s := by
  have e : (List.foldl (fun x1 x2 => x1 ++ x2) #[] (List.replicate (if vs.toArray.isEmpty = true then 0 else x.toNat) vs.toArray)) = (List.replicate x.toNat vs).flatten.toArray := by
    rw [PyProof.Rows.listMul_foldl]
    cases vs with
    | nil => simp
    | cons v r => simp
  refine wpAny_binaryOp_repeat_ref (T := "list") (U := "int") (by decide) ⟨_, hl, rfl⟩ (fun s' => typeIs_int s' x u) noFill_list_mul F.fills_int_mul F.slot_int_rmul repeat_list F.slot_int_index.lookup
    (call_meets F.slot_int_rmul (typeIs_int s x u) F.entry_int_rmul (F.args_int_rmul_2 _ _) (int___rmul___int_list x u l vs.toArray k)
      ⟨hl, rfl, ⟨_, hl, rfl⟩, call_meets F.slot_list_mul ⟨_, hl, rfl⟩ F.entry_list_mul (F.args_list_mul_2 _ _)
        (AutoListH.list___mul___list_int_3 l vs.toArray k x u (by simp [Builtin.List.listFitsIndex]; omega) (by simp; omega) (by simp [Builtin.List.listTooLong, sizeLine]; omega))
        ⟨hl, ?_⟩⟩)
  rw [e]; exact h

theorem list_add {l b : Addr} {vs ws : List Value} {n m : Nat} {E : Value → Shared → Prop} {Q : Value → Shared → Prop}
    (hl : s.heap.get? l = some (lstO vs n)) (hb : s.heap.get? b = some (lstO ws m)) (hsz : vs.length + ws.length ≤ 2 ^ 20)
    (h : Q (.ref s.heap.objs.size) { s with heap := s.heap.push (lstO (vs ++ ws) 0) }) :
    wpAny (model prog w) A (binaryOp .Add (.ref l) (.ref b)) Q E s := by
  have e : vs.toArray ++ ws.toArray = (vs ++ ws).toArray := by simp
  refine P.add_list (items := vs.toArray) (items2 := ws.toArray) hl hb ?_ (by simp [sizeLine_eq]; omega)
  rw [e]; exact h

theorem RepAll.flatten_replicate {h : Heap} {Hd : List Addr} {vs : List Value} {xs : List PyData} (r : RepAll h Hd vs xs) : ∀ k, RepAll h Hd (List.replicate k vs).flatten (List.replicate k xs).flatten
  | 0 => .nil
  | k + 1 => by rw [List.replicate_succ, List.replicate_succ, List.flatten_cons, List.flatten_cons]; exact r.append (RepAll.flatten_replicate r k)

theorem arI_inv {f : Int → Int → Option PyData} {a b d : PyData} (e : arI f a b = some d) : ∃ i j, a = .int i ∧ b = .int j ∧ f i j = some d := by
  cases a <;> first | cases e | skip
  cases b <;> first | cases e | exact ⟨_, _, rfl, rfl, e⟩
set_option tactic.hygienic true in
theorem addD_inv {a b d : PyData} (e : addD a b = some d) : (∃ i j, a = .int i ∧ b = .int j ∧ d = .int (i + j)) ∨ ∃ xs ys, a = .list xs ∧ b = .list ys ∧ xs.length + ys.length ≤ 2 ^ 20 ∧ d = .list (xs ++ ys) := by
  cases a <;> first | cases e | skip
  · cases b <;> first | cases e | skip
    exact .inl ⟨_, _, rfl, rfl, rfl⟩
  · cases b <;> first | cases e | skip
    rename_i xs ys
    replace e : (if xs.length + ys.length ≤ 2 ^ 20 then some (PyData.list (xs ++ ys)) else none) = some d := e
    by_cases h : xs.length + ys.length ≤ 2 ^ 20
    · rw [if_pos h] at e; cases e; exact .inr ⟨_, _, rfl, rfl, h, rfl⟩
    · rw [if_neg h] at e; cases e
set_option tactic.hygienic true in
theorem mulD_inv {a b d : PyData} (e : mulD a b = some d) : (∃ i j, a = .int i ∧ b = .int j ∧ small i = true ∧ small j = true ∧ d = .int (i * j)) ∨ ∃ xs j, a = .list xs ∧ b = .int j ∧ xs.length * j.toNat ≤ 2 ^ 20 ∧ j.natAbs ≤ 2 ^ 20 ∧ d = .list (List.replicate j.toNat xs).flatten := by
  cases b <;> first | cases e | skip
  cases a <;> first | cases e | skip
  · rename_i j i
    replace e : (if small i && small j then some (PyData.int (i * j)) else none) = some d := e
    by_cases h : (small i && small j) = true
    · rw [if_pos h] at e; cases e; exact .inl ⟨_, _, rfl, rfl, (Bool.and_eq_true_iff.mp h).1, (Bool.and_eq_true_iff.mp h).2, rfl⟩
    · rw [if_neg h] at e; cases e
  · rename_i j xs
    replace e : (if xs.length * j.toNat ≤ 2 ^ 20 ∧ j.natAbs ≤ 2 ^ 20 then some (PyData.list (List.replicate j.toNat xs).flatten) else none) = some d := e
    by_cases h : xs.length * j.toNat ≤ 2 ^ 20 ∧ j.natAbs ≤ 2 ^ 20
    · rw [if_pos h] at e; cases e; exact .inr ⟨_, _, rfl, rfl, h.1, h.2, rfl⟩
    · rw [if_neg h] at e; cases e

theorem arith_ok {op : Operator} {a b d : PyData} {va vb : Value} (hb : ∀ b ∈ Hd, b < s.heap.objs.size) (e : arith op a b = some d) (ra : BRep s.heap Hd va a) (rb : BRep s.heap Hd vb b) :
    wpAny (model prog w) A (binaryOp op va vb) (Ends s Hd d) NoE s := by
  cases op <;> first | cases e | skip
  · rcases addD_inv e with ⟨i, j, rfl, rfl, rfl⟩ | ⟨xs, ys, rfl, rfl, hs, rfl⟩
    · obtain ⟨t, rfl⟩ := ra.int_inv
      obtain ⟨u, rfl⟩ := rb.int_inv
      exact PyProof.Rows.add_int (ends_toks (.int _ _))
    · obtain ⟨x, vs, n, rfl, hx, rx⟩ := ra.list_inv
      obtain ⟨y, ws, m, rfl, hy, ry⟩ := rb.list_inv
      exact list_add hx hy (by rw [rx.length, ry.length]; exact hs) (ends_push hb (rx.append ry))
  · obtain ⟨i, j, rfl, rfl, e⟩ := arI_inv e
    obtain ⟨t, rfl⟩ := ra.int_inv
    obtain ⟨u, rfl⟩ := rb.int_inv
    cases e
    exact PyProof.Rows.sub_int (ends_toks (.int _ _))
  · rcases mulD_inv e with ⟨i, j, rfl, rfl, h1, h2, rfl⟩ | ⟨xs, j, rfl, rfl, h1, h2, rfl⟩
    · obtain ⟨t, rfl⟩ := ra.int_inv
      obtain ⟨u, rfl⟩ := rb.int_inv
      simp only [small, decide_eq_true_eq] at h1 h2
      exact PyProof.Rows.mul_int (ends_toks (.int _ _)) (IntMulOk.of_left (intBits_le_64 (by omega) (by omega)))
    · obtain ⟨x, vs, n, rfl, hx, rx⟩ := ra.list_inv
      obtain ⟨u, rfl⟩ := rb.int_inv
      exact list_mul hx h2 (by rw [rx.length]; exact h1) (ends_push hb (rx.flatten_replicate _))
  · obtain ⟨i, j, rfl, rfl, e'⟩ := arI_inv e
    obtain ⟨t, rfl⟩ := ra.int_inv
    obtain ⟨u, rfl⟩ := rb.int_inv
    by_cases hs : j = 0
    · rw [if_pos hs] at e'; cases e'
    · rw [if_neg hs] at e'; cases e'
      exact PyProof.Rows.mod_int' hs (ends_toks (.int _ _))
  · obtain ⟨i, j, rfl, rfl, e'⟩ := arI_inv e
    obtain ⟨t, rfl⟩ := ra.int_inv
    obtain ⟨u, rfl⟩ := rb.int_inv
    by_cases hs : j ≠ 0 ∧ j.natAbs < 1073741824
    · rw [if_pos hs] at e'; cases e'
      exact PyProof.Rows.floordiv_int hs.1 (ends_toks (.int _ _)) (.inl (PyProof.noPylong_small hs.2))
    · rw [if_neg hs] at e'; cases e'

theorem isNone_of {h : Heap} {v : Value} {a : PyData} (r : BRep h Hd v a) : (v == Value.none) = isNone a := by
  cases a with
  | none => rw [r.none_inv]; rfl
  | bool b => rw [r.bool_inv]; rfl
  | int i => obtain ⟨t, rfl⟩ := r.int_inv; rfl
  | list xs => obtain ⟨x, vs, n, rfl, _⟩ := r.list_inv; rfl
  | tuple xs => obtain ⟨x, vs, n, rfl, _⟩ := r.tuple_inv; rfl
  | str x => cases r.rep fun _ e => by cases e
  | dict x => cases r.rep fun _ e => by cases e

theorem cmpI_inv {f : Int → Int → Bool} {a b : PyData} {c : Bool} (e : cmpI f a b = some c) : ∃ i j, a = .int i ∧ b = .int j ∧ f i j = c := by
  cases a <;> first | cases e | skip
  cases b <;> first | exact ⟨_, _, rfl, rfl, Option.some.inj e⟩ | cases e
set_option tactic.hygienic true in
theorem eqD_inv {a b : PyData} {c : Bool} (e : eqD a b = some c) : SeqAt.shaped a = true ∧ SeqAt.shaped b = true ∧ c = PyData.eqv a b := by
  cases a <;> first | cases e | skip
  · cases b <;> first | cases e | skip
    exact ⟨rfl, rfl, rfl⟩
  · cases b <;> first | cases e | skip
    exact ⟨rfl, rfl, rfl⟩
  · cases b <;> first | cases e | skip
    rename_i xs ys
    replace e : (if SeqAt.shaped (.list xs) && SeqAt.shaped (.list ys) then some (PyData.eqv (.list xs) (.list ys)) else none) = some c := e
    by_cases h : (SeqAt.shaped (.list xs) && SeqAt.shaped (.list ys)) = true
    · rw [if_pos h] at e; cases e; exact ⟨(Bool.and_eq_true_iff.mp h).1, (Bool.and_eq_true_iff.mp h).2, rfl⟩
    · rw [if_neg h] at e; cases e
theorem isD_inv {a b : PyData} {c : Bool} (e : isD a b = some c) : (b = .none ∧ c = isNone a) ∨ ∃ i j, a = .bool i ∧ b = .bool j ∧ c = (i == j) := by
  cases b <;> first | cases e | skip
  · exact .inl ⟨rfl, rfl⟩
  · cases a <;> first | cases e | skip
    exact .inr ⟨_, _, rfl, rfl, rfl⟩

theorem compare_ok {op : CmpOp} {a b : PyData} {c : Bool} {va vb : Value} {Q : Value → Shared → Prop} {E : Value → Shared → Prop} (hu : A.units + 64 < cLine) (e : compare op a b = some c) (ra : BRep s.heap Hd va a) (rb : BRep s.heap Hd vb b)
    (hQ : Q (.bool c) s) : wpAny (model prog w) A (compareOp op va vb) Q E s := by
  cases op with
  | Eq =>
    obtain ⟨h1, h2, rfl⟩ := eqD_inv e
    obtain ⟨as, qa⟩ := ra.reads; obtain ⟨bs, qb⟩ := rb.reads
    exact PyProof.Rows.eq_dataH qa qb h1 h2 hu hQ
  | NotEq =>
    obtain ⟨b', h, rfl⟩ := Option.map_eq_some_iff.mp e
    obtain ⟨h1, h2, rfl⟩ := eqD_inv h
    obtain ⟨as, qa⟩ := ra.reads; obtain ⟨bs, qb⟩ := rb.reads
    exact PyProof.Rows.ne_dataH qa qb h1 h2 hu hQ
  | Is =>
    rcases isD_inv e with ⟨rfl, rfl⟩ | ⟨i, j, rfl, rfl, rfl⟩
    · rw [rb.none_inv]
      refine PyProof.Rows.is_none_gen ?_
      rw [isNone_of ra]; exact hQ
    · rw [ra.bool_inv, rb.bool_inv]
      exact wpAny_is_plain rfl (by cases i <;> cases j <;> exact hQ)
  | IsNot =>
    obtain ⟨b', h, rfl⟩ := Option.map_eq_some_iff.mp e
    rcases isD_inv h with ⟨rfl, rfl⟩ | ⟨i, j, rfl, rfl, rfl⟩
    · rw [rb.none_inv]
      have hp : plainIs va Value.none = true := by
        cases va with
        | builtin id =>
          exfalso
          rcases ra with r | ⟨_, _, _, _, h, _⟩
          · cases r
          · cases h
        | _ => rfl
      refine wpAny_isNot_plain hp ?_
      rw [isNone_of ra]; exact hQ
    · rw [ra.bool_inv, rb.bool_inv]
      exact wpAny_isNot_plain rfl (by cases i <;> cases j <;> exact hQ)
  | In => cases e
  | NotIn => cases e
  | Lt =>
    obtain ⟨i, j, rfl, rfl, rfl⟩ := cmpI_inv e
    obtain ⟨t, rfl⟩ := ra.int_inv
    obtain ⟨u, rfl⟩ := rb.int_inv
    exact PyProof.Rows.lt_int hQ
  | LtE =>
    obtain ⟨i, j, rfl, rfl, rfl⟩ := cmpI_inv e
    obtain ⟨t, rfl⟩ := ra.int_inv
    obtain ⟨u, rfl⟩ := rb.int_inv
    exact PyProof.Rows.le_int hQ
  | Gt =>
    obtain ⟨i, j, rfl, rfl, rfl⟩ := cmpI_inv e
    obtain ⟨t, rfl⟩ := ra.int_inv
    obtain ⟨u, rfl⟩ := rb.int_inv
    exact PyProof.Rows.gt_int hQ
  | GtE =>
    obtain ⟨i, j, rfl, rfl, rfl⟩ := cmpI_inv e
    obtain ⟨t, rfl⟩ := ra.int_inv
    obtain ⟨u, rfl⟩ := rb.int_inv
    exact PyProof.Rows.ge_int hQ
end
end Mine

namespace Mine
open PySem

theorem intsOf_are : ∀ {ds : List PyData} {ns : List Int} {h : Heap} {Hd : List Addr} {vs : List Value}, intsOf ds = some ns → RepAll h Hd vs ds → PyProof.Rows.IntsAre vs ns
  | [], ns, h, Hd, vs, e, r => by
    simp [intsOf] at e; subst e
    rw [r.nil_inv]; exact .nil
  | d :: ds, ns, h, Hd, vs, e, r => by
    obtain ⟨v, ws, rfl, r1, r2⟩ := r.cons_inv
    cases d with
    | int i =>
      simp only [intsOf, intOf, Option.bind_some] at e
      cases e2 : intsOf ds with
      | none => rw [e2] at e; cases e
      | some ms =>
        rw [e2] at e; simp at e; subst e
        obtain ⟨t, rfl⟩ := r1.int_inv
        exact .cons _ _ (intsOf_are e2 r2)
    | _ => simp [intsOf, intOf] at e
theorem intsOf_eq : ∀ {ds : List PyData} {ns : List Int}, intsOf ds = some ns → ds = ns.map .int
  | [], ns, e => by simp [intsOf] at e; subst e; rfl
  | d :: ds, ns, e => by
    cases d with
    | int i =>
      simp only [intsOf, intOf, Option.bind_some] at e
      cases e2 : intsOf ds with
      | none => rw [e2] at e; cases e
      | some ms =>
        rw [e2] at e; simp at e; subst e
        rw [intsOf_eq e2]; rfl
    | _ => simp [intsOf, intOf] at e
theorem repAll_ints {h : Heap} {Hd : List Addr} : ∀ {vs : List Value} {ns : List Int}, PyProof.Rows.IntsAre vs ns → RepAll h Hd vs (ns.map .int)
  | _, _, .nil => .nil
  | _, _, .cons n t r => .cons (.int n t) (repAll_ints r)

theorem minL_le : ∀ (a : Int) (r : List Int), minL a r ≤ a ∧ ∀ x ∈ r, minL a r ≤ x
  | a, [] => ⟨Int.le_refl _, by simp⟩
  | a, b :: r => by
    have h := minL_le (if b < a then b else a) r
    unfold minL
    constructor
    · refine Int.le_trans h.1 ?_; split <;> omega
    · intro x hx
      rcases List.mem_cons.mp hx with rfl | hx
      · refine Int.le_trans h.1 ?_; split <;> omega
      · exact h.2 x hx
theorem minL_mem : ∀ (a : Int) (r : List Int), minL a r ∈ a :: r
  | a, [] => by simp [minL]
  | a, b :: r => by
    unfold minL
    have h := minL_mem (if b < a then b else a) r
    rcases List.mem_cons.mp h with h | h
    · rw [h]; split <;> simp
    · simp [h]

section
variable {prog : Program} {w : World} {A : Around} {s : Shared} {Hd : List Addr}

theorem min_ok {l : Addr} {vs : List Value} {n : Nat} {a : Int} {r : List Int} (hh : A.handled = none) (hl : s.heap.get? l = some (lstO vs n)) (hi : PyProof.Rows.IntsAre vs (a :: r)) :
    wpAny (model prog w) A (call (.builtin "min") [.ref l]) (Ends s Hd (.int (minL a r))) NoE s := by
  obtain ⟨xs, e⟩ := PyProof.Rows.IntsAre.allInts hi |>.items
  have hns : (a :: r) = xs.toList.map (·.1) := by
    rw [← PyProof.Rows.IntsAre.numsOf hi, ← nums_intItems, ← e]
  have hsz : 0 < xs.size := by
    have h3 : (a :: r).length = (xs.toList.map (·.1)).length := by rw [hns]
    have h4 : (xs.toList.map (·.1)).length = xs.size := by rw [List.length_map, Array.length_toList]
    rw [h4] at h3
    rw [← h3]; exact Nat.succ_pos _
  have hl' := lst_isList hl
  rw [e] at hl'
  refine min_intList hh hl' hsz fun v h' tk hv hk => ?_
  obtain ⟨t, rfl⟩ := intItems_at hv
  obtain ⟨h1, h2⟩ := argBest_lt (numAt xs) (xs.size - 1)
  have hm : numAt xs (argBest (fun i j => decide (numAt xs i < numAt xs j)) (xs.size - 1)) = minL a r := by
    apply Int.le_antisymm
    · have hmem := minL_mem a r
      rw [hns] at hmem
      obtain ⟨j, hj, e2⟩ := mem_getD hmem
      rw [← e2]
      rw [List.length_map, Array.length_toList] at hj
      rw [← numAt_eq]; exact h2 j (by omega)
    · have h3 := minL_le a r
      have hmem : numAt xs (argBest (fun i j => decide (numAt xs i < numAt xs j)) (xs.size - 1)) ∈ (a :: r) := by
        rw [hns, numAt_eq]; exact getD_mem (by rw [List.length_map, Array.length_toList]; omega)
      rcases List.mem_cons.mp hmem with h4 | h4
      · rw [h4]; exact h3.1
      · exact h3.2 _ h4
  rw [hm]
  exact ⟨keeps_heap hk, .int _ _⟩

theorem placeIn_seq {i : Int} {n k : Nat} (e : placeIn i n = some k) : seqIndex? i n = some k ∧ k < n ∧ -(n : Int) ≤ i ∧ i < n := by
  unfold placeIn at e
  unfold seqIndex?
  by_cases h0 : 0 ≤ i
  · rw [if_pos h0] at e
    split at e
    · rename_i h1
      simp at e; subst e
      have : ¬ i < 0 := by omega
      simp only [this, if_false]
      refine ⟨?_, by omega, by omega, h1⟩
      rw [if_pos (by simp only [Bool.and_eq_true, decide_eq_true_eq]; omega)]
    · cases e
  · rw [if_neg h0] at e
    split at e
    · rename_i h1
      simp at e; subst e
      have : i < 0 := by omega
      simp only [this, if_true]
      refine ⟨?_, by omega, h1, by omega⟩
      rw [if_pos (by simp only [Bool.and_eq_true, decide_eq_true_eq]; omega)]
    · cases e

set_option tactic.hygienic true in
theorem getItem_ok {v : Value} {d r : PyData} {i : Int} {t : Tok} (e : itemOf d i = some r) (rd : BRep s.heap Hd v d) :
    (∃ T id, s.TypeIs v T ∧ typeLookup (.type T) "__getitem__" = pure (some (.builtin id))) ∧ ∀ (Q : Value → Shared → Prop) (E : Value → Shared → Prop), (∀ x, Rep s.heap Hd x r → Q x s) → wpAny (model prog w) A (getItem v (.int i t)) Q E s := by
  unfold itemOf at e
  split at e
  · rename_i xs
    split at e
    · rename_i hs
      cases hp : placeIn i xs.length with
      | none => rw [hp] at e; cases e
      | some k =>
        rw [hp, Option.bind_some] at e
        obtain ⟨hseq, hk, hlo, hhi⟩ := placeIn_seq hp
        obtain ⟨a, vs, n, rfl, hg, hr⟩ := rd.list_inv
        obtain ⟨x, hx, rx⟩ := hr.get e
        refine ⟨⟨_, _, (lst_isList hg).typeIs, slot_list_getitem.lookup⟩, fun Q E hQ => ?_⟩
        unfold placeIn at hp
        have hlen := hr.length
        by_cases h0 : 0 ≤ i
        · rw [if_pos h0, if_pos hhi] at hp
          simp at hp; subst hp
          exact wpAny_getItem_list (lst_isList hg) h0 (by omega) (by simpa using hx) (hQ x rx)
        · rw [if_neg h0, if_pos hlo] at hp
          simp at hp; subst hp
          refine wpAny_getItem_list_neg (lst_isList hg) (by omega) (by simp; omega) (by omega) ?_ (hQ x rx)
          simpa [hlen] using hx
    · cases e
  · rename_i xs
    split at e
    · rename_i hs
      cases hp : placeIn i xs.length with
      | none => rw [hp] at e; cases e
      | some k =>
        rw [hp, Option.bind_some] at e
        obtain ⟨hseq, hk, hlo, hhi⟩ := placeIn_seq hp
        obtain ⟨a, vs, n, rfl, hg, _, hr⟩ := rd.tuple_inv
        obtain ⟨x, hx, rx⟩ := hr.get e
        have ht : PyProof.Rows.IsTup s.heap a vs.toArray := ⟨_, hg, rfl, n, rfl⟩
        have hlen := hr.length
        refine ⟨⟨_, _, ht.typeIs, PyProof.Rows.slot_tuple_getitem.lookup⟩, fun Q E hQ => ?_⟩
        exact PyProof.Rows.getItem_tuple ht (by omega) (by omega) (by simpa [hlen] using hseq) (by simpa using hx) (hQ x rx)
    · cases e
  · cases e

theorem subscripted_plain {i : Expr} (hi : ∀ a b c p, i ≠ .Slice a b c p) (o v : Value) : subscripted i false o v = operate [o, v] (getItem o v) := by
  cases i <;> first | rfl | exact absurd rfl (hi _ _ _ _)

theorem index_ok {value slice : Expr} {v : Value} {d r : PyData} {i : Int} {t : Tok} (hi : ∀ a b c p, slice ≠ .Slice a b c p) (e : itemOf d i = some r) (rd : BRep s.heap Hd v d) :
    wpAny (model prog w) A (PyProof.Rows.subscriptTail value slice v (.int i t)) (Ends s Hd r) NoE s := by
  obtain ⟨⟨T, id, h1, h2⟩, h3⟩ := getItem_ok (prog := prog) (w := w) (A := A) (t := t) e rd
  exact PyProof.Rows.tail_any h1 h2 (h3 _ _ fun x rx => ends_here rx) (subscripted_plain hi _ _)

/-- a slice's bounds as values -/
noncomputable def BoundRep (v : Value) : Option Int → Prop
  | none => v = .none
  | some i => ∃ t, v = .int i t
theorem BoundRep.part {v : Value} {o : Option Int} (h : BoundRep v o) : IsPart v o := by
  cases o with
  | none => cases h; exact .none
  | some i => obtain ⟨t, rfl⟩ := h; exact .int _ _

set_option tactic.hygienic true in
theorem cut_pick {vs : List Value} {xs : List PyData} {lo hi : Option Int} {d : PyData} {h : Heap} (e : cut xs lo hi = some d) (r : RepAll h Hd vs xs) :
    ∃ ws ys, slicePick vs.toArray lo hi none = List.toArray ws ∧ d = .list ys ∧ RepAll h Hd ws ys ∧ xs.length ≤ 2 ^ 20 := by
  unfold cut at e
  split at e
  · rename_i hs
    split at e
    · cases e
      exact ⟨vs, xs, slicePick_all _, rfl, r, hs⟩
    · split at e
      · rename_i a h0
        cases e
        refine ⟨vs.drop a.toNat, xs.drop a.toNat, ?_, rfl, r.drop _, hs⟩
        have ea : a = ((a.toNat : Nat) : Int) := by omega
        rw [ea, slicePick_from', Int.toNat_natCast]
      · cases e
    · split at e
      · rename_i a h0
        cases e
        refine ⟨vs.take a.toNat, xs.take a.toNat, ?_, rfl, r.take _, hs⟩
        have ea : a = ((a.toNat : Nat) : Int) := by omega
        rw [ea, slicePick_upto', Int.toNat_natCast]
      · cases e
    · split at e
      · rename_i a b h0
        cases e
        refine ⟨(vs.drop a.toNat).take (b.toNat - a.toNat), (xs.drop a.toNat).take (b.toNat - a.toNat), ?_, rfl, (r.drop _).take _, hs⟩
        have ea : a = ((a.toNat : Nat) : Int) := by omega
        have eb : b = ((b.toNat : Nat) : Int) := by omega
        have hl := r.length
        rw [ea, eb, slicePick_run _ _ _ (by simp; omega) (by omega), Int.toNat_natCast, Int.toNat_natCast]
      · cases e
  · cases e

theorem slice_ok {value slice : Expr} {v lov hiv stv : Value} {xs : List PyData} {lo hi st : Option Int} {ws : List Value} {ys : List PyData} {ops : List Value} (hb : ∀ b ∈ Hd, b < s.heap.objs.size)
    (rd : BRep s.heap Hd v (.list xs)) (hl : IsPart lov lo) (hh : IsPart hiv hi) (hst : IsPart stv st) (h0 : st ≠ some 0) (hsz : xs.length ≤ 2 ^ 20)
    (hp : ∀ vs, RepAll s.heap Hd vs xs → ∃ ws, slicePick vs.toArray lo hi st = List.toArray ws ∧ RepAll s.heap Hd ws ys)
    (hs : ∀ o i, ∃ ops, subscripted slice false o i = operate ops (getItem o i)) :
    wpAny (model prog w) A (PyProof.Rows.subscriptTail value slice v (.ref s.heap.objs.size)) (Ends s Hd (.list ys)) NoE { s with heap := s.heap.push { cls := .type "slice", data := .fields #[lov, hiv, stv] } } := by
  obtain ⟨a, vs, n, rfl, hg, hr⟩ := rd.list_inv
  obtain ⟨ws, e, rw'⟩ := hp vs hr
  have hg' : (s.heap.push { cls := .type "slice", data := .fields #[lov, hiv, stv] }).get? a = some (lstO vs n) := Heap.get?_push_of_some _ hg
  have hlen := hr.length
  obtain ⟨ops, hops⟩ := hs (.ref a) (.ref s.heap.objs.size)
  refine PyProof.Rows.tail_any (lst_isList hg').typeIs slot_list_getitem.lookup (wpAny_getItem_list_slice (lst_isList hg') (Heap.IsSliceOf.new ..) hl hh hst h0 ?_ (by simp [sizeLine_eq]; omega)) hops
  rw [e]
  have h1 := ends_push (s := { s with heap := s.heap.push { cls := .type "slice", data := .fields #[lov, hiv, stv] } }) (Hd := Hd) (fun b hb' => by rw [Heap.size_push]; exact Nat.lt_succ_of_lt (hb b hb')) (rw'.keeps fun _ _ e => Heap.get?_push_of_some _ e)
  exact h1.after (keeps_push s _ _)

theorem sorted_ints_ok {l : Addr} {vs : List Value} {n : Nat} {ns : List Int} (hb : ∀ b ∈ Hd, b < s.heap.objs.size) (hl : s.heap.get? l = some (lstO vs n)) (hi : PyProof.Rows.IntsAre vs ns) (h64 : vs.length < 64) :
    wpAny (model prog w) A (call (.builtin "sorted") [.ref l]) (fun v s' => ∃ ms : List Int, ms.Perm ns ∧ ms.Pairwise (· ≤ ·) ∧ Ends s Hd (.list (ms.map .int)) v s') NoE s := by
  refine PyProof.Rows.sorted_ints (lst_isList hl) hi h64 fun out ns' a1 a2 a3 => ?_
  obtain ⟨e, he⟩ := PyProof.Rows.sortedAll_at s.heap vs out
  refine ⟨ns', a2, a3, keeps_heap fun b o => PyProof.Rows.sortedAll_old, ?_⟩
  refine .list (vs := out.toList) (n := e) (by simpa [PyProof.Rows.seqObj] using he) (fun hm => ?_) (repAll_ints a1)
  exact absurd (hb _ hm) (Nat.not_lt.mpr (Nat.le_succ _))
end
end Mine

namespace Mine
open PySem

inductive BAll (h : Heap) (Hd : List Addr) : List Value → List PyData → Prop
  | nil : BAll h Hd [] []
  | cons {v : Value} {vs : List Value} {d : PyData} {ds : List PyData} : BRep h Hd v d → BAll h Hd vs ds → BAll h Hd (v :: vs) (d :: ds)
theorem BAll.keeps {h h' : Heap} {Hd : List Addr} (hk : ∀ b o, h.get? b = some o → h'.get? b = some o) : ∀ {vs : List Value} {ds : List PyData}, BAll h Hd vs ds → BAll h' Hd vs ds
  | _, _, .nil => .nil
  | _, _, .cons r s => .cons (r.keeps hk) (s.keeps hk)
theorem BAll.one_inv {h : Heap} {Hd : List Addr} {vs : List Value} {d : PyData} (r : BAll h Hd vs [d]) : ∃ v, vs = [v] ∧ BRep h Hd v d := by
  cases r with | cons a b => cases b; exact ⟨_, rfl, a⟩
theorem BAll.two_inv {h : Heap} {Hd : List Addr} {vs : List Value} {d e : PyData} (r : BAll h Hd vs [d, e]) : ∃ v u, vs = [v, u] ∧ BRep h Hd v d ∧ BRep h Hd u e := by
  cases r with | cons a b => cases b with | cons b c => cases c; exact ⟨_, _, rfl, a, b⟩
theorem BAll.three_inv {h : Heap} {Hd : List Addr} {vs : List Value} {d e f : PyData} (r : BAll h Hd vs [d, e, f]) : ∃ v u t, vs = [v, u, t] ∧ BRep h Hd v d ∧ BRep h Hd u e ∧ BRep h Hd t f := by
  cases r with | cons a b => cases b with | cons b c => cases c with | cons c d => cases d; exact ⟨_, _, _, rfl, a, b, c⟩
theorem RepAll.toB {h : Heap} {Hd : List Addr} : ∀ {vs : List Value} {ds : List PyData}, RepAll h Hd vs ds → BAll h Hd vs ds
  | _, _, .nil => .nil
  | _, _, .cons r s => .cons (.inl r) s.toB

theorem insI_perm (i : Int) : ∀ l, (insI i l).Perm (i :: l)
  | [] => .refl _
  | j :: r => by
    unfold insI
    split
    · exact .refl _
    · exact ((insI_perm i r).cons j).trans (.swap _ _ _)
theorem sortI_perm : ∀ l, (sortI l).Perm l
  | [] => .refl _
  | i :: r => (insI_perm i _).trans ((sortI_perm r).cons i)
theorem insI_sorted (i : Int) : ∀ l : List Int, l.Pairwise (· ≤ ·) → (insI i l).Pairwise (· ≤ ·)
  | [], _ => by simp [insI]
  | j :: r, h => by
    have h' := List.pairwise_cons.mp h
    unfold insI
    split
    · rename_i hij
      refine List.pairwise_cons.mpr ⟨fun x hx => ?_, h⟩
      rcases List.mem_cons.mp hx with rfl | hx
      · exact hij
      · exact Int.le_trans hij (h'.1 x hx)
    · rename_i hij
      refine List.pairwise_cons.mpr ⟨fun x hx => ?_, insI_sorted i r h'.2⟩
      rcases List.mem_cons.mp ((insI_perm i r).mem_iff.mp hx) with rfl | hx
      · omega
      · exact h'.1 x hx
theorem sortI_sorted : ∀ l, (sortI l).Pairwise (· ≤ ·)
  | [] => .nil
  | i :: r => insI_sorted i _ (sortI_sorted r)
theorem sortI_unique {ms ns : List Int} (hp : ms.Perm ns) (hs : ms.Pairwise (· ≤ ·)) : ms = sortI ns :=
  List.Perm.eq_of_pairwise (fun a b _ _ h1 h2 => Int.le_antisymm h1 h2) hs (sortI_sorted ns) (hp.trans (sortI_perm ns).symm)

/-- a list of tuples, each with an int of its own ahead, comes back in the ints' order -/
noncomputable def SortTup (prog : Program) (w : World) : Prop :=
  ∀ (A : Around) (s : Shared) (Hd : List Addr) (l : Addr) (vs : List Value) (n : Nat) (xs : List PyData) (fs : List Int), A.handled = none → A.units + 100 < cLine → (∀ b ∈ Hd, b < s.heap.objs.size) →
    s.heap.get? l = some (lstO vs n) → RepAll s.heap Hd vs xs → firstsOf xs = some fs → fs.Nodup → vs.length < 64 →
    wpAny (model prog w) A (call (.builtin "sorted") [.ref l]) (Ends s Hd (.list ((sortT (fs.zip xs)).map (·.2)))) NoE s

section
variable {prog : Program} {w : World} {A : Around} {s : Shared} {Hd : List Addr}

theorem call_list_ok {v : Value} {xs : List PyData} (hb : ∀ b ∈ Hd, b < s.heap.objs.size) (r : BRep s.heap Hd v (.list xs)) (hs : xs.length ≤ 2 ^ 20) :
    wpAny (model prog w) A (call (.type "list") [v]) (Ends s Hd (.list xs)) NoE s := by
  obtain ⟨a, vs, n, rfl, hg, hr⟩ := r.list_inv
  have hl := hr.length
  refine call_list_seq a (.inl rfl) hg rfl rfl (fun h' c' hk hS => ?_) (by simp [sizeLine_eq]; omega)
  exact ⟨keeps_heap hk, .list (n := c') hS (not_old hb) (hr.keeps hk)⟩

set_option tactic.hygienic true in
theorem builtin_ok (hS : SortTup prog w) {f : Str} {fv : Value} {ds : List PyData} {d : PyData} {vs : List Value} (hh : A.handled = none) (hu : A.units + 100 < cLine) (hb : ∀ b ∈ Hd, b < s.heap.objs.size)
    (hf : bootBuiltins f = some fv) (e : builtin f ds = some d) (r : BAll s.heap Hd vs ds) :
    wpAny (model prog w) A (call fv vs) (Ends s Hd d) NoE s := by
  unfold builtin at e
  split at e
  · rename_i h1
    subst h1
    have : fv = .builtin "len" := Option.some.inj (hf.symm.trans (by decide +kernel))
    subst this
    split at e
    · rename_i xs
      split at e
      · rename_i hs
        cases e
        obtain ⟨v, rfl, r1⟩ := r.one_inv
        obtain ⟨a, ws, n, rfl, hg, hr⟩ := r1.list_inv
        have hl := hr.length
        refine PyProof.Rows.len_list (lst_isList hg) (by simp; omega) ?_
        have e2 : ((ws.toArray.size : Nat) : Int) = (xs.length : Int) := by simp [hl]
        rw [e2]
        exact ends_toks (.int _ _)
      · cases e
    · cases e
  · split at e
    · rename_i h0 h1
      subst h1
      have : fv = .builtin "sorted" := Option.some.inj (hf.symm.trans (by decide +kernel))
      subst this
      split at e
      · rename_i xs
        obtain ⟨v, rfl, r1⟩ := r.one_inv
        obtain ⟨a, ws, n, rfl, hg, hr⟩ := r1.list_inv
        have hl := hr.length
        unfold sorted at e
        split at e
        · rename_i h64
          split at e
          · rename_i ns hns
            simp at e; subst e
            refine wpAny_mono (sorted_ints_ok hb hg (intsOf_are hns hr) (by omega)) (fun v s' hq => ?_) fun _ _ h => h
            obtain ⟨ms, h1, h2, h3⟩ := hq
            rw [← sortI_unique h1 h2]; exact h3
          · split at e
            · rename_i fs hfs
              split at e
              · rename_i hnd
                simp at e; subst e
                exact hS A s Hd a ws n xs fs hh hu hb hg hr hfs hnd (by omega)
              · cases e
            · cases e
        · cases e
      · cases e
    · split at e
      · rename_i h0 h00 h1
        subst h1
        have : fv = .builtin "min" := Option.some.inj (hf.symm.trans (by decide +kernel))
        subst this
        split at e
        · rename_i a b
          cases e
          obtain ⟨v, u, rfl, r1, r2⟩ := r.two_inv
          obtain ⟨t, rfl⟩ := r1.int_inv
          obtain ⟨q, rfl⟩ := r2.int_inv
          refine min_two_ints hh fun h' tk hk => ?_
          by_cases hba : b < a
          · rw [if_pos hba, if_pos hba]; exact ⟨keeps_heap hk, .int _ _⟩
          · rw [if_neg hba, if_neg hba]; exact ⟨keeps_heap hk, .int _ _⟩
        · rename_i xs
          split at e
          · split at e
            · rename_i a r' hns
              cases e
              obtain ⟨v, rfl, r1⟩ := r.one_inv
              obtain ⟨l, ws, n, rfl, hg, hr⟩ := r1.list_inv
              exact min_ok hh hg (intsOf_are hns hr)
            · cases e
          · cases e
        · cases e
      · split at e
        · rename_i h0 h00 h000 h1
          subst h1
          have : fv = .type "list" := Option.some.inj (hf.symm.trans (by decide +kernel))
          subst this
          split at e
          · rename_i xs
            split at e
            · rename_i hs
              cases e
              obtain ⟨v, rfl, r1⟩ := r.one_inv
              exact call_list_ok hb r1 hs
            · cases e
          · cases e
        · split at e
          · rename_i h0 h00 h000 h0000 h1
            subst h1
            have : fv = .type "tuple" := Option.some.inj (hf.symm.trans (by decide +kernel))
            subst this
            split at e
            · rename_i xs
              cases e
              obtain ⟨v, rfl, r1⟩ := r.one_inv
              obtain ⟨l, ws, n, rfl, hg, hn, hr⟩ := r1.tuple_inv
              exact call_tuple_same (tup_isTuple hg) (ends_here (.tuple hg hn hr))
            · cases e
          · cases e
end
end Mine

namespace Mine
open PySem

theorem kindIn_lookup (x : Str) : ∀ names : List (Str × NameKind), kindIn names x = names.lookup x
  | [] => rfl
  | (y, t) :: r => by
    unfold kindIn
    rw [List.lookup_cons]
    by_cases h : x = y
    · subst h; simp
    · have : (x == y) = false := by simpa using h
      rw [if_neg h, this, kindIn_lookup x r]
theorem kindIn_mem {x : Str} {k : NameKind} : ∀ {names : List (Str × NameKind)}, kindIn names x = some k → (x, k) ∈ names
  | (y, t) :: r, h => by
    unfold kindIn at h
    split at h
    · rename_i e; cases h; subst e; exact List.mem_cons_self
    · exact List.mem_cons_of_mem _ (kindIn_mem h)

noncomputable abbrev upd (m : Str → Option Value) (x : Str) (v : Value) : Str → Option Value := fun y => if y = x then some v else m y

theorem look_put (ρ : Vars) (x : Str) (s : Slot) (y : Str) : look (put ρ x s) y = if y = x then some s else look ρ y := by
  induction ρ with
  | nil => unfold put look; split <;> rfl
  | cons p r ih =>
    obtain ⟨z, t⟩ := p
    unfold put
    by_cases h : x = z
    · rw [if_pos h]
      subst h
      unfold look
      by_cases h2 : y = x
      · rw [if_pos h2, if_pos h2]
      · rw [if_neg h2, if_neg h2]; simp [h2]
    · rw [if_neg h]
      unfold look
      by_cases h2 : y = z
      · rw [if_pos h2, if_neg (fun (e : y = x) => h (e.symm.trans h2)), if_pos h2]
      · rw [if_neg h2, ih, if_neg h2]

/-- the names of a frame, each with its value -/
structure Frame (env : Env) (h : Heap) (m : Str → Option Value) : Prop where
  fn : env.scope.kind = .function
  gl : env.globals = mainGlobals
  bl : env.builtins = builtinsNs
  ns : ∃ ml, h.Ns env.locals ml ∧ ∀ x v, m x = some v → env.kindOf x = some .local → ml x = some v
  cl : ∀ x c, env.cells.lookup x = some c → ∃ v, h.IsCell c v ∧ ∀ u, m x = some u → (env.kindOf x = some .cell ∨ env.kindOf x = some .free) → v = some u
  apart : ∀ x y c, env.cells.lookup x = some c → env.cells.lookup y = some c → x = y
  off : ∀ x c, env.cells.lookup x = some c → c ≠ env.locals
  bound : ∀ x v, m x = some v → plainName x = true ∧ (env.kindOf x = some .local ∨ ((env.kindOf x = some .cell ∨ env.kindOf x = some .free) ∧ ∃ c, env.cells.lookup x = some c))

theorem plain_debug {x : Str} (h : plainName x = true) : (x == Str.ofString "__debug__") = false := by
  unfold plainName at h
  simp only [Bool.and_eq_true, bne_iff_ne, ne_eq] at h
  simpa using h.1
theorem plain_classdict {x : Str} (h : plainName x = true) : (x == Str.ofString "__classdict__") = false := by
  unfold plainName at h
  simp only [Bool.and_eq_true, bne_iff_ne, ne_eq] at h
  simpa using h.2

section
variable {M : Model} {A : Around} {E : Value → Shared → Prop} {s : Shared} {env : Env} {m : Str → Option Value}

theorem Frame.keeps {h h' : Heap} (F : Frame env h m) (hk : ∀ b o, (b = env.locals ∨ ∃ x, env.cells.lookup x = some b) → h.get? b = some o → h'.get? b = some o) : Frame env h' m where
  fn := F.fn
  gl := F.gl
  bl := F.bl
  ns := by obtain ⟨ml, a, b⟩ := F.ns; exact ⟨ml, a.at' fun o e => hk _ o (.inl rfl) e, b⟩
  cl := fun x c hc => by obtain ⟨v, ⟨o, e, hd⟩, b⟩ := F.cl x c hc; exact ⟨v, ⟨o, hk _ o (.inr ⟨x, hc⟩) e, hd⟩, b⟩
  apart := F.apart
  off := F.off
  bound := F.bound

theorem frame_load {x : Str} {v : Value} {Q : Value → Shared → Prop} (F : Frame env s.heap m) (hx : m x = some v) (hQ : Q v s) : wpAny M A (loadName env x) Q E s := by
  obtain ⟨hp, hb⟩ := F.bound x v hx
  rcases hb with hl | ⟨hc | hf, c, hcl⟩
  · obtain ⟨ml, a, b⟩ := F.ns
    exact wpAny_loadName_local F.fn hl a (b x v hx hl) hQ
  · obtain ⟨u, hcell, b⟩ := F.cl x c hcl
    rw [b v hx (.inl hc)] at hcell
    exact wpAny_loadName_cell F.fn hc hcl hcell hQ
  · obtain ⟨u, hcell, b⟩ := F.cl x c hcl
    rw [b v hx (.inr hf)] at hcell
    exact wpAny_loadName_free F.fn hf hcl hcell hQ (plain_classdict hp)
theorem frame_name {x : Str} {pos : Pos} {v : Value} {Q : Value → Shared → Prop} (F : Frame env s.heap m) (hx : m x = some v) (hQ : Q v s) : wpAny M A (eval (.Name x pos) env) Q E s :=
  wpAny_Name (frame_load F hx hQ) (plain_debug (F.bound x v hx).1)

theorem frame_store {x : Str} {v : Value} {Q : Unit → Shared → Prop} (F : Frame env s.heap m) (hp : plainName x = true) (hk : env.kindOf x = some .local ∨ (env.kindOf x = some .cell ∧ ∃ c, env.cells.lookup x = some c))
    (h : ∀ h' tk a, (a = env.locals ∨ (env.kindOf x = some .cell ∧ env.cells.lookup x = some a)) → Heap.SameBut a s.heap h' → Frame env h' (upd m x v) → Q () { s with heap := h', toks := tk }) :
    wpAny M A (storeName env x v) Q E s := by
  rcases hk with hl | ⟨hc, c, hcl⟩
  · obtain ⟨ml, a, b⟩ := F.ns
    refine wpAny_storeName_local hl a (fun h' hn hs => h h' _ _ (.inl rfl) hs ?_) (by rw [F.fn]; rfl)
    exact { fn := F.fn, gl := F.gl, bl := F.bl, apart := F.apart, off := F.off
            ns := ⟨_, hn, fun y u hy hk => by
              by_cases e : y = x
              · subst e; simpa [upd] using hy
              · simp only [upd, if_neg e] at hy ⊢; exact b y u hy hk⟩
            cl := fun y c hc => by
              obtain ⟨u, hcell, q⟩ := F.cl y c hc
              refine ⟨u, hcell.sameBut hs (F.off y c hc), fun u' hu' hk => ?_⟩
              by_cases e : y = x
              · subst e; rw [hl] at hk; rcases hk with hk | hk <;> cases hk
              · simp only [upd, if_neg e] at hu'; exact q u' hu' hk
            bound := fun y u hy => by
              by_cases e : y = x
              · subst e; exact ⟨hp, .inl hl⟩
              · simp only [upd, if_neg e] at hy; exact F.bound y u hy }
  · obtain ⟨u, hcell, q⟩ := F.cl x c hcl
    refine wpAny_storeName_cell F.fn hc hcl hcell fun h' hn hs => h h' _ _ (.inr ⟨hc, hcl⟩) hs ?_
    exact { fn := F.fn, gl := F.gl, bl := F.bl, apart := F.apart, off := F.off
            ns := by
              obtain ⟨ml, a, b⟩ := F.ns
              refine ⟨ml, a.sameBut hs (Ne.symm (F.off x c hcl)), fun y u hy hk => ?_⟩
              by_cases e : y = x
              · subst e; rw [hc] at hk; cases hk
              · simp only [upd, if_neg e] at hy; exact b y u hy hk
            cl := fun y c' hc' => by
              by_cases e : y = x
              · subst e
                rw [hcl] at hc'; cases hc'
                exact ⟨some v, hn, fun u' hu' _ => by simpa [upd] using hu'⟩
              · obtain ⟨u, hcell, q⟩ := F.cl y c' hc'
                refine ⟨u, hcell.sameBut hs (fun e' => e (F.apart y x c (e' ▸ hc') hcl)), fun u' hu' hk => ?_⟩
                simp only [upd, if_neg e] at hu'; exact q u' hu' hk
            bound := fun y u hy => by
              by_cases e : y = x
              · subst e; exact ⟨hp, .inr ⟨.inl hc, c, hcl⟩⟩
              · simp only [upd, if_neg e] at hy; exact F.bound y u hy }
end

/-- a def of the text, where it stands -/
structure FunAt (h : Heap) (a : Addr) (fn : Fn) : Prop where
  at_ : ∃ o fd, h.get? a = some o ∧ o.data = .func fd ∧ fd.scope = fn.scope ∧ fd.body = .stmts fn.body ∧ fd.globals = mainGlobals ∧ fd.builtins = builtinsNs ∧ fd.closure = [] ∧ h.CodeRec fd.code fd.qualname ∧
    ∀ vals : List Value, vals.length = fn.params.length → bindArgs fd ⟨vals, []⟩ = pure (fn.params.zip vals)
  fnk : fn.scope.kind = .function
  co : fn.scope.isCoroutine = false
  gen : fn.scope.isGenerator = false
  names : ∀ p ∈ fn.scope.names, plainName p.1 = true
  nofree : ∀ p ∈ fn.scope.names, p.2 ≠ .free
  pars : ∀ x ∈ fn.params, kindIn fn.scope.names x = some .local ∨ kindIn fn.scope.names x = some .cell
  pnd : fn.params.Nodup

noncomputable def builtNames : List Str := [Str.ofString "len", Str.ofString "sorted", Str.ofString "min", Str.ofString "list", Str.ofString "tuple", Str.ofString "range", Str.ofString "enumerate"]

/-- what the text's own names mean -/
structure Glo (h₀ : Heap) (T : Tbl) : Prop where
  ns : ∃ mg mb, h₀.Ns mainGlobals mg ∧ h₀.Ns builtinsNs mb ∧
    (∀ f fn, fnOf T f = some fn → plainName f = true ∧ ∃ a, mg f = some (.ref a) ∧ FunAt h₀ a fn) ∧
    ∀ f ∈ builtNames, mg f = none ∧ mb f = bootBuiltins f
  limit : h₀.NoLimit

/-- a name's value as its slot says -/
noncomputable def SlotE (h : Heap) (Hd : List Addr) (v : Value) : Slot → Prop
  | .sh d => Rep h Hd v d
  | .own xs => ∃ a vs n, v = .ref a ∧ h.get? a = some (lstO vs n) ∧ RepAll h Hd vs xs
theorem SlotE.keeps {h h' : Heap} {Hd : List Addr} {v : Value} {sl : Slot} (hk : ∀ b o, h.get? b = some o → h'.get? b = some o) (x : SlotE h Hd v sl) : SlotE h' Hd v sl := by
  cases sl with
  | sh d => exact Rep.keeps hk x
  | own xs => obtain ⟨a, vs, n, e, hg, r⟩ := x; exact ⟨a, vs, n, e, hk _ _ hg, r.keeps hk⟩
theorem SlotE.borrow {h : Heap} {Hd : List Addr} {v : Value} {sl : Slot} {d : PyData} (x : SlotE h Hd v sl) (e : borrow (some sl) = some d) : BRep h Hd v d := by
  cases sl with
  | sh d' => simp [Mine.borrow] at e; subst e; exact .inl x
  | own xs => simp [Mine.borrow] at e; subst e; obtain ⟨a, vs, n, e, hg, r⟩ := x; exact .inr ⟨a, vs, n, xs, e, rfl, hg, r⟩

/-- the kinds of a block's names, as the frame bears them -/
noncomputable def KindsOk (env : Env) (sc : Scope) : Prop :=
  ∀ x k, kindIn sc.names x = some k → match k with
    | .globalImplicit => env.kindOf x = some .globalImplicit
    | .local => env.kindOf x = some .local
    | .cell => env.kindOf x = some .cell ∧ ∃ c, env.cells.lookup x = some c
    | .free => (env.kindOf x = some .cell ∨ env.kindOf x = some .free) ∧ ∃ c, env.cells.lookup x = some c
    | _ => True

structure ESt (h₀ : Heap) (env : Env) (sc : Scope) (Hd : List Addr) (h : Heap) (ρ : Vars) : Prop where
  base : ∀ b o, h₀.get? b = some o → h.get? b = some o
  low : ∀ b ∈ Hd, ∃ o, h.get? b = some o
  kinds : KindsOk env sc
  fr : ∃ m, Frame env h m ∧ ∀ x sl, look ρ x = some sl → ∃ v, m x = some v ∧ SlotE h Hd v sl

theorem ESt.lt {h₀ : Heap} {env : Env} {sc : Scope} {Hd : List Addr} {h : Heap} {ρ : Vars} (S : ESt h₀ env sc Hd h ρ) : ∀ b ∈ Hd, b < h.objs.size := fun b hb => by obtain ⟨o, e⟩ := S.low b hb; exact Heap.lt_size e
theorem ESt.keeps {h₀ : Heap} {env : Env} {sc : Scope} {Hd : List Addr} {h h' : Heap} {ρ : Vars} (hk : ∀ b o, h.get? b = some o → h'.get? b = some o) (S : ESt h₀ env sc Hd h ρ) : ESt h₀ env sc Hd h' ρ where
  base := fun b o e => hk b o (S.base b o e)
  low := fun b hb => by obtain ⟨o, e⟩ := S.low b hb; exact ⟨o, hk b o e⟩
  kinds := S.kinds
  fr := by
    obtain ⟨m, F, q⟩ := S.fr
    refine ⟨m, F.keeps fun b o _ e => hk b o e, fun x sl e => ?_⟩
    obtain ⟨v, a, b⟩ := q x sl e
    exact ⟨v, a, b.keeps hk⟩
theorem ESt.after {h₀ : Heap} {env : Env} {sc : Scope} {Hd : List Addr} {s s' : Shared} {ρ : Vars} (S : ESt h₀ env sc Hd s.heap ρ) (k : Keeps s s') : ESt h₀ env sc Hd s'.heap ρ := S.keeps (keeps_get k)
end Mine

namespace Mine
open PySem

/-- a step's value, as the loop's target takes it; the items stand in the heap hs -/
noncomputable def TargetVal (target : Expr) (hs h : Heap) (Hd : List Addr) (v : Value) (d : PyData) : Prop :=
  match target with
  | .Name _ _ => Rep hs Hd v d
  | .Tuple _ _ _ => ∃ T vals ds, v = .ref T ∧ h.IsTuple T vals ∧ d = .tuple ds ∧ RepAll hs Hd vals.toList ds
  | _ => False

/-- all stands but what lies in W -/
noncomputable def ButKeeps (W : Addr → Prop) (s s' : Shared) : Prop := ∃ h' tk, s' = { s with heap := h', toks := tk } ∧ ∀ b o, ¬ W b → s.heap.get? b = some o → h'.get? b = some o
theorem ButKeeps.get {W : Addr → Prop} {s s' : Shared} (k : ButKeeps W s s') : ∀ b o, ¬ W b → s.heap.get? b = some o → s'.heap.get? b = some o := by
  obtain ⟨h, t, rfl, k⟩ := k; exact k
theorem ButKeeps.trans {W : Addr → Prop} {s s₁ s₂ : Shared} (a : ButKeeps W s s₁) (b : ButKeeps W s₁ s₂) : ButKeeps W s s₂ := by
  obtain ⟨h, t, rfl, k⟩ := a
  obtain ⟨h', t', rfl, k'⟩ := b
  exact ⟨h', t', rfl, fun c o n e => k' c o n (k c o n e)⟩
theorem ButKeeps.of {W : Addr → Prop} {s s' : Shared} (k : Keeps s s') : ButKeeps W s s' := by
  obtain ⟨h, t, rfl, k⟩ := k; exact ⟨h, t, rfl, fun b o _ e => k b o e⟩
theorem ButKeeps.mono {W W' : Addr → Prop} {s s' : Shared} (k : ButKeeps W s s') (hw : ∀ b, W b → W' b) : ButKeeps W' s s' := by
  obtain ⟨h, t, rfl, k⟩ := k; exact ⟨h, t, rfl, fun b o n e => k b o (fun hb => n (hw b hb)) e⟩
theorem ButKeeps.same {W : Addr → Prop} {s : Shared} {h' : Heap} {tk : Nat} {a : Addr} (hs : Heap.SameBut a s.heap h') (ha : W a) : ButKeeps W s { s with heap := h', toks := tk } :=
  ⟨h', tk, rfl, fun b o n e => hs.extBut b o (fun q => n (q ▸ ha)) e⟩

structure Stepper (prog : Program) (w : World) (A : Around) (target : Expr) (it : Value) (items : List PyData) (Hd wr : List Addr) (hs : Heap) (St : Nat → Heap → Prop) : Prop where
  hid : ∀ b ∈ wr, b ∈ Hd
  alive : ∀ i h, St i h → ∀ b ∈ wr, ∃ o, h.get? b = some o
  frame : ∀ i h h', St i h → (∀ b ∈ wr, ∀ o, h.get? b = some o → h'.get? b = some o) → St i h'
  item : ∀ i d (s : Shared), items[i]? = some d → St i s.heap → (∀ b o, b ∉ Hd → hs.get? b = some o → s.heap.get? b = some o) →
    wpAny (model prog w) A (pyNext it) (fun r s₁ => ∃ v, r = some v ∧ wpAny (model prog w) A (letOwnedTupleGo target it v) (fun _ s₂ => TargetVal target hs s₂.heap Hd v d ∧ St (i + 1) s₂.heap ∧ ButKeeps (· ∈ wr) s s₂) NoE s₁) NoE s
  done : ∀ (s : Shared), St items.length s.heap → (∀ b o, b ∉ Hd → hs.get? b = some o → s.heap.get? b = some o) →
    wpAny (model prog w) A (pyNext it) (fun r s₁ => r = none ∧ ButKeeps (· ∈ wr) s s₁) NoE s
  self : ∀ i (s : Shared) (Q : Value → Shared → Prop) (E : Value → Shared → Prop), St i s.heap → Q it s → wpAny (model prog w) A (pyIter it) Q E s

/-- an iterator newly made -/
noncomputable def IterEnds (prog : Program) (w : World) (A : Around) (s : Shared) (Hd : List Addr) (target : Expr) (items : List PyData) (it : Value) (s₂ : Shared) : Prop :=
  Keeps s s₂ ∧ ∃ wr St, Stepper prog w A target it items (wr ++ Hd) wr s₂.heap St ∧ St 0 s₂.heap ∧ ∀ b ∈ wr, s.heap.get? b = none

section
variable {prog : Program} {w : World} {A : Around} {s : Shared} {Hd : List Addr}

noncomputable def isName : Expr → Bool
  | .Name _ _ => true
  | _ => false
noncomputable def isTup : Expr → Bool
  | .Tuple _ _ _ => true
  | _ => false
theorem fresh_none (s : Shared) : s.heap.get? s.heap.objs.size = none := by
  cases e : s.heap.get? s.heap.objs.size with
  | none => rfl
  | some o => exact absurd (Heap.lt_size e) (Nat.lt_irrefl _)

theorem ListIter.unique {h : Heap} {I l l' : Addr} {i j : Nat} (a : h.IsListIter I l i) (b : h.IsListIter I l' j) : l = l' := by
  obtain ⟨o, e, _, d⟩ := a
  obtain ⟨o', e', _, d'⟩ := b
  rw [e] at e'; cases e'
  rw [d] at d'
  simp at d'; exact d'.1

/-- over a list, a name for each item -/
theorem iter_list_name {target : Expr} {v : Value} {xs : List PyData} (hh : A.handled = none) (ht : isName target = true) (r : Rep s.heap Hd v (.list xs)) :
    wpAny (model prog w) A (pyIter v) (IterEnds prog w A s Hd target xs) NoE s := by
  obtain ⟨x, px, rfl⟩ : ∃ x px, target = .Name x px := by cases target <;> first | exact ⟨_, _, rfl⟩ | cases ht
  obtain ⟨a, vs, n, rfl, hg, hn, hr⟩ := r.list_inv
  have hlt : a < s.heap.objs.size := Heap.lt_size hg
  refine wpAny_pyIter_list (lst_isList hg) ⟨keeps_push s _ _, [s.heap.objs.size], fun i h => h.IsListIter s.heap.objs.size a i, ?_, ⟨_, Heap.get?_push_size _ rfl, rfl, rfl⟩, fun b hb => by rw [List.mem_singleton.mp hb]; exact fresh_none s⟩
  have hr' : RepAll (s.heap.push { cls := .type "list_iterator", data := .fields #[.ref a, .int 0 0] }) ([s.heap.objs.size] ++ Hd) vs xs :=
    hr.mono fun b o hb e => ⟨Heap.get?_push_of_some _ e, fun hm => by
      rcases List.mem_append.mp hm with h1 | h1
      · have := Heap.lt_size e; rw [List.mem_singleton.mp h1] at this; exact Nat.lt_irrefl _ this
      · exact hb h1⟩
  have hn' : a ∉ [s.heap.objs.size] ++ Hd := fun hm => by
    rcases List.mem_append.mp hm with h1 | h1
    · rw [List.mem_singleton.mp h1] at hlt; exact Nat.lt_irrefl _ hlt
    · exact hn h1
  exact {
    hid := fun b hb => List.mem_append_left _ hb
    alive := fun i h st b hb => by obtain ⟨o, e, _⟩ := st; rw [List.mem_singleton.mp hb]; exact ⟨o, e⟩
    frame := fun i h h' st hk => st.at fun o e => hk _ (by simp) o e
    item := fun i d s₁ hd st hk => by
      obtain ⟨v, hv, rv⟩ := hr'.get hd
      refine wpAny_pyNext_list_item st (lst_isList (hk a _ hn' (Heap.get?_push_of_some _ hg))) (x := v) (by simpa using hv) fun h' hit' hs' => ⟨v, rfl, wpAny_pure ⟨rv, hit', ?_⟩⟩
      exact .same (tk := s₁.toks) hs' (by simp)
    done := fun s₁ st hk => by
      refine wpAny_pyNext_list_end hh st (lst_isList (hk a _ hn' (Heap.get?_push_of_some _ hg))) (by simp [hr.length]) fun h' he' => ⟨rfl, h', s₁.toks, rfl, fun b o hb e => he' b o (fun q => hb (by simp [q])) e⟩
    self := fun i s₁ Q E st hQ => wpAny_pyIter_listiter st hQ }

/-- over a list of tuples, names for each tuple's items -/
theorem iter_list_tup {target : Expr} {v : Value} {xs : List PyData} (hh : A.handled = none) (ht : isTup target = true) (hx : ∀ d ∈ xs, ∃ ds, d = .tuple ds) (r : Rep s.heap Hd v (.list xs)) :
    wpAny (model prog w) A (pyIter v) (IterEnds prog w A s Hd target xs) NoE s := by
  obtain ⟨ts, kt, pt, rfl⟩ : ∃ ts k p, target = .Tuple ts k p := by cases target <;> first | exact ⟨_, _, _, rfl⟩ | cases ht
  obtain ⟨a, vs, n, rfl, hg, hn, hr⟩ := r.list_inv
  have hlt : a < s.heap.objs.size := Heap.lt_size hg
  refine wpAny_pyIter_list (lst_isList hg) ⟨keeps_push s _ _, [s.heap.objs.size], fun i h => h.IsListIter s.heap.objs.size a i, ?_, ⟨_, Heap.get?_push_size _ rfl, rfl, rfl⟩, fun b hb => by rw [List.mem_singleton.mp hb]; exact fresh_none s⟩
  have hr' : RepAll (s.heap.push { cls := .type "list_iterator", data := .fields #[.ref a, .int 0 0] }) ([s.heap.objs.size] ++ Hd) vs xs :=
    hr.mono fun b o hb e => ⟨Heap.get?_push_of_some _ e, fun hm => by
      rcases List.mem_append.mp hm with h1 | h1
      · have := Heap.lt_size e; rw [List.mem_singleton.mp h1] at this; exact Nat.lt_irrefl _ this
      · exact hb h1⟩
  have hn' : a ∉ [s.heap.objs.size] ++ Hd := fun hm => by
    rcases List.mem_append.mp hm with h1 | h1
    · rw [List.mem_singleton.mp h1] at hlt; exact Nat.lt_irrefl _ hlt
    · exact hn h1
  exact {
    hid := fun b hb => List.mem_append_left _ hb
    alive := fun i h st b hb => by obtain ⟨o, e, _⟩ := st; rw [List.mem_singleton.mp hb]; exact ⟨o, e⟩
    frame := fun i h h' st hk => st.at fun o e => hk _ (by simp) o e
    item := fun i d s₁ hd st hk => by
      obtain ⟨v, hv, rv⟩ := hr'.get hd
      obtain ⟨ds, rfl⟩ := hx d (List.mem_of_getElem? hd)
      obtain ⟨T, ws, k, rfl, hT, hTn, hTr⟩ := rv.tuple_inv
      have hTI : T ≠ s.heap.objs.size := fun e => hTn (by rw [e]; simp)
      have hT₁ := hk T _ hTn hT
      refine wpAny_pyNext_list_item st (lst_isList (hk a _ hn' (Heap.get?_push_of_some _ hg))) (x := .ref T) (by simpa using hv) fun h' hit' hs' => ⟨_, rfl, wpAny_letOwnedTupleGo_listiter hit' ⟨⟨T, ws.toArray, ds, rfl, tup_isTuple (hs'.extBut T _ hTI hT₁), rfl, by simpa using hTr⟩, hit', ?_⟩⟩
      exact .same (tk := s₁.toks) hs' (by simp)
    done := fun s₁ st hk => by
      refine wpAny_pyNext_list_end hh st (lst_isList (hk a _ hn' (Heap.get?_push_of_some _ hg))) (by simp [hr.length]) fun h' he' => ⟨rfl, h', s₁.toks, rfl, fun b o hb e => he' b o (fun q => hb (by simp [q])) e⟩
    self := fun i s₁ Q E st hQ => wpAny_pyIter_listiter st hQ }

/-- over a range -/
theorem iter_range {target : Expr} {v : Value} {a b c : Int} {t u x : Tok} {r : Addr} {n : Nat} (hh : A.handled = none) (ht : isName target = true) (hr : IsRange s.heap r a b c t u x)
    (hsm : Builtin.Range.small a b c = true) (hsz : Builtin.Range.rangeSize a b c = (n : Int)) :
    wpAny (model prog w) A (pyIter (.ref r)) (IterEnds prog w A s Hd target ((List.range n).map fun (k : Nat) => PyData.int (a + (k : Int) * c))) NoE s := by
  obtain ⟨y, py, rfl⟩ : ∃ x px, target = .Name x px := by cases target <;> first | exact ⟨_, _, rfl⟩ | cases ht
  refine wpAny_pyIter_range hr hsm ⟨keeps_push s _ _, [s.heap.objs.size], fun i h => IsRangeIter h s.heap.objs.size (a + (i : Nat) * c) ((n : Int) - (i : Nat)) c, ?_, ?_, fun b hb => by rw [List.mem_singleton.mp hb]; exact fresh_none s⟩
  · exact {
      hid := fun b hb => List.mem_append_left _ hb
      alive := fun i h st b hb => by rw [List.mem_singleton.mp hb]; exact ⟨_, st⟩
      frame := fun i h h' st hk => hk _ (by simp) _ st
      item := fun i d s₁ hd st hk => by
        have hi : i < n := by
          have := List.getElem?_eq_some_iff.mp hd
          obtain ⟨h1, _⟩ := this
          simpa using h1
        have hd' : d = PyData.int (a + (i : Int) * c) := by
          rw [List.getElem?_map, List.getElem?_range hi] at hd
          simpa using hd.symm
        subst hd'
        refine wpAny_pyNext_range_item st (by omega) fun h' hit' hs' => ⟨_, rfl, wpAny_pure ⟨Rep.int _ _, ?_, ?_⟩⟩
        · have e1 : (a + ((i + 1 : Nat) : Int) * c) = a + (i : Int) * c + c := by
            rw [Int.natCast_succ, Int.add_mul, Int.one_mul, Int.add_assoc]
          have e2 : ((n : Int) - ((i + 1 : Nat) : Int)) = (n : Int) - (i : Int) - 1 := by omega
          show IsRangeIter h' _ _ _ _
          rw [e1, e2]; exact hit'
        · exact .same (tk := s₁.toks + 1) hs' (by simp)
      done := fun s₁ st hk => by
        refine wpAny_pyNext_range_end hh st (by simp) fun h' he' => ⟨rfl, h', s₁.toks, rfl, fun b o hb e => he' b o (fun q => hb (by simp [q])) e⟩
      self := fun i s₁ Q E st hQ => by
        have hT : s₁.TypeIs (.ref s.heap.objs.size) "range_iterator" := ⟨_, st, rfl⟩
        exact (Walks.range (prog := prog) (w := w) (A := A) hh s.heap.objs.size a c n).self i s₁ Q E st hQ }
  · show IsRangeIter _ _ _ _ _
    have e1 : a + ((0 : Nat) : Int) * c = a := by simp
    have e2 : (n : Int) - ((0 : Nat) : Int) = Builtin.Range.rangeSize a b c := by rw [hsz]; simp
    rw [e1, e2]
    exact Heap.get?_push_size _ rfl

theorem pairsFrom_get : ∀ (k : Nat) (xs : List PyData) (i : Nat) (d : PyData), (pairsFrom k xs)[i]? = some d → ∃ x, xs[i]? = some x ∧ d = .tuple [.int ((k + i : Nat) : Int), x]
  | k, [], i, d, h => by simp [pairsFrom] at h
  | k, x :: xs, 0, d, h => by simp [pairsFrom] at h; exact ⟨x, rfl, by simpa using h.symm⟩
  | k, x :: xs, i + 1, d, h => by
    simp only [pairsFrom, List.getElem?_cons_succ] at h
    obtain ⟨y, h1, h2⟩ := pairsFrom_get (k + 1) xs i d h
    refine ⟨y, by simpa using h1, ?_⟩
    rw [h2]
    have : k + 1 + i = k + (i + 1) := by omega
    rw [this]
theorem pairsFrom_length : ∀ (k : Nat) (xs : List PyData), (pairsFrom k xs).length = xs.length
  | k, [] => rfl
  | k, x :: xs => by simp [pairsFrom, pairsFrom_length (k + 1) xs]

/-- over an enumerate object -/
theorem iter_enum {target : Expr} {e it l : Addr} {vs : List Value} {k : Nat} {xs : List PyData} {s₀ : Shared} (hh : A.handled = none) (ht : isTup target = true)
    (k₀ : Keeps s₀ s) (hfe : s₀.heap.get? e = none) (hfi : s₀.heap.get? it = none) (hei : e ≠ it)
    (he : IsEnum s.heap e it 0 .none) (hit : s.heap.IsListIter it l 0) (hl : s₀.heap.get? l = some (lstO vs k)) (hn : l ∉ Hd) (hr : RepAll s₀.heap Hd vs xs) :
    wpAny (model prog w) A (pyIter (.ref e)) (IterEnds prog w A s₀ Hd target (pairsFrom 0 xs)) NoE s := by
  obtain ⟨ts, kt, pt, rfl⟩ : ∃ ts k p, target = .Tuple ts k p := by cases target <;> first | exact ⟨_, _, _, rfl⟩ | cases ht
  have hl₁ : s.heap.get? l = some (lstO vs k) := keeps_get k₀ _ _ hl
  have hle : l ≠ e := fun q => by rw [q, hfe] at hl; cases hl
  have hli : l ≠ it := fun q => by rw [q, hfi] at hl; cases hl
  have W := WalksT.enumerate (prog := prog) (w := w) (A := A) hh e it l hei hle hli vs.toArray
  have hoff : ∀ b, b ∈ [e, it] → s₀.heap.get? b = none := fun b hb => by
    rcases List.mem_cons.mp hb with rfl | hb
    · exact hfe
    · rw [List.mem_singleton.mp hb]; exact hfi
  have hr' : RepAll s.heap ([e, it] ++ Hd) vs xs := hr.mono fun b o hb q => ⟨keeps_get k₀ _ _ q, fun hm => by
    rcases List.mem_append.mp hm with h1 | h1
    · rw [hoff b h1] at q; cases q
    · exact hb h1⟩
  have hn' : l ∉ [e, it] ++ Hd := fun hm => by
    rcases List.mem_append.mp hm with h1 | h1
    · rw [hoff l h1] at hl; cases hl
    · exact hn h1
  refine wpAny_pyIter_enum he ⟨k₀, [e, it], fun i h => (∃ old, IsEnum h e it (i : Int) old) ∧ h.IsListIter it l i, ?_, ⟨⟨_, he⟩, hit⟩, hoff⟩
  exact {
    hid := fun b hb => List.mem_append_left _ hb
    alive := fun i h st b hb => by
      obtain ⟨⟨old, q⟩, o, q2, _⟩ := st
      rcases List.mem_cons.mp hb with rfl | hb
      · exact ⟨_, q⟩
      · rw [List.mem_singleton.mp hb]; exact ⟨o, q2⟩
    frame := fun i h h' st hk => by
      obtain ⟨⟨old, q⟩, q2⟩ := st
      exact ⟨⟨old, hk _ (by simp) _ q⟩, q2.at fun o e => hk _ (by simp) o e⟩
    item := fun i d s₁ hd st hk => by
      obtain ⟨x, hx, rfl⟩ := pairsFrom_get 0 xs i d hd
      obtain ⟨v, hv, rv⟩ := hr'.get hx
      have hlen := hr.length
      have hi : i < vs.toArray.size := by
        have := (List.getElem?_eq_some_iff.mp hx).1
        simp; omega
      refine W.item i s₁ _ _ hi ⟨st.1, st.2, lst_isList (hk l _ hn' hl₁)⟩ fun T vals h' tk hP hTs hT hm hk' => ⟨_, rfl, ?_⟩
      obtain ⟨t, y, hy, rfl⟩ := hP
      have hyv : y = v := by
        have hy' : vs[i]? = some y := by simpa using hy
        rw [hv] at hy'; exact (Option.some.inj hy').symm
      subst hyv
      have hTapart := W.apart _ _ _ hm
      refine W.go ts kt pt i T _ _ _ hm fun h'' st'' hk'' => ⟨⟨T, #[.int (i : Int) t, y], _, rfl, ?_, rfl, ?_⟩, ⟨st''.1, st''.2.1⟩, ?_⟩
      · exact hT.at fun o q => hk'' T o hTapart q
      · have e0 : ((0 + i : Nat) : Int) = (i : Int) := by simp
        rw [e0]
        exact .cons (.int _ _) (.cons rv .nil)
      · exact ⟨h'', tk, rfl, fun b o hb q => hk'' b o hb (hk' b o hb q)⟩
    done := fun s₁ st hk => by
      have hlen := hr.length
      rw [pairsFrom_length, ← hlen] at st
      refine W.done s₁ _ _ (by simpa using ⟨st.1, st.2, lst_isList (hk l _ hn' hl₁)⟩) fun h' tk hk' => ⟨rfl, h', tk, rfl, fun b o hb q => hk' b o hb q⟩
    self := fun i s₁ Q E st hQ => by
      obtain ⟨⟨old, q⟩, _⟩ := st
      exact wpAny_pyIter_enum q hQ }
end
end Mine

namespace Mine
open PySem

noncomputable abbrev Bind := Str × Value × PyData
noncomputable def putAll (ρ : Vars) (bs : List Bind) : Vars := bs.foldl (fun ρ b => put ρ b.1 (.sh b.2.2)) ρ
noncomputable def updAll (m : Str → Option Value) (bs : List Bind) : Str → Option Value := bs.foldl (fun m b => upd m b.1 b.2.1) m

/-- names with their slots, each of a value that P says -/
noncomputable def SlotsOk (P : Value → Slot → Prop) (m : Str → Option Value) (ρ : Vars) : Prop := ∀ x sl, look ρ x = some sl → ∃ v, m x = some v ∧ P v sl
theorem SlotsOk.put {P : Value → Slot → Prop} {m : Str → Option Value} {ρ : Vars} (S : SlotsOk P m ρ) {x : Str} {v : Value} {sl : Slot} (h : P v sl) : SlotsOk P (upd m x v) (put ρ x sl) := fun y t e => by
  rw [look_put] at e
  by_cases q : y = x
  · rw [if_pos q] at e; cases e; exact ⟨v, by simp [upd, q], h⟩
  · rw [if_neg q] at e
    obtain ⟨u, a, b⟩ := S y t e
    exact ⟨u, by simp [upd, q, a], b⟩
theorem SlotsOk.putAll {P : Value → Slot → Prop} : ∀ {bs : List Bind} {m : Str → Option Value} {ρ : Vars}, SlotsOk P m ρ → (∀ b ∈ bs, P b.2.1 (.sh b.2.2)) → SlotsOk P (updAll m bs) (putAll ρ bs)
  | [], _, _, S, _ => S
  | b :: bs, m, ρ, S, h => SlotsOk.putAll (bs := bs) (S.put (h b List.mem_cons_self)) fun c hc => h c (List.mem_cons_of_mem _ hc)
theorem SlotsOk.mono {P P' : Value → Slot → Prop} {m : Str → Option Value} {ρ : Vars} (S : SlotsOk P m ρ) (h : ∀ v sl, P v sl → P' v sl) : SlotsOk P' m ρ := fun x sl e => by
  obtain ⟨v, a, b⟩ := S x sl e; exact ⟨v, a, h v sl b⟩

/-- where a target's names may be stored -/
noncomputable def StoreAt (env : Env) (W : Addr → Prop) (x : Str) : Prop :=
  plainName x = true ∧ (env.kindOf x = some .local ∨ (env.kindOf x = some .cell ∧ ∃ c, env.cells.lookup x = some c)) ∧ ∀ c, env.kindOf x = some .cell → env.cells.lookup x = some c → W c

section
variable {prog : Program} {w : World} {A : Around} {s : Shared} {env : Env} {m : Str → Option Value} {W : Addr → Prop} {hs : Heap} {Hd : List Addr}

theorem store_ok {x : Str} {v : Value} (F : Frame env s.heap m) (hW : W env.locals) (hx : StoreAt env W x) :
    wpAny (model prog w) A (storeName env x v) (fun _ s' => Frame env s'.heap (upd m x v) ∧ ButKeeps W s s') NoE s := by
  refine frame_store F hx.1 hx.2.1 fun h' tk a ha hsb F' => ⟨F', .same hsb ?_⟩
  rcases ha with rfl | ⟨hc, ha⟩
  · exact hW
  · exact hx.2.2 a hc ha

theorem names_ok (hW : W env.locals) : ∀ (ts : List Expr) (vs : List Value) (ds : List PyData) (m : Str → Option Value) (ρ ρ' : Vars) (s : Shared), RepAll hs Hd vs ds → bindNames ρ ts ds = some ρ' → Frame env s.heap m →
    (∀ t ∈ ts, ∀ x p, t = .Name x p → StoreAt env W x) →
    wpAny (model prog w) A (assignInOrder ((assignEach ts env).map (·.2)) vs) (fun _ s' => ∃ bs : List Bind, ρ' = putAll ρ bs ∧ (∀ b ∈ bs, Rep hs Hd b.2.1 b.2.2) ∧ Frame env s'.heap (updAll m bs) ∧ ButKeeps W s s') NoE s
  | [], vs, ds, m, ρ, ρ', s, r, e, F, hx => by
    cases ds with
    | nil =>
      simp [bindNames] at e; subst e
      rw [r.nil_inv]
      exact wpAny_pure ⟨[], rfl, by simp, F, ButKeeps.of (keeps_refl s)⟩
    | cons d ds => simp [bindNames] at e
  | t :: ts, vs, ds, m, ρ, ρ', s, r, e, F, hx => by
    cases t with
    | Name x p =>
      cases ds with
      | nil => simp [bindNames] at e
      | cons d ds =>
        simp only [bindNames] at e
        obtain ⟨v, ws, rfl, r1, r2⟩ := r.cons_inv
        show wpAny _ A (do holding ws (assign (.Name x p) env v); assignInOrder ((assignEach ts env).map (·.2)) ws) _ _ s
        refine wpAny_bind (wpAny_holding (wpAny_assign_Name (wpAny_mono (store_ok F hW (hx _ List.mem_cons_self x p rfl)) (fun _ s₁ h₁ => ?_) fun _ _ h => h)))
        obtain ⟨F₁, k₁⟩ := h₁
        refine wpAny_mono (names_ok hW ts ws ds _ _ ρ' s₁ r2 e F₁ fun t ht => hx t (List.mem_cons_of_mem _ ht)) (fun _ s₂ h₂ => ?_) fun _ _ h => h
        obtain ⟨bs, e2, hb, F₂, k₂⟩ := h₂
        refine ⟨(x, v, d) :: bs, e2, fun b hb' => ?_, F₂, k₁.trans k₂⟩
        rcases List.mem_cons.mp hb' with rfl | hb'
        · exact r1
        · exact hb b hb'
    | _ => cases ds <;> simp [bindNames] at e

theorem bindNames_names : ∀ {ts : List Expr} {ds : List PyData} {ρ ρ' : Vars}, bindNames ρ ts ds = some ρ' → ts.length = ds.length ∧ ∀ t ∈ ts, ∃ x p, t = .Name x p
  | [], ds, ρ, ρ', e => by cases ds with | nil => exact ⟨rfl, by simp⟩ | cons d ds => simp [bindNames] at e
  | t :: ts, ds, ρ, ρ', e => by
    cases t with
    | Name x p =>
      cases ds with
      | nil => simp [bindNames] at e
      | cons d ds =>
        simp only [bindNames] at e
        obtain ⟨h1, h2⟩ := bindNames_names e
        refine ⟨by simp [h1], fun t ht => ?_⟩
        rcases List.mem_cons.mp ht with rfl | ht
        · exact ⟨x, p, rfl⟩
        · exact h2 t ht
    | _ => cases ds <;> simp [bindNames] at e
theorem assignEach_names {env : Env} : ∀ {ts : List Expr}, (∀ t ∈ ts, ∃ x p, t = .Name x p) → (assignEach ts env).length = ts.length ∧ List.findIdx? (fun x : Bool × (Value → Sem Unit) => x.fst) (assignEach ts env) = none
  | [], _ => ⟨rfl, rfl⟩
  | t :: ts, h => by
    obtain ⟨x, p, rfl⟩ := h t List.mem_cons_self
    obtain ⟨h1, h2⟩ := assignEach_names (env := env) (ts := ts) fun t ht => h t (List.mem_cons_of_mem _ ht)
    have e : assignEach (.Name x p :: ts) env = (false, assign (.Name x p) env) :: assignEach ts env := rfl
    rw [e]
    refine ⟨by simp [h1], ?_⟩
    rw [List.findIdx?_cons, h2]; rfl

noncomputable def namesOf : Expr → List Str
  | .Name x _ => [x]
  | .Tuple ts _ _ => ts.filterMap fun t => match t with | .Name x _ => some x | _ => none
  | _ => []

theorem target_ok {target : Expr} {v : Value} {d : PyData} {ρ ρ' : Vars} (hh : A.handled = none) (hW : W env.locals) (tv : TargetVal target hs s.heap Hd v d) (e : bindT ρ target d = some ρ') (F : Frame env s.heap m)
    (hx : ∀ x ∈ namesOf target, StoreAt env W x) :
    wpAny (model prog w) A (assign target env v) (fun _ s' => ∃ bs : List Bind, ρ' = putAll ρ bs ∧ (∀ b ∈ bs, Rep hs Hd b.2.1 b.2.2) ∧ Frame env s'.heap (updAll m bs) ∧ ButKeeps W s s') NoE s := by
  cases target with
  | Name x p =>
    simp only [bindT, Option.some.injEq] at e
    subst e
    refine wpAny_assign_Name (wpAny_mono (store_ok F hW (hx x (by simp [namesOf]))) (fun _ s₁ h₁ => ?_) fun _ _ h => h)
    exact ⟨[(x, v, d)], rfl, fun b hb => by rw [List.mem_singleton.mp hb]; exact tv, h₁.1, h₁.2⟩
  | Tuple ts k p =>
    obtain ⟨T, vals, ds, rfl, hT, rfl, hr⟩ := tv
    simp only [bindT] at e
    obtain ⟨h1, h2⟩ := bindNames_names e
    obtain ⟨h3, h4⟩ := assignEach_names (env := env) h2
    refine wpAny_assign_Tuple hh hT (by rw [h3, h1, ← hr.length]; simp) h4 fun h' he => ?_
    have hk : Keeps s { s with heap := h' } := keeps_heap fun b o q => he b o (Nat.ne_of_lt (Heap.lt_size q)) q
    refine wpAny_mono (names_ok hW ts _ ds m ρ ρ' { s with heap := h' } hr e (F.keeps fun b o _ q => keeps_get hk b o q) fun t ht x p q => hx x ?_) (fun _ s₁ h₁ => ?_) fun _ _ h => h
    · subst q; exact List.mem_filterMap.mpr ⟨_, ht, rfl⟩
    · obtain ⟨bs, q1, q2, q3, q4⟩ := h₁
      exact ⟨bs, q1, q2, q3, (ButKeeps.of hk).trans q4⟩
  | _ => exact tv.elim
end
end Mine

namespace Mine
open PySem

theorem look_cons (y : Str) (t : Slot) (r : Vars) (x : Str) : look ((y, t) :: r) x = if x = y then some t else look r x := rfl
theorem look_filter (q : Str → Bool) (x : Str) : ∀ ρ : Vars, look (ρ.filter fun p => q p.1) x = if q x then look ρ x else none
  | [] => by simp [look]
  | (y, t) :: r => by
    have ih := look_filter q x r
    by_cases hy : q y = true
    · rw [List.filter_cons_of_pos (by simpa using hy)]
      rw [look_cons, look_cons]
      by_cases e : x = y
      · subst e; simp [hy]
      · rw [if_neg e, if_neg e, ih]
    · rw [List.filter_cons_of_neg (by simpa using hy), ih]
      by_cases e : x = y
      · subst e; simp [hy]
      · rw [look_cons, if_neg e]

theorem mem_kindIn {x : Str} {k : NameKind} : ∀ {names : List (Str × NameKind)}, (x, k) ∈ names → ∃ k', kindIn names x = some k'
  | (y, t) :: r, h => by
    unfold kindIn
    by_cases e : x = y
    · exact ⟨t, by rw [if_pos e]⟩
    · rw [if_neg e]
      rcases List.mem_cons.mp h with h | h
      · cases h; exact absurd rfl e
      · exact mem_kindIn h

/-- the cells that a block closes over -/
noncomputable def clOf (cells : List (Str × Addr)) : List (Str × NameKind) → List (Str × Addr) → List (Str × Addr)
  | [], cs => cs
  | (n, k) :: r, cs => if k == .free then clOf cells r ((n, (cells.lookup n).getD 0) :: cs) else clOf cells r cs
theorem closure_go (env : Env) : ∀ (names : List (Str × NameKind)) (cs : List (Str × Addr)), (∀ p ∈ names, p.2 = .free → ∃ c, env.cells.lookup p.1 = some c) →
    forIn (m := Sem) names cs (fun x cs => if (x.2 == NameKind.free) = true then (do let a ← cellOf env x.1; pure (ForInStep.yield ((x.1, a) :: cs))) else pure (ForInStep.yield cs)) = pure (clOf env.cells names cs)
  | [], cs, _ => by rw [List.forIn_nil]; rfl
  | (n, k) :: r, cs, h => by
    rw [List.forIn_cons]
    unfold clOf
    have hr : ∀ p ∈ r, p.2 = .free → ∃ c, env.cells.lookup p.1 = some c := fun p hp => h p (List.mem_cons_of_mem _ hp)
    by_cases hk : (k == NameKind.free) = true
    · obtain ⟨c, hc⟩ := h (n, k) List.mem_cons_self (by simpa using hk)
      rw [if_pos hk, if_pos hk]
      have e : cellOf env n = pure c := by unfold cellOf; rw [hc]
      show ((cellOf env n >>= fun a => pure (ForInStep.yield ((n, a) :: cs))) >>= _) = _
      rw [e, pure_bind, pure_bind, hc]
      exact closure_go env r _ hr
    · rw [if_neg hk, if_neg hk, pure_bind]
      exact closure_go env r cs hr
theorem closure_pure {scope : Scope} {env : Env} (h : ∀ p ∈ scope.names, p.2 = .free → ∃ c, env.cells.lookup p.1 = some c) : closureFor scope env = pure (clOf env.cells scope.names []) := by
  have := closure_go env scope.names [] h
  unfold closureFor
  show (forIn (m := Sem) scope.names [] _ >>= fun cs => pure cs) = _
  rw [show (fun (cs : List (Str × Addr)) => (pure cs : Sem _)) = pure from rfl, bind_pure]
  exact this
theorem clOf_get {cells : List (Str × Addr)} {x : Str} {c : Addr} : ∀ (names : List (Str × NameKind)) (cs : List (Str × Addr)), (clOf cells names cs).lookup x = some c → (((x, NameKind.free) ∈ names ∧ c = (cells.lookup x).getD 0) ∨ cs.lookup x = some c)
  | [], cs, h => .inr h
  | (n, k) :: r, cs, h => by
    unfold clOf at h
    split at h
    · rename_i hk
      have hk' : k = .free := by simpa using hk
      subst hk'
      rcases clOf_get r _ h with ⟨h1, h2⟩ | h1
      · exact .inl ⟨List.mem_cons_of_mem _ h1, h2⟩
      · rw [List.lookup_cons] at h1
        by_cases e : (x == n) = true
        · rw [e] at h1
          simp at h1
          have e' : x = n := by simpa using e
          subst e'
          exact .inl ⟨List.mem_cons_self, h1.symm⟩
        · have : (x == n) = false := by simpa using e
          rw [this] at h1
          exact .inr h1
    · rcases clOf_get r _ h with ⟨h1, h2⟩ | h1
      · exact .inl ⟨List.mem_cons_of_mem _ h1, h2⟩
      · exact .inr h1
theorem clOf_has {cells : List (Str × Addr)} {x : Str} : ∀ (names : List (Str × NameKind)) (cs : List (Str × Addr)), ((x, NameKind.free) ∈ names ∨ (cs.lookup x).isSome = true) → ((clOf cells names cs).lookup x).isSome = true
  | [], cs, h => by
    rcases h with h | h
    · cases h
    · exact h
  | (n, k) :: r, cs, h => by
    unfold clOf
    split
    · rename_i hk
      refine clOf_has r _ ?_
      rcases h with h | h
      · rcases List.mem_cons.mp h with h | h
        · cases h; exact .inr (by simp [List.lookup_cons])
        · exact .inl h
      · refine .inr ?_
        rw [List.lookup_cons]
        cases (x == n) <;> simp [h]
    · rename_i hk
      refine clOf_has r _ ?_
      rcases h with h | h
      · rcases List.mem_cons.mp h with h | h
        · cases h; simp at hk
        · exact .inl h
      · exact .inr h

theorem relabel_lookup (scope : Scope) (env : Env) (x : Str) : (relabel scope env).names.lookup x = (kindIn scope.names x).map fun k => if (k == .free && env.scope.kind == .function && env.kindOf x == some .cell) then .cell else k := by
  show (scope.names.map fun (p : Str × NameKind) => if (p.2 == .free && env.scope.kind == .function && env.kindOf p.1 == some .cell) then (p.1, NameKind.cell) else (p.1, p.2)).lookup x = _
  generalize scope.names = names
  induction names with
  | nil => rfl
  | cons p r ih =>
    obtain ⟨n, k⟩ := p
    rw [List.map_cons]
    unfold kindIn
    by_cases e : x = n
    · subst e
      rw [if_pos rfl]
      split
      · rename_i h; simp only [Option.map_some, if_pos h]; simp [List.lookup_cons]
      · rename_i h; simp only [Option.map_some, if_neg h]; simp [List.lookup_cons]
    · rw [if_neg e]
      have : (x == n) = false := by simpa using e
      split
      · rw [List.lookup_cons, this]; exact ih
      · rw [List.lookup_cons, this]; exact ih
end Mine

namespace Mine
open PySem

noncomputable abbrev runTests (ifs : List Expr) (env : Env) : Sem Bool :=
  forIn ifs true fun c r => if r = true then do let ok ← isTrue c env (eval c env); pure (ForInStep.yield ok) else pure (ForInStep.yield r)

section
variable {prog : Program} {w : World} {A : Around} {R : Result → Shared → Prop} {s : Shared}
theorem compLoop_gen {elt target iter : Expr} {ifs : List Expr} {scope : Scope} {pos : Pos} {it acc : Value} {env : Env} (I : Nat → Shared → Prop)
    (turn : ∀ n s, I n s → wpAny (model prog w) A (pyNext it) (fun r s₁ => match r with
      | none => R (.ok .next) s₁
      | some v => wpAny (model prog w) A (letOwnedTupleGo target it v) (fun _ s₁' => wpAny (model prog w) A (assign target env v) (fun _ s₂ =>
          wpAny (model prog w) A (runTests ifs env) (fun ok s₃ =>
            if ok = true then wpAny (model prog w) A (eval elt env) (fun x s₄ =>
              wpAny (model prog w) A (call (.builtin "list.append") [acc, x]) (fun _ s₅ => ∃ m, m < n ∧ I m s₅) NoE s₄) NoE s₃
            else ∃ m, m < n ∧ I m s₃) NoE s₂) NoE s₁') NoE s₁) NoE s)
    (n : Nat) (h : I n s) : codeAny (model prog w) A (.compLoop (.ListComp elt [⟨target, iter, ifs, 0⟩] scope pos) 0 it acc env) R s := by
  refine codeAny_loop rfl I (fun n s hI => ?_) n h
  show wpAny _ A ((compTurn (.ListComp elt [⟨target, iter, ifs, 0⟩] scope pos) 0 it acc env).onRaise (fun x => do noteFrame x env; theTreesLotGoes x)) _ _ s
  refine wpAny_noted ?_
  rw [compTurn_list]
  refine wpAny_bind (wpAny_standAt (wpAny_bind (wpAny_mono (turn n s hI) (fun r s₁ h₁ => ?_) fun _ _ h' => h'.elim)))
  cases r with
  | none => exact wpAny_pure h₁
  | some v =>
    refine wpAny_bind (wpAny_mono h₁ (fun _ s₁' h₁' => ?_) fun _ _ h' => h'.elim)
    refine wpAny_bind (wpAny_mono h₁' (fun _ s₂ h₂ => wpAny_bind (wpAny_mono h₂ (fun ok s₃ h₃ => ?_) fun _ _ h' => h'.elim)) fun _ _ h' => h'.elim)
    cases ok with
    | false => exact wpAny_pure ⟨rfl, by simpa using h₃⟩
    | true =>
      simp only [if_true] at h₃
      exact wpAny_bind (wpAny_bind (wpAny_mono h₃ (fun x s₄ h₄ => wpAny_bind (wpAny_mono h₄ (fun _ s₅ h₅ => wpAny_pure (wpAny_pure ⟨rfl, h₅⟩)) fun _ _ h' => h'.elim)) fun _ _ h' => h'.elim))
end

theorem compL_cons {tst : Vars → Option Bool} {f : Vars → Option PyData} {bind : PyData → Option Vars} {d : PyData} {r rs : List PyData} (e : compL tst f bind (d :: r) = some rs) :
    ∃ ρ b, bind d = some ρ ∧ tst ρ = some b ∧ ((b = true ∧ ∃ x xs, f ρ = some x ∧ compL tst f bind r = some xs ∧ rs = x :: xs) ∨ (b = false ∧ compL tst f bind r = some rs)) := by
  unfold compL at e
  cases h1 : bind d with
  | none => rw [h1] at e; cases e
  | some ρ =>
    rw [h1, Option.bind_some] at e
    cases h2 : tst ρ with
    | none => rw [h2] at e; cases e
    | some b =>
      rw [h2, Option.bind_some] at e
      refine ⟨ρ, b, rfl, h2, ?_⟩
      cases b with
      | false => exact .inr ⟨rfl, by simpa using e⟩
      | true =>
        simp only [if_true] at e
        cases h3 : f ρ with
        | none => rw [h3] at e; cases e
        | some x =>
          rw [h3, Option.bind_some] at e
          cases h4 : compL tst f bind r with
          | none => rw [h4] at e; cases e
          | some xs => rw [h4] at e; simp at e; exact .inl ⟨rfl, x, xs, rfl, rfl, e.symm⟩

theorem compOk_spec {sc csc : Scope} {target : Expr} (h : compOk sc csc target = true) :
    csc.kind = .function ∧ targetOk csc target = true ∧ ∀ x k, (x, k) ∈ csc.names → k ≠ .cell ∧ plainName x = true ∧ (k = .local → kindIn csc.names x = some .local) ∧ (k = .free → kindIn sc.names x = some .cell ∨ kindIn sc.names x = some .free) := by
  unfold compOk at h
  simp only [Bool.and_eq_true, List.all_eq_true, bne_iff_ne, Bool.or_eq_true, beq_iff_eq, ne_eq] at h
  refine ⟨by simpa using h.1.1, h.1.2, fun x k hm => ?_⟩
  obtain ⟨⟨⟨h1, h2⟩, h3⟩, h4⟩ := h.2 (x, k) hm
  exact ⟨h1, h2, fun e => h3.resolve_left (fun q => q e), fun e => by
    rcases h4 with (q | q) | q
    · exact absurd e q
    · exact .inl q
    · exact .inr q⟩

section
variable {prog : Program} {w : World} {A : Around} {h₀ : Heap} {T : Tbl}

/-- what a part of the text is worth, at any frame -/
noncomputable def EvOk (prog : Program) (w : World) (T : Tbl) (h₀ : Heap) (n : Nat) : Prop :=
  ∀ (A : Around) (env : Env) (sc : Scope) (Hd : List Addr) (s : Shared) (ρ : Vars) (e : Expr) (d : PyData), Room n A → ESt h₀ env sc Hd s.heap ρ → ev T n sc ρ e = some d →
    wpAny (model prog w) A (eval e env) (Ends s Hd d) NoE s
noncomputable def EvTsOk (prog : Program) (w : World) (T : Tbl) (h₀ : Heap) (n : Nat) : Prop :=
  ∀ (A : Around) (env : Env) (sc : Scope) (Hd : List Addr) (s : Shared) (ρ : Vars) (ifs : List Expr) (b : Bool), Room n A → ESt h₀ env sc Hd s.heap ρ → evTs T n sc ρ ifs = some b →
    wpAny (model prog w) A (runTests ifs env) (fun ok s' => ok = b ∧ Keeps s s') NoE s

theorem getNone_of_le {h : Heap} {a : Addr} (ha : h.objs.size ≤ a) : h.get? a = none := by
  cases e : h.get? a with
  | none => rfl
  | some o => exact absurd (Heap.lt_size e) (Nat.not_lt.mpr ha)

/-- the frame of a comprehension's block -/
theorem comp_frame {env : Env} {sc csc : Scope} {target : Expr} {h h₁ : Heap} {C : Addr} {m : Str → Option Value} (hK : KindsOk env sc) (hO : compOk sc csc target = true) (F : Frame env h m) (hC : h.get? C = none)
    (hk : ∀ b o, h.get? b = some o → h₁.get? b = some o) (hns : ∃ ml, h₁.Ns C ml) :
    Frame (compEnvC csc (clOf env.cells csc.names []) C env) h₁ (fun x => if kindIn csc.names x = some .free then m x else none) := by
  obtain ⟨h1, h2, h3⟩ := compOk_spec hO
  have hcl : ∀ x c, (clOf env.cells csc.names []).lookup x = some c → (x, NameKind.free) ∈ csc.names ∧ env.cells.lookup x = some c := fun x c hc => by
    rcases clOf_get _ _ hc with ⟨a, b⟩ | a
    · refine ⟨a, ?_⟩
      obtain ⟨_, _, _, q⟩ := h3 x .free a
      have hs := q rfl
      have : ∃ c', env.cells.lookup x = some c' := by
        rcases hs with hs | hs
        · exact (hK x _ hs).2
        · exact (hK x _ hs).2
      obtain ⟨c', hc'⟩ := this
      rw [hc'] at b ⊢; simp at b; rw [b]
    · cases a
  have kf : ∀ x, kindIn csc.names x = some .free → (env.kindOf x = some .cell ∨ env.kindOf x = some .free) ∧ ∃ c, env.cells.lookup x = some c := fun x hx => by
    obtain ⟨_, _, _, q⟩ := h3 x .free (kindIn_mem hx)
    rcases q rfl with hs | hs
    · exact ⟨.inl (hK x _ hs).1, (hK x _ hs).2⟩
    · exact hK x _ hs
  have rl : ∀ x, (compEnvC csc (clOf env.cells csc.names []) C env).kindOf x = (kindIn csc.names x).map fun k => if (k == .free && env.scope.kind == .function && env.kindOf x == some .cell) then .cell else k := fun x => relabel_lookup csc env x
  exact {
    fn := h1
    gl := F.gl
    bl := F.bl
    ns := by
      obtain ⟨ml, hml⟩ := hns
      refine ⟨ml, hml, fun x v hx hl => ?_⟩
      split at hx
      · rename_i hfree
        rw [rl, hfree] at hl
        simp only [Option.map_some] at hl
        split at hl <;> cases hl
      · cases hx
    cl := fun x c hc => by
      obtain ⟨hf, hc'⟩ := hcl x c hc
      obtain ⟨v, hcell, q⟩ := F.cl x c hc'
      refine ⟨v, hcell.keeps hk, fun u hu hk' => ?_⟩
      split at hu
      · rename_i hfree
        exact q u hu (kf x hfree).1
      · cases hu
    apart := fun x y c hx hy => F.apart x y c (hcl x c hx).2 (hcl y c hy).2
    off := fun x c hx e => by
      obtain ⟨v, ⟨o, ho, _⟩, _⟩ := F.cl x c (hcl x c hx).2
      have e' : c = C := e
      rw [e', hC] at ho; cases ho
    bound := fun x v hx => by
      split at hx
      · rename_i hfree
        refine ⟨(F.bound x v hx).1, .inr ⟨?_, ?_⟩⟩
        · rw [rl, hfree]
          simp only [Option.map_some]
          split
          · exact .inl rfl
          · exact .inr rfl
        · have := clOf_has (cells := env.cells) (x := x) csc.names [] (.inl (kindIn_mem hfree))
          obtain ⟨c, hc⟩ := Option.isSome_iff_exists.mp this
          exact ⟨c, hc⟩
      · cases hx }
theorem comp_kinds {env : Env} {sc csc : Scope} {target : Expr} {C : Addr} (hK : KindsOk env sc) (hO : compOk sc csc target = true) (hfn : env.scope.kind = .function) :
    KindsOk (compEnvC csc (clOf env.cells csc.names []) C env) csc := fun x k hx => by
  obtain ⟨h1, h2, h3⟩ := compOk_spec hO
  have rl : (compEnvC csc (clOf env.cells csc.names []) C env).kindOf x = (kindIn csc.names x).map fun k => if (k == .free && env.scope.kind == .function && env.kindOf x == some .cell) then .cell else k := relabel_lookup csc env x
  rw [hx] at rl
  simp only [Option.map_some] at rl
  cases k with
  | globalImplicit => exact rl
  | «local» => exact rl
  | cell => exact absurd rfl (h3 x _ (kindIn_mem hx)).1
  | free =>
    refine ⟨?_, ?_⟩
    · rw [rl]; split
      · exact .inl rfl
      · exact .inr rfl
    · have := clOf_has (cells := env.cells) (x := x) csc.names [] (.inl (kindIn_mem hx))
      exact Option.isSome_iff_exists.mp this
  | _ => trivial


/-- where a comprehension's list and frame stand, beside what stood -/
structure CFix (s s₂ : Shared) (D C : Addr) (wr : List Addr) : Prop where
  ne : ∀ b o, s₂.heap.get? b = some o → b ≠ C ∧ b ≠ D
  old : ∀ b o, s.heap.get? b = some o → b ∉ wr
  out : ∀ b ∈ wr, b ≠ C ∧ b ≠ D
  dc : D ≠ C
  k : Keeps s s₂
noncomputable abbrev CHd (D C : Addr) (wr Hd : List Addr) : List Addr := [D, C] ++ (wr ++ Hd)
theorem CFix.notin {s s₂ : Shared} {D C : Addr} {wr Hd : List Addr} (X : CFix s s₂ D C wr) {b : Addr} {o : Obj} (hb : b ∉ wr ++ Hd) (q : s₂.heap.get? b = some o) : b ∉ CHd D C wr Hd := fun hm => by
  rcases List.mem_append.mp hm with h | h
  · rcases List.mem_cons.mp h with h | h
    · exact (X.ne b o q).2 h
    · exact (X.ne b o q).1 (List.mem_singleton.mp h)
  · exact hb h
noncomputable abbrev CKeep (wr : List Addr) (s₂ : Shared) (h : Heap) : Prop := ∀ b o, b ∉ wr → s₂.heap.get? b = some o → h.get? b = some o
theorem CFix.base {s s₂ : Shared} {D C : Addr} {wr : List Addr} {h : Heap} (X : CFix s s₂ D C wr) (hk : CKeep wr s₂ h) : ∀ b o, s.heap.get? b = some o → h.get? b = some o := fun b o q => hk b o (X.old b o q) (keeps_get X.k b o q)

/-- the state in which a comprehension's parts are worked out -/
theorem comp_state {env env' : Env} {sc csc : Scope} {s s₂ : Shared} {D C : Addr} {wr Hd : List Addr} {h : Heap} {ρ : Vars} {m : Str → Option Value} {bs : List Bind} (X : CFix s s₂ D C wr) (S : ESt h₀ env sc Hd s.heap ρ) (hS : SlotsOk (SlotE s.heap Hd) m ρ) (hK : KindsOk env' csc) (hk : CKeep wr s₂ h)
    (hD : ∃ o, h.get? D = some o) (hC : ∃ ml, h.Ns C ml) (hw : ∀ b ∈ wr, ∃ o, h.get? b = some o) (F : Frame env' h (updAll (fun x => if kindIn csc.names x = some .free then m x else none) bs)) (hbs : ∀ b ∈ bs, Rep s₂.heap (wr ++ Hd) b.2.1 b.2.2) :
    ESt h₀ env' csc (CHd D C wr Hd) h (putAll (freeOf csc ρ) bs) where
  base := fun b o q => X.base hk b o (S.base b o q)
  low := fun b hb => by
    rcases List.mem_append.mp hb with h | h
    · rcases List.mem_cons.mp h with h | h
      · rw [h]; exact hD
      · rw [List.mem_singleton.mp h]
        obtain ⟨ml, o, _, _, q, _⟩ := hC
        exact ⟨o, q⟩
    · rcases List.mem_append.mp h with h | h
      · exact hw b h
      · obtain ⟨o, q⟩ := S.low b h
        exact ⟨o, X.base hk b o q⟩
  kinds := hK
  fr := by
    have lift₀ : ∀ b o, b ∉ Hd → s.heap.get? b = some o → h.get? b = some o ∧ b ∉ CHd D C wr Hd := fun b o hb q => ⟨X.base hk b o q, X.notin (fun hm => (List.mem_append.mp hm).elim (X.old b o q) hb) (keeps_get X.k b o q)⟩
    refine ⟨_, F, SlotsOk.putAll (P := SlotE h (CHd D C wr Hd)) (fun x sl hx => ?_) fun b hb => (hbs b hb).mono fun b o hb q => ⟨hk b o (fun h => hb (List.mem_append_left _ h)) q, X.notin hb q⟩⟩
    rw [freeOf, look_filter (fun x => kindIn csc.names x == some .free) x ρ] at hx
    split at hx
    · rename_i hfree
      obtain ⟨v, hv, hsl⟩ := hS x sl hx
      have hfree' : kindIn csc.names x = some .free := by simpa using hfree
      refine ⟨v, by simp only [hfree', if_true]; exact hv, ?_⟩
      cases sl with
      | sh d => exact Rep.mono lift₀ hsl
      | own xs =>
        obtain ⟨a, vs, c', ea, hg, hr⟩ := hsl
        exact ⟨a, vs, c', ea, X.base hk a _ hg, hr.mono lift₀⟩
    · cases hx

theorem comp_stores {env' : Env} {csc : Scope} {target : Expr} {C : Addr} (hK : KindsOk env' csc) (hn : ∀ x k, (x, k) ∈ csc.names → plainName x = true) (h : targetOk csc target = true) : ∀ x ∈ namesOf target, StoreAt env' (· = C) x := by
  have one : ∀ x, kindIn csc.names x = some .local → StoreAt env' (· = C) x := fun x hx => by
    have hl := hK x _ hx
    exact ⟨hn x _ (kindIn_mem hx), .inl hl, fun c hc _ => by rw [hl] at hc; cases hc⟩
  intro x hx
  cases target with
  | Name y p => cases List.mem_singleton.mp hx; exact one x (by simpa [targetOk] using h)
  | Tuple ts k p =>
    obtain ⟨t, ht, ht2⟩ := List.mem_filterMap.mp hx
    have := List.all_eq_true.mp h t ht
    cases t with
    | Name y p => cases ht2; exact one x (by simpa using this)
    | _ => cases ht2
  | _ => cases hx

/-- a comprehension's list and frame -/
structure CAcc (s₂ : Shared) (D C : Addr) (wr Hd : List Addr) (s' : Shared) (ys : List Value) (done : List PyData) : Prop where
  same : s' = { s₂ with heap := s'.heap, toks := s'.toks }
  acc : ∃ c, s'.heap.get? D = some (lstO ys c)
  rep : RepAll s'.heap (CHd D C wr Hd) ys done
  ns : ∃ ml, s'.heap.Ns C ml
  old : CKeep wr s₂ s'.heap
theorem CAcc.step {s s₂ s' s'' : Shared} {D C : Addr} {wr Hd : List Addr} {ys : List Value} {done : List PyData} (X : CFix s s₂ D C wr) (Y : CAcc s₂ D C wr Hd s' ys done) (hs : s'' = { s' with heap := s''.heap, toks := s''.toks }) (hD : D ∉ wr)
    (hk : ∀ b o, b ∉ wr → b ≠ C → s'.heap.get? b = some o → s''.heap.get? b = some o) (hns : ∃ ml, s''.heap.Ns C ml) : CAcc s₂ D C wr Hd s'' ys done where
  same := by rw [hs, Y.same]
  acc := by obtain ⟨c, q⟩ := Y.acc; exact ⟨c, hk D _ hD X.dc q⟩
  rep := Y.rep.mono fun b o hb q => ⟨hk b o (fun h => hb (by simp [h])) (fun h => hb (by simp [h])) q, hb⟩
  ns := hns
  old := fun b o hb q => hk b o hb (X.ne b o q).1 (Y.old b o hb q)
theorem CAcc.after {s₂ s' s'' : Shared} {D C : Addr} {wr Hd : List Addr} {ys : List Value} {done : List PyData} (Y : CAcc s₂ D C wr Hd s' ys done) (k : Keeps s' s'') : CAcc s₂ D C wr Hd s'' ys done where
  same := by obtain ⟨h, t, e, _⟩ := k; rw [e, Y.same]
  acc := by obtain ⟨c, q⟩ := Y.acc; exact ⟨c, keeps_get k _ _ q⟩
  rep := Y.rep.keeps (keeps_get k)
  ns := by obtain ⟨ml, q⟩ := Y.ns; exact ⟨ml, q.keeps (keeps_get k)⟩
  old := fun b o hb q => keeps_get k b o (Y.old b o hb q)
theorem CAcc.push {s s₂ s' : Shared} {D C : Addr} {wr Hd : List Addr} {ys : List Value} {done : List PyData} {y : Value} {x : PyData} {h : Heap} (X : CFix s s₂ D C wr) (Y : CAcc s₂ D C wr Hd s' ys done) (ry : Rep s'.heap (CHd D C wr Hd) y x) (hl : h.PlainList D (ys.toArray.push y)) (hs : Heap.SameBut D s'.heap h) :
    CAcc s₂ D C wr Hd { s' with heap := h } (ys ++ [y]) (done ++ [x]) where
  same := by rw [Y.same]
  acc := by obtain ⟨c, q⟩ := hl; exact ⟨c, by rw [q]; simp [lstO]⟩
  rep := (Y.rep.append (.one ry)).mono fun b o hb q => ⟨hs.extBut b o (fun h => hb (by simp [h])) q, hb⟩
  ns := by obtain ⟨ml, q⟩ := Y.ns; exact ⟨ml, q.sameBut hs (Ne.symm X.dc)⟩
  old := fun b o hb q => hs.extBut b o (X.ne b o q).2 (Y.old b o hb q)
/-- where a comprehension stands after some turns -/
noncomputable def CI (St : Nat → Heap → Prop) (cl : List PyData → Option (List PyData)) (s₂ : Shared) (D C : Addr) (wr Hd : List Addr) (items rs : List PyData) (k : Nat) (s' : Shared) : Prop :=
  ∃ i ys done rest, k = items.length + 1 - i ∧ i ≤ items.length ∧ St i s'.heap ∧ CAcc s₂ D C wr Hd s' ys done ∧ ys.length ≤ i ∧ cl (items.drop i) = some rest ∧ rs = done ++ rest

/-- one turn's tests and value -/
theorem comp_turn {env' : Env} {csc : Scope} {elt : Expr} {ifs : List Expr} {s s₂ s₆ : Shared} {D C : Addr} {wr Hd : List Addr} {St : Nat → Heap → Prop} {ρ₁ : Vars} {n i : Nat} {items rs done rest : List PyData} {ys : List Value} {cl : List PyData → Option (List PyData)} {b : Bool}
    (R : Room n A) (hE : EvOk prog w T h₀ n) (hT : EvTsOk prog w T h₀ n) (X : CFix s s₂ D C wr) (frame : ∀ h h' : Heap, St (i + 1) h → (∀ b ∈ wr, ∀ o, h.get? b = some o → h'.get? b = some o) → St (i + 1) h') (hsz : items.length ≤ 2 ^ 20) (hlt : i < items.length)
    (hst : St (i + 1) s₆.heap) (Y : CAcc s₂ D C wr Hd s₆ ys done) (hyl : ys.length ≤ i) (S₆ : ESt h₀ env' csc (CHd D C wr Hd) s₆.heap ρ₁) (et : evTs T n csc ρ₁ ifs = some b)
    (hways : (b = true ∧ ∃ x xs, ev T n csc ρ₁ elt = some x ∧ cl (items.drop (i + 1)) = some xs ∧ rest = x :: xs) ∨ (b = false ∧ cl (items.drop (i + 1)) = some rest)) (hrs : rs = done ++ rest) :
    wpAny (model prog w) A (runTests ifs env') (fun ok s₇ => if ok = true then wpAny (model prog w) A (eval elt env') (fun x s₈ => wpAny (model prog w) A (call (.builtin "list.append") [.ref D, x]) (fun _ s₉ => ∃ k, k < items.length + 1 - i ∧ CI St cl s₂ D C wr Hd items rs k s₉) NoE s₈) NoE s₇
      else ∃ k, k < items.length + 1 - i ∧ CI St cl s₂ D C wr Hd items rs k s₇) NoE s₆ := by
  refine wpAny_mono (hT A _ csc _ s₆ _ ifs b R S₆ et) (fun ok s₇ h₇ => ?_) fun _ _ h => h
  obtain ⟨rfl, k₇⟩ := h₇
  have Y₇ := Y.after k₇
  have hst₇ : St (i + 1) s₇.heap := frame _ _ hst fun b _ o q => keeps_get k₇ b o q
  rcases hways with ⟨rfl, x, xs, ex, er, rfl⟩ | ⟨rfl, er⟩
  · rw [if_pos rfl]
    refine wpAny_mono (hE A _ csc _ s₇ _ elt x R (S₆.after k₇) ex) (fun y s₈ h₈ => ?_) fun _ _ h => h
    have Y₈ := Y₇.after h₈.1
    obtain ⟨c, hD₈⟩ := Y₈.acc
    refine wpAny_list_append_plain (hsz := by simp [sizeLine_eq]; omega) ⟨c, hD₈⟩ fun h₉ hl₉ hs₉ => ?_
    exact ⟨items.length + 1 - (i + 1), by omega, i + 1, _, _, xs, rfl, hlt, frame _ _ (frame _ _ hst₇ fun b _ o q => keeps_get h₈.1 b o q) fun b hb o q => hs₉.extBut b o (X.out b hb).2 q, Y₈.push X h₈.2 hl₉ hs₉, by simp; omega, er, by simp [hrs]⟩
  · rw [if_neg (by simp)]
    exact ⟨items.length + 1 - (i + 1), by omega, i + 1, ys, done, rest, rfl, hlt, hst₇, Y₇, Nat.le_succ_of_le hyl, er, hrs⟩

theorem comp_loop {env : Env} {sc csc : Scope} {target elt iter : Expr} {ifs : List Expr} {pos : Pos} {s s₂ s₃ : Shared} {it : Value} {items rs : List PyData} {wr Hd : List Addr} {St : Nat → Heap → Prop} {ρ : Vars} {n : Nat} {m : Str → Option Value} {D C : Addr}
    {RR : Value → Addr → Result → Shared → Prop} (R : Room n A) (hE : EvOk prog w T h₀ n) (hT : EvTsOk prog w T h₀ n) (P : Stepper prog w A target it items (wr ++ Hd) wr s₂.heap St)
    (hO : compOk sc csc target = true) (S : ESt h₀ env sc Hd s.heap ρ) (hS : SlotsOk (SlotE s.heap Hd) m ρ) (F : Frame env s.heap m) (X : CFix s s₂ D C wr) (hsz : items.length ≤ 2 ^ 20)
    (e : compL (fun ρ => evTs T n csc ρ ifs) (fun ρ => ev T n csc ρ elt) (bindT (freeOf csc ρ) target) items = some rs)
    (hRR : ∀ h' tk m' ys c, s₂.heap.get? D = none → s₂.heap.get? C = none → D ≠ C → h'.Ns C m' → h'.get? D = some (lstO ys c) → RepAll h' ([D, C] ++ (wr ++ Hd)) ys rs → (∀ b o, b ∉ wr → s₂.heap.get? b = some o → h'.get? b = some o) →
      RR (.ref D) C (.ok .next) { s₂ with heap := h', toks := tk }) (hDn : s₂.heap.get? D = none) (hCn : s₂.heap.get? C = none) (hst₁ : St 0 s₃.heap) (Y₁ : CAcc s₂ D C wr Hd s₃ [] []) :
    codeAny (model prog w) A (.compLoop (.ListComp elt [⟨target, iter, ifs, 0⟩] csc pos) 0 it (.ref D) (compEnvC csc (clOf env.cells csc.names []) C env)) (RR (.ref D) C) s₃ := by
  have hCn₀ : s.heap.get? C = none := by
    cases q : s.heap.get? C with
    | none => rfl
    | some o => have := keeps_get X.k _ _ q; rw [hCn] at this; cases this
  have hDwr : D ∉ wr := fun h => (X.out D h).2 rfl
  have hCwr : C ∉ wr := fun h => (X.out C h).1 rfl
  have hkK := comp_kinds (C := C) S.kinds hO F.fn
  obtain ⟨_, htok, hnm⟩ := compOk_spec hO
  refine compLoop_gen (CI St (compL (fun ρ => evTs T n csc ρ ifs) (fun ρ => ev T n csc ρ elt) (bindT (freeOf csc ρ) target)) s₂ D C wr Hd items rs) ?_ (items.length + 1) ⟨0, [], [], rs, rfl, Nat.zero_le _, hst₁, Y₁, Nat.le_refl _, e, rfl⟩
  rintro k s' ⟨i, ys, done, rest, rfl, hi, hst', Y, hyl, er, hrs⟩
  have hkH : ∀ b o, b ∉ wr ++ Hd → s₂.heap.get? b = some o → s'.heap.get? b = some o := fun b o hb q => Y.old b o (fun h => hb (List.mem_append_left _ h)) q
  by_cases hlt : i < items.length
  · rw [List.drop_eq_getElem_cons hlt] at er
    obtain ⟨ρ₁, b, eb, et, hways⟩ := compL_cons er
    refine wpAny_mono (P.item i _ _ (List.getElem?_eq_getElem hlt) hst' hkH) (fun r s₄ h₄ => ?_) fun _ _ h => h
    obtain ⟨v, rfl, h₄⟩ := h₄
    refine wpAny_mono h₄ (fun _ s₅ h₅ => ?_) fun _ _ h => h
    obtain ⟨tv, hst₅, k₅⟩ := h₅
    have Y₅ : CAcc s₂ D C wr Hd s₅ ys done := Y.step X (by obtain ⟨hp, tkp, es, _⟩ := k₅; rw [es]) hDwr (fun b o hb _ q => k₅.get b o hb q) (by obtain ⟨ml, q⟩ := Y.ns; exact ⟨ml, q.at' fun o q => k₅.get C o hCwr q⟩)
    clear Y hkH k₅ h₄
    have F₅ := comp_frame S.kinds hO F hCn₀ (X.base Y₅.old) Y₅.ns
    refine wpAny_mono (target_ok (W := (· = C)) R.hd rfl tv eb F₅ (comp_stores hkK (fun x k h => (hnm x k h).2.1) htok)) (fun _ s₆ h₆ => ?_) fun _ _ h => h
    obtain ⟨bs, rfl, hbs, F₆, k₆⟩ := h₆
    have Y₆ : CAcc s₂ D C wr Hd s₆ ys done := Y₅.step X (by obtain ⟨hp, tkp, es, _⟩ := k₆; rw [es]) hDwr (fun b o _ hb q => k₆.get b o hb q) (by obtain ⟨ml, a, _⟩ := F₆.ns; exact ⟨ml, a⟩)
    have hw : ∀ b ∈ wr, ∀ o, s₅.heap.get? b = some o → s₆.heap.get? b = some o := fun b hb o q => k₆.get b o (X.out b hb).1 q
    have hst₆ := P.frame _ _ _ hst₅ hw
    have S₆ := comp_state X S hS hkK Y₆.old (by obtain ⟨c, q⟩ := Y₆.acc; exact ⟨_, q⟩) Y₆.ns (P.alive _ _ hst₆) F₆ hbs
    exact comp_turn R hE hT X (fun h h' => P.frame _ h h') hsz hlt hst₆ Y₆ hyl S₆ et hways hrs
  · have hin : i = items.length := by omega
    subst hin
    rw [List.drop_length] at er
    cases er
    refine wpAny_mono (P.done _ hst' hkH) (fun r s₄ h₄ => ?_) fun _ _ h => h
    obtain ⟨rfl, k₄⟩ := h₄
    have Y₄ : CAcc s₂ D C wr Hd s₄ ys done := Y.step X (by obtain ⟨hp, tkp, es, _⟩ := k₄; rw [es]) hDwr (fun b o hb _ q => k₄.get b o hb q) (by obtain ⟨ml, q⟩ := Y.ns; exact ⟨ml, q.at' fun o q => k₄.get C o hCwr q⟩)
    obtain ⟨c, hD⟩ := Y₄.acc
    obtain ⟨ml, hns⟩ := Y₄.ns
    rw [Y₄.same]
    exact hRR _ _ ml ys c hDn hCn X.dc hns hD (by rw [hrs, List.append_nil]; exact Y₄.rep) Y₄.old

/-- the block of a comprehension, run over what it goes over -/
theorem comp_run {E : Value → Shared → Prop} {env : Env} {sc csc : Scope} {target elt iter : Expr} {ifs : List Expr} {pos : Pos} {s s₂ : Shared} {it : Value} {items rs : List PyData} {wr Hd : List Addr} {St : Nat → Heap → Prop} {ρ : Vars} {n : Nat}
    {RR : Value → Addr → Result → Shared → Prop} (R : Room n A) (hE : EvOk prog w T h₀ n) (hT : EvTsOk prog w T h₀ n) (P : Stepper prog w A target it items (wr ++ Hd) wr s₂.heap St) (hst : St 0 s₂.heap)
    (hO : compOk sc csc target = true) (S : ESt h₀ env sc Hd s.heap ρ) (k₀ : Keeps s s₂) (hfresh : ∀ b ∈ wr, s.heap.get? b = none)
    (e : compL (fun ρ => evTs T n csc ρ ifs) (fun ρ => ev T n csc ρ elt) (bindT (freeOf csc ρ) target) items = some rs) (hsz : items.length ≤ 2 ^ 20)
    (hRR : ∀ D C h' tk m' ys c, s₂.heap.get? D = none → s₂.heap.get? C = none → D ≠ C → h'.Ns C m' → h'.get? D = some (lstO ys c) → RepAll h' ([D, C] ++ (wr ++ Hd)) ys rs → (∀ b o, b ∉ wr → s₂.heap.get? b = some o → h'.get? b = some o) →
      RR (.ref D) C (.ok .next) { s₂ with heap := h', toks := tk }) :
    wpAny (model prog w) A (newList []) (fun acc s₃ => wpAny (model prog w) A (newFunctionEnv csc env.globals (clOf env.cells csc.names []) [] env.qual none .none (some env)) (fun cenv s₄ =>
      codeAny (model prog w) A (.compStart (.ListComp elt [⟨target, iter, ifs, 0⟩] csc pos) 0 it acc { cenv with scope := relabel csc env }) (RR acc cenv.locals) s₄) E s₃) E s₂ := by
  obtain ⟨hkind, htok, hnm⟩ := compOk_spec hO
  obtain ⟨m, F, hS⟩ := S.fr
  refine wpAny_newObj_type (wpAny_newFunctionEnv (fun y hy => (hnm y.1 y.2 hy).1) (by intro y hy; simp at hy) (fun h₁ hns₁ hsb₁ => ?_) hkind)
  dsimp only at hns₁ hsb₁ ⊢
  generalize hH2 : s₂.heap.push { cls := .type "list", dict := none, data := .seq ([] : List Value).toArray } = H2 at hns₁ hsb₁ ⊢
  have hCsz : H2.objs.size = s₂.heap.objs.size + 1 := by rw [← hH2, Heap.size_push]
  generalize hDD : s₂.heap.objs.size = D at *
  generalize hCC : H2.objs.size = C at *
  have hDC : D ≠ C := by rw [hCsz]; exact Nat.ne_of_lt (Nat.lt_succ_self _)
  have hDn : s₂.heap.get? D = none := getNone_of_le (Nat.le_of_eq hDD)
  have hCn : s₂.heap.get? C = none := getNone_of_le (by rw [hDD, hCsz]; exact Nat.le_succ _)
  have ne : ∀ b o, s₂.heap.get? b = some o → b ≠ C ∧ b ≠ D := fun b o q => ⟨fun h => (by rw [h, hCn] at q; cases q), fun h => (by rw [h, hDn] at q; cases q)⟩
  have X : CFix s s₂ D C wr := ⟨ne, fun b o q hm => (by rw [hfresh b hm] at q; cases q), fun b hb => (by obtain ⟨o, q⟩ := P.alive 0 _ hst b hb; exact ne b o q), hDC, k₀⟩
  have hDwr : D ∉ wr := fun h => (X.out D h).2 rfl
  have old : ∀ b o, s₂.heap.get? b = some o → h₁.get? b = some o := fun b o q => hsb₁.extBut b o (ne b o q).1 (Heap.get?_push_of_some _ (hH2 ▸ Heap.get?_push_of_some _ q))
  have Y₁ : CAcc s₂ D C wr Hd { s₂ with heap := h₁, toks := s₂.toks + ([] : List (Str × Value)).length } [] [] :=
    ⟨rfl, ⟨0, hsb₁.extBut _ _ hDC (Heap.get?_push_of_some _ (by rw [← hH2, ← hDD]; exact Heap.get?_push_size _ rfl))⟩, .nil, ⟨_, hns₁⟩, fun b o _ q => old b o q⟩
  have hst₁ : St 0 h₁ := P.frame _ _ _ hst fun b _ o q => old b o q
  clear hsb₁ hns₁ hH2 hCC hDD hCsz
  have loop : ∀ s₃ : Shared, St 0 s₃.heap → CAcc s₂ D C wr Hd s₃ [] [] →
      codeAny (model prog w) A (.compLoop (.ListComp elt [⟨target, iter, ifs, 0⟩] csc pos) 0 it (.ref D) (compEnvC csc (clOf env.cells csc.names []) C env)) (RR (.ref D) C) s₃ := fun s₃ hst₁ Y₁ =>
    comp_loop R hE hT P hO S hS F X hsz e (fun h => hRR D C h) hDn hCn hst₁ Y₁
  exact codeAny_compStart_list (loop _ hst₁ Y₁) (P.self 0 _ _ _ hst₁ (loop _ hst₁ Y₁))
end
end Mine

namespace Mine
open PySem

theorem obind {α β : Type} {x : Option α} {f : α → Option β} {b : β} (h : x.bind f = some b) : ∃ a, x = some a ∧ f a = some b := Option.bind_eq_some_iff.mp h
theorem omap {α β : Type} {x : Option α} {f : α → β} {b : β} (h : x.map f = some b) : ∃ a, x = some a ∧ f a = b := Option.map_eq_some_iff.mp h
theorem intOf_inv {d : PyData} {i : Int} (h : intOf d = some i) : d = .int i := by cases d <;> simp [intOf] at h; rw [h]
theorem boolOf_inv {d : PyData} {b : Bool} (h : boolOf d = some b) : d = .bool b := by cases d <;> simp [boolOf] at h; rw [h]
theorem listOf_inv {d : PyData} {xs : List PyData} (h : listOf d = some xs) : d = .list xs := by cases d <;> simp [listOf] at h; rw [h]

theorem nope {α : Type} {b : α} {P : Prop} (h : (none : Option α) = some b) : P := nomatch h
theorem nob {P : Prop} (h : false = true) : P := nomatch h
theorem ev_plain {T : Tbl} {n : Nat} {sc : Scope} {ρ : Vars} {e : Expr} {d : PyData} (h : ev T n sc ρ e = some d) : plainE e = true := by
  cases n with
  | zero => exact nope h
  | succ n => cases e <;> first | rfl | exact nope h
theorem evB_plain {T : Tbl} {n : Nat} {sc : Scope} {ρ : Vars} {e : Expr} {d : PyData} (h : evB T n sc ρ e = some d) : plainE e = true := by
  cases n with
  | zero => exact nope h
  | succ n => cases e <;> first | rfl | exact ev_plain (show ev T n sc ρ _ = some d from h)
theorem plain_marks {e : Expr} (h : plainE e = true) (op : CmpOp) : behindInMarks op e = false := by
  cases e <;> first | rfl | cases h
theorem plain_star {e : Expr} (h : plainE e = true) (rest : List Expr) (env : Env) : starEach (e :: rest) env = (false, eval e env) :: starEach rest env := by
  cases e <;> first | rfl | cases h
theorem plain_fold {e : Expr} (h : plainE e = true) (env : Env) (x : Value) : foldedSetIterable e env x = pure x := by
  cases e <;> first | rfl | cases h

section
variable (prog : Program) (w : World) (T : Tbl) (h₀ : Heap)
noncomputable def EvBOk (n : Nat) : Prop :=
  ∀ (A : Around) (env : Env) (sc : Scope) (Hd : List Addr) (s : Shared) (ρ : Vars) (e : Expr) (d : PyData), Room n A → ESt h₀ env sc Hd s.heap ρ → evB T n sc ρ e = some d →
    wpAny (model prog w) A (eval e env) (fun v s' => Keeps s s' ∧ BRep s'.heap Hd v d) NoE s
noncomputable def EvOOk (n : Nat) : Prop :=
  ∀ (A : Around) (env : Env) (sc : Scope) (Hd : List Addr) (s : Shared) (ρ : Vars) (e : Option Expr) (d : Option Int), Room n A → ESt h₀ env sc Hd s.heap ρ → evO T n sc ρ e = some d →
    wpAny (model prog w) A (evalPart e env) (fun v s' => Keeps s s' ∧ BoundRep v d) NoE s
noncomputable def EvLOk (n : Nat) : Prop :=
  ∀ (A : Around) (env : Env) (sc : Scope) (Hd : List Addr) (s : Shared) (ρ : Vars) (es : List Expr) (pos : Pos) (ds : List PyData), Room n A → ESt h₀ env sc Hd s.heap ρ → evL T n sc ρ es = some ds →
    wpAny (model prog w) A (spliced (backTo pos (starEach es env))) (fun vs s' => Keeps s s' ∧ RepAll s'.heap Hd vs ds) NoE s ∧ ∀ e ∈ es, plainE e = true
noncomputable def EvBLOk (n : Nat) : Prop :=
  ∀ (A : Around) (env : Env) (sc : Scope) (Hd : List Addr) (s : Shared) (ρ : Vars) (es : List Expr) (pos : Pos) (ds : List PyData), Room n A → ESt h₀ env sc Hd s.heap ρ → evBL T n sc ρ es = some ds →
    wpAny (model prog w) A (spliced (backTo pos (starEach es env))) (fun vs s' => Keeps s s' ∧ BAll s'.heap Hd vs ds) NoE s ∧ ∀ e ∈ es, plainE e = true
noncomputable def EvTOk (n : Nat) : Prop :=
  ∀ (A : Around) (env : Env) (sc : Scope) (Hd : List Addr) (s : Shared) (ρ : Vars) (e : Expr) (b : Bool), Room n A → ESt h₀ env sc Hd s.heap ρ → evT T n sc ρ e = some b →
    wpAny (model prog w) A (isTrue e env (eval e env)) (fun c s' => c = b ∧ Keeps s s') NoE s
noncomputable def EvAOk (n : Nat) : Prop :=
  ∀ (A : Around) (env : Env) (sc : Scope) (Hd : List Addr) (s : Shared) (ρ : Vars) (op : BoolOp) (es : List Expr) (b : Bool), Room n A → ESt h₀ env sc Hd s.heap ρ → evA T n sc ρ op es = some b →
    wpAny (model prog w) A (allTrue op es env) (fun c s' => c = b ∧ Keeps s s') NoE s
noncomputable def EvIOk (n : Nat) : Prop :=
  ∀ (A : Around) (env : Env) (sc : Scope) (Hd : List Addr) (s : Shared) (ρ : Vars) (e target : Expr) (items : List PyData), Room n A → ESt h₀ env sc Hd s.heap ρ → evI T n sc ρ e target = some items →
    wpAny (model prog w) A (eval e env) (fun xv s₁ => wpAny (model prog w) A (pyIter xv) (IterEnds prog w A s Hd target items) NoE s₁) NoE s ∧ items.length ≤ 2 ^ 20 ∧ plainE e = true
noncomputable def EvFOk (n : Nat) : Prop :=
  ∀ (A : Around) (Hd : List Addr) (s : Shared) (fn : Fn) (a : Addr) (vs : List Value) (ds : List PyData) (d : PyData), Room n A → FunAt h₀ a fn → (∀ b o, h₀.get? b = some o → s.heap.get? b = some o) → (∀ b ∈ Hd, ∃ o, s.heap.get? b = some o) →
    RepAll s.heap Hd vs ds → evF T n fn ds = some d → wpAny (model prog w) A (call (.ref a) vs) (Ends s Hd d) NoE s
end

theorem IterEnds.after {prog : Program} {w : World} {A : Around} {s s₁ s₂ : Shared} {Hd : List Addr} {target : Expr} {items : List PyData} {it : Value} (k : Keeps s s₁) (h : IterEnds prog w A s₁ Hd target items it s₂) :
    IterEnds prog w A s Hd target items it s₂ := by
  obtain ⟨k₂, wr, St, P, h0, hf⟩ := h
  refine ⟨keeps_trans k k₂, wr, St, P, h0, fun b hb => ?_⟩
  cases e : s.heap.get? b with
  | none => rfl
  | some o => have := keeps_get k b o e; rw [hf b hb] at this; cases this

section
variable {prog : Program} {w : World} {T : Tbl} {h₀ : Heap} {A : Around} {env : Env} {sc : Scope} {Hd : List Addr} {s : Shared} {ρ : Vars} {n : Nat}

theorem load_any (S : ESt h₀ env sc Hd s.heap ρ) {x : Str} {p : Pos} {sl : Slot} (hl : look ρ x = some sl) {Q : Value → Shared → Prop} {E : Value → Shared → Prop} (hQ : ∀ v, SlotE s.heap Hd v sl → Q v s) :
    wpAny (model prog w) A (eval (.Name x p) env) Q E s := by
  obtain ⟨m, F, hS⟩ := S.fr
  obtain ⟨v, hm, hv⟩ := hS x sl hl
  exact frame_name F hm (hQ v hv)

theorem borrow_look {ρ : Vars} {x : Str} {d : PyData} (h : borrow (look ρ x) = some d) : ∃ sl, look ρ x = some sl ∧ borrow (some sl) = some d := by
  cases e : look ρ x with
  | none => rw [e] at h; cases h
  | some sl => rw [e] at h; exact ⟨sl, rfl, h⟩
theorem sh_look {ρ : Vars} {x : Str} {d : PyData} (h : shOf (look ρ x) = some d) : look ρ x = some (.sh d) := by
  cases e : look ρ x with
  | none => rw [e] at h; cases h
  | some sl => rw [e] at h; cases sl <;> simp [shOf] at h; rw [h]

theorem evB_step (hE : EvOk prog w T h₀ n) : EvBOk prog w T h₀ (n + 1) := fun A env sc Hd s ρ e d R S h => by
  by_cases hn : ∃ x p, e = .Name x p
  · obtain ⟨x, p, rfl⟩ := hn
    simp only [evB_z, evB_nm, evB_co, evB_bi, evB_un, evB_bo, evB_if, evB_cm, evB_su, evB_li, evB_tu, evB_ca, evB_lc] at h
    obtain ⟨sl, h1, h2⟩ := borrow_look h
    exact load_any S h1 fun v hv => ⟨keeps_refl _, hv.borrow h2⟩
  · have h' : ev T n sc ρ e = some d := by
      cases e <;> first | exact absurd ⟨_, _, rfl⟩ hn | exact h
    exact wpAny_mono (hE A env sc Hd s ρ e d (R.less (Nat.le_succ _)) S h') (fun v s' hv => ⟨hv.1, .inl hv.2⟩) fun _ _ h => h

theorem evO_step (hE : EvOk prog w T h₀ n) : EvOOk prog w T h₀ (n + 1) := fun A env sc Hd s ρ e d R S h => by
  cases e with
  | none =>
    simp only [evO_z, evO_no, evO_so, Option.some.injEq] at h
    subst h
    exact wpAny_evalPart_none ⟨keeps_refl _, rfl⟩
  | some e =>
    simp only [evO_z, evO_no, evO_so] at h
    obtain ⟨a, h1, h2⟩ := obind h
    obtain ⟨i, h3, rfl⟩ := omap h2
    rw [intOf_inv h3] at h1
    exact wpAny_evalPart_some (wpAny_mono (hE A env sc Hd s ρ e _ (R.less (Nat.le_succ _)) S h1) (fun v s' hv => ⟨hv.1, hv.2.int_inv⟩) fun _ _ h => h)

theorem evL_step (hE : EvOk prog w T h₀ n) (hL : EvLOk prog w T h₀ n) : EvLOk prog w T h₀ (n + 1) := fun A env sc Hd s ρ es pos ds R S h => by
  cases es with
  | nil =>
    simp only [evL_z, evL_ni, evL_co, Option.some.injEq] at h
    subst h
    exact ⟨PySem.Calls.spliced_nil ⟨keeps_refl _, .nil⟩, by simp⟩
  | cons e es =>
    simp only [evL_z, evL_ni, evL_co] at h
    obtain ⟨d, h1, h2⟩ := obind h
    obtain ⟨ds', h3, rfl⟩ := omap h2
    have hp := ev_plain h1
    refine ⟨?_, ?_⟩
    · rw [plain_star hp]
      refine PySem.Calls.spliced_cons (wpAny_mono (hE A env sc Hd s ρ e _ (R.less (Nat.le_succ _)) S h1) (fun v s₁ hv => ?_) fun _ _ h => h)
      refine wpAny_mono (hL A env sc Hd s₁ ρ es pos ds' (R.less (Nat.le_succ _)) (S.after hv.1) h3).1 (fun vs s₂ h₂ => ?_) fun _ _ h => h
      exact ⟨keeps_trans hv.1 h₂.1, .cons (keeps_rep h₂.1 hv.2) h₂.2⟩
    · intro x hx
      rcases List.mem_cons.mp hx with rfl | hx
      · exact hp
      · exact (hL A env sc Hd s ρ es pos ds' (R.less (Nat.le_succ _)) S h3).2 x hx
theorem evBL_step (hE : EvBOk prog w T h₀ n) (hL : EvBLOk prog w T h₀ n) : EvBLOk prog w T h₀ (n + 1) := fun A env sc Hd s ρ es pos ds R S h => by
  cases es with
  | nil =>
    simp only [evBL_z, evBL_ni, evBL_co, Option.some.injEq] at h
    subst h
    exact ⟨PySem.Calls.spliced_nil ⟨keeps_refl _, .nil⟩, by simp⟩
  | cons e es =>
    simp only [evBL_z, evBL_ni, evBL_co] at h
    obtain ⟨d, h1, h2⟩ := obind h
    obtain ⟨ds', h3, rfl⟩ := omap h2
    have hp := evB_plain h1
    refine ⟨?_, ?_⟩
    · rw [plain_star hp]
      refine PySem.Calls.spliced_cons (wpAny_mono (hE A env sc Hd s ρ e _ (R.less (Nat.le_succ _)) S h1) (fun v s₁ hv => ?_) fun _ _ h => h)
      refine wpAny_mono (hL A env sc Hd s₁ ρ es pos ds' (R.less (Nat.le_succ _)) (S.after hv.1) h3).1 (fun vs s₂ h₂ => ?_) fun _ _ h => h
      exact ⟨keeps_trans hv.1 h₂.1, .cons (hv.2.keeps (keeps_get h₂.1)) h₂.2⟩
    · intro x hx
      rcases List.mem_cons.mp hx with rfl | hx
      · exact hp
      · exact (hL A env sc Hd s ρ es pos ds' (R.less (Nat.le_succ _)) S h3).2 x hx

theorem operands {l r : Expr} {a b : PyData} {Q : Value → Value → Shared → Prop} (hB : EvBOk prog w T h₀ n) (R : Room n A) (S : ESt h₀ env sc Hd s.heap ρ) (h1 : evB T n sc ρ l = some a) (h2 : evB T n sc ρ r = some b)
    (hQ : ∀ va vb s₂, Keeps s s₂ → BRep s₂.heap Hd va a → BRep s₂.heap Hd vb b → Q va vb s₂) :
    wpAny (model prog w) A (eval l env) (fun va s₁ => wpAny (model prog w) A (eval r env) (fun vb s₂ => Q va vb s₂) NoE s₁) NoE s := by
  refine wpAny_mono (hB A env sc Hd s ρ l a R S h1) (fun va s₁ ha => ?_) fun _ _ h => h
  refine wpAny_mono (hB A env sc Hd s₁ ρ r b R (S.after ha.1) h2) (fun vb s₂ hb => ?_) fun _ _ h => h
  exact hQ va vb s₂ (keeps_trans ha.1 hb.1) (ha.2.keeps (keeps_get hb.1)) hb.2

theorem compare_bool {op : CmpOp} {a b : PyData} {c : Bool} {va vb : Value} {Q : Bool → Shared → Prop} {E : Value → Shared → Prop} (R : Room n A) (e : compare op a b = some c) (ra : BRep s.heap Hd va a) (rb : BRep s.heap Hd vb b)
    (hQ : Q c s) : wpAny (model prog w) A (compareOp op va vb) (fun v s' => wpAny (model prog w) A (truthy v) Q E s') E s :=
  compare_ok (by have := R.un; omega) e ra rb (wpAny_truthy_bool hQ)

theorem isTrue_bool {e : Expr} {b : Bool} (hE : EvOk prog w T h₀ n) (R : Room n A) (S : ESt h₀ env sc Hd s.heap ρ) (h : (ev T n sc ρ e).bind boolOf = some b)
    (he : isTrue e env (eval e env) = (do let v ← eval e env; standAt e.pos; holding [v] (truthy v))) : wpAny (model prog w) A (isTrue e env (eval e env)) (fun c s' => c = b ∧ Keeps s s') NoE s := by
  obtain ⟨d, h1, h2⟩ := obind h
  rw [boolOf_inv h2] at h1
  refine PyProof.Rows.isTrue_plain (wpAny_mono (hE A env sc Hd s ρ e _ R S h1) (fun v s₁ hv => ?_) fun _ _ h => h) he
  rw [hv.2.bool_inv]
  exact wpAny_truthy_bool ⟨rfl, hv.1⟩

theorem evA_step (hT : EvTOk prog w T h₀ n) (hA : EvAOk prog w T h₀ n) : EvAOk prog w T h₀ (n + 1) := fun A env sc Hd s ρ op es b R S h => by
  cases es with
  | nil =>
    cases op with
    | And => simp only [evA_z, evA_an, evA_on, evA_ac, evA_oc, Option.some.injEq] at h; subst h; exact wpAny_allTrue_And_nil ⟨rfl, keeps_refl _⟩
    | Or => simp only [evA_z, evA_an, evA_on, evA_ac, evA_oc, Option.some.injEq] at h; subst h; exact wpAny_allTrue_Or_nil ⟨rfl, keeps_refl _⟩
  | cons e es =>
    cases op with
    | And =>
      simp only [evA_z, evA_an, evA_on, evA_ac, evA_oc] at h
      obtain ⟨c, h1, h2⟩ := obind h
      refine wpAny_allTrue_And_cons (wpAny_mono (hT A env sc Hd s ρ e c (R.less (Nat.le_succ _)) S h1) (fun c' s₁ h₁ => ?_) fun _ _ h => h)
      obtain ⟨rfl, k⟩ := h₁
      cases c' with
      | false => simp at h2; subst h2; exact ⟨rfl, k⟩
      | true =>
        simp only [if_true] at h2 ⊢
        exact wpAny_mono (hA A env sc Hd s₁ ρ .And es b (R.less (Nat.le_succ _)) (S.after k) h2) (fun c s₂ h₂ => ⟨h₂.1, keeps_trans k h₂.2⟩) fun _ _ h => h
    | Or =>
      simp only [evA_z, evA_an, evA_on, evA_ac, evA_oc] at h
      obtain ⟨c, h1, h2⟩ := obind h
      refine wpAny_allTrue_Or_cons (wpAny_mono (hT A env sc Hd s ρ e c (R.less (Nat.le_succ _)) S h1) (fun c' s₁ h₁ => ?_) fun _ _ h => h)
      obtain ⟨rfl, k⟩ := h₁
      cases c' with
      | true => simp at h2; subst h2; exact ⟨rfl, k⟩
      | false =>
        simp only [Bool.false_eq_true, if_false] at h2 ⊢
        exact wpAny_mono (hA A env sc Hd s₁ ρ .Or es b (R.less (Nat.le_succ _)) (S.after k) h2) (fun c s₂ h₂ => ⟨h₂.1, keeps_trans k h₂.2⟩) fun _ _ h => h

theorem evTs_step (hT : EvTOk prog w T h₀ n) : EvTsOk prog w T h₀ (n + 1) := fun A env sc Hd s ρ ifs b R S h => by
  cases ifs with
  | nil =>
    simp only [evTs_z, evTs_ni, evTs_on, Option.some.injEq] at h
    subst h
    show wpAny _ A (forIn ([] : List Expr) true _) _ _ s
    rw [List.forIn_nil]
    exact wpAny_pure ⟨rfl, keeps_refl _⟩
  | cons e r =>
    cases r with
    | nil =>
      simp only [evTs_z, evTs_ni, evTs_on] at h
      show wpAny _ A (forIn [e] true _) _ _ s
      rw [List.forIn_cons]
      rw [if_pos rfl]
      refine wpAny_bind (wpAny_bind (wpAny_mono (hT A env sc Hd s ρ e b (R.less (Nat.le_succ _)) S h) (fun c s₁ h₁ => wpAny_pure ?_) fun _ _ h => h))
      dsimp only
      rw [List.forIn_nil]
      exact wpAny_pure h₁
    | cons e' r => exact nope h

theorem evT_step (hE : EvOk prog w T h₀ n) (hB : EvBOk prog w T h₀ n) (hT : EvTOk prog w T h₀ n) (hA : EvAOk prog w T h₀ n) : EvTOk prog w T h₀ (n + 1) := fun A env sc Hd s ρ e b R S h => by
  have R' := R.less (Nat.le_succ _)
  cases e with
  | UnaryOp op x p =>
    cases op with
    | Not =>
      simp only [evT_z, evT_no, evT_bo, evT_c1, evT_c2, evT_ca] at h
      obtain ⟨c, h1, rfl⟩ := omap h
      exact PyProof.Rows.isTrue_not (wpAny_mono (hT A env sc Hd s ρ x c R' S h1) (fun c' s₁ h₁ => ⟨by rw [h₁.1], h₁.2⟩) fun _ _ h => h)
    | _ => exact isTrue_bool hE R' S h rfl
  | BoolOp op vs p =>
    simp only [evT_z, evT_no, evT_bo, evT_c1, evT_c2, evT_ca] at h
    exact wpAny_isTrue_BoolOp (hA A env sc Hd s ρ op vs b R' S h)
  | IfExp a b c p => exact nope h
  | Compare l ops rs p =>
    match ops, rs, h with
    | [op], [r], h =>
      simp only [evT_z, evT_no, evT_bo, evT_c1, evT_c2, evT_ca] at h
      obtain ⟨a, h1, h2⟩ := obind h
      obtain ⟨b', h3, h4⟩ := obind h2
      refine wpAny_isTrue_Compare1 (operands hB R' S h1 h3 fun va vb s₂ k ra rb => ?_) (plain_marks (evB_plain h3) op)
      exact compare_bool R' h4 ra rb ⟨rfl, k⟩
    | [op, op'], [r, r'], h =>
      simp only [evT_z, evT_no, evT_bo, evT_c1, evT_c2, evT_ca] at h
      have hp' : plainE r' = true := by by_cases q : plainE r' = true; exact q; rw [if_neg q] at h; cases h
      rw [if_pos hp'] at h
      obtain ⟨a, h1, h2⟩ := obind h
      obtain ⟨b', h3, h4⟩ := obind h2
      obtain ⟨c, h5, h6⟩ := obind h4
      refine PyProof.Rows.isTrue_chain ?_ ?_
      · refine wpAny_mono (hB A env sc Hd s ρ l a R' S h1) (fun va s₁ ha => ?_) fun _ _ h => h
        refine PyProof.Rows.test_link (wpAny_mono (hB A env sc Hd s₁ ρ r b' R' (S.after ha.1) h3) (fun vb s₂ hb => ?_) fun _ _ h => h)
        have k₂ := keeps_trans ha.1 hb.1
        refine compare_bool R' h5 (ha.2.keeps (keeps_get hb.1)) hb.2 ?_
        cases c with
        | false => simp at h6; subst h6; exact ⟨rfl, k₂⟩
        | true =>
          simp only [if_true] at h6 ⊢
          obtain ⟨b₂, h7, h8⟩ := obind h6
          refine PyProof.Rows.test_last (wpAny_mono (hB A env sc Hd s₂ ρ r' b₂ R' (S.after k₂) h7) (fun vc s₃ hc => ?_) fun _ _ h => h)
          exact compare_bool R' h8 (hb.2.keeps (keeps_get hc.1)) hc.2 ⟨rfl, keeps_trans k₂ hc.1⟩
      · simp only [lastMarks]
        exact plain_marks hp' op'
    | [], _, h => exact nope h
    | [_], [], h => exact nope h
    | [_], _ :: _ :: _, h => exact nope h
    | [_, _], [], h => exact nope h
    | [_, _], [_], h => exact nope h
    | [_, _], _ :: _ :: _ :: _, h => exact nope h
    | _ :: _ :: _ :: _, _, h => exact nope h
  | _ => exact isTrue_bool hE R' S h rfl
end
end Mine

namespace Mine
open PySem

section
variable {prog : Program} {w : World} {T : Tbl} {h₀ : Heap} {A : Around} {env : Env} {sc : Scope} {Hd : List Addr} {s : Shared} {ρ : Vars} {n : Nat}

theorem Glo.fn (G : Glo h₀ T) (S : ESt h₀ env sc Hd s.heap ρ) {f : Str} {p : Pos} {fn : Fn} (hk : isGlobal sc f = true) (hf : fnOf T f = some fn) :
    ∃ a, FunAt h₀ a fn ∧ ∀ (Q : Value → Shared → Prop) (E : Value → Shared → Prop), Q (.ref a) s → wpAny (model prog w) A (eval (.Name f p) env) Q E s := by
  obtain ⟨mg, mb, h1, h2, h3, h4⟩ := G.ns
  obtain ⟨hp, a, ha, hfun⟩ := h3 f fn hf
  obtain ⟨m, F, _⟩ := S.fr
  have hk' : env.kindOf f = some .globalImplicit := S.kinds f .globalImplicit (by simpa [isGlobal] using hk)
  refine ⟨a, hfun, fun Q E hQ => PySem.Calls.Name_function_global F.fn hk' (PySem.Calls.loadGlobal_global (mg := mg) ?_ ha hQ) (plain_debug hp)⟩
  rw [F.gl]; exact h1.keeps S.base
theorem Glo.built (G : Glo h₀ T) (S : ESt h₀ env sc Hd s.heap ρ) {f : Str} {p : Pos} {fv : Value} (hk : isGlobal sc f = true) (hf : f ∈ builtNames) (hb : bootBuiltins f = some fv) (Q : Value → Shared → Prop) (E : Value → Shared → Prop) (hQ : Q fv s) :
    wpAny (model prog w) A (eval (.Name f p) env) Q E s := by
  obtain ⟨mg, mb, h1, h2, h3, h4⟩ := G.ns
  obtain ⟨hm, hb'⟩ := h4 f hf
  obtain ⟨m, F, _⟩ := S.fr
  have hk' : env.kindOf f = some .globalImplicit := S.kinds f .globalImplicit (by simpa [isGlobal] using hk)
  have hd : (f == ("__debug__" : Str)) = false := by
    have : ∀ g ∈ builtNames, (g == ("__debug__" : Str)) = false := by decide +kernel
    exact this f hf
  refine PySem.Calls.Name_function_global F.fn hk' (PySem.Calls.loadGlobal_builtin (mg := mg) (mb := mb) ?_ hm ?_ (hb'.trans hb) hQ) hd
  · rw [F.gl]; exact h1.keeps S.base
  · rw [F.bl]; exact h2.keeps S.base

theorem builtin_known {f : Str} {ds : List PyData} {d : PyData} (h : builtin f ds = some d) : f ∈ builtNames ∧ ∃ fv, bootBuiltins f = some fv ∧ ((∃ id, fv = .builtin id) ∨ (∃ T, fv = .type T)) := by
  unfold builtin at h
  split at h
  · rename_i q; subst q; exact ⟨by decide +kernel, .builtin "len", by decide +kernel, .inl ⟨_, rfl⟩⟩
  split at h
  · rename_i q; subst q; exact ⟨by decide +kernel, .builtin "sorted", by decide +kernel, .inl ⟨_, rfl⟩⟩
  split at h
  · rename_i q; subst q; exact ⟨by decide +kernel, .builtin "min", by decide +kernel, .inl ⟨_, rfl⟩⟩
  split at h
  · rename_i q; subst q; exact ⟨by decide +kernel, .type "list", by decide +kernel, .inr ⟨_, rfl⟩⟩
  split at h
  · rename_i q; subst q; exact ⟨by decide +kernel, .type "tuple", by decide +kernel, .inr ⟨_, rfl⟩⟩
  · cases h

theorem star_any {es : List Expr} {pos : Pos} {env : Env} (h : ∀ e ∈ es, plainE e = true) : (backTo pos (starEach es env)).any (·.1) = false := by
  induction es with
  | nil => rfl
  | cons e es ih =>
    rw [plain_star (h e List.mem_cons_self)]
    show (false || (backTo pos (starEach es env)).any (·.1)) = false
    rw [ih fun x hx => h x (List.mem_cons_of_mem _ hx)]; rfl
theorem back_cons {a : Expr} {as : List Expr} {pos : Pos} {env : Env} (h : plainE a = true) : backTo pos (starEach (a :: as) env) = (false, eval a env) :: backTo pos (starEach as env) := by
  rw [plain_star h]; rfl

/-- a call of a builtin whose value is known -/
theorem callWith_known {fv : Value} {a : Expr} {as : List Expr} {pos : Pos} {Q : Value → Shared → Prop} {E : Value → Shared → Prop} (hf : (∃ id, fv = .builtin id) ∨ (∃ T, fv = .type T)) (hp : ∀ e ∈ a :: as, plainE e = true)
    (h : wpAny (model prog w) A (spliced (backTo pos (starEach (a :: as) env))) (fun vs s₁ => wpAny (model prog w) A (call fv vs) Q E s₁) E s) :
    wpAny (model prog w) A (callWith pos fv [] (backTo pos (starEach (a :: as) env)) []) Q E s := by
  have ha := back_cons (pos := pos) (env := env) (as := as) (hp a List.mem_cons_self)
  have hs := star_any (pos := pos) (env := env) hp
  rw [ha] at h hs ⊢
  rcases hf with ⟨id, rfl⟩ | ⟨T, rfl⟩
  · exact PySem.Calls.callWith_builtin hs (PySem.Calls.evalArgs_plain h)
  · exact PyProof.Rows.callWith_type hs (PySem.Calls.evalArgs_plain h)

theorem call_known (G : Glo h₀ T) (hBL : EvBLOk prog w T h₀ n) (R : Room n A) (S : ESt h₀ env sc Hd s.heap ρ) {f : Str} {p pos : Pos} {a : Expr} {as : List Expr} {fv : Value} {ds : List PyData} (hk : isGlobal sc f = true) (hf : f ∈ builtNames)
    (hb : bootBuiltins f = some fv) (ht : (∃ id, fv = .builtin id) ∨ (∃ T, fv = .type T)) (h : evBL T n sc ρ (a :: as) = some ds) {Q : Value → Shared → Prop}
    (hQ : ∀ vs s₁, Keeps s s₁ → BAll s₁.heap Hd vs ds → wpAny (model prog w) A (call fv vs) Q NoE s₁) :
    wpAny (model prog w) A (eval (.Call (.Name f p) (a :: as) [] pos) env) Q NoE s := by
  have hL := hBL A env sc Hd s ρ (a :: as) pos ds R S h
  refine PyProof.Rows.Call_ (G.built S hk hf hb _ _ ?_)
  exact callWith_known ht hL.2 (wpAny_mono hL.1 (fun vs s₁ h₁ => hQ vs s₁ h₁.1 h₁.2) fun _ _ h => h)

theorem call_own (G : Glo h₀ T) (hL : EvLOk prog w T h₀ n) (hF : EvFOk prog w T h₀ n) (R : Room n A) (S : ESt h₀ env sc Hd s.heap ρ) {f : Str} {p pos : Pos} {a : Expr} {as : List Expr} {fn : Fn} {ds : List PyData} {d : PyData} (hk : isGlobal sc f = true)
    (hf : fnOf T f = some fn) (h : evL T n sc ρ (a :: as) = some ds) (h2 : evF T n fn ds = some d) :
    wpAny (model prog w) A (eval (.Call (.Name f p) (a :: as) [] pos) env) (Ends s Hd d) NoE s := by
  obtain ⟨fa, hfun, hload⟩ := G.fn (prog := prog) (w := w) (A := A) (p := p) S hk hf
  have hL' := hL A env sc Hd s ρ (a :: as) pos ds R S h
  refine PyProof.Rows.Call_ (hload _ _ ?_)
  obtain ⟨o, fd, ho, hd, _⟩ := hfun.at_
  refine PySem.Calls.callWith_function (o := o) (fd := fd) ?_
  have ha := back_cons (pos := pos) (env := env) (as := as) (hL'.2 a List.mem_cons_self)
  have h1 := hL'.1
  rw [ha] at h1 ⊢
  refine PySem.Calls.evalArgs_plain (wpAny_mono h1 (fun vs s₁ h₁ => ⟨⟨keeps_get h₁.1 _ _ (S.base _ _ ho), hd⟩, ?_⟩) fun _ _ h => h)
  have S₁ := S.after h₁.1
  exact wpAny_mono (hF A Hd s₁ fn fa vs ds d R hfun S₁.base S₁.low h₁.2 h2) (fun v s₂ h₂ => Ends.after h₁.1 h₂) fun _ _ h => h

/-- what a comprehension ends in -/
theorem comp_ok (hE : EvOk prog w T h₀ n) (hT : EvTsOk prog w T h₀ n) (hI : EvIOk prog w T h₀ n) (R : Room n A) (S : ESt h₀ env sc Hd s.heap ρ) {elt target iter : Expr} {ifs : List Expr} {csc : Scope} {pos : Pos} {items rs : List PyData}
    (hO : compOk sc csc target = true) (h1 : evI T n sc ρ iter target = some items) (h2 : compL (fun ρ => evTs T n csc ρ ifs) (fun ρ => ev T n csc ρ elt) (bindT (freeOf csc ρ) target) items = some rs) :
    wpAny (model prog w) A (eval (.ListComp elt [⟨target, iter, ifs, 0⟩] csc pos) env) (Ends s Hd (.list rs)) NoE s := by
  obtain ⟨hkind, htok, hnm⟩ := compOk_spec hO
  obtain ⟨hi, hsz, hpl⟩ := hI A env sc Hd s ρ iter target items R S h1
  rw [eval_ListComp]
  refine wpAny_comprehension_free (use := none) rfl (fun x => plain_fold hpl env x) (closure_pure fun p hp hf => ?_) hkind (fun x hx hl => ?_)
    (wpAny_mono hi (fun xv s₁ h₁ => wpAny_mono h₁ (fun it s₂ h₂ => ?_) fun _ _ e => e) fun _ _ e => e)
  · obtain ⟨_, _, _, q⟩ := hnm p.1 p.2 hp
    rcases q hf with q | q
    · exact (S.kinds p.1 _ q).2
    · exact (S.kinds p.1 _ q).2
  · obtain ⟨_, _, q, _⟩ := hnm x.1 x.2 hx
    rw [← kindIn_lookup]; exact q hl
  · obtain ⟨k, wr, St, P, hst, hfr⟩ := h₂
    refine comp_run (RR := fun acc C => compPost (model prog w) A NoE none (Ends s Hd (.list rs)) acc C) R hE hT P hst hO S k hfr h2 hsz ?_
    intro D C h' tk m' ys c hD hC hDC hn hlst hrep hk
    refine ⟨m', hn, fun h'' hs'' => ?_⟩
    have hC₀ : s.heap.get? C = none := by
      cases q : s.heap.get? C with
      | none => rfl
      | some o => have := keeps_get k _ _ q; rw [hC] at this; cases this
    have hkeep : ∀ b o, s.heap.get? b = some o → h''.get? b = some o := fun b o q => by
      refine hs''.extBut b o (fun e => by rw [e, hC₀] at q; cases q) (hk b o (fun hm => ?_) (keeps_get k b o q))
      rw [hfr b hm] at q; cases q
    have hDHd : D ∉ Hd := fun hm => by
      obtain ⟨o, q⟩ := S.low D hm
      have := keeps_get k _ _ q; rw [hD] at this; cases this
    obtain ⟨hp, tp, es, _⟩ := k
    refine ⟨⟨h'', tk, by rw [es], hkeep⟩, ?_⟩
    refine .list (n := c) (hs''.extBut _ _ hDC hlst) hDHd (hrep.mono fun b o hb q => ⟨hs''.extBut b o (fun e => hb (by simp [e])) q, fun hm => hb (by simp [hm])⟩)
end
end Mine

namespace Mine
open PySem

section
variable {prog : Program} {w : World} {T : Tbl} {h₀ : Heap} {A : Around} {env : Env} {sc : Scope} {Hd : List Addr} {s : Shared} {ρ : Vars} {n : Nat}

theorem iter_any {target : Expr} {v : Value} {xs : List PyData} (hh : A.handled = none) (h : goOver target xs = true) (r : Rep s.heap Hd v (.list xs)) :
    wpAny (model prog w) A (pyIter v) (IterEnds prog w A s Hd target xs) NoE s ∧ xs.length ≤ 2 ^ 20 := by
  unfold goOver at h
  simp only [Bool.and_eq_true, decide_eq_true_eq] at h
  refine ⟨?_, h.1⟩
  cases target with
  | Name x p => exact iter_list_name hh rfl r
  | Tuple ts k p =>
    refine iter_list_tup hh rfl (fun d hd => ?_) r
    have := List.all_eq_true.mp h.2 d hd
    cases d <;> first | exact ⟨_, rfl⟩ | cases this
  | _ => cases h.2

theorem range_one {a b : Int} (ha : mid a = true) (hb : mid b = true) : Builtin.Range.small a b 1 = true ∧ Builtin.Range.rangeSize a b 1 = ((b - a).toNat : Int) ∧ (b - a).toNat ≤ 2 ^ 20 := by
  simp only [mid, decide_eq_true_eq] at ha hb
  refine ⟨small_one (by omega) (by omega) (by omega) (by omega), ?_, by omega⟩
  rw [rangeSize_one]; split <;> omega

theorem range_run {target : Expr} {a b c : Int} {t u x : Tok} {r : Addr} {k : Nat} {items : List PyData} (hh : A.handled = none) (ht : isName target = true) (hr : IsRange s.heap r a b c t u x)
    (hsm : Builtin.Range.small a b c = true) (hsz : Builtin.Range.rangeSize a b c = (k : Int)) (hi : items = (List.range k).map fun (j : Nat) => PyData.int (a + (j : Int) * c)) :
    wpAny (model prog w) A (pyIter (.ref r)) (IterEnds prog w A s Hd target items) NoE s := by
  subst hi; exact iter_range (v := .none) hh ht hr hsm hsz

set_option tactic.hygienic true in
theorem range_ok {target : Expr} {ds items : List PyData} {vs : List Value} (hh : A.handled = none) (ht : isName target = true) (e : rangeOf ds = some items) (r : BAll s.heap Hd vs ds) :
    wpAny (model prog w) A (call (.type "range") vs) (fun xv s₁ => wpAny (model prog w) A (pyIter xv) (IterEnds prog w A s Hd target items) NoE s₁) NoE s ∧ items.length ≤ 2 ^ 20 := by
  unfold rangeOf at e
  split at e
  · rename_i b
    split at e
    · rename_i hb
      cases e
      obtain ⟨v, rfl, r1⟩ := r.one_inv
      obtain ⟨t, rfl⟩ := r1.int_inv
      obtain ⟨h1, h2, h3⟩ := range_one (a := 0) (b := b) (by decide) hb
      refine ⟨call_range_1 (wpAny_mono (range_run hh ht (IsRange.new ..) h1 h2 ?_) (fun it s₂ h => IterEnds.after (keeps_push s _ _) h) fun _ _ h => h), by simpa [rangeL] using h3⟩
      simp [rangeL]
    · cases e
  · rename_i a b
    split at e
    · rename_i hb
      cases e
      simp only [Bool.and_eq_true] at hb
      obtain ⟨v, u, rfl, r1, r2⟩ := r.two_inv
      obtain ⟨t, rfl⟩ := r1.int_inv
      obtain ⟨t', rfl⟩ := r2.int_inv
      obtain ⟨h1, h2, h3⟩ := range_one hb.1 hb.2
      refine ⟨call_range_2 (wpAny_mono (range_run hh ht (IsRange.new ..) h1 h2 ?_) (fun it s₂ h => IterEnds.after (keeps_push s _ _) h) fun _ _ h => h), by simpa [rangeL] using h3⟩
      simp [rangeL]
    · cases e
  · rename_i a b c
    split at e
    · rename_i hb
      obtain ⟨rfl, ha, hb⟩ := hb
      cases e
      obtain ⟨v, u, z, rfl, r1, r2, r3⟩ := r.three_inv
      obtain ⟨t, rfl⟩ := r1.int_inv
      obtain ⟨t', rfl⟩ := r2.int_inv
      obtain ⟨t'', rfl⟩ := r3.int_inv
      simp only [mid, decide_eq_true_eq] at ha hb
      have hsz : Builtin.Range.rangeSize a b (-1) = ((a - b).toNat : Int) := PySem.W.rangeSize_downNat a b
      have hsm : Builtin.Range.small a b (-1) = true := PySem.W.small_down (by omega) (by omega) (by omega) (by omega)
      refine ⟨call_range_3 (by decide) (wpAny_mono (range_run hh ht (IsRange.new ..) hsm hsz ?_) (fun it s₂ h => IterEnds.after (keeps_push s _ _) h) fun _ _ h => h) (.inl (PyProof.noPylong_small (by decide))), ?_⟩
      · simp only [downL, List.map_map]
        apply List.map_congr_left
        intro j _
        show PyData.int (a - (j : Int)) = PyData.int (a + (j : Int) * (-1))
        congr 1; omega
      · simp [downL]; omega
    · cases e
  · cases e

set_option tactic.hygienic true in
theorem evI_step (G : Glo h₀ T) (hE : EvOk prog w T h₀ n) (hBL : EvBLOk prog w T h₀ n) : EvIOk prog w T h₀ (n + 1) := fun A env sc Hd s ρ e target items R S h => by
  have R' := R.less (Nat.le_succ _)
  have general : ∀ e, (ev T n sc ρ e).bind (fun d => (listOf d).bind fun xs => if goOver target xs = true then some xs else none) = some items →
      wpAny (model prog w) A (eval e env) (fun xv s₁ => wpAny (model prog w) A (pyIter xv) (IterEnds prog w A s Hd target items) NoE s₁) NoE s ∧ items.length ≤ 2 ^ 20 ∧ plainE e = true := fun e h => by
    obtain ⟨d, h1, h2⟩ := obind h
    obtain ⟨xs, h3, h4⟩ := obind h2
    have hd := listOf_inv h3
    subst hd
    split at h4
    · rename_i hg
      cases h4
      have hlen : items.length ≤ 2 ^ 20 := by
        unfold goOver at hg
        simp only [Bool.and_eq_true, decide_eq_true_eq] at hg
        exact hg.1
      refine ⟨wpAny_mono (hE A env sc Hd s ρ e _ R' S h1) (fun v s₁ hv => ?_) fun _ _ h => h, hlen, ev_plain h1⟩
      exact wpAny_mono (iter_any R.hd hg hv.2).1 (fun it s₂ h => IterEnds.after hv.1 h) fun _ _ h => h
    · cases h4
  by_cases hc : ∃ f q a as p, e = .Call (.Name f q) (a :: as) [] p
  · obtain ⟨f, q, a, as, p, rfl⟩ := hc
    simp only [evI_z, evI_na, evI_su, evI_ca] at h
    split at h
    · rename_i hr
      obtain ⟨hk, rfl⟩ := hr
      split at h
      · rename_i x px
        obtain ⟨ds, h1, h2⟩ := obind h
        have lenok : items.length ≤ 2 ^ 20 := by
          unfold rangeOf at h2
          split at h2 <;> try (cases h2; done)
          · split at h2
            · rename_i hb; cases h2; simp only [mid, decide_eq_true_eq] at hb; simp [rangeL]; omega
            · cases h2
          · split at h2
            · rename_i hb; cases h2; simp only [mid, decide_eq_true_eq, Bool.and_eq_true] at hb; simp [rangeL]; omega
            · cases h2
          · split at h2
            · rename_i hb; cases h2; simp only [mid, decide_eq_true_eq] at hb; simp [downL]; omega
            · cases h2
        refine ⟨call_known G hBL R' S hk (by decide +kernel) (fv := .type "range") (by decide +kernel) (.inr ⟨_, rfl⟩) h1 fun vs s₁ k₁ r₁ => ?_, lenok, rfl⟩
        exact wpAny_mono (range_ok R.hd rfl h2 r₁).1 (fun xv s₂ h => wpAny_mono h (fun it s₃ h => IterEnds.after k₁ h) fun _ _ h => h) fun _ _ h => h
      · cases h
    · split at h
      · rename_i hr
        obtain ⟨hk, rfl⟩ := hr
        split at h
        · obtain ⟨d, h1, h2⟩ := obind h
          obtain ⟨xs, h3, h4⟩ := obind h2
          have hd := listOf_inv h3
          subst hd
          split at h4
          · rename_i hsz
            cases h4
            have hp := ev_plain h1
            refine ⟨?_, by rw [pairsFrom_length]; exact hsz, rfl⟩
            refine PyProof.Rows.Call_ (G.built S hk (by decide +kernel) (fv := .type "enumerate") (by decide +kernel) _ _ ?_)
            refine callWith_known (.inr ⟨_, rfl⟩) (by intro e he; rw [List.mem_singleton.mp he]; exact hp) ?_
            rw [back_cons hp]
            refine PySem.Calls.spliced_cons (wpAny_mono (hE A env sc Hd s ρ a _ R' S h1) (fun v s₁ hv => PySem.Calls.spliced_nil ?_) fun _ _ h => h)
            obtain ⟨l, vs, c, rfl, hg, hn, hr⟩ := hv.2.list_inv
            refine call_enumerate_list (lst_isList hg) fun h' he hit hsz' hk' => ?_
            have k₂ : Keeps s₁ { s₁ with heap := h' } := keeps_heap hk'
            refine wpAny_mono (iter_enum (s₀ := s₁) R.hd rfl k₂ (getNone_of_le (Nat.le_succ _)) (getNone_of_le (Nat.le_refl _)) (Nat.succ_ne_self _) he hit hg hn hr) (fun it s₂ h => IterEnds.after hv.1 h) fun _ _ h => h
          · cases h4
        · cases h
      · exact general _ h
  · refine general e ?_
    cases e <;> try (exact h)
    rename_i func args kws pos
    cases func <;> try (exact h)
    cases args <;> try (exact h)
    cases kws <;> first | (exact h) | exact absurd ⟨_, _, _, _, _, rfl⟩ hc
end
end Mine

namespace Mine
open PySem

section
variable {prog : Program} {w : World} {T : Tbl} {h₀ : Heap} {A : Around} {env : Env} {sc : Scope} {Hd : List Addr} {s : Shared} {ρ : Vars} {n : Nat}

theorem slice_run (R : Room n A) (hB : EvBOk prog w T h₀ n) (hO : EvOOk prog w T h₀ n) (S : ESt h₀ env sc Hd s.heap ρ) {v : Expr} {lo hi st : Option Expr} {p pos : Pos} {xs ys : List PyData} {a b c : Option Int}
    (h1 : evB T n sc ρ v = some (.list xs)) (h2 : evO T n sc ρ lo = some a) (h3 : evO T n sc ρ hi = some b)
    (hst : ∀ s₁ : Shared, Keeps s s₁ → ∀ Q : Value → Shared → Prop, (∀ stv s₂, Keeps s₁ s₂ → IsPart stv c → Q stv s₂) → wpAny (model prog w) A (evalPart st env) Q NoE s₁)
    (h0 : c ≠ some 0) (hsz : xs.length ≤ 2 ^ 20)
    (hp : ∀ (h : Heap) (Hd : List Addr) vs, RepAll h Hd vs xs → ∃ ws, slicePick vs.toArray a b c = List.toArray ws ∧ RepAll h Hd ws ys)
    (hs : ∀ o i, ∃ ops, subscripted (.Slice lo hi st p) false o i = operate ops (getItem o i)) :
    wpAny (model prog w) A (eval (.Subscript v (.Slice lo hi st p) pos) env) (Ends s Hd (.list ys)) NoE s := by
  refine PyProof.Rows.Subscript_ (wpAny_mono (hB A env sc Hd s ρ v _ R S h1) (fun vv s₁ hv => ?_) fun _ _ h => h)
  refine wpAny_Slice (wpAny_mono (hO A env sc Hd s₁ ρ lo a R (S.after hv.1) h2) (fun lov s₂ hl => ?_) fun _ _ h => h)
  have k₂ := keeps_trans hv.1 hl.1
  refine wpAny_mono (hO A env sc Hd s₂ ρ hi b R (S.after k₂) h3) (fun hiv s₃ hh => ?_) fun _ _ h => h
  have k₃ := keeps_trans k₂ hh.1
  refine hst s₃ k₃ _ fun stv s₄ k₄ hstv => ?_
  have k₄' := keeps_trans k₃ k₄
  have S₄ := S.after k₄'
  exact wpAny_mono (slice_ok (ws := []) (ops := []) (fun b hb => S₄.lt b hb) (((hv.2.keeps (keeps_get hl.1)).keeps (keeps_get hh.1)).keeps (keeps_get k₄)) hl.2.part hh.2.part hstv h0 hsz (fun vs r => hp _ _ vs r) hs)
    (fun v s₅ h => Ends.after k₄' h) fun _ _ h => h

theorem rep_ints {h : Heap} {Hd : List Addr} {v : Value} {i : Int} (r : Rep h Hd v (.int i)) : ∃ t, v = .int i t := r.int_inv

theorem displays (R : Room n A) (hL : EvLOk prog w T h₀ n) (S : ESt h₀ env sc Hd s.heap ρ) {es : List Expr} {ds : List PyData} (h : evL T n sc ρ es = some ds) (hsz : ds.length ≤ 100) {pos : Pos} {k : Nat} :
    wpAny (model prog w) A (eval (.List es pos) env) (fun v s' => Ends s Hd (.list ds) v s' ∧ ∃ a, v = .ref a ∧ s.heap.get? a = none) NoE s ∧ wpAny (model prog w) A (eval (.Tuple es k pos) env) (Ends s Hd (.tuple ds)) NoE s := by
  have hl := (hL A env sc Hd s ρ es pos ds R S h).1
  refine ⟨PyProof.Rows.List_ (wpAny_mono hl (fun vs s₁ h₁ => ?_) fun _ _ h => h), PyProof.Rows.Tuple_ (wpAny_mono hl (fun vs s₁ h₁ => ?_) fun _ _ h => h)⟩
  · have hlen := h₁.2.length
    refine wpAny_newObj_type (h := ?_) (by show vs.toArray.size ≤ sizeLine; simp [sizeLine_eq]; omega)
    refine ⟨(ends_push (fun b hb => (S.after h₁.1).lt b hb) h₁.2).after h₁.1, _, rfl, ?_⟩
    cases e : s.heap.get? s₁.heap.objs.size with
    | none => rfl
    | some o => exact absurd (Heap.lt_size (keeps_get h₁.1 _ _ e)) (Nat.lt_irrefl _)
  · have hlen := h₁.2.length
    refine wpAny_newObj_type (h := ?_) (by show vs.toArray.size ≤ sizeLine; simp [sizeLine_eq]; omega)
    exact (ends_pushT (fun b hb => (S.after h₁.1).lt b hb) h₁.2).after h₁.1

theorem evO_none {v : Expr} {d : PyData} (h : evB T n sc ρ v = some d) : evO T n sc ρ none = some none := by
  cases n with
  | zero => exact nope h
  | succ n => rfl

noncomputable def ARev (lo hi : Option Expr) (st : Expr) : Prop := ∃ k q1 q2, lo = none ∧ hi = none ∧ st = .UnaryOp .USub (.Constant (.int 1) k q1) q2
set_option tactic.hygienic true in
theorem rev_inv {v st : Expr} {lo hi : Option Expr} {q p : Pos} {d : PyData} (h : ev T (n + 1) sc ρ (.Subscript v (.Slice lo hi (some st) q) p) = some d) :
    ARev lo hi st := by
  cases st <;> first | exact nope h | skip
  rename_i op x q2
  cases op <;> first | exact nope h | skip
  cases x <;> first | exact nope h | skip
  rename_i c k q1
  cases c <;> first | exact nope h | skip
  rename_i i
  cases i with
  | negSucc _ => exact nope h
  | ofNat i =>
  cases i with
  | zero => exact nope h
  | succ i =>
  cases i with
  | succ _ => exact nope h
  | zero =>
  cases lo with
  | some _ => exact nope h
  | none =>
  cases hi with
  | some _ => exact nope h
  | none => exact ⟨k, q1, q2, rfl, rfl, rfl⟩
theorem idx_inv {v i : Expr} {p : Pos} {d : PyData} (hi : ∀ a b c q, i ≠ .Slice a b c q) (h : ev T (n + 1) sc ρ (.Subscript v i p) = some d) :
    ((evB T n sc ρ v).bind fun d => (ev T n sc ρ i).bind fun k => (intOf k).bind fun k => itemOf d k) = some d := by
  cases i <;> first | exact h | exact absurd rfl (hi _ _ _ _)
theorem and_inv {op : BoolOp} {es : List Expr} {p : Pos} {d : PyData} (h : ev T (n + 1) sc ρ (.BoolOp op es p) = some d) :
    ∃ x y, op = .And ∧ es = [x, y] ∧ ((ev T n sc ρ x).bind fun a => (boolOf a).bind fun b => if b then ev T n sc ρ y else some (.bool false)) = some d := by
  cases op with
  | Or => exact nope h
  | And =>
  match es, h with
  | [], h => exact nope h
  | [_], h => exact nope h
  | [x, y], h => exact ⟨x, y, rfl, rfl, h⟩
  | _ :: _ :: _ :: _, h => exact nope h
theorem cmp_inv {l : Expr} {ops : List CmpOp} {rs : List Expr} {p : Pos} {d : PyData} (h : ev T (n + 1) sc ρ (.Compare l ops rs p) = some d) :
    ∃ op r, ops = [op] ∧ rs = [r] ∧ ((evB T n sc ρ l).bind fun a => (evB T n sc ρ r).bind fun b => (compare op a b).map .bool) = some d := by
  match ops, rs, h with
  | [], _, h => exact nope h
  | [_], [], h => exact nope h
  | [op], [r], h => exact ⟨op, r, rfl, rfl, h⟩
  | [_], _ :: _ :: _, h => exact nope h
  | _ :: _ :: _, _, h => exact nope h
noncomputable def ACall (f : Expr) (as : List Expr) (ks : List Keyword) : Prop := ∃ x q a r, f = .Name x q ∧ as = a :: r ∧ ks = []
theorem call_inv {f : Expr} {as : List Expr} {ks : List Keyword} {p : Pos} {d : PyData} (h : ev T (n + 1) sc ρ (.Call f as ks p) = some d) : ACall f as ks := by
  cases f <;> first | exact nope h | skip
  cases as with
  | nil => exact nope h
  | cons a r =>
  cases ks with
  | cons _ _ => exact nope h
  | nil => exact ⟨_, _, a, r, rfl, rfl, rfl⟩
noncomputable def AComp (gs : List Comprehension) : Prop := ∃ target iter ifs, gs = [⟨target, iter, ifs, 0⟩]
theorem lc_form {elt : Expr} {gs : List Comprehension} {csc : Scope} {p : Pos} {d : PyData} (h : ev T (n + 1) sc ρ (.ListComp elt gs csc p) = some d) : AComp gs := by
  cases gs with
  | nil => exact nope h
  | cons g gs =>
  obtain ⟨target, iter, ifs, k⟩ := g
  cases k with
  | negSucc k => cases gs <;> exact nope h
  | ofNat k =>
  cases k with
  | succ k => cases gs <;> exact nope h
  | zero =>
  cases gs with
  | cons _ _ => exact nope h
  | nil => exact ⟨target, iter, ifs, rfl⟩
theorem lc_inv {elt : Expr} {gs : List Comprehension} {csc : Scope} {p : Pos} {d : PyData} (h : ev T (n + 1) sc ρ (.ListComp elt gs csc p) = some d) :
    ∃ target iter ifs items rs, gs = [⟨target, iter, ifs, 0⟩] ∧ compOk sc csc target = true ∧ evI T n sc ρ iter target = some items ∧ compL (fun ρ => evTs T n csc ρ ifs) (fun ρ => ev T n csc ρ elt) (bindT (freeOf csc ρ) target) items = some rs ∧ d = .list rs := by
  obtain ⟨target, iter, ifs, rfl⟩ := lc_form h
  replace h := ev_lc.symm.trans h
  by_cases hk : compOk sc csc target = true
  · rw [if_pos hk] at h
    obtain ⟨items, h1, h2⟩ := obind h
    obtain ⟨rs, h3, h4⟩ := omap h2
    exact ⟨target, iter, ifs, items, rs, rfl, hk, h1, h3, h4.symm⟩
  · rw [if_neg hk] at h; cases h
theorem cut_list {xs : List PyData} {a b : Option Int} {d : PyData} (h : cut xs a b = some d) : xs.length ≤ 2 ^ 20 ∧ ∃ ys, d = .list ys := by
  unfold cut at h
  by_cases hsz : xs.length ≤ 2 ^ 20
  · rw [if_pos hsz] at h
    refine ⟨hsz, ?_⟩
    cases a <;> cases b <;> dsimp only at h <;> first | (cases h; exact ⟨_, rfl⟩) | (split at h <;> cases h; exact ⟨_, rfl⟩)
  · rw [if_neg hsz] at h; cases h

theorem ev_step (G : Glo h₀ T) (hS : SortTup prog w) (hE : EvOk prog w T h₀ n) (hB : EvBOk prog w T h₀ n) (hO : EvOOk prog w T h₀ n) (hL : EvLOk prog w T h₀ n) (hBL : EvBLOk prog w T h₀ n) (hT : EvTOk prog w T h₀ n) (hTs : EvTsOk prog w T h₀ n)
    (hI : EvIOk prog w T h₀ n) (hF : EvFOk prog w T h₀ n) : EvOk prog w T h₀ (n + 1) := fun A env sc Hd s ρ e d R S h => by
  have R' := R.less (Nat.le_succ _)
  cases e with
  | Constant c k p =>
    cases c with
    | none => cases h; exact wpAny_Constant_none (ends_here .none)
    | bool => cases h; exact wpAny_Constant_bool (ends_here (.bool _))
    | int => cases h; exact wpAny_Constant_int (ends_toks (.int _ _))
    | _ => exact nope h
  | Name x p => exact load_any S (sh_look h) fun v hv => ends_here hv
  | BinOp l op r p =>
    obtain ⟨a, h1, h2⟩ := obind (ev_bin.symm.trans h)
    obtain ⟨b, h3, h4⟩ := obind h2
    refine wpAny_BinOp (operands hB R' S h1 h3 fun va vb s₂ k ra rb => ?_)
    exact wpAny_mono (arith_ok (fun b hb => (S.after k).lt b hb) h4 ra rb) (fun v s₃ h => Ends.after k h) fun _ _ h => h
  | UnaryOp op x p =>
    cases op with
    | USub =>
      obtain ⟨a, h1, h2⟩ := obind (ev_neg.symm.trans h)
      obtain ⟨i, h3, rfl⟩ := omap h2
      cases intOf_inv h3
      refine PyProof.Rows.UnaryOp_ (wpAny_mono (hE A env _ Hd s _ x _ R' S h1) (fun v s₁ hv => ?_) fun _ _ h => h)
      obtain ⟨t, rfl⟩ := hv.2.int_inv
      exact PyProof.Rows.neg_int (Ends.after hv.1 (ends_toks (.int _ _)))
    | _ => exact nope h
  | BoolOp op es p =>
    obtain ⟨x, y, rfl, rfl, h⟩ := and_inv h
    obtain ⟨a, h1, h2⟩ := obind h
    obtain ⟨b, h3, h4⟩ := obind h2
    cases boolOf_inv h3
    refine PyProof.Rows.BoolOp_and (wpAny_mono (hE A env _ Hd s _ x _ R' S h1) (fun v s₁ hv => ?_) fun _ _ h => h)
    rw [hv.2.bool_inv]
    refine wpAny_truthy_bool ?_
    cases b with
    | false => cases h4; exact ⟨hv.1, .bool _⟩
    | true => exact PyProof.Rows.BoolOp_one (wpAny_mono (hE A env _ Hd s₁ _ y _ R' (S.after hv.1) h4) (fun v s₂ h => Ends.after hv.1 h) fun _ _ h => h)
  | IfExp t b o p =>
    obtain ⟨c, h1, h2⟩ := obind (ev_ife.symm.trans h)
    refine PyProof.Rows.IfExp_ (wpAny_mono (hT A env _ Hd s _ t c R' S h1) (fun c' s₁ hc => ?_) fun _ _ h => h)
    obtain ⟨rfl, k⟩ := hc
    cases c' with
    | true => exact wpAny_mono (hE A env _ Hd s₁ _ b _ R' (S.after k) h2) (fun v s₂ h => Ends.after k h) fun _ _ h => h
    | false => exact wpAny_mono (hE A env _ Hd s₁ _ o _ R' (S.after k) h2) (fun v s₂ h => Ends.after k h) fun _ _ h => h
  | Compare l ops rs p =>
    obtain ⟨op, r, rfl, rfl, h⟩ := cmp_inv h
    obtain ⟨a, h1, h2⟩ := obind h
    obtain ⟨b, h3, h4⟩ := obind h2
    obtain ⟨c, h5, rfl⟩ := omap h4
    refine wpAny_Compare1 (operands hB R' S h1 h3 fun va vb s₂ k ra rb => ?_) (plain_marks (evB_plain h3) op)
    exact compare_ok (by have := R.un; omega) h5 ra rb ⟨k, .bool _⟩
  | Subscript v i p =>
    by_cases hx : ∃ a b c q, i = .Slice a b c q
    · obtain ⟨lo, hi, st, ps, rfl⟩ := hx
      cases st with
      | none =>
        obtain ⟨dv, h1, h2⟩ := obind (ev_cut.symm.trans h)
        obtain ⟨xs, h3, h4⟩ := obind h2
        obtain ⟨a, h5, h6⟩ := obind h4
        obtain ⟨b, h7, h8⟩ := obind h6
        cases listOf_inv h3
        obtain ⟨hsz, ys, rfl⟩ := cut_list h8
        refine slice_run R' hB hO S h1 h5 h7 (fun s₁ k Q hQ => wpAny_evalPart_none (hQ _ _ (keeps_refl _) .none)) (by simp) hsz (fun h' Hd' vs r => ?_) (fun o i => ⟨_, rfl⟩)
        obtain ⟨ws, ys', e1, e2, e3, _⟩ := cut_pick h8 r
        cases e2
        exact ⟨ws, e1, e3⟩
      | some st =>
        obtain ⟨k, q1, q2, rfl, rfl, rfl⟩ := rev_inv h
        obtain ⟨dv, h1, h2⟩ := obind (ev_rev.symm.trans h)
        obtain ⟨xs, h3, h4⟩ := obind h2
        cases listOf_inv h3
        by_cases hsz : xs.length ≤ 2 ^ 20
        · rw [if_pos hsz] at h4
          cases h4
          have hn0 : evO T n _ _ none = some none := evO_none h1
          refine slice_run (a := none) (b := none) (c := some (-1)) R' hB hO S h1 hn0 hn0 (fun s₁ k Q hQ => ?_) (by simp) hsz (fun h' Hd' vs r => ⟨vs.reverse, ?_, r.reverse⟩) (fun o i => ⟨_, rfl⟩)
          · exact wpAny_evalPart_some (PyProof.Rows.UnaryOp_ (wpAny_Constant_int (PyProof.Rows.neg_int (hQ _ _ ⟨_, _, rfl, fun _ _ e => e⟩ (.int _ _)))))
          · rw [PySem.W.krv_pick]
        · rw [if_neg hsz] at h4; cases h4
    · obtain ⟨dv, h1, h2⟩ := obind (idx_inv (fun a b c q e => hx ⟨a, b, c, q, e⟩) h)
      obtain ⟨di, h3, h4⟩ := obind h2
      obtain ⟨k, h5, h6⟩ := obind h4
      cases intOf_inv h5
      refine PyProof.Rows.Subscript_ (wpAny_mono (hB A env _ Hd s _ v _ R' S h1) (fun vv s₁ hv => ?_) fun _ _ h => h)
      refine wpAny_mono (hE A env _ Hd s₁ _ i _ R' (S.after hv.1) h3) (fun iv s₂ hi => ?_) fun _ _ h => h
      obtain ⟨t, rfl⟩ := hi.2.int_inv
      have k₂ := keeps_trans hv.1 hi.1
      exact wpAny_mono (index_ok (fun a b c p e => hx ⟨a, b, c, p, e⟩) h6 (hv.2.keeps (keeps_get hi.1))) (fun v s₃ h => Ends.after k₂ h) fun _ _ h => h
  | List es p =>
    obtain ⟨ds, h1, h2⟩ := obind (ev_lst.symm.trans h)
    by_cases hsz : ds.length ≤ 100
    · rw [if_pos hsz] at h2
      cases h2
      exact wpAny_mono (displays (k := 0) R' hL S h1 hsz).1 (fun v s₁ h => h.1) fun _ _ h => h
    · rw [if_neg hsz] at h2; cases h2
  | Tuple es k p =>
    obtain ⟨ds, h1, h2⟩ := obind (ev_tup.symm.trans h)
    by_cases hsz : ds.length ≤ 100
    · rw [if_pos hsz] at h2
      cases h2
      exact (displays R' hL S h1 hsz (pos := p)).2
    · rw [if_neg hsz] at h2; cases h2
  | Call f as ks p =>
    obtain ⟨x, q, a, r, rfl, rfl, rfl⟩ := call_inv h
    replace h := ev_call.symm.trans h
    by_cases hk : isGlobal sc x = true
    case neg => rw [if_neg hk] at h; cases h
    rw [if_pos hk] at h
    cases hf : fnOf T x with
    | some fn =>
      rw [hf] at h
      obtain ⟨ds, h1, h2⟩ := obind h
      exact call_own G hL hF R' S hk hf h1 h2
    | none =>
      rw [hf] at h
      obtain ⟨ds, h1, h2⟩ := obind h
      obtain ⟨hm, fv, hb, ht⟩ := builtin_known h2
      refine call_known G hBL R' S hk hm hb ht h1 fun vs s₁ k₁ r₁ => ?_
      exact wpAny_mono (builtin_ok hS R'.hd (by have := R'.un; omega) (fun b hb => (S.after k₁).lt b hb) hb h2 r₁) (fun v s₂ h => Ends.after k₁ h) fun _ _ h => h
  | ListComp elt gs csc p =>
    obtain ⟨target, iter, ifs, items, rs, rfl, hO', h2, h3, rfl⟩ := lc_inv h
    exact comp_ok hE hTs hI R' S hO' h2 h3
  | _ => exact nope h
end
end Mine

namespace Mine
open PySem

theorem lst_update {h : Heap} {l : Addr} {vs ws : List Value} {n : Nat} {f : Array Value → Array Value} (hl : h.get? l = some (lstO vs n)) (hf : f vs.toArray = ws.toArray) :
    ∃ n', (h.update l (Obj.mapSeq f)).get? l = some (lstO ws n') := by
  have e := Heap.get?_update_self (Obj.mapSeq f) hl rfl
  rw [e]
  simp only [Obj.mapSeq, hf]
  exact ⟨_, rfl⟩

section
variable {prog : Program} {w : World} {A : Around} {E : Value → Shared → Prop} {s : Shared}
theorem setItem_ok {l : Addr} {vs : List Value} {n j : Nat} {k : Int} {t : Tok} {v : Value} {Q : Unit → Shared → Prop} (hl : s.heap.get? l = some (lstO vs n)) (hk : placeIn k vs.length = some j) (hsz : vs.length ≤ 2 ^ 20)
    (hQ : ∀ h' n', h'.get? l = some (lstO (vs.set j v) n') → Heap.SameBut l s.heap h' → Q () { s with heap := h' }) :
    wpAny (model prog w) A (setItem (.ref l) (.int k t) v) Q E s := by
  have hL := lst_isList hl
  obtain ⟨hseq, hj, hlo, hhi⟩ := placeIn_seq hk
  obtain ⟨n', hn'⟩ := lst_update (f := (·.setIfInBounds j v)) (ws := vs.set j v) hl (by simp)
  have hx' : vs.toArray[j]? = some vs.toArray[j] := Array.getElem?_eq_getElem (by simpa using hj)
  unfold setItem
  try with_reducible refine wpAny_holding ?_
  first | refine wpAny_bind (wpAny_pure ?_) | skip
  refine wpAny_bind (wpAny_sequenceKey hL.typeIs (by decide) ?_)
  refine wpAny_bind (wpAny_callSpecial?_slot (name := Str.ofString "__setitem__") hL.typeIs slot_list_setitem
    (wpAny_call_entry slot_list_setitem hL.typeIs entry_list_setitem ?_ (args_list_setitem _ _ _)))
  show wpAny _ _ (Builtin.List.listSubscript? (.int k t) >>= _) _ _ s
  have hq := hQ _ _ hn' (Heap.SameBut.update ..)
  by_cases h0 : 0 ≤ k
  · refine wpAny_bind (wpAny_listSubscript_int (fitsIndex_of h0 (by omega)) ?_)
    have hkj : k.toNat = j := by
      unfold placeIn at hk
      rw [if_pos h0, if_pos hhi] at hk
      exact Option.some.inj hk
    obtain ⟨i, rfl⟩ := Int.eq_ofNat_of_zero_le h0
    have hij : i = j := by simpa using hkj
    subst hij
    show wpAny _ _ ((seqItemAt l i >>= fun r => pure (r.map (i, ·))) >>= _) _ _ s
    refine wpAny_bind (wpAny_bind (wpAny_seqItemAt hl rfl (wpAny_pure ?_)))
    rw [hx']
    show wpAny _ _ (setSeqItemAt l i v >>= _) _ _ s
    refine wpAny_bind (wpAny_setSeqItemAt hl rfl ?_)
    first
      | exact wpAny_bind (wpAny_pure (wpAny_pure ⟨.none, rfl, wpAny_pure hq⟩))
      | exact wpAny_pure ⟨.none, rfl, wpAny_pure hq⟩
  · refine wpAny_bind (wpAny_listSubscript_int (fitsIndex_neg (by omega) (by omega)) ?_)
    obtain ⟨i, rfl⟩ : ∃ i : Nat, k = Int.negSucc i := by
      cases k with
      | ofNat n => exact absurd (Int.natCast_nonneg n) h0
      | negSucc n => exact ⟨n, rfl⟩
    show wpAny _ _ ((Builtin.List.listItems (.ref l) >>= fun xs => pure ((seqIndex? (Int.negSucc i) xs.size).bind fun i => xs[i]?.map (i, ·))) >>= _) _ _ s
    refine wpAny_bind (wpAny_bind ?_)
    show wpAny _ _ (seqItems? (.ref l) >>= _) _ _ s
    refine wpAny_bind (wpAny_seqItems hl rfl (wpAny_pure (wpAny_pure ?_)))
    rw [show vs.toArray.size = vs.length from by simp, hseq]
    simp only [Option.bind_some, hx', Option.map_some]
    show wpAny _ _ (setSeqItemAt l j v >>= _) _ _ s
    refine wpAny_bind (wpAny_setSeqItemAt hl rfl ?_)
    first
      | exact wpAny_bind (wpAny_pure (wpAny_pure ⟨.none, rfl, wpAny_pure hq⟩))
      | exact wpAny_pure ⟨.none, rfl, wpAny_pure hq⟩
end

/-! ### the state between statements -/
noncomputable def SlotS (h : Heap) (Hd Ms : List Addr) (v : Value) : Slot → Prop
  | .sh d => Rep h Hd v d
  | .own xs => ∃ a vs n, v = .ref a ∧ a ∈ Ms ∧ h.get? a = some (lstO vs n) ∧ RepAll h Hd vs xs
theorem SlotS.toE {h : Heap} {Hd Ms : List Addr} {v : Value} {sl : Slot} (x : SlotS h Hd Ms v sl) : SlotE h Hd v sl := by
  cases sl with
  | sh d => exact x
  | own xs => obtain ⟨a, vs, n, e, _, hg, r⟩ := x; exact ⟨a, vs, n, e, hg, r⟩
theorem SlotS.mono {h h' : Heap} {Hd Hd' Ms Ms' : List Addr} {v : Value} {sl : Slot} (x : SlotS h Hd Ms v sl) (hk : ∀ b o, b ∉ Hd → h.get? b = some o → h'.get? b = some o ∧ b ∉ Hd')
    (ho : ∀ b ∈ Ms, ∀ vs n, h.get? b = some (lstO vs n) → h'.get? b = some (lstO vs n) ∧ b ∈ Ms') : SlotS h' Hd' Ms' v sl := by
  cases sl with
  | sh d => exact Rep.mono hk x
  | own xs => obtain ⟨a, vs, n, e, hm, hg, r⟩ := x; exact ⟨a, vs, n, e, (ho a hm vs n hg).2, (ho a hm vs n hg).1, r.mono hk⟩

structure SSt (h₀ : Heap) (env : Env) (sc : Scope) (Hd Ms : List Addr) (h : Heap) (ρ : Vars) (m : Str → Option Value) : Prop where
  base : ∀ b o, h₀.get? b = some o → h.get? b = some o
  low : ∀ b ∈ Hd, ∃ o, h.get? b = some o
  kinds : KindsOk env sc
  sub : ∀ b ∈ Ms, b ∈ Hd
  frd : ∀ b ∈ Ms, h₀.get? b = none
  loc : env.locals ∈ Ms
  cel : ∀ x c, env.cells.lookup x = some c → c ∈ Ms
  fr : Frame env h m
  sl : SlotsOk (SlotS h Hd Ms) m ρ
  apart : ∀ x y xs ys v, look ρ x = some (.own xs) → look ρ y = some (.own ys) → m x = some v → m y = some v → x = y

section
variable {h₀ : Heap} {env : Env} {sc : Scope} {Hd Ms : List Addr} {h h' : Heap} {ρ : Vars} {m : Str → Option Value}
theorem SSt.toE (S : SSt h₀ env sc Hd Ms h ρ m) : ESt h₀ env sc Hd h ρ where
  base := S.base
  low := S.low
  kinds := S.kinds
  fr := ⟨m, S.fr, fun x sl e => by obtain ⟨v, a, b⟩ := S.sl x sl e; exact ⟨v, a, b.toE⟩⟩

/-- a heap that holds all that stood, with more hidden -/
theorem SSt.grow (S : SSt h₀ env sc Hd Ms h ρ m) (hk : ∀ b o, h.get? b = some o → h'.get? b = some o) {ns ms : List Addr} (hn : ∀ b ∈ ns, h.get? b = none ∧ ∃ o, h'.get? b = some o) (hs : ∀ b ∈ ms, b ∈ ns) :
    SSt h₀ env sc (ns ++ Hd) (ms ++ Ms) h' ρ m where
  base := fun b o e => hk b o (S.base b o e)
  low := fun b hb => by
    rcases List.mem_append.mp hb with hb | hb
    · exact (hn b hb).2
    · obtain ⟨o, e⟩ := S.low b hb; exact ⟨o, hk b o e⟩
  kinds := S.kinds
  sub := fun b hb => by
    rcases List.mem_append.mp hb with hb | hb
    · exact List.mem_append_left _ (hs b hb)
    · exact List.mem_append_right _ (S.sub b hb)
  frd := fun b hb => by
    rcases List.mem_append.mp hb with hb | hb
    · cases e : h₀.get? b with
      | none => rfl
      | some o => have := S.base b o e; rw [(hn b (hs b hb)).1] at this; cases this
    · exact S.frd b hb
  loc := List.mem_append_right _ S.loc
  cel := fun x c hc => List.mem_append_right _ (S.cel x c hc)
  fr := S.fr.keeps fun b o _ e => hk b o e
  sl := S.sl.mono fun v sl x => x.mono (fun b o hb e => ⟨hk b o e, fun hm => by
      rcases List.mem_append.mp hm with hm | hm
      · rw [(hn b hm).1] at e; cases e
      · exact hb hm⟩) fun b hb vs n e => ⟨hk b _ e, List.mem_append_right _ hb⟩
  apart := S.apart
theorem SSt.keeps (S : SSt h₀ env sc Hd Ms h ρ m) (hk : ∀ b o, h.get? b = some o → h'.get? b = some o) : SSt h₀ env sc Hd Ms h' ρ m := by
  have := S.grow (ns := []) (ms := []) hk (by simp) (by simp)
  simpa using this
theorem SSt.after {s s' : Shared} (S : SSt h₀ env sc Hd Ms s.heap ρ m) (k : Keeps s s') : SSt h₀ env sc Hd Ms s'.heap ρ m := S.keeps (keeps_get k)

theorem ns_not_list {L : Addr} {ml : Str → Option Value} (x : h.Ns L ml) {vs : List Value} {n : Nat} : h.get? L ≠ some (lstO vs n) := by
  obtain ⟨o, es, k, e, d, _⟩ := x
  intro q
  rw [e] at q
  cases q
  cases d
theorem cell_not_list {c : Addr} {v : Option Value} (x : h.IsCell c v) {vs : List Value} {n : Nat} : h.get? c ≠ some (lstO vs n) := by
  obtain ⟨o, e, d⟩ := x
  intro q
  rw [e] at q
  cases q
  cases d

theorem alive_same {a b : Addr} {o : Obj} (hsb : Heap.SameBut a h h') (e : h.get? b = some o) (hne : b ≠ a) : h'.get? b = some o := hsb.extBut b o hne e

/-- a name stored -/
theorem SSt.stored (S : SSt h₀ env sc Hd Ms h ρ m) {x : Str} {v : Value} {sl : Slot} {a : Addr} (ha : a = env.locals ∨ ∃ y, env.cells.lookup y = some a) (hsb : Heap.SameBut a h h') (F : Frame env h' (upd m x v)) (hv : SlotS h Hd Ms v sl)
    (hap : ∀ xs, sl = .own xs → ∀ y ys, y ≠ x → look ρ y = some (.own ys) → m y ≠ some v) : SSt h₀ env sc Hd Ms h' (put ρ x sl) (upd m x v) := by
  have haM : a ∈ Ms := by
    rcases ha with rfl | ⟨y, hy⟩
    · exact S.loc
    · exact S.cel y a hy
  have hnl : ∀ vs n, h.get? a ≠ some (lstO vs n) := fun vs n => by
    rcases ha with rfl | ⟨y, hy⟩
    · obtain ⟨ml, q, _⟩ := S.fr.ns; exact ns_not_list q
    · obtain ⟨u, q, _⟩ := S.fr.cl y a hy; exact cell_not_list q
  have slotk : ∀ v sl, SlotS h Hd Ms v sl → SlotS h' Hd Ms v sl := fun v sl x => x.mono (fun b o hb e => ⟨hsb.extBut b o (fun q => hb (q ▸ S.sub a haM)) e, hb⟩) fun b hb vs n e =>
    ⟨hsb.extBut b _ (fun q => hnl vs n (q ▸ e)) e, hb⟩
  exact {
    base := fun b o e => by
      refine hsb.extBut b o (fun q => ?_) (S.base b o e)
      rw [q, S.frd a haM] at e; cases e
    low := fun b hb => by
      by_cases q : b = a
      · subst q
        rcases ha with rfl | ⟨y, hy⟩
        · obtain ⟨ml, ⟨o, _, _, e, _⟩, _⟩ := F.ns; exact ⟨o, e⟩
        · obtain ⟨u, ⟨o, e, _⟩, _⟩ := F.cl y b hy; exact ⟨o, e⟩
      · obtain ⟨o, e⟩ := S.low b hb; exact ⟨o, hsb.extBut b o q e⟩
    kinds := S.kinds
    sub := S.sub
    frd := S.frd
    loc := S.loc
    cel := S.cel
    fr := F
    sl := (S.sl.mono slotk).put (slotk _ _ hv)
    apart := fun y z xs ys u e1 e2 e3 e4 => by
      rw [look_put] at e1 e2
      by_cases q1 : y = x <;> by_cases q2 : z = x
      · rw [q1, q2]
      · rw [if_pos q1] at e1; rw [if_neg q2] at e2
        simp only [upd, if_pos q1, if_neg q2] at e3 e4
        cases e1
        exact absurd (by rw [e4, ← e3]) (hap xs rfl z ys q2 e2)
      · rw [if_neg q1] at e1; rw [if_pos q2] at e2
        simp only [upd, if_neg q1, if_pos q2] at e3 e4
        cases e2
        exact absurd (by rw [e3, ← e4]) (hap ys rfl y xs q1 e1)
      · rw [if_neg q1] at e1; rw [if_neg q2] at e2
        simp only [upd, if_neg q1, if_neg q2] at e3 e4
        exact S.apart y z xs ys u e1 e2 e3 e4 }

theorem storable_spec {x : Str} (h : storable sc x = true) : plainName x = true ∧ (kindIn sc.names x = some .local ∨ kindIn sc.names x = some .cell) := by
  unfold storable at h
  simp only [Bool.and_eq_true, Bool.or_eq_true, beq_iff_eq] at h
  exact ⟨h.2, h.1⟩
theorem storable_kind (hK : KindsOk env sc) {x : Str} (h : storable sc x = true) : plainName x = true ∧ (env.kindOf x = some .local ∨ (env.kindOf x = some .cell ∧ ∃ c, env.cells.lookup x = some c)) := by
  obtain ⟨h1, h2⟩ := storable_spec h
  rcases h2 with h2 | h2
  · exact ⟨h1, .inl (hK x _ h2)⟩
  · exact ⟨h1, .inr (hK x _ h2)⟩

variable {prog : Program} {w : World} {A : Around} {s : Shared}
theorem SSt.slots (S : SSt h₀ env sc Hd Ms h ρ m) {a : Addr} (ha : a = env.locals ∨ ∃ y, env.cells.lookup y = some a) (hsb : Heap.SameBut a h h') (v : Value) (sl : Slot) (x : SlotS h Hd Ms v sl) : SlotS h' Hd Ms v sl := by
  have haM : a ∈ Ms := by
    rcases ha with rfl | ⟨y, hy⟩
    · exact S.loc
    · exact S.cel y a hy
  have hnl : ∀ vs n, h.get? a ≠ some (lstO vs n) := fun vs n => by
    rcases ha with rfl | ⟨y, hy⟩
    · obtain ⟨ml, q, _⟩ := S.fr.ns; exact ns_not_list q
    · obtain ⟨u, q, _⟩ := S.fr.cl y a hy; exact cell_not_list q
  exact x.mono (fun b o hb e => ⟨hsb.extBut b o (fun q => hb (q ▸ S.sub a haM)) e, hb⟩) fun b hb vs n e => ⟨hsb.extBut b _ (fun q => hnl vs n (q ▸ e)) e, hb⟩
theorem SSt.store' (S : SSt h₀ env sc Hd Ms s.heap ρ m) {x : Str} {v : Value} {sl : Slot} (hx : storable sc x = true) (hv : SlotS s.heap Hd Ms v sl)
    (hap : ∀ xs, sl = .own xs → ∀ y ys, y ≠ x → look ρ y = some (.own ys) → m y ≠ some v) {E : Value → Shared → Prop} :
    wpAny (model prog w) A (storeName env x v) (fun _ s' => (SSt h₀ env sc Hd Ms s'.heap (put ρ x sl) (upd m x v) ∧ ButKeeps (· ∈ Ms) s s') ∧ ∀ v sl, SlotS s.heap Hd Ms v sl → SlotS s'.heap Hd Ms v sl) E s := by
  obtain ⟨hp, hk⟩ := storable_kind S.kinds hx
  refine frame_store S.fr hp hk fun h' tk a ha hsb F => ?_
  have ha' : a = env.locals ∨ ∃ y, env.cells.lookup y = some a := ha.imp id fun q => ⟨x, q.2⟩
  refine ⟨⟨S.stored ha' hsb F hv hap, .same hsb ?_⟩, fun v sl q => S.slots ha' hsb v sl q⟩
  rcases ha' with rfl | ⟨y, hy⟩
  · exact S.loc
  · exact S.cel y a hy
theorem SSt.store (S : SSt h₀ env sc Hd Ms s.heap ρ m) {x : Str} {v : Value} {sl : Slot} (hx : storable sc x = true) (hv : SlotS s.heap Hd Ms v sl)
    (hap : ∀ xs, sl = .own xs → ∀ y ys, y ≠ x → look ρ y = some (.own ys) → m y ≠ some v) {E : Value → Shared → Prop} :
    wpAny (model prog w) A (storeName env x v) (fun _ s' => SSt h₀ env sc Hd Ms s'.heap (put ρ x sl) (upd m x v) ∧ ButKeeps (· ∈ Ms) s s') E s :=
  wpAny_mono (S.store' hx hv hap) (fun _ _ h => h.1) fun _ _ h => h

/-- a list of the frame's own changed -/
theorem SSt.changed (S : SSt h₀ env sc Hd Ms h ρ m) {x : Str} {a : Addr} {vs ws : List Value} {xs ys : List PyData} {n n' : Nat} (hl : look ρ x = some (.own xs)) (hm : m x = some (.ref a)) (haM : a ∈ Ms) (hg : h.get? a = some (lstO vs n))
    (hsb : Heap.SameBut a h h') (hg' : h'.get? a = some (lstO ws n')) (hr : RepAll h Hd ws ys) : SSt h₀ env sc Hd Ms h' (put ρ x (.own ys)) m := by
  have aloc : env.locals ≠ a := by
    rintro rfl
    obtain ⟨ml, q, _⟩ := S.fr.ns; exact ns_not_list q hg
  have acel : ∀ y c, env.cells.lookup y = some c → c ≠ a := by
    rintro y c hc rfl
    obtain ⟨u, q, _⟩ := S.fr.cl y c hc; exact cell_not_list q hg
  have old : ∀ b o, b ∉ Hd → h.get? b = some o → h'.get? b = some o ∧ b ∉ Hd := fun b o hb e => ⟨hsb.extBut b o (fun q => hb (q ▸ S.sub a haM)) e, hb⟩
  exact {
    base := fun b o e => by
      refine hsb.extBut b o (fun q => ?_) (S.base b o e)
      rw [q, S.frd a haM] at e; cases e
    low := fun b hb => by
      by_cases q : b = a
      · subst q; exact ⟨_, hg'⟩
      · obtain ⟨o, e⟩ := S.low b hb; exact ⟨o, hsb.extBut b o q e⟩
    kinds := S.kinds
    sub := S.sub
    frd := S.frd
    loc := S.loc
    cel := S.cel
    fr := S.fr.keeps fun b o hb e => hsb.extBut b o (by
      rcases hb with rfl | ⟨y, hy⟩
      · exact aloc
      · exact acel y b hy) e
    sl := fun y sl e => by
      rw [look_put] at e
      by_cases q : y = x
      · rw [if_pos q] at e; cases e
        exact ⟨.ref a, by rw [q]; exact hm, a, ws, n', rfl, haM, hg', hr.mono old⟩
      · rw [if_neg q] at e
        obtain ⟨v, e1, e2⟩ := S.sl y sl e
        refine ⟨v, e1, ?_⟩
        cases sl with
        | sh d => exact Rep.mono old e2
        | own zs =>
          obtain ⟨b, us, c, rfl, hb, hgb, hrb⟩ := e2
          refine ⟨b, us, c, rfl, hb, hsb.extBut b _ (fun e3 => q ?_) hgb, hrb.mono old⟩
          subst e3
          exact S.apart y x zs xs _ e hl e1 hm
    apart := fun y z us ws v e1 e2 e3 e4 => by
      rw [look_put] at e1 e2
      have f1 : ∃ us', look ρ y = some (.own us') := by
        by_cases q : y = x
        · rw [q]; exact ⟨_, hl⟩
        · rw [if_neg q] at e1; exact ⟨_, e1⟩
      have f2 : ∃ us', look ρ z = some (.own us') := by
        by_cases q : z = x
        · rw [q]; exact ⟨_, hl⟩
        · rw [if_neg q] at e2; exact ⟨_, e2⟩
      obtain ⟨_, f1⟩ := f1
      obtain ⟨_, f2⟩ := f2
      exact S.apart y z _ _ v f1 f2 e3 e4 }
end
end Mine

namespace Mine
open PySem

noncomputable def EvGOk (prog : Program) (w : World) (T : Tbl) (h₀ : Heap) (n : Nat) : Prop :=
  ∀ (A : Around) (env : Env) (sc : Scope) (Hd : List Addr) (s : Shared) (ρ : Vars) (e : Expr) (sl : Slot), Room n A → ESt h₀ env sc Hd s.heap ρ → evG T n sc ρ e = some sl →
    wpAny (model prog w) A (eval e env) (fun v s' => Keeps s s' ∧ match sl with
      | .sh d => Rep s'.heap Hd v d
      | .own xs => ∃ a vs c, v = .ref a ∧ s.heap.get? a = none ∧ s'.heap.get? a = some (lstO vs c) ∧ xs.all flat = true ∧ RepAll s'.heap Hd vs xs) NoE s

theorem arith_mult {a b : PyData} {xs : List PyData} (h : arith .Mult a b = some (.list xs)) : ∃ ys i, a = .list ys ∧ b = .int i ∧ ys.length * i.toNat ≤ 2 ^ 20 ∧ i.natAbs ≤ 2 ^ 20 ∧ xs = (List.replicate i.toNat ys).flatten := by
  rcases mulD_inv h with ⟨i, j, rfl, rfl, _, _, e⟩ | ⟨ys, j, rfl, rfl, h1, h2, e⟩
  · cases e
  · cases e; exact ⟨_, _, rfl, rfl, h1, h2, rfl⟩

section
variable {h₀ : Heap} {env : Env} {sc : Scope} {Hd Ms : List Addr} {h h' : Heap} {ρ : Vars} {m : Str → Option Value}

/-- hidden things that are no frame's and no list's own changed -/
theorem SSt.but (S : SSt h₀ env sc Hd Ms h ρ m) {wr : List Addr} (hk : ∀ b o, b ∉ wr → h.get? b = some o → h'.get? b = some o) (hH : ∀ b ∈ wr, b ∈ Hd) (hM : ∀ b ∈ wr, b ∉ Ms) (h0 : ∀ b ∈ wr, h₀.get? b = none) (ha : ∀ b ∈ wr, ∃ o, h'.get? b = some o) :
    SSt h₀ env sc Hd Ms h' ρ m where
  base := fun b o e => hk b o (fun q => by rw [h0 b q] at e; cases e) (S.base b o e)
  low := fun b hb => by
    by_cases q : b ∈ wr
    · exact ha b q
    · obtain ⟨o, e⟩ := S.low b hb; exact ⟨o, hk b o q e⟩
  kinds := S.kinds
  sub := S.sub
  frd := S.frd
  loc := S.loc
  cel := S.cel
  fr := S.fr.keeps fun b o hb e => hk b o (fun q => hM b q (by
    rcases hb with rfl | ⟨y, hy⟩
    · exact S.loc
    · exact S.cel y b hy)) e
  sl := S.sl.mono fun v sl x => x.mono (fun b o hb e => ⟨hk b o (fun q => hb (hH b q)) e, hb⟩) fun b hb vs n e => ⟨hk b _ (fun q => hM b q hb) e, hb⟩
  apart := S.apart

/-- hidden things let go -/
theorem SSt.shed {ns : List Addr} (S : SSt h₀ env sc (ns ++ Hd) Ms h ρ m) (hk : ∀ b o, b ∉ ns → h.get? b = some o → h'.get? b = some o) (hM : ∀ b ∈ Ms, b ∈ Hd) (hn : ∀ b ∈ Hd, b ∉ ns) (h0 : ∀ b ∈ ns, h₀.get? b = none) :
    SSt h₀ env sc Hd Ms h' ρ m where
  base := fun b o e => hk b o (fun q => by rw [h0 b q] at e; cases e) (S.base b o e)
  low := fun b hb => by obtain ⟨o, e⟩ := S.low b (List.mem_append_right _ hb); exact ⟨o, hk b o (hn b hb) e⟩
  kinds := S.kinds
  sub := hM
  frd := S.frd
  loc := S.loc
  cel := S.cel
  fr := S.fr.keeps fun b o hb e => hk b o (fun q => hn b (hM b (by
    rcases hb with rfl | ⟨y, hy⟩
    · exact S.loc
    · exact S.cel y b hy)) q) e
  sl := S.sl.mono fun v sl x => x.mono (fun b o hb e => ⟨hk b o (fun q => hb (List.mem_append_left _ q)) e, fun q => hb (List.mem_append_right _ q)⟩) fun b hb vs n e => ⟨hk b _ (fun q => hn b (hM b hb) q) e, hb⟩
  apart := S.apart

theorem SSt.shedF {wr : List Addr} (S : SSt h₀ env sc Hd Ms h ρ m) (hk : ∀ b o, b ∉ wr → h.get? b = some o → h'.get? b = some o) (hw : ∀ b ∈ wr, b ∈ Hd) (hM : ∀ b ∈ wr, b ∉ Ms) (h0 : ∀ b ∈ wr, h₀.get? b = none) :
    SSt h₀ env sc (Hd.filter fun b => decide (b ∉ wr)) Ms h' ρ m where
  base := fun b o e => hk b o (fun q => by rw [h0 b q] at e; cases e) (S.base b o e)
  low := fun b hb => by
    have hb' := List.mem_filter.mp hb
    obtain ⟨o, e⟩ := S.low b hb'.1; exact ⟨o, hk b o (by simpa using hb'.2) e⟩
  kinds := S.kinds
  sub := fun b hb => List.mem_filter.mpr ⟨S.sub b hb, by simpa using fun q => hM b q hb⟩
  frd := S.frd
  loc := S.loc
  cel := S.cel
  fr := S.fr.keeps fun b o hb e => hk b o (fun q => hM b q (by
    rcases hb with rfl | ⟨y, hy⟩
    · exact S.loc
    · exact S.cel y b hy)) e
  sl := S.sl.mono fun v sl x => x.mono (fun b o hb e => ⟨hk b o (fun q => hb (hw b q)) e, fun q => hb (List.mem_filter.mp q).1⟩) fun b hb vs n e => ⟨hk b _ (fun q => hM b q hb) e, hb⟩
  apart := S.apart

noncomputable abbrev InFrame (env : Env) (b : Addr) : Prop := b = env.locals ∨ ∃ y, env.cells.lookup y = some b

theorem own_putAll {x : Str} {xs : List PyData} : ∀ {bs : List Bind} {ρ : Vars} {m : Str → Option Value}, look (putAll ρ bs) x = some (.own xs) → look ρ x = some (.own xs) ∧ updAll m bs x = m x
  | [], _, _, e => ⟨e, rfl⟩
  | b :: bs, ρ, m, e => by
    obtain ⟨h1, h2⟩ := own_putAll (bs := bs) (ρ := put ρ b.1 (.sh b.2.2)) (m := upd m b.1 b.2.1) e
    rw [look_put] at h1
    by_cases q : x = b.1
    · rw [if_pos q] at h1; cases h1
    · rw [if_neg q] at h1
      refine ⟨h1, h2.trans ?_⟩
      simp only [upd, if_neg q]

/-- names bound to what a loop gives -/
theorem SSt.bound (S : SSt h₀ env sc Hd Ms h ρ m) {bs : List Bind} (hk : ∀ b o, ¬ InFrame env b → h.get? b = some o → h'.get? b = some o) (F : Frame env h' (updAll m bs)) (hb : ∀ b ∈ bs, Rep h' Hd b.2.1 b.2.2) :
    SSt h₀ env sc Hd Ms h' (putAll ρ bs) (updAll m bs) := by
  have inM : ∀ b, InFrame env b → b ∈ Ms := fun b hb => by
    rcases hb with rfl | ⟨y, hy⟩
    · exact S.loc
    · exact S.cel y b hy
  have nl : ∀ b vs n, InFrame env b → h.get? b ≠ some (lstO vs n) := fun b vs n hb => by
    rcases hb with rfl | ⟨y, hy⟩
    · obtain ⟨ml, q, _⟩ := S.fr.ns; exact ns_not_list q
    · obtain ⟨u, q, _⟩ := S.fr.cl y b hy; exact cell_not_list q
  have slotk : ∀ v sl, SlotS h Hd Ms v sl → SlotS h' Hd Ms v sl := fun v sl x => x.mono (fun b o hb e => ⟨hk b o (fun q => hb (S.sub b (inM b q))) e, hb⟩) fun b hb vs n e => ⟨hk b _ (fun q => nl b vs n q e) e, hb⟩
  exact {
    base := fun b o e => hk b o (fun q => by rw [S.frd b (inM b q)] at e; cases e) (S.base b o e)
    low := fun b hb' => by
      by_cases q : InFrame env b
      · rcases q with rfl | ⟨y, hy⟩
        · obtain ⟨ml, ⟨o, _, _, e, _⟩, _⟩ := F.ns; exact ⟨o, e⟩
        · obtain ⟨u, ⟨o, e, _⟩, _⟩ := F.cl y b hy; exact ⟨o, e⟩
      · obtain ⟨o, e⟩ := S.low b hb'; exact ⟨o, hk b o q e⟩
    kinds := S.kinds
    sub := S.sub
    frd := S.frd
    loc := S.loc
    cel := S.cel
    fr := F
    sl := (S.sl.mono slotk).putAll hb
    apart := fun y z xs ys v e1 e2 e3 e4 => by
      obtain ⟨a1, a2⟩ := own_putAll (m := m) e1
      obtain ⟨b1, b2⟩ := own_putAll (m := m) e2
      exact S.apart y z xs ys v a1 b1 (a2 ▸ e3) (b2 ▸ e4) }

/-- what comes back from a block -/
noncomputable def RetRep (h : Heap) (Hd Ms : List Addr) (v : Value) (d : PyData) : Prop := Rep h Hd v d ∨ ∃ a vs n xs, v = .ref a ∧ d = .list xs ∧ a ∈ Ms ∧ h.get? a = some (lstO vs n) ∧ RepAll h Hd vs xs
noncomputable def FlowRep (h : Heap) (Hd Ms : List Addr) : Fl → Flow → Prop
  | .next, f => f = .next
  | .ret d, f => ∃ v, f = .ret v ∧ RetRep h Hd Ms v d

noncomputable def SPost (h₀ : Heap) (env : Env) (sc : Scope) (s : Shared) (Hd Ms : List Addr) (fl : Fl) (ρ' : Vars) (f : Flow) (s' : Shared) : Prop :=
  ∃ Hd' Ms' m', SSt h₀ env sc Hd' Ms' s'.heap ρ' m' ∧ (∀ b ∈ Hd, b ∈ Hd') ∧ (∀ b ∈ Ms, b ∈ Ms') ∧ (∀ b ∈ Hd', b ∈ Hd ∨ s.heap.get? b = none) ∧ (∀ b ∈ Ms', b ∈ Ms ∨ s.heap.get? b = none) ∧ ButKeeps (· ∈ Ms) s s' ∧ FlowRep s'.heap Hd' Ms' fl f

theorem SPost.trans {s s₁ s₂ : Shared} {Hd₁ Ms₁ : List Addr} {fl : Fl} {ρ' : Vars} {f : Flow} (h1 : ∀ b ∈ Hd, b ∈ Hd₁) (h2 : ∀ b ∈ Ms, b ∈ Ms₁) (h3 : ∀ b ∈ Hd₁, b ∈ Hd ∨ s.heap.get? b = none) (h4 : ∀ b ∈ Ms₁, b ∈ Ms ∨ s.heap.get? b = none)
    (k : ButKeeps (· ∈ Ms) s s₁) (hal : ∀ b ∈ Ms, ∃ o, s₁.heap.get? b = some o) (p : SPost h₀ env sc s₁ Hd₁ Ms₁ fl ρ' f s₂) : SPost h₀ env sc s Hd Ms fl ρ' f s₂ := by
  obtain ⟨Hd', Ms', m', S, a1, a2, a3, a4, a5, a6⟩ := p
  have fresh : ∀ b, s₁.heap.get? b = none → b ∈ Ms ∨ s.heap.get? b = none := fun b e => by
    cases q : s.heap.get? b with
    | none => exact .inr rfl
    | some o =>
      by_cases hm : b ∈ Ms
      · exact .inl hm
      · have := k.get b o hm q; rw [e] at this; cases this
  refine ⟨Hd', Ms', m', S, fun b hb => a1 b (h1 b hb), fun b hb => a2 b (h2 b hb), fun b hb => ?_, fun b hb => ?_, ?_, a6⟩
  · rcases a3 b hb with q | q
    · exact h3 b q
    · rcases fresh b q with q' | q'
      · obtain ⟨o, e⟩ := hal b q'; rw [q] at e; cases e
      · exact .inr q'
  · rcases a4 b hb with q | q
    · exact h4 b q
    · exact fresh b q
  · obtain ⟨hh, tk, rfl, hk⟩ := k
    obtain ⟨hh', tk', rfl, hk'⟩ := a5
    refine ⟨hh', tk', rfl, fun b o hb e => hk' b o (fun q => ?_) (hk b o hb e)⟩
    rcases h4 b q with q | q
    · exact hb q
    · rw [q] at e; cases e

/-- a state reached with the same lists hidden -/
theorem SPost.here {s s' : Shared} {ρ' : Vars} {m' : Str → Option Value} {fl : Fl} {f : Flow} (S : SSt h₀ env sc Hd Ms s'.heap ρ' m') (k : ButKeeps (· ∈ Ms) s s') (hf : FlowRep s'.heap Hd Ms fl f) : SPost h₀ env sc s Hd Ms fl ρ' f s' :=
  ⟨Hd, Ms, m', S, fun _ h => h, fun _ h => h, fun _ h => .inl h, fun _ h => .inl h, k, hf⟩

variable {prog : Program} {w : World} {T : Tbl} {A : Around} {s : Shared} {n : Nat}

theorem fresh_of {s s₁ : Shared} (k : Keeps s s₁) {a : Addr} (e : s₁.heap.get? a = none) : s.heap.get? a = none := by
  cases q : s.heap.get? a with
  | none => rfl
  | some o => have := keeps_get k a o q; rw [e] at this; cases this

theorem evG_step (hE : EvOk prog w T h₀ n) (hB : ∀ k, k ≤ n → EvBOk prog w T h₀ k) : EvGOk prog w T h₀ (n + 1) := fun A env sc Hd s ρ e sl R S h => by
  have R' := R.less (Nat.le_succ _)
  simp only [evG_z, evG_eq] at h
  by_cases hm : isMade e = true
  · rw [if_pos hm] at h
    obtain ⟨d, h1, h2⟩ := obind h
    obtain ⟨xs, h3, rfl⟩ := omap h2
    obtain ⟨rfl, hfl⟩ : d = .list xs ∧ xs.all flat = true := by
      cases d <;> simp only [allFlat] at h3 <;> try (cases h3; done)
      split at h3 <;> cases h3
      exact ⟨rfl, by assumption⟩
    cases n with
    | zero => exact nope h1
    | succ k =>
    cases e with
    | List es p =>
      cases es with
      | cons e es => exact nob hm
      | nil =>
        simp only [ev_z, ev_none, ev_bool, ev_int, ev_name, ev_bin, ev_neg, ev_and, ev_ife, ev_cmp, ev_cut, ev_rev, ev_ixc, ev_ixn, ev_ixu, ev_ixb, ev_lst, ev_tup, ev_call, ev_lc] at h1
        obtain ⟨ds, h4, h5⟩ := obind h1
        have hds : ds = [] := by cases k <;> simp [evL_z, evL_ni, evL_co] at h4; exact h4
        subst hds
        simp only [List.length_nil, Nat.zero_le, if_true, Option.some.injEq, PyData.list.injEq] at h5
        subst h5
        refine PyProof.Rows.List_ (PySem.Calls.spliced_nil ?_)
        refine wpAny_newObj_type (h := ?_) (by show ([] : List Value).toArray.size ≤ sizeLine; simp)
        exact ⟨keeps_push s _ _, _, [], 0, rfl, fresh_none s, Heap.get?_push_size _ rfl, hfl, .nil⟩
    | BinOp l op r p =>
      obtain ⟨es, pl, rfl, rfl⟩ : ∃ es pl, l = .List es pl ∧ op = .Mult := by
        cases l <;> first | exact nob hm | skip
        cases op <;> first | exact nob hm | skip
        exact ⟨_, _, rfl, rfl⟩
      simp only [ev_z, ev_none, ev_bool, ev_int, ev_name, ev_bin, ev_neg, ev_and, ev_ife, ev_cmp, ev_cut, ev_rev, ev_ixc, ev_ixn, ev_ixu, ev_ixb, ev_lst, ev_tup, ev_call, ev_lc] at h1
      obtain ⟨a, h4, h5⟩ := obind h1
      obtain ⟨b, h6, h7⟩ := obind h5
      obtain ⟨ys, i, rfl, rfl, hsz, hki, rfl⟩ := arith_mult h7
      refine wpAny_BinOp (operands (hB k (Nat.le_succ _)) (R'.less (Nat.le_succ _)) S h4 h6 fun va vb s₂ k₂ ra rb => ?_)
      obtain ⟨la, vs, c, rfl, hg, hr⟩ := ra.list_inv
      obtain ⟨t, rfl⟩ := rb.int_inv
      have hlen := hr.length
      refine list_mul hg hki (by rw [hlen]; exact hsz) ⟨keeps_trans k₂ (keeps_push s₂ _ _), _, _, 0, rfl, fresh_of k₂ (fresh_none s₂), Heap.get?_push_size _ rfl, hfl, ?_⟩
      exact (hr.flatten_replicate _).keeps fun _ _ e => Heap.get?_push_of_some _ e
    | _ => exact nob hm
  · rw [if_neg hm] at h
    obtain ⟨d, h1, rfl⟩ := omap h
    exact hE A env sc Hd s ρ e d R' S h1
end
end Mine

namespace Mine
open PySem

noncomputable def EvSOk (prog : Program) (w : World) (T : Tbl) (h₀ : Heap) (n : Nat) : Prop :=
  ∀ (A : Around) (env : Env) (sc : Scope) (Hd Ms : List Addr) (s : Shared) (ρ : Vars) (m : Str → Option Value) (st : Stmt) (fl : Fl) (ρ' : Vars), Room n A → SSt h₀ env sc Hd Ms s.heap ρ m → evS T n sc ρ st = some (fl, ρ') →
    wpAny (model prog w) A (exec st env) (SPost h₀ env sc s Hd Ms fl ρ') NoE s
noncomputable def EvSsOk (prog : Program) (w : World) (T : Tbl) (h₀ : Heap) (n : Nat) : Prop :=
  ∀ (A : Around) (env : Env) (sc : Scope) (Hd Ms : List Addr) (s : Shared) (ρ : Vars) (m : Str → Option Value) (sts : List Stmt) (fl : Fl) (ρ' : Vars), Room n A → SSt h₀ env sc Hd Ms s.heap ρ m → evSs T n sc ρ sts = some (fl, ρ') →
    wpAny (model prog w) A (execs sts env) (SPost h₀ env sc s Hd Ms fl ρ') NoE s

section
variable {h₀ : Heap} {env : Env} {sc : Scope} {Hd Ms : List Addr} {ρ : Vars} {m : Str → Option Value} {prog : Program} {w : World} {T : Tbl} {A : Around} {s s' : Shared} {n : Nat}

theorem mono_fresh {s s' : Shared} {Hd ns : List Addr} (hk : ∀ b o, s.heap.get? b = some o → s'.heap.get? b = some o) (hn : ∀ b ∈ ns, s.heap.get? b = none) : ∀ b o, b ∉ Hd → s.heap.get? b = some o → s'.heap.get? b = some o ∧ b ∉ ns ++ Hd := fun b o hb e =>
  ⟨hk b o e, fun hm => by
    rcases List.mem_append.mp hm with hm | hm
    · rw [hn b hm] at e; cases e
    · exact hb hm⟩

/-- what a name is given, as the new state knows it -/
theorem give (S : SSt h₀ env sc Hd Ms s.heap ρ m) {v : Value} {sl : Slot} (g : Keeps s s' ∧ match sl with
      | .sh d => Rep s'.heap Hd v d
      | .own xs => ∃ a vs c, v = .ref a ∧ s.heap.get? a = none ∧ s'.heap.get? a = some (lstO vs c) ∧ xs.all flat = true ∧ RepAll s'.heap Hd vs xs) :
    ∃ ns, SSt h₀ env sc (ns ++ Hd) (ns ++ Ms) s'.heap ρ m ∧ SlotS s'.heap (ns ++ Hd) (ns ++ Ms) v sl ∧ (∀ xs, sl = .own xs → ∀ y ys, look ρ y = some (.own ys) → m y ≠ some v) ∧ (∀ b ∈ ns, s.heap.get? b = none) ∧ (∀ xs, sl = .own xs → ∃ a, v = .ref a ∧ s.heap.get? a = none) := by
  obtain ⟨k, g⟩ := g
  cases sl with
  | sh d => exact ⟨[], by simpa using S.after k, g, fun xs e => (by cases e), by simp, fun xs e => (by cases e)⟩
  | own xs =>
    obtain ⟨a, vs, c, rfl, hf, hg, hfl, hr⟩ := g
    refine ⟨[a], ?_, ⟨a, vs, c, rfl, by simp, hg, hr.flat hfl⟩, fun ys e y zs hl hm => ?_, fun b hb => by rw [List.mem_singleton.mp hb]; exact hf, fun _ _ => ⟨a, rfl, hf⟩⟩
    · exact S.grow (ns := [a]) (ms := [a]) (keeps_get k) (fun b hb => by rw [List.mem_singleton.mp hb]; exact ⟨hf, _, hg⟩) fun b hb => hb
    · obtain ⟨u, e1, e2⟩ := S.sl y _ hl
      rw [hm] at e1; cases e1
      obtain ⟨b, ws, c', e3, _, hgb, _⟩ := e2
      cases e3
      rw [hf] at hgb; cases hgb

set_option tactic.hygienic true in
theorem swaps_pure {e : Expr} {x : Str} {px : Pos} {line : Nat} {T : Tbl} {n : Nat} {d : PyData} (h : ev T n sc ρ e = some d) :
    swapsWith e (some (.Name x px)) line env = pure false ∨ ∃ elt gs csc pos, e = .ListComp elt gs csc pos ∧ env.kindOf x = some .local ∧ swapsWith e (some (.Name x px)) line env = pure true := by
  cases n with
  | zero => exact nope h
  | succ n =>
    cases e <;> first | exact .inl rfl | exact nope h | skip
    rename_i elt gs csc pos
    have e : swapsWith (.ListComp elt gs csc pos) (some (.Name x px)) line env = pure (env.blockKind == .function && env.kindOf x == some .local && px.line == (Expr.ListComp elt gs csc pos).pos.line && !(csc.names.any fun (n, k) => n == x && (k == .local || k == .cell))) := rfl
    rw [e]
    generalize hb : (env.blockKind == .function && env.kindOf x == some .local && px.line == (Expr.ListComp elt gs csc pos).pos.line && !(csc.names.any fun (n, k) => n == x && (k == .local || k == .cell))) = b
    cases b with
    | false => exact .inl rfl
    | true =>
      refine .inr ⟨elt, gs, csc, pos, rfl, ?_, rfl⟩
      simp only [Bool.and_eq_true, beq_iff_eq] at hb
      exact hb.1.1.2

/-- a comprehension whose value goes straight into a name -/
theorem comp_assign (hE : EvOk prog w T h₀ n) (hT : EvTsOk prog w T h₀ n) (hI : EvIOk prog w T h₀ n) (R : Room n A) (S : SSt h₀ env sc Hd Ms s.heap ρ m) {elt target iter : Expr} {ifs : List Expr} {csc : Scope} {pos spos py : Pos} {y : Str} {items rs : List PyData}
    (hsw : swapsWith (.ListComp elt [⟨target, iter, ifs, 0⟩] csc pos) (some (.Name y py)) spos.line env = pure true) (hy : storable sc y = true)
    (hO : compOk sc csc target = true) (h1 : evI T n sc ρ iter target = some items) (h2 : compL (fun ρ => evTs T n csc ρ ifs) (fun ρ => ev T n csc ρ elt) (bindT (freeOf csc ρ) target) items = some rs) :
    wpAny (model prog w) A (exec (.Assign [.Name y py] (.ListComp elt [⟨target, iter, ifs, 0⟩] csc pos) spos) env) (SPost h₀ env sc s Hd Ms .next (put ρ y (.sh (.list rs)))) NoE s := by
  obtain ⟨hkind, htok, hnm⟩ := compOk_spec hO
  have SE := S.toE
  obtain ⟨hi, hsz, hpl⟩ := hI A env sc Hd s ρ iter target items R SE h1
  rw [exec_Assign_Name_used _ _ _ _ hsw]
  refine wpAny_bind (wpAny_standAt (wpAny_bind ?_))
  show wpAny _ A (do let _ ← comprehension (.ListComp elt [⟨target, iter, ifs, 0⟩] csc pos) csc env _ (newList []) false (eval iter env) (some (assign (.Name y py) env))) _ _ s
  refine wpAny_bind (wpAny_mono (wpAny_comprehension_free (use := some (assign (.Name y py) env)) (Q := fun _ s' => SPost h₀ env sc s Hd Ms .next (put ρ y (.sh (.list rs))) .next s') rfl (fun x => plain_fold hpl env x) (closure_pure fun p hp hf => ?_) hkind (fun x hx hl => ?_)
    (wpAny_mono hi (fun xv s₁ h₁ => wpAny_mono h₁ (fun it s₂ h₂ => ?_) fun _ _ e => e) fun _ _ e => e)) (fun _ s' hq => wpAny_pure (wpAny_pure hq)) fun _ _ e => e)
  · obtain ⟨_, _, _, q⟩ := hnm p.1 p.2 hp
    rcases q hf with q | q
    · exact (SE.kinds p.1 _ q).2
    · exact (SE.kinds p.1 _ q).2
  · obtain ⟨_, _, q, _⟩ := hnm x.1 x.2 hx
    rw [← kindIn_lookup]; exact q hl
  · obtain ⟨k, wr, St, P, hst, hfr⟩ := h₂
    refine comp_run (RR := fun acc C => compPost (model prog w) A NoE (some (assign (.Name y py) env)) (fun _ s' => SPost h₀ env sc s Hd Ms .next (put ρ y (.sh (.list rs))) .next s') acc C) R hE hT P hst hO SE k hfr h2 hsz ?_
    intro D C h' tk m' ys c hD hC hDC hn hlst hrep hk
    show wpAny _ A (assign (.Name y py) env (.ref D)) _ _ _
    have hC₀ : s.heap.get? C = none := fresh_of k hC
    have hkeep : ∀ b o, s.heap.get? b = some o → h'.get? b = some o := fun b o q => hk b o (fun hm => by rw [hfr b hm] at q; cases q) (keeps_get k b o q)
    have hDHd : D ∉ Hd := fun hm => by
      obtain ⟨o, q⟩ := S.low D hm
      have := keeps_get k _ _ q; rw [hD] at this; cases this
    have hCalive : ∃ o, h'.get? C = some o := by obtain ⟨o, _, _, q, _⟩ := hn; exact ⟨o, q⟩
    have S₁ : SSt h₀ env sc ([C] ++ Hd) ([] ++ Ms) h' ρ m := S.grow hkeep (fun b hb => by rw [List.mem_singleton.mp hb]; exact ⟨hC₀, hCalive⟩) (by simp)
    have hrepD : Rep h' ([C] ++ Hd) (.ref D) (.list rs) := by
      refine .list (n := c) hlst (fun hm => ?_) (hrep.mono fun b o hb q => ⟨q, fun hm => hb ?_⟩)
      · rcases List.mem_append.mp hm with hm | hm
        · exact hDC (List.mem_singleton.mp hm)
        · exact hDHd hm
      · rcases List.mem_append.mp hm with hm | hm
        · simp [List.mem_singleton.mp hm]
        · simp [hm]
    have hCM : C ∉ Ms := fun hm => by obtain ⟨o, q⟩ := S.low C (S.sub C hm); rw [hC₀] at q; cases q
    obtain ⟨hh₂, tk₂, rfl, _⟩ := k
    refine wpAny_assign_Name (wpAny_mono (SSt.store (s := { s with heap := h', toks := tk }) S₁ hy (sl := .sh (.list rs)) hrepD (fun xs e => by cases e)) (fun _ s₅ h₅ => ?_) fun _ _ h => h)
    obtain ⟨S₅, k₅⟩ := h₅
    have hn₅ : s₅.heap.Ns C m' := hn.at' fun o q => k₅.get C o (by simpa using hCM) q
    refine ⟨m', hn₅, fun h₆ hs₆ => ?_⟩
    have hCH : ∀ b ∈ Hd, b ∉ [C] := fun b hb q => by rw [List.mem_singleton.mp q] at hb; obtain ⟨o, q⟩ := S.low C hb; rw [hC₀] at q; cases q
    have S₆ : SSt h₀ env sc Hd Ms h₆ (put ρ y (.sh (.list rs))) (upd m y (.ref D)) := S₅.shed (fun b o hb q => hs₆.extBut b o (by simpa using hb) q) S.sub hCH fun b hb => by
        rw [List.mem_singleton.mp hb]
        cases q : h₀.get? C with
        | none => rfl
        | some o => have := S.base C o q; rw [hC₀] at this; cases this
    obtain ⟨h₇, t₇, rfl, hk₇⟩ := k₅
    exact .here S₆ ⟨h₆, t₇, rfl, fun b o hb q => hs₆.extBut b o (fun e => by rw [e, hC₀] at q; cases q) (hk₇ b o hb (hkeep b o q))⟩ rfl
end
end Mine

namespace Mine
open PySem

section
variable {h₀ : Heap} {env : Env} {sc : Scope} {Hd Ms : List Addr} {ρ : Vars} {m : Str → Option Value} {prog : Program} {w : World} {T : Tbl} {A : Around} {s s' : Shared} {n : Nat}

/-- lists hidden anew, and a name stored -/
theorem SPost.stored {s s₁ s₂ : Shared} {ns : List Addr} {ρ' : Vars} {m' : Str → Option Value} (S : SSt h₀ env sc Hd Ms s.heap ρ m) (k : Keeps s s₁) (hn : ∀ b ∈ ns, s.heap.get? b = none) (S₂ : SSt h₀ env sc (ns ++ Hd) (ns ++ Ms) s₂.heap ρ' m') (k₂ : ButKeeps (· ∈ ns ++ Ms) s₁ s₂) :
    SPost h₀ env sc s Hd Ms .next ρ' .next s₂ := by
  refine ⟨ns ++ Hd, ns ++ Ms, m', S₂, fun b hb => List.mem_append_right _ hb, fun b hb => List.mem_append_right _ hb, fun b hb => ?_, fun b hb => ?_, ?_, rfl⟩
  · rcases List.mem_append.mp hb with hb | hb
    · exact .inr (hn b hb)
    · exact .inl hb
  · rcases List.mem_append.mp hb with hb | hb
    · exact .inr (hn b hb)
    · exact .inl hb
  · obtain ⟨h, t, rfl, hk⟩ := k
    obtain ⟨h', t', rfl, hk'⟩ := k₂
    refine ⟨h', t', rfl, fun b o hb e => hk' b o (fun q => ?_) (hk b o e)⟩
    rcases List.mem_append.mp q with q | q
    · rw [hn b q] at e; cases e
    · exact hb q

theorem evG_ev {e : Expr} {sl : Slot} (h : evG T (n + 1) sc ρ e = some sl) : ∃ d, ev T n sc ρ e = some d ∧ ((isMade e = true ∧ ∃ xs, allFlat d = some xs ∧ sl = .own xs) ∨ (isMade e = false ∧ sl = .sh d)) := by
  simp only [evG_z, evG_eq] at h
  split at h
  · rename_i hm
    obtain ⟨d, h1, h2⟩ := obind h
    obtain ⟨xs, h3, rfl⟩ := omap h2
    exact ⟨d, h1, .inl ⟨hm, xs, h3, rfl⟩⟩
  · rename_i hm
    obtain ⟨d, h1, rfl⟩ := omap h
    exact ⟨d, h1, .inr ⟨by simpa using hm, rfl⟩⟩

theorem assign_name (hG : EvGOk prog w T h₀ n) (hE : ∀ k, k ≤ n → EvOk prog w T h₀ k) (hTs : ∀ k, k ≤ n → EvTsOk prog w T h₀ k) (hI : ∀ k, k ≤ n → EvIOk prog w T h₀ k) (R : Room n A) (S : SSt h₀ env sc Hd Ms s.heap ρ m) {x : Str} {px pos : Pos} {e : Expr} {sl : Slot}
    (hx : storable sc x = true) (h : evG T n sc ρ e = some sl) : wpAny (model prog w) A (exec (.Assign [.Name x px] e pos) env) (SPost h₀ env sc s Hd Ms .next (put ρ x sl)) NoE s := by
  cases n with
  | zero => exact nope h
  | succ n =>
  obtain ⟨d, h1, hway⟩ := evG_ev h
  rcases swaps_pure (x := x) (px := px) (line := pos.line) (env := env) h1 with hsw | ⟨elt, gs, csc, cpos, rfl, hloc, hsw⟩
  · refine wpAny_Assign_Name (wpAny_mono (hG A env sc Hd s ρ e sl R S.toE h) (fun v s₁ g => ?_) fun _ _ h => h) hsw
    obtain ⟨ns, S₁, hv, hap, hn, _⟩ := give S g
    refine wpAny_mono (SSt.store S₁ hx hv (fun xs e y ys _ hl => hap xs e y ys hl)) (fun _ s₂ h₂ => ?_) fun _ _ h => h
    exact SPost.stored S g.1 hn h₂.1 h₂.2
  · rcases hway with ⟨hm, _⟩ | ⟨_, rfl⟩
    · cases hm
    · cases n with
      | zero => exact nope h1
      | succ n =>
      obtain ⟨target, iter, ifs, items, rs, rfl, hO, h2, h3, rfl⟩ := lc_inv h1
      exact comp_assign (hE _ (by omega)) (hTs _ (by omega)) (hI _ (by omega)) (R.less (by omega)) S hsw hx hO h2 h3

theorem list_assign (hE : EvOk prog w T h₀ n) (R : Room n A) (S : SSt h₀ env sc Hd Ms s.heap ρ m) {x : Str} {px p pos : Pos} {i e : Expr} {xs : List PyData} {d : PyData} {k : Int} {j : Nat}
    (h1 : ev T n sc ρ e = some d) (hl : look ρ x = some (.own xs)) (h2 : ev T n sc ρ i = some (.int k)) (hsz : xs.length ≤ 2 ^ 20) (hj : placeIn k xs.length = some j) :
    wpAny (model prog w) A (exec (.Assign [.Subscript (.Name x px) i p] e pos) env) (SPost h₀ env sc s Hd Ms .next (put ρ x (.own (xs.set j d)))) NoE s := by
  refine wpAny_Assign_Subscript (wpAny_mono (hE A env sc Hd s ρ e d R S.toE h1) (fun v s₁ hv => ?_) fun _ _ h => h) ?_
  · have S₁ := S.after hv.1
    obtain ⟨u, hm, a, vs, c, rfl, haM, hg, hr⟩ := S₁.sl x _ hl
    refine frame_name S₁.fr hm ?_
    refine wpAny_mono (hE A env sc Hd s₁ ρ i _ R S₁.toE h2) (fun iv s₂ hi => ?_) fun _ _ h => h
    obtain ⟨t, rfl⟩ := hi.2.int_inv
    have S₂ := S₁.after hi.1
    have hg₂ := keeps_get hi.1 _ _ hg
    have hr₂ := hr.keeps (keeps_get hi.1)
    have hlen := hr.length
    refine setItem_ok hg₂ (by rw [hlen]; exact hj) (by rw [hlen]; exact hsz) fun h' n' hg' hsb => ?_
    have S₃ := S₂.changed hl hm haM hg₂ hsb hg' (hr₂.set j (keeps_rep hi.1 hv.2))
    obtain ⟨h₁, t₁, rfl, k₁⟩ := hv.1
    obtain ⟨h₂, t₂, rfl, k₂⟩ := hi.1
    exact .here S₃ ⟨h', t₂, rfl, fun b o hb q => hsb.extBut b o (fun e => hb (e ▸ haM)) (k₂ b o (k₁ b o q))⟩ rfl
  · have hp := ev_plain h1
    cases n with
    | zero => exact nope h1
    | succ n => cases e <;> first | rfl | exact nope h1

theorem not_interactive (S : SSt h₀ env sc Hd Ms s.heap ρ m) : interactive env = false := by
  unfold interactive
  rw [S.fr.fn]; rfl

theorem method_append (hE : EvOk prog w T h₀ n) (R : Room n A) (S : SSt h₀ env sc Hd Ms s.heap ρ m) {x : Str} {px p p' pos : Pos} {e : Expr} {xs : List PyData} {d : PyData} (h1 : ev T n sc ρ e = some d) (hl : look ρ x = some (.own xs)) (hsz : xs.length ≤ 2 ^ 20) (hline : (p.endLine == p'.line) = true) :
    wpAny (model prog w) A (exec (.Expr (.Call (.Attribute (.Name x px) (Str.ofString "append") p) [e] [] p') pos) env) (SPost h₀ env sc s Hd Ms .next (put ρ x (.own (xs ++ [d])))) NoE s := by
  obtain ⟨u, hm, a, vs, c, rfl, haM, hg, hr⟩ := S.sl x _ hl
  have hlen := hr.length
  refine wpAny_Expr ?_ (not_interactive S) rfl
  refine wpAny_Call_method rfl ?_ hline PySem.F.plainAttrs_list PySem.F.slot_list_append PySem.F.type_list_append (frame_name S.fr hm ⟨(lst_isList hg).typeIs, fun b e => by cases e; exact ⟨_, hg, rfl⟩, ?_⟩)
  · rw [back_cons (ev_plain h1)]; rfl
  · rw [back_cons (ev_plain h1)]
    refine P.append_list (wpAny_mono (hE A env sc Hd s ρ e d R S.toE h1) (fun v s₁ hv => ?_) fun _ _ h => h)
    have hg₁ := keeps_get hv.1 _ _ hg
    refine ⟨vs.toArray, c, by simp [sizeLine_eq]; omega, hg₁, ?_⟩
    obtain ⟨n', hn'⟩ := lst_update (f := fun xs => xs.push v) (ws := vs ++ [v]) hg₁ (by simp)
    have S₁ := S.after hv.1
    have S₃ := S₁.changed hl hm haM hg₁ (Heap.SameBut.update ..) hn' ((hr.keeps (keeps_get hv.1)).append (.one hv.2))
    obtain ⟨h₁, t₁, rfl, k₁⟩ := hv.1
    exact .here S₃ ⟨_, t₁, rfl, fun b o hb q => (Heap.SameBut.update ..).extBut b o (fun e => hb (e ▸ haM)) (k₁ b o q)⟩ rfl

theorem method_extend (hE : EvOk prog w T h₀ n) (R : Room n A) (S : SSt h₀ env sc Hd Ms s.heap ρ m) {x : Str} {px p p' pos : Pos} {e : Expr} {xs ys : List PyData} (h1 : ev T n sc ρ e = some (.list ys)) (hl : look ρ x = some (.own xs)) (hsz : xs.length ≤ 2 ^ 20) (hsz' : ys.length ≤ 2 ^ 20) (hline : (p.endLine == p'.line) = true) :
    wpAny (model prog w) A (exec (.Expr (.Call (.Attribute (.Name x px) (Str.ofString "extend") p) [e] [] p') pos) env) (SPost h₀ env sc s Hd Ms .next (put ρ x (.own (xs ++ ys)))) NoE s := by
  obtain ⟨u, hm, a, vs, c, rfl, haM, hg, hr⟩ := S.sl x _ hl
  have hlen := hr.length
  refine wpAny_Expr ?_ (not_interactive S) rfl
  refine wpAny_Call_method rfl ?_ hline PySem.F.plainAttrs_list PySem.F.slot_list_extend PySem.F.type_list_extend (frame_name S.fr hm ⟨(lst_isList hg).typeIs, fun b e => by cases e; exact ⟨_, hg, rfl⟩, ?_⟩)
  · rw [back_cons (ev_plain h1)]; rfl
  · rw [back_cons (ev_plain h1)]
    refine P.extend_list (wpAny_mono (hE A env sc Hd s ρ e _ R S.toE h1) (fun v s₁ hv => ?_) fun _ _ h => h)
    have hg₁ := keeps_get hv.1 _ _ hg
    obtain ⟨b, us, c', rfl, hgb, _, hrb⟩ := hv.2.list_inv
    have hlen' := hrb.length
    refine ⟨b, vs.toArray, us.toArray, c, c', by simp [sizeLine_eq]; omega, by simp [sizeLine_eq]; omega, PyProof.Rows.extend_door (by simp [sizeLine_eq]; omega), rfl, hg₁, hgb, ?_⟩
    obtain ⟨n', hn'⟩ := lst_update (f := fun xs => xs ++ us.toArray) (ws := vs ++ us) hg₁ (by simp)
    have S₁ := S.after hv.1
    have S₃ := S₁.changed hl hm haM hg₁ (Heap.SameBut.update ..) hn' ((hr.keeps (keeps_get hv.1)).append hrb)
    obtain ⟨h₁, t₁, rfl, k₁⟩ := hv.1
    exact .here S₃ ⟨_, t₁, rfl, fun b o hb q => (Heap.SameBut.update ..).extBut b o (fun e => hb (e ▸ haM)) (k₁ b o q)⟩ rfl

theorem return_ok (hB : EvBOk prog w T h₀ n) (R : Room n A) (S : SSt h₀ env sc Hd Ms s.heap ρ m) {e : Expr} {pos : Pos} {d : PyData} (hE : ∀ k, k ≤ n → EvOk prog w T h₀ k) (h1 : evB T n sc ρ e = some d) :
    wpAny (model prog w) A (exec (.Return (some e) pos) env) (SPost h₀ env sc s Hd Ms (.ret d) ρ) NoE s := by
  refine wpAny_Return_some ?_
  by_cases hn : ∃ x p, e = .Name x p
  · obtain ⟨x, p, rfl⟩ := hn
    cases n with
    | zero => exact nope h1
    | succ n =>
    simp only [evB_z, evB_nm, evB_co, evB_bi, evB_un, evB_bo, evB_if, evB_cm, evB_su, evB_li, evB_tu, evB_ca, evB_lc] at h1
    obtain ⟨sl, h2, h3⟩ := borrow_look h1
    obtain ⟨v, hm, hv⟩ := S.sl x sl h2
    refine frame_name S.fr hm (.here S (.of (keeps_refl s)) ⟨v, rfl, ?_⟩)
    cases sl with
    | sh d' => simp [borrow] at h3; subst h3; exact .inl hv
    | own xs =>
      simp [borrow] at h3; subst h3
      obtain ⟨a, vs, c, rfl, haM, hg, hr⟩ := hv
      exact .inr ⟨a, vs, c, xs, rfl, rfl, haM, hg, hr⟩
  · cases n with
    | zero => exact nope h1
    | succ n =>
    have h' : ev T n sc ρ e = some d := by
      cases e <;> first | exact absurd ⟨_, _, rfl⟩ hn | exact h1
    refine wpAny_mono (hE n (Nat.le_succ _) A env sc Hd s ρ e d (R.less (Nat.le_succ _)) S.toE h') (fun v s₁ hv => ?_) fun _ _ h => h
    exact .here (S.after hv.1) (.of hv.1) ⟨v, rfl, .inl hv.2⟩
end
end Mine

namespace Mine
open PySem

section
variable {h₀ : Heap} {env : Env} {sc : Scope} {Hd Ms : List Addr} {ρ : Vars} {m : Str → Option Value} {prog : Program} {w : World} {T : Tbl} {A : Around} {s s' : Shared} {n : Nat}

theorem swapped_names (hfn : env.scope.kind = .function) {x y : Str} {px py pt pos : Pos} {k k' : Nat} {a b : Expr} (h : swapOk sc x y px py a b = true) (hx : env.kindOf x = some .local) (hy : env.kindOf y = some .local) :
    swappedStores [.Tuple [.Name x px, .Name y py] k pt] (.Tuple [a, b] k' pos) env = pure (some [x, y]) := by
  unfold swapOk at h
  simp only [Bool.and_eq_true, Bool.not_eq_true', beq_iff_eq, bne_iff_ne, ne_eq] at h
  obtain ⟨⟨⟨⟨⟨⟨h1, h2⟩, h3⟩, h4⟩, h5⟩, h6⟩, h7⟩ := h
  unfold swappedStores
  simp only [List.length_cons, List.length_nil, Env.blockKind, hfn, h5, h6, h7, List.head?_cons, Option.map_some, Option.getD_some]
  have e1 : (Expr.Name x px).pos.line = px.line := rfl
  have ed : [x, y].eraseDups = [x, y] := by
    rw [List.eraseDups_cons, List.filter_cons]
    have : (y == x) = false := by simpa using fun e => h3 e.symm
    simp [this, List.eraseDups_cons]
  have sa : ∀ v p, a ≠ .Starred v p := by rintro v p rfl; simp at h5
  have sb : ∀ v p, b ≠ .Starred v p := by rintro v p rfl; simp at h5
  simp [e1, hx, hy, h4, ScopeKind.isAnnotationScope, ed]

theorem pair_assign (hG : EvGOk prog w T h₀ n) (R : Room n A) (S : SSt h₀ env sc Hd Ms s.heap ρ m) {x y : Str} {px py pt pt' pos : Pos} {k k' : Nat} {a b : Expr} {sl sl' : Slot} (hO : swapOk sc x y px py a b = true) (hpx : plainName x = true) (hpy : plainName y = true)
    (h1 : evG T n sc ρ a = some sl) (h2 : evG T n sc ρ b = some sl') :
    wpAny (model prog w) A (exec (.Assign [.Tuple [.Name x px, .Name y py] k pt] (.Tuple [a, b] k' pt') pos) env) (SPost h₀ env sc s Hd Ms .next (put (put ρ x sl) y sl')) NoE s := by
  have hxy : kindIn sc.names x = some .local ∧ kindIn sc.names y = some .local ∧ x ≠ y := by
    unfold swapOk at hO
    simp only [Bool.and_eq_true, Bool.not_eq_true', beq_iff_eq, bne_iff_ne, ne_eq] at hO
    exact ⟨hO.1.1.1.1.1.1, hO.1.1.1.1.1.2, hO.1.1.1.1.2⟩
  obtain ⟨kx, ky, hne⟩ := hxy
  have sx : storable sc x = true := by unfold storable; simp [kx, hpx]
  have sy : storable sc y = true := by unfold storable; simp [ky, hpy]
  have pa : plainE a = true := by
    cases n with
    | zero => exact nope h1
    | succ n => obtain ⟨d, q, _⟩ := evG_ev h1; exact ev_plain q
  have pb : plainE b = true := by
    cases n with
    | zero => exact nope h2
    | succ n => obtain ⟨d, q, _⟩ := evG_ev h2; exact ev_plain q
  refine PyProof.Rows.Assign_Tuple_swapped (names := [x, y]) ?_ rfl (swapped_names S.fr.fn hO (S.kinds x _ kx) (S.kinds y _ ky))
  refine PyProof.Rows.Tuple_ ?_
  rw [back_cons pa, back_cons pb]
  refine PySem.Calls.spliced_cons (wpAny_mono (hG A env sc Hd s ρ a sl R S.toE h1) (fun va s₁ g₁ => ?_) fun _ _ h => h)
  obtain ⟨ns, S₁, hv₁, hap₁, hn₁, hown₁⟩ := give S g₁
  refine PySem.Calls.spliced_cons (wpAny_mono (hG A env sc (ns ++ Hd) s₁ ρ b sl' R S₁.toE h2) (fun vb s₂ g₂ => PySem.Calls.spliced_nil ?_) fun _ _ h => h)
  obtain ⟨ns', S₂, hv₂, hap₂, hn₂, hown₂⟩ := give S₁ g₂
  have hv₁' : SlotS s₂.heap (ns' ++ (ns ++ Hd)) (ns' ++ (ns ++ Ms)) va sl := hv₁.mono (fun b o hb e => mono_fresh (keeps_get g₂.1) hn₂ b o hb e) fun b hb vs c e => ⟨keeps_get g₂.1 _ _ e, List.mem_append_right _ hb⟩
  refine wpAny_newObj_type (h := ?_) (by show [va, vb].toArray.size ≤ sizeLine; simp [sizeLine_eq])
  have kp : Keeps s₂ { s₂ with heap := s₂.heap.push (tupO [va, vb] 0) } := keeps_push s₂ _ _
  refine PyProof.Rows.unpackItems_tuple (items := #[va, vb]) R.hd ⟨_, Heap.get?_push_size _ rfl, rfl, 0, rfl⟩ fun h' he => ?_
  have k₃ : Keeps s₂ { s₂ with heap := h' } := keeps_heap fun c o e => he c o (Nat.ne_of_lt (Nat.lt_of_lt_of_le (Heap.lt_size e) (by rw [Heap.size_push]; exact Nat.le_succ _))) (Heap.get?_push_of_some _ e)
  have S₃ : SSt h₀ env sc (ns' ++ (ns ++ Hd)) (ns' ++ (ns ++ Ms)) h' ρ m := S₂.after k₃
  have hv₃ : ∀ v sl, SlotS s₂.heap (ns' ++ (ns ++ Hd)) (ns' ++ (ns ++ Ms)) v sl → SlotS h' (ns' ++ (ns ++ Hd)) (ns' ++ (ns ++ Ms)) v sl := fun v sl q => q.mono (fun b o hb e => ⟨keeps_get k₃ _ _ e, hb⟩) fun b hb vs c e => ⟨keeps_get k₃ _ _ e, hb⟩
  show wpAny _ A (do holding [va] (bindName env y vb); assignInOrder [fun v => bindName env x v] [va]) _ _ _
  refine wpAny_bind (wpAny_holding (wpAny_bindName (wpAny_mono (SSt.store' (s := { s₂ with heap := h' }) S₃ sy (hv₃ _ _ hv₂) (fun xs e z zs _ hl => hap₂ xs e z zs hl)) (fun _ s₄ h₄ => ?_) fun _ _ h => h)))
  obtain ⟨⟨S₄, k₄⟩, keep₄⟩ := h₄
  show wpAny _ A (do holding [] (bindName env x va); assignInOrder [] []) _ _ _
  refine wpAny_bind (wpAny_holding (wpAny_bindName (wpAny_mono (SSt.store' S₄ sx (keep₄ _ _ (hv₃ _ _ hv₁')) (fun xs e z zs hz hl => ?_)) (fun _ s₅ h₅ => ?_) fun _ _ h => h)))
  · rw [look_put] at hl
    by_cases q : z = y
    · subst q
      rw [if_pos rfl] at hl
      obtain ⟨c₁, rfl, f₁⟩ := hown₁ xs e
      cases hl
      obtain ⟨c₂, rfl, f₂⟩ := hown₂ zs rfl
      simp only [upd, if_pos]
      intro q
      cases q
      subst e
      obtain ⟨c', vs, c, e1, _, hg, _⟩ := hv₁
      cases e1
      rw [f₂] at hg; cases hg
    · rw [if_neg q] at hl
      simp only [upd, if_neg q]
      exact hap₁ xs e z zs hl
  · obtain ⟨⟨S₅, k₅⟩, _⟩ := h₅
    refine wpAny_pure ?_
    have kk : Keeps s { s₂ with heap := h' } := keeps_trans g₁.1 (keeps_trans g₂.1 k₃)
    have S₅' : SSt h₀ env sc ((ns' ++ ns) ++ Hd) ((ns' ++ ns) ++ Ms) s₅.heap (put (put ρ x sl) y sl') (upd (upd m x va) y vb) := by
      rw [List.append_assoc, List.append_assoc]
      have el : ∀ z, look (put (put ρ y sl') x sl) z = look (put (put ρ x sl) y sl') z := fun z => by
        simp only [look_put]
        by_cases q1 : z = x <;> by_cases q2 : z = y <;> simp [q1, q2]
        · exact absurd (q1.symm.trans q2) hne
        · intro q3; exact absurd q3 hne
        · intro q3; exact absurd q3.symm hne
      have em : ∀ z, upd (upd m y vb) x va z = upd (upd m x va) y vb z := fun z => by
        simp only [upd]
        by_cases q1 : z = x <;> by_cases q2 : z = y <;> simp [q1, q2]
        · exact absurd (q1.symm.trans q2) hne
        · intro q3; exact absurd q3 hne
        · intro q3; exact absurd q3.symm hne
      have em' : upd (upd m y vb) x va = upd (upd m x va) y vb := funext em
      rw [← em']
      exact { base := S₅.base, low := S₅.low, kinds := S₅.kinds, sub := S₅.sub, frd := S₅.frd, loc := S₅.loc, cel := S₅.cel, fr := S₅.fr
              sl := fun z t e => S₅.sl z t ((el z).trans e)
              apart := fun z z' zs zs' v e1 e2 e3 e4 => S₅.apart z z' zs zs' v ((el z).trans e1) ((el z').trans e2) e3 e4 }
    refine SPost.stored S kk (fun b hb => ?_) S₅' (by rw [List.append_assoc]; exact k₄.trans k₅)
    rcases List.mem_append.mp hb with hb | hb
    · exact fresh_of g₁.1 (hn₂ b hb)
    · exact hn₁ b hb
end
end Mine

namespace Mine
open PySem

section
variable {h₀ : Heap} {env : Env} {sc : Scope} {Hd Ms : List Addr} {ρ : Vars} {m : Str → Option Value} {prog : Program} {w : World} {T : Tbl} {A : Around} {s s' : Shared} {n : Nat}

theorem forL_cons {body : Vars → Option (Fl × Vars)} {bind : Vars → PyData → Option Vars} {d : PyData} {r : List PyData} {p : Fl × Vars} (e : forL body bind ρ (d :: r) = some p) :
    ∃ ρ₁ fl ρ₂, bind ρ d = some ρ₁ ∧ body ρ₁ = some (fl, ρ₂) ∧ ((fl = .next ∧ forL body bind ρ₂ r = some p) ∨ ∃ x, fl = .ret x ∧ p = (.ret x, ρ₂)) := by
  unfold forL at e
  obtain ⟨ρ₁, h1, h2⟩ := obind e
  obtain ⟨⟨fl, ρ₂⟩, h3, h4⟩ := obind h2
  refine ⟨ρ₁, fl, ρ₂, h1, h3, ?_⟩
  cases fl with
  | next => exact .inl ⟨rfl, h4⟩
  | ret x => exact .inr ⟨x, rfl, by simpa using h4.symm⟩

theorem targetSt_names {target : Expr} (h : targetSt sc target = true) : ∀ x ∈ namesOf target, storable sc x = true := by
  intro x hx
  cases target with
  | Name y p => simp [namesOf] at hx; subst hx; exact h
  | Tuple ts k p =>
    simp only [namesOf, List.mem_filterMap] at hx
    obtain ⟨t, ht, ht2⟩ := hx
    simp only [targetSt, List.all_eq_true] at h
    have := h t ht
    cases t with
    | Name y p => simp at ht2; subst ht2; exact this
    | _ => cases ht2
  | _ => simp [namesOf] at hx

/-- what stands while a loop runs: what it goes over is hidden as 'wr' -/
structure LFix (h₀ : Heap) (env : Env) (sc : Scope) (Hd Ms : List Addr) (ρ : Vars) (m : Str → Option Value) (s s₂ : Shared) (wr : List Addr) : Prop where
  S : SSt h₀ env sc Hd Ms s.heap ρ m
  k : Keeps s s₂
  fr : ∀ b ∈ wr, s.heap.get? b = none
  al : ∀ b ∈ wr, ∃ o, s₂.heap.get? b = some o
theorem LFix.wM {wr : List Addr} {s₂ : Shared} (X : LFix h₀ env sc Hd Ms ρ m s s₂ wr) : ∀ b ∈ wr, b ∉ Ms := fun b hb hm => by
  obtain ⟨o, q⟩ := X.S.low b (X.S.sub b hm); rw [X.fr b hb] at q; cases q
theorem LFix.w0 {wr : List Addr} {s₂ : Shared} (X : LFix h₀ env sc Hd Ms ρ m s s₂ wr) : ∀ b ∈ wr, h₀.get? b = none := fun b hb => by
  cases q : h₀.get? b with
  | none => rfl
  | some o => have := X.S.base b o q; rw [X.fr b hb] at this; cases this
theorem LFix.inM {wr : List Addr} {s₂ : Shared} (X : LFix h₀ env sc Hd Ms ρ m s s₂ wr) : ∀ b, InFrame env b → b ∈ Ms := fun b hb => by
  rcases hb with rfl | ⟨y, hy⟩
  · exact X.S.loc
  · exact X.S.cel y b hy
noncomputable abbrev LKeep (wr Ms : List Addr) (s₂ : Shared) (h : Heap) : Prop := ∀ b o, b ∉ wr → b ∉ Ms → s₂.heap.get? b = some o → h.get? b = some o
/-- where a loop stands -/
structure LAt (h₀ : Heap) (env : Env) (sc : Scope) (s₂ : Shared) (wr Hd Ms : List Addr) (s' : Shared) (Hd' Ms' : List Addr) (ρ₁ : Vars) (m₁ : Str → Option Value) : Prop where
  S : SSt h₀ env sc Hd' Ms' s'.heap ρ₁ m₁
  a1 : ∀ b ∈ wr ++ Hd, b ∈ Hd'
  a2 : ∀ b ∈ Ms, b ∈ Ms'
  a3 : ∀ b ∈ Hd', b ∈ wr ++ Hd ∨ s₂.heap.get? b = none
  a4 : ∀ b ∈ Ms', b ∈ Ms ∨ s₂.heap.get? b = none
  same : s' = { s₂ with heap := s'.heap, toks := s'.toks }
  old : LKeep wr Ms s₂ s'.heap
section
variable {wr Hd' Ms' : List Addr} {s₂ s'' : Shared} {ρ₁ : Vars} {m₁ : Str → Option Value}
theorem LFix.start (X : LFix h₀ env sc Hd Ms ρ m s s₂ wr) : LAt h₀ env sc s₂ wr Hd Ms s₂ (wr ++ Hd) Ms ρ m where
  S := X.S.grow (ns := wr) (ms := []) (keeps_get X.k) (fun b hb => ⟨X.fr b hb, X.al b hb⟩) (by simp)
  a1 := fun _ h => h
  a2 := fun _ h => h
  a3 := fun _ h => .inl h
  a4 := fun _ h => .inl h
  same := rfl
  old := fun _ _ _ _ q => q
theorem LAt.wM (X : LFix h₀ env sc Hd Ms ρ m s s₂ wr) (Y : LAt h₀ env sc s₂ wr Hd Ms s' Hd' Ms' ρ₁ m₁) : ∀ b ∈ wr, b ∉ Ms' := fun b hb hm => by
  rcases Y.a4 b hm with q | q
  · exact X.wM b hb q
  · obtain ⟨o, q'⟩ := X.al b hb; rw [q] at q'; cases q'
theorem LAt.item (X : LFix h₀ env sc Hd Ms ρ m s s₂ wr) (Y : LAt h₀ env sc s₂ wr Hd Ms s' Hd' Ms' ρ₁ m₁) (k : ButKeeps (· ∈ wr) s' s'') (ha : ∀ b ∈ wr, ∃ o, s''.heap.get? b = some o) : LAt h₀ env sc s₂ wr Hd Ms s'' Hd' Ms' ρ₁ m₁ where
  S := Y.S.but (wr := wr) (fun b o hb q => k.get b o hb q) (fun b hb => Y.a1 b (List.mem_append_left _ hb)) (Y.wM X) X.w0 ha
  a1 := Y.a1
  a2 := Y.a2
  a3 := Y.a3
  a4 := Y.a4
  same := by obtain ⟨_, _, e, _⟩ := k; rw [e, Y.same]
  old := fun b o hb hm q => k.get b o hb (Y.old b o hb hm q)
theorem LAt.bound (X : LFix h₀ env sc Hd Ms ρ m s s₂ wr) (Y : LAt h₀ env sc s₂ wr Hd Ms s' Hd' Ms' ρ₁ m₁) {bs : List Bind} (k : ButKeeps (InFrame env) s' s'') (F : Frame env s''.heap (updAll m₁ bs)) (hb : ∀ b ∈ bs, Rep s₂.heap (wr ++ Hd) b.2.1 b.2.2) :
    LAt h₀ env sc s₂ wr Hd Ms s'' Hd' Ms' (putAll ρ₁ bs) (updAll m₁ bs) := by
  have old : LKeep wr Ms s₂ s''.heap := fun b o hb hm q => k.get b o (fun h => hm (X.inM b h)) (Y.old b o hb hm q)
  refine ⟨Y.S.bound (fun b o hb q => k.get b o hb q) F fun b hb' => (hb b hb').mono fun c o hc q => ⟨old c o (fun h => hc (List.mem_append_left _ h)) (fun h => hc (List.mem_append_right _ (X.S.sub c h))) q, fun hm => ?_⟩, Y.a1, Y.a2, Y.a3, Y.a4, ?_, old⟩
  · rcases Y.a3 c hm with q' | q'
    · exact hc q'
    · rw [q'] at q; cases q
  · obtain ⟨_, _, e, _⟩ := k; rw [e, Y.same]
theorem LAt.block (X : LFix h₀ env sc Hd Ms ρ m s s₂ wr) (Y : LAt h₀ env sc s₂ wr Hd Ms s' Hd' Ms' ρ₁ m₁) {fl : Fl} {ρ₃ : Vars} {f : Flow} (p : SPost h₀ env sc s' Hd' Ms' fl ρ₃ f s'') :
    ∃ Hd₃ Ms₃ m₃, LAt h₀ env sc s₂ wr Hd Ms s'' Hd₃ Ms₃ ρ₃ m₃ ∧ FlowRep s''.heap Hd₃ Ms₃ fl f ∧ ∀ b ∈ wr, ∀ o, s'.heap.get? b = some o → s''.heap.get? b = some o := by
  obtain ⟨Hd₃, Ms₃, m₃, S₃, b1, b2, b3, b4, k, fr⟩ := p
  have al : ∀ b, s'.heap.get? b = none → s₂.heap.get? b = none := fun b q => by
    cases q' : s₂.heap.get? b with
    | none => rfl
    | some o =>
      exfalso
      have low : b ∉ Hd' := fun h => by obtain ⟨o', e⟩ := Y.S.low b h; rw [q] at e; cases e
      have := Y.old b o (fun h => low (Y.a1 b (List.mem_append_left _ h))) (fun h => low (Y.a1 b (List.mem_append_right _ (X.S.sub b h)))) q'
      rw [q] at this; cases this
  refine ⟨Hd₃, Ms₃, m₃, ⟨S₃, fun b hb => b1 b (Y.a1 b hb), fun b hb => b2 b (Y.a2 b hb), fun b hb => (b3 b hb).elim (Y.a3 b) fun q => .inr (al b q), fun b hb => (b4 b hb).elim (Y.a4 b) fun q => .inr (al b q), ?_, fun b o hb hm q => k.get b o (fun h => ?_) (Y.old b o hb hm q)⟩, fr, fun b hb o q => k.get b o (fun h => Y.wM X b hb h) q⟩
  · obtain ⟨_, _, e, _⟩ := k; rw [e, Y.same]
  · rcases Y.a4 b h with q' | q'
    · exact hm q'
    · rw [q'] at q; cases q
/-- the loop is left -/
theorem LAt.close (X : LFix h₀ env sc Hd Ms ρ m s s₂ wr) {fl : Fl} {f : Flow} (S : SSt h₀ env sc Hd' Ms' s'.heap ρ₁ m₁) (a1 : ∀ b ∈ Hd, b ∈ Hd') (a2 : ∀ b ∈ Ms, b ∈ Ms') (a3 : ∀ b ∈ Hd', b ∈ wr ++ Hd ∨ s₂.heap.get? b = none) (a4 : ∀ b ∈ Ms', b ∈ Ms ∨ s₂.heap.get? b = none)
    (same : s' = { s₂ with heap := s'.heap, toks := s'.toks }) (old : LKeep wr Ms s₂ s'.heap) (hf : FlowRep s'.heap Hd' Ms' fl f) : SPost h₀ env sc s Hd Ms fl ρ₁ f s' := by
  refine ⟨Hd', Ms', m₁, S, a1, a2, fun b hb => ?_, fun b hb => (a4 b hb).elim .inl fun q => .inr (fresh_of X.k q), ?_, hf⟩
  · rcases a3 b hb with q | q
    · rcases List.mem_append.mp q with q | q
      · exact .inr (X.fr b q)
      · exact .inl q
    · exact .inr (fresh_of X.k q)
  · have hk := keeps_get X.k
    obtain ⟨h₁, t₁, e, _⟩ := X.k
    exact ⟨s'.heap, s'.toks, by rw [same, e], fun b o hb q => old b o (fun hm => by rw [X.fr b hm] at q; cases q) hb (hk b o q)⟩
theorem LAt.done (X : LFix h₀ env sc Hd Ms ρ m s s₂ wr) (Y : LAt h₀ env sc s₂ wr Hd Ms s' Hd' Ms' ρ₁ m₁) (k : ButKeeps (· ∈ wr) s' s'') : SPost h₀ env sc s Hd Ms .next ρ₁ .next s'' := by
  have S₄ := Y.S.shedF (wr := wr) (fun b o hb q => k.get b o hb q) (fun b hb => Y.a1 b (List.mem_append_left _ hb)) (Y.wM X) X.w0
  refine LAt.close X S₄ (fun b hb => List.mem_filter.mpr ⟨Y.a1 b (List.mem_append_right _ hb), ?_⟩) Y.a2 (fun b hb => Y.a3 b (List.mem_filter.mp hb).1) Y.a4 ?_ (fun b o hb hm q => k.get b o hb (Y.old b o hb hm q)) rfl
  · simp only [decide_eq_true_eq]
    intro q
    obtain ⟨o, e⟩ := X.S.low b hb
    rw [X.fr b q] at e; cases e
  · obtain ⟨_, _, e, _⟩ := k; rw [e, Y.same]
end
/-- where a loop stands after some turns -/
noncomputable def LI (h₀ : Heap) (env : Env) (sc : Scope) (s₂ : Shared) (wr Hd Ms : List Addr) (len : Nat) (St : Nat → Heap → Prop) (J : Nat → Vars → Prop) (c : Nat) (s' : Shared) : Prop :=
  ∃ i Hd' Ms' ρ₁ m₁, c = len + 1 - i ∧ i ≤ len ∧ St i s'.heap ∧ LAt h₀ env sc s₂ wr Hd Ms s' Hd' Ms' ρ₁ m₁ ∧ J i ρ₁

theorem loop_core {L : PyData → Vars → Prop} {target : Expr} {body : List Stmt} {it : Value} {items : List PyData} {s₂ : Shared} (hh : A.handled = none) (S : SSt h₀ env sc Hd Ms s.heap ρ m) (hit : IterEnds prog w A s Hd target items it s₂) (ht : targetSt sc target = true) (J : Nat → Vars → Prop) (h0 : J 0 ρ)
    (hB : ∀ i d ρ₁, items[i]? = some d → J i ρ₁ → ∃ ρ₂, bindT ρ₁ target d = some ρ₂ ∧ ∀ (Hd' Ms' : List Addr) (m' : Str → Option Value) (s' : Shared), SSt h₀ env sc Hd' Ms' s'.heap ρ₂ m' →
      wpAny (model prog w) A (execs body env) (fun f s'' => ∃ fl ρ₃, SPost h₀ env sc s' Hd' Ms' fl ρ₃ f s'' ∧ (fl = .next → J (i + 1) ρ₃) ∧ ∀ d, fl = .ret d → L d ρ₃) NoE s')
    {RR : Result → Shared → Prop} (kn : ∀ s' ρ', J items.length ρ' → SPost h₀ env sc s Hd Ms .next ρ' .next s' → RR (.ok .next) s') (kr : ∀ d s' ρ' v, L d ρ' → SPost h₀ env sc s Hd Ms (.ret d) ρ' (.ret v) s' → RR (.ok (.ret v)) s') :
    codeAny (model prog w) A (.forLoop target it body [] env) RR s₂ := by
  obtain ⟨kk, wr, St, P, hst, hfr⟩ := hit
  have X : LFix h₀ env sc Hd Ms ρ m s s₂ wr := ⟨S, kk, hfr, fun b hb => P.alive 0 _ hst b hb⟩
  clear hfr kk S
  refine codeAny_forLoop_any (LI h₀ env sc s₂ wr Hd Ms items.length St J) ?_ (items.length + 1) ⟨0, _, _, _, _, rfl, Nat.zero_le _, hst, X.start, h0⟩
  rintro c s' ⟨i, Hd', Ms', ρ₁, m', rfl, hi', hst', Y, hJ⟩
  have hkH : ∀ b o, b ∉ wr ++ Hd → s₂.heap.get? b = some o → s'.heap.get? b = some o := fun b o hb q => Y.old b o (fun h => hb (List.mem_append_left _ h)) (fun h => hb (List.mem_append_right _ (X.S.sub b h))) q
  by_cases hlt : i < items.length
  · obtain ⟨ρ₂, eb, hbody⟩ := hB i _ ρ₁ (List.getElem?_eq_getElem hlt) hJ
    refine wpAny_mono (P.item i _ _ (List.getElem?_eq_getElem hlt) hst' hkH) (fun r s₄ h₄ => ?_) fun _ _ h => h.elim
    obtain ⟨v, rfl, h₄⟩ := h₄
    refine wpAny_mono h₄ (fun _ s₅ h₅ => ?_) fun _ _ h => h.elim
    obtain ⟨tv, hst₅, k₅⟩ := h₅
    have Y₅ := Y.item X k₅ (P.alive _ _ hst₅)
    clear Y hkH k₅ h₄ hst'
    refine wpAny_mono (target_ok (W := InFrame env) hh (.inl rfl) tv eb Y₅.S.fr fun x hx => ?_) (fun _ s₆ h₆ => ?_) fun _ _ h => h.elim
    · obtain ⟨p1, p2⟩ := storable_kind X.S.kinds (targetSt_names ht x hx)
      exact ⟨p1, p2, fun c _ hc => .inr ⟨x, hc⟩⟩
    obtain ⟨bs, rfl, hbs, F₆, k₆⟩ := h₆
    have Y₆ := Y₅.bound X k₆ F₆ hbs
    have hst₆ : St (i + 1) s₆.heap := P.frame _ _ _ hst₅ fun b hb o q => k₆.get b o (fun h => X.wM b hb (X.inM b h)) q
    clear Y₅ hst₅ k₆ F₆ hbs
    refine wpAny_mono (hbody Hd' Ms' _ s₆ Y₆.S) (fun f s₇ h₇ => ?_) fun _ _ h => h.elim
    obtain ⟨fl, ρ₃, p, jn, jr⟩ := h₇
    obtain ⟨Hd₇, Ms₇, m₇, Y₇, fr₇, kw⟩ := Y₆.block X p
    cases fl with
    | next =>
      cases (show f = .next from fr₇)
      exact ⟨items.length + 1 - (i + 1), by omega, i + 1, _, _, _, _, rfl, hlt, P.frame _ _ _ hst₆ kw, Y₇, jn rfl⟩
    | ret d =>
      obtain ⟨v', rfl, hv'⟩ := fr₇
      exact kr d s₇ ρ₃ v' (jr d rfl) (LAt.close X Y₇.S (fun b hb => Y₇.a1 b (List.mem_append_right _ hb)) Y₇.a2 Y₇.a3 Y₇.a4 Y₇.same Y₇.old ⟨v', rfl, hv'⟩)
  · cases (show i = items.length by omega)
    refine wpAny_mono (P.done _ hst' hkH) (fun r s₄ h₄ => ?_) fun _ _ h => h.elim
    obtain ⟨rfl, k₄⟩ := h₄
    exact wpAny_execs_nil (kn s₄ ρ₁ hJ (Y.done X k₄))

theorem for_ok (hI : EvIOk prog w T h₀ n) (hS : EvSsOk prog w T h₀ n) (R : Room n A) (S : SSt h₀ env sc Hd Ms s.heap ρ m) {target iter : Expr} {body : List Stmt} {pos : Pos} {items : List PyData} {fl : Fl} {ρ' : Vars} (ht : targetSt sc target = true)
    (h1 : evI T n sc ρ iter target = some items) (h2 : forL (fun ρ => evSs T n sc ρ body) (fun ρ d => bindT ρ target d) ρ items = some (fl, ρ')) :
    wpAny (model prog w) A (exec (.For target iter body [] pos) env) (SPost h₀ env sc s Hd Ms fl ρ') NoE s := by
  obtain ⟨hi, hsz, hpl⟩ := hI A env sc Hd s ρ iter target items R S.toE h1
  refine wpAny_For (wpAny_mono hi (fun xv s₁ h₁ => wpAny_mono h₁ (fun it s₂ h₂ => ?_) fun _ _ e => e) fun _ _ e => e) (fun x => plain_fold hpl env x)
  refine loop_core R.hd S h₂ ht (fun i ρ₁ => forL (fun ρ => evSs T n sc ρ body) (fun ρ d => bindT ρ target d) ρ₁ (items.drop i) = some (fl, ρ')) h2 (L := fun d ρ₃ => fl = .ret d ∧ ρ' = ρ₃) (fun i d ρ₁ hd er => ?_) (fun s' ρ₁ er p => ?_) (fun d s' ρ₁ v e p => ?_)
  · obtain ⟨hlt, rfl⟩ := List.getElem?_eq_some_iff.mp hd
    rw [List.drop_eq_getElem_cons hlt] at er
    obtain ⟨ρ₂, fl₂, ρ₃, eb, es, hways⟩ := forL_cons er
    refine ⟨ρ₂, eb, fun Hd' Ms' m' s' S' => wpAny_mono (hS A env sc Hd' Ms' s' _ _ body fl₂ ρ₃ R S' es) (fun f s₇ h₇ => ⟨fl₂, ρ₃, h₇, ?_⟩) fun _ _ h => h⟩
    rcases hways with ⟨rfl, er'⟩ | ⟨x, rfl, ep⟩
    · exact ⟨fun _ => er', fun d e => by cases e⟩
    · exact ⟨fun e => (by cases e), fun d e => (by cases e; cases ep; exact ⟨rfl, rfl⟩)⟩
  · rw [List.drop_length] at er
    cases er
    exact p
  · obtain ⟨rfl, rfl⟩ := e
    exact p
end
end Mine

namespace Mine
open PySem

section
variable {h₀ : Heap} {env : Env} {sc : Scope} {Hd Ms : List Addr} {ρ : Vars} {m : Str → Option Value} {prog : Program} {w : World} {T : Tbl} {A : Around} {s s' : Shared} {n : Nat}

noncomputable def TupAsg (es ts : List Expr) (e : Expr) : Prop := ∃ x px y py a b k' pt, es = [.Name x px, .Name y py] ∧ ts = [] ∧ e = .Tuple [a, b] k' pt
noncomputable def AnAsg (ts : List Expr) (e : Expr) : Prop := (∃ x q, ts = [.Name x q]) ∨ (∃ x px y py k q a b k' pt, ts = [.Tuple [.Name x px, .Name y py] k q] ∧ e = .Tuple [a, b] k' pt) ∨ ∃ x q i q1, ts = [.Subscript (.Name x q) i q1]
noncomputable def AMethod (e : Expr) : Prop := ∃ x q mm ap a cp, e = .Call (.Attribute (.Name x q) mm ap) [a] [] cp
set_option tactic.hygienic true in
theorem assign_tup {es ts : List Expr} {e : Expr} {p q : Pos} {k : Nat} {r : Fl × Vars} (h : evS T (n + 1) sc ρ (.Assign (.Tuple es k q :: ts) e p) = some r) : TupAsg es ts e := by
  cases es with
  | nil => cases ts <;> exact nope h
  | cons a es =>
  cases a <;> first | exact nope h | (cases ts <;> exact nope h) | skip
  cases es with
  | nil => cases ts <;> exact nope h
  | cons b es =>
  cases b <;> first | exact nope h | (cases ts <;> exact nope h) | skip
  cases es with
  | cons _ _ => cases ts <;> exact nope h
  | nil =>
  cases ts with
  | cons _ _ => exact nope h
  | nil =>
  cases e <;> first | exact nope h | skip
  rename_i x px y py vs k' pt
  cases vs with
  | nil => exact nope h
  | cons a vs =>
  cases vs with
  | nil => exact nope h
  | cons b vs =>
  cases vs with
  | cons _ _ => exact nope h
  | nil => exact ⟨x, px, y, py, a, b, k', pt, rfl, rfl, rfl⟩
theorem assign_inv {ts : List Expr} {e : Expr} {p : Pos} {r : Fl × Vars} (h : evS T (n + 1) sc ρ (.Assign ts e p) = some r) : AnAsg ts e := by
  cases ts with
  | nil => exact nope h
  | cons t ts =>
  cases t with
  | Name x q =>
    cases ts with
    | cons _ _ => exact nope h
    | nil => exact .inl ⟨x, q, rfl⟩
  | Subscript v i q1 =>
    cases v with
    | Name x q =>
      cases ts with
      | cons _ _ => exact nope h
      | nil => exact .inr (.inr ⟨x, q, i, q1, rfl⟩)
    | _ => cases ts <;> exact nope h
  | Tuple es k q =>
    obtain ⟨x, px, y, py, a, b, k', pt, rfl, rfl, rfl⟩ := assign_tup h
    exact .inr (.inl ⟨x, px, y, py, k, q, a, b, k', pt, rfl, rfl⟩)
  | _ => cases ts <;> exact nope h
set_option tactic.hygienic true in
theorem method_inv {e : Expr} {p : Pos} {r : Fl × Vars} (h : evS T (n + 1) sc ρ (.Expr e p) = some r) : AMethod e := by
  cases e <;> first | exact nope h | skip
  rename_i f as ks cp
  cases f <;> first | exact nope h | skip
  rename_i v mm ap
  cases v <;> first | exact nope h | skip
  rename_i x q
  cases as with
  | nil => exact nope h
  | cons a as =>
  cases as with
  | cons _ _ => exact nope h
  | nil =>
  cases ks with
  | cons _ _ => exact nope h
  | nil => exact ⟨x, q, mm, ap, a, cp, rfl⟩
theorem evS_step (hG : EvGOk prog w T h₀ n) (hGs : ∀ k, k ≤ n → EvGOk prog w T h₀ k) (hE : ∀ k, k ≤ n → EvOk prog w T h₀ k) (hB : EvBOk prog w T h₀ n) (hT : EvTOk prog w T h₀ n) (hTs : ∀ k, k ≤ n → EvTsOk prog w T h₀ k) (hI : ∀ k, k ≤ n → EvIOk prog w T h₀ k)
    (hS : EvSsOk prog w T h₀ n) : EvSOk prog w T h₀ (n + 1) := fun A env sc Hd Ms s ρ m st fl ρ' R S h => by
  have R' := R.less (Nat.le_succ _)
  have hE' := hE n (Nat.le_refl _)
  cases st with
  | Assign ts e pos =>
    rcases assign_inv h with ⟨x, px, rfl⟩ | ⟨x, px, y, py, k, pt, a, b, k', pt', rfl, rfl⟩ | ⟨x, px, i, p, rfl⟩
    · -- assign a name
      replace h := evS_as.symm.trans h
      by_cases hx : storable sc x = true
      · rw [if_pos hx] at h
        obtain ⟨sl, h1, h2⟩ := omap h
        cases h2
        exact assign_name hG hE hTs hI R' S hx h1
      · rw [if_neg hx] at h; cases h
    · -- two at once
      replace h := evS_pa.symm.trans h
      by_cases hno : swapOk sc x y px py a b = false ∨ plainName x = false ∨ plainName y = false
      · rw [if_pos hno] at h; cases h
      · rw [if_neg hno] at h
        obtain ⟨sl, h1, h2⟩ := obind h
        obtain ⟨sl', h3, h4⟩ := omap h2
        cases h4
        exact pair_assign hG R' S (by simpa using fun q => hno (.inl q)) (by simpa using fun q => hno (.inr (.inl q))) (by simpa using fun q => hno (.inr (.inr q))) h1 h3
    · -- an item
      obtain ⟨d, h1, h2⟩ := obind (evS_it.symm.trans h)
      cases hl : look ρ x with
      | none => rw [hl] at h2; cases h2
      | some sl =>
      rw [hl] at h2
      cases sl with
      | sh _ => cases h2
      | own xs =>
      obtain ⟨dk, h3, h4⟩ := obind h2
      obtain ⟨k, h5, h6⟩ := obind h4
      cases intOf_inv h5
      by_cases hsz : xs.length ≤ 2 ^ 20
      · rw [if_pos hsz] at h6
        obtain ⟨j, h7, h8⟩ := omap h6
        cases h8
        exact list_assign hE' R' S h1 hl h3 hsz h7
      · rw [if_neg hsz] at h6; cases h6
  | Expr e pos =>
    obtain ⟨x, px, mm, ap, e, cp, rfl⟩ := method_inv h
    replace h := evS_me.symm.trans h
    by_cases hline : (ap.endLine == cp.line) = true
    · rw [if_pos hline] at h
      cases hl : look ρ x with
      | none => rw [hl] at h; cases h
      | some sl =>
      rw [hl] at h
      cases sl with
      | sh _ => cases h
      | own xs =>
      replace h : (if mm = Str.ofString "append" then _ else _) = _ := h
      by_cases hm : mm = Str.ofString "append"
      · rw [if_pos hm] at h
        subst hm
        obtain ⟨d, h1, h2⟩ := obind h
        by_cases hsz : xs.length ≤ 2 ^ 20
        · rw [if_pos hsz] at h2
          cases h2
          exact method_append hE' R' S h1 hl hsz hline
        · rw [if_neg hsz] at h2; cases h2
      · rw [if_neg hm] at h
        by_cases hm : mm = Str.ofString "extend"
        · rw [if_pos hm] at h
          subst hm
          obtain ⟨d, h1, h2⟩ := obind h
          obtain ⟨ys, h3, h4⟩ := obind h2
          cases listOf_inv h3
          by_cases hsz : xs.length ≤ 2 ^ 20 ∧ ys.length ≤ 2 ^ 20
          · rw [if_pos hsz] at h4
            cases h4
            exact method_extend hE' R' S h1 hl hsz.1 hsz.2 hline
          · rw [if_neg hsz] at h4; cases h4
        · rw [if_neg hm] at h; cases h
    · rw [if_neg hline] at h; cases h
  | If t b o pos =>
    obtain ⟨c, h1, h2⟩ := obind (evS_if.symm.trans h)
    refine wpAny_If (wpAny_mono (hT A env _ Hd s _ t c R' S.toE h1) (fun c' s₁ hc => ?_) fun _ _ h => h)
    obtain ⟨rfl, k⟩ := hc
    have S₁ := S.after k
    have go : ∀ sts, evSs T n _ _ sts = some (fl, ρ') → wpAny (model prog w) A (execs sts env) (SPost h₀ env _ s Hd Ms fl ρ') NoE s₁ := fun sts hq =>
      wpAny_mono (hS A env _ Hd Ms s₁ _ m sts fl ρ' R' S₁ hq) (fun f s₂ p => SPost.trans (fun _ h => h) (fun _ h => h) (fun _ h => .inl h) (fun _ h => .inl h) (.of k) (fun b hb => S₁.low b (S₁.sub b hb)) p) fun _ _ h => h
    cases c' with
    | true => exact go b h2
    | false => exact go o h2
  | For target iter body els pos =>
    cases els with
    | cons _ _ => exact nope h
    | nil =>
    replace h := evS_fo.symm.trans h
    by_cases ht : targetSt sc target = false
    · rw [if_pos ht] at h; cases h
    · rw [if_neg ht] at h
      obtain ⟨items, h1, h2⟩ := obind h
      exact for_ok (hI n (Nat.le_refl _)) hS R' S (by simpa using ht) h1 h2
  | Return e pos =>
    cases e with
    | none => exact nope h
    | some e =>
    obtain ⟨d, h1, h2⟩ := omap (evS_re.symm.trans h)
    cases h2
    exact return_ok hB R' S hE h1
  | _ => exact nope h

theorem evSs_step (hS : EvSOk prog w T h₀ n) (hSs : EvSsOk prog w T h₀ n) : EvSsOk prog w T h₀ (n + 1) := fun A env sc Hd Ms s ρ m sts fl ρ' R S h => by
  have R' := R.less (Nat.le_succ _)
  cases sts with
  | nil =>
    simp only [evSs_z, evSs_ni, evSs_co, Option.some.injEq, Prod.mk.injEq] at h
    obtain ⟨rfl, rfl⟩ := h
    exact wpAny_execs_nil (.here S (.of (keeps_refl s)) rfl)
  | cons st r =>
    simp only [evSs_z, evSs_ni, evSs_co] at h
    obtain ⟨⟨fl₁, ρ₁⟩, h1, h2⟩ := obind h
    refine wpAny_execs_cons (wpAny_mono (hS A env sc Hd Ms s ρ m st fl₁ ρ₁ R' S h1) (fun f s₁ p => ?_) fun _ _ h => h)
    obtain ⟨Hd₁, Ms₁, m₁, S₁, a1, a2, a3, a4, a5, a6⟩ := id p
    cases fl₁ with
    | next =>
      have hf : f = .next := a6
      subst hf
      refine wpAny_mono (hSs A env sc Hd₁ Ms₁ s₁ ρ₁ m₁ r fl ρ' R' S₁ h2) (fun f s₂ q => ?_) fun _ _ h => h
      exact SPost.trans a1 a2 a3 a4 a5 (fun b hb => S₁.low b (S₁.sub b (a2 b hb))) q
    | ret d =>
      obtain ⟨v, rfl, hv⟩ := a6
      simp only [Option.some.injEq, Prod.mk.injEq] at h2
      obtain ⟨rfl, rfl⟩ := h2
      exact p
end
end Mine

namespace Mine
open PySem

theorem bindL_off {kindOf : Str → Option NameKind} {x : Str} : ∀ (binds : List (Str × Value)) (m : Str → Option Value), x ∉ binds.map (·.1) → bindL kindOf binds m x = m x
  | [], m, _ => rfl
  | (n, u) :: r, m, h => by
    simp only [List.map_cons, List.mem_cons, not_or] at h
    unfold bindL
    rw [bindL_off r _ h.2]
    split
    · simp [h.1]
    · rfl
theorem bindL_on {kindOf : Str → Option NameKind} {x : Str} {v : Value} (hk : kindOf x = some .local) : ∀ (binds : List (Str × Value)) (m : Str → Option Value), (binds.map (·.1)).Nodup → binds.lookup x = some v → bindL kindOf binds m x = some v
  | (n, u) :: r, m, nd, h => by
    simp only [List.map_cons, List.nodup_cons] at nd
    unfold bindL
    rw [List.lookup_cons] at h
    cases hb : x == n with
    | true =>
      rw [hb] at h; cases h
      have := beq_iff_eq.mp hb
      subst this
      rw [bindL_off r _ nd.1, if_pos hk]; simp
    | false => rw [hb] at h; exact bindL_on hk r _ nd.2 h
theorem bindC_off {kindOf : Str → Option NameKind} {x : Str} : ∀ (binds : List (Str × Value)) (m : Str → Option Value), x ∉ binds.map (·.1) → bindC kindOf binds m x = m x
  | [], m, _ => rfl
  | (n, u) :: r, m, h => by
    simp only [List.map_cons, List.mem_cons, not_or] at h
    unfold bindC
    rw [bindC_off r _ h.2]
    split
    · rfl
    · simp [h.1]
theorem bindC_on {kindOf : Str → Option NameKind} {x : Str} {v : Value} (hk : kindOf x ≠ some .local) : ∀ (binds : List (Str × Value)) (m : Str → Option Value), (binds.map (·.1)).Nodup → binds.lookup x = some v → bindC kindOf binds m x = some v
  | (n, u) :: r, m, nd, h => by
    simp only [List.map_cons, List.nodup_cons] at nd
    unfold bindC
    rw [List.lookup_cons] at h
    cases hb : x == n with
    | true =>
      rw [hb] at h; cases h
      have := beq_iff_eq.mp hb
      subst this
      rw [bindC_off r _ nd.1, if_neg hk]; simp
    | false => rw [hb] at h; exact bindC_on hk r _ nd.2 h

theorem cells_has {x : Str} : ∀ (names : List (Str × NameKind)) (n : Nat) (acc : List (Str × Addr)), ((x, NameKind.cell) ∈ names ∨ ∃ c, acc.lookup x = some c) → ∃ c, (cellsFrom n names acc).lookup x = some c
  | [], n, acc, h => by
    rcases h with h | h
    · cases h
    · exact h
  | (y, k) :: r, n, acc, h => by
    unfold cellsFrom
    by_cases hk : (k == NameKind.cell) = true
    · rw [if_pos hk]
      refine cells_has r _ _ ?_
      by_cases e : x = y
      · exact .inr ⟨n, by subst e; simp [List.lookup_cons]⟩
      · rcases h with h | ⟨c, h⟩
        · rcases List.mem_cons.mp h with h | h
          · cases h; exact absurd rfl e
          · exact .inl h
        · refine .inr ⟨c, ?_⟩
          rw [List.lookup_cons]
          have : (x == y) = false := by simpa using e
          rw [this]; exact h
    · rw [if_neg hk]
      refine cells_has r _ _ ?_
      rcases h with h | h
      · rcases List.mem_cons.mp h with h | h
        · cases h; exact absurd rfl hk
        · exact .inl h
      · exact .inr h

set_option tactic.hygienic true in
theorem zip_lookup {h : Heap} {Hd : List Addr} {x : Str} {sl : Slot} : ∀ (ps : List Str) (vs : List Value) (ds : List PyData), RepAll h Hd vs ds → ps.length = ds.length → look (ps.zip (ds.map .sh)) x = some sl →
    ∃ v d, (ps.zip vs).lookup x = some v ∧ sl = .sh d ∧ Rep h Hd v d
  | [], vs, ds, r, hl, e => by simp [look] at e
  | p :: ps, vs, ds, r, hl, e => by
    cases r with
    | nil => simp at hl
    | cons r1 r2 =>
      rename_i v ws d es
      simp only [List.map_cons, List.zip_cons_cons, look_cons] at e
      by_cases q : x = p
      · rw [if_pos q] at e; cases e
        exact ⟨v, d, by subst q; simp [List.lookup_cons], rfl, r1⟩
      · rw [if_neg q] at e
        obtain ⟨u, d', e1, e2, e3⟩ := zip_lookup ps ws es r2 (by simpa using hl) e
        refine ⟨u, d', ?_, e2, e3⟩
        rw [List.zip_cons_cons, List.lookup_cons]
        have : (x == p) = false := by simpa using q
        rw [this]; exact e1
theorem zip_lookup_mem {x : Str} {v : Value} : ∀ {ps : List Str} {vs : List Value}, (ps.zip vs).lookup x = some v → x ∈ ps
  | [], _, h => by simp at h
  | p :: ps, [], h => by simp at h
  | p :: ps, u :: vs, h => by
    rw [List.zip_cons_cons, List.lookup_cons] at h
    cases q : x == p with
    | true => rw [beq_iff_eq.mp q]; exact List.mem_cons_self
    | false => rw [q] at h; exact List.mem_cons_of_mem _ (zip_lookup_mem h)

section
variable {h₀ : Heap} {prog : Program} {w : World} {T : Tbl} {n : Nat}

theorem evF_step (G : Glo h₀ T) (hS : EvSsOk prog w T h₀ n) : EvFOk prog w T h₀ (n + 1) := fun A Hd s fn a vs ds d R hF hbase hlow hrep h => by
  simp only [evF_z, evF_eq] at h
  split at h
  · rename_i hlen
    obtain ⟨⟨fl, ρ'⟩, h1, h2⟩ := obind h
    obtain ⟨o, fd, ho, hdata, hsc, hbody, hgl, hbl, hclo, hcode, hbind⟩ := hF.at_
    have hvl := hrep.length
    have hb := hbind vs (by omega)
    have hkindP : ∀ x ∈ fn.params, fd.scope.names.lookup x = some .local ∨ (fd.scope.names.lookup x = some .cell ∧ ((cellsFrom (s.heap.objs.size + 1) fd.scope.names []).lookup x).isSome = true) := fun x hx => by
      rw [hsc]
      rcases hF.pars x hx with q | q
      · exact .inl (by rw [← kindIn_lookup]; exact q)
      · refine .inr ⟨by rw [← kindIn_lookup]; exact q, ?_⟩
        obtain ⟨c, hc⟩ := cells_has (x := x) fn.scope.names (s.heap.objs.size + 1) [] (.inl (kindIn_mem q))
        rw [hc]; rfl
    refine wpAny_call (codeAny_call_cells (o := o) (fd := fd) (body := fn.body) (by have := R.dep; omega) (hbase _ _ ho) hdata (G.limit.keeps hbase) (hcode.keeps hbase) hbody hb hclo (fun p hp => hkindP p.1 (List.of_mem_zip hp).1) (fun s₁ X => ?_)
      (by rw [hsc]; exact hF.co) (by rw [hsc]; exact hF.gen) (by rw [hsc]; exact hF.fnk))
    generalize hL : s.heap.objs.size = L at X
    have hk₁ := X.toInCall.keep
    have hfreshL : s.heap.get? L = none := getNone_of_le (Nat.le_of_eq hL)
    have hfreshC : ∀ x c, (cellsFrom (L + 1) fd.scope.names []).lookup x = some c → s.heap.get? c = none := fun x c hc => getNone_of_le (by
      have q : L < c := X.above x c (mem_of_lookup hc)
      exact Nat.le_of_lt (hL ▸ q))
    have kindE : ∀ x, (callEnvC fd L a).kindOf x = kindIn fn.scope.names x := fun x => by
      rw [kindIn_lookup, ← hsc]; rfl
    let Cs := (cellsFrom (L + 1) fd.scope.names []).filterMap fun p => (cellsFrom (L + 1) fd.scope.names []).lookup p.1
    have hCs : ∀ b, b ∈ Cs ↔ ∃ x, (cellsFrom (L + 1) fd.scope.names []).lookup x = some b := fun b => by
      constructor
      · intro hb
        obtain ⟨p, _, q⟩ := List.mem_filterMap.mp hb
        exact ⟨p.1, q⟩
      · rintro ⟨x, hx⟩
        exact List.mem_filterMap.mpr ⟨(x, b), mem_of_lookup hx, hx⟩
    have nd : ((fn.params.zip vs).map (·.1)).Nodup := by
      rw [show (fun (x : Str × Value) => x.1) = Prod.fst from rfl, List.map_fst_zip (by omega)]; exact hF.pnd
    have F : Frame (callEnvC fd L a) s₁.heap (fun x => (fn.params.zip vs).lookup x) := {
      fn := by show fd.scope.kind = _; rw [hsc]; exact hF.fnk
      gl := hgl
      bl := hbl
      ns := ⟨_, X.toInCall.ns, fun x v hx hk => bindL_on hk _ _ nd hx⟩
      cl := fun x c hc => ⟨_, X.cell x c hc, fun u hu hk => bindC_on (by rcases hk with hk | hk <;> rw [hk] <;> simp) _ _ nd hu⟩
      apart := fun x y c hx hy => name_of_addr X.apart (mem_of_lookup hx) (mem_of_lookup hy)
      off := fun x c hc => Nat.ne_of_gt (X.above x c (mem_of_lookup hc))
      bound := fun x v hx => by
        have hm := zip_lookup_mem hx
        rcases hF.pars x hm with q | q
        · exact ⟨hF.names _ (kindIn_mem q), .inl ((kindE x).trans q)⟩
        · refine ⟨hF.names _ (kindIn_mem q), .inr ⟨.inl ((kindE x).trans q), ?_⟩⟩
          have := cells_has (x := x) fn.scope.names (L + 1) [] (.inl (kindIn_mem q))
          rw [← hsc] at this
          exact this }
    have alive : ∀ b ∈ L :: Cs, s.heap.get? b = none ∧ ∃ o, s₁.heap.get? b = some o := fun b hb => by
      rcases List.mem_cons.mp hb with rfl | hb
      · refine ⟨hfreshL, ?_⟩
        obtain ⟨o, _, _, q, _⟩ := X.toInCall.ns
        exact ⟨o, q⟩
      · obtain ⟨x, hx⟩ := (hCs b).mp hb
        refine ⟨hfreshC x b hx, ?_⟩
        obtain ⟨o, q, _⟩ := X.cell x b hx
        exact ⟨o, q⟩
    have S : SSt h₀ (callEnvC fd L a) fn.scope ((L :: Cs) ++ Hd) (L :: Cs) s₁.heap (fn.params.zip (ds.map .sh)) (fun x => (fn.params.zip vs).lookup x) := {
      base := fun b o e => hk₁ b o (hbase b o e)
      low := fun b hb => by
        rcases List.mem_append.mp hb with hb | hb
        · exact (alive b hb).2
        · obtain ⟨o, e⟩ := hlow b hb; exact ⟨o, hk₁ b o e⟩
      kinds := fun x k hx => by
        have hx' := (kindE x).trans hx
        cases k with
        | globalImplicit => exact hx'
        | «local» => exact hx'
        | cell =>
          refine ⟨hx', ?_⟩
          have := cells_has (x := x) fn.scope.names (L + 1) [] (.inl (kindIn_mem hx))
          rw [← hsc] at this
          exact this
        | free => exact absurd rfl (hF.nofree _ (kindIn_mem hx))
        | _ => trivial
      sub := fun b hb => List.mem_append_left _ hb
      frd := fun b hb => by
        cases q : h₀.get? b with
        | none => rfl
        | some o => have := hbase b o q; rw [(alive b hb).1] at this; cases this
      loc := List.mem_cons_self
      cel := fun x c hc => List.mem_cons_of_mem _ ((hCs c).mpr ⟨x, hc⟩)
      fr := F
      sl := fun x sl hx => by
        obtain ⟨v, d', e1, rfl, e3⟩ := zip_lookup fn.params vs ds hrep hlen hx
        exact ⟨v, e1, e3.mono fun b o hb e => mono_fresh (s' := s₁) hk₁ (fun b hb => (alive b hb).1) b o hb e⟩
      apart := fun x y xs ys v hx => by
        obtain ⟨_, _, _, q, _⟩ := zip_lookup fn.params vs ds hrep hlen hx
        cases q }
    refine wpAny_mono (hS (A.deeper (callEnvC fd L a)) _ fn.scope _ _ s₁ _ _ fn.body fl ρ' (R.deeper _) S h1) (fun f s₂ p => ?_) fun _ _ h => h.elim
    obtain ⟨Hd', Ms', m', S₂, a1, a2, a3, a4, k₂, fr₂⟩ := p
    have notOld : ∀ b o, s.heap.get? b = some o → b ∉ L :: Cs := fun b o e hm => by rw [(alive b hm).1] at e; cases e
    have keeps : Keeps s s₂ := by
      obtain ⟨hh, tk, es⟩ := X.toInCall.same
      obtain ⟨hh', tk', es', hk'⟩ := k₂
      refine ⟨s₂.heap, s₂.toks, by rw [es', es], fun b o e => ?_⟩
      rw [es']
      exact hk' b o (notOld b o e) (hk₁ b o e)
    cases fl with
    | next =>
      have hf : f = .next := fr₂
      subst hf
      simp only [Option.some.injEq] at h2
      subst h2
      exact ⟨keeps, .none⟩
    | ret x =>
      obtain ⟨v, rfl, hv⟩ := fr₂
      simp only [Option.some.injEq] at h2
      subst h2
      refine ⟨keeps, ?_⟩
      rcases hv with hv | ⟨b, us, c, xs, rfl, rfl, hb, hg, hr⟩
      · exact hv.mono fun b o hb e => ⟨e, fun hm => hb (a1 b (List.mem_append_right _ hm))⟩
      · refine .list hg (fun hm => ?_) (hr.mono fun b o hb e => ⟨e, fun hm => hb (a1 b (List.mem_append_right _ hm))⟩)
        obtain ⟨o, e⟩ := hlow b hm
        rcases a4 b hb with q | q
        · rw [(alive b q).1] at e; cases e
        · have := hk₁ b o e; rw [q] at this; cases this
  · cases h

/-- all of it, at one fuel -/
structure AllOk (prog : Program) (w : World) (T : Tbl) (h₀ : Heap) (n : Nat) : Prop where
  e : EvOk prog w T h₀ n
  b : EvBOk prog w T h₀ n
  o : EvOOk prog w T h₀ n
  l : EvLOk prog w T h₀ n
  bl : EvBLOk prog w T h₀ n
  t : EvTOk prog w T h₀ n
  a : EvAOk prog w T h₀ n
  ts : EvTsOk prog w T h₀ n
  i : EvIOk prog w T h₀ n
  f : EvFOk prog w T h₀ n
  g : EvGOk prog w T h₀ n
  s : EvSOk prog w T h₀ n
  ss : EvSsOk prog w T h₀ n

theorem all_zero : AllOk prog w T h₀ 0 where
  e := fun A env sc Hd s ρ e d R S h => nope h
  b := fun A env sc Hd s ρ e d R S h => nope h
  o := fun A env sc Hd s ρ e d R S h => by simp [evO_z, evO_no, evO_so] at h
  l := fun A env sc Hd s ρ es pos d R S h => by simp [evL_z, evL_ni, evL_co] at h
  bl := fun A env sc Hd s ρ es pos d R S h => by simp [evBL_z, evBL_ni, evBL_co] at h
  t := fun A env sc Hd s ρ e d R S h => by simp [evT_z, evT_no, evT_bo, evT_c1, evT_c2, evT_ca] at h
  a := fun A env sc Hd s ρ op e d R S h => by simp [evA_z, evA_an, evA_on, evA_ac, evA_oc] at h
  ts := fun A env sc Hd s ρ e d R S h => nope h
  i := fun A env sc Hd s ρ e t d R S h => nope h
  f := fun A Hd s fn a vs ds d R _ _ _ _ h => by simp [evF_z, evF_eq] at h
  g := fun A env sc Hd s ρ e d R S h => nope h
  s := fun A env sc Hd Ms s ρ m st fl ρ' R S h => nope h
  ss := fun A env sc Hd Ms s ρ m st fl ρ' R S h => by simp [evSs_z, evSs_ni, evSs_co] at h

theorem all_ok (G : Glo h₀ T) (hS : SortTup prog w) : ∀ n, ∀ k, k ≤ n → AllOk prog w T h₀ k
  | 0, k, hk => by
    have : k = 0 := by omega
    subst this; exact all_zero
  | n + 1, k, hk => by
    have ih := all_ok G hS n
    by_cases h : k ≤ n
    · exact ih k h
    · have : k = n + 1 := by omega
      subst this
      have H := ih n (Nat.le_refl _)
      exact {
        e := ev_step G hS H.e H.b H.o H.l H.bl H.t H.ts H.i H.f
        b := evB_step H.e
        o := evO_step H.e
        l := evL_step H.e H.l
        bl := evBL_step H.b H.bl
        t := evT_step H.e H.b H.t H.a
        a := evA_step H.t H.a
        ts := evTs_step H.t
        i := evI_step G H.e H.bl
        f := evF_step G H.ss
        g := evG_step H.e fun k hk => (ih k hk).b
        s := evS_step H.g (fun k hk => (ih k hk).g) (fun k hk => (ih k hk).e) H.b H.t (fun k hk => (ih k hk).ts) (fun k hk => (ih k hk).i) H.ss
        ss := evSs_step H.s H.ss }
end
end Mine

namespace Mine
open PySem

theorem str_inj (a b : String) : (Str.ofString a = Str.ofString b) = (a = b) := by
  refine propext ⟨fun h => ?_, fun h => by rw [h]⟩
  rw [Str.ofString_eq_toList, Str.ofString_eq_toList] at h
  have h1 : a.toList.map Char.toNat = b.toList.map Char.toNat := by simpa using h
  have inj : ∀ (c d : Char), c.toNat = d.toNat → c = d := fun c d e => by
    apply Char.ext
    exact UInt32.toNat_inj.mp e
  have h2 : ∀ (l k : List Char), l.map Char.toNat = k.map Char.toNat → l = k := fun l => by
    induction l with
    | nil => intro k e; cases k with
      | nil => rfl
      | cons => simp at e
    | cons c l ih => intro k e; cases k with
      | nil => simp at e
      | cons d k => simp only [List.map_cons, List.cons.injEq] at e; rw [inj c d e.1, ih k e.2]
  exact String.toList_inj.mp (h2 _ _ h1)

noncomputable def fnNo : Nat → List Stmt → Fn
  | _, [] => ⟨[], [], default⟩
  | 0, .FunctionDef _ args body _ _ _ sc _ _ _ :: _ => ⟨args.args.map (·.arg), body, sc⟩
  | k + 1, .FunctionDef _ _ _ _ _ _ _ _ _ _ :: r => fnNo k r
  | k, _ :: r => fnNo k r
noncomputable def lawT : Tbl := tblOf PySem.Challenge.pw_nt0001_01
noncomputable def lawB : List Stmt := PySem.Challenge.pw_nt0001_01.main.body

/-- what a block does -/
noncomputable def Does (T : Tbl) (n : Nat) (sc : Scope) (ρ : Vars) (sts : List Stmt) (Q : Fl → Vars → Prop) : Prop := ∃ fl ρ', evSs T n sc ρ sts = some (fl, ρ') ∧ Q fl ρ'
noncomputable def After (T : Tbl) (n : Nat) (sc : Scope) (rest : List Stmt) (Q : Fl → Vars → Prop) : Fl → Vars → Prop
  | .next, ρ => Does T n sc ρ rest Q
  | .ret d, ρ => Q (.ret d) ρ

section
variable {T : Tbl} {n : Nat} {sc : Scope} {ρ : Vars} {rest : List Stmt} {Q : Fl → Vars → Prop}
theorem Does.mono {sts : List Stmt} {P : Fl → Vars → Prop} (h : Does T n sc ρ sts P) (hq : ∀ fl ρ, P fl ρ → Q fl ρ) : Does T n sc ρ sts Q := by
  obtain ⟨fl, ρ', h1, h2⟩ := h; exact ⟨fl, ρ', h1, hq _ _ h2⟩
theorem does_nil (h : Q .next ρ) : Does T (n + 1) sc ρ [] Q := ⟨.next, ρ, by simp [evSs_z, evSs_ni, evSs_co], h⟩
theorem does_cons {st : Stmt} {fl : Fl} {ρ₁ : Vars} (h : evS T n sc ρ st = some (fl, ρ₁)) (k : After T n sc rest Q fl ρ₁) : Does T (n + 1) sc ρ (st :: rest) Q := by
  cases fl with
  | next =>
    obtain ⟨fl, ρ', h1, h2⟩ := k
    exact ⟨fl, ρ', by simp [evSs_z, evSs_ni, evSs_co, h, h1], h2⟩
  | ret d => exact ⟨.ret d, ρ₁, by simp [evSs_z, evSs_ni, evSs_co, h], k⟩
theorem does_assign {x : Str} {p pos : Pos} {e : Expr} {s : Slot} (hx : storable sc x = true) (h : evG T n sc ρ e = some s) (k : Does T (n + 1) sc (put ρ x s) rest Q) : Does T (n + 2) sc ρ (.Assign [.Name x p] e pos :: rest) Q :=
  does_cons (fl := .next) (by simp [evS_z, evS_as, evS_pa, evS_it, evS_me, evS_if, evS_fo, evS_re, hx, h]) k
theorem does_pair {x y : Str} {px py pt pt' pos : Pos} {k k' : Nat} {a b : Expr} {s t : Slot} (hO : swapOk sc x y px py a b = true) (hx : plainName x = true) (hy : plainName y = true) (h1 : evG T n sc ρ a = some s) (h2 : evG T n sc ρ b = some t)
    (c : Does T (n + 1) sc (put (put ρ x s) y t) rest Q) : Does T (n + 2) sc ρ (.Assign [.Tuple [.Name x px, .Name y py] k pt] (.Tuple [a, b] k' pt') pos :: rest) Q :=
  does_cons (fl := .next) (by simp [evS_z, evS_as, evS_pa, evS_it, evS_me, evS_if, evS_fo, evS_re, hO, hx, hy, h1, h2]) c
theorem does_if {t : Expr} {body orelse : List Stmt} {pos : Pos} {b : Bool} (h : evT T n sc ρ t = some b) (k1 : b = true → Does T n sc ρ body (After T (n + 1) sc rest Q)) (k2 : b = false → Does T n sc ρ orelse (After T (n + 1) sc rest Q)) :
    Does T (n + 2) sc ρ (.If t body orelse pos :: rest) Q := by
  cases b with
  | true =>
    obtain ⟨fl, ρ', h1, h2⟩ := k1 rfl
    exact does_cons (by simp [evS_z, evS_as, evS_pa, evS_it, evS_me, evS_if, evS_fo, evS_re, h, h1]) h2
  | false =>
    obtain ⟨fl, ρ', h1, h2⟩ := k2 rfl
    exact does_cons (by simp [evS_z, evS_as, evS_pa, evS_it, evS_me, evS_if, evS_fo, evS_re, h, h1]) h2
theorem does_return {e : Expr} {pos : Pos} {d : PyData} (h : evB T n sc ρ e = some d) (k : Q (.ret d) ρ) : Does T (n + 2) sc ρ (.Return (some e) pos :: rest) Q :=
  does_cons (fl := .ret d) (by simp [evS_z, evS_as, evS_pa, evS_it, evS_me, evS_if, evS_fo, evS_re, h]) k
theorem does_append {x : Str} {px p p' pos : Pos} {e : Expr} {xs : List PyData} {d : PyData} (hl : (p.endLine == p'.line) = true) (hx : look ρ x = some (.own xs)) (h : ev T n sc ρ e = some d) (hs : xs.length ≤ 2 ^ 20) (k : Does T (n + 1) sc (put ρ x (.own (xs ++ [d]))) rest Q) :
    Does T (n + 2) sc ρ (.Expr (.Call (.Attribute (.Name x px) (Str.ofString "append") p) [e] [] p') pos :: rest) Q :=
  does_cons (fl := .next) (by simp only [evS_z, evS_as, evS_pa, evS_it, evS_me, evS_if, evS_fo, evS_re, hl, if_true, hx, h, Option.bind_some]; rw [if_pos hs]) k
theorem does_extend {x : Str} {px p p' pos : Pos} {e : Expr} {xs ys : List PyData} (hl : (p.endLine == p'.line) = true) (hx : look ρ x = some (.own xs)) (h : ev T n sc ρ e = some (.list ys)) (hs : xs.length ≤ 2 ^ 20) (hs' : ys.length ≤ 2 ^ 20) (k : Does T (n + 1) sc (put ρ x (.own (xs ++ ys))) rest Q) :
    Does T (n + 2) sc ρ (.Expr (.Call (.Attribute (.Name x px) (Str.ofString "extend") p) [e] [] p') pos :: rest) Q :=
  does_cons (fl := .next) (by
    have e1 : (Str.ofString "extend" = Str.ofString "append") = False := by rw [str_inj]; simp
    simp only [evS_z, evS_as, evS_pa, evS_it, evS_me, evS_if, evS_fo, evS_re, hl, if_true, hx, h, Option.bind_some, listOf, e1, if_false]; rw [if_pos ⟨hs, hs'⟩]) k
theorem does_setitem {x : Str} {px p pos : Pos} {i e : Expr} {xs : List PyData} {d : PyData} {k : Int} {j : Nat} (h : ev T n sc ρ e = some d) (hx : look ρ x = some (.own xs)) (hi : ev T n sc ρ i = some (.int k)) (hs : xs.length ≤ 2 ^ 20) (hj : placeIn k xs.length = some j)
    (c : Does T (n + 1) sc (put ρ x (.own (xs.set j d))) rest Q) : Does T (n + 2) sc ρ (.Assign [.Subscript (.Name x px) i p] e pos :: rest) Q :=
  does_cons (fl := .next) (by simp only [evS_z, evS_as, evS_pa, evS_it, evS_me, evS_if, evS_fo, evS_re, h, hx, hi, Option.bind_some, intOf, hj]; rw [if_pos hs]; rfl) c

/-- a loop that runs to its end -/
theorem forL_fold {β : Type} {body : Vars → Option (Fl × Vars)} {bind : Vars → PyData → Option Vars} (I : List β → Vars → Prop) (enc : β → PyData) : ∀ (items pre : List β) (ρ : Vars), I pre ρ →
    (∀ p x r ρ, pre ++ items = p ++ x :: r → I p ρ → ∃ ρ₁ ρ₂, bind ρ (enc x) = some ρ₁ ∧ body ρ₁ = some (.next, ρ₂) ∧ I (p ++ [x]) ρ₂) → ∃ ρ', forL body bind ρ (items.map enc) = some (.next, ρ') ∧ I (pre ++ items) ρ'
  | [], pre, ρ, h, _ => ⟨ρ, rfl, by simpa using h⟩
  | x :: r, pre, ρ, h, st => by
    obtain ⟨ρ₁, ρ₂, h1, h2, h3⟩ := st pre x r ρ rfl h
    obtain ⟨ρ', h4, h5⟩ := forL_fold I enc r (pre ++ [x]) ρ₂ h3 fun p y r' ρ e => st p y r' ρ (by rw [← e]; simp)
    exact ⟨ρ', by simp [forL, h1, h2, h4], by simpa using h5⟩
theorem does_for {β : Type} {target iter : Expr} {body : List Stmt} {pos : Pos} (I : List β → Vars → Prop) (enc : β → PyData) (items : List β) (ht : targetSt sc target = true) (hi : evI T n sc ρ iter target = some (items.map enc)) (h0 : I [] ρ)
    (st : ∀ p x r ρ, items = p ++ x :: r → I p ρ → ∃ ρ₁, bindT ρ target (enc x) = some ρ₁ ∧ Does T n sc ρ₁ body (fun fl ρ₂ => fl = .next ∧ I (p ++ [x]) ρ₂))
    (k : ∀ ρ', I items ρ' → Does T (n + 1) sc ρ' rest Q) : Does T (n + 2) sc ρ (.For target iter body [] pos :: rest) Q := by
  obtain ⟨ρ', h1, h2⟩ := forL_fold (body := fun ρ => evSs T n sc ρ body) (bind := fun ρ d => bindT ρ target d) I enc items [] ρ h0 fun p x r ρ hx hI => by
    obtain ⟨ρ₁, e1, fl, ρ₂, e2, rfl, e3⟩ := st p x r ρ hx hI
    exact ⟨ρ₁, ρ₂, e1, e2, e3⟩
  exact does_cons (fl := .next) (by simp [evS_z, evS_as, evS_pa, evS_it, evS_me, evS_if, evS_fo, evS_re, ht, hi, h1]) (k ρ' h2)

/-- a loop that may leave -/
theorem forL_find {β : Type} {body : Vars → Option (Fl × Vars)} {bind : Vars → PyData → Option Vars} (I : Vars → Prop) (g : β → Option PyData) (enc : β → PyData) : ∀ (items : List β) (ρ : Vars), I ρ →
    (∀ ρ x, x ∈ items → I ρ → ∃ ρ₁ fl ρ₂, bind ρ (enc x) = some ρ₁ ∧ body ρ₁ = some (fl, ρ₂) ∧ (match g x with | none => fl = .next ∧ I ρ₂ | some d => fl = .ret d)) →
    ∃ fl ρ', forL body bind ρ (items.map enc) = some (fl, ρ') ∧ (match items.findSome? g with | none => fl = .next ∧ I ρ' | some d => fl = .ret d)
  | [], ρ, h, _ => ⟨.next, ρ, rfl, rfl, h⟩
  | x :: r, ρ, h, st => by
    obtain ⟨ρ₁, fl, ρ₂, h1, h2, h3⟩ := st ρ x List.mem_cons_self h
    rw [List.findSome?_cons]
    cases hg : g x with
    | none =>
      rw [hg] at h3
      obtain ⟨rfl, h3⟩ := h3
      obtain ⟨fl, ρ', h4, h5⟩ := forL_find I g enc r ρ₂ h3 fun ρ y hy => st ρ y (List.mem_cons_of_mem _ hy)
      exact ⟨fl, ρ', by simp [forL, h1, h2, h4], h5⟩
    | some d =>
      rw [hg] at h3
      have h3' : fl = .ret d := h3
      subst h3'
      exact ⟨.ret d, ρ₂, by simp [forL, h1, h2], rfl⟩
theorem does_for_find {β : Type} {target iter : Expr} {body : List Stmt} {pos : Pos} (I : Vars → Prop) (g : β → Option PyData) (enc : β → PyData) (items : List β) (ht : targetSt sc target = true) (hi : evI T n sc ρ iter target = some (items.map enc)) (h0 : I ρ)
    (st : ∀ ρ x, x ∈ items → I ρ → ∃ ρ₁, bindT ρ target (enc x) = some ρ₁ ∧ Does T n sc ρ₁ body (fun fl ρ₂ => match g x with | none => fl = .next ∧ I ρ₂ | some d => fl = .ret d))
    (k1 : ∀ d ρ', items.findSome? g = some d → Q (.ret d) ρ') (k : items.findSome? g = none → ∀ ρ', I ρ' → Does T (n + 1) sc ρ' rest Q) : Does T (n + 2) sc ρ (.For target iter body [] pos :: rest) Q := by
  obtain ⟨fl, ρ', h1, h2⟩ := forL_find (body := fun ρ => evSs T n sc ρ body) (bind := fun ρ d => bindT ρ target d) I g enc items ρ h0 fun ρ x hx hI => by
    obtain ⟨ρ₁, e1, fl, ρ₂, e2, e3⟩ := st ρ x hx hI
    exact ⟨ρ₁, fl, ρ₂, e1, e2, e3⟩
  refine does_cons (fl := fl) (ρ₁ := ρ') (by simp [evS_z, evS_as, evS_pa, evS_it, evS_me, evS_if, evS_fo, evS_re, ht, hi, h1]) ?_
  cases hg : items.findSome? g with
  | none =>
    rw [hg] at h2
    obtain ⟨rfl, h2⟩ := h2
    exact k hg ρ' h2
  | some d =>
    rw [hg] at h2
    have h2' : fl = .ret d := h2
    subst h2'
    exact k1 d ρ' hg

theorem evF_of {fn : Fn} {ds : List PyData} {d : PyData} {ps : List Str} {body : List Stmt} (hp : fn.params = ps) (hb : fn.body = body) (hl : ps.length = ds.length) (h : Does T n fn.scope (ps.zip (ds.map .sh)) body (fun fl _ => fl = .ret d)) : evF T (n + 1) fn ds = some d := by
  obtain ⟨fl, ρ', h1, rfl⟩ := h
  subst hp hb
  simp [evF_z, evF_eq, hl, h1]

/-- a comprehension -/
theorem ev_comp {elt target iter : Expr} {ifs : List Expr} {csc : Scope} {pos : Pos} {items rs : List PyData} (hO : compOk sc csc target = true) (h1 : evI T n sc ρ iter target = some items)
    (h2 : compL (fun ρ => evTs T n csc ρ ifs) (fun ρ => ev T n csc ρ elt) (bindT (freeOf csc ρ) target) items = some rs) : ev T (n + 1) sc ρ (.ListComp elt [⟨target, iter, ifs, 0⟩] csc pos) = some (.list rs) := by
  simp only [ev_z, ev_none, ev_bool, ev_int, ev_name, ev_bin, ev_neg, ev_and, ev_ife, ev_cmp, ev_cut, ev_rev, ev_ixc, ev_ixn, ev_ixu, ev_ixb, ev_lst, ev_tup, ev_call, ev_lc]
  rw [if_pos hO, h1, Option.bind_some, h2]; rfl
theorem compL_map {β : Type} {tst : Vars → Option Bool} {f : Vars → Option PyData} {bind : PyData → Option Vars} (enc : β → PyData) (q : β → Bool) (g : β → PyData) : ∀ (items : List β),
    (∀ x ∈ items, ∃ ρ, bind (enc x) = some ρ ∧ tst ρ = some (q x) ∧ (q x = true → f ρ = some (g x))) → compL tst f bind (items.map enc) = some ((items.filter q).map g)
  | [], _ => rfl
  | x :: r, h => by
    obtain ⟨ρ, h1, h2, h3⟩ := h x List.mem_cons_self
    have ih := compL_map (tst := tst) (f := f) (bind := bind) enc q g r fun y hy => h y (List.mem_cons_of_mem _ hy)
    rw [List.map_cons]
    unfold compL
    rw [h1, Option.bind_some, h2, Option.bind_some, ih]
    cases hq : q x with
    | true => simp [hq, h3 hq]
    | false => simp [hq]
theorem ev_compM {β : Type} {elt target iter : Expr} {ifs : List Expr} {csc : Scope} {pos : Pos} {rs : List PyData} (enc : β → PyData) (items : List β) (q : β → Bool) (g : β → PyData) (hO : compOk sc csc target = true) (h1 : evI T n sc ρ iter target = some (items.map enc))
    (hr : rs = (items.filter q).map g) (h : ∀ x ∈ items, ∃ ρ', bindT (freeOf csc ρ) target (enc x) = some ρ' ∧ evTs T n csc ρ' ifs = some (q x) ∧ (q x = true → ev T n csc ρ' elt = some (g x))) :
    ev T (n + 1) sc ρ (.ListComp elt [⟨target, iter, ifs, 0⟩] csc pos) = some (.list rs) := by
  subst hr
  exact ev_comp hO h1 (compL_map enc q g items h)
theorem look_freeOf (csc : Scope) (ρ : Vars) (x : Str) : look (freeOf csc ρ) x = if kindIn csc.names x = some .free then look ρ x else none := by
  unfold freeOf
  induction ρ with
  | nil => simp [look]
  | cons p r ih =>
    obtain ⟨y, t⟩ := p
    by_cases hy : kindIn csc.names y = some .free
    · rw [List.filter_cons_of_pos (by simpa using hy)]
      unfold look
      by_cases q : x = y
      · subst q; simp [hy]
      · rw [if_neg q, if_neg q, ih]
    · rw [List.filter_cons_of_neg (by simpa using hy), ih]
      by_cases q : x = y
      · subst q; simp [hy]
      · conv => rhs; unfold look
        rw [if_neg q]
theorem look_put' (ρ : Vars) (x : Str) (s : Slot) (y : Str) : look (put ρ x s) y = if y = x then some s else look ρ y := by
  induction ρ with
  | nil => unfold put look; split <;> rfl
  | cons p r ih =>
    obtain ⟨z, t⟩ := p
    unfold put
    by_cases h : x = z
    · rw [if_pos h]
      subst h
      unfold look
      by_cases h2 : y = x
      · rw [if_pos h2, if_pos h2]
      · rw [if_neg h2, if_neg h2]; simp [h2]
    · rw [if_neg h]
      unfold look
      by_cases h2 : y = z
      · rw [if_pos h2, if_neg (fun (e : y = x) => h (e.symm.trans h2)), if_pos h2]
      · rw [if_neg h2, ih, if_neg h2]
end
end Mine

namespace Mine
open PySem

noncomputable abbrev enc (p : Nat) : PyData := .int (p : Int)
noncomputable def dat : Option Int → PyData
  | none => .none
  | some i => .int i
noncomputable abbrev encs (ps : List Nat) : PyData := .list (ps.map enc)
noncomputable abbrev dats (lv : List (Option Int)) : PyData := .list (lv.map dat)
noncomputable def val (lv : List (Option Int)) (p : Nat) : Int := ((lv[p]?).getD none).getD 0
noncomputable def Has (lv : List (Option Int)) (p : Nat) : Prop := lv[p]? = some (some (val lv p))
theorem placeIn_nat {k n : Nat} (h : k < n) : placeIn (k : Int) n = some k := by
  unfold placeIn
  rw [if_pos (by omega), if_pos (by omega)]; simp
theorem itemOf_dats {lv : List (Option Int)} {p : Nat} {o : Option Int} (hs : lv.length ≤ 1000) (h : lv[p]? = some o) : itemOf (dats lv) (p : Int) = some (dat o) := by
  obtain ⟨hlt, _⟩ := List.getElem?_eq_some_iff.mp h
  simp only [itemOf, List.length_map]
  rw [if_pos (by omega), placeIn_nat hlt, Option.bind_some, List.getElem?_map, h]; rfl
theorem itemOf_encs {ps : List Nat} {p k : Nat} (hs : ps.length ≤ 1000) (h : ps[p]? = some k) : itemOf (encs ps) (p : Int) = some (enc k) := by
  obtain ⟨hlt, _⟩ := List.getElem?_eq_some_iff.mp h
  simp only [itemOf, List.length_map]
  rw [if_pos (by omega), placeIn_nat hlt, Option.bind_some, List.getElem?_map, h]; rfl

noncomputable def fLineTurned : Fn := fnNo 0 lawB
theorem fnOf_lt : fnOf lawT (Str.ofString "line_turned") = some fLineTurned := by kernel_rfl

noncomputable def turnStep (q : Nat → Bool) (s : List Nat × List Nat) (p : Nat) : List Nat × List Nat := if q p then (s.1, s.2 ++ [p]) else (s.1 ++ s.2.reverse ++ [p], [])
noncomputable def turnFold (q : Nat → Bool) (ord : List Nat) : List Nat × List Nat := ord.foldl (turnStep q) ([], [])
noncomputable def turned (q : Nat → Bool) (ord : List Nat) : List Nat := (turnFold q ord).1 ++ (turnFold q ord).2.reverse
theorem turnFold_length (q : Nat → Bool) (ord : List Nat) : (turnFold q ord).1.length + (turnFold q ord).2.length = ord.length := by
  have : ∀ (ord : List Nat) (s : List Nat × List Nat), (ord.foldl (turnStep q) s).1.length + (ord.foldl (turnStep q) s).2.length = s.1.length + s.2.length + ord.length := fun ord => by
    induction ord with
    | nil => intro s; simp
    | cons p r ih =>
      intro s
      rw [List.foldl_cons, ih]
      unfold turnStep
      split <;> simp <;> omega
  have h := this ord ([], [])
  simpa [turnFold] using h

theorem evI_sh {T : Tbl} {n : Nat} {sc : Scope} {ρ : Vars} {x : Str} {p : Pos} {target : Expr} {xs : List PyData} (h : look ρ x = some (.sh (.list xs))) (hg : goOver target xs = true) : evI T (n + 2) sc ρ (.Name x p) target = some xs := by
  simp only [evI_z, evI_na, evI_su, evI_ca, ev_z, ev_none, ev_bool, ev_int, ev_name, ev_bin, ev_neg, ev_and, ev_ife, ev_cmp, ev_cut, ev_rev, ev_ixc, ev_ixn, ev_ixu, ev_ixb, ev_lst, ev_tup, ev_call, ev_lc, h, shOf, Option.bind_some, listOf, hg, if_true]

theorem line_turned_ok (n : Nat) (lv : List (Option Int)) (order : List Nat) (l : Int) (hl : lv.length ≤ 1000) (ho : order.length ≤ 1000) (hh : ∀ p ∈ order, Has lv p) :
    evF lawT (n + 30) fLineTurned [encs order, dats lv, .int l] = some (encs (turned (fun p => decide (l ≤ val lv p)) order)) := by
  have hps : fLineTurned.params = [Str.ofString "order", Str.ofString "levels", Str.ofString "level"] := by rfl
  refine evF_of hps (by conv => lhs; whnf) rfl ?_
  have s1 : storable fLineTurned.scope (Str.ofString "found") = true := by decide +kernel
  have s2 : storable fLineTurned.scope (Str.ofString "run") = true := by decide +kernel
  have s3 : storable fLineTurned.scope (Str.ofString "place") = true := by decide +kernel
  generalize fLineTurned.scope = sc at *
  refine does_assign s1 (s := .own []) rfl ?_
  refine does_assign s2 (s := .own []) rfl ?_
  refine does_for (I := fun pre ρ => look ρ (Str.ofString "levels") = some (.sh (dats lv)) ∧ look ρ (Str.ofString "level") = some (.sh (.int l)) ∧
    look ρ (Str.ofString "found") = some (.own ((turnFold (fun p => decide (l ≤ val lv p)) pre).1.map enc)) ∧ look ρ (Str.ofString "run") = some (.own ((turnFold (fun p => decide (l ≤ val lv p)) pre).2.map enc)))
    (enc := enc) (items := order) s3 (evI_sh (by simp [look_put', look, str_inj, encs]) (by simp [goOver]; omega)) ?_ ?_ ?_
  · simp [look_put', look, str_inj, turnFold]
  · rintro p x r ρ e ⟨i1, i2, i3, i4⟩
    have hx : Has lv x := hh x (by rw [e]; simp)
    have hlen := turnFold_length (fun p => decide (l ≤ val lv p)) p
    have hple : p.length ≤ 1000 := by rw [e] at ho; simp at ho; omega
    refine ⟨_, rfl, does_if (b := decide (l ≤ val lv x)) ?_ ?_ ?_⟩
    · simp [evT_z, evT_no, evT_bo, evT_c1, evT_c2, evT_ca, evB_z, evB_nm, evB_co, evB_bi, evB_un, evB_bo, evB_if, evB_cm, evB_su, evB_li, evB_tu, evB_ca, evB_lc, ev_z, ev_none, ev_bool, ev_int, ev_name, ev_bin, ev_neg, ev_and, ev_ife, ev_cmp, ev_cut, ev_rev, ev_ixc, ev_ixn, ev_ixu, ev_ixb, ev_lst, ev_tup, ev_call, ev_lc, look_put', str_inj, i1, i2, shOf, borrow, intOf, itemOf_dats hl hx, dat, cp_lt, cp_le, cp_gt, cp_ge, cp_eq, cp_ne, cp_eqb, cp_neb, cp_is, cp_isnt, cp_isb, cp_isntb, cp_eql, cp_nel]
    · intro hb
      refine does_append rfl (by simp [look_put', str_inj]; exact i4) (d := enc x) (by simp [ev_z, ev_none, ev_bool, ev_int, ev_name, ev_bin, ev_neg, ev_and, ev_ife, ev_cmp, ev_cut, ev_rev, ev_ixc, ev_ixn, ev_ixu, ev_ixb, ev_lst, ev_tup, ev_call, ev_lc, look_put', str_inj, shOf]) (by simp; omega) ?_
      refine does_nil ?_
      refine does_nil ⟨rfl, ?_⟩
      have e2 : turnFold (fun p => decide (l ≤ val lv p)) (p ++ [x]) = ((turnFold (fun p => decide (l ≤ val lv p)) p).1, (turnFold (fun p => decide (l ≤ val lv p)) p).2 ++ [x]) := by
        simp only [turnFold, List.foldl_append, List.foldl_cons, List.foldl_nil]
        rw [turnStep, if_pos hb]
      simp [look_put', str_inj, i1, i2, i3, i4, e2]
    · intro hb
      refine does_extend (ys := (turnFold (fun p => decide (l ≤ val lv p)) p).2.reverse.map enc) rfl (by simp [look_put', str_inj]; exact i3) ?_ (by simp; omega) (by simp; omega) ?_
      · simp only [ev_z, ev_none, ev_bool, ev_int, ev_name, ev_bin, ev_neg, ev_and, ev_ife, ev_cmp, ev_cut, ev_rev, ev_ixc, ev_ixn, ev_ixu, ev_ixb, ev_lst, ev_tup, ev_call, ev_lc, evB_z, evB_nm, evB_co, evB_bi, evB_un, evB_bo, evB_if, evB_cm, evB_su, evB_li, evB_tu, evB_ca, evB_lc, look_put', str_inj, i4, borrow, Option.bind_some, listOf, List.length_map]
        simp [look_put', str_inj, i4, borrow, listOf]
        omega
      refine does_append rfl (by simp [look_put', str_inj]; rfl) (d := enc x) (by simp [ev_z, ev_none, ev_bool, ev_int, ev_name, ev_bin, ev_neg, ev_and, ev_ife, ev_cmp, ev_cut, ev_rev, ev_ixc, ev_ixn, ev_ixu, ev_ixb, ev_lst, ev_tup, ev_call, ev_lc, look_put', str_inj, shOf]) (by simp; omega) ?_
      refine does_assign s2 (s := .own []) rfl ?_
      refine does_nil ?_
      refine does_nil ⟨rfl, ?_⟩
      have e2 : turnFold (fun p => decide (l ≤ val lv p)) (p ++ [x]) = ((turnFold (fun p => decide (l ≤ val lv p)) p).1 ++ (turnFold (fun p => decide (l ≤ val lv p)) p).2.reverse ++ [x], []) := by
        simp only [turnFold, List.foldl_append, List.foldl_cons, List.foldl_nil]
        rw [turnStep, if_neg (by simpa using hb)]
      simp [look_put', str_inj, i1, i2, i3, i4, e2]
  · rintro ρ ⟨i1, i2, i3, i4⟩
    have hlen := turnFold_length (fun p => decide (l ≤ val lv p)) order
    refine does_extend (ys := (turnFold (fun p => decide (l ≤ val lv p)) order).2.reverse.map enc) rfl i3 ?_ (by simp; omega) (by simp; omega) ?_
    · simp [ev_z, ev_none, ev_bool, ev_int, ev_name, ev_bin, ev_neg, ev_and, ev_ife, ev_cmp, ev_cut, ev_rev, ev_ixc, ev_ixn, ev_ixu, ev_ixb, ev_lst, ev_tup, ev_call, ev_lc, evB_z, evB_nm, evB_co, evB_bi, evB_un, evB_bo, evB_if, evB_cm, evB_su, evB_li, evB_tu, evB_ca, evB_lc, look_put', str_inj, i4, borrow, listOf]
      omega
    refine does_return (d := encs (turned (fun p => decide (l ≤ val lv p)) order)) ?_ rfl
    simp [evB_z, evB_nm, evB_co, evB_bi, evB_un, evB_bo, evB_if, evB_cm, evB_su, evB_li, evB_tu, evB_ca, evB_lc, look_put', borrow, turned]
end Mine

namespace Mine
open PySem

/-! ### like and unlike -/
noncomputable def atom : PyData → Bool
  | .none | .int _ => true
  | _ => false
noncomputable def tame : PyData → Bool
  | .none | .int _ => true
  | .tuple xs => xs.all atom
  | _ => false
theorem eqv_atom {a b : PyData} (ha : atom a = true) (hb : atom b = true) : PyData.eqv a b = true ↔ a = b := by
  cases a <;> cases b <;> simp [atom] at ha hb <;> simp [PyData.eqv]
theorem eqvAll_atom : ∀ {xs ys : List PyData}, xs.all atom = true → ys.all atom = true → (PyData.eqvAll xs ys = true ↔ xs = ys)
  | [], [], _, _ => by simp [PyData.eqvAll]
  | [], _ :: _, _, _ => by simp [PyData.eqvAll]
  | _ :: _, [], _, _ => by simp [PyData.eqvAll]
  | a :: xs, b :: ys, h, k => by
    simp only [List.all_cons, Bool.and_eq_true] at h k
    simp only [PyData.eqvAll, Bool.and_eq_true, eqv_atom h.1 k.1, eqvAll_atom h.2 k.2, List.cons.injEq]
set_option tactic.hygienic true in
theorem eqv_tame {a b : PyData} (ha : tame a = true) (hb : tame b = true) : PyData.eqv a b = true ↔ a = b := by
  cases a <;> cases b <;> simp only [tame] at ha hb <;> first | (cases ha; done) | (cases hb; done) | skip
  all_goals first | (simp [PyData.eqv]; done) | skip
  rename_i xs ys
  simp only [PyData.eqv, eqvAll_atom ha hb, PyData.tuple.injEq]
theorem eqvAll_tame : ∀ {xs ys : List PyData}, xs.all tame = true → ys.all tame = true → (PyData.eqvAll xs ys = true ↔ xs = ys)
  | [], [], _, _ => by simp [PyData.eqvAll]
  | [], _ :: _, _, _ => by simp [PyData.eqvAll]
  | _ :: _, [], _, _ => by simp [PyData.eqvAll]
  | a :: xs, b :: ys, h, k => by
    simp only [List.all_cons, Bool.and_eq_true] at h k
    simp only [PyData.eqvAll, Bool.and_eq_true, eqv_tame h.1 k.1, eqvAll_tame h.2 k.2, List.cons.injEq]
theorem atoms_lay : ∀ {xs : List PyData}, xs.all atom = true → PyData.canLayAll0 xs = true ∧ PyData.depthAll xs ≤ 1
  | [], _ => by simp [PyData.canLayAll0, PyData.depthAll]
  | a :: xs, h => by
    simp only [List.all_cons, Bool.and_eq_true] at h
    obtain ⟨h1, h2⟩ := atoms_lay h.2
    have ha := h.1
    cases a <;> simp [atom] at ha <;> simp [PyData.canLayAll0, PyData.canLay0, PyData.depthAll, PyData.depth, h1] <;> omega
theorem tames_lay : ∀ {xs : List PyData}, xs.all tame = true → PyData.canLayAll0 xs = true ∧ PyData.depthAll xs ≤ 2
  | [], _ => by simp [PyData.canLayAll0, PyData.depthAll]
  | a :: xs, h => by
    simp only [List.all_cons, Bool.and_eq_true] at h
    obtain ⟨h1, h2⟩ := tames_lay h.2
    have ha := h.1
    cases a <;> simp only [tame] at ha <;> try (cases ha; done)
    · simp [PyData.canLayAll0, PyData.canLay0, PyData.depthAll, PyData.depth, h1]; omega
    · simp [PyData.canLayAll0, PyData.canLay0, PyData.depthAll, PyData.depth, h1]; omega
    · obtain ⟨h3, h4⟩ := atoms_lay ha
      simp [PyData.canLayAll0, PyData.canLay0, PyData.depthAll, PyData.depth, h1, h3]; omega
theorem shaped_tames {xs : List PyData} (h : xs.all tame = true) : SeqAt.shaped (.list xs) = true := by
  obtain ⟨h1, h2⟩ := tames_lay h
  simp [SeqAt.shaped, PyData.canLay0, PyData.depth, h1]; omega
theorem ne_lists {xs ys : List PyData} (hx : xs.all tame = true) (hy : ys.all tame = true) {b : Bool} (hb : b = true ↔ xs ≠ ys) : compare .NotEq (.list xs) (.list ys) = some b := by
  simp only [cp_lt, cp_le, cp_gt, cp_ge, cp_eq, cp_ne, cp_eqb, cp_neb, cp_is, cp_isnt, cp_isb, cp_isntb, cp_eql, cp_nel, shaped_tames hx, shaped_tames hy, Bool.and_self, if_true, Option.some.injEq]
  have h := eqvAll_tame hx hy
  cases q : PyData.eqv (.list xs) (.list ys) with
  | true =>
    rw [PyData.eqv] at q
    have := h.mp q
    cases b with
    | true => exact absurd this (hb.mp rfl)
    | false => rfl
  | false =>
    rw [PyData.eqv] at q
    cases b with
    | true => rfl
    | false =>
      have h2 : xs ≠ ys := fun e => by rw [h.mpr e] at q; cases q
      exact absurd (hb.mpr h2) (by simp)
theorem eq_lists {xs ys : List PyData} (hx : xs.all tame = true) (hy : ys.all tame = true) {b : Bool} (hb : b = true ↔ xs = ys) : compare .Eq (.list xs) (.list ys) = some b := by
  simp only [cp_lt, cp_le, cp_gt, cp_ge, cp_eq, cp_ne, cp_eqb, cp_neb, cp_is, cp_isnt, cp_isb, cp_isntb, cp_eql, cp_nel, shaped_tames hx, shaped_tames hy, Bool.and_self, if_true, Option.some.injEq]
  have h := eqvAll_tame hx hy
  rw [PyData.eqv]
  cases q : PyData.eqvAll xs ys with
  | true => have := hb.mpr (h.mp q); rw [this]
  | false =>
    cases b with
    | false => rfl
    | true => rw [h.mpr (hb.mp rfl)] at q; cases q
theorem encs_tame (ps : List Nat) : (ps.map enc).all tame = true := by induction ps <;> simp_all [tame]
theorem ints_tame (ps : List Int) : (ps.map PyData.int).all tame = true := by induction ps <;> simp_all [tame]
theorem dats_tame (lv : List (Option Int)) : (lv.map dat).all tame = true := by
  induction lv with
  | nil => rfl
  | cons o r ih => cases o <;> simp_all [dat, tame]
theorem enc_inj {ps qs : List Nat} : ps.map enc = qs.map enc ↔ ps = qs := by
  constructor
  · intro h
    have inj : Function.Injective enc := fun a b e => by simp [enc] at e; omega
    exact (List.map_inj_right (fun a b e => inj e)).mp h
  · intro h; rw [h]
theorem int_inj {ps qs : List Int} : ps.map PyData.int = qs.map PyData.int ↔ ps = qs := by
  constructor
  · intro h; exact (List.map_inj_right (fun a b e => by simpa using e)).mp h
  · intro h; rw [h]
theorem dat_inj {ps qs : List (Option Int)} : ps.map dat = qs.map dat ↔ ps = qs := by
  constructor
  · intro h; exact (List.map_inj_right (fun a b e => by cases a <;> cases b <;> simp [dat] at e <;> simp [e])).mp h
  · intro h; rw [h]

/-! ### rules for loops' goals and for calls -/
section
variable {T : Tbl} {n : Nat} {sc : Scope} {ρ : Vars}
theorem evI_range {q p px : Pos} {a : Expr} {as : List Expr} {x : Str} {ds items : List PyData} (hk : isGlobal sc (Str.ofString "range") = true) (h : evBL T n sc ρ (a :: as) = some ds) (hr : rangeOf ds = some items) :
    evI T (n + 1) sc ρ (.Call (.Name (Str.ofString "range") q) (a :: as) [] p) (.Name x px) = some items := by
  simp only [evI_z, evI_na, evI_su, evI_ca, hk, true_and, if_true, h, Option.bind_some, hr]
theorem evI_enum {q p pt px py : Pos} {k : Nat} {a : Expr} {x y : Str} {xs : List PyData} (hk : isGlobal sc (Str.ofString "enumerate") = true) (h : ev T n sc ρ a = some (.list xs)) (hs : xs.length ≤ 2 ^ 20) :
    evI T (n + 1) sc ρ (.Call (.Name (Str.ofString "enumerate") q) [a] [] p) (.Tuple [.Name x px, .Name y py] k pt) = some (pairsFrom 0 xs) := by
  have e : (Str.ofString "enumerate" = Str.ofString "range") = False := by rw [str_inj]; simp
  simp only [evI_z, evI_na, evI_su, evI_ca, hk, e, and_false, if_false, and_self, if_true, h, Option.bind_some, listOf, hs]
theorem evI_list {f : Str} {q p : Pos} {a target : Expr} {as : List Expr} {xs : List PyData} (h1 : f ≠ Str.ofString "range") (h2 : f ≠ Str.ofString "enumerate") (h : ev T n sc ρ (.Call (.Name f q) (a :: as) [] p) = some (.list xs)) (hg : goOver target xs = true) :
    evI T (n + 1) sc ρ (.Call (.Name f q) (a :: as) [] p) target = some xs := by
  simp only [evI_z, evI_na, evI_su, evI_ca, h1, h2, and_false, if_false, h, Option.bind_some, listOf, hg, if_true]
theorem ev_built {f : Str} {p pos : Pos} {a : Expr} {as : List Expr} {ds : List PyData} (hk : isGlobal sc f = true) (hf : fnOf T f = none) (h : evBL T n sc ρ (a :: as) = some ds) : ev T (n + 1) sc ρ (.Call (.Name f p) (a :: as) [] pos) = builtin f ds := by
  simp only [ev_z, ev_none, ev_bool, ev_int, ev_name, ev_bin, ev_neg, ev_and, ev_ife, ev_cmp, ev_cut, ev_rev, ev_ixc, ev_ixn, ev_ixu, ev_ixb, ev_lst, ev_tup, ev_call, ev_lc, hk, if_true, hf, h, Option.bind_some]
theorem ev_fn {f : Str} {p pos : Pos} {a : Expr} {as : List Expr} {fn : Fn} {ds : List PyData} (hk : isGlobal sc f = true) (hf : fnOf T f = some fn) (h : evL T n sc ρ (a :: as) = some ds) : ev T (n + 1) sc ρ (.Call (.Name f p) (a :: as) [] pos) = evF T n fn ds := by
  simp only [ev_z, ev_none, ev_bool, ev_int, ev_name, ev_bin, ev_neg, ev_and, ev_ife, ev_cmp, ev_cut, ev_rev, ev_ixc, ev_ixn, ev_ixu, ev_ixb, ev_lst, ev_tup, ev_call, ev_lc, hk, if_true, hf, h, Option.bind_some]
end
theorem fn_len : fnOf lawT (Str.ofString "len") = none := by kernel_rfl
theorem fn_sorted : fnOf lawT (Str.ofString "sorted") = none := by kernel_rfl
theorem fn_min : fnOf lawT (Str.ofString "min") = none := by kernel_rfl
theorem fn_list : fnOf lawT (Str.ofString "list") = none := by kernel_rfl
theorem fn_tuple : fnOf lawT (Str.ofString "tuple") = none := by kernel_rfl
theorem built_len {xs : List PyData} (h : xs.length ≤ 1000) : builtin (Str.ofString "len") [.list xs] = some (.int xs.length) := by
  simp only [builtin, if_true]; rw [if_pos (by omega)]
theorem built_sorted {xs : List PyData} : builtin (Str.ofString "sorted") [.list xs] = (sorted xs).map .list := by
  simp [builtin, str_inj]
theorem built_min {xs : List PyData} {a : Int} {r : List Int} (h : xs.length ≤ 1000) (hi : intsOf xs = some (a :: r)) : builtin (Str.ofString "min") [.list xs] = some (.int (minL a r)) := by
  have h' : xs.length ≤ 2 ^ 20 := by omega
  simp only [builtin, str_inj, h', hi, if_true]; simp
theorem built_min2 {a b : Int} : builtin (Str.ofString "min") [.int a, .int b] = some (.int (if b < a then b else a)) := by
  simp [builtin, str_inj]
theorem built_list {xs : List PyData} (h : xs.length ≤ 1000) : builtin (Str.ofString "list") [.list xs] = some (.list xs) := by
  simp only [builtin, str_inj]; simp; omega
theorem built_tuple {xs : List PyData} : builtin (Str.ofString "tuple") [.tuple xs] = some (.tuple xs) := by
  simp [builtin, str_inj]
theorem intsOf_ints : ∀ ns : List Int, intsOf (ns.map .int) = some ns
  | [] => rfl
  | i :: r => by simp [intsOf, intOf, intsOf_ints r]
theorem rangeOf_one {k : Nat} (h : k ≤ 1000) : rangeOf [.int (k : Int)] = some ((List.range k).map enc) := by
  have : mid (k : Int) = true := by simp [mid]; omega
  simp [rangeOf, this, rangeL]
theorem rangeOf_two {a b : Nat} (ha : a ≤ 1000) (h : b ≤ 1000) : rangeOf [.int (a : Int), .int (b : Int)] = some ((List.range' a (b - a)).map enc) := by
  have h1 : mid (a : Int) = true := by simp [mid]; omega
  have h2 : mid (b : Int) = true := by simp [mid]; omega
  have e : ((b : Int) - (a : Int)).toNat = b - a := by omega
  simp only [rangeOf, h1, h2, Bool.and_self, if_true, rangeL, e, List.map_map, List.range'_eq_map_range, Option.some.injEq]
  apply List.map_congr_left
  intro j _
  simp [enc]
end Mine

namespace Mine
open PySem

theorem turnFold_perm (q : Nat → Bool) (ord : List Nat) : ((turnFold q ord).1 ++ (turnFold q ord).2.reverse).Perm ord := by
  have : ∀ (ord : List Nat) (s : List Nat × List Nat), ((ord.foldl (turnStep q) s).1 ++ (ord.foldl (turnStep q) s).2.reverse).Perm (s.1 ++ s.2.reverse ++ ord) := fun ord => by
    induction ord with
    | nil => intro s; simp
    | cons p r ih =>
      intro s
      rw [List.foldl_cons]
      refine (ih _).trans ?_
      unfold turnStep
      split
      · rw [List.reverse_append]
        simp only [List.reverse_cons, List.reverse_nil, List.nil_append, List.singleton_append, List.append_assoc]
        refine List.Perm.append_left _ ?_
        simp only [List.cons_append]
        exact (List.perm_middle (a := p) (l₁ := s.2.reverse) (l₂ := r)).symm
      · simp
  have h := this ord ([], [])
  simpa [turnFold] using h
theorem turned_perm (q : Nat → Bool) (ord : List Nat) : (turned q ord).Perm ord := turnFold_perm q ord

noncomputable def places (lv : List (Option Int)) : List Nat := (List.range lv.length).filter fun p => ((lv[p]?).getD none).isSome
noncomputable def vals (lv : List (Option Int)) : List Int := (places lv).map (val lv)
theorem mem_places {lv : List (Option Int)} {p : Nat} : p ∈ places lv ↔ Has lv p := by
  unfold places Has val
  rw [List.mem_filter, List.mem_range]
  constructor
  · rintro ⟨h1, h2⟩
    rw [List.getElem?_eq_getElem h1] at h2 ⊢
    cases q : lv[p] with
    | none => rw [q] at h2; simp at h2
    | some v => simp
  · intro h
    obtain ⟨hlt, _⟩ := List.getElem?_eq_some_iff.mp h
    exact ⟨hlt, by rw [h]; rfl⟩
noncomputable def Fair (lv : List (Option Int)) : Prop := lv.length ≤ 20 ∧ ∀ p, Has lv p → 0 ≤ val lv p ∧ val lv p ≤ 100
noncomputable def odds (lv : List (Option Int)) : List Int := (sortI (vals lv)).filter fun v => v.fmod 2 == 1
noncomputable def turnAt (lv : List (Option Int)) (ord : List Nat) (l : Int) : List Nat := turned (fun p => decide (l ≤ val lv p)) ord
noncomputable def reord (lv : List (Option Int)) : List Nat :=
  match odds lv with
  | [] => places lv
  | o :: _ => (downL ((sortI (vals lv)).getLast?.getD 0) (o - 1)).foldl (turnAt lv) (places lv)
theorem turnAts_perm (lv : List (Option Int)) : ∀ (ls : List Int) (ord : List Nat), (ls.foldl (turnAt lv) ord).Perm ord
  | [], ord => .refl _
  | l :: r, ord => (turnAts_perm lv r _).trans (turned_perm _ _)
theorem reord_perm (lv : List (Option Int)) : (reord lv).Perm (places lv) := by
  unfold reord
  split
  · exact .refl _
  · exact turnAts_perm _ _ _
theorem sortI_mem {l : List Int} {v : Int} : v ∈ sortI l ↔ v ∈ l := by
  have : ∀ l : List Int, (sortI l).Perm l := fun l => by
    have ins : ∀ (i : Int) l, (insI i l).Perm (i :: l) := fun i l => by
      induction l with
      | nil => exact .refl _
      | cons j r ih => unfold insI; split; exact .refl _; exact (ih.cons j).trans (.swap i j r)
    induction l with
    | nil => exact .refl _
    | cons i r ih => exact (ins i _).trans (ih.cons i)
  exact (this l).mem_iff
theorem sortI_length (l : List Int) : (sortI l).length = l.length := by
  have ins : ∀ (i : Int) l, (insI i l).length = l.length + 1 := fun i l => by
    induction l with
    | nil => rfl
    | cons j r ih => unfold insI; split <;> simp [ih]
  induction l with
  | nil => rfl
  | cons i r ih => simp [sortI, ins, ih]
theorem places_length (lv : List (Option Int)) : (places lv).length ≤ lv.length := by
  unfold places
  exact Nat.le_trans (List.length_filter_le _ _) (by simp)

noncomputable def fReordered : Fn := fnNo 1 lawB
theorem fnOf_re : fnOf lawT (Str.ofString "reordered") = some fReordered := by kernel_rfl

theorem reordered_ok (n : Nat) (lv : List (Option Int)) (hl : Fair lv) : evF lawT (n + 60) fReordered [dats lv] = some (encs (reord lv)) := by
  obtain ⟨hlen, hval⟩ := hl
  have hps : fReordered.params = [Str.ofString "levels"] := by rfl
  refine evF_of hps (by conv => lhs; whnf) rfl ?_
  have s1 : storable fReordered.scope (Str.ofString "order") = true := by decide +kernel
  have s2 : storable fReordered.scope (Str.ofString "there") = true := by decide +kernel
  have s3 : storable fReordered.scope (Str.ofString "odd") = true := by decide +kernel
  have s4 : storable fReordered.scope (Str.ofString "level") = true := by decide +kernel
  have g1 : isGlobal fReordered.scope (Str.ofString "range") = true := by decide +kernel
  have g2 : isGlobal fReordered.scope (Str.ofString "len") = true := by decide +kernel
  have g3 : isGlobal fReordered.scope (Str.ofString "sorted") = true := by decide +kernel
  have g4 : isGlobal fReordered.scope (Str.ofString "line_turned") = true := by decide +kernel
  have hpl := places_length lv
  refine does_assign s1 (s := .sh (encs (places lv))) ?_ ?_
  · simp only [evG_z, evG_eq, made_ni, made_mu, made_ca, made_lc, made_su, made_if, made_co, made_bn, made_bb, Bool.false_eq_true, if_false]
    rw [ev_compM (rs := (places lv).map enc) enc (List.range lv.length) (fun p => ((lv[p]?).getD none).isSome) enc (by kernel_rfl)]
    · rfl
    · refine evI_range (ds := [.int (lv.length : Int)]) g1 ?_ (rangeOf_one (by omega))
      simp only [evBL_z, evBL_ni, evBL_co, evB_z, evB_nm, evB_co, evB_bi, evB_un, evB_bo, evB_if, evB_cm, evB_su, evB_li, evB_tu, evB_ca, evB_lc, Option.bind_some, Option.map_some]
      rw [ev_built (ds := [dats lv]) g2 fn_len (by simp [evBL_z, evBL_ni, evBL_co, evB_z, evB_nm, evB_co, evB_bi, evB_un, evB_bo, evB_if, evB_cm, evB_su, evB_li, evB_tu, evB_ca, evB_lc, look, str_inj, borrow]), built_len (by simp; omega)]
      simp
    · rfl
    · refine fun p hp => ⟨_, rfl, ?_, fun _ => ?_⟩
      · have hlt : p < lv.length := List.mem_range.mp hp
        have e := itemOf_dats (lv := lv) (p := p) (by omega) (List.getElem?_eq_getElem hlt)
        simp [evTs_z, evTs_ni, evTs_on, evT_z, evT_no, evT_bo, evT_c1, evT_c2, evT_ca, evB_z, evB_nm, evB_co, evB_bi, evB_un, evB_bo, evB_if, evB_cm, evB_su, evB_li, evB_tu, evB_ca, evB_lc, ev_z, ev_none, ev_bool, ev_int, ev_name, ev_bin, ev_neg, ev_and, ev_ife, ev_cmp, ev_cut, ev_rev, ev_ixc, ev_ixn, ev_ixu, ev_ixb, ev_lst, ev_tup, ev_call, ev_lc, look_put', look_freeOf, kindIn, look, str_inj, borrow, shOf, intOf, e, cp_lt, cp_le, cp_gt, cp_ge, cp_eq, cp_ne, cp_eqb, cp_neb, cp_is, cp_isnt, cp_isb, cp_isntb, cp_eql, cp_nel, List.getElem?_eq_getElem hlt]
        cases lv[p] <;> rfl
      · simp [ev_z, ev_none, ev_bool, ev_int, ev_name, ev_bin, ev_neg, ev_and, ev_ife, ev_cmp, ev_cut, ev_rev, ev_ixc, ev_ixn, ev_ixu, ev_ixb, ev_lst, ev_tup, ev_call, ev_lc, look_put', shOf]
  have hval' : ∀ v ∈ sortI (vals lv), 0 ≤ v ∧ v ≤ 100 := fun v hv => by
    obtain ⟨p, hp, rfl⟩ := List.mem_map.mp (sortI_mem.mp hv)
    exact hval p (mem_places.mp hp)
  have hvl : (vals lv).length ≤ 20 := by simp [vals]; omega
  have hsl : (sortI (vals lv)).length ≤ 20 := by rw [sortI_length]; exact hvl
  refine does_assign s2 (s := .sh (.list ((sortI (vals lv)).map .int))) ?_ ?_
  · simp only [evG_z, evG_eq, made_ni, made_mu, made_ca, made_lc, made_su, made_if, made_co, made_bn, made_bb, Bool.false_eq_true, if_false]
    rw [ev_built (ds := [.list ((vals lv).map .int)]) g3 fn_sorted, built_sorted]
    · have h64 : ((vals lv).map PyData.int).length < 64 := by simp; omega
      simp only [sorted, h64, if_true, intsOf_ints]; rfl
    · simp only [evBL_z, evBL_ni, evBL_co, evB_z, evB_nm, evB_co, evB_bi, evB_un, evB_bo, evB_if, evB_cm, evB_su, evB_li, evB_tu, evB_ca, evB_lc]
      rw [ev_compM (rs := (vals lv).map .int) enc (places lv) (fun _ => true) (fun p => PyData.int (val lv p)) (by kernel_rfl)]
      · rfl
      · refine evI_sh (by simp [look_put']) (by simp [goOver]; omega)
      · rw [List.filter_eq_self.mpr (fun _ _ => rfl), vals, List.map_map]; rfl
      · intro p hp
        refine ⟨_, rfl, by simp [evTs_z, evTs_ni, evTs_on], fun _ => ?_⟩
        have e := itemOf_dats (lv := lv) (p := p) (by omega) (mem_places.mp hp)
        simp [evTs_z, evTs_ni, evTs_on, evT_z, evT_no, evT_bo, evT_c1, evT_c2, evT_ca, evB_z, evB_nm, evB_co, evB_bi, evB_un, evB_bo, evB_if, evB_cm, evB_su, evB_li, evB_tu, evB_ca, evB_lc, ev_z, ev_none, ev_bool, ev_int, ev_name, ev_bin, ev_neg, ev_and, ev_ife, ev_cmp, ev_cut, ev_rev, ev_ixc, ev_ixn, ev_ixu, ev_ixb, ev_lst, ev_tup, ev_call, ev_lc, look_put', look_freeOf, kindIn, look, str_inj, borrow, shOf, intOf, e, cp_lt, cp_le, cp_gt, cp_ge, cp_eq, cp_ne, cp_eqb, cp_neb, cp_is, cp_isnt, cp_isb, cp_isntb, cp_eql, cp_nel, dat]
  refine does_assign s3 (s := .sh (.list ((odds lv).map .int))) ?_ ?_
  · simp only [evG_z, evG_eq, made_ni, made_mu, made_ca, made_lc, made_su, made_if, made_co, made_bn, made_bb, Bool.false_eq_true, if_false]
    rw [ev_compM (rs := (odds lv).map .int) PyData.int (sortI (vals lv)) (fun v => v.fmod 2 == 1) PyData.int (by kernel_rfl)]
    · rfl
    · refine evI_sh (by simp [look_put']) (by simp [goOver]; omega)
    · rfl
    · intro v hv
      refine ⟨_, rfl, ?_, fun _ => ?_⟩
      · simp [evTs_z, evTs_ni, evTs_on, evT_z, evT_no, evT_bo, evT_c1, evT_c2, evT_ca, evB_z, evB_nm, evB_co, evB_bi, evB_un, evB_bo, evB_if, evB_cm, evB_su, evB_li, evB_tu, evB_ca, evB_lc, ev_z, ev_none, ev_bool, ev_int, ev_name, ev_bin, ev_neg, ev_and, ev_ife, ev_cmp, ev_cut, ev_rev, ev_ixc, ev_ixn, ev_ixu, ev_ixb, ev_lst, ev_tup, ev_call, ev_lc, look_put', look_freeOf, kindIn, look, str_inj, borrow, shOf, intOf, cp_lt, cp_le, cp_gt, cp_ge, cp_eq, cp_ne, cp_eqb, cp_neb, cp_is, cp_isnt, cp_isb, cp_isntb, cp_eql, cp_nel, ar_add, ar_sub, ar_mul, ar_mod, ar_div, ar_cat, ar_rep]
      · simp [evTs_z, evTs_ni, evTs_on, evT_z, evT_no, evT_bo, evT_c1, evT_c2, evT_ca, evB_z, evB_nm, evB_co, evB_bi, evB_un, evB_bo, evB_if, evB_cm, evB_su, evB_li, evB_tu, evB_ca, evB_lc, ev_z, ev_none, ev_bool, ev_int, ev_name, ev_bin, ev_neg, ev_and, ev_ife, ev_cmp, ev_cut, ev_rev, ev_ixc, ev_ixn, ev_ixu, ev_ixb, ev_lst, ev_tup, ev_call, ev_lc, look_put', look_freeOf, kindIn, look, str_inj, borrow, shOf, intOf, cp_lt, cp_le, cp_gt, cp_ge, cp_eq, cp_ne, cp_eqb, cp_neb, cp_is, cp_isnt, cp_isb, cp_isntb, cp_eql, cp_nel, ar_add, ar_sub, ar_mul, ar_mod, ar_div, ar_cat, ar_rep]
  refine does_if (b := decide (odds lv ≠ [])) ?_ ?_ ?_
  · simp only [evT_z, evT_no, evT_bo, evT_c1, evT_c2, evT_ca, evB_z, evB_nm, evB_co, evB_bi, evB_un, evB_bo, evB_if, evB_cm, evB_su, evB_li, evB_tu, evB_ca, evB_lc, ev_z, ev_none, ev_bool, ev_int, ev_name, ev_bin, ev_neg, ev_and, ev_ife, ev_cmp, ev_cut, ev_rev, ev_ixc, ev_ixn, ev_ixu, ev_ixb, ev_lst, ev_tup, ev_call, ev_lc, look_put', str_inj, borrow, Option.bind_some, evL_z, evL_ni, evL_co, List.length_nil, Nat.zero_le, if_true]
    refine ne_lists (ints_tame _) rfl ?_
    simp
  · intro hb
    have hne : odds lv ≠ [] := by simpa using hb
    obtain ⟨o, r, ho⟩ := List.exists_cons_of_ne_nil hne
    have homem : o ∈ sortI (vals lv) := (List.mem_filter.mp (show o ∈ odds lv by rw [ho]; simp)).1
    have hsne : sortI (vals lv) ≠ [] := by intro e; rw [e] at homem; cases homem
    have hlast : (sortI (vals lv)).getLast? = some ((sortI (vals lv)).getLast hsne) := List.getLast?_eq_some_getLast hsne
    have hlm := hval' _ (List.getLast_mem hsne)
    have hom := hval' o homem
    generalize hL : (sortI (vals lv)).getLast hsne = top at *
    have hre : reord lv = (downL top (o - 1)).foldl (turnAt lv) (places lv) := by simp [reord, ho, hlast]
    refine does_for (I := fun pre ρ => look ρ (Str.ofString "levels") = some (.sh (dats lv)) ∧ look ρ (Str.ofString "order") = some (.sh (encs (pre.foldl (turnAt lv) (places lv)))))
      (enc := PyData.int) (items := downL top (o - 1)) s4 ?_ ?_ ?_ ?_
    · refine evI_range (ds := [.int top, .int (o - 1), .int (-1)]) g1 ?_ ?_
      · have e1 : itemOf (.list ((sortI (vals lv)).map .int)) (-1) = some (.int top) := by
          simp only [itemOf, List.length_map]
          have hpos : 0 < (sortI (vals lv)).length := List.length_pos_iff.mpr hsne
          rw [if_pos (by omega)]
          have : placeIn (-1) (sortI (vals lv)).length = some ((sortI (vals lv)).length - 1) := by
            unfold placeIn
            rw [if_neg (by omega), if_pos (by omega)]
            congr 1; omega
          rw [this, Option.bind_some, List.getElem?_map, ← List.getLast?_eq_getElem?, hlast]; rfl
        have e2 : itemOf (.list ((odds lv).map .int)) 0 = some (.int o) := by
          rw [ho]
          simp only [itemOf, List.length_map]
          have : (odds lv).length ≤ 20 := Nat.le_trans (List.length_filter_le _ _) hsl
          rw [ho] at this
          rw [if_pos (by omega)]
          have : placeIn 0 (o :: r).length = some 0 := placeIn_nat (k := 0) (by simp)
          rw [this]; rfl
        simp [evBL_z, evBL_ni, evBL_co, evB_z, evB_nm, evB_co, evB_bi, evB_un, evB_bo, evB_if, evB_cm, evB_su, evB_li, evB_tu, evB_ca, evB_lc, ev_z, ev_none, ev_bool, ev_int, ev_name, ev_bin, ev_neg, ev_and, ev_ife, ev_cmp, ev_cut, ev_rev, ev_ixc, ev_ixn, ev_ixu, ev_ixb, ev_lst, ev_tup, ev_call, ev_lc, look_put', str_inj, borrow, shOf, intOf, e1, e2, ar_add, ar_sub, ar_mul, ar_mod, ar_div, ar_cat, ar_rep]
      · have h1 : mid top = true := by simp [mid]; omega
        have h2 : mid (o - 1) = true := by simp [mid]; omega
        simp [rangeOf, h1, h2]
    · simp [look_put', look, str_inj]
    · rintro p x r ρ e ⟨i1, i2⟩
      refine ⟨_, rfl, ?_⟩
      have hperm := turnAts_perm lv p (places lv)
      refine does_assign s1 (s := .sh (encs ((p ++ [x]).foldl (turnAt lv) (places lv)))) ?_ (does_nil ⟨rfl, ?_⟩)
      · simp only [evG_z, evG_eq, made_ni, made_mu, made_ca, made_lc, made_su, made_if, made_co, made_bn, made_bb, Bool.false_eq_true, if_false]
        rw [ev_fn (ds := [encs (p.foldl (turnAt lv) (places lv)), dats lv, .int x]) g4 fnOf_lt (by simp [evL_z, evL_ni, evL_co, ev_z, ev_none, ev_bool, ev_int, ev_name, ev_bin, ev_neg, ev_and, ev_ife, ev_cmp, ev_cut, ev_rev, ev_ixc, ev_ixn, ev_ixu, ev_ixb, ev_lst, ev_tup, ev_call, ev_lc, look_put', str_inj, i1, i2, shOf])]
        rw [line_turned_ok _ lv _ x (by omega) (by rw [hperm.length_eq]; omega) (fun q hq => mem_places.mp (hperm.mem_iff.mp hq))]
        rw [List.foldl_append]; rfl
      · simp [look_put', str_inj, i1]
    · rintro ρ ⟨i1, i2⟩
      refine does_nil ?_
      refine does_return (d := encs (reord lv)) ?_ rfl
      simp [evB_z, evB_nm, evB_co, evB_bi, evB_un, evB_bo, evB_if, evB_cm, evB_su, evB_li, evB_tu, evB_ca, evB_lc, i2, borrow, hre]
  · intro hb
    have hodd : odds lv = [] := by simpa using hb
    refine does_nil ?_
    refine does_return (d := encs (reord lv)) ?_ rfl
    simp [evB_z, evB_nm, evB_co, evB_bi, evB_un, evB_bo, evB_if, evB_cm, evB_su, evB_li, evB_tu, evB_ca, evB_lc, look_put', str_inj, borrow, reord, hodd]
end Mine

namespace Mine
open PySem

theorem pairsFrom_map {α : Type} (e : α → PyData) : ∀ (k : Nat) (xs : List α), pairsFrom k (xs.map e) = (xs.zipIdx k).map fun p => .tuple [enc p.2, e p.1]
  | k, [] => rfl
  | k, x :: r => by simp [pairsFrom, pairsFrom_map e (k + 1) r]

theorem nat_beq (a p : Nat) : ((a : Int) == (p : Int)) = decide (a = p) := by
  by_cases h : a = p
  · subst h; simp
  · have : ((a : Int) == (p : Int)) = false := by simp; omega
    simp [h, this]
theorem nat_bne (a p : Nat) : ((a : Int) != (p : Int)) = decide (a ≠ p) := by
  unfold bne; rw [nat_beq]; by_cases h : a = p <;> simp [h]

noncomputable def fVisualOf : Fn := fnNo 4 lawB
theorem fnOf_vo : fnOf lawT (Str.ofString "visual_of") = some fVisualOf := by kernel_rfl
noncomputable def datN : Option Nat → PyData
  | none => .none
  | some k => enc k
/-- where a place stands in an order -/
noncomputable def spotOf (ord : List Nat) (p : Nat) : Option Nat := (ord.zipIdx).findSome? fun x => if x.1 = p then some x.2 else none
theorem visual_of_ok (n : Nat) (ord : List Nat) (p : Nat) (hl : ord.length ≤ 1000) : evF lawT (n + 30) fVisualOf [encs ord, enc p] = some (datN (spotOf ord p)) := by
  have hps : fVisualOf.params = [Str.ofString "order", Str.ofString "place"] := by rfl
  refine evF_of hps (by conv => lhs; whnf) rfl ?_
  have s1 : storable fVisualOf.scope (Str.ofString "spot") = true := by decide +kernel
  have s2 : storable fVisualOf.scope (Str.ofString "other") = true := by decide +kernel
  have g1 : isGlobal fVisualOf.scope (Str.ofString "enumerate") = true := by decide +kernel
  refine does_for_find (I := fun ρ => look ρ (Str.ofString "place") = some (.sh (enc p))) (g := fun (x : Nat × Nat) => if x.1 = p then some (enc x.2) else none) (enc := fun x => .tuple [enc x.2, enc x.1]) (items := ord.zipIdx)
    (by simp [targetSt, s1, s2]) ?_ (by simp [look, str_inj]) ?_ ?_ ?_
  · rw [← pairsFrom_map]
    exact evI_enum g1 (by simp [ev_z, ev_none, ev_bool, ev_int, ev_name, ev_bin, ev_neg, ev_and, ev_ife, ev_cmp, ev_cut, ev_rev, ev_ixc, ev_ixn, ev_ixu, ev_ixb, ev_lst, ev_tup, ev_call, ev_lc, look, str_inj, shOf]) (by simp; omega)
  · rintro ρ ⟨a, k⟩ hx i1
    refine ⟨_, rfl, does_if (b := decide (a = p)) ?_ ?_ ?_⟩
    · simp [evT_z, evT_no, evT_bo, evT_c1, evT_c2, evT_ca, evB_z, evB_nm, evB_co, evB_bi, evB_un, evB_bo, evB_if, evB_cm, evB_su, evB_li, evB_tu, evB_ca, evB_lc, ev_z, ev_none, ev_bool, ev_int, ev_name, ev_bin, ev_neg, ev_and, ev_ife, ev_cmp, ev_cut, ev_rev, ev_ixc, ev_ixn, ev_ixu, ev_ixb, ev_lst, ev_tup, ev_call, ev_lc, look_put', str_inj, i1, borrow, cp_lt, cp_le, cp_gt, cp_ge, cp_eq, cp_ne, cp_eqb, cp_neb, cp_is, cp_isnt, cp_isb, cp_isntb, cp_eql, cp_nel, nat_beq]
    · intro hb
      have hb' : a = p := by simpa using hb
      refine does_return (d := enc k) (by simp [evB_z, evB_nm, evB_co, evB_bi, evB_un, evB_bo, evB_if, evB_cm, evB_su, evB_li, evB_tu, evB_ca, evB_lc, look_put', str_inj, borrow]) ?_
      simp [After, hb']
    · intro hb
      have hb' : a ≠ p := by simpa using hb
      refine does_nil (does_nil ?_)
      simp [hb', look_put', str_inj, i1]
  · intro d ρ' hd
    have : ord.zipIdx.findSome? (fun x : Nat × Nat => if x.1 = p then some (enc x.2) else none) = (spotOf ord p).map enc := by
      unfold spotOf
      rw [List.map_findSome?]
      congr 1
      funext x
      simp only [Function.comp]
      split <;> rfl
    rw [this] at hd
    cases q : spotOf ord p with
    | none => rw [q] at hd; cases hd
    | some k => rw [q] at hd; cases hd; rfl
  · intro hd ρ' i1
    have : ord.zipIdx.findSome? (fun x : Nat × Nat => if x.1 = p then some (enc x.2) else none) = (spotOf ord p).map enc := by
      unfold spotOf
      rw [List.map_findSome?]
      congr 1
      funext x
      simp only [Function.comp]
      split <;> rfl
    rw [this] at hd
    refine does_return (d := datN (spotOf ord p)) ?_ rfl
    cases q : spotOf ord p with
    | none => simp [evB_z, evB_nm, evB_co, evB_bi, evB_un, evB_bo, evB_if, evB_cm, evB_su, evB_li, evB_tu, evB_ca, evB_lc, ev_z, ev_none, ev_bool, ev_int, ev_name, ev_bin, ev_neg, ev_and, ev_ife, ev_cmp, ev_cut, ev_rev, ev_ixc, ev_ixn, ev_ixu, ev_ixb, ev_lst, ev_tup, ev_call, ev_lc, datN]
    | some k => rw [q] at hd; cases hd

noncomputable def fLogicalOf : Fn := fnNo 5 lawB
theorem fnOf_lo : fnOf lawT (Str.ofString "logical_of") = some fLogicalOf := by kernel_rfl
theorem logical_of_in (n : Nat) (ord : List Nat) (k p : Nat) (hl : ord.length ≤ 1000) (h : ord[k]? = some p) : evF lawT (n + 30) fLogicalOf [encs ord, enc k] = some (enc p) := by
  have hps : fLogicalOf.params = [Str.ofString "order", Str.ofString "spot"] := by rfl
  refine evF_of hps (by conv => lhs; whnf) rfl ?_
  have g1 : isGlobal fLogicalOf.scope (Str.ofString "len") = true := by decide +kernel
  obtain ⟨hlt, _⟩ := List.getElem?_eq_some_iff.mp h
  refine does_return (d := enc p) ?_ rfl
  have e := itemOf_encs hl h
  have b := built_len (xs := ord.map enc) (by simp; omega)
  have hlt' : (k : Int) < (ord.length : Int) := by omega
  simp [evB_z, evB_nm, evB_co, evB_bi, evB_un, evB_bo, evB_if, evB_cm, evB_su, evB_li, evB_tu, evB_ca, evB_lc, ev_z, ev_none, ev_bool, ev_int, ev_name, ev_bin, ev_neg, ev_and, ev_ife, ev_cmp, ev_cut, ev_rev, ev_ixc, ev_ixn, ev_ixu, ev_ixb, ev_lst, ev_tup, ev_call, ev_lc, evT_z, evT_no, evT_bo, evT_c1, evT_c2, evT_ca, evBL_z, evBL_ni, evBL_co, look, str_inj, shOf, borrow, cp_lt, cp_le, cp_gt, cp_ge, cp_eq, cp_ne, cp_eqb, cp_neb, cp_is, cp_isnt, cp_isb, cp_isntb, cp_eql, cp_nel, g1, fn_len, b, intOf, e, hlt, plainE]
theorem logical_of_out (n : Nat) (ord : List Nat) (k : Int) (hl : ord.length ≤ 1000) (h : k < 0 ∨ (ord.length : Int) ≤ k) : evF lawT (n + 30) fLogicalOf [encs ord, .int k] = some .none := by
  have hps : fLogicalOf.params = [Str.ofString "order", Str.ofString "spot"] := by rfl
  refine evF_of hps (by conv => lhs; whnf) rfl ?_
  have g1 : isGlobal fLogicalOf.scope (Str.ofString "len") = true := by decide +kernel
  refine does_return (d := .none) ?_ rfl
  have b := built_len (xs := ord.map enc) (by simp; omega)
  by_cases h0 : 0 ≤ k
  · have h1 : ¬ k < (ord.length : Int) := by omega
    simp [evB_z, evB_nm, evB_co, evB_bi, evB_un, evB_bo, evB_if, evB_cm, evB_su, evB_li, evB_tu, evB_ca, evB_lc, ev_z, ev_none, ev_bool, ev_int, ev_name, ev_bin, ev_neg, ev_and, ev_ife, ev_cmp, ev_cut, ev_rev, ev_ixc, ev_ixn, ev_ixu, ev_ixb, ev_lst, ev_tup, ev_call, ev_lc, evT_z, evT_no, evT_bo, evT_c1, evT_c2, evT_ca, evBL_z, evBL_ni, evBL_co, look, str_inj, shOf, borrow, cp_lt, cp_le, cp_gt, cp_ge, cp_eq, cp_ne, cp_eqb, cp_neb, cp_is, cp_isnt, cp_isb, cp_isntb, cp_eql, cp_nel, g1, fn_len, b, intOf, h0, h1, plainE]
  · simp [evB_z, evB_nm, evB_co, evB_bi, evB_un, evB_bo, evB_if, evB_cm, evB_su, evB_li, evB_tu, evB_ca, evB_lc, ev_z, ev_none, ev_bool, ev_int, ev_name, ev_bin, ev_neg, ev_and, ev_ife, ev_cmp, ev_cut, ev_rev, ev_ixc, ev_ixn, ev_ixu, ev_ixb, ev_lst, ev_tup, ev_call, ev_lc, evT_z, evT_no, evT_bo, evT_c1, evT_c2, evT_ca, evBL_z, evBL_ni, evBL_co, look, str_inj, shOf, borrow, cp_lt, cp_le, cp_gt, cp_ge, cp_eq, cp_ne, cp_eqb, cp_neb, cp_is, cp_isnt, cp_isb, cp_isntb, cp_eql, cp_nel, g1, fn_len, b, intOf, h0, plainE]

noncomputable def fVisualPlaces : Fn := fnNo 3 lawB
theorem fnOf_vp : fnOf lawT (Str.ofString "visual_places") = some fVisualPlaces := by kernel_rfl
noncomputable def dato : Option Nat → PyData := datN
noncomputable def spotsFold (many : Nat) (ord : List (Nat × Nat)) : List (Option Nat) := ord.foldl (fun f x => f.set x.1 (some x.2)) (List.replicate many none)
theorem spotsFold_length (many : Nat) (ord : List (Nat × Nat)) : (spotsFold many ord).length = many := by
  have : ∀ (ord : List (Nat × Nat)) (f : List (Option Nat)), (ord.foldl (fun f x => f.set x.1 (some x.2)) f).length = f.length := fun ord => by
    induction ord with
    | nil => intro f; rfl
    | cons x r ih => intro f; rw [List.foldl_cons, ih]; simp
  rw [spotsFold, this]; simp
theorem visual_places_ok (n : Nat) (ord : List Nat) (many : Nat) (hl : ord.length ≤ 1000) (hm : many ≤ 1000) (hp : ∀ p ∈ ord, p < many) :
    evF lawT (n + 30) fVisualPlaces [encs ord, enc many] = some (.list ((spotsFold many ord.zipIdx).map datN)) := by
  have hps : fVisualPlaces.params = [Str.ofString "order", Str.ofString "many"] := by rfl
  refine evF_of hps (by conv => lhs; whnf) rfl ?_
  have s1 : storable fVisualPlaces.scope (Str.ofString "spot") = true := by decide +kernel
  have s2 : storable fVisualPlaces.scope (Str.ofString "place") = true := by decide +kernel
  have s3 : storable fVisualPlaces.scope (Str.ofString "found") = true := by decide +kernel
  have g1 : isGlobal fVisualPlaces.scope (Str.ofString "enumerate") = true := by decide +kernel
  refine does_assign s3 (s := .own (List.replicate many .none)) ?_ ?_
  · have hm' : many ≤ 1048576 := by omega
    simp [evG_z, evG_eq, made_ni, made_mu, made_ca, made_lc, made_su, made_if, made_co, made_bn, made_bb, ev_z, ev_none, ev_bool, ev_int, ev_name, ev_bin, ev_neg, ev_and, ev_ife, ev_cmp, ev_cut, ev_rev, ev_ixc, ev_ixn, ev_ixu, ev_ixb, ev_lst, ev_tup, ev_call, ev_lc, evB_z, evB_nm, evB_co, evB_bi, evB_un, evB_bo, evB_if, evB_cm, evB_su, evB_li, evB_tu, evB_ca, evB_lc, evL_z, evL_ni, evL_co, look, str_inj, borrow, ar_add, ar_sub, ar_mul, ar_mod, ar_div, ar_cat, ar_rep, hm', allFlat, flat, List.all_replicate]
  refine does_for (I := fun pre ρ => look ρ (Str.ofString "order") = some (.sh (encs ord)) ∧ look ρ (Str.ofString "found") = some (.own ((spotsFold many pre).map datN))) (enc := fun (x : Nat × Nat) => .tuple [enc x.2, enc x.1]) (items := ord.zipIdx)
    (by simp [targetSt, s1, s2]) ?_ ?_ ?_ ?_
  · rw [← pairsFrom_map]
    exact evI_enum g1 (by simp [ev_z, ev_none, ev_bool, ev_int, ev_name, ev_bin, ev_neg, ev_and, ev_ife, ev_cmp, ev_cut, ev_rev, ev_ixc, ev_ixn, ev_ixu, ev_ixb, ev_lst, ev_tup, ev_call, ev_lc, look_put', look, str_inj, shOf]) (by simp; omega)
  · simp [look_put', look, str_inj, spotsFold, datN]
  · rintro p ⟨a, k⟩ r ρ e ⟨i1, i2⟩
    have hmem : (a, k) ∈ ord.zipIdx := by rw [e]; simp
    have ha : a < many := hp a (by have := (List.mem_zipIdx' hmem).2; rw [this]; exact List.getElem_mem _)
    have hlen := spotsFold_length many p
    refine ⟨_, rfl, does_setitem (d := enc k) (xs := (spotsFold many p).map datN) (k := (a : Int)) (j := a) (by simp [ev_z, ev_none, ev_bool, ev_int, ev_name, ev_bin, ev_neg, ev_and, ev_ife, ev_cmp, ev_cut, ev_rev, ev_ixc, ev_ixn, ev_ixu, ev_ixb, ev_lst, ev_tup, ev_call, ev_lc, look_put', str_inj, shOf]) (by simp [look_put', str_inj, i2]) (by simp [ev_z, ev_none, ev_bool, ev_int, ev_name, ev_bin, ev_neg, ev_and, ev_ife, ev_cmp, ev_cut, ev_rev, ev_ixc, ev_ixn, ev_ixu, ev_ixb, ev_lst, ev_tup, ev_call, ev_lc, look_put', str_inj, shOf]) (by simp; omega) (by rw [List.length_map, hlen]; exact placeIn_nat ha) (does_nil ⟨rfl, ?_⟩)⟩
    simp [look_put', str_inj, i1, i2, spotsFold, List.foldl_append, datN]
  · rintro ρ ⟨i1, i2⟩
    exact does_return (by simp [evB_z, evB_nm, evB_co, evB_bi, evB_un, evB_bo, evB_if, evB_cm, evB_su, evB_li, evB_tu, evB_ca, evB_lc, i2, borrow]) rfl
end Mine

namespace Mine
open PySem

/-! ### a loop that leaves with one answer if something is amiss -/
theorem forL_check {β : Type} {body : Vars → Option (Fl × Vars)} {bind : Vars → PyData → Option Vars} (d : PyData) (I : List β → Vars → Prop) (ok : List β → β → Prop) (enc : β → PyData) : ∀ (items pre : List β) (ρ : Vars), I pre ρ →
    (∀ p x r ρ, pre ++ items = p ++ x :: r → I p ρ → ∃ ρ₁ fl ρ₂, bind ρ (enc x) = some ρ₁ ∧ body ρ₁ = some (fl, ρ₂) ∧ ((fl = .next ∧ ok p x ∧ I (p ++ [x]) ρ₂) ∨ (fl = .ret d ∧ ¬ ok p x))) →
    ∃ fl ρ', forL body bind ρ (items.map enc) = some (fl, ρ') ∧ ((fl = .next ∧ I (pre ++ items) ρ' ∧ ∀ p x r, items = p ++ x :: r → ok (pre ++ p) x) ∨ (fl = .ret d ∧ ∃ p x r, items = p ++ x :: r ∧ ¬ ok (pre ++ p) x))
  | [], pre, ρ, h, _ => ⟨.next, ρ, rfl, .inl ⟨rfl, by simpa using h, fun p x r e => by simp at e⟩⟩
  | x :: r, pre, ρ, h, st => by
    obtain ⟨ρ₁, fl, ρ₂, h1, h2, h3⟩ := st pre x r ρ rfl h
    rcases h3 with ⟨rfl, h4, h5⟩ | ⟨rfl, h4⟩
    · obtain ⟨fl, ρ', h6, h7⟩ := forL_check d I ok enc r (pre ++ [x]) ρ₂ h5 fun p y r' ρ e => st p y r' ρ (by rw [← e]; simp)
      refine ⟨fl, ρ', by simp [forL, h1, h2, h6], ?_⟩
      rcases h7 with ⟨rfl, h8, h9⟩ | ⟨rfl, p, y, r', e, h9⟩
      · refine .inl ⟨rfl, by simpa using h8, fun p y r' e => ?_⟩
        cases p with
        | nil => simp at e; rw [← e.1]; simpa using h4
        | cons z p =>
          simp only [List.cons_append, List.cons.injEq] at e
          have := h9 p y r' e.2
          rw [← e.1]; simpa using this
      · exact .inr ⟨rfl, x :: p, y, r', by rw [e]; rfl, by simpa using h9⟩
    · exact ⟨.ret d, ρ₂, by simp [forL, h1, h2], .inr ⟨rfl, [], x, r, rfl, by simpa using h4⟩⟩
theorem does_for_check {T : Tbl} {n : Nat} {sc : Scope} {ρ : Vars} {rest : List Stmt} {Q : Fl → Vars → Prop} {β : Type} {target iter : Expr} {body : List Stmt} {pos : Pos} (d : PyData) (I : List β → Vars → Prop) (ok : List β → β → Prop) (enc : β → PyData) (items : List β)
    (ht : targetSt sc target = true) (hi : evI T n sc ρ iter target = some (items.map enc)) (h0 : I [] ρ)
    (st : ∀ p x r ρ, items = p ++ x :: r → I p ρ → ∃ ρ₁, bindT ρ target (enc x) = some ρ₁ ∧ Does T n sc ρ₁ body (fun fl ρ₂ => (fl = .next ∧ ok p x ∧ I (p ++ [x]) ρ₂) ∨ (fl = .ret d ∧ ¬ ok p x)))
    (k1 : (∃ p x r, items = p ++ x :: r ∧ ¬ ok p x) → ∀ ρ', Q (.ret d) ρ') (k : (∀ p x r, items = p ++ x :: r → ok p x) → ∀ ρ', I items ρ' → Does T (n + 1) sc ρ' rest Q) : Does T (n + 2) sc ρ (.For target iter body [] pos :: rest) Q := by
  obtain ⟨fl, ρ', h1, h2⟩ := forL_check (body := fun ρ => evSs T n sc ρ body) (bind := fun ρ d => bindT ρ target d) d I ok enc items [] ρ h0 fun p x r ρ hx hI => by
    obtain ⟨ρ₁, e1, fl, ρ₂, e2, e3⟩ := st p x r ρ hx hI
    exact ⟨ρ₁, fl, ρ₂, e1, e2, e3⟩
  refine does_cons (fl := fl) (ρ₁ := ρ') (by simp [evS_z, evS_as, evS_pa, evS_it, evS_me, evS_if, evS_fo, evS_re, ht, hi, h1]) ?_
  rcases h2 with ⟨rfl, h3, h4⟩ | ⟨rfl, h3⟩
  · exact k (by simpa using h4) ρ' (by simpa using h3)
  · exact k1 (by simpa using h3) ρ'

/-! ### the least level from a place to another -/
noncomputable section
open Classical
noncomputable def leastTo (lv : List (Option Int)) (a : Nat) : Nat → Int
  | 0 => val lv a
  | j + 1 => if Has lv (a + 1 + j) then (if val lv (a + 1 + j) < leastTo lv a j then val lv (a + 1 + j) else leastTo lv a j) else leastTo lv a j
noncomputable def mn (lv : List (Option Int)) (a b : Nat) : Int := leastTo lv a (b - a)
end
theorem leastTo_le (lv : List (Option Int)) (a : Nat) (ha : Has lv a) : ∀ (j c : Nat), a ≤ c → c ≤ a + j → Has lv c → leastTo lv a j ≤ val lv c
  | 0, c, h1, h2, hc => by
    have : c = a := by omega
    subst this; exact Int.le_refl _
  | j + 1, c, h1, h2, hc => by
    unfold leastTo
    by_cases e : c = a + 1 + j
    · subst e
      rw [if_pos hc]; split <;> omega
    · have := leastTo_le lv a ha j c h1 (by omega) hc
      split
      · split <;> omega
      · exact this
theorem leastTo_mem (lv : List (Option Int)) (a : Nat) (ha : Has lv a) : ∀ j, ∃ c, a ≤ c ∧ c ≤ a + j ∧ Has lv c ∧ leastTo lv a j = val lv c
  | 0 => ⟨a, Nat.le_refl _, by omega, ha, rfl⟩
  | j + 1 => by
    obtain ⟨c, h1, h2, h3, h4⟩ := leastTo_mem lv a ha j
    unfold leastTo
    split
    · rename_i hk
      split
      · exact ⟨a + 1 + j, by omega, by omega, hk, rfl⟩
      · exact ⟨c, h1, by omega, h3, h4⟩
    · exact ⟨c, h1, by omega, h3, h4⟩
theorem mn_le {lv : List (Option Int)} {a b c : Nat} (ha : Has lv a) (h1 : a ≤ c) (h2 : c ≤ b) (hc : Has lv c) : mn lv a b ≤ val lv c := leastTo_le lv a ha _ c h1 (by omega) hc
theorem mn_mem {lv : List (Option Int)} {a b : Nat} (ha : Has lv a) (hab : a ≤ b) : ∃ c, a ≤ c ∧ c ≤ b ∧ Has lv c ∧ mn lv a b = val lv c := by
  obtain ⟨c, h1, h2, h3, h4⟩ := leastTo_mem lv a ha (b - a)
  exact ⟨c, h1, by omega, h3, h4⟩
theorem mn_unique {lv : List (Option Int)} {a b : Nat} {v : Int} (ha : Has lv a) (hab : a ≤ b) (h1 : ∀ c, a ≤ c → c ≤ b → Has lv c → v ≤ val lv c) (h2 : ∃ c, a ≤ c ∧ c ≤ b ∧ Has lv c ∧ v = val lv c) : v = mn lv a b := by
  obtain ⟨c, c1, c2, c3, c4⟩ := h2
  obtain ⟨d, d1, d2, d3, d4⟩ := mn_mem ha hab
  have := h1 d d1 d2 d3
  have := mn_le ha c1 c2 c3
  omega

/-- where a place stands -/
theorem foldSet_off (p : Nat) : ∀ (ord : List (Nat × Nat)) (f : List (Option Nat)), (∀ x ∈ ord, x.1 ≠ p) → (ord.foldl (fun f x => f.set x.1 (some x.2)) f)[p]? = f[p]?
  | [], f, _ => rfl
  | x :: r, f, h => by
    rw [List.foldl_cons, foldSet_off p r _ fun y hy => h y (List.mem_cons_of_mem _ hy), List.getElem?_set_ne (h x List.mem_cons_self)]
theorem foldSet_on (p : Nat) : ∀ (ord : List Nat) (s k : Nat) (f : List (Option Nat)), ord.Nodup → p < f.length → ord[k]? = some p → ((ord.zipIdx s).foldl (fun f x => f.set x.1 (some x.2)) f)[p]? = some (some (s + k))
  | [], s, k, f, nd, hp, h => by simp at h
  | x :: r, s, 0, f, nd, hp, h => by
    simp at h; subst h
    rw [List.zipIdx_cons, List.foldl_cons, foldSet_off x]
    · simp [hp]
    · rintro ⟨y, i⟩ hy e
      simp at e; subst e
      have := List.fst_mem_of_mem_zipIdx hy
      exact (List.nodup_cons.mp nd).1 this
  | x :: r, s, k + 1, f, nd, hp, h => by
    rw [List.zipIdx_cons, List.foldl_cons, foldSet_on p r (s + 1) k _ (List.nodup_cons.mp nd).2 (by simpa using hp) (by simpa using h)]
    congr 2; omega
theorem spots_at {many : Nat} {ord : List Nat} {p : Nat} (nd : ord.Nodup) (hm : p ∈ ord) (hp : p < many) : (spotsFold many ord.zipIdx)[p]? = some (some (ord.idxOf p)) := by
  have h := foldSet_on p ord 0 (ord.idxOf p) (List.replicate many none) nd (by simpa using hp) (by
    rw [List.getElem?_eq_getElem (List.idxOf_lt_length_of_mem hm), List.getElem_idxOf])
  simpa [spotsFold] using h
end Mine

namespace Mine
open PySem

noncomputable def OkPair (lv : List (Option Int)) (ord : List Nat) (a b : Nat) : Prop := (ord.idxOf a < ord.idxOf b) ↔ (mn lv a b).fmod 2 = 0
noncomputable def AllOkPairs (lv : List (Option Int)) (ord : List Nat) : Prop := ∀ a b, a < b → Has lv a → Has lv b → OkPair lv ord a b

noncomputable def fIsOrder : Fn := fnNo 2 lawB
theorem fnOf_io : fnOf lawT (Str.ofString "is_order_of") = some fIsOrder := by kernel_rfl

theorem places_nodup (lv : List (Option Int)) : (places lv).Nodup := List.Pairwise.filter _ List.nodup_range
theorem places_sorted (lv : List (Option Int)) : (places lv).Pairwise (· < ·) := List.Pairwise.filter _ List.pairwise_lt_range
theorem has_lt {lv : List (Option Int)} {p : Nat} (h : Has lv p) : p < lv.length := (List.getElem?_eq_some_iff.mp h).1
theorem notHas {lv : List (Option Int)} {p : Nat} (hp : p < lv.length) (h : ¬ Has lv p) : lv[p]? = some none := by
  rw [List.getElem?_eq_getElem hp]
  cases q : lv[p] with
  | none => rfl
  | some v =>
    refine absurd ?_ h
    unfold Has val
    rw [List.getElem?_eq_getElem hp, q]; rfl
theorem isSome_has {lv : List (Option Int)} {p : Nat} : ((lv[p]?).getD none).isSome = true ↔ Has lv p := by
  unfold Has val
  cases q : lv[p]? with
  | none => simp
  | some o => cases o <;> simp

section
variable {ρ : Vars} {n : Nat} {csc : Scope}
/-- the list of places, as a comprehension computes it -/
theorem ev_places {sc : Scope} {elt iter target : Expr} {ifs : List Expr} {pos : Pos} (lv : List (Option Int)) (hl : lv.length ≤ 20) (hO : compOk sc csc target = true) (h1 : evI lawT n sc ρ iter target = some ((List.range lv.length).map enc))
    (h : ∀ x, x < lv.length → ∃ ρ', bindT (freeOf csc ρ) target (enc x) = some ρ' ∧ evTs lawT n csc ρ' ifs = some (((lv[x]?).getD none).isSome) ∧ ev lawT n csc ρ' elt = some (enc x)) :
    ev lawT (n + 1) sc ρ (.ListComp elt [⟨target, iter, ifs, 0⟩] csc pos) = some (encs (places lv)) := by
  refine ev_compM enc (List.range lv.length) (fun p => ((lv[p]?).getD none).isSome) enc hO h1 rfl fun x hx => ?_
  obtain ⟨ρ', h2, h3, h4⟩ := h x (List.mem_range.mp hx)
  exact ⟨ρ', h2, h3, fun _ => h4⟩
end

theorem sorted_encs {ord : List Nat} (h : ord.length < 64) : sorted (ord.map enc) = some ((sortI (ord.map fun (p : Nat) => (p : Int))).map .int) := by
  have e : ord.map enc = (ord.map fun (p : Nat) => (p : Int)).map PyData.int := by rw [List.map_map]; rfl
  have h' : (ord.map enc).length < 64 := by simpa using h
  simp only [sorted, h', if_true]
  rw [e, intsOf_ints]

theorem is_order_ok (n : Nat) (lv : List (Option Int)) (ord : List Nat) (hl : lv.length ≤ 20) (ho : ord.length < 64) :
    (sortI (ord.map fun (p : Nat) => (p : Int)) ≠ (places lv).map (fun (p : Nat) => (p : Int)) → evF lawT (n + 80) fIsOrder [encs ord, dats lv] = some (.bool false)) ∧
    (ord.Perm (places lv) → sortI (ord.map fun (p : Nat) => (p : Int)) = (places lv).map (fun (p : Nat) => (p : Int)) → ∃ r, evF lawT (n + 80) fIsOrder [encs ord, dats lv] = some (.bool r) ∧ (r = true ↔ AllOkPairs lv ord)) := by
  have hps : fIsOrder.params = [Str.ofString "order", Str.ofString "levels"] := by rfl
  have s1 : storable fIsOrder.scope (Str.ofString "spots") = true := by decide +kernel
  have s2 : storable fIsOrder.scope (Str.ofString "one") = true := by decide +kernel
  have s3 : storable fIsOrder.scope (Str.ofString "least") = true := by decide +kernel
  have s4 : storable fIsOrder.scope (Str.ofString "other") = true := by decide +kernel
  have g1 : isGlobal fIsOrder.scope (Str.ofString "range") = true := by decide +kernel
  have g2 : isGlobal fIsOrder.scope (Str.ofString "len") = true := by decide +kernel
  have g3 : isGlobal fIsOrder.scope (Str.ofString "sorted") = true := by decide +kernel
  have g4 : isGlobal fIsOrder.scope (Str.ofString "min") = true := by decide +kernel
  have g5 : isGlobal fIsOrder.scope (Str.ofString "visual_places") = true := by decide +kernel
  have main : ∀ (P : PyData → Prop), (sortI (ord.map fun (p : Nat) => (p : Int)) ≠ (places lv).map (fun (p : Nat) => (p : Int)) → P (.bool false)) →
      (sortI (ord.map fun (p : Nat) => (p : Int)) = (places lv).map (fun (p : Nat) => (p : Int)) → ord.Perm (places lv) ∧ (AllOkPairs lv ord → P (.bool true)) ∧ (¬ AllOkPairs lv ord → P (.bool false))) →
      ∃ d, evF lawT (n + 80) fIsOrder [encs ord, dats lv] = some d ∧ P d := by
    intro P k1 k2
    have fin : ∀ {body : List Stmt}, fIsOrder.body = body → Does lawT (n + 79) fIsOrder.scope ([Str.ofString "order", Str.ofString "levels"].zip ([encs ord, dats lv].map .sh)) body (fun fl _ => ∃ d, fl = .ret d ∧ P d) → ∃ d, evF lawT (n + 80) fIsOrder [encs ord, dats lv] = some d ∧ P d := by
      rintro body hb ⟨fl, ρ', h1, d, rfl, h2⟩
      exact ⟨d, evF_of hps hb rfl ⟨_, ρ', h1, rfl⟩, h2⟩
    refine fin (by conv => lhs; whnf) ?_
    refine does_if (b := decide (sortI (ord.map fun (p : Nat) => (p : Int)) ≠ (places lv).map (fun (p : Nat) => (p : Int)))) ?_ ?_ ?_
    · simp only [evT_z, evT_no, evT_bo, evT_c1, evT_c2, evT_ca, evB_z, evB_nm, evB_co, evB_bi, evB_un, evB_bo, evB_if, evB_cm, evB_su, evB_li, evB_tu, evB_ca, evB_lc]
      rw [ev_built (ds := [encs ord]) g3 fn_sorted (by simp [evBL_z, evBL_ni, evBL_co, evB_z, evB_nm, evB_co, evB_bi, evB_un, evB_bo, evB_if, evB_cm, evB_su, evB_li, evB_tu, evB_ca, evB_lc, look, str_inj, borrow]), built_sorted, sorted_encs ho]
      rw [ev_places lv hl (by kernel_rfl)]
      · simp only [Option.map_some, Option.bind_some]
        refine ne_lists (ints_tame _) (encs_tame _) ?_
        have e : (places lv).map enc = ((places lv).map fun (p : Nat) => (p : Int)).map PyData.int := by rw [List.map_map]; rfl
        rw [e]
        simp only [decide_eq_true_eq, ne_eq, int_inj]
      · refine evI_range (ds := [.int (lv.length : Int)]) g1 ?_ (rangeOf_one (by omega))
        simp only [evBL_z, evBL_ni, evBL_co, evB_z, evB_nm, evB_co, evB_bi, evB_un, evB_bo, evB_if, evB_cm, evB_su, evB_li, evB_tu, evB_ca, evB_lc, Option.bind_some, Option.map_some]
        rw [ev_built (ds := [dats lv]) g2 fn_len (by simp [evBL_z, evBL_ni, evBL_co, evB_z, evB_nm, evB_co, evB_bi, evB_un, evB_bo, evB_if, evB_cm, evB_su, evB_li, evB_tu, evB_ca, evB_lc, look, str_inj, borrow]), built_len (by simp; omega)]
        simp
      · intro x hx
        have e := itemOf_dats (lv := lv) (p := x) (by omega) (List.getElem?_eq_getElem hx)
        refine ⟨_, rfl, ?_, by simp [ev_z, ev_none, ev_bool, ev_int, ev_name, ev_bin, ev_neg, ev_and, ev_ife, ev_cmp, ev_cut, ev_rev, ev_ixc, ev_ixn, ev_ixu, ev_ixb, ev_lst, ev_tup, ev_call, ev_lc, look_put', shOf]⟩
        simp [evTs_z, evTs_ni, evTs_on, evT_z, evT_no, evT_bo, evT_c1, evT_c2, evT_ca, evB_z, evB_nm, evB_co, evB_bi, evB_un, evB_bo, evB_if, evB_cm, evB_su, evB_li, evB_tu, evB_ca, evB_lc, ev_z, ev_none, ev_bool, ev_int, ev_name, ev_bin, ev_neg, ev_and, ev_ife, ev_cmp, ev_cut, ev_rev, ev_ixc, ev_ixn, ev_ixu, ev_ixb, ev_lst, ev_tup, ev_call, ev_lc, look_put', look_freeOf, kindIn, look, str_inj, borrow, shOf, intOf, e, cp_lt, cp_le, cp_gt, cp_ge, cp_eq, cp_ne, cp_eqb, cp_neb, cp_is, cp_isnt, cp_isb, cp_isntb, cp_eql, cp_nel, List.getElem?_eq_getElem hx]
        cases lv[x] <;> rfl
    · intro hb
      exact does_return (d := .bool false) (by simp [evB_z, evB_nm, evB_co, evB_bi, evB_un, evB_bo, evB_if, evB_cm, evB_su, evB_li, evB_tu, evB_ca, evB_lc, ev_z, ev_none, ev_bool, ev_int, ev_name, ev_bin, ev_neg, ev_and, ev_ife, ev_cmp, ev_cut, ev_rev, ev_ixc, ev_ixn, ev_ixu, ev_ixb, ev_lst, ev_tup, ev_call, ev_lc]) ⟨_, rfl, k1 (by simpa using hb)⟩
    · intro hb
      obtain ⟨hperm, k3, k4⟩ := k2 (by simpa using hb)
      have hnd : ord.Nodup := hperm.nodup_iff.mpr (places_nodup lv)
      have hmem : ∀ p, p ∈ ord ↔ Has lv p := fun p => hperm.mem_iff.trans mem_places
      have hlt : ∀ p ∈ ord, p < lv.length := fun p hp => has_lt ((hmem p).mp hp)
      have hsp : ∀ p, Has lv p → (spotsFold lv.length ord.zipIdx)[p]? = some (some (ord.idxOf p)) := fun p hp => spots_at hnd ((hmem p).mpr hp) (has_lt hp)
      have hsl := spotsFold_length lv.length ord.zipIdx
      have itemSpot : ∀ p, Has lv p → itemOf (.list ((spotsFold lv.length ord.zipIdx).map datN)) (p : Int) = some (enc (ord.idxOf p)) := fun p hp => by
        simp only [itemOf, List.length_map]
        rw [if_pos (by omega), hsl, placeIn_nat (has_lt hp), Option.bind_some, List.getElem?_map, hsp p hp]; rfl
      refine does_nil ?_
      refine does_assign s1 (s := .sh (.list ((spotsFold lv.length ord.zipIdx).map datN))) ?_ ?_
      · simp only [evG_z, evG_eq, made_ni, made_mu, made_ca, made_lc, made_su, made_if, made_co, made_bn, made_bb, Bool.false_eq_true, if_false]
        rw [ev_fn (ds := [encs ord, enc lv.length]) g5 fnOf_vp, visual_places_ok _ ord lv.length (by omega) (by omega) hlt]
        · rfl
        · simp only [evL_z, evL_ni, evL_co]
          rw [ev_built (ds := [dats lv]) g2 fn_len (by simp [evBL_z, evBL_ni, evBL_co, evB_z, evB_nm, evB_co, evB_bi, evB_un, evB_bo, evB_if, evB_cm, evB_su, evB_li, evB_tu, evB_ca, evB_lc, look, str_inj, borrow]), built_len (by simp; omega)]
          simp [ev_z, ev_none, ev_bool, ev_int, ev_name, ev_bin, ev_neg, ev_and, ev_ife, ev_cmp, ev_cut, ev_rev, ev_ixc, ev_ixn, ev_ixu, ev_ixb, ev_lst, ev_tup, ev_call, ev_lc, look, str_inj, shOf]
      refine does_for_check (.bool false) (fun _ ρ => look ρ (Str.ofString "levels") = some (.sh (dats lv)) ∧ look ρ (Str.ofString "spots") = some (.sh (.list ((spotsFold lv.length ord.zipIdx).map datN))))
        (fun _ one => ∀ x, one < x → Has lv one → Has lv x → OkPair lv ord one x) enc (List.range lv.length) (by simp [targetSt, s2]) ?_ ?_ ?_ ?_ ?_
      · refine evI_range (ds := [.int (lv.length : Int)]) g1 ?_ (rangeOf_one (by omega))
        simp only [evBL_z, evBL_ni, evBL_co, evB_z, evB_nm, evB_co, evB_bi, evB_un, evB_bo, evB_if, evB_cm, evB_su, evB_li, evB_tu, evB_ca, evB_lc, Option.bind_some, Option.map_some]
        rw [ev_built (ds := [dats lv]) g2 fn_len (by simp [evBL_z, evBL_ni, evBL_co, evB_z, evB_nm, evB_co, evB_bi, evB_un, evB_bo, evB_if, evB_cm, evB_su, evB_li, evB_tu, evB_ca, evB_lc, look_put', look, str_inj, borrow]), built_len (by simp; omega)]
        simp
      · simp [look_put', look, str_inj]
      · rintro p one r ρ e ⟨i1, i2⟩
        have hone : one < lv.length := by
          have : one ∈ List.range lv.length := by rw [e]; simp
          exact List.mem_range.mp this
        have eone := itemOf_dats (lv := lv) (p := one) (by omega) (List.getElem?_eq_getElem hone)
        refine ⟨_, rfl, ?_⟩
        refine does_assign s3 (s := .sh (dat lv[one])) ?_ ?_
        · simp [evG_z, evG_eq, made_ni, made_mu, made_ca, made_lc, made_su, made_if, made_co, made_bn, made_bb, ev_z, ev_none, ev_bool, ev_int, ev_name, ev_bin, ev_neg, ev_and, ev_ife, ev_cmp, ev_cut, ev_rev, ev_ixc, ev_ixn, ev_ixu, ev_ixb, ev_lst, ev_tup, ev_call, ev_lc, evB_z, evB_nm, evB_co, evB_bi, evB_un, evB_bo, evB_if, evB_cm, evB_su, evB_li, evB_tu, evB_ca, evB_lc, look_put', str_inj, i1, borrow, shOf, intOf, eone]
        have hdat : Has lv one → lv[one] = some (val lv one) := fun h => by
          have := List.getElem?_eq_getElem hone
          rw [h] at this; exact (Option.some.inj this).symm
        have hdat' : ¬ Has lv one → lv[one] = none := fun h => by
          have := List.getElem?_eq_getElem hone
          rw [notHas hone h] at this; exact (Option.some.inj this).symm
        by_cases hh : Has lv one
        · have hv := hdat hh
          refine does_for_check (.bool false) (fun pre ρ => look ρ (Str.ofString "levels") = some (.sh (dats lv)) ∧ look ρ (Str.ofString "spots") = some (.sh (.list ((spotsFold lv.length ord.zipIdx).map datN))) ∧ look ρ (Str.ofString "one") = some (.sh (enc one)) ∧
              look ρ (Str.ofString "least") = some (.sh (.int (leastTo lv one pre.length))))
            (fun _ x => Has lv x → OkPair lv ord one x) enc (List.range' (one + 1) (lv.length - (one + 1))) (by simp [targetSt, s4]) ?_ ?_ ?_ ?_ ?_
          · refine evI_range (ds := [enc (one + 1), enc lv.length]) g1 ?_ (rangeOf_two (by omega) (by omega))
            have hl2 := built_len (xs := lv.map dat) (by simp; omega)
            simp [evBL_z, evBL_ni, evBL_co, evB_z, evB_nm, evB_co, evB_bi, evB_un, evB_bo, evB_if, evB_cm, evB_su, evB_li, evB_tu, evB_ca, evB_lc, ev_z, ev_none, ev_bool, ev_int, ev_name, ev_bin, ev_neg, ev_and, ev_ife, ev_cmp, ev_cut, ev_rev, ev_ixc, ev_ixn, ev_ixu, ev_ixb, ev_lst, ev_tup, ev_call, ev_lc, evT_z, evT_no, evT_bo, evT_c1, evT_c2, evT_ca, look_put', str_inj, i1, borrow, shOf, intOf, ar_add, ar_sub, ar_mul, ar_mod, ar_div, ar_cat, ar_rep, hv, dat, cp_lt, cp_le, cp_gt, cp_ge, cp_eq, cp_ne, cp_eqb, cp_neb, cp_is, cp_isnt, cp_isb, cp_isntb, cp_eql, cp_nel, isNone, g2, fn_len, hl2, plainE]
          · simp [look_put', str_inj, i1, i2, leastTo, hv, dat]
          · rintro q x r' ρ' e' ⟨j1, j2, j3, j4⟩
            have hx : x = one + 1 + q.length ∧ x < lv.length := by
              have h1 : (List.range' (one + 1) (lv.length - (one + 1)))[q.length]? = some x := by rw [e']; simp
              obtain ⟨h2, h3⟩ := List.getElem?_eq_some_iff.mp h1
              simp at h2 h3
              omega
            have ex := itemOf_dats (lv := lv) (p := x) (by omega) (List.getElem?_eq_getElem hx.2)
            refine ⟨_, rfl, ?_⟩
            by_cases hhx : Has lv x
            · have hvx : lv[x] = some (val lv x) := by
                have := List.getElem?_eq_getElem hx.2
                rw [hhx] at this; exact (Option.some.inj this).symm
              have hmn : leastTo lv one (q.length + 1) = mn lv one x := by
                unfold mn
                congr 1; omega
              have hle : leastTo lv one (q.length + 1) = if val lv x < leastTo lv one q.length then val lv x else leastTo lv one q.length := by
                conv => lhs; unfold leastTo
                rw [← hx.1, if_pos hhx]
              refine does_if (b := true) ?_ (fun _ => ?_) (fun h => by cases h)
              · simp [evT_z, evT_no, evT_bo, evT_c1, evT_c2, evT_ca, evB_z, evB_nm, evB_co, evB_bi, evB_un, evB_bo, evB_if, evB_cm, evB_su, evB_li, evB_tu, evB_ca, evB_lc, ev_z, ev_none, ev_bool, ev_int, ev_name, ev_bin, ev_neg, ev_and, ev_ife, ev_cmp, ev_cut, ev_rev, ev_ixc, ev_ixn, ev_ixu, ev_ixb, ev_lst, ev_tup, ev_call, ev_lc, look_put', str_inj, j1, borrow, shOf, intOf, ex, hvx, dat, cp_lt, cp_le, cp_gt, cp_ge, cp_eq, cp_ne, cp_eqb, cp_neb, cp_is, cp_isnt, cp_isb, cp_isntb, cp_eql, cp_nel, isNone]
              refine does_assign s3 (s := .sh (.int (mn lv one x))) ?_ ?_
              · simp only [evG_z, evG_eq, made_ni, made_mu, made_ca, made_lc, made_su, made_if, made_co, made_bn, made_bb, Bool.false_eq_true, if_false]
                rw [ev_built (ds := [.int (leastTo lv one q.length), .int (val lv x)]) g4 fn_min, built_min2, ← hle, hmn]
                · rfl
                · simp [evBL_z, evBL_ni, evBL_co, evB_z, evB_nm, evB_co, evB_bi, evB_un, evB_bo, evB_if, evB_cm, evB_su, evB_li, evB_tu, evB_ca, evB_lc, ev_z, ev_none, ev_bool, ev_int, ev_name, ev_bin, ev_neg, ev_and, ev_ife, ev_cmp, ev_cut, ev_rev, ev_ixc, ev_ixn, ev_ixu, ev_ixb, ev_lst, ev_tup, ev_call, ev_lc, look_put', str_inj, j1, j4, borrow, shOf, intOf, ex, hvx, dat]
              have is1 := itemSpot one hh
              have is2 := itemSpot x hhx
              refine does_if (b := (decide (ord.idxOf one < ord.idxOf x) != ((mn lv one x).fmod 2 == 0))) ?_ ?_ ?_
              · simp [evT_z, evT_no, evT_bo, evT_c1, evT_c2, evT_ca, evB_z, evB_nm, evB_co, evB_bi, evB_un, evB_bo, evB_if, evB_cm, evB_su, evB_li, evB_tu, evB_ca, evB_lc, ev_z, ev_none, ev_bool, ev_int, ev_name, ev_bin, ev_neg, ev_and, ev_ife, ev_cmp, ev_cut, ev_rev, ev_ixc, ev_ixn, ev_ixu, ev_ixb, ev_lst, ev_tup, ev_call, ev_lc, look_put', str_inj, j2, j3, borrow, shOf, intOf, is1, is2, cp_lt, cp_le, cp_gt, cp_ge, cp_eq, cp_ne, cp_eqb, cp_neb, cp_is, cp_isnt, cp_isb, cp_isntb, cp_eql, cp_nel, ar_add, ar_sub, ar_mul, ar_mod, ar_div, ar_cat, ar_rep]
              · intro hb
                refine does_return (d := .bool false) (by simp [evB_z, evB_nm, evB_co, evB_bi, evB_un, evB_bo, evB_if, evB_cm, evB_su, evB_li, evB_tu, evB_ca, evB_lc, ev_z, ev_none, ev_bool, ev_int, ev_name, ev_bin, ev_neg, ev_and, ev_ife, ev_cmp, ev_cut, ev_rev, ev_ixc, ev_ixn, ev_ixu, ev_ixb, ev_lst, ev_tup, ev_call, ev_lc]) (.inr ⟨rfl, fun hok => ?_⟩)
                have := hok hhx
                unfold OkPair at this
                simp only [bne_iff_ne, ne_eq] at hb
                apply hb
                by_cases h1 : ord.idxOf one < ord.idxOf x
                · have h2 := this.mp h1; simp [h1, h2]
                · have h2 : ¬ (mn lv one x).fmod 2 = 0 := fun h => h1 (this.mpr h)
                  simp [h1, h2]
              · intro hb
                refine does_nil (does_nil (does_nil (.inl ⟨rfl, fun _ => ?_, ?_⟩)))
                · unfold OkPair
                  simp only [bne_eq_false_iff_eq] at hb
                  by_cases h1 : ord.idxOf one < ord.idxOf x
                  · simp only [h1, decide_true, true_iff] at hb ⊢
                    simpa using hb.symm
                  · simp only [h1, decide_false, false_iff] at hb ⊢
                    simpa using hb.symm
                · simp [look_put', str_inj, j1, j2, j3, hmn]
            · have hvx : lv[x] = none := by
                have := List.getElem?_eq_getElem hx.2
                rw [notHas hx.2 hhx] at this; exact (Option.some.inj this).symm
              refine does_if (b := false) ?_ (fun h => by cases h) (fun _ => ?_)
              · simp [evT_z, evT_no, evT_bo, evT_c1, evT_c2, evT_ca, evB_z, evB_nm, evB_co, evB_bi, evB_un, evB_bo, evB_if, evB_cm, evB_su, evB_li, evB_tu, evB_ca, evB_lc, ev_z, ev_none, ev_bool, ev_int, ev_name, ev_bin, ev_neg, ev_and, ev_ife, ev_cmp, ev_cut, ev_rev, ev_ixc, ev_ixn, ev_ixu, ev_ixb, ev_lst, ev_tup, ev_call, ev_lc, look_put', str_inj, j1, borrow, shOf, intOf, ex, hvx, dat, cp_lt, cp_le, cp_gt, cp_ge, cp_eq, cp_ne, cp_eqb, cp_neb, cp_is, cp_isnt, cp_isb, cp_isntb, cp_eql, cp_nel, isNone]
              refine does_nil (does_nil (.inl ⟨rfl, fun h => absurd h hhx, ?_⟩))
              have hle : leastTo lv one (q.length + 1) = leastTo lv one q.length := by
                conv => lhs; unfold leastTo
                rw [← hx.1, if_neg hhx]
              simp [look_put', str_inj, j1, j2, j3, j4, hle]
          · rintro ⟨q, x, r', e', hno⟩ ρ'
            refine .inr ⟨rfl, fun hok => hno fun hx => ?_⟩
            have h1 : x ∈ List.range' (one + 1) (lv.length - (one + 1)) := by rw [e']; simp
            have := List.mem_range'_1.mp h1
            exact hok x (by omega) hh hx
          · rintro hall ρ' ⟨j1, j2, _, _⟩
            refine does_nil (.inl ⟨rfl, fun x hx _ hhx => ?_, j1, j2⟩)
            have h1 : x ∈ List.range' (one + 1) (lv.length - (one + 1)) := List.mem_range'_1.mpr (by have := has_lt hhx; omega)
            obtain ⟨q, r', e'⟩ := List.append_of_mem h1
            exact hall q x r' e' hhx
        · have hv := hdat' hh
          refine does_for (I := fun _ ρ => look ρ (Str.ofString "levels") = some (.sh (dats lv)) ∧ look ρ (Str.ofString "spots") = some (.sh (.list ((spotsFold lv.length ord.zipIdx).map datN)))) (enc := enc) (items := []) (by simp [targetSt, s4]) ?_ ?_ ?_ ?_
          · refine evI_range (ds := [enc (one + 1), enc one]) g1 ?_ ?_
            · simp [evBL_z, evBL_ni, evBL_co, evB_z, evB_nm, evB_co, evB_bi, evB_un, evB_bo, evB_if, evB_cm, evB_su, evB_li, evB_tu, evB_ca, evB_lc, ev_z, ev_none, ev_bool, ev_int, ev_name, ev_bin, ev_neg, ev_and, ev_ife, ev_cmp, ev_cut, ev_rev, ev_ixc, ev_ixn, ev_ixu, ev_ixb, ev_lst, ev_tup, ev_call, ev_lc, evT_z, evT_no, evT_bo, evT_c1, evT_c2, evT_ca, look_put', str_inj, i1, borrow, shOf, intOf, ar_add, ar_sub, ar_mul, ar_mod, ar_div, ar_cat, ar_rep, hv, dat, cp_lt, cp_le, cp_gt, cp_ge, cp_eq, cp_ne, cp_eqb, cp_neb, cp_is, cp_isnt, cp_isb, cp_isntb, cp_eql, cp_nel, isNone, plainE]
            · have := rangeOf_two (a := one + 1) (b := one) (by omega) (by omega)
              rw [this]
              have e0 : one - (one + 1) = 0 := by omega
              rw [e0]; rfl
          · simp [look_put', str_inj, i1, i2]
          · intro p x r ρ e; simp at e
          · rintro ρ' ⟨j1, j2⟩
            exact does_nil (.inl ⟨rfl, fun x _ h => absurd h hh, j1, j2⟩)
      · rintro ⟨p, one, r, e, hno⟩ ρ'
        exact ⟨_, rfl, k4 fun hall => hno fun x hx h1 h2 => hall one x hx h1 h2⟩
      · rintro hall ρ' ⟨i1, i2⟩
        refine does_return (d := .bool true) (by simp [evB_z, evB_nm, evB_co, evB_bi, evB_un, evB_bo, evB_if, evB_cm, evB_su, evB_li, evB_tu, evB_ca, evB_lc, ev_z, ev_none, ev_bool, ev_int, ev_name, ev_bin, ev_neg, ev_and, ev_ife, ev_cmp, ev_cut, ev_rev, ev_ixc, ev_ixn, ev_ixu, ev_ixb, ev_lst, ev_tup, ev_call, ev_lc]) ⟨_, rfl, k3 fun a b hab ha hb => ?_⟩
        obtain ⟨q, r, e⟩ := List.append_of_mem (List.mem_range.mpr (has_lt ha))
        exact hall q a r e b hab ha hb
  refine ⟨fun hne => ?_, fun hperm heq => ?_⟩
  · obtain ⟨d, h1, rfl⟩ := main (fun d => d = .bool false) (fun _ => rfl) (fun h => absurd h hne)
    exact h1
  · obtain ⟨d, h1, r, rfl, h2⟩ := main (fun d => ∃ r, d = .bool r ∧ (r = true ↔ AllOkPairs lv ord)) (fun h => absurd heq h) (fun _ => ⟨hperm, fun h => ⟨true, rfl, by simpa using h⟩, fun h => ⟨false, rfl, by simpa using h⟩⟩)
    exact ⟨r, h1, h2⟩
end Mine

namespace Mine
open PySem

noncomputable abbrev Tri := Nat × Nat × Int
noncomputable abbrev tri (t : Tri) : PyData := .tuple [enc t.1, enc t.2.1, .int t.2.2]
theorem tris_tame (ts : List Tri) : (ts.map tri).all tame = true := by induction ts <;> simp_all [tame, atom]
theorem tri_inj {ts us : List Tri} : ts.map tri = us.map tri ↔ ts = us := by
  constructor
  · intro h
    refine (List.map_inj_right (fun a b e => ?_)).mp h
    obtain ⟨a1, a2, a3⟩ := a
    obtain ⟨b1, b2, b3⟩ := b
    simp [tri, enc] at e
    obtain ⟨e1, e2, e3⟩ := e
    have e1' : a1 = b1 := by omega
    have e2' : a2 = b2 := by omega
    rw [e1', e2', e3]
  · intro h; rw [h]
noncomputable def runStep (rs : List Tri) (x : Option Int × Nat) : List Tri :=
  match x.1 with
  | none => rs
  | some v => match rs.getLast? with
    | some l => if l.2.2 = v then rs.dropLast ++ [(l.1, x.2 + 1, v)] else rs ++ [(x.2, x.2 + 1, v)]
    | none => rs ++ [(x.2, x.2 + 1, v)]
noncomputable def runsOf (xs : List (Option Int × Nat)) : List Tri := xs.foldl runStep []
theorem runStep_length (rs : List Tri) (x : Option Int × Nat) : (runStep rs x).length ≤ rs.length + 1 := by
  unfold runStep
  split
  · omega
  · split
    · split <;> simp
    · simp
theorem runsOf_length (xs : List (Option Int × Nat)) : (runsOf xs).length ≤ xs.length := by
  have : ∀ (xs : List (Option Int × Nat)) (rs : List Tri), (xs.foldl runStep rs).length ≤ rs.length + xs.length := fun xs => by
    induction xs with
    | nil => intro rs; simp
    | cons x r ih =>
      intro rs
      rw [List.foldl_cons]
      have := ih (runStep rs x)
      have := runStep_length rs x
      simp only [List.length_cons]; omega
  simpa [runsOf] using this xs []
noncomputable def lineRuns (lv : List (Option Int)) : List Tri := runsOf lv.zipIdx

theorem last_item {ts : List Tri} {l : Tri} (h : ts.getLast? = some l) (hs : ts.length ≤ 1000) : itemOf (.list (ts.map tri)) (-1) = some (tri l) ∧ placeIn (-1) ts.length = some (ts.length - 1) := by
  have hne : ts ≠ [] := by rintro rfl; simp at h
  have hpos : 0 < ts.length := List.length_pos_iff.mpr hne
  have hp : placeIn (-1) ts.length = some (ts.length - 1) := by
    unfold placeIn
    rw [if_neg (by omega), if_pos (by omega)]
    congr 1; omega
  refine ⟨?_, hp⟩
  simp only [itemOf, List.length_map]
  rw [if_pos (by omega), hp, Option.bind_some, List.getElem?_map, ← List.getLast?_eq_getElem?, h]; rfl
theorem tri_item0 (t : Tri) : itemOf (tri t) 0 = some (enc t.1) := rfl
theorem tri_item2 (t : Tri) : itemOf (tri t) 2 = some (.int t.2.2) := rfl
theorem set_last {ts : List Tri} {u : Tri} (h : ts ≠ []) : (ts.map tri).set (ts.length - 1) (tri u) = (ts.dropLast ++ [u]).map tri := by
  rw [← List.map_set]
  congr 1
  obtain ⟨ys, y, rfl⟩ := List.eq_nil_or_concat ts |>.resolve_left h
  simp

noncomputable def fLineRuns : Fn := fnNo 6 lawB
theorem fnOf_lr : fnOf lawT (Str.ofString "line_runs") = some fLineRuns := by kernel_rfl
theorem line_runs_ok (n : Nat) (lv : List (Option Int)) (hl : lv.length ≤ 20) : evF lawT (n + 40) fLineRuns [dats lv] = some (.list ((lineRuns lv).map tri)) := by
  have hps : fLineRuns.params = [Str.ofString "levels"] := by rfl
  refine evF_of hps (by conv => lhs; whnf) rfl ?_
  have s1 : storable fLineRuns.scope (Str.ofString "found") = true := by decide +kernel
  have s2 : storable fLineRuns.scope (Str.ofString "place") = true := by decide +kernel
  have s3 : storable fLineRuns.scope (Str.ofString "level") = true := by decide +kernel
  have g1 : isGlobal fLineRuns.scope (Str.ofString "enumerate") = true := by decide +kernel
  refine does_assign s1 (s := .own []) rfl ?_
  refine does_for (I := fun pre ρ => look ρ (Str.ofString "found") = some (.own ((runsOf pre).map tri))) (enc := fun (x : Option Int × Nat) => .tuple [enc x.2, dat x.1]) (items := lv.zipIdx) (by simp [targetSt, s2, s3]) ?_ ?_ ?_ ?_
  · rw [← pairsFrom_map]
    exact evI_enum g1 (by simp [ev_z, ev_none, ev_bool, ev_int, ev_name, ev_bin, ev_neg, ev_and, ev_ife, ev_cmp, ev_cut, ev_rev, ev_ixc, ev_ixn, ev_ixu, ev_ixb, ev_lst, ev_tup, ev_call, ev_lc, look_put', look, str_inj, shOf]) (by simp; omega)
  · simp [look_put', look, str_inj, runsOf]
  · rintro p ⟨o, k⟩ r ρ e i1
    have hlen := runsOf_length p
    have hp : p.length ≤ 20 := by
      have := congrArg List.length e
      simp at this; omega
    have estep : runsOf (p ++ [(o, k)]) = runStep (runsOf p) (o, k) := by simp [runsOf, List.foldl_append]
    refine ⟨_, rfl, ?_⟩
    cases o with
    | none =>
      refine does_if (b := false) ?_ (fun h => by cases h) (fun _ => ?_)
      · simp [evT_z, evT_no, evT_bo, evT_c1, evT_c2, evT_ca, evB_z, evB_nm, evB_co, evB_bi, evB_un, evB_bo, evB_if, evB_cm, evB_su, evB_li, evB_tu, evB_ca, evB_lc, ev_z, ev_none, ev_bool, ev_int, ev_name, ev_bin, ev_neg, ev_and, ev_ife, ev_cmp, ev_cut, ev_rev, ev_ixc, ev_ixn, ev_ixu, ev_ixb, ev_lst, ev_tup, ev_call, ev_lc, look_put', str_inj, borrow, dat, cp_lt, cp_le, cp_gt, cp_ge, cp_eq, cp_ne, cp_eqb, cp_neb, cp_is, cp_isnt, cp_isb, cp_isntb, cp_eql, cp_nel, isNone]
      · refine does_nil (does_nil ⟨rfl, ?_⟩)
        rw [estep]
        simp [look_put', str_inj, i1, runStep]
    | some v =>
      refine does_if (b := true) ?_ (fun _ => ?_) (fun h => by cases h)
      · simp [evT_z, evT_no, evT_bo, evT_c1, evT_c2, evT_ca, evB_z, evB_nm, evB_co, evB_bi, evB_un, evB_bo, evB_if, evB_cm, evB_su, evB_li, evB_tu, evB_ca, evB_lc, ev_z, ev_none, ev_bool, ev_int, ev_name, ev_bin, ev_neg, ev_and, ev_ife, ev_cmp, ev_cut, ev_rev, ev_ixc, ev_ixn, ev_ixu, ev_ixb, ev_lst, ev_tup, ev_call, ev_lc, look_put', str_inj, borrow, dat, cp_lt, cp_le, cp_gt, cp_ge, cp_eq, cp_ne, cp_eqb, cp_neb, cp_is, cp_isnt, cp_isb, cp_isntb, cp_eql, cp_nel, isNone]
      cases hL : (runsOf p).getLast? with
      | none =>
        have hnil : runsOf p = [] := by simpa using hL
        refine does_if (b := false) ?_ (fun h => by cases h) (fun _ => ?_)
        · have := ne_lists (xs := (runsOf p).map tri) (ys := []) (b := false) (tris_tame _) rfl (by simp [hnil])
          simp [evT_z, evT_no, evT_bo, evT_c1, evT_c2, evT_ca, evA_z, evA_an, evA_on, evA_ac, evA_oc, evB_z, evB_nm, evB_co, evB_bi, evB_un, evB_bo, evB_if, evB_cm, evB_su, evB_li, evB_tu, evB_ca, evB_lc, ev_z, ev_none, ev_bool, ev_int, ev_name, ev_bin, ev_neg, ev_and, ev_ife, ev_cmp, ev_cut, ev_rev, ev_ixc, ev_ixn, ev_ixu, ev_ixb, ev_lst, ev_tup, ev_call, ev_lc, evL_z, evL_ni, evL_co, look_put', str_inj, i1, borrow, this]
        · refine does_append (d := tri (k, k + 1, v)) rfl (by simp [look_put', str_inj]; exact i1) ?_ (by simp; omega) (does_nil (does_nil (does_nil ⟨rfl, ?_⟩)))
          · simp [ev_z, ev_none, ev_bool, ev_int, ev_name, ev_bin, ev_neg, ev_and, ev_ife, ev_cmp, ev_cut, ev_rev, ev_ixc, ev_ixn, ev_ixu, ev_ixb, ev_lst, ev_tup, ev_call, ev_lc, evL_z, evL_ni, evL_co, evB_z, evB_nm, evB_co, evB_bi, evB_un, evB_bo, evB_if, evB_cm, evB_su, evB_li, evB_tu, evB_ca, evB_lc, look_put', str_inj, shOf, borrow, dat, ar_add, ar_sub, ar_mul, ar_mod, ar_div, ar_cat, ar_rep, tri, enc]
          · rw [estep]
            simp [look_put', str_inj, i1, runStep, hL]
      | some l =>
        have hne : runsOf p ≠ [] := by intro e; rw [e] at hL; simp at hL
        obtain ⟨hi, hpl⟩ := last_item hL (by omega)
        have hn := ne_lists (xs := (runsOf p).map tri) (ys := []) (b := true) (tris_tame _) rfl (by simp [hne])
        refine does_if (b := decide (l.2.2 = v)) ?_ (fun hb => ?_) (fun hb => ?_)
        · have ci : ∀ a b : Int, compare .Eq (.int a) (.int b) = some (a == b) := fun _ _ => rfl
          simp [evT_z, evT_no, evT_bo, evT_c1, evT_c2, evT_ca, evA_z, evA_an, evA_on, evA_ac, evA_oc, evB_z, evB_nm, evB_co, evB_bi, evB_un, evB_bo, evB_if, evB_cm, evB_su, evB_li, evB_tu, evB_ca, evB_lc, ev_z, ev_none, ev_bool, ev_int, ev_name, ev_bin, ev_neg, ev_and, ev_ife, ev_cmp, ev_cut, ev_rev, ev_ixc, ev_ixn, ev_ixu, ev_ixb, ev_lst, ev_tup, ev_call, ev_lc, evL_z, evL_ni, evL_co, look_put', str_inj, i1, borrow, hn, intOf, hi, tri_item2, ci, shOf, dat]
          by_cases q : l.2.2 = v <;> simp [q]
        · have hb' : l.2.2 = v := by simpa using hb
          refine does_setitem (d := tri (l.1, k + 1, v)) (xs := (runsOf p).map tri) (k := -1) (j := (runsOf p).length - 1) ?_ (by simp [look_put', str_inj, i1]) (by simp [ev_z, ev_none, ev_bool, ev_int, ev_name, ev_bin, ev_neg, ev_and, ev_ife, ev_cmp, ev_cut, ev_rev, ev_ixc, ev_ixn, ev_ixu, ev_ixb, ev_lst, ev_tup, ev_call, ev_lc, intOf]) (by simp; omega) (by rw [List.length_map]; exact hpl) (does_nil (does_nil (does_nil ⟨rfl, ?_⟩)))
          · simp [ev_z, ev_none, ev_bool, ev_int, ev_name, ev_bin, ev_neg, ev_and, ev_ife, ev_cmp, ev_cut, ev_rev, ev_ixc, ev_ixn, ev_ixu, ev_ixb, ev_lst, ev_tup, ev_call, ev_lc, evL_z, evL_ni, evL_co, evB_z, evB_nm, evB_co, evB_bi, evB_un, evB_bo, evB_if, evB_cm, evB_su, evB_li, evB_tu, evB_ca, evB_lc, look_put', str_inj, shOf, borrow, dat, ar_add, ar_sub, ar_mul, ar_mod, ar_div, ar_cat, ar_rep, i1, intOf, hi, tri_item0, tri, enc]
          · rw [estep, set_last hne]
            simp [look_put', str_inj, i1, runStep, hL, hb']
        · have hb' : ¬ l.2.2 = v := by simpa using hb
          refine does_append (d := tri (k, k + 1, v)) rfl (by simp [look_put', str_inj]; exact i1) ?_ (by simp; omega) (does_nil (does_nil (does_nil ⟨rfl, ?_⟩)))
          · simp [ev_z, ev_none, ev_bool, ev_int, ev_name, ev_bin, ev_neg, ev_and, ev_ife, ev_cmp, ev_cut, ev_rev, ev_ixc, ev_ixn, ev_ixu, ev_ixb, ev_lst, ev_tup, ev_call, ev_lc, evL_z, evL_ni, evL_co, evB_z, evB_nm, evB_co, evB_bi, evB_un, evB_bo, evB_if, evB_cm, evB_su, evB_li, evB_tu, evB_ca, evB_lc, look_put', str_inj, shOf, borrow, dat, ar_add, ar_sub, ar_mul, ar_mod, ar_div, ar_cat, ar_rep, tri, enc]
          · rw [estep]
            simp [look_put', str_inj, i1, runStep, hL, hb']
  · intro ρ i1
    exact does_return (by simp [evB_z, evB_nm, evB_co, evB_bi, evB_un, evB_bo, evB_if, evB_cm, evB_su, evB_li, evB_tu, evB_ca, evB_lc, i1, borrow]; rfl) rfl

noncomputable def fVisualRuns : Fn := fnNo 7 lawB
theorem fnOf_vr : fnOf lawT (Str.ofString "visual_runs") = some fVisualRuns := by kernel_rfl
noncomputable def runLevels (lv : List (Option Int)) : List (Option Int) := (lineRuns lv).map fun t => some t.2.2
noncomputable def visualRuns (lv : List (Option Int)) : List Tri := (reord (runLevels lv)).map fun k => ((lineRuns lv)[k]?).getD (0, 0, 0)
theorem visual_runs_ok (n : Nat) (lv : List (Option Int)) (hl : lv.length ≤ 20) (hf : Fair (runLevels lv)) : evF lawT (n + 80) fVisualRuns [dats lv] = some (.list ((visualRuns lv).map tri)) := by
  have hps : fVisualRuns.params = [Str.ofString "levels"] := by rfl
  refine evF_of hps (by conv => lhs; whnf) rfl ?_
  have s1 : storable fVisualRuns.scope (Str.ofString "runs") = true := by decide +kernel
  have g1 : isGlobal fVisualRuns.scope (Str.ofString "line_runs") = true := by decide +kernel
  have g2 : isGlobal fVisualRuns.scope (Str.ofString "reordered") = true := by decide +kernel
  have hlen : (lineRuns lv).length ≤ 20 := by have := runsOf_length lv.zipIdx; simp at this; unfold lineRuns; omega
  refine does_assign s1 (s := .sh (.list ((lineRuns lv).map tri))) ?_ ?_
  · simp only [evG_z, evG_eq, made_ni, made_mu, made_ca, made_lc, made_su, made_if, made_co, made_bn, made_bb, Bool.false_eq_true, if_false]
    rw [ev_fn (ds := [dats lv]) g1 fnOf_lr (by simp [evL_z, evL_ni, evL_co, ev_z, ev_none, ev_bool, ev_int, ev_name, ev_bin, ev_neg, ev_and, ev_ife, ev_cmp, ev_cut, ev_rev, ev_ixc, ev_ixn, ev_ixu, ev_ixb, ev_lst, ev_tup, ev_call, ev_lc, look, str_inj, shOf]), line_runs_ok _ lv hl]
    rfl
  refine does_return (d := .list ((visualRuns lv).map tri)) ?_ rfl
  simp only [evB_z, evB_nm, evB_co, evB_bi, evB_un, evB_bo, evB_if, evB_cm, evB_su, evB_li, evB_tu, evB_ca, evB_lc]
  have hpr := reord_perm (runLevels lv)
  have hrl : (runLevels lv).length = (lineRuns lv).length := by simp [runLevels]
  have hlt : ∀ k ∈ reord (runLevels lv), k < (lineRuns lv).length := fun k hk => by
    have := has_lt (mem_places.mp (hpr.mem_iff.mp hk))
    omega
  refine ev_compM enc (reord (runLevels lv)) (fun _ => true) (fun k => tri (((lineRuns lv)[k]?).getD (0, 0, 0))) (by kernel_rfl) ?_ ?_ ?_
  · refine evI_list (by rw [ne_eq, str_inj]; simp) (by rw [ne_eq, str_inj]; simp) ?_ (by simp [goOver]; have := hpr.length_eq; have := places_length (runLevels lv); omega)
    rw [ev_fn (ds := [dats (runLevels lv)]) g2 fnOf_re, reordered_ok _ _ hf]
    simp only [evL_z, evL_ni, evL_co]
    rw [ev_compM (rs := (runLevels lv).map dat) tri (lineRuns lv) (fun _ => true) (fun t => .int t.2.2) (by kernel_rfl)]
    · rfl
    · exact evI_sh (by simp [look_put']) (by simp [goOver]; omega)
    · rw [List.filter_eq_self.mpr (fun _ _ => rfl), runLevels, List.map_map]; rfl
    · intro t ht
      refine ⟨_, rfl, by simp [evTs_z, evTs_ni, evTs_on], fun _ => ?_⟩
      simp [ev_z, ev_none, ev_bool, ev_int, ev_name, ev_bin, ev_neg, ev_and, ev_ife, ev_cmp, ev_cut, ev_rev, ev_ixc, ev_ixn, ev_ixu, ev_ixb, ev_lst, ev_tup, ev_call, ev_lc, evB_z, evB_nm, evB_co, evB_bi, evB_un, evB_bo, evB_if, evB_cm, evB_su, evB_li, evB_tu, evB_ca, evB_lc, look_put', borrow, intOf, tri_item2]
  · rw [List.filter_eq_self.mpr (fun _ _ => rfl), visualRuns, List.map_map]; rfl
  · intro k hk
    refine ⟨_, rfl, by simp [evTs_z, evTs_ni, evTs_on], fun _ => ?_⟩
    have h1 := hlt k hk
    have e : itemOf (.list ((lineRuns lv).map tri)) (k : Int) = some (tri (((lineRuns lv)[k]?).getD (0, 0, 0))) := by
      simp only [itemOf, List.length_map]
      rw [if_pos (by omega), placeIn_nat h1, Option.bind_some, List.getElem?_map, List.getElem?_eq_getElem h1]; rfl
    simp [evTs_z, evTs_ni, evTs_on, evT_z, evT_no, evT_bo, evT_c1, evT_c2, evT_ca, evB_z, evB_nm, evB_co, evB_bi, evB_un, evB_bo, evB_if, evB_cm, evB_su, evB_li, evB_tu, evB_ca, evB_lc, ev_z, ev_none, ev_bool, ev_int, ev_name, ev_bin, ev_neg, ev_and, ev_ife, ev_cmp, ev_cut, ev_rev, ev_ixc, ev_ixn, ev_ixu, ev_ixb, ev_lst, ev_tup, ev_call, ev_lc, look_put', look_freeOf, kindIn, look, str_inj, borrow, shOf, intOf, e]
end Mine

namespace Mine
open PySem

theorem minL_le' : ∀ (a : Int) (r : List Int), minL a r ≤ a ∧ ∀ x ∈ r, minL a r ≤ x
  | a, [] => ⟨Int.le_refl _, by simp⟩
  | a, b :: r => by
    have h := minL_le' (if b < a then b else a) r
    unfold minL
    refine ⟨?_, fun x hx => ?_⟩
    · have := h.1; split at this <;> omega
    · rcases List.mem_cons.mp hx with rfl | hx
      · have := h.1; split at this <;> omega
      · exact h.2 x hx
theorem minL_mem' : ∀ (a : Int) (r : List Int), minL a r ∈ a :: r
  | a, [] => by simp [minL]
  | a, b :: r => by
    unfold minL
    have h := minL_mem' (if b < a then b else a) r
    rcases List.mem_cons.mp h with h | h
    · rw [h]; split <;> simp
    · simp [h]

noncomputable def sliceOf (lv : List (Option Int)) (a b : Nat) : List (Option Int) := (lv.drop a).take (b + 1 - a)
theorem mem_slice {lv : List (Option Int)} {a b : Nat} {v : Int} : v ∈ (sliceOf lv a b).filterMap id ↔ ∃ c, a ≤ c ∧ c ≤ b ∧ Has lv c ∧ v = val lv c := by
  rw [List.mem_filterMap]
  constructor
  · rintro ⟨o, ho, e⟩
    simp at e; subst e
    obtain ⟨j, hj⟩ := List.mem_iff_getElem?.mp ho
    unfold sliceOf at hj
    rw [List.getElem?_take] at hj
    split at hj
    · rename_i hjb
      rw [List.getElem?_drop] at hj
      have hv : val lv (a + j) = v := by unfold val; rw [hj]; rfl
      exact ⟨a + j, by omega, by omega, by unfold Has; rw [hj, hv], hv.symm⟩
    · cases hj
  · rintro ⟨c, h1, h2, h3, rfl⟩
    refine ⟨some (val lv c), ?_, rfl⟩
    apply List.mem_iff_getElem?.mpr
    refine ⟨c - a, ?_⟩
    unfold sliceOf
    rw [List.getElem?_take, if_pos (by omega), List.getElem?_drop]
    have : a + (c - a) = c := by omega
    rw [this]; exact h3

noncomputable def fKept : Fn := fnNo 9 lawB
theorem fnOf_kp : fnOf lawT (Str.ofString "_law_is_kept") = some fKept := by kernel_rfl
theorem kept_ok (n : Nat) (lv : List (Option Int)) (a b : Nat) (hl : lv.length ≤ 20) (hab : a ≤ b) (ha : Has lv a) (hb : b < lv.length) :
    evF lawT (n + 30) fKept [dats lv, enc a, enc b] = some (.bool ((mn lv a b).fmod 2 == 0)) := by
  have hps : fKept.params = [Str.ofString "levels", Str.ofString "near", Str.ofString "far"] := by rfl
  refine evF_of hps (by conv => lhs; whnf) rfl ?_
  have g1 : isGlobal fKept.scope (Str.ofString "min") = true := by decide +kernel
  refine does_return (d := .bool ((mn lv a b).fmod 2 == 0)) ?_ rfl
  have hslen : (sliceOf lv a b).length ≤ 20 := by unfold sliceOf; simp; omega
  have hne : (sliceOf lv a b).filterMap id ≠ [] := by
    intro e
    have : val lv a ∈ (sliceOf lv a b).filterMap id := mem_slice.mpr ⟨a, Nat.le_refl _, hab, ha, rfl⟩
    rw [e] at this; cases this
  obtain ⟨v, r, hvr⟩ := List.exists_cons_of_ne_nil hne
  have hmin : minL v r = mn lv a b := by
    refine mn_unique ha hab (fun c h1 h2 h3 => ?_) ?_
    · have hm : val lv c ∈ v :: r := by rw [← hvr]; exact mem_slice.mpr ⟨c, h1, h2, h3, rfl⟩
      have := minL_le' v r
      rcases List.mem_cons.mp hm with h | h
      · rw [h]; exact this.1
      · exact this.2 _ h
    · have := minL_mem' v r
      rw [← hvr] at this
      exact mem_slice.mp this
  have hlen2 : (v :: r).length ≤ 20 := by rw [← hvr]; exact Nat.le_trans (List.length_filterMap_le _ _) hslen
  have hcomp : ∀ {e : Expr} {n : Nat} {ρ : Vars} {sc : Scope}, ev lawT n sc ρ e = some (.list ((v :: r).map .int)) → builtin (Str.ofString "min") [.list ((v :: r).map .int)] = some (.int (mn lv a b)) := fun _ => by
    rw [built_min (by simp at hlen2 ⊢; omega) (intsOf_ints _), hmin]
  simp only [evB_z, evB_nm, evB_co, evB_bi, evB_un, evB_bo, evB_if, evB_cm, evB_su, evB_li, evB_tu, evB_ca, evB_lc, ev_z, ev_none, ev_bool, ev_int, ev_name, ev_bin, ev_neg, ev_and, ev_ife, ev_cmp, ev_cut, ev_rev, ev_ixc, ev_ixn, ev_ixu, ev_ixb, ev_lst, ev_tup, ev_call, ev_lc]
  rw [g1]
  simp only [if_true, fn_min, evBL_z, evBL_ni, evBL_co, evB_z, evB_nm, evB_co, evB_bi, evB_un, evB_bo, evB_if, evB_cm, evB_su, evB_li, evB_tu, evB_ca, evB_lc]
  rw [ev_compM (rs := (v :: r).map .int) dat (sliceOf lv a b) (fun o => o.isSome) dat (by kernel_rfl)]
  · simp only [Option.map_some, Option.bind_some]
    rw [built_min (by simp at hlen2 ⊢; omega) (intsOf_ints _), hmin]
    simp [ar_add, ar_sub, ar_mul, ar_mod, ar_div, ar_cat, ar_rep, cp_lt, cp_le, cp_gt, cp_ge, cp_eq, cp_ne, cp_eqb, cp_neb, cp_is, cp_isnt, cp_isb, cp_isntb, cp_eql, cp_nel]
  · have hcut : cut (lv.map dat) (some (a : Int)) (some ((b : Int) + 1)) = some (.list ((sliceOf lv a b).map dat)) := by
      simp only [cut, List.length_map]
      rw [if_pos (by omega), if_pos (by omega)]
      have e1 : ((a : Int)).toNat = a := by omega
      have e2 : ((b : Int) + 1).toNat = b + 1 := by omega
      rw [e1, e2, ← List.map_drop, ← List.map_take]; rfl
    simp [evI_z, evI_na, evI_su, evI_ca, ev_z, ev_none, ev_bool, ev_int, ev_name, ev_bin, ev_neg, ev_and, ev_ife, ev_cmp, ev_cut, ev_rev, ev_ixc, ev_ixn, ev_ixu, ev_ixb, ev_lst, ev_tup, ev_call, ev_lc, evB_z, evB_nm, evB_co, evB_bi, evB_un, evB_bo, evB_if, evB_cm, evB_su, evB_li, evB_tu, evB_ca, evB_lc, evO_z, evO_no, evO_so, look, str_inj, borrow, shOf, intOf, listOf, ar_add, ar_sub, ar_mul, ar_mod, ar_div, ar_cat, ar_rep, hcut, goOver]
    omega
  · rw [← hvr]
    have : ∀ l : List (Option Int), (l.filterMap id).map PyData.int = (l.filter (fun o => o.isSome)).map dat := fun l => by
      induction l with
      | nil => rfl
      | cons o r ih => cases o <;> simp_all [dat]
    exact this _
  · intro o ho
    refine ⟨_, rfl, ?_, fun _ => ?_⟩
    · cases o <;> simp [evTs_z, evTs_ni, evTs_on, evT_z, evT_no, evT_bo, evT_c1, evT_c2, evT_ca, evB_z, evB_nm, evB_co, evB_bi, evB_un, evB_bo, evB_if, evB_cm, evB_su, evB_li, evB_tu, evB_ca, evB_lc, ev_z, ev_none, ev_bool, ev_int, ev_name, ev_bin, ev_neg, ev_and, ev_ife, ev_cmp, ev_cut, ev_rev, ev_ixc, ev_ixn, ev_ixu, ev_ixb, ev_lst, ev_tup, ev_call, ev_lc, look_put', str_inj, borrow, dat, cp_lt, cp_le, cp_gt, cp_ge, cp_eq, cp_ne, cp_eqb, cp_neb, cp_is, cp_isnt, cp_isb, cp_isntb, cp_eql, cp_nel, isNone]
    · simp [ev_z, ev_none, ev_bool, ev_int, ev_name, ev_bin, ev_neg, ev_and, ev_ife, ev_cmp, ev_cut, ev_rev, ev_ixc, ev_ixn, ev_ixu, ev_ixb, ev_lst, ev_tup, ev_call, ev_lc, look_put', shOf]
end Mine

namespace Mine
open PySem

noncomputable def ev2 (v : Int) : Bool := v.fmod 2 == 0
/-- one place stands left of another -/
noncomputable def lft (lv : List (Option Int)) (a b : Nat) : Bool := (decide (a < b) && ev2 (mn lv a b)) || (decide (b < a) && !ev2 (mn lv b a))
noncomputable def lefts1 (lv : List (Option Int)) (at' : Nat) : List Nat := (places lv).filter fun m => decide (m < at') && ev2 (mn lv m at')
noncomputable def lefts2 (lv : List (Option Int)) (at' : Nat) : List Nat := (places lv).filter fun m => decide (at' < m) && !ev2 (mn lv at' m)
noncomputable def rank (lv : List (Option Int)) (at' : Nat) : Nat := (lefts1 lv at').length + (lefts2 lv at').length
theorem rank_count (lv : List (Option Int)) (at' : Nat) : rank lv at' = (places lv).countP fun m => lft lv m at' := by
  unfold rank lefts1 lefts2
  rw [← List.countP_eq_length_filter, ← List.countP_eq_length_filter]
  induction places lv with
  | nil => rfl
  | cons m r ih =>
    simp only [List.countP_cons]
    have : (if (decide (m < at') && ev2 (mn lv m at')) = true then 1 else 0) + (if (decide (at' < m) && !ev2 (mn lv at' m)) = true then 1 else 0) = if lft lv m at' = true then 1 else 0 := by
      unfold lft
      by_cases h1 : m < at' <;> by_cases h2 : at' < m
      · omega
      · simp [h1, h2]
      · simp [h1, h2]
      · simp [h1, h2]
    omega
theorem lft_irrefl (lv : List (Option Int)) (a : Nat) : lft lv a a = false := by simp [lft]
theorem lft_asymm {lv : List (Option Int)} {a b : Nat} (h : lft lv a b = true) : lft lv b a = false := by
  unfold lft at *
  by_cases h1 : a < b <;> by_cases h2 : b < a
  · omega
  · simp [h1, h2] at h ⊢; exact h
  · simp [h1, h2] at h ⊢; exact h
  · simp [h1, h2] at h
theorem lft_total {lv : List (Option Int)} {a b : Nat} (h : a ≠ b) : lft lv a b = true ∨ lft lv b a = true := by
  unfold lft
  by_cases h1 : a < b
  · have h2 : ¬ b < a := by omega
    simp only [h1, h2, decide_true, decide_false, Bool.true_and, Bool.false_and, Bool.or_false, Bool.false_or]
    cases ev2 (mn lv a b) <;> simp
  · have h2 : b < a := by omega
    simp only [h1, h2, decide_true, decide_false, Bool.true_and, Bool.false_and, Bool.or_false, Bool.false_or]
    cases ev2 (mn lv b a) <;> simp
theorem rank_lt {lv : List (Option Int)} {p : Nat} (h : p ∈ places lv) : rank lv p < (places lv).length := by
  rw [rank_count]
  have h1 : (places lv).countP (fun m => lft lv m p) ≤ (places lv).length := List.countP_le_length
  rcases Nat.lt_or_ge ((places lv).countP (fun m => lft lv m p)) (places lv).length with h2 | h2
  · exact h2
  · have := List.countP_eq_length.mp (Nat.le_antisymm h1 h2) p h
    rw [lft_irrefl] at this; cases this
noncomputable def lawOrder (lv : List (Option Int)) : List (Option Nat) := ((places lv).map fun p => (rank lv p, p)).foldl (fun f x => f.set x.1 (some x.2)) (List.replicate (places lv).length none)
theorem foldSet_length (ps : List (Nat × Nat)) (f : List (Option Nat)) : (ps.foldl (fun f x => f.set x.1 (some x.2)) f).length = f.length := by
  induction ps generalizing f with
  | nil => rfl
  | cons x r ih => rw [List.foldl_cons, ih]; simp
theorem foldSet_in : ∀ (ps : List (Nat × Nat)) (f : List (Option Nat)) (x : Nat × Nat), (ps.map (·.1)).Nodup → x ∈ ps → x.1 < f.length → (ps.foldl (fun f x => f.set x.1 (some x.2)) f)[x.1]? = some (some x.2)
  | y :: r, f, x, nd, hx, hl => by
    simp only [List.map_cons, List.nodup_cons] at nd
    rw [List.foldl_cons]
    rcases List.mem_cons.mp hx with rfl | hx
    · rw [foldSet_off x.1 r _ fun z hz e => nd.1 (List.mem_map.mpr ⟨z, hz, e⟩)]
      simp [hl]
    · exact foldSet_in r _ x nd.2 hx (by simpa using hl)

/-- in an order, as many stand left of a place as its spot says -/
theorem rank_idx {lv : List (Option Int)} {ord : List Nat} (hp : ord.Perm (places lv)) (hs : ord.Pairwise fun a b => lft lv a b = true) {k p : Nat} (h : ord[k]? = some p) : rank lv p = k := by
  rw [rank_count, ← hp.countP_eq]
  obtain ⟨hlt, he⟩ := List.getElem?_eq_some_iff.mp h
  have e : ord = ord.take k ++ p :: ord.drop (k + 1) := by
    rw [← he, List.getElem_cons_drop, List.take_append_drop]
  rw [e] at hs ⊢
  obtain ⟨_, h2, h3⟩ := List.pairwise_append.mp hs
  rw [List.countP_append, List.countP_cons, lft_irrefl]
  have c1 : (ord.take k).countP (fun m => lft lv m p) = k := by
    rw [List.countP_eq_length.mpr fun a ha => h3 a ha p List.mem_cons_self]
    simp; omega
  have c2 : (ord.drop (k + 1)).countP (fun m => lft lv m p) = 0 := by
    rw [List.countP_eq_zero]
    intro a ha
    have := (List.pairwise_cons.mp h2).1 a ha
    rw [lft_asymm this]; simp
  rw [c1, c2]; simp
theorem lawOrder_eq {lv : List (Option Int)} {ord : List Nat} (hp : ord.Perm (places lv)) (hs : ord.Pairwise fun a b => lft lv a b = true) : lawOrder lv = ord.map some := by
  have hlen : (lawOrder lv).length = (places lv).length := by unfold lawOrder; rw [foldSet_length]; simp
  have nd : ord.Nodup := hp.nodup_iff.mpr (places_nodup lv)
  have ndr : (((places lv).map fun p => (rank lv p, p)).map (·.1)).Nodup := by
    rw [List.map_map]
    have h1 : ((places lv).map ((fun x => x.fst) ∘ fun p => (rank lv p, p))).Perm (ord.map (rank lv)) := by
      have := hp.symm.map (rank lv)
      exact this
    rw [h1.nodup_iff]
    have : ord.map (rank lv) = List.range ord.length := by
      apply List.ext_getElem?
      intro k
      rw [List.getElem?_map]
      by_cases hk : k < ord.length
      · rw [List.getElem?_eq_getElem hk, List.getElem?_range hk, Option.map_some, rank_idx hp hs (List.getElem?_eq_getElem hk)]
      · rw [List.getElem?_eq_none (by omega), List.getElem?_eq_none (by simp; omega)]; rfl
    rw [this]; exact List.nodup_range
  apply List.ext_getElem?
  intro k
  by_cases hk : k < ord.length
  · have hr := rank_idx hp hs (List.getElem?_eq_getElem hk)
    have hm : ord[k] ∈ places lv := hp.mem_iff.mp (List.getElem_mem hk)
    have := foldSet_in _ (List.replicate (places lv).length none) (rank lv ord[k], ord[k]) ndr (List.mem_map.mpr ⟨_, hm, rfl⟩) (by simpa using rank_lt hm)
    simp only [hr] at this
    rw [List.getElem?_map, List.getElem?_eq_getElem hk]
    exact this
  · rw [List.getElem?_eq_none (by rw [hlen, ← hp.length_eq]; omega), List.getElem?_eq_none (by simp; omega)]

theorem ev_binop {T : Tbl} {n : Nat} {sc : Scope} {ρ : Vars} {l r : Expr} {op : Operator} {p : Pos} {a b d : PyData} (h1 : evB T n sc ρ l = some a) (h2 : evB T n sc ρ r = some b) (h3 : arith op a b = some d) : ev T (n + 1) sc ρ (.BinOp l op r p) = some d := by
  simp only [ev_z, ev_none, ev_bool, ev_int, ev_name, ev_bin, ev_neg, ev_and, ev_ife, ev_cmp, ev_cut, ev_rev, ev_ixc, ev_ixn, ev_ixu, ev_ixb, ev_lst, ev_tup, ev_call, ev_lc, h1, h2, Option.bind_some, h3]

noncomputable def fLawOrder : Fn := fnNo 10 lawB
theorem fnOf_lo2 : fnOf lawT (Str.ofString "_law_order") = some fLawOrder := by kernel_rfl
theorem law_order_ok (n : Nat) (lv : List (Option Int)) (hl : lv.length ≤ 20) : evF lawT (n + 60) fLawOrder [dats lv] = some (.list ((lawOrder lv).map datN)) := by
  have hps : fLawOrder.params = [Str.ofString "levels"] := by rfl
  refine evF_of hps (by conv => lhs; whnf) rfl ?_
  have s1 : storable fLawOrder.scope (Str.ofString "places") = true := by decide +kernel
  have s2 : storable fLawOrder.scope (Str.ofString "found") = true := by decide +kernel
  have s3 : storable fLawOrder.scope (Str.ofString "at") = true := by decide +kernel
  have s4 : storable fLawOrder.scope (Str.ofString "left") = true := by decide +kernel
  have g1 : isGlobal fLawOrder.scope (Str.ofString "enumerate") = true := by decide +kernel
  have g2 : isGlobal fLawOrder.scope (Str.ofString "len") = true := by decide +kernel
  have hpl := places_length lv
  refine does_assign s1 (s := .sh (encs (places lv))) ?_ ?_
  · simp only [evG_z, evG_eq, made_ni, made_mu, made_ca, made_lc, made_su, made_if, made_co, made_bn, made_bb, Bool.false_eq_true, if_false]
    rw [ev_compM (rs := (places lv).map enc) (fun (x : Option Int × Nat) => .tuple [enc x.2, dat x.1]) lv.zipIdx (fun x => x.1.isSome) (fun x => enc x.2) (by kernel_rfl)]
    · rfl
    · rw [← pairsFrom_map]
      exact evI_enum g1 (by simp [ev_z, ev_none, ev_bool, ev_int, ev_name, ev_bin, ev_neg, ev_and, ev_ife, ev_cmp, ev_cut, ev_rev, ev_ixc, ev_ixn, ev_ixu, ev_ixb, ev_lst, ev_tup, ev_call, ev_lc, look, str_inj, shOf]) (by simp; omega)
    · have h1 : (places lv).map enc = ((lv.zipIdx).filter fun x => x.1.isSome).map (fun x => enc x.2) := by
        have h2 : lv.zipIdx = (List.range lv.length).map fun k => (((lv[k]?).getD none), k) := by
          apply List.ext_getElem?
          intro k
          rw [List.getElem?_zipIdx, List.getElem?_map]
          by_cases hk : k < lv.length
          · rw [List.getElem?_eq_getElem hk, List.getElem?_range hk]; simp [List.getElem?_eq_getElem hk]
          · rw [List.getElem?_eq_none (by omega), List.getElem?_eq_none (by simp; omega)]; rfl
        rw [h2, List.filter_map, List.map_map]
        rfl
      exact h1
    · rintro ⟨o, k⟩ hx
      refine ⟨_, rfl, ?_, fun _ => ?_⟩
      · cases o <;> simp [evTs_z, evTs_ni, evTs_on, evT_z, evT_no, evT_bo, evT_c1, evT_c2, evT_ca, evB_z, evB_nm, evB_co, evB_bi, evB_un, evB_bo, evB_if, evB_cm, evB_su, evB_li, evB_tu, evB_ca, evB_lc, ev_z, ev_none, ev_bool, ev_int, ev_name, ev_bin, ev_neg, ev_and, ev_ife, ev_cmp, ev_cut, ev_rev, ev_ixc, ev_ixn, ev_ixu, ev_ixb, ev_lst, ev_tup, ev_call, ev_lc, look_put', str_inj, borrow, dat, cp_lt, cp_le, cp_gt, cp_ge, cp_eq, cp_ne, cp_eqb, cp_neb, cp_is, cp_isnt, cp_isb, cp_isntb, cp_eql, cp_nel, isNone]
      · simp [ev_z, ev_none, ev_bool, ev_int, ev_name, ev_bin, ev_neg, ev_and, ev_ife, ev_cmp, ev_cut, ev_rev, ev_ixc, ev_ixn, ev_ixu, ev_ixb, ev_lst, ev_tup, ev_call, ev_lc, look_put', str_inj, shOf]
  refine does_assign s2 (s := .own (List.replicate (places lv).length .none)) ?_ ?_
  · have hb := built_len (xs := (places lv).map enc) (by simp; omega)
    have hm' : (places lv).length ≤ 1048576 := by omega
    simp [evG_z, evG_eq, made_ni, made_mu, made_ca, made_lc, made_su, made_if, made_co, made_bn, made_bb, ev_z, ev_none, ev_bool, ev_int, ev_name, ev_bin, ev_neg, ev_and, ev_ife, ev_cmp, ev_cut, ev_rev, ev_ixc, ev_ixn, ev_ixu, ev_ixb, ev_lst, ev_tup, ev_call, ev_lc, evB_z, evB_nm, evB_co, evB_bi, evB_un, evB_bo, evB_if, evB_cm, evB_su, evB_li, evB_tu, evB_ca, evB_lc, evL_z, evL_ni, evL_co, evBL_z, evBL_ni, evBL_co, look_put', look, str_inj, borrow, ar_add, ar_sub, ar_mul, ar_mod, ar_div, ar_cat, ar_rep, hm', allFlat, flat, List.all_replicate, g2, fn_len, hb]
  refine does_for (I := fun pre ρ => look ρ (Str.ofString "levels") = some (.sh (dats lv)) ∧ look ρ (Str.ofString "places") = some (.sh (encs (places lv))) ∧
      look ρ (Str.ofString "found") = some (.own (((pre.map fun p => (rank lv p, p)).foldl (fun f x => f.set x.1 (some x.2)) (List.replicate (places lv).length none)).map datN))) (enc := enc) (items := places lv) (by simp [targetSt, s3]) ?_ ?_ ?_ ?_
  · exact evI_sh (by simp [look_put', str_inj]) (by simp [goOver]; omega)
  · simp [look_put', look, str_inj, datN]
  · rintro p x r ρ e ⟨i1, i2, i3⟩
    have hx : x ∈ places lv := by rw [e]; simp
    have hhx := mem_places.mp hx
    have hlen := foldSet_length (p.map fun p => (rank lv p, p)) (List.replicate (places lv).length none)
    rw [List.length_replicate] at hlen
    have hl1 : (lefts1 lv x).length ≤ 20 := Nat.le_trans (List.length_filter_le _ _) (by omega)
    have hl2 : (lefts2 lv x).length ≤ 20 := Nat.le_trans (List.length_filter_le _ _) (by omega)
    refine ⟨_, rfl, ?_⟩
    refine does_assign s4 (s := .sh (encs (lefts1 lv x))) ?_ ?_
    · simp only [evG_z, evG_eq, made_ni, made_mu, made_ca, made_lc, made_su, made_if, made_co, made_bn, made_bb, Bool.false_eq_true, if_false]
      rw [ev_compM (rs := (lefts1 lv x).map enc) enc (places lv) (fun m => decide (m < x) && ev2 (mn lv m x)) enc (by kernel_rfl)]
      · rfl
      · exact evI_sh (by simp [look_put', str_inj, i2]) (by simp [goOver]; omega)
      · rfl
      · intro m hm
        refine ⟨_, rfl, ?_, fun _ => by simp [ev_z, ev_none, ev_bool, ev_int, ev_name, ev_bin, ev_neg, ev_and, ev_ife, ev_cmp, ev_cut, ev_rev, ev_ixc, ev_ixn, ev_ixu, ev_ixb, ev_lst, ev_tup, ev_call, ev_lc, look_put', shOf]⟩
        have hhm := mem_places.mp hm
        have clt : compare .Lt (enc m) (enc x) = some (decide (m < x)) := by simp [cp_lt, cp_le, cp_gt, cp_ge, cp_eq, cp_ne, cp_eqb, cp_neb, cp_is, cp_isnt, cp_isb, cp_isntb, cp_eql, cp_nel]
        simp only [evTs_z, evTs_ni, evTs_on, evT_z, evT_no, evT_bo, evT_c1, evT_c2, evT_ca, evA_z, evA_an, evA_on, evA_ac, evA_oc]
        simp only [evB_z, evB_nm, evB_co, evB_bi, evB_un, evB_bo, evB_if, evB_cm, evB_su, evB_li, evB_tu, evB_ca, evB_lc, ev_z, ev_none, ev_bool, ev_int, ev_name, ev_bin, ev_neg, ev_and, ev_ife, ev_cmp, ev_cut, ev_rev, ev_ixc, ev_ixn, ev_ixu, ev_ixb, ev_lst, ev_tup, ev_call, ev_lc, look_put', look_freeOf, kindIn, str_inj, borrow, shOf, Option.bind_some, i1, i2, i3, String.reduceEq, if_true, if_false, clt]
        by_cases hlt : m < x
        · have hk := fun n => kept_ok n lv m x hl (Nat.le_of_lt hlt) hhm (has_lt hhx)
          simp only [hlt, decide_true, if_true, Bool.true_and]
          simp [isGlobal, kindIn, str_inj, fnOf_kp, evL_z, evL_ni, evL_co, ev_z, ev_none, ev_bool, ev_int, ev_name, ev_bin, ev_neg, ev_and, ev_ife, ev_cmp, ev_cut, ev_rev, ev_ixc, ev_ixn, ev_ixu, ev_ixb, ev_lst, ev_tup, ev_call, ev_lc, look_put', look_freeOf, i1, i2, shOf, hk, boolOf]
          by_cases q : (mn lv m x).fmod 2 = 0 <;> simp [ev2, q]
        · simp [hlt]
    have hrk : rank lv x < (places lv).length := rank_lt hx
    have hb1 := built_len (xs := (lefts1 lv x).map enc) (by simp; omega)
    have hb2 := built_len (xs := (lefts2 lv x).map enc) (by simp; omega)
    refine does_setitem (d := enc x) (xs := ((p.map fun p => (rank lv p, p)).foldl (fun f x => f.set x.1 (some x.2)) (List.replicate (places lv).length none)).map datN) (k := ((rank lv x : Nat) : Int)) (j := rank lv x) (by simp [ev_z, ev_none, ev_bool, ev_int, ev_name, ev_bin, ev_neg, ev_and, ev_ife, ev_cmp, ev_cut, ev_rev, ev_ixc, ev_ixn, ev_ixu, ev_ixb, ev_lst, ev_tup, ev_call, ev_lc, look_put', str_inj, shOf]) (by simp [look_put', str_inj, i3]) ?_ (by simp; omega) (by rw [List.length_map, hlen]; exact placeIn_nat hrk) (does_nil ⟨rfl, ?_⟩)
    · refine ev_binop (a := .int ((lefts1 lv x).length : Int)) (b := .int ((lefts2 lv x).length : Int)) ?_ ?_ (by simp [ar_add, ar_sub, ar_mul, ar_mod, ar_div, ar_cat, ar_rep, rank])
      · simp only [evB_z, evB_nm, evB_co, evB_bi, evB_un, evB_bo, evB_if, evB_cm, evB_su, evB_li, evB_tu, evB_ca, evB_lc]
        rw [ev_built (ds := [encs (lefts1 lv x)]) g2 fn_len (by simp [evBL_z, evBL_ni, evBL_co, evB_z, evB_nm, evB_co, evB_bi, evB_un, evB_bo, evB_if, evB_cm, evB_su, evB_li, evB_tu, evB_ca, evB_lc, look_put', str_inj, borrow]), hb1]; simp
      simp only [evB_z, evB_nm, evB_co, evB_bi, evB_un, evB_bo, evB_if, evB_cm, evB_su, evB_li, evB_tu, evB_ca, evB_lc]
      rw [ev_built (ds := [encs (lefts2 lv x)]) g2 fn_len ?_, hb2]
      · simp
      simp only [evBL_z, evBL_ni, evBL_co, evB_z, evB_nm, evB_co, evB_bi, evB_un, evB_bo, evB_if, evB_cm, evB_su, evB_li, evB_tu, evB_ca, evB_lc]
      rw [ev_compM (rs := (lefts2 lv x).map enc) enc (places lv) (fun m => decide (x < m) && !ev2 (mn lv x m)) enc (by kernel_rfl)]
      · rfl
      · exact evI_sh (by simp [look_put', str_inj, i2]) (by simp [goOver]; omega)
      · rfl
      · intro m hm
        refine ⟨_, rfl, ?_, fun _ => by simp [ev_z, ev_none, ev_bool, ev_int, ev_name, ev_bin, ev_neg, ev_and, ev_ife, ev_cmp, ev_cut, ev_rev, ev_ixc, ev_ixn, ev_ixu, ev_ixb, ev_lst, ev_tup, ev_call, ev_lc, look_put', shOf]⟩
        have hhm := mem_places.mp hm
        have clt : compare .Gt (enc m) (enc x) = some (decide (x < m)) := by simp [cp_lt, cp_le, cp_gt, cp_ge, cp_eq, cp_ne, cp_eqb, cp_neb, cp_is, cp_isnt, cp_isb, cp_isntb, cp_eql, cp_nel]
        simp only [evTs_z, evTs_ni, evTs_on, evT_z, evT_no, evT_bo, evT_c1, evT_c2, evT_ca, evA_z, evA_an, evA_on, evA_ac, evA_oc]
        simp only [evB_z, evB_nm, evB_co, evB_bi, evB_un, evB_bo, evB_if, evB_cm, evB_su, evB_li, evB_tu, evB_ca, evB_lc, ev_z, ev_none, ev_bool, ev_int, ev_name, ev_bin, ev_neg, ev_and, ev_ife, ev_cmp, ev_cut, ev_rev, ev_ixc, ev_ixn, ev_ixu, ev_ixb, ev_lst, ev_tup, ev_call, ev_lc, look_put', look_freeOf, kindIn, str_inj, borrow, shOf, Option.bind_some, i1, i2, i3, String.reduceEq, if_true, if_false, clt]
        by_cases hlt : x < m
        · have hk := fun n => kept_ok n lv x m hl (Nat.le_of_lt hlt) hhx (has_lt hhm)
          simp only [hlt, decide_true, if_true, Bool.true_and]
          simp [isGlobal, kindIn, str_inj, fnOf_kp, evL_z, evL_ni, evL_co, ev_z, ev_none, ev_bool, ev_int, ev_name, ev_bin, ev_neg, ev_and, ev_ife, ev_cmp, ev_cut, ev_rev, ev_ixc, ev_ixn, ev_ixu, ev_ixb, ev_lst, ev_tup, ev_call, ev_lc, look_put', look_freeOf, i1, i2, shOf, hk, boolOf]
          by_cases q : (mn lv x m).fmod 2 = 0 <;> simp [ev2, q]
        · simp [hlt]
    · simp [look_put', str_inj, i1, i2, List.foldl_append, datN]
  · rintro ρ ⟨i1, i2, i3⟩
    exact does_return (by simp [evB_z, evB_nm, evB_co, evB_bi, evB_un, evB_bo, evB_if, evB_cm, evB_su, evB_li, evB_tu, evB_ca, evB_lc, i3, borrow]; rfl) rfl
end Mine

namespace Mine
open PySem

theorem insT_perm (i : Int) (d : PyData) : ∀ l, (insT i d l).Perm ((i, d) :: l)
  | [] => .refl _
  | (j, e) :: r => by
    unfold insT
    split
    · exact .refl _
    · exact ((insT_perm i d r).cons (j, e)).trans (.swap _ _ _)
theorem sortT_perm : ∀ l, (sortT l).Perm l
  | [] => .refl _
  | (i, d) :: r => (insT_perm i d _).trans ((sortT_perm r).cons _)
theorem insT_sorted (i : Int) (d : PyData) : ∀ l : List (Int × PyData), l.Pairwise (fun a b => a.1 ≤ b.1) → (insT i d l).Pairwise (fun a b => a.1 ≤ b.1)
  | [], _ => by simp [insT]
  | (j, e) :: r, h => by
    have h' := List.pairwise_cons.mp h
    unfold insT
    split
    · rename_i hij
      refine List.pairwise_cons.mpr ⟨fun x hx => ?_, h⟩
      rcases List.mem_cons.mp hx with rfl | hx
      · exact hij
      · have := h'.1 x hx; simp at this ⊢; omega
    · rename_i hij
      refine List.pairwise_cons.mpr ⟨fun x hx => ?_, insT_sorted i d r h'.2⟩
      rcases List.mem_cons.mp ((insT_perm i d r).mem_iff.mp hx) with rfl | hx
      · simp; omega
      · exact h'.1 x hx
theorem sortT_sorted : ∀ l, (sortT l).Pairwise (fun a b => a.1 ≤ b.1)
  | [] => .nil
  | (i, d) :: r => insT_sorted i d _ (sortT_sorted r)

theorem firstsOf_tris : ∀ ts : List Tri, firstsOf (ts.map tri) = some (ts.map fun t => (t.1 : Int))
  | [] => rfl
  | t :: r => by
    simp only [List.map_cons, firstsOf, firstsOf_tris r]
    rfl
theorem zip_tris (ts : List Tri) : (ts.map fun t => (t.1 : Int)).zip (ts.map tri) = ts.map fun t => ((t.1 : Int), tri t) := by
  induction ts with
  | nil => rfl
  | cons t r ih => simp [ih]
theorem sorted_tris {st rs : List Tri} (hp : st.Perm rs) (hs : rs.Pairwise fun a b => a.1 < b.1) (hl : rs.length < 64) : sorted (st.map tri) = some (rs.map tri) := by
  have hlen := hp.length_eq
  have h64 : (st.map tri).length < 64 := by simp; omega
  simp only [sorted, h64, if_true]
  cases st with
  | nil =>
    have : rs = [] := List.nil_perm.mp hp
    subst this; rfl
  | cons t r =>
    have e1 : intsOf ((t :: r).map tri) = none := rfl
    rw [e1, firstsOf_tris]
    have hnd : ((t :: r).map fun t => (t.1 : Int)).Nodup := by
      have h1 : ((t :: r).map fun t => (t.1 : Int)).Perm (rs.map fun t => (t.1 : Int)) := hp.map _
      rw [h1.nodup_iff]
      refine List.pairwise_map.mpr (hs.imp fun h => ?_)
      omega
    simp only
    rw [if_pos hnd, zip_tris]
    have e2 : sortT ((t :: r).map fun t => ((t.1 : Int), tri t)) = rs.map fun t => ((t.1 : Int), tri t) := by
      refine List.Perm.eq_of_pairwise (le := fun a b => a.1 ≤ b.1) ?_ (sortT_sorted _) ?_ ((sortT_perm _).trans (hp.map _))
      · rintro a b ha hb h1 h2
        obtain ⟨x, hx, rfl⟩ := List.mem_map.mp ((sortT_perm _).mem_iff.mp ha)
        obtain ⟨y, hy, rfl⟩ := List.mem_map.mp hb
        have hx' : x ∈ rs := hp.mem_iff.mp hx
        have hxy : x.1 = y.1 := by simp at h1 h2; omega
        have : x = y := by
          obtain ⟨i, hi⟩ := List.mem_iff_getElem?.mp hx'
          obtain ⟨j, hj⟩ := List.mem_iff_getElem?.mp hy
          obtain ⟨hi1, hi2⟩ := List.getElem?_eq_some_iff.mp hi
          obtain ⟨hj1, hj2⟩ := List.getElem?_eq_some_iff.mp hj
          have hw := List.pairwise_iff_getElem.mp hs
          rcases Nat.lt_trichotomy i j with h | h | h
          · have := hw i j hi1 hj1 h; rw [hi2, hj2] at this; omega
          · subst h; rw [hi] at hj; exact Option.some.inj hj
          · have := hw j i hj1 hi1 h; rw [hi2, hj2] at this; omega
        rw [this]
      · exact List.pairwise_map.mpr (hs.imp fun h => by simp; omega)
    rw [e2, List.map_map]; rfl

noncomputable def block (lv : List (Option Int)) (t : Tri) : List Nat :=
  let some' := (List.range' t.1 (t.2.1 - t.1)).filter fun p => ((lv[p]?).getD none).isSome
  if t.2.2.fmod 2 == 0 then some' else some'.reverse

noncomputable def fTiled : Fn := fnNo 11 lawB
theorem fnOf_ti : fnOf lawT (Str.ofString "_law_tiled") = some fTiled := by kernel_rfl
theorem tiled_ok (n : Nat) (lv : List (Option Int)) (st : List Tri) (hl : lv.length ≤ 20) (hp : st.Perm (lineRuns lv)) (hs : (lineRuns lv).Pairwise fun a b => a.1 < b.1) (hb : ∀ t ∈ st, t.1 < t.2.1 ∧ t.2.1 ≤ lv.length) :
    evF lawT (n + 60) fTiled [dats lv, .list (st.map tri)] = some (encs (st.flatMap (block lv))) := by
  have hps : fTiled.params = [Str.ofString "levels", Str.ofString "stretches"] := by rfl
  refine evF_of hps (by conv => lhs; whnf) rfl ?_
  have s1 : storable fTiled.scope (Str.ofString "found") = true := by decide +kernel
  have s2 : storable fTiled.scope (Str.ofString "due") = true := by decide +kernel
  have s3 : storable fTiled.scope (Str.ofString "at") = true := by decide +kernel
  have s4 : storable fTiled.scope (Str.ofString "level") = true := by decide +kernel
  have s5 : storable fTiled.scope (Str.ofString "first") = true := by decide +kernel
  have s6 : storable fTiled.scope (Str.ofString "last") = true := by decide +kernel
  have s7 : storable fTiled.scope (Str.ofString "some") = true := by decide +kernel
  have g1 : isGlobal fTiled.scope (Str.ofString "enumerate") = true := by decide +kernel
  have g2 : isGlobal fTiled.scope (Str.ofString "sorted") = true := by decide +kernel
  have g4 : isGlobal fTiled.scope (Str.ofString "range") = true := by decide +kernel
  have hlen : (lineRuns lv).length ≤ 20 := by have := runsOf_length lv.zipIdx; simp at this; unfold lineRuns; omega
  have hstl := hp.length_eq
  have ci : ∀ a b : Int, compare .Eq (.int a) (.int b) = some (a == b) := fun _ _ => rfl
  have cn : ∀ a : PyData, compare .IsNot a .none = some (!isNone a) := fun a => by cases a <;> rfl
  refine does_pair (s := .own []) (t := .own []) (by kernel_rfl) (by decide +kernel) (by decide +kernel) rfl rfl ?_
  refine does_for (I := fun pre ρ => look ρ (Str.ofString "levels") = some (.sh (dats lv)) ∧ look ρ (Str.ofString "stretches") = some (.sh (.list (st.map tri))) ∧ look ρ (Str.ofString "found") = some (.own []) ∧ look ρ (Str.ofString "due") = some (.own ((runsOf pre).map tri)))
    (enc := fun (x : Option Int × Nat) => .tuple [enc x.2, dat x.1]) (items := lv.zipIdx) (by simp [targetSt, s3, s4]) ?_ ?_ ?_ ?_
  · rw [← pairsFrom_map]
    exact evI_enum g1 (by simp [ev_z, ev_none, ev_bool, ev_int, ev_name, ev_bin, ev_neg, ev_and, ev_ife, ev_cmp, ev_cut, ev_rev, ev_ixc, ev_ixn, ev_ixu, ev_ixb, ev_lst, ev_tup, ev_call, ev_lc, look_put', look, str_inj, shOf]) (by simp; omega)
  · simp [look_put', look, str_inj, runsOf]
  · rintro p ⟨o, k⟩ r ρ e ⟨i1, i2, i3, i4⟩
    have hlen := runsOf_length p
    have hp : p.length ≤ 20 := by
      have := congrArg List.length e
      simp at this; omega
    have estep : runsOf (p ++ [(o, k)]) = runStep (runsOf p) (o, k) := by simp [runsOf, List.foldl_append]
    refine ⟨_, rfl, ?_⟩
    cases o with
    | none =>
      refine does_if (b := false) ?_ (fun h => by cases h) (fun _ => ?_)
      · simp [evT_z, evT_no, evT_bo, evT_c1, evT_c2, evT_ca, evA_z, evA_an, evA_on, evA_ac, evA_oc, evB_z, evB_nm, evB_co, evB_bi, evB_un, evB_bo, evB_if, evB_cm, evB_su, evB_li, evB_tu, evB_ca, evB_lc, ev_z, ev_none, ev_bool, ev_int, ev_name, ev_bin, ev_neg, ev_and, ev_ife, ev_cmp, ev_cut, ev_rev, ev_ixc, ev_ixn, ev_ixu, ev_ixb, ev_lst, ev_tup, ev_call, ev_lc, look_put', str_inj, borrow, dat, cn, isNone]
      refine does_if (b := false) ?_ (fun h => by cases h) (fun _ => ?_)
      · simp [evT_z, evT_no, evT_bo, evT_c1, evT_c2, evT_ca, evA_z, evA_an, evA_on, evA_ac, evA_oc, evB_z, evB_nm, evB_co, evB_bi, evB_un, evB_bo, evB_if, evB_cm, evB_su, evB_li, evB_tu, evB_ca, evB_lc, ev_z, ev_none, ev_bool, ev_int, ev_name, ev_bin, ev_neg, ev_and, ev_ife, ev_cmp, ev_cut, ev_rev, ev_ixc, ev_ixn, ev_ixu, ev_ixb, ev_lst, ev_tup, ev_call, ev_lc, look_put', str_inj, borrow, dat, cn, isNone]
      · refine does_nil (does_nil (does_nil ⟨rfl, ?_⟩))
        rw [estep]
        simp [look_put', str_inj, i1, i2, i3, i4, runStep]
    | some v =>
      cases hL : (runsOf p).getLast? with
      | none =>
        have hnil : runsOf p = [] := by simpa using hL
        have hn := ne_lists (xs := (runsOf p).map tri) (ys := []) (b := false) (tris_tame _) rfl (by simp [hnil])
        refine does_if (b := false) ?_ (fun h => by cases h) (fun _ => ?_)
        · simp [evT_z, evT_no, evT_bo, evT_c1, evT_c2, evT_ca, evA_z, evA_an, evA_on, evA_ac, evA_oc, evB_z, evB_nm, evB_co, evB_bi, evB_un, evB_bo, evB_if, evB_cm, evB_su, evB_li, evB_tu, evB_ca, evB_lc, ev_z, ev_none, ev_bool, ev_int, ev_name, ev_bin, ev_neg, ev_and, ev_ife, ev_cmp, ev_cut, ev_rev, ev_ixc, ev_ixn, ev_ixu, ev_ixb, ev_lst, ev_tup, ev_call, ev_lc, evL_z, evL_ni, evL_co, look_put', str_inj, i4, borrow, hn, cn, dat, isNone]
        refine does_if (b := true) ?_ (fun _ => ?_) (fun h => by cases h)
        · simp [evT_z, evT_no, evT_bo, evT_c1, evT_c2, evT_ca, evA_z, evA_an, evA_on, evA_ac, evA_oc, evB_z, evB_nm, evB_co, evB_bi, evB_un, evB_bo, evB_if, evB_cm, evB_su, evB_li, evB_tu, evB_ca, evB_lc, ev_z, ev_none, ev_bool, ev_int, ev_name, ev_bin, ev_neg, ev_and, ev_ife, ev_cmp, ev_cut, ev_rev, ev_ixc, ev_ixn, ev_ixu, ev_ixb, ev_lst, ev_tup, ev_call, ev_lc, look_put', str_inj, borrow, dat, cn, isNone]
        · refine does_append (d := tri (k, k + 1, v)) rfl (by simp [look_put', str_inj]; exact i4) ?_ (by simp; omega) (does_nil (does_nil (does_nil ⟨rfl, ?_⟩)))
          · simp [ev_z, ev_none, ev_bool, ev_int, ev_name, ev_bin, ev_neg, ev_and, ev_ife, ev_cmp, ev_cut, ev_rev, ev_ixc, ev_ixn, ev_ixu, ev_ixb, ev_lst, ev_tup, ev_call, ev_lc, evL_z, evL_ni, evL_co, evB_z, evB_nm, evB_co, evB_bi, evB_un, evB_bo, evB_if, evB_cm, evB_su, evB_li, evB_tu, evB_ca, evB_lc, look_put', str_inj, shOf, borrow, dat, ar_add, ar_sub, ar_mul, ar_mod, ar_div, ar_cat, ar_rep, tri, enc]
          · rw [estep]
            simp [look_put', str_inj, i1, i2, i3, i4, runStep, hL]
      | some l =>
        have hne : runsOf p ≠ [] := by intro e; rw [e] at hL; simp at hL
        obtain ⟨hi, hpl⟩ := last_item hL (by omega)
        have hn := ne_lists (xs := (runsOf p).map tri) (ys := []) (b := true) (tris_tame _) rfl (by simp [hne])
        refine does_if (b := decide (l.2.2 = v)) ?_ (fun hb => ?_) (fun hb => ?_)
        · simp [evT_z, evT_no, evT_bo, evT_c1, evT_c2, evT_ca, evA_z, evA_an, evA_on, evA_ac, evA_oc, evB_z, evB_nm, evB_co, evB_bi, evB_un, evB_bo, evB_if, evB_cm, evB_su, evB_li, evB_tu, evB_ca, evB_lc, ev_z, ev_none, ev_bool, ev_int, ev_name, ev_bin, ev_neg, ev_and, ev_ife, ev_cmp, ev_cut, ev_rev, ev_ixc, ev_ixn, ev_ixu, ev_ixb, ev_lst, ev_tup, ev_call, ev_lc, evL_z, evL_ni, evL_co, look_put', str_inj, i4, borrow, hn, intOf, hi, tri_item2, ci, cn, shOf, dat, isNone]
          by_cases q : l.2.2 = v <;> simp [q]
        · have hb' : l.2.2 = v := by simpa using hb
          refine does_setitem (d := tri (l.1, k + 1, v)) (xs := (runsOf p).map tri) (k := -1) (j := (runsOf p).length - 1) ?_ (by simp [look_put', str_inj, i4]) (by simp [ev_z, ev_none, ev_bool, ev_int, ev_name, ev_bin, ev_neg, ev_and, ev_ife, ev_cmp, ev_cut, ev_rev, ev_ixc, ev_ixn, ev_ixu, ev_ixb, ev_lst, ev_tup, ev_call, ev_lc, intOf]) (by simp; omega) (by rw [List.length_map]; exact hpl) (does_nil (does_nil ⟨rfl, ?_⟩))
          · simp [ev_z, ev_none, ev_bool, ev_int, ev_name, ev_bin, ev_neg, ev_and, ev_ife, ev_cmp, ev_cut, ev_rev, ev_ixc, ev_ixn, ev_ixu, ev_ixb, ev_lst, ev_tup, ev_call, ev_lc, evL_z, evL_ni, evL_co, evB_z, evB_nm, evB_co, evB_bi, evB_un, evB_bo, evB_if, evB_cm, evB_su, evB_li, evB_tu, evB_ca, evB_lc, look_put', str_inj, shOf, borrow, dat, ar_add, ar_sub, ar_mul, ar_mod, ar_div, ar_cat, ar_rep, i4, intOf, hi, tri_item0, tri, enc]
          · rw [estep, set_last hne]
            simp [look_put', str_inj, i1, i2, i3, i4, runStep, hL, hb']
        · have hb' : ¬ l.2.2 = v := by simpa using hb
          refine does_if (b := true) ?_ (fun _ => ?_) (fun h => by cases h)
          · simp [evT_z, evT_no, evT_bo, evT_c1, evT_c2, evT_ca, evA_z, evA_an, evA_on, evA_ac, evA_oc, evB_z, evB_nm, evB_co, evB_bi, evB_un, evB_bo, evB_if, evB_cm, evB_su, evB_li, evB_tu, evB_ca, evB_lc, ev_z, ev_none, ev_bool, ev_int, ev_name, ev_bin, ev_neg, ev_and, ev_ife, ev_cmp, ev_cut, ev_rev, ev_ixc, ev_ixn, ev_ixu, ev_ixb, ev_lst, ev_tup, ev_call, ev_lc, look_put', str_inj, borrow, dat, cn, isNone]
          refine does_append (d := tri (k, k + 1, v)) rfl (by simp [look_put', str_inj]; exact i4) ?_ (by simp; omega) (does_nil (does_nil (does_nil ⟨rfl, ?_⟩)))
          · simp [ev_z, ev_none, ev_bool, ev_int, ev_name, ev_bin, ev_neg, ev_and, ev_ife, ev_cmp, ev_cut, ev_rev, ev_ixc, ev_ixn, ev_ixu, ev_ixb, ev_lst, ev_tup, ev_call, ev_lc, evL_z, evL_ni, evL_co, evB_z, evB_nm, evB_co, evB_bi, evB_un, evB_bo, evB_if, evB_cm, evB_su, evB_li, evB_tu, evB_ca, evB_lc, look_put', str_inj, shOf, borrow, dat, ar_add, ar_sub, ar_mul, ar_mod, ar_div, ar_cat, ar_rep, tri, enc]
          · rw [estep]
            simp [look_put', str_inj, i1, i2, i3, i4, runStep, hL, hb']
  · rintro ρ ⟨i1, i2, i3, i4⟩
    have hsort := sorted_tris hp hs (by omega)
    refine does_if (b := false) ?_ (fun h => by cases h) (fun _ => ?_)
    · simp only [evT_z, evT_no, evT_bo, evT_c1, evT_c2, evT_ca, evB_z, evB_nm, evB_co, evB_bi, evB_un, evB_bo, evB_if, evB_cm, evB_su, evB_li, evB_tu, evB_ca, evB_lc]
      rw [ev_built (ds := [.list (st.map tri)]) g2 fn_sorted, built_sorted, hsort]
      · simp only [Option.map_some, Option.bind_some, i4, borrow]
        exact ne_lists (tris_tame _) (tris_tame _) (by simp [lineRuns])
      · simp only [evBL_z, evBL_ni, evBL_co, evB_z, evB_nm, evB_co, evB_bi, evB_un, evB_bo, evB_if, evB_cm, evB_su, evB_li, evB_tu, evB_ca, evB_lc]
        rw [ev_compM (rs := st.map tri) tri st (fun _ => true) tri (by kernel_rfl)]
        · rfl
        · exact evI_sh i2 (by simp [goOver]; omega)
        · rw [List.filter_eq_self.mpr (fun _ _ => rfl)]
        · intro t ht
          refine ⟨_, rfl, by simp [evTs_z, evTs_ni, evTs_on], fun _ => ?_⟩
          rw [ev_built (ds := [tri t]) (by simp [isGlobal, kindIn, str_inj]) fn_tuple (by simp [evBL_z, evBL_ni, evBL_co, evB_z, evB_nm, evB_co, evB_bi, evB_un, evB_bo, evB_if, evB_cm, evB_su, evB_li, evB_tu, evB_ca, evB_lc, look_put', borrow]), built_tuple]
    refine does_nil ?_
    have hblk : ∀ t ∈ st, (block lv t).length ≤ 20 := fun t ht => by
      have := hb t ht
      unfold block
      have h1 : ((List.range' t.1 (t.2.1 - t.1)).filter fun p => ((lv[p]?).getD none).isSome).length ≤ 20 := Nat.le_trans (List.length_filter_le _ _) (by simp; omega)
      simp only
      split
      · exact h1
      · simpa using h1
    have hfm : ∀ q : List Tri, (∀ t ∈ q, t ∈ st) → (q.flatMap (block lv)).length ≤ 20 * q.length := fun q hq => by
      induction q with
      | nil => simp
      | cons t r ih =>
        have h1 := hblk t (hq t List.mem_cons_self)
        have h2 := ih fun u hu => hq u (List.mem_cons_of_mem _ hu)
        rw [List.flatMap_cons, List.length_append, List.length_cons]; omega
    refine does_for (I := fun pre ρ => look ρ (Str.ofString "levels") = some (.sh (dats lv)) ∧ borrow (look ρ (Str.ofString "found")) = some (encs (pre.flatMap (block lv)))) (enc := tri) (items := st) (by simp [targetSt, s4, s5, s6]) ?_ ?_ ?_ ?_
    · exact evI_sh i2 (by simp [goOver, isTupD]; omega)
    · simp [i1, i3, borrow]
    · rintro p t r ρ e ⟨j1, j2⟩
      have ht : t ∈ st := by rw [e]; simp
      have htl := hb t ht
      have hbt := hblk t ht
      have hps := hfm p fun u hu => by rw [e]; simp [hu]
      have hpl : p.length ≤ 20 := by
        have := congrArg List.length e
        simp at this; omega
      let som := (List.range' t.1 (t.2.1 - t.1)).filter fun p => ((lv[p]?).getD none).isSome
      have hsom : som.length ≤ 20 := Nat.le_trans (List.length_filter_le _ _) (by simp; omega)
      refine ⟨_, rfl, ?_⟩
      refine does_assign s7 (s := .sh (encs som)) ?_ ?_
      · simp only [evG_z, evG_eq, made_ni, made_mu, made_ca, made_lc, made_su, made_if, made_co, made_bn, made_bb, Bool.false_eq_true, if_false]
        rw [ev_compM (rs := som.map enc) enc (List.range' t.1 (t.2.1 - t.1)) (fun p => ((lv[p]?).getD none).isSome) enc (by kernel_rfl)]
        · rfl
        · have hr := rangeOf_two (a := t.1) (b := t.2.1) (by omega) (by omega)
          exact evI_range (ds := [enc t.1, enc t.2.1]) g4 (by simp [evBL_z, evBL_ni, evBL_co, evB_z, evB_nm, evB_co, evB_bi, evB_un, evB_bo, evB_if, evB_cm, evB_su, evB_li, evB_tu, evB_ca, evB_lc, look_put', str_inj, borrow]) hr
        · rfl
        · intro x hx
          have hxl : x < lv.length := by have := List.mem_range'_1.mp hx; omega
          have ex := itemOf_dats (lv := lv) (p := x) (by omega) (List.getElem?_eq_getElem hxl)
          refine ⟨_, rfl, ?_, fun _ => by simp [ev_z, ev_none, ev_bool, ev_int, ev_name, ev_bin, ev_neg, ev_and, ev_ife, ev_cmp, ev_cut, ev_rev, ev_ixc, ev_ixn, ev_ixu, ev_ixb, ev_lst, ev_tup, ev_call, ev_lc, look_put', shOf]⟩
          simp [evTs_z, evTs_ni, evTs_on, evT_z, evT_no, evT_bo, evT_c1, evT_c2, evT_ca, evB_z, evB_nm, evB_co, evB_bi, evB_un, evB_bo, evB_if, evB_cm, evB_su, evB_li, evB_tu, evB_ca, evB_lc, ev_z, ev_none, ev_bool, ev_int, ev_name, ev_bin, ev_neg, ev_and, ev_ife, ev_cmp, ev_cut, ev_rev, ev_ixc, ev_ixn, ev_ixu, ev_ixb, ev_lst, ev_tup, ev_call, ev_lc, look_put', look_freeOf, kindIn, look, str_inj, borrow, shOf, intOf, ex, cn, j1, List.getElem?_eq_getElem hxl]
          cases lv[x] <;> rfl
      refine does_assign s1 (s := .sh (encs (p.flatMap (block lv) ++ block lv t))) ?_ (does_nil ⟨rfl, ?_⟩)
      · simp only [evG_z, evG_eq, made_ni, made_mu, made_ca, made_lc, made_su, made_if, made_co, made_bn, made_bb, Bool.false_eq_true, if_false]
        rw [ev_binop (a := encs (p.flatMap (block lv))) (b := encs (block lv t)) (d := encs (p.flatMap (block lv) ++ block lv t))]
        · rfl
        · simp [evB_z, evB_nm, evB_co, evB_bi, evB_un, evB_bo, evB_if, evB_cm, evB_su, evB_li, evB_tu, evB_ca, evB_lc, look_put', str_inj, j2]
        · have am : arith .Mod (.int t.2.2) (.int 2) = some (.int (t.2.2.fmod 2)) := by simp [ar_add, ar_sub, ar_mul, ar_mod, ar_div, ar_cat, ar_rep]
          simp only [evB_z, evB_nm, evB_co, evB_bi, evB_un, evB_bo, evB_if, evB_cm, evB_su, evB_li, evB_tu, evB_ca, evB_lc, ev_z, ev_none, ev_bool, ev_int, ev_name, ev_bin, ev_neg, ev_and, ev_ife, ev_cmp, ev_cut, ev_rev, ev_ixc, ev_ixn, ev_ixu, ev_ixb, ev_lst, ev_tup, ev_call, ev_lc, evT_z, evT_no, evT_bo, evT_c1, evT_c2, evT_ca, look_put', str_inj, String.reduceEq, if_true, if_false, shOf, borrow, Option.bind_some, am, ci]
          by_cases q : t.2.2.fmod 2 = 0
          · have q' : (t.2.2.fmod 2 == 0) = true := by simpa using q
            have eb : block lv t = som := by unfold block; simp only [q', if_true]; rfl
            simp [q, eb, look_put', str_inj, shOf]
          · have q' : (t.2.2.fmod 2 == 0) = false := by simpa using q
            have eb : block lv t = som.reverse := by unfold block; simp only [q', Bool.false_eq_true, if_false]; rfl
            simp [q, eb, look_put', str_inj, borrow, listOf]
            omega
        · simp only [ar_add, ar_sub, ar_mul, ar_mod, ar_div, ar_cat, ar_rep, List.length_map]
          rw [if_pos (by omega), ← List.map_append]
      · simp [look_put', str_inj, j1, borrow]
    · rintro ρ ⟨j1, j2⟩
      exact does_return (by simp [evB_z, evB_nm, evB_co, evB_bi, evB_un, evB_bo, evB_if, evB_cm, evB_su, evB_li, evB_tu, evB_ca, evB_lc, j2]) rfl
end Mine

namespace Mine
open PySem

/-! ### turning runs about, and what it does to an order -/
section
variable {S S' : Nat → Nat → Prop} {q : Nat → Bool}
structure TurnInv (S' : Nat → Nat → Prop) (q : Nat → Bool) (pre : List Nat) (s : List Nat × List Nat) : Prop where
  ex : ∃ A, pre = A ++ s.2 ∧ s.1.Perm A ∧ (A = [] ∨ ∃ A' c, A = A' ++ [c] ∧ q c = false)
  run : ∀ x ∈ s.2, q x = true
  ok : s.1.Pairwise S'
theorem turn_flush {ord pre post : List Nat} {s : List Nat × List Nat} (he : ord = pre ++ post) (hs : ord.Pairwise S) (asym : ∀ x y, S x y → ¬ S y x)
    (hrev : ∀ x y, x ∈ ord → y ∈ ord → S x y → q x = true → q y = true → (∀ c ∈ ord, S x c → S c y → q c = true) → S' y x)
    (hkeep : ∀ x y, x ∈ ord → y ∈ ord → S x y → (q x = false ∨ q y = false ∨ ∃ c ∈ ord, S x c ∧ S c y ∧ q c = false) → S' x y)
    (I : TurnInv S' q pre s) : (s.1 ++ s.2.reverse).Pairwise S' := by
  obtain ⟨A, e, hp, hA⟩ := I.ex
  have e2 : ord = A ++ (s.2 ++ post) := by rw [he, e, List.append_assoc]
  have hs' := hs
  rw [e2] at hs'
  obtain ⟨sA, sR, sAR⟩ := List.pairwise_append.mp hs'
  obtain ⟨sR', sP, sRP⟩ := List.pairwise_append.mp sR
  have inA : ∀ x ∈ A, x ∈ ord := fun x hx => by rw [e2]; simp [hx]
  have inR : ∀ x ∈ s.2, x ∈ ord := fun x hx => by rw [e2]; simp [hx]
  refine List.pairwise_append.mpr ⟨I.ok, ?_, fun x hx y hy => ?_⟩
  · rw [List.pairwise_reverse]
    have hall : ∀ x ∈ s.2, ∀ y ∈ s.2, S x y → S' y x := fun x hx y hy hxy => by
      refine hrev x y (inR x hx) (inR y hy) hxy (I.run x hx) (I.run y hy) fun c hc h1 h2 => ?_
      rw [e2] at hc
      rcases List.mem_append.mp hc with hc | hc
      · exact absurd (sAR c hc x (List.mem_append_left _ hx)) (asym _ _ h1)
      · rcases List.mem_append.mp hc with hc | hc
        · exact I.run c hc
        · exact absurd (sRP y hy c hc) (asym _ _ h2)
    exact List.Pairwise.imp_of_mem (fun {a b} ha hb h => hall a ha b hb h) sR'
  · have hx' : x ∈ A := hp.mem_iff.mp hx
    have hy' : y ∈ s.2 := List.mem_reverse.mp hy
    have hxy := sAR x hx' y (List.mem_append_left _ hy')
    refine hkeep x y (inA x hx') (inR y hy') hxy ?_
    rcases hA with rfl | ⟨A', c, rfl, hc⟩
    · cases hx'
    · rcases List.mem_append.mp hx' with h | h
      · have h1 := (List.pairwise_append.mp sA).2.2 x h c (by simp)
        exact .inr (.inr ⟨c, inA c (by simp), h1, sAR c (by simp) y (List.mem_append_left _ hy'), hc⟩)
      · rw [List.mem_singleton.mp h]; exact .inl hc
theorem turned_pairwise {ord : List Nat} (hs : ord.Pairwise S) (asym : ∀ x y, S x y → ¬ S y x)
    (hrev : ∀ x y, x ∈ ord → y ∈ ord → S x y → q x = true → q y = true → (∀ c ∈ ord, S x c → S c y → q c = true) → S' y x)
    (hkeep : ∀ x y, x ∈ ord → y ∈ ord → S x y → (q x = false ∨ q y = false ∨ ∃ c ∈ ord, S x c ∧ S c y ∧ q c = false) → S' x y) : (turned q ord).Pairwise S' := by
  have go : ∀ (post pre : List Nat) (s : List Nat × List Nat), ord = pre ++ post → TurnInv S' q pre s → TurnInv S' q ord (post.foldl (turnStep q) s) := fun post => by
    induction post with
    | nil => intro pre s he I; simpa [he] using I
    | cons p r ih =>
      intro pre s he I
      rw [List.foldl_cons]
      refine ih (pre ++ [p]) _ (by rw [he]; simp) ?_
      unfold turnStep
      obtain ⟨A, e, hp, hA⟩ := I.ex
      by_cases hq : q p = true
      · rw [if_pos hq]
        exact ⟨⟨A, by rw [e]; simp, hp, hA⟩, fun x hx => by
          rcases List.mem_append.mp hx with h | h
          · exact I.run x h
          · rw [List.mem_singleton.mp h]; exact hq, I.ok⟩
      · have hq' : q p = false := by simpa using hq
        rw [if_neg hq]
        have fl := turn_flush he hs asym hrev hkeep I
        refine ⟨⟨pre ++ [p], by simp, ?_, .inr ⟨pre, p, rfl, hq'⟩⟩, by simp, ?_⟩
        · simp only
          refine List.Perm.append_right _ ?_
          rw [e]
          exact (List.Perm.append_left _ (List.reverse_perm _)).trans (hp.append_right _)
        · simp only
          refine List.pairwise_append.mpr ⟨fl, by simp, fun x hx y hy => ?_⟩
          rw [List.mem_singleton.mp hy]
          have hx' : x ∈ pre := by
            rw [e]
            rcases List.mem_append.mp hx with h | h
            · exact List.mem_append_left _ (hp.mem_iff.mp h)
            · exact List.mem_append_right _ (List.mem_reverse.mp h)
          rw [he] at hs
          have hxp := (List.pairwise_append.mp hs).2.2 x hx' p (by simp)
          exact hkeep x p (by rw [he]; simp [hx']) (by rw [he]; simp) hxp (.inr (.inl hq'))
  have I := go ord [] ([], []) (by simp) ⟨⟨[], rfl, .refl _, .inl rfl⟩, by simp, by simp⟩
  exact turn_flush (post := []) (by simp) hs asym hrev hkeep I
end

/-! ### the least level between two places, whichever comes first -/
noncomputable def lo (lv : List (Option Int)) (x y : Nat) : Int := if x ≤ y then mn lv x y else mn lv y x
theorem lo_comm (lv : List (Option Int)) (x y : Nat) : lo lv x y = lo lv y x := by
  unfold lo
  by_cases h : x ≤ y <;> by_cases h' : y ≤ x
  · have : x = y := by omega
    subst this; rfl
  · rw [if_pos h, if_neg h']
  · rw [if_neg h, if_pos h']
  · omega
theorem lo_le {lv : List (Option Int)} {x y c : Nat} (hx : Has lv x) (hy : Has lv y) (hc : Has lv c) (h : (x ≤ c ∧ c ≤ y) ∨ (y ≤ c ∧ c ≤ x)) : lo lv x y ≤ val lv c := by
  unfold lo
  split
  · rcases h with h | h
    · exact mn_le hx h.1 h.2 hc
    · exact mn_le hx (by omega) (by omega) hc
  · rcases h with h | h
    · omega
    · exact mn_le hy h.1 h.2 hc
theorem lo_mem {lv : List (Option Int)} {x y : Nat} (hx : Has lv x) (hy : Has lv y) : ∃ c, ((x ≤ c ∧ c ≤ y) ∨ (y ≤ c ∧ c ≤ x)) ∧ Has lv c ∧ lo lv x y = val lv c := by
  unfold lo
  split
  · obtain ⟨c, h1, h2, h3, h4⟩ := mn_mem hx (by assumption)
    exact ⟨c, .inl ⟨h1, h2⟩, h3, h4⟩
  · obtain ⟨c, h1, h2, h3, h4⟩ := mn_mem (a := y) (b := x) hy (by omega)
    exact ⟨c, .inr ⟨h1, h2⟩, h3, h4⟩

/-- the order after the turns down to l -/
noncomputable def Stage (lv : List (Option Int)) (l : Int) (x y : Nat) : Prop := x ≠ y ∧ (x < y ↔ (lo lv x y < l ∨ (lo lv x y - l) % 2 = 1))
theorem stage_asym {lv : List (Option Int)} {l : Int} (x y : Nat) (h : Stage lv l x y) : ¬ Stage lv l y x := by
  rintro ⟨h1, h2⟩
  obtain ⟨h3, h4⟩ := h
  rw [lo_comm] at h2
  have : x < y ↔ y < x := h4.trans h2.symm
  omega
theorem stage_turn {lv : List (Option Int)} {l : Int} {ord : List Nat} (hp : ord.Perm (places lv)) (hs : ord.Pairwise (Stage lv (l + 1))) : (turnAt lv ord l).Pairwise (Stage lv l) := by
  have has : ∀ x ∈ ord, Has lv x := fun x hx => mem_places.mp (hp.mem_iff.mp hx)
  have mem : ∀ x, Has lv x → x ∈ ord := fun x hx => hp.mem_iff.mpr (mem_places.mpr hx)
  refine turned_pairwise hs stage_asym (fun x y hx hy hxy qx qy hall => ?_) fun x y hx hy hxy hsep => ?_
  · have Hx := has x hx
    have Hy := has y hy
    have qx' : l ≤ val lv x := by simpa using qx
    have qy' : l ≤ val lv y := by simpa using qy
    obtain ⟨hne, hiff⟩ := hxy
    have hge : l ≤ lo lv x y := by
      rcases Int.lt_or_le (lo lv x y) l with h | h
      · exfalso
        obtain ⟨c, hb, Hc, e⟩ := lo_mem Hx Hy
        have hcx : c ≠ x := by rintro rfl; omega
        have hcy : c ≠ y := by rintro rfl; omega
        have hlt : x < y := hiff.mpr (.inl (by omega))
        have hb' : x ≤ c ∧ c ≤ y := by omega
        have l1 := lo_le Hx Hc Hc (.inl ⟨hb'.1, Nat.le_refl _⟩)
        have l2 := lo_le Hc Hy Hc (.inl ⟨Nat.le_refl _, hb'.2⟩)
        have s1 : Stage lv (l + 1) x c := ⟨fun q => hcx q.symm, ⟨fun _ => .inl (by omega), fun _ => by omega⟩⟩
        have s2 : Stage lv (l + 1) c y := ⟨hcy, ⟨fun _ => .inl (by omega), fun _ => by omega⟩⟩
        have := hall c (mem c Hc) s1 s2
        have hv : l ≤ val lv c := by simpa using this
        omega
      · exact h
    refine ⟨fun q => hne q.symm, ?_⟩
    rw [lo_comm]
    constructor
    · intro h
      right
      have : ¬ (lo lv x y < l + 1 ∨ (lo lv x y - (l + 1)) % 2 = 1) := fun q => by have := hiff.mpr q; omega
      omega
    · intro h
      have : ¬ x < y := fun q => by have := hiff.mp q; omega
      omega
  · have Hx := has x hx
    have Hy := has y hy
    obtain ⟨hne, hiff⟩ := hxy
    have hlt : lo lv x y < l := by
      rcases hsep with h | h | ⟨c, hc, s1, s2, h⟩
      · have := lo_le Hx Hy Hx (by omega)
        have : ¬ l ≤ val lv x := by simpa using h
        omega
      · have := lo_le Hx Hy Hy (by omega)
        have : ¬ l ≤ val lv y := by simpa using h
        omega
      · have Hc := has c hc
        have hv : ¬ l ≤ val lv c := by simpa using h
        have l1 := lo_le Hx Hc Hc (by omega)
        have l2 := lo_le Hc Hy Hc (by omega)
        have t1 : x < c := s1.2.mpr (.inl (by omega))
        have t2 : c < y := s2.2.mpr (.inl (by omega))
        have := lo_le Hx Hy Hc (by omega)
        omega
    refine ⟨hne, ⟨fun _ => .inl hlt, fun _ => hiff.mpr (.inl (by omega))⟩⟩
theorem ev2_emod (v : Int) : ev2 v = decide (v % 2 = 0) := by
  unfold ev2
  rw [Int.fmod_eq_emod_of_nonneg _ (by decide)]
  by_cases h : v % 2 = 0 <;> simp [h]
theorem fmod1 (v : Int) : (v.fmod 2 == 1) = decide (v % 2 = 1) := by
  rw [Int.fmod_eq_emod_of_nonneg _ (by decide)]
  by_cases h : v % 2 = 1 <;> simp [h]
theorem lft_lo {lv : List (Option Int)} {x y : Nat} (hne : x ≠ y) (h : x < y ↔ (lo lv x y) % 2 = 0) : lft lv x y = true := by
  unfold lft lo at *
  rw [ev2_emod, ev2_emod]
  by_cases h1 : x < y
  · have h2 : ¬ y < x := by omega
    have h3 : x ≤ y := by omega
    rw [if_pos h3] at h
    simp [h1, h2]; omega
  · have h2 : y < x := by omega
    have h3 : ¬ x ≤ y := by omega
    rw [if_neg h3] at h
    simp [h1, h2]; omega
theorem stage_fold {lv : List (Option Int)} (top : Int) (h0 : (places lv).Pairwise (Stage lv (top + 1))) : ∀ k : Nat, (((List.range k).map fun (j : Nat) => top - (j : Int)).foldl (turnAt lv) (places lv)).Pairwise (Stage lv (top + 1 - k))
  | 0 => by simpa using h0
  | k + 1 => by
    rw [List.range_succ, List.map_append, List.foldl_append]
    have ih := stage_fold top h0 k
    have hp := turnAts_perm lv ((List.range k).map fun (j : Nat) => top - (j : Int)) (places lv)
    have e : top + 1 - ((k : Nat) : Int) = (top - (k : Int)) + 1 := by omega
    rw [e] at ih
    have := stage_turn hp ih
    have e2 : top + 1 - ((k + 1 : Nat) : Int) = top - (k : Int) := by omega
    rw [e2]
    exact this
theorem sortI_sorted' : ∀ l, (sortI l).Pairwise (· ≤ ·) := by
  have ins : ∀ (i : Int) (l : List Int), l.Pairwise (· ≤ ·) → (insI i l).Pairwise (· ≤ ·) ∧ ∀ x, x ∈ insI i l ↔ x = i ∨ x ∈ l := fun i l => by
    induction l with
    | nil => intro _; simp [insI]
    | cons j r ih =>
      intro h
      have h' := List.pairwise_cons.mp h
      unfold insI
      split
      · rename_i hij
        refine ⟨List.pairwise_cons.mpr ⟨fun x hx => ?_, h⟩, fun x => by simp⟩
        rcases List.mem_cons.mp hx with rfl | hx
        · exact hij
        · have := h'.1 x hx; omega
      · rename_i hij
        obtain ⟨i1, i2⟩ := ih h'.2
        refine ⟨List.pairwise_cons.mpr ⟨fun x hx => ?_, i1⟩, fun x => ?_⟩
        · rcases (i2 x).mp hx with rfl | hx
          · omega
          · exact h'.1 x hx
        · rw [List.mem_cons, i2, List.mem_cons]
          constructor
          · rintro (h | h | h) <;> simp [h]
          · rintro (h | h | h) <;> simp [h]
  intro l
  induction l with
  | nil => exact .nil
  | cons i r ih => exact (ins i _ ih).1

set_option tactic.hygienic true in
/-- the row's order stands as it must -/
theorem reord_lft (lv : List (Option Int)) : (reord lv).Pairwise fun a b => lft lv a b = true := by
  have hP := places_sorted lv
  have has : ∀ x ∈ places lv, Has lv x := fun x hx => mem_places.mp hx
  have hvals : ∀ x, Has lv x → val lv x ∈ sortI (vals lv) := fun x hx => sortI_mem.mpr (List.mem_map.mpr ⟨x, mem_places.mpr hx, rfl⟩)
  have hmem : ∀ x ∈ reord lv, Has lv x := fun x hx => has x ((reord_perm lv).mem_iff.mp hx)
  unfold reord at hmem ⊢
  split
  · rename_i ho
    refine List.Pairwise.imp_of_mem (fun {a b} ha hb h => ?_) hP
    refine lft_lo (by omega) ⟨fun _ => ?_, fun _ => h⟩
    obtain ⟨c, _, Hc, e⟩ := lo_mem (has a ha) (has b hb)
    have hin := hvals c Hc
    rw [e]
    by_cases q : val lv c % 2 = 1
    · have : val lv c ∈ odds lv := List.mem_filter.mpr ⟨hin, by rw [fmod1]; simpa using q⟩
      rw [ho] at this; cases this
    · omega
  · rename_i o r ho
    rw [ho] at hmem
    have homem : o ∈ odds lv := by rw [ho]; simp
    have hom := List.mem_filter.mp homem
    have hodd : o % 2 = 1 := by have := hom.2; rw [fmod1] at this; simpa using this
    have hleast : ∀ v ∈ odds lv, o ≤ v := fun v hv => by
      have hs : (odds lv).Pairwise (· ≤ ·) := List.Pairwise.filter _ (sortI_sorted' _)
      rw [ho] at hs hv
      rcases List.mem_cons.mp hv with rfl | hv
      · omega
      · exact (List.pairwise_cons.mp hs).1 v hv
    have hne : sortI (vals lv) ≠ [] := fun e => by have := hom.1; rw [e] at this; cases this
    have hlast : (sortI (vals lv)).getLast? = some ((sortI (vals lv)).getLast hne) := List.getLast?_eq_some_getLast hne
    have htop : ∀ v ∈ sortI (vals lv), v ≤ (sortI (vals lv)).getLast hne := fun v hv => by
      have hs := sortI_sorted' (vals lv)
      obtain ⟨ys, y, e⟩ := List.eq_nil_or_concat (sortI (vals lv)) |>.resolve_left hne
      rw [List.concat_eq_append] at e
      have e2 : (sortI (vals lv)).getLast hne = y := by simp [e]
      rw [e2]
      rw [e] at hs hv
      rcases List.mem_append.mp hv with h | h
      · exact (List.pairwise_append.mp hs).2.2 v h y (by simp)
      · rw [List.mem_singleton.mp h]; omega
    rw [hlast, Option.getD_some]
    rw [hlast, Option.getD_some] at hmem
    generalize (sortI (vals lv)).getLast hne = top at *
    have h0 : (places lv).Pairwise (Stage lv (top + 1)) := List.Pairwise.imp_of_mem (fun {a b} ha hb h => by
      refine ⟨by omega, ⟨fun _ => .inl ?_, fun _ => h⟩⟩
      obtain ⟨c, _, Hc, e⟩ := lo_mem (has a ha) (has b hb)
      have := htop _ (hvals c Hc)
      omega) hP
    have hotop : o ≤ top := htop o hom.1
    have hf := stage_fold top h0 (top - (o - 1)).toNat
    have e : top + 1 - (((top - (o - 1)).toNat : Nat) : Int) = o := by omega
    rw [e] at hf
    unfold downL
    refine List.Pairwise.imp_of_mem (fun {a b} ha hb h => ?_) hf
    have Ha := hmem a ha
    have Hb := hmem b hb
    refine lft_lo h.1 (h.2.trans ?_)
    constructor
    · rintro (h1 | h1)
      · obtain ⟨c, _, Hc, e⟩ := lo_mem Ha Hb
        by_cases q : lo lv a b % 2 = 1
        · rw [e] at q h1
          have : val lv c ∈ odds lv := List.mem_filter.mpr ⟨hvals c Hc, by rw [fmod1]; simpa using q⟩
          have := hleast _ this
          omega
        · omega
      · omega
    · intro h1
      by_cases q : lo lv a b < o
      · exact .inl q
      · right; omega
end Mine

namespace Mine
open PySem

/-- two orders of one row are one -/
theorem order_unique {lv : List (Option Int)} {a b : List Nat} (h : a.Perm b) (ha : a.Pairwise fun x y => lft lv x y = true) (hb : b.Pairwise fun x y => lft lv x y = true) : a = b :=
  List.Perm.eq_of_pairwise (fun x y _ _ h1 h2 => by rw [lft_asymm h1] at h2; cases h2) ha hb h
theorem lft_nodup {lv : List (Option Int)} {a : List Nat} (ha : a.Pairwise fun x y => lft lv x y = true) : a.Nodup :=
  ha.imp fun {x y} h e => by subst e; rw [lft_irrefl] at h; cases h
theorem law_order_is (n : Nat) (lv : List (Option Int)) (hl : lv.length ≤ 20) : evF lawT (n + 60) fLawOrder [dats lv] = some (encs (reord lv)) := by
  rw [law_order_ok n lv hl, lawOrder_eq (reord_perm lv) (reord_lft lv), List.map_map]; rfl

/-! ### the order is known as one -/
theorem idx_lt {ord : List Nat} {R : Nat → Nat → Prop} (hp : ord.Pairwise R) {a b : Nat} (ha : a ∈ ord) (hb : b ∈ ord) (h : ord.idxOf a < ord.idxOf b) : R a b := by
  have h1 := List.idxOf_lt_length_of_mem ha
  have h2 := List.idxOf_lt_length_of_mem hb
  have := List.pairwise_iff_getElem.mp hp _ _ h1 h2 h
  rwa [List.getElem_idxOf, List.getElem_idxOf] at this
theorem idx_ne {ord : List Nat} {a b : Nat} (ha : a ∈ ord) (hb : b ∈ ord) (hne : a ≠ b) : ord.idxOf a ≠ ord.idxOf b := fun e => by
  have h1 := List.getElem_idxOf (List.idxOf_lt_length_of_mem ha)
  have h2 := List.getElem_idxOf (List.idxOf_lt_length_of_mem hb)
  simp only [e] at h1
  exact hne (h1.symm.trans h2)
theorem lft_iff {lv : List (Option Int)} {a b : Nat} (h : a < b) : lft lv a b = true ↔ (mn lv a b).fmod 2 = 0 := by
  unfold lft ev2
  have h2 : ¬ b < a := by omega
  simp [h, h2]
theorem all_ok_pairs {lv : List (Option Int)} {ord : List Nat} (hp : ord.Perm (places lv)) (hs : ord.Pairwise fun x y => lft lv x y = true) : AllOkPairs lv ord := fun a b hab ha hb => by
  have ma : a ∈ ord := hp.mem_iff.mpr (mem_places.mpr ha)
  have mb : b ∈ ord := hp.mem_iff.mpr (mem_places.mpr hb)
  unfold OkPair
  rw [← lft_iff hab]
  constructor
  · intro h; exact idx_lt hs ma mb h
  · intro h
    rcases Nat.lt_or_ge (ord.idxOf a) (ord.idxOf b) with q | q
    · exact q
    · have hne := idx_ne ma mb (by omega)
      have := idx_lt hs mb ma (by omega)
      rw [lft_asymm h] at this; cases this
theorem sorted_places {lv : List (Option Int)} {ord : List Nat} (hp : ord.Perm (places lv)) : sortI (ord.map fun (p : Nat) => (p : Int)) = (places lv).map (fun (p : Nat) => (p : Int)) := by
  refine List.Perm.eq_of_pairwise (le := fun a b => a ≤ b) (fun a b _ _ h1 h2 => Int.le_antisymm h1 h2) (sortI_sorted' _) ?_ ?_
  · exact List.pairwise_map.mpr ((places_sorted lv).imp fun h => by omega)
  · have ins : ∀ (i : Int) l, (insI i l).Perm (i :: l) := fun i l => by
      induction l with
      | nil => exact .refl _
      | cons j r ih => unfold insI; split; exact .refl _; exact (ih.cons j).trans (.swap i j r)
    have sp : ∀ l : List Int, (sortI l).Perm l := fun l => by
      induction l with
      | nil => exact .refl _
      | cons i r ih => exact (ins i _).trans (ih.cons i)
    exact (sp _).trans (hp.map _)
theorem is_order_true (n : Nat) (lv : List (Option Int)) (hl : lv.length ≤ 20) : evF lawT (n + 80) fIsOrder [encs (reord lv), dats lv] = some (.bool true) := by
  have hp := reord_perm lv
  have hlen := hp.length_eq
  have := places_length lv
  obtain ⟨r, h1, h2⟩ := (is_order_ok n lv (reord lv) hl (by omega)).2 hp (sorted_places hp)
  rw [h1, h2.mpr (all_ok_pairs hp (reord_lft lv))]

/-- two neighbours exchanged -/
noncomputable def bentOf (ord : List Nat) (k : Nat) : List Nat := ord.take k ++ [(ord[k + 1]?).getD 0, (ord[k]?).getD 0] ++ ord.drop (k + 2)
theorem bent_split {ord : List Nat} {k : Nat} (hk : k + 1 < ord.length) : ∃ a b, ord = ord.take k ++ a :: b :: ord.drop (k + 2) ∧ bentOf ord k = ord.take k ++ b :: a :: ord.drop (k + 2) ∧ ord[k]? = some a ∧ ord[k + 1]? = some b := by
  have h1 : k < ord.length := by omega
  refine ⟨ord[k], ord[k + 1], ?_, ?_, List.getElem?_eq_getElem h1, List.getElem?_eq_getElem hk⟩
  · rw [List.getElem_cons_drop, List.getElem_cons_drop, List.take_append_drop]
  · unfold bentOf
    rw [List.getElem?_eq_getElem h1, List.getElem?_eq_getElem hk]
    simp
theorem is_order_bent (n : Nat) (lv : List (Option Int)) (hl : lv.length ≤ 20) (k : Nat) (hk : k + 1 < (reord lv).length) : evF lawT (n + 80) fIsOrder [encs (bentOf (reord lv) k), dats lv] = some (.bool false) := by
  obtain ⟨a, b, e1, e2, e3, e4⟩ := bent_split hk
  have hp := reord_perm lv
  have hs := reord_lft lv
  have hbp : (bentOf (reord lv) k).Perm (places lv) := by
    refine List.Perm.trans ?_ hp
    rw [e2]
    conv => rhs; rw [e1]
    exact List.Perm.append_left _ (.swap _ _ _)
  have hlen := hbp.length_eq
  have := places_length lv
  obtain ⟨r, h1, h2⟩ := (is_order_ok n lv (bentOf (reord lv) k) hl (by omega)).2 hbp (sorted_places hbp)
  have hnd : (bentOf (reord lv) k).Nodup := hbp.nodup_iff.mpr (places_nodup lv)
  have hab : lft lv a b = true := by
    rw [e1] at hs
    exact (List.pairwise_cons.mp (List.pairwise_append.mp hs).2.1).1 b (by simp)
  have ma : Has lv a := mem_places.mp (hp.mem_iff.mp (List.mem_of_getElem? e3))
  have mb : Has lv b := mem_places.mp (hp.mem_iff.mp (List.mem_of_getElem? e4))
  have hne : a ≠ b := fun e => by subst e; rw [lft_irrefl] at hab; cases hab
  rw [e2] at hnd
  have hnot : a ∉ (reord lv).take k ∧ b ∉ (reord lv).take k := by
    obtain ⟨_, _, h3⟩ := List.pairwise_append.mp hnd
    exact ⟨fun h => h3 a h a (by simp) rfl, fun h => h3 b h b (by simp) rfl⟩
  have ib : (bentOf (reord lv) k).idxOf b = ((reord lv).take k).length := by
    rw [e2, List.idxOf_append, if_neg hnot.2]; simp
  have ia : (bentOf (reord lv) k).idxOf a = ((reord lv).take k).length + 1 := by
    
    have hbe : (b == a) = false := by simpa using fun h => hne h.symm
    rw [e2, List.idxOf_append, if_neg hnot.1, List.idxOf_cons, hbe]; simp; omega
  have hbad : ¬ AllOkPairs lv (bentOf (reord lv) k) := fun hall => by
    rcases Nat.lt_or_ge a b with h | h
    · have := hall a b h ma mb
      unfold OkPair at this
      rw [← lft_iff h, ia, ib] at this
      have := this.mpr hab
      omega
    · have h' : b < a := by omega
      have := hall b a h' mb ma
      unfold OkPair at this
      rw [← lft_iff h', ia, ib] at this
      have := this.mp (by omega)
      rw [lft_asymm hab] at this; cases this
  cases r with
  | true => exact absurd (h2.mp rfl) hbad
  | false => exact h1
theorem is_order_short (n : Nat) (lv : List (Option Int)) (hl : lv.length ≤ 20) (hne : reord lv ≠ []) : evF lawT (n + 80) fIsOrder [encs (reord lv).tail, dats lv] = some (.bool false) := by
  have hp := reord_perm lv
  have hlen := hp.length_eq
  have := places_length lv
  refine (is_order_ok n lv _ hl (by rw [List.length_tail]; omega)).1 fun e => ?_
  have h1 := congrArg List.length e
  rw [sortI_length, List.length_map, List.length_map, List.length_tail] at h1
  have : 0 < (reord lv).length := List.length_pos_iff.mpr hne
  omega

/-! ### from a place to its spot and back -/
theorem spotOf_at {ord : List Nat} (nd : ord.Nodup) {k p : Nat} (h : ord[k]? = some p) : spotOf ord p = some k := by
  have : ∀ (ord : List Nat) (s k : Nat), ord.Nodup → ord[k]? = some p → (ord.zipIdx s).findSome? (fun x => if x.1 = p then some x.2 else none) = some (s + k) := fun ord => by
    induction ord with
    | nil => intro s k nd h; simp at h
    | cons x r ih =>
      intro s k nd h
      rw [List.zipIdx_cons, List.findSome?_cons]
      cases k with
      | zero => simp at h; simp [h]
      | succ k =>
        have hx : x ≠ p := by
          rintro rfl
          exact (List.nodup_cons.mp nd).1 (List.mem_of_getElem? (by simpa using h))
        simp only [hx, if_false]
        rw [ih (s + 1) k (List.nodup_cons.mp nd).2 (by simpa using h)]
        congr 1; omega
  have h1 := this ord 0 k nd h
  simpa [spotOf] using h1
theorem spotOf_none {ord : List Nat} {p : Nat} (h : p ∉ ord) : spotOf ord p = none := by
  unfold spotOf
  rw [List.findSome?_eq_none_iff]
  rintro ⟨x, k⟩ hx
  have : x ≠ p := by
    rintro rfl
    exact h (List.fst_mem_of_mem_zipIdx hx)
  simp [this]

/-! ### a whole level more -/
noncomputable def moreOf (lv : List (Option Int)) : List (Option Int) := lv.map fun o => o.map (· + 1)
theorem more_has {lv : List (Option Int)} {p : Nat} : (Has (moreOf lv) p ↔ Has lv p) ∧ (Has lv p → val (moreOf lv) p = val lv p + 1) := by
  unfold Has val moreOf
  rw [List.getElem?_map]
  cases h : lv[p]? with
  | none => simp
  | some o => cases o <;> simp
theorem more_places (lv : List (Option Int)) : places (moreOf lv) = places lv := by
  have h1 := places_sorted (moreOf lv)
  have h2 := places_sorted lv
  refine List.Perm.eq_of_pairwise (le := fun a b => a < b) (fun a b _ _ h1 h2 => by omega) h1 h2 ?_
  refine (List.perm_ext_iff_of_nodup (places_nodup _) (places_nodup _)).mpr fun p => ?_
  rw [mem_places, mem_places]; exact more_has.1
theorem more_mn {lv : List (Option Int)} {a b : Nat} (ha : Has lv a) (hab : a ≤ b) : mn (moreOf lv) a b = mn lv a b + 1 := by
  refine (mn_unique (more_has.1.mpr ha) hab (fun c h1 h2 h3 => ?_) ?_).symm
  · have h3' := more_has.1.mp h3
    rw [more_has.2 h3']
    have := mn_le ha h1 h2 h3'
    omega
  · obtain ⟨c, h1, h2, h3, h4⟩ := mn_mem ha hab
    exact ⟨c, h1, h2, more_has.1.mpr h3, by rw [more_has.2 h3, h4]⟩
theorem more_lft {lv : List (Option Int)} {a b : Nat} (ha : Has lv a) (hb : Has lv b) (h : lft lv a b = true) : lft (moreOf lv) b a = true := by
  unfold lft at *
  rw [ev2_emod, ev2_emod] at *
  by_cases h1 : a < b
  · have h2 : ¬ b < a := by omega
    rw [more_mn ha (by omega)]
    simp [h1, h2] at h ⊢; omega
  · by_cases h2 : b < a
    · rw [more_mn hb (by omega)]
      simp [h1, h2] at h ⊢; omega
    · simp [h1, h2] at h
theorem more_reord (lv : List (Option Int)) : reord (moreOf lv) = (reord lv).reverse := by
  have hp := reord_perm lv
  refine order_unique (lv := moreOf lv) ?_ (reord_lft _) ?_
  · refine (reord_perm _).trans ?_
    rw [more_places]
    exact ((List.reverse_perm _).trans hp).symm
  · rw [List.pairwise_reverse]
    exact List.Pairwise.imp_of_mem (fun {a b} ha hb h => more_lft (mem_places.mp (hp.mem_iff.mp ha)) (mem_places.mp (hp.mem_iff.mp hb)) h) (reord_lft lv)
end Mine

namespace Mine
open PySem

structure RunsInv (lv : List (Option Int)) (k : Nat) (rs : List Tri) : Prop where
  ord : rs.Pairwise fun t u => t.2.1 ≤ u.1
  each : ∀ t ∈ rs, t.1 < t.2.1 ∧ t.2.1 ≤ k ∧ Has lv t.1 ∧ ∀ p, t.1 ≤ p → p < t.2.1 → Has lv p → val lv p = t.2.2
  cover : ∀ p, p < k → Has lv p → ∃ t ∈ rs, t.1 ≤ p ∧ p < t.2.1

theorem runs_step {lv : List (Option Int)} {k : Nat} {rs : List Tri} (hk : k < lv.length) (I : RunsInv lv k rs) : RunsInv lv (k + 1) (runStep rs (lv[k], k)) := by
  unfold runStep
  cases ho : lv[k] with
  | none =>
    refine ⟨I.ord, fun t ht => ?_, fun p hp hh => ?_⟩
    · obtain ⟨h1, h2, h3, h4⟩ := I.each t ht
      exact ⟨h1, by omega, h3, h4⟩
    · have : p ≠ k := by
        rintro rfl
        unfold Has at hh
        rw [List.getElem?_eq_getElem hk, ho] at hh; cases hh
      exact I.cover p (by omega) hh
  | some v =>
    have hkv : val lv k = v := by unfold val; rw [List.getElem?_eq_getElem hk, ho]; rfl
    have hkh : Has lv k := by unfold Has; rw [hkv, List.getElem?_eq_getElem hk, ho]
    have app : RunsInv lv (k + 1) (rs ++ [(k, k + 1, v)]) := by
      refine ⟨List.pairwise_append.mpr ⟨I.ord, by simp, fun t ht u hu => ?_⟩, fun t ht => ?_, fun p hp hh => ?_⟩
      · rw [List.mem_singleton.mp hu]; exact (I.each t ht).2.1
      · rcases List.mem_append.mp ht with ht | ht
        · obtain ⟨h1, h2, h3, h4⟩ := I.each t ht
          exact ⟨h1, by omega, h3, h4⟩
        · rw [List.mem_singleton.mp ht]
          refine ⟨by simp, by simp, hkh, fun p h1 h2 h3 => ?_⟩
          have : p = k := by simp at h1 h2; omega
          rw [this]; exact hkv
      · by_cases q : p = k
        · exact ⟨(k, k + 1, v), by simp, by simp; omega, by simp; omega⟩
        · obtain ⟨t, ht, h1, h2⟩ := I.cover p (by omega) hh
          exact ⟨t, by simp [ht], h1, h2⟩
    cases hL : rs.getLast? with
    | none => simpa [hL] using app
    | some l =>
      simp only
      by_cases hq : l.2.2 = v
      · rw [if_pos hq]
        have hne : rs ≠ [] := by rintro rfl; simp at hL
        obtain ⟨ys, y, e⟩ := List.eq_nil_or_concat rs |>.resolve_left hne
        rw [List.concat_eq_append] at e
        subst e
        have hly : l = y := by simpa using hL.symm
        subst hly
        rw [List.dropLast_concat]
        obtain ⟨o1, _, o3⟩ := List.pairwise_append.mp I.ord
        obtain ⟨l1, l2, l3, l4⟩ := I.each l (by simp)
        refine ⟨List.pairwise_append.mpr ⟨o1, by simp, fun t ht u hu => ?_⟩, fun t ht => ?_, fun p hp hh => ?_⟩
        · rw [List.mem_singleton.mp hu]; exact o3 t ht l (by simp)
        · rcases List.mem_append.mp ht with ht | ht
          · obtain ⟨h1, h2, h3, h4⟩ := I.each t (by simp [ht])
            exact ⟨h1, by omega, h3, h4⟩
          · rw [List.mem_singleton.mp ht]
            refine ⟨by simp; omega, by simp, l3, fun p h1 h2 h3 => ?_⟩
            simp only at h1 h2 ⊢
            by_cases q : p = k
            · rw [q]; exact hkv
            · obtain ⟨t, ht, t1, t2⟩ := I.cover p (by omega) h3
              rcases List.mem_append.mp ht with ht | ht
              · have := o3 t ht l (by simp); omega
              · rw [List.mem_singleton.mp ht] at t1 t2
                rw [← hq]; exact l4 p t1 t2 h3
        · by_cases q : p = k
          · exact ⟨(l.1, k + 1, v), by simp, by simp; omega, by simp; omega⟩
          · obtain ⟨t, ht, t1, t2⟩ := I.cover p (by omega) hh
            rcases List.mem_append.mp ht with ht | ht
            · exact ⟨t, by simp [ht], t1, t2⟩
            · rw [List.mem_singleton.mp ht] at t1 t2
              exact ⟨(l.1, k + 1, v), by simp, t1, by simp; omega⟩
      · rw [if_neg hq]; exact app
theorem runs_inv (lv : List (Option Int)) : RunsInv lv lv.length (lineRuns lv) := by
  have : ∀ k, k ≤ lv.length → RunsInv lv k (runsOf (lv.zipIdx.take k)) := fun k => by
    induction k with
    | zero => intro _; exact ⟨by simp [runsOf], by simp [runsOf], fun p hp => by omega⟩
    | succ k ih =>
      intro hk
      have hz : lv.zipIdx[k]? = some (lv[k], k) := by
        rw [List.getElem?_zipIdx, List.getElem?_eq_getElem (by omega)]; simp
      have e : lv.zipIdx.take (k + 1) = lv.zipIdx.take k ++ [(lv[k], k)] := by
        rw [List.take_add_one, hz]; rfl
      rw [e]
      have e2 : runsOf (lv.zipIdx.take k ++ [(lv[k], k)]) = runStep (runsOf (lv.zipIdx.take k)) (lv[k], k) := by simp [runsOf, List.foldl_append]
      rw [e2]
      exact runs_step (by omega) (ih (by omega))
  have h := this lv.length (Nat.le_refl _)
  rwa [List.take_of_length_le (by simp)] at h

theorem runs_firsts (lv : List (Option Int)) : (lineRuns lv).Pairwise fun a b => a.1 < b.1 := by
  have I := runs_inv lv
  exact List.Pairwise.imp_of_mem (fun {a b} ha hb h => by have := (I.each a ha).1; omega) I.ord

theorem rl_get {lv : List (Option Int)} {k : Nat} (hk : k < (lineRuns lv).length) : Has (runLevels lv) k ∧ val (runLevels lv) k = (lineRuns lv)[k].2.2 := by
  have e : (runLevels lv)[k]? = some (some (lineRuns lv)[k].2.2) := by
    unfold runLevels
    rw [List.getElem?_map, List.getElem?_eq_getElem hk]; rfl
  have hv : val (runLevels lv) k = (lineRuns lv)[k].2.2 := by unfold val; rw [e]; rfl
  exact ⟨by unfold Has; rw [e, hv], hv⟩
theorem rl_lt {lv : List (Option Int)} {k : Nat} (h : Has (runLevels lv) k) : k < (lineRuns lv).length := by
  have := has_lt h; simpa [runLevels] using this
theorem rl_length (lv : List (Option Int)) : (lineRuns lv).length ≤ lv.length := by
  have := runsOf_length lv.zipIdx; simp at this; exact this
theorem rl_fair {lv : List (Option Int)} (h : Fair lv) : Fair (runLevels lv) := by
  refine ⟨by have := rl_length lv; have := h.1; simp [runLevels]; omega, fun p hp => ?_⟩
  have hk := rl_lt hp
  rw [(rl_get hk).2]
  obtain ⟨h1, h2, h3, h4⟩ := (runs_inv lv).each _ (List.getElem_mem hk)
  rw [← h4 _ (Nat.le_refl _) h1 h3]
  exact h.2 _ h3

/-- the least level between two runs is that between their places -/
theorem mn_runs {lv : List (Option Int)} {i j p q : Nat} (hi : i < (lineRuns lv).length) (hj : j < (lineRuns lv).length) (hij : i ≤ j) (hp : Has lv p) (hq : Has lv q) (p1 : (lineRuns lv)[i].1 ≤ p) (p2 : p < (lineRuns lv)[i].2.1)
    (q1 : (lineRuns lv)[j].1 ≤ q) (q2 : q < (lineRuns lv)[j].2.1) (hpq : p ≤ q) : mn lv p q = mn (runLevels lv) i j := by
  have I := runs_inv lv
  have ordd := List.pairwise_iff_getElem.mp I.ord
  refine (mn_unique hp hpq (fun c h1 h2 h3 => ?_) ?_).symm
  · obtain ⟨t, ht, t1, t2⟩ := I.cover c (has_lt h3) h3
    obtain ⟨k, hk, rfl⟩ := List.mem_iff_getElem.mp ht
    have hik : i ≤ k := by
      rcases Nat.lt_or_ge k i with h | h
      · have := ordd k i hk hi h; omega
      · exact h
    have hkj : k ≤ j := by
      rcases Nat.lt_or_ge j k with h | h
      · have := ordd j k hj hk h; omega
      · exact h
    have := mn_le (rl_get hi).1 hik hkj (rl_get hk).1
    rw [(rl_get hk).2] at this
    rw [(I.each _ (List.getElem_mem hk)).2.2.2 c t1 t2 h3]
    exact this
  · obtain ⟨k, h1, h2, h3, h4⟩ := mn_mem (rl_get hi).1 hij
    have hk := rl_lt h3
    obtain ⟨e1, e2, e3, e4⟩ := I.each _ (List.getElem_mem hk)
    rw [h4, (rl_get hk).2]
    by_cases a : k = i
    · subst a
      exact ⟨p, Nat.le_refl _, hpq, hp, (e4 p p1 p2 hp).symm⟩
    · by_cases b : k = j
      · subst b
        exact ⟨q, hpq, Nat.le_refl _, hq, (e4 q q1 q2 hq).symm⟩
      · have o1 := ordd i k hi hk (by omega)
        have o2 := ordd k j hk hj (by omega)
        exact ⟨_, by omega, by omega, e3, (e4 _ (Nat.le_refl _) e1 e3).symm⟩

theorem mem_block {lv : List (Option Int)} {t : Tri} {p : Nat} : p ∈ block lv t ↔ t.1 ≤ p ∧ p < t.2.1 ∧ Has lv p := by
  unfold block
  simp only
  have h : p ∈ (List.range' t.1 (t.2.1 - t.1)).filter (fun p => ((lv[p]?).getD none).isSome) ↔ t.1 ≤ p ∧ p < t.2.1 ∧ Has lv p := by
    rw [List.mem_filter, List.mem_range'_1, isSome_has]
    constructor
    · rintro ⟨⟨h1, h2⟩, h3⟩; exact ⟨h1, by omega, h3⟩
    · rintro ⟨h1, h2, h3⟩; exact ⟨⟨h1, by omega⟩, h3⟩
  split
  · exact h
  · rw [List.mem_reverse]; exact h
theorem block_lft {lv : List (Option Int)} {k : Nat} (hk : k < (lineRuns lv).length) : (block lv (lineRuns lv)[k]).Pairwise fun a b => lft lv a b = true := by
  have asc : ((List.range' (lineRuns lv)[k].1 ((lineRuns lv)[k].2.1 - (lineRuns lv)[k].1)).filter fun p => ((lv[p]?).getD none).isSome).Pairwise (· < ·) := List.Pairwise.filter _ List.pairwise_lt_range'
  have key : ∀ x y, x ∈ block lv (lineRuns lv)[k] → y ∈ block lv (lineRuns lv)[k] → x < y → mn lv x y = (lineRuns lv)[k].2.2 := fun x y hx hy hxy => by
    obtain ⟨x1, x2, x3⟩ := mem_block.mp hx
    obtain ⟨y1, y2, y3⟩ := mem_block.mp hy
    rw [mn_runs hk hk (Nat.le_refl _) x3 y3 x1 x2 y1 y2 (by omega)]
    obtain ⟨c, c1, c2, c3, c4⟩ := mn_mem (rl_get hk).1 (Nat.le_refl k)
    have : c = k := by omega
    subst this
    rw [c4, (rl_get hk).2]
  by_cases q : (lineRuns lv)[k].2.2.fmod 2 = 0
  · have q' : ((lineRuns lv)[k].2.2.fmod 2 == 0) = true := by simpa using q
    have e : block lv (lineRuns lv)[k] = (List.range' (lineRuns lv)[k].1 ((lineRuns lv)[k].2.1 - (lineRuns lv)[k].1)).filter fun p => ((lv[p]?).getD none).isSome := by unfold block; simp only [q', if_true]
    have asc' : (block lv (lineRuns lv)[k]).Pairwise (· < ·) := by rw [e]; exact asc
    refine List.Pairwise.imp_of_mem (fun {a b} ha hb h => ?_) asc'
    rw [lft_iff h, key a b ha hb h]; exact q
  · have q' : ((lineRuns lv)[k].2.2.fmod 2 == 0) = false := by simpa using q
    have e : block lv (lineRuns lv)[k] = ((List.range' (lineRuns lv)[k].1 ((lineRuns lv)[k].2.1 - (lineRuns lv)[k].1)).filter fun p => ((lv[p]?).getD none).isSome).reverse := by unfold block; simp only [q', Bool.false_eq_true, if_false]
    have asc' : (block lv (lineRuns lv)[k]).Pairwise (fun a b => b < a) := by rw [e, List.pairwise_reverse]; exact asc
    refine List.Pairwise.imp_of_mem (fun {a b} ha hb h => ?_) asc'
    rcases lft_total (lv := lv) (a := a) (b := b) (by omega) with h1 | h1
    · exact h1
    · rw [lft_iff h, key b a hb ha h] at h1; exact absurd h1 q
theorem runs_cross {lv : List (Option Int)} {i j p q : Nat} (hi : i < (lineRuns lv).length) (hj : j < (lineRuns lv).length) (h : lft (runLevels lv) i j = true) (hp : p ∈ block lv (lineRuns lv)[i]) (hq : q ∈ block lv (lineRuns lv)[j]) : lft lv p q = true := by
  have I := runs_inv lv
  have ordd := List.pairwise_iff_getElem.mp I.ord
  obtain ⟨p1, p2, p3⟩ := mem_block.mp hp
  obtain ⟨q1, q2, q3⟩ := mem_block.mp hq
  have hne : i ≠ j := fun e => by subst e; rw [lft_irrefl] at h; cases h
  rcases Nat.lt_or_ge i j with hij | hij
  · have hpq : p < q := by have := ordd i j hi hj hij; omega
    rw [lft_iff hpq, mn_runs hi hj (by omega) p3 q3 p1 p2 q1 q2 (by omega)]
    exact (lft_iff hij).mp h
  · have hji : j < i := by omega
    have hqp : q < p := by have := ordd j i hj hi hji; omega
    rcases lft_total (lv := lv) (a := p) (b := q) (by omega) with h1 | h1
    · exact h1
    · rw [lft_iff hqp, mn_runs hj hi (by omega) q3 p3 q1 q2 p1 p2 (by omega), ← lft_iff hji, lft_asymm h] at h1
      cases h1

/-- the runs, put in their order, tile the row's order -/
theorem tiles (lv : List (Option Int)) : (visualRuns lv).flatMap (block lv) = reord lv ∧ (visualRuns lv).Perm (lineRuns lv) := by
  have hp := reord_perm (runLevels lv)
  have hs := reord_lft (runLevels lv)
  have hin : ∀ k ∈ reord (runLevels lv), k < (lineRuns lv).length := fun k hk => rl_lt (mem_places.mp (hp.mem_iff.mp hk))
  have get : ∀ k (hk : k < (lineRuns lv).length), ((lineRuns lv)[k]?).getD (0, 0, 0) = (lineRuns lv)[k] := fun k hk => by rw [List.getElem?_eq_getElem hk]; rfl
  have pw : ((visualRuns lv).flatMap (block lv)).Pairwise fun a b => lft lv a b = true := by
    rw [List.pairwise_flatMap]
    refine ⟨fun t ht => ?_, ?_⟩
    · obtain ⟨k, hk, rfl⟩ := List.mem_map.mp ht
      rw [get k (hin k hk)]
      exact block_lft (hin k hk)
    · unfold visualRuns
      refine List.pairwise_map.mpr (List.Pairwise.imp_of_mem (fun {i j} hi hj h => ?_) hs)
      intro p hp q hq
      rw [get i (hin i hi)] at hp
      rw [get j (hin j hj)] at hq
      exact runs_cross (hin i hi) (hin j hj) h hp hq
  have hall : ∀ k, k < (lineRuns lv).length → k ∈ reord (runLevels lv) := fun k hk => hp.mem_iff.mpr (mem_places.mpr (rl_get hk).1)
  constructor
  · refine order_unique ?_ pw (reord_lft lv)
    refine List.Perm.trans ?_ (reord_perm lv).symm
    refine (List.perm_ext_iff_of_nodup (lft_nodup pw) (places_nodup lv)).mpr fun p => ?_
    rw [mem_places, List.mem_flatMap]
    constructor
    · rintro ⟨t, _, ht⟩; exact (mem_block.mp ht).2.2
    · intro h
      obtain ⟨t, ht, t1, t2⟩ := (runs_inv lv).cover p (has_lt h) h
      obtain ⟨k, hk, rfl⟩ := List.mem_iff_getElem.mp ht
      exact ⟨_, List.mem_map.mpr ⟨k, hall k hk, get k hk⟩, mem_block.mpr ⟨t1, t2, h⟩⟩
  · have e : (List.range (lineRuns lv).length).map (fun k => ((lineRuns lv)[k]?).getD (0, 0, 0)) = lineRuns lv := by
      apply List.ext_getElem?
      intro k
      rw [List.getElem?_map]
      by_cases hk : k < (lineRuns lv).length
      · rw [List.getElem?_range hk, List.getElem?_eq_getElem hk]; simp [List.getElem?_eq_getElem hk]
      · rw [List.getElem?_eq_none (by simp; omega), List.getElem?_eq_none (by omega)]; rfl
    have hpr : (reord (runLevels lv)).Perm (List.range (lineRuns lv).length) := by
      refine (List.perm_ext_iff_of_nodup (hp.nodup_iff.mpr (places_nodup _)) List.nodup_range).mpr fun k => ?_
      rw [List.mem_range]
      exact ⟨hin k, hall k⟩
    have := hpr.map (fun k => ((lineRuns lv)[k]?).getD (0, 0, 0))
    rw [e] at this
    exact this
theorem law_tiled_is (n : Nat) (lv : List (Option Int)) (hl : lv.length ≤ 20) : evF lawT (n + 60) fTiled [dats lv, .list ((visualRuns lv).map tri)] = some (encs (reord lv)) := by
  obtain ⟨h1, h2⟩ := tiles lv
  rw [tiled_ok n lv (visualRuns lv) hl h2 (runs_firsts lv) fun t ht => ?_, h1]
  obtain ⟨e1, e2, _⟩ := (runs_inv lv).each t (h2.mem_iff.mp ht)
  exact ⟨e1, e2⟩
end Mine

namespace Mine
open PySem

noncomputable def fDraw : Fn := fnNo 8 lawB
theorem fnOf_dr : fnOf lawT (Str.ofString "_law_draw") = some fDraw := by kernel_rfl
theorem fmod_in {x b : Int} (h : 0 < b) : 0 ≤ x.fmod b ∧ x.fmod b < b := ⟨Int.fmod_nonneg_of_pos x h, Int.fmod_lt_of_pos x h⟩
theorem draw_rest (n : Nat) (ρ : Vars) (cells : List Int) (t : Nat) (b : Int) (hc : cells.length ≤ 20) (ht : 1 ≤ t) (ht' : t ≤ 100) (hb : 0 < b) (h1 : look ρ (Str.ofString "deck") = some (.sh (.list [.list (cells.map .int), .int (t : Int)]))) (h2 : look ρ (Str.ofString "below") = some (.sh (.int b))) :
    Does lawT (n + 40) fDraw.scope ρ fDraw.body.tail (fun fl _ => ∃ r : Int, fl = .ret (.int r) ∧ 0 ≤ r ∧ r < b) := by
  have s1 : storable fDraw.scope (Str.ofString "cell") = true := by decide +kernel
  have s2 : storable fDraw.scope (Str.ofString "mixed") = true := by decide +kernel
  have g1 : isGlobal fDraw.scope (Str.ofString "len") = true := by decide +kernel
  have am : ∀ x y : Int, y ≠ 0 → arith .Mod (.int x) (.int y) = some (.int (x.fmod y)) := fun x y hy => by simp [ar_add, ar_sub, ar_mul, ar_mod, ar_div, ar_cat, ar_rep, hy]
  have ap : ∀ x y : Int, arith .Add (.int x) (.int y) = some (.int (x + y)) := fun x y => rfl
  have as : ∀ x y : Int, arith .Sub (.int x) (.int y) = some (.int (x - y)) := fun x y => rfl
  have ax : ∀ x y : Int, x.natAbs < 2 ^ 64 → y.natAbs < 2 ^ 64 → arith .Mult (.int x) (.int y) = some (.int (x * y)) := fun x y h1 h2 => by simp [ar_add, ar_sub, ar_mul, ar_mod, ar_div, ar_cat, ar_rep, small, h1, h2]
  have ad : ∀ x : Int, arith .FloorDiv (.int x) (.int 64) = some (.int (x.fdiv 64)) := fun x => by simp [ar_add, ar_sub, ar_mul, ar_mod, ar_div, ar_cat, ar_rep]
  have hlen := built_len (xs := cells.map PyData.int) (by simp; omega)
  rw [List.length_map] at hlen
  have i0 : itemOf (.list [.list (cells.map .int), .int (t : Int)]) 0 = some (.list (cells.map .int)) := rfl
  have i1 : itemOf (.list [.list (cells.map .int), .int (t : Int)]) 1 = some (.int (t : Int)) := rfl
  conv in List.tail _ => whnf
  refine does_pair (s := .sh (.int (t : Int))) (t := .sh (.list (cells.map .int))) (by kernel_rfl) (by decide +kernel) (by decide +kernel) ?_ ?_ ?_
  · simp [evG_z, evG_eq, made_ni, made_mu, made_ca, made_lc, made_su, made_if, made_co, made_bn, made_bb, ev_z, ev_none, ev_bool, ev_int, ev_name, ev_bin, ev_neg, ev_and, ev_ife, ev_cmp, ev_cut, ev_rev, ev_ixc, ev_ixn, ev_ixu, ev_ixb, ev_lst, ev_tup, ev_call, ev_lc, evB_z, evB_nm, evB_co, evB_bi, evB_un, evB_bo, evB_if, evB_cm, evB_su, evB_li, evB_tu, evB_ca, evB_lc, h1, borrow, intOf, i1]
  · simp [evG_z, evG_eq, made_ni, made_mu, made_ca, made_lc, made_su, made_if, made_co, made_bn, made_bb, ev_z, ev_none, ev_bool, ev_int, ev_name, ev_bin, ev_neg, ev_and, ev_ife, ev_cmp, ev_cut, ev_rev, ev_ixc, ev_ixn, ev_ixu, ev_ixb, ev_lst, ev_tup, ev_call, ev_lc, evB_z, evB_nm, evB_co, evB_bi, evB_un, evB_bo, evB_if, evB_cm, evB_su, evB_li, evB_tu, evB_ca, evB_lc, h1, borrow, intOf, i0]
  refine does_if (b := decide ((t : Int) ≤ (cells.length : Int))) ?_ ?_ ?_
  · simp only [evT_z, evT_no, evT_bo, evT_c1, evT_c2, evT_ca, evB_z, evB_nm, evB_co, evB_bi, evB_un, evB_bo, evB_if, evB_cm, evB_su, evB_li, evB_tu, evB_ca, evB_lc]
    rw [ev_built (ds := [.list (cells.map .int)]) g1 fn_len (by simp [evBL_z, evBL_ni, evBL_co, evB_z, evB_nm, evB_co, evB_bi, evB_un, evB_bo, evB_if, evB_cm, evB_su, evB_li, evB_tu, evB_ca, evB_lc, look_put', str_inj, borrow]), hlen]
    simp [look_put', str_inj, borrow, cp_lt, cp_le, cp_gt, cp_ge, cp_eq, cp_ne, cp_eqb, cp_neb, cp_is, cp_isnt, cp_isb, cp_isntb, cp_eql, cp_nel]
  · intro hle
    have hle' : t ≤ cells.length := by have : (t : Int) ≤ cells.length := by simpa using hle
                                       omega
    have hlt : t - 1 < cells.length := by omega
    have it : itemOf (.list (cells.map .int)) ((t : Int) - 1) = some (.int cells[t - 1]) := by
      have e : (t : Int) - 1 = ((t - 1 : Nat) : Int) := by omega
      rw [e]
      simp only [itemOf, List.length_map]
      rw [if_pos (by omega), placeIn_nat hlt, Option.bind_some, List.getElem?_map, List.getElem?_eq_getElem hlt]; rfl
    refine does_return (d := .int (cells[t - 1].fmod b)) ?_ ⟨_, rfl, fmod_in hb⟩
    simp only [evB_z, evB_nm, evB_co, evB_bi, evB_un, evB_bo, evB_if, evB_cm, evB_su, evB_li, evB_tu, evB_ca, evB_lc]
    refine ev_binop (a := .int cells[t - 1]) (b := .int b) ?_ ?_ (am _ _ (by omega))
    · simp [evB_z, evB_nm, evB_co, evB_bi, evB_un, evB_bo, evB_if, evB_cm, evB_su, evB_li, evB_tu, evB_ca, evB_lc, ev_z, ev_none, ev_bool, ev_int, ev_name, ev_bin, ev_neg, ev_and, ev_ife, ev_cmp, ev_cut, ev_rev, ev_ixc, ev_ixn, ev_ixu, ev_ixb, ev_lst, ev_tup, ev_call, ev_lc, look_put', str_inj, borrow, shOf, intOf, as, it]
    · simp [evB_z, evB_nm, evB_co, evB_bi, evB_un, evB_bo, evB_if, evB_cm, evB_su, evB_li, evB_tu, evB_ca, evB_lc, look_put', str_inj, borrow, h2]
  · intro hgt
    refine does_nil ?_
    obtain ⟨c, hcd⟩ : ∃ c : Int, c = if cells = [] then 7 else (cells[t % cells.length]?).getD 0 := ⟨_, rfl⟩
    refine does_assign s1 (s := .sh (.int c)) ?_ ?_
    · by_cases hnil : cells = []
      · have hn := ne_lists (xs := []) (ys := []) (b := false) rfl rfl (by simp)
        simp [evG_z, evG_eq, made_ni, made_mu, made_ca, made_lc, made_su, made_if, made_co, made_bn, made_bb, ev_z, ev_none, ev_bool, ev_int, ev_name, ev_bin, ev_neg, ev_and, ev_ife, ev_cmp, ev_cut, ev_rev, ev_ixc, ev_ixn, ev_ixu, ev_ixb, ev_lst, ev_tup, ev_call, ev_lc, evT_z, evT_no, evT_bo, evT_c1, evT_c2, evT_ca, evB_z, evB_nm, evB_co, evB_bi, evB_un, evB_bo, evB_if, evB_cm, evB_su, evB_li, evB_tu, evB_ca, evB_lc, evL_z, evL_ni, evL_co, look_put', str_inj, borrow, hn, hcd, hnil]
      · have hn := ne_lists (xs := cells.map .int) (ys := []) (b := true) (ints_tame _) rfl (by simp [hnil])
        have hpos : 0 < cells.length := List.length_pos_iff.mpr hnil
        have hmlt : t % cells.length < cells.length := Nat.mod_lt _ hpos
        have hmod : arith .Mod (.int (t : Int)) (.int (cells.length : Int)) = some (.int ((t % cells.length : Nat) : Int)) := by
          rw [am _ _ (by omega), Int.fmod_eq_emod_of_nonneg _ (by omega)]; rfl
        have it : itemOf (.list (cells.map .int)) ((t % cells.length : Nat) : Int) = some (.int c) := by
          simp only [itemOf, List.length_map]
          rw [if_pos (by omega), placeIn_nat hmlt, Option.bind_some, List.getElem?_map, List.getElem?_eq_getElem hmlt, hcd, if_neg hnil, List.getElem?_eq_getElem hmlt]; rfl
        have hE : ∀ e : Expr, ∀ n ρ', ev lawT (n + 1) fDraw.scope ρ' e = some (.int c) → isMade e = false → evG lawT (n + 2) fDraw.scope ρ' e = some (.sh (.int c)) := fun e n ρ' h1 h2 => by
          simp [evG_z, evG_eq, h2, h1]
        refine hE _ _ _ ?_ rfl
        simp only [ev_z, ev_none, ev_bool, ev_int, ev_name, ev_bin, ev_neg, ev_and, ev_ife, ev_cmp, ev_cut, ev_rev, ev_ixc, ev_ixn, ev_ixu, ev_ixb, ev_lst, ev_tup, ev_call, ev_lc, evT_z, evT_no, evT_bo, evT_c1, evT_c2, evT_ca, evB_z, evB_nm, evB_co, evB_bi, evB_un, evB_bo, evB_if, evB_cm, evB_su, evB_li, evB_tu, evB_ca, evB_lc, look_put', str_inj, String.reduceEq, if_true, if_false, borrow, shOf, Option.bind_some, evL_z, evL_ni, evL_co, List.length_nil, Nat.zero_le, hn, g1, fn_len, evBL_z, evBL_ni, evBL_co, hlen, Option.map_some, hmod, intOf, it]
    have x1 := fmod_in (x := c) (b := 2147483629) (by decide)
    have m1 := ax 60013 (t : Int) (by decide) (by omega)
    have m2 := ax (60013 * (t : Int)) (t : Int) (by omega) (by omega)
    have hsq : 60013 * (t : Int) * (t : Int) ≤ 60013 * 100 * 100 := by
      have h1 : (t : Int) * (t : Int) ≤ 100 * 100 := Int.mul_le_mul (by omega) (by omega) (by omega) (by omega)
      have e1 : 60013 * (t : Int) * (t : Int) = 60013 * ((t : Int) * (t : Int)) := by rw [Int.mul_assoc]
      omega
    have hsq0 : 0 ≤ 60013 * (t : Int) * (t : Int) := Int.mul_nonneg (by omega) (by omega)
    have m3 := ax (c.fmod 2147483629 + 60013 * (t : Int) * (t : Int) + 17) 48271 (by omega) (by decide)
    refine does_assign s2 (s := .sh (.int (((c.fmod 2147483629 + 60013 * (t : Int) * (t : Int) + 17) * 48271).fmod 2147483647))) ?_ ?_
    · simp [evG_z, evG_eq, made_ni, made_mu, made_ca, made_lc, made_su, made_if, made_co, made_bn, made_bb, ev_z, ev_none, ev_bool, ev_int, ev_name, ev_bin, ev_neg, ev_and, ev_ife, ev_cmp, ev_cut, ev_rev, ev_ixc, ev_ixn, ev_ixu, ev_ixb, ev_lst, ev_tup, ev_call, ev_lc, evB_z, evB_nm, evB_co, evB_bi, evB_un, evB_bo, evB_if, evB_cm, evB_su, evB_li, evB_tu, evB_ca, evB_lc, look_put', str_inj, borrow, am, ap, m1, m2, m3]
    have x2 := fmod_in (x := (c.fmod 2147483629 + 60013 * (t : Int) * (t : Int) + 17) * 48271) (b := 2147483647) (by decide)
    generalize ((c.fmod 2147483629 + 60013 * (t : Int) * (t : Int) + 17) * 48271).fmod 2147483647 = m at *
    have m4 := ax m m (by omega) (by omega)
    refine does_assign s2 (s := .sh (.int ((m * m + (t : Int)).fmod 2147483579))) ?_ ?_
    · simp [evG_z, evG_eq, made_ni, made_mu, made_ca, made_lc, made_su, made_if, made_co, made_bn, made_bb, ev_z, ev_none, ev_bool, ev_int, ev_name, ev_bin, ev_neg, ev_and, ev_ife, ev_cmp, ev_cut, ev_rev, ev_ixc, ev_ixn, ev_ixu, ev_ixb, ev_lst, ev_tup, ev_call, ev_lc, evB_z, evB_nm, evB_co, evB_bi, evB_un, evB_bo, evB_if, evB_cm, evB_su, evB_li, evB_tu, evB_ca, evB_lc, look_put', str_inj, borrow, am, ap, m4]
    generalize (m * m + (t : Int)).fmod 2147483579 = m' at *
    refine does_return (d := .int ((m'.fdiv 64).fmod b)) ?_ ⟨_, rfl, fmod_in hb⟩
    have am' := am (m'.fdiv 64) b (by omega)
    simp [evB_z, evB_nm, evB_co, evB_bi, evB_un, evB_bo, evB_if, evB_cm, evB_su, evB_li, evB_tu, evB_ca, evB_lc, ev_z, ev_none, ev_bool, ev_int, ev_name, ev_bin, ev_neg, ev_and, ev_ife, ev_cmp, ev_cut, ev_rev, ev_ixc, ev_ixn, ev_ixu, ev_ixb, ev_lst, ev_tup, ev_call, ev_lc, look_put', str_inj, borrow, ad, am', h2]
end Mine

namespace Mine
open PySem

noncomputable def fLaw : Fn := fnNo 12 lawB
/-- what the law knows after its checks -/
noncomputable def Knows (lv : List (Option Int)) (dk : Slot) (ρ : Vars) : Prop :=
  look ρ (Str.ofString "levels") = some (.sh (dats lv)) ∧ look ρ (Str.ofString "was") = some (.sh (dats lv)) ∧ look ρ (Str.ofString "due") = some (.sh (encs (reord lv))) ∧ look ρ (Str.ofString "order") = some (.sh (encs (reord lv))) ∧ look ρ (Str.ofString "deck") = some dk

theorem cmp_none (a : PyData) : compare .IsNot a .none = some (!isNone a) := by cases a <;> rfl
theorem cmp_none' (a : PyData) : compare .Is a .none = some (isNone a) := by cases a <;> rfl

theorem law_mid (n : Nat) (lv : List (Option Int)) (dk : Slot) (ρ : Vars) (hf : Fair lv) (hdk : look ρ (Str.ofString "deck") = some dk) (h : look ρ (Str.ofString "levels") = some (.sh (dats lv))) :
    Does lawT (n + 120) fLaw.scope ρ ((fLaw.body.drop 3).take 6) (fun fl ρ' => fl = .next ∧ Knows lv dk ρ') := by
  obtain ⟨hl, hv⟩ := id hf
  have hp := reord_perm lv
  have hlen := hp.length_eq
  have hpl := places_length lv
  have s3 : storable fLaw.scope (Str.ofString "order") = true := by decide +kernel
  have s4 : storable fLaw.scope (Str.ofString "spot") = true := by decide +kernel
  have s5 : storable fLaw.scope (Str.ofString "at") = true := by decide +kernel
  have g1 : isGlobal fLaw.scope (Str.ofString "list") = true := by decide +kernel
  have g2 : isGlobal fLaw.scope (Str.ofString "_law_order") = true := by decide +kernel
  have g3 : isGlobal fLaw.scope (Str.ofString "reordered") = true := by decide +kernel
  have g4 : isGlobal fLaw.scope (Str.ofString "is_order_of") = true := by decide +kernel
  have g5 : isGlobal fLaw.scope (Str.ofString "_law_tiled") = true := by decide +kernel
  have g6 : isGlobal fLaw.scope (Str.ofString "visual_runs") = true := by decide +kernel
  have g7 : isGlobal fLaw.scope (Str.ofString "enumerate") = true := by decide +kernel
  have g8 : isGlobal fLaw.scope (Str.ofString "visual_of") = true := by decide +kernel
  have g9 : isGlobal fLaw.scope (Str.ofString "logical_of") = true := by decide +kernel
  have g10 : isGlobal fLaw.scope (Str.ofString "len") = true := by decide +kernel
  have ne_same : compare .NotEq (encs (reord lv)) (encs (reord lv)) = some false := ne_lists (encs_tame _) (encs_tame _) (by simp)
  have hbl := built_list (xs := lv.map dat) (by simp; omega)
  have d1 : fLaw.body.drop 3 = fLaw.body.drop 3 := rfl
  conv in List.take _ _ => whnf
  refine does_pair (s := .sh (dats lv)) (t := .sh (encs (reord lv))) (by kernel_rfl) (by decide +kernel) (by decide +kernel) ?_ ?_ ?_
  · simp only [evG_z, evG_eq, made_ni, made_mu, made_ca, made_lc, made_su, made_if, made_co, made_bn, made_bb, Bool.false_eq_true, if_false]
    rw [ev_built (ds := [dats lv]) g1 fn_list (by simp [evBL_z, evBL_ni, evBL_co, evB_z, evB_nm, evB_co, evB_bi, evB_un, evB_bo, evB_if, evB_cm, evB_su, evB_li, evB_tu, evB_ca, evB_lc, h, borrow]), hbl]; rfl
  · simp only [evG_z, evG_eq, made_ni, made_mu, made_ca, made_lc, made_su, made_if, made_co, made_bn, made_bb, Bool.false_eq_true, if_false]
    rw [ev_fn (ds := [dats lv]) g2 fnOf_lo2 (by simp [evL_z, evL_ni, evL_co, ev_z, ev_none, ev_bool, ev_int, ev_name, ev_bin, ev_neg, ev_and, ev_ife, ev_cmp, ev_cut, ev_rev, ev_ixc, ev_ixn, ev_ixu, ev_ixb, ev_lst, ev_tup, ev_call, ev_lc, h, shOf]), law_order_is _ lv hl]; rfl
  conv in List.take _ _ => whnf
  refine does_assign s3 (s := .sh (encs (reord lv))) ?_ ?_
  · simp only [evG_z, evG_eq, made_ni, made_mu, made_ca, made_lc, made_su, made_if, made_co, made_bn, made_bb, Bool.false_eq_true, if_false]
    rw [ev_fn (ds := [dats lv]) g3 fnOf_re (by simp [evL_z, evL_ni, evL_co, ev_z, ev_none, ev_bool, ev_int, ev_name, ev_bin, ev_neg, ev_and, ev_ife, ev_cmp, ev_cut, ev_rev, ev_ixc, ev_ixn, ev_ixu, ev_ixb, ev_lst, ev_tup, ev_call, ev_lc, look_put', str_inj, h, shOf]), reordered_ok _ lv hf]; rfl
  have K : Knows lv dk (put (put (put ρ (Str.ofString "was") (.sh (dats lv))) (Str.ofString "due") (.sh (encs (reord lv)))) (Str.ofString "order") (.sh (encs (reord lv)))) := by
    unfold Knows
    simp [look_put', str_inj, h, hdk]
  generalize put (put (put ρ (Str.ofString "was") (.sh (dats lv))) (Str.ofString "due") (.sh (encs (reord lv)))) (Str.ofString "order") (.sh (encs (reord lv))) = ρ₁ at K
  obtain ⟨k1, k2, k3, k4, k5⟩ := id K
  conv in List.take _ _ => whnf
  refine does_if (b := false) ?_ (fun h => by cases h) (fun _ => does_nil ?_)
  · simp only [evT_z, evT_no, evT_bo, evT_c1, evT_c2, evT_ca, evA_z, evA_an, evA_on, evA_ac, evA_oc, evB_z, evB_nm, evB_co, evB_bi, evB_un, evB_bo, evB_if, evB_cm, evB_su, evB_li, evB_tu, evB_ca, evB_lc, k3, k4, borrow, Option.bind_some, ne_same, Bool.false_eq_true, if_false]
    rw [ev_fn (ds := [encs (reord lv), dats lv]) g4 fnOf_io (by simp [evL_z, evL_ni, evL_co, ev_z, ev_none, ev_bool, ev_int, ev_name, ev_bin, ev_neg, ev_and, ev_ife, ev_cmp, ev_cut, ev_rev, ev_ixc, ev_ixn, ev_ixu, ev_ixb, ev_lst, ev_tup, ev_call, ev_lc, k1, k4, shOf]), is_order_true _ lv hl]
    simp only [Option.bind_some, ev_z, ev_none, ev_bool, ev_int, ev_name, ev_bin, ev_neg, ev_and, ev_ife, ev_cmp, ev_cut, ev_rev, ev_ixc, ev_ixn, ev_ixu, ev_ixb, ev_lst, ev_tup, ev_call, ev_lc]
    have e2 : compare .IsNot (.bool true) (.bool true) = some false := rfl
    rw [e2]
    simp only [Option.bind_some, Bool.false_eq_true, if_false, g5, if_true, fnOf_ti, evL_z, evL_ni, evL_co, ev_z, ev_none, ev_bool, ev_int, ev_name, ev_bin, ev_neg, ev_and, ev_ife, ev_cmp, ev_cut, ev_rev, ev_ixc, ev_ixn, ev_ixu, ev_ixb, ev_lst, ev_tup, ev_call, ev_lc, k1, shOf, g6, fnOf_vr, visual_runs_ok _ lv hl (rl_fair hf), Option.map_some, law_tiled_is _ lv hl, ne_same]
  conv in List.take _ _ => whnf
  have hnd : (reord lv).Nodup := lft_nodup (reord_lft lv)
  have vof : ∀ n p, evF lawT (n + 30) fVisualOf [encs (reord lv), enc p] = some (datN (spotOf (reord lv) p)) := fun n p => visual_of_ok n (reord lv) p (by omega)
  refine does_for (I := fun _ ρ => Knows lv dk ρ) (enc := fun (x : Nat × Nat) => .tuple [enc x.2, enc x.1]) (items := (reord lv).zipIdx) (by simp [targetSt, s4, s5]) ?_ K ?_ ?_
  · rw [← pairsFrom_map]
    exact evI_enum g7 (by simp [ev_z, ev_none, ev_bool, ev_int, ev_name, ev_bin, ev_neg, ev_and, ev_ife, ev_cmp, ev_cut, ev_rev, ev_ixc, ev_ixn, ev_ixu, ev_ixb, ev_lst, ev_tup, ev_call, ev_lc, k3, shOf]) (by simp; omega)
  · rintro p ⟨a, k⟩ r ρ e ⟨j1, j2, j3, j4, j5⟩
    have hm : (a, k) ∈ (reord lv).zipIdx := by rw [e]; simp
    have hka : (reord lv)[k]? = some a := List.mem_zipIdx_iff_getElem?.mp hm
    have hsp := spotOf_at hnd hka
    have hlo := fun n => logical_of_in n (reord lv) k a (by omega) hka
    refine ⟨_, rfl, does_if (b := false) ?_ (fun h => by cases h) (fun _ => does_nil (does_nil ⟨rfl, ?_⟩))⟩
    · have c1 : compare .NotEq (enc k) (enc k) = some false := by simp [cp_lt, cp_le, cp_gt, cp_ge, cp_eq, cp_ne, cp_eqb, cp_neb, cp_is, cp_isnt, cp_isb, cp_isntb, cp_eql, cp_nel]
      have c2 : compare .NotEq (enc a) (enc a) = some false := by simp [cp_lt, cp_le, cp_gt, cp_ge, cp_eq, cp_ne, cp_eqb, cp_neb, cp_is, cp_isnt, cp_isb, cp_isntb, cp_eql, cp_nel]
      simp only [evT_z, evT_no, evT_bo, evT_c1, evT_c2, evT_ca, evA_z, evA_an, evA_on, evA_ac, evA_oc, evB_z, evB_nm, evB_co, evB_bi, evB_un, evB_bo, evB_if, evB_cm, evB_su, evB_li, evB_tu, evB_ca, evB_lc]
      rw [ev_fn (ds := [encs (reord lv), enc a]) g8 fnOf_vo (by simp [evL_z, evL_ni, evL_co, ev_z, ev_none, ev_bool, ev_int, ev_name, ev_bin, ev_neg, ev_and, ev_ife, ev_cmp, ev_cut, ev_rev, ev_ixc, ev_ixn, ev_ixu, ev_ixb, ev_lst, ev_tup, ev_call, ev_lc, look_put', str_inj, j4, shOf]), vof, hsp]
      simp only [datN, Option.bind_some, look_put', str_inj, String.reduceEq, if_true, if_false, borrow, c1, Bool.false_eq_true]
      rw [ev_fn (ds := [encs (reord lv), enc k]) g9 fnOf_lo (by simp [evL_z, evL_ni, evL_co, ev_z, ev_none, ev_bool, ev_int, ev_name, ev_bin, ev_neg, ev_and, ev_ife, ev_cmp, ev_cut, ev_rev, ev_ixc, ev_ixn, ev_ixu, ev_ixb, ev_lst, ev_tup, ev_call, ev_lc, look_put', str_inj, j4, shOf]), hlo]
      simp only [Option.bind_some, c2, Bool.false_eq_true, if_false]
    · unfold Knows; simp [look_put', str_inj, j1, j2, j3, j4, j5]
  intro ρ₂ K₂
  obtain ⟨j1, j2, j3, j4, j5⟩ := id K₂
  conv in List.take _ _ => whnf
  refine does_if (b := false) ?_ (fun h => by cases h) (fun _ => does_nil ?_)
  · simp only [evT_z, evT_no, evT_bo, evT_c1, evT_c2, evT_ca, evB_z, evB_nm, evB_co, evB_bi, evB_un, evB_bo, evB_if, evB_cm, evB_su, evB_li, evB_tu, evB_ca, evB_lc]
    rw [ev_compM (rs := []) (fun (x : Option Int × Nat) => .tuple [enc x.2, dat x.1]) lv.zipIdx (fun _ => false) (fun x => enc x.2) (by kernel_rfl)]
    · have hn := ne_lists (xs := []) (ys := []) (b := false) rfl rfl (by simp)
      simp [ev_z, ev_none, ev_bool, ev_int, ev_name, ev_bin, ev_neg, ev_and, ev_ife, ev_cmp, ev_cut, ev_rev, ev_ixc, ev_ixn, ev_ixu, ev_ixb, ev_lst, ev_tup, ev_call, ev_lc, evL_z, evL_ni, evL_co, hn]
    · rw [← pairsFrom_map]
      exact evI_enum g7 (by simp [ev_z, ev_none, ev_bool, ev_int, ev_name, ev_bin, ev_neg, ev_and, ev_ife, ev_cmp, ev_cut, ev_rev, ev_ixc, ev_ixn, ev_ixu, ev_ixb, ev_lst, ev_tup, ev_call, ev_lc, j1, shOf]) (by simp; omega)
    · simp
    · rintro ⟨o, k⟩ hx
      have hko : lv[k]? = some o := List.mem_zipIdx_iff_getElem?.mp hx
      refine ⟨_, rfl, ?_, fun h => by cases h⟩
      cases o with
      | some v => simp [evTs_z, evTs_ni, evTs_on, evT_z, evT_no, evT_bo, evT_c1, evT_c2, evT_ca, evA_z, evA_an, evA_on, evA_ac, evA_oc, evB_z, evB_nm, evB_co, evB_bi, evB_un, evB_bo, evB_if, evB_cm, evB_su, evB_li, evB_tu, evB_ca, evB_lc, ev_z, ev_none, ev_bool, ev_int, ev_name, ev_bin, ev_neg, ev_and, ev_ife, ev_cmp, ev_cut, ev_rev, ev_ixc, ev_ixn, ev_ixu, ev_ixb, ev_lst, ev_tup, ev_call, ev_lc, look_put', str_inj, borrow, dat, cmp_none', isNone]
      | none =>
        have hno : k ∉ reord lv := fun hm => by
          have := mem_places.mp (hp.mem_iff.mp hm)
          unfold Has at this
          rw [hko] at this; cases this
        have hs := spotOf_none hno
        have vk := fun n => vof n k
        rw [hs] at vk
        simp [evTs_z, evTs_ni, evTs_on, evT_z, evT_no, evT_bo, evT_c1, evT_c2, evT_ca, evA_z, evA_an, evA_on, evA_ac, evA_oc, evB_z, evB_nm, evB_co, evB_bi, evB_un, evB_bo, evB_if, evB_cm, evB_su, evB_li, evB_tu, evB_ca, evB_lc, ev_z, ev_none, ev_bool, ev_int, ev_name, ev_bin, ev_neg, ev_and, ev_ife, ev_cmp, ev_cut, ev_rev, ev_ixc, ev_ixn, ev_ixu, ev_ixb, ev_lst, ev_tup, ev_call, ev_lc, evL_z, evL_ni, evL_co, look_put', look_freeOf, kindIn, isGlobal, str_inj, borrow, shOf, dat, cmp_none', cmp_none, isNone, j4, fnOf_vo, vk, datN]
  conv in List.take _ _ => whnf
  refine does_if (b := false) ?_ (fun h => by cases h) (fun _ => does_nil ?_)
  · have hn := ne_lists (xs := [.none, .none, .none]) (ys := [.none, .none, .none]) (b := false) rfl rfl (by simp)
    have lo1 := fun n => logical_of_out n (reord lv) ((reord lv).length : Int) (by omega) (.inr (Int.le_refl _))
    have lo2 := fun n => logical_of_out n (reord lv) (-1) (by omega) (.inl (by decide))
    have hno : lv.length ∉ reord lv := fun hm => by
      have := has_lt (mem_places.mp (hp.mem_iff.mp hm)); omega
    have vk := fun n => vof n lv.length
    rw [spotOf_none hno] at vk
    have b1 := built_len (xs := (reord lv).map enc) (by simp; omega)
    have b2 := built_len (xs := lv.map dat) (by simp; omega)
    rw [List.length_map] at b1 b2
    have e1 : PyData.int ((reord lv).length : Int) = enc (reord lv).length := rfl
    simp only [evT_z, evT_no, evT_bo, evT_c1, evT_c2, evT_ca, evB_z, evB_nm, evB_co, evB_bi, evB_un, evB_bo, evB_if, evB_cm, evB_su, evB_li, evB_tu, evB_ca, evB_lc, ev_z, ev_none, ev_bool, ev_int, ev_name, ev_bin, ev_neg, ev_and, ev_ife, ev_cmp, ev_cut, ev_rev, ev_ixc, ev_ixn, ev_ixu, ev_ixb, ev_lst, ev_tup, ev_call, ev_lc, evL_z, evL_ni, evL_co, g8, g9, g10, if_true, fnOf_vo, fnOf_lo, fn_len, j1, j3, j4, shOf, Option.bind_some, Option.map_some, evBL_z, evBL_ni, evBL_co, evB_z, evB_nm, evB_co, evB_bi, evB_un, evB_bo, evB_if, evB_cm, evB_su, evB_li, evB_tu, evB_ca, evB_lc, borrow, b1, b2, intOf, lo1, lo2, vk, datN]
    have e2 : (-(1 : Int)) = -1 := rfl
    simp only [e2, lo2, Option.bind_some, Option.map_some, List.length_cons, List.length_nil, Nat.reduceAdd, Nat.reduceLeDiff, if_true, hn]
  conv in List.take _ _ => whnf
  exact does_nil ⟨rfl, K₂⟩
end Mine

namespace Mine
open PySem

noncomputable def ifBody : List Stmt → List Stmt
  | .If _ b _ _ :: _ => b
  | _ => []
noncomputable def lawIf : List Stmt := ifBody (fLaw.body.drop 9)

theorem law_if_rest (n : Nat) (lv : List (Option Int)) (ρ : Vars) (k : Nat) (dk : Slot) (hf : Fair lv) (K : Knows lv dk ρ) (hn : look ρ (Str.ofString "near") = some (.sh (enc k))) (hk : k + 1 < (reord lv).length) :
    Does lawT (n + 120) fLaw.scope ρ lawIf.tail (fun fl ρ' => fl = .next ∧ Knows lv dk ρ') := by
  obtain ⟨hl, hv⟩ := id hf
  have hp := reord_perm lv
  have hlen := hp.length_eq
  have hpl := places_length lv
  have s1 : storable fLaw.scope (Str.ofString "bent") = true := by decide +kernel
  have g4 : isGlobal fLaw.scope (Str.ofString "is_order_of") = true := by decide +kernel
  obtain ⟨k1, k2, k3, k4, k5⟩ := id K
  have hk0 : k < (reord lv).length := by omega
  have e0 : (reord lv)[k]? = some (reord lv)[k] := List.getElem?_eq_getElem hk0
  have e1 : (reord lv)[k + 1]? = some (reord lv)[k + 1] := List.getElem?_eq_getElem hk
  have i0 := itemOf_encs (ps := reord lv) (p := k) (by omega) e0
  have i1 := itemOf_encs (ps := reord lv) (p := k + 1) (by omega) e1
  have c1 : cut ((reord lv).map enc) none (some (k : Int)) = some (encs ((reord lv).take k)) := by
    have h1 : (reord lv).length ≤ 2 ^ 20 := by omega
    have h2 : (k : Int) < 2 ^ 60 := by omega
    simp only [cut, List.length_map, h1, if_true]
    rw [if_pos ⟨by omega, h2⟩, ← List.map_take]; rfl
  have c2 : cut ((reord lv).map enc) (some ((k : Int) + 2)) none = some (encs ((reord lv).drop (k + 2))) := by
    have h1 : (reord lv).length ≤ 2 ^ 20 := by omega
    have h2 : (k : Int) + 2 < 2 ^ 60 := by omega
    have h3 : ((k : Int) + 2).toNat = k + 2 := by omega
    simp only [cut, List.length_map, h1, if_true]
    rw [if_pos ⟨by omega, h2⟩, h3, ← List.map_drop]
  have c3 : cut ((reord lv).map enc) (some 1) none = some (encs (reord lv).tail) := by
    have h1 : (reord lv).length ≤ 2 ^ 20 := by omega
    simp only [cut, List.length_map, h1, if_true]
    rw [if_pos ⟨by omega, by omega⟩]
    have : (1 : Int).toNat = 1 := rfl
    rw [this, ← List.map_drop, List.drop_one]
  have hb : bentOf (reord lv) k = (reord lv).take k ++ [(reord lv)[k + 1], (reord lv)[k]] ++ (reord lv).drop (k + 2) := by unfold bentOf; rw [e0, e1]; rfl
  have ap : ∀ x y : Int, arith .Add (.int x) (.int y) = some (.int (x + y)) := fun x y => rfl
  have al : ∀ xs ys : List Nat, xs.length ≤ 1000 → ys.length ≤ 1000 → arith .Add (encs xs) (encs ys) = some (encs (xs ++ ys)) := fun xs ys h1 h2 => by
    simp only [ar_add, ar_sub, ar_mul, ar_mod, ar_div, ar_cat, ar_rep, List.length_map]
    rw [if_pos (by omega), ← List.map_append]
  conv in List.tail _ => whnf
  refine does_assign s1 (s := .sh (encs (bentOf (reord lv) k))) ?_ ?_
  · simp only [evG_z, evG_eq, made_ni, made_mu, made_ca, made_lc, made_su, made_if, made_co, made_bn, made_bb, Bool.false_eq_true, if_false]
    have a1 := al ((reord lv).take k) [(reord lv)[k + 1], (reord lv)[k]] (by simp; omega) (by simp)
    have a2 := al ((reord lv).take k ++ [(reord lv)[k + 1], (reord lv)[k]]) ((reord lv).drop (k + 2)) (by simp; omega) (by simp; omega)
    have e1' : ((k : Nat) : Int) + 1 = ((k + 1 : Nat) : Int) := by omega
    rw [ev_binop (a := encs ((reord lv).take k ++ [(reord lv)[k + 1], (reord lv)[k]])) (b := encs ((reord lv).drop (k + 2))) (d := encs (bentOf (reord lv) k)) ?_ ?_ (by rw [a2, hb])]
    · rfl
    · simp only [evB_z, evB_nm, evB_co, evB_bi, evB_un, evB_bo, evB_if, evB_cm, evB_su, evB_li, evB_tu, evB_ca, evB_lc]
      refine ev_binop (a := encs ((reord lv).take k)) (b := encs [(reord lv)[k + 1], (reord lv)[k]]) ?_ ?_ a1
      · simp [evB_z, evB_nm, evB_co, evB_bi, evB_un, evB_bo, evB_if, evB_cm, evB_su, evB_li, evB_tu, evB_ca, evB_lc, ev_z, ev_none, ev_bool, ev_int, ev_name, ev_bin, ev_neg, ev_and, ev_ife, ev_cmp, ev_cut, ev_rev, ev_ixc, ev_ixn, ev_ixu, ev_ixb, ev_lst, ev_tup, ev_call, ev_lc, evO_z, evO_no, evO_so, k3, borrow, listOf, hn, shOf, intOf, c1]
      · simp only [evB_z, evB_nm, evB_co, evB_bi, evB_un, evB_bo, evB_if, evB_cm, evB_su, evB_li, evB_tu, evB_ca, evB_lc, ev_z, ev_none, ev_bool, ev_int, ev_name, ev_bin, ev_neg, ev_and, ev_ife, ev_cmp, ev_cut, ev_rev, ev_ixc, ev_ixn, ev_ixu, ev_ixb, ev_lst, ev_tup, ev_call, ev_lc, evL_z, evL_ni, evL_co, k3, borrow, hn, shOf, Option.bind_some, intOf, i0, ap, e1', i1, Option.map_some]
        rfl
    · simp [evB_z, evB_nm, evB_co, evB_bi, evB_un, evB_bo, evB_if, evB_cm, evB_su, evB_li, evB_tu, evB_ca, evB_lc, ev_z, ev_none, ev_bool, ev_int, ev_name, ev_bin, ev_neg, ev_and, ev_ife, ev_cmp, ev_cut, ev_rev, ev_ixc, ev_ixn, ev_ixu, ev_ixb, ev_lst, ev_tup, ev_call, ev_lc, evO_z, evO_no, evO_so, k3, borrow, listOf, hn, shOf, intOf, c2, ap]
  have K' : Knows lv dk (put ρ (Str.ofString "bent") (.sh (encs (bentOf (reord lv) k)))) := by unfold Knows; simp [look_put', str_inj, k1, k2, k3, k4, k5]
  refine does_if (b := false) ?_ (fun h => by cases h) (fun _ => does_nil (does_nil ⟨rfl, K'⟩))
  have e2 : compare .IsNot (.bool false) (.bool false) = some false := rfl
  have hne : reord lv ≠ [] := by intro e; rw [e] at hk; simp at hk
  simp only [evT_z, evT_no, evT_bo, evT_c1, evT_c2, evT_ca, evA_z, evA_an, evA_on, evA_ac, evA_oc, evB_z, evB_nm, evB_co, evB_bi, evB_un, evB_bo, evB_if, evB_cm, evB_su, evB_li, evB_tu, evB_ca, evB_lc]
  rw [ev_fn (ds := [encs (bentOf (reord lv) k), dats lv]) g4 fnOf_io (by simp [evL_z, evL_ni, evL_co, ev_z, ev_none, ev_bool, ev_int, ev_name, ev_bin, ev_neg, ev_and, ev_ife, ev_cmp, ev_cut, ev_rev, ev_ixc, ev_ixn, ev_ixu, ev_ixb, ev_lst, ev_tup, ev_call, ev_lc, look_put', str_inj, k1, shOf]), is_order_bent _ lv hl k hk]
  simp only [Option.bind_some, ev_z, ev_none, ev_bool, ev_int, ev_name, ev_bin, ev_neg, ev_and, ev_ife, ev_cmp, ev_cut, ev_rev, ev_ixc, ev_ixn, ev_ixu, ev_ixb, ev_lst, ev_tup, ev_call, ev_lc, e2, Bool.false_eq_true, if_false]
  simp only [g4, if_true, fnOf_io, evL_z, evL_ni, evL_co, ev_z, ev_none, ev_bool, ev_int, ev_name, ev_bin, ev_neg, ev_and, ev_ife, ev_cmp, ev_cut, ev_rev, ev_ixc, ev_ixn, ev_ixu, ev_ixb, ev_lst, ev_tup, ev_call, ev_lc, evB_z, evB_nm, evB_co, evB_bi, evB_un, evB_bo, evB_if, evB_cm, evB_su, evB_li, evB_tu, evB_ca, evB_lc, evO_z, evO_no, evO_so, look_put', str_inj, String.reduceEq, if_false, k1, k3, borrow, shOf, Option.bind_some, listOf, intOf, c3, Option.map_some]
  rw [is_order_short _ lv hl hne]
  simp only [Option.bind_some, e2, Bool.false_eq_true, if_false]

theorem law_test (n : Nat) (lv : List (Option Int)) (ρ : Vars) (dk : Slot) (hf : Fair lv) (K : Knows lv dk ρ) : ∃ t b o p, (fLaw.body.drop 9).head? = some (.If t b o p) ∧ evT lawT (n + 120) fLaw.scope ρ t = some (decide (1 < (reord lv).length)) ∧ o = [] := by
  obtain ⟨hl, hv⟩ := id hf
  have hp := reord_perm lv
  have hlen := hp.length_eq
  have hpl := places_length lv
  have g10 : isGlobal fLaw.scope (Str.ofString "len") = true := by decide +kernel
  obtain ⟨k1, k2, k3, k4, k5⟩ := id K
  have b1 := built_len (xs := (reord lv).map enc) (by simp; omega)
  rw [List.length_map] at b1
  refine ⟨_, _, _, _, by rfl, ?_, rfl⟩
  simp only [evT_z, evT_no, evT_bo, evT_c1, evT_c2, evT_ca, evB_z, evB_nm, evB_co, evB_bi, evB_un, evB_bo, evB_if, evB_cm, evB_su, evB_li, evB_tu, evB_ca, evB_lc, ev_z, ev_none, ev_bool, ev_int, ev_name, ev_bin, ev_neg, ev_and, ev_ife, ev_cmp, ev_cut, ev_rev, ev_ixc, ev_ixn, ev_ixu, ev_ixb, ev_lst, ev_tup, ev_call, ev_lc, g10, if_true, fn_len, evBL_z, evBL_ni, evBL_co, k3, borrow, Option.bind_some, Option.map_some, b1]
  simp [cp_lt, cp_le, cp_gt, cp_ge, cp_eq, cp_ne, cp_eqb, cp_neb, cp_is, cp_isnt, cp_isb, cp_isntb, cp_eql, cp_nel]
  omega

theorem law_end (n : Nat) (lv : List (Option Int)) (ρ : Vars) (hf : Fair lv) (hf' : Fair (moreOf lv)) (dk : Slot) (K : Knows lv dk ρ) : Does lawT (n + 120) fLaw.scope ρ (fLaw.body.drop 10) (fun fl ρ' => fl = .ret (.bool true)) := by
  obtain ⟨hl, hv⟩ := id hf
  have hp := reord_perm lv
  have hlen := hp.length_eq
  have hpl := places_length lv
  have s1 : storable fLaw.scope (Str.ofString "more") = true := by decide +kernel
  have g3 : isGlobal fLaw.scope (Str.ofString "reordered") = true := by decide +kernel
  obtain ⟨k1, k2, k3, k4, k5⟩ := id K
  conv in List.drop _ _ => whnf
  refine does_assign s1 (s := .sh (dats (moreOf lv))) ?_ ?_
  · simp only [evG_z, evG_eq, made_ni, made_mu, made_ca, made_lc, made_su, made_if, made_co, made_bn, made_bb, Bool.false_eq_true, if_false]
    rw [ev_compM (rs := (moreOf lv).map dat) dat lv (fun _ => true) (fun o => dat (o.map (· + 1))) (by kernel_rfl)]
    · rfl
    · exact evI_sh k1 (by simp [goOver]; omega)
    · rw [List.filter_eq_self.mpr (fun _ _ => rfl), moreOf, List.map_map]; rfl
    · intro o ho
      refine ⟨_, rfl, by simp [evTs_z, evTs_ni, evTs_on], fun _ => ?_⟩
      cases o <;> simp [ev_z, ev_none, ev_bool, ev_int, ev_name, ev_bin, ev_neg, ev_and, ev_ife, ev_cmp, ev_cut, ev_rev, ev_ixc, ev_ixn, ev_ixu, ev_ixb, ev_lst, ev_tup, ev_call, ev_lc, evT_z, evT_no, evT_bo, evT_c1, evT_c2, evT_ca, evB_z, evB_nm, evB_co, evB_bi, evB_un, evB_bo, evB_if, evB_cm, evB_su, evB_li, evB_tu, evB_ca, evB_lc, look_put', borrow, shOf, dat, cmp_none', isNone, ar_add, ar_sub, ar_mul, ar_mod, ar_div, ar_cat, ar_rep]
  refine does_return (d := .bool true) ?_ rfl
  have q1 := eq_lists (xs := (reord lv).reverse.map enc) (ys := (reord lv).reverse.map enc) (b := true) (encs_tame _) (encs_tame _) (by simp)
  have q2 := eq_lists (xs := lv.map dat) (ys := lv.map dat) (b := true) (dats_tame _) (dats_tame _) (by simp)
  have h20 : ((reord lv).map enc).length ≤ 2 ^ 20 := by simp; omega
  simp only [evB_z, evB_nm, evB_co, evB_bi, evB_un, evB_bo, evB_if, evB_cm, evB_su, evB_li, evB_tu, evB_ca, evB_lc, ev_z, ev_none, ev_bool, ev_int, ev_name, ev_bin, ev_neg, ev_and, ev_ife, ev_cmp, ev_cut, ev_rev, ev_ixc, ev_ixn, ev_ixu, ev_ixb, ev_lst, ev_tup, ev_call, ev_lc, g3, if_true, fnOf_re, evL_z, evL_ni, evL_co, look_put', str_inj, String.reduceEq, if_false, shOf, Option.bind_some, Option.map_some, reordered_ok _ _ hf', more_reord, k1, k2, k3, borrow, listOf, h20, ← List.map_reverse, q1, q2, boolOf]
end Mine

namespace Mine
open PySem

section
variable {h₀ : Heap} {prog : Program} {w : World} {T : Tbl} {n : Nat}

/-- into a def of the text -/
theorem enter_fn (G : Glo h₀ T) {A : Around} {Hd : List Addr} {s : Shared} {fn : Fn} {a : Addr} {vs : List Value} {ds : List PyData} {Q : Value → Shared → Prop} (R : Room (n + 1) A) (hF : FunAt h₀ a fn) (hbase : ∀ b o, h₀.get? b = some o → s.heap.get? b = some o)
    (hlow : ∀ b ∈ Hd, ∃ o, s.heap.get? b = some o) (hrep : RepAll s.heap Hd vs ds) (hlen : fn.params.length = ds.length)
    (k : ∀ (env : Env) (Ms : List Addr) (s₁ : Shared) (m : Str → Option Value), SSt h₀ env fn.scope (Ms ++ Hd) Ms s₁.heap (fn.params.zip (ds.map .sh)) m → Keeps s s₁ → (∀ b ∈ Ms, s.heap.get? b = none) → (∀ x v, (fn.params.zip vs).lookup x = some v → m x = some v) →
      wpAny (model prog w) (A.deeper env) (execs fn.body env) (fun f s' => Q (match f with | .ret v => v | _ => .none) s') NoE s₁) :
    wpAny (model prog w) A (call (.ref a) vs) Q NoE s := by
  obtain ⟨o, fd, ho, hdata, hsc, hbody, hgl, hbl, hclo, hcode, hbind⟩ := hF.at_
  have hvl := hrep.length
  have hb := hbind vs (by omega)
  have hkindP : ∀ x ∈ fn.params, fd.scope.names.lookup x = some .local ∨ (fd.scope.names.lookup x = some .cell ∧ ((cellsFrom (s.heap.objs.size + 1) fd.scope.names []).lookup x).isSome = true) := fun x hx => by
    rw [hsc]
    rcases hF.pars x hx with q | q
    · exact .inl (by rw [← kindIn_lookup]; exact q)
    · refine .inr ⟨by rw [← kindIn_lookup]; exact q, ?_⟩
      obtain ⟨c, hc⟩ := cells_has (x := x) fn.scope.names (s.heap.objs.size + 1) [] (.inl (kindIn_mem q))
      rw [hc]; rfl
  refine wpAny_call (codeAny_call_cells (o := o) (fd := fd) (body := fn.body) (by have := R.dep; omega) (hbase _ _ ho) hdata (G.limit.keeps hbase) (hcode.keeps hbase) hbody hb hclo (fun p hp => hkindP p.1 (List.of_mem_zip hp).1) (fun s₁ X => ?_)
    (by rw [hsc]; exact hF.co) (by rw [hsc]; exact hF.gen) (by rw [hsc]; exact hF.fnk))
  generalize hL : s.heap.objs.size = L at X
  have hk₁ := X.toInCall.keep
  have hfreshL : s.heap.get? L = none := getNone_of_le (Nat.le_of_eq hL)
  have hfreshC : ∀ x c, (cellsFrom (L + 1) fd.scope.names []).lookup x = some c → s.heap.get? c = none := fun x c hc => getNone_of_le (by
    have q : L < c := X.above x c (mem_of_lookup hc)
    exact Nat.le_of_lt (hL ▸ q))
  have kindE : ∀ x, (callEnvC fd L a).kindOf x = kindIn fn.scope.names x := fun x => by
    rw [kindIn_lookup, ← hsc]; rfl
  let Cs := (cellsFrom (L + 1) fd.scope.names []).filterMap fun p => (cellsFrom (L + 1) fd.scope.names []).lookup p.1
  have hCs : ∀ b, b ∈ Cs ↔ ∃ x, (cellsFrom (L + 1) fd.scope.names []).lookup x = some b := fun b => by
    constructor
    · intro hb
      obtain ⟨p, _, q⟩ := List.mem_filterMap.mp hb
      exact ⟨p.1, q⟩
    · rintro ⟨x, hx⟩
      exact List.mem_filterMap.mpr ⟨(x, b), mem_of_lookup hx, hx⟩
  have nd : ((fn.params.zip vs).map (·.1)).Nodup := by
    rw [show (fun (x : Str × Value) => x.1) = Prod.fst from rfl, List.map_fst_zip (by omega)]; exact hF.pnd
  have F : Frame (callEnvC fd L a) s₁.heap (fun x => (fn.params.zip vs).lookup x) := {
    fn := by show fd.scope.kind = _; rw [hsc]; exact hF.fnk
    gl := hgl
    bl := hbl
    ns := ⟨_, X.toInCall.ns, fun x v hx hk => bindL_on hk _ _ nd hx⟩
    cl := fun x c hc => ⟨_, X.cell x c hc, fun u hu hk => bindC_on (by rcases hk with hk | hk <;> rw [hk] <;> simp) _ _ nd hu⟩
    apart := fun x y c hx hy => name_of_addr X.apart (mem_of_lookup hx) (mem_of_lookup hy)
    off := fun x c hc => Nat.ne_of_gt (X.above x c (mem_of_lookup hc))
    bound := fun x v hx => by
      have hm := zip_lookup_mem hx
      rcases hF.pars x hm with q | q
      · exact ⟨hF.names _ (kindIn_mem q), .inl ((kindE x).trans q)⟩
      · refine ⟨hF.names _ (kindIn_mem q), .inr ⟨.inl ((kindE x).trans q), ?_⟩⟩
        have := cells_has (x := x) fn.scope.names (L + 1) [] (.inl (kindIn_mem q))
        rw [← hsc] at this
        exact this }
  have alive : ∀ b ∈ L :: Cs, s.heap.get? b = none ∧ ∃ o, s₁.heap.get? b = some o := fun b hb => by
    rcases List.mem_cons.mp hb with rfl | hb
    · refine ⟨hfreshL, ?_⟩
      obtain ⟨o, _, _, q, _⟩ := X.toInCall.ns
      exact ⟨o, q⟩
    · obtain ⟨x, hx⟩ := (hCs b).mp hb
      refine ⟨hfreshC x b hx, ?_⟩
      obtain ⟨o, q, _⟩ := X.cell x b hx
      exact ⟨o, q⟩
  have S : SSt h₀ (callEnvC fd L a) fn.scope ((L :: Cs) ++ Hd) (L :: Cs) s₁.heap (fn.params.zip (ds.map .sh)) (fun x => (fn.params.zip vs).lookup x) := {
    base := fun b o e => hk₁ b o (hbase b o e)
    low := fun b hb => by
      rcases List.mem_append.mp hb with hb | hb
      · exact (alive b hb).2
      · obtain ⟨o, e⟩ := hlow b hb; exact ⟨o, hk₁ b o e⟩
    kinds := fun x k hx => by
      have hx' := (kindE x).trans hx
      cases k with
      | globalImplicit => exact hx'
      | «local» => exact hx'
      | cell =>
        refine ⟨hx', ?_⟩
        have := cells_has (x := x) fn.scope.names (L + 1) [] (.inl (kindIn_mem hx))
        rw [← hsc] at this
        exact this
      | free => exact absurd rfl (hF.nofree _ (kindIn_mem hx))
      | _ => trivial
    sub := fun b hb => List.mem_append_left _ hb
    frd := fun b hb => by
      cases q : h₀.get? b with
      | none => rfl
      | some o => have := hbase b o q; rw [(alive b hb).1] at this; cases this
    loc := List.mem_cons_self
    cel := fun x c hc => List.mem_cons_of_mem _ ((hCs c).mpr ⟨x, hc⟩)
    fr := F
    sl := fun x sl hx => by
      obtain ⟨v, d', e1, rfl, e3⟩ := zip_lookup fn.params vs ds hrep hlen hx
      exact ⟨v, e1, e3.mono fun b o hb e => mono_fresh (s' := s₁) hk₁ (fun b hb => (alive b hb).1) b o hb e⟩
    apart := fun x y xs ys v hx => by
      obtain ⟨_, _, _, q, _⟩ := zip_lookup fn.params vs ds hrep hlen hx
      cases q }
  have keeps : Keeps s s₁ := by
    obtain ⟨hh, tk, es⟩ := X.toInCall.same
    refine ⟨s₁.heap, s₁.toks, by rw [es], hk₁⟩
  exact wpAny_mono (k _ _ s₁ _ S keeps (fun b hb => (alive b hb).1) fun x v h => h) (fun f s' h => h) fun _ _ h => h.elim

/-- a deck of numbers, and how many were drawn -/
structure DeckAt (h : Heap) (D : Addr) (C : Addr) (t : Nat) (cells : List Int) : Prop where
  at_ : ∃ tk n, h.get? D = some (lstO [.ref C, .int (t : Int) tk] n)
  cs : ∃ vs n, h.get? C = some (lstO vs n) ∧ RepAll h [] vs (cells.map .int)
theorem DeckAt.ne {h : Heap} {D C : Addr} {t : Nat} {cells : List Int} (d : DeckAt h D C t cells) : C ≠ D := by
  rintro rfl
  obtain ⟨tk, n, e⟩ := d.at_
  obtain ⟨vs, n', e', r⟩ := d.cs
  rw [e] at e'
  cases e'
  cases cells with
  | nil => cases r
  | cons c r' => cases r with | cons a b => cases a
theorem ints_rep {h h' : Heap} {Hd : List Addr} {vs : List Value} {ns : List Int} (r : RepAll h Hd vs (ns.map .int)) {Hd' : List Addr} : RepAll h' Hd' vs (ns.map .int) := r.flat (by induction ns <;> simp_all [flat])
theorem DeckAt.keeps {h h' : Heap} {D C : Addr} {t : Nat} {cells : List Int} (d : DeckAt h D C t cells) (hk : ∀ b o, (b = D ∨ b = C) → h.get? b = some o → h'.get? b = some o) : DeckAt h' D C t cells := by
  obtain ⟨tk, n, e⟩ := d.at_
  obtain ⟨vs, n', e', r⟩ := d.cs
  exact ⟨⟨tk, n, hk _ _ (.inl rfl) e⟩, vs, n', hk _ _ (.inr rfl) e', ints_rep r⟩

theorem draw_ok (G : Glo h₀ lawT) (H : AllOk prog w lawT h₀ 150) {A : Around} {s : Shared} {a D C : Addr} {t : Nat} {cells : List Int} {b : Int} {tk : Tok} (R : Room 200 A) (hF : FunAt h₀ a fDraw) (hbase : ∀ b o, h₀.get? b = some o → s.heap.get? b = some o)
    (hD0 : h₀.get? D = none) (d : DeckAt s.heap D C t cells) (hc : cells.length ≤ 20) (ht : t ≤ 90) (hb : 0 < b) :
    wpAny (model prog w) A (call (.ref a) [.ref D, .int b tk]) (fun v s' => (∃ r tk', v = .int r tk' ∧ 0 ≤ r ∧ r < b) ∧ DeckAt s'.heap D C (t + 1) cells ∧ ButKeeps (· = D) s s') NoE s := by
  have hps : fDraw.params = [Str.ofString "deck", Str.ofString "below"] := by rfl
  have hne := d.ne
  have hrep : RepAll s.heap [] [.ref D, .int b tk] [.list [.list (cells.map .int), .int (t : Int)], .int b] := by
    obtain ⟨tk0, n0, e⟩ := d.at_
    obtain ⟨vs, n', e', r⟩ := d.cs
    exact .cons (.list e (by simp) (.cons (.list e' (by simp) r) (.cons (.int _ _) .nil))) (.cons (.int _ _) .nil)
  refine enter_fn G (Hd := []) (R.less (by omega : 150 + 1 ≤ 200)) hF hbase (by simp) hrep (by rw [hps]; rfl) fun env Ms s₁ m S k₁ hfresh hm => ?_
  have R' : Room 150 (A.deeper env) := (R.less (by omega : 150 + 1 ≤ 200)).deeper env
  have hmD : m (Str.ofString "deck") = some (.ref D) := hm _ _ (by rw [hps]; simp)
  have ebd : (Str.ofString "below" == Str.ofString "deck") = false := by decide +kernel
  have hmB : m (Str.ofString "below") = some (.int b tk) := hm _ _ (by rw [hps]; simp [List.lookup, ebd])
  have hρ : fDraw.params.zip ([PyData.list [.list (cells.map .int), .int (t : Int)], .int b].map Slot.sh) = [(Str.ofString "deck", Slot.sh (.list [.list (cells.map .int), .int (t : Int)])), (Str.ofString "below", Slot.sh (.int b))] := by rw [hps]; rfl
  rw [hρ, List.append_nil] at S
  have inMs : ∀ b, InFrame env b → b ∈ Ms := fun b hb => by
    rcases hb with rfl | ⟨y, hy⟩
    · exact S.loc
    · exact S.cel y b hy
  have hDM : D ∉ Ms := fun hm => by obtain ⟨tk0, n0, e⟩ := d.at_; rw [hfresh D hm] at e; cases e
  have hCM : C ∉ Ms := fun hm => by obtain ⟨vs, n0, e, _⟩ := d.cs; rw [hfresh C hm] at e; cases e
  have step : ∀ (st : Stmt) (rest : List Stmt), fDraw.body = st :: rest → rest = fDraw.body.tail := fun st rest e => by rw [e]; rfl
  have tail : ∀ (rest : List Stmt), rest = fDraw.body.tail → ∀ (s₂ : Shared) (h' : Heap) (tk₂ : Nat), Keeps s₁ s₂ → Heap.SameBut D s₂.heap h' → DeckAt h' D C (t + 1) cells →
      wpAny (model prog w) (A.deeper env) (execs rest env) (fun f s' => ((∃ r tk', (match f with | .ret v => v | _ => Value.none) = Value.int r tk' ∧ 0 ≤ r ∧ r < b) ∧ DeckAt s'.heap D C (t + 1) cells ∧ ButKeeps (· = D) s s')) NoE { s₂ with heap := h', toks := tk₂ } := by
    rintro rest rfl s₂ h' tk₂ k₂ hsb d'
    have S₂ := S.after k₂
    have S₄ : SSt h₀ env fDraw.scope Ms Ms h' [(Str.ofString "deck", Slot.sh (.list [.list (cells.map .int), .int ((t + 1 : Nat) : Int)])), (Str.ofString "below", Slot.sh (.int b))] m := {
      base := fun b o e => hsb.extBut b o (fun q => by rw [q, hD0] at e; cases e) (S₂.base b o e)
      low := fun b hb => by obtain ⟨o, e⟩ := S₂.low b hb; exact ⟨o, hsb.extBut b o (fun q => hDM (q ▸ hb)) e⟩
      kinds := S₂.kinds
      sub := S₂.sub
      frd := S₂.frd
      loc := S₂.loc
      cel := S₂.cel
      fr := S₂.fr.keeps fun b o hb e => hsb.extBut b o (fun q => hDM (q ▸ inMs b hb)) e
      sl := fun x sl hx => by
        simp only [look] at hx
        split at hx
        · rename_i hx'
          cases hx
          refine ⟨.ref D, by rw [hx']; exact hmD, ?_⟩
          obtain ⟨tk0, n0, e⟩ := d'.at_
          obtain ⟨vs, n', e', r⟩ := d'.cs
          exact Rep.list e hDM (.cons (.list e' hCM (ints_rep r)) (.cons (.int _ _) .nil))
        · split at hx
          · rename_i hx'
            cases hx
            exact ⟨.int b tk, by rw [hx']; exact hmB, Rep.int b tk⟩
          · cases hx
      apart := fun x y xs ys v hx => by
        simp only [look] at hx
        split at hx
        · cases hx
        · split at hx <;> cases hx }
    obtain ⟨fl, ρ'', e1, r, rfl, hr0, hrb⟩ := draw_rest 110 [(Str.ofString "deck", Slot.sh (.list [.list (cells.map .int), .int ((t + 1 : Nat) : Int)])), (Str.ofString "below", Slot.sh (.int b))] cells (t + 1) b hc (by omega) (by omega) hb (by simp [look]) (by simp [look, str_inj])
    refine wpAny_mono (H.ss _ env fDraw.scope Ms Ms { s₂ with heap := h', toks := tk₂ } _ m _ _ ρ'' R' S₄ e1) (fun f s₅ p => ?_) fun _ _ h => h
    obtain ⟨Hd', Ms', m', S₅, a1, a2, a3, a4, k₅, v', rfl, hv'⟩ := p
    have hint : ∃ tk', v' = .int r tk' := by
      rcases hv' with h | ⟨_, _, _, _, _, h, _⟩
      · exact h.int_inv
      · cases h
    obtain ⟨tk', rfl⟩ := hint
    refine ⟨⟨r, tk', rfl, hr0, hrb⟩, d'.keeps fun b o hb e => k₅.get b o (fun q => by rcases hb with rfl | rfl; exact hDM q; exact hCM q) e, ?_⟩
    obtain ⟨g₁, t₁, rfl, kk₁⟩ := k₁
    obtain ⟨g₂, t₂, rfl, kk₂⟩ := k₂
    obtain ⟨g₅, t₅, rfl, kk₅⟩ := k₅
    exact ⟨g₅, t₅, rfl, fun b o hb e => kk₅ b o (fun q => by rw [hfresh b q] at e; cases e) (hsb.extBut b o hb (kk₂ b o (kk₁ b o e)))⟩
  conv in Fn.body _ => whnf
  have ev1 : ∀ (p1 p2 p3 p4 p5 : Pos) (k1 k2 : Nat), ev lawT 150 fDraw.scope [(Str.ofString "deck", Slot.sh (.list [.list (cells.map .int), .int (t : Int)])), (Str.ofString "below", Slot.sh (.int b))]
      (.BinOp (.Subscript (.Name (Str.ofString "deck") p1) (.Constant (.int 1) k1 p2) p3) .Add (.Constant (.int 1) k2 p4) p5) = some (.int ((t + 1 : Nat) : Int)) := fun p1 p2 p3 p4 p5 k1 k2 => by
    have i1 : itemOf (.list [.list (cells.map .int), .int (t : Int)]) 1 = some (.int (t : Int)) := rfl
    simp [ev_z, ev_none, ev_bool, ev_int, ev_name, ev_bin, ev_neg, ev_and, ev_ife, ev_cmp, ev_cut, ev_rev, ev_ixc, ev_ixn, ev_ixu, ev_ixb, ev_lst, ev_tup, ev_call, ev_lc, evB_z, evB_nm, evB_co, evB_bi, evB_un, evB_bo, evB_if, evB_cm, evB_su, evB_li, evB_tu, evB_ca, evB_lc, look, borrow, intOf, i1, ar_add, ar_sub, ar_mul, ar_mod, ar_div, ar_cat, ar_rep]
  refine wpAny_execs_cons (wpAny_Assign_Subscript (wpAny_mono (H.e _ env fDraw.scope Ms s₁ _ _ (.int ((t + 1 : Nat) : Int)) R' S.toE (ev1 ..)) (fun v s₂ hv => ?_) fun _ _ h => h) rfl)
  obtain ⟨tkv, rfl⟩ := hv.2.int_inv
  have S₂ := S.after hv.1
  refine frame_name S₂.fr hmD ?_
  refine wpAny_Constant_int ?_
  obtain ⟨tk0, n0, e⟩ := d.at_
  have eD : s₂.heap.get? D = some (lstO [.ref C, .int (t : Int) tk0] n0) := keeps_get hv.1 _ _ (keeps_get k₁ _ _ e)
  refine setItem_ok (s := { s₂ with toks := s₂.toks + 1 }) eD (j := 1) (by rfl) (by simp) fun h' n' hg' hsb => ?_
  have dC : DeckAt h' D C (t + 1) cells := by
    refine ⟨⟨tkv, n', hg'⟩, ?_⟩
    obtain ⟨vs, n1, e', r⟩ := d.cs
    exact ⟨vs, n1, hsb.extBut _ _ hne (keeps_get hv.1 _ _ (keeps_get k₁ _ _ e')), r.flat (by induction cells <;> simp_all [flat])⟩
  exact tail _ rfl s₂ h' _ hv.1 hsb dC
end
end Mine

namespace Mine
open PySem

noncomputable def Same (s s' : Shared) : Prop := ∃ h t, s' = { s with heap := h, toks := t }
theorem Same.refl (s : Shared) : Same s s := ⟨s.heap, s.toks, rfl⟩
theorem Same.trans {s s₁ s₂ : Shared} (a : Same s s₁) (b : Same s₁ s₂) : Same s s₂ := by
  obtain ⟨h, t, rfl⟩ := a
  obtain ⟨h', t', rfl⟩ := b
  exact ⟨h', t', rfl⟩
theorem Same.keeps {s s' : Shared} (k : Keeps s s') : Same s s' := by obtain ⟨h, t, rfl, _⟩ := k; exact ⟨h, t, rfl⟩
theorem Same.but {W : Addr → Prop} {s s' : Shared} (k : ButKeeps W s s') : Same s s' := by obtain ⟨h, t, rfl, _⟩ := k; exact ⟨h, t, rfl⟩

section
variable {h₀ : Heap} {env : Env} {sc : Scope} {Hd Ms : List Addr} {ρ : Vars} {m : Str → Option Value} {prog : Program} {w : World} {T : Tbl} {A : Around} {s s' : Shared} {n : Nat} {h : Heap}

/-- a list of the frame's own that is changed no more -/
theorem SSt.freeze (S : SSt h₀ env sc Hd Ms h ρ m) {x : Str} {xs : List PyData} (hl : look ρ x = some (.own xs)) : ∃ a, SSt h₀ env sc (Hd.filter fun b => decide (b ≠ a)) (Ms.filter fun b => decide (b ≠ a)) h (put ρ x (.sh (.list xs))) m := by
  obtain ⟨v, hm, a, vs, c, rfl, haM, hg, hr⟩ := S.sl x _ hl
  have aloc : env.locals ≠ a := by
    rintro rfl
    obtain ⟨ml, q, _⟩ := S.fr.ns; exact ns_not_list q hg
  have acel : ∀ y c, env.cells.lookup y = some c → c ≠ a := by
    rintro y c hc rfl
    obtain ⟨u, q, _⟩ := S.fr.cl y c hc; exact cell_not_list q hg
  have less : ∀ b o, b ∉ Hd → h.get? b = some o → h.get? b = some o ∧ b ∉ Hd.filter fun b => decide (b ≠ a) := fun b o hb e => ⟨e, fun q => hb (List.mem_filter.mp q).1⟩
  refine ⟨a, {
    base := S.base
    low := fun b hb => S.low b (List.mem_filter.mp hb).1
    kinds := S.kinds
    sub := fun b hb => List.mem_filter.mpr ⟨S.sub b (List.mem_filter.mp hb).1, (List.mem_filter.mp hb).2⟩
    frd := fun b hb => S.frd b (List.mem_filter.mp hb).1
    loc := List.mem_filter.mpr ⟨S.loc, by simpa using aloc⟩
    cel := fun y c hc => List.mem_filter.mpr ⟨S.cel y c hc, by simpa using acel y c hc⟩
    fr := S.fr
    sl := fun y sl hy => by
      rw [look_put] at hy
      by_cases q : y = x
      · rw [if_pos q] at hy; cases hy
        refine ⟨.ref a, by rw [q]; exact hm, ?_⟩
        exact Rep.list hg (fun q => by simpa using (List.mem_filter.mp q).2) (hr.mono less)
      · rw [if_neg q] at hy
        obtain ⟨u, hu, hs⟩ := S.sl y sl hy
        refine ⟨u, hu, ?_⟩
        cases sl with
        | sh d => exact Rep.mono less hs
        | own ys =>
          obtain ⟨b, us, c', rfl, hb, hgb, hrb⟩ := hs
          refine ⟨b, us, c', rfl, List.mem_filter.mpr ⟨hb, ?_⟩, hgb, hrb.mono less⟩
          simp only [ne_eq, decide_eq_true_eq]
          rintro rfl
          exact q (S.apart y x ys xs _ hy hl hu hm)
    apart := fun y z ys zs u e1 e2 e3 e4 => by
      rw [look_put] at e1 e2
      split at e1
      · cases e1
      · split at e2
        · cases e2
        · exact S.apart y z ys zs u e1 e2 e3 e4 }⟩

/-- a draw, called from a frame that holds the deck -/
theorem call_draw (G : Glo h₀ lawT) (H : AllOk prog w lawT h₀ 150) (R : Room 400 A) (S : SSt h₀ env sc Hd Ms s.heap ρ m) {cells : List Int} {t : Nat} {b : Int} {p q pos : Pos} {e₂ : Expr} (hk : isGlobal sc (Str.ofString "_law_draw") = true)
    (hl : look ρ (Str.ofString "deck") = some (.own [.list (cells.map .int), .int (t : Int)])) (h2 : ev lawT 150 sc ρ e₂ = some (.int b)) (hb : 0 < b) (hc : cells.length ≤ 20) (ht : t ≤ 90) :
    wpAny (model prog w) A (eval (.Call (.Name (Str.ofString "_law_draw") p) [.Name (Str.ofString "deck") q, e₂] [] pos) env) (fun v s' => (∃ r tk, v = .int r tk ∧ 0 ≤ r ∧ r < b) ∧
      SSt h₀ env sc Hd Ms s'.heap (put ρ (Str.ofString "deck") (.own [.list (cells.map .int), .int ((t + 1 : Nat) : Int)])) m ∧ ButKeeps (· ∈ Ms) s s') NoE s := by
  obtain ⟨fa, hfun, hload⟩ := G.fn (prog := prog) (w := w) (A := A) (p := p) S.toE hk fnOf_dr
  refine PyProof.Rows.Call_ (hload _ _ ?_)
  obtain ⟨o, fd, ho, hd, _⟩ := id hfun.at_
  refine PySem.Calls.callWith_function (o := o) (fd := fd) ?_
  rw [back_cons rfl, back_cons (ev_plain h2)]
  obtain ⟨v, hm, a, vs, c, rfl, haM, hg, hr⟩ := S.sl _ _ hl
  refine PySem.Calls.evalArgs_plain (PySem.Calls.spliced_cons (frame_name S.fr hm ?_))
  refine PySem.Calls.spliced_cons (wpAny_mono (H.e A env sc Hd s ρ e₂ _ (R.less (by omega)) S.toE h2) (fun u s₁ hu => PySem.Calls.spliced_nil ?_) fun _ _ h => h)
  obtain ⟨tk, rfl⟩ := hu.2.int_inv
  have S₁ := S.after hu.1
  refine ⟨⟨S₁.base _ _ ho, hd⟩, ?_⟩
  obtain ⟨v0, ws0, rfl, r0, rr⟩ := hr.cons_inv
  obtain ⟨v1, ws1, rfl, r1, rn⟩ := rr.cons_inv
  have := rn.nil_inv
  subst this
  obtain ⟨tk1, rfl⟩ := r1.int_inv
  obtain ⟨C, us, c', rfl, hgC, hCH, hrC⟩ := r0.list_inv
  have hg₁ := keeps_get hu.1 _ _ hg
  have hgC₁ := keeps_get hu.1 _ _ hgC
  have d : DeckAt s₁.heap a C t cells := ⟨⟨tk1, c, hg₁⟩, us, c', hgC₁, ints_rep hrC⟩
  refine wpAny_mono (draw_ok G H (R.less (by omega)) hfun S₁.base (S.frd a haM) d hc ht hb) (fun v s₂ h₂ => ?_) fun _ _ h => h
  obtain ⟨⟨r, tk', rfl, hr0, hrb⟩, d₂, k₂⟩ := h₂
  refine ⟨⟨r, tk', rfl, hr0, hrb⟩, ?_, (ButKeeps.of hu.1).trans (k₂.mono fun b hb => by rw [hb]; exact haM)⟩
  obtain ⟨tk2, n2, e2⟩ := id d₂.at_
  -- the heap is changed at the deck alone, as far as old things go
  have aloc : env.locals ≠ a := by
    rintro rfl
    obtain ⟨ml, q, _⟩ := S₁.fr.ns; exact ns_not_list q hg₁
  have acel : ∀ y c, env.cells.lookup y = some c → c ≠ a := by
    rintro y c hc rfl
    obtain ⟨u, q, _⟩ := S₁.fr.cl y c hc; exact cell_not_list q hg₁
  have kept : ∀ b o, b ≠ a → s₁.heap.get? b = some o → s₂.heap.get? b = some o := fun b o hb e => k₂.get b o hb e
  have old : ∀ b o, b ∉ Hd → s₁.heap.get? b = some o → s₂.heap.get? b = some o ∧ b ∉ Hd := fun b o hb e => ⟨kept b o (fun q => hb (q ▸ S.sub a haM)) e, hb⟩
  exact {
    base := fun b o e => kept b o (fun q => by rw [q, S.frd a haM] at e; cases e) (S₁.base b o e)
    low := fun b hb => by
      by_cases q : b = a
      · subst q; exact ⟨_, e2⟩
      · obtain ⟨o, e⟩ := S₁.low b hb; exact ⟨o, kept b o q e⟩
    kinds := S.kinds
    sub := S.sub
    frd := S.frd
    loc := S.loc
    cel := S.cel
    fr := S₁.fr.keeps fun b o hb e => kept b o (by
      rcases hb with rfl | ⟨y, hy⟩
      · exact aloc
      · exact acel y b hy) e
    sl := fun y sl e => by
      rw [look_put] at e
      by_cases q : y = Str.ofString "deck"
      · rw [if_pos q] at e; cases e
        refine ⟨.ref a, by rw [q]; exact hm, a, _, n2, rfl, haM, e2, .cons ?_ (.cons (.int _ _) .nil)⟩
        obtain ⟨us', c2, e3, r3⟩ := d₂.cs
        exact .list e3 hCH (ints_rep r3)
      · rw [if_neg q] at e
        obtain ⟨v, e3, e4⟩ := S₁.sl y sl e
        refine ⟨v, e3, ?_⟩
        cases sl with
        | sh d => exact Rep.mono old e4
        | own zs =>
          obtain ⟨b, us, c, rfl, hb, hgb, hrb⟩ := e4
          refine ⟨b, us, c, rfl, hb, kept b _ (fun e5 => q ?_) hgb, hrb.mono old⟩
          subst e5
          exact S.apart y _ zs _ _ e hl e3 hm
    apart := fun y z us ws v e1 e2 e3 e4 => by
      rw [look_put] at e1 e2
      have f1 : ∃ us', look ρ y = some (.own us') := by
        by_cases q : y = Str.ofString "deck"
        · rw [q]; exact ⟨_, hl⟩
        · rw [if_neg q] at e1; exact ⟨_, e1⟩
      have f2 : ∃ us', look ρ z = some (.own us') := by
        by_cases q : z = Str.ofString "deck"
        · rw [q]; exact ⟨_, hl⟩
        · rw [if_neg q] at e2; exact ⟨_, e2⟩
      obtain ⟨_, f1⟩ := f1
      obtain ⟨_, f2⟩ := f2
      exact S.apart y z _ _ v f1 f2 e3 e4 }

/-- a block, and what follows -/
theorem execs_then (H : ∀ k, k ≤ n → AllOk prog w T h₀ k) {b : List Stmt} {Q : Flow → Shared → Prop} : ∀ (a : List Stmt) (j : Nat) (Hd Ms : List Addr) (s : Shared) (ρ ρ' : Vars) (m : Str → Option Value), j ≤ n → Room j A → SSt h₀ env sc Hd Ms s.heap ρ m → evSs T j sc ρ a = some (.next, ρ') →
    (∀ s' Hd' Ms' m', SSt h₀ env sc Hd' Ms' s'.heap ρ' m' → Same s s' → wpAny (model prog w) A (execs b env) Q NoE s') → wpAny (model prog w) A (execs (a ++ b) env) Q NoE s
  | [], j, Hd, Ms, s, ρ, ρ', m, hj, R, S, e, k => by
    cases j with
    | zero => simp [evSs_z, evSs_ni, evSs_co] at e
    | succ j =>
      simp only [evSs_z, evSs_ni, evSs_co, Option.some.injEq, Prod.mk.injEq, true_and] at e
      subst e
      exact k s Hd Ms m S (.refl s)
  | st :: r, j, Hd, Ms, s, ρ, ρ', m, hj, R, S, e, k => by
    cases j with
    | zero => simp [evSs_z, evSs_ni, evSs_co] at e
    | succ j =>
      simp only [evSs_z, evSs_ni, evSs_co] at e
      obtain ⟨⟨fl, ρ₁⟩, h1, h2⟩ := obind e
      have R' := R.less (Nat.le_succ j)
      rw [List.cons_append]
      refine wpAny_execs_cons (wpAny_mono ((H j (by omega)).s A env sc Hd Ms s ρ m st fl ρ₁ R' S h1) (fun f s₁ p => ?_) fun _ _ h => h)
      obtain ⟨Hd₁, Ms₁, m₁, S₁, a1, a2, a3, a4, a5, a6⟩ := p
      cases fl with
      | next =>
        have hf : f = .next := a6
        subst hf
        exact execs_then H r j Hd₁ Ms₁ s₁ ρ₁ ρ' m₁ (by omega) R' S₁ h2 fun s' Hd' Ms' m' S' q => k s' Hd' Ms' m' S' ((Same.but a5).trans q)
      | ret d => simp at h2
end
end Mine

namespace Mine
open PySem

section
variable {h₀ : Heap} {env : Env} {sc : Scope} {Hd Ms : List Addr} {ρ : Vars} {m : Str → Option Value} {prog : Program} {w : World} {T : Tbl} {A : Around} {s s' : Shared} {n : Nat} {h : Heap}

theorem Same.back {s₂ : Shared} (a : Same s s₂) (b : Same s s') : Same s₂ s' := by
  obtain ⟨h, t, rfl⟩ := a
  obtain ⟨h', t', rfl⟩ := b
  exact ⟨h', t', rfl⟩
theorem IterEnds.same {target : Expr} {it : Value} {items : List PyData} {s₂ : Shared} (hit : IterEnds prog w A s Hd target items it s₂) : Same s s₂ := .keeps hit.1

theorem loop_gen {target : Expr} {body : List Stmt} {it : Value} {items : List PyData} {s₂ : Shared} (hh : A.handled = none) (S : SSt h₀ env sc Hd Ms s.heap ρ m) (hit : IterEnds prog w A s Hd target items it s₂) (ht : targetSt sc target = true) (J : Nat → Vars → Prop) (h0 : J 0 ρ)
    (hB : ∀ i d ρ₁, items[i]? = some d → J i ρ₁ → ∃ ρ₂, bindT ρ₁ target d = some ρ₂ ∧ ∀ (Hd' Ms' : List Addr) (m' : Str → Option Value) (s' : Shared), SSt h₀ env sc Hd' Ms' s'.heap ρ₂ m' →
      wpAny (model prog w) A (execs body env) (fun f s'' => ∃ ρ₃, J (i + 1) ρ₃ ∧ SPost h₀ env sc s' Hd' Ms' .next ρ₃ f s'') NoE s')
    {RR : Result → Shared → Prop} (k : ∀ (s' : Shared) (ρ' : Vars) (Hd' Ms' : List Addr) (m' : Str → Option Value), J items.length ρ' → SSt h₀ env sc Hd' Ms' s'.heap ρ' m' → Same s₂ s' → RR (.ok .next) s') :
    codeAny (model prog w) A (.forLoop target it body [] env) RR s₂ := by
  refine loop_core (L := fun _ _ => False) hh S hit ht J h0 (fun i d ρ₁ hd hJ => ?_) (fun s' ρ' hJ p => ?_) fun _ _ _ _ h => h.elim
  · obtain ⟨ρ₂, e, hb⟩ := hB i d ρ₁ hd hJ
    exact ⟨ρ₂, e, fun Hd' Ms' m' s' S' => wpAny_mono (hb Hd' Ms' m' s' S') (fun _ _ ⟨ρ₃, hJ', p⟩ => ⟨.next, ρ₃, p, fun _ => hJ', fun d e => nomatch e⟩) fun _ _ h => h⟩
  · obtain ⟨Hd', Ms', m', S', _, _, _, _, b, _⟩ := p
    exact k s' ρ' Hd' Ms' m' hJ S' (hit.same.back (.but b))
end
end Mine

namespace Mine
open PySem

theorem law_nine (n : Nat) (lv : List (Option Int)) (ρ : Vars) (dk : Slot) (hf : Fair lv) (K : Knows lv dk ρ) : ∃ t p q1 q2 q3 q4 q5 e₂, fLaw.body.drop 9 = .If t (.Assign [.Name (Str.ofString "near") q1] (.Call (.Name (Str.ofString "_law_draw") q2) [.Name (Str.ofString "deck") q3, e₂] [] q4) q5 :: lawIf.tail) [] p :: fLaw.body.drop 10 ∧
    evT lawT (n + 120) fLaw.scope ρ t = some (decide (1 < (reord lv).length)) ∧ ev lawT (n + 120) fLaw.scope ρ e₂ = some (.int ((reord lv).length - 1)) := by
  obtain ⟨hl, hv⟩ := id hf
  have hp := reord_perm lv
  have hlen := hp.length_eq
  have hpl := places_length lv
  have g10 : isGlobal fLaw.scope (Str.ofString "len") = true := by decide +kernel
  obtain ⟨k1, k2, k3, k4, k5⟩ := id K
  have b1 := built_len (xs := (reord lv).map enc) (by simp; omega)
  rw [List.length_map] at b1
  refine ⟨_, _, _, _, _, _, _, _, rfl, ?_, ?_⟩
  · simp only [evT_z, evT_no, evT_bo, evT_c1, evT_c2, evT_ca, evB_z, evB_nm, evB_co, evB_bi, evB_un, evB_bo, evB_if, evB_cm, evB_su, evB_li, evB_tu, evB_ca, evB_lc, ev_z, ev_none, ev_bool, ev_int, ev_name, ev_bin, ev_neg, ev_and, ev_ife, ev_cmp, ev_cut, ev_rev, ev_ixc, ev_ixn, ev_ixu, ev_ixb, ev_lst, ev_tup, ev_call, ev_lc, g10, if_true, fn_len, evBL_z, evBL_ni, evBL_co, k3, borrow, Option.bind_some, Option.map_some, b1]
    simp [cp_lt, cp_le, cp_gt, cp_ge, cp_eq, cp_ne, cp_eqb, cp_neb, cp_is, cp_isnt, cp_isb, cp_isntb, cp_eql, cp_nel]
    omega
  · simp only [ev_z, ev_none, ev_bool, ev_int, ev_name, ev_bin, ev_neg, ev_and, ev_ife, ev_cmp, ev_cut, ev_rev, ev_ixc, ev_ixn, ev_ixu, ev_ixb, ev_lst, ev_tup, ev_call, ev_lc, evB_z, evB_nm, evB_co, evB_bi, evB_un, evB_bo, evB_if, evB_cm, evB_su, evB_li, evB_tu, evB_ca, evB_lc, g10, if_true, fn_len, evBL_z, evBL_ni, evBL_co, k3, borrow, Option.bind_some, Option.map_some, b1]
    simp [ar_add, ar_sub, ar_mul, ar_mod, ar_div, ar_cat, ar_rep]

section
variable {h₀ : Heap} {env : Env} {Hd Ms : List Addr} {ρ : Vars} {m : Str → Option Value} {prog : Program} {w : World} {A : Around} {s : Shared}

noncomputable def LawQ (h₀ : Heap) (s : Shared) (f : Flow) (s' : Shared) : Prop := f = .ret (.bool true) ∧ (∀ b o, h₀.get? b = some o → s'.heap.get? b = some o) ∧ Same s s'
theorem LawQ.from {s s₁ s' : Shared} {f : Flow} (k : Same s s₁) (h : LawQ h₀ s₁ f s') : LawQ h₀ s f s' := ⟨h.1, h.2.1, k.trans h.2.2⟩

theorem law_close (H : ∀ k, k ≤ 200 → AllOk prog w lawT h₀ k) (R : Room 400 A) (S : SSt h₀ env fLaw.scope Hd Ms s.heap ρ m) {lv : List (Option Int)} {dk : Slot} (hf : Fair lv) (hf' : Fair (moreOf lv)) (K : Knows lv dk ρ) :
    wpAny (model prog w) A (execs (fLaw.body.drop 10) env) (LawQ h₀ s) NoE s := by
  obtain ⟨fl, ρ', h1, rfl⟩ := law_end 30 lv ρ hf hf' dk K
  refine wpAny_mono ((H 150 (by omega)).ss A env fLaw.scope Hd Ms s ρ m _ _ ρ' (R.less (by omega)) S h1) (fun f s' p => ?_) fun _ _ h => h
  obtain ⟨Hd', Ms', m', S', a1, a2, a3, a4, a5, v, rfl, hv⟩ := p
  refine ⟨?_, S'.base, Same.but a5⟩
  rcases hv with h | ⟨_, _, _, _, _, h, _⟩
  · rw [h.bool_inv]
  · cases h

theorem law_if (G : Glo h₀ lawT) (H : ∀ k, k ≤ 200 → AllOk prog w lawT h₀ k) (R : Room 500 A) (S : SSt h₀ env fLaw.scope Hd Ms s.heap ρ m) {lv : List (Option Int)} {cells : List Int} {t : Nat} (hf : Fair lv) (hf' : Fair (moreOf lv))
    (K : Knows lv (.own [.list (cells.map .int), .int (t : Int)]) ρ) (hc : cells.length ≤ 20) (ht : t ≤ 90) :
    wpAny (model prog w) A (execs (fLaw.body.drop 9) env) (LawQ h₀ s) NoE s := by
  obtain ⟨te, p, q1, q2, q3, q4, q5, e₂, e9, hT, hE⟩ := law_nine 30 lv ρ _ hf K
  rw [e9]
  have g1 : isGlobal fLaw.scope (Str.ofString "_law_draw") = true := by decide +kernel
  have s1 : storable fLaw.scope (Str.ofString "near") = true := by decide +kernel
  have H150 := H 150 (by omega)
  have R150 := R.less (by omega : 150 ≤ 500)
  refine wpAny_execs_cons (wpAny_If (wpAny_mono (H150.t A env fLaw.scope Hd s ρ te _ R150 S.toE hT) (fun c s₁ hc1 => ?_) fun _ _ h => h))
  obtain ⟨rfl, k₁⟩ := hc1
  have S₁ := S.after k₁
  by_cases hlt : 1 < (reord lv).length
  · rw [if_pos (by simpa using hlt)]
    refine wpAny_execs_cons (wpAny_Assign_Name (wpAny_mono (call_draw G H150 (R.less (by omega)) S₁ g1 K.2.2.2.2 hE (by omega) hc ht) (fun v s₂ h₂ => ?_) fun _ _ h => h) rfl)
    obtain ⟨⟨r, tk, rfl, hr0, hrb⟩, S₂, k₂⟩ := h₂
    refine wpAny_mono (SSt.store S₂ s1 (sl := .sh (.int r)) (Rep.int r tk) (fun xs e => by cases e)) (fun _ s₃ h₃ => ?_) fun _ _ h => h
    obtain ⟨S₃, k₃⟩ := h₃
    have er : r = ((r.toNat : Nat) : Int) := by omega
    have K₃ : Knows lv (.own [.list (cells.map .int), .int ((t + 1 : Nat) : Int)]) (put (put ρ (Str.ofString "deck") (.own [.list (cells.map .int), .int ((t + 1 : Nat) : Int)])) (Str.ofString "near") (.sh (.int r))) := by
      obtain ⟨k1, k2, k3, k4, k5⟩ := K
      unfold Knows
      simp [look_put', str_inj, k1, k2, k3, k4]
    obtain ⟨fl, ρ', h1, rfl, K'⟩ := law_if_rest 30 lv _ r.toNat _ hf K₃ (by rw [look_put', if_pos rfl, enc, ← er]) (by omega)
    refine wpAny_mono ((H150).ss A env fLaw.scope Hd Ms s₃ _ _ _ _ ρ' R150 S₃ h1) (fun f s₄ p => ?_) fun _ _ h => h
    obtain ⟨Hd', Ms', m', S', a1, a2, a3, a4, a5, a6⟩ := p
    have hf4 : f = .next := a6
    subst hf4
    exact wpAny_mono (law_close H (R.less (by omega)) S' hf hf' K') (fun f s₅ h => LawQ.from ((Same.keeps k₁).trans ((Same.but k₂).trans ((Same.but k₃).trans (Same.but a5)))) h) fun _ _ h => h
  · rw [if_neg (by simpa using hlt)]
    refine wpAny_execs_nil ?_
    exact wpAny_mono (law_close H (R.less (by omega)) S₁ hf hf' K) (fun f s₅ h => LawQ.from (Same.keeps k₁) h) fun _ _ h => h

theorem law_rest (G : Glo h₀ lawT) (H : ∀ k, k ≤ 200 → AllOk prog w lawT h₀ k) (R : Room 500 A) (S : SSt h₀ env fLaw.scope Hd Ms s.heap ρ m) {lv : List (Option Int)} {cells : List Int} {t : Nat} (hf : Fair lv) (hf' : Fair (moreOf lv))
    (hl : look ρ (Str.ofString "levels") = some (.sh (dats lv))) (hd : look ρ (Str.ofString "deck") = some (.own [.list (cells.map .int), .int (t : Int)])) (hc : cells.length ≤ 20) (ht : t ≤ 90) :
    wpAny (model prog w) A (execs ((fLaw.body.drop 3).take 6 ++ fLaw.body.drop 9) env) (LawQ h₀ s) NoE s := by
  obtain ⟨fl, ρ', h1, rfl, K⟩ := law_mid 30 lv _ ρ hf hd hl
  refine execs_then H _ 150 Hd Ms s ρ ρ' m (by omega) (R.less (by omega)) S h1 fun s' Hd' Ms' m' S' k => ?_
  exact wpAny_mono (law_if G H R S' hf hf' K hc ht) (fun f s₅ h => LawQ.from k h) fun _ _ h => h
end
end Mine

namespace Mine
open PySem

theorem evS_assign {T : Tbl} {n : Nat} {sc : Scope} {ρ : Vars} {x : Str} {p pos : Pos} {e : Expr} {s : Slot} (hx : storable sc x = true) (h : evG T n sc ρ e = some s) : evS T (n + 1) sc ρ (.Assign [.Name x p] e pos) = some (.next, put ρ x s) := by simp [evS_z, evS_as, evS_pa, evS_it, evS_me, evS_if, evS_fo, evS_re, hx, h]

/-- a row as the law builds it -/
noncomputable def Row (lv : List (Option Int)) : Prop := ∀ o ∈ lv, o = none ∨ ∃ v : Int, o = some v ∧ 0 ≤ v ∧ v < 7
theorem row_val {lv : List (Option Int)} (h : Row lv) {p : Nat} (hp : Has lv p) : 0 ≤ val lv p ∧ val lv p < 7 := by
  have hm := List.mem_of_getElem? hp
  rcases h _ hm with e | ⟨v, e, h1, h2⟩
  · cases e
  · cases e; exact ⟨h1, h2⟩
theorem row_fair {lv : List (Option Int)} (h : Row lv) (hl : lv.length ≤ 20) : Fair lv ∧ Fair (moreOf lv) := by
  refine ⟨⟨hl, fun p hp => by have := row_val h hp; omega⟩, by simpa [moreOf] using hl, fun p hp => ?_⟩
  have hp' := more_has.1.mp hp
  rw [more_has.2 hp']
  have := row_val h hp'
  omega

/-- while the row is built -/
noncomputable def Built (cells : List Int) (i : Nat) (ρ : Vars) : Prop := ∃ lv, lv.length = i ∧ Row lv ∧ look ρ (Str.ofString "levels") = some (.own (lv.map dat)) ∧ look ρ (Str.ofString "deck") = some (.own [.list (cells.map .int), .int ((1 + i : Nat) : Int)])

section
variable {h₀ : Heap} {env : Env} {Hd Ms : List Addr} {ρ : Vars} {m : Str → Option Value} {prog : Program} {w : World} {A : Around} {s : Shared}

theorem law_loop (G : Glo h₀ lawT) (H : ∀ k, k ≤ 200 → AllOk prog w lawT h₀ k) (R : Room 500 A) (S : SSt h₀ env fLaw.scope Hd Ms s.heap ρ m) {cells : List Int} (hc : cells.length ≤ 20)
    (hl : look ρ (Str.ofString "levels") = some (.own [])) (hd : look ρ (Str.ofString "deck") = some (.own [.list (cells.map .int), .int ((0 : Nat) : Int)])) :
    wpAny (model prog w) A (execs (fLaw.body.drop 2) env) (LawQ h₀ s) NoE s := by
  have g1 : isGlobal fLaw.scope (Str.ofString "_law_draw") = true := by decide +kernel
  have g2 : isGlobal fLaw.scope (Str.ofString "range") = true := by decide +kernel
  have s1 : storable fLaw.scope (Str.ofString "number") = true := by decide +kernel
  have s2 : storable fLaw.scope (Str.ofString "k") = true := by decide +kernel
  have H150 := H 150 (by omega)
  have rest : ∀ (sts : List Stmt), sts = (fLaw.body.drop 3).take 6 ++ fLaw.body.drop 9 → ∀ (i : Nat) (s' : Shared) (ρ' : Vars) (Hd' Ms' : List Addr) (m' : Str → Option Value), i ≤ 10 → Built cells i ρ' → SSt h₀ env fLaw.scope Hd' Ms' s'.heap ρ' m' → Same s s' →
      wpAny (model prog w) A (execs sts env) (LawQ h₀ s) NoE s' := by
    rintro sts rfl i s' ρ' Hd' Ms' m' hi ⟨lv, hlen, hrow, h1, h2⟩ S' k
    obtain ⟨a, S₂⟩ := S'.freeze h1
    obtain ⟨f1, f2⟩ := row_fair hrow (by omega)
    refine wpAny_mono (law_rest G H R S₂ f1 f2 (by rw [look_put, if_pos rfl]) (t := 1 + i) ?_ hc (by omega)) (fun f s₅ h => LawQ.from k h) fun _ _ h => h
    rw [look_put, if_neg (by rw [str_inj]; simp)]
    exact h2
  conv in List.drop _ _ => whnf
  refine wpAny_execs_cons (wpAny_For ?_ (fun x => rfl))
  refine PyProof.Rows.Call_ (G.built S.toE g2 (by decide +kernel) (fv := .type "range") (by decide +kernel) _ _ ?_)
  refine callWith_known (.inr ⟨_, rfl⟩) (by intro e he; rw [List.mem_singleton.mp he]; rfl) ?_
  rw [back_cons rfl]
  refine PySem.Calls.spliced_cons (wpAny_BinOp (wpAny_Constant_int ?_))
  have S0 : SSt h₀ env fLaw.scope Hd Ms ({ s with toks := s.toks + 1 } : Shared).heap ρ m := S
  refine wpAny_mono (call_draw (s := { s with toks := s.toks + 1 }) G H150 (R.less (by omega)) S0 g1 hd (b := 10) (by simp [ev_z, ev_none, ev_bool, ev_int, ev_name, ev_bin, ev_neg, ev_and, ev_ife, ev_cmp, ev_cut, ev_rev, ev_ixc, ev_ixn, ev_ixu, ev_ixb, ev_lst, ev_tup, ev_call, ev_lc]) (by decide) hc (by omega)) (fun v s₁ h₁ => ?_) fun _ _ h => h
  obtain ⟨⟨r, tk, rfl, hr0, hrb⟩, S₁, k₁⟩ := h₁
  refine wpAny_mono (arith_ok (fun b hb => S₁.toE.lt b hb) (show arith .Add (.int 1) (.int r) = some (.int (1 + r)) from rfl) (.inl (.int _ _)) (.inl (.int _ _))) (fun v s₂ hv => PySem.Calls.spliced_nil ?_) fun _ _ h => h
  have S₂ := S₁.after hv.1
  have e1 : (1 + r) = ((1 + r.toNat : Nat) : Int) := by omega
  have hro := fun (px : Pos) => range_ok (prog := prog) (w := w) (A := A) (s := s₂) (Hd := Hd) (target := .Name (Str.ofString "k") px) (ds := [.int (1 + r)]) (items := (List.range (1 + r.toNat)).map enc) (vs := [v]) R.hd rfl (by rw [e1]; exact rangeOf_one (by omega)) (.cons (.inl hv.2) .nil)
  refine wpAny_mono (hro ?px).1 (fun xv s₃ h₃ => wpAny_mono h₃ (fun it s₄ h₄ => ?_) fun _ _ h => h) fun _ _ h => h
  rotate_left
  have hS0 : Same s { s with toks := s.toks + 1 } := ⟨s.heap, s.toks + 1, rfl⟩
  have hSame : Same s s₂ := hS0.trans ((Same.but k₁).trans (Same.keeps hv.1))
  have hSame4 : Same s₂ s₄ := Same.keeps h₄.1
  refine loop_gen R.hd S₂ h₄ (by simpa [targetSt] using s2) (Built cells) ⟨[], rfl, fun o ho => (by cases ho), by rw [look_put, if_neg (by rw [str_inj]; simp)]; exact hl, by rw [look_put, if_pos rfl]⟩ (fun i d ρ₁ hid hJ => ?_) fun s' ρ' Hd' Ms' m' hJ S' k => ?_
  · refine ⟨put ρ₁ (Str.ofString "k") (.sh d), rfl, fun Hd' Ms' m' s' S' => ?_⟩
    obtain ⟨lv, hlen, hrow, q1, q2⟩ := hJ
    have hi : i < 1 + r.toNat := by
      obtain ⟨h1, _⟩ := List.getElem?_eq_some_iff.mp hid
      simpa using h1
    refine wpAny_execs_cons (wpAny_Assign_Name (wpAny_mono (call_draw G H150 (R.less (by omega)) S' g1 (cells := cells) (t := 1 + i) (by rw [look_put, if_neg (by rw [str_inj]; simp)]; exact q2) (b := 9) (by simp [ev_z, ev_none, ev_bool, ev_int, ev_name, ev_bin, ev_neg, ev_and, ev_ife, ev_cmp, ev_cut, ev_rev, ev_ixc, ev_ixn, ev_ixu, ev_ixb, ev_lst, ev_tup, ev_call, ev_lc]) (by decide) hc (by omega)) (fun v s₅ h₅ => ?_) fun _ _ h => h) rfl)
    obtain ⟨⟨x, tkx, rfl, hx0, hxb⟩, S₅, k₅⟩ := h₅
    refine wpAny_mono (SSt.store S₅ s1 (sl := .sh (.int x)) (Rep.int x tkx) (fun xs e => by cases e)) (fun _ s₆ h₆ => ?_) fun _ _ h => h
    obtain ⟨S₆, k₆⟩ := h₆
    have hnew : ∃ o : Option Int, dat o = (if x < 7 then .int x else .none) ∧ (o = none ∨ ∃ v : Int, o = some v ∧ 0 ≤ v ∧ v < 7) := by
      by_cases h7 : x < 7
      · exact ⟨some x, by simp [dat, h7], .inr ⟨x, rfl, hx0, h7⟩⟩
      · exact ⟨none, by simp [dat, h7], .inl rfl⟩
    obtain ⟨o, ho, hor⟩ := hnew
    refine wpAny_execs_cons (wpAny_mono (H150.s A env fLaw.scope Hd' Ms' s₆ _ _ _ .next (put (put (put (put ρ₁ (Str.ofString "k") (.sh d)) (Str.ofString "deck") (.own [.list (cells.map .int), .int ((1 + i + 1 : Nat) : Int)])) (Str.ofString "number") (.sh (.int x))) (Str.ofString "levels") (.own (lv.map dat ++ [dat o]))) (R.less (by omega)) S₆ ?_) (fun f s₇ p => ?_) fun _ _ h => h)
    · have hl2 : (lv.map dat).length ≤ 2 ^ 20 := by simp; omega
      have hl3 : lv.length ≤ 1048576 := by omega
      simp [evS_z, evS_as, evS_pa, evS_it, evS_me, evS_if, evS_fo, evS_re, ev_z, ev_none, ev_bool, ev_int, ev_name, ev_bin, ev_neg, ev_and, ev_ife, ev_cmp, ev_cut, ev_rev, ev_ixc, ev_ixn, ev_ixu, ev_ixb, ev_lst, ev_tup, ev_call, ev_lc, evT_z, evT_no, evT_bo, evT_c1, evT_c2, evT_ca, evB_z, evB_nm, evB_co, evB_bi, evB_un, evB_bo, evB_if, evB_cm, evB_su, evB_li, evB_tu, evB_ca, evB_lc, look_put', str_inj, q1, shOf, borrow, cp_lt, cp_le, cp_gt, cp_ge, cp_eq, cp_ne, cp_eqb, cp_neb, cp_is, cp_isnt, cp_isb, cp_isntb, cp_eql, cp_nel, hl3, ho]
      by_cases h7 : x < 7 <;> simp [h7]
    · obtain ⟨Hd₇, Ms₇, m₇, S₇, b1, b2, b3, b4, b5, b6⟩ := id p
      have hf : f = .next := b6
      subst hf
      refine wpAny_execs_nil ⟨_, ⟨lv ++ [o], by simp [hlen], fun o' ho' => ?_, ?_, ?_⟩, SPost.trans (fun _ h => h) (fun _ h => h) (fun _ h => .inl h) (fun _ h => .inl h) (k₅.trans k₆) (fun b hb => S₆.low b (S₆.sub b hb)) p⟩
      · rcases List.mem_append.mp ho' with h | h
        · exact hrow o' h
        · rw [List.mem_singleton.mp h]; exact hor
      · simp [look_put', str_inj]
      · simp [look_put', str_inj]; omega
  · have hlen : ((List.range (1 + r.toNat)).map enc).length ≤ 10 := by simp; omega
    exact rest _ rfl _ s' ρ' Hd' Ms' m' hlen hJ S' (hSame.trans (hSame4.trans k))

theorem law_walk (G : Glo h₀ lawT) (H : ∀ k, k ≤ 200 → AllOk prog w lawT h₀ k) (R : Room 500 A) {ns : List Int} (hns : ns.length ≤ 1000) (S : SSt h₀ env fLaw.scope Ms Ms s.heap [(Str.ofString "script", .sh (.list (ns.map .int)))] m) :
    wpAny (model prog w) A (execs fLaw.body env) (LawQ h₀ s) NoE s := by
  have g1 : isGlobal fLaw.scope (Str.ofString "list") = true := by decide +kernel
  have s1 : storable fLaw.scope (Str.ofString "deck") = true := by decide +kernel
  have s2 : storable fLaw.scope (Str.ofString "levels") = true := by decide +kernel
  have H150 := H 150 (by omega)
  have R150 := R.less (by omega : 150 ≤ 500)
  have hcl : (ns.take 20).length ≤ 20 := by simp; omega
  have loop : ∀ sts, sts = fLaw.body.drop 2 → ∀ (s' : Shared) (Hd' Ms' : List Addr) (ρ' : Vars) (m' : Str → Option Value), SSt h₀ env fLaw.scope Hd' Ms' s'.heap ρ' m' → look ρ' (Str.ofString "levels") = some (.own []) → look ρ' (Str.ofString "deck") = some (.own [.list ((ns.take 20).map .int), .int ((0 : Nat) : Int)]) → Same s s' →
      wpAny (model prog w) A (execs sts env) (LawQ h₀ s) NoE s' := by
    rintro sts rfl s' Hd' Ms' ρ' m' S' h1 h2 k
    exact wpAny_mono (law_loop G H R S' hcl h1 h2) (fun f s₅ h => LawQ.from k h) fun _ _ h => h
  conv in Fn.body _ => whnf
  have hcut : cut (ns.map .int) none (some 20) = some (.list ((ns.take 20).map .int)) := by
    simp only [cut, List.length_map]
    rw [if_pos (by omega), if_pos ⟨by omega, by omega⟩, ← List.map_take]
    rfl
  have hb := built_list (xs := (ns.take 20).map PyData.int) (by simp; omega)
  refine wpAny_execs_cons (wpAny_Assign_Name (wpAny_mono (displays (k := 0) R150 H150.l S.toE (ds := [.list ((ns.take 20).map .int), .int 0]) ?_ (by simp)).1 (fun v s₁ h₁ => ?_) fun _ _ h => h) rfl)
  · simp [evL_z, evL_ni, evL_co, ev_z, ev_none, ev_bool, ev_int, ev_name, ev_bin, ev_neg, ev_and, ev_ife, ev_cmp, ev_cut, ev_rev, ev_ixc, ev_ixn, ev_ixu, ev_ixb, ev_lst, ev_tup, ev_call, ev_lc, evBL_z, evBL_ni, evBL_co, evB_z, evB_nm, evB_co, evB_bi, evB_un, evB_bo, evB_if, evB_cm, evB_su, evB_li, evB_tu, evB_ca, evB_lc, evO_z, evO_no, evO_so, g1, fn_list, look, borrow, listOf, intOf, hcut, -List.map_take, hb]
  obtain ⟨⟨k₁, rv⟩, D, rfl, hfr⟩ := h₁
  obtain ⟨D', vs, c, e, hg, hDM, hr⟩ := rv.list_inv
  cases e
  obtain ⟨v0, ws0, rfl, r0, rr⟩ := hr.cons_inv
  obtain ⟨v1, ws1, rfl, r1, rn⟩ := rr.cons_inv
  have := rn.nil_inv
  subst this
  obtain ⟨tk1, rfl⟩ := r1.int_inv
  obtain ⟨C, us, c', rfl, hgC, hCH, hrC⟩ := r0.list_inv
  have d : DeckAt s₁.heap D C 0 (ns.take 20) := ⟨⟨tk1, c, hg⟩, us, c', hgC, ints_rep hrC⟩
  have S₁ : SSt h₀ env fLaw.scope ([D] ++ Ms) ([D] ++ Ms) s₁.heap _ m := S.grow (ns := [D]) (ms := [D]) (keeps_get k₁) (fun b hb => by rw [List.mem_singleton.mp hb]; exact ⟨hfr, _, hg⟩) fun b hb => hb
  have hslot : SlotS s₁.heap ([D] ++ Ms) ([D] ++ Ms) (.ref D) (.own [.list ((ns.take 20).map .int), .int ((0 : Nat) : Int)]) := by
    refine ⟨D, _, c, rfl, by simp, hg, .cons (.list hgC (fun hm => ?_) (ints_rep hrC)) (.cons (.int _ _) .nil)⟩
    rcases List.mem_append.mp hm with h | h
    · exact d.ne (List.mem_singleton.mp h)
    · exact hCH h
  refine wpAny_mono (SSt.store S₁ s1 hslot (fun xs e y ys _ hy => ?_)) (fun _ s₂ h₂ => ?_) fun _ _ h => h
  · simp only [look] at hy
    split at hy
    · cases hy
    · cases hy
  obtain ⟨S₂, k₂⟩ := h₂
  refine wpAny_execs_cons (wpAny_mono (H150.s A env fLaw.scope _ _ s₂ _ _ _ .next _ R150 S₂ (evS_assign s2 (s := .own []) rfl)) (fun f s₃ p => ?_) fun _ _ h => h)
  obtain ⟨Hd', Ms', m', S₃, a1, a2, a3, a4, a5, a6⟩ := p
  have hf : f = .next := a6
  subst hf
  exact loop _ rfl s₃ Hd' Ms' _ m' S₃ (by simp [look_put', str_inj]) (by simp [look_put', str_inj]) ((Same.keeps k₁).trans ((Same.but k₂).trans (Same.but a5)))
end
end Mine

namespace Mine
open PySem PyProof.Rows

theorem fm_congr {α β : Type} {f g : α → Option β} : ∀ l : List α, (∀ x ∈ l, f x = g x) → l.filterMap f = l.filterMap g
  | [], _ => rfl
  | x :: r, h => by
    rw [List.filterMap_cons, List.filterMap_cons, h x List.mem_cons_self, fm_congr r fun y hy => h y (List.mem_cons_of_mem _ hy)]
theorem zip_look : ∀ (ps : List Str) (vs : List Value), ps.Nodup → vs.length = ps.length → (∀ p ∈ ps, ∃ v, (ps.zip vs).lookup p = some v) ∧ (ps.filterMap fun n => ((ps.zip vs).lookup n).map (n, ·)) = ps.zip vs
  | [], vs, _, _ => by simp
  | p :: ps, [], _, h => by simp at h
  | p :: ps, v :: vs, nd, h => by
    obtain ⟨h1, h2⟩ := List.nodup_cons.mp nd
    obtain ⟨i1, i2⟩ := zip_look ps vs h2 (by simpa using h)
    refine ⟨fun q hq => ?_, ?_⟩
    · rw [List.zip_cons_cons, List.lookup_cons]
      cases e : q == p with
      | true => exact ⟨v, rfl⟩
      | false =>
        rcases List.mem_cons.mp hq with r | r
        · rw [r] at e; simp at e
        · exact i1 q r
    · rw [List.zip_cons_cons, List.filterMap_cons]
      simp only [List.lookup_cons, beq_self_eq_true, Option.map_some]
      congr 1
      refine (fm_congr _ fun q hq => ?_).trans i2
      have : (q == p) = false := by simpa using fun (e : q = p) => h1 (e ▸ hq)
      rw [this]

theorem bind_plain {fd : FuncData} {ps : List Str} {vals : List Value} (h1 : fd.params.posonlyargs = []) (h2 : fd.params.args.map (·.arg) = ps) (h3 : fd.params.vararg = none) (h4 : fd.params.kwonlyargs = []) (h5 : fd.params.kwarg = none) (h6 : fd.defaults = .none)
    (nd : ps.Nodup) (hl : vals.length = ps.length) : bindArgs fd ⟨vals, []⟩ = pure (ps.zip vals) := by
  obtain ⟨z1, z2⟩ := zip_look ps vals nd hl
  have hs : (seqItems? fd.defaults : Sem _) = pure none := by rw [h6]; rfl
  have hmiss : (ps.filter fun n => ((ps.zip vals).lookup n).isNone) = [] := by
    rw [List.filter_eq_nil_iff]
    intro p hp
    obtain ⟨v, e⟩ := z1 p hp
    rw [e]; simp
  have hmiss' : List.filter (fun n => (List.lookup n (ps.zip vals)).isNone) (List.take ps.length ps) = [] := by rw [List.take_length]; exact hmiss
  unfold bindArgs
  simp only [h1, h2, h3, h4, h5, hs, List.map_nil, List.nil_append, List.append_nil, pure_bind, Option.getD_none, hl]
  simp [hmiss, z2, pure_bind]

noncomputable def okDef (d : DefRec) : Bool :=
  plainName d.name && d.params.posonlyargs.isEmpty && d.params.vararg.isNone && d.params.kwonlyargs.isEmpty && d.params.kwarg.isNone && d.scope.kind == .function && !d.scope.isCoroutine && !d.scope.isGenerator &&
  d.scope.names.all (fun p => plainName p.1 && p.2 != .free) && (d.params.args.map (·.arg)).all (fun x => kindIn d.scope.names x == some .local || kindIn d.scope.names x == some .cell) && decide ((d.params.args.map (·.arg)).Nodup)
noncomputable def tblOfRecs (l : List DefRec) : Tbl := l.map fun d => (d.name, ⟨d.params.args.map (·.arg), d.body, d.scope⟩)
theorem fnOf_mem {f : Str} {fn : Fn} : ∀ {T : Tbl}, fnOf T f = some fn → (f, fn) ∈ T
  | [], h => by cases h
  | (y, t) :: r, h => by
    unfold fnOf at h
    split at h
    · rename_i e; cases h; subst e; exact List.mem_cons_self
    · exact List.mem_cons_of_mem _ (fnOf_mem h)

theorem glo_of {p : Program} {loose : List Str} {mean : ExcName → Option Value} {mg mb : Str → Option Value} {h : Heap} {T : Tbl} (TT : Top p loose mean mg mb h) (hT : tblOfRecs (recsOf p) = T) (hok : (recsOf p).all okDef = true)
    (hfree : ∀ f ∈ builtNames, f ∉ startupNames ∧ f ∉ loose ∧ f ∉ (recsOf p).map (·.name) ∧ f ∉ (litsOf p).map (·.1) ∧ f ∉ (clssOf p loose).map (·.name) ∧ f ≠ "__name__") : Glo h T where
  limit := TT.nolimit
  ns := by
    refine ⟨mg, mb, TT.g, TT.b, fun f fn hf => ?_, fun f hf => ?_⟩
    · rw [← hT] at hf
      obtain ⟨d, hd, e⟩ := List.mem_map.mp (fnOf_mem hf)
      cases e
      have ok := List.all_eq_true.mp hok d hd
      unfold okDef at ok
      simp only [Bool.and_eq_true, List.all_eq_true, decide_eq_true_eq, Bool.or_eq_true, beq_iff_eq, bne_iff_ne, ne_eq, List.isEmpty_iff, Option.isNone_iff_eq_none, Bool.not_eq_true'] at ok
      obtain ⟨⟨⟨⟨⟨⟨⟨⟨⟨⟨o1, o2⟩, o3⟩, o4⟩, o5⟩, o6⟩, o7⟩, o8⟩, o9⟩, o10⟩, o11⟩ := ok
      obtain ⟨a, o, pm, code, doc, q1, q2, q3, q4⟩ := TT.fn d hd
      refine ⟨o1, a, q1, { at_ := ⟨o, _, q2, q3, rfl, rfl, rfl, rfl, rfl, q4, fun vals hv => ?_⟩, fnk := o6, co := o7, gen := o8, names := fun x hx => (o9 x hx).1, nofree := fun x hx => (o9 x hx).2, pars := o10, pnd := o11 }⟩
      exact bind_plain o2 rfl o3 o4 o5 rfl o11 hv
    · obtain ⟨f1, f2, f3, f4, f5, f6⟩ := hfree f hf
      exact ⟨TT.free f f1 f2 f3 f4 f5, TT.builtins f f6⟩
end Mine

namespace Mine
open PySem PyProof.Rows PySem.W

theorem room_law (env : Env) : Room 500 (callerA.deeper env) := ⟨rfl, by show 1 + claimMargin + 1 + 500 < recursionLimit; decide, by show 4 + 3 + 8 * 500 + 200 < cLine; decide⟩
theorem law_cells (L : Nat) : cellsFrom (L + 1) fLaw.scope.names [] = [(Str.ofString "order", L + 1)] := by kernel_rfl

theorem law_fin {prog : Program} {w : World} (hS : SortTup prog w) {h₀ h₁ : Heap} (G : Glo h₀ lawT) {A : Around} (R : Room 500 A) {env : Env} {s : Shared} {mm : Str → Option Value} {a : Addr} {u : Option Value} {o : Obj} {vs : List Value} {c : Nat} {ns : List Int}
    (hs : s.heap = h₁) (he1 : env.scope = fLaw.scope) (he2 : env.locals = h₀.objs.size) (he3 : env.globals = mainGlobals) (he4 : env.cells = cellsFrom (h₀.objs.size + 1) fLaw.scope.names []) (he5 : env.builtins = builtinsNs)
    (F : Fr h₀ h₀.objs.size h₁ mm) (hc : h₁.get? (h₀.objs.size + 1) = some o) (hod : o.data = .cell u) (hm : mm (Str.ofString "script") = some (.ref a)) (hl : h₀.get? a = some (lstO vs c)) (hi : IntsAre vs ns) (hn : ns.length ≤ 1000) :
    wpAny (model prog w) A (execs fLaw.body env) (LawQ h₀ s) NoE s := by
  subst hs
  rw [law_cells] at he4
  have look1 : ∀ x c, env.cells.lookup x = some c → x = Str.ofString "order" ∧ c = h₀.objs.size + 1 := fun x c h => by
    rw [he4, List.lookup_cons] at h
    cases q : x == Str.ofString "order" with
    | true => rw [q] at h; cases h; exact ⟨beq_iff_eq.mp q, rfl⟩
    | false => rw [q] at h; cases h
  have hL : ∃ o, s.heap.get? h₀.objs.size = some o := by obtain ⟨o, _, _, q, _⟩ := F.ns; exact ⟨o, q⟩
  have kk : ∀ x, env.kindOf x = kindIn fLaw.scope.names x := fun x => by rw [kindIn_lookup, ← he1]; rfl
  have kscript : kindIn fLaw.scope.names (Str.ofString "script") = some .local := by kernel_rfl
  have korder : kindIn fLaw.scope.names (Str.ofString "order") = some .cell := by kernel_rfl
  have cellIs : s.heap.IsCell (h₀.objs.size + 1) u := ⟨o, hc, hod⟩
  have none₀ : ∀ b, b = h₀.objs.size ∨ b = h₀.objs.size + 1 → h₀.get? b = none := fun b hb => getNone_of_le (by rcases hb with rfl | rfl <;> omega)
  have ane : a ≠ h₀.objs.size ∧ a ≠ h₀.objs.size + 1 := by
    constructor <;> rintro rfl
    · rw [none₀ _ (.inl rfl)] at hl; cases hl
    · rw [none₀ _ (.inr rfl)] at hl; cases hl
  have scopeKind : fLaw.scope.kind = .function := by kernel_rfl
  have onlyCell : ∀ p ∈ fLaw.scope.names, p.2 = .cell → p.1 = Str.ofString "order" := by
    have : fLaw.scope.names.all (fun p => p.2 != .cell || p.1 == Str.ofString "order") = true := by kernel_rfl
    intro p hp hk
    have := List.all_eq_true.mp this p hp
    simp only [Bool.or_eq_true, bne_iff_ne, ne_eq, beq_iff_eq] at this
    exact this.resolve_left fun h => h hk
  have noFree : ∀ p ∈ fLaw.scope.names, p.2 ≠ .free := by
    have : fLaw.scope.names.all (fun p => p.2 != .free) = true := by kernel_rfl
    intro p hp
    have := List.all_eq_true.mp this p hp
    simpa using this
  have S : SSt h₀ env fLaw.scope [h₀.objs.size, h₀.objs.size + 1] [h₀.objs.size, h₀.objs.size + 1] s.heap [(Str.ofString "script", .sh (.list (ns.map .int)))] (fun x => if x = Str.ofString "script" then some (.ref a) else none) := {
    base := F.keep
    low := fun b hb => by
      simp only [List.mem_cons, List.not_mem_nil, or_false] at hb
      rcases hb with rfl | rfl
      · exact hL
      · exact ⟨o, hc⟩
    kinds := fun x k hx => by
      have hx' := (kk x).trans hx
      cases k with
      | globalImplicit => exact hx'
      | «local» => exact hx'
      | cell =>
        refine ⟨hx', h₀.objs.size + 1, ?_⟩
        have := onlyCell _ (kindIn_mem hx) rfl
        simp only at this
        rw [he4, this]; simp
      | free => exact absurd rfl (noFree _ (kindIn_mem hx))
      | _ => trivial
    sub := fun b hb => hb
    frd := fun b hb => none₀ b (by simpa using hb)
    loc := by rw [he2]; simp
    cel := fun x c h => by rw [(look1 x c h).2]; simp
    fr := {
      fn := by rw [he1]; exact scopeKind
      gl := he3
      bl := he5
      ns := by
        rw [he2]
        refine ⟨mm, F.ns, fun x v hx _ => ?_⟩
        split at hx
        · rename_i e; cases hx; rw [e]; exact hm
        · cases hx
      cl := fun x c h => by
        rw [(look1 x c h).2]
        refine ⟨u, cellIs, fun v hv hk => ?_⟩
        split at hv
        · rename_i e
          have := (look1 x c h).1
          rw [e, str_inj] at this
          simp at this
        · cases hv
      apart := fun x y c hx hy => by rw [(look1 x c hx).1, (look1 y c hy).1]
      off := fun x c h => by rw [(look1 x c h).2, he2]; exact Nat.succ_ne_self _
      bound := fun x v hx => by
        split at hx
        · rename_i e
          rw [e]
          exact ⟨by decide +kernel, .inl ((kk _).trans kscript)⟩
        · cases hx }
    sl := fun x sl hx => by
      simp only [look] at hx
      split at hx
      · rename_i e
        cases hx
        refine ⟨.ref a, by show (if x = Str.ofString "script" then some (Value.ref a) else none) = _; rw [if_pos e], ?_⟩
        exact Rep.list (F.keep _ _ hl) (by simp [ane.1, ane.2]) (repAll_ints hi)
      · cases hx
    apart := fun x y xs ys v hx => by
      simp only [look] at hx
      split at hx <;> cases hx }
  exact law_walk G (all_ok G hS 200) R hn S

theorem wells {P : Params} {h : Heap} {a : Addr} {vs : List Value} {xs : List PyData} (W : Well P h (.ref a) (ofPy (.list xs))) (hl : h.IsList a vs.toArray) : h.get? a = some (lstO vs 0) := by
  generalize hv : Value.ref a = v at W
  generalize hd : ofPy (.list xs) = d at W
  cases W with
  | list e _ =>
    cases hv
    obtain ⟨o, e2, _, n, hd2⟩ := hl
    rw [e] at e2
    cases e2
    cases hd2
    exact e
  | _ => first | (cases hv; done) | (simp [ofPy] at hd; done) | (cases hd; done)
end Mine

namespace Mine
open PySem PySem.W PyProof.Rows

/-- what a tree of questions ends in, if they are answered by f -/
noncomputable def TW {α : Type} (f : Nat → Nat → Bool) (N : Nat) (R : α → Prop) : KasT α → Prop
  | .ret a => R a
  | .ask i j k => i < N ∧ j < N ∧ i ≠ j ∧ TW f N R (k (f i j))
theorem TW.mono {α : Type} {f : Nat → Nat → Bool} {N : Nat} {R R' : α → Prop} (h : ∀ a, R a → R' a) : ∀ {t : KasT α}, TW f N R t → TW f N R' t
  | .ret a, x => h a x
  | .ask i j k, x => ⟨x.1, x.2.1, x.2.2.1, TW.mono h x.2.2.2⟩
theorem TW.bind {α β : Type} {f : Nat → Nat → Bool} {N : Nat} {R : β → Prop} {g : α → KasT β} : ∀ {t : KasT α}, TW f N (fun a => TW f N R (g a)) t → TW f N R (t.bind g)
  | .ret a, x => x
  | .ask i j k, x => ⟨x.1, x.2.1, x.2.2.1, TW.bind (t := k (f i j)) x.2.2.2⟩
theorem TW.wp {α : Type} {f : Nat → Nat → Bool} {N : Nat} {R : α → Prop} {cmp : Nat → Nat → (Bool → Shared → Prop) → Shared → Prop} {G : α → Shared → Prop} {s : Shared} (hc : ∀ i j (C : Bool → Shared → Prop), i < N → j < N → i ≠ j → C (f i j) s → cmp i j C s)
    (hG : ∀ a, R a → G a s) : ∀ {t : KasT α}, TW f N R t → t.kasWp cmp G s
  | .ret a, x => hG a x
  | .ask i j k, x => hc i j _ x.1 x.2.1 x.2.2.1 (TW.wp hc hG x.2.2.2)

section
variable {K : Nat → Int} {N : Nat}
noncomputable abbrev lessOf (K : Nat → Int) (i j : Nat) : Bool := decide (K i < K j)
noncomputable abbrev kv (K : Nat → Int) (p : Array Nat) (i : Nat) : Int := K (p.getD i 0)
noncomputable def GoodP (N : Nat) (p : Array Nat) : Prop := p.Perm (List.toArray (List.range N))
noncomputable def Sp (K : Nat → Int) (p : Array Nat) (m : Nat) : Prop := ∀ i j, i < j → j < m → kv K p i < kv K p j
noncomputable def Dp (K : Nat → Int) (p : Array Nat) (m : Nat) : Prop := ∀ i j, i < j → j < m → kv K p j < kv K p i
theorem GoodP.size {p : Array Nat} (h : GoodP N p) : p.size = N := by have := h.size_eq; simpa using this
theorem getD_eq {p : Array Nat} {i : Nat} (h : i < p.size) : p.getD i 0 = p[i] := by simp [Array.getD, h]
theorem GoodP.lt {p : Array Nat} (h : GoodP N p) (hN : 0 < N) (i : Nat) : p.getD i 0 < N := by
  by_cases hi : i < p.size
  · rw [getD_eq hi]
    have : p[i] ∈ List.toArray (List.range N) := h.mem_iff.mp (Array.getElem_mem hi)
    simpa using this
  · simp [Array.getD, hi]; exact hN
theorem GoodP.ne {p : Array Nat} (h : GoodP N p) {i j : Nat} (hi : i < N) (hj : j < N) (hne : i ≠ j) : p.getD i 0 ≠ p.getD j 0 := by
  have hs := h.size
  have nd : p.toList.Nodup := by
    have h1 : p.toList.Perm (List.range N) := by have := Array.perm_iff_toList_perm.mp h; simpa using this
    exact h1.nodup_iff.mpr List.nodup_range
  rw [getD_eq (by omega), getD_eq (by omega)]
  intro e
  have hp := List.pairwise_iff_getElem.mp nd
  rcases Nat.lt_or_ge i j with q | q
  · exact hp i j (by simp; omega) (by simp; omega) q (by simpa using e)
  · exact hp j i (by simp; omega) (by simp; omega) (by omega) (by simpa using e.symm)
variable (hK : ∀ i j, i < N → j < N → i ≠ j → K i ≠ K j)
include hK
theorem kv_ne {p : Array Nat} (h : GoodP N p) {i j : Nat} (hi : i < N) (hj : j < N) (hne : i ≠ j) : kv K p i ≠ kv K p j :=
  hK _ _ (h.lt (by omega) i) (h.lt (by omega) j) (h.ne hi hj hne)

theorem tw_asc {p : Array Nat} (h : GoodP N p) : ∀ (f n : Nat), 1 ≤ n → n + f ≤ N → Sp K p n → TW (lessOf K) N (fun m => n ≤ m ∧ m ≤ n + f ∧ Sp K p m ∧ (m < n + f → kv K p m < kv K p (m - 1))) (kas_asc p f n)
  | 0, n, h1, hn, hs => ⟨Nat.le_refl _, Nat.le_refl _, hs, fun q => absurd q (Nat.lt_irrefl _)⟩
  | f + 1, n, h1, hn, hs => by
    refine ⟨h.lt (by omega) n, h.lt (by omega) (n - 1), h.ne (by omega) (by omega) (by omega), ?_⟩
    by_cases c : kv K p n < kv K p (n - 1)
    · have e : lessOf K (p.getD n 0) (p.getD (n - 1) 0) = true := decide_eq_true c
      rw [e]; dsimp only; rw [if_pos rfl]
      exact ⟨Nat.le_refl _, by omega, hs, fun _ => c⟩
    · have e : lessOf K (p.getD n 0) (p.getD (n - 1) 0) = false := decide_eq_false c
      rw [e]; dsimp only; rw [if_neg Bool.false_ne_true]
      have hne := kv_ne hK h (i := n) (j := n - 1) (by omega) (by omega) (by omega)
      have hs' : Sp K p (n + 1) := fun i j hij hj => by
        by_cases q : j = n
        · rw [q]
          by_cases q2 : i = n - 1
          · rw [q2]; omega
          · have := hs i (n - 1) (by omega) (by omega); omega
        · exact hs i j hij (by omega)
      refine (tw_asc h f (n + 1) (by omega) (by omega) hs').mono fun m hm => ⟨by omega, by omega, hm.2.2.1, fun q => hm.2.2.2 (by omega)⟩
theorem tw_desc {p : Array Nat} (h : GoodP N p) : ∀ (f n : Nat), 1 ≤ n → n + f ≤ N → Dp K p n → TW (lessOf K) N (fun r => r.1 = p ∧ r.2.2 = 0 ∧ n ≤ r.2.1 ∧ r.2.1 ≤ n + f ∧ Dp K p r.2.1) (kas_desc f p n 0)
  | 0, n, h1, hn, hs => ⟨rfl, rfl, Nat.le_refl _, Nat.le_refl _, hs⟩
  | f + 1, n, h1, hn, hs => by
    refine ⟨h.lt (by omega) n, h.lt (by omega) (n - 1), h.ne (by omega) (by omega) (by omega), ?_⟩
    by_cases c : kv K p n < kv K p (n - 1)
    · have e : lessOf K (p.getD n 0) (p.getD (n - 1) 0) = true := decide_eq_true c
      rw [e]; dsimp only; rw [if_pos rfl, if_neg (by omega)]
      have hs' : Dp K p (n + 1) := fun i j hij hj => by
        by_cases q : j = n
        · rw [q]
          by_cases q2 : i = n - 1
          · rw [q2]; exact c
          · have := hs i (n - 1) (by omega) (by omega); omega
        · exact hs i j hij (by omega)
      exact (tw_desc h f (n + 1) (by omega) (by omega) hs').mono fun r hr => ⟨hr.1, hr.2.1, by omega, by omega, hr.2.2.2.2⟩
    · have e : lessOf K (p.getD n 0) (p.getD (n - 1) 0) = false := decide_eq_false c
      rw [e]; dsimp only; rw [if_neg Bool.false_ne_true]
      have hne := kv_ne hK h (i := n) (j := n - 1) (by omega) (by omega) (by omega)
      refine ⟨h.lt (by omega) (n - 1), h.lt (by omega) n, h.ne (by omega) (by omega) (by omega), ?_⟩
      have e2 : lessOf K (p.getD (n - 1) 0) (p.getD n 0) = true := by
        have : kv K p (n - 1) < kv K p n := by omega
        exact decide_eq_true this
      rw [e2]; dsimp only; rw [if_pos rfl]
      exact ⟨rfl, rfl, Nat.le_refl _, Nat.le_add_right _ _, hs⟩
omit hK in
theorem good_rev {p : Array Nat} (h : GoodP N p) (n : Nat) : GoodP N (kas_rev p 0 n) := (mirror_perm _ _ _ _).trans h
omit hK in
theorem rev_at {p : Array Nat} {n i : Nat} (h : GoodP N p) (hn : n ≤ N) (hi : i < n) : (kas_rev p 0 n).getD i 0 = p.getD (n - 1 - i) 0 := by
  have hs := h.size
  have hs' := (good_rev h n).size
  have := getElem?_mirror_all (xs := p) (i := 0) (j := n) (by omega) i
  have e : kas_rev p 0 n = mirror p 0 n ((n - 0) / 2) := rfl
  rw [← e] at this
  rw [getD_eq (by omega), getD_eq (by omega)]
  rw [Array.getElem?_eq_getElem (by omega)] at this
  rw [if_pos ⟨by omega, hi⟩] at this
  have e3 : 0 + n - 1 - i = n - 1 - i := by omega
  rw [e3, Array.getElem?_eq_getElem (by omega)] at this
  exact Option.some.inj this
theorem tw_tail3 {p : Array Nat} (h : GoodP N p) {n : Nat} (h1 : 1 ≤ n) (hn : n ≤ N) (hd : Dp K p n) : TW (lessOf K) N (fun r => GoodP N r.2 ∧ 1 ≤ r.1 ∧ r.1 ≤ N ∧ Sp K r.2 r.1) (kas_tail3 n N p) := by
  unfold kas_tail3
  have hs : Sp K (kas_rev p 0 n) n := fun i j hij hj => by
    unfold kv
    rw [rev_at h hn (by omega), rev_at h hn hj]
    exact hd (n - 1 - j) (n - 1 - i) (by omega) (by omega)
  refine TW.bind ((tw_asc hK (good_rev h n) (N - n) n h1 (by omega) hs).mono fun m hm => ?_)
  exact ⟨good_rev h n, by omega, by omega, hm.2.2.1⟩
theorem tw_count {p : Array Nat} (h : GoodP N p) (h2 : 2 ≤ N) : TW (lessOf K) N (fun r => GoodP N r.2 ∧ 1 ≤ r.1 ∧ r.1 ≤ N ∧ Sp K r.2 r.1) (kas_count N p) := by
  unfold kas_count
  refine TW.bind ((tw_asc hK h (N - 1) 1 (Nat.le_refl _) (by omega) (fun i j hij hj => by omega)).mono fun n hn => ?_)
  obtain ⟨n1, n2, n3, n4⟩ := hn
  by_cases e : n = N
  · have e' : (n == N) = true := by simpa using e
    rw [if_pos e']
    exact ⟨h, by omega, by omega, n3⟩
  · have e' : (n == N) = false := by simpa using e
    rw [e', if_neg Bool.false_ne_true]
    by_cases q : n > 1
    · rw [if_pos q]
      refine ⟨h.lt (by omega) 0, h.lt (by omega) (n - 1), h.ne (by omega) (by omega) (by omega), ?_⟩
      have c := n3 0 (n - 1) (by omega) (by omega)
      have e2 : lessOf K (p.getD 0 0) (p.getD (n - 1) 0) = true := decide_eq_true c
      rw [e2]; dsimp only; rw [if_pos rfl]
      exact ⟨h, by omega, by omega, n3⟩
    · rw [if_neg q]
      have hn1 : n = 1 := by omega
      subst hn1
      show TW (lessOf K) N _ (kas_descPart 1 N p)
      unfold kas_descPart
      have c := n4 (by omega)
      have hd : Dp K p 2 := fun i j hij hj => by
        have : i = 0 ∧ j = 1 := by omega
        rw [this.1, this.2]; exact c
      refine TW.bind ((tw_desc hK h (N - (1 + 1)) (1 + 1) (by omega) (by omega) hd).mono fun r hr => ?_)
      obtain ⟨p', n', q'⟩ := r
      obtain ⟨r1, r2, r3, r4, r5⟩ := hr
      simp only at r1 r2 r3 r4 r5 ⊢
      subst r1 r2
      rw [if_neg (by omega)]
      exact tw_tail3 hK h (by omega) (by omega) r5
theorem tw_place {p : Array Nat} (h : GoodP N p) {k : Nat} (hk : k < N) (hs : Sp K p k) : ∀ (f l r : Nat), l ≤ r → r ≤ k → r - l ≤ f → (∀ i, i < l → kv K p i < kv K p k) → (∀ i, r ≤ i → i < k → kv K p k < kv K p i) →
    TW (lessOf K) N (fun m => m ≤ k ∧ (∀ i, i < m → kv K p i < kv K p k) ∧ (∀ i, m ≤ i → i < k → kv K p k < kv K p i)) (kas_place p k f l r)
  | 0, l, r, h1, h2, h3, h4, h5 => by
    have : l = r := by omega
    subst this
    exact ⟨h2, h4, h5⟩
  | f + 1, l, r, h1, h2, h3, h4, h5 => by
    unfold kas_place
    by_cases q : l ≥ r
    · rw [if_pos q]
      have : l = r := by omega
      subst this
      exact ⟨h2, h4, h5⟩
    · rw [if_neg q]
      refine ⟨h.lt (by omega) k, h.lt (by omega) _, h.ne (by omega) (by omega) (by omega), ?_⟩
      have hm1 : l ≤ (l + r) / 2 := by omega
      have hm2 : (l + r) / 2 < r := by omega
      by_cases c : kv K p k < kv K p ((l + r) / 2)
      · have e : lessOf K (p.getD k 0) (p.getD ((l + r) / 2) 0) = true := decide_eq_true c
        rw [e]; dsimp only; rw [if_pos rfl]
        refine tw_place h hk hs f l _ hm1 (by omega) (by omega) h4 fun i hi hik => ?_
        by_cases q2 : i = (l + r) / 2
        · rw [q2]; exact c
        · have := hs ((l + r) / 2) i (by omega) hik; omega
      · have e : lessOf K (p.getD k 0) (p.getD ((l + r) / 2) 0) = false := decide_eq_false c
        rw [e]; dsimp only; rw [if_neg Bool.false_ne_true]
        have hne := kv_ne hK h (i := k) (j := (l + r) / 2) hk (by omega) (by omega)
        refine tw_place h hk hs f _ r (by omega) h2 (by omega) (fun i hi => ?_) h5
        by_cases q2 : i = (l + r) / 2
        · rw [q2]; omega
        · have := hs i ((l + r) / 2) (by omega) (by omega); omega
theorem tw_bin : ∀ (f : Nat) (p : Array Nat) (k : Nat), GoodP N p → 1 ≤ k → k + f ≤ N → Sp K p k → TW (lessOf K) N (fun p' => GoodP N p' ∧ Sp K p' (k + f)) (kas_bin f p k)
  | 0, p, k, h, h1, hk, hs => ⟨h, hs⟩
  | f + 1, p, k, h, h1, hk, hs => by
    unfold kas_bin
    refine TW.bind ((tw_place hK h (k := k) (by omega) hs k 0 k (by omega) (Nat.le_refl _) (by omega) (fun i hi => by omega) (fun i h1 h2 => by omega)).mono fun l hl => ?_)
    obtain ⟨l1, l2, l3⟩ := hl
    have hg : GoodP N (bubble p k (k - l)) := (bubble_perm _ _ _).trans h
    have hsz := h.size
    have hsz' := hg.size
    have at_ : ∀ t, t < N → (bubble p k (k - l)).getD t 0 = if t = l then p.getD k 0 else if l < t ∧ t ≤ k then p.getD (t - 1) 0 else p.getD t 0 := fun t ht => by
      have := getElem?_bubble (xs := p) (src := k) (by omega) (k - l) (by omega) t
      have e : k - (k - l) = l := by omega
      rw [e] at this
      rw [getD_eq (by omega)]
      rw [Array.getElem?_eq_getElem (by omega)] at this
      split at this
      · rename_i q; rw [if_pos q, getD_eq (by omega)]
        rw [Array.getElem?_eq_getElem (by omega)] at this
        exact Option.some.inj this
      · rename_i q; rw [if_neg q]
        split at this
        · rename_i q2; rw [if_pos q2, getD_eq (by omega)]
          rw [Array.getElem?_eq_getElem (by omega)] at this
          exact Option.some.inj this
        · rename_i q2; rw [if_neg q2, getD_eq (by omega)]
          rw [Array.getElem?_eq_getElem (by omega)] at this
          exact Option.some.inj this
    have hs' : Sp K (bubble p k (k - l)) (k + 1) := fun i j hij hj => by
      unfold kv
      rw [at_ i (by omega), at_ j (by omega)]
      by_cases a1 : i = l
      · rw [if_pos a1, if_neg (by omega), if_pos ⟨by omega, by omega⟩]
        exact l3 (j - 1) (by omega) (by omega)
      · rw [if_neg a1]
        by_cases a2 : j = l
        · rw [if_pos a2, if_neg (by omega)]
          exact l2 i (by omega)
        · rw [if_neg a2]
          by_cases a3 : l < i
          · rw [if_pos ⟨a3, by omega⟩, if_pos ⟨by omega, by omega⟩]
            exact hs (i - 1) (j - 1) (by omega) (by omega)
          · rw [if_neg (by omega)]
            by_cases a4 : l < j
            · rw [if_pos ⟨a4, by omega⟩]
              exact hs i (j - 1) (by omega) (by omega)
            · rw [if_neg (by omega)]
              exact hs i j hij (by omega)
    refine (tw_bin f _ (k + 1) hg (by omega) (by omega) hs').mono fun p' hp' => ⟨hp'.1, ?_⟩
    have e : k + 1 + f = k + (f + 1) := by omega
    rw [← e]; exact hp'.2
theorem tw_sort (h2 : 2 ≤ N) : TW (lessOf K) N (fun p => GoodP N p ∧ Sp K p N) (kas_sort N) := by
  unfold kas_sort
  refine TW.bind ((tw_count hK (Array.Perm.refl _) h2).mono fun r hr => ?_)
  obtain ⟨m, p⟩ := r
  obtain ⟨r1, r2, r3, r4⟩ := hr
  simp only at r1 r2 r3 r4 ⊢
  by_cases q : m < N
  · rw [if_pos q]
    have e : max m 1 = m := by omega
    rw [e]
    refine (tw_bin hK (N - m) p m r1 r2 (by omega) r4).mono fun p' hp' => ⟨hp'.1, ?_⟩
    have e2 : m + (N - m) = N := by omega
    rw [e2] at hp'; exact hp'.2
  · rw [if_neg q]
    have : m = N := by omega
    subst this
    exact ⟨r1, r4⟩
end
end Mine

namespace Mine
open PySem PySem.W PyProof.Rows

section
variable {prog : Program} {w : World} {A : Around} {E : Value → Shared → Prop} {s : Shared}

theorem push_lt {h : Heap} {b : Addr} {o x : Obj} (e : h.get? b = some o) : (h.push x).get? b = some o := Heap.get?_push_of_some _ e

/-- a list of one item, sorted where it stands -/
theorem sort_one {a : Addr} {v : Value} {n : Nat} {P : Fin → Shared → Prop} (ho : s.heap.get? a = some (seqObj "list" #[v] n))
    (h : ∀ h' c, (∀ b o, b ≠ a → s.heap.get? b = some o → h'.get? b = some o) → h'.get? a = some (seqObj "list" #[v] c) → P (.done (.ret .none)) { s with heap := h' }) :
    wpAny (model prog w) A (Builtin.«list.sort» ⟨[.ref a], []⟩) P E s := by
  obtain ⟨c1, e1⟩ : ∃ c1, (s.heap.update a (Obj.mapSeq fun _ => (#[] : Array Value))).get? a = some (seqObj "list" #[] c1) := ⟨_, get?_update_seq ho fun _ => #[]⟩
  have k1 : ∀ b o, b ≠ a → s.heap.get? b = some o → (s.heap.update a (Obj.mapSeq fun _ => (#[] : Array Value))).get? b = some o := fun b o hb e => (Heap.SameBut.update s.heap a _).extBut b o hb e
  rw [list_sort_plain]
  refine wpAny_bind (listItems_at ho rfl (wpAny_bind (listUpdate_at ho rfl (wpAny_bind (seqEpoch_at e1 rfl (wpAny_bind (wpAny_newTuple (wpAny_bind (wpAny_newList (wpAny_holding ?_) (Nat.zero_le _)))
    (by show 1 ≤ sizeLine; rw [sizeLine_eq]; omega))))) (by show 1 ≤ sizeLine; rw [sizeLine_eq]; omega) (Nat.zero_le _))))
  generalize hH : ((s.heap.update a (Obj.mapSeq fun _ => (#[] : Array Value))).push _).push _ = H
  have e2 : H.get? a = some (seqObj "list" #[] c1) := by rw [← hH]; exact push_lt (push_lt e1)
  have k2 : ∀ b o, b ≠ a → s.heap.get? b = some o → H.get? b = some o := fun b o hb e => by rw [← hH]; exact push_lt (push_lt (k1 b o hb e))
  have h2 : (#[v] : Array Value).size < 2 := by simp
  show wpAny (model prog w) A _ P E { s with heap := H }
  rw [if_pos h2, if_pos h2]
  refine wpAny_bind (wpAny_pure ?_)
  dsimp only
  rw [StateT.run_pure]
  refine wpAny_bind (wpAny_pure ?_)
  dsimp only
  have hout : Array.map (·.2) (arrOf (SortSt.mk' general' ((#[v] : Array Value).zip #[v]) #[] 7 none)) = #[v] := by
    show ((#[v] : Array Value).zip #[v]).map (·.2) = #[v]
    simp
  rw [hout]
  refine wpAny_bind (seqEpoch_at (s := { s with heap := H }) e2 rfl (wpAny_bind (listUpdate_at (s := { s with heap := H }) e2 rfl ?_ (Nat.zero_le _) (by show 1 ≤ _; rw [sizeLine_eq]; omega))))
  simp only [bne_self_eq_false, Bool.false_eq_true, if_false]
  obtain ⟨c3, e3⟩ : ∃ c3, (H.update a (Obj.mapSeq fun _ => (#[v] : Array Value))).get? a = some (seqObj "list" #[v] c3) := ⟨_, get?_update_seq e2 fun _ => #[v]⟩
  exact wpAny_pure (h _ c3 (fun b o hb e => (Heap.SameBut.update H a _).extBut b o hb (k2 b o hb e)) e3)

theorem sorted_one {l : Addr} {v : Value} {n : Nat} {Q : Value → Shared → Prop} (hl : s.heap.get? l = some (lstO [v] n))
    (hQ : ∀ D h' c, s.heap.objs.size ≤ D → (∀ b o, s.heap.get? b = some o → h'.get? b = some o) → h'.get? D = some (lstO [v] c) → Q (.ref D) { s with heap := h' }) :
    wpAny (model prog w) A (call (.builtin "sorted") [.ref l]) Q E s := by
  refine Calls.call_function_entry kind_sorted plain_sorted entry_sorted (args_sorted1 _) ?_
  unfold Builtin.«sorted»
  refine wpAny_bind (m := checkCount "sorted" 1 1 _) (wpAny_pure ?_)
  refine wpAny_bind (collect_list (vs := [v]) (lst_isList hl) (wpAny_bind (wpAny_newList ?_ (by show 1 ≤ sizeLine; rw [sizeLine_eq]; omega))) (by show 1 ≤ sizeLine; rw [sizeLine_eq]; omega))
  generalize hH : (s.heap.push (seqObj "list" #[] 0)).update s.heap.objs.size (Obj.mapSeq (· ++ [v].toArray)) = H
  have k1 : ∀ b o, s.heap.get? b = some o → H.get? b = some o := fun b o e => by
    rw [← hH]
    exact (Heap.SameBut.update (s.heap.push (seqObj "list" #[] 0)) _ _).extBut b o (Nat.ne_of_lt (Heap.lt_size e)) (push_lt e)
  have hz : H.objs.size = s.heap.objs.size + 1 := by rw [← hH, Heap.size_update, size_push']
  have hnone : s.heap.get? H.objs.size = none := by
    cases q : s.heap.get? H.objs.size with
    | none => rfl
    | some o => exact absurd (Heap.lt_size q) (by rw [hz]; exact Nat.not_lt.mpr (Nat.le_succ _))
  dsimp only
  refine wpAny_bind (wpAny_holding (wpAny_call_entry slot_list_sort ⟨_, Heap.get?_push_size _ rfl, rfl⟩ entry_list_sort (sort_one (s := { s with heap := H.push (seqObj "list" [v].toArray 0) }) (v := v) (n := 0) (Heap.get?_push_size _ rfl) fun h' c k2 e => ⟨_, rfl, wpAny_pure ⟨_, rfl, ?_⟩⟩) (args_list_sort _)))
  refine hQ _ h' c (by show _ ≤ H.objs.size; rw [hz]; exact Nat.le_succ _) (fun b o e' => k2 b o (fun q => ?_) (push_lt (k1 b o e'))) e
  rw [q, hnone] at e'; cases e'

/-- a list of two items or more, sorted where it stands -/
theorem sort_many {a : Addr} {vs : List Value} {n : Nat} {P : Fin → Shared → Prop} (h2 : 2 ≤ vs.length) (h64 : vs.length < 64) (ho : s.heap.get? a = some (seqObj "list" vs.toArray n)) {R : Array Nat → Prop}
    (hkey : ∀ H : Heap, (∀ b o, b ≠ a → s.heap.get? b = some o → H.get? b = some o) → wpAny (model prog w) A (keyKind' vs.toArray) (fun κ s' => s' = { s with heap := H } ∧ ∀ G : Array Nat → Shared → Prop, (∀ p, R p → G p { s with heap := H }) → (kas_sort vs.length).kasWp (kas_ask prog w A κ vs) G { s with heap := H }) E { s with heap := H })
    (h : ∀ h' c p, R p → (∀ b o, b ≠ a → s.heap.get? b = some o → h'.get? b = some o) → h'.get? a = some (seqObj "list" (p.toList.map fun i => vs.getD i Value.none).toArray c) → P (.done (.ret .none)) { s with heap := h' }) :
    wpAny (model prog w) A (Builtin.«list.sort» ⟨[.ref a], []⟩) P E s := by
  obtain ⟨c1, e1⟩ : ∃ c1, (s.heap.update a (Obj.mapSeq fun _ => (#[] : Array Value))).get? a = some (seqObj "list" #[] c1) := ⟨_, get?_update_seq ho fun _ => #[]⟩
  have k1 : ∀ b o, b ≠ a → s.heap.get? b = some o → (s.heap.update a (Obj.mapSeq fun _ => (#[] : Array Value))).get? b = some o := fun b o hb e => (Heap.SameBut.update s.heap a _).extBut b o hb e
  have hsz : vs.toArray.size ≤ sizeLine := by rw [List.size_toArray, sizeLine_eq]; omega
  rw [list_sort_plain]
  refine wpAny_bind (listItems_at ho rfl (wpAny_bind (listUpdate_at ho rfl (wpAny_bind (seqEpoch_at e1 rfl (wpAny_bind (wpAny_newTuple (wpAny_bind (wpAny_newList (wpAny_holding ?_) (Nat.zero_le _)))
    hsz)))) hsz (Nat.zero_le _))))
  generalize hH : ((s.heap.update a (Obj.mapSeq fun _ => (#[] : Array Value))).push _).push _ = H
  have e2 : H.get? a = some (seqObj "list" #[] c1) := by rw [← hH]; exact push_lt (push_lt e1)
  have k2 : ∀ b o, b ≠ a → s.heap.get? b = some o → H.get? b = some o := fun b o hb e => by rw [← hH]; exact push_lt (push_lt (k1 b o hb e))
  have hn2 : ¬ vs.toArray.size < 2 := by rw [List.size_toArray]; omega
  show wpAny (model prog w) A _ P E { s with heap := H }
  rw [if_neg hn2, if_neg hn2]
  refine wpAny_bind (wpAny_mono (hkey H k2) (fun κ s₀ hk => ?_) fun _ _ x => x)
  obtain ⟨rfl, hk⟩ := hk
  refine wpAny_bind (wpAny_mono (kat_run (ks := vs) (vs := vs) (Q := fun st' s' => ∃ p, R p ∧ s' = { s with heap := H } ∧ arrOf st' = p.map (kas_item (vs.toArray.zip vs.toArray)) ∧ p.size = vs.length ∧ failedOf st' = none) (G := fun p s' => R p ∧ s' = { s with heap := H }) rfl h2 h64
    (fun p st' s' q1 q2 q3 q4 => ⟨p, q4.1, q4.2, q2, q1, q3⟩) (hk _ fun p hp => ⟨hp, rfl⟩)) ?_ fun _ _ e => e)
  rintro ⟨⟨⟩, st'⟩ s' ⟨p, hR, rfl, har, hps, hf⟩
  dsimp only
  have hout := kat_snds (ks := vs) (vs := vs) rfl har
  rw [hout]
  refine wpAny_bind (seqEpoch_at (s := { s with heap := H }) e2 rfl (wpAny_bind (listUpdate_at (s := { s with heap := H }) e2 rfl ?_ (Nat.zero_le _) (by rw [List.size_toArray, List.length_map, Array.length_toList, hps, sizeLine_eq]; omega))))
  rw [hf]
  simp only [bne_self_eq_false, Bool.false_eq_true, if_false]
  obtain ⟨c3, e3⟩ : ∃ c3, (H.update a (Obj.mapSeq fun _ => List.toArray (p.toList.map fun i => vs.getD i Value.none))).get? a = some (seqObj "list" (List.toArray (p.toList.map fun i => vs.getD i Value.none)) c3) := ⟨_, get?_update_seq e2 fun _ => List.toArray (p.toList.map fun i => vs.getD i Value.none)⟩
  exact wpAny_pure (h _ c3 p hR (fun b o hb e => (Heap.SameBut.update H a _).extBut b o hb (k2 b o hb e)) e3)

theorem sorted_many {l : Addr} {vs : List Value} {n : Nat} {Q : Value → Shared → Prop} (h2 : 2 ≤ vs.length) (h64 : vs.length < 64) (hl : s.heap.get? l = some (lstO vs n)) {R : Array Nat → Prop}
    (hkey : ∀ H : Heap, (∀ b o, s.heap.get? b = some o → H.get? b = some o) → wpAny (model prog w) A.in1.in1 (keyKind' vs.toArray) (fun κ s' => s' = { s with heap := H } ∧ ∀ G : Array Nat → Shared → Prop, (∀ p, R p → G p { s with heap := H }) → (kas_sort vs.length).kasWp (kas_ask prog w A.in1.in1 κ vs) G { s with heap := H }) (fun _ _ => False) { s with heap := H })
    (hQ : ∀ D h' c p, R p → s.heap.objs.size ≤ D → (∀ b o, s.heap.get? b = some o → h'.get? b = some o) → h'.get? D = some (lstO (p.toList.map fun i => vs.getD i Value.none) c) → Q (.ref D) { s with heap := h' }) :
    wpAny (model prog w) A (call (.builtin "sorted") [.ref l]) Q E s := by
  refine Calls.call_function_entry kind_sorted plain_sorted entry_sorted (args_sorted1 _) ?_
  unfold Builtin.«sorted»
  refine wpAny_bind (m := checkCount "sorted" 1 1 _) (wpAny_pure ?_)
  refine wpAny_bind (collect_list (vs := vs) (lst_isList hl) (wpAny_bind (wpAny_newList ?_ (by show vs.length ≤ sizeLine; rw [sizeLine_eq]; omega))) (by rw [sizeLine_eq]; omega))
  generalize hH : (s.heap.push (seqObj "list" #[] 0)).update s.heap.objs.size (Obj.mapSeq (· ++ vs.toArray)) = H
  have k1 : ∀ b o, s.heap.get? b = some o → H.get? b = some o := fun b o e => by
    rw [← hH]
    exact (Heap.SameBut.update (s.heap.push (seqObj "list" #[] 0)) _ _).extBut b o (Nat.ne_of_lt (Heap.lt_size e)) (push_lt e)
  have hz : H.objs.size = s.heap.objs.size + 1 := by rw [← hH, Heap.size_update, size_push']
  have hnone : s.heap.get? H.objs.size = none := by
    cases q : s.heap.get? H.objs.size with
    | none => rfl
    | some o => exact absurd (Heap.lt_size q) (by rw [hz]; exact Nat.not_lt.mpr (Nat.le_succ _))
  have ne : ∀ b o, s.heap.get? b = some o → b ≠ H.objs.size := fun b o e q => by rw [q, hnone] at e; cases e
  dsimp only
  refine wpAny_bind (wpAny_holding (wpAny_call_entry slot_list_sort ⟨_, Heap.get?_push_size _ rfl, rfl⟩ entry_list_sort
    (sort_many (s := { s with heap := H.push (seqObj "list" vs.toArray 0) }) (n := 0) (R := R) h2 h64 (Heap.get?_push_size _ rfl) (fun H' k2 => wpAny_mono (hkey H' fun b o e => k2 b o (ne b o e) (push_lt (k1 b o e))) (fun κ s' h => h) fun _ _ h => h.elim) fun h' c p hR k2 e => ⟨_, rfl, wpAny_pure ⟨_, rfl, ?_⟩⟩) (args_list_sort _)))
  exact hQ _ h' c p hR (by show _ ≤ H.objs.size; rw [hz]; exact Nat.le_succ _) (fun b o e' => k2 b o (ne b o e') (push_lt (k1 b o e'))) e

theorem RepAll.getD {h : Heap} {Hd : List Addr} {vs : List Value} {xs : List PyData} (r : RepAll h Hd vs xs) {i : Nat} (hi : i < xs.length) : Rep h Hd (vs.getD i Value.none) (xs[i]) := by
  obtain ⟨v, e, rv⟩ := r.get (List.getElem?_eq_getElem hi)
  rw [List.getD_eq_getElem?_getD, e]; exact rv
set_option tactic.hygienic true in
theorem firstsOf_get : ∀ {xs : List PyData} {fs : List Int}, firstsOf xs = some fs → xs.length = fs.length ∧ ∀ i (hi : i < xs.length) (hf : i < fs.length), ∃ r, xs[i] = .tuple (.int fs[i] :: r)
  | [], fs, e => by simp [firstsOf] at e; subst e; exact ⟨rfl, fun i hi => by simp at hi⟩
  | x :: xs, fs, e => by
    simp only [firstsOf] at e
    cases h1 : firstOf x with
    | none => rw [h1] at e; cases e
    | some i =>
      rw [h1, Option.bind_some] at e
      cases h2 : firstsOf xs with
      | none => rw [h2] at e; cases e
      | some gs =>
        rw [h2] at e
        simp at e; subst e
        obtain ⟨l1, l2⟩ := firstsOf_get h2
        refine ⟨by simp [l1], fun j hj hf => ?_⟩
        cases j with
        | zero =>
          simp only [List.getElem_cons_zero]
          cases x <;> simp only [firstOf] at h1 <;> try (cases h1; done)
          rename_i ys
          cases ys with
          | nil => simp [firstOf] at h1
          | cons y ys => cases y <;> simp [firstOf] at h1 <;> exact ⟨ys, by rw [h1]⟩
        | succ j => simpa using l2 j (by simpa using hj) (by simpa using hf)
end
end Mine

namespace Mine
open PySem PySem.W PyProof.Rows

set_option tactic.hygienic true in
theorem tups_of {h : Heap} {Hd : List Addr} : ∀ {vs : List Value} {xs : List PyData} {fs : List Int}, RepAll h Hd vs xs → firstsOf xs = some fs → ∃ fv : List Value, fv.length = vs.length ∧ KatTups h vs fv ∧ ∀ v ∈ fv, ∃ i t, v = Value.int i t
  | _, _, fs, .nil, e => ⟨[], rfl, trivial, by simp⟩
  | _, _, fs, .cons (v := v) (d := d) r rs, e => by
    simp only [firstsOf] at e
    cases h1 : firstOf d with
    | none => rw [h1] at e; cases e
    | some i =>
      rw [h1, Option.bind_some] at e
      cases h2 : firstsOf _ with
      | none => rw [h2] at e; cases e
      | some gs =>
        obtain ⟨fv, l1, l2, l3⟩ := tups_of rs h2
        obtain ⟨ys, rfl⟩ : ∃ ys, d = .tuple (.int i :: ys) := by
          cases d <;> simp only [firstOf] at h1 <;> try (cases h1; done)
          rename_i ys
          cases ys with
          | nil => simp [firstOf] at h1
          | cons y ys => cases y <;> simp [firstOf] at h1 <;> exact ⟨ys, by rw [h1]⟩
        obtain ⟨a, us, n, rfl, hg, _, hr⟩ := r.tuple_inv
        obtain ⟨u, us', rfl, ru, _⟩ := hr.cons_inv
        obtain ⟨t, rfl⟩ := ru.int_inv
        refine ⟨.int i t :: fv, by simp [l1], KatTups.cons hg rfl rfl (by simp) l2, fun v hv => ?_⟩
        rcases List.mem_cons.mp hv with rfl | hv
        · exact ⟨i, t, rfl⟩
        · exact l3 v hv
theorem repAll_pick {h : Heap} {Hd : List Addr} {vs : List Value} {xs : List PyData} (r : RepAll h Hd vs xs) : ∀ l : List Nat, (∀ i ∈ l, i < xs.length) → RepAll h Hd (l.map fun i => vs.getD i Value.none) (l.map fun i => xs.getD i .none)
  | [], _ => .nil
  | i :: l, hl => by
    have hi := hl i List.mem_cons_self
    have := r.getD hi
    refine .cons ?_ (repAll_pick r l fun j hj => hl j (List.mem_cons_of_mem _ hj))
    show Rep h Hd (vs.getD i Value.none) (xs.getD i PyData.none)
    rw [List.getD_eq_getElem?_getD (l := xs), List.getElem?_eq_getElem hi]; exact this

theorem sortT_pick {fs : List Int} {xs : List PyData} (hl : xs.length = fs.length) (nd : fs.Nodup) {p : Array Nat} (hp : GoodP fs.length p) (hs : Sp (fun i => fs.getD i 0) p fs.length) : (sortT (fs.zip xs)).map (·.2) = p.toList.map fun i => xs.getD i .none := by
  have hsz := hp.size
  have hz : fs.zip xs = (List.range fs.length).map fun i => (fs.getD i 0, xs.getD i .none) := by
    apply List.ext_getElem?
    intro i
    by_cases hi : i < fs.length
    · rw [List.getElem?_eq_getElem (by simp; omega), List.getElem?_map, List.getElem?_range hi]
      simp [List.getD_eq_getElem?_getD, List.getElem?_eq_getElem hi, List.getElem?_eq_getElem (show i < xs.length by omega)]
    · rw [List.getElem?_eq_none (by simp; omega), List.getElem?_eq_none (by simp; omega)]
  have hperm : p.toList.Perm (List.range fs.length) := by have := Array.perm_iff_toList_perm.mp hp; simpa using this
  have e : sortT (fs.zip xs) = p.toList.map fun i => (fs.getD i 0, xs.getD i .none) := by
    refine List.Perm.eq_of_pairwise (le := fun a b => a.1 < b.1) (fun a b _ _ h1 h2 => by omega) ?_ ?_ ?_
    · have h1 := sortT_sorted (fs.zip xs)
      have h2 : ((sortT (fs.zip xs)).map (·.1)).Nodup := by
        have : ((sortT (fs.zip xs)).map (·.1)).Perm fs := by
          have := (sortT_perm (fs.zip xs)).map (·.1)
          have e : (fs.zip xs).map (·.1) = fs := List.map_fst_zip (by omega)
          rw [e] at this
          exact this
        exact this.nodup_iff.mpr nd
      have h3 : (sortT (fs.zip xs)).Pairwise fun a b => a.1 ≠ b.1 := List.pairwise_map.mp h2
      exact (h1.and h3).imp fun h => by omega
    · refine List.pairwise_map.mpr (List.pairwise_iff_getElem.mpr fun i j hi hj hij => ?_)
      have hi' : i < p.size := by simpa using hi
      have hj' : j < p.size := by simpa using hj
      have := hs i j hij (by omega)
      unfold kv at this
      rw [getD_eq hi', getD_eq hj'] at this
      simpa using this
    · rw [hz] 
      exact (sortT_perm _).trans (hperm.symm.map _)
  rw [e, List.map_map]; rfl

theorem sort_tup (prog : Program) (w : World) : SortTup prog w := fun A s Hd l vs n xs fs hh hu hb hg hr hfs hnd h64 => by
  have hlen := hr.length
  obtain ⟨hl1, hfirst⟩ := firstsOf_get hfs
  match vs, hlen, hr, hg, h64 with
  | [], hlen, hr, hg, h64 =>
    have : xs = [] := by cases xs with | nil => rfl | cons => simp at hlen
    subst this
    refine wpAny_mono (sorted_ints_ok (ns := []) hb hg .nil (by simp)) (fun v s' h => ?_) fun _ _ h => h
    obtain ⟨ms, h1, h2, h3⟩ := h
    have : ms = [] := List.perm_nil.mp h1
    subst this
    have : fs = [] := by cases fs with | nil => rfl | cons => simp at hl1
    subst this
    exact h3
  | [v], hlen, hr, hg, h64 =>
    refine sorted_one hg fun D h' c hD hk e => ?_
    obtain ⟨d, rfl⟩ : ∃ d, xs = [d] := by
      match xs, hlen with
      | [d], _ => exact ⟨d, rfl⟩
    obtain ⟨f, rfl⟩ : ∃ f, fs = [f] := by
      match fs, hl1 with
      | [f], _ => exact ⟨f, rfl⟩
    refine ⟨keeps_heap hk, ?_⟩
    exact Rep.list e (fun hm => Nat.lt_irrefl _ (Nat.lt_of_lt_of_le (hb D hm) hD)) (hr.keeps hk)
  | v₁ :: v₂ :: vr, hlen, hr, hg, h64 =>
    generalize hvs : v₁ :: v₂ :: vr = vs at *
    have h2 : 2 ≤ vs.length := by rw [← hvs]; simp
    have hN : fs.length = vs.length := by omega
    refine sorted_many (R := fun p => GoodP vs.length p ∧ Sp (fun i => fs.getD i 0) p vs.length) h2 h64 hg (fun H hk => ?_) fun D h' c p hR hD hk e => ?_
    · have hrH : RepAll H Hd vs xs := hr.keeps hk
      obtain ⟨fv, f1, f2, f3⟩ := tups_of hrH hfs
      refine kat_kind (T := .type "int") (fs := fv) (s := { s with heap := H }) f2 (by omega) (fun v hv => ?_) (by decide) ⟨rfl, fun G hG => ?_⟩
      · obtain ⟨i, t, rfl⟩ := f3 v hv
        exact Looks.of_pure rfl
      · have hK : ∀ i j, i < vs.length → j < vs.length → i ≠ j → (fun i => fs.getD i 0) i ≠ (fun i => fs.getD i 0) j := fun i j hi hj hne => by
          simp only [List.getD_eq_getElem?_getD, List.getElem?_eq_getElem (show i < fs.length by omega), List.getElem?_eq_getElem (show j < fs.length by omega), Option.getD_some]
          intro e
          have hp := List.pairwise_iff_getElem.mp hnd
          rcases Nat.lt_or_ge i j with q | q
          · exact hp i j (by omega) (by omega) q e
          · exact hp j i (by omega) (by omega) (by omega) e.symm
        refine TW.wp (f := lessOf fun i => fs.getD i 0) (fun i j C hi hj hne hC => ?_) hG (tw_sort hK h2)
        have gi : ∀ i, i < vs.length → ∃ a us c t, vs.getD i Value.none = .ref a ∧ H.get? a = some (tupO (.int (fs.getD i 0) t :: us) c) := fun i hi => by
          have ri := hrH.getD (i := i) (by omega)
          obtain ⟨r, e⟩ := hfirst i (by omega) (by omega)
          rw [e] at ri
          obtain ⟨a, us, c, ea, hga, _, hra⟩ := ri.tuple_inv
          obtain ⟨u, us', rfl, ru, _⟩ := hra.cons_inv
          obtain ⟨t, rfl⟩ := ru.int_inv
          refine ⟨a, us', c, t, ea, ?_⟩
          rw [List.getD_eq_getElem?_getD, List.getElem?_eq_getElem (show i < fs.length by omega)]
          exact hga
        obtain ⟨x, us, c, t, ex, hx⟩ := gi i hi
        obtain ⟨y, us', c', t', ey, hy⟩ := gi j hj
        unfold kas_ask
        rw [ex, ey]
        refine kat_lt (s := { s with heap := H }) hx rfl hy rfl ?_
        show KatLex prog w A.in1.in1 _ _ C ((Value.int _ t, Value.int _ t') :: us.zip us') 0 _
        refine kat_cons (wpAny_eqBool_int ?_)
        have hne' := hK i j hi hj hne
        have e : (fs.getD i 0 == fs.getD j 0) = false := by simpa using hne'
        rw [e]
        refine kat_no ?_
        exact oneLt_int hC
    · refine ⟨keeps_heap hk, ?_⟩
      have hp : GoodP fs.length p := by rw [hN]; exact hR.1
      rw [sortT_pick hl1 hnd hp (by rw [hN]; exact hR.2)]
      refine Rep.list e (fun hm => Nat.lt_irrefl _ (Nat.lt_of_lt_of_le (hb D hm) hD)) ((repAll_pick hr p.toList fun i hi => ?_).keeps hk)
      have hperm : p.toList.Perm (List.range fs.length) := by have := Array.perm_iff_toList_perm.mp hp; simpa using this
      have := List.mem_range.mp (hperm.mem_iff.mp hi)
      omega
end Mine

open PySem PySem.W PyProof.Rows
namespace Mine
/-- the program with its defs alone -/
noncomputable def viewT : Program := { PySem.Challenge.pw_nt0001_01 with main := { PySem.Challenge.pw_nt0001_01.main with body := (PySem.Challenge.pw_nt0001_01.main.body.drop 1).take 8 ++ PySem.Challenge.pw_nt0001_01.main.body.drop 10 } }
noncomputable abbrev atTop (s : Shared) : Bool := xlAt viewT [] s && recOk (RowW.records PySem.Challenge.rw_nt0001_01.row.toRowW) s
/-- the top, run by the kernel at once -/
theorem left_top : LeftO PySem.Challenge.rw_nt0001_01.row.prog viewT [] atTop Hook.none.obs Hook.none.val 916 := by intro w; kernel_rfl
end Mine
set_option maxHeartbeats 8000000 in
theorem PySem.Challenge.cw_nt0001_01_holds : PySem.Challenge.rw_nt0001_01.Holds := by
  w_on; o_law
  refine holds_open (q := Mine.viewT) (loose := []) (Xt := Mine.atTop) (XP := XL Mine.viewT []) (Yf := Hook.none.obs) (Ya := Hook.none.val) (YP := Hook.none.says) (N := 916) Mine.left_top Hook.none.of Hook.none.keeps (fun s e => xl_of s (Bool.and_eq_true_iff.mp e).1) XL.keeps (by rfl) (by rfl) (by rfl)
    (fun s e => recFacts_of (Bool.and_eq_true_iff.mp e).2) (by rfl) (by assumption) (by decide +kernel) ⟨rfl, rfl, rfl, rfl, rfl, by decide +kernel⟩ ?hw ?hc
  case hw => w_witness2
  intro w s₀ s₁ mg mb G Y fa o pm cd doc dV kV ho hd hcd hD hmg hg args vals as hpre hlay hrd hwl hlo
  k_behind G ho hd hcd hD hmg hpre hlay hrd hwl hlo cd
  all_goals try k_fold
  rename Top _ _ _ _ _ _ => TT
  rename Well _ _ _ _ => W1
  rename Heap.IsList _ _ _ => hLL
  rename IntsAre _ _ => hII
  rename Fr _ _ _ _ => FF
  rename News _ _ _ _ => NN
  rename _ = Data.cell _ => hod
  have GL := Mine.glo_of (T := Mine.lawT) TT (by kernel_rfl) (by kernel_rfl) (by decide +kernel)
  refine wpAny_mono (Mine.law_fin (Mine.sort_tup _ _) GL ?R rfl rfl rfl rfl rfl rfl FF (NN _ (List.mem_singleton.mpr rfl)).1 hod ?hm (Mine.wells W1 hLL) hII ?hn) ?fin (fun _ _ h => h.elim)
  case R => exact Mine.room_law _
  case hm => rfl
  case hn => omega
  case fin =>
    rename _ = (#[] : Array _) => hgens
    intro f s' hq
    obtain ⟨rfl, h2, hh, tk, rfl⟩ := hq
    have hp : ∀ d : PyData, (PySem.Challenge.rw_nt0001_01.row.toRowW).claim.post [ofPy d] (WData.bool true) [ofPy d] = true := fun d => by
      first | (with_unfolding_all rfl) | kernel_rfl | (simp [OpenLaw.row]; done)
    exact ⟨.inl ⟨_, .bool true, [], rfl, fun _ => rfl, .bool true, hp _, fun _ => ⟨List.nodup_nil, fun a ha => by cases ha⟩⟩, h2, rfl, hgens⟩
