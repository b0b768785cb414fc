import PyProof.Rows.All
import Wide.All
import OpenK.AllK
import Wide.FinOn
import KE.KRevSl
import KE.KPop
import KE.KDictSum
import Lean
import PySem.Challenge.RW_on0070_01
set_option Elab.async false
set_option maxRecDepth 100000
set_option maxHeartbeats 0
set_option linter.all false
namespace Mine.I

inductive V where
  | int (z : Int) | none | bool (b : Bool) | str (s : String) | obj (i : Nat) | glob (a : Nat)
deriving DecidableEq
inductive AO where
  | list (xs : List V) | tup (xs : List V) | inst (C d : Nat) | dict (fs : List (String × V)) | cell (v : Option V) | rng (z : Int) | iter (l k : Nat) | riter (x left : Int) | gone | scr (xs : List Int) (ts : List Nat)
deriving DecidableEq
noncomputable abbrev H := List AO
inductive R (α : Type) where
  | ok (a : α) (σ : H) | exc (s : String) (σ : H) | bad
noncomputable def R.bind {α β : Type} (r : R α) (f : α → H → R β) : R β := match r with
  | .ok a σ => f a σ | .exc s σ => .exc s σ | .bad => .bad

inductive Cop where | lt | le | gt | ge | eq | ne
deriving DecidableEq
inductive Bop where | add | sub | mul | div | mod
deriving DecidableEq
inductive ME where
  | stuck
  | loc (x : String) | cel (x : String) | bnd
  | int (z : Int) | str (s : String) | non | boo (b : Bool) | pow (a b : Nat)
  | att (e : ME) (x : String)
  | bin (op : Bop) (a b : ME)
  | cmp (op : Cop) (a b : ME) | cmp2 (o₁ o₂ : Cop) (a b c : ME) | isn (a : ME) | isnn (a : ME)
  | and2 (a b : ME) | or2 (a b : ME) | and3 (a b c : ME) | or3 (a b c : ME) | not (a : ME) | ifx (t a b : ME)
  | lst (es : List ME) | tup (es : List ME) | edict
  | idx (e i : ME) | upto (e hi : ME) | fro (e lo : ME) | slc (e lo hi : ME) | rev (e : ME)
  | call (f : Nat) (nm : String) (es : List ME) | new (C : Nat) (nm : String) (es : List ME) | met (e : ME) (x : String) (es : List ME)
  | len (e : ME) | abs (e : ME) | mn (a b : ME) | mx (a b : ME) | range (e : ME) | list (e : ME) | sorted (e : ME) | app (e a : ME) | pop0 (e : ME)
  | comp (elt : ME) (xs : List String) (it : ME) (cond : Option ME)
inductive MS where
  | stuck
  | set (x : String) (e : ME) | sec (x : String) (e : ME) | unp (xs : List String) (e : ME) | par (x y : String) (a b : ME) | sce (x y : String) (a b : ME)
  | sat (o : ME) (x : String) (e : ME) | sat2 (o₁ : ME) (x₁ : String) (o₂ : ME) (x₂ : String) (a b : ME)
  | six (o i e : ME) | ssl (o lo hi e : ME)
  | exp (e : ME) | ret (e : ME) | ret0 | ife (t : ME) (a b : List MS) | whl (t : ME) (b : List MS)
  | forin (xs : List String) (e : ME) (b : List MS) | tryx (y : String) (e : ME) (b : List MS) (x p q r : String) | rai (sym : String) (e : ME)
structure FD where
  name : String
  params : List String
  dflt : List V
  cells : List String
  body : List MS
structure Fm where
  l : List (String × V)
  c : List (String × Nat)
inductive Fl where | next | ret (v : V)

noncomputable def upd (x : String) (v : V) : List (String × V) → List (String × V)
  | [] => [(x, v)]
  | p :: r => if p.1 = x then (x, v) :: r else p :: upd x v r
noncomputable def intsL : List V → Option (List Int)
  | [] => some []
  | .int z :: r => (intsL r).map (z :: ·)
  | _ => none
noncomputable def icmp : Cop → Int → Int → Bool
  | .lt, a, b => decide (a < b) | .le, a, b => decide (a ≤ b) | .gt, a, b => decide (b < a) | .ge, a, b => decide (b ≤ a) | .eq, a, b => decide (a = b) | .ne, a, b => !decide (a = b)
noncomputable def lstI (σ : H) (i : Nat) : Option (List Int) := match σ[i]? with | some (.list xs) => intsL xs | _ => none
noncomputable def tup4 : List V → Option (Nat × Int × Int × Int)
  | [.obj a, .int p, .int q, .int r] => some (a, p, q, r)
  | _ => none
noncomputable def st4 (σ : H) (i : Nat) : Option (Nat × Int × Int × Int) := match σ[i]? with | some (.tup xs) => tup4 xs | _ => none
noncomputable def hd1 (σ : H) (i : Nat) : Option String := match σ[i]? with | some (.tup (.str s :: _)) => some s | _ => none
noncomputable def eqT (σ : H) (i j : Nat) : Option Bool := match st4 σ i with
  | some (a, p, q, r) => match st4 σ j with
    | some (b, p', q', r') => match lstI σ a with
      | some x => match lstI σ b with
        | some y => some (decide (x = y ∧ p = p' ∧ q = q' ∧ r = r'))
        | none => none
      | none => none
    | none => none
  | none => none
noncomputable def eqO (σ : H) (i j : Nat) : Option Bool := match lstI σ i with
  | some a => match lstI σ j with
    | some b => some (decide (a = b))
    | none => none
  | none => eqT σ i j
/-- plain equality of two values -/
noncomputable def eq1 (σ : H) (v u : V) : Option Bool := match v with
  | .int a => match u with | .int b => some (decide (a = b)) | _ => none
  | .str a => match u with | .str b => some (decide (a = b)) | _ => none
  | .bool a => match u with | .bool b => some (decide (a = b)) | _ => none
  | .glob a => match u with | .glob b => if a = 175 ∧ b = 175 then some true else none | _ => none
  | .obj i => match u with
    | .glob b => if b = 175 then (match hd1 σ i with | some s => if s = "boundary" then none else some false | none => none) else none
    | .obj j => eqO σ i j
    | _ => none
  | .none => none
theorem lstI_some {σ : H} {i : Nat} {a : List Int} (h : lstI σ i = some a) : ∃ xs, σ[i]? = some (.list xs) ∧ intsL xs = some a := by
  unfold lstI at h
  split at h
  · rename_i xs q; exact ⟨xs, q, h⟩
  · cases h
theorem st4_some {σ : H} {i : Nat} {t : Nat × Int × Int × Int} (h : st4 σ i = some t) : σ[i]? = some (.tup [.obj t.1, .int t.2.1, .int t.2.2.1, .int t.2.2.2]) := by
  unfold st4 at h
  split at h
  · rename_i xs q
    rw [q]
    unfold tup4 at h
    split at h
    · cases h; rfl
    · cases h
  · cases h
theorem hd1_some {σ : H} {i : Nat} {s : String} (h : hd1 σ i = some s) : ∃ r, σ[i]? = some (.tup (.str s :: r)) := by
  unfold hd1 at h
  split at h
  · rename_i x r q; cases h; exact ⟨_, q⟩
  · cases h
theorem eqT_some {σ : H} {i j : Nat} {b : Bool} (h : eqT σ i j = some b) : ∃ t t' x y, st4 σ i = some t ∧ st4 σ j = some t' ∧ lstI σ t.1 = some x ∧ lstI σ t'.1 = some y ∧ b = decide (x = y ∧ t.2.1 = t'.2.1 ∧ t.2.2.1 = t'.2.2.1 ∧ t.2.2.2 = t'.2.2.2) := by
  unfold eqT at h
  cases h1 : st4 σ i with
  | none => rw [h1] at h; cases h
  | some t =>
    cases h2 : st4 σ j with
    | none => rw [h1, h2] at h; cases h
    | some t' =>
      rw [h1, h2] at h
      dsimp only at h
      cases h3 : lstI σ t.1 with
      | none => rw [h3] at h; cases h
      | some x =>
        cases h4 : lstI σ t'.1 with
        | none => rw [h3, h4] at h; cases h
        | some y => rw [h3, h4] at h; cases h; exact ⟨t, t', x, y, rfl, rfl, h3, h4, rfl⟩
theorem eq1_cases {σ : H} {P : V → V → Bool → Prop} (h1 : ∀ a b, P (.int a) (.int b) (decide (a = b))) (h2 : ∀ a b, P (.str a) (.str b) (decide (a = b))) (h3 : ∀ a b, P (.bool a) (.bool b) (decide (a = b))) (h4 : P (.glob 175) (.glob 175) true)
    (h5 : ∀ i s r, σ[i]? = some (.tup (.str s :: r)) → s ≠ "boundary" → P (.obj i) (.glob 175) false) (h6 : ∀ i j x y, lstI σ i = some x → lstI σ j = some y → P (.obj i) (.obj j) (decide (x = y)))
    (h7 : ∀ i j (t t' : Nat × Int × Int × Int) x y, st4 σ i = some t → st4 σ j = some t' → lstI σ t.1 = some x → lstI σ t'.1 = some y → P (.obj i) (.obj j) (decide (x = y ∧ t.2.1 = t'.2.1 ∧ t.2.2.1 = t'.2.2.1 ∧ t.2.2.2 = t'.2.2.2))) {v u : V} {b : Bool} (e : eq1 σ v u = some b) : P v u b := by
  cases v with
  | int a => cases u <;> first | (cases e; exact h1 _ _) | cases e
  | str a => cases u <;> first | (cases e; exact h2 _ _) | cases e
  | bool a => cases u <;> first | (cases e; exact h3 _ _) | cases e
  | none => cases e
  | glob a =>
    cases u with
    | glob b' =>
      change (if a = 175 ∧ b' = 175 then some true else none) = some b at e
      split at e
      · rename_i q; cases e; rw [q.1, q.2]; exact h4
      · cases e
    | _ => cases e
  | obj i =>
    cases u with
    | glob b' =>
      change (if b' = 175 then (match hd1 σ i with | some s => if s = "boundary" then none else some false | none => none) else none) = some b at e
      split at e
      · rename_i q
        subst q
        cases hh : hd1 σ i with
        | none => rw [hh] at e; cases e
        | some s =>
          rw [hh] at e
          dsimp only at e
          split at e
          · cases e
          · rename_i ne; cases e; obtain ⟨r, q⟩ := hd1_some hh; exact h5 _ _ _ q ne
      · cases e
    | obj j =>
      change eqO σ i j = some b at e
      unfold eqO at e
      cases q1 : lstI σ i with
      | some x =>
        cases q2 : lstI σ j with
        | some y => rw [q1, q2] at e; cases e; exact h6 _ _ _ _ q1 q2
        | none => rw [q1, q2] at e; cases e
      | none =>
        rw [q1] at e
        obtain ⟨t, t', x, y, g1, g2, g3, g4, rfl⟩ := eqT_some e
        exact h7 _ _ _ _ _ _ g1 g2 g3 g4
    | _ => cases e
noncomputable def ordI (op : Cop) (v u : V) : Option Bool := match v with | .int x => (match u with | .int y => some (icmp op x y) | _ => none) | _ => none
noncomputable def cmp1 (σ : H) (op : Cop) (a b : V) : Option Bool := match op with
  | .eq => eq1 σ a b
  | .ne => (eq1 σ a b).map (!·)
  | op => ordI op a b
theorem ord_cases {P : V → V → Bool → Prop} {op : Cop} (h : ∀ x y, P (.int x) (.int y) (icmp op x y)) {v u : V} {b : Bool} (e : ordI op v u = some b) : P v u b := by
  cases v with
  | int x => cases u with
    | int y => cases e; exact h x y
    | _ => cases e
  | _ => cases e
noncomputable def lim : Int := 2 ^ 40
noncomputable def intOp (σ : H) : Bop → Int → Int → R V
  | .add, a, b => .ok (.int (a + b)) σ
  | .sub, a, b => .ok (.int (a - b)) σ
  | .mul, a, b => if -lim ≤ a ∧ a ≤ lim ∧ -lim ≤ b ∧ b ≤ lim then .ok (.int (a * b)) σ else .bad
  | .div, a, b => if 0 < b ∧ b ≤ lim then .ok (.int (a.fdiv b)) σ else .bad
  | .mod, a, b => if 0 < b ∧ b ≤ lim then .ok (.int (a.fmod b)) σ else .bad
noncomputable def lstV (σ : H) (i : Nat) : Option (List V) := match σ[i]? with | some (.list xs) => some xs | _ => none
theorem lstV_some {σ : H} {i : Nat} {xs : List V} (h : lstV σ i = some xs) : σ[i]? = some (.list xs) := by
  unfold lstV at h
  split at h
  · rename_i q; cases h; exact q
  · cases h
noncomputable def sing : List V → Option V
  | [x] => some x
  | _ => none
noncomputable def repO (σ : H) (i : Nat) (n : Int) : R V := match lstV σ i with
  | some xs => match sing xs with
    | some x => if 0 ≤ n ∧ n ≤ 100000 then .ok (.obj σ.length) (σ ++ [.list (List.replicate n.toNat x)]) else .bad
    | none => .bad
  | none => .bad
noncomputable def catO (σ : H) (i j : Nat) : R V := match lstV σ i with
  | some xs => match lstV σ j with
    | some ys => if xs.length + ys.length ≤ 100000 then .ok (.obj σ.length) (σ ++ [.list (xs ++ ys)]) else .bad
    | none => .bad
  | none => .bad
noncomputable def bin1 (σ : H) (op : Bop) (v u : V) : R V := match v with
  | .int a => match u with | .int b => intOp σ op a b | _ => .bad
  | .obj i => match u with
    | .int n => match op with | .mul => repO σ i n | _ => .bad
    | .obj j => match op with | .add => catO σ i j | _ => .bad
    | _ => .bad
  | _ => .bad
theorem bin1_cases {σ : H} {P : Bop → V → V → R V → Prop} (hb : ∀ op v u, P op v u .bad) (h1 : ∀ op a b, P op (.int a) (.int b) (intOp σ op a b)) (h2 : ∀ i n x, σ[i]? = some (.list [x]) → 0 ≤ n ∧ n ≤ 100000 → P .mul (.obj i) (.int n) (.ok (.obj σ.length) (σ ++ [.list (List.replicate n.toNat x)])))
    (h3 : ∀ i j xs ys, σ[i]? = some (.list xs) → σ[j]? = some (.list ys) → xs.length + ys.length ≤ 100000 → P .add (.obj i) (.obj j) (.ok (.obj σ.length) (σ ++ [.list (xs ++ ys)]))) (op : Bop) (v u : V) : P op v u (bin1 σ op v u) := by
  cases v with
  | int a => cases u with
    | int b => exact h1 op a b
    | _ => exact hb _ _ _
  | obj i => cases u with
    | int n => cases op with
      | mul =>
        show P _ _ _ (repO σ i n)
        unfold repO
        cases q : lstV σ i with
        | none => exact hb _ _ _
        | some xs =>
          dsimp only
          unfold sing
          split
          · rename_i x w
            split at w
            · cases w
              split
              · rename_i c; exact h2 _ _ _ (lstV_some q) c
              · exact hb _ _ _
            · cases w
          · exact hb _ _ _
      | _ => exact hb _ _ _
    | obj j => cases op with
      | add =>
        show P _ _ _ (catO σ i j)
        unfold catO
        cases q : lstV σ i with
        | none => exact hb _ _ _
        | some xs =>
          cases q' : lstV σ j with
          | none => exact hb _ _ _
          | some ys =>
            dsimp only
            split
            · rename_i c; exact h3 _ _ _ _ (lstV_some q) (lstV_some q') c
            · exact hb _ _ _
      | _ => exact hb _ _ _
    | _ => exact hb _ _ _
  | _ => exact hb _ _ _
noncomputable def item1 (xs : List V) (z : Int) : Option V := if 0 ≤ z then xs[z.toNat]? else if 0 ≤ z + xs.length then xs[(z + xs.length).toNat]? else none
noncomputable def rlist (z : Int) : List V := (List.range z.toNat).map fun (i : Nat) => V.int (i : Int)
noncomputable def truth : V → Option Bool
  | .bool b => some b
  | _ => none
/-- the attributes a class is known for -/
noncomputable def attT : List (Nat × String) := [(260, "rows"), (260, "dropped"), (260, "is_on"), (260, "point_before"), (260, "noted_tick"), (407, "room"), (407, "cells"), (407, "gap_start"), (407, "gap_end"), (477, "rows"), (618, "number"), (618, "name"), (618, "text"), (618, "markers"), (618, "point"), (618, "begv"), (618, "zv"), (618, "mark"), (618, "is_live"), (618, "is_read_only"), (618, "ticks"), (618, "codes_ticks"), (618, "saved_ticks"), (618, "listeners"), (618, "undo"), (618, "props"), (618, "overlays"), (618, "locals"), (618, "syntax"), (618, "file"), (651, "codes"), (651, "runs"), (691, "list")]
noncomputable def attOk (C : Nat) (x : String) : Bool := attT.any fun p => p.1 == C && p.2 == x
noncomputable def bindArgs : List String → List V → List V → Option (List (String × V))
  | ps, vs, ds => if vs.length ≤ ps.length ∧ ps.length ≤ vs.length + ds.length then some (ps.zip (vs ++ ds.drop (vs.length + ds.length - ps.length))) else none
noncomputable def bad? {α β : Type} (o : Option α) (f : α → R β) : R β := match o with | some a => f a | .none => .bad

noncomputable def att1 (x : String) (v : V) (σ : H) : R V := match v with
  | .obj i => match σ[i]? with
    | some (.inst C d) => match σ[d]? with
      | some (.dict fs) => if attOk C x then bad? (fs.lookup x) fun v => .ok v σ else .bad
      | _ => .bad
    | _ => .bad
  | _ => .bad
noncomputable def idx1 (v u : V) (σ : H) : R V := match v, u with
  | .obj i, .int z => match σ[i]? with
    | some (.list xs) => bad? (item1 xs z) fun v => .ok v σ
    | some (.tup xs) => bad? (item1 xs z) fun v => .ok v σ
    | _ => .bad
  | .glob 175, .int z => if z = 0 then .ok (.str "boundary") σ else .bad
  | _, _ => .bad
noncomputable def upto1 (v u : V) (σ : H) : R V := match v, u with
  | .obj i, .int z => match σ[i]? with
    | some (.list xs) => if 0 ≤ z ∧ z ≤ lim then .ok (.obj σ.length) (σ ++ [.list (xs.take z.toNat)]) else .bad
    | some (.scr xs _) => if 0 ≤ z ∧ z ≤ lim then .ok (.obj σ.length) (σ ++ [.list ((xs.map V.int).take z.toNat)]) else .bad
    | _ => .bad
  | _, _ => .bad
noncomputable def fro1 (v u : V) (σ : H) : R V := match v, u with
  | .obj i, .int z => match σ[i]? with
    | some (.list xs) => if 0 ≤ z ∧ z ≤ lim then .ok (.obj σ.length) (σ ++ [.list (xs.drop z.toNat)]) else .bad
    | _ => .bad
  | _, _ => .bad
noncomputable def slc1 (v u t : V) (σ : H) : R V := match v, u, t with
  | .obj i, .int y, .int z => match σ[i]? with
    | some (.list xs) => if 0 ≤ y ∧ 0 ≤ z ∧ y ≤ lim ∧ z ≤ lim then .ok (.obj σ.length) (σ ++ [.list ((xs.take z.toNat).drop y.toNat)]) else .bad
    | _ => .bad
  | _, _, _ => .bad
noncomputable def rev1 (v : V) (σ : H) : R V := match v with
  | .obj i => match σ[i]? with
    | some (.list xs) => .ok (.obj σ.length) (σ ++ [.list xs.reverse])
    | _ => .bad
  | _ => .bad
noncomputable def len1 (v : V) (σ : H) : R V := match v with
  | .obj i => match σ[i]? with
    | some (.list xs) => .ok (.int xs.length) σ
    | _ => .bad
  | _ => .bad
noncomputable def abs1 (v : V) (σ : H) : R V := match v with | .int z => .ok (.int z.natAbs) σ | _ => .bad
noncomputable def mn1 (v u : V) (σ : H) : R V := match v, u with | .int y, .int z => .ok (.int (min y z)) σ | _, _ => .bad
noncomputable def mx1 (v u : V) (σ : H) : R V := match v, u with | .int y, .int z => .ok (.int (max y z)) σ | _, _ => .bad
noncomputable def range1 (v : V) (σ : H) : R V := match v with
  | .int z => if 0 ≤ z ∧ z ≤ 100000 then .ok (.obj σ.length) (σ ++ [.rng z]) else .bad
  | _ => .bad
noncomputable def list1 (v : V) (σ : H) : R V := match v with
  | .obj i => match σ[i]? with
    | some (.list xs) => .ok (.obj σ.length) (σ ++ [.list xs])
    | some (.rng z) => if 0 ≤ z ∧ z ≤ 100000 then .ok (.obj σ.length) (σ ++ [.list (rlist z)]) else .bad
    | _ => .bad
  | _ => .bad
noncomputable def sorted1 (v : V) (σ : H) : R V := match v with
  | .obj i => match σ[i]? with
    | some (.dict []) => .ok (.obj σ.length) (σ ++ [.list []])
    | _ => .bad
  | _ => .bad

/-- the next of an iterator -/
noncomputable def next1 (it : Nat) (σ : H) : Option (Option V × H) := match σ[it]? with
  | some (.iter i k) => match σ[i]? with
    | some (.list ys) => match ys[k]? with
      | .none => some (.none, σ.set it .gone)
      | some y => some (some y, σ.set it (.iter i (k + 1)))
    | _ => .none
  | some (.riter x left) => if 0 < left then some (some (.int x), σ.set it (.riter (x + 1) (left - 1))) else some (.none, σ.set it .gone)
  | _ => .none
noncomputable def iter1 (v : V) (σ : H) : Option H := match v with
  | .obj i => match σ[i]? with
    | some (.list _) => some (σ ++ [.iter i 0])
    | some (.rng z) => if 0 ≤ z ∧ z ≤ 100000 then some (σ ++ [.riter 0 z]) else .none
    | _ => .none
  | _ => .none
noncomputable def app1 (acc : Nat) (v : V) (σ : H) : Option H := match σ[acc]? with
  | some (.list vs) => if vs.length < 100000 then some (σ.set acc (.list (vs ++ [v]))) else .none
  | _ => .none

variable (fns : Nat → Option FD) (mets : Nat → String → Option Nat) (inits : Nat → Option Nat)
mutual
noncomputable def evalI : Nat → Fm → ME → H → R V
  | 0, _, _, _ => .bad
  | n + 1, m, e, σ => match e with
    | .stuck => .bad
    | .loc x => bad? (m.l.lookup x) fun v => .ok v σ
    | .cel x => bad? (m.c.lookup x) fun i => match σ[i]? with | some (.cell (some v)) => .ok v σ | _ => .bad
    | .bnd => .ok (.glob 175) σ
    | .int z => .ok (.int z) σ
    | .str s => .ok (.str s) σ
    | .non => .ok .none σ
    | .boo b => .ok (.bool b) σ
    | .pow a b => .ok (.int ((a : Int) ^ b)) σ
    | .att e x => (evalI n m e σ).bind fun v σ => att1 x v σ
    | .bin op a b => (evalI n m a σ).bind fun v σ => (evalI n m b σ).bind fun u σ => bin1 σ op v u
    | .cmp op a b => (evalI n m a σ).bind fun v σ => (evalI n m b σ).bind fun u σ => bad? (cmp1 σ op v u) fun b => .ok (.bool b) σ
    | .cmp2 o₁ o₂ a b c => (evalI n m a σ).bind fun v σ => (evalI n m b σ).bind fun u σ => bad? (cmp1 σ o₁ v u) fun t =>
        if t then (evalI n m c σ).bind fun x σ => bad? (cmp1 σ o₂ u x) fun b => .ok (.bool b) σ else .ok (.bool false) σ
    | .isn a => (evalI n m a σ).bind fun v σ => .ok (.bool (decide (v = .none))) σ
    | .isnn a => (evalI n m a σ).bind fun v σ => .ok (.bool (!decide (v = .none))) σ
    | .and2 a b => (evalI n m a σ).bind fun v σ => bad? (truth v) fun t => if t then evalI n m b σ else .ok v σ
    | .or2 a b => (evalI n m a σ).bind fun v σ => bad? (truth v) fun t => if t then .ok v σ else evalI n m b σ
    | .and3 a b c => (evalI n m a σ).bind fun v σ => bad? (truth v) fun t => if t then ((evalI n m b σ).bind fun v σ => bad? (truth v) fun t => if t then evalI n m c σ else .ok v σ) else .ok v σ
    | .or3 a b c => (evalI n m a σ).bind fun v σ => bad? (truth v) fun t => if t then .ok v σ else ((evalI n m b σ).bind fun v σ => bad? (truth v) fun t => if t then .ok v σ else evalI n m c σ)
    | .not a => (evalI n m a σ).bind fun v σ => bad? (truth v) fun t => .ok (.bool (!t)) σ
    | .ifx t a b => (evalI n m t σ).bind fun v σ => bad? (truth v) fun t => if t then evalI n m a σ else evalI n m b σ
    | .lst es => (evalsI n m es σ).bind fun vs σ => if vs.length ≤ 1000 then .ok (.obj σ.length) (σ ++ [.list vs]) else .bad
    | .tup es => (evalsI n m es σ).bind fun vs σ => if vs.length ≤ 1000 then .ok (.obj σ.length) (σ ++ [.tup vs]) else .bad
    | .edict => .ok (.obj σ.length) (σ ++ [.dict []])
    | .idx e i => (evalI n m e σ).bind fun v σ => (evalI n m i σ).bind fun u σ => idx1 v u σ
    | .upto e hi => (evalI n m e σ).bind fun v σ => (evalI n m hi σ).bind fun u σ => upto1 v u σ
    | .fro e lo => (evalI n m e σ).bind fun v σ => (evalI n m lo σ).bind fun u σ => fro1 v u σ
    | .slc e lo hi => (evalI n m e σ).bind fun v σ => (evalI n m lo σ).bind fun u σ => (evalI n m hi σ).bind fun t σ => slc1 v u t σ
    | .rev e => (evalI n m e σ).bind fun v σ => rev1 v σ
    | .call f _ es => (evalsI n m es σ).bind fun vs σ => callI n f vs σ
    | .new C _ es => (evalsI n m es σ).bind fun vs σ => bad? (inits C) fun f =>
        (callI n f (.obj (σ.length + 1) :: vs) (σ ++ [.dict []] ++ [.inst C σ.length])).bind fun v σ' => match v with | .none => .ok (.obj (σ.length + 1)) σ' | _ => .bad
    | .met e x es => (evalI n m e σ).bind fun v σ => match v with
      | .obj i => match σ[i]? with
        | some (.inst C d) => match σ[d]? with
          | some (.dict fs) => if fs.lookup x = .none then bad? (mets C x) fun f => (evalsI n m es σ).bind fun vs σ => callI n f (.obj i :: vs) σ else .bad
          | _ => .bad
        | _ => .bad
      | _ => .bad
    | .len e => (evalI n m e σ).bind fun v σ => len1 v σ
    | .abs e => (evalI n m e σ).bind fun v σ => abs1 v σ
    | .mn a b => (evalI n m a σ).bind fun v σ => (evalI n m b σ).bind fun u σ => mn1 v u σ
    | .mx a b => (evalI n m a σ).bind fun v σ => (evalI n m b σ).bind fun u σ => mx1 v u σ
    | .range e => (evalI n m e σ).bind fun v σ => range1 v σ
    | .list e => (evalI n m e σ).bind fun v σ => list1 v σ
    | .sorted e => (evalI n m e σ).bind fun v σ => sorted1 v σ
    | .app e a => (evalI n m e σ).bind fun v σ => match v with
      | .obj i => match σ[i]? with
        | some (.list _) => (evalI n m a σ).bind fun u σ => match σ[i]? with
          | some (.list xs) => if xs.length < 100000 then .ok .none (σ.set i (.list (xs ++ [u]))) else .bad
          | _ => .bad
        | _ => .bad
      | _ => .bad
    | .pop0 e => (evalI n m e σ).bind fun v σ => match v with
      | .obj i => match σ[i]? with
        | some (.list (x :: xs)) => .ok x (σ.set i (.list xs))
        | _ => .bad
      | _ => .bad
    | .comp elt xs it cond => (evalI n m it σ).bind fun v σ => bad? (iter1 v σ) fun σ' =>
        (compI n m elt xs cond σ.length (σ.length + 1) (σ' ++ [.list []])).bind fun _ σ'' => .ok (.obj (σ.length + 1)) σ''
termination_by structural n => n
noncomputable def evalsI : Nat → Fm → List ME → H → R (List V)
  | 0, _, _, _ => .bad
  | _ + 1, _, [], σ => .ok [] σ
  | n + 1, m, e :: es, σ => (evalI n m e σ).bind fun v σ => (evalsI n m es σ).bind fun vs σ => .ok (v :: vs) σ
termination_by structural n => n
noncomputable def compI : Nat → Fm → ME → List String → Option ME → Nat → Nat → H → R Unit
  | 0, _, _, _, _, _, _, _ => .bad
  | n + 1, m, elt, xs, cond, it, acc, σ => match next1 it σ with
    | .none => .bad
    | some (.none, σ) => .ok () σ
    | some (some y, σ) => match xs with
      | [x] => match cond with
        | .none => match evalI n ⟨[(x, y)], m.c⟩ elt σ with
          | .ok v σ => bad? (app1 acc v σ) fun σ => compI n m elt xs cond it acc σ
          | _ => .bad
        | some t => match evalI n ⟨[(x, y)], m.c⟩ t σ with
          | .ok v σ => bad? (truth v) fun t => if t then (match evalI n ⟨[(x, y)], m.c⟩ elt σ with
              | .ok v σ => bad? (app1 acc v σ) fun σ => compI n m elt xs cond it acc σ
              | _ => .bad) else compI n m elt xs cond it acc σ
          | _ => .bad
      | _ => .bad
termination_by structural n => n
noncomputable def callI : Nat → Nat → List V → H → R V
  | 0, _, _, _ => .bad
  | n + 1, f, vs, σ => bad? (fns f) fun d => bad? (bindArgs d.params vs d.dflt) fun l =>
      (execsI n ⟨(l.filter fun p => !(d.cells.contains p.1)).reverse, d.cells.mapIdx fun k x => (x, σ.length + k)⟩ d.body (σ ++ d.cells.map fun x => .cell (l.lookup x))).bind fun r σ => match r.1 with
        | .next => .ok .none σ
        | .ret v => .ok v σ
termination_by structural n => n
noncomputable def execsI : Nat → Fm → List MS → H → R (Fl × Fm)
  | 0, _, _, _ => .bad
  | _ + 1, m, [], σ => .ok (.next, m) σ
  | n + 1, m, s :: ss, σ => (execI n m s σ).bind fun r σ => match r.1 with
    | .next => execsI n r.2 ss σ
    | .ret v => .ok (.ret v, r.2) σ
termination_by structural n => n
noncomputable def execI : Nat → Fm → MS → H → R (Fl × Fm)
  | 0, _, _, _ => .bad
  | n + 1, m, s, σ => match s with
    | .stuck => .bad
    | .set x e => (evalI n m e σ).bind fun v σ => .ok (.next, ⟨(x, v) :: m.l, m.c⟩) σ
    | .sec x e => (evalI n m e σ).bind fun v σ => bad? (m.c.lookup x) fun i => match σ[i]? with
        | some (.cell _) => .ok (.next, m) (σ.set i (.cell (some v)))
        | _ => .bad
    | .unp xs e => (evalI n m e σ).bind fun v σ => match v with
      | .obj i => match σ[i]? with
        | some (.tup vs) => if vs.length = xs.length then .ok (.next, ⟨(xs.zip vs).reverse ++ m.l, m.c⟩) σ else .bad
        | _ => .bad
      | _ => .bad
    | .par x y a b => (evalI n m a σ).bind fun v σ => (evalI n m b σ).bind fun u σ => .ok (.next, ⟨(y, u) :: (x, v) :: m.l, m.c⟩) σ
    | .sce x y a b => (evalI n m a σ).bind fun v σ => (evalI n m b σ).bind fun u σ => bad? (m.c.lookup x) fun i => bad? (m.c.lookup y) fun j =>
        match σ[i]?, (σ.set i (.cell (some v)))[j]? with
        | some (.cell _), some (.cell _) => .ok (.next, m) ((σ.set i (.cell (some v))).set j (.cell (some u)))
        | _, _ => .bad
    | .sat o x e => (evalI n m e σ).bind fun v σ => (evalI n m o σ).bind fun u σ => match u with
      | .obj i => match σ[i]? with
        | some (.inst C d) => match σ[d]? with
          | some (.dict fs) => if attOk C x ∧ fs.length < 900 then .ok (.next, m) (σ.set d (.dict (upd x v fs))) else .bad
          | _ => .bad
        | _ => .bad
      | _ => .bad
    | .sat2 o₁ x₁ o₂ x₂ a b => (evalI n m a σ).bind fun v σ => (evalI n m b σ).bind fun w σ => (evalI n m o₁ σ).bind fun u σ => match u with
      | .obj i => match σ[i]? with
        | some (.inst C d) => match σ[d]? with
          | some (.dict fs) => if attOk C x₁ ∧ fs.length < 900 then (evalI n m o₂ (σ.set d (.dict (upd x₁ v fs)))).bind fun u σ => match u with
            | .obj i => match σ[i]? with
              | some (.inst C d) => match σ[d]? with
                | some (.dict fs) => if attOk C x₂ ∧ fs.length < 900 then .ok (.next, m) (σ.set d (.dict (upd x₂ w fs))) else .bad
                | _ => .bad
              | _ => .bad
            | _ => .bad else .bad
          | _ => .bad
        | _ => .bad
      | _ => .bad
    | .six o i e => (evalI n m e σ).bind fun v σ => (evalI n m o σ).bind fun u σ => (evalI n m i σ).bind fun t σ => match u, t with
      | .obj i, .int z => match σ[i]? with
        | some (.list xs) => if 0 ≤ z ∧ z < xs.length then .ok (.next, m) (σ.set i (.list (xs.set z.toNat v))) else .bad
        | _ => .bad
      | _, _ => .bad
    | .ssl o lo hi e => (evalI n m e σ).bind fun v σ => (evalI n m o σ).bind fun u σ => (evalI n m lo σ).bind fun t σ => (evalI n m hi σ).bind fun w σ => match v, u, t, w with
      | .obj j, .obj i, .int y, .int z => match σ[i]?, σ[j]? with
        | some (.list xs), some (.list ys) => if i ≠ j ∧ 0 ≤ y ∧ y ≤ xs.length ∧ 0 ≤ z ∧ z ≤ xs.length ∧ xs.length + ys.length ≤ 100000 then .ok (.next, m) (σ.set i (.list (xs.take y.toNat ++ ys ++ xs.drop (max y z).toNat))) else .bad
        | _, _ => .bad
      | _, _, _, _ => .bad
    | .exp e => (evalI n m e σ).bind fun _ σ => .ok (.next, m) σ
    | .ret e => (evalI n m e σ).bind fun v σ => .ok (.ret v, m) σ
    | .ret0 => .ok (.ret .none, m) σ
    | .ife t a b => (evalI n m t σ).bind fun v σ => bad? (truth v) fun t => if t then execsI n m a σ else execsI n m b σ
    | .whl t b => whlI n m t b σ
    | .forin xs e b => (evalI n m e σ).bind fun v σ => bad? (iter1 v σ) fun σ' => forI n m xs σ.length b σ'
    | .tryx y e b x p q r => match evalI n m e σ with
      | .ok v σ => match execsI n ⟨(y, v) :: m.l, m.c⟩ b σ with
        | .ok a σ => .ok a σ
        | _ => .bad
      | .bad => .bad
      | .exc s σ => if s = "error" ∧ m.l.lookup x = .none then (match m.l.lookup r with
        | some v => .ok (.next, ⟨(q, v) :: (p, .bool false) :: m.l, m.c⟩) σ
        | .none => .bad) else .bad
    | .rai s e => (evalI n m e σ).bind fun _ σ => .exc s σ
termination_by structural n => n
noncomputable def whlI : Nat → Fm → ME → List MS → H → R (Fl × Fm)
  | 0, _, _, _, _ => .bad
  | n + 1, m, t, b, σ => (evalI n m t σ).bind fun v σ => bad? (truth v) fun c =>
      if c then (execsI n m b σ).bind fun r σ => match r.1 with
        | .next => whlI n r.2 t b σ
        | .ret v => .ok (.ret v, r.2) σ
      else .ok (.next, m) σ
termination_by structural n => n
noncomputable def forI : Nat → Fm → List String → Nat → List MS → H → R (Fl × Fm)
  | 0, _, _, _, _, _ => .bad
  | n + 1, m, xs, it, b, σ => match next1 it σ with
    | .none => .bad
    | some (.none, σ) => .ok (.next, m) σ
    | some (some y, σ) => match xs with
      | [x] => (execsI n ⟨(x, y) :: m.l, m.c⟩ b σ).bind fun r σ => match r.1 with
          | .next => forI n r.2 xs it b σ
          | .ret v => .ok (.ret v, r.2) σ
      | _ => .bad
termination_by structural n => n
end
end Mine.I

namespace Mine.I
noncomputable def F48 : FD := ⟨"need_writable", ["buffer"], [], [], [
  .ife (.att (.loc "buffer") "is_read_only") [.stuck] []]⟩
noncomputable def F55 : FD := ⟨"reached", ["buffer", "start", "end"], [], [], [
  .par "low" "high" (.mn (.loc "start") (.loc "end")) (.mx (.loc "start") (.loc "end")),
  .ife (.or2 (.cmp .lt (.loc "low") (.att (.loc "buffer") "begv")) (.cmp .gt (.loc "high") (.att (.loc "buffer") "zv"))) [.stuck] [],
  .ret (.tup [.loc "low", .loc "high"])]⟩
noncomputable def F62 : FD := ⟨"tell_ahead", ["buffer", "start", "end"], [], [], [
  .forin ["listener"] (.list (.att (.loc "buffer") "listeners")) [.stuck]]⟩
noncomputable def F69 : FD := ⟨"tell_behind", ["buffer", "start", "end", "old_length"], [], [], [
  .exp (.met (.loc "buffer") "touch" [.boo true]),
  .forin ["listener"] (.list (.att (.loc "buffer") "listeners")) [.stuck]]⟩
noncomputable def F76 : FD := ⟨"text_out", ["buffer", "start", "end"], [], [], [
  .ife (.isnn (.att (.loc "buffer") "undo")) [.exp (.met (.att (.loc "buffer") "undo") "text_goes" [.loc "buffer", .loc "start", .loc "end"])] [],
  .set "gone" (.met (.att (.loc "buffer") "text") "delete" [.bin .sub (.loc "start") (.int 1), .bin .sub (.loc "end") (.int 1)]),
  .sat (.loc "buffer") "zv" (.bin .sub (.att (.loc "buffer") "zv") (.bin .sub (.loc "end") (.loc "start"))),
  .ife (.cmp .gt (.att (.loc "buffer") "point") (.loc "start")) [.sat (.loc "buffer") "point" (.mx (.loc "start") (.bin .sub (.att (.loc "buffer") "point") (.bin .sub (.loc "end") (.loc "start"))))] [],
  .ret (.loc "gone")]⟩
noncomputable def F83 : FD := ⟨"text_in", ["buffer", "place", "codes"], [], [], [
  .ife (.isnn (.att (.loc "buffer") "undo")) [.exp (.met (.att (.loc "buffer") "undo") "text_comes" [.loc "buffer", .loc "place", .len (.loc "codes")])] [],
  .exp (.met (.att (.loc "buffer") "text") "insert" [.bin .sub (.loc "place") (.int 1), .loc "codes"]),
  .sat (.loc "buffer") "zv" (.bin .add (.att (.loc "buffer") "zv") (.len (.loc "codes"))),
  .ife (.cmp .gt (.att (.loc "buffer") "point") (.loc "place")) [.sat (.loc "buffer") "point" (.bin .add (.att (.loc "buffer") "point") (.len (.loc "codes")))] []]⟩
noncomputable def F90 : FD := ⟨"hung_out", ["buffer", "start", "end"], [], [], [
  .ife (.isnn (.att (.loc "buffer") "props")) [.stuck] [],
  .ife (.isnn (.att (.loc "buffer") "overlays")) [.stuck] []]⟩
noncomputable def F97 : FD := ⟨"hung_in", ["buffer", "place", "many", "before_markers"], [], [], [
  .ife (.isnn (.att (.loc "buffer") "props")) [.stuck] [],
  .ife (.isnn (.att (.loc "buffer") "overlays")) [.stuck] []]⟩
noncomputable def F104 : FD := ⟨"put_in", ["buffer", "place", "codes", "before_markers", "is_point_behind"], [], [], [
  .exp (.call 48 "need_writable" [.loc "buffer"]),
  .exp (.call 55 "reached" [.loc "buffer", .loc "place", .loc "place"]),
  .ife (.cmp .eq (.len (.loc "codes")) (.int 0)) [.ret0] [],
  .exp (.call 62 "tell_ahead" [.loc "buffer", .loc "place", .loc "place"]),
  .exp (.call 83 "text_in" [.loc "buffer", .loc "place", .loc "codes"]),
  .ife (.loc "is_point_behind") [.sat (.loc "buffer") "point" (.bin .add (.loc "place") (.len (.loc "codes")))] [],
  .exp (.met (.att (.loc "buffer") "markers") "inserted" [.loc "place", .bin .add (.loc "place") (.len (.loc "codes")), .loc "before_markers"]),
  .exp (.call 97 "hung_in" [.loc "buffer", .loc "place", .len (.loc "codes"), .loc "before_markers"]),
  .exp (.call 69 "tell_behind" [.loc "buffer", .loc "place", .bin .add (.loc "place") (.len (.loc "codes")), .int 0])]⟩
noncomputable def F112 : FD := ⟨"insert", ["buffer", "codes", "before_markers"], [.bool false], [], [
  .exp (.call 104 "put_in" [.loc "buffer", .att (.loc "buffer") "point", .loc "codes", .loc "before_markers", .boo true])]⟩
noncomputable def F119 : FD := ⟨"delete", ["buffer", "start", "end"], [], [], [
  .exp (.call 48 "need_writable" [.loc "buffer"]),
  .unp ["low", "high"] (.call 55 "reached" [.loc "buffer", .loc "start", .loc "end"]),
  .ife (.cmp .eq (.loc "low") (.loc "high")) [.ret (.lst [])] [],
  .exp (.call 62 "tell_ahead" [.loc "buffer", .loc "low", .loc "high"]),
  .set "gone" (.call 76 "text_out" [.loc "buffer", .loc "low", .loc "high"]),
  .exp (.met (.att (.loc "buffer") "markers") "deleted" [.loc "low", .loc "high"]),
  .exp (.call 90 "hung_out" [.loc "buffer", .loc "low", .loc "high"]),
  .exp (.call 69 "tell_behind" [.loc "buffer", .loc "low", .loc "low", .bin .sub (.loc "high") (.loc "low")]),
  .ret (.loc "gone")]⟩
noncomputable def F162 : FD := ⟨"insert_piece", ["buffer", "piece"], [], ["start"], [
  .sec "start" (.att (.loc "buffer") "point"),
  .exp (.call 112 "insert" [.loc "buffer", .att (.loc "piece") "codes"]),
  .ife (.and2 (.isnn (.att (.loc "buffer") "props")) (.cmp .gt (.len (.att (.loc "piece") "codes")) (.int 0))) [.stuck] []]⟩
noncomputable def F189 : FD := ⟨"__init__", ["self"], [], [], [
  .sat (.loc "self") "rows" (.lst []),
  .sat (.loc "self") "dropped" (.int 0),
  .sat (.loc "self") "is_on" (.boo true),
  .sat (.loc "self") "point_before" .non,
  .sat (.loc "self") "noted_tick" .non]⟩
noncomputable def F203 : FD := ⟨"is_at_boundary", ["self"], [], [], [
  .ret (.or2 (.cmp .eq (.len (.att (.loc "self") "rows")) (.int 0)) (.cmp .eq (.idx (.att (.loc "self") "rows") (.int (-1))) .bnd))]⟩
noncomputable def F210 : FD := ⟨"boundary", ["self"], [], [], [
  .ife (.not (.met (.loc "self") "is_at_boundary" [])) [.exp (.app (.att (.loc "self") "rows") .bnd)] []]⟩
noncomputable def F224 : FD := ⟨"note_state", ["self", "is_modified", "tick"], [], [], [
  .ife (.and2 (.not (.loc "is_modified")) (.cmp .ne (.loc "tick") (.att (.loc "self") "noted_tick"))) [.stuck] []]⟩
noncomputable def F231 : FD := ⟨"note_insert", ["self", "start", "many", "point", "is_modified", "tick"], [], [], [
  .ife (.or2 (.not (.att (.loc "self") "is_on")) (.cmp .eq (.loc "many") (.int 0))) [.ret0] [],
  .exp (.met (.loc "self") "note_state" [.loc "is_modified", .loc "tick"]),
  .set "last" (.ifx (.cmp .gt (.len (.att (.loc "self") "rows")) (.int 0)) (.idx (.att (.loc "self") "rows") (.int (-1))) .bnd),
  .ife (.and2 (.cmp .eq (.idx (.loc "last") (.int 0)) (.str "insert")) (.cmp .eq (.idx (.loc "last") (.int 2)) (.loc "start"))) [.stuck] [.exp (.app (.att (.loc "self") "rows") (.tup [.str "insert", .loc "start", .bin .add (.loc "start") (.loc "many")]))]]⟩
noncomputable def F238 : FD := ⟨"note_delete", ["self", "start", "piece", "point", "markers", "is_modified", "tick"], [], [], [
  .ife (.or2 (.not (.att (.loc "self") "is_on")) (.cmp .eq (.len (.att (.loc "piece") "codes")) (.int 0))) [.ret0] [],
  .set "is_first" (.met (.loc "self") "is_at_boundary" []),
  .exp (.met (.loc "self") "note_state" [.loc "is_modified", .loc "tick"]),
  .ife (.and3 (.loc "is_first") (.isnn (.att (.loc "self") "point_before")) (.cmp .ne (.att (.loc "self") "point_before") (.loc "start"))) [.stuck] [],
  .forin ["marker", "distance"] (.loc "markers") [.stuck],
  .exp (.app (.att (.loc "self") "rows") (.tup [.str "delete", .loc "start", .loc "piece", .cmp .eq (.loc "point") (.bin .add (.loc "start") (.len (.att (.loc "piece") "codes")))]))]⟩
noncomputable def F271 : FD := ⟨"marker_distance", ["place", "start", "end", "is_advancing"], [], [], [
  .ife (.or2 (.cmp .lt (.loc "place") (.loc "start")) (.cmp .gt (.loc "place") (.loc "end"))) [.ret (.int 0)] [],
  .ret (.ifx (.loc "is_advancing") (.bin .sub (.loc "end") (.loc "place")) (.bin .sub (.loc "start") (.loc "place")))]⟩
noncomputable def F278 : FD := ⟨"need_visible", ["buffer", "start", "end"], [], [], [
  .ife (.or2 (.cmp .lt (.loc "start") (.att (.loc "buffer") "begv")) (.cmp .gt (.loc "end") (.att (.loc "buffer") "zv"))) [.rai "error" (.lst [.str "Changes to be undone are outside visible portion of buffer"])] []]⟩
noncomputable def F285 : FD := ⟨"markers_ahead", ["rows", "at"], [], [], [
  .set "found" (.lst []),
  .whl (.and2 (.cmp .gt (.loc "at") (.int 0)) (.cmp .eq (.idx (.idx (.loc "rows") (.bin .sub (.loc "at") (.int 1))) (.int 0)) (.str "marker"))) [.stuck],
  .ret (.loc "found")]⟩
noncomputable def F292 : FD := ⟨"undo_insert", ["buffer", "row"], [], [], [
  .exp (.call 278 "need_visible" [.loc "buffer", .idx (.loc "row") (.int 1), .idx (.loc "row") (.int 2)]),
  .exp (.met (.loc "buffer") "goto" [.idx (.loc "row") (.int 1)]),
  .exp (.call 119 "delete" [.loc "buffer", .idx (.loc "row") (.int 1), .idx (.loc "row") (.int 2)])]⟩
noncomputable def F299 : FD := ⟨"undo_delete", ["buffer", "row", "marker_rows"], [], [], [
  .exp (.call 278 "need_visible" [.loc "buffer", .idx (.loc "row") (.int 1), .idx (.loc "row") (.int 1)]),
  .set "valid" (.lst []),
  .forin ["word", "marker", "distance"] (.loc "marker_rows") [.stuck],
  .exp (.met (.loc "buffer") "goto" [.idx (.loc "row") (.int 1)]),
  .exp (.call 162 "insert_piece" [.loc "buffer", .idx (.loc "row") (.int 2)]),
  .ife (.not (.idx (.loc "row") (.int 3))) [.exp (.met (.loc "buffer") "goto" [.idx (.loc "row") (.int 1)])] [],
  .forin ["marker", "distance"] (.loc "valid") [.stuck]]⟩
noncomputable def F306 : FD := ⟨"undo_row", ["buffer", "rows", "at"], [], [], [
  .set "row" (.idx (.loc "rows") (.bin .sub (.loc "at") (.int 1))),
  .set "at" (.bin .sub (.loc "at") (.int 1)),
  .ife (.cmp .eq (.idx (.loc "row") (.int 0)) (.str "insert")) [.exp (.call 292 "undo_insert" [.loc "buffer", .loc "row"])] [.ife (.cmp .eq (.idx (.loc "row") (.int 0)) (.str "delete")) [.set "marker_rows" (.call 285 "markers_ahead" [.loc "rows", .loc "at"]), .exp (.call 299 "undo_delete" [.loc "buffer", .loc "row", .loc "marker_rows"]), .set "at" (.bin .sub (.loc "at") (.len (.loc "marker_rows")))] [.stuck]],
  .ret (.loc "at")]⟩
noncomputable def F313 : FD := ⟨"above_boundaries", ["rows", "at"], [], [], [
  .whl (.and2 (.cmp .gt (.loc "at") (.int 0)) (.cmp .eq (.idx (.loc "rows") (.bin .sub (.loc "at") (.int 1))) .bnd)) [.set "at" (.bin .sub (.loc "at") (.int 1))],
  .ret (.loc "at")]⟩
noncomputable def F320 : FD := ⟨"undo_group", ["buffer", "rows", "at"], [], [], [
  .set "at" (.call 313 "above_boundaries" [.loc "rows", .loc "at"]),
  .whl (.and2 (.cmp .gt (.loc "at") (.int 0)) (.cmp .ne (.idx (.loc "rows") (.bin .sub (.loc "at") (.int 1))) .bnd)) [.set "at" (.call 306 "undo_row" [.loc "buffer", .loc "rows", .loc "at"])],
  .ret (.loc "at")]⟩
noncomputable def F334 : FD := ⟨"__init__", ["self", "codes", "room"], [], [], [
  .sat (.loc "self") "room" (.loc "room"),
  .sat (.loc "self") "cells" (.bin .add (.list (.loc "codes")) (.bin .mul (.lst [.int 0]) (.loc "room"))),
  .sat (.loc "self") "gap_start" (.len (.loc "codes")),
  .sat (.loc "self") "gap_end" (.bin .add (.len (.loc "codes")) (.loc "room"))]⟩
noncomputable def F341 : FD := ⟨"size", ["self"], [], [], [
  .ret (.bin .add (.bin .sub (.len (.att (.loc "self") "cells")) (.att (.loc "self") "gap_end")) (.att (.loc "self") "gap_start"))]⟩
noncomputable def F355 : FD := ⟨"codes", ["self", "start", "end"], [], [], [
  .set "shift" (.bin .sub (.att (.loc "self") "gap_end") (.att (.loc "self") "gap_start")),
  .ife (.cmp .le (.loc "end") (.att (.loc "self") "gap_start")) [.ret (.slc (.att (.loc "self") "cells") (.loc "start") (.loc "end"))] [],
  .ife (.cmp .ge (.loc "start") (.att (.loc "self") "gap_start")) [.ret (.slc (.att (.loc "self") "cells") (.bin .add (.loc "start") (.loc "shift")) (.bin .add (.loc "end") (.loc "shift")))] [],
  .ret (.bin .add (.slc (.att (.loc "self") "cells") (.loc "start") (.att (.loc "self") "gap_start")) (.slc (.att (.loc "self") "cells") (.att (.loc "self") "gap_end") (.bin .add (.loc "end") (.loc "shift"))))]⟩
noncomputable def F362 : FD := ⟨"move_gap", ["self", "at"], [], [], [
  .ife (.cmp .lt (.loc "at") (.att (.loc "self") "gap_start")) [.set "moved" (.slc (.att (.loc "self") "cells") (.loc "at") (.att (.loc "self") "gap_start")), .ssl (.att (.loc "self") "cells") (.bin .sub (.att (.loc "self") "gap_end") (.len (.loc "moved"))) (.att (.loc "self") "gap_end") (.loc "moved"), .sat (.loc "self") "gap_end" (.bin .sub (.att (.loc "self") "gap_end") (.len (.loc "moved")))] [.set "moved" (.slc (.att (.loc "self") "cells") (.att (.loc "self") "gap_end") (.bin .sub (.bin .add (.att (.loc "self") "gap_end") (.loc "at")) (.att (.loc "self") "gap_start"))), .ssl (.att (.loc "self") "cells") (.att (.loc "self") "gap_start") (.bin .add (.att (.loc "self") "gap_start") (.len (.loc "moved"))) (.loc "moved"), .sat (.loc "self") "gap_end" (.bin .add (.att (.loc "self") "gap_end") (.len (.loc "moved")))],
  .sat (.loc "self") "gap_start" (.loc "at")]⟩
noncomputable def F369 : FD := ⟨"widen_gap", ["self", "wanted"], [], [], [
  .set "lack" (.bin .sub (.loc "wanted") (.bin .sub (.att (.loc "self") "gap_end") (.att (.loc "self") "gap_start"))),
  .ife (.cmp .gt (.loc "lack") (.int 0)) [.ssl (.att (.loc "self") "cells") (.att (.loc "self") "gap_end") (.att (.loc "self") "gap_end") (.bin .mul (.lst [.int 0]) (.bin .add (.loc "lack") (.att (.loc "self") "room"))), .sat (.loc "self") "gap_end" (.bin .add (.bin .add (.att (.loc "self") "gap_end") (.loc "lack")) (.att (.loc "self") "room"))] []]⟩
noncomputable def F376 : FD := ⟨"insert", ["self", "at", "codes"], [], [], [
  .exp (.met (.loc "self") "widen_gap" [.len (.loc "codes")]),
  .exp (.met (.loc "self") "move_gap" [.loc "at"]),
  .ssl (.att (.loc "self") "cells") (.loc "at") (.bin .add (.loc "at") (.len (.loc "codes"))) (.loc "codes"),
  .sat (.loc "self") "gap_start" (.bin .add (.loc "at") (.len (.loc "codes")))]⟩
noncomputable def F383 : FD := ⟨"delete", ["self", "start", "end"], [], [], [
  .set "gone" (.met (.loc "self") "codes" [.loc "start", .loc "end"]),
  .ife (.cmp .lt (.loc "end") (.att (.loc "self") "gap_start")) [.exp (.met (.loc "self") "move_gap" [.loc "end"])] [],
  .ife (.cmp .gt (.loc "start") (.att (.loc "self") "gap_start")) [.exp (.met (.loc "self") "move_gap" [.loc "start"])] [],
  .sat (.loc "self") "gap_end" (.bin .sub (.bin .add (.att (.loc "self") "gap_end") (.loc "end")) (.att (.loc "self") "gap_start")),
  .sat (.loc "self") "gap_start" (.loc "start"),
  .ret (.loc "gone")]⟩
noncomputable def F425 : FD := ⟨"__init__", ["self"], [], [], [
  .sat (.loc "self") "rows" .edict]⟩
noncomputable def F432 : FD := ⟨"numbers", ["self"], [], [], [
  .ret (.sorted (.att (.loc "self") "rows"))]⟩
noncomputable def F453 : FD := ⟨"within", ["self", "start", "end"], [], [], [
  .set "found" (.lst []),
  .forin ["number"] (.met (.loc "self") "numbers" []) [.stuck],
  .ret (.loc "found")]⟩
noncomputable def F460 : FD := ⟨"inserted", ["self", "start", "end", "is_before"], [], [], [
  .forin ["number"] (.met (.loc "self") "numbers" []) [.stuck]]⟩
noncomputable def F467 : FD := ⟨"deleted", ["self", "start", "end"], [], [], [
  .forin ["number"] (.met (.loc "self") "numbers" []) [.stuck]]⟩
noncomputable def F531 : FD := ⟨"__init__", ["self", "number", "name", "room"], [.int 8], [], [
  .sat (.loc "self") "number" (.loc "number"),
  .sat (.loc "self") "name" (.loc "name"),
  .sat (.loc "self") "text" (.new 407 "GapText" [.lst [], .loc "room"]),
  .sat (.loc "self") "markers" (.new 477 "Markers" []),
  .sat (.loc "self") "point" (.int 1),
  .sat (.loc "self") "begv" (.int 1),
  .sat (.loc "self") "zv" (.int 1),
  .sat (.loc "self") "mark" .non,
  .sat (.loc "self") "is_live" (.boo true),
  .sat (.loc "self") "is_read_only" (.boo false),
  .sat (.loc "self") "ticks" (.int 1),
  .sat (.loc "self") "codes_ticks" (.int 1),
  .sat (.loc "self") "saved_ticks" (.int 1),
  .sat (.loc "self") "listeners" (.lst []),
  .sat (.loc "self") "undo" .non,
  .sat (.loc "self") "props" .non,
  .sat (.loc "self") "overlays" .non,
  .sat (.loc "self") "locals" .non,
  .sat (.loc "self") "syntax" .non,
  .sat (.loc "self") "file" .non]⟩
noncomputable def F566 : FD := ⟨"size", ["self"], [], [], [
  .ret (.met (.att (.loc "self") "text") "size" [])]⟩
noncomputable def F580 : FD := ⟨"codes", ["self", "start", "end"], [], [], [
  .ret (.met (.att (.loc "self") "text") "codes" [.bin .sub (.loc "start") (.int 1), .bin .sub (.loc "end") (.int 1)])]⟩
noncomputable def F587 : FD := ⟨"goto", ["self", "place"], [], [], [
  .sat (.loc "self") "point" (.mn (.mx (.loc "place") (.att (.loc "self") "begv")) (.att (.loc "self") "zv")),
  .ret (.att (.loc "self") "point")]⟩
noncomputable def F601 : FD := ⟨"is_modified", ["self"], [], [], [
  .ret (.cmp .lt (.att (.loc "self") "saved_ticks") (.att (.loc "self") "ticks"))]⟩
noncomputable def F615 : FD := ⟨"touch", ["self", "are_codes"], [], [], [
  .sat (.loc "self") "ticks" (.bin .add (.att (.loc "self") "ticks") (.int 1)),
  .ife (.loc "are_codes") [.sat (.loc "self") "codes_ticks" (.att (.loc "self") "ticks")] []]⟩
noncomputable def F627 : FD := ⟨"narrow", ["buffer", "start", "end"], [], [], [
  .par "low" "high" (.mn (.loc "start") (.loc "end")) (.mx (.loc "start") (.loc "end")),
  .ife (.or2 (.cmp .lt (.loc "low") (.int 1)) (.cmp .gt (.loc "high") (.bin .add (.met (.loc "buffer") "size" []) (.int 1)))) [.stuck] [],
  .sat2 (.loc "buffer") "begv" (.loc "buffer") "zv" (.loc "low") (.loc "high"),
  .exp (.met (.loc "buffer") "goto" [.att (.loc "buffer") "point"])]⟩
noncomputable def F634 : FD := ⟨"widen", ["buffer"], [], [], [
  .sat2 (.loc "buffer") "begv" (.loc "buffer") "zv" (.int 1) (.bin .add (.met (.loc "buffer") "size" []) (.int 1))]⟩
noncomputable def F648 : FD := ⟨"__init__", ["self", "codes", "runs"], [], [], [
  .sat (.loc "self") "codes" (.loc "codes"),
  .sat (.loc "self") "runs" (.loc "runs")]⟩
noncomputable def F669 : FD := ⟨"__init__", ["self"], [], [], [
  .sat (.loc "self") "list" (.new 260 "UndoList" [])]⟩
noncomputable def F676 : FD := ⟨"text_comes", ["self", "buffer", "start", "many"], [], [], [
  .exp (.met (.att (.loc "self") "list") "note_insert" [.loc "start", .loc "many", .att (.loc "buffer") "point", .met (.loc "buffer") "is_modified" [], .att (.loc "buffer") "saved_ticks"])]⟩
noncomputable def F681 : FD := ⟨"text_goes", ["self", "buffer", "start", "end"], [], ["start"], [
  .ife (.not (.att (.att (.loc "self") "list") "is_on")) [.ret0] [],
  .set "rows" (.ifx (.isn (.att (.loc "buffer") "props")) (.lst []) .stuck),
  .set "runs" (.comp .stuck ["low", "high", "plist"] (.loc "rows") (some .stuck)),
  .set "markers" (.lst []),
  .forin ["marker"] (.met (.att (.loc "buffer") "markers") "within" [.cel "start", .loc "end"]) [.stuck],
  .set "piece" (.new 651 "Piece" [.met (.loc "buffer") "codes" [.cel "start", .loc "end"], .loc "runs"]),
  .exp (.met (.att (.loc "self") "list") "note_delete" [.cel "start", .loc "piece", .att (.loc "buffer") "point", .loc "markers", .met (.loc "buffer") "is_modified" [], .att (.loc "buffer") "saved_ticks"])]⟩
noncomputable def F700 : FD := ⟨"_law_deck", ["script"], [], [], [
  .set "cells" (.comp (.abs (.loc "cell")) ["cell"] (.upto (.loc "script") (.int 20)) .none),
  .ret (.lst [.comp (.loc "cell") ["cell"] (.loc "cells") (some (.cmp .ge (.loc "cell") (.pow 10 18))), .bin .add (.loc "cells") (.lst [.bin .add (.int 417) (.len (.loc "cells"))]), .int 0])]⟩
noncomputable def F707 : FD := ⟨"_law_draw", ["deck", "many"], [], [], [
  .ife (.cmp .ne (.idx (.loc "deck") (.int 0)) (.lst [])) [.set "rest" (.idx (.idx (.loc "deck") (.int 0)) (.int 0)), .six (.idx (.loc "deck") (.int 0)) (.int 0) (.bin .div (.loc "rest") (.loc "many")), .ife (.cmp .eq (.idx (.idx (.loc "deck") (.int 0)) (.int 0)) (.int 0)) [.exp (.pop0 (.idx (.loc "deck") (.int 0)))] [], .ret (.bin .mod (.loc "rest") (.loc "many"))] [],
  .six (.loc "deck") (.int 2) (.bin .add (.idx (.loc "deck") (.int 2)) (.int 1)),
  .set "mixed" (.bin .mod (.bin .add (.idx (.idx (.loc "deck") (.int 1)) (.bin .mod (.idx (.loc "deck") (.int 2)) (.len (.idx (.loc "deck") (.int 1))))) (.bin .mul (.int 1640531527) (.idx (.loc "deck") (.int 2)))) (.int 4294966297)),
  .set "mixed" (.bin .mod (.bin .add (.bin .mul (.loc "mixed") (.loc "mixed")) (.bin .mul (.int 122949823) (.idx (.loc "deck") (.int 2)))) (.int 4294966237)),
  .ret (.bin .mod (.bin .div (.bin .mod (.bin .mul (.loc "mixed") (.loc "mixed")) (.int 4294966187)) (.int 1024)) (.loc "many"))]⟩
noncomputable def F714 : FD := ⟨"_law_command", ["deck", "buffer", "fresh"], [], [], [
  .set "size" (.met (.loc "buffer") "size" []),
  .set "start" (.bin .add (.int 1) (.call 707 "_law_draw" [.loc "deck", .bin .add (.loc "size") (.int 1)])),
  .set "end" (.bin .add (.loc "start") (.call 707 "_law_draw" [.loc "deck", .bin .add (.mn (.int 3) (.bin .sub (.bin .add (.loc "size") (.int 1)) (.loc "start"))) (.int 1)])),
  .exp (.met (.att (.att (.loc "buffer") "undo") "list") "boundary" []),
  .ife (.cmp .eq (.loc "start") (.loc "end")) [.set "codes" (.upto (.lst [.loc "fresh", .bin .add (.loc "fresh") (.int 1), .bin .add (.loc "fresh") (.int 2)]) (.bin .add (.int 1) (.call 707 "_law_draw" [.loc "deck", .int 3]))), .exp (.met (.loc "buffer") "goto" [.loc "start"]), .exp (.call 112 "insert" [.loc "buffer", .loc "codes"]), .ret (.tup [.str "insert", .loc "start", .loc "codes"])] [],
  .ret (.tup [.str "delete", .loc "start", .call 119 "delete" [.loc "buffer", .loc "start", .loc "end"]])]⟩
noncomputable def F721 : FD := ⟨"_law_state", ["buffer"], [], [], [
  .ret (.tup [.met (.loc "buffer") "codes" [.int 1, .bin .add (.met (.loc "buffer") "size" []) (.int 1)], .att (.loc "buffer") "point", .att (.loc "buffer") "begv", .att (.loc "buffer") "zv"])]⟩
noncomputable def F728 : FD := ⟨"_law_undone", ["text", "change"], [], [], [
  .unp ["word", "start", "codes"] (.loc "change"),
  .ife (.cmp .eq (.loc "word") (.str "insert")) [.ret (.bin .add (.upto (.loc "text") (.bin .sub (.loc "start") (.int 1))) (.fro (.loc "text") (.bin .add (.bin .sub (.loc "start") (.int 1)) (.len (.loc "codes")))))] [],
  .ret (.bin .add (.bin .add (.upto (.loc "text") (.bin .sub (.loc "start") (.int 1))) (.loc "codes")) (.fro (.loc "text") (.bin .sub (.loc "start") (.int 1))))]⟩
noncomputable def F733 : FD := ⟨"law", ["script"], [], ["deck", "buffer"], [
  .sce "deck" "buffer" (.call 700 "_law_deck" [.loc "script"]) (.new 618 "Buffer" [.int 1, .str "a"]),
  .set "text" (.list (.range (.bin .add (.int 2) (.call 707 "_law_draw" [.cel "deck", .int 6])))),
  .exp (.call 112 "insert" [.cel "buffer", .loc "text"]),
  .sat (.cel "buffer") "undo" (.new 691 "Recording" []),
  .set "changes" (.comp (.call 714 "_law_command" [.cel "deck", .cel "buffer", .bin .add (.bin .mul (.int 10) (.loc "turn")) (.int 10)]) ["turn"] (.range (.bin .add (.int 2) (.call 707 "_law_draw" [.cel "deck", .int 5]))) .none),
  .set "low" (.bin .add (.int 1) (.call 707 "_law_draw" [.cel "deck", .bin .add (.met (.cel "buffer") "size" []) (.int 1)])),
  .set "high" (.bin .add (.loc "low") (.call 707 "_law_draw" [.cel "deck", .bin .sub (.bin .add (.met (.cel "buffer") "size" []) (.int 2)) (.loc "low")])),
  .exp (.call 627 "narrow" [.cel "buffer", .loc "low", .loc "high"]),
  .set "kept" (.list (.att (.att (.att (.cel "buffer") "undo") "list") "rows")),
  .set "at" (.len (.loc "kept")),
  .forin ["change"] (.rev (.loc "changes")) [.unp ["word", "start", "codes"] (.loc "change"), .exp (.met (.cel "buffer") "goto" [.bin .add (.loc "low") (.call 707 "_law_draw" [.cel "deck", .int 4])]), .par "before" "many" (.call 721 "_law_state" [.cel "buffer"]) (.len (.loc "codes")), .set "last" (.ifx (.cmp .eq (.loc "word") (.str "insert")) (.bin .add (.loc "start") (.loc "many")) (.loc "start")), .set "can_go" (.and2 (.cmp .le (.loc "low") (.loc "start")) (.cmp .le (.loc "last") (.loc "high"))), .tryx "place" (.call 320 "undo_group" [.cel "buffer", .loc "kept", .loc "at"]) [.set "is_done" (.boo true)] "error" "is_done" "place" "at", .ife (.cmp .ne (.loc "is_done") (.loc "can_go")) [.ret (.boo false)] [], .set "text" (.call 728 "_law_undone" [.idx (.loc "before") (.int 0), .loc "change"]), .ife (.not (.loc "is_done")) [.ife (.cmp .ne (.call 721 "_law_state" [.cel "buffer"]) (.loc "before")) [.ret (.boo false)] [], .exp (.call 634 "widen" [.cel "buffer"]), .set "place" (.call 320 "undo_group" [.cel "buffer", .loc "kept", .loc "at"]), .par "low" "high" (.int 1) (.bin .add (.len (.loc "text")) (.int 1))] [.set "high" (.bin .add (.loc "high") (.ifx (.cmp .eq (.loc "word") (.str "delete")) (.loc "many") (.bin .sub (.int 0) (.loc "many"))))], .ife (.or3 (.cmp .ne (.idx (.call 721 "_law_state" [.cel "buffer"]) (.int 0)) (.loc "text")) (.cmp .ne (.lst [.att (.cel "buffer") "begv", .att (.cel "buffer") "zv"]) (.lst [.loc "low", .loc "high"])) (.not (.cmp2 .le .le (.loc "low") (.att (.cel "buffer") "point") (.loc "high")))) [.ret (.boo false)] [], .set "at" (.loc "place"), .exp (.met (.att (.att (.cel "buffer") "undo") "list") "boundary" [])],
  .ret (.and2 (.cmp .eq (.loc "at") (.int 0)) (.cmp .eq (.loc "text") (.list (.range (.len (.loc "text"))))))]⟩
noncomputable def fnsT : List (Nat × FD) := [(48, F48), (55, F55), (62, F62), (69, F69), (76, F76), (83, F83), (90, F90), (97, F97), (104, F104), (112, F112), (119, F119), (162, F162), (189, F189), (203, F203), (210, F210), (224, F224), (231, F231), (238, F238), (271, F271), (278, F278), (285, F285), (292, F292), (299, F299), (306, F306), (313, F313), (320, F320), (334, F334), (341, F341), (355, F355), (362, F362), (369, F369), (376, F376), (383, F383), (425, F425), (432, F432), (453, F453), (460, F460), (467, F467), (531, F531), (566, F566), (580, F580), (587, F587), (601, F601), (615, F615), (627, F627), (634, F634), (648, F648), (669, F669), (676, F676), (681, F681), (700, F700), (707, F707), (714, F714), (721, F721), (728, F728)]
noncomputable def fns (f : Nat) : Option FD := fnsT.lookup f
noncomputable def metT : List (Nat × String × Nat) := [(407, "size", 341), (407, "codes", 355), (407, "move_gap", 362), (407, "widen_gap", 369), (407, "insert", 376), (407, "delete", 383), (618, "size", 566), (618, "codes", 580), (618, "goto", 587), (618, "is_modified", 601), (618, "touch", 615), (477, "numbers", 432), (477, "within", 453), (477, "inserted", 460), (477, "deleted", 467), (260, "is_at_boundary", 203), (260, "boundary", 210), (260, "note_state", 224), (260, "note_insert", 231), (260, "note_delete", 238), (691, "text_comes", 676), (691, "text_goes", 681)]
noncomputable def mets (C : Nat) (x : String) : Option Nat := (metT.find? fun p => p.1 == C && p.2.1 == x).map (·.2.2)
noncomputable def inits : Nat → Option Nat
  | 407 => some 334
  | 618 => some 531
  | 477 => some 425
  | 260 => some 189
  | 691 => some 669
  | 651 => some 648
  | _ => .none
end Mine.I

namespace Mine
open PySem PySem.W PySem.Calls PyProof.Rows
noncomputable abbrev p0 : Program := PySem.Challenge.pw_on0070_01
noncomputable def stAt (i : Nat) : Stmt := (p0.main.body[i]?).getD (.Pass default)
noncomputable def meAt (i j : Nat) : Stmt := match stAt i with
  | .ClassDef _ _ _ b _ _ _ _ _ _ _ => (b[j]?).getD (.Pass default)
  | s => s
noncomputable def fO (st : Stmt) (q : Str) (dV pm : Value) (cd : Addr) : Obj := match st with
  | .FunctionDef name args body _ _ _ scope _ _ _ => { cls := .type "function", dict := none, data := .func (fnOf name q args body scope dV .none .none pm none (.ref cd) .none), slots := #[] }
  | _ => default
noncomputable def cO (vs : List Value) : Obj := { cls := .type "code", dict := none, data := .fields vs.toArray, slots := #[] }
noncomputable def tO (vs : List Value) : Obj := { cls := .type "tuple", dict := none, data := .seq vs.toArray 0, slots := #[] }
noncomputable def dO (n : Nat) (es : List DictEntry) : Obj := { cls := .type "dict", dict := none, data := .dict es.toArray n, slots := #[] }
noncomputable def dE (P : Params) (k : Str) (t : Tok) (v : Value) : DictEntry := ⟨PyData.keyHash P k, .str k t, v⟩
noncomputable def d2 (P : Params) : Obj := ⟨.none, none, .dict [dE P "type.__subclasses__.Exception.0" 223 (.int 38 0), dE P "type.__subclasses__.Exception.n" 224 (.int 1 0)].toArray 2, #[]⟩
noncomputable def d3 (P : Params) : Obj := dO 55 [dE P "__name__" 165 (.str "law_on0070_01" 1132), dE P "__doc__" 166 .none, dE P "__package__" 167 .none, dE P "__loader__" 168 (.builtin "__main__.__loader__#opaque"), dE P "__spec__" 169 .none, dE P "__annotations__" 170 (.ref 6), dE P "__builtins__" 171 (.ref 4), dE P "__file__" 173 (.str "/claim/cut.py" 172), dE P "__cached__" 174 .none, dE P "_wall" 193 (.ref 21), dE P "LispSignal" 226 (.ref 38), dE P "need_writable" 235 (.ref 48), dE P "reached" 246 (.ref 55), dE P "tell_ahead" 256 (.ref 62), dE P "tell_behind" 267 (.ref 69), dE P "text_out" 277 (.ref 76), dE P "text_in" 286 (.ref 83), dE P "hung_out" 295 (.ref 90), dE P "hung_in" 305 (.ref 97), dE P "put_in" 316 (.ref 104), dE P "insert" 325 (.ref 112), dE P "delete" 337 (.ref 119), dE P "eq" 347 (.ref 126), dE P "plist_find" 356 (.ref 133), dE P "plist_get" 365 (.ref 140), dE P "plist_with" 375 (.ref 147), dE P "plist_without" 381 (.ref 152), dE P "plist_rows" 389 (.ref 157), dE P "insert_piece" 395 (.ref 162), dE P "is_value" 405 (.ref 169), dE P "set_property" 411 (.ref 174), dE P "BOUNDARY" 415 (.ref 175), dE P "UndoList" 540 (.ref 260), dE P "marker_distance" 550 (.ref 271), dE P "need_visible" 561 (.ref 278), dE P "markers_ahead" 570 (.ref 285), dE P "undo_insert" 578 (.ref 292), dE P "undo_delete" 591 (.ref 299), dE P "undo_row" 602 (.ref 306), dE P "above_boundaries" 610 (.ref 313), dE P "undo_group" 619 (.ref 320), dE P "GapText" 739 (.ref 407), dE P "Markers" 837 (.ref 477), dE P "Opaque" 881 (.ref 512), dE P "Buffer" 1020 (.ref 618), dE P "narrow" 1033 (.ref 627), dE P "widen" 1040 (.ref 634), dE P "Piece" 1073 (.ref 651), dE P "Recording" 1131 (.ref 691), dE P "_law_deck" 1139 (.ref 700), dE P "_law_draw" 1149 (.ref 707), dE P "_law_command" 1162 (.ref 714), dE P "_law_state" 1169 (.ref 721), dE P "_law_undone" 1180 (.ref 728), dE P "law" 1186 (.ref 733)]
noncomputable def d37 (P : Params) : Obj := dO 3 [dE P "__module__" 203 (.str "emacs.errors" 194), dE P "__firstlineno__" 207 (.int 5 206), dE P "__init__" 216 (.ref 35), dE P "__static_attributes__" 219 (.ref 36), dE P "__weakref__" 221 (.ref 39), dE P "__doc__" 222 .none]
noncomputable def d259 (P : Params) : Obj := dO 4 [dE P "__module__" 423 (.str "emacs.undolist" 412), dE P "__firstlineno__" 427 (.int 132 426), dE P "__init__" 434 (.ref 189), dE P "count" 441 (.ref 196), dE P "is_at_boundary" 448 (.ref 203), dE P "boundary" 455 (.ref 210), dE P "begin_command" 463 (.ref 217), dE P "note_state" 472 (.ref 224), dE P "note_insert" 485 (.ref 231), dE P "note_delete" 501 (.ref 238), dE P "note_property" 514 (.ref 245), dE P "renew_unmodified" 520 (.ref 250), dE P "clear" 527 (.ref 257), dE P "__static_attributes__" 533 (.ref 258), dE P "__dict__" 535 (.ref 261), dE P "__weakref__" 537 (.ref 262), dE P "__doc__" 538 .none]
noncomputable def d406 (P : Params) : Obj := dO 4 [dE P "__module__" 629 (.str "emacs.gap" 620), dE P "__firstlineno__" 633 (.int 251 632), dE P "__init__" 642 (.ref 334), dE P "size" 649 (.ref 341), dE P "code" 657 (.ref 348), dE P "codes" 667 (.ref 355), dE P "move_gap" 676 (.ref 362), dE P "widen_gap" 685 (.ref 369), dE P "insert" 694 (.ref 376), dE P "delete" 704 (.ref 383), dE P "put" 713 (.ref 390), dE P "narrow_gap" 720 (.ref 397), dE P "is_whole" 727 (.ref 404), dE P "__static_attributes__" 732 (.ref 405), dE P "__dict__" 734 (.ref 408), dE P "__weakref__" 736 (.ref 409), dE P "__doc__" 737 .none]
noncomputable def d476 (P : Params) : Obj := dO 4 [dE P "__module__" 749 (.str "emacs.markers" 740), dE P "__firstlineno__" 753 (.int 315 752), dE P "__init__" 760 (.ref 425), dE P "numbers" 767 (.ref 432), dE P "put" 776 (.ref 439), dE P "drop" 784 (.ref 446), dE P "within" 795 (.ref 453), dE P "inserted" 807 (.ref 460), dE P "deleted" 818 (.ref 467), dE P "replaced" 828 (.ref 474), dE P "__static_attributes__" 830 (.ref 475), dE P "__dict__" 832 (.ref 478), dE P "__weakref__" 834 (.ref 479), dE P "__doc__" 835 .none]
noncomputable def d511 (P : Params) : Obj := dO 4 [dE P "__module__" 847 (.str "emacs.objects" 838), dE P "__firstlineno__" 851 (.int 353 850), dE P "shown" 858 (.ref 495), dE P "kind" 865 (.ref 502), dE P "same_as" 873 (.ref 509), dE P "__static_attributes__" 874 (.ref 510), dE P "__dict__" 876 (.ref 513), dE P "__weakref__" 878 (.ref 514), dE P "__doc__" 879 .none]
noncomputable def d617 (P : Params) : Obj := dO 2 [dE P "__module__" 891 (.str "emacs.buffer" 882), dE P "__firstlineno__" 895 (.int 364 894), dE P "__init__" 906 (.ref 531), dE P "shown" 913 (.ref 538), dE P "kind" 920 (.ref 545), dE P "begin" 927 (.ref 552), dE P "end" 934 (.ref 559), dE P "size" 941 (.ref 566), dE P "code_at" 949 (.ref 573), dE P "codes" 958 (.ref 580), dE P "goto" 966 (.ref 587), dE P "tick" 973 (.ref 594), dE P "is_modified" 980 (.ref 601), dE P "set_modified" 988 (.ref 608), dE P "touch" 996 (.ref 615), dE P "__static_attributes__" 1017 (.ref 616), dE P "__doc__" 1018 .none]
noncomputable def d650 (P : Params) : Obj := dO 4 [dE P "__module__" 1050 (.str "emacs.pieces" 1041), dE P "__firstlineno__" 1054 (.int 439 1053), dE P "__init__" 1063 (.ref 648), dE P "__static_attributes__" 1066 (.ref 649), dE P "__dict__" 1068 (.ref 652), dE P "__weakref__" 1070 (.ref 653), dE P "__doc__" 1071 .none]
noncomputable def d690 (P : Params) : Obj := dO 4 [dE P "__module__" 1083 (.str "emacs.recording" 1074), dE P "__firstlineno__" 1087 (.int 445 1086), dE P "__init__" 1094 (.ref 669), dE P "text_comes" 1104 (.ref 676), dE P "text_goes" 1110 (.ref 681), dE P "property_changes" 1122 (.ref 688), dE P "__static_attributes__" 1124 (.ref 689), dE P "__dict__" 1126 (.ref 692), dE P "__weakref__" 1128 (.ref 693), dE P "__doc__" 1129 .none]
noncomputable def as : List Addr := [2, 3, 20, 21, 34, 35, 36, 37, 38, 39, 47, 48, 54, 55, 61, 62, 68, 69, 75, 76, 82, 83, 89, 90, 96, 97, 103, 104, 105, 111, 112, 118, 119, 125, 126, 132, 133, 139, 140, 146, 147, 151, 152, 156, 157, 161, 162, 168, 169, 173, 174, 175, 188, 189, 195, 196, 202, 203, 209, 210, 216, 217, 223, 224, 230, 231, 237, 238, 244, 245, 249, 250, 256, 257, 258, 259, 260, 261, 262, 270, 271, 277, 278, 284, 285, 291, 292, 298, 299, 305, 306, 312, 313, 319, 320, 333, 334, 340, 341, 347, 348, 354, 355, 361, 362, 368, 369, 375, 376, 382, 383, 389, 390, 396, 397, 403, 404, 405, 406, 407, 408, 409, 424, 425, 431, 432, 438, 439, 445, 446, 452, 453, 459, 460, 466, 467, 473, 474, 475, 476, 477, 478, 479, 494, 495, 501, 502, 508, 509, 510, 511, 512, 513, 514, 524, 530, 531, 537, 538, 544, 545, 551, 552, 558, 559, 565, 566, 572, 573, 579, 580, 586, 587, 593, 594, 600, 601, 607, 608, 614, 615, 616, 617, 618, 626, 627, 633, 634, 647, 648, 649, 650, 651, 652, 653, 668, 669, 675, 676, 680, 681, 687, 688, 689, 690, 691, 692, 693, 699, 700, 706, 707, 713, 714, 720, 721, 727, 728, 732, 733]
noncomputable def K (P : Params) : Frag :=
  (nat_lit 2, d2 P) ::
  (nat_lit 3, d3 P) ::
  (nat_lit 20, cO [.str "_wall" 187, .str "_wall" 188, .str "/claim/cut.py" 189, .int 1 0, .int 1 0, .int 0 0, .int 0 0, .int 3 0, .ref 15, .bool true, .int 181 0, .ref 16, .none, .ref 17, .ref 18, .ref 19, .int 191 0, .int 1 0, .str "/claim/cut.py" 192]) ::
  (nat_lit 21, fO (stAt 0) "_wall" .none (.str "__main__" 164) 20) ::
  (nat_lit 34, cO [.str "__init__" 208, .str "LispSignal.__init__" 209, .str "/claim/cut.py" 210, .int 7 0, .int 3 0, .int 0 0, .int 0 0, .int 3 0, .ref 29, .bool true, .int 181 0, .ref 30, .none, .ref 31, .ref 32, .ref 33, .int 214 0, .int 7 0, .str "/claim/cut.py" 215]) ::
  (nat_lit 35, fO (meAt 2 0) "LispSignal.__init__" .none (.str "emacs.errors" 194) 34) ::
  (nat_lit 36, tO [.str "data" 217, .str "symbol" 218]) ::
  (nat_lit 37, d37 P) ::
  (nat_lit 38, ⟨.type "type", none, .cls ⟨"LispSignal", [.type "Exception"], [.ref 38, .type "Exception", .type "BaseException", .type "object"], 37, "LispSignal", true, [], [], false, none, false⟩, #[some (.ref 22), none, some (.str "LispSignal" 196), some (.str "LispSignal" 204), some (.builtin "Exception.__new__"), some (.bool true)]⟩) ::
  (nat_lit 39, ⟨.type "getset_descriptor", none, .fields #[.str "__weakref__" 220, .ref 38, .builtin "ExceptionGroup.__weakref__", .none], #[]⟩) ::
  (nat_lit 47, cO [.str "need_writable" 229, .str "need_writable" 230, .str "/claim/cut.py" 231, .int 11 0, .int 1 0, .int 0 0, .int 0 0, .int 3 0, .ref 42, .bool true, .int 181 0, .ref 43, .none, .ref 44, .ref 45, .ref 46, .int 233 0, .int 11 0, .str "/claim/cut.py" 234]) ::
  (nat_lit 48, fO (stAt 4) "need_writable" .none (.str "emacs.editing" 227) 47) ::
  (nat_lit 54, cO [.str "reached" 236, .str "reached" 237, .str "/claim/cut.py" 238, .int 14 0, .int 3 0, .int 0 0, .int 0 0, .int 3 0, .ref 49, .bool true, .int 181 0, .ref 50, .none, .ref 51, .ref 52, .ref 53, .int 244 0, .int 14 0, .str "/claim/cut.py" 245]) ::
  (nat_lit 55, fO (stAt 5) "reached" .none (.str "emacs.editing" 227) 54) ::
  (nat_lit 61, cO [.str "tell_ahead" 247, .str "tell_ahead" 248, .str "/claim/cut.py" 249, .int 19 0, .int 3 0, .int 0 0, .int 0 0, .int 3 0, .ref 56, .bool true, .int 181 0, .ref 57, .none, .ref 58, .ref 59, .ref 60, .int 254 0, .int 19 0, .str "/claim/cut.py" 255]) ::
  (nat_lit 62, fO (stAt 6) "tell_ahead" .none (.str "emacs.editing" 227) 61) ::
  (nat_lit 68, cO [.str "tell_behind" 257, .str "tell_behind" 258, .str "/claim/cut.py" 259, .int 22 0, .int 4 0, .int 0 0, .int 0 0, .int 3 0, .ref 63, .bool true, .int 181 0, .ref 64, .none, .ref 65, .ref 66, .ref 67, .int 265 0, .int 22 0, .str "/claim/cut.py" 266]) ::
  (nat_lit 69, fO (stAt 7) "tell_behind" .none (.str "emacs.editing" 227) 68) ::
  (nat_lit 75, cO [.str "text_out" 268, .str "text_out" 269, .str "/claim/cut.py" 270, .int 26 0, .int 3 0, .int 0 0, .int 0 0, .int 3 0, .ref 70, .bool true, .int 181 0, .ref 71, .none, .ref 72, .ref 73, .ref 74, .int 275 0, .int 26 0, .str "/claim/cut.py" 276]) ::
  (nat_lit 76, fO (stAt 8) "text_out" .none (.str "emacs.editing" 227) 75) ::
  (nat_lit 82, cO [.str "text_in" 278, .str "text_in" 279, .str "/claim/cut.py" 280, .int 34 0, .int 3 0, .int 0 0, .int 0 0, .int 3 0, .ref 77, .bool true, .int 181 0, .ref 78, .none, .ref 79, .ref 80, .ref 81, .int 284 0, .int 34 0, .str "/claim/cut.py" 285]) ::
  (nat_lit 83, fO (stAt 9) "text_in" .none (.str "emacs.editing" 227) 82) ::
  (nat_lit 89, cO [.str "hung_out" 287, .str "hung_out" 288, .str "/claim/cut.py" 289, .int 41 0, .int 3 0, .int 0 0, .int 0 0, .int 3 0, .ref 84, .bool true, .int 181 0, .ref 85, .none, .ref 86, .ref 87, .ref 88, .int 293 0, .int 41 0, .str "/claim/cut.py" 294]) ::
  (nat_lit 90, fO (stAt 10) "hung_out" .none (.str "emacs.editing" 227) 89) ::
  (nat_lit 96, cO [.str "hung_in" 296, .str "hung_in" 297, .str "/claim/cut.py" 298, .int 46 0, .int 4 0, .int 0 0, .int 0 0, .int 3 0, .ref 91, .bool true, .int 181 0, .ref 92, .none, .ref 93, .ref 94, .ref 95, .int 303 0, .int 46 0, .str "/claim/cut.py" 304]) ::
  (nat_lit 97, fO (stAt 11) "hung_in" .none (.str "emacs.editing" 227) 96) ::
  (nat_lit 103, cO [.str "put_in" 306, .str "put_in" 307, .str "/claim/cut.py" 308, .int 51 0, .int 5 0, .int 0 0, .int 0 0, .int 3 0, .ref 98, .bool true, .int 181 0, .ref 99, .none, .ref 100, .ref 101, .ref 102, .int 314 0, .int 51 0, .str "/claim/cut.py" 315]) ::
  (nat_lit 104, fO (stAt 12) "put_in" .none (.str "emacs.editing" 227) 103) ::
  (nat_lit 105, tO [.bool false]) ::
  (nat_lit 111, cO [.str "insert" 317, .str "insert" 318, .str "/claim/cut.py" 319, .int 63 0, .int 3 0, .int 0 0, .int 0 0, .int 3 0, .ref 106, .bool true, .int 181 0, .ref 107, .none, .ref 108, .ref 109, .ref 110, .int 323 0, .int 63 0, .str "/claim/cut.py" 324]) ::
  (nat_lit 112, fO (stAt 13) "insert" (.ref 105) (.str "emacs.editing" 227) 111) ::
  (nat_lit 118, cO [.str "delete" 326, .str "delete" 327, .str "/claim/cut.py" 328, .int 65 0, .int 3 0, .int 0 0, .int 0 0, .int 3 0, .ref 113, .bool true, .int 181 0, .ref 114, .none, .ref 115, .ref 116, .ref 117, .int 335 0, .int 65 0, .str "/claim/cut.py" 336]) ::
  (nat_lit 119, fO (stAt 14) "delete" .none (.str "emacs.editing" 227) 118) ::
  (nat_lit 125, cO [.str "eq" 340, .str "eq" 341, .str "/claim/cut.py" 342, .int 77 0, .int 2 0, .int 0 0, .int 0 0, .int 3 0, .ref 120, .bool true, .int 181 0, .ref 121, .none, .ref 122, .ref 123, .ref 124, .int 345 0, .int 77 0, .str "/claim/cut.py" 346]) ::
  (nat_lit 126, fO (stAt 16) "eq" .none (.str "emacs.plists" 338) 125) ::
  (nat_lit 132, cO [.str "plist_find" 348, .str "plist_find" 349, .str "/claim/cut.py" 350, .int 81 0, .int 2 0, .int 0 0, .int 0 0, .int 3 0, .ref 127, .bool true, .int 181 0, .ref 128, .none, .ref 129, .ref 130, .ref 131, .int 354 0, .int 81 0, .str "/claim/cut.py" 355]) ::
  (nat_lit 133, fO (stAt 17) "plist_find" .none (.str "emacs.plists" 338) 132) ::
  (nat_lit 139, cO [.str "plist_get" 357, .str "plist_get" 358, .str "/claim/cut.py" 359, .int 86 0, .int 2 0, .int 0 0, .int 0 0, .int 3 0, .ref 134, .bool true, .int 181 0, .ref 135, .none, .ref 136, .ref 137, .ref 138, .int 363 0, .int 86 0, .str "/claim/cut.py" 364]) ::
  (nat_lit 140, fO (stAt 18) "plist_get" .none (.str "emacs.plists" 338) 139) ::
  (nat_lit 146, cO [.str "plist_with" 366, .str "plist_with" 367, .str "/claim/cut.py" 368, .int 89 0, .int 3 0, .int 0 0, .int 0 0, .int 3 0, .ref 141, .bool true, .int 181 0, .ref 142, .none, .ref 143, .ref 144, .ref 145, .int 373 0, .int 89 0, .str "/claim/cut.py" 374]) ::
  (nat_lit 147, fO (stAt 19) "plist_with" .none (.str "emacs.plists" 338) 146) ::
  (nat_lit 151, cO [.str "plist_without" 376, .str "plist_without" 377, .str "/claim/cut.py" 378, .int 94 0, .int 2 0, .int 0 0, .int 0 0, .int 3 0, .ref 148, .bool true, .int 181 0, .ref 149, .none, .none, .none, .ref 150, .int 379 0, .int 94 0, .str "/claim/cut.py" 380]) ::
  (nat_lit 152, fO (stAt 20) "plist_without" .none (.str "emacs.plists" 338) 151) ::
  (nat_lit 156, cO [.str "plist_rows" 384, .str "plist_rows" 385, .str "/claim/cut.py" 386, .int 97 0, .int 3 0, .int 0 0, .int 0 0, .int 3 0, .ref 153, .bool true, .int 181 0, .ref 154, .none, .none, .none, .ref 155, .int 387 0, .int 97 0, .str "/claim/cut.py" 388]) ::
  (nat_lit 157, fO (stAt 22) "plist_rows" .none (.str "emacs.piecing" 382) 156) ::
  (nat_lit 161, cO [.str "insert_piece" 390, .str "insert_piece" 391, .str "/claim/cut.py" 392, .int 101 0, .int 2 0, .int 0 0, .int 0 0, .int 3 0, .ref 158, .bool true, .int 181 0, .ref 159, .none, .none, .none, .ref 160, .int 393 0, .int 101 0, .str "/claim/cut.py" 394]) ::
  (nat_lit 162, fO (stAt 23) "insert_piece" .none (.str "emacs.piecing" 382) 161) ::
  (nat_lit 168, cO [.str "is_value" 396, .str "is_value" 397, .str "/claim/cut.py" 398, .int 108 0, .int 3 0, .int 0 0, .int 0 0, .int 3 0, .ref 163, .bool true, .int 181 0, .ref 164, .none, .ref 165, .ref 166, .ref 167, .int 403 0, .int 108 0, .str "/claim/cut.py" 404]) ::
  (nat_lit 169, fO (stAt 24) "is_value" .none (.str "emacs.piecing" 382) 168) ::
  (nat_lit 173, cO [.str "set_property" 406, .str "set_property" 407, .str "/claim/cut.py" 408, .int 113 0, .int 5 0, .int 0 0, .int 0 0, .int 3 0, .ref 170, .bool true, .int 181 0, .ref 171, .none, .none, .none, .ref 172, .int 409 0, .int 113 0, .str "/claim/cut.py" 410]) ::
  (nat_lit 174, fO (stAt 25) "set_property" .none (.str "emacs.piecing" 382) 173) ::
  (nat_lit 175, tO [.str "boundary" 414]) ::
  (nat_lit 188, cO [.str "__init__" 428, .str "UndoList.__init__" 429, .str "/claim/cut.py" 430, .int 134 0, .int 1 0, .int 0 0, .int 0 0, .int 3 0, .ref 183, .bool true, .int 181 0, .ref 184, .none, .ref 185, .ref 186, .ref 187, .int 432 0, .int 134 0, .str "/claim/cut.py" 433]) ::
  (nat_lit 189, fO (meAt 28 0) "UndoList.__init__" .none (.str "emacs.undolist" 412) 188) ::
  (nat_lit 195, cO [.str "count" 435, .str "UndoList.count" 436, .str "/claim/cut.py" 437, .int 141 0, .int 1 0, .int 0 0, .int 0 0, .int 3 0, .ref 190, .bool true, .int 181 0, .ref 191, .none, .ref 192, .ref 193, .ref 194, .int 439 0, .int 141 0, .str "/claim/cut.py" 440]) ::
  (nat_lit 196, fO (meAt 28 1) "UndoList.count" .none (.str "emacs.undolist" 412) 195) ::
  (nat_lit 202, cO [.str "is_at_boundary" 442, .str "UndoList.is_at_boundary" 443, .str "/claim/cut.py" 444, .int 144 0, .int 1 0, .int 0 0, .int 0 0, .int 3 0, .ref 197, .bool true, .int 181 0, .ref 198, .none, .ref 199, .ref 200, .ref 201, .int 446 0, .int 144 0, .str "/claim/cut.py" 447]) ::
  (nat_lit 203, fO (meAt 28 2) "UndoList.is_at_boundary" .none (.str "emacs.undolist" 412) 202) ::
  (nat_lit 209, cO [.str "boundary" 449, .str "UndoList.boundary" 450, .str "/claim/cut.py" 451, .int 147 0, .int 1 0, .int 0 0, .int 0 0, .int 3 0, .ref 204, .bool true, .int 181 0, .ref 205, .none, .ref 206, .ref 207, .ref 208, .int 453 0, .int 147 0, .str "/claim/cut.py" 454]) ::
  (nat_lit 210, fO (meAt 28 3) "UndoList.boundary" .none (.str "emacs.undolist" 412) 209) ::
  (nat_lit 216, cO [.str "begin_command" 456, .str "UndoList.begin_command" 457, .str "/claim/cut.py" 458, .int 151 0, .int 2 0, .int 0 0, .int 0 0, .int 3 0, .ref 211, .bool true, .int 181 0, .ref 212, .none, .ref 213, .ref 214, .ref 215, .int 461 0, .int 151 0, .str "/claim/cut.py" 462]) ::
  (nat_lit 217, fO (meAt 28 4) "UndoList.begin_command" .none (.str "emacs.undolist" 412) 216) ::
  (nat_lit 223, cO [.str "note_state" 464, .str "UndoList.note_state" 465, .str "/claim/cut.py" 466, .int 154 0, .int 3 0, .int 0 0, .int 0 0, .int 3 0, .ref 218, .bool true, .int 181 0, .ref 219, .none, .ref 220, .ref 221, .ref 222, .int 470 0, .int 154 0, .str "/claim/cut.py" 471]) ::
  (nat_lit 224, fO (meAt 28 5) "UndoList.note_state" .none (.str "emacs.undolist" 412) 223) ::
  (nat_lit 230, cO [.str "note_insert" 473, .str "UndoList.note_insert" 474, .str "/claim/cut.py" 475, .int 159 0, .int 6 0, .int 0 0, .int 0 0, .int 3 0, .ref 225, .bool true, .int 181 0, .ref 226, .none, .ref 227, .ref 228, .ref 229, .int 483 0, .int 159 0, .str "/claim/cut.py" 484]) ::
  (nat_lit 231, fO (meAt 28 6) "UndoList.note_insert" .none (.str "emacs.undolist" 412) 230) ::
  (nat_lit 237, cO [.str "note_delete" 486, .str "UndoList.note_delete" 487, .str "/claim/cut.py" 488, .int 169 0, .int 7 0, .int 0 0, .int 0 0, .int 3 0, .ref 232, .bool true, .int 181 0, .ref 233, .none, .ref 234, .ref 235, .ref 236, .int 499 0, .int 169 0, .str "/claim/cut.py" 500]) ::
  (nat_lit 238, fO (meAt 28 7) "UndoList.note_delete" .none (.str "emacs.undolist" 412) 237) ::
  (nat_lit 244, cO [.str "note_property" 502, .str "UndoList.note_property" 503, .str "/claim/cut.py" 504, .int 181 0, .int 7 0, .int 0 0, .int 0 0, .int 3 0, .ref 239, .bool true, .int 181 0, .ref 240, .none, .ref 241, .ref 242, .ref 243, .int 512 0, .int 181 0, .str "/claim/cut.py" 513]) ::
  (nat_lit 245, fO (meAt 28 8) "UndoList.note_property" .none (.str "emacs.undolist" 412) 244) ::
  (nat_lit 249, cO [.str "renew_unmodified" 515, .str "UndoList.renew_unmodified" 516, .str "/claim/cut.py" 517, .int 186 0, .int 3 0, .int 0 0, .int 0 0, .int 3 0, .ref 246, .bool true, .int 181 0, .ref 247, .none, .none, .none, .ref 248, .int 518 0, .int 186 0, .str "/claim/cut.py" 519]) ::
  (nat_lit 250, fO (meAt 28 9) "UndoList.renew_unmodified" .none (.str "emacs.undolist" 412) 249) ::
  (nat_lit 256, cO [.str "clear" 521, .str "UndoList.clear" 522, .str "/claim/cut.py" 523, .int 190 0, .int 1 0, .int 0 0, .int 0 0, .int 3 0, .ref 251, .bool true, .int 181 0, .ref 252, .none, .ref 253, .ref 254, .ref 255, .int 525 0, .int 190 0, .str "/claim/cut.py" 526]) ::
  (nat_lit 257, fO (meAt 28 10) "UndoList.clear" .none (.str "emacs.undolist" 412) 256) ::
  (nat_lit 258, tO [.str "dropped" 528, .str "is_on" 529, .str "noted_tick" 530, .str "point_before" 531, .str "rows" 532]) ::
  (nat_lit 259, d259 P) ::
  (nat_lit 260, ⟨.type "type", none, .cls ⟨"UndoList", [.type "object"], [.ref 260, .type "object"], 259, "UndoList", true, [], [], false, none, false⟩, #[none, none, some (.str "UndoList" 416), some (.str "UndoList" 424), some (.builtin "object.__new__"), some (.bool true)]⟩) ::
  (nat_lit 261, ⟨.type "getset_descriptor", none, .fields #[.str "__dict__" 534, .ref 260, .builtin "function.__dict__", .builtin "function.__dict__#set"], #[]⟩) ::
  (nat_lit 262, ⟨.type "getset_descriptor", none, .fields #[.str "__weakref__" 536, .ref 260, .builtin "ExceptionGroup.__weakref__", .none], #[]⟩) ::
  (nat_lit 270, cO [.str "marker_distance" 541, .str "marker_distance" 542, .str "/claim/cut.py" 543, .int 192 0, .int 4 0, .int 0 0, .int 0 0, .int 3 0, .ref 265, .bool true, .int 181 0, .ref 266, .none, .ref 267, .ref 268, .ref 269, .int 548 0, .int 192 0, .str "/claim/cut.py" 549]) ::
  (nat_lit 271, fO (stAt 29) "marker_distance" .none (.str "emacs.undolist" 412) 270) ::
  (nat_lit 277, cO [.str "need_visible" 553, .str "need_visible" 554, .str "/claim/cut.py" 555, .int 197 0, .int 3 0, .int 0 0, .int 0 0, .int 3 0, .ref 272, .bool true, .int 181 0, .ref 273, .none, .ref 274, .ref 275, .ref 276, .int 559 0, .int 197 0, .str "/claim/cut.py" 560]) ::
  (nat_lit 278, fO (stAt 31) "need_visible" .none (.str "emacs.primundo" 551) 277) ::
  (nat_lit 284, cO [.str "markers_ahead" 562, .str "markers_ahead" 563, .str "/claim/cut.py" 564, .int 200 0, .int 2 0, .int 0 0, .int 0 0, .int 3 0, .ref 279, .bool true, .int 181 0, .ref 280, .none, .ref 281, .ref 282, .ref 283, .int 568 0, .int 200 0, .str "/claim/cut.py" 569]) ::
  (nat_lit 285, fO (stAt 32) "markers_ahead" .none (.str "emacs.primundo" 551) 284) ::
  (nat_lit 291, cO [.str "undo_insert" 571, .str "undo_insert" 572, .str "/claim/cut.py" 573, .int 206 0, .int 2 0, .int 0 0, .int 0 0, .int 3 0, .ref 286, .bool true, .int 181 0, .ref 287, .none, .ref 288, .ref 289, .ref 290, .int 576 0, .int 206 0, .str "/claim/cut.py" 577]) ::
  (nat_lit 292, fO (stAt 33) "undo_insert" .none (.str "emacs.primundo" 551) 291) ::
  (nat_lit 298, cO [.str "undo_delete" 579, .str "undo_delete" 580, .str "/claim/cut.py" 581, .int 210 0, .int 3 0, .int 0 0, .int 0 0, .int 3 0, .ref 293, .bool true, .int 181 0, .ref 294, .none, .ref 295, .ref 296, .ref 297, .int 589 0, .int 210 0, .str "/claim/cut.py" 590]) ::
  (nat_lit 299, fO (stAt 34) "undo_delete" .none (.str "emacs.primundo" 551) 298) ::
  (nat_lit 305, cO [.str "undo_row" 592, .str "undo_row" 593, .str "/claim/cut.py" 594, .int 222 0, .int 3 0, .int 0 0, .int 0 0, .int 3 0, .ref 300, .bool true, .int 181 0, .ref 301, .none, .ref 302, .ref 303, .ref 304, .int 600 0, .int 222 0, .str "/claim/cut.py" 601]) ::
  (nat_lit 306, fO (stAt 35) "undo_row" .none (.str "emacs.primundo" 551) 305) ::
  (nat_lit 312, cO [.str "above_boundaries" 603, .str "above_boundaries" 604, .str "/claim/cut.py" 605, .int 241 0, .int 2 0, .int 0 0, .int 0 0, .int 3 0, .ref 307, .bool true, .int 181 0, .ref 308, .none, .ref 309, .ref 310, .ref 311, .int 608 0, .int 241 0, .str "/claim/cut.py" 609]) ::
  (nat_lit 313, fO (stAt 36) "above_boundaries" .none (.str "emacs.primundo" 551) 312) ::
  (nat_lit 319, cO [.str "undo_group" 611, .str "undo_group" 612, .str "/claim/cut.py" 613, .int 245 0, .int 3 0, .int 0 0, .int 0 0, .int 3 0, .ref 314, .bool true, .int 181 0, .ref 315, .none, .ref 316, .ref 317, .ref 318, .int 617 0, .int 245 0, .str "/claim/cut.py" 618]) ::
  (nat_lit 320, fO (stAt 37) "undo_group" .none (.str "emacs.primundo" 551) 319) ::
  (nat_lit 333, cO [.str "__init__" 634, .str "GapText.__init__" 635, .str "/claim/cut.py" 636, .int 253 0, .int 3 0, .int 0 0, .int 0 0, .int 3 0, .ref 328, .bool true, .int 181 0, .ref 329, .none, .ref 330, .ref 331, .ref 332, .int 640 0, .int 253 0, .str "/claim/cut.py" 641]) ::
  (nat_lit 334, fO (meAt 39 0) "GapText.__init__" .none (.str "emacs.gap" 620) 333) ::
  (nat_lit 340, cO [.str "size" 643, .str "GapText.size" 644, .str "/claim/cut.py" 645, .int 259 0, .int 1 0, .int 0 0, .int 0 0, .int 3 0, .ref 335, .bool true, .int 181 0, .ref 336, .none, .ref 337, .ref 338, .ref 339, .int 647 0, .int 259 0, .str "/claim/cut.py" 648]) ::
  (nat_lit 341, fO (meAt 39 1) "GapText.size" .none (.str "emacs.gap" 620) 340) ::
  (nat_lit 347, cO [.str "code" 650, .str "GapText.code" 651, .str "/claim/cut.py" 652, .int 262 0, .int 2 0, .int 0 0, .int 0 0, .int 3 0, .ref 342, .bool true, .int 181 0, .ref 343, .none, .ref 344, .ref 345, .ref 346, .int 655 0, .int 262 0, .str "/claim/cut.py" 656]) ::
  (nat_lit 348, fO (meAt 39 2) "GapText.code" .none (.str "emacs.gap" 620) 347) ::
  (nat_lit 354, cO [.str "codes" 658, .str "GapText.codes" 659, .str "/claim/cut.py" 660, .int 265 0, .int 3 0, .int 0 0, .int 0 0, .int 3 0, .ref 349, .bool true, .int 181 0, .ref 350, .none, .ref 351, .ref 352, .ref 353, .int 665 0, .int 265 0, .str "/claim/cut.py" 666]) ::
  (nat_lit 355, fO (meAt 39 3) "GapText.codes" .none (.str "emacs.gap" 620) 354) ::
  (nat_lit 361, cO [.str "move_gap" 668, .str "GapText.move_gap" 669, .str "/claim/cut.py" 670, .int 273 0, .int 2 0, .int 0 0, .int 0 0, .int 3 0, .ref 356, .bool true, .int 181 0, .ref 357, .none, .ref 358, .ref 359, .ref 360, .int 674 0, .int 273 0, .str "/claim/cut.py" 675]) ::
  (nat_lit 362, fO (meAt 39 4) "GapText.move_gap" .none (.str "emacs.gap" 620) 361) ::
  (nat_lit 368, cO [.str "widen_gap" 677, .str "GapText.widen_gap" 678, .str "/claim/cut.py" 679, .int 284 0, .int 2 0, .int 0 0, .int 0 0, .int 3 0, .ref 363, .bool true, .int 181 0, .ref 364, .none, .ref 365, .ref 366, .ref 367, .int 683 0, .int 284 0, .str "/claim/cut.py" 684]) ::
  (nat_lit 369, fO (meAt 39 5) "GapText.widen_gap" .none (.str "emacs.gap" 620) 368) ::
  (nat_lit 375, cO [.str "insert" 686, .str "GapText.insert" 687, .str "/claim/cut.py" 688, .int 290 0, .int 3 0, .int 0 0, .int 0 0, .int 3 0, .ref 370, .bool true, .int 181 0, .ref 371, .none, .ref 372, .ref 373, .ref 374, .int 692 0, .int 290 0, .str "/claim/cut.py" 693]) ::
  (nat_lit 376, fO (meAt 39 6) "GapText.insert" .none (.str "emacs.gap" 620) 375) ::
  (nat_lit 382, cO [.str "delete" 695, .str "GapText.delete" 696, .str "/claim/cut.py" 697, .int 296 0, .int 3 0, .int 0 0, .int 0 0, .int 3 0, .ref 377, .bool true, .int 181 0, .ref 378, .none, .ref 379, .ref 380, .ref 381, .int 702 0, .int 296 0, .str "/claim/cut.py" 703]) ::
  (nat_lit 383, fO (meAt 39 7) "GapText.delete" .none (.str "emacs.gap" 620) 382) ::
  (nat_lit 389, cO [.str "put" 705, .str "GapText.put" 706, .str "/claim/cut.py" 707, .int 306 0, .int 3 0, .int 0 0, .int 0 0, .int 3 0, .ref 384, .bool true, .int 181 0, .ref 385, .none, .ref 386, .ref 387, .ref 388, .int 711 0, .int 306 0, .str "/claim/cut.py" 712]) ::
  (nat_lit 390, fO (meAt 39 8) "GapText.put" .none (.str "emacs.gap" 620) 389) ::
  (nat_lit 396, cO [.str "narrow_gap" 714, .str "GapText.narrow_gap" 715, .str "/claim/cut.py" 716, .int 309 0, .int 1 0, .int 0 0, .int 0 0, .int 3 0, .ref 391, .bool true, .int 181 0, .ref 392, .none, .ref 393, .ref 394, .ref 395, .int 718 0, .int 309 0, .str "/claim/cut.py" 719]) ::
  (nat_lit 397, fO (meAt 39 9) "GapText.narrow_gap" .none (.str "emacs.gap" 620) 396) ::
  (nat_lit 403, cO [.str "is_whole" 721, .str "GapText.is_whole" 722, .str "/claim/cut.py" 723, .int 312 0, .int 1 0, .int 0 0, .int 0 0, .int 3 0, .ref 398, .bool true, .int 181 0, .ref 399, .none, .ref 400, .ref 401, .ref 402, .int 725 0, .int 312 0, .str "/claim/cut.py" 726]) ::
  (nat_lit 404, fO (meAt 39 10) "GapText.is_whole" .none (.str "emacs.gap" 620) 403) ::
  (nat_lit 405, tO [.str "cells" 728, .str "gap_end" 729, .str "gap_start" 730, .str "room" 731]) ::
  (nat_lit 406, d406 P) ::
  (nat_lit 407, ⟨.type "type", none, .cls ⟨"GapText", [.type "object"], [.ref 407, .type "object"], 406, "GapText", true, [], [], false, none, false⟩, #[none, none, some (.str "GapText" 622), some (.str "GapText" 630), some (.builtin "object.__new__"), some (.bool true)]⟩) ::
  (nat_lit 408, ⟨.type "getset_descriptor", none, .fields #[.str "__dict__" 733, .ref 407, .builtin "function.__dict__", .builtin "function.__dict__#set"], #[]⟩) ::
  (nat_lit 409, ⟨.type "getset_descriptor", none, .fields #[.str "__weakref__" 735, .ref 407, .builtin "ExceptionGroup.__weakref__", .none], #[]⟩) ::
  (nat_lit 424, cO [.str "__init__" 754, .str "Markers.__init__" 755, .str "/claim/cut.py" 756, .int 317 0, .int 1 0, .int 0 0, .int 0 0, .int 3 0, .ref 419, .bool true, .int 181 0, .ref 420, .none, .ref 421, .ref 422, .ref 423, .int 758 0, .int 317 0, .str "/claim/cut.py" 759]) ::
  (nat_lit 425, fO (meAt 41 0) "Markers.__init__" .none (.str "emacs.markers" 740) 424) ::
  (nat_lit 431, cO [.str "numbers" 761, .str "Markers.numbers" 762, .str "/claim/cut.py" 763, .int 320 0, .int 1 0, .int 0 0, .int 0 0, .int 3 0, .ref 426, .bool true, .int 181 0, .ref 427, .none, .ref 428, .ref 429, .ref 430, .int 765 0, .int 320 0, .str "/claim/cut.py" 766]) ::
  (nat_lit 432, fO (meAt 41 1) "Markers.numbers" .none (.str "emacs.markers" 740) 431) ::
  (nat_lit 438, cO [.str "put" 768, .str "Markers.put" 769, .str "/claim/cut.py" 770, .int 323 0, .int 3 0, .int 0 0, .int 0 0, .int 3 0, .ref 433, .bool true, .int 181 0, .ref 434, .none, .ref 435, .ref 436, .ref 437, .int 774 0, .int 323 0, .str "/claim/cut.py" 775]) ::
  (nat_lit 439, fO (meAt 41 2) "Markers.put" .none (.str "emacs.markers" 740) 438) ::
  (nat_lit 445, cO [.str "drop" 777, .str "Markers.drop" 778, .str "/claim/cut.py" 779, .int 326 0, .int 2 0, .int 0 0, .int 0 0, .int 3 0, .ref 440, .bool true, .int 181 0, .ref 441, .none, .ref 442, .ref 443, .ref 444, .int 782 0, .int 326 0, .str "/claim/cut.py" 783]) ::
  (nat_lit 446, fO (meAt 41 3) "Markers.drop" .none (.str "emacs.markers" 740) 445) ::
  (nat_lit 452, cO [.str "within" 785, .str "Markers.within" 786, .str "/claim/cut.py" 787, .int 329 0, .int 3 0, .int 0 0, .int 0 0, .int 3 0, .ref 447, .bool true, .int 181 0, .ref 448, .none, .ref 449, .ref 450, .ref 451, .int 793 0, .int 329 0, .str "/claim/cut.py" 794]) ::
  (nat_lit 453, fO (meAt 41 4) "Markers.within" .none (.str "emacs.markers" 740) 452) ::
  (nat_lit 459, cO [.str "inserted" 796, .str "Markers.inserted" 797, .str "/claim/cut.py" 798, .int 336 0, .int 4 0, .int 0 0, .int 0 0, .int 3 0, .ref 454, .bool true, .int 181 0, .ref 455, .none, .ref 456, .ref 457, .ref 458, .int 805 0, .int 336 0, .str "/claim/cut.py" 806]) ::
  (nat_lit 460, fO (meAt 41 5) "Markers.inserted" .none (.str "emacs.markers" 740) 459) ::
  (nat_lit 466, cO [.str "deleted" 808, .str "Markers.deleted" 809, .str "/claim/cut.py" 810, .int 342 0, .int 3 0, .int 0 0, .int 0 0, .int 3 0, .ref 461, .bool true, .int 181 0, .ref 462, .none, .ref 463, .ref 464, .ref 465, .int 816 0, .int 342 0, .str "/claim/cut.py" 817]) ::
  (nat_lit 467, fO (meAt 41 6) "Markers.deleted" .none (.str "emacs.markers" 740) 466) ::
  (nat_lit 473, cO [.str "replaced" 819, .str "Markers.replaced" 820, .str "/claim/cut.py" 821, .int 350 0, .int 4 0, .int 0 0, .int 0 0, .int 3 0, .ref 468, .bool true, .int 181 0, .ref 469, .none, .ref 470, .ref 471, .ref 472, .int 826 0, .int 350 0, .str "/claim/cut.py" 827]) ::
  (nat_lit 474, fO (meAt 41 7) "Markers.replaced" .none (.str "emacs.markers" 740) 473) ::
  (nat_lit 475, tO [.str "rows" 829]) ::
  (nat_lit 476, d476 P) ::
  (nat_lit 477, ⟨.type "type", none, .cls ⟨"Markers", [.type "object"], [.ref 477, .type "object"], 476, "Markers", true, [], [], false, none, false⟩, #[none, none, some (.str "Markers" 742), some (.str "Markers" 750), some (.builtin "object.__new__"), some (.bool true)]⟩) ::
  (nat_lit 478, ⟨.type "getset_descriptor", none, .fields #[.str "__dict__" 831, .ref 477, .builtin "function.__dict__", .builtin "function.__dict__#set"], #[]⟩) ::
  (nat_lit 479, ⟨.type "getset_descriptor", none, .fields #[.str "__weakref__" 833, .ref 477, .builtin "ExceptionGroup.__weakref__", .none], #[]⟩) ::
  (nat_lit 494, cO [.str "shown" 852, .str "Opaque.shown" 853, .str "/claim/cut.py" 854, .int 355 0, .int 1 0, .int 0 0, .int 0 0, .int 3 0, .ref 489, .bool true, .int 181 0, .ref 490, .none, .ref 491, .ref 492, .ref 493, .int 856 0, .int 355 0, .str "/claim/cut.py" 857]) ::
  (nat_lit 495, fO (meAt 43 0) "Opaque.shown" .none (.str "emacs.objects" 838) 494) ::
  (nat_lit 501, cO [.str "kind" 859, .str "Opaque.kind" 860, .str "/claim/cut.py" 861, .int 358 0, .int 1 0, .int 0 0, .int 0 0, .int 3 0, .ref 496, .bool true, .int 181 0, .ref 497, .none, .ref 498, .ref 499, .ref 500, .int 863 0, .int 358 0, .str "/claim/cut.py" 864]) ::
  (nat_lit 502, fO (meAt 43 1) "Opaque.kind" .none (.str "emacs.objects" 838) 501) ::
  (nat_lit 508, cO [.str "same_as" 866, .str "Opaque.same_as" 867, .str "/claim/cut.py" 868, .int 361 0, .int 2 0, .int 0 0, .int 0 0, .int 3 0, .ref 503, .bool true, .int 181 0, .ref 504, .none, .ref 505, .ref 506, .ref 507, .int 871 0, .int 361 0, .str "/claim/cut.py" 872]) ::
  (nat_lit 509, fO (meAt 43 2) "Opaque.same_as" .none (.str "emacs.objects" 838) 508) ::
  (nat_lit 510, tO []) ::
  (nat_lit 511, d511 P) ::
  (nat_lit 512, ⟨.type "type", none, .cls ⟨"Opaque", [.type "object"], [.ref 512, .type "object"], 511, "Opaque", true, [], [.ref 618], false, none, false⟩, #[none, none, some (.str "Opaque" 840), some (.str "Opaque" 848), some (.builtin "object.__new__"), some (.bool true)]⟩) ::
  (nat_lit 513, ⟨.type "getset_descriptor", none, .fields #[.str "__dict__" 875, .ref 512, .builtin "function.__dict__", .builtin "function.__dict__#set"], #[]⟩) ::
  (nat_lit 514, ⟨.type "getset_descriptor", none, .fields #[.str "__weakref__" 877, .ref 512, .builtin "ExceptionGroup.__weakref__", .none], #[]⟩) ::
  (nat_lit 524, tO [.int 8 896]) ::
  (nat_lit 530, cO [.str "__init__" 897, .str "Buffer.__init__" 898, .str "/claim/cut.py" 899, .int 366 0, .int 4 0, .int 0 0, .int 0 0, .int 3 0, .ref 525, .bool true, .int 181 0, .ref 526, .none, .ref 527, .ref 528, .ref 529, .int 904 0, .int 366 0, .str "/claim/cut.py" 905]) ::
  (nat_lit 531, fO (meAt 45 0) "Buffer.__init__" (.ref 524) (.str "emacs.buffer" 882) 530) ::
  (nat_lit 537, cO [.str "shown" 907, .str "Buffer.shown" 908, .str "/claim/cut.py" 909, .int 388 0, .int 1 0, .int 0 0, .int 0 0, .int 3 0, .ref 532, .bool true, .int 181 0, .ref 533, .none, .ref 534, .ref 535, .ref 536, .int 911 0, .int 388 0, .str "/claim/cut.py" 912]) ::
  (nat_lit 538, fO (meAt 45 1) "Buffer.shown" .none (.str "emacs.buffer" 882) 537) ::
  (nat_lit 544, cO [.str "kind" 914, .str "Buffer.kind" 915, .str "/claim/cut.py" 916, .int 391 0, .int 1 0, .int 0 0, .int 0 0, .int 3 0, .ref 539, .bool true, .int 181 0, .ref 540, .none, .ref 541, .ref 542, .ref 543, .int 918 0, .int 391 0, .str "/claim/cut.py" 919]) ::
  (nat_lit 545, fO (meAt 45 2) "Buffer.kind" .none (.str "emacs.buffer" 882) 544) ::
  (nat_lit 551, cO [.str "begin" 921, .str "Buffer.begin" 922, .str "/claim/cut.py" 923, .int 394 0, .int 1 0, .int 0 0, .int 0 0, .int 3 0, .ref 546, .bool true, .int 181 0, .ref 547, .none, .ref 548, .ref 549, .ref 550, .int 925 0, .int 394 0, .str "/claim/cut.py" 926]) ::
  (nat_lit 552, fO (meAt 45 3) "Buffer.begin" .none (.str "emacs.buffer" 882) 551) ::
  (nat_lit 558, cO [.str "end" 928, .str "Buffer.end" 929, .str "/claim/cut.py" 930, .int 397 0, .int 1 0, .int 0 0, .int 0 0, .int 3 0, .ref 553, .bool true, .int 181 0, .ref 554, .none, .ref 555, .ref 556, .ref 557, .int 932 0, .int 397 0, .str "/claim/cut.py" 933]) ::
  (nat_lit 559, fO (meAt 45 4) "Buffer.end" .none (.str "emacs.buffer" 882) 558) ::
  (nat_lit 565, cO [.str "size" 935, .str "Buffer.size" 936, .str "/claim/cut.py" 937, .int 400 0, .int 1 0, .int 0 0, .int 0 0, .int 3 0, .ref 560, .bool true, .int 181 0, .ref 561, .none, .ref 562, .ref 563, .ref 564, .int 939 0, .int 400 0, .str "/claim/cut.py" 940]) ::
  (nat_lit 566, fO (meAt 45 5) "Buffer.size" .none (.str "emacs.buffer" 882) 565) ::
  (nat_lit 572, cO [.str "code_at" 942, .str "Buffer.code_at" 943, .str "/claim/cut.py" 944, .int 403 0, .int 2 0, .int 0 0, .int 0 0, .int 3 0, .ref 567, .bool true, .int 181 0, .ref 568, .none, .ref 569, .ref 570, .ref 571, .int 947 0, .int 403 0, .str "/claim/cut.py" 948]) ::
  (nat_lit 573, fO (meAt 45 6) "Buffer.code_at" .none (.str "emacs.buffer" 882) 572) ::
  (nat_lit 579, cO [.str "codes" 950, .str "Buffer.codes" 951, .str "/claim/cut.py" 952, .int 406 0, .int 3 0, .int 0 0, .int 0 0, .int 3 0, .ref 574, .bool true, .int 181 0, .ref 575, .none, .ref 576, .ref 577, .ref 578, .int 956 0, .int 406 0, .str "/claim/cut.py" 957]) ::
  (nat_lit 580, fO (meAt 45 7) "Buffer.codes" .none (.str "emacs.buffer" 882) 579) ::
  (nat_lit 586, cO [.str "goto" 959, .str "Buffer.goto" 960, .str "/claim/cut.py" 961, .int 409 0, .int 2 0, .int 0 0, .int 0 0, .int 3 0, .ref 581, .bool true, .int 181 0, .ref 582, .none, .ref 583, .ref 584, .ref 585, .int 964 0, .int 409 0, .str "/claim/cut.py" 965]) ::
  (nat_lit 587, fO (meAt 45 8) "Buffer.goto" .none (.str "emacs.buffer" 882) 586) ::
  (nat_lit 593, cO [.str "tick" 967, .str "Buffer.tick" 968, .str "/claim/cut.py" 969, .int 413 0, .int 1 0, .int 0 0, .int 0 0, .int 3 0, .ref 588, .bool true, .int 181 0, .ref 589, .none, .ref 590, .ref 591, .ref 592, .int 971 0, .int 413 0, .str "/claim/cut.py" 972]) ::
  (nat_lit 594, fO (meAt 45 9) "Buffer.tick" .none (.str "emacs.buffer" 882) 593) ::
  (nat_lit 600, cO [.str "is_modified" 974, .str "Buffer.is_modified" 975, .str "/claim/cut.py" 976, .int 416 0, .int 1 0, .int 0 0, .int 0 0, .int 3 0, .ref 595, .bool true, .int 181 0, .ref 596, .none, .ref 597, .ref 598, .ref 599, .int 978 0, .int 416 0, .str "/claim/cut.py" 979]) ::
  (nat_lit 601, fO (meAt 45 10) "Buffer.is_modified" .none (.str "emacs.buffer" 882) 600) ::
  (nat_lit 607, cO [.str "set_modified" 981, .str "Buffer.set_modified" 982, .str "/claim/cut.py" 983, .int 419 0, .int 2 0, .int 0 0, .int 0 0, .int 3 0, .ref 602, .bool true, .int 181 0, .ref 603, .none, .ref 604, .ref 605, .ref 606, .int 986 0, .int 419 0, .str "/claim/cut.py" 987]) ::
  (nat_lit 608, fO (meAt 45 11) "Buffer.set_modified" .none (.str "emacs.buffer" 882) 607) ::
  (nat_lit 614, cO [.str "touch" 989, .str "Buffer.touch" 990, .str "/claim/cut.py" 991, .int 425 0, .int 2 0, .int 0 0, .int 0 0, .int 3 0, .ref 609, .bool true, .int 181 0, .ref 610, .none, .ref 611, .ref 612, .ref 613, .int 994 0, .int 425 0, .str "/claim/cut.py" 995]) ::
  (nat_lit 615, fO (meAt 45 12) "Buffer.touch" .none (.str "emacs.buffer" 882) 614) ::
  (nat_lit 616, tO [.str "begv" 997, .str "codes_ticks" 998, .str "file" 999, .str "is_live" 1000, .str "is_read_only" 1001, .str "listeners" 1002, .str "locals" 1003, .str "mark" 1004, .str "markers" 1005, .str "name" 1006, .str "number" 1007, .str "overlays" 1008, .str "point" 1009, .str "props" 1010, .str "saved_ticks" 1011, .str "syntax" 1012, .str "text" 1013, .str "ticks" 1014, .str "undo" 1015, .str "zv" 1016]) ::
  (nat_lit 617, d617 P) ::
  (nat_lit 618, ⟨.type "type", none, .cls ⟨"Buffer", [.ref 512], [.ref 618, .ref 512, .type "object"], 617, "Buffer", true, [], [], false, none, false⟩, #[some (.ref 517), none, some (.str "Buffer" 884), some (.str "Buffer" 892), some (.builtin "object.__new__"), some (.bool true)]⟩) ::
  (nat_lit 626, cO [.str "narrow" 1023, .str "narrow" 1024, .str "/claim/cut.py" 1025, .int 430 0, .int 3 0, .int 0 0, .int 0 0, .int 3 0, .ref 621, .bool true, .int 181 0, .ref 622, .none, .ref 623, .ref 624, .ref 625, .int 1031 0, .int 430 0, .str "/claim/cut.py" 1032]) ::
  (nat_lit 627, fO (stAt 47) "narrow" .none (.str "emacs.narrowing" 1021) 626) ::
  (nat_lit 633, cO [.str "widen" 1034, .str "widen" 1035, .str "/claim/cut.py" 1036, .int 436 0, .int 1 0, .int 0 0, .int 0 0, .int 3 0, .ref 628, .bool true, .int 181 0, .ref 629, .none, .ref 630, .ref 631, .ref 632, .int 1038 0, .int 436 0, .str "/claim/cut.py" 1039]) ::
  (nat_lit 634, fO (stAt 48) "widen" .none (.str "emacs.narrowing" 1021) 633) ::
  (nat_lit 647, cO [.str "__init__" 1055, .str "Piece.__init__" 1056, .str "/claim/cut.py" 1057, .int 441 0, .int 3 0, .int 0 0, .int 0 0, .int 3 0, .ref 642, .bool true, .int 181 0, .ref 643, .none, .ref 644, .ref 645, .ref 646, .int 1061 0, .int 441 0, .str "/claim/cut.py" 1062]) ::
  (nat_lit 648, fO (meAt 50 0) "Piece.__init__" .none (.str "emacs.pieces" 1041) 647) ::
  (nat_lit 649, tO [.str "codes" 1064, .str "runs" 1065]) ::
  (nat_lit 650, d650 P) ::
  (nat_lit 651, ⟨.type "type", none, .cls ⟨"Piece", [.type "object"], [.ref 651, .type "object"], 650, "Piece", true, [], [], false, none, false⟩, #[none, none, some (.str "Piece" 1043), some (.str "Piece" 1051), some (.builtin "object.__new__"), some (.bool true)]⟩) ::
  (nat_lit 652, ⟨.type "getset_descriptor", none, .fields #[.str "__dict__" 1067, .ref 651, .builtin "function.__dict__", .builtin "function.__dict__#set"], #[]⟩) ::
  (nat_lit 653, ⟨.type "getset_descriptor", none, .fields #[.str "__weakref__" 1069, .ref 651, .builtin "ExceptionGroup.__weakref__", .none], #[]⟩) ::
  (nat_lit 668, cO [.str "__init__" 1088, .str "Recording.__init__" 1089, .str "/claim/cut.py" 1090, .int 447 0, .int 1 0, .int 0 0, .int 0 0, .int 3 0, .ref 663, .bool true, .int 181 0, .ref 664, .none, .ref 665, .ref 666, .ref 667, .int 1092 0, .int 447 0, .str "/claim/cut.py" 1093]) ::
  (nat_lit 669, fO (meAt 52 0) "Recording.__init__" .none (.str "emacs.recording" 1074) 668) ::
  (nat_lit 675, cO [.str "text_comes" 1095, .str "Recording.text_comes" 1096, .str "/claim/cut.py" 1097, .int 450 0, .int 4 0, .int 0 0, .int 0 0, .int 3 0, .ref 670, .bool true, .int 181 0, .ref 671, .none, .ref 672, .ref 673, .ref 674, .int 1102 0, .int 450 0, .str "/claim/cut.py" 1103]) ::
  (nat_lit 676, fO (meAt 52 1) "Recording.text_comes" .none (.str "emacs.recording" 1074) 675) ::
  (nat_lit 680, cO [.str "text_goes" 1105, .str "Recording.text_goes" 1106, .str "/claim/cut.py" 1107, .int 453 0, .int 4 0, .int 0 0, .int 0 0, .int 3 0, .ref 677, .bool true, .int 181 0, .ref 678, .none, .none, .none, .ref 679, .int 1108 0, .int 453 0, .str "/claim/cut.py" 1109]) ::
  (nat_lit 681, fO (meAt 52 2) "Recording.text_goes" .none (.str "emacs.recording" 1074) 680) ::
  (nat_lit 687, cO [.str "property_changes" 1111, .str "Recording.property_changes" 1112, .str "/claim/cut.py" 1113, .int 464 0, .int 6 0, .int 0 0, .int 0 0, .int 3 0, .ref 682, .bool true, .int 181 0, .ref 683, .none, .ref 684, .ref 685, .ref 686, .int 1120 0, .int 464 0, .str "/claim/cut.py" 1121]) ::
  (nat_lit 688, fO (meAt 52 3) "Recording.property_changes" .none (.str "emacs.recording" 1074) 687) ::
  (nat_lit 689, tO [.str "list" 1123]) ::
  (nat_lit 690, d690 P) ::
  (nat_lit 691, ⟨.type "type", none, .cls ⟨"Recording", [.type "object"], [.ref 691, .type "object"], 690, "Recording", true, [], [], false, none, false⟩, #[none, none, some (.str "Recording" 1076), some (.str "Recording" 1084), some (.builtin "object.__new__"), some (.bool true)]⟩) ::
  (nat_lit 692, ⟨.type "getset_descriptor", none, .fields #[.str "__dict__" 1125, .ref 691, .builtin "function.__dict__", .builtin "function.__dict__#set"], #[]⟩) ::
  (nat_lit 693, ⟨.type "getset_descriptor", none, .fields #[.str "__weakref__" 1127, .ref 691, .builtin "ExceptionGroup.__weakref__", .none], #[]⟩) ::
  (nat_lit 699, cO [.str "_law_deck" 1134, .str "_law_deck" 1135, .str "/claim/cut.py" 1136, .int 467 0, .int 1 0, .int 0 0, .int 0 0, .int 3 0, .ref 696, .bool true, .int 181 0, .ref 697, .none, .none, .none, .ref 698, .int 1137 0, .int 467 0, .str "/claim/cut.py" 1138]) ::
  (nat_lit 700, fO (stAt 54) "_law_deck" .none (.str "law_on0070_01" 1132) 699) ::
  (nat_lit 706, cO [.str "_law_draw" 1140, .str "_law_draw" 1141, .str "/claim/cut.py" 1142, .int 470 0, .int 2 0, .int 0 0, .int 0 0, .int 3 0, .ref 701, .bool true, .int 181 0, .ref 702, .none, .ref 703, .ref 704, .ref 705, .int 1147 0, .int 470 0, .str "/claim/cut.py" 1148]) ::
  (nat_lit 707, fO (stAt 55) "_law_draw" .none (.str "law_on0070_01" 1132) 706) ::
  (nat_lit 713, cO [.str "_law_command" 1150, .str "_law_command" 1151, .str "/claim/cut.py" 1152, .int 481 0, .int 3 0, .int 0 0, .int 0 0, .int 3 0, .ref 708, .bool true, .int 181 0, .ref 709, .none, .ref 710, .ref 711, .ref 712, .int 1160 0, .int 481 0, .str "/claim/cut.py" 1161]) ::
  (nat_lit 714, fO (stAt 56) "_law_command" .none (.str "law_on0070_01" 1132) 713) ::
  (nat_lit 720, cO [.str "_law_state" 1163, .str "_law_state" 1164, .str "/claim/cut.py" 1165, .int 492 0, .int 1 0, .int 0 0, .int 0 0, .int 3 0, .ref 715, .bool true, .int 181 0, .ref 716, .none, .ref 717, .ref 718, .ref 719, .int 1167 0, .int 492 0, .str "/claim/cut.py" 1168]) ::
  (nat_lit 721, fO (stAt 57) "_law_state" .none (.str "law_on0070_01" 1132) 720) ::
  (nat_lit 727, cO [.str "_law_undone" 1170, .str "_law_undone" 1171, .str "/claim/cut.py" 1172, .int 494 0, .int 2 0, .int 0 0, .int 0 0, .int 3 0, .ref 722, .bool true, .int 181 0, .ref 723, .none, .ref 724, .ref 725, .ref 726, .int 1178 0, .int 494 0, .str "/claim/cut.py" 1179]) ::
  (nat_lit 728, fO (stAt 58) "_law_undone" .none (.str "law_on0070_01" 1132) 727) ::
  (nat_lit 732, cO [.str "law" 1181, .str "law" 1182, .str "/claim/cut.py" 1183, .int 499 0, .int 1 0, .int 0 0, .int 0 0, .int 3 0, .ref 729, .bool true, .int 181 0, .ref 730, .none, .none, .none, .ref 731, .int 1184 0, .int 499 0, .str "/claim/cut.py" 1185]) ::
  (nat_lit 733, fO (stAt 59) "law" .none (.str "law_on0070_01" 1132) 732) ::
  []

noncomputable def q : Program := view p0 [59]
noncomputable def lo : List Str := [Str.ofString "_wall", Str.ofString "LispSignal", Str.ofString "need_writable", Str.ofString "reached", Str.ofString "tell_ahead", Str.ofString "tell_behind", Str.ofString "text_out", Str.ofString "text_in", Str.ofString "hung_out", Str.ofString "hung_in", Str.ofString "put_in", Str.ofString "insert", Str.ofString "delete", Str.ofString "eq", Str.ofString "plist_find", Str.ofString "plist_get", Str.ofString "plist_with", Str.ofString "plist_without", Str.ofString "plist_rows", Str.ofString "insert_piece", Str.ofString "is_value", Str.ofString "set_property", Str.ofString "BOUNDARY", Str.ofString "UndoList", Str.ofString "marker_distance", Str.ofString "need_visible", Str.ofString "markers_ahead", Str.ofString "undo_insert", Str.ofString "undo_delete", Str.ofString "undo_row", Str.ofString "above_boundaries", Str.ofString "undo_group", Str.ofString "GapText", Str.ofString "Markers", Str.ofString "Opaque", Str.ofString "Buffer", Str.ofString "narrow", Str.ofString "widen", Str.ofString "Piece", Str.ofString "Recording", Str.ofString "_law_deck", Str.ofString "_law_draw", Str.ofString "_law_command", Str.ofString "_law_state", Str.ofString "_law_undone"]
noncomputable def T0 (P : Params) : BT := (.node (boot_o_0 P) (.node (boot_o_1 P) (.node (boot_o_3 P) (.node (boot_o_7 P) .nil .nil) .nil) (.node (boot_o_5 P) (.node (boot_o_9 P) .nil .nil) .nil)) (.node (boot_o_2 P) (.node (boot_o_4 P) (.node (boot_o_8 P) .nil .nil) .nil) (.node (boot_o_6 P) (.node (boot_o_10 P) .nil .nil) .nil)))
noncomputable def S0 (w : World) (os : OsState) : SharedT := ⟨T0 w.params, 11, (boot_heap w.params).life, Array.mk [], boot_drawn, boot_toks, os⟩

noncomputable def runF (f : SharedT → Thread → Option (SharedT × Thread)) (n₀ : Nat) (ann : Option Value) : Nat → SharedT → Thread → Option SharedT
  | 0, _, _ => none
  | n + 1, s, t => match through t with
    | true => some s
    | false => match stepOk n₀ ann t with
      | false => none
      | true => match f s t with
        | some (s', t') => runF f n₀ ann n s' t'
        | none => none
theorem runF_of {tb : String → Option Builtin} {p : Program} {w : World} {n₀ : Nat} {ann : Option Value} : ∀ {n : Nat} {s s' : SharedT} {t : Thread}, runF (stepT (denote tb) p w) n₀ ann n s t = some s' → topRun tb p w n₀ ann n s.abs t = some s'.abs
  | 0, _, _, _, h => by cases h
  | n + 1, s, s', t, h => by
    unfold runF at h
    unfold topRun
    cases he : through t with
    | true => rw [he] at h; cases h; rfl
    | false =>
      rw [he] at h
      cases hk : stepOk n₀ ann t with
      | false => rw [hk] at h; cases h
      | true =>
        rw [hk] at h
        cases hs : stepT (denote tb) p w s t with
        | none => rw [hs] at h; cases h
        | some r => obtain ⟨s₂, t₂⟩ := r; rw [hs] at h; dsimp only; rw [stepT_spec hs]; exact runF_of h
noncomputable def getT (s : SharedT) (a : Addr) : Option Obj := match Nat.blt a s.n with | true => (s.tree.get a).bind alive | false => none
theorem getT_abs {s : SharedT} {a : Addr} {o : Obj} (h : getT s a = some o) : s.abs.heap.get? a = some o := by
  unfold getT at h
  cases q : Nat.blt a s.n with
  | false => rw [q] at h; cases h
  | true =>
    rw [q] at h
    obtain ⟨o', h1, h2⟩ := Option.bind_eq_some_iff.mp h
    exact (abs_get (Nat.blt_eq.mp q) h1).trans h2
theorem getT_all {s : SharedT} {l : List (Addr × Obj)} : ∀ {as : List Addr}, as.map (getT s) = l.map (fun p => some p.2) → as.map s.abs.heap.get? = l.map fun p => some p.2 := by
  induction l with
  | nil => intro as e; rw [List.map_eq_nil_iff.mp e]; rfl
  | cons p l ih =>
    intro as e
    cases as with
    | nil => cases e
    | cons a as =>
      rw [List.map_cons, List.map_cons] at e
      injection e with e1 e2
      rw [List.map_cons, List.map_cons, getT_abs e1, ih e2]
/-- the step, by the library's quick twins -/
noncomputable def fq (w : World) : SharedT → Thread → Option (SharedT × Thread) := PySem.W.Fast.tw10156331382660048174 (PySem.W.Fast.tw11892475500146522536 PySem.W.Fast.tw14364793385576792824) p0 w
theorem fq_eq (w : World) : fq w = stepT (denote treeTable) p0 w := by
  unfold fq
  rw [← PySem.W.Fast.te10156331382660048174, ← PySem.W.Fast.te11892475500146522536, ← PySem.W.Fast.te14364793385576792824]

noncomputable def Xt (s : Shared) : Bool := xlAt q [] s && recOk (RowW.records PySem.Challenge.rw_on0070_01.row.toRowW) s
theorem K_as : ∀ P, as = (K P).map (·.1) := fun _ => by kernel_rfl
noncomputable def big (w : World) (os : OsState) := (runF (fq w) 11 (some (.ref 6)) 10000 (S0 w os) (topStub p0)).map fun sT =>
  ((staticsOk (importedModules p0.main.body) (boot_heap w.params) sT.abs.heap && namesBound p0 sT.abs.heap && gensDone sT.abs && laidKept (boot_heap w.params) sT.abs.heap), PySem.W.Fast.tw4187177175401517315 q lo (importedModules p0.main.body) Xt true sT.abs, as.map (getT sT))
noncomputable def bigR (w : World) (_ : OsState) := (some (true, openGood q lo, (K w.params).map fun p => some p.2) : Option (Bool × _ × List (Option Obj)))



theorem big_ok (w : World) (os : OsState) : big w os = bigR w os := by kernel_rfl

theorem T0_ok (P : Params) : absHeap (T0 P) 11 (boot_heap P).life = boot_heap P := by kernel_rfl
theorem size_ok (w : World) : ((boot_heap w.params).isNs mainGlobals && (Array.mk ([] : List GenState)).size == 0, (boot_heap w.params).objs.size, (boot_heap w.params).nsMap mainGlobals "__annotations__") = (true, 11, some (.ref 6)) := by kernel_rfl
theorem op_ok : opening p0 = plainProg p0.main.scope.names := by kernel_rfl
theorem fence_ok (s : Shared) : fenceModules? p0 s = some s := by kernel_rfl
theorem left_of {p q : Program} {loose : List Str} {Xt : Shared → Bool} {α : Type} {Yf : Shared → α} {Ya : World → α} {N : Nat} {g0 : Bool} {H₀ : Params → Heap} {T₀ : Params → BT} {gs₀ : Array GenState} {d₀ : Drawn} {k₀ : Nat} {m₀ : Nat} {ann : Option Value}
    (open_ : ∀ w : World, (fencedOpening treeTable p w N).map (fun s => (s.heap, s.gens, s.drawn, s.toks)) = some (H₀ w.params, gs₀, d₀, k₀))
    (size : ∀ w : World, ((H₀ w.params).isNs mainGlobals && gs₀.size == 0, (H₀ w.params).objs.size, (H₀ w.params).nsMap mainGlobals "__annotations__") = (true, m₀, ann))
    (tree : ∀ P, absHeap (T₀ P) m₀ (H₀ P).life = H₀ P)
    {F : World → SharedT → Thread → Option (SharedT × Thread)} {YT : SharedT → α} (hY : ∀ w s, YT s = Ya w → Yf s.abs = Ya w) (hF : ∀ w, F w = stepT (denote treeTable) p w)
    (run : ∀ (w : World) (os : OsState), (runF (F w) m₀ ann N ⟨T₀ w.params, m₀, (H₀ w.params).life, gs₀, d₀, k₀, os⟩ (topStub p)).map (fun sT =>
      ((staticsOk (importedModules p.main.body) (H₀ w.params) sT.abs.heap && namesBound p sT.abs.heap && gensDone sT.abs && laidKept (H₀ w.params) sT.abs.heap), PySem.W.Fast.tw4187177175401517315 q loose (importedModules p.main.body) Xt g0 sT.abs, YT sT)) = some (true, openGood q loose, Ya w)) :
    LeftO p q loose Xt Yf Ya N g0 := fun w => by
  obtain ⟨⟨h, gs, d, k, os⟩, e, e'⟩ := Option.map_eq_some_iff.mp (open_ w)
  obtain ⟨rfl, rfl, rfl, rfl⟩ : h = H₀ w.params ∧ gs = gs₀ ∧ d = d₀ ∧ k = k₀ := by simpa using e'
  obtain ⟨z1, z2, z3⟩ : _ ∧ _ ∧ _ := by simpa only [Prod.mk.injEq] using size w
  have run := run w os
  rw [hF, ← PySem.W.Fast.te4187177175401517315] at run
  obtain ⟨sT, r1, l⟩ := Option.map_eq_some_iff.mp run
  obtain ⟨l1, l2, l3⟩ : _ ∧ _ ∧ _ := by simpa only [Prod.mk.injEq] using l
  have r := runF_of r1
  have e0 : (SharedT.mk (T₀ w.params) m₀ (H₀ w.params).life gs d k os).abs = ⟨H₀ w.params, gs, d, k, os⟩ := by
    show Shared.mk (absHeap (T₀ w.params) m₀ (H₀ w.params).life) _ _ _ _ = _
    rw [tree]
  rw [e0] at r
  have t : topFrom treeTable p w N ⟨H₀ w.params, gs, d, k, os⟩ = some sT.abs := by
    unfold topFrom
    dsimp only
    rw [z1, z2, z3, r]
    show (match staticsOk (importedModules p.main.body) (H₀ w.params) sT.abs.heap && namesBound p sT.abs.heap && gensDone sT.abs && laidKept (H₀ w.params) sT.abs.heap with | true => _ | false => _) = _
    rw [l1]
  unfold openEnds
  rw [e]
  show (topFrom treeTable p w N _).map _ = _
  rw [t]
  exact congrArg some (Prod.ext l2 (hY w sT l3))
theorem left : LeftO p0 q lo Xt (fun s => as.map s.heap.get?) (fun w => (K w.params).map fun p => some p.2) 10000 :=
  left_of (H₀ := boot_heap) (T₀ := T0) (boot_open (p := p0) (N := 10000) op_ok rfl fence_ok) size_ok T0_ok (fun w s e => getT_all (l := K w.params) e) fq_eq big_ok
noncomputable def lawD : DefRec := match stAt 59 with
  | .FunctionDef name args body _ _ _ scope _ _ pos => ⟨name, args, body, scope, pos⟩
  | _ => ⟨"", ⟨[], [], none, [], [], none, []⟩, [], default, default⟩
end Mine

namespace Mine
open PySem PySem.W PySem.Calls PyProof.Rows

theorem road_app {lk : Look} : ∀ (n : Nat) (l : List Stmt), noRoadLSs lk (l.take n) = true → noRoadLSs lk (l.drop n) = true → noRoadLSs lk l = true
  | 0, _, _, h => h
  | _ + 1, [], _, _ => rfl
  | n + 1, s :: r, h, h' => by
    have h : (noRoadLS lk s && noRoadLSs lk (r.take n)) = true := h
    exact Bool.and_eq_true_iff.mpr ⟨(Bool.and_eq_true_iff.mp h).1, road_app n r (Bool.and_eq_true_iff.mp h).2 h'⟩
theorem open_ : looksOpen PySem.Challenge.rw_on0070_01.row.prog = true := by
  unfold looksOpen
  iterate 5 (with_reducible refine look_both ?_ ?_)
  · decide +kernel
  · decide +kernel
  · decide +kernel
  · decide +kernel
  · exact road_app 38 _ (by decide +kernel) (by decide +kernel)
  · decide +kernel
theorem well : PySem.Challenge.rw_on0070_01.wellSaid = true := by
  unfold OpenLaw.wellSaid
  iterate 18 (with_reducible refine look_both ?_ ?_)
  · unfold OpenRow.wellSaid
    iterate 2 (with_reducible refine look_both ?_ ?_)
    · unfold OpenRow.partSaid
      iterate 13 (with_reducible refine look_both ?_ ?_)
      · exact open_
      all_goals decide +kernel
    all_goals decide +kernel
  all_goals decide +kernel
theorem hd (hc : WalkO q lo (XL q []) (kHook K as K_as).says PySem.Challenge.rw_on0070_01.row.toRowW lawD [] (fun f vs => PySem.call f vs)) : PySem.Challenge.rw_on0070_01.Holds := by

  refine holds_law well fun said => ?_
  refine holds_open (q := q) (loose := lo) (Xt := Xt) (XP := XL q []) (Yf := Hook.obs (kHook K as K_as)) (Ya := Hook.val (kHook K as K_as)) (YP := Hook.says (kHook K as K_as)) (N := 10000) left (Hook.of (kHook K as K_as)) (Hook.keeps (kHook K as K_as)) (fun s e => xl_of s (Bool.and_eq_true_iff.mp e).1) XL.keeps (by rfl) (by rfl) (by rfl) (fun s e => recFacts_of (Bool.and_eq_true_iff.mp e).2) (by rfl) (by first | assumption | decide +kernel) (by decide +kernel) ⟨rfl, rfl, rfl, rfl, rfl, by decide +kernel⟩ ?hw ?hc
  case hw => w_witness2
  case hc => exact hc
end Mine

namespace Mine
open PySem PySem.W PySem.Calls PyProof.Rows

noncomputable abbrev up (s : Shared) (h : Heap) (t : Nat) : Shared := { s with heap := h, toks := t }
noncomputable abbrev uh (s : Shared) (h : Heap) : Shared := { s with heap := h }
noncomputable abbrev ut (s : Shared) (t : Nat) : Shared := { s with toks := t }
noncomputable def Own (g h : Heap) (own : List (Addr × Obj)) : Prop := ∀ p ∈ own, h.get? p.1 = some p.2 ∧ g.get? p.1 = none

structure Site (w : World) (mean : ExcName → Option Value) (mg mb : Str → Option Value) (A : Around) (base : Heap) (outer : List Env) (g : Heap) (d u : Nat) : Prop where
  below : Below A base outer g
  X : (K w.params).In g
  T : Top q (looseW q lo) mean mg mb g
  depth : A.depth + d < recursionLimit
  units : A.units + u < cLine
  hh : A.handled = none


noncomputable def Con (w : World) (mean : ExcName → Option Value) (mg mb : Str → Option Value) (d u : Nat) (f : Addr) (args : List Value) (own : List (Addr × Obj)) (gf : Heap → Prop) (post : Value → List (Addr × Obj) → Prop) : Prop :=
  ∀ (A : Around) (base : Heap) (outer : List Env) (g : Heap) (s : Shared) (R : Result → Shared → Prop),
    Site w mean mg mb A base outer g d u → (∀ b o, g.get? b = some o → s.heap.get? b = some o) → g.objs.size ≤ s.heap.objs.size → Own g s.heap own → (own.map (·.1)).Nodup → gf g →
    (∀ h' tk' v own', (∀ b o, g.get? b = some o → h'.get? b = some o) → Own g h' own' → (own'.map (·.1)).Nodup → post v own' → R (.ok (.ret v)) (up s h' tk')) →
    codeAny (model p0 w) A (.call (.ref f) ⟨args, []⟩) R s

/-- where a body stands -/
structure Cx (w : World) (mean : ExcName → Option Value) (mg mb : Str → Option Value) (A : Around) (base : Heap) (outer : List Env) (g : Heap) (L : Addr) (h : Heap) (l : List (Str × Value)) (news : List (Addr × Obj)) : Prop where
  B : Below A base outer g
  X : (K w.params).In g
  T : Top q (looseW q lo) mean mg mb g
  hh : A.handled = none
  F : Fr g L h (fun y => List.lookup y l)
  N : News g L h news
  nd : (news.map (·.1)).Nodup

/-- some of a ledger, and the rest -/
inductive Pick (a : Addr) (o : Obj) : List (Addr × Obj) → List (Addr × Obj) → Prop
  | head {r} : Pick a o ((a, o) :: r) r
  | tail {p r r'} : Pick a o r r' → Pick a o (p :: r) (p :: r')
inductive Split : List (Addr × Obj) → List (Addr × Obj) → List (Addr × Obj) → Prop
  | nil {news} : Split [] news news
  | cons {a o own news news' rest} : Pick a o news news' → Split own news' rest → Split ((a, o) :: own) news rest
theorem Pick.perm {a : Addr} {o : Obj} {n n' : List (Addr × Obj)} (x : Pick a o n n') : n.Perm ((a, o) :: n') := by
  induction x with
  | head => exact List.Perm.refl _
  | tail _ ih => exact (List.Perm.cons _ ih).trans (List.Perm.swap ..)
theorem Split.perm {own news rest : List (Addr × Obj)} (x : Split own news rest) : news.Perm (own ++ rest) := by
  induction x with
  | nil => exact List.Perm.refl _
  | cons p _ ih => exact p.perm.trans (List.Perm.cons _ ih)

section
variable {w : World} {mean : ExcName → Option Value} {mg mb : Str → Option Value} {A A₀ : Around} {base h₀ g : Heap} {outer : List Env} {d u : Nat} {f L : Addr} {m : Str → Option Value} {env : Env} {s : Shared} {args : List Value} {own rest news : List (Addr × Obj)} {gf : Heap → Prop} {post : Value → List (Addr × Obj) → Prop} {l : List (Str × Value)} {h h' : Heap}

theorem Cx.grow (c : Cx w mean mg mb A base outer g L h l news) (k : ∀ b o, h.get? b = some o → h'.get? b = some o) : Cx w mean mg mb A base outer g L h' l news :=
  ⟨c.B, c.X, c.T, c.hh, c.F.grownK k, c.N.grown k, c.nd⟩
theorem Cx.add {D : Addr} {o : Obj} (c : Cx w mean mg mb A base outer g L h l news) (k : ∀ b o, h.get? b = some o → h'.get? b = some o) (n : h.get? D = none) (e : h'.get? D = some o) : Cx w mean mg mb A base outer g L h' l ((D, o) :: news) := by
  obtain ⟨oL, es, ep, hL, hr⟩ := c.F.ns
  have nL : D ≠ L := fun q => by rw [q, hL] at n; cases n
  have ng : g.get? D = none := by
    cases q : g.get? D with
    | none => rfl
    | some x => rw [c.F.keep _ _ q] at n; cases n
  refine ⟨c.B, c.X, c.T, c.hh, c.F.grownK k, fun p hp => ?_, ?_⟩
  · rcases List.mem_cons.mp hp with rfl | hp
    · exact ⟨e, nL, ng⟩
    · exact c.N.grown k p hp
  · rw [List.map_cons, List.nodup_cons]
    refine ⟨fun q => ?_, c.nd⟩
    obtain ⟨p, hp, q⟩ := List.mem_map.mp q
    have := (c.N p hp).1
    rw [show p.1 = D from q, n] at this; cases this
theorem Cx.drop {news' : List (Addr × Obj)} (c : Cx w mean mg mb A base outer g L h l news) (x : news'.Sublist news) : Cx w mean mg mb A base outer g L h l news' :=
  ⟨c.B, c.X, c.T, c.hh, c.F, fun p hp => c.N p (x.subset hp), (x.map _).nodup c.nd⟩
theorem Cx.perm {news' : List (Addr × Obj)} (c : Cx w mean mg mb A base outer g L h l news) (x : news.Perm news') : Cx w mean mg mb A base outer g L h l news' :=
  ⟨c.B, c.X, c.T, c.hh, c.F, fun p hp => c.N p (x.mem_iff.mpr hp), (x.map _).nodup_iff.mp c.nd⟩

theorem ground (c : Cx w mean mg mb A₀ base outer g L s.heap l (own ++ rest)) (hA : A.frames = some (env :: outer)) (hf : env.frame = some L) (hke : env.scope.kind = .function) (hdp : A.depth + d < recursionLimit) (hun : A.units + u < cLine) (hhd : A.handled = none) :
    ∃ g', Site w mean mg mb A base (env :: outer) g' d u ∧ (∀ b o, g'.get? b = some o → s.heap.get? b = some o) ∧ g'.objs.size ≤ s.heap.objs.size ∧ Own g' s.heap own ∧ (∀ b o, g.get? b = some o → g'.get? b = some o) ∧ (∀ p ∈ rest, g'.get? p.1 = some p.2) ∧
      ∀ h' own', (∀ b o, g'.get? b = some o → h'.get? b = some o) → Own g' h' own' → (own'.map (·.1)).Nodup → Cx w mean mg mb A₀ base outer g L h' l (own' ++ rest) := by
  obtain ⟨B, X, T, hh, F, N, nd⟩ := c
  have N1 : News g L s.heap own := fun p hp => N p (List.mem_append_left _ hp)
  rw [List.map_append, List.nodup_append] at nd
  have hd : ∀ p ∈ rest, ∀ r ∈ own, p.1 ≠ r.1 := fun p hp r hr e => nd.2.2 _ (List.mem_map_of_mem hr) _ (List.mem_map_of_mem hp) e.symm
  obtain ⟨FG, BG, st0, -⟩ := groundX (R := fun _ _ => True) B F N1 hA hf hke
  have st : ∀ b o, g.get? b = some o → (hideAll s.heap (own.map (·.1))).get? b = some o := fun b o e => st0 b o e
  have hr : ∀ p ∈ rest, (hideAll s.heap (own.map (·.1))).get? p.1 = some p.2 := fun p hp => hideAll_get _ (N p (List.mem_append_right _ hp)).1 fun q => by
    obtain ⟨r, hr, e⟩ := List.mem_map.mp q
    exact hd p hp r hr e.symm
  refine ⟨hideAll s.heap (own.map (·.1)), ⟨BG, X.keeps st, T.keeps st, hdp, hun, hhd⟩, fun b o e => of_hideAll _ e, Nat.le_of_eq (hideAll_size _ _), fun p hp => ⟨(N1 p hp).1, hideAll_none _ (List.mem_map_of_mem hp)⟩, st, hr, fun h' own' hk ho hnd => ?_⟩
  obtain ⟨oL, es, ep, hL, hLd, hLk, hLf⟩ := FG.ns
  refine ⟨B, X, T, hh, ⟨⟨oL, es, ep, hk L oL hL, hLd, hLk, hLf⟩, fun b o e => hk b o (st b o e), F.above⟩, fun p hp => ?_, ?_⟩
  · rcases List.mem_append.mp hp with hp | hp
    · refine ⟨(ho p hp).1, fun q => ?_, ?_⟩
      · have := (ho p hp).2; rw [q, hL] at this; cases this
      · cases q : g.get? p.1 with
        | none => rfl
        | some o => have := (ho p hp).2; rw [st _ _ q] at this; cases this
    · exact ⟨hk _ _ (hr p hp), (N p (List.mem_append_right _ hp)).2⟩
  · rw [List.map_append, List.nodup_append]
    refine ⟨hnd, nd.2.1, fun a ha b hb e => ?_⟩
    obtain ⟨p, hp, rfl⟩ := List.mem_map.mp ha
    obtain ⟨r, hr', rfl⟩ := List.mem_map.mp hb
    have := (ho p hp).2
    rw [e, hr r hr'] at this; cases this

theorem use {E : Value → Shared → Prop} {Q : Value → Shared → Prop} (C : Con w mean mg mb d u f args own gf post) (c : Cx w mean mg mb A₀ base outer g L s.heap l news) (sp : Split own news rest)
    (hA : A.frames = some (env :: outer)) (hf : env.frame = some L) (hke : env.scope.kind = .function) (hdp : A.depth + d < recursionLimit) (hun : A.units + u < cLine) (hhd : A.handled = none)
    (hg : ∀ g', (∀ b o, g.get? b = some o → g'.get? b = some o) → (∀ p ∈ rest, g'.get? p.1 = some p.2) → gf g')
    (k : ∀ h' tk' v own', Cx w mean mg mb A₀ base outer g L h' l (own' ++ rest) → post v own' → Q v (up s h' tk')) :
    wpAny (model p0 w) A (call (.ref f) args) Q E s := by
  have c' := c.perm sp.perm
  obtain ⟨g', S, hs, hz, hO, st, hr, back⟩ := ground (d := d) (u := u) c' hA hf hke hdp hun hhd
  have nd := c'.nd
  rw [List.map_append, List.nodup_append] at nd
  exact wpAny_call (C A base (env :: outer) g' s _ S hs hz hO nd.1 (hg g' st hr) fun h' tk' v own' hk ho hnd hp => k h' tk' v own' (back h' own' hk ho hnd) hp)

theorem enter {R : Result → Shared → Prop} {name qual : Str} {params : Arguments} {body : List Stmt} {scope : Scope} {dV kV doc pm cdv ct oc : Value} {an od : Option Addr} {osl : Array (Option Value)} {binds : List (Str × Value)}
    (S : Site w mean mg mb A base outer g d u) (hs : ∀ b o, g.get? b = some o → s.heap.get? b = some o) (hz : g.objs.size ≤ s.heap.objs.size) (hO : Own g s.heap own) (nd : (own.map (·.1)).Nodup)
    (ho : (K w.params).lookup f = some ⟨oc, od, .func (fnOf name qual params body scope dV kV doc pm an cdv ct), osl⟩) (hcd : codeIn (K w.params) cdv qual = true)
    (hbind : BindsTo s (fnOf name qual params body scope dV kV doc pm an cdv ct) ⟨args, []⟩ binds) (hloc : ∀ y ∈ binds, scope.names.lookup y.1 = some .local)
    (hrev : binds.reverse = l) (h : ∀ L' h₁ tk, Cx w mean mg mb A base outer g L' h₁ l own →
      wpAny (model p0 w) (A.deeper (envX qual scope L' f cdv [])) (execs body (envX qual scope L' f cdv [])) (fun fl s' => R (.ok (.ret (match fl with | .ret v => v | _ => .none))) s')
        (fun e s' => wpAny (model p0 w) (A.deeper (envX qual scope L' f cdv [])) (leaving (envX qual scope L' f cdv []) e) (fun _ s'' => R (.error e) s'') (fun e' s'' => R (.error e') s'') s')
        (up s h₁ tk))
    (hcell : ∀ x ∈ scope.names, x.2 ≠ .cell) (hco : scope.isCoroutine = false) (hgen : scope.isGenerator = false) (hk : scope.kind = .function) : codeAny (model p0 w) A (.call (.ref f) ⟨args, []⟩) R s := by
  subst hrev
  have X' := S.X.keeps hs
  refine codeAny_call_def (fd := fnOf name qual params body scope dV kV doc pm an cdv ct) (body := body) (binds := binds) (by have := S.depth; lia) (X' _ _ ho) rfl (S.T.nolimit.keeps hs) (codeRec_of X' hcd) rfl hbind hcell hloc (fun h₁ hns hk₁ => ?_) hco hgen hk
  exact h s.heap.objs.size h₁ _ ⟨S.below, S.X, S.T, S.hh, ⟨hns, fun b o e => hk₁ b o (hs b o e), hz⟩, fun p hp => ⟨hk₁ _ _ (hO p hp).1, Nat.ne_of_lt (Heap.lt_size (hO p hp).1), (hO p hp).2⟩, nd⟩

theorem fin {R : Result → Shared → Prop} {own' : List (Addr × Obj)} {v : Value} {tk' : Nat}
    (k : ∀ h' tk' v own', (∀ b o, g.get? b = some o → h'.get? b = some o) → Own g h' own' → (own'.map (·.1)).Nodup → post v own' → R (.ok (.ret v)) (up s h' tk'))
    (c : Cx w mean mg mb A base outer g L h' l news) (x : own'.Sublist news) (hp : post v own') : R (.ok (.ret v)) (up s h' tk') :=
  let c' := c.drop x
  k h' tk' v own' c.F.keep (fun p q => ⟨(c'.N p q).1, (c'.N p q).2.2⟩) c'.nd hp
end
end Mine

namespace Mine
open PySem PySem.W PySem.Calls PyProof.Rows

noncomputable abbrev Grow (h h' : Heap) : Prop := ∀ b o, h.get? b = some o → h'.get? b = some o
theorem Grow.refl (h : Heap) : Grow h h := fun _ _ e => e
theorem Grow.trans {a b c : Heap} (x : Grow a b) (y : Grow b c) : Grow a c := fun _ _ e => y _ _ (x _ _ e)
theorem Grow.push (h : Heap) (o : Obj) : Grow h (h.push o) := fun _ _ e => Heap.get?_push_of_some o e

structure Bs (w : World) (mean : ExcName → Option Value) (mg mb : Str → Option Value) (A : Around) (h : Heap) : Prop where
  X : (K w.params).In h
  T : Top q (looseW q lo) mean mg mb h
  hh : A.handled = none
theorem Bs.grow {w mean mg mb A h h'} (b : Bs w mean mg mb A h) (g : Grow h h') : Bs w mean mg mb A h' := ⟨b.X.keeps g, b.T.keeps g, b.hh⟩

noncomputable abbrev Loc (L : Addr) (h : Heap) (l : List (Str × Value)) : Prop := h.Ns L (fun y => List.lookup y l)
theorem Loc.grow {L : Addr} {h h' : Heap} {l : List (Str × Value)} (x : Loc L h l) (g : Grow h h') : Loc L h' l := x.keeps g

/-- what an evaluation that only makes new things hands on -/
noncomputable def EV (w : World) (A : Around) (env : Env) (h : Heap) (e : PySem.Expr) (P : Heap → Value → Heap → Prop) : Prop :=
  ∀ (s : Shared), Grow h s.heap → ∀ (Q : Value → Shared → Prop) (E : Value → Shared → Prop),
    (∀ v h' tk, Grow s.heap h' → P s.heap v h' → Q v (up s h' tk)) → wpAny (model p0 w) A (eval e env) Q E s
/-- a test -/
noncomputable def TV (w : World) (A : Around) (env : Env) (h : Heap) (e : PySem.Expr) (b : Bool) : Prop :=
  ∀ (s : Shared), Grow h s.heap → ∀ (Q : Bool → Shared → Prop) (E : Value → Shared → Prop),
    (∀ h' tk, Grow s.heap h' → Q b (up s h' tk)) → wpAny (model p0 w) A (isTrue e env (eval e env)) Q E s
/-- expressions in a row -/
noncomputable def EVs (w : World) (A : Around) (env : Env) (h : Heap) (es : List PySem.Expr) (P : Heap → List Value → Heap → Prop) : Prop :=
  ∀ (s : Shared), Grow h s.heap → ∀ (pos : Pos) (Q : List Value → Shared → Prop) (E : Value → Shared → Prop),
    (∀ vs h' tk, Grow s.heap h' → P s.heap vs h' → Q vs (up s h' tk)) → wpAny (model p0 w) A (spliced (backTo pos (starEach es env))) Q E s
noncomputable def isV (v₀ : Value) : Heap → Value → Heap → Prop := fun _ v _ => v = v₀
noncomputable def isI (z : Int) : Heap → Value → Heap → Prop := fun _ v _ => ∃ t, v = .int z t
noncomputable def newL (xs : List Value) : Heap → Value → Heap → Prop := fun h v h' => ∃ D n, v = .ref D ∧ h.get? D = none ∧ h'.get? D = some (listOf xs.toArray n)
noncomputable abbrev tupOf (xs : List Value) : Obj := { cls := .type "tuple", data := .seq xs.toArray }

section
variable {w : World} {mean : ExcName → Option Value} {mg mb : Str → Option Value} {A : Around} {env : Env} {h h' : Heap} {L a : Addr} {cn : Str} {cs : Scope} {ccd : Value} {cl : List (Str × Addr)} {l : List (Str × Value)} {x : Str} {v : Value} {pos : Pos} {P P' : Heap → Value → Heap → Prop} {e e₁ e₂ : PySem.Expr}

theorem EV.grow (x : EV w A env h e P) (g : Grow h h') : EV w A env h' e P := fun s gs Q E k => x s (g.trans gs) Q E k
theorem EV.mono (x : EV w A env h e P) (i : ∀ h₀ v h', P h₀ v h' → P' h₀ v h') : EV w A env h e P' := fun s gs Q E k => x s gs Q E fun v h' tk g p => k v h' tk g (i _ _ _ p)
theorem TV.grow {b : Bool} (x : TV w A env h e b) (g : Grow h h') : TV w A env h' e b := fun s gs Q E k => x s (g.trans gs) Q E k

theorem EV.loc (F : Loc L h l) (hv : List.lookup x l = some v) (hk : cs.kind = .function) (hx : (envX cn cs L a ccd cl).kindOf x = some .local) (hd : (x == ("__debug__" : Str)) = false) :
    EV w A (envX cn cs L a ccd cl) h (.Name x pos) (isV v) := fun s gs Q E k =>
  wpAny_Name (wpAny_loadName_local hk hx (F.grow gs) hv (k v s.heap s.toks (.refl _) rfl)) hd
theorem EV.cell {c : Addr} {o : Obj} (ho : h.get? c = some o) (hdat : o.data = .cell (some v)) (hc : cl.lookup x = some c) (hk : cs.kind = .function) (hx : (envX cn cs L a ccd cl).kindOf x = some .cell) (hd : (x == ("__debug__" : Str)) = false) :
    EV w A (envX cn cs L a ccd cl) h (.Name x pos) (isV v) := fun s gs Q E k =>
  wpAny_Name (wpAny_loadName_cell hk hx hc ⟨o, gs _ _ ho, hdat⟩ (k v s.heap s.toks (.refl _) rfl)) hd
theorem EV.glob (b : Bs w mean mg mb A h) (e : nsIn (K w.params) mainGlobals x = some (some v)) (hk : cs.kind = .function) (hx : (envX cn cs L a ccd cl).kindOf x = some .globalImplicit) (hd : (x == ("__debug__" : Str)) = false) :
    EV w A (envX cn cs L a ccd cl) h (.Name x pos) (isV v) := fun s gs Q E k => by
  have b' := b.grow gs
  exact Name_function_global hk hx (loadGlobal_global (env := envX cn cs L a ccd cl) b'.T.g (mg_of b'.X b'.T.g e) (k v s.heap s.toks (.refl _) rfl)) hd
theorem EV.builtin (b : Bs w mean mg mb A h) (e : nsIn (K w.params) mainGlobals x = some none) (hv : bootBuiltins x = some v) (hn : x ≠ "__name__") (hk : cs.kind = .function) (hx : (envX cn cs L a ccd cl).kindOf x = some .globalImplicit) (hd : (x == ("__debug__" : Str)) = false) :
    EV w A (envX cn cs L a ccd cl) h (.Name x pos) (isV v) := fun s gs Q E k => by
  have b' := b.grow gs
  exact Name_function_global hk hx (loadGlobal_builtin (env := envX cn cs L a ccd cl) b'.T.g (mg_none_of b'.X b'.T.g e) b'.T.b ((b'.T.builtins x hn).trans hv) (k v s.heap s.toks (.refl _) rfl)) hd

theorem attr_core {o dd : Addr} {C : Addr} {es : List DictEntry} {n : Nat} {name : Str} {s : Shared} {Q E : Value → Shared → Prop} (b : Bs w mean mg mb A s.heap) (ho : s.heap.get? o = some (instObj C dd)) (hd : s.heap.get? dd = some (dictOf es n))
    (hg : plainGet (K w.params) C name = true) (hh : hasDictIn (K w.params) C = true) (ha : findIn (K w.params) (.ref C) name = some Option.none) (hl : getL name es = some (some v)) (hv : handedIn v = true)
    (k : Q v (ut s (s.toks + 1))) : wpAny (model p0 w) A (getAttr (.ref o) name true) Q E s :=
  get_value (K := K w.params) b.X (InstAt.mk (ox := instObj C dd) (od := some (dictOf es n)) ho rfl rfl hd) (plainGet_of hg).1 (findObj_own (od := dictOf es n) hh ha rfl hl) hv k
end
end Mine

namespace Mine
open PySem PySem.W PySem.Calls PyProof.Rows
section
variable {w : World} {mean : ExcName → Option Value} {mg mb : Str → Option Value} {A : Around} {env : Env} {h h' : Heap} {L a : Addr} {cn : Str} {cs : Scope} {ccd : Value} {cl : List (Str × Addr)} {l : List (Str × Value)} {x : Str} {v : Value} {pos : Pos} {P P' : Heap → Value → Heap → Prop} {e e₁ e₂ : PySem.Expr} {y z : Int}

theorem EV.add (a : EV w A env h e₁ (isI y)) (b : EV w A env h e₂ (isI z)) : EV w A env h (.BinOp e₁ .Add e₂ pos) (isI (y + z)) := fun s gs Q E k =>
  wpAny_BinOp (a s gs _ _ fun v₁ h₁ t₁ g₁ p₁ => b _ (gs.trans g₁) _ _ fun v₂ h₂ t₂ g₂ p₂ => by
    obtain ⟨u₁, rfl⟩ := p₁; obtain ⟨u₂, rfl⟩ := p₂
    exact wpAny_add_int (k _ h₂ _ (g₁.trans g₂) ⟨_, rfl⟩))
theorem EV.sub (a : EV w A env h e₁ (isI y)) (b : EV w A env h e₂ (isI z)) : EV w A env h (.BinOp e₁ .Sub e₂ pos) (isI (y - z)) := fun s gs Q E k =>
  wpAny_BinOp (a s gs _ _ fun v₁ h₁ t₁ g₁ p₁ => b _ (gs.trans g₁) _ _ fun v₂ h₂ t₂ g₂ p₂ => by
    obtain ⟨u₁, rfl⟩ := p₁; obtain ⟨u₂, rfl⟩ := p₂
    exact sub_int' (k _ h₂ _ (g₁.trans g₂) ⟨_, rfl⟩))
theorem EV.mul (a : EV w A env h e₁ (isI y)) (b : EV w A env h e₂ (isI z)) (hm : IntMulOk y z) : EV w A env h (.BinOp e₁ .Mult e₂ pos) (isI (y * z)) := fun s gs Q E k =>
  wpAny_BinOp (a s gs _ _ fun v₁ h₁ t₁ g₁ p₁ => b _ (gs.trans g₁) _ _ fun v₂ h₂ t₂ g₂ p₂ => by
    obtain ⟨u₁, rfl⟩ := p₁; obtain ⟨u₂, rfl⟩ := p₂
    exact PySem.P.mul_int (k _ h₂ _ (g₁.trans g₂) ⟨_, rfl⟩) hm)
theorem EV.mod (a : EV w A env h e₁ (isI y)) (b : EV w A env h e₂ (isI z)) (hz : z ≠ 0) : EV w A env h (.BinOp e₁ .Mod e₂ pos) (isI (y.fmod z)) := fun s gs Q E k =>
  wpAny_BinOp (a s gs _ _ fun v₁ h₁ t₁ g₁ p₁ => b _ (gs.trans g₁) _ _ fun v₂ h₂ t₂ g₂ p₂ => by
    obtain ⟨u₁, rfl⟩ := p₁; obtain ⟨u₂, rfl⟩ := p₂
    exact mod_int' hz (k _ h₂ _ (g₁.trans g₂) ⟨_, rfl⟩))
theorem EV.div (a : EV w A env h e₁ (isI y)) (b : EV w A env h e₂ (isI z)) (hz : z ≠ 0) (hp : Builtin.divisionGoesByPylong y z = false) : EV w A env h (.BinOp e₁ .FloorDiv e₂ pos) (isI (y.fdiv z)) := fun s gs Q E k =>
  wpAny_BinOp (a s gs _ _ fun v₁ h₁ t₁ g₁ p₁ => b _ (gs.trans g₁) _ _ fun v₂ h₂ t₂ g₂ p₂ => by
    obtain ⟨u₁, rfl⟩ := p₁; obtain ⟨u₂, rfl⟩ := p₂
    exact floordiv_int hz (k _ h₂ _ (g₁.trans g₂) ⟨_, rfl⟩) (.inl hp))

theorem EV.cmp {op : CmpOp} {b : Bool} (hm : behindInMarks op e₂ = false) (a : EV w A env h e₁ P) (c : EV w A env h e₂ P')
    (ho : ∀ (s : Shared) (h₀ h₁ h₂ : Heap) (v₁ v₂ : Value) (Q : Value → Shared → Prop) (E : Value → Shared → Prop), Grow h h₁ → P h₀ v₁ h₁ → P' h₁ v₂ h₂ → Grow h₁ h₂ → s.heap = h₂ → (∀ tk, Q (.bool b) (ut s tk)) → wpAny (model p0 w) A (compareOp op v₁ v₂) Q E s) :
    EV w A env h (.Compare e₁ [op] [e₂] pos) (isV (.bool b)) := fun s gs Q E k =>
  wpAny_Compare1 (a s gs _ _ fun v₁ h₁ t₁ g₁ p₁ => c _ (gs.trans g₁) _ _ fun v₂ h₂ t₂ g₂ p₂ =>
    ho _ _ h₁ h₂ v₁ v₂ _ _ (gs.trans g₁) p₁ p₂ g₂ rfl fun tk => k _ h₂ tk (g₁.trans g₂) rfl) hm
theorem TV.cmp {op : CmpOp} {b : Bool} (hm : behindInMarks op e₂ = false) (a : EV w A env h e₁ P) (c : EV w A env h e₂ P')
    (ho : ∀ (s : Shared) (h₀ h₁ h₂ : Heap) (v₁ v₂ : Value) (Q : Value → Shared → Prop) (E : Value → Shared → Prop), Grow h h₁ → P h₀ v₁ h₁ → P' h₁ v₂ h₂ → Grow h₁ h₂ → s.heap = h₂ → (∀ tk, Q (.bool b) (ut s tk)) → wpAny (model p0 w) A (compareOp op v₁ v₂) Q E s) :
    TV w A env h (.Compare e₁ [op] [e₂] pos) b := fun s gs Q E k =>
  wpAny_isTrue_Compare1 (a s gs _ _ fun v₁ h₁ t₁ g₁ p₁ => c _ (gs.trans g₁) _ _ fun v₂ h₂ t₂ g₂ p₂ =>
    ho _ _ h₁ h₂ v₁ v₂ _ _ (gs.trans g₁) p₁ p₂ g₂ rfl fun tk => wpAny_truthy_bool (k h₂ tk (g₁.trans g₂))) hm
/-- what a comparison of two values comes to -/
noncomputable def CmpI (op : CmpOp) (y z : Int) (b : Bool) : Prop := ∀ (w : World) (A : Around) (s : Shared) (t u : Tok) (Q : Value → Shared → Prop) (E : Value → Shared → Prop), (∀ tk, Q (.bool b) (ut s tk)) → wpAny (model p0 w) A (compareOp op (.int y t) (.int z u)) Q E s
theorem CmpI.lt : CmpI .Lt y z (decide (y < z)) := fun _ _ s _ _ _ _ k => PySem.P.lt_int (k s.toks)
theorem CmpI.le : CmpI .LtE y z (decide (y ≤ z)) := fun _ _ s _ _ _ _ k => PySem.P.le_int (k s.toks)
theorem CmpI.gt : CmpI .Gt y z (decide (y > z)) := fun _ _ s _ _ _ _ k => PySem.P.gt_int (k s.toks)
theorem CmpI.ge : CmpI .GtE y z (decide (y ≥ z)) := fun _ _ s _ _ _ _ k => PySem.P.ge_int (k s.toks)
theorem CmpI.eq : CmpI .Eq y z (y == z) := fun _ _ s _ _ _ _ k => PySem.P.eq_int (k s.toks)
theorem CmpI.ne : CmpI .NotEq y z (y != z) := fun _ _ s _ _ _ _ k => PySem.P.ne_int (k s.toks)
theorem TV.not {b : Bool} (a : TV w A env h e b) : TV w A env h (.UnaryOp .Not e pos) (!b) := fun s gs Q E k => isTrue_not (a s gs _ _ k)
theorem TV.nil_and : TV w A env h (.BoolOp .And [] pos) true := fun s gs Q E k => isTrue_and_nil (k s.heap s.toks (.refl _))
theorem TV.nil_or : TV w A env h (.BoolOp .Or [] pos) false := fun s gs Q E k => isTrue_or_nil (k s.heap s.toks (.refl _))
theorem TV.and_t {b : Bool} {es : List PySem.Expr} (a : TV w A env h e true) (c : TV w A env h (.BoolOp .And es pos) b) : TV w A env h (.BoolOp .And (e :: es) pos) b := fun s gs Q E k =>
  isTrue_and (a s gs _ _ fun h₁ t₁ g₁ => c _ (gs.trans g₁) _ _ fun h₂ t₂ g₂ => k h₂ t₂ (g₁.trans g₂))
theorem TV.and_f {es : List PySem.Expr} (a : TV w A env h e false) : TV w A env h (.BoolOp .And (e :: es) pos) false := fun s gs Q E k =>
  isTrue_and (a s gs _ _ fun h₁ t₁ g₁ => k h₁ t₁ g₁)
theorem TV.or_t {es : List PySem.Expr} (a : TV w A env h e true) : TV w A env h (.BoolOp .Or (e :: es) pos) true := fun s gs Q E k =>
  isTrue_or (a s gs _ _ fun h₁ t₁ g₁ => k h₁ t₁ g₁)
theorem TV.or_f {b : Bool} {es : List PySem.Expr} (a : TV w A env h e false) (c : TV w A env h (.BoolOp .Or es pos) b) : TV w A env h (.BoolOp .Or (e :: es) pos) b := fun s gs Q E k =>
  isTrue_or (a s gs _ _ fun h₁ t₁ g₁ => c _ (gs.trans g₁) _ _ fun h₂ t₂ g₂ => k h₂ t₂ (g₁.trans g₂))
theorem TV.and2 {b₁ b₂ : Bool} (a : TV w A env h e₁ b₁) (c : b₁ = true → TV w A env h e₂ b₂) : TV w A env h (.BoolOp .And [e₁, e₂] pos) (b₁ && b₂) := by
  cases b₁ with
  | false => exact TV.and_f a
  | true => cases b₂ with
    | false => exact TV.and_t a (TV.and_f (c rfl))
    | true => exact TV.and_t a (TV.and_t (c rfl) TV.nil_and)
theorem TV.or2 {b₁ b₂ : Bool} (a : TV w A env h e₁ b₁) (c : b₁ = false → TV w A env h e₂ b₂) : TV w A env h (.BoolOp .Or [e₁, e₂] pos) (b₁ || b₂) := by
  cases b₁ with
  | true => exact TV.or_t a
  | false => cases b₂ with
    | true => exact TV.or_f a (TV.or_t (c rfl))
    | false => exact TV.or_f a (TV.or_f (c rfl) TV.nil_or)
theorem TV.plain {b : Bool} (a : EV w A env h e (isV (.bool b))) (he : ∀ whole, isTrue e env whole = (do let v ← whole; standAt e.pos; holding [v] (truthy v))) : TV w A env h e b := fun s gs Q E k =>
  isTrue_plain (a s gs _ _ fun v h₁ t₁ g₁ p₁ => by cases p₁; exact wpAny_truthy_bool (k h₁ t₁ g₁)) (he _)

theorem EVs.nil : EVs w A env h [] (fun _ vs _ => vs = []) := fun s gs p Q E k => spliced_none (k [] s.heap s.toks (.refl _) rfl)
theorem EVs.cons {es : List PySem.Expr} {P₁ : Heap → Value → Heap → Prop} {P₂ : Heap → List Value → Heap → Prop} (he : starEach (e :: es) env = (false, eval e env) :: starEach es env) (a : EV w A env h e P₁) (c : EVs w A env h es P₂) :
    EVs w A env h (e :: es) (fun h₀ vs h₂ => ∃ v ws h₁, vs = v :: ws ∧ P₁ h₀ v h₁ ∧ P₂ h₁ ws h₂ ∧ Grow h₁ h₂) := fun s gs p Q E k =>
  spliced_more (a s gs _ _ fun v h₁ t₁ g₁ p₁ => c _ (gs.trans g₁) p _ _ fun ws h₂ t₂ g₂ p₂ => k _ h₂ t₂ (g₁.trans g₂) ⟨v, ws, h₁, rfl, p₁, p₂, g₂⟩) he

theorem EV.tup {es : List PySem.Expr} {k' : Nat} {PP : Heap → List Value → Heap → Prop} (a : EVs w A env h es PP) (hsz : ∀ h₀ vs h₁, PP h₀ vs h₁ → vs.length ≤ sizeLine) :
    EV w A env h (.Tuple es k' pos) (fun h₀ v h' => ∃ vs h₁ D, v = .ref D ∧ PP h₀ vs h₁ ∧ Grow h₁ h' ∧ h₁.get? D = none ∧ h'.get? D = some (tupOf vs)) := fun s gs Q E k =>
  Tuple_ (a s gs pos _ _ fun vs h₁ t₁ g₁ p₁ => by
    refine wpAny_newObj_type (k _ _ _ (g₁.trans (Grow.push h₁ _)) ⟨vs, h₁, h₁.objs.size, rfl, p₁, Grow.push h₁ _, ?_, Heap.get?_push_size _ rfl⟩) (by show vs.toArray.size ≤ sizeLine; rw [List.size_toArray]; exact hsz _ _ _ p₁)
    cases q : h₁.get? h₁.objs.size with
    | none => rfl
    | some o => exact absurd (Heap.lt_size q) (Nat.lt_irrefl _))
theorem EV.lst {es : List PySem.Expr} {PP : Heap → List Value → Heap → Prop} (a : EVs w A env h es PP) (hsz : ∀ h₀ vs h₁, PP h₀ vs h₁ → vs.length ≤ sizeLine) :
    EV w A env h (.List es pos) (fun h₀ v h' => ∃ vs h₁ D, v = .ref D ∧ PP h₀ vs h₁ ∧ Grow h₁ h' ∧ h₁.get? D = none ∧ h'.get? D = some (listOf vs.toArray 0)) := fun s gs Q E k =>
  List_ (a s gs pos _ _ fun vs h₁ t₁ g₁ p₁ => by
    refine wpAny_newObj_type (k _ _ _ (g₁.trans (Grow.push h₁ _)) ⟨vs, h₁, h₁.objs.size, rfl, p₁, Grow.push h₁ _, ?_, Heap.get?_push_size _ rfl⟩) (by show vs.toArray.size ≤ sizeLine; rw [List.size_toArray]; exact hsz _ _ _ p₁)
    cases q : h₁.get? h₁.objs.size with
    | none => rfl
    | some o => exact absurd (Heap.lt_size q) (Nat.lt_irrefl _))

structure Ok (P : Heap → Value → Heap → Prop) : Prop where
  anti : ∀ {h₀ h₁ : Heap} {v : Value} {h' : Heap}, Grow h₀ h₁ → P h₁ v h' → P h₀ v h'
  mono : ∀ {h₀ : Heap} {v : Value} {h' h'' : Heap}, Grow h' h'' → P h₀ v h' → P h₀ v h''
theorem none_anti {h₀ h₁ : Heap} {D : Addr} (g : Grow h₀ h₁) (e : h₁.get? D = Option.none) : h₀.get? D = Option.none := by
  cases q : h₀.get? D with
  | none => rfl
  | some o => rw [g _ _ q] at e; cases e
theorem ok_I {z : Int} : Ok (isI z) := ⟨fun _ p => p, fun _ p => p⟩

/-- a call of a built-in by name -/
theorem EV.callB {id : String} {f : Pos} {e₀ : PySem.Expr} {es : List PySem.Expr} {PP : Heap → List Value → Heap → Prop} (ok : Ok P') (hf : EV w A env h (.Name x f) (isV (.builtin id))) (he : starEach (e₀ :: es) env = (false, eval e₀ env) :: starEach es env) (hp : (backTo pos (starEach es env)).any (·.1) = false)
    (hc : eval (.Call (.Name x f) (e₀ :: es) [] pos) env = (do callWith pos (← eval (.Name x f) env) [] (backTo pos (starEach (e₀ :: es) env)) (backToKw pos (keywordEach [] env))))
    (a : EVs w A env h (e₀ :: es) PP) (ho : ∀ (s : Shared) (h₀ : Heap) (vs : List Value) (Q : Value → Shared → Prop) (E : Value → Shared → Prop), Grow h h₀ → Grow h₀ s.heap → PP h₀ vs s.heap → (∀ v h' tk, Grow s.heap h' → P' h₀ v h' → Q v (up s h' tk)) → wpAny (model p0 w) A (call (.builtin id) vs) Q E s) :
    EV w A env h (.Call (.Name x f) (e₀ :: es) [] pos) P' := fun s gs Q E k =>
  Call_ (hf s gs _ _ fun v h₀ t₀ g₀ p₀ => by
    cases p₀
    refine callWith_builtin1 (a _ (gs.trans g₀) _ _ _ fun vs h₁ t₁ g₁ p₁ => ?_) he hp
    exact ho _ _ vs _ _ (gs.trans g₀) g₁ p₁ fun v h' tk g p => k _ h' tk (g₀.trans (g₁.trans g)) (ok.anti g₀ p)) hc
/-- a call of a type by name -/
theorem EV.callT {id : String} {f : Pos} {e₀ : PySem.Expr} (ok : Ok P') (hf : EV w A env h (.Name x f) (isV (.type id))) (he : starEach [e₀] env = (false, eval e₀ env) :: starEach [] env)
    (hc : eval (.Call (.Name x f) [e₀] [] pos) env = (do callWith pos (← eval (.Name x f) env) [] (backTo pos (starEach [e₀] env)) (backToKw pos (keywordEach [] env))))
    (a : EV w A env h e₀ P) (ho : ∀ (s : Shared) (h₀ : Heap) (v₁ : Value) (Q : Value → Shared → Prop) (E : Value → Shared → Prop), Grow h h₀ → Grow h₀ s.heap → P h₀ v₁ s.heap → (∀ v h' tk, Grow s.heap h' → P' h₀ v h' → Q v (up s h' tk)) → wpAny (model p0 w) A (call (.type id) [v₁]) Q E s) :
    EV w A env h (.Call (.Name x f) [e₀] [] pos) P' := fun s gs Q E k =>
  Call_ (hf s gs _ _ fun v h₀ t₀ g₀ p₀ => by
    cases p₀
    refine callWith_type1 (spliced_more (a _ (gs.trans g₀) _ _ fun v₁ h₁ t₁ g₁ p₁ => spliced_none ?_) he) he rfl
    exact ho _ _ v₁ _ _ (gs.trans g₀) g₁ p₁ fun v h' tk g p => k _ h' tk (g₀.trans (g₁.trans g)) (ok.anti g₀ p)) hc
end
end Mine

namespace Mine
open PySem PySem.W PySem.Calls PyProof.Rows

theorem upd_of {d : Addr} {o o' : Obj} : ∀ {news : List (Addr × Obj)} {i : Nat}, (news.map (·.1)).Nodup → news[i]? = some (d, o) → Upd d o o' news (news.set i (d, o'))
  | [], _, _, e => by simp at e
  | p :: r, 0, nd, e => by
    simp only [List.getElem?_cons_zero, Option.some.injEq] at e
    subst e
    rw [List.map_cons, List.nodup_cons] at nd
    exact .head fun p hp q => nd.1 (List.mem_map.mpr ⟨p, hp, q⟩)
  | p :: r, i + 1, nd, e => by
    simp only [List.getElem?_cons_succ] at e
    rw [List.map_cons, List.nodup_cons] at nd
    refine .tail (fun q => nd.1 ?_) (upd_of nd.2 e)
    rw [q]
    exact List.mem_map_of_mem (f := (·.1)) (List.mem_of_getElem? e)
theorem nodup_set {d : Addr} {o o' : Obj} : ∀ {news : List (Addr × Obj)} {i : Nat}, news[i]? = some (d, o) → (news.set i (d, o')).map (·.1) = news.map (·.1)
  | [], _, e => by simp at e
  | p :: r, 0, e => by
    simp only [List.getElem?_cons_zero, Option.some.injEq] at e
    subst e; rfl
  | p :: r, i + 1, e => by
    simp only [List.getElem?_cons_succ] at e
    simp only [List.set_cons_succ, List.map_cons, nodup_set e]

section
variable {w : World} {mean : ExcName → Option Value} {mg mb : Str → Option Value} {A : Around} {base g : Heap} {outer : List Env} {env : Env} {s : Shared} {h h' : Heap} {L a f : Addr} {cn : Str} {cs : Scope} {ccd : Value} {cl : List (Str × Addr)} {l : List (Str × Value)} {news : List (Addr × Obj)} {x : Str} {v : Value} {pos : Pos} {P P' : Heap → Value → Heap → Prop} {e e₁ e₂ : PySem.Expr} {y z : Int} {Q : Flow → Shared → Prop} {E : Value → Shared → Prop} {rest : List Stmt}

theorem Cx.bs (c : Cx w mean mg mb A base outer g L h l news) : Bs w mean mg mb (A.deeper env) h := ⟨c.X.keeps c.F.keep, c.T.keeps c.F.keep, c.hh⟩
theorem Cx.loc (c : Cx w mean mg mb A base outer g L h l news) : Loc L h l := c.F.ns
theorem Cx.at {o : Obj} (c : Cx w mean mg mb A base outer g L h l news) (i : Nat) (hi : news[i]? = some (a, o)) : h.get? a = some o := (c.N _ (List.mem_of_getElem? hi)).1
theorem Cx.set {o o' : Obj} {i : Nat} (c : Cx w mean mg mb A base outer g L h l news) (hi : news[i]? = some (a, o)) (hs : Heap.SameBut a h h') (ho : h'.get? a = some o') : Cx w mean mg mb A base outer g L h' l (news.set i (a, o')) := by
  have z := c.N _ (List.mem_of_getElem? hi)
  obtain ⟨pre, post, e1, e2, h1, h2⟩ := (upd_of (o' := o') c.nd hi).split
  refine ⟨c.B, c.X, c.T, c.hh, c.F.change hs z.2.1 z.2.2, ?_, (nodup_set (o' := o') hi) ▸ c.nd⟩
  rw [e2]
  exact news_set (e1 ▸ c.N) h1 h2 hs ho
theorem Cx.store (c : Cx w mean mg mb A base outer g L h l news) (hn : h'.Ns L (fun y => if y = x then some v else List.lookup y l)) (hs : Heap.SameBut L h h') : Cx w mean mg mb A base outer g L h' ((x, v) :: l) news := by
  refine ⟨c.B, c.X, c.T, c.hh, ?_, c.N.set hs, c.nd⟩
  have e : (fun y => List.lookup y ((x, v) :: l)) = fun y => if y = x then some v else List.lookup y l := by
    funext y
    rw [List.lookup_cons]
    by_cases q : y = x
    · subst q; simp
    · have : (y == x) = false := by simpa using q
      rw [this, if_neg q]
  rw [e]
  exact c.F.set hn hs

theorem st_seq {st : Stmt} (k : wpAny (model p0 w) A (exec st env) (fun fl s' => match fl with | .next => wpAny (model p0 w) A (execs rest env) Q E s' | fl => Q fl s') E s) : wpAny (model p0 w) A (execs (st :: rest) env) Q E s := wpAny_execs_cons k
theorem st_nil (k : Q .next s) : wpAny (model p0 w) A (execs [] env) Q E s := wpAny_execs_nil k




theorem evalArgs_of {fv : Value} {as : List PySem.Expr} {p : Pos} {Q : Args → Shared → Prop} (he : as = [] ∨ ∃ e r, as = e :: r ∧ starEach (e :: r) env = (false, eval e env) :: starEach r env)
    (k : wpAny (model p0 w) A (spliced (backTo p (starEach as env))) (fun vs s' => Q ⟨vs, []⟩ s') E s) : wpAny (model p0 w) A (evalArgs fv true (backTo p (starEach as env)) []) Q E s := by
  rcases he with rfl | ⟨e, r, rfl, he⟩
  · unfold evalArgs
    show wpAny (model p0 w) A (spliced [] >>= _) Q E s
    refine wpAny_bind (wpAny_mono k (fun vs s' h' => wpAny_bind (wpAny_pure ?_)) fun _ _ x => x)
    refine wpAny_holding ?_
    exact wpAny_bind (wpAny_pure (wpAny_bind (wpAny_pure (wpAny_pure h'))))
  · rw [he] at k ⊢
    exact Calls.evalArgs_plain k
end
end Mine

namespace Mine
open PySem PySem.W PySem.Calls PyProof.Rows

section
variable {prog : Program} {w : World} {A : Around} {E : Value → Shared → Prop} {s : Shared}
theorem letGo_ok {M : Model} {vs keep : List Value} {Q : Unit → Shared → Prop} (h : Q () s) : wpAny M A (letGo vs keep) Q E s := by
  induction vs with
  | nil => exact wpAny_pure h
  | cons v r ih =>
    unfold letGo
    exact wpAny_bind (wpAny_holding (wpAny_point ih))

theorem mapSeq_list (f : Array Value → Array Value) (its : Array Value) (n : Nat) : ∃ n', Obj.mapSeq f (listOf its n) = listOf (f its) n' := by
  unfold Obj.mapSeq
  dsimp only
  split
  · exact ⟨_, rfl⟩
  · exact ⟨_, rfl⟩

theorem big_no {k : Nat} (h : k ≤ sizeLine) : ¬ (Builtin.List.listTooLong k = true) := by unfold Builtin.List.listTooLong; simp only [decide_eq_true_eq]; lia
theorem fit1 {a b n m k : Nat} (q : a ≤ b) (h : n + m ≤ k) : min a n + m + (n - b) ≤ k + 1 := by
  rcases Nat.le_total n b with c | c
  · rw [Nat.sub_eq_zero_of_le c, Nat.add_zero]; exact Nat.le_succ_of_le (Nat.le_trans (Nat.add_le_add_right (Nat.min_le_right ..) m) h)
  · rw [Nat.min_eq_left (Nat.le_trans q c)]; lia
theorem fit {items new : Array Value} {a b : Nat} (q : a ≤ b) (h : items.size + new.size ≤ sizeLine) : (items.extract 0 a ++ new ++ items.extract b items.size).size ≤ sizeLine + 1 := by
  rw [Array.size_append, Array.size_append, Array.size_extract, Array.size_extract, Nat.min_self, Nat.sub_zero]; exact fit1 q h
theorem ite_both {α β : Type} {c : Prop} [Decidable c] {m1 m2 : Sem α} {k : α → Sem β} {v : α} {s : Shared} {E : Value → Shared → Prop} {A : Around} {P} (h1 : ∀ {Q' : α → Shared → Prop}, Q' v s → wpAny P A m1 Q' E s) (h2 : ∀ {Q' : α → Shared → Prop}, Q' v s → wpAny P A m2 Q' E s) {Q : β → Shared → Prop} (h : wpAny P A (k v) Q E s) : wpAny P A (if c then m1 >>= k else m2 >>= k) Q E s := by
  split
  · exact wpAny_bind (h1 h)
  · exact wpAny_bind (h2 h)
theorem setItem_slice {l sl mv : Addr} {items new : Array Value} {n nn : Nat} {vl vu : Value} {lo hi : Option Int} {start stop : Int} {Q : Unit → Shared → Prop} (hl : s.heap.get? l = some (listOf items n))
    (hm : s.heap.get? mv = some (listOf new nn)) (hs : s.heap.IsSliceOf sl vl vu .none) (pl : IsPart vl lo) (pu : IsPart vu hi) (hb : sliceBounds lo hi none items.size = (start, stop, 1)) (hsz : items.size + new.size ≤ sizeLine)
    (h : ∀ h' n', Heap.SameBut l s.heap h' → h'.get? l = some (listOf (items.extract 0 start.toNat ++ new ++ items.extract (max start stop).toNat items.size) n') → Q () (uh s h')) :
    wpAny (model prog w) A (setItem (.ref l) (.ref sl) (.ref mv)) Q E s := by
  obtain ⟨os, hos, hcs, hds⟩ := id hs
  have hTs : s.TypeIs (.ref sl) "slice" := ⟨os, hos, hcs⟩
  have hli : s.heap.IsList l items := ⟨_, hl, rfl, n, rfl⟩
  have hmi : s.heap.IsList mv new := ⟨_, hm, rfl, nn, rfl⟩
  unfold setItem
  try with_reducible refine wpAny_holding ?_
  first | refine wpAny_bind (wpAny_pure ?_) | skip
  refine wpAny_bind (wpAny_sequenceKey hli.typeIs (by decide) ?_)
  refine wpAny_bind (wpAny_callSpecial?_slot (name := Str.ofString "__setitem__") hli.typeIs slot_list_setitem
    (wpAny_call_entry slot_list_setitem hli.typeIs entry_list_setitem ?_ (args_list_setitem _ _ _)))
  show wpAny _ _ (Builtin.List.listSubscript? (.ref sl) >>= _) _ _ s
  refine wpAny_bind ?_
  unfold Builtin.List.listSubscript?
  refine wpAny_bind (wpAny_specialOf hTs slice_no_index ?_)
  simp only [Option.isNone_none, if_true]
  refine wpAny_pure ?_
  show wpAny _ _ (typeOf (.ref sl) >>= _) _ _ s
  refine wpAny_bind (wpAny_typeOf hTs ?_)
  rw [if_neg (by decide)]
  rw [listSliceParts_eq]
  have hstep : ¬ ((rawPart none == rawInt 0) = true) := Bool.false_ne_true
  refine wpAny_bind (wpAny_bind (wpAny_field hos hds (x := .none) rfl (wpAny_bind (wpAny_listPart .none ?_))))
  rw [if_neg hstep]
  refine wpAny_bind (wpAny_field hos hds (x := vl) rfl (wpAny_bind (wpAny_listPart pl ?_)))
  refine wpAny_bind (wpAny_field hos hds (x := vu) rfl (wpAny_bind (wpAny_listPart pu (wpAny_pure ?_))))
  dsimp only
  have items_l : ∀ {Q' : Array Value → Shared → Prop}, Q' items s → wpAny (model prog w) A.in1 (Builtin.List.listItems (.ref l)) Q' E s := fun hq => by
    unfold Builtin.List.listItems
    exact wpAny_bind (wpAny_seqItems hl rfl (wpAny_pure hq))
  have items_v : ∀ {Q' : Array Value → Shared → Prop}, Q' new s → wpAny (model prog w) A.in1 (Builtin.List.listItems (.ref mv)) Q' E s := fun hq => by
    unfold Builtin.List.listItems
    exact wpAny_bind (wpAny_seqItems hm rfl (wpAny_pure hq))
  have all_v : ∀ {Q' : Array Value → Shared → Prop} (msg : String), Q' new s → wpAny (model prog w) A.in1 (Builtin.List.listAllItems (.ref mv) msg) Q' E s := fun msg hq => by
    unfold Builtin.List.listAllItems
    refine wpAny_bind (wpAny_typeOf hmi.typeIs ?_)
    rw [if_pos (by decide)]
    exact items_v hq
  obtain ⟨n', e'⟩ := mapSeq_list (fun xs => xs.extract 0 start.toNat ++ new ++ xs.extract (max start stop).toNat xs.size) items n
  have big := big_no hsz
  refine ite_both (fun hq => items_v hq) (fun hq => all_v _ hq) (wpAny_bind (items_l (wpAny_bind (wpAny_of_eq (sliceIndices_raw lo hi none items.size (by simp)) ?_))))
  rw [hb]
  dsimp only
  rw [if_pos (by decide)]
  refine wpAny_bind (wpAny_rule ?_)
  rw [if_neg big]
  refine wpAny_bind (m := updateSeq l _) (wpAny_updateSeq hl rfl (wpAny_bind (letGo_ok (wpAny_pure ⟨.none, rfl, wpAny_pure (h _ n' (Heap.SameBut.update ..) ?_)⟩))) (Nat.le_trans (Nat.le_add_right ..) hsz) (fit (Int.toNat_le_toNat (Int.le_max_left ..)) hsz))
  rw [Heap.get?_update_self _ hl (by rw [e']; rfl), e']
end
end Mine

namespace Mine
open PySem PySem.W PySem.Calls PyProof.Rows

theorem pk {a b n i : Nat} (q : a + i < n) : i < min b n - min a n ↔ i < b - a := by
  rw [Nat.lt_sub_iff_add_lt, Nat.lt_sub_iff_add_lt, Nat.min_eq_left (Nat.le_of_lt (Nat.lt_of_le_of_lt (Nat.le_add_right a i) q)), Nat.lt_min, Nat.add_comm i a]
  exact ⟨fun h => h.1, fun h => ⟨h, q⟩⟩
theorem mn {y : Int} {n : Nat} (h : 0 ≤ y) : max 0 (min y (n : Int)) = ((min y.toNat n : Nat) : Int) := by
  obtain ⟨k, rfl⟩ := Int.eq_ofNat_of_zero_le h
  rw [Int.toNat_natCast, Int.max_eq_right (Int.le_min.mpr ⟨h, Int.natCast_nonneg n⟩)]
  rcases Nat.le_total k n with q | q
  · rw [Nat.min_eq_left q, Int.min_eq_left (Int.ofNat_le.mpr q)]
  · rw [Nat.min_eq_right q, Int.min_eq_right (Int.ofNat_le.mpr q)]
theorem pick_both (xs : List Value) {y z : Int} (h0 : 0 ≤ y) (h1 : 0 ≤ z) : slicePick xs.toArray (some y) (some z) none = ((xs.take z.toNat).drop y.toNat).toArray := by
  have e : sliceBounds (some y) (some z) none xs.toArray.size = (((min y.toNat xs.toArray.size : Nat) : Int), ((min z.toNat xs.toArray.size : Nat) : Int), 1) := by
    simp only [sliceBounds, Option.getD_none, show (1 : Int) > 0 by decide, if_true, if_neg (show ¬ (y < 0) by lia), if_neg (show ¬ (z < 0) by lia)]
    congr 1
    · exact mn h0
    · congr 1
      exact mn h1
  rw [kmk_pick_nat _ e, List.size_toArray]
  congr 1
  show ((xs.drop (min y.toNat xs.length)).take (min z.toNat xs.length - min y.toNat xs.length)) = _
  rw [List.drop_take, kmk_drop_min]
  apply List.ext_getElem?
  intro i
  rw [List.getElem?_take, List.getElem?_take, List.getElem?_drop]
  by_cases q : y.toNat + i < xs.length
  · congr 1
    exact propext (pk q)
  · rw [List.getElem?_eq_none (Nat.le_of_not_lt q)]; simp
theorem pick_upto (xs : List Value) {z : Int} (h1 : 0 ≤ z) : slicePick xs.toArray none (some z) none = (xs.take z.toNat).toArray := by
  have e : sliceBounds none (some z) none xs.toArray.size = (((0 : Nat) : Int), ((min z.toNat xs.toArray.size : Nat) : Int), 1) := by
    simp only [sliceBounds, Option.getD_none, show (1 : Int) > 0 by decide, if_true, if_neg (show ¬ (z < 0) by lia)]
    congr 1
    congr 1
    exact mn h1
  rw [kmk_pick_nat _ e, List.size_toArray]
  congr 1
  show ((xs.drop 0).take (min z.toNat xs.length - 0)) = _
  rw [List.drop_zero, Nat.sub_zero, kmk_take_min]
theorem pick_from (xs : List Value) {y : Int} (h0 : 0 ≤ y) : slicePick xs.toArray (some y) none none = (xs.drop y.toNat).toArray := by
  have e : sliceBounds (some y) none none xs.toArray.size = (((min y.toNat xs.toArray.size : Nat) : Int), ((xs.toArray.size : Nat) : Int), 1) := by
    simp only [sliceBounds, Option.getD_none, show (1 : Int) > 0 by decide, if_true, if_neg (show ¬ (y < 0) by lia)]
    congr 1
    exact mn h0
  rw [kmk_pick_nat _ e, List.size_toArray]
  congr 1
  show ((xs.drop (min y.toNat xs.length)).take (xs.length - min y.toNat xs.length)) = _
  rw [kmk_drop_min, List.take_of_length_le (by rw [List.length_drop]; exact Nat.sub_le_sub_left (Nat.min_le_left ..) _)]

section
variable {w : World} {mean : ExcName → Option Value} {mg mb : Str → Option Value} {A : Around} {base g : Heap} {outer : List Env} {env : Env} {s : Shared} {h h' : Heap} {L a f : Addr} {cn : Str} {cs : Scope} {ccd : Value} {cl : List (Str × Addr)} {l : List (Str × Value)} {news : List (Addr × Obj)} {x : Str} {v : Value} {p pos : Pos} {P P' : Heap → Value → Heap → Prop} {e e₁ e₂ elo ehi : PySem.Expr} {y z : Int} {xs ys : List Value} {c : Addr} {n : Nat}

theorem isL (ho : h.get? c = some (listOf xs.toArray n)) : h.IsList c xs.toArray := ⟨_, ho, rfl, n, rfl⟩
theorem get_none_size (h : Heap) : h.get? h.objs.size = none := by
  cases q : h.get? h.objs.size with
  | none => rfl
  | some o => exact absurd (Heap.lt_size q) (Nat.lt_irrefl _)

theorem EV.slice (ho : h.get? c = some (listOf xs.toArray n)) (hz : xs.length ≤ sizeLine) (h0 : 0 ≤ y) (h1 : 0 ≤ z) (ht : ∀ o r, letTemporaryGo e₁ o r = pure ()) (a : EV w A env h e₁ (isV (.ref c))) (lo : EV w A env h elo (isI y)) (hi : EV w A env h ehi (isI z)) :
    EV w A env h (.Subscript e₁ (.Slice (some elo) (some ehi) none p) pos) (newL ((xs.take z.toNat).drop y.toNat)) := fun s gs Q E k =>
  wpAny_Subscript_list_slice (a s gs _ _ fun v₁ h₁ t₁ g₁ p₁ => lo _ (gs.trans g₁) _ _ fun v₂ h₂ t₂ g₂ p₂ => hi _ (gs.trans (g₁.trans g₂)) _ _ fun v₃ h₃ t₃ g₃ p₃ => by
    cases p₁
    obtain ⟨u₂, rfl⟩ := p₂
    obtain ⟨u₃, rfl⟩ := p₃
    have gg := g₁.trans (g₂.trans g₃)
    refine ⟨c, xs.toArray, some y, some z, rfl, isL ((gs.trans gg) _ _ ho), by rw [List.size_toArray]; exact hz, .int _ _, .int _ _, ?_⟩
    rw [pick_both xs h0 h1]
    have g₄ : Grow h₃ (h₃.push { cls := .type "slice", data := .fields #[.int y u₂, .int z u₃, .none] }) := Grow.push _ _
    have hs : (h₃.push { cls := .type "slice", data := .fields #[.int y u₂, .int z u₃, .none] }).objs.size = h₃.objs.size + 1 := Heap.size_push ..
    refine k _ _ t₃ (gg.trans (g₄.trans (Grow.push _ _))) ⟨_, 0, rfl, none_anti (gg.trans g₄) (hs ▸ get_none_size _), ?_⟩
    have := Heap.get?_push_size (h₃.push { cls := .type "slice", data := .fields #[.int y u₂, .int z u₃, .none] }) (o := { cls := .type "list", data := .seq ((xs.take z.toNat).drop y.toNat).toArray }) rfl
    rw [hs] at this
    exact this) ht
theorem EV.upto (ho : h.get? c = some (listOf xs.toArray n)) (hz : xs.length ≤ sizeLine) (h1 : 0 ≤ z) (ht : ∀ o r, letTemporaryGo e₁ o r = pure ()) (a : EV w A env h e₁ (isV (.ref c))) (hi : EV w A env h ehi (isI z)) :
    EV w A env h (.Subscript e₁ (.Slice none (some ehi) none p) pos) (newL (xs.take z.toNat)) := fun s gs Q E k =>
  wpAny_Subscript_list_slice (a s gs _ _ fun v₁ h₁ t₁ g₁ p₁ => wpAny_pure (hi _ (gs.trans g₁) _ _ fun v₃ h₃ t₃ g₃ p₃ => by
    cases p₁
    obtain ⟨u₃, rfl⟩ := p₃
    have gg := g₁.trans g₃
    refine ⟨c, xs.toArray, none, some z, rfl, isL ((gs.trans gg) _ _ ho), by rw [List.size_toArray]; exact hz, .none, .int _ _, ?_⟩
    rw [pick_upto xs h1]
    have g₄ : Grow h₃ (h₃.push { cls := .type "slice", data := .fields #[.none, .int z u₃, .none] }) := Grow.push _ _
    have hs : (h₃.push { cls := .type "slice", data := .fields #[.none, .int z u₃, .none] }).objs.size = h₃.objs.size + 1 := Heap.size_push ..
    refine k _ _ t₃ (gg.trans (g₄.trans (Grow.push _ _))) ⟨_, 0, rfl, none_anti (gg.trans g₄) (hs ▸ get_none_size _), ?_⟩
    have := Heap.get?_push_size (h₃.push { cls := .type "slice", data := .fields #[.none, .int z u₃, .none] }) (o := { cls := .type "list", data := .seq (xs.take z.toNat).toArray }) rfl
    rw [hs] at this
    exact this)) ht
theorem EV.from (ho : h.get? c = some (listOf xs.toArray n)) (hz : xs.length ≤ sizeLine) (h0 : 0 ≤ y) (ht : ∀ o r, letTemporaryGo e₁ o r = pure ()) (a : EV w A env h e₁ (isV (.ref c))) (lo : EV w A env h elo (isI y)) :
    EV w A env h (.Subscript e₁ (.Slice (some elo) none none p) pos) (newL (xs.drop y.toNat)) := fun s gs Q E k =>
  wpAny_Subscript_list_slice (a s gs _ _ fun v₁ h₁ t₁ g₁ p₁ => lo _ (gs.trans g₁) _ _ fun v₃ h₃ t₃ g₃ p₃ => wpAny_pure (by
    cases p₁
    obtain ⟨u₃, rfl⟩ := p₃
    have gg := g₁.trans g₃
    refine ⟨c, xs.toArray, some y, none, rfl, isL ((gs.trans gg) _ _ ho), by rw [List.size_toArray]; exact hz, .int _ _, .none, ?_⟩
    rw [pick_from xs h0]
    have g₄ : Grow h₃ (h₃.push { cls := .type "slice", data := .fields #[.int y u₃, .none, .none] }) := Grow.push _ _
    have hs : (h₃.push { cls := .type "slice", data := .fields #[.int y u₃, .none, .none] }).objs.size = h₃.objs.size + 1 := Heap.size_push ..
    refine k _ _ t₃ (gg.trans (g₄.trans (Grow.push _ _))) ⟨_, 0, rfl, none_anti (gg.trans g₄) (hs ▸ get_none_size _), ?_⟩
    have := Heap.get?_push_size (h₃.push { cls := .type "slice", data := .fields #[.int y u₃, .none, .none] }) (o := { cls := .type "list", data := .seq (xs.drop y.toNat).toArray }) rfl
    rw [hs] at this
    exact this)) ht

/-- len -/
theorem EV.len {f : Pos} {e₀ : PySem.Expr} (hf : EV w A env h (.Name x f) (isV (.builtin "len"))) (he : starEach [e₀] env = (false, eval e₀ env) :: starEach [] env)
    (hc : eval (.Call (.Name x f) [e₀] [] pos) env = (do callWith pos (← eval (.Name x f) env) [] (backTo pos (starEach [e₀] env)) (backToKw pos (keywordEach [] env))))
    (ho : h.get? c = some (listOf xs.toArray n)) (hz : xs.length ≤ sizeLine) (a : EV w A env h e₀ (isV (.ref c))) : EV w A env h (.Call (.Name x f) [e₀] [] pos) (isI xs.length) :=
  EV.callB ok_I hf he rfl hc (EVs.cons he a EVs.nil) fun s h₀ vs Q E g₀ g₁ p k => by
    obtain ⟨v, ws, h₁, rfl, p₁, rfl, g₂⟩ := p
    cases p₁
    refine call_len_list (isL ((g₀.trans g₁) _ _ ho)) ?_ (k _ _ _ (.refl _) ⟨s.toks + 1, ?_⟩)
    · rw [List.size_toArray]; rw [sizeLine_eq] at hz; lia
    · rw [List.size_toArray]

noncomputable def newLP (p : List Value → Prop) : Heap → Value → Heap → Prop := fun h v h' => ∃ D n xs, v = .ref D ∧ h.get? D = none ∧ h'.get? D = some (listOf xs.toArray n) ∧ p xs
theorem foldl_rep (v : Value) : ∀ (k : Nat) (acc : Array Value), (List.foldl (fun x1 x2 => x1 ++ x2) acc (List.replicate k #[v])).size = acc.size + k
  | 0, acc => rfl
  | k + 1, acc => by
    rw [List.replicate_succ, List.foldl_cons, foldl_rep v k, Array.size_append]
    show acc.size + 1 + k = acc.size + (k + 1)
    lia
/-- [e] * n -/
theorem EV.rep {e₀ : PySem.Expr} {p₁ : Pos} (he : starEach [e₀] env = (false, eval e₀ env) :: starEach [] env) (a : EV w A env h e₀ P) (b : EV w A env h e₂ (isI z)) (h0 : 0 ≤ z) (hz : z ≤ 2 ^ 24) : EV w A env h (.BinOp (.List [e₀] p₁) .Mult e₂ pos) (newLP fun xs => xs.length = z.toNat) := fun s gs Q E k =>
  wpAny_BinOp (EV.lst (EVs.cons he a EVs.nil) (fun h₀ vs h₁ q => by obtain ⟨v, ws, h₁, rfl, _, rfl, _⟩ := q; rw [sizeLine_eq]; show 1 ≤ _; decide) s gs _ _ fun v₁ h₁ t₁ g₁ q₁ => b _ (gs.trans g₁) _ _ fun v₂ h₂ t₂ g₂ p₂ => by
    obtain ⟨vs, h₃, D, rfl, ⟨v, ws, h₄, rfl, _, rfl, _⟩, _, _, r₁⟩ := q₁
    obtain ⟨u, rfl⟩ := p₂
    have o₁ := g₂ _ _ r₁
    refine wpAny_binaryOp_repeat_ref (T := "list") (U := "int") (by decide) ⟨_, o₁, rfl⟩ (fun s' => typeIs_int s' z u) noFill_list_mul PySem.F.fills_int_mul PySem.F.slot_int_rmul repeat_list PySem.F.slot_int_index.lookup
      (call_meets PySem.F.slot_int_rmul (typeIs_int _ z u) PySem.F.entry_int_rmul (PySem.F.args_int_rmul_2 _ _) (int___rmul___int_list z u D #[v] 0)
      ⟨o₁, rfl, ⟨_, o₁, rfl⟩, call_meets PySem.F.slot_list_mul ⟨_, o₁, rfl⟩ PySem.F.entry_list_mul (PySem.F.args_list_mul_2 _ _)
        (AutoListH.list___mul___list_int_3 D #[v] 0 z u (by simp [Builtin.List.listFitsIndex]; lia) (by show ¬ (1 * z.toNat > (2 ^ 63 - 1) / 8); lia) (by simp [Builtin.List.listTooLong, sizeLine]; lia))
        ⟨o₁, ?_⟩⟩)
    refine k _ _ _ ((g₁.trans g₂).trans (Grow.push _ _)) ⟨_, 0, (List.foldl (fun x1 x2 => x1 ++ x2) #[] (List.replicate (if (#[v] : Array Value).isEmpty = true then 0 else z.toNat) #[v])).toList, rfl, none_anti (g₁.trans g₂) (get_none_size _), ?_, ?_⟩
    · exact Heap.get?_push_size _ rfl
    · dsimp only; rw [Array.length_toList]
      have := foldl_rep v z.toNat #[]
      simpa using this)
end
end Mine

namespace Mine
open PySem PySem.W PySem.Calls PyProof.Rows

section
variable {w : World} {mean : ExcName → Option Value} {mg mb : Str → Option Value} {A : Around} {base g : Heap} {outer : List Env} {env : Env} {s : Shared} {h h' : Heap} {L a f : Addr} {cn : Str} {cs : Scope} {ccd : Value} {cl : List (Str × Addr)} {l : List (Str × Value)} {news : List (Addr × Obj)} {x : Str} {v : Value} {p pos : Pos} {P P' : Heap → Value → Heap → Prop} {e e₁ e₂ elo ehi : PySem.Expr} {y z : Int} {xs ys : List Value} {c m : Addr} {n nn j : Nat} {rest : List Stmt} {Q : Flow → Shared → Prop} {E : Value → Shared → Prop}

theorem bounds_both {y z : Int} {n : Nat} (h0 : 0 ≤ y) (h1 : 0 ≤ z) (hy : y ≤ n) (hz : z ≤ n) : sliceBounds (some y) (some z) none n = (y, z, 1) := by
  simp only [sliceBounds, Option.getD_none, show (1 : Int) > 0 by decide, if_true, if_neg (show ¬ (y < 0) by lia), if_neg (show ¬ (z < 0) by lia)]
  congr 1
  · lia
  · congr 1
    lia

theorem cut_arrays (xs ys : List Value) (i j : Nat) : xs.toArray.extract 0 i ++ ys.toArray ++ xs.toArray.extract j xs.toArray.size = (xs.take i ++ ys ++ xs.drop j).toArray := by
  apply Array.toList_inj.mp
  simp only [Array.toList_append, Array.toList_extract, List.size_toArray]
  simp only [List.extract_eq_take_drop, List.drop_zero, Nat.sub_zero]
  rw [List.take_of_length_le (l := xs.drop j) (by rw [List.length_drop]; lia)]
end
end Mine

namespace Mine
open PySem PySem.W PySem.Calls PyProof.Rows
structure ClsOk (w : World) (C : Addr) (names : List Str) : Prop where
  pg : ∀ n, plainGet (K w.params) C n = true
  hd : hasDictIn (K w.params) C = true
  sa : findIn (K w.params) (.ref C) "__setattr__" = some (some (.builtin "object.__setattr__"))
  po : plainOver (K w.params) C = true
  at_ : ∀ n ∈ names, findIn (K w.params) (.ref C) n = some none
  tk : ∀ n ∈ names, takerIn (K w.params) C n = some none
structure MethOk (w : World) (C : Addr) (name : Str) (f : Addr) : Prop where
  me : findIn (K w.params) (.ref C) name = some (some (.ref f))
  fn : isFn (K w.params) (.ref f) = true
  ke : keepIn (K w.params) (.ref f) = true
structure FnOk (w : World) (name : Str) (f : Addr) : Prop where
  gl : nsIn (K w.params) mainGlobals name = some (some (.ref f))
  ke : keepIn (K w.params) (.ref f) = true
section
variable {w : World}
theorem at260_rows : findIn (K w.params) (.ref 260) (Str.ofString "rows") = some none := by kernel_rfl
theorem tk260_rows : takerIn (K w.params) 260 (Str.ofString "rows") = some none := by kernel_rfl
theorem at260_dropped : findIn (K w.params) (.ref 260) (Str.ofString "dropped") = some none := by kernel_rfl
theorem tk260_dropped : takerIn (K w.params) 260 (Str.ofString "dropped") = some none := by kernel_rfl
theorem at260_is_on : findIn (K w.params) (.ref 260) (Str.ofString "is_on") = some none := by kernel_rfl
theorem tk260_is_on : takerIn (K w.params) 260 (Str.ofString "is_on") = some none := by kernel_rfl
theorem at260_point_before : findIn (K w.params) (.ref 260) (Str.ofString "point_before") = some none := by kernel_rfl
theorem tk260_point_before : takerIn (K w.params) 260 (Str.ofString "point_before") = some none := by kernel_rfl
theorem at260_noted_tick : findIn (K w.params) (.ref 260) (Str.ofString "noted_tick") = some none := by kernel_rfl
theorem tk260_noted_tick : takerIn (K w.params) 260 (Str.ofString "noted_tick") = some none := by kernel_rfl
noncomputable abbrev ns260 : List Str := [Str.ofString "rows", Str.ofString "dropped", Str.ofString "is_on", Str.ofString "point_before", Str.ofString "noted_tick"]
theorem ok260 : ClsOk w 260 ns260 := ⟨fun _ => by kernel_rfl, by kernel_rfl, by kernel_rfl, by kernel_rfl, List.forall_mem_cons.mpr ⟨at260_rows, List.forall_mem_cons.mpr ⟨at260_dropped, List.forall_mem_cons.mpr ⟨at260_is_on, List.forall_mem_cons.mpr ⟨at260_point_before, List.forall_mem_cons.mpr ⟨at260_noted_tick, fun _ h => nomatch h⟩⟩⟩⟩⟩, List.forall_mem_cons.mpr ⟨tk260_rows, List.forall_mem_cons.mpr ⟨tk260_dropped, List.forall_mem_cons.mpr ⟨tk260_is_on, List.forall_mem_cons.mpr ⟨tk260_point_before, List.forall_mem_cons.mpr ⟨tk260_noted_tick, fun _ h => nomatch h⟩⟩⟩⟩⟩⟩
theorem at407_room : findIn (K w.params) (.ref 407) (Str.ofString "room") = some none := by kernel_rfl
theorem tk407_room : takerIn (K w.params) 407 (Str.ofString "room") = some none := by kernel_rfl
theorem at407_cells : findIn (K w.params) (.ref 407) (Str.ofString "cells") = some none := by kernel_rfl
theorem tk407_cells : takerIn (K w.params) 407 (Str.ofString "cells") = some none := by kernel_rfl
theorem at407_gap_start : findIn (K w.params) (.ref 407) (Str.ofString "gap_start") = some none := by kernel_rfl
theorem tk407_gap_start : takerIn (K w.params) 407 (Str.ofString "gap_start") = some none := by kernel_rfl
theorem at407_gap_end : findIn (K w.params) (.ref 407) (Str.ofString "gap_end") = some none := by kernel_rfl
theorem tk407_gap_end : takerIn (K w.params) 407 (Str.ofString "gap_end") = some none := by kernel_rfl
noncomputable abbrev ns407 : List Str := [Str.ofString "room", Str.ofString "cells", Str.ofString "gap_start", Str.ofString "gap_end"]
theorem ok407 : ClsOk w 407 ns407 := ⟨fun _ => by kernel_rfl, by kernel_rfl, by kernel_rfl, by kernel_rfl, List.forall_mem_cons.mpr ⟨at407_room, List.forall_mem_cons.mpr ⟨at407_cells, List.forall_mem_cons.mpr ⟨at407_gap_start, List.forall_mem_cons.mpr ⟨at407_gap_end, fun _ h => nomatch h⟩⟩⟩⟩, List.forall_mem_cons.mpr ⟨tk407_room, List.forall_mem_cons.mpr ⟨tk407_cells, List.forall_mem_cons.mpr ⟨tk407_gap_start, List.forall_mem_cons.mpr ⟨tk407_gap_end, fun _ h => nomatch h⟩⟩⟩⟩⟩
theorem at477_rows : findIn (K w.params) (.ref 477) (Str.ofString "rows") = some none := by kernel_rfl
theorem tk477_rows : takerIn (K w.params) 477 (Str.ofString "rows") = some none := by kernel_rfl
noncomputable abbrev ns477 : List Str := [Str.ofString "rows"]
theorem ok477 : ClsOk w 477 ns477 := ⟨fun _ => by kernel_rfl, by kernel_rfl, by kernel_rfl, by kernel_rfl, List.forall_mem_cons.mpr ⟨at477_rows, fun _ h => nomatch h⟩, List.forall_mem_cons.mpr ⟨tk477_rows, fun _ h => nomatch h⟩⟩
theorem at618_number : findIn (K w.params) (.ref 618) (Str.ofString "number") = some none := by kernel_rfl
theorem tk618_number : takerIn (K w.params) 618 (Str.ofString "number") = some none := by kernel_rfl
theorem at618_name : findIn (K w.params) (.ref 618) (Str.ofString "name") = some none := by kernel_rfl
theorem tk618_name : takerIn (K w.params) 618 (Str.ofString "name") = some none := by kernel_rfl
theorem at618_text : findIn (K w.params) (.ref 618) (Str.ofString "text") = some none := by kernel_rfl
theorem tk618_text : takerIn (K w.params) 618 (Str.ofString "text") = some none := by kernel_rfl
theorem at618_markers : findIn (K w.params) (.ref 618) (Str.ofString "markers") = some none := by kernel_rfl
theorem tk618_markers : takerIn (K w.params) 618 (Str.ofString "markers") = some none := by kernel_rfl
theorem at618_point : findIn (K w.params) (.ref 618) (Str.ofString "point") = some none := by kernel_rfl
theorem tk618_point : takerIn (K w.params) 618 (Str.ofString "point") = some none := by kernel_rfl
theorem at618_begv : findIn (K w.params) (.ref 618) (Str.ofString "begv") = some none := by kernel_rfl
theorem tk618_begv : takerIn (K w.params) 618 (Str.ofString "begv") = some none := by kernel_rfl
theorem at618_zv : findIn (K w.params) (.ref 618) (Str.ofString "zv") = some none := by kernel_rfl
theorem tk618_zv : takerIn (K w.params) 618 (Str.ofString "zv") = some none := by kernel_rfl
theorem at618_mark : findIn (K w.params) (.ref 618) (Str.ofString "mark") = some none := by kernel_rfl
theorem tk618_mark : takerIn (K w.params) 618 (Str.ofString "mark") = some none := by kernel_rfl
theorem at618_is_live : findIn (K w.params) (.ref 618) (Str.ofString "is_live") = some none := by kernel_rfl
theorem tk618_is_live : takerIn (K w.params) 618 (Str.ofString "is_live") = some none := by kernel_rfl
theorem at618_is_read_only : findIn (K w.params) (.ref 618) (Str.ofString "is_read_only") = some none := by kernel_rfl
theorem tk618_is_read_only : takerIn (K w.params) 618 (Str.ofString "is_read_only") = some none := by kernel_rfl
theorem at618_ticks : findIn (K w.params) (.ref 618) (Str.ofString "ticks") = some none := by kernel_rfl
theorem tk618_ticks : takerIn (K w.params) 618 (Str.ofString "ticks") = some none := by kernel_rfl
theorem at618_codes_ticks : findIn (K w.params) (.ref 618) (Str.ofString "codes_ticks") = some none := by kernel_rfl
theorem tk618_codes_ticks : takerIn (K w.params) 618 (Str.ofString "codes_ticks") = some none := by kernel_rfl
theorem at618_saved_ticks : findIn (K w.params) (.ref 618) (Str.ofString "saved_ticks") = some none := by kernel_rfl
theorem tk618_saved_ticks : takerIn (K w.params) 618 (Str.ofString "saved_ticks") = some none := by kernel_rfl
theorem at618_listeners : findIn (K w.params) (.ref 618) (Str.ofString "listeners") = some none := by kernel_rfl
theorem tk618_listeners : takerIn (K w.params) 618 (Str.ofString "listeners") = some none := by kernel_rfl
theorem at618_undo : findIn (K w.params) (.ref 618) (Str.ofString "undo") = some none := by kernel_rfl
theorem tk618_undo : takerIn (K w.params) 618 (Str.ofString "undo") = some none := by kernel_rfl
theorem at618_props : findIn (K w.params) (.ref 618) (Str.ofString "props") = some none := by kernel_rfl
theorem tk618_props : takerIn (K w.params) 618 (Str.ofString "props") = some none := by kernel_rfl
theorem at618_overlays : findIn (K w.params) (.ref 618) (Str.ofString "overlays") = some none := by kernel_rfl
theorem tk618_overlays : takerIn (K w.params) 618 (Str.ofString "overlays") = some none := by kernel_rfl
theorem at618_locals : findIn (K w.params) (.ref 618) (Str.ofString "locals") = some none := by kernel_rfl
theorem tk618_locals : takerIn (K w.params) 618 (Str.ofString "locals") = some none := by kernel_rfl
theorem at618_syntax : findIn (K w.params) (.ref 618) (Str.ofString "syntax") = some none := by kernel_rfl
theorem tk618_syntax : takerIn (K w.params) 618 (Str.ofString "syntax") = some none := by kernel_rfl
theorem at618_file : findIn (K w.params) (.ref 618) (Str.ofString "file") = some none := by kernel_rfl
theorem tk618_file : takerIn (K w.params) 618 (Str.ofString "file") = some none := by kernel_rfl
noncomputable abbrev ns618 : List Str := [Str.ofString "number", Str.ofString "name", Str.ofString "text", Str.ofString "markers", Str.ofString "point", Str.ofString "begv", Str.ofString "zv", Str.ofString "mark", Str.ofString "is_live", Str.ofString "is_read_only", Str.ofString "ticks", Str.ofString "codes_ticks", Str.ofString "saved_ticks", Str.ofString "listeners", Str.ofString "undo", Str.ofString "props", Str.ofString "overlays", Str.ofString "locals", Str.ofString "syntax", Str.ofString "file"]
theorem ok618 : ClsOk w 618 ns618 := ⟨fun _ => by kernel_rfl, by kernel_rfl, by kernel_rfl, by kernel_rfl, List.forall_mem_cons.mpr ⟨at618_number, List.forall_mem_cons.mpr ⟨at618_name, List.forall_mem_cons.mpr ⟨at618_text, List.forall_mem_cons.mpr ⟨at618_markers, List.forall_mem_cons.mpr ⟨at618_point, List.forall_mem_cons.mpr ⟨at618_begv, List.forall_mem_cons.mpr ⟨at618_zv, List.forall_mem_cons.mpr ⟨at618_mark, List.forall_mem_cons.mpr ⟨at618_is_live, List.forall_mem_cons.mpr ⟨at618_is_read_only, List.forall_mem_cons.mpr ⟨at618_ticks, List.forall_mem_cons.mpr ⟨at618_codes_ticks, List.forall_mem_cons.mpr ⟨at618_saved_ticks, List.forall_mem_cons.mpr ⟨at618_listeners, List.forall_mem_cons.mpr ⟨at618_undo, List.forall_mem_cons.mpr ⟨at618_props, List.forall_mem_cons.mpr ⟨at618_overlays, List.forall_mem_cons.mpr ⟨at618_locals, List.forall_mem_cons.mpr ⟨at618_syntax, List.forall_mem_cons.mpr ⟨at618_file, fun _ h => nomatch h⟩⟩⟩⟩⟩⟩⟩⟩⟩⟩⟩⟩⟩⟩⟩⟩⟩⟩⟩⟩, List.forall_mem_cons.mpr ⟨tk618_number, List.forall_mem_cons.mpr ⟨tk618_name, List.forall_mem_cons.mpr ⟨tk618_text, List.forall_mem_cons.mpr ⟨tk618_markers, List.forall_mem_cons.mpr ⟨tk618_point, List.forall_mem_cons.mpr ⟨tk618_begv, List.forall_mem_cons.mpr ⟨tk618_zv, List.forall_mem_cons.mpr ⟨tk618_mark, List.forall_mem_cons.mpr ⟨tk618_is_live, List.forall_mem_cons.mpr ⟨tk618_is_read_only, List.forall_mem_cons.mpr ⟨tk618_ticks, List.forall_mem_cons.mpr ⟨tk618_codes_ticks, List.forall_mem_cons.mpr ⟨tk618_saved_ticks, List.forall_mem_cons.mpr ⟨tk618_listeners, List.forall_mem_cons.mpr ⟨tk618_undo, List.forall_mem_cons.mpr ⟨tk618_props, List.forall_mem_cons.mpr ⟨tk618_overlays, List.forall_mem_cons.mpr ⟨tk618_locals, List.forall_mem_cons.mpr ⟨tk618_syntax, List.forall_mem_cons.mpr ⟨tk618_file, fun _ h => nomatch h⟩⟩⟩⟩⟩⟩⟩⟩⟩⟩⟩⟩⟩⟩⟩⟩⟩⟩⟩⟩⟩
theorem at651_codes : findIn (K w.params) (.ref 651) (Str.ofString "codes") = some none := by kernel_rfl
theorem tk651_codes : takerIn (K w.params) 651 (Str.ofString "codes") = some none := by kernel_rfl
theorem at651_runs : findIn (K w.params) (.ref 651) (Str.ofString "runs") = some none := by kernel_rfl
theorem tk651_runs : takerIn (K w.params) 651 (Str.ofString "runs") = some none := by kernel_rfl
noncomputable abbrev ns651 : List Str := [Str.ofString "codes", Str.ofString "runs"]
theorem ok651 : ClsOk w 651 ns651 := ⟨fun _ => by kernel_rfl, by kernel_rfl, by kernel_rfl, by kernel_rfl, List.forall_mem_cons.mpr ⟨at651_codes, List.forall_mem_cons.mpr ⟨at651_runs, fun _ h => nomatch h⟩⟩, List.forall_mem_cons.mpr ⟨tk651_codes, List.forall_mem_cons.mpr ⟨tk651_runs, fun _ h => nomatch h⟩⟩⟩
theorem at691_list : findIn (K w.params) (.ref 691) (Str.ofString "list") = some none := by kernel_rfl
theorem tk691_list : takerIn (K w.params) 691 (Str.ofString "list") = some none := by kernel_rfl
noncomputable abbrev ns691 : List Str := [Str.ofString "list"]
theorem ok691 : ClsOk w 691 ns691 := ⟨fun _ => by kernel_rfl, by kernel_rfl, by kernel_rfl, by kernel_rfl, List.forall_mem_cons.mpr ⟨at691_list, fun _ h => nomatch h⟩, List.forall_mem_cons.mpr ⟨tk691_list, fun _ h => nomatch h⟩⟩
theorem me407___init__ : MethOk w 407 (Str.ofString "__init__") 334 := ⟨by kernel_rfl, by kernel_rfl, by kernel_rfl⟩
theorem me407_size : MethOk w 407 (Str.ofString "size") 341 := ⟨by kernel_rfl, by kernel_rfl, by kernel_rfl⟩
theorem me407_codes : MethOk w 407 (Str.ofString "codes") 355 := ⟨by kernel_rfl, by kernel_rfl, by kernel_rfl⟩
theorem me407_move_gap : MethOk w 407 (Str.ofString "move_gap") 362 := ⟨by kernel_rfl, by kernel_rfl, by kernel_rfl⟩
theorem me407_widen_gap : MethOk w 407 (Str.ofString "widen_gap") 369 := ⟨by kernel_rfl, by kernel_rfl, by kernel_rfl⟩
theorem me407_insert : MethOk w 407 (Str.ofString "insert") 376 := ⟨by kernel_rfl, by kernel_rfl, by kernel_rfl⟩
theorem me407_delete : MethOk w 407 (Str.ofString "delete") 383 := ⟨by kernel_rfl, by kernel_rfl, by kernel_rfl⟩
theorem me618___init__ : MethOk w 618 (Str.ofString "__init__") 531 := ⟨by kernel_rfl, by kernel_rfl, by kernel_rfl⟩
theorem me618_size : MethOk w 618 (Str.ofString "size") 566 := ⟨by kernel_rfl, by kernel_rfl, by kernel_rfl⟩
theorem me618_codes : MethOk w 618 (Str.ofString "codes") 580 := ⟨by kernel_rfl, by kernel_rfl, by kernel_rfl⟩
theorem me618_goto : MethOk w 618 (Str.ofString "goto") 587 := ⟨by kernel_rfl, by kernel_rfl, by kernel_rfl⟩
theorem me618_is_modified : MethOk w 618 (Str.ofString "is_modified") 601 := ⟨by kernel_rfl, by kernel_rfl, by kernel_rfl⟩
theorem me618_touch : MethOk w 618 (Str.ofString "touch") 615 := ⟨by kernel_rfl, by kernel_rfl, by kernel_rfl⟩
theorem me477___init__ : MethOk w 477 (Str.ofString "__init__") 425 := ⟨by kernel_rfl, by kernel_rfl, by kernel_rfl⟩
theorem me477_numbers : MethOk w 477 (Str.ofString "numbers") 432 := ⟨by kernel_rfl, by kernel_rfl, by kernel_rfl⟩
theorem me477_within : MethOk w 477 (Str.ofString "within") 453 := ⟨by kernel_rfl, by kernel_rfl, by kernel_rfl⟩
theorem me477_inserted : MethOk w 477 (Str.ofString "inserted") 460 := ⟨by kernel_rfl, by kernel_rfl, by kernel_rfl⟩
theorem me477_deleted : MethOk w 477 (Str.ofString "deleted") 467 := ⟨by kernel_rfl, by kernel_rfl, by kernel_rfl⟩
theorem me260___init__ : MethOk w 260 (Str.ofString "__init__") 189 := ⟨by kernel_rfl, by kernel_rfl, by kernel_rfl⟩
theorem me260_is_at_boundary : MethOk w 260 (Str.ofString "is_at_boundary") 203 := ⟨by kernel_rfl, by kernel_rfl, by kernel_rfl⟩
theorem me260_boundary : MethOk w 260 (Str.ofString "boundary") 210 := ⟨by kernel_rfl, by kernel_rfl, by kernel_rfl⟩
theorem me260_note_state : MethOk w 260 (Str.ofString "note_state") 224 := ⟨by kernel_rfl, by kernel_rfl, by kernel_rfl⟩
theorem me260_note_insert : MethOk w 260 (Str.ofString "note_insert") 231 := ⟨by kernel_rfl, by kernel_rfl, by kernel_rfl⟩
theorem me260_note_delete : MethOk w 260 (Str.ofString "note_delete") 238 := ⟨by kernel_rfl, by kernel_rfl, by kernel_rfl⟩
theorem me691___init__ : MethOk w 691 (Str.ofString "__init__") 669 := ⟨by kernel_rfl, by kernel_rfl, by kernel_rfl⟩
theorem me691_text_comes : MethOk w 691 (Str.ofString "text_comes") 676 := ⟨by kernel_rfl, by kernel_rfl, by kernel_rfl⟩
theorem me691_text_goes : MethOk w 691 (Str.ofString "text_goes") 681 := ⟨by kernel_rfl, by kernel_rfl, by kernel_rfl⟩
theorem me651___init__ : MethOk w 651 (Str.ofString "__init__") 648 := ⟨by kernel_rfl, by kernel_rfl, by kernel_rfl⟩
theorem gl_need_writable : FnOk w (Str.ofString "need_writable") 48 := ⟨by kernel_rfl, by kernel_rfl⟩
theorem gl_reached : FnOk w (Str.ofString "reached") 55 := ⟨by kernel_rfl, by kernel_rfl⟩
theorem gl_tell_ahead : FnOk w (Str.ofString "tell_ahead") 62 := ⟨by kernel_rfl, by kernel_rfl⟩
theorem gl_tell_behind : FnOk w (Str.ofString "tell_behind") 69 := ⟨by kernel_rfl, by kernel_rfl⟩
theorem gl_text_out : FnOk w (Str.ofString "text_out") 76 := ⟨by kernel_rfl, by kernel_rfl⟩
theorem gl_text_in : FnOk w (Str.ofString "text_in") 83 := ⟨by kernel_rfl, by kernel_rfl⟩
theorem gl_hung_out : FnOk w (Str.ofString "hung_out") 90 := ⟨by kernel_rfl, by kernel_rfl⟩
theorem gl_hung_in : FnOk w (Str.ofString "hung_in") 97 := ⟨by kernel_rfl, by kernel_rfl⟩
theorem gl_put_in : FnOk w (Str.ofString "put_in") 104 := ⟨by kernel_rfl, by kernel_rfl⟩
theorem gl_insert : FnOk w (Str.ofString "insert") 112 := ⟨by kernel_rfl, by kernel_rfl⟩
theorem gl_delete : FnOk w (Str.ofString "delete") 119 := ⟨by kernel_rfl, by kernel_rfl⟩
theorem gl_insert_piece : FnOk w (Str.ofString "insert_piece") 162 := ⟨by kernel_rfl, by kernel_rfl⟩
theorem gl_need_visible : FnOk w (Str.ofString "need_visible") 278 := ⟨by kernel_rfl, by kernel_rfl⟩
theorem gl_markers_ahead : FnOk w (Str.ofString "markers_ahead") 285 := ⟨by kernel_rfl, by kernel_rfl⟩
theorem gl_undo_insert : FnOk w (Str.ofString "undo_insert") 292 := ⟨by kernel_rfl, by kernel_rfl⟩
theorem gl_undo_delete : FnOk w (Str.ofString "undo_delete") 299 := ⟨by kernel_rfl, by kernel_rfl⟩
theorem gl_undo_row : FnOk w (Str.ofString "undo_row") 306 := ⟨by kernel_rfl, by kernel_rfl⟩
theorem gl_above_boundaries : FnOk w (Str.ofString "above_boundaries") 313 := ⟨by kernel_rfl, by kernel_rfl⟩
theorem gl_undo_group : FnOk w (Str.ofString "undo_group") 320 := ⟨by kernel_rfl, by kernel_rfl⟩
theorem gl_marker_distance : FnOk w (Str.ofString "marker_distance") 271 := ⟨by kernel_rfl, by kernel_rfl⟩
theorem gl_narrow : FnOk w (Str.ofString "narrow") 627 := ⟨by kernel_rfl, by kernel_rfl⟩
theorem gl_widen : FnOk w (Str.ofString "widen") 634 := ⟨by kernel_rfl, by kernel_rfl⟩
theorem gl_law_deck : FnOk w (Str.ofString "_law_deck") 700 := ⟨by kernel_rfl, by kernel_rfl⟩
theorem gl_law_draw : FnOk w (Str.ofString "_law_draw") 707 := ⟨by kernel_rfl, by kernel_rfl⟩
theorem gl_law_command : FnOk w (Str.ofString "_law_command") 714 := ⟨by kernel_rfl, by kernel_rfl⟩
theorem gl_law_state : FnOk w (Str.ofString "_law_state") 721 := ⟨by kernel_rfl, by kernel_rfl⟩
theorem gl_law_undone : FnOk w (Str.ofString "_law_undone") 728 := ⟨by kernel_rfl, by kernel_rfl⟩
theorem gl_Buffer : FnOk w (Str.ofString "Buffer") 618 := ⟨by kernel_rfl, by kernel_rfl⟩
theorem gl_Recording : FnOk w (Str.ofString "Recording") 691 := ⟨by kernel_rfl, by kernel_rfl⟩
theorem gl_GapText : FnOk w (Str.ofString "GapText") 407 := ⟨by kernel_rfl, by kernel_rfl⟩
theorem gl_Markers : FnOk w (Str.ofString "Markers") 477 := ⟨by kernel_rfl, by kernel_rfl⟩
theorem gl_UndoList : FnOk w (Str.ofString "UndoList") 260 := ⟨by kernel_rfl, by kernel_rfl⟩
theorem gl_Piece : FnOk w (Str.ofString "Piece") 651 := ⟨by kernel_rfl, by kernel_rfl⟩
theorem gl_BOUNDARY : nsIn (K w.params) mainGlobals (Str.ofString "BOUNDARY") = some (some (.ref 175)) := by kernel_rfl
theorem gl_LispSignal : nsIn (K w.params) mainGlobals (Str.ofString "LispSignal") = some (some (.ref 38)) := by kernel_rfl
end
end Mine

namespace Mine
open PySem PySem.W PySem.Calls PyProof.Rows
section
variable {w : World} {mean : ExcName → Option Value} {mg mb : Str → Option Value} {A : Around} {base g : Heap} {outer : List Env} {env : Env} {s : Shared} {h h' : Heap} {L a f o dd C : Addr} {cn : Str} {cs : Scope} {ccd : Value} {cl : List (Str × Addr)} {l : List (Str × Value)} {news : List (Addr × Obj)} {x name : Str} {v : Value} {p pos : Pos} {P P' : Heap → Value → Heap → Prop} {e e₁ e₂ elo ehi : PySem.Expr} {y z : Int} {xs ys : List Value} {n nn j i : Nat} {rest : List Stmt} {Q : Flow → Shared → Prop} {E : Value → Shared → Prop} {es : List DictEntry} {names : List Str}

theorem Cx.get {ob : Obj} (c : Cx w mean mg mb A base outer g L h l news) (hm : (a, ob) ∈ news) : h.get? a = some ob := (c.N _ hm).1

end
end Mine

namespace Mine
open PySem PySem.W PySem.Calls PyProof.Rows

noncomputable abbrev nm (s : String) : Str := Str.ofString s
theorem nm_inj {a b : String} (e : nm a = nm b) : a = b := by
  unfold nm at e
  rw [Str.ofString_eq_toList, Str.ofString_eq_toList] at e
  injection e with e
  have e' : a.toList.map Char.toNat = b.toList.map Char.toNat := by simpa using e
  have inj : ∀ x y : Char, x.toNat = y.toNat → x = y := fun x y h => Char.ext (UInt32.toNat_inj.mp h)
  have := (List.map_inj_right inj).mp e'
  exact String.ext this
theorem nm_beq {a b : String} : (nm a == nm b) = (a == b) :=
  Bool.eq_iff_iff.mpr ⟨fun h => beq_iff_eq.mpr (nm_inj (eq_of_beq h)), fun h => by rw [eq_of_beq h]; exact beq_self_eq_true _⟩

inductive VR (ρ : List Addr) : I.V → Value → Prop
  | int {z t} : VR ρ (.int z) (.int z t)
  | none : VR ρ .none .none
  | bool {b} : VR ρ (.bool b) (.bool b)
  | str {s t} : VR ρ (.str s) (.str (nm s) t)
  | obj {i a} : ρ[i]? = some a → VR ρ (.obj i) (.ref a)
  | glob {a} : VR ρ (.glob a) (.ref a)
inductive VRs (ρ : List Addr) : List I.V → List Value → Prop
  | nil : VRs ρ [] []
  | cons {v cv vs cvs} : VR ρ v cv → VRs ρ vs cvs → VRs ρ (v :: vs) (cv :: cvs)
inductive FRs (ρ : List Addr) : List (String × I.V) → List DictEntry → Prop
  | nil : FRs ρ [] []
  | cons {x v cv hs t fs es} : VR ρ v cv → FRs ρ fs es → FRs ρ ((x, v) :: fs) (⟨hs, .str (nm x) t, cv⟩ :: es)
inductive CO (ρ : List Addr) : I.AO → Obj → Prop
  | list {xs cs n} : VRs ρ xs cs → xs.length ≤ 1000000 → CO ρ (.list xs) (listOf cs.toArray n)
  | tup {xs cs} : VRs ρ xs cs → xs.length ≤ 1000000 → CO ρ (.tup xs) (tupOf cs)
  | inst {C d a} : ρ[d]? = some a → CO ρ (.inst C d) (instObj C a)
  | dict {fs es n} : FRs ρ fs es → CO ρ (.dict fs) (dictOf es n)
  | rng {z t u v} : CO ρ (.rng z) { cls := .type "range", data := .fields #[.int 0 t, .int z u, .int 1 v] }
  | cell0 {o : Obj} : o.data = .cell none → CO ρ (.cell .none) o
  | cell1 {v cv} {o : Obj} : VR ρ v cv → o.data = .cell (some cv) → CO ρ (.cell (some v)) o
  | iter {l k a o} : ρ[l]? = some a → o.cls = .type "list_iterator" → o.data = .fields #[.ref a, .int (k : Nat) 0] → CO ρ (.iter l k) o
  | riter {x left} : CO ρ (.riter x left) { cls := .type "range_iterator", dict := none, data := .fields #[rawInt x, rawInt left, rawInt 1], slots := #[] }
  | gone {o} : CO ρ .gone o
  | scr {xs ts} : ts.length = xs.length → xs.length ≤ 1000000 → CO ρ (.scr xs ts) (listOf ((xs.zip ts).map fun p => Value.int p.1 p.2).toArray 0)
inductive RelP (ρ : List Addr) : I.H → List (Addr × Obj) → Prop
  | nil : RelP ρ [] []
  | cons {o c a σ r} : CO ρ o c → a ≠ 1 → RelP ρ σ r → RelP ρ (o :: σ) ((a, c) :: r)
noncomputable abbrev adr (news : List (Addr × Obj)) : List Addr := news.map (·.1)
noncomputable def Rel (σ : I.H) (news : List (Addr × Obj)) : Prop := RelP (adr news) σ news

section
variable {ρ ρ' : List Addr}
theorem pre_get {i : Nat} {a : Addr} (p : ρ <+: ρ') (e : ρ[i]? = some a) : ρ'[i]? = some a := by
  obtain ⟨t, rfl⟩ := p
  rw [List.getElem?_append_left (List.getElem?_eq_some_iff.mp e).1]; exact e
theorem VR.mono {v : I.V} {c : Value} (p : ρ <+: ρ') (x : VR ρ v c) : VR ρ' v c := by
  cases x with
  | int => exact .int
  | none => exact .none
  | bool => exact .bool
  | str => exact .str
  | obj e => exact .obj (pre_get p e)
  | glob => exact .glob
@[elab_as_elim] theorem VR.intE {P : Value → Prop} {z : Int} {cv : Value} (h : VR ρ (.int z) cv) (k : ∀ t, P (.int z t)) : P cv := by cases h; exact k _
@[elab_as_elim] theorem VR.boolE {P : Value → Prop} {z : Bool} {cv : Value} (h : VR ρ (.bool z) cv) (k : P (.bool z)) : P cv := by cases h; exact k
@[elab_as_elim] theorem VR.noneE {P : Value → Prop} {cv : Value} (h : VR ρ .none cv) (k : P .none) : P cv := by cases h; exact k
@[elab_as_elim] theorem VR.strE {P : Value → Prop} {z : String} {cv : Value} (h : VR ρ (.str z) cv) (k : ∀ t, P (.str (nm z) t)) : P cv := by cases h; exact k _
@[elab_as_elim] theorem VR.globE {P : Value → Prop} {a : Addr} {cv : Value} (h : VR ρ (.glob a) cv) (k : P (.ref a)) : P cv := by cases h; exact k
@[elab_as_elim] theorem VR.objA {P : Value → Prop} {i : Nat} {a : Addr} {cv : Value} (h : VR ρ (.obj i) cv) (e : ρ[i]? = some a) (k : P (.ref a)) : P cv := by cases h with | obj q => rw [e] at q; cases q; exact k
@[elab_as_elim] theorem VRs.nilE {P : List Value → Prop} {cs : List Value} (h : VRs ρ [] cs) (k : P []) : P cs := by cases h; exact k
@[elab_as_elim] theorem VRs.consE {P : List Value → Prop} {v : I.V} {vs : List I.V} {cs : List Value} (h : VRs ρ (v :: vs) cs) (k : ∀ cv cvs, VR ρ v cv → VRs ρ vs cvs → P (cv :: cvs)) : P cs := by cases h; exact k _ _ ‹_› ‹_›
theorem VRs.mono {v : List I.V} {c : List Value} (p : ρ <+: ρ') (x : VRs ρ v c) : VRs ρ' v c := by
  induction x with
  | nil => exact .nil
  | cons h _ ih => exact .cons (h.mono p) ih
theorem FRs.mono {v : List (String × I.V)} {c : List DictEntry} (p : ρ <+: ρ') (x : FRs ρ v c) : FRs ρ' v c := by
  induction x with
  | nil => exact .nil
  | cons h _ ih => exact .cons (h.mono p) ih
theorem CO.mono {o : I.AO} {c : Obj} (p : ρ <+: ρ') (x : CO ρ o c) : CO ρ' o c := by
  cases x with
  | list h z => exact .list (h.mono p) z
  | tup h z => exact .tup (h.mono p) z
  | inst h => exact .inst (pre_get p h)
  | dict h => exact .dict (h.mono p)
  | rng => exact .rng
  | cell0 h => exact .cell0 h
  | cell1 h e => exact .cell1 (h.mono p) e
  | iter h a b => exact .iter (pre_get p h) a b
  | riter => exact .riter
  | gone => exact .gone
  | scr h z => exact .scr h z
theorem RelP.mono {σ : I.H} {n : List (Addr × Obj)} (p : ρ <+: ρ') (x : RelP ρ σ n) : RelP ρ' σ n := by
  induction x with
  | nil => exact .nil
  | cons h z _ ih => exact .cons (h.mono p) z ih
theorem RelP.len {σ : I.H} {n : List (Addr × Obj)} (x : RelP ρ σ n) : σ.length = n.length := by
  induction x with
  | nil => rfl
  | cons _ _ _ ih => rw [List.length_cons, List.length_cons, ih]
theorem RelP.get {σ : I.H} {n : List (Addr × Obj)} {i : Nat} {o : I.AO} (x : RelP ρ σ n) (e : σ[i]? = some o) : ∃ a c, n[i]? = some (a, c) ∧ CO ρ o c ∧ a ≠ 1 := by
  induction x generalizing i with
  | nil => simp at e
  | @cons o' c a σ r h z _ ih =>
    cases i with
    | zero => rw [List.getElem?_cons_zero] at e; cases e; exact ⟨a, c, rfl, h, z⟩
    | succ i => rw [List.getElem?_cons_succ] at e; exact ih e
theorem RelP.set {σ : I.H} {n : List (Addr × Obj)} {i : Nat} {a : Addr} {o : I.AO} {c c' : Obj} (x : RelP ρ σ n) (e : n[i]? = some (a, c)) (h : CO ρ o c') : RelP ρ (σ.set i o) (n.set i (a, c')) := by
  induction x generalizing i with
  | nil => simp at e
  | @cons o' c a' σ r h' z _ ih =>
    cases i with
    | zero =>
      rw [List.getElem?_cons_zero] at e; cases e
      rename_i y
      exact .cons h z y
    | succ i => rw [List.getElem?_cons_succ] at e; exact .cons h' z (ih e)
theorem RelP.app {σ τ : I.H} {n r : List (Addr × Obj)} (x : RelP ρ σ n) (y : RelP ρ τ r) : RelP ρ (σ ++ τ) (n ++ r) := by
  induction x with
  | nil => exact y
  | cons h z _ ih => exact .cons h z ih
theorem VRs.len {v : List I.V} {c : List Value} (x : VRs ρ v c) : v.length = c.length := by
  induction x with
  | nil => rfl
  | cons _ _ ih => rw [List.length_cons, List.length_cons, ih]
theorem VRs.get {v : List I.V} {c : List Value} {i : Nat} {x : I.V} (y : VRs ρ v c) (e : v[i]? = some x) : ∃ cx, c[i]? = some cx ∧ VR ρ x cx := by
  induction y generalizing i with
  | nil => simp at e
  | @cons v cv _ _ h _ ih =>
    cases i with
    | zero => rw [List.getElem?_cons_zero] at e; cases e; exact ⟨cv, rfl, h⟩
    | succ i => rw [List.getElem?_cons_succ] at e; exact ih e
theorem VRs.app {v v' : List I.V} {c c' : List Value} (x : VRs ρ v c) (y : VRs ρ v' c') : VRs ρ (v ++ v') (c ++ c') := by
  induction x with
  | nil => exact y
  | cons h _ ih => exact .cons h ih
theorem VRs.take {v : List I.V} {c : List Value} (x : VRs ρ v c) : ∀ n, VRs ρ (v.take n) (c.take n) := by
  induction x with
  | nil => intro n; simp; exact .nil
  | cons h _ ih => intro n; cases n with
    | zero => exact .nil
    | succ n => exact .cons h (ih n)
theorem VRs.drop {v : List I.V} {c : List Value} (x : VRs ρ v c) : ∀ n, VRs ρ (v.drop n) (c.drop n) := by
  induction x with
  | nil => intro n; simp; exact .nil
  | cons h y ih => intro n; cases n with
    | zero => exact .cons h y
    | succ n => exact ih n
theorem VRs.set {v : List I.V} {c : List Value} {x : I.V} {cx : Value} (y : VRs ρ v c) (h : VR ρ x cx) : ∀ n, VRs ρ (v.set n x) (c.set n cx) := by
  induction y with
  | nil => intro n; exact .nil
  | cons h' y ih => intro n; cases n with
    | zero => exact .cons h y
    | succ n => exact .cons h' (ih n)
theorem VRs.rev {v : List I.V} {c : List Value} (x : VRs ρ v c) : VRs ρ v.reverse c.reverse := by
  induction x with
  | nil => exact .nil
  | cons h y ih => rw [List.reverse_cons, List.reverse_cons]; exact ih.app (.cons h .nil)
theorem VRs.rep {x : I.V} {cx : Value} (h : VR ρ x cx) : ∀ n, VRs ρ (List.replicate n x) (List.replicate n cx)
  | 0 => .nil
  | n + 1 => .cons h (VRs.rep h n)
end

theorem Rel.get {σ : I.H} {news : List (Addr × Obj)} {i : Nat} {o : I.AO} (x : Rel σ news) (e : σ[i]? = some o) : ∃ a c, news[i]? = some (a, c) ∧ (adr news)[i]? = some a ∧ CO (adr news) o c := by
  obtain ⟨a, c, h, k, _⟩ := RelP.get x e
  exact ⟨a, c, h, by rw [List.getElem?_map, h]; rfl, k⟩
theorem adr_set {news : List (Addr × Obj)} {i : Nat} {a : Addr} {c c' : Obj} (e : news[i]? = some (a, c)) : adr (news.set i (a, c')) = adr news := nodup_set (o' := c') e
theorem Rel.set {σ : I.H} {news : List (Addr × Obj)} {i : Nat} {a : Addr} {o : I.AO} {c c' : Obj} (x : Rel σ news) (e : news[i]? = some (a, c)) (h : CO (adr news) o c') : Rel (σ.set i o) (news.set i (a, c')) := by
  unfold Rel
  rw [adr_set e]
  exact RelP.set x e h
theorem Rel.add {σ : I.H} {news : List (Addr × Obj)} {D : Addr} {o : I.AO} {c : Obj} (x : Rel σ news) (h : CO (adr (news ++ [(D, c)])) o c) (z : D ≠ 1) : Rel (σ ++ [o]) (news ++ [(D, c)]) :=
  RelP.app (RelP.mono (by rw [adr, adr, List.map_append]; exact List.prefix_append ..) x) (.cons h z .nil)
theorem pre_add {news r : List (Addr × Obj)} : adr news <+: adr (news ++ r) := by rw [adr, adr, List.map_append]; exact List.prefix_append ..
theorem new_at {σ : I.H} {news : List (Addr × Obj)} {D : Addr} {c : Obj} (x : Rel σ news) : (adr (news ++ [(D, c)]))[σ.length]? = some D := by
  rw [RelP.len x, adr, List.map_append, List.getElem?_append_right (by rw [List.length_map]; exact Nat.le_refl _), List.length_map, Nat.sub_self]; rfl
end Mine

namespace Mine
open PySem PySem.W PySem.Calls PyProof.Rows

theorem pre {α : Type} {l : List α} : l <+: l := List.prefix_refl l

structure Ct where
  w : World
  mean : ExcName → Option Value
  mg : Str → Option Value
  mb : Str → Option Value
  A : Around
  base : Heap
  outer : List Env
  g : Heap
  L : Addr
  /-- where names are looked up -/
  env : Env
  /-- the frame's own -/
  fenv : Env
  /-- the frame's names, where env is a comprehension's -/
  fl : Option (List (Str × Value))
  cs : Scope
  cl : List (Str × Addr)
  hs : env.scope = cs
  hk : cs.kind = .function
  hg : env.globals = mainGlobals
  hb : env.builtins = builtinsNs
  hc : env.cells = cl
  hfr : env.frame = some L
  ffr : fenv.frame = some L
  fk : fenv.scope.kind = .function
  hlo : fl = none → env.locals = L
  hcl : ∀ n, cs.names.lookup n = some .cell → ∃ a, List.lookup n cl = some a
noncomputable abbrev Ct.A' (c : Ct) : Around := c.A.deeper c.fenv
noncomputable abbrev Ct.own (c : Ct) (l : List (Str × Value)) : List (Str × Value) := c.fl.getD l
theorem Ct.kind (c : Ct) : c.env.scope.kind = .function := by rw [c.hs]; exact c.hk
theorem Ct.kindOf (c : Ct) (x : Str) : c.env.kindOf x = c.cs.names.lookup x := by rw [← c.hs]; rfl
structure Bud (c : Ct) (n : Nat) : Prop where
  depth : c.A.depth + 1 + n < recursionLimit
  units : c.A.units + 3 + 3 * n + 200 < cLine

structure St (c : Ct) (m : I.Fm) (σ : I.H) (h : Heap) (l : List (Str × Value)) (news : List (Addr × Obj)) : Prop where
  cx : Cx c.w c.mean c.mg c.mb c.A c.base c.outer c.g c.L h (c.own l) news
  rel : Rel σ news
  lr : ∀ x v, m.l.lookup x = some v → ∃ cv, List.lookup (nm x) l = some cv ∧ VR (adr news) v cv
  cr : ∀ x i, c.cs.names.lookup (nm x) = some .cell → m.c.lookup x = some i → ∃ a, List.lookup (nm x) c.cl = some a ∧ (adr news)[i]? = some a
  ns : c.fl.isSome = true → Loc c.env.locals h l ∧ c.env.locals ∉ adr news ∧ c.env.locals ≠ c.L ∧ c.g.get? c.env.locals = none

theorem St.loc {c : Ct} {m : I.Fm} {σ : I.H} {h : Heap} {l : List (Str × Value)} {news : List (Addr × Obj)} (x : St c m σ h l news) : Loc c.env.locals h l := by
  cases q : c.fl with
  | none => have := x.cx.loc; rw [c.hlo q]; unfold Ct.own at this; rwa [q] at this
  | some r => exact (x.ns (by rw [q]; rfl)).1

/-- an exception of the text's own class, e, its own names at D, on its way: just made, or with a place in its tree, the mark fl -/
inductive TrT (h base : Heap) (e D : Addr) (x : Value) : Prop
  | mk (oe : Obj) (vs : Array Value) (T : Addr) (oT : Obj) (ts : Array Value) (he : h.get? e = some oe) (hc : oe.cls = .ref 38 ∧ oe.dict = some D) (hd : oe.data = .fields vs) (h2 : vs[2]? = some .none) (h1 : vs[1]? = some (.ref T)) (hn : base.get? T = none) (hTe : T ≠ e) (hT : h.get? T = some oT) (hdT : oT.data = .fields ts) (h3 : ts[3]? = some x)
inductive TrN (h : Heap) (e D : Addr) : Prop
  | mk (oe : Obj) (vs : Array Value) (he : h.get? e = some oe) (hc : oe.cls = .ref 38 ∧ oe.dict = some D) (hd : oe.data = .fields vs) (h2 : vs[2]? = some .none) (h1 : vs[1]? = some .none)
noncomputable def TracedD (h base : Heap) (e D : Addr) : Option Value → Prop
  | none => TrT h base e D .none
  | some .none => TrN h e D
  | some fl => TrT h base e D fl
structure FlyD (base : Heap) (l : List Env) (e D : Addr) (h : Heap) (fl : Option Value) : Prop where
  st : base.StaysIn h
  en : base.get? e = none
  ff : h.FunFrames base l
  tr : TracedD h base e D fl
/-- what its own names say -/
noncomputable def SymObj (sy : String) (o : Obj) : Prop := ∃ es n t, o = dictOf es n ∧ getL (nm "symbol") es = some (some (.str (nm sy) t))
inductive RaisedD (base : Heap) (l : List Env) (e : Addr) (sy : String) (news : List (Addr × Obj)) (h : Heap) (fl : Option Value) : Prop
  | mk (B : Heap) (D : Addr) (od : Obj) (r1 : base.StaysIn B) (r2 : ∀ q ∈ news, B.get? q.1 = some q.2 ∧ base.get? q.1 = none) (r3 : B.get? D = some od) (r4 : base.get? D = none) (r5 : SymObj sy od) (r6 : FlyD B l e D h fl)
inductive ExAtI (c : Ct) (l : List (Str × Value)) (ρ : List Addr) (s : Shared) (σ : I.H) (sy : String) (e : Value) (s' : Shared) : Prop
  | mk (ea : Addr) (h₀ : Heap) (news : List (Addr × Obj)) (tk : Nat) (h : Heap) (fl : Option Value) (x1 : e = .ref ea) (x2 : s' = up s h tk) (x3 : Fr c.g c.L h₀ (fun y => List.lookup y l)) (x4 : h₀.UpToSlots h) (x5 : RaisedD c.base (c.fenv :: c.outer) ea sy news h fl) (x6 : Rel σ news) (x7 : (adr news).Nodup) (x8 : fl = none ∨ fl = some .none ∨ fl = some (rawInt c.L)) (x9 : ρ <+: adr news)
noncomputable abbrev ExAt (c : Ct) (l : List (Str × Value)) (ρ : List Addr) (s : Shared) (σ : I.H) (sy : String) (e : Value) (s' : Shared) : Prop := ExAtI c l ρ (up s {} 0) σ sy e s'
theorem ExAt.mono {c : Ct} {l : List (Str × Value)} {ρ ρ' : List Addr} {s : Shared} {σ : I.H} {sy : String} {e : Value} {s' : Shared} (p : ρ <+: ρ') (x : ExAt c l ρ' s σ sy e s') : ExAt c l ρ s σ sy e s' := by
  obtain ⟨ea, h₀, news, tk, h, fl, x1, x2, x3, x4, x5, x6, x7, x8, x9⟩ := x
  exact ⟨ea, h₀, news, tk, h, fl, x1, x2, x3, x4, x5, x6, x7, x8, p.trans x9⟩

noncomputable def Cont (c : Ct) (m : I.Fm) (l : List (Str × Value)) (ρ : List Addr) (s : Shared) {α β : Type} (rel : List Addr → α → β → Prop) (r : I.R α) (Q : β → Shared → Prop) (E : Value → Shared → Prop) : Prop :=
  match r with
  | .ok v σ' => ∀ h' tk news' cv, St c m σ' h' l news' → ρ <+: adr news' → rel (adr news') v cv → Q cv (up s h' tk)
  | .exc sy σ' => ∀ s' e, ExAt c (c.own l) ρ s σ' sy e s' → E e s'
  | .bad => False

theorem Cont.bind {c : Ct} {m : I.Fm} {l : List (Str × Value)} {ρ : List Addr} {s : Shared} {α β γ δ : Type} {rel : List Addr → α → β → Prop} {rel' : List Addr → γ → δ → Prop} {r : I.R α} {f : α → I.H → I.R γ} {Q : δ → Shared → Prop} {Q' : β → Shared → Prop} {E : Value → Shared → Prop}
    (k : Cont c m l ρ s rel' (r.bind f) Q E)
    (hq : ∀ v σ', r = .ok v σ' → ∀ h' tk news' cv, St c m σ' h' l news' → ρ <+: adr news' → rel (adr news') v cv → Cont c m l (adr news') (up s h' tk) rel' (f v σ') Q E → Q' cv (up s h' tk)) :
    Cont c m l ρ s rel r Q' E := by
  cases r with
  | bad => exact k
  | exc sy σ' => exact k
  | ok v σ' =>
    intro h' tk news' cv st pre hv
    refine hq v σ' rfl h' tk news' cv st pre hv ?_
    change Cont c m l ρ s rel' (f v σ') Q E at k
    revert k
    cases f v σ' with
    | bad => exact id
    | exc sy σ'' => exact fun k s' e x => k s' e (x.mono pre)
    | ok u σ'' => exact fun k h₂ tk₂ news₂ cu st₂ pre₂ hu => k h₂ tk₂ news₂ cu st₂ (pre.trans pre₂) hu
/-- another starting point -/
theorem Cont.here {c : Ct} {m : I.Fm} {l : List (Str × Value)} {ρ : List Addr} {s : Shared} {α β : Type} {rel : List Addr → α → β → Prop} {v : α} {σ : I.H} {Q : β → Shared → Prop} {E : Value → Shared → Prop} {news : List (Addr × Obj)} {cv : β}
    (k : Cont c m l ρ s rel (.ok v σ) Q E) {h' : Heap} {tk : Nat} (st : St c m σ h' l news) (p : ρ <+: adr news) (hv : rel (adr news) v cv) : Q cv (up s h' tk) := k h' tk news cv st p hv

noncomputable def JE (c : Ct) (m : I.Fm) (pe : PySem.Expr) (σ : I.H) (r : I.R I.V) : Prop :=
  ∀ s l news Q E, St c m σ s.heap l news → Cont c m l (adr news) s VR r Q E → wpAny (model p0 c.w) c.A' (eval pe c.env) Q E s
noncomputable def JT (c : Ct) (m : I.Fm) (pe : PySem.Expr) (σ : I.H) (r : I.R I.V) : Prop :=
  ∀ s l news Q E, St c m σ s.heap l news → Cont c m l (adr news) s (fun _ (a : Bool) b => a = b) (r.bind fun v σ => I.bad? (I.truth v) fun t => .ok t σ) Q E → wpAny (model p0 c.w) c.A' (isTrue pe c.env (eval pe c.env)) Q E s
noncomputable def JEs (c : Ct) (m : I.Fm) (pes : List PySem.Expr) (σ : I.H) (r : I.R (List I.V)) : Prop :=
  ∀ s l news pos Q E, St c m σ s.heap l news → Cont c m l (adr news) s VRs r Q E → wpAny (model p0 c.w) c.A' (spliced (backTo pos (starEach pes c.env))) Q E s

theorem St.grow {c : Ct} {m : I.Fm} {σ : I.H} {h h' : Heap} {l : List (Str × Value)} {news : List (Addr × Obj)} (x : St c m σ h l news) (g : Grow h h') : St c m σ h' l news := ⟨x.cx.grow g, x.rel, x.lr, x.cr, fun q => ⟨(x.ns q).1.grow g, (x.ns q).2⟩⟩
theorem St.bs {c : Ct} {m : I.Fm} {σ : I.H} {h : Heap} {l : List (Str × Value)} {news : List (Addr × Obj)} (x : St c m σ h l news) : Bs c.w c.mean c.mg c.mb c.A' h := x.cx.bs
theorem St.at {c : Ct} {m : I.Fm} {σ : I.H} {h : Heap} {l : List (Str × Value)} {news : List (Addr × Obj)} {i : Nat} {o : I.AO} (x : St c m σ h l news) (e : σ[i]? = some o) : ∃ a ob, news[i]? = some (a, ob) ∧ (adr news)[i]? = some a ∧ CO (adr news) o ob ∧ h.get? a = some ob := by
  obtain ⟨a, ob, h1, h2, h3⟩ := x.rel.get e
  exact ⟨a, ob, h1, h2, h3, x.cx.at i h1⟩
theorem k733 (P : Params) : ((K P).lookup 733).isSome = true := by kernel_rfl
theorem St.size1 {c : Ct} {m : I.Fm} {σ : I.H} {h : Heap} {l : List (Str × Value)} {news : List (Addr × Obj)} (x : St c m σ h l news) : h.objs.size ≠ 1 := fun z => by
  have e := k733 c.w.params
  cases q : (K c.w.params).lookup 733 with
  | none => rw [q] at e; cases e
  | some o => have := Heap.lt_size (x.bs.X _ _ q); rw [z] at this; exact absurd this (by decide)
/-- a thing made -/
theorem St.add {c : Ct} {m : I.Fm} {σ : I.H} {h h' : Heap} {l : List (Str × Value)} {news : List (Addr × Obj)} {D : Addr} {o : I.AO} {ob : Obj} (x : St c m σ h l news) (k : Grow h h') (nd : D = h.objs.size) (e : h'.get? D = some ob) (co : CO (adr news) o ob) :
    St c m (σ ++ [o]) h' l (news ++ [(D, ob)]) :=
  have n : h.get? D = none := by rw [nd]; exact get_none_size h
  ⟨(x.cx.add k n e).perm (List.perm_append_comm (l₁ := [(D, ob)])), x.rel.add (co.mono pre_add) (by rw [nd]; exact x.size1), fun y v q => by obtain ⟨cv, h1, h2⟩ := x.lr y v q; exact ⟨cv, h1, h2.mono pre_add⟩, fun y i z q => by obtain ⟨a, h1, h2⟩ := x.cr y i z q; exact ⟨a, h1, pre_get pre_add h2⟩, fun q => by
    obtain ⟨h1, h2, h3, h4⟩ := x.ns q
    refine ⟨h1.grow k, fun z => ?_, h3, h4⟩
    rw [adr, List.map_append, List.mem_append] at z
    rcases z with z | z
    · exact h2 z
    · obtain ⟨oL, es, ep, hL, _⟩ := h1
      rw [List.map_cons, List.map_nil, List.mem_singleton] at z
      rw [z, n] at hL; cases hL⟩
/-- a thing changed -/
theorem St.put {c : Ct} {m : I.Fm} {σ : I.H} {h h' : Heap} {l : List (Str × Value)} {news : List (Addr × Obj)} {i : Nat} {a : Addr} {o : I.AO} {ob ob' : Obj} (x : St c m σ h l news) (hi : news[i]? = some (a, ob)) (hs : Heap.SameBut a h h') (e : h'.get? a = some ob') (co : CO (adr news) o ob') :
    St c m (σ.set i o) h' l (news.set i (a, ob')) :=
  ⟨x.cx.set hi hs e, x.rel.set hi co, fun y v q => by rw [adr_set hi]; exact x.lr y v q, fun y j z q => by rw [adr_set hi]; exact x.cr y j z q, fun q => by
    obtain ⟨h1, h2, h3, h4⟩ := x.ns q
    rw [adr_set hi]
    exact ⟨h1.sameBut hs fun z => h2 (by rw [z]; exact List.mem_map_of_mem (f := (·.1)) (List.mem_of_getElem? hi)), h2, h3, h4⟩⟩

theorem co_list {ρ : List Addr} {xs : List I.V} {ob : Obj} (h : CO ρ (.list xs) ob) : ∃ cs n, ob = listOf cs.toArray n ∧ VRs ρ xs cs ∧ xs.length ≤ 1000000 := by cases h with | list q z => exact ⟨_, _, rfl, q, z⟩
theorem co_tup {ρ : List Addr} {xs : List I.V} {ob : Obj} (h : CO ρ (.tup xs) ob) : ∃ cs, ob = tupOf cs ∧ VRs ρ xs cs ∧ xs.length ≤ 1000000 := by cases h with | tup q z => exact ⟨_, rfl, q, z⟩
theorem co_inst {ρ : List Addr} {C d : Nat} {ob : Obj} (h : CO ρ (.inst C d) ob) : ∃ a, ob = instObj C a ∧ ρ[d]? = some a := by cases h with | inst q => exact ⟨_, rfl, q⟩
theorem co_dict {ρ : List Addr} {fs : List (String × I.V)} {ob : Obj} (h : CO ρ (.dict fs) ob) : ∃ es n, ob = dictOf es n ∧ FRs ρ fs es := by cases h with | dict q => exact ⟨_, _, rfl, q⟩

section
variable {c : Ct} {m : I.Fm} {σ : I.H} {h : Heap} {l : List (Str × Value)} {news : List (Addr × Obj)} {i : Nat}
theorem St.atE {P : Prop} {o : I.AO} (x : St c m σ h l news) (e : σ[i]? = some o) (k : ∀ a ob, news[i]? = some (a, ob) → (adr news)[i]? = some a → CO (adr news) o ob → h.get? a = some ob → P) : P := by
  obtain ⟨a, ob, h1, h2, h3, h4⟩ := x.at e
  exact k a ob h1 h2 h3 h4
theorem St.listE {P : Prop} {xs : List I.V} (x : St c m σ h l news) (e : σ[i]? = some (.list xs)) (k : ∀ a cs n, news[i]? = some (a, listOf cs.toArray n) → (adr news)[i]? = some a → h.get? a = some (listOf cs.toArray n) → VRs (adr news) xs cs → xs.length ≤ 1000000 → P) : P :=
  x.atE e fun a ob h1 h2 h3 h4 => by
    obtain ⟨cs, n, rfl, h5, h6⟩ := co_list h3
    exact k a cs n h1 h2 h4 h5 h6
@[elab_as_elim] theorem St.listR {P : Value → Prop} {xs : List I.V} {cv : Value} (x : St c m σ h l news) (hv : VR (adr news) (.obj i) cv) (e : σ[i]? = some (.list xs)) (k : ∀ a cs n, news[i]? = some (a, listOf cs.toArray n) → (adr news)[i]? = some a → h.get? a = some (listOf cs.toArray n) → VRs (adr news) xs cs → xs.length ≤ 1000000 → P (.ref a)) : P cv :=
  x.listE e fun a cs n h1 h2 h3 h4 h5 => hv.objA h2 (k a cs n h1 h2 h3 h4 h5)
theorem St.tupE {P : Prop} {xs : List I.V} (x : St c m σ h l news) (e : σ[i]? = some (.tup xs)) (k : ∀ a cs, news[i]? = some (a, tupOf cs) → (adr news)[i]? = some a → h.get? a = some (tupOf cs) → VRs (adr news) xs cs → xs.length ≤ 1000000 → P) : P :=
  x.atE e fun a ob h1 h2 h3 h4 => by
    obtain ⟨cs, rfl, h5, h6⟩ := co_tup h3
    exact k a cs h1 h2 h4 h5 h6
@[elab_as_elim] theorem St.tupR {P : Value → Prop} {xs : List I.V} {cv : Value} (x : St c m σ h l news) (hv : VR (adr news) (.obj i) cv) (e : σ[i]? = some (.tup xs)) (k : ∀ a cs, news[i]? = some (a, tupOf cs) → (adr news)[i]? = some a → h.get? a = some (tupOf cs) → VRs (adr news) xs cs → xs.length ≤ 1000000 → P (.ref a)) : P cv :=
  x.tupE e fun a cs h1 h2 h3 h4 h5 => hv.objA h2 (k a cs h1 h2 h3 h4 h5)
theorem St.dictE {P : Prop} {fs : List (String × I.V)} (x : St c m σ h l news) (e : σ[i]? = some (.dict fs)) (k : ∀ a es n, news[i]? = some (a, dictOf es n) → (adr news)[i]? = some a → h.get? a = some (dictOf es n) → FRs (adr news) fs es → P) : P :=
  x.atE e fun a ob h1 h2 h3 h4 => by
    obtain ⟨es, n, rfl, h5⟩ := co_dict h3
    exact k a es n h1 h2 h4 h5
/-- an object and its own names -/
@[elab_as_elim] theorem St.instR {P : Value → Prop} {C d : Nat} {fs : List (String × I.V)} {cv : Value} (x : St c m σ h l news) (hv : VR (adr news) (.obj i) cv) (e : σ[i]? = some (.inst C d)) (e2 : σ[d]? = some (.dict fs))
    (k : ∀ a D es n, (adr news)[i]? = some a → h.get? a = some (instObj C D) → news[d]? = some (D, dictOf es n) → h.get? D = some (dictOf es n) → FRs (adr news) fs es → P (.ref a)) : P cv :=
  x.atE e fun a ob h1 h2 h3 h4 => by
    obtain ⟨D, rfl, hd⟩ := co_inst h3
    exact x.dictE e2 fun D' es n f1 f2 f3 f4 => by
      rw [hd] at f2; cases f2
      exact hv.objA h2 (k a D es n h2 h4 f1 f3 f4)
end
section
variable {c : Ct} {m : I.Fm} {σ : I.H} {n : Nat} {pos p : Pos} {pa pb pc : PySem.Expr} {a b : I.ME} {fns : Nat → Option I.FD} {mets : Nat → String → Option Nat} {inits : Nat → Option Nat} {ra : I.R I.V} {fb : I.H → I.R I.V}
open I

theorem je_loc {x : String} (hx : c.cs.names.lookup (nm x) = some .local) (hd : (nm x == ("__debug__" : Str)) = false) : JE c m (.Name (nm x) pos) σ (bad? (m.l.lookup x) fun v => .ok v σ) := fun s l news Q E st k => by
  cases q : m.l.lookup x with
  | none => rw [q] at k; exact k.elim
  | some v =>
    rw [q] at k
    obtain ⟨cv, h1, h2⟩ := st.lr x v q
    exact wpAny_Name (wpAny_loadName_local c.kind (by rw [c.kindOf]; exact hx) st.loc h1 (k s.heap s.toks _ _ st pre h2)) hd
theorem je_cel {x : String} (hx : c.cs.names.lookup (nm x) = some .cell) (hd : (nm x == ("__debug__" : Str)) = false) :
    JE c m (.Name (nm x) pos) σ (bad? (m.c.lookup x) fun i => match σ[i]? with | some (.cell (some v)) => .ok v σ | _ => .bad) := fun s l news Q E st k => by
  cases q : m.c.lookup x with
  | none => rw [q] at k; exact k.elim
  | some i =>
    rw [q] at k
    obtain ⟨a, h1, h2⟩ := st.cr x i hx q
    change Cont _ _ _ _ _ _ (match σ[i]? with | some (.cell (some v)) => R.ok v σ | _ => R.bad) Q E at k
    split at k
    · rename_i v e
      obtain ⟨a', ob, g1, g2, g3, g4⟩ := st.at e
      rw [h2] at g2; cases g2
      cases g3 with
      | cell1 hv hd' => exact wpAny_Name (wpAny_loadName_cell c.kind (by rw [c.kindOf]; exact hx) (by rw [c.hc]; exact h1) ⟨_, g4, hd'⟩ (k s.heap s.toks _ _ st pre hv)) hd
    · exact k.elim
/-- a name of the top's -/
theorem glob_name {x : Str} {v : Value} {l : List (Str × Value)} {news : List (Addr × Obj)} {s : Shared} {Q : Value → Shared → Prop} {E : Value → Shared → Prop} (st : St c m σ s.heap l news) (gl : nsIn (K c.w.params) mainGlobals x = some (some v)) (hx : c.cs.names.lookup x = some .globalImplicit) (hd : (x == ("__debug__" : Str)) = false) (k : Q v s) :
    wpAny (model p0 c.w) c.A' (eval (.Name x pos) c.env) Q E s :=
  Name_function_global c.kind (by rw [c.kindOf]; exact hx) (loadGlobal_global (by rw [c.hg]; exact st.bs.T.g) (mg_of st.bs.X st.bs.T.g gl) k) hd
/-- a built-in's name -/
theorem boot_name {x : Str} {v : Value} {l : List (Str × Value)} {news : List (Addr × Obj)} {s : Shared} {Q : Value → Shared → Prop} {E : Value → Shared → Prop} (st : St c m σ s.heap l news) (gl : nsIn (K c.w.params) mainGlobals x = some none) (boot : bootBuiltins x = some v) (hn : x ≠ "__name__") (hx : c.cs.names.lookup x = some .globalImplicit) (hd : (x == ("__debug__" : Str)) = false) (k : Q v s) :
    wpAny (model p0 c.w) c.A' (eval (.Name x pos) c.env) Q E s :=
  Name_function_global c.kind (by rw [c.kindOf]; exact hx) (loadGlobal_builtin (by rw [c.hg]; exact st.bs.T.g) (mg_none_of st.bs.X st.bs.T.g gl) (by rw [c.hb]; exact st.bs.T.b) ((st.bs.T.builtins x hn).trans boot) k) hd
theorem je_int {z : Int} {kd : Nat} : JE c m (.Constant (.int z) kd pos) σ (.ok (.int z) σ) := fun s l news Q E st k =>
  wpAny_Constant_int (k _ _ _ _ st pre .int)
theorem je_str {z : String} {kd : Nat} : JE c m (.Constant (.str (nm z)) kd pos) σ (.ok (.str z) σ) := fun s l news Q E st k =>
  wpAny_Constant_str (k _ _ _ _ st pre .str)
theorem je_non {kd : Nat} : JE c m (.Constant .none kd pos) σ (.ok .none σ) := fun s l news Q E st k =>
  Constant_none (k s.heap s.toks _ _ st pre .none)
theorem je_boo {z : Bool} {kd : Nat} : JE c m (.Constant (.bool z) kd pos) σ (.ok (.bool z) σ) := fun s l news Q E st k =>
  Constant_bool (k s.heap s.toks _ _ st pre .bool)
theorem je_bnd (hx : c.cs.names.lookup (nm "BOUNDARY") = some .globalImplicit) : JE c m (.Name (nm "BOUNDARY") pos) σ (.ok (.glob 175) σ) := fun s l news Q E st k =>
  glob_name st gl_BOUNDARY hx (by decide +kernel) (k s.heap s.toks _ _ st pre .glob)
end
end Mine

namespace Mine
open PySem PySem.W PySem.Calls PyProof.Rows

noncomputable def bop : I.Bop → Operator
  | .add => .Add | .sub => .Sub | .mul => .Mult | .div => .FloorDiv | .mod => .Mod
noncomputable def cop : I.Cop → CmpOp
  | .lt => .Lt | .le => .LtE | .gt => .Gt | .ge => .GtE | .eq => .Eq | .ne => .NotEq

theorem bits_le {a : Int} (h0 : -I.lim ≤ a) (h1 : a ≤ I.lim) : Builtin.Int.intBits a ≤ 64 := by
  have e : I.lim = 2 ^ 40 := rfl
  rw [e] at h0 h1
  have hn : a.natAbs ≤ 2 ^ 40 := by lia
  unfold Builtin.Int.intBits
  split
  · decide
  · have : a.natAbs.log2 < 41 := (Nat.log2_lt (by intro q; simp_all)).mpr (by lia)
    lia
theorem noPy {a b : Int} (h0 : 0 < b) (h1 : b ≤ I.lim) : Builtin.divisionGoesByPylong a b = false := by
  have e : I.lim = 2 ^ 40 := rfl
  rw [e] at h1
  have : b.natAbs.log2 < 41 := (Nat.log2_lt (by lia)).mpr (by lia)
  unfold Builtin.divisionGoesByPylong
  have q : ¬ ((if (b == 0) = true then 0 else b.natAbs.log2 / 30 + 1) > 300) := by
    split
    · lia
    · lia
  simp only [decide_eq_false q, Bool.false_and]

theorem foldl_app (v : Value) : ∀ (k : Nat) (acc : Array Value), (List.foldl (fun x1 x2 => x1 ++ x2) acc (List.replicate k #[v])).toList = acc.toList ++ List.replicate k v
  | 0, acc => by simp
  | k + 1, acc => by
    rw [List.replicate_succ, List.foldl_cons, foldl_app v k, Array.toList_append, List.replicate_succ, List.append_assoc]
    rfl

section
variable {c : Ct} {m : I.Fm} {σ : I.H} {n : Nat} {l : List (Str × Value)} {news : List (Addr × Obj)} {s : Shared} {Q : Value → Shared → Prop} {E : Value → Shared → Prop} {v u : I.V} {cv cu : Value} {ρ : List Addr}
open I

theorem cat_ok {D₁ D₂ : Addr} {xs ys : List Value} {n₁ n₂ : Nat} {A : Around} {w : World} (o₁ : s.heap.get? D₁ = some (listOf xs.toArray n₁)) (r₂ : s.heap.get? D₂ = some (listOf ys.toArray n₂)) (hz : xs.length + ys.length ≤ sizeLine)
    (k : Q (.ref s.heap.objs.size) (uh s (s.heap.push (listOf (xs ++ ys).toArray 0)))) : wpAny (model p0 w) A (binaryOp .Add (.ref D₁) (.ref D₂)) Q E s := by
  have e : xs.toArray ++ ys.toArray = (xs ++ ys).toArray := by simp
  refine concat_meets ⟨_, o₁, rfl⟩ ⟨_, r₂, rfl⟩ noFill_list_add seq_list_add PySem.F.slot_list_add PySem.F.entry_list_add (PySem.F.args_list_add_2 _ _) (list_addW D₁ D₂ xs.toArray ys.toArray n₁ n₂ none none #[] #[] (by simpa using hz)) ⟨o₁, r₂, ?_⟩
  rw [e]
  exact k
theorem rep_ok {D : Addr} {v : Value} {n₁ : Nat} {z : Int} {u : Tok} {A : Around} {w : World} (o₁ : s.heap.get? D = some (listOf #[v] n₁)) (h0 : 0 ≤ z) (hz : z ≤ 2 ^ 24)
    (k : Q (.ref s.heap.objs.size) (uh s (s.heap.push (listOf (List.replicate z.toNat v).toArray 0)))) : wpAny (model p0 w) A (binaryOp .Mult (.ref D) (.int z u)) Q E s := by
  refine wpAny_binaryOp_repeat_ref (T := "list") (U := "int") (by decide) ⟨_, o₁, rfl⟩ (fun s' => typeIs_int s' z u) noFill_list_mul PySem.F.fills_int_mul PySem.F.slot_int_rmul repeat_list PySem.F.slot_int_index.lookup
      (call_meets PySem.F.slot_int_rmul (typeIs_int _ z u) PySem.F.entry_int_rmul (PySem.F.args_int_rmul_2 _ _) (int___rmul___int_list z u D #[v] n₁)
      ⟨o₁, rfl, ⟨_, o₁, rfl⟩, call_meets PySem.F.slot_list_mul ⟨_, o₁, rfl⟩ PySem.F.entry_list_mul (PySem.F.args_list_mul_2 _ _)
        (AutoListH.list___mul___list_int_3 D #[v] n₁ z u (by simp [Builtin.List.listFitsIndex]; lia) (by show ¬ (1 * z.toNat > (2 ^ 63 - 1) / 8); lia) (by simp [Builtin.List.listTooLong, sizeLine]; lia))
        ⟨o₁, ?_⟩⟩)
  have e : List.foldl (fun x1 x2 => x1 ++ x2) #[] (List.replicate (if (#[v] : Array Value).isEmpty = true then 0 else z.toNat) #[v]) = (List.replicate z.toNat v).toArray := by
    apply Array.toList_inj.mp
    have := foldl_app v z.toNat #[]
    simpa using this
  simp only [e]
  exact k

@[elab_as_elim] theorem St.list1R {P : Value → Prop} {x : V} {i : Nat} {h : Heap} (st : St c m σ h l news) (hv : VR (adr news) (.obj i) cv) (e : σ[i]? = some (.list [x])) (k : ∀ a cx n, h.get? a = some (listOf #[cx] n) → VR (adr news) x cx → P (.ref a)) : P cv :=
  st.listE e fun a cs n _ h2 => hv.objA h2 (by
    intro h3 h4 _
    refine VRs.consE (P := fun cs => h.get? a = some (listOf cs.toArray n) → _) h4 ?_ h3
    intro cx r hx hr
    exact VRs.nilE hr fun h3 => k a cx n h3 hx)
/-- an arithmetic step -/
theorem bin_ok {op : Bop} (st : St c m σ s.heap l news) (hv : VR (adr news) v cv) (hu : VR (adr news) u cu) (k : Cont c m l (adr news) s VR (bin1 σ op v u) Q E) : wpAny (model p0 c.w) c.A' (binaryOp (bop op) cv cu) Q E s := by
  refine bin1_cases (σ := σ) (P := fun op v u r => VR (adr news) v cv → VR (adr news) u cu → Cont c m l (adr news) s VR r Q E → wpAny (model p0 c.w) c.A' (binaryOp (bop op) cv cu) Q E s) (fun _ _ _ _ _ k => k.elim) (fun op a b hv hu k => ?_) (fun i z x e h hv hu k => ?_) (fun i j xs ys e₁ e₂ h hv hu k => ?_) op v u hv hu k
  · refine VR.intE hv fun ta => VR.intE hu fun tb => ?_
    cases op with
    | add => exact wpAny_add_int (k _ _ _ _ st pre .int)
    | sub => exact sub_int' (k _ _ _ _ st pre .int)
    | mul =>
      by_cases h : -lim ≤ a ∧ a ≤ lim ∧ -lim ≤ b ∧ b ≤ lim
      · rw [show intOp σ .mul a b = .ok (.int (a * b)) σ from if_pos h] at k
        exact PySem.P.mul_int (k _ _ _ _ st pre .int) (IntMulOk.of_left (bits_le h.1 h.2.1))
      · rw [show intOp σ .mul a b = .bad from if_neg h] at k; exact k.elim
    | div =>
      by_cases h : 0 < b ∧ b ≤ lim
      · rw [show intOp σ .div a b = .ok (.int (a.fdiv b)) σ from if_pos h] at k
        exact floordiv_int (Int.ne_of_gt h.1) (k _ _ _ _ st pre .int) (.inl (noPy h.1 h.2))
      · rw [show intOp σ .div a b = .bad from if_neg h] at k; exact k.elim
    | mod =>
      by_cases h : 0 < b ∧ b ≤ lim
      · rw [show intOp σ .mod a b = .ok (.int (a.fmod b)) σ from if_pos h] at k
        exact mod_int' (Int.ne_of_gt h.1) (k _ _ _ _ st pre .int)
      · rw [show intOp σ .mod a b = .bad from if_neg h] at k; exact k.elim
  · exact st.list1R hv e fun a' cx n₁ g4 hx => VR.intE hu fun tz => rep_ok g4 h.1 (by lia) (k _ _ _ _ (st.add (Grow.push _ _) rfl (Heap.get?_push_size _ rfl) (.list (VRs.rep hx _) (by rw [List.length_replicate]; lia))) pre_add (.obj (new_at st.rel)))
  · exact st.listR hv e₁ fun a' cs n₁ _ _ g4 hcs _ => st.listR hu e₂ fun b' ds n₂ _ _ f4 hds _ => cat_ok g4 f4 (by rw [← hcs.len, ← hds.len, sizeLine_eq]; lia) (k _ _ _ _ (st.add (Grow.push _ _) rfl (Heap.get?_push_size _ rfl) (.list (hcs.app hds) (by rw [List.length_append]; lia))) pre_add (.obj (new_at st.rel)))
end
end Mine

namespace Mine
open PySem PySem.W PySem.Calls PyProof.Rows PyProof.V PySem.Spec PySem.SeqAt
theorem bnd_is (P : Params) : (K P).lookup 175 = some (tO [.str (nm "boundary") 414]) := by kernel_rfl
theorem bnd_at {P : Params} {h : Heap} (X : (K P).In h) : ∃ t, h.IsTuple 175 #[Value.str (nm "boundary") t] :=
  ⟨414, _, X _ _ (bnd_is P), rfl, 0, rfl⟩

theorem nos {α : Type} {a : α} {P : Prop} (e : none = some a) : P := by cases e
theorem intsL_is : ∀ (v : List I.V) {zs : List Int}, I.intsL v = some zs → v = zs.map .int := by
  intro v
  induction v with
  | nil => intro zs e; cases e; rfl
  | cons x r ih =>
    intro zs e
    cases x with
    | int z =>
      obtain ⟨r', h1, rfl⟩ := Option.map_eq_some_iff.mp e
      rw [ih h1]; rfl
    | _ => exact nos e
theorem vrs_ints' {ρ : List Addr} : ∀ {zs : List Int} {cs : List Value}, VRs ρ (zs.map .int) cs → IntsAre cs zs
  | [], _, x => x.nilE .nil
  | z :: _, _, x => x.consE fun cv cvs h y => h.intE fun t => .cons z t (vrs_ints' y)
theorem vrs_ints {ρ : List Addr} {v : List I.V} {cs : List Value} (x : VRs ρ v cs) {zs : List Int} (e : I.intsL v = some zs) : IntsAre cs zs :=
  vrs_ints' (intsL_is v e ▸ x)

theorem eqAt_str {A : Around} {s : Shared} {x y : Str} {t u : Tok} (ne : x ≠ y) : SeqAt.EqAt A s (.str x t) (.str y u) false := fun prog w E Q h => by
  unfold eqBool
  refine wpAny_holding ?_
  refine wpAny_ite_split (fun hab => absurd (by have := eq_of_beq hab; injection this) ne) (fun _ => ?_)
  refine wpAny_bind (SeqAt.RcAt.str_str x t y u prog w E _ (wpAny_truthy_bool ?_))
  rw [show (x == y) = false from beq_eq_false_iff_ne.mpr ne]
  exact h

section
variable {c : Ct} {m : I.Fm} {σ : I.H} {n : Nat} {l : List (Str × Value)} {news : List (Addr × Obj)} {s : Shared} {Q : Value → Shared → Prop} {E : Value → Shared → Prop} {v u : I.V} {cv cu : Value} {ρ : List Addr}
open I

theorem isTupO {h : Heap} {a : Addr} {cs : List Value} (e : h.get? a = some (tupOf cs)) : h.IsTuple a cs.toArray := ⟨_, e, rfl, 0, rfl⟩
theorem tupRow {A : Around} {x : String} {t u : Tok} {rest : List Value} (ne : x ≠ "boundary") : 
    ∀ j (h1 : j < (Value.str (nm x) t :: rest).toArray.size) (h2 : j < #[Value.str (nm "boundary") u].size), SeqAt.EqAt A s ((Value.str (nm x) t :: rest).toArray[j]) (#[Value.str (nm "boundary") u][j]) ((fun _ => false) j) := fun j h1 h2 => by
  have : j = 0 := by simpa using h2
  subst this
  exact eqAt_str fun q => ne (nm_inj q)

theorem rc_data {A : Around} {a b : Value} {da db : PyData} {as bs : List Addr} (ra : Reads s.heap a da as) (rb : Reads s.heap b db bs) (ha : shaped da = true) (hb : shaped db = true) (hu : A.units + 64 < cLine)
    (hmix : noMix da db = true) {r : Bool} (e : PySem.Spec.same da db = r) : SeqAt.RcAt A s a b r ∧ SeqAt.RcNeAt A s a b (!r) := by
  subst e
  exact ⟨fun prog w E Q h => eq_dataH_same ra rb ha hb hu hmix h, fun prog w E Q h => ne_dataH_same ra rb ha hb hu hmix h⟩
theorem reads4 {a t : Addr} {xs : List Value} {zs : List Int} {n₁ : Nat} {p q r : Int} {tp tq tr : Tok} {h : Heap} (hl : h.get? a = some (listOf xs.toArray n₁)) (hi : IntsAre xs zs) (ht : h.get? t = some (tupOf [.ref a, .int p tp, .int q tq, .int r tr])) :
    Reads h (.ref t) (.tuple [.list (zs.map PyData.int), .int p, .int q, .int r]) [a] := by
  have := Reads.tuple (h := h) (xs := [.list (zs.map PyData.int), .int p, .int q, .int r]) (as := [a]) ht rfl rfl (by
    have := ReadsAll.cons (reads_of_ints (isL hl) hi) (ReadsAll.cons (Reads.int p tp) (ReadsAll.cons (Reads.int q tq) (ReadsAll.cons (Reads.int r tr) (ReadsAll.nil (h := h)))))
    simpa using this)
  exact this
theorem shaped4 (zs : List Int) (p q r : Int) : shaped (.tuple [.list (zs.map PyData.int), .int p, .int q, .int r]) = true := by
  have h1 := PySem.W.depthAll_ints zs
  show (PyData.canLay0 _ && decide (PyData.depth _ ≤ 64)) = true
  rw [Bool.and_eq_true]
  refine ⟨?_, decide_eq_true ?_⟩
  · simp only [PyData.canLay0, PyData.canLayAll0, canLayAll0_ints, Bool.and_self]
  · simp only [PyData.depth, PyData.depthAll]; lia
theorem mix4 (zs ws : List Int) (p q r p' q' r' : Int) : noMix (.tuple [.list (zs.map PyData.int), .int p, .int q, .int r]) (.tuple [.list (ws.map PyData.int), .int p', .int q', .int r']) = true := by
  simp [noMix, noMixAll, noMix_ints]
theorem same4 (zs ws : List Int) (p q r p' q' r' : Int) : PySem.Spec.same (.tuple [.list (zs.map PyData.int), .int p, .int q, .int r]) (.tuple [.list (ws.map PyData.int), .int p', .int q', .int r']) = decide (zs = ws ∧ p = p' ∧ q = q' ∧ r = r') := by
  simp only [PySem.Spec.same, PySem.Spec.sameAll, same_ints, Bool.and_true]
  by_cases h1 : zs = ws <;> by_cases h2 : p = p' <;> by_cases h3 : q = q' <;> by_cases h4 : r = r' <;> simp [h1, h2, h3, h4]

/-- equal or not -/
noncomputable def Both (A : Around) (s : Shared) (cv cu : Value) (b : Bool) : Prop := SeqAt.RcAt A s cv cu b ∧ SeqAt.RcNeAt A s cv cu (!b)
@[elab_as_elim] theorem St.lstR {P : Value → Prop} {i : Nat} {x : List Int} {h : Heap} (st : St c m σ h l news) (hv : VR (adr news) (.obj i) cv) (q : lstI σ i = some x) (k : ∀ a cs n, h.get? a = some (listOf cs n) → IntsAre cs.toList x → P (.ref a)) : P cv := by
  obtain ⟨xs, q1, q2⟩ := lstI_some q
  exact st.listR hv q1 fun a cs n _ _ h1 h2 _ => k a _ n h1 (vrs_ints h2 q2)
@[elab_as_elim] theorem St.st4R {P : Value → Prop} {i : Nat} {t : Nat × Int × Int × Int} {x : List Int} {h : Heap} (st : St c m σ h l news) (hv : VR (adr news) (.obj i) cv) (q : st4 σ i = some t) (q' : lstI σ t.1 = some x) (k : ∀ a ds, Reads h (.ref a) (.tuple [.list (x.map PyData.int), .int t.2.1, .int t.2.2.1, .int t.2.2.2]) ds → P (.ref a)) : P cv :=
  st.tupR hv (st4_some q) fun a cs _ _ g4 hes _ => by
    revert g4
    refine hes.consE fun c1 cs ha hes => hes.consE fun c2 cs hp hes => hes.consE fun c3 cs hq hes => hes.consE fun c4 cs hr hes => hes.nilE ?_
    exact st.lstR ha q' fun la cs n k2 k3 => hp.intE fun tp => hq.intE fun tq => hr.intE fun tr g4 => k a _ (reads4 k2 k3 g4)
theorem both_tup {a : Addr} {as : List Value} {t : Tok} {A : Around} {b : Bool} {m : Nat} (ha : s.heap.IsTuple a as.toArray) (ht : s.heap.IsTuple 175 #[Value.str (nm "boundary") t]) (hu : A.units < cLine)
    (e : ∀ j (h1 : j < as.toArray.size) (h2 : j < #[Value.str (nm "boundary") t].size), SeqAt.EqAt A.in1 s (as.toArray[j]) (#[Value.str (nm "boundary") t][j]) ((fun _ => b) j)) (hm : as.length = m + 1) (hb : (b && as.toArray.size == #[Value.str (nm "boundary") t].size) = b) : Both A s (.ref a) (.ref 175) b := by
  have h1 := RcAt.tuples (A := A) (e := fun _ => b) ha ht hu e
  have h2 := RcNeAt.tuples (A := A) (e := fun _ => b) ha ht hu e
  have e0 : (List.range (min as.toArray.size #[Value.str (nm "boundary") t].size)).all (fun _ => b) = b := by
    rw [show min as.toArray.size #[Value.str (nm "boundary") t].size = 1 by simp [hm]]; simp
  rw [e0] at h1 h2
  rw [hb] at h1 h2
  exact ⟨h1, h2⟩
theorem rc_ints {a b : Addr} {cs ds : Array Value} {n n' : Nat} {x y : List Int} {A : Around} (g2 : s.heap.get? a = some (listOf cs n)) (g3 : IntsAre cs.toList x) (f2 : s.heap.get? b = some (listOf ds n')) (f3 : IntsAre ds.toList y) (hu : A.units + 64 < cLine) : Both A s (.ref a) (.ref b) (decide (x = y)) :=
  rc_data (reads_of_ints (isL g2) g3) (reads_of_ints (isL f2) f3) (shaped_ints _) (shaped_ints _) hu (by simp only [noMix]; exact noMix_ints _ _) (by simp only [PySem.Spec.same]; rw [same_ints])
/-- what plain equality answers -/
theorem both {b : Bool} (st : St c m σ s.heap l news) (hu : c.A'.units + 64 < cLine) (hv : VR (adr news) v cv) (hu' : VR (adr news) u cu) (e : eq1 σ v u = some b) : SeqAt.RcAt c.A' s cv cu b ∧ SeqAt.RcNeAt c.A' s cv cu (!b) := by
  refine eq1_cases (P := fun v u b => VR (adr news) v cv → VR (adr news) u cu → Both c.A' s cv cu b) ?_ ?_ ?_ ?_ ?_ ?_ ?_ e hv hu'
  · exact fun x y hv hu' => hv.intE fun t => hu'.intE fun t' => ⟨RcAt.int_int _ _ _ _, RcNeAt.int_int _ _ _ _⟩
  · exact fun x y hv hu' => show Both _ _ _ _ (x == y) from nm_beq (a := x) ▸ hv.strE fun t => hu'.strE fun t' => ⟨RcAt.str_str _ _ _ _, RcNeAt.str_str _ _ _ _⟩
  · exact fun x y hv hu' => hv.boolE (hu'.boolE ⟨RcAt.bool_bool _ _, RcNeAt.bool_bool _ _⟩)
  · intro hv hu'
    obtain ⟨t, ht⟩ := bnd_at (P := c.w.params) st.bs.X
    exact hv.globE (hu'.globE (both_tup ht ht (by lia) (fun j h1 h2 => EqAt.same _) rfl rfl))
  · intro i x rest q ne hv hu'
    obtain ⟨t, ht⟩ := bnd_at (P := c.w.params) st.bs.X
    refine hu'.globE (st.tupR hv q fun a cs _ _ g4 hcs _ => ?_)
    revert g4
    exact hcs.consE fun cx cr hx hr => hx.strE fun tx g4 => both_tup (isTupO g4) ht (by lia) (tupRow ne) rfl rfl
  · exact fun i j x y q1 q2 hv hu' => st.lstR hv q1 fun a cs n g2 g3 => st.lstR hu' q2 fun b' ds n' f2 f3 => rc_ints g2 g3 f2 f3 hu
  · exact fun i j t t' x y q1 q2 q3 q4 hv hu' => st.st4R hv q1 q3 fun a ds g2 => st.st4R hu' q2 q4 fun b' es f2 => rc_data g2 f2 (shaped4 _ _ _ _) (shaped4 _ _ _ _) hu (mix4 _ _ _ _ _ _ _ _) (same4 _ _ _ _ _ _ _ _)
@[elab_as_elim] theorem ord_ok {G : Value → Value → Bool → Prop} {op : Cop} {b : Bool} (hv : VR ρ v cv) (hu : VR ρ u cu) (e : ordI op v u = some b) (h : ∀ x y tx ty, G (.int x tx) (.int y ty) (icmp op x y)) : G cv cu b :=
  ord_cases (P := fun v u b => VR ρ v cv → VR ρ u cu → G cv cu b) (fun x y hv hu => hv.intE fun tx => hu.intE fun ty => h x y tx ty) e hv hu
theorem cmp_ok {op : Cop} {b : Bool} (st : St c m σ s.heap l news) (hu : c.A'.units + 64 < cLine) (hv : VR (adr news) v cv) (hu' : VR (adr news) u cu) (e : cmp1 σ op v u = some b) (k : Q (.bool b) s) : wpAny (model p0 c.w) c.A' (compareOp (cop op) cv cu) Q E s := by
  cases op with
  | eq => exact (both st hu hv hu' e).1 _ _ _ _ k
  | ne =>
    obtain ⟨b', q, e'⟩ := Option.map_eq_some_iff.mp e
    exact (both st hu hv hu' q).2 _ _ _ _ (e' ▸ k)
  | lt => exact ord_ok hv hu' e (fun x y tx ty k => PySem.P.lt_int k) k
  | le => exact ord_ok hv hu' e (fun x y tx ty k => PySem.P.le_int k) k
  | gt => exact ord_ok hv hu' e (fun x y tx ty k => PySem.P.gt_int k) k
  | ge => exact ord_ok hv hu' e (fun x y tx ty k => PySem.P.ge_int k) k
end
end Mine

namespace Mine
open PySem PySem.W PySem.Calls PyProof.Rows

theorem Bud.u64 {c : Ct} {n : Nat} (b : Bud c n) : c.A'.units + 64 < cLine := by have := b.units; show c.A.units + 3 + 64 < cLine; lia

section
variable {prog : Program} {w : World} {A : Around} {E : Value → Shared → Prop} {s : Shared} {env : Env} {o i : Value} {value slice : PySem.Expr}
theorem subTail {T id : String} {Q : Value → Shared → Prop} (hT : s.TypeIs o T) (hl : typeLookup (.type T) "__getitem__" = pure (some (.builtin id))) (h : wpAny (model prog w) A (getItem o i) Q E s)
    (hs : subscripted slice false o i = operate [o, i] (getItem o i) ∨ subscripted slice false o i = operate [i, o] (getItem o i)) : wpAny (model prog w) A (subscriptTail value slice o i) Q E s := by
  unfold subscriptTail
  refine wpAny_bind ?_
  rw [getitemInPython_of_ne hT.not_modules]
  refine wpAny_bind (wpAny_specialOf hT hl ?_)
  have fin : wpAny (model prog w) A (subscripted slice false o i) (fun r s₃ => wpAny (model prog w) A (letTemporaryGo value o r >>= fun _ => pure r) Q E s₃) E s := by
    rcases hs with hs | hs
    · rw [hs]
      exact wpAny_operating (wpAny_mono h (fun r s₃ h₃ => wpAny_bind (wpAny_letTemporaryGo (wpAny_pure h₃))) fun _ _ x => x)
    · rw [hs]
      exact wpAny_operating (wpAny_mono h (fun r s₃ h₃ => wpAny_bind (wpAny_letTemporaryGo (wpAny_pure h₃))) fun _ _ x => x)
  first
    | exact wpAny_pure (wpAny_bind fin)
    | exact wpAny_bind (wpAny_pure (wpAny_bind fin))
    | exact wpAny_bind fin
end

section
variable {c : Ct} {m : I.Fm} {σ : I.H} {n : Nat} {pos p : Pos} {pa pb pc : PySem.Expr} {ra : I.R I.V} {fb fc : I.H → I.R I.V}
open I

theorem je_bin {op : Bop} (ha : JE c m pa σ ra) (hb : ∀ σ, JE c m pb σ (fb σ)) : JE c m (.BinOp pa (bop op) pb pos) σ (ra.bind fun v σ => (fb σ).bind fun u σ => bin1 σ op v u) := fun s l news Q E st k =>
  wpAny_BinOp (ha s l news _ _ st (k.bind fun v σ₁ _ h₁ t₁ n₁ cv st₁ p₁ v₁ k₁ => hb σ₁ _ l n₁ _ _ st₁ (k₁.bind fun u σ₂ _ h₂ t₂ n₂ cu st₂ p₂ v₂ k₂ => bin_ok st₂ (v₁.mono p₂) v₂ k₂)))
theorem cont_q {α β : Type} {l : List (Str × Value)} {ρ : List Addr} {s : Shared} {rel : List Addr → α → β → Prop} {o : Option α} {Q : β → Shared → Prop} {E : Value → Shared → Prop} (k : Cont c m l ρ s rel (bad? o fun b => .ok b σ) Q E) : ∃ b, o = some b ∧ Cont c m l ρ s rel (.ok b σ) Q E := by
  cases o with
  | none => exact k.elim
  | some b => exact ⟨b, rfl, k⟩
theorem cont_m {α β γ : Type} {l : List (Str × Value)} {ρ : List Addr} {s : Shared} {rel : List Addr → α → β → Prop} {o : Option γ} {f : γ → R α} {Q : β → Shared → Prop} {E : Value → Shared → Prop} (k : Cont c m l ρ s rel (bad? o f) Q E) : ∃ b, o = some b ∧ Cont c m l ρ s rel (f b) Q E := by
  cases o with
  | none => exact k.elim
  | some b => exact ⟨b, rfl, k⟩
theorem je_cmp {op : Cop} (hu : c.A'.units + 64 < cLine) (hm : behindInMarks (cop op) pb = false) (ha : JE c m pa σ ra) (hb : ∀ σ, JE c m pb σ (fb σ)) :
    JE c m (.Compare pa [cop op] [pb] pos) σ (ra.bind fun v σ => (fb σ).bind fun u σ => bad? (cmp1 σ op v u) fun b => .ok (.bool b) σ) := fun s l news Q E st k =>
  wpAny_Compare1 (ha s l news _ _ st (k.bind fun v σ₁ _ h₁ t₁ n₁ cv st₁ p₁ v₁ k₁ => hb σ₁ _ l n₁ _ _ st₁ (k₁.bind fun u σ₂ _ h₂ t₂ n₂ cu st₂ p₂ v₂ k₂ => by
    obtain ⟨b, e, k₃⟩ := cont_m k₂
    exact cmp_ok st₂ hu (v₁.mono p₂) v₂ e (k₃ _ _ _ _ st₂ pre .bool)))) hm
theorem bind_bind {α β γ : Type} {r : R α} {f : α → H → R β} {g : β → H → R γ} : (r.bind f).bind g = r.bind fun a σ => (f a σ).bind g := by cases r <;> rfl
theorem bad_bind {α β γ : Type} {o : Option α} {f : α → R β} {g : β → H → R γ} : (bad? o f).bind g = bad? o fun a => (f a).bind g := by cases o <;> rfl
theorem jt_cmp {op : Cop} (hu : c.A'.units + 64 < cLine) (hm : behindInMarks (cop op) pb = false) (ha : JE c m pa σ ra) (hb : ∀ σ, JE c m pb σ (fb σ)) :
    JT c m (.Compare pa [cop op] [pb] pos) σ (ra.bind fun v σ => (fb σ).bind fun u σ => bad? (cmp1 σ op v u) fun b => .ok (.bool b) σ) := fun s l news Q E st k => by
  rw [bind_bind] at k
  simp only [bind_bind, bad_bind] at k
  exact wpAny_isTrue_Compare1 (ha s l news _ _ st (k.bind fun v σ₁ _ h₁ t₁ n₁ cv st₁ p₁ v₁ k₁ => hb σ₁ _ l n₁ _ _ st₁ (k₁.bind fun u σ₂ _ h₂ t₂ n₂ cu st₂ p₂ v₂ k₂ => by
    obtain ⟨b, e, k₃⟩ := cont_q k₂
    exact cmp_ok st₂ hu (v₁.mono p₂) v₂ e (wpAny_truthy_bool (k₃ _ _ _ _ st₂ pre rfl))))) hm

theorem vr_none_iff {ρ : List Addr} {v : V} {cv : Value} (h : VR ρ v cv) : (cv == .none) = decide (v = .none) := by
  cases h <;> rfl
theorem jt_of {P : R V} (ra : R V) (f : V → Bool) (e : P = ra.bind fun v σ => .ok (.bool (f v)) σ) : (P.bind fun v σ => bad? (truth v) fun t => R.ok t σ) = ra.bind fun v σ => .ok (f v) σ := by
  subst e
  cases ra <;> rfl
theorem jt_isn {p : Pos} {kd : Nat} (ha : JE c m pa σ ra) : JT c m (.Compare pa [.Is] [.Constant .none kd p] pos) σ (ra.bind fun v σ => .ok (.bool (decide (v = .none))) σ) := fun s l news Q E st k => by
  rw [jt_of ra _ rfl] at k
  exact wpAny_isTrue_Compare1 (ha s l news _ _ st (k.bind fun v σ₁ _ h₁ t₁ n₁ cv st₁ p₁ v₁ k₁ => Constant_none (PySem.is_none (wpAny_truthy_bool (by rw [vr_none_iff v₁]; exact k₁ _ _ _ _ st₁ pre rfl))))) (by with_unfolding_all rfl)
theorem jt_isnn {p : Pos} {kd : Nat} (ha : JE c m pa σ ra) : JT c m (.Compare pa [.IsNot] [.Constant .none kd p] pos) σ (ra.bind fun v σ => .ok (.bool (!decide (v = .none))) σ) := fun s l news Q E st k => by
  rw [jt_of ra _ rfl] at k
  exact wpAny_isTrue_Compare1 (ha s l news _ _ st (k.bind fun v σ₁ _ h₁ t₁ n₁ cv st₁ p₁ v₁ k₁ => Constant_none (PySem.isNot_none (wpAny_truthy_bool (by rw [vr_none_iff v₁]; exact k₁ _ _ _ _ st₁ pre rfl))))) (by with_unfolding_all rfl)
end
end Mine

namespace Mine
open PySem PySem.W PySem.Calls PyProof.Rows
structure AttOk (w : World) (C : Addr) (x : Str) : Prop where
  pg : plainGet (K w.params) C x = true
  hd : hasDictIn (K w.params) C = true
  sa : findIn (K w.params) (.ref C) "__setattr__" = some (some (.builtin "object.__setattr__"))
  po : plainOver (K w.params) C = true
  at_ : findIn (K w.params) (.ref C) x = some none
  tk : takerIn (K w.params) C x = some none
theorem ClsOk.att {w : World} {C : Addr} {names : List Str} {x : Str} (k : ClsOk w C names) (a : findIn (K w.params) (.ref C) x = some none) (t : takerIn (K w.params) C x = some none) : AttOk w C x := ⟨k.pg _, k.hd, k.sa, k.po, a, t⟩
theorem all_nil {α : Type} {P : α → Prop} : ∀ x ∈ ([] : List α), P x := fun _ h => by cases h
theorem all_cons {α : Type} {P : α → Prop} {a : α} {l : List α} (h : P a) (t : ∀ x ∈ l, P x) : ∀ x ∈ a :: l, P x := fun x hx => by
  rcases List.mem_cons.mp hx with rfl | hx
  · exact h
  · exact t x hx
theorem att_ok (w : World) {C : Nat} {x : String} (e : I.attOk C x = true) : AttOk w C (nm x) := by
  obtain ⟨p, hp, h⟩ := List.any_eq_true.mp e
  obtain ⟨h1, h2⟩ := Bool.and_eq_true_iff.mp h
  obtain rfl := eq_of_beq h1
  obtain rfl := eq_of_beq h2
  have all : ∀ p ∈ I.attT, AttOk w p.1 (nm p.2) := (all_cons (ok260.att at260_rows tk260_rows) (all_cons (ok260.att at260_dropped tk260_dropped) (all_cons (ok260.att at260_is_on tk260_is_on) (all_cons (ok260.att at260_point_before tk260_point_before) (all_cons (ok260.att at260_noted_tick tk260_noted_tick) (all_cons (ok407.att at407_room tk407_room) (all_cons (ok407.att at407_cells tk407_cells) (all_cons (ok407.att at407_gap_start tk407_gap_start) (all_cons (ok407.att at407_gap_end tk407_gap_end) (all_cons (ok477.att at477_rows tk477_rows) (all_cons (ok618.att at618_number tk618_number) (all_cons (ok618.att at618_name tk618_name) (all_cons (ok618.att at618_text tk618_text) (all_cons (ok618.att at618_markers tk618_markers) (all_cons (ok618.att at618_point tk618_point) (all_cons (ok618.att at618_begv tk618_begv) (all_cons (ok618.att at618_zv tk618_zv) (all_cons (ok618.att at618_mark tk618_mark) (all_cons (ok618.att at618_is_live tk618_is_live) (all_cons (ok618.att at618_is_read_only tk618_is_read_only) (all_cons (ok618.att at618_ticks tk618_ticks) (all_cons (ok618.att at618_codes_ticks tk618_codes_ticks) (all_cons (ok618.att at618_saved_ticks tk618_saved_ticks) (all_cons (ok618.att at618_listeners tk618_listeners) (all_cons (ok618.att at618_undo tk618_undo) (all_cons (ok618.att at618_props tk618_props) (all_cons (ok618.att at618_overlays tk618_overlays) (all_cons (ok618.att at618_locals tk618_locals) (all_cons (ok618.att at618_syntax tk618_syntax) (all_cons (ok618.att at618_file tk618_file) (all_cons (ok651.att at651_codes tk651_codes) (all_cons (ok651.att at651_runs tk651_runs) (all_cons (ok691.att at691_list tk691_list) all_nil)))))))))))))))))))))))))))))))))
  exact all p hp
theorem frs_get {ρ : List Addr} {fs : List (String × I.V)} {es : List DictEntry} {x : String} {v : I.V} (f : FRs ρ fs es) (e : fs.lookup x = some v) : ∃ cv, getL (nm x) es = some (some cv) ∧ VR ρ v cv := by
  induction f with
  | nil => cases e
  | @cons y u cu hs t fs es h f ih =>
    unfold getL
    by_cases q : y = x
    · subst q
      rw [List.lookup_cons_self] at e; cases e
      rw [List.find?_cons_of_pos (by show (nm y == nm y) = true; exact beq_self_eq_true _)]
      exact ⟨cu, rfl, h⟩
    · have hq : (x == y) = false := beq_eq_false_iff_ne.mpr fun z => q z.symm
      rw [List.lookup_cons, hq] at e
      obtain ⟨cv, h1, h2⟩ := ih e
      refine ⟨cv, ?_, h2⟩
      rw [List.find?_cons_of_neg (by show ¬ (nm y == nm x) = true; rw [nm_beq]; simpa using q)]
      unfold getL at h1
      split at h1
      · exact h1
      · rw [List.any_cons]
        split at h1
        · cases h1
        · cases h1
theorem frs_none {ρ : List Addr} {fs : List (String × I.V)} {es : List DictEntry} {x : String} (f : FRs ρ fs es) (e : fs.lookup x = .none) : getL (nm x) es = some none := by
  have h : es.find? (·.key.isStr (nm x)) = none ∧ es.any (·.refKey) = false := by
    induction f with
    | nil => exact ⟨rfl, rfl⟩
    | @cons y u cu hs t fs es h f ih =>
      by_cases q : y = x
      · subst q
        rw [List.lookup_cons_self] at e; cases e
      · have hq : (x == y) = false := beq_eq_false_iff_ne.mpr fun z => q z.symm
        rw [List.lookup_cons, hq] at e
        obtain ⟨h1, h2⟩ := ih e
        exact ⟨by rw [List.find?_cons_of_neg (by show ¬ (nm y == nm x) = true; rw [nm_beq]; simpa using q)]; exact h1, by rw [List.any_cons, h2]; rfl⟩
  unfold getL
  rw [h.1, h.2]
  rfl
theorem frs_some {ρ : List Addr} {fs : List (String × I.V)} {es : List DictEntry} {x : String} (f : FRs ρ fs es) : (getL (nm x) es).isSome = true := by
  cases q : fs.lookup x with
  | none => rw [frs_none f q]; rfl
  | some v => obtain ⟨cv, h, _⟩ := frs_get f q; rw [h]; rfl
theorem frs_put {ρ : List Addr} {fs : List (String × I.V)} {es : List DictEntry} {x : String} {v : I.V} {cv : Value} (f : FRs ρ fs es) (h : VR ρ v cv) (hs : Int) (t : Tok) : FRs ρ (I.upd x v fs) (putL (nm x) hs (.str (nm x) t) cv es) := by
  induction f with
  | nil => exact .cons h .nil
  | @cons y u cu hs' t' fs es h' f ih =>
    unfold I.upd putL
    by_cases q : y = x
    · subst q
      rw [if_pos rfl, if_pos (by show (nm y == nm y) = true; exact beq_self_eq_true _)]
      exact .cons h f
    · rw [if_neg q, if_neg (by show ¬ (nm y == nm x) = true; rw [nm_beq]; simpa using q)]
      exact .cons h' ih
theorem frs_len {ρ : List Addr} {fs : List (String × I.V)} {es : List DictEntry} (f : FRs ρ fs es) : fs.length = es.length := by
  induction f with
  | nil => rfl
  | cons _ _ ih => rw [List.length_cons, List.length_cons, ih]
theorem put_len {x : Str} {hs : Int} {k v : Value} : ∀ es : List DictEntry, (putL x hs k v es).length ≤ es.length + 1
  | [] => Nat.le_refl _
  | e :: r => by
    unfold putL
    split
    · simp
    · simpa using put_len r
theorem vr_in {ρ : List Addr} {v : I.V} {cv : Value} (h : VR ρ v cv) : handedIn cv = true := by cases h <;> rfl
end Mine

namespace Mine
open PySem PySem.W PySem.Calls PyProof.Rows

section
variable {c : Ct} {m : I.Fm} {σ : I.H} {n : Nat} {pos p : Pos} {pa pb pc : PySem.Expr} {ra : I.R I.V} {fb fc : I.H → I.R I.V}
open I

/-- the truth of an answer -/
noncomputable def T (r : R V) : R Bool := r.bind fun v σ => bad? (truth v) fun t => .ok t σ
theorem jt_not {whole : R V} (ha : JT c m pa σ ra) (e : whole = ra.bind fun v σ => bad? (truth v) fun t => .ok (.bool (!t)) σ) : JT c m (.UnaryOp .Not pa pos) σ whole := fun s l news Q E st k => by
  subst e
  have e0 : ((ra.bind fun v σ => bad? (truth v) fun t => R.ok (V.bool !t) σ).bind fun v σ => bad? (truth v) fun t => R.ok t σ) = (T ra).bind fun t σ => .ok (!t) σ := by
    cases ra with
    | bad => rfl
    | exc => rfl
    | ok v σ => unfold T; show R.bind (bad? (truth v) _) _ = R.bind (bad? (truth v) _) _; cases truth v <;> rfl
  rw [e0] at k
  exact isTrue_not (ha s l news _ _ st (k.bind fun v σ₁ _ h₁ t₁ n₁ cv st₁ p₁ v₁ k₁ => by subst v₁; exact k₁ _ _ _ _ st₁ pre rfl))
theorem t_and (ra : R V) (fb : H → R V) : T (ra.bind fun v σ => bad? (truth v) fun t => if t then fb σ else .ok v σ) = (T ra).bind fun t σ => if t then T (fb σ) else .ok false σ := by
  cases ra with
  | bad => rfl
  | exc => rfl
  | ok v σ =>
    show T (bad? (truth v) _) = R.bind (bad? (truth v) _) _
    cases q : truth v with
    | none => rfl
    | some t =>
      cases t with
      | true => rfl
      | false =>
        show T (R.ok v σ) = R.ok false σ
        unfold T
        show bad? (truth v) _ = _
        rw [q]; rfl
theorem t_or (ra : R V) (fb : H → R V) : T (ra.bind fun v σ => bad? (truth v) fun t => if t then .ok v σ else fb σ) = (T ra).bind fun t σ => if t then .ok true σ else T (fb σ) := by
  cases ra with
  | bad => rfl
  | exc => rfl
  | ok v σ =>
    show T (bad? (truth v) _) = R.bind (bad? (truth v) _) _
    cases q : truth v with
    | none => rfl
    | some t =>
      cases t with
      | false => rfl
      | true =>
        show T (R.ok v σ) = R.ok true σ
        unfold T
        show bad? (truth v) _ = _
        rw [q]; rfl
theorem jt_and2 (ha : JT c m pa σ ra) (hb : ∀ σ, JT c m pb σ (fb σ)) : JT c m (.BoolOp .And [pa, pb] pos) σ (ra.bind fun v σ => bad? (truth v) fun t => if t then fb σ else .ok v σ) := fun s l news Q E st k => by
  change Cont c m l (adr news) s _ (T _) Q E at k
  rw [t_and] at k
  refine isTrue_and (ha s l news _ _ st (k.bind fun v σ₁ _ h₁ t₁ n₁ cv st₁ p₁ v₁ k₁ => ?_))
  subst v₁
  cases v with
  | false => exact k₁ _ _ _ _ st₁ pre rfl
  | true =>
    refine isTrue_and (hb σ₁ _ l n₁ _ _ st₁ ?_)
    have k₂ : Cont c m l (adr n₁) (up s h₁ t₁) (fun _ (a : Bool) b => a = b) ((T (fb σ₁)).bind fun t σ => .ok t σ) Q E := by
      have : ((T (fb σ₁)).bind fun t σ => R.ok t σ) = T (fb σ₁) := by cases T (fb σ₁) <;> rfl
      rw [this]; exact k₁
    refine k₂.bind fun v σ₂ _ h₂ t₂ n₂ cv st₂ p₂ v₂ k₃ => ?_
    subst v₂
    cases v with
    | false => exact k₃ _ _ _ _ st₂ pre rfl
    | true => exact isTrue_and_nil (k₃ _ _ _ _ st₂ pre rfl)
theorem jt_or2 (ha : JT c m pa σ ra) (hb : ∀ σ, JT c m pb σ (fb σ)) : JT c m (.BoolOp .Or [pa, pb] pos) σ (ra.bind fun v σ => bad? (truth v) fun t => if t then .ok v σ else fb σ) := fun s l news Q E st k => by
  change Cont c m l (adr news) s _ (T _) Q E at k
  rw [t_or] at k
  refine isTrue_or (ha s l news _ _ st (k.bind fun v σ₁ _ h₁ t₁ n₁ cv st₁ p₁ v₁ k₁ => ?_))
  subst v₁
  cases v with
  | true => exact k₁ _ _ _ _ st₁ pre rfl
  | false =>
    refine isTrue_or (hb σ₁ _ l n₁ _ _ st₁ ?_)
    have k₂ : Cont c m l (adr n₁) (up s h₁ t₁) (fun _ (a : Bool) b => a = b) ((T (fb σ₁)).bind fun t σ => .ok t σ) Q E := by
      have : ((T (fb σ₁)).bind fun t σ => R.ok t σ) = T (fb σ₁) := by cases T (fb σ₁) <;> rfl
      rw [this]; exact k₁
    refine k₂.bind fun v σ₂ _ h₂ t₂ n₂ cv st₂ p₂ v₂ k₃ => ?_
    subst v₂
    cases v with
    | true => exact k₃ _ _ _ _ st₂ pre rfl
    | false => exact isTrue_or_nil (k₃ _ _ _ _ st₂ pre rfl)
theorem jt_and3 (ha : JT c m pa σ ra) (hb : ∀ σ, JT c m pb σ (fb σ)) (hc : ∀ σ, JT c m pc σ (fc σ)) :
    JT c m (.BoolOp .And [pa, pb, pc] pos) σ (ra.bind fun v σ => bad? (truth v) fun t => if t then ((fb σ).bind fun v σ => bad? (truth v) fun t => if t then fc σ else .ok v σ) else .ok v σ) := fun s l news Q E st k => by
  change Cont c m l (adr news) s _ (T _) Q E at k
  rw [t_and] at k
  refine isTrue_and (ha s l news _ _ st (k.bind fun v σ₁ _ h₁ t₁ n₁ cv st₁ p₁ v₁ k₁ => ?_))
  subst v₁
  cases v with
  | false => exact k₁ _ _ _ _ st₁ pre rfl
  | true => exact jt_and2 (pos := pos) (hb σ₁) hc _ l n₁ _ _ st₁ k₁
theorem jt_or3 (ha : JT c m pa σ ra) (hb : ∀ σ, JT c m pb σ (fb σ)) (hc : ∀ σ, JT c m pc σ (fc σ)) :
    JT c m (.BoolOp .Or [pa, pb, pc] pos) σ (ra.bind fun v σ => bad? (truth v) fun t => if t then .ok v σ else ((fb σ).bind fun v σ => bad? (truth v) fun t => if t then .ok v σ else fc σ)) := fun s l news Q E st k => by
  change Cont c m l (adr news) s _ (T _) Q E at k
  rw [t_or] at k
  refine isTrue_or (ha s l news _ _ st (k.bind fun v σ₁ _ h₁ t₁ n₁ cv st₁ p₁ v₁ k₁ => ?_))
  subst v₁
  cases v with
  | true => exact k₁ _ _ _ _ st₁ pre rfl
  | false => exact jt_or2 (pos := pos) (hb σ₁) hc _ l n₁ _ _ st₁ k₁

theorem vr_truth {ρ : List Addr} {v : V} {cv : Value} {t : Bool} (h : VR ρ v cv) (e : truth v = some t) : cv = .bool t := by
  cases h <;> cases e; rfl
theorem jt_plain (ha : JE c m pa σ ra) (he : ∀ whole, isTrue pa c.env whole = (do let v ← whole; standAt pa.pos; holding [v] (truthy v))) : JT c m pa σ ra := fun s l news Q E st k =>
  isTrue_plain (ha s l news _ _ st (k.bind fun v σ₁ _ h₁ t₁ n₁ cv st₁ p₁ v₁ k₁ => by
    obtain ⟨t, e, k₂⟩ := cont_q k₁
    cases vr_truth v₁ e
    exact wpAny_truthy_bool (k₂ _ _ _ _ st₁ pre rfl))) (he _)
/-- and / or as values -/
theorem je_and2 (ha : JE c m pa σ ra) (hb : ∀ σ, JE c m pb σ (fb σ)) : JE c m (.BoolOp .And [pa, pb] pos) σ (ra.bind fun v σ => bad? (truth v) fun t => if t then fb σ else .ok v σ) := fun s l news Q E st k => by
  show wpAny _ _ (do
    let v ← eval pa c.env
    standAt pos
    let t ← holding [v] (truthy v)
    match BoolOp.And, t with
    | .And, false | .Or, true => pure v
    | _, _ => eval pb c.env) Q E s
  refine wpAny_bind (ha s l news _ _ st (k.bind fun v σ₁ _ h₁ t₁ n₁ cv st₁ p₁ v₁ k₁ => wpAny_bind (wpAny_standAt (wpAny_bind (wpAny_holding ?_)))))
  obtain ⟨t, e, k₂⟩ := cont_m k₁
  cases vr_truth v₁ e
  refine wpAny_truthy_bool ?_
  cases t with
  | false => exact wpAny_pure (k₂ _ _ _ _ st₁ pre v₁)
  | true => exact hb σ₁ _ l n₁ _ _ st₁ k₂
theorem je_or2 (ha : JE c m pa σ ra) (hb : ∀ σ, JE c m pb σ (fb σ)) : JE c m (.BoolOp .Or [pa, pb] pos) σ (ra.bind fun v σ => bad? (truth v) fun t => if t then .ok v σ else fb σ) := fun s l news Q E st k => by
  show wpAny _ _ (do
    let v ← eval pa c.env
    standAt pos
    let t ← holding [v] (truthy v)
    match BoolOp.Or, t with
    | .And, false | .Or, true => pure v
    | _, _ => eval pb c.env) Q E s
  refine wpAny_bind (ha s l news _ _ st (k.bind fun v σ₁ _ h₁ t₁ n₁ cv st₁ p₁ v₁ k₁ => wpAny_bind (wpAny_standAt (wpAny_bind (wpAny_holding ?_)))))
  obtain ⟨t, e, k₂⟩ := cont_m k₁
  cases vr_truth v₁ e
  refine wpAny_truthy_bool ?_
  cases t with
  | true => exact wpAny_pure (k₂ _ _ _ _ st₁ pre v₁)
  | false => exact hb σ₁ _ l n₁ _ _ st₁ k₂
theorem t_cont {α : Type} {l : List (Str × Value)} {ρ : List Addr} {s : Shared} {β : Type} {rel : List Addr → α → β → Prop} {f : Bool → H → R α} {Q : β → Shared → Prop} {E : Value → Shared → Prop} {r : R V}
    (k : Cont c m l ρ s rel (r.bind fun v σ => bad? (truth v) fun t => f t σ) Q E) : Cont c m l ρ s rel ((T r).bind f) Q E := by
  have e : ((T r).bind f) = (r.bind fun v σ => bad? (truth v) fun t => f t σ) := by
    cases r with
    | bad => rfl
    | exc => rfl
    | ok v σ => unfold T; show R.bind (bad? (truth v) _) _ = bad? (truth v) _; cases truth v <;> rfl
  rw [e]; exact k
theorem je_ifx (ht : JT c m pa σ ra) (hb : ∀ σ, JE c m pb σ (fb σ)) (hc : ∀ σ, JE c m pc σ (fc σ)) : JE c m (.IfExp pa pb pc pos) σ (ra.bind fun v σ => bad? (truth v) fun t => if t then fb σ else fc σ) := fun s l news Q E st k =>
  wpAny_IfExp (ht s l news _ _ st ((t_cont k).bind fun v σ₁ _ h₁ t₁ n₁ cv st₁ p₁ v₁ k₁ => by
    subst v₁
    cases v with
    | true => exact hb σ₁ _ l n₁ _ _ st₁ k₁
    | false => exact hc σ₁ _ l n₁ _ _ st₁ k₁))
end
end Mine

namespace Mine
open PySem PySem.W PySem.Calls PyProof.Rows

section
variable {c : Ct} {m : I.Fm} {σ : I.H} {n : Nat} {pos p : Pos} {pa pb pc : PySem.Expr} {pes : List PySem.Expr} {ra : I.R I.V} {ras : I.R (List I.V)} {fb fc : I.H → I.R I.V} {fbs : I.H → I.R (List I.V)}
open I

theorem if_bad {α : Type} {P : R α → Prop} {r : R α} {p : Prop} [Decidable p] (hb : P .bad) (h : p → P r) : P (if p then r else .bad) := by
  by_cases q : p
  · rw [if_pos q]; exact h q
  · rw [if_neg q]; exact hb
theorem q_bad {α β : Type} {P : R α → Prop} {o : Option β} {f : β → R α} (hb : P .bad) (h : ∀ a, o = some a → P (f a)) : P (bad? o f) := by
  cases o with
  | none => exact hb
  | some a => exact h a rfl
theorem att1_cases {x : String} {P : V → R V → Prop} (hb : ∀ v, P v .bad) (h : ∀ i C d fs v, σ[i]? = some (.inst C d) → σ[d]? = some (.dict fs) → attOk C x = true → fs.lookup x = some v → P (.obj i) (.ok v σ)) (v : V) : P v (att1 x v σ) := by
  unfold att1
  split
  · split
    · split
      · exact if_bad (P := P _) (hb _) fun q => q_bad (P := P _) (hb _) fun v e => h _ _ _ _ v ‹_› ‹_› q e
      · exact hb _
    · exact hb _
  · exact hb _
theorem frs_getE {G : Prop} {ρ : List Addr} {fs : List (String × I.V)} {es : List DictEntry} {x : String} {v : I.V} (f : FRs ρ fs es) (e : fs.lookup x = some v) (k : ∀ cv, getL (nm x) es = some (some cv) → VR ρ v cv → G) : G := let ⟨cv, a, b⟩ := frs_get f e; k cv a b
theorem je_att {x : String} (he : eval (.Attribute pa (nm x) pos) c.env = (do
      let o ← eval pa c.env
      standAt pos.atName
      let r ← holding [o] (getAttr o (nm x) true)
      letTemporaryGo pa o r
      pure r)) (ha : JE c m pa σ ra) : JE c m (.Attribute pa (nm x) pos) σ (ra.bind fun v σ => att1 x v σ) := fun s l news Q E st k => by
  exact Attribute_any_ (ha s l news _ _ st (k.bind fun v σ₁ _ h₁ t₁ n₁ cv st₁ p₁ v₁ k₁ => att1_cases (P := fun v r => VR (adr n₁) v cv → Cont c m l (adr n₁) (up s h₁ t₁) VR r Q E → _) (fun _ _ k => k.elim) (fun i C d fs v q q2 hat e v₁ k₂ =>
    st₁.instR v₁ q q2 fun a dd es n' g2 g4 _ f4 hfs =>
    frs_getE hfs e fun cv hl hv => attr_core (s := (up s h₁ t₁)) st₁.bs g4 f4 (att_ok c.w hat).pg (att_ok c.w hat).hd (att_ok c.w hat).at_ hl (vr_in hv) (k₂ _ _ _ _ st₁ pre hv)) v v₁ k₁)) he

theorem jes_nil : JEs c m [] σ (.ok [] σ) := fun s l news pos Q E st k => spliced_none (k s.heap s.toks _ _ st pre .nil)
theorem jes_cons (he : starEach (pa :: pes) c.env = (false, eval pa c.env) :: starEach pes c.env) (ha : JE c m pa σ ra) (hb : ∀ σ, JEs c m pes σ (fbs σ)) :
    JEs c m (pa :: pes) σ (ra.bind fun v σ => (fbs σ).bind fun vs σ => .ok (v :: vs) σ) := fun s l news pos Q E st k =>
  spliced_more (ha s l news _ _ st (k.bind fun v σ₁ _ h₁ t₁ n₁ cv st₁ p₁ v₁ k₁ => hb σ₁ _ l n₁ pos _ _ st₁ (k₁.bind fun u σ₂ _ h₂ t₂ n₂ cu st₂ p₂ v₂ k₂ => k₂ _ _ _ _ st₂ pre (.cons (v₁.mono p₂) v₂)))) he
theorem cont_if {α β : Type} {l : List (Str × Value)} {ρ : List Addr} {s : Shared} {rel : List Addr → α → β → Prop} {P : Prop} [Decidable P] {r : R α} {Q : β → Shared → Prop} {E : Value → Shared → Prop} (k : Cont c m l ρ s rel (if P then r else .bad) Q E) : P ∧ Cont c m l ρ s rel r Q E := by
  split at k
  · exact ⟨by assumption, k⟩
  · exact k.elim
theorem je_lst (ha : JEs c m pes σ ras) : JE c m (.List pes pos) σ (ras.bind fun vs σ => if vs.length ≤ 1000 then .ok (.obj σ.length) (σ ++ [.list vs]) else .bad) := fun s l news Q E st k =>
  List_ (ha s l news pos _ _ st (k.bind fun v σ₁ e h₁ t₁ n₁ cv st₁ p₁ v₁ k₁ => by
    obtain ⟨hz, k₂⟩ := cont_if k₁
    exact wpAny_newObj_type (k₂ _ _ _ _ (st₁.add (Grow.push _ _) rfl (Heap.get?_push_size _ rfl) (.list v₁ (by lia))) pre_add (.obj (new_at st₁.rel))) (by
    show cv.toArray.size ≤ sizeLine; rw [List.size_toArray, ← v₁.len, sizeLine_eq]; lia)))
theorem je_tup {kd : Nat} (ha : JEs c m pes σ ras) : JE c m (.Tuple pes kd pos) σ (ras.bind fun vs σ => if vs.length ≤ 1000 then .ok (.obj σ.length) (σ ++ [.tup vs]) else .bad) := fun s l news Q E st k =>
  Tuple_ (ha s l news pos _ _ st (k.bind fun v σ₁ e h₁ t₁ n₁ cv st₁ p₁ v₁ k₁ => by
    obtain ⟨hz, k₂⟩ := cont_if k₁
    exact wpAny_newObj_type (k₂ _ _ _ _ (st₁.add (Grow.push _ _) rfl (Heap.get?_push_size _ rfl) (.tup v₁ (by lia))) pre_add (.obj (new_at st₁.rel))) (by
    show cv.toArray.size ≤ sizeLine; rw [List.size_toArray, ← v₁.len, sizeLine_eq]; lia)))

theorem tup_of {h : Heap} {a : Addr} {cs : List Value} (e : h.IsTuple a cs.toArray) : IsTup h a cs.toArray := let ⟨o, ho, hc, n, hd⟩ := e; ⟨o, ho, hc, n, hd⟩
/-- where an item stands -/
noncomputable def ItemAt (cs : List Value) (z : Int) (cx : Value) : Prop := (0 ≤ z ∧ z < cs.length ∧ cs[z.toNat]? = some cx) ∨ (z < 0 ∧ 0 ≤ z + cs.length ∧ cs[(z + cs.length).toNat]? = some cx)
theorem seq_idx {G : Prop} {xs : List V} {cs : List Value} {z : Int} {x : V} {ρ : List Addr} (h : VRs ρ xs cs) (e : item1 xs z = some x) (k : ∀ cx, VR ρ x cx → ItemAt cs z cx → G) : G := by
  unfold item1 at e
  rw [h.len] at e
  split at e
  · rename_i h0
    obtain ⟨cx, h1, h2⟩ := h.get e
    have := (List.getElem?_eq_some_iff.mp h1).1
    exact k cx h2 (.inl ⟨h0, by lia, h1⟩)
  · split at e
    · rename_i h0 h1
      obtain ⟨cx, h2, h3⟩ := h.get e
      exact k cx h3 (.inr ⟨by lia, h1, h2⟩)
    · cases e
theorem idx_list {a : Addr} {n : Nat} {cs : List Value} {z : Int} {tz : Tok} {cx : Value} {A : Around} {s : Shared} {Q : Value → Shared → Prop} {E : Value → Shared → Prop} {w : World} (hl : s.heap.get? a = some (listOf cs.toArray n)) (hz : cs.length ≤ 1000000) (hi : ItemAt cs z cx) (k : Q cx s) : wpAny (model p0 w) A (getItem (.ref a) (.int z tz)) Q E s := by
  rcases hi with ⟨h0, h1, h2⟩ | ⟨h0, h1, h2⟩
  · exact wpAny_getItem_list (isL hl) h0 (by lia) (List.getElem?_toArray.trans h2) k
  · exact wpAny_getItem_list_neg (isL hl) h0 (by rw [List.size_toArray]; lia) (by lia) (by rw [List.size_toArray]; exact List.getElem?_toArray.trans h2) k
theorem idx_tup {a : Addr} {cs : List Value} {z : Int} {tz : Tok} {cx : Value} {A : Around} {s : Shared} {Q : Value → Shared → Prop} {E : Value → Shared → Prop} {w : World} (ht : IsTup s.heap a cs.toArray) (hz : cs.length ≤ 1000000) (hi : ItemAt cs z cx) (k : Q cx s) : wpAny (model p0 w) A (getItem (.ref a) (.int z tz)) Q E s := by
  rcases hi with ⟨h0, h1, h2⟩ | ⟨h0, h1, h2⟩
  · refine getItem_tuple (j := z.toNat) ht (by lia) (by lia) ?_ (List.getElem?_toArray.trans h2) k
    unfold seqIndex?
    rw [if_neg (show ¬ z < 0 by lia)]
    dsimp only
    rw [if_pos (by simp; lia)]
  · refine getItem_tuple (j := (z + cs.length).toNat) ht (by lia) (by lia) ?_ (List.getElem?_toArray.trans h2) k
    unfold seqIndex?
    rw [if_pos h0, List.size_toArray]
    dsimp only
    rw [if_pos (by simp; lia)]
theorem idx1_cases {P : V → V → R V → Prop} (hb : ∀ v u, P v u .bad) (h1 : ∀ i z xs x, σ[i]? = some (.list xs) → item1 xs z = some x → P (.obj i) (.int z) (.ok x σ)) (h2 : ∀ i z xs x, σ[i]? = some (.tup xs) → item1 xs z = some x → P (.obj i) (.int z) (.ok x σ))
    (h3 : P (.glob 175) (.int 0) (.ok (.str "boundary") σ)) (v u : V) : P v u (idx1 v u σ) := by
  unfold idx1
  split
  · split
    · exact q_bad (P := P _ _) (hb _ _) fun v e => h1 _ _ _ _ ‹_› e
    · exact q_bad (P := P _ _) (hb _ _) fun v e => h2 _ _ _ _ ‹_› e
    · exact hb _ _
  · exact if_bad (P := P _ _) (hb _ _) fun q => q ▸ h3
  · exact hb _ _
/-- an item -/
theorem je_idx (hs : ∀ o i, subscripted pb false o i = operate [o, i] (getItem o i)) (ha : JE c m pa σ ra) (hb : ∀ σ, JE c m pb σ (fb σ)) :
    JE c m (.Subscript pa pb pos) σ (ra.bind fun v σ => (fb σ).bind fun u σ => idx1 v u σ) := fun s l news Q E st k => by
  refine Subscript_ (ha s l news _ _ st (k.bind fun v σ₁ ea h₁ t₁ n₁ cv st₁ p₁ v₁ k₁ => hb σ₁ _ l n₁ _ _ st₁ (k₁.bind fun u σ₂ eb h₂ t₂ n₂ cu st₂ p₂ v₂ k₂ => idx1_cases (P := fun v u r => VR (adr n₂) v cv → VR (adr n₂) u cu → Cont c m l (adr n₂) (up s h₂ t₂) VR r Q E → _) (fun _ _ _ _ k => k.elim) ?_ ?_ ?_ v u (v₁.mono p₂) v₂ k₂)))
  · exact fun i z xs x q e hv hu k => hu.intE fun tz => st₂.listR hv q fun a cs n' _ _ g4 hcs hz => seq_idx hcs e fun cx hx hi => subTail (isL g4).typeIs list_getitem_lookup (idx_list g4 (by rw [← hcs.len]; exact hz) hi (k _ _ _ _ st₂ pre hx)) (.inl (hs _ _))
  · exact fun i z xs x q e hv hu k => hu.intE fun tz => st₂.tupR hv q fun a cs _ _ g4 hcs hz => seq_idx hcs e fun cx hx hi => subTail (s := up s h₂ t₂) (IsTup.typeIs ⟨_, g4, rfl, 0, rfl⟩) slot_tuple_getitem.lookup (idx_tup ⟨_, g4, rfl, 0, rfl⟩ (by rw [← hcs.len]; exact hz) hi (k _ _ _ _ st₂ pre hx)) (.inl (hs _ _))
  · intro hv hu k
    obtain ⟨t, ht⟩ := bnd_at (P := c.w.params) st₂.bs.X
    have ht' := tup_of ht
    exact hv.globE (hu.intE fun tz => subTail (s := up s h₂ t₂) ht'.typeIs slot_tuple_getitem.lookup (idx_tup ht' (Nat.le_of_ble_eq_true rfl) (.inl ⟨Int.le_refl 0, Int.zero_lt_one, rfl⟩) (k _ _ _ _ st₂ pre .str)) (.inl (hs _ _)))
end
end Mine

namespace Mine
open PySem PySem.W PySem.Calls PyProof.Rows

section
variable {c : Ct} {m : I.Fm} {σ : I.H} {n : Nat} {pos p f : Pos} {pa pb pc : PySem.Expr} {pes : List PySem.Expr} {ra : I.R I.V} {ras : I.R (List I.V)} {fb fc : I.H → I.R I.V} {fbs : I.H → I.R (List I.V)}
open I

theorem ao_list {α : Type} {P : R α → Prop} {o : Option AO} {f : List V → R α} (hb : P .bad) (h : ∀ xs, o = some (.list xs) → P (f xs)) : P (match (generalizing := false) o with | some (.list xs) => f xs | _ => .bad) := by
  cases o with
  | none => exact hb
  | some o => cases o with
    | list xs => exact h xs rfl
    | _ => exact hb
/-- a slice of a list -/
theorem sl_ok {l : List (Str × Value)} {news : List (Addr × Obj)} {s : Shared} {Q : Value → Shared → Prop} {E : Value → Shared → Prop} {slice : PySem.Expr} {ys : List V} {a : Addr} {cs ds : List Value} {n' : Nat} {vl vu vs : Value} {lo hi sp : Option Int} (st : St c m σ s.heap l news)
    (g4 : s.heap.get? a = some (listOf cs.toArray n')) (hz' : cs.length ≤ 1000000) (pl : IsPart vl lo) (pu : IsPart vu hi) (ps : IsPart vs sp) (h0 : sp ≠ some 0)
    (e1 : slicePick cs.toArray lo hi sp = ds.toArray) (e2 : VRs (adr news) ys ds) (hz : ds.length ≤ cs.length)
    (hs : ∀ o i, subscripted slice false o i = operate [o, i] (getItem o i) ∨ subscripted slice false o i = operate [i, o] (getItem o i))
    (k : Cont c m l (adr news) s VR (.ok (.obj σ.length) (σ ++ [.list ys])) Q E) :
    wpAny (model p0 c.w) c.A' (subscriptTail pa slice (.ref a) (.ref s.heap.objs.size)) Q E (uh s (s.heap.push { cls := .type "slice", data := .fields #[vl, vu, vs] })) := by
  refine subTail ((isL g4).push _).typeIs list_getitem_lookup (wpAny_getItem_list_slice ((isL g4).push _) (Heap.IsSliceOf.new ..) pl pu ps h0 ?_ (by rw [List.size_toArray, sizeLine_eq]; lia)) (hs _ _)
  rw [e1]
  exact k _ s.toks _ _ ((st.grow (Grow.push _ _)).add (Grow.push _ _) rfl (Heap.get?_push_size _ rfl) (.list e2 (by rw [e2.len]; exact Nat.le_trans hz hz'))) pre_add (.obj (new_at st.rel))
theorem zip_vrs {ρ : List Addr} : ∀ {xs : List Int} {ts : List Nat}, ts.length = xs.length → VRs ρ (xs.map V.int) ((xs.zip ts).map fun p => Value.int p.1 p.2)
  | [], _, _ => .nil
  | x :: xs, t :: ts, h => .cons .int (zip_vrs (Nat.succ.inj h))
@[elab_as_elim] theorem St.scrR {P : Value → Prop} {i : Nat} {h : Heap} {l : List (Str × Value)} {news : List (Addr × Obj)} {xs : List Int} {ts : List Nat} {cv : Value} (x : St c m σ h l news) (hv : VR (adr news) (.obj i) cv) (e : σ[i]? = some (.scr xs ts)) (k : ∀ a (cs : List Value) n, h.get? a = some (listOf cs.toArray n) → VRs (adr news) (xs.map V.int) cs → (xs.map V.int).length ≤ 1000000 → P (.ref a)) : P cv :=
  x.atE e fun a ob _ h2 h3 h4 => hv.objA h2 (by
    cases h3 with
    | scr q z => exact k a _ _ h4 (zip_vrs q) (by rw [List.length_map]; exact z))
theorem slc1_cases {P : V → V → V → R V → Prop} (hb : ∀ v u t, P v u t .bad) (h : ∀ i y z xs, σ[i]? = some (.list xs) → (0 ≤ y ∧ 0 ≤ z ∧ y ≤ lim ∧ z ≤ lim) → P (.obj i) (.int y) (.int z) (.ok (.obj σ.length) (σ ++ [.list ((xs.take z.toNat).drop y.toNat)]))) (v u t : V) : P v u t (slc1 v u t σ) := by
  cases v with
  | obj i => cases u with
    | int y => cases t with
      | int z => exact ao_list (P := P _ _ _) (hb _ _ _) fun xs q => if_bad (P := P _ _ _) (hb _ _ _) (h _ _ _ _ q)
      | _ => exact hb _ _ _
    | _ => exact hb _ _ _
  | _ => exact hb _ _ _
theorem fro1_cases {P : V → V → R V → Prop} (hb : ∀ v u, P v u .bad) (h : ∀ i z xs, σ[i]? = some (.list xs) → (0 ≤ z ∧ z ≤ lim) → P (.obj i) (.int z) (.ok (.obj σ.length) (σ ++ [.list (xs.drop z.toNat)]))) (v u : V) : P v u (fro1 v u σ) := by
  cases v with
  | obj i => cases u with
    | int y => exact ao_list (P := P _ _) (hb _ _) fun xs q => if_bad (P := P _ _) (hb _ _) (h _ _ _ q)
    | _ => exact hb _ _
  | _ => exact hb _ _
theorem rev1_cases {P : V → R V → Prop} (hb : ∀ v, P v .bad) (h : ∀ i xs, σ[i]? = some (.list xs) → P (.obj i) (.ok (.obj σ.length) (σ ++ [.list xs.reverse]))) (v : V) : P v (rev1 v σ) := by
  cases v with
  | obj i => exact ao_list (P := P _) (hb _) (h _)
  | _ => exact hb _
theorem upto1_cases {P : V → V → R V → Prop} (hb : ∀ v u, P v u .bad) (h : ∀ i z xs, σ[i]? = some (.list xs) → (0 ≤ z ∧ z ≤ lim) → P (.obj i) (.int z) (.ok (.obj σ.length) (σ ++ [.list (xs.take z.toNat)])))
    (h' : ∀ i z xs ts, σ[i]? = some (.scr xs ts) → (0 ≤ z ∧ z ≤ lim) → P (.obj i) (.int z) (.ok (.obj σ.length) (σ ++ [.list ((xs.map V.int).take z.toNat)]))) (v u : V) : P v u (upto1 v u σ) := by
  cases v with
  | obj i => cases u with
    | int y =>
      unfold upto1
      dsimp only
      cases q : σ[i]? with
      | none => exact hb _ _
      | some o => cases o with
        | list xs => exact if_bad (P := P _ _) (hb _ _) (h _ _ _ q)
        | scr xs ts => exact if_bad (P := P _ _) (hb _ _) (h' _ _ _ _ q)
        | _ => exact hb _ _
    | _ => exact hb _ _
  | _ => exact hb _ _
theorem le_take {α : Type} {z : Nat} {cs : List α} : (cs.take z).length ≤ cs.length := by rw [List.length_take]; exact Nat.min_le_right _ _
theorem le_drop {α : Type} {z : Nat} {cs : List α} : (cs.drop z).length ≤ cs.length := by rw [List.length_drop]; exact Nat.sub_le _ _
theorem je_slc (ha : JE c m pa σ ra) (hb : ∀ σ, JE c m pb σ (fb σ)) (hc : ∀ σ, JE c m pc σ (fc σ)) :
    JE c m (.Subscript pa (.Slice (some pb) (some pc) none p) pos) σ (ra.bind fun v σ => (fb σ).bind fun u σ => (fc σ).bind fun t σ => slc1 v u t σ) := fun s l news Q E st k =>
  Subscript_ (ha s l news _ _ st (k.bind fun v σ₁ ea h₁ t₁ n₁ cv st₁ p₁ v₁ k₁ => wpAny_Slice (hb σ₁ _ l n₁ _ _ st₁ (k₁.bind fun u σ₂ eb h₂ t₂ n₂ cu st₂ p₂ v₂ k₂ => hc σ₂ _ l n₂ _ _ st₂ (k₂.bind fun t σ₃ eb h₃ t₃ n₃ ct st₃ p₃ v₃ k₃ => wpAny_pure
    (slc1_cases (P := fun v u t r => VR (adr n₃) v cv → VR (adr n₂) u cu → VR (adr n₃) t ct → Cont c m l (adr n₃) (up s h₃ t₃) VR r Q E → _) (fun _ _ _ _ _ _ k => k.elim) (fun i y z xs q h hv hu ht k => hu.intE fun ty => ht.intE fun tz => st₃.listR hv q fun a cs n' _ _ g4 hcs hz =>
      sl_ok (s := up s h₃ t₃) st₃ g4 (hcs.len ▸ hz) (.int _ _) (.int _ _) .none nofun (pick_both cs h.1 h.2.1) ((hcs.take _).drop _) (Nat.le_trans le_drop le_take) (fun _ _ => .inr rfl) k) v u t ((v₁.mono p₂).mono p₃) v₂ v₃ k₃))))))
theorem je_upto (ha : JE c m pa σ ra) (hc : ∀ σ, JE c m pc σ (fc σ)) :
    JE c m (.Subscript pa (.Slice none (some pc) none p) pos) σ (ra.bind fun v σ => (fc σ).bind fun u σ => upto1 v u σ) := fun s l news Q E st k =>
  Subscript_ (ha s l news _ _ st (k.bind fun v σ₁ ea h₁ t₁ n₁ cv st₁ p₁ v₁ k₁ => wpAny_Slice (wpAny_pure (hc σ₁ _ l n₁ _ _ st₁ (k₁.bind fun t σ₃ eb h₃ t₃ n₃ ct st₃ p₃ v₃ k₃ => wpAny_pure
    (have fin : ∀ z xs a (cs : List Value) n', 0 ≤ z → VRs (adr n₃) xs cs → xs.length ≤ 1000000 → h₃.get? a = some (listOf cs.toArray n') → VR (adr n₃) (.int z) ct → Cont c m l (adr n₃) (up s h₃ t₃) VR (.ok (.obj σ₃.length) (σ₃ ++ [.list (xs.take z.toNat)])) Q E → wpAny (model p0 c.w) c.A' (subscriptTail pa (.Slice none (some pc) none p) (.ref a) (.ref h₃.objs.size)) Q E (uh (up s h₃ t₃) (h₃.push { cls := .type "slice", data := .fields #[.none, ct, .none] })) :=
      fun z xs a cs n' h hcs hz g4 ht k => ht.intE fun tz => sl_ok (s := up s h₃ t₃) st₃ g4 (hcs.len ▸ hz) .none (.int _ _) .none nofun (pick_upto cs h) (hcs.take _) le_take (fun _ _ => .inr rfl) k
    upto1_cases (P := fun v u r => VR (adr n₃) v cv → VR (adr n₃) u ct → Cont c m l (adr n₃) (up s h₃ t₃) VR r Q E → _) (fun _ _ _ _ k => k.elim) (fun i z xs q h hv hu k => st₃.listR hv q fun a cs n' _ _ g4 hcs hz => fin z xs a cs n' h.1 hcs hz g4 hu k)
      (fun i z xs ts q h hv hu k => st₃.scrR hv q fun a cs n' g4 hcs hz => fin z _ a cs n' h.1 hcs hz g4 hu k) v t (v₁.mono p₃) v₃ k₃))))))
theorem je_fro (ha : JE c m pa σ ra) (hc : ∀ σ, JE c m pc σ (fc σ)) :
    JE c m (.Subscript pa (.Slice (some pc) none none p) pos) σ (ra.bind fun v σ => (fc σ).bind fun u σ => fro1 v u σ) := fun s l news Q E st k =>
  Subscript_ (ha s l news _ _ st (k.bind fun v σ₁ ea h₁ t₁ n₁ cv st₁ p₁ v₁ k₁ => wpAny_Slice (hc σ₁ _ l n₁ _ _ st₁ (k₁.bind fun t σ₃ eb h₃ t₃ n₃ ct st₃ p₃ v₃ k₃ => wpAny_pure (wpAny_pure
    (fro1_cases (P := fun v u r => VR (adr n₃) v cv → VR (adr n₃) u ct → Cont c m l (adr n₃) (up s h₃ t₃) VR r Q E → _) (fun _ _ _ _ k => k.elim) (fun i z xs q h hv hu k => hu.intE fun tz => st₃.listR hv q fun a cs n' _ _ g4 hcs hz =>
      sl_ok (s := up s h₃ t₃) st₃ g4 (hcs.len ▸ hz) (.int _ _) .none .none nofun (pick_from cs h.1) (hcs.drop _) le_drop (fun _ _ => .inr rfl) k) v t (v₁.mono p₃) v₃ k₃))))))
theorem je_neg {z : Int} {kd : Nat} : JE c m (.UnaryOp .USub (.Constant (.int z) kd p) pos) σ (.ok (.int (-z)) σ) := fun s l news Q E st k =>
  wpAny_UnaryOp (wpAny_Constant_int (neg_int (k _ _ _ _ st pre .int)))
theorem je_rev {p1 p2 : Pos} {kd : Nat} (ha : JE c m pa σ ra) :
    JE c m (.Subscript pa (.Slice none none (some (.UnaryOp .USub (.Constant (.int 1) kd p1) p2)) p) pos) σ (ra.bind fun v σ => rev1 v σ) := fun s l news Q E st k =>
  Subscript_ (ha s l news _ _ st (k.bind fun v σ₁ ea h₁ t₁ n₁ cv st₁ p₁ v₁ k₁ => wpAny_Slice (wpAny_pure (wpAny_pure (wpAny_UnaryOp (wpAny_Constant_int (neg_int
    (rev1_cases (P := fun v r => VR (adr n₁) v cv → Cont c m l (adr n₁) (up s h₁ t₁) VR r Q E → _) (fun _ _ k => k.elim) (fun i xs q hv k => st₁.listR hv q fun a cs n' _ _ g4 hcs hz =>
      sl_ok (s := (up s h₁ _)) st₁ g4 (hcs.len ▸ hz) .none .none (.int _ _) nofun (krv_pick _) hcs.rev (Nat.le_of_eq List.length_reverse) (fun _ _ => .inl rfl) k) v v₁ k₁))))))))
end
end Mine

namespace Mine
open PySem PySem.W PySem.Calls PyProof.Rows

section
variable {c : Ct} {m : I.Fm} {σ : I.H} {n : Nat} {pos p f : Pos} {pa pb pc : PySem.Expr} {pes : List PySem.Expr} {ra : I.R I.V} {ras : I.R (List I.V)} {fb fc : I.H → I.R I.V} {fbs : I.H → I.R (List I.V)} {x : String} {id : String}
open I
noncomputable abbrev NoStar (c : Ct) (pa : PySem.Expr) : Prop := ∀ pes, starEach (pa :: pes) c.env = (false, eval pa c.env) :: starEach pes c.env
theorem call_hc {es : List PySem.Expr} : eval (.Call (.Name (nm x) f) es [] pos) c.env = (do callWith pos (← eval (.Name (nm x) f) c.env) [] (backTo pos (starEach es c.env)) (backToKw pos (keywordEach [] c.env))) := rfl
/-- a built-in of one argument -/
theorem je_b1 {g : V → H → R V} (gl : nsIn (K c.w.params) mainGlobals (nm x) = some none) (boot : bootBuiltins (nm x) = some (.builtin id)) (hn : nm x ≠ "__name__") (hx : c.cs.names.lookup (nm x) = some .globalImplicit) (hd : (nm x == ("__debug__" : Str)) = false)
    (ns : NoStar c pa) (ha : JE c m pa σ ra)
    (ho : ∀ s l news cv v σ Q E, St c m σ s.heap l news → VR (adr news) v cv → Cont c m l (adr news) s VR (g v σ) Q E → wpAny (model p0 c.w) c.A' (call (.builtin id) [cv]) Q E s) :
    JE c m (.Call (.Name (nm x) f) [pa] [] pos) σ (ra.bind g) := fun s l news Q E st k =>
  Call_ (boot_name st gl boot hn hx hd (
    callWith_builtin1 (spliced_more (ha s l news _ _ st (k.bind fun v σ₁ _ h₁ t₁ n₁ cv st₁ p₁ v₁ k₁ => spliced_none (ho (up s h₁ t₁) l n₁ cv v σ₁ _ _ st₁ v₁ k₁))) (ns [])) (ns []) rfl)) call_hc
/-- a built-in of two arguments -/
theorem je_b2 {g : V → V → H → R V} (gl : nsIn (K c.w.params) mainGlobals (nm x) = some none) (boot : bootBuiltins (nm x) = some (.builtin id)) (hn : nm x ≠ "__name__") (hx : c.cs.names.lookup (nm x) = some .globalImplicit) (hd : (nm x == ("__debug__" : Str)) = false)
    (ns : NoStar c pa) (ns2 : NoStar c pb) (ha : JE c m pa σ ra) (hb : ∀ σ, JE c m pb σ (fb σ))
    (ho : ∀ s l news cv cu v u σ Q E, St c m σ s.heap l news → VR (adr news) v cv → VR (adr news) u cu → Cont c m l (adr news) s VR (g v u σ) Q E → wpAny (model p0 c.w) c.A' (call (.builtin id) [cv, cu]) Q E s) :
    JE c m (.Call (.Name (nm x) f) [pa, pb] [] pos) σ (ra.bind fun v σ => (fb σ).bind fun u σ => g v u σ) := fun s l news Q E st k =>
  Call_ (boot_name st gl boot hn hx hd (
    callWith_builtin1 (spliced_more (ha s l news _ _ st (k.bind fun v σ₁ _ h₁ t₁ n₁ cv st₁ p₁ v₁ k₁ =>
      spliced_more (hb σ₁ _ l n₁ _ _ st₁ (k₁.bind fun u σ₂ _ h₂ t₂ n₂ cu st₂ p₂ v₂ k₂ => spliced_none (ho (up s h₂ t₂) l n₂ cv cu v u σ₂ _ _ st₂ (v₁.mono p₂) v₂ k₂))) (ns2 []))) (ns [pb])) (ns [pb]) (by rw [ns2 []]; rfl))) call_hc
/-- a type of one argument -/
theorem je_t1 {g : V → H → R V} (gl : nsIn (K c.w.params) mainGlobals (nm x) = some none) (boot : bootBuiltins (nm x) = some (.type id)) (hn : nm x ≠ "__name__") (hx : c.cs.names.lookup (nm x) = some .globalImplicit) (hd : (nm x == ("__debug__" : Str)) = false)
    (ns : NoStar c pa) (ha : JE c m pa σ ra)
    (ho : ∀ s l news cv v σ Q E, St c m σ s.heap l news → VR (adr news) v cv → Cont c m l (adr news) s VR (g v σ) Q E → wpAny (model p0 c.w) c.A' (call (.type id) [cv]) Q E s) :
    JE c m (.Call (.Name (nm x) f) [pa] [] pos) σ (ra.bind g) := fun s l news Q E st k =>
  Call_ (boot_name st gl boot hn hx hd (
    callWith_type1 (spliced_more (ha s l news _ _ st (k.bind fun v σ₁ _ h₁ t₁ n₁ cv st₁ p₁ v₁ k₁ => spliced_none (ho (up s h₁ t₁) l n₁ cv v σ₁ _ _ st₁ v₁ k₁))) (ns [])) (ns []) rfl)) call_hc

variable {l : List (Str × Value)} {news : List (Addr × Obj)} {s : Shared} {Q : Value → Shared → Prop} {E : Value → Shared → Prop} {v u : V} {cv cu : Value}
theorem len1_cases {P : V → R V → Prop} (hb : ∀ v, P v .bad) (h : ∀ i xs, σ[i]? = some (.list xs) → P (.obj i) (.ok (.int xs.length) σ)) (v : V) : P v (len1 v σ) := by
  cases v with
  | obj i => exact ao_list (P := P _) (hb _) (h _)
  | _ => exact hb _
theorem len_ok (st : St c m σ s.heap l news) (hv : VR (adr news) v cv) (k : Cont c m l (adr news) s VR (len1 v σ) Q E) : wpAny (model p0 c.w) c.A' (call (.builtin "len") [cv]) Q E s :=
  len1_cases (P := fun v r => VR (adr news) v cv → Cont c m l (adr news) s VR r Q E → _) (fun _ _ k => k.elim) (fun i xs q hv k => st.listR hv q fun a cs n' _ _ g4 hcs hz =>
    call_len_list (isL g4) (by rw [List.size_toArray, ← hcs.len]; lia) (by rw [List.size_toArray, ← hcs.len]; exact k _ _ _ _ st pre .int)) v hv k
theorem int1_cases {P : V → R V → Prop} {f : Int → R V} (hb : ∀ v, P v .bad) (h : ∀ z, P (.int z) (f z)) (v : V) : P v (match v with | .int z => f z | _ => .bad) := by
  cases v with
  | int z => exact h z
  | _ => exact hb _
theorem int2_cases {P : V → V → R V → Prop} {f : Int → Int → R V} (hb : ∀ v u, P v u .bad) (h : ∀ y z, P (.int y) (.int z) (f y z)) (v u : V) : P v u (match v, u with | .int y, .int z => f y z | _, _ => .bad) := by
  cases v with
  | int z => cases u with
    | int z => exact h _ z
    | _ => exact hb _ _
  | _ => exact hb _ _
theorem abs_ok (st : St c m σ s.heap l news) (hv : VR (adr news) v cv) (k : Cont c m l (adr news) s VR (abs1 v σ) Q E) : wpAny (model p0 c.w) c.A' (call (.builtin "abs") [cv]) Q E s :=
  int1_cases (P := fun v r => VR (adr news) v cv → Cont c m l (adr news) s VR r Q E → _) (fun _ _ k => k.elim) (fun z hv k => hv.intE fun t => call_abs_int fun u tk => by
    rw [show (if z < 0 then -z else z) = (z.natAbs : Int) by split <;> lia]
    exact k s.heap tk _ _ st pre .int) v hv k
theorem mn_if {y z : Int} : (if z < y then z else y) = min y z := by split <;> lia
theorem mx_if {y z : Int} : (if z > y then z else y) = max y z := by split <;> lia
theorem if_q {p : Prop} [Decidable p] {y z : Int} {t t' : Tok} {G : Value → Prop} (k : ∀ t, G (.int (if p then z else y) t)) : G (if p then .int z t' else .int y t) := by
  by_cases q : p
  · rw [if_pos q]; simpa only [if_pos q] using k t'
  · rw [if_neg q]; simpa only [if_neg q] using k t
theorem min_ok (st : St c m σ s.heap l news) (hv : VR (adr news) v cv) (hu : VR (adr news) u cu) (k : Cont c m l (adr news) s VR (mn1 v u σ) Q E) : wpAny (model p0 c.w) c.A' (call (.builtin "min") [cv, cu]) Q E s :=
  int2_cases (P := fun v u r => VR (adr news) v cv → VR (adr news) u cu → Cont c m l (adr news) s VR r Q E → _) (fun _ _ _ _ k => k.elim) (fun y z hv hu k => hv.intE fun t => hu.intE fun t' => min_two_ints st.bs.hh fun h' tk g => if_q (G := fun v => Q v _) fun t => mn_if ▸ k h' tk news _ (st.grow g) pre .int) v u hv hu k
theorem max_ok (st : St c m σ s.heap l news) (hv : VR (adr news) v cv) (hu : VR (adr news) u cu) (k : Cont c m l (adr news) s VR (mx1 v u σ) Q E) : wpAny (model p0 c.w) c.A' (call (.builtin "max") [cv, cu]) Q E s :=
  int2_cases (P := fun v u r => VR (adr news) v cv → VR (adr news) u cu → Cont c m l (adr news) s VR r Q E → _) (fun _ _ _ _ k => k.elim) (fun y z hv hu k => hv.intE fun t => hu.intE fun t' => max_two_ints st.bs.hh fun h' tk g => if_q (G := fun v => Q v _) fun t => mx_if ▸ k h' tk news _ (st.grow g) pre .int) v u hv hu k
theorem range_ok (st : St c m σ s.heap l news) (hv : VR (adr news) v cv) (k : Cont c m l (adr news) s VR (range1 v σ) Q E) : wpAny (model p0 c.w) c.A' (call (.type "range") [cv]) Q E s :=
  int1_cases (P := fun v r => VR (adr news) v cv → Cont c m l (adr news) s VR r Q E → _) (fun _ _ k => k.elim) (fun z hv k => hv.intE fun t => call_range_1 ((cont_if k).2 _ _ _ _ (st.add (Grow.push _ _) rfl (Heap.get?_push_size _ rfl) .rng) pre_add (.obj (new_at st.rel)))) v hv k
theorem vrs_of {ρ : List Addr} : ∀ (xs : List V) (cs : List Value), xs.length = cs.length → (∀ i (h1 : i < xs.length) (h2 : i < cs.length), VR ρ xs[i] cs[i]) → VRs ρ xs cs
  | [], [], _, _ => .nil
  | [], _ :: _, e, _ => by simp at e
  | _ :: _, [], e, _ => by simp at e
  | x :: xs, y :: cs, e, h => .cons (h 0 (by simp) (by simp)) (vrs_of xs cs (by simpa using e) fun i h1 h2 => h (i + 1) (by simpa using h1) (by simpa using h2))
theorem rng_vrs {ρ : List Addr} {z : Int} {acc : Array Value} (h : ItemsOf (fun i v => ∃ t, v = .int (0 + i * 1) t) acc z.toNat) : VRs ρ (rlist z) acc.toList := by
  obtain ⟨h1, h2⟩ := h
  refine vrs_of _ _ (by simp [rlist, h1]) fun i q1 q2 => ?_
  have q3 : i < acc.size := by simpa using q2
  obtain ⟨t, e⟩ := h2 i acc[i] (Array.getElem?_eq_getElem q3)
  have e2 : acc.toList[i] = acc[i] := by simp
  rw [e2, e]
  have e3 : (rlist z)[i] = V.int (i : Int) := by simp [rlist]
  rw [e3, show (0 : Int) + (i : Int) * 1 = i by lia]
  exact .int
noncomputable abbrev rngOb (z : Int) (t u v : Tok) : Obj := { cls := .type "range", data := .fields #[.int 0 t, .int z u, .int 1 v] }
@[elab_as_elim] theorem St.rngR {P : Value → Prop} {i : Nat} {h : Heap} {l : List (Str × Value)} {news : List (Addr × Obj)} {z : Int} {cv : Value} (x : St c m σ h l news) (hv : VR (adr news) (.obj i) cv) (e : σ[i]? = some (.rng z)) (k : ∀ a t u v, h.get? a = some (rngOb z t u v) → P (.ref a)) : P cv :=
  x.atE e fun a ob _ h2 h3 h4 => hv.objA h2 (by
    cases h3
    exact k a _ _ _ h4)
theorem rng_size {z : Int} (h : 0 ≤ z) : Builtin.Range.rangeSize 0 z 1 = (z.toNat : Nat) := by rw [rangeSize_one]; split <;> lia
theorem list1_cases {P : V → R V → Prop} (hb : ∀ v, P v .bad) (h : ∀ i xs, σ[i]? = some (.list xs) → P (.obj i) (.ok (.obj σ.length) (σ ++ [.list xs])))
    (h' : ∀ i z, σ[i]? = some (.rng z) → (0 ≤ z ∧ z ≤ 100000) → P (.obj i) (.ok (.obj σ.length) (σ ++ [.list (rlist z)]))) (v : V) : P v (list1 v σ) := by
  cases v with
  | obj i =>
    unfold list1
    dsimp only
    cases q : σ[i]? with
    | none => exact hb _
    | some o => cases o with
      | list xs => exact h _ _ q
      | rng z => exact if_bad (P := P _) (hb _) (h' _ _ q)
      | _ => exact hb _
  | _ => exact hb _
theorem list_ok (st : St c m σ s.heap l news) (hv : VR (adr news) v cv) (k : Cont c m l (adr news) s VR (list1 v σ) Q E) : wpAny (model p0 c.w) c.A' (call (.type "list") [cv]) Q E s := by
  refine list1_cases (P := fun v r => VR (adr news) v cv → Cont c m l (adr news) s VR r Q E → _) (fun _ _ k => k.elim) (fun i xs q hv k => st.listR hv q fun a cs n' _ _ g4 hcs hz =>
    call_list_seq a (.inl rfl) g4 rfl rfl (fun h' c' hk hD => k h' s.toks _ _ (st.add hk rfl hD (.list hcs hz)) pre_add (.obj (new_at st.rel))) (by rw [List.size_toArray, sizeLine_eq, ← hcs.len]; lia))
    (fun i z q h hv k => st.rngR hv q fun a tt uu vv g4 => ?_) v hv k
  exact call_list_range (n := z.toNat) st.bs.hh g4 (small_one (by lia) (by lia) (by lia) (by lia)) (rng_size h.1) (by lia) fun h' tk acc c' hk hD hi => k h' tk _ _ (st.add (ob := listOf acc.toList.toArray c') hk rfl hD (.list (rng_vrs hi) (by simp [rlist]; lia))) pre_add (.obj (new_at st.rel))
theorem je_edict : JE c m (.Dict [] [] pos) σ (.ok (.obj σ.length) (σ ++ [.dict []])) := fun s l news Q E st k =>
  wpAny_Dict_empty (k _ _ _ _ (st.add (Grow.push _ _) rfl (Heap.get?_push_size _ rfl) (.dict (n := 0) .nil)) pre_add (.obj (new_at st.rel)))
theorem je_pow : JE c m (.BinOp (.Constant (.int 10) n p) .Pow (.Constant (.int 18) n f) pos) σ (.ok (.int ((10 : Nat) ^ 18)) σ) := fun s l news Q E st k =>
  wpAny_BinOp (wpAny_Constant_int (wpAny_Constant_int (AutoIntOps.pow_4 (by decide) (by decide) (by decide) (by decide) (by decide +kernel) (k _ _ _ _ st pre .int))))
end
end Mine

namespace Mine
open PySem PySem.W PySem.Calls PyProof.Rows
theorem meth_hc {env : Env} {o : PySem.Expr} {name : Str} {as : List PySem.Expr} {apos pos : Pos} (ho : attributeBase o name env (eval o env) = eval o env) (hs : methodCallForm as.length (backTo pos (starEach as env)) [] = true) (hp : (apos.endLine == pos.line) = true) :
    eval (.Call (.Attribute o name apos) as [] pos) env = (do
      let ov ← eval o env
      standAt apos.atName
      let (f, first) ← holding [ov] (getMethod ov name (do return (← importBound o env).getD true))
      callWith pos f first (backTo pos (starEach as env)) []) := by
  show (do
    let ov ← attributeBase o name env (eval o env)
    standAt apos.atName
    methodCall o name apos pos env ov (as.length + 0) (backTo pos (starEach as env)) []) = _
  rw [ho]
  unfold methodCall calleeOf methodCallPos
  simp only [Nat.add_zero, hs, hp, if_true, Bool.not_true, Bool.false_or]
  rfl
end Mine

namespace Mine
open PySem PySem.W PySem.Calls PyProof.Rows

inductive ExOutI (base : Heap) (outer : List Env) (g : Heap) (ρ : List Addr) (s : Shared) (σ : I.H) (sy : String) (e : Value) (s' : Shared) : Prop
  | mk (ea : Addr) (news : List (Addr × Obj)) (tk : Nat) (h : Heap) (x1 : e = .ref ea) (x2 : s' = up s h tk) (x3 : g.UpToSlots h) (x4 : RaisedD base outer ea sy news h none) (x5 : Rel σ news) (x6 : (adr news).Nodup) (x7 : ρ <+: adr news)
noncomputable abbrev ExOut (base : Heap) (outer : List Env) (g : Heap) (ρ : List Addr) (s : Shared) (σ : I.H) (sy : String) (e : Value) (s' : Shared) : Prop := ExOutI base outer g ρ (up s {} 0) σ sy e s'
noncomputable def RCont (base : Heap) (outer : List Env) (g : Heap) (s : Shared) (ρ : List Addr) (r : I.R I.V) (Rr : Result → Shared → Prop) : Prop :=
  match r with
  | .ok v σ' => ∀ h' tk' cv news', (∀ b o, g.get? b = some o → h'.get? b = some o) → Own g h' news' → (adr news').Nodup → Rel σ' news' → ρ <+: adr news' → VR (adr news') v cv → Rr (.ok (.ret cv)) (up s h' tk')
  | .exc sy σ' => ∀ e s', ExOut base outer g ρ s σ' sy e s' → Rr (.error e) s'
  | .bad => False
variable (fns : Nat → Option I.FD) (mets : Nat → String → Option Nat) (inits : Nat → Option Nat)
noncomputable def CallOk (n : Nat) : Prop := ∀ {w : World} {mean : ExcName → Option Value} {mg mb : Str → Option Value} {A : Around} {base : Heap} {outer : List Env} {g : Heap} {s : Shared} {Rr : Result → Shared → Prop} {f : Nat} {vs : List I.V} {cvs : List Value} {σ : I.H} {news : List (Addr × Obj)},
  Site w mean mg mb A base outer g n (3 * n + 200) → (∀ b o, g.get? b = some o → s.heap.get? b = some o) → g.objs.size ≤ s.heap.objs.size → Own g s.heap news → (adr news).Nodup → Rel σ news → VRs (adr news) vs cvs →
  RCont base outer g s (adr news) (I.callI fns mets inits n f vs σ) Rr → codeAny (model p0 w) A (.call (.ref f) ⟨cvs, []⟩) Rr s

section
variable {w : World} {mean : ExcName → Option Value} {mg mb : Str → Option Value} {A A₀ : Around} {base h₀ g : Heap} {outer : List Env} {d u : Nat} {f L : Addr} {env : Env} {s : Shared} {own news : List (Addr × Obj)} {l : List (Str × Value)} {h h' g' : Heap}
/-- what stays hidden of the maker's -/
theorem Cx.back (c : Cx w mean mg mb A₀ base outer g L h l own) (FG : Fr g L g' (fun y => List.lookup y l)) (st : ∀ b o, g.get? b = some o → g'.get? b = some o) {own' : List (Addr × Obj)} (hk : ∀ b o, g'.get? b = some o → h'.get? b = some o) (ho : Own g' h' own') (hnd : (own'.map (·.1)).Nodup) : Cx w mean mg mb A₀ base outer g L h' l own' := by
  obtain ⟨oL, es, ep, hL, r⟩ := FG.ns
  refine ⟨c.B, c.X, c.T, c.hh, ⟨⟨oL, es, ep, hk L oL hL, r⟩, fun b o e => hk b o (st b o e), c.F.above⟩, fun p hp => ⟨(ho p hp).1, fun q => ?_, ?_⟩, hnd⟩
  · have := q ▸ (ho p hp).2; exact nos (this.symm.trans hL)
  · cases q : g.get? p.1 with
    | none => rfl
    | some o => exact nos ((ho p hp).2.symm.trans (st _ _ q))
theorem ground' {G : Prop} (c : Cx w mean mg mb A₀ base outer g L s.heap l own) (hA : A.frames = some (env :: outer)) (hf : env.frame = some L) (hke : env.scope.kind = .function) (hdp : A.depth + d < recursionLimit) (hun : A.units + u < cLine) (hhd : A.handled = none)
    (k : ∀ g', Site w mean mg mb A base (env :: outer) g' d u → (∀ b o, g'.get? b = some o → s.heap.get? b = some o) → g'.objs.size ≤ s.heap.objs.size → Own g' s.heap own → Fr g L g' (fun y => List.lookup y l) → (∀ b o, g.get? b = some o → g'.get? b = some o) → (∀ b o, s.heap.get? b = some o → b ∉ adr own → g'.get? b = some o) → G) : G := by
  obtain ⟨FG, BG, st0, -⟩ := groundX (R := fun _ _ => True) c.B c.F c.N hA hf hke
  have st : ∀ b o, g.get? b = some o → (hideAll s.heap (own.map (·.1))).get? b = some o := fun b o e => st0 b o e
  exact k (hideAll s.heap (own.map (·.1))) ⟨BG, c.X.keeps st, c.T.keeps st, hdp, hun, hhd⟩ (fun b o e => of_hideAll _ e) (Nat.le_of_eq (hideAll_size _ _)) (fun p hp => ⟨(c.N p hp).1, hideAll_none _ (List.mem_map_of_mem hp)⟩) FG st fun b o e n => hideAll_get _ e n
end

variable {fns mets inits}
section
variable {c : Ct} {m : I.Fm} {n : Nat} {f : Nat} {vs : List I.V} {cvs : List Value} {σ : I.H} {l : List (Str × Value)} {news : List (Addr × Obj)} {s : Shared} {Q : Value → Shared → Prop} {E : Value → Shared → Prop}
theorem St.back {h h' g' : Heap} {σ' : I.H} {news' : List (Addr × Obj)} (st : St c m σ h l news) (FG : Fr c.g c.L g' (fun y => List.lookup y (c.own l))) (hs : ∀ b o, c.g.get? b = some o → g'.get? b = some o) (hid : ∀ b o, h.get? b = some o → b ∉ adr news → g'.get? b = some o)
    (hk : ∀ b o, g'.get? b = some o → h'.get? b = some o) (ho : Own g' h' news') (hnd : (adr news').Nodup) (hr : Rel σ' news') (hp : adr news <+: adr news') : St c m σ' h' l news' :=
  ⟨st.cx.back FG hs hk ho hnd, hr, fun x v e => let ⟨cv, h1, h2⟩ := st.lr x v e; ⟨cv, h1, h2.mono hp⟩, fun x i z e => let ⟨a, h1, h2⟩ := st.cr x i z e; ⟨a, h1, pre_get hp h2⟩, fun z =>
    let ⟨⟨oL, es, ep, hL, r⟩, h2, h3, h4⟩ := st.ns z
    have hg := hid _ _ hL h2
    ⟨⟨oL, es, ep, hk _ _ hg, r⟩, fun y => (List.mem_map.mp y).elim fun p hp => nos ((ho p hp.1).2.symm.trans ((congrArg g'.get? hp.2).trans hg)), h3, h4⟩⟩
/-- a call of the text's, wherever it stands -/
theorem use_code {A : Around} (C : CallOk fns mets inits n) (hA : A.frames = some (c.fenv :: c.outer)) (hd : A.depth + n < recursionLimit) (hu : A.units + (3 * n + 200) < cLine) (hh : A.handled = none) (st : St c m σ s.heap l news)
    (hv : VRs (adr news) vs cvs) (k : Cont c m l (adr news) s VR (I.callI fns mets inits n f vs σ) Q E) : codeAny (model p0 c.w) A (.call (.ref f) ⟨cvs, []⟩) (fun r s' => match r with | .ok (.ret v) => Q v s' | .ok _ => False | .error e => E e s') s := by
  refine ground' (A := A) (env := c.fenv) (d := n) (u := 3 * n + 200) st.cx hA c.ffr c.fk hd hu hh fun g' S hs hz hO FG st' hid => C S hs hz hO st.cx.nd st.rel hv ?_
  revert k
  cases I.callI fns mets inits n f vs σ with
  | bad => exact False.elim
  | ok v σ' => exact fun k h' tk' cv news' hk ho hnd hr hp hv' => k h' tk' news' cv (st.back FG st' hid hk ho hnd hr hp) hp hv'
  | exc sy σ' => exact fun k e s' x => x.rec fun ea ns tk h he hs hup hr hrel hnd hp => k _ _ ⟨ea, g', ns, tk, h, none, he, hs, FG, hup, hr, hrel, hnd, .inl rfl, hp⟩
/-- a call inside a body -/
theorem use' (C : CallOk fns mets inits n) (b : Bud c n) (st : St c m σ s.heap l news)
    (hv : VRs (adr news) vs cvs) (k : Cont c m l (adr news) s VR (I.callI fns mets inits n f vs σ) Q E) : wpAny (model p0 c.w) c.A' (call (.ref f) cvs) Q E s :=
  wpAny_call (use_code C (Around.frames_deeper st.cx.B.stack) (by have := b.depth; show c.A.depth + 1 + n < _; lia) (by have := b.units; show c.A.units + 3 + _ < _; lia) st.cx.hh st hv k)
end
end Mine

namespace Mine
open PySem PySem.W PySem.Calls PyProof.Rows

theorem met_ok (w : World) {C : Nat} {x : String} {f : Nat} (e : I.mets C x = some f) : (∀ n, plainGet (K w.params) C n = true) ∧ MethOk w C (nm x) f := by
  obtain ⟨p, hp, rfl⟩ := Option.map_eq_some_iff.mp e
  have h0 : (p.1 == C && p.2.1 == x) = true := List.find?_some (p := fun p : Nat × String × Nat => p.1 == C && p.2.1 == x) hp
  obtain ⟨h1, h2⟩ := Bool.and_eq_true_iff.mp h0
  obtain rfl := eq_of_beq h1
  obtain rfl := eq_of_beq h2
  have all : ∀ p ∈ I.metT, (∀ n, plainGet (K w.params) p.1 n = true) ∧ MethOk w p.1 (nm p.2.1) p.2.2 := (all_cons ⟨ok407.pg, me407_size⟩ (all_cons ⟨ok407.pg, me407_codes⟩ (all_cons ⟨ok407.pg, me407_move_gap⟩ (all_cons ⟨ok407.pg, me407_widen_gap⟩ (all_cons ⟨ok407.pg, me407_insert⟩ (all_cons ⟨ok407.pg, me407_delete⟩ (all_cons ⟨ok618.pg, me618_size⟩ (all_cons ⟨ok618.pg, me618_codes⟩ (all_cons ⟨ok618.pg, me618_goto⟩ (all_cons ⟨ok618.pg, me618_is_modified⟩ (all_cons ⟨ok618.pg, me618_touch⟩ (all_cons ⟨ok477.pg, me477_numbers⟩ (all_cons ⟨ok477.pg, me477_within⟩ (all_cons ⟨ok477.pg, me477_inserted⟩ (all_cons ⟨ok477.pg, me477_deleted⟩ (all_cons ⟨ok260.pg, me260_is_at_boundary⟩ (all_cons ⟨ok260.pg, me260_boundary⟩ (all_cons ⟨ok260.pg, me260_note_state⟩ (all_cons ⟨ok260.pg, me260_note_insert⟩ (all_cons ⟨ok260.pg, me260_note_delete⟩ (all_cons ⟨ok691.pg, me691_text_comes⟩ (all_cons ⟨ok691.pg, me691_text_goes⟩ all_nil))))))))))))))))))))))
  exact all p (List.mem_of_find?_eq_some hp)
structure NewOk (w : World) (C f : Addr) : Prop where
  mks : makesIn (K w.params) C = true
  ke : keepIn (K w.params) (.ref C) = true
  ii : findIn (K w.params) (.ref C) (nm "__init__") = some (some (.ref f))
  fn : typeIn (K w.params) (.ref f) = some (.type "function")
theorem new_ok (w : World) {C : Nat} {f : Nat} (e : I.inits C = some f) : NewOk w C f := by
  unfold I.inits at e
  split at e
  · cases e; exact ⟨by kernel_rfl, by kernel_rfl, me407___init__.me, by kernel_rfl⟩
  · cases e; exact ⟨by kernel_rfl, by kernel_rfl, me618___init__.me, by kernel_rfl⟩
  · cases e; exact ⟨by kernel_rfl, by kernel_rfl, me477___init__.me, by kernel_rfl⟩
  · cases e; exact ⟨by kernel_rfl, by kernel_rfl, me260___init__.me, by kernel_rfl⟩
  · cases e; exact ⟨by kernel_rfl, by kernel_rfl, me691___init__.me, by kernel_rfl⟩
  · cases e; exact ⟨by kernel_rfl, by kernel_rfl, me651___init__.me, by kernel_rfl⟩
  · cases e
noncomputable def callT : List (Nat × String) := [(48, "need_writable"), (55, "reached"), (62, "tell_ahead"), (69, "tell_behind"), (76, "text_out"), (83, "text_in"), (90, "hung_out"), (97, "hung_in"), (104, "put_in"), (112, "insert"), (119, "delete"), (162, "insert_piece"), (278, "need_visible"), (285, "markers_ahead"), (292, "undo_insert"), (299, "undo_delete"), (306, "undo_row"), (313, "above_boundaries"), (320, "undo_group"), (271, "marker_distance"), (627, "narrow"), (634, "widen"), (700, "_law_deck"), (707, "_law_draw"), (714, "_law_command"), (721, "_law_state"), (728, "_law_undone")]
noncomputable def callName (f : Nat) (x : String) : Bool := callT.any fun p => p.1 == f && p.2 == x
theorem call_name (w : World) {f : Nat} {x : String} (e : callName f x = true) : FnOk w (nm x) f := by
  obtain ⟨p, hp, h⟩ := List.any_eq_true.mp e
  obtain ⟨h1, h2⟩ := Bool.and_eq_true_iff.mp h
  obtain rfl := eq_of_beq h1
  obtain rfl := eq_of_beq h2
  have all : ∀ p ∈ callT, FnOk w (nm p.2) p.1 := (all_cons gl_need_writable (all_cons gl_reached (all_cons gl_tell_ahead (all_cons gl_tell_behind (all_cons gl_text_out (all_cons gl_text_in (all_cons gl_hung_out (all_cons gl_hung_in (all_cons gl_put_in (all_cons gl_insert (all_cons gl_delete (all_cons gl_insert_piece (all_cons gl_need_visible (all_cons gl_markers_ahead (all_cons gl_undo_insert (all_cons gl_undo_delete (all_cons gl_undo_row (all_cons gl_above_boundaries (all_cons gl_undo_group (all_cons gl_marker_distance (all_cons gl_narrow (all_cons gl_widen (all_cons gl_law_deck (all_cons gl_law_draw (all_cons gl_law_command (all_cons gl_law_state (all_cons gl_law_undone all_nil)))))))))))))))))))))))))))
  exact all p hp
noncomputable def newT : List (Nat × String) := [(618, "Buffer"), (691, "Recording"), (407, "GapText"), (477, "Markers"), (260, "UndoList"), (651, "Piece")]
noncomputable def newName (f : Nat) (x : String) : Bool := newT.any fun p => p.1 == f && p.2 == x
theorem new_name (w : World) {f : Nat} {x : String} (e : newName f x = true) : FnOk w (nm x) f := by
  obtain ⟨p, hp, h⟩ := List.any_eq_true.mp e
  obtain ⟨h1, h2⟩ := Bool.and_eq_true_iff.mp h
  obtain rfl := eq_of_beq h1
  obtain rfl := eq_of_beq h2
  have all : ∀ p ∈ newT, FnOk w (nm p.2) p.1 := (all_cons gl_Buffer (all_cons gl_Recording (all_cons gl_GapText (all_cons gl_Markers (all_cons gl_UndoList (all_cons gl_Piece all_nil))))))
  exact all p hp

theorem under_tc (A : Around) (C : Addr) (r : List Value) : (A.under (.builtin "type.__call__" ⟨.ref C :: r, []⟩)).depth = A.depth + 1 ∧ (A.under (.builtin "type.__call__" ⟨.ref C :: r, []⟩)).units = A.units + 1 ∧ (A.under (.builtin "type.__call__" ⟨.ref C :: r, []⟩)).frames = A.frames ∧ (A.under (.builtin "type.__call__" ⟨.ref C :: r, []⟩)).handled = A.handled := by
  have h1 : (Code.builtin "type.__call__" ⟨.ref C :: r, []⟩).weight = 1 := by kernel_rfl
  refine ⟨?_, ?_, ?_, rfl⟩
  · show A.depth + _ = _; rw [h1]
  · show A.units + (Code.builtin "type.__call__" ⟨.ref C :: r, []⟩).cUnits = _
    have h2 : (Code.builtin "type.__call__" ⟨.ref C :: r, []⟩).cUnits = 1 := by kernel_rfl
    rw [h2]
  · show pushEnvs (Code.builtin "type.__call__" ⟨.ref C :: r, []⟩).envs A.frames = _
    have h2 : (Code.builtin "type.__call__" ⟨.ref C :: r, []⟩).envs = [] := by kernel_rfl
    rw [h2]; rfl
end Mine

namespace Mine
open PySem PySem.W PySem.Calls PyProof.Rows

variable {fns : Nat → Option I.FD} {mets : Nat → String → Option Nat} {inits : Nat → Option Nat}
section
variable {c : Ct} {m : I.Fm} {σ : I.H} {n : Nat} {pos p f apos : Pos} {pa pb pc : PySem.Expr} {pes : List PySem.Expr} {ra : I.R I.V} {ras : I.R (List I.V)} {fb fc : I.H → I.R I.V} {fbs : I.H → I.R (List I.V)} {x : String} {id : String}
open I

noncomputable abbrev Plain (c : Ct) (pes : List PySem.Expr) : Prop := pes = [] ∨ ∃ e r, pes = e :: r ∧ starEach (e :: r) c.env = (false, eval e c.env) :: starEach r c.env
/-- a def of the text's, called by its name -/
theorem je_call {fa : Nat} (C : CallOk fns mets inits n) (b : Bud c n) (hx : c.cs.names.lookup (nm x) = some .globalImplicit) (hd : (nm x == ("__debug__" : Str)) = false) (hn : callName fa x = true)
    (hp : (backTo pos (starEach pes c.env)).any (·.1) = false) (he : Plain c pes) (ha : JEs c m pes σ ras) :
    JE c m (.Call (.Name (nm x) f) pes [] pos) σ (ras.bind fun vs σ => callI fns mets inits n fa vs σ) := fun s l news Q E st k => by
  have fo := call_name c.w hn
  refine Call_ (glob_name st fo.gl hx hd ?_) call_hc
  refine callWith_of (P := fun h => (K c.w.params).In h) (by rw [hp]; rfl) (keeps_K fo.ke) (evalArgs_of he (ha s l news pos _ _ st (k.bind fun vs σ₁ _ h₁ t₁ n₁ cvs st₁ p₁ v₁ k₁ => ⟨st₁.bs.X, ?_⟩)))
  exact use' C b st₁ v₁ k₁
theorem inst_cases {α : Type} {P : V → R α → Prop} {f : Nat → Nat → Nat → List (String × V) → R α} (hb : ∀ v, P v .bad) (h : ∀ i C d fs, σ[i]? = some (.inst C d) → σ[d]? = some (.dict fs) → P (.obj i) (f i C d fs)) (v : V) :
    P v (match v with | .obj i => (match σ[i]? with | some (.inst C d) => (match σ[d]? with | some (.dict fs) => f i C d fs | _ => .bad) | _ => .bad) | _ => .bad) := by
  cases v with
  | obj i =>
    dsimp only
    cases q : σ[i]? with
    | none => exact hb _
    | some o => cases o with
      | inst C d =>
        dsimp only
        cases q2 : σ[d]? with
        | none => exact hb _
        | some o => cases o with
          | dict fs => exact h _ _ _ _ q q2
          | _ => exact hb _
      | _ => exact hb _
  | _ => exact hb _
theorem obj_cases {α : Type} {P : V → R α → Prop} {f : Nat → List V → R α} (hb : ∀ v, P v .bad) (h : ∀ i xs, σ[i]? = some (.list xs) → P (.obj i) (f i xs)) (v : V) :
    P v (match v with | .obj i => (match σ[i]? with | some (.list xs) => f i xs | _ => .bad) | _ => .bad) := by
  cases v with
  | obj i => exact ao_list (P := P _) (hb _) (h i)
  | _ => exact hb _
theorem upd_list {G : Prop} {h : Heap} {a : Addr} {cs ds : List Value} {n : Nat} (f : Array Value → Array Value) (g4 : h.get? a = some (listOf cs.toArray n)) (hf : f cs.toArray = ds.toArray) (k : ∀ n', (h.update a (Obj.mapSeq f)).get? a = some (listOf ds.toArray n') → G) : G :=
  k (if (f cs.toArray).size == cs.toArray.size then n else n + 1) ((Heap.get?_update_self _ g4 (Obj.isFreed_of_seq (n := if (f cs.toArray).size == cs.toArray.size then n else n + 1) (xs := f cs.toArray) rfl)).trans (by rw [← hf]; rfl))
/-- a method of an object of the text's, called -/
theorem je_met (hm : ∀ {C : Nat} {x : String} {f : Nat}, mets C x = some f → (∀ n, plainGet (K c.w.params) C n = true) ∧ MethOk c.w C (nm x) f) (C : CallOk fns mets inits n) (b : Bud c n)
    (hc : eval (.Call (.Attribute pa (nm x) apos) pes [] pos) c.env = (do
      let ov ← eval pa c.env
      standAt apos.atName
      let (f, first) ← holding [ov] (getMethod ov (nm x) (do return (← importBound pa c.env).getD true))
      callWith pos f first (backTo pos (starEach pes c.env)) []))
    (hp : (backTo pos (starEach pes c.env)).any (·.1) = false) (he : Plain c pes) (ha : JE c m pa σ ra) (hb : ∀ σ, JEs c m pes σ (fbs σ)) :
    JE c m (.Call (.Attribute pa (nm x) apos) pes [] pos) σ (ra.bind fun v σ => match v with
      | .obj i => match σ[i]? with
        | some (.inst C d) => match σ[d]? with
          | some (.dict fs) => if fs.lookup x = .none then bad? (mets C x) fun f => (fbs σ).bind fun vs σ => callI fns mets inits n f (.obj i :: vs) σ else .bad
          | _ => .bad
        | _ => .bad
      | _ => .bad) := fun s l news Q E st k => by
  exact MethodCall_ (ha s l news _ _ st (k.bind fun v σ₁ _ h₁ t₁ n₁ cv st₁ p₁ v₁ k₁ => inst_cases (P := fun v r => VR (adr n₁) v cv → Cont c m l (adr n₁) (up s h₁ t₁) VR r Q E → _) (fun _ _ k => k.elim) (fun i C' d fs q q2 hv k₂ =>
    if_bad (P := fun r => Cont c m l (adr n₁) (up s h₁ t₁) VR r Q E → _) (fun k => k.elim) (fun hl k₃ => q_bad (P := fun r => Cont c m l (adr n₁) (up s h₁ t₁) VR r Q E → _) (fun k => k.elim) (fun fa e k₃ =>
    st₁.instR hv q q2 fun a dd es n' g2 g4 _ f4 hfs =>
      method_fn (K := K c.w.params) (s := (up s h₁ t₁)) st₁.bs.X (InstAt.mk (ox := instObj C' dd) (od := some (dictOf es n')) g4 rfl rfl f4) (plainGet_of ((hm e).1 (nm x))).1 (plainGet_of ((hm e).1 (nm x))).2 (hm e).2.me (beq_iff_eq.mp (hm e).2.fn) (by show (lookIn (nm x) (dictOf es n')).map _ = _; rw [lookIn_dict, frs_none hfs hl]; rfl)
        (callWith_of (P := fun h => (K c.w.params).In h) (by rw [hp]; rfl) (keeps_K (hm e).2.ke) (evalArgs_of he (hb σ₁ (up s h₁ t₁) l n₁ pos _ _ st₁ (k₃.bind fun vs σ₂ _ h₂ t₂ n₂ cvs st₂ p₂ v₂ k₄ => ⟨st₂.bs.X, use' C b st₂ (.cons (.obj (pre_get p₂ g2)) v₂) k₄⟩))))) k₃) k₂) v v₁ k₁)) hc

variable {l : List (Str × Value)} {news : List (Addr × Obj)} {s : Shared} {Q : Value → Shared → Prop} {E : Value → Shared → Prop} {v u : V} {cv cu : Value}
theorem append_ok {i : Nat} {xs : List V} (st : St c m σ s.heap l news) (e : σ[i]? = some (.list xs)) (hz : xs.length < 100000) (hv : VR (adr news) (.obj i) cv) (hu : VR (adr news) u cu) (k : Cont c m l (adr news) s VR (.ok .none (σ.set i (.list (xs ++ [u])))) Q E) :
    wpAny (model p0 c.w) c.A' (call (.builtin "list.append") [cv, cu]) Q E s :=
  st.listR hv e fun a cs n₁ g1 g2 g4 hcs hz' => upd_list (·.push cu) g4 (ds := cs ++ [cu]) (List.push_toArray _ _) fun n' hD => wpAny_call_entry slot_list_append (isL g4).typeIs entry_list_append (show wpAny _ _ (updateSeq a (·.push cu) >>= fun _ => ret .none) _ _ s from
  wpAny_bind (wpAny_updateSeq g4 rfl (wpAny_pure ⟨.none, rfl, k _ s.toks _ _ (st.put g1 (Heap.SameBut.update ..) hD (.list (hcs.app (.cons hu .nil)) (by rw [List.length_append, List.length_singleton]; lia))) (by rw [adr_set g1]; exact pre) .none⟩) (by rw [List.size_toArray, sizeLine_eq, ← hcs.len]; lia) (by show (cs.toArray.push cu).size ≤ _; rw [Array.size_push, List.size_toArray, sizeLine_eq, ← hcs.len]; lia))) (args_list_append _ _)
theorem pop_ok {i : Nat} {y : V} {xs : List V} {t : Tok} (st : St c m σ s.heap l news) (e : σ[i]? = some (.list (y :: xs))) (hv : VR (adr news) (.obj i) cv) (k : Cont c m l (adr news) s VR (.ok y (σ.set i (.list xs))) Q E) :
    wpAny (model p0 c.w) c.A' (call (.builtin "list.pop") [cv, .int 0 t]) Q E s :=
  st.listR hv e fun a cs₀ n₁ g1 g2 g4 hcs hz' => by
    revert g4 g1
    refine hcs.consE fun cy cs hy hcs g1 g4 => ?_
    have hl : cs.length + 1 ≤ 1000000 := by rw [← hcs.len]; exact hz'
    exact upd_list (·.eraseIdxIfInBounds 0) g4 (ds := cs) (kl_erase [] cs cy) fun n' hD => call_meets PySem.F.slot_list_pop (isL g4).typeIs PySem.F.entry_list_pop (PySem.F.args_list_pop_2 _ _) (PySem.MeetsSeq.list_pop_at a _ n₁ 0 t 0 cy (by decide) (by simp [seqIndex?]) rfl (by rw [List.size_toArray, List.length_cons, sizeLine_eq]; lia)) ⟨g4,
      k _ s.toks _ _ (st.put g1 (Heap.SameBut.update ..) hD (.list hcs (Nat.le_of_succ_le hz'))) (by rw [adr_set g1]; exact pre) (by rw [adr_set g1]; exact hy)⟩

theorem je_app (ns : NoStar c pb)
    (hc : eval (.Call (.Attribute pa (nm "append") apos) [pb] [] pos) c.env = (do
      let ov ← eval pa c.env
      standAt apos.atName
      let (f, first) ← holding [ov] (getMethod ov (nm "append") (do return (← importBound pa c.env).getD true))
      callWith pos f first (backTo pos (starEach [pb] c.env)) []))
    (ha : JE c m pa σ ra) (hb : ∀ σ, JE c m pb σ (fb σ)) :
    JE c m (.Call (.Attribute pa (nm "append") apos) [pb] [] pos) σ (ra.bind fun v σ => match v with
      | .obj i => match σ[i]? with
        | some (.list _) => (fb σ).bind fun u σ => match σ[i]? with
          | some (.list xs) => if xs.length < 100000 then .ok .none (σ.set i (.list (xs ++ [u]))) else .bad
          | _ => .bad
        | _ => .bad
      | _ => .bad) := fun s l news Q E st k =>
  MethodCall_ (ha s l news _ _ st (k.bind fun v σ₁ _ h₁ t₁ n₁ cv st₁ p₁ v₁ k₁ => obj_cases (P := fun v r => VR (adr n₁) v cv → Cont c m l (adr n₁) (up s h₁ t₁) VR r Q E → _) (fun _ _ k => k.elim) (fun i xs q hv k₁ =>
    st₁.listR hv q fun a cs n' _ g2 g4 hcs _ => getMethod_builtin (isL g4).typeIs PySem.F.plainAttrs_list slot_list_append type_list_append (fun a e => by cases e; exact ⟨_, g4, rfl⟩)
      (callWith_builtin (by rw [ns []]; rfl) (evalArgs_of (.inr ⟨pb, [], rfl, ns []⟩)
        (spliced_more (hb σ₁ (up s h₁ t₁) l n₁ _ _ st₁ (k₁.bind fun u σ₂ _ h₂ t₂ n₂ cu st₂ p₂ v₂ k₂ => spliced_none (ao_list (P := fun r => Cont c m l (adr n₂) (up s h₂ t₂) VR r Q E → _) (fun k => k.elim) (fun ys q2 k₂ =>
          append_ok (s := (up s h₂ t₂)) st₂ q2 (cont_if k₂).1 (.obj (pre_get p₂ g2)) v₂ (cont_if k₂).2) k₂))) (ns []))))) v v₁ k₁)) hc
theorem pop_cases {P : V → R V → Prop} (hb : ∀ v, P v .bad) (h : ∀ i x xs, σ[i]? = some (.list (x :: xs)) → P (.obj i) (.ok x (σ.set i (.list xs)))) (v : V) :
    P v (match v with | .obj i => (match σ[i]? with | some (.list (x :: xs)) => .ok x (σ.set i (.list xs)) | _ => .bad) | _ => .bad) := by
  cases v with
  | obj i =>
    dsimp only
    cases q : σ[i]? with
    | none => exact hb _
    | some o => cases o with
      | list xs => cases xs with
        | nil => exact hb _
        | cons x xs => exact h _ _ _ q
      | _ => exact hb _
  | _ => exact hb _
theorem je_pop0 {p1 : Pos} {kd : Nat}
    (hc : eval (.Call (.Attribute pa (nm "pop") apos) [.Constant (.int 0) kd p1] [] pos) c.env = (do
      let ov ← eval pa c.env
      standAt apos.atName
      let (f, first) ← holding [ov] (getMethod ov (nm "pop") (do return (← importBound pa c.env).getD true))
      callWith pos f first (backTo pos (starEach [.Constant (.int 0) kd p1] c.env)) []))
    (ha : JE c m pa σ ra) :
    JE c m (.Call (.Attribute pa (nm "pop") apos) [.Constant (.int 0) kd p1] [] pos) σ (ra.bind fun v σ => match v with
      | .obj i => match σ[i]? with
        | some (.list (x :: xs)) => .ok x (σ.set i (.list xs))
        | _ => .bad
      | _ => .bad) := fun s l news Q E st k =>
  MethodCall_ (ha s l news _ _ st (k.bind fun v σ₁ _ h₁ t₁ n₁ cv st₁ p₁ v₁ k₁ => pop_cases (P := fun v r => VR (adr n₁) v cv → Cont c m l (adr n₁) (up s h₁ t₁) VR r Q E → _) (fun _ _ k => k.elim) (fun i y xs q hv k₁ =>
    st₁.listR hv q fun a cs n' _ g2 g4 _ _ => getMethod_builtin (isL g4).typeIs PySem.F.plainAttrs_list PySem.F.slot_list_pop (by show builtinType _ = _; rw [builtinType_eq_fast]; kernel_rfl) (fun a e => by cases e; exact ⟨_, g4, rfl⟩)
      (callWith_builtin rfl (evalArgs_of (.inr ⟨_, [], rfl, rfl⟩) (spliced_more (wpAny_Constant_int (spliced_none (pop_ok (s := (up s h₁ (t₁ + 1))) st₁ q (.obj g2) (fun h' tk n' cv' a b d => k₁ h' tk n' cv' a b d)))) rfl)))) v v₁ k₁)) hc

theorem perm_nil_eq {ns : List Int} (h : ns.Perm []) : ns = [] := List.Perm.eq_nil h
theorem ints_nil {out : Array Value} {ns : List Int} (hI : IntsAre out.toList ns) (hp : ns.Perm []) : out = [].toArray := by
  rw [perm_nil_eq hp] at hI
  refine Array.toList_inj.mp ?_
  revert hI
  cases out.toList with
  | nil => exact fun _ => rfl
  | cons => exact nofun
theorem sorted_core {A : Around} {w : World} {a : Addr} {n₁ : Nat} (hh : A.in1.handled = none) (hne : a ≠ 1) (g4 : s.heap.get? a = some (dictOf [] n₁)) (k : ∀ h' h'' tk e, Grow s.heap h' → Grow h' h'' → h''.get? h'.objs.size = some (listOf [].toArray e) → Q (.ref h'.objs.size) (up s h'' tk)) : wpAny (model p0 w) A (call (.builtin "sorted") [.ref a]) Q E s := by
  refine call_function_entry kind_sorted plain_sorted entry_sorted (args_sorted1 _) ?_
  unfold Builtin.«sorted»
  refine wpAny_bind (m := checkCount "sorted" 1 1 _) (wpAny_pure ?_)
  refine wpAny_bind (kdu_collect (A := A.in1) (kdl_dict (knd := intKind p0 w) (kvs := []) (ep := n₁) (decide_eq_false hne)) hh ⟨_, #[], g4, ⟨rfl, rfl, rfl⟩, rfl, (fun e he => absurd he (by simp)), .nil, List.nodup_nil⟩ (Nat.zero_le _) fun h' tk acc hk hacc => ?_)
  rw [List.eq_nil_of_length_eq_zero (l := acc.toList) (by rw [Array.length_toList]; exact hacc.1)]
  have hD : (h'.push { cls := .type "list", data := .seq ([] : List Value).toArray }).get? h'.objs.size = some (listOf [].toArray 0) := Heap.get?_push_size _ rfl
  refine wpAny_bind (wpAny_newList (wpAny_bind (wpAny_holding ?_)) (by decide))
  refine wpAny_call_entry PyProof.Rows.slot_list_sort ⟨_, hD, rfl⟩ PyProof.Rows.entry_list_sort (list_sort_tree (n := 0) (vs := []) (ns := []) hD .nil (by decide) fun out ns' hI hp hP => ⟨.none, rfl, wpAny_pure ⟨_, rfl, ?_⟩⟩) (PyProof.Rows.args_list_sort _)
  rw [ints_nil hI hp]
  obtain ⟨e₁, hat⟩ := sortedHeap_at (out := [].toArray) hD
  exact k h' _ tk e₁ hk (fun b o eb => (sortedHeap_old (Nat.ne_of_lt (Heap.lt_size eb)) (by rw [Heap.size_push]; exact Nat.lt_succ_of_lt (Heap.lt_size eb))).trans (Heap.get?_push_of_some _ eb)) hat
theorem sorted1_cases {P : V → R V → Prop} (hb : ∀ v, P v .bad) (h : ∀ i, σ[i]? = some (.dict []) → P (.obj i) (.ok (.obj σ.length) (σ ++ [.list []]))) (v : V) : P v (sorted1 v σ) := by
  cases v with
  | obj i =>
    unfold sorted1
    dsimp only
    cases q : σ[i]? with
    | none => exact hb _
    | some o => cases o with
      | dict fs => cases fs with
        | nil => exact h _ q
        | cons => exact hb _
      | _ => exact hb _
  | _ => exact hb _
theorem rel_ne1 {ρ : List Addr} {σ : H} {news : List (Addr × Obj)} (x : RelP ρ σ news) : ∀ {i : Nat} {a : Addr} {o : Obj}, news[i]? = some (a, o) → a ≠ 1 := by
  induction x with
  | nil => exact fun e => nos e
  | cons h z _ ih =>
    intro i a o e
    cases i with
    | zero => cases e; exact z
    | succ i => exact ih e
theorem FRs.nilE {ρ : List Addr} {P : List DictEntry → Prop} {es : List DictEntry} (h : FRs ρ [] es) (k : P []) : P es := by cases h; exact k
theorem sorted_ok (st : St c m σ s.heap l news) (hv : VR (adr news) v cv) (k : Cont c m l (adr news) s VR (sorted1 v σ) Q E) : wpAny (model p0 c.w) c.A' (call (.builtin "sorted") [cv]) Q E s :=
  sorted1_cases (P := fun v r => VR (adr news) v cv → Cont c m l (adr news) s VR r Q E → _) (fun _ _ k => k.elim) (fun i q hv k => st.dictE q fun a es n g1 g2 g4 hf => hv.objA g2 (sorted_core st.bs.hh (rel_ne1 st.rel g1) (FRs.nilE (P := fun es => s.heap.get? a = some (dictOf es n) → s.heap.get? a = some (dictOf [] n)) hf id g4)
    fun h' h'' tk e hk hk' hD => k _ _ _ _ ((st.grow hk).add hk' rfl hD (.list .nil (Nat.zero_le _))) pre_add (.obj (new_at st.rel)))) v hv k
theorem Cont.moved {α β : Type} {ρ ρ' : List Addr} {rel : List Addr → α → β → Prop} {r : R α} {Q : β → Shared → Prop} (k : Cont c m l ρ s rel r Q E) (p : ρ <+: ρ') {h : Heap} {tk : Nat} : Cont c m l ρ' (up s h tk) rel r Q E := by
  cases r with
  | bad => exact k
  | exc => exact fun s' e x => k s' e (x.mono p)
  | ok v σ' => exact fun h' tk nw cv a b d => k h' tk nw cv a (p.trans b) d
theorem none_cases {P : V → R V → Prop} {r : R V} (hb : ∀ v, P v .bad) (h : P .none r) (v : V) : P v (match v with | .none => r | _ => .bad) := by
  cases v with
  | none => exact h
  | _ => exact hb _
theorem new_core {A : Around} {fa i : Nat} {D : Addr} {vs : List V} {cvs : List Value} {Rr : Result → Shared → Prop} (C : CallOk fns mets inits n) (hA : A.frames = some (c.fenv :: c.outer)) (hd : A.depth + n < recursionLimit) (hu : A.units + (3 * n + 200) < cLine) (hh : A.handled = none) (st : St c m σ s.heap l news)
    (hx : (adr news)[i]? = some D) (hv : VRs (adr news) vs cvs) (k : Cont c m l (adr news) s VR ((callI fns mets inits n fa (.obj i :: vs) σ).bind fun v σ' => match v with | .none => .ok (.obj i) σ' | _ => .bad) Q E)
    (h1 : ∀ s', Q (.ref D) s' → Rr (.ok (.ret .none)) s') (h2 : ∀ e s', E e s' → Rr (.error e) s') : codeAny (model p0 c.w) A (.call (.ref fa) ⟨.ref D :: cvs, []⟩) Rr s :=
  codeAny_mono (use_code (Q := fun v s' => v = .none ∧ Q (.ref D) s') C hA hd hu hh st (.cons (.obj hx) hv) (k.bind fun v σ' _ h' t' n' cv st' p' v' k' =>
    none_cases (P := fun v r => VR (adr n') v cv → Cont c m l (adr n') (up s h' t') VR r Q E → cv = .none ∧ Q (.ref D) (up s h' t')) (fun _ _ k => k.elim) (fun v' k' => v'.noneE ⟨rfl, k' h' t' n' _ st' pre (.obj (pre_get p' hx))⟩) v v' k')) fun r s' z => by
    rcases r with e | (_ | _ | _ | v)
    · exact h2 _ _ z
    · exact z.elim
    · exact z.elim
    · exact z.elim
    · exact z.1 ▸ h1 _ z.2
/-- an object of the text's made -/
theorem je_new {Cl : Nat} (hi : ∀ {C f : Nat}, inits C = some f → NewOk c.w C f) (C : CallOk fns mets inits n) (b : Bud c (n + 1)) (hx : c.cs.names.lookup (nm x) = some .globalImplicit) (hd : (nm x == ("__debug__" : Str)) = false) (hn : newName Cl x = true)
    (hp : (backTo pos (starEach pes c.env)).any (·.1) = false) (he : Plain c pes) (ha : JEs c m pes σ ras) :
    JE c m (.Call (.Name (nm x) f) pes [] pos) σ (ras.bind fun vs σ => bad? (inits Cl) fun f =>
        (callI fns mets inits n f (.obj (σ.length + 1) :: vs) (σ ++ [.dict []] ++ [.inst Cl σ.length])).bind fun v σ' => match v with | .none => .ok (.obj (σ.length + 1)) σ' | _ => .bad) := fun s l news Q E st k => by
  have fo := new_name c.w hn
  refine Call_ (glob_name st fo.gl hx hd ?_) call_hc
  refine callWith_of (P := fun h => (K c.w.params).In h) (by rw [hp]; rfl) (keeps_K fo.ke) (evalArgs_of he (ha s l news pos _ _ st (k.bind fun vs σ₁ _ h₁ t₁ n₁ cvs st₁ p₁ v₁ k₁ => ⟨st₁.bs.X, ?_⟩)))
  obtain ⟨fa, e, k₂⟩ := cont_m k₁
  have N := hi e
  obtain ⟨u1, u2, u3, u4⟩ := under_tc c.A' Cl cvs
  refine wpAny_call (make_core (rest := cvs) (makes_of st₁.bs.X N.mks) (looks_findIn st₁.bs.X N.ii) (fun self => bind_fn st₁.bs.X self N.fn) (.inl rfl) ?_)
  have st₂ := st₁.add (ob := emptyDict) (Grow.push h₁ emptyDict) rfl (Heap.get?_push_size _ rfl) (.dict (n := 0) .nil)
  have hz : (h₁.push emptyDict).objs.size = h₁.objs.size + 1 := Heap.size_push ..
  exact new_core (s := ⟨(h₁.push emptyDict).push (instObj Cl h₁.objs.size), s.gens, s.drawn, t₁, s.os⟩) C (u3.trans (Around.frames_deeper st.cx.B.stack)) (by rw [u1]; have := b.depth; show c.A.depth + 1 + 1 + n < _; lia) (by rw [u2]; have := b.units; show c.A.units + 3 + 1 + _ < _; lia) (u4.trans st.cx.hh)
    (st₂.add (D := h₁.objs.size + 1) (o := .inst Cl σ₁.length) (Grow.push _ _) hz.symm (hz ▸ Heap.get?_push_size _ rfl) (.inst (new_at st₁.rel))) (by have := new_at (D := h₁.objs.size + 1) (c := instObj Cl h₁.objs.size) st₂.rel; rwa [List.length_append] at this) (v₁.mono (pre_add.trans pre_add)) (k₂.moved (pre_add.trans pre_add)) (fun _ z => ⟨rfl, z⟩) fun _ _ z => z
end
end Mine

namespace Mine
open PySem PySem.W PySem.Calls PyProof.Rows

inductive FlR (ρ : List Addr) : I.Fl → Flow → Prop
  | next : FlR ρ .next .next
  | ret {v cv} : VR ρ v cv → FlR ρ (.ret v) (.ret cv)
noncomputable def ContS (c : Ct) (ρ : List Addr) (s : Shared) (r : I.R (I.Fl × I.Fm)) (Q : Flow → Shared → Prop) (E : Value → Shared → Prop) : Prop := match r with
  | .ok a σ' => ∀ h' tk news' l' cfl, St c a.2 σ' h' l' news' → ρ <+: adr news' → FlR (adr news') a.1 cfl → Q cfl (up s h' tk)
  | .exc sy σ' => ∀ s' e l', ExAt c l' ρ s σ' sy e s' → E e s'
  | .bad => False
noncomputable def JS (c : Ct) (m : I.Fm) (st : Stmt) (σ : I.H) (r : I.R (I.Fl × I.Fm)) : Prop :=
  ∀ s l news Q E, St c m σ s.heap l news → ContS c (adr news) s r Q E → wpAny (model p0 c.w) c.A' (exec st c.env) Q E s
noncomputable def JSs (c : Ct) (m : I.Fm) (sts : List Stmt) (σ : I.H) (r : I.R (I.Fl × I.Fm)) : Prop :=
  ∀ s l news Q E, St c m σ s.heap l news → ContS c (adr news) s r Q E → wpAny (model p0 c.w) c.A' (execs sts c.env) Q E s

section
variable {c : Ct} {m : I.Fm} {σ : I.H} {n : Nat} {pos p f apos p1 p2 : Pos} {pa pb pc pe : PySem.Expr} {pes : List PySem.Expr} {ra : I.R I.V} {ras : I.R (List I.V)} {fb fc : I.H → I.R I.V} {fbs : I.H → I.R (List I.V)} {x y : String} {id : String}
variable {l : List (Str × Value)} {news : List (Addr × Obj)} {s : Shared} {ρ : List Addr} {v u : I.V} {cv cu : Value}
open I

theorem ContS.bindE {α β : Type} {rel : List Addr → α → β → Prop} {r : R α} {f : α → H → R (Fl × Fm)} {Q : Flow → Shared → Prop} {Q' : β → Shared → Prop} {E : Value → Shared → Prop}
    (k : ContS c ρ s (r.bind f) Q E)
    (hq : ∀ v σ', r = .ok v σ' → ∀ h' tk news' cv, St c m σ' h' l news' → ρ <+: adr news' → rel (adr news') v cv → ContS c (adr news') (up s h' tk) (f v σ') Q E → Q' cv (up s h' tk)) :
    Cont c m l ρ s rel r Q' E := by
  cases r with
  | bad => exact k
  | exc sy σ' => exact fun s' e x => k s' e _ x
  | ok v σ' =>
    intro h' tk news' cv st pr hv
    refine hq v σ' rfl h' tk news' cv st pr hv ?_
    change ContS c ρ s (f v σ') Q E at k
    revert k
    cases f v σ' with
    | bad => exact id
    | exc sy σ'' => exact fun k s' e l' x => k s' e l' (x.mono pr)
    | ok u σ'' => exact fun k h₂ tk₂ news₂ l₂ cu st₂ pre₂ hu => k h₂ tk₂ news₂ l₂ cu st₂ (pr.trans pre₂) hu
theorem ContS.moved {r : R (Fl × Fm)} {Q : Flow → Shared → Prop} {E : Value → Shared → Prop} {ρ' : List Addr} (k : ContS c ρ s r Q E) (p : ρ <+: ρ') {h : Heap} {tk : Nat} : ContS c ρ' (up s h tk) r Q E := by
  cases r with
  | bad => exact k
  | exc => exact fun s' e l' x => k s' e l' (x.mono p)
  | ok v σ' => exact fun h' tk nw l' cv a b d => k h' tk nw l' cv a (p.trans b) d
theorem ContS.bindS {r : R (Fl × Fm)} {f : (Fl × Fm) → H → R (Fl × Fm)} {Q Q' : Flow → Shared → Prop} {E : Value → Shared → Prop}
    (k : ContS c ρ s (r.bind f) Q E)
    (hq : ∀ a σ', r = .ok a σ' → ∀ h' tk news' l' cfl, St c a.2 σ' h' l' news' → ρ <+: adr news' → FlR (adr news') a.1 cfl → ContS c (adr news') (up s h' tk) (f a σ') Q E → Q' cfl (up s h' tk)) :
    ContS c ρ s r Q' E := by
  cases r with
  | bad => exact k
  | exc sy σ' => exact k
  | ok v σ' =>
    intro h' tk news' l' cv st pr hv
    refine hq v σ' rfl h' tk news' l' cv st pr hv ?_
    change ContS c ρ s (f v σ') Q E at k
    exact k.moved pr
theorem contS_m {γ : Type} {o : Option γ} {f : γ → R (Fl × Fm)} {Q : Flow → Shared → Prop} {E : Value → Shared → Prop} (k : ContS c ρ s (bad? o f) Q E) : ∃ b, o = some b ∧ ContS c ρ s (f b) Q E := by
  cases o with
  | none => exact k.elim
  | some b => exact ⟨b, rfl, k⟩
theorem contS_if {P : Prop} [Decidable P] {r : R (Fl × Fm)} {Q : Flow → Shared → Prop} {E : Value → Shared → Prop} (k : ContS c ρ s (if P then r else .bad) Q E) : P ∧ ContS c ρ s r Q E := by
  split at k
  · exact ⟨by assumption, k⟩
  · exact k.elim
theorem contS_t {r : R V} {f : Bool → H → R (Fl × Fm)} {Q : Flow → Shared → Prop} {E : Value → Shared → Prop} (k : ContS c ρ s (r.bind fun v σ => bad? (truth v) fun t => f t σ) Q E) : ContS c ρ s ((T r).bind f) Q E := by
  have e : ((T r).bind f) = (r.bind fun v σ => bad? (truth v) fun t => f t σ) := by
    cases r with
    | bad => rfl
    | exc => rfl
    | ok v σ => unfold T; show R.bind (bad? (truth v) _) _ = bad? (truth v) _; cases truth v <;> rfl
  rw [e]; exact k

variable {Q : Flow → Shared → Prop} {E : Value → Shared → Prop}
theorem jss_nil : JSs c m [] σ (.ok (.next, m) σ) := fun s l news Q E st k => wpAny_execs_nil (k s.heap s.toks _ l _ st pre .next)
theorem jss_cons {st : Stmt} {rest : List Stmt} {r : R (Fl × Fm)} {f : Fm → H → R (Fl × Fm)} (h1 : JS c m st σ r) (h2 : ∀ m' σ', JSs c m' rest σ' (f m' σ')) :
    JSs c m (st :: rest) σ (r.bind fun r σ => match r.1 with | .next => f r.2 σ | .ret v => .ok (.ret v, r.2) σ) := fun s l news Q E st k =>
  st_seq (h1 s l news _ _ st (k.bindS fun a σ' _ h' tk n' l' cfl st' p' fl' k' => by
    obtain ⟨fl, m'⟩ := a
    cases fl' with
    | next => exact h2 m' σ' _ _ _ _ _ st' k'
    | ret hv => exact k' _ _ _ _ _ st' pre (.ret hv)))

theorem lr_cons {ρ : List Addr} {ml : List (String × V)} (lr : ∀ x v, ml.lookup x = some v → ∃ cv, List.lookup (nm x) l = some cv ∧ VR ρ v cv) (hv : VR ρ v cv) : ∀ y u, List.lookup y ((x, v) :: ml) = some u → ∃ cu, List.lookup (nm y) ((nm x, cv) :: l) = some cu ∧ VR ρ u cu := fun y u e => by
  rw [List.lookup_cons, nm_beq]
  rw [List.lookup_cons] at e
  cases q : y == x with
  | true => rw [q] at e; exact ⟨cv, rfl, Option.some.inj e ▸ hv⟩
  | false => rw [q] at e; exact lr y u e
/-- a name stored -/
theorem St.storeS {A : Around} (hfl : c.fl = none) (st : St c m σ s.heap l news) (hv : VR (adr news) v cv) (hx : c.cs.names.lookup (nm x) = some .local) {Q : Unit → Shared → Prop}
    (k : ∀ h' tk, St c ⟨(x, v) :: m.l, m.c⟩ σ h' ((nm x, cv) :: l) news → Heap.SameBut c.L s.heap h' → Q () (up s h' tk)) : wpAny (model p0 c.w) A (storeName c.env (nm x) cv) Q E s := by
  have ho : ∀ l, c.own l = l := fun l => by unfold Ct.own; rw [hfl]; rfl
  have hL := c.hlo hfl
  refine wpAny_storeName_local (by rw [c.kindOf]; exact hx) st.loc (fun h' hn hs => k h' _ ⟨?_, st.rel, lr_cons st.lr hv, st.cr, fun z => by rw [hfl] at z; cases z⟩ (hL ▸ hs)) (by rw [c.kind]; rfl)
  rw [hL] at hn hs
  have c₁ := st.cx
  rw [ho] at c₁ ⊢
  exact c₁.store hn hs

theorem St.store {A : Around} (hfl : c.fl = none) (st : St c m σ s.heap l news) (hv : VR (adr news) v cv) (hx : c.cs.names.lookup (nm x) = some .local) {Q : Unit → Shared → Prop}
    (k : ∀ h' tk, St c ⟨(x, v) :: m.l, m.c⟩ σ h' ((nm x, cv) :: l) news → Q () (up s h' tk)) : wpAny (model p0 c.w) A (storeName c.env (nm x) cv) Q E s := st.storeS hfl hv hx fun h' tk st' _ => k h' tk st'
theorem js_set (hfl : c.fl = none) (hx : c.cs.names.lookup (nm x) = some .local) (hs : swapsWith pe (some (.Name (nm x) p)) pos.line c.env = pure false) (ha : JE c m pe σ ra) :
    JS c m (.Assign [.Name (nm x) p] pe pos) σ (ra.bind fun v σ => .ok (.next, ⟨(x, v) :: m.l, m.c⟩) σ) := fun s l news Q E st k =>
  wpAny_Assign_Name (ha s l news _ _ st (k.bindE fun v σ₁ _ h₁ t₁ n₁ cv st₁ p₁ v₁ k₁ => st₁.store (s := (up s h₁ t₁)) hfl v₁ hx fun h' tk st' => k₁ h' tk _ _ _ st' pre .next)) hs

inductive NamesAre (c : Ct) : List String → List PySem.Expr → Prop
  | nil : NamesAre c [] []
  | cons {x p xs pes} : c.cs.names.lookup (nm x) = some .local → NamesAre c xs pes → NamesAre c (x :: xs) (.Name (nm x) p :: pes)
theorem NamesAre.len {xs : List String} (h : NamesAre c xs pes) : (assignEach pes c.env).length = xs.length := by
  induction h with
  | nil => rfl
  | cons _ _ ih => show _ + 1 = _ + 1; rw [ih]
theorem NamesAre.plain {xs : List String} (h : NamesAre c xs pes) : (assignEach pes c.env).findIdx? (·.1) = none := by
  induction h with
  | nil => rfl
  | cons _ _ ih =>
    show List.findIdx? _ ((false, _) :: _) = none
    rw [List.findIdx?_cons, ih]; rfl
theorem store_all (hfl : c.fl = none) {xs : List String} (hn : NamesAre c xs pes) : ∀ {vs : List V} {cvs : List Value} {m : Fm} {s : Shared} {l : List (Str × Value)} {Q : Unit → Shared → Prop}, vs.length = xs.length → VRs (adr news) vs cvs → St c m σ s.heap l news →
    (∀ h' tk l', St c ⟨(xs.zip vs).reverse ++ m.l, m.c⟩ σ h' l' news → Q () (up s h' tk)) → wpAny (model p0 c.w) c.A' (assignInOrder ((assignEach pes c.env).map (·.2)) cvs) Q E s := by
  induction hn with
  | nil => intro vs cvs m s l Q e hv st k; exact assignInOrder_nil (k s.heap s.toks l st)
  | @cons x p xs pes hx hn ih =>
    intro vs cvs m s l Q e hv st k
    cases hv with
    | nil => cases e
    | @cons v cv vs cvs h hv =>
      refine assignInOrder_cons (assign_Name (st.store hfl h hx fun h' tk st' => ?_))
      refine ih (s := (up s h' tk)) (by simpa using e) hv st' fun h₂ t₂ l₂ st₂ => k h₂ t₂ l₂ ?_
      rw [List.zip_cons_cons, List.reverse_cons, List.append_assoc]
      exact st₂
theorem tup_cases {α : Type} {P : V → R α → Prop} {f : Nat → List V → R α} (hb : ∀ v, P v .bad) (h : ∀ i xs, σ[i]? = some (.tup xs) → P (.obj i) (f i xs)) (v : V) :
    P v (match v with | .obj i => (match σ[i]? with | some (.tup xs) => f i xs | _ => .bad) | _ => .bad) := by
  cases v with
  | obj i =>
    dsimp only
    cases q : σ[i]? with
    | none => exact hb _
    | some o => cases o with
      | tup xs => exact h _ _ q
      | _ => exact hb _
  | _ => exact hb _
theorem St.kept {h h' : Heap} (st : St c m σ h l news) (he : Heap.ExtBut h.objs.size h h') : St c m σ h' l news := st.grow fun b o e => he b o (Nat.ne_of_lt (Heap.lt_size e)) e
theorem js_unp (hfl : c.fl = none) {xs : List String} {kd : Nat} (hn : NamesAre c xs pes) (hs : swapsWithSole [.Tuple pes kd p] pe pos.line c.env = pure false) (hw : swappedStores [.Tuple pes kd p] pe c.env = pure none) (ha : JE c m pe σ ra) :
    JS c m (.Assign [.Tuple pes kd p] pe pos) σ (ra.bind fun v σ => match v with
      | .obj i => match σ[i]? with
        | some (.tup vs) => if vs.length = xs.length then .ok (.next, ⟨(xs.zip vs).reverse ++ m.l, m.c⟩) σ else .bad
        | _ => .bad
      | _ => .bad) := fun s l news Q E st k =>
  Assign_Tuple (ha s l news _ _ st (k.bindE fun v σ₁ _ h₁ t₁ n₁ cv st₁ p₁ v₁ k₁ => tup_cases (P := fun v r => VR (adr n₁) v cv → ContS c (adr n₁) (up s h₁ t₁) r Q E → _) (fun _ _ k => k.elim) (fun i vs q hv => if_bad (P := fun r => ContS c (adr n₁) (up s h₁ t₁) r Q E → _) (fun k => k.elim) fun hz k₂ =>
    st₁.tupR hv q fun a cs _ _ g4 hcs _ => assign_Tuple_tuple (s := (up s h₁ t₁)) st.bs.hh ⟨_, g4, rfl, 0, rfl⟩ (by rw [hn.len, List.size_toArray, ← hcs.len, hz]) hn.plain fun h' he =>
      store_all (s := (up s h' t₁)) hfl hn hz hcs (st₁.kept he) fun h₂ t₂ l₂ st₃ => k₂ h₂ t₂ _ l₂ _ st₃ pre .next) v v₁ k₁)) hs hw

/-- two values at once, behind them a pair that no one keeps -/
theorem two (ns : NoStar c pa) (ns2 : NoStar c pb) {kd : Nat} {Q' : Value → Shared → Prop} {F : V → V → H → R (Fl × Fm)} (ha : JE c m pa σ ra) (hb : ∀ σ, JE c m pb σ (fb σ)) (st : St c m σ s.heap l news) (k : ContS c (adr news) s (ra.bind fun v σ => (fb σ).bind fun u σ => F v u σ) Q E)
    (hk : ∀ h₁ t₁ n₁ v u cv cu σ₁ T, St c m σ₁ h₁ l n₁ → VR (adr n₁) v cv → VR (adr n₁) u cu → IsTup h₁ T #[cv, cu] → ContS c (adr n₁) (up s h₁ t₁) (F v u σ₁) Q E → Q' (.ref T) (up s h₁ t₁)) :
    wpAny (model p0 c.w) c.A' (eval (.Tuple [pa, pb] kd p) c.env) Q' E s := by
  refine Tuple_ (spliced_more (ha s l news _ _ st (k.bindE fun v σ₁ _ h₁ t₁ n₁ cv st₁ p₁ v₁ k₁ => spliced_more (hb σ₁ _ l n₁ _ _ st₁ (k₁.bindE fun u σ₂ _ h₂ t₂ n₂ cu st₂ p₂ v₂ k₂ => spliced_none ?_)) (ns2 []))) (ns [pb]))
  refine wpAny_newObj_type ?_ (by show (2 : Nat) ≤ sizeLine; rw [sizeLine_eq]; decide)
  exact hk _ t₂ n₂ v u cv cu σ₂ h₂.objs.size (st₂.grow (Grow.push _ _)) (v₁.mono p₂) v₂ ⟨_, Heap.get?_push_size _ rfl, rfl, 0, rfl⟩ k₂
theorem look_swap {ml : List (String × V)} {z : String} (hne : x ≠ y) : List.lookup z ((x, v) :: (y, u) :: ml) = List.lookup z ((y, u) :: (x, v) :: ml) := by
  simp only [List.lookup_cons]
  by_cases q : z = x
  · subst q
    rw [show (z == y) = false from beq_eq_false_iff_ne.mpr hne]
  · rw [show (z == x) = false from beq_eq_false_iff_ne.mpr q]
theorem js_par (hfl : c.fl = none) (ns : NoStar c pa) (ns2 : NoStar c pb) {kd kd' : Nat} {pt pv : Pos} (hne : x ≠ y) (hx : c.cs.names.lookup (nm x) = some .local) (hy : c.cs.names.lookup (nm y) = some .local)
    (hs : swapsWithSole [.Tuple [.Name (nm x) p1, .Name (nm y) p2] kd pt] (.Tuple [pa, pb] kd' pv) pos.line c.env = pure false) (hw : swappedStores [.Tuple [.Name (nm x) p1, .Name (nm y) p2] kd pt] (.Tuple [pa, pb] kd' pv) c.env = pure (some [nm x, nm y]))
    (ha : JE c m pa σ ra) (hb : ∀ σ, JE c m pb σ (fb σ)) :
    JS c m (.Assign [.Tuple [.Name (nm x) p1, .Name (nm y) p2] kd pt] (.Tuple [pa, pb] kd' pv) pos) σ (ra.bind fun v σ => (fb σ).bind fun u σ => .ok (.next, ⟨(y, u) :: (x, v) :: m.l, m.c⟩) σ) := fun s l news Q E st k => by
  refine Assign_Tuple_swapped (two ns ns2 ha hb st k fun h₁ t₁ n₁ v u cv cu σ₁ T st₁ hv hu hT k₁ => ?_) hs hw
  refine unpackItems_tuple (items := #[cv, cu]) (s := (up s h₁ t₁)) st.bs.hh hT fun h' he => ?_
  show wpAny _ _ (assignInOrder [bindName c.env (nm y), bindName c.env (nm x)] [cu, cv]) _ _ _
  refine assignInOrder_cons (bindName_ ((st₁.kept he).store (s := (up s h' t₁)) hfl hu hy fun h₃ t₃ st₃ => ?_))
  refine assignInOrder_cons (bindName_ (st₃.store (s := (up s h₃ t₃)) hfl hv hx fun h₄ t₄ st₄ => assignInOrder_nil (k₁ h₄ t₄ _ _ _ ⟨st₄.cx, st₄.rel, fun z w e => st₄.lr z w ?_, st₄.cr, st₄.ns⟩ pre .next)))
  exact (look_swap hne).trans e
theorem cell1 {P : R (Fl × Fm) → Prop} {o : Option AO} {r : R (Fl × Fm)} (hb : P .bad) (h : ∀ w, o = some (.cell w) → P r) : P (match (generalizing := false) o with | some (.cell _) => r | _ => .bad) := by
  cases o with
  | none => exact hb
  | some o => cases o with
    | cell w => exact h w rfl
    | _ => exact hb
theorem cell2 {P : R (Fl × Fm) → Prop} {o o' : Option AO} {r : R (Fl × Fm)} (hb : P .bad) (h : ∀ w w', o = some (.cell w) → o' = some (.cell w') → P r) : P (match (generalizing := false) o, o' with | some (.cell _), some (.cell _) => r | _, _ => .bad) := by
  cases o with
  | none => exact hb
  | some o => cases o with
    | cell w => cases o' with
      | none => exact hb
      | some o => cases o with
        | cell w => exact h _ w rfl rfl
        | _ => exact hb
    | _ => exact hb
/-- a cell stored -/
theorem St.storeC {A : Around} {i : Nat} {w : Option V} (st : St c m σ s.heap l news) (hx : c.cs.names.lookup (nm x) = some .cell) (ei : m.c.lookup x = some i) (q : σ[i]? = some (.cell w)) (hv : VR (adr news) v cv) {Q : Unit → Shared → Prop}
    (k : ∀ h' news', St c m (σ.set i (.cell (some v))) h' l news' → adr news' = adr news → Q () (uh s h')) : wpAny (model p0 c.w) A (storeName c.env (nm x) cv) Q E s := by
  obtain ⟨a, e1, e2⟩ := st.cr x i hx ei
  refine st.atE q fun a' ob g1 g2 g3 g4 => ?_
  have ea : a' = a := Option.some.inj (g2.symm.trans e2)
  have hc : ∃ v₀, s.heap.IsCell a v₀ := by
    rw [← ea]
    cases g3 with
    | cell0 hd => exact ⟨_, ob, g4, hd⟩
    | cell1 _ hd => exact ⟨_, ob, g4, hd⟩
  exact wpAny_storeName_cell c.kind (by rw [c.kindOf]; exact hx) (by rw [c.hc]; exact e1) hc.choose_spec fun h₃ ⟨o₃, ho₃, hd₃⟩ hs₃ =>
    k h₃ _ (st.put g1 (ea ▸ hs₃) (ea ▸ ho₃) (.cell1 hv hd₃)) (adr_set g1)
theorem js_sce (ns : NoStar c pa) (ns2 : NoStar c pb) {kd kd' : Nat} {pt pv : Pos} (hx : c.cs.names.lookup (nm x) = some .cell) (hy : c.cs.names.lookup (nm y) = some .cell)
    (hs : swapsWithSole [.Tuple [.Name (nm x) p1, .Name (nm y) p2] kd pt] (.Tuple [pa, pb] kd' pv) pos.line c.env = pure false) (hw : swappedStores [.Tuple [.Name (nm x) p1, .Name (nm y) p2] kd pt] (.Tuple [pa, pb] kd' pv) c.env = pure none)
    (ha : JE c m pa σ ra) (hb : ∀ σ, JE c m pb σ (fb σ)) :
    JS c m (.Assign [.Tuple [.Name (nm x) p1, .Name (nm y) p2] kd pt] (.Tuple [pa, pb] kd' pv) pos) σ (ra.bind fun v σ => (fb σ).bind fun u σ => bad? (m.c.lookup x) fun i => bad? (m.c.lookup y) fun j =>
        match σ[i]?, (σ.set i (.cell (some v)))[j]? with
        | some (.cell _), some (.cell _) => .ok (.next, m) ((σ.set i (.cell (some v))).set j (.cell (some u)))
        | _, _ => .bad) := fun s l news Q E st k =>
  Assign_Tuple (two ns ns2 ha hb st k fun h₁ t₁ n₁ v u cv cu σ₁ T st₁ hv hu hT => q_bad (P := fun r => ContS c (adr n₁) (up s h₁ t₁) r Q E → _) (fun k => k.elim) fun i ei => q_bad (P := fun r => ContS c (adr n₁) (up s h₁ t₁) r Q E → _) (fun k => k.elim) fun j ej =>
    cell2 (P := fun r => ContS c (adr n₁) (up s h₁ t₁) r Q E → _) (fun k => k.elim) fun ci cj qi qj k₃ => assign_Tuple_tuple (items := #[cv, cu]) (s := (up s h₁ t₁)) st.bs.hh hT rfl rfl fun h' he =>
    show wpAny _ _ (assignInOrder [assign (.Name (nm x) p1) c.env, assign (.Name (nm y) p2) c.env] [cv, cu]) _ _ _ from
    assignInOrder_cons (assign_Name ((st₁.kept he).storeC (s := up s h' t₁) hx ei qi hv fun h₃ n₃ st₃ e₃ => assignInOrder_cons (assign_Name (st₃.storeC (s := up s h₃ t₁) hy ej qj (by rw [e₃]; exact hu) fun h₄ n₄ st₄ e₄ =>
      assignInOrder_nil (k₃ h₄ t₁ _ _ _ st₄ (by rw [e₄, e₃]; exact pre) .next)))))) hs hw
theorem js_sec (hx : c.cs.names.lookup (nm x) = some .cell) (hs : swapsWith pe (some (.Name (nm x) p)) pos.line c.env = pure false) (ha : JE c m pe σ ra) :
    JS c m (.Assign [.Name (nm x) p] pe pos) σ (ra.bind fun v σ => bad? (m.c.lookup x) fun i => match σ[i]? with
        | some (.cell _) => .ok (.next, m) (σ.set i (.cell (some v)))
        | _ => .bad) := fun s l news Q E st k =>
  wpAny_Assign_Name (ha s l news _ _ st (k.bindE fun v σ₁ _ h₁ t₁ n₁ cv st₁ p₁ v₁ => q_bad (P := fun r => ContS c (adr n₁) (up s h₁ t₁) r Q E → _) (fun k => k.elim) fun i ei =>
    cell1 (P := fun r => ContS c (adr n₁) (up s h₁ t₁) r Q E → _) (fun k => k.elim) fun w q k₂ => st₁.storeC (s := up s h₁ t₁) hx ei q v₁ fun h₃ n₃ st₃ e₃ => k₂ h₃ t₁ _ _ _ st₃ (by rw [e₃]; exact pre) .next)) hs
end
end Mine

namespace Mine
open PySem PySem.W PySem.Calls PyProof.Rows

section
variable {prog : Program} {w : World} {A : Around} {E : Value → Shared → Prop} {s : Shared}
/-- an item of a list stored -/
theorem setItem_at {a : Addr} {items : Array Value} {n : Nat} {k : Int} {t : Tok} {v : Value} {Q : Unit → Shared → Prop} (hl : s.heap.get? a = some (listOf items n)) (h0 : 0 ≤ k) (hfit : k < 2 ^ 63) (hj : k < items.size)
    (h : ∀ h' n', Heap.SameBut a s.heap h' → h'.get? a = some (listOf (items.setIfInBounds k.toNat v) n') → Q () (uh s h')) :
    wpAny (model prog w) A (setItem (.ref a) (.int k t) v) Q E s := by
  have hli : s.heap.IsList a items := ⟨_, hl, rfl, n, rfl⟩
  unfold setItem
  try with_reducible refine wpAny_holding ?_
  first | refine wpAny_bind (wpAny_pure ?_) | skip
  refine wpAny_bind (wpAny_sequenceKey hli.typeIs (by decide) ?_)
  refine wpAny_bind (wpAny_callSpecial?_slot (name := Str.ofString "__setitem__") hli.typeIs slot_list_setitem
    (wpAny_call_entry slot_list_setitem hli.typeIs entry_list_setitem ?_ (args_list_setitem _ _ _)))
  show wpAny _ _ (Builtin.List.listSubscript? (.int k t) >>= _) _ _ s
  refine wpAny_bind (wpAny_listSubscript_int (fitsIndex_of h0 hfit) ?_)
  clear hfit
  obtain ⟨j, rfl⟩ := Int.eq_ofNat_of_zero_le h0
  have hj' : j < items.size := by lia
  have hx : items[j]? = some items[j] := Array.getElem?_eq_getElem hj'
  show wpAny _ _ ((seqItemAt a j >>= fun r => pure (r.map (j, ·))) >>= _) _ _ s
  refine wpAny_bind (wpAny_bind (wpAny_seqItemAt hl rfl (wpAny_pure ?_)))
  rw [hx]
  show wpAny _ _ (setSeqItemAt a j v >>= _) _ _ s
  obtain ⟨n', e'⟩ := mapSeq_list (·.setIfInBounds j v) items n
  have hfin : (s.heap.update a (Obj.mapSeq (·.setIfInBounds j v))).get? a = some (listOf (items.setIfInBounds j v) n') := by
    rw [Heap.get?_update_self _ hl (by rw [e']; rfl), e']
  refine wpAny_bind (wpAny_setSeqItemAt hl rfl ?_)
  first
    | exact wpAny_bind (wpAny_pure (wpAny_pure ⟨.none, rfl, wpAny_pure (h _ n' (Heap.SameBut.update ..) hfin)⟩))
    | exact wpAny_pure ⟨.none, rfl, wpAny_pure (h _ n' (Heap.SameBut.update ..) hfin)⟩
end

section
variable {c : Ct} {m : I.Fm} {σ : I.H} {n : Nat} {pos p f apos p1 p2 : Pos} {pa pb pc pe pu pv : PySem.Expr} {pes : List PySem.Expr} {ra : I.R I.V} {ras : I.R (List I.V)} {fb fc fd fe : I.H → I.R I.V} {fbs : I.H → I.R (List I.V)} {x y : String} {id : String}
variable {l : List (Str × Value)} {news : List (Addr × Obj)} {s : Shared} {ρ : List Addr} {v u : I.V} {cv cu : Value}
variable {Q : Flow → Shared → Prop} {E : Value → Shared → Prop}
open I

/-- an attribute stored -/
theorem set_att {i : Nat} {C d : Nat} {fs : List (String × V)} {Q : Unit → Shared → Prop} (hfl : c.fl = none) (st : St c m σ s.heap l news) (e : σ[i]? = some (.inst C d)) (e2 : σ[d]? = some (.dict fs)) (hat : attOk C x = true) (hz : fs.length < 900) (hu : VR (adr news) (.obj i) cu) (hv : VR (adr news) v cv)
    (k : ∀ h' tk news', St c m (σ.set d (.dict (upd x v fs))) h' l news' → adr news' = adr news → Q () (up s h' tk)) : wpAny (model p0 c.w) c.A' (setAttr cu (nm x) cv) Q E s :=
  st.instR hu e e2 fun a dd es n' _ g4 f1 f4 hfs => set_dict (K := K c.w.params) (L := c.L) st.cx.F st.cx.X st.cx.N (InstAt.mk (ox := instObj C dd) (od := some (dictOf es n')) g4 rfl rfl f4) rfl (att_ok c.w hat).sa (att_ok c.w hat).po (att_ok c.w hat).tk (att_ok c.w hat).hd (frs_some hfs) rfl (upd_of st.cx.nd f1) (by have := put_len (x := nm x) (hs := PyData.keyHash c.w.params (nm x)) (k := .str (nm x) (s.toks + 1)) (v := cv) es; have := frs_len hfs; lia) fun h' F' N' =>
    k h' _ _ ⟨⟨st.cx.B, st.cx.X, st.cx.T, st.cx.hh, F', N', (nodup_set (o' := dictOf _ _) f1) ▸ st.cx.nd⟩, st.rel.set f1 (.dict (frs_put hfs hv _ _)), fun y v q => by rw [adr_set f1]; exact st.lr y v q, fun y j z q => by rw [adr_set f1]; exact st.cr y j z q, fun q => by rw [hfl] at q; cases q⟩ (adr_set f1)
theorem js_sat (hfl : c.fl = none) (hs : swapsWith pe (some (.Attribute pa (nm x) p)) pos.line c.env = pure false) (ha : JE c m pe σ ra) (hb : ∀ σ, JE c m pa σ (fb σ)) :
    JS c m (.Assign [.Attribute pa (nm x) p] pe pos) σ (ra.bind fun v σ => (fb σ).bind fun u σ => match u with
      | .obj i => match σ[i]? with
        | some (.inst C d) => match σ[d]? with
          | some (.dict fs) => if attOk C x ∧ fs.length < 900 then .ok (.next, m) (σ.set d (.dict (upd x v fs))) else .bad
          | _ => .bad
        | _ => .bad
      | _ => .bad) := fun s l news Q E st k =>
  plainObj_wpAny_Assign_Attribute (ha s l news _ _ st (k.bindE fun v σ₁ _ h₁ t₁ n₁ cv st₁ p₁ v₁ k₁ => hb σ₁ _ l n₁ _ _ st₁ (k₁.bindE fun u σ₂ _ h₂ t₂ n₂ cu st₂ p₂ v₂ k₂ => inst_cases (f := fun i C d fs => if attOk C x ∧ fs.length < 900 then .ok (.next, m) (σ₂.set d (.dict (upd x v fs))) else .bad) (P := fun u r => VR (adr n₂) u cu → ContS c (adr n₂) (up s h₂ t₂) r Q E → _) (fun _ _ k => k.elim) (fun i C d fs q q2 v₂ => if_bad (P := fun r => ContS c (adr n₂) (up s h₂ t₂) r Q E → _) (fun k => k.elim) fun hat k₃ =>
    set_att (s := (up s h₂ t₂)) hfl st₂ q q2 hat.1 hat.2 v₂ (v₁.mono p₂) fun h' tk nw st' ea => k₃ h' tk nw l _ st' (by rw [ea]; exact pre) .next) u v₂ k₂))) hs
/-- an attribute stored, one of a row of targets -/
theorem asg_att {v : V} {r : R V} {F : H → R (Fl × Fm)} {Q' : Unit → Shared → Prop} {rest : List (Value → Sem Unit)} {cvs : List Value} (hfl : c.fl = none) (st : St c m σ s.heap l news) (hv : VR (adr news) v cv) (hu : JE c m pu σ r)
    (k : ContS c (adr news) s (r.bind fun u σ => match u with
      | .obj i => match σ[i]? with
        | some (.inst C d) => match σ[d]? with
          | some (.dict fs) => if attOk C x ∧ fs.length < 900 then F (σ.set d (.dict (upd x v fs))) else .bad
          | _ => .bad
        | _ => .bad
      | _ => .bad) Q E)
    (hk : ∀ σ' h' t' n', St c m σ' h' l n' → adr news <+: adr n' → ContS c (adr n') (up s h' t') (F σ') Q E → wpAny (model p0 c.w) c.A' (assignInOrder rest cvs) Q' E (up s h' t')) : wpAny (model p0 c.w) c.A' (assignInOrder (assign (.Attribute pu (nm x) p1) c.env :: rest) (cv :: cvs)) Q' E s := by
  refine assignInOrder_cons ?_
  rw [assign_Attribute]
  exact wpAny_bind (wpAny_holding (hu _ l news _ _ st (k.bindE fun w σ₃ _ h₃ t₃ n₃ cw st₃ p₃ v₃ k₃ => wpAny_bind (wpAny_standAt (wpAny_bind (wpAny_holding (inst_cases (f := fun i C d fs => if attOk C x ∧ fs.length < 900 then F (σ₃.set d (.dict (upd x v fs))) else .bad) (P := fun u r => VR (adr n₃) u cw → ContS c (adr n₃) (up s h₃ t₃) r Q E → _) (fun _ _ k => k.elim) (fun i C d fs q q2 v₃ => if_bad (P := fun r => ContS c (adr n₃) (up s h₃ t₃) r Q E → _) (fun k => k.elim) fun hat k₄ =>
    set_att (s := (up s h₃ t₃)) hfl st₃ q q2 hat.1 hat.2 v₃ (hv.mono p₃) fun h₄ t₄ n₄ st₄ ea => wpAny_release (hk _ _ _ _ st₄ (by rw [ea]; exact p₃) (k₄.moved (by rw [ea]; exact pre)))) w v₃ k₃)))))))
theorem js_sat2 (hfl : c.fl = none) (ns : NoStar c pa) (ns2 : NoStar c pb) {kd kd' : Nat} {pt pw : Pos}
    (hs : swapsWithSole [.Tuple [.Attribute pu (nm x) p1, .Attribute pv (nm y) p2] kd pt] (.Tuple [pa, pb] kd' pw) pos.line c.env = pure false) (hw : swappedStores [.Tuple [.Attribute pu (nm x) p1, .Attribute pv (nm y) p2] kd pt] (.Tuple [pa, pb] kd' pw) c.env = pure none)
    (ha : JE c m pa σ ra) (hb : ∀ σ, JE c m pb σ (fb σ)) (hu : ∀ σ, JE c m pu σ (fc σ)) (hv : ∀ σ, JE c m pv σ (fd σ)) :
    JS c m (.Assign [.Tuple [.Attribute pu (nm x) p1, .Attribute pv (nm y) p2] kd pt] (.Tuple [pa, pb] kd' pw) pos) σ (ra.bind fun v σ => (fb σ).bind fun w σ => (fc σ).bind fun u σ => match u with
      | .obj i => match σ[i]? with
        | some (.inst C d) => match σ[d]? with
          | some (.dict fs) => if attOk C x ∧ fs.length < 900 then (fd (σ.set d (.dict (upd x v fs)))).bind fun u σ => match u with
            | .obj i => match σ[i]? with
              | some (.inst C d) => match σ[d]? with
                | some (.dict fs) => if attOk C y ∧ fs.length < 900 then .ok (.next, m) (σ.set d (.dict (upd y w fs))) else .bad
                | _ => .bad
              | _ => .bad
            | _ => .bad else .bad
          | _ => .bad
        | _ => .bad
      | _ => .bad) := fun s l news Q E st k =>
  Assign_Tuple (two (F := fun v w σ => (fc σ).bind fun u σ => _) ns ns2 ha hb st k fun h₁ t₁ n₁ v u cv cu σ₁ T st₁ hv₁ hu₁ hT k₁ => assign_Tuple_tuple (items := #[cv, cu]) (s := (up s h₁ t₁)) st.bs.hh hT rfl rfl fun h' he =>
    show wpAny _ _ (assignInOrder [assign (.Attribute pu (nm x) p1) c.env, assign (.Attribute pv (nm y) p2) c.env] [cv, cu]) _ _ _ from
    asg_att (s := up s h' t₁) hfl (st₁.kept he) hv₁ (hu σ₁) (k₁.moved pre) fun σ₂ h₂ t₂ n₂ st₂ p₂ k₂ => asg_att (s := up s h₂ t₂) (F := fun σ => .ok (.next, m) σ) hfl st₂ (hu₁.mono p₂) (hv σ₂) k₂ fun σ₃ h₃ t₃ n₃ st₃ p₃ k₃ => assignInOrder_nil (k₃ h₃ t₃ n₃ l _ st₃ pre .next)) hs hw
theorem six_cases {α : Type} {P : V → V → R α → Prop} {f : Nat → Int → List V → R α} (hb : ∀ v u, P v u .bad) (h : ∀ i z xs, σ[i]? = some (.list xs) → P (.obj i) (.int z) (f i z xs)) (v u : V) :
    P v u (match v, u with | .obj i, .int z => (match σ[i]? with | some (.list xs) => f i z xs | _ => .bad) | _, _ => .bad) := by
  cases v with
  | obj i => cases u with
    | int z => exact ao_list (P := P _ _) (hb _ _) (h i z)
    | _ => exact hb _ _
  | _ => exact hb _ _
theorem js_six (hs : swapsWith pe (some (.Subscript pa pb p)) pos.line c.env = pure false) (ha : JE c m pe σ ra) (hb : ∀ σ, JE c m pa σ (fb σ)) (hc : ∀ σ, JE c m pb σ (fc σ)) :
    JS c m (.Assign [.Subscript pa pb p] pe pos) σ (ra.bind fun v σ => (fb σ).bind fun u σ => (fc σ).bind fun t σ => match u, t with
      | .obj i, .int z => match σ[i]? with
        | some (.list xs) => if 0 ≤ z ∧ z < xs.length then .ok (.next, m) (σ.set i (.list (xs.set z.toNat v))) else .bad
        | _ => .bad
      | _, _ => .bad) := fun s l news Q E st k =>
  wpAny_Assign_Subscript (ha s l news _ _ st (k.bindE fun v σ₁ _ h₁ t₁ n₁ cv st₁ p₁ v₁ k₁ => hb σ₁ _ l n₁ _ _ st₁ (k₁.bindE fun u σ₂ _ h₂ t₂ n₂ cu st₂ p₂ v₂ k₂ => hc σ₂ _ l n₂ _ _ st₂ (k₂.bindE fun t σ₃ _ h₃ t₃ n₃ ct st₃ p₃ v₃ k₃ =>
    six_cases (f := fun i z xs => if 0 ≤ z ∧ z < xs.length then .ok (.next, m) (σ₃.set i (.list (xs.set z.toNat v))) else .bad) (P := fun u t r => VR (adr n₃) u cu → VR (adr n₃) t ct → ContS c (adr n₃) (up s h₃ t₃) r Q E → _) (fun _ _ _ _ k => k.elim) (fun i z xs q hu ht => if_bad (P := fun r => ContS c (adr n₃) (up s h₃ t₃) r Q E → _) (fun k => k.elim) fun hz k₄ =>
      ht.intE fun tz => st₃.listR hu q fun a cs n' g1 _ g4 hcs hl => setItem_at (s := (up s h₃ t₃)) g4 hz.1 (by lia) (by rw [List.size_toArray, ← hcs.len]; exact hz.2) fun h' n'' hs' ho =>
        k₄ h' t₃ _ l _ (st₃.put g1 hs' (ho.trans (by rw [List.setIfInBounds_toArray])) (.list (hcs.set ((v₁.mono p₂).mono p₃) _) (by rw [List.length_set]; exact hl))) (by rw [adr_set g1]; exact pre) .next) u t (v₂.mono p₃) v₃ k₃)))) hs
theorem cut_fit {α : Type} {xs ys : List α} {a b N : Nat} (q : a ≤ b) (h : xs.length + ys.length ≤ N) : (xs.take a ++ ys ++ xs.drop b).length ≤ N := by
  rw [List.length_append, List.length_append, List.length_take, List.length_drop]
  rcases Nat.le_total xs.length b with c | c
  · rw [Nat.sub_eq_zero_of_le c, Nat.add_zero]; exact Nat.le_trans (Nat.add_le_add_right (Nat.min_le_right ..) _) h
  · rw [Nat.min_eq_left (Nat.le_trans q c)]; lia
theorem ssl_cases {α : Type} {P : V → V → V → V → R α → Prop} {f : Nat → Nat → Int → Int → List V → List V → R α} (hb : ∀ v u t w, P v u t w .bad) (h : ∀ j i y z xs ys, σ[i]? = some (.list xs) → σ[j]? = some (.list ys) → P (.obj j) (.obj i) (.int y) (.int z) (f j i y z xs ys)) (v u t w : V) :
    P v u t w (match v, u, t, w with | .obj j, .obj i, .int y, .int z => (match σ[i]?, σ[j]? with | some (.list xs), some (.list ys) => f j i y z xs ys | _, _ => .bad) | _, _, _, _ => .bad) := by
  cases v with
  | obj j => cases u with
    | obj i => cases t with
      | int y => cases w with
        | int z =>
          dsimp only
          cases q : σ[i]? with
          | none => exact hb _ _ _ _
          | some o => cases o with
            | list xs =>
              cases q' : σ[j]? with
              | none => exact hb _ _ _ _
              | some o => cases o with
                | list ys => exact h _ _ _ _ _ _ q q'
                | _ => exact hb _ _ _ _
            | _ => exact hb _ _ _ _
        | _ => exact hb _ _ _ _
      | _ => exact hb _ _ _ _
    | _ => exact hb _ _ _ _
  | _ => exact hb _ _ _ _
theorem ssl_core {i j : Nat} {y z : Int} {ty tz : Tok} {xs ys : List V} (st : St c m σ s.heap l news) (q1 : σ[i]? = some (.list xs)) (q2 : σ[j]? = some (.list ys)) (hv : VR (adr news) (.obj j) cv) (hu : VR (adr news) (.obj i) cu)
    (hz : i ≠ j ∧ 0 ≤ y ∧ y ≤ xs.length ∧ 0 ≤ z ∧ z ≤ xs.length ∧ xs.length + ys.length ≤ 100000) {Q' : Unit → Shared → Prop} (k : ∀ h' n', St c m (σ.set i (.list (xs.take y.toNat ++ ys ++ xs.drop (max y z).toNat))) h' l n' → adr n' = adr news → Q' () (uh s h')) :
    wpAny (model p0 c.w) c.A' (setItem cu (.ref s.heap.objs.size) cv) Q' E (uh s (s.heap.push { cls := .type "slice", data := .fields #[.int y ty, .int z tz, .none] })) :=
  st.listR hu q1 fun a cs n' g1 _ g4 hcs _ => st.listR hv q2 fun b ds n'' _ _ f4 hds _ =>
    have g₅ : Grow s.heap (s.heap.push { cls := .type "slice", data := .fields #[.int y ty, .int z tz, .none] }) := Grow.push _ _
    setItem_slice (lo := some y) (hi := some z) (g₅ _ _ g4) (g₅ _ _ f4) (Heap.IsSliceOf.new ..) (.int _ _) (.int _ _) (bounds_both hz.2.1 hz.2.2.2.1 (by rw [List.size_toArray, ← hcs.len]; exact hz.2.2.1) (by rw [List.size_toArray, ← hcs.len]; exact hz.2.2.2.2.1)) (by rw [List.size_toArray, List.size_toArray, sizeLine_eq, ← hcs.len, ← hds.len]; exact Nat.le_trans hz.2.2.2.2.2 (by decide)) fun h' n₃ sb ho =>
      k h' _ ((st.grow g₅).put g1 sb (ho.trans (by rw [cut_arrays])) (.list (((hcs.take _).app hds).app (hcs.drop _)) (cut_fit (Int.toNat_le_toNat (Int.le_max_left ..)) (Nat.le_trans hz.2.2.2.2.2 (by decide))))) (adr_set g1)
theorem js_ssl {ps : Pos} (hs : swapsWith pe (some (.Subscript pa (.Slice (some pb) (some pc) none ps) p)) pos.line c.env = pure false) (ha : JE c m pe σ ra) (hb : ∀ σ, JE c m pa σ (fb σ)) (hc : ∀ σ, JE c m pb σ (fc σ)) (hd : ∀ σ, JE c m pc σ (fd σ)) :
    JS c m (.Assign [.Subscript pa (.Slice (some pb) (some pc) none ps) p] pe pos) σ (ra.bind fun v σ => (fb σ).bind fun u σ => (fc σ).bind fun t σ => (fd σ).bind fun w σ => match v, u, t, w with
      | .obj j, .obj i, .int y, .int z => match σ[i]?, σ[j]? with
        | some (.list xs), some (.list ys) => if i ≠ j ∧ 0 ≤ y ∧ y ≤ xs.length ∧ 0 ≤ z ∧ z ≤ xs.length ∧ xs.length + ys.length ≤ 100000 then .ok (.next, m) (σ.set i (.list (xs.take y.toNat ++ ys ++ xs.drop (max y z).toNat))) else .bad
        | _, _ => .bad
      | _, _, _, _ => .bad) := fun s l news Q E st k =>
  wpAny_Assign_Subscript (ha s l news _ _ st (k.bindE fun v σ₁ _ h₁ t₁ n₁ cv st₁ p₁ v₁ k₁ => hb σ₁ _ l n₁ _ _ st₁ (k₁.bindE fun u σ₂ _ h₂ t₂ n₂ cu st₂ p₂ v₂ k₂ => wpAny_Slice (hc σ₂ _ l n₂ _ _ st₂ (k₂.bindE fun t σ₃ _ h₃ t₃ n₃ ct st₃ p₃ v₃ k₃ => hd σ₃ _ l n₃ _ _ st₃ (k₃.bindE fun w σ₄ _ h₄ t₄ n₄ cw st₄ p₄ v₄ k₄ => wpAny_pure
    (ssl_cases (f := fun j i y z xs ys => if i ≠ j ∧ 0 ≤ y ∧ y ≤ xs.length ∧ 0 ≤ z ∧ z ≤ xs.length ∧ xs.length + ys.length ≤ 100000 then .ok (.next, m) (σ₄.set i (.list (xs.take y.toNat ++ ys ++ xs.drop (max y z).toNat))) else .bad) (P := fun v u t w r => VR (adr n₄) v cv → VR (adr n₄) u cu → VR (adr n₄) t ct → VR (adr n₄) w cw → ContS c (adr n₄) (up s h₄ t₄) r Q E → _) (fun _ _ _ _ _ _ _ _ k => k.elim) (fun j i y z xs ys q1 q2 hv hu ht hw => if_bad (P := fun r => ContS c (adr n₄) (up s h₄ t₄) r Q E → _) (fun k => k.elim) fun hz k₅ =>
      ht.intE fun ty => hw.intE fun tz => ssl_core (s := up s h₄ t₄) st₄ q1 q2 hv hu hz fun h' n' st' ea => k₅ h' t₄ n' l _ st' (by rw [ea]; exact pre) .next) v u t w (((v₁.mono p₂).mono p₃).mono p₄) ((v₂.mono p₃).mono p₄) (v₃.mono p₄) v₄ k₄))))))) hs
theorem js_exp (hi : interactive c.env = false) (hs : swapsWith pe none pos.line c.env = pure false) (ha : JE c m pe σ ra) : JS c m (.Expr pe pos) σ (ra.bind fun _ σ => .ok (.next, m) σ) := fun s l news Q E st k =>
  wpAny_Expr_any (ha s l news _ _ st (k.bindE fun v σ₁ _ h₁ t₁ n₁ cv st₁ p₁ v₁ k₁ => k₁ h₁ t₁ n₁ l _ st₁ pre .next)) hi hs
theorem js_ret (ha : JE c m pe σ ra) : JS c m (.Return (some pe) pos) σ (ra.bind fun v σ => .ok (.ret v, m) σ) := fun s l news Q E st k =>
  wpAny_Return_some (ha s l news _ _ st (k.bindE fun v σ₁ _ h₁ t₁ n₁ cv st₁ p₁ v₁ k₁ => k₁ h₁ t₁ n₁ l _ st₁ pre (.ret v₁)))
theorem js_ret0 : JS c m (.Return none pos) σ (.ok (.ret .none, m) σ) := fun s l news Q E st k =>
  wpAny_Return_none (k s.heap s.toks _ l _ st pre (.ret .none))
theorem js_ife {body orelse : List Stmt} {f₁ f₂ : H → R (Fl × Fm)} (ht : JT c m pe σ ra) (h1 : ∀ σ, JSs c m body σ (f₁ σ)) (h2 : ∀ σ, JSs c m orelse σ (f₂ σ)) :
    JS c m (.If pe body orelse pos) σ (ra.bind fun v σ => bad? (truth v) fun t => if t then f₁ σ else f₂ σ) := fun s l news Q E st k =>
  wpAny_If (ht s l news _ _ st ((contS_t k).bindE fun v σ₁ _ h₁ t₁ n₁ cv st₁ p₁ v₁ k₁ => by
    subst v₁
    cases v with
    | true => exact h1 σ₁ _ l n₁ _ _ st₁ k₁
    | false => exact h2 σ₁ _ l n₁ _ _ st₁ k₁))
end
end Mine

namespace Mine
open PySem PySem.W PySem.Calls PyProof.Rows

theorem dict_mapF (o : Obj) (f : Array Value → Array Value) : (o.mapFields f).dict = o.dict := by
  obtain ⟨c, d, dt, sl⟩ := o; cases dt <;> rfl
/-- the mark that a frame sets -/
noncomputable def markOf : Option Addr → Option Value
  | none => none
  | some L => some (rawInt L)
section
variable {M : Model} {A : Around} {E : Value → Shared → Prop} {s : Shared} {base : Heap} {env : Env} {outer l : List Env} {L e D : Addr}

theorem entryD {oe : Obj} {vs : Array Value} {head : Value} {hadNext : Bool} {Q : Unit → Shared → Prop}
    (hfr : A.frames = some (env :: outer)) (hl : s.heap.FunFrames base (env :: outer)) (hf : env.frame = some L)
    (he : s.heap.get? e = some oe) (hkb : base.StaysIn s.heap) (hen : base.get? e = none) (hd : oe.data = .fields vs) (h2 : vs[2]? = some .none) (hsz : 1 < vs.size) (hc : oe.cls = .ref 38 ∧ oe.dict = some D)
    (h : ∀ h', FlyD base (env :: outer) e D h' (some (rawInt L)) → s.heap.UpToSlots h' → Q () (uh s h')) :
    wpAny M A (do let a ← frameOf env; let pl ← entryPlaceOf L hadNext; let b ← EntryCells.newEntry head a .none (rawInt L) .none pl; setField (.ref e) 1 b) Q E s := by
  have hene : e ∉ (env :: outer).filterMap (·.frame) := fun hm => by
    obtain ⟨_, o, ho, hnf⟩ := hl.mem hm
    rw [he] at ho; injection ho with ho; subst ho; exact hnf vs hd
  refine wpAny_bind (wpAny_frameOf_fun hfr hl hf fun h₁ hs₁ => ?_)
  refine wpAny_bind (wpAny_entryPlaceOf fun pl hpl => ?_)
  unfold EntryCells.newEntry newFields
  refine wpAny_bind (wpAny_newObj_type ?_ (hpl.sizeOk5 _ _ _ _ _))
  have he₁ : h₁.get? e = some oe := (hs₁.2.1 e hene).trans he
  have kb₁ : base.StaysIn h₁ := fun b o hbo => (hs₁.2.1 b fun hm => by rw [(hl.mem hm).1] at hbo; cases hbo).trans (hkb b o hbo)
  generalize hO : ({ cls := .type "traceback", dict := none, data := .fields ([head, .ref L, .none, rawInt L, .none] ++ (if pl.isEmpty then List.replicate 6 Value.none else pl)).toArray } : Obj) = O
  have hOd : O.data = .fields ([head, .ref L, .none, rawInt L, .none] ++ (if pl.isEmpty then List.replicate 6 Value.none else pl)).toArray := by rw [← hO]
  have he₂ := Heap.get?_push_of_some (h := h₁) O he₁
  refine wpAny_setField he₂ hd hsz (h _ ?_ ?_)
  all_goals
    have hTe : h₁.objs.size ≠ e := Nat.ne_of_gt (Heap.lt_size he₁)
    have hd₃ := Obj.data_mapFields hd (·.setIfInBounds 1 (Value.ref h₁.objs.size))
    have he₃ := Heap.get?_update_self (Obj.mapFields (·.setIfInBounds 1 (Value.ref h₁.objs.size))) he₂ (Obj.isFreed_of_fields hd₃)
    have hT₃ := (Heap.get?_update_other (h₁.push O) (Obj.mapFields (·.setIfInBounds 1 (Value.ref h₁.objs.size))) (Ne.symm hTe)).trans (Heap.get?_push_size h₁ (Obj.isFreed_of_fields hOd))
    have keep : ∀ b o, b ≠ e → h₁.get? b = some o → ((h₁.push O).update e (Obj.mapFields (·.setIfInBounds 1 (Value.ref h₁.objs.size)))).get? b = some o :=
      fun b o hbe hb => by rw [Heap.get?_update_other _ _ (Ne.symm hbe)]; exact Heap.get?_push_of_some _ hb
    have noRec : ∀ b o, s.heap.get? b = some o → (∀ vs, o.data ≠ .fields vs) → b ≠ e := fun b o hb hnf q => by
      rw [q, he] at hb; injection hb with hb; subst hb; exact hnf vs hd
  · refine ⟨fun b o hbo => keep b o (fun q => by rw [q, hen] at hbo; cases hbo) (kb₁ b o hbo), hen, hl.of_keeps fun b o hb hnf => ?_, ?_⟩
    · obtain ⟨sl, hs⟩ := hs₁.2.2 b o hb
      exact ⟨_, keep b _ (noRec b o hb hnf) hs, rfl⟩
    · exact ⟨_, _, h₁.objs.size, _, _, he₃, ⟨(Obj.cls_mapFields _ _).trans hc.1, (dict_mapF _ _).trans hc.2⟩, hd₃, by rw [Array.getElem?_setIfInBounds_ne (by decide)]; exact h2, by simp [hsz], kb₁.fresh, hTe, hT₃, hOd, by first | (simp; done) | (rcases hpl with rfl | ⟨_, _, _, _, _, _, _, rfl⟩ <;> simp)⟩
  · intro b o hb hnf
    obtain ⟨sl, hs⟩ := hs₁.2.2 b o hb
    exact ⟨sl, keep b _ (noRec b o hb hnf) hs⟩

/-- the row at T is set -/
theorem TrT.set3 {x fv : Value} (hb : base.StaysIn s.heap) (hen : base.get? e = none) (hl : s.heap.FunFrames base l) (t : TrT s.heap base e D x) {G : Prop}
    (k : ∀ T, (∀ {Q : Value → Shared → Prop}, Q (.ref T) s → wpAny M A (field (.ref e) 1) Q E s) → (∀ {Q : Value → Shared → Prop}, Q x s → wpAny M A (field (.ref T) 3) Q E s) →
      (∀ {Q : Unit → Shared → Prop}, (∀ h', base.StaysIn h' → h'.FunFrames base l → TrT h' base e D fv → s.heap.UpToSlots h' → Q () (uh s h')) → wpAny M A (setField (.ref T) 3 fv) Q E s) → G) : G := by
  cases t with
  | mk oe vs T oT ts he hc hd h2 h1 hnT hTe hT hdT h3 =>
  have hsz3 : 3 < ts.size := (Array.getElem?_eq_some_iff.mp h3).1
  have other : ∀ b, b ≠ T → (s.heap.update T (Obj.mapFields (·.setIfInBounds 3 fv))).get? b = s.heap.get? b := fun b hb => Heap.get?_update_other _ _ (Ne.symm hb)
  have noRec : ∀ b o, s.heap.get? b = some o → (∀ vs, o.data ≠ .fields vs) → b ≠ T := fun b o hb hnf q => hnf ts (Option.some.inj (hb.symm.trans ((congrArg _ q).trans hT)) ▸ hdT)
  exact k T (fun q => wpAny_field he hd h1 q) (fun q => wpAny_field hT hdT h3 q) fun q => wpAny_setField hT hdT hsz3 (q _ (fun b o hbo => (other b fun q => nos (hnT.symm.trans (q ▸ hbo))).trans (hb b o hbo)) (hl.of_keeps fun b o hb hnf => ⟨o, (other b (noRec b o hb hnf)).trans hb, rfl⟩)
    (.mk oe vs T _ _ ((other e (Ne.symm hTe)).trans he) hc hd h2 h1 hnT hTe (Heap.get?_update_self (Obj.mapFields (·.setIfInBounds 3 fv)) hT (Obj.isFreed_of_fields (Obj.data_mapFields hdT _))) (Obj.data_mapFields hdT (·.setIfInBounds 3 fv)) (Array.getElem?_setIfInBounds_self_of_lt hsz3)) fun b o hb hnf => ⟨o.slots, (other b (noRec b o hb hnf)).trans hb⟩)
theorem TrT.entry {x head : Value} {hadNext : Bool} {Q : Unit → Shared → Prop} (t : TrT s.heap base e D x) (hfr : A.frames = some (env :: outer)) (hl : s.heap.FunFrames base (env :: outer)) (hf : env.frame = some L) (hb : base.StaysIn s.heap) (hen : base.get? e = none)
    (h : ∀ h', FlyD base (env :: outer) e D h' (some (rawInt L)) → s.heap.UpToSlots h' → Q () (uh s h')) :
    wpAny M A (do let a ← frameOf env; let pl ← entryPlaceOf L hadNext; let b ← EntryCells.newEntry head a .none (rawInt L) .none pl; setField (.ref e) 1 b) Q E s := by
  cases t with
  | mk oe vs T oT ts he hc hd h2 h1 => exact entryD hfr hl hf he hb hen hd h2 (Array.getElem?_eq_some_iff.mp h1).1 hc h
theorem ref_ne {T : Addr} : (Value.ref T != Value.none) = true := rfl
theorem noteD {fl : Option Value} {Q : Unit → Shared → Prop} (hfr : A.frames = some (env :: outer)) (hf : env.frame = some L) (hm : fl = none ∨ fl = some .none ∨ fl = some (rawInt L)) (x : FlyD base (env :: outer) e D s.heap fl)
    (h : ∀ h', FlyD base (env :: outer) e D h' (some (rawInt L)) → s.heap.UpToSlots h' → Q () (uh s h')) : wpAny M A (noteFrame (.ref e) env) Q E s := by
  obtain ⟨f1, f2, f3, f4⟩ := x
  unfold noteFrame
  simp only [hf]
  rcases hm with rfl | rfl | rfl
  · refine TrT.set3 (M := M) (A := A) (E := E) (fv := .none) f1 f2 f3 f4 fun T r1 r3 w3 => wpAny_bind (r1 ?_)
    rw [if_pos ref_ne]
    refine wpAny_bind (r3 ?_)
    rw [if_neg (show ¬ ((Value.none == rawInt L) = true) from Bool.false_ne_true)]
    exact wpAny_bind (w3 fun h' b' l' t' u' => t'.entry hfr l' hf b' f2 fun h'' x1 x2 => h h'' x1 (u'.trans x2))
  · cases f4 with
    | mk oe vs he hc hd h2 h1 =>
      refine wpAny_bind (wpAny_field he hd h1 ?_)
      rw [if_neg (by decide)]
      exact entryD hfr f3 hf he f1 f2 hd h2 (Array.getElem?_eq_some_iff.mp h1).1 hc h
  · refine TrT.set3 (M := M) (A := A) (E := E) (fv := .none) f1 f2 f3 f4 fun T r1 r3 w3 => wpAny_bind (r1 ?_)
    rw [if_pos ref_ne]
    refine wpAny_bind (r3 ?_)
    rw [if_pos (show (rawInt L == rawInt L) = true from beq_self_eq_true _)]
    exact wpAny_pure (h _ ⟨f1, f2, f3, f4⟩ (.refl _))

theorem FlyD.trT {f : Option Addr} {h : Heap} {fl : Option Value} (hm : fl = none ∨ fl = some (rawInt L)) (x : FlyD base l e D h fl) {G : Prop} (k : ∀ x, TrT h base e D x → G) : G := by
  rcases hm with rfl | rfl
  · exact k _ x.tr
  · exact k _ x.tr
theorem flightD {f : Option Addr} {fl : Option Value} {Q : Unit → Shared → Prop} (hm : fl = none ∨ fl = some (rawInt L)) (x : FlyD base l e D s.heap fl) (h : ∀ h', FlyD base l e D h' (markOf f) → s.heap.UpToSlots h' → Q () (uh s h')) : wpAny M A (setFlight (.ref e) f) Q E s :=
  x.trT (f := f) hm fun v t => TrT.set3 (M := M) (A := A) (E := E) (fv := f.elim Value.none fun f => rawInt f) x.st x.en x.ff t fun T r1 r3 w3 => by
    unfold setFlight
    refine wpAny_bind (r1 ?_)
    rw [if_pos ref_ne]
    exact w3 fun h' b' l' t' u' => h h' ⟨b', x.en, l', by cases f <;> exact t'⟩ u'
end

section
variable {c : Ct} {m : I.Fm} {σ : I.H} {l l' : List (Str × Value)} {ρ : List Addr} {news : List (Addr × Obj)} {s s₀ : Shared} {E : Value → Shared → Prop} {sy : String} {e : Value} {s' : Shared} {M : Model}
/-- an exception on its way, seen by its frame -/
theorem ExAt.note (hfe : c.env = c.fenv) (B : Below c.A c.base c.outer c.g) (x : ExAt c l ρ s₀ σ sy e s') {Q : Unit → Shared → Prop}
    (h : ∀ ea h₀ h news tk, e = .ref ea → Fr c.g c.L h₀ (fun y => List.lookup y l) → h₀.UpToSlots h → RaisedD c.base (c.fenv :: c.outer) ea sy news h (some (rawInt c.L)) → Rel σ news → (adr news).Nodup → ρ <+: adr news → Q () (up s₀ h tk)) : wpAny M c.A' (noteFrame e c.env) Q E s' := by
  cases x with
  | mk ea h₀ news tk h' fl e1 e2 F ups R hr hn hm hpr => cases R with
    | mk B' D od r1 r2 r3 r4 r5 r6 =>
      rw [hfe, e1, e2]
      exact noteD (s := (up s₀ h' tk)) (Around.frames_deeper B.stack) c.ffr hm r6 fun h₂ x1 x2 => h ea h₀ h₂ news tk e1 F (ups.trans x2) ⟨B', D, od, r1, r2, r3, r4, r5, x1⟩ hr hn hpr
theorem FlyD.top {base : Heap} {l : List Env} {ea D L : Addr} {s : Shared} {A : Around} {Q : Value → Shared → Prop} (x : FlyD base l ea D s.heap (some (rawInt L))) (k : ∀ T, Q (.ref T) s) : wpAny M A (field (.ref ea) 1) Q E s := by
  cases x.tr with
  | mk oe vs T oT ts he hc hd h2 h1 => exact wpAny_field he hd h1 (k T)
/-- through a loop -/
theorem ExAt.noted (hfe : c.env = c.fenv) (B : Below c.A c.base c.outer c.g) (k : ∀ s' e l', ExAt c l' ρ s₀ σ sy e s' → E e s') (x : ExAt c l ρ s₀ σ sy e s') : notedBy M c.A' c.env (fun e s' => cameBackBy M c.A' c.env E e s') e s' := by
  refine x.note hfe B fun ea h₀ h news tk he F ups R hr hn hpr => ?_
  cases R with
  | mk B' D od r1 r2 r3 r4 r5 r6 =>
    unfold cameBackBy
    rw [he, c.hfr]
    refine wpAny_bind (FlyD.top (s := up s₀ h tk) r6 fun T => ?_)
    rw [if_neg (show ¬ ((Value.ref T == Value.none) = true) from Bool.false_ne_true)]
    exact flightD (s := (up s₀ h tk)) (f := some c.L) (.inr rfl) r6 fun h₂ x1 x2 => k _ _ l ⟨ea, h₀, news, tk, h₂, some (rawInt c.L), rfl, rfl, F, ups.trans x2, ⟨B', D, od, r1, r2, r3, r4, r5, x1⟩, hr, hn, .inr (.inr rfl), hpr⟩
/-- out of its frame -/
theorem ExAt.leave (hfe : c.env = c.fenv) (B : Below c.A c.base c.outer c.g) (x : ExAt c l ρ s₀ σ sy e s') {Q : Unit → Shared → Prop} (k : ∀ s', ExOut c.base c.outer c.g ρ s₀ σ sy e s' → Q () s') : wpAny M c.A' (leaving c.env e) Q E s' := by
  refine wpAny_bind (x.note hfe B fun ea h₀ h news tk he F ups R hr hn hpr => ?_)
  cases R with
  | mk B' D od r1 r2 r3 r4 r5 r6 =>
    rw [he]
    exact flightD (s := (up s₀ h tk)) (f := none) (.inr rfl) r6 fun h₂ x1 x2 => k _ ⟨ea, news, tk, h₂, he, rfl, ((Heap.UpToSlots.of_keeps F.keep).trans (ups.trans x2)), ⟨B', D, od, r1, r2, r3, r4, r5, ⟨x1.st, x1.en, x1.ff.2.2, x1.tr⟩⟩, hr, hn, hpr⟩
end
end Mine

namespace Mine
open PySem PySem.W PySem.Calls PyProof.Rows

section
variable {prog : Program} {w : World} {A : Around} {E : Value → Shared → Prop} {s : Shared}
/-- what an iterator that has ended leaves -/
noncomputable def Ended (it : Addr) (h h' : Heap) : Prop := (∀ b o, b ≠ it → h.get? b = some o → h'.get? b = some o) ∧ ∃ o, h'.get? it = some o
theorem stop_next {T id : String} {b : Builtin} {it : Addr} {h₁ : Heap} {Q : Option Value → Shared → Prop} (hh : A.handled = none)
    (hT : s.TypeIs (.ref it) T) (sl : Slot T "__next__" id) (en : entryFor table id = some b) (ar : argsOk id ⟨[.ref it], []⟩) (he : Ended it s.heap h₁)
    (hb : ∀ {P : Fin → Shared → Prop} {E : Value → Shared → Prop}, (∀ {α : Type} {P' : α → Shared → Prop}, wpAny (model prog w) A.in1 (newExc (.type "StopIteration") [] >>= fun e => raiseNew e) P' E (uh s h₁)) → wpAny (model prog w) A.in1 (b ⟨[.ref it], []⟩) P E s)
    (hQ : ∀ h', Ended it s.heap h' → Q none (uh s h')) : wpAny (model prog w) A (pyNext (.ref it)) Q E s := by
  obtain ⟨k1, o₁, k2⟩ := he
  unfold pyNext
  refine wpAny_bind (wpAny_attempt (wpAny_callSpecial?_slot (name := Str.ofString "__next__") hT sl (wpAny_call_entry sl hT en (hb fun {α P'} => ?_) ar)))
  refine wpAny_bind ?_
  simp only [newExc, newTuple]
  refine wpAny_bind (wpAny_newObj_type ?_ (by size_fits))
  refine wpAny_bind (m := firstArgMember _ _) (wpAny_of_eq (a := Value.none) (by first | rfl | (simp only [firstArgMember]; rfl)) ?_)
  refine wpAny_newObj_type ?_ (by size_fits)
  simp only [raiseNew]
  refine wpAny_bind (wpAny_handled ?_)
  rw [show A.in1.handled = none from hh]
  refine wpAny_bind (wpAny_pure (wpAny_throw ?_))
  refine wpAny_bind (wpAny_isInstance (T := "StopIteration") (b := true) ⟨_, Heap.get?_push_size _ rfl, rfl⟩ isSubtype_stop ?_)
  exact wpAny_pure (hQ _ ⟨fun b o hb e => Heap.get?_push_of_some _ (Heap.get?_push_of_some _ (k1 b o hb e)), _, Heap.get?_push_of_some _ (Heap.get?_push_of_some _ k2)⟩)
theorem next_list_end {it l : Addr} {i : Nat} {items} {Q : Option Value → Shared → Prop} (hh : A.handled = none) (hit : s.heap.IsListIter it l i) (hl : s.heap.IsList l items) (hx : items[i]? = none)
    (hQ : ∀ h', Ended it s.heap h' → Q none (uh s h')) : wpAny (model prog w) A (pyNext (.ref it)) Q E s := by
  obtain ⟨o, ho, hc, hd⟩ := id hit
  obtain ⟨ol, hol, _, nl, hdl⟩ := hl
  have hf := Obj.data_mapFields hd (·.setIfInBounds 0 Value.none)
  refine stop_next (h₁ := s.heap.update it (Obj.mapFields (·.setIfInBounds 0 Value.none))) hh hit.typeIs slot_listiter_next entry_listiter_next (args_listiter_next _) ⟨fun b o hb e => (Heap.get?_update_other _ _ (Ne.symm hb)).trans e, _, Heap.get?_update_self _ ho (Obj.isFreed_of_fields hf)⟩ (fun {P E} h => ?_) hQ
  show wpAny _ _ (field (.ref it) 0 >>= _) _ _ s
  refine wpAny_bind (wpAny_field ho hd (x := .ref l) rfl ?_)
  show wpAny _ _ (if (Value.ref l == Value.none) = true then _ else _) _ _ s
  rw [if_neg (show ¬ ((Value.ref l == Value.none) = true) from Bool.false_ne_true)]
  show wpAny _ _ (field (.ref it) 1 >>= _) _ _ s
  refine wpAny_bind (wpAny_field ho hd (x := .int i 0) rfl ?_)
  show wpAny _ _ (seqItems? (.ref l) >>= _) _ _ s
  refine wpAny_bind (wpAny_seqItems hol hdl ?_)
  simp only [Int.toNat_natCast, hx]
  exact wpAny_bind (wpAny_rule (wpAny_bind (wpAny_setField ho hd (by simp) h)))
theorem next_range_end {it : Addr} {x left step : Int} {Q : Option Value → Shared → Prop} (hh : A.handled = none) (hit : IsRangeIter s.heap it x left step) (hleft : left ≤ 0)
    (hQ : ∀ h', Ended it s.heap h' → Q none (uh s h')) : wpAny (model prog w) A (pyNext (.ref it)) Q E s := by
  refine stop_next (h₁ := s.heap) hh ⟨_, hit, rfl⟩ PySem.F.slot_range_iterator_next PySem.F.entry_range_iterator_next (PySem.F.args_range_iterator_next_1 _) ⟨fun b o _ e => e, _, hit⟩ (fun {P E} h => ?_) hQ
  show wpAny _ _ (field (.ref it) 0 >>= _) _ _ s
  refine wpAny_bind (wpAny_field hit rfl (x := rawInt x) rfl ?_)
  show wpAny _ _ (field (.ref it) 1 >>= _) _ _ s
  refine wpAny_bind (wpAny_field hit rfl (x := rawInt left) rfl ?_)
  show wpAny _ _ (field (.ref it) 2 >>= _) _ _ s
  refine wpAny_bind (wpAny_field hit rfl (x := rawInt step) rfl ?_)
  show wpAny _ _ (if left ≤ 0 then _ else _) _ _ s
  rw [if_pos hleft]
  exact wpAny_bind (wpAny_rule (wpAny_bind h))
end

section
variable {c : Ct} {m : I.Fm} {σ : I.H} {n : Nat} {pos p f apos p1 p2 : Pos} {pa pb pc pe pu pv : PySem.Expr} {pes : List PySem.Expr} {ra : I.R I.V} {x y : String}
variable {l : List (Str × Value)} {news : List (Addr × Obj)} {s : Shared} {ρ : List Addr} {v u : I.V} {cv cu : Value}
variable {Q : Flow → Shared → Prop} {E : Value → Shared → Prop}
open I

theorem iter_cases {G : V → H → Prop} {σ' : H} (h1 : ∀ i xs, σ[i]? = some (.list xs) → G (.obj i) (σ ++ [.iter i 0])) (h2 : ∀ i z, σ[i]? = some (.rng z) → (0 ≤ z ∧ z ≤ 100000) → G (.obj i) (σ ++ [.riter 0 z])) (v : V) (e : iter1 v σ = some σ') : G v σ' := by
  cases v with
  | obj i =>
    unfold iter1 at e
    dsimp only at e
    cases q : σ[i]? with
    | none => rw [q] at e; exact nos e
    | some o =>
      rw [q] at e
      cases o with
      | list xs => exact Option.some.inj e ▸ h1 i xs q
      | rng z =>
        by_cases h : 0 ≤ z ∧ z ≤ 100000
        · exact Option.some.inj ((if_pos h).symm.trans e) ▸ h2 i z q h
        · exact nos ((if_neg h).symm.trans e)
      | _ => exact nos e
  | _ => exact nos e
/-- an iterator made -/
theorem iter_ok {σ' : H} {Q : Value → Shared → Prop} (st : St c m σ s.heap l news) (hv : VR (adr news) v cv) (e : iter1 v σ = some σ')
    (k : ∀ h' news' it, St c m σ' h' l news' → adr news <+: adr news' → (adr news')[σ.length]? = some it → σ'.length = σ.length + 1 → it = s.heap.objs.size → h'.objs.size = s.heap.objs.size + 1 → Q (.ref it) (uh s h')) : wpAny (model p0 c.w) c.A' (pyIter cv) Q E s :=
  iter_cases (G := fun v σ' => VR (adr news) v cv → (∀ h' news' it, St c m σ' h' l news' → adr news <+: adr news' → (adr news')[σ.length]? = some it → σ'.length = σ.length + 1 → it = s.heap.objs.size → h'.objs.size = s.heap.objs.size + 1 → Q (.ref it) (uh s h')) → _)
    (fun i xs q hv k => st.listR hv q fun a cs n' _ g2 g4 _ _ => wpAny_pyIter_list (isL g4) (k _ _ _ (st.add (Grow.push _ _) rfl (Heap.get?_push_size _ rfl) (.iter g2 rfl rfl)) pre_add (new_at st.rel) List.length_append rfl (Heap.size_push ..)))
    (fun i z q h hv k => st.rngR hv q fun a t u v g4 => wpAny_pyIter_range g4 (small_one (by lia) (by lia) (by lia) (by lia)) (by
      rw [(rng_size h.1).trans (Int.toNat_of_nonneg h.1)]
      exact k _ _ _ (st.add (Grow.push _ _) rfl (Heap.get?_push_size _ rfl) .riter) pre_add (new_at st.rel) List.length_append rfl (Heap.size_push ..))) v e hv k
theorem Cx.end_ {w : World} {mean : ExcName → Option Value} {mg mb : Str → Option Value} {A : Around} {base : Heap} {outer : List Env} {g h h' : Heap} {L it : Addr} {i : Nat} {ob ob' : Obj} (c : Cx w mean mg mb A base outer g L h l news) (g1 : news[i]? = some (it, ob)) (k1 : ∀ b o, b ≠ it → h.get? b = some o → h'.get? b = some o) (k2 : h'.get? it = some ob') : Cx w mean mg mb A base outer g L h' l (news.set i (it, ob')) := by
  have z := c.N _ (List.mem_of_getElem? g1)
  obtain ⟨oL, es, ep, hL, hLr⟩ := c.F.ns
  refine ⟨c.B, c.X, c.T, c.hh, ⟨⟨oL, es, ep, k1 _ _ (fun q => z.2.1 q.symm) hL, hLr⟩, fun b o e => k1 b o (fun q => nos (z.2.2.symm.trans (q ▸ e))) (c.F.keep b o e), c.F.above⟩, ?_, (nodup_set (o' := ob') g1) ▸ c.nd⟩
  obtain ⟨pr, post, e1, e2, h1, h2⟩ := (upd_of (o' := ob') c.nd g1).split
  have N := c.N
  rw [e1] at N
  rw [e2]
  intro p hp
  rcases List.mem_append.mp hp with hp | hp
  · exact ⟨k1 _ _ (h1 p hp) (N p (List.mem_append_left _ hp)).1, (N p (List.mem_append_left _ hp)).2⟩
  · rcases List.mem_cons.mp hp with hp | hp
    · exact hp ▸ ⟨k2, z.2⟩
    · exact ⟨k1 _ _ (h2 p hp) (N p (List.mem_append_right _ (List.mem_cons_of_mem _ hp))).1, (N p (List.mem_append_right _ (List.mem_cons_of_mem _ hp))).2⟩
/-- its end -/
theorem St.end_ {i : Nat} {it : Addr} {ob ob' : Obj} {h h' : Heap} (st : St c m σ h l news) (g1 : news[i]? = some (it, ob)) (k1 : ∀ b o, b ≠ it → h.get? b = some o → h'.get? b = some o) (k2 : h'.get? it = some ob') : St c m (σ.set i .gone) h' l (news.set i (it, ob')) :=
  have z := st.cx.N _ (List.mem_of_getElem? g1)
  ⟨st.cx.end_ g1 k1 k2, st.rel.set g1 .gone, fun y v q => by rw [adr_set g1]; exact st.lr y v q, fun y j z q => by rw [adr_set g1]; exact st.cr y j z q, fun q => by
    obtain ⟨⟨oL, es, ep, hL, r⟩, h2, h3, h4⟩ := st.ns q
    rw [adr_set g1]
    exact ⟨⟨oL, es, ep, k1 _ _ (fun q => h2 (by rw [q]; exact List.mem_map_of_mem (f := (·.1)) (List.mem_of_getElem? g1))) hL, r⟩, h2, h3, h4⟩⟩
theorem somes {α β : Type} {G : α → β → Prop} {a o : α} {b p : β} (e : some (a, b) = some (o, p)) (h : G a b) : G o p := by cases e; exact h
theorem next_cases {i : Nat} {o : Option V} {σ' : H} {G : Option V → H → Prop} (h0 : ∀ j kk ys, σ[i]? = some (.iter j kk) → σ[j]? = some (.list ys) → ys[kk]? = none → G none (σ.set i .gone)) (h1 : ∀ j kk ys y, σ[i]? = some (.iter j kk) → σ[j]? = some (.list ys) → ys[kk]? = some y → G (some y) (σ.set i (.iter j (kk + 1))))
    (h2 : ∀ x left, σ[i]? = some (.riter x left) → 0 < left → G (some (.int x)) (σ.set i (.riter (x + 1) (left - 1)))) (h3 : ∀ x left, σ[i]? = some (.riter x left) → left ≤ 0 → G none (σ.set i .gone)) (e : next1 i σ = some (o, σ')) : G o σ' := by
  unfold next1 at e
  cases q : σ[i]? with
  | none => rw [q] at e; exact nos e
  | some ob =>
    rw [q] at e
    cases ob with
    | iter j kk =>
      dsimp only at e
      cases q2 : σ[j]? with
      | none => rw [q2] at e; exact nos e
      | some ob =>
        rw [q2] at e
        cases ob with
        | list ys =>
          dsimp only at e
          cases q3 : ys[kk]? with
          | none => rw [q3] at e; exact somes e (h0 _ _ _ q q2 q3)
          | some y => rw [q3] at e; exact somes e (h1 _ _ _ _ q q2 q3)
        | _ => exact nos e
    | riter x left =>
      by_cases h : 0 < left
      · exact somes ((if_pos h).symm.trans e) (h2 _ _ q h)
      · exact somes ((if_neg h).symm.trans e) (h3 _ _ q (Int.not_lt.mp h))
    | _ => exact nos e
theorem St.iterE {G : Prop} {i j kk : Nat} {it : Addr} {ys : List V} {h : Heap} (st : St c m σ h l news) (hi : (adr news)[i]? = some it) (q : σ[i]? = some (.iter j kk)) (q2 : σ[j]? = some (.list ys)) (k : ∀ b cs ob, news[i]? = some (it, ob) → (adr news)[j]? = some b → h.IsListIter it b kk → h.IsList b cs.toArray → VRs (adr news) ys cs → G) : G :=
  st.atE q fun a ob g1 g2 g3 g4 => st.listE q2 fun b cs n _ f2 f4 hcs _ => by
    obtain rfl := Option.some.inj (g2.symm.trans hi)
    cases g3 with
    | iter hj hc hd => exact k b cs ob g1 f2 ⟨_, g4, hc, Option.some.inj (hj.symm.trans f2) ▸ hd⟩ (isL f4) hcs
theorem St.riterE {G : Prop} {i : Nat} {x left : Int} {it : Addr} {h : Heap} (st : St c m σ h l news) (hi : (adr news)[i]? = some it) (q : σ[i]? = some (.riter x left)) (k : ∀ ob, news[i]? = some (it, ob) → IsRangeIter h it x left 1 → G) : G :=
  st.atE q fun a ob g1 g2 g3 g4 => by
    obtain rfl := Option.some.inj (g2.symm.trans hi)
    cases g3 with
    | riter => exact k _ g1 g4
/-- its next -/
theorem next_ok {i : Nat} {it : Addr} {o : Option V} {σ' : H} {Q : Option Value → Shared → Prop} (st : St c m σ s.heap l news) (hi : (adr news)[i]? = some it) (e : next1 i σ = some (o, σ'))
    (k0 : o = none → ∀ h' tk news', St c m σ' h' l news' → adr news' = adr news → Q none (up s h' tk)) (k1 : ∀ y, o = some y → ∀ h' tk news' cy, St c m σ' h' l news' → adr news' = adr news → VR (adr news) y cy → Q (some cy) (up s h' tk)) : wpAny (model p0 c.w) c.A' (pyNext (.ref it)) Q E s :=
  next_cases (G := fun o σ' => (o = none → ∀ h' tk news', St c m σ' h' l news' → adr news' = adr news → Q none (up s h' tk)) → (∀ y, o = some y → ∀ h' tk news' cy, St c m σ' h' l news' → adr news' = adr news → VR (adr news) y cy → Q (some cy) (up s h' tk)) → _)
    (fun j kk ys q q2 q3 k0 _ => st.iterE hi q q2 fun b cs ob g1 _ hit hl hcs => next_list_end st.bs.hh hit hl (List.getElem?_toArray.trans (List.getElem?_eq_none_iff.mpr (hcs.len ▸ List.getElem?_eq_none_iff.mp q3))) fun h' ⟨j1, ob', j2⟩ => k0 rfl h' s.toks _ (st.end_ g1 j1 j2) (adr_set g1))
    (fun j kk ys y q q2 q3 _ k1 => st.iterE hi q q2 fun b cs ob g1 hj hit hl hcs => (hcs.get q3).elim fun cy hc => wpAny_pyNext_list_item hit hl (List.getElem?_toArray.trans hc.1) fun h' ⟨o', ho', hc', hd'⟩ hs' => k1 _ rfl h' s.toks _ _ (st.put g1 hs' ho' (.iter hj hc' hd')) (adr_set g1) hc.2)
    (fun x left q h _ k1 => st.riterE hi q fun ob g1 hit => wpAny_pyNext_range_item (hit := hit) h fun h' hit' hs' => k1 _ rfl h' (s.toks + 1) _ _ (st.put g1 hs' hit' .riter) (adr_set g1) .int)
    (fun x left q h k0 _ => st.riterE hi q fun ob g1 hit => next_range_end st.bs.hh hit h fun h' ⟨j1, ob', j2⟩ => k0 rfl h' s.toks _ (st.end_ g1 j1 j2) (adr_set g1)) e k0 k1

variable {fns : Nat → Option I.FD} {mets : Nat → String → Option Nat} {inits : Nat → Option Nat}
theorem ContS.noted {r : R (Fl × Fm)} (hfe : c.env = c.fenv) (B : Below c.A c.base c.outer c.g) (k : ContS c ρ s r Q E) : ContS c ρ s r Q (notedBy (model p0 c.w) c.A' c.env (fun e s' => cameBackBy (model p0 c.w) c.A' c.env E e s')) := by
  cases r with
  | bad => exact k
  | ok v σ' => exact k
  | exc sy σ' => exact fun s' e l' x => x.noted hfe B k
/-- where a loop stands: what its turns still owe -/
inductive LI (c : Ct) (n : Nat) (s : Shared) (f : Nat → Fm → H → R (Fl × Fm)) (it : Nat) (ad : Addr) (Q : Flow → Shared → Prop) (E : Value → Shared → Prop) (k' : Nat) : Shared → Prop
  | mk {m : Fm} {σ : H} {l : List (Str × Value)} {news : List (Addr × Obj)} {h : Heap} {tk : Nat} (hk : k' ≤ n) (st : St c m σ h l news) (hi : (adr news)[it]? = some ad) (kk : ContS c (adr news) (up s h tk) (f k' m σ) Q E) : LI c n s f it ad Q E k' (up s h tk)
/-- where a while stands -/
inductive WI (c : Ct) (n : Nat) (s : Shared) (f : Nat → Fm → H → R (Fl × Fm)) (Q : Flow → Shared → Prop) (E : Value → Shared → Prop) (k' : Nat) : Shared → Prop
  | mk {m : Fm} {σ : H} {l : List (Str × Value)} {news : List (Addr × Obj)} {h : Heap} {tk : Nat} (hk : k' ≤ n) (st : St c m σ h l news) (kk : ContS c (adr news) (up s h tk) (f k' m σ) Q E) : WI c n s f Q E k' (up s h tk)
@[elab_as_elim] theorem fl_cases {G : Flow → Prop} {f : Fm → H → R (Fl × Fm)} {a : Fl × Fm} {cfl : Flow} {h : Heap} {tk : Nat} (x : FlR (adr news) a.1 cfl) (st : St c a.2 σ h l news) (k : ContS c (adr news) (up s h tk) (match a.1 with | .next => f a.2 σ | .ret v => .ok (.ret v, a.2) σ) Q E)
    (h1 : ContS c (adr news) (up s h tk) (f a.2 σ) Q E → G .next) (h2 : ∀ cv, Q (.ret cv) (up s h tk) → G (.ret cv)) : G cfl := by
  obtain ⟨fl, m'⟩ := a
  cases x with
  | next => exact h1 k
  | ret hv => exact h2 _ (k h tk news l _ st pre (.ret hv))
theorem js_whl {t : ME} {b : List MS} {body : List Stmt} (hfe : c.env = c.fenv) (ht : ∀ k < n, ∀ m σ, JT c m pe σ (evalI fns mets inits k m t σ)) (hb : ∀ k < n, ∀ m σ, JSs c m body σ (execsI fns mets inits k m b σ)) :
    JS c m (.While pe body [] pos) σ (whlI fns mets inits n m t b σ) := fun s l news Q E st k => by
  refine wpAny_While (codeAny_whileLoop (WI c n s (fun k m σ => whlI fns mets inits k m t b σ) Q (notedBy (model p0 c.w) c.A' c.env (fun e s' => cameBackBy (model p0 c.w) c.A' c.env E e s'))) ?_ n (WI.mk (h := s.heap) (tk := s.toks) (Nat.le_refl _) st (k.noted hfe st.cx.B)))
  generalize notedBy (model p0 c.w) c.A' c.env (fun e s' => cameBackBy (model p0 c.w) c.A' c.env E e s') = E'
  clear k st
  intro k' s' F
  cases F with
  | @mk m σ l news h tk hk st kk =>
    cases k' with
    | zero => exact False.elim kk
    | succ k' =>
      exact ht k' hk m σ (up s h tk) l news _ _ st ((contS_t kk).bindE fun v σ₁ _ h₁ t₁ n₁ cv st₁ p₁ v₁ k₁ => v₁ ▸ (by
        cases v with
        | false => exact wpAny_execs_nil (M := model p0 c.w) (k₁ h₁ t₁ n₁ l _ st₁ pre .next)
        | true => exact hb k' hk m σ₁ (up s h₁ t₁) l n₁ _ _ st₁ (k₁.bindS fun a σ₂ _ h₂ t₂ n₂ l₂ cfl st₂ p₂ fl₂ k₂ => fl_cases (f := fun m σ => whlI fns mets inits k' m t b σ) fl₂ st₂ k₂ (fun k => ⟨k', Nat.lt_succ_self _, .mk (Nat.le_of_lt hk) st₂ k⟩) fun cv k => k)))
inductive TgtOk (c : Ct) : List String → PySem.Expr → Prop
  | one {x : String} {p : Pos} : c.cs.names.lookup (nm x) = some .local → TgtOk c [x] (.Name (nm x) p)
  | none {xs : List String} {e : PySem.Expr} : (∀ x, xs ≠ [x]) → TgtOk c xs e
theorem f_none' {xs : List String} {b : List MS} {it k : Nat} {m : Fm} {σ σ' : H} (h : next1 it σ = some (none, σ')) : forI fns mets inits (k + 1) m xs it b σ = .ok (.next, m) σ' := by rw [forI, h]
theorem f_some' {x : String} {b : List MS} {it k : Nat} {m : Fm} {σ σ' : H} {v : V} (h : next1 it σ = some (some v, σ')) : forI fns mets inits (k + 1) m [x] it b σ = (execsI fns mets inits k ⟨(x, v) :: m.l, m.c⟩ b σ').bind fun r σ => match r.1 with | .next => forI fns mets inits k r.2 [x] it b σ | .ret v => .ok (.ret v, r.2) σ := by rw [forI, h] <;> rfl
theorem forI_one {xs : List String} {b : List MS} {it k : Nat} {m : Fm} {σ σ' : H} {y : V} (q : next1 it σ = some (some y, σ')) (hx : ∀ x, xs ≠ [x]) : forI fns mets inits (k + 1) m xs it b σ = .bad := by
  rw [forI, q]
  match xs, hx with
  | [], _ => rfl
  | [x], hx => exact absurd rfl (hx x)
  | _ :: _ :: _, _ => rfl
theorem js_for {xs : List String} {b : List MS} {body : List Stmt} {tg : PySem.Expr} (hfe : c.env = c.fenv) (hfl : c.fl = none) (ht : TgtOk c xs tg) (hs : ∀ x, foldedSetIterable pe c.env x = pure x) (ha : JE c m pe σ ra) (hb : ∀ k < n, ∀ m σ, JSs c m body σ (execsI fns mets inits k m b σ)) :
    JS c m (.For tg pe body [] pos) σ (ra.bind fun v σ => bad? (iter1 v σ) fun σ' => forI fns mets inits n m xs σ.length b σ') := fun s l news Q E st k => by
  refine wpAny_For (ha s l news _ _ st (k.bindE fun v σ₁ _ h₁ t₁ n₁ cv st₁ p₁ v₁ k₁ => ?_)) hs
  obtain ⟨σ₂, e, k₂⟩ := contS_m k₁
  refine iter_ok (s := (up s h₁ t₁)) st₁ v₁ e fun h₂ n₂ it st₂ p₂ hit _ _ _ => ?_
  refine codeAny_forLoop_any (LI c n s (fun k m σ => forI fns mets inits k m xs σ₁.length b σ) σ₁.length it Q (notedBy (model p0 c.w) c.A' c.env (fun e s' => cameBackBy (model p0 c.w) c.A' c.env E e s'))) ?_ n (LI.mk (h := h₂) (tk := t₁) (Nat.le_refl _) st₂ hit ((k₂.moved p₂).noted hfe st.cx.B))
  generalize notedBy (model p0 c.w) c.A' c.env (fun e s' => cameBackBy (model p0 c.w) c.A' c.env E e s') = E'
  generalize σ₁.length = ix
  clear k₁ k₂ k e st₁ st₂ v₁ hit p₁ p₂ ha st
  intro k' s' F
  cases F with
  | @mk m σ l news h tk hk st hit kk =>
    cases k' with
    | zero => exact False.elim kk
    | succ k' =>
      cases q : next1 ix σ with
      | none => rw [forI, q] at kk; exact kk.elim
      | some oσ =>
        refine next_ok (o := oσ.1) (σ' := oσ.2) (s := (up s h tk)) st hit q (fun eo h₄ t₄ n₄ st₄ ea => ?_) (fun y eo h₄ t₄ n₄ cy st₄ ea hy => ?_)
        · rw [f_none' (q.trans (by rw [← eo]))] at kk
          exact wpAny_execs_nil (M := model p0 c.w) (kk h₄ t₄ n₄ l _ st₄ (by rw [ea]; exact pre) .next)
        · have q' : next1 ix σ = some (some y, oσ.2) := q.trans (by rw [← eo])
          cases ht with
          | none hx => rw [forI_one q' hx] at kk; exact kk.elim
          | @one x p hx =>
            rw [f_some' q', ← ea] at kk
            rw [← ea] at hy hit
            exact wpAny_pure (M := model p0 c.w) (a := ()) (assign_Name (st₄.store (s := (up s h₄ t₄)) hfl hy hx fun h₅ t₅ st₅ => hb k' hk _ oσ.2 (up s h₅ t₅) _ n₄ _ _ st₅ ((kk.moved pre).bindS fun a σ₆ _ h₆ t₆ n₆ l₆ cfl st₆ p₆ fl₆ k₆ =>
              fl_cases (f := fun m σ => forI fns mets inits k' m [x] ix b σ) fl₆ st₆ k₆ (fun k => ⟨k', Nat.lt_succ_self _, .mk (Nat.le_of_lt hk) st₆ (pre_get p₆ hit) k⟩) fun cv k => k)))
end
end Mine

namespace Mine
open PySem PySem.W PySem.Calls PyProof.Rows

noncomputable def relabelS (scope cs : Scope) : Scope :=
  { scope with names := scope.names.map fun (n, k) => if (k == .free && cs.kind == .function && cs.names.lookup n == some .cell) then (n, .cell) else (n, k) }
theorem relabel_eq {c : Ct} (scope : Scope) : relabel scope c.env = relabelS scope c.cs := by
  unfold relabel relabelS
  rw [← c.hs]
  rfl
/-- the names that a block takes from outside -/
noncomputable def freeOf (scope : Scope) : List Str := (scope.names.filter fun x => x.2 == .free).map (·.1)
theorem closure_ok {env : Env} : ∀ (names : List (Str × NameKind)) (cs : List (Str × Addr)), (∀ n ∈ (names.filter fun x => x.2 == .free).map (·.1), ∃ a, env.cells.lookup n = some a) →
    ∃ out, (forIn names cs fun (x : Str × NameKind) r => (do if x.2 == .free then pure (ForInStep.yield ((x.1, ← cellOf env x.1) :: r)) else pure (ForInStep.yield r) : Sem (ForInStep (List (Str × Addr))))) = pure out ∧
      (∀ n, (n ∈ (names.filter fun x => x.2 == .free).map (·.1) ∨ (∃ a, env.cells.lookup n = some a ∧ List.lookup n cs = some a)) → List.lookup n out = env.cells.lookup n)
  | [], cs, _ => ⟨cs, rfl, fun n h => by
      rcases h with h | ⟨a, h1, h2⟩
      · cases h
      · rw [h1, h2]⟩
  | (x, k) :: r, cs, hf => by
    rw [List.forIn_cons]
    by_cases q : (k == .free) = true
    · simp only [q, if_true]
      have hx : x ∈ (((x, k) :: r).filter fun x => x.2 == .free).map (·.1) := by
        rw [List.filter_cons]; simp only [q, if_true, List.map_cons]; exact List.Mem.head _
      obtain ⟨a, ha⟩ := hf x hx
      have e : cellOf env x = pure a := by unfold cellOf; rw [ha]
      rw [e]
      obtain ⟨out, h1, h2⟩ := closure_ok r ((x, a) :: cs) fun n hn => hf n (by rw [List.filter_cons]; simp only [q, if_true, List.map_cons]; exact List.Mem.tail _ hn)
      refine ⟨out, h1, fun n hn => ?_⟩
      rcases hn with hn | ⟨b, hb1, hb2⟩
      · rw [List.filter_cons] at hn
        simp only [q, if_true, List.map_cons] at hn
        rcases List.mem_cons.mp hn with rfl | hn
        · exact h2 n (.inr ⟨a, ha, List.lookup_cons_self⟩)
        · exact h2 n (.inl hn)
      · by_cases z : n = x
        · subst z; exact h2 n (.inr ⟨a, ha, List.lookup_cons_self⟩)
        · refine h2 n (.inr ⟨b, hb1, ?_⟩)
          rw [List.lookup_cons, beq_eq_false_iff_ne.mpr z]; exact hb2
    · simp only [q, Bool.false_eq_true, if_false]
      obtain ⟨out, h1, h2⟩ := closure_ok r cs fun n hn => hf n (by rw [List.filter_cons]; simp only [q, Bool.false_eq_true, if_false]; exact hn)
      refine ⟨out, h1, fun n hn => h2 n ?_⟩
      rcases hn with hn | hn
      · rw [List.filter_cons] at hn
        simp only [q, Bool.false_eq_true, if_false] at hn
        exact .inl hn
      · exact .inr hn
theorem closure_for {c : Ct} {scope : Scope} (h : ∀ n ∈ freeOf scope, c.cs.names.lookup n = some .cell) : ∃ clo, closureFor scope c.env = pure clo ∧ ∀ n ∈ freeOf scope, List.lookup n clo = List.lookup n c.cl := by
  obtain ⟨out, h1, h2⟩ := closure_ok (env := c.env) scope.names [] fun n hn => by
    obtain ⟨a, ha⟩ := c.hcl n (h n hn)
    exact ⟨a, by rw [c.hc]; exact ha⟩
  refine ⟨out, ?_, fun n hn => by rw [h2 n (.inl hn), c.hc]⟩
  exact Eq.trans (congrArg (fun z : Sem (List (Str × Addr)) => z >>= fun s => pure s) h1) rfl
theorem lookup_free {scope cs : Scope} {n : Str} : ∀ {names : List (Str × NameKind)}, (names.map fun (n, k) => if (k == .free && cs.kind == .function && cs.names.lookup n == some .cell) then (n, NameKind.cell) else (n, k)).lookup n = some .cell → (∀ y ∈ names, y.2 ≠ .cell) →
    n ∈ (names.filter fun x => x.2 == .free).map (·.1)
  | [], h, _ => by cases h
  | (x, k) :: r, h, hc => by
    rw [List.map_cons] at h
    dsimp only at h
    rw [List.filter_cons]
    by_cases q : (k == .free && cs.kind == .function && cs.names.lookup x == some .cell) = true
    · have qk : (k == NameKind.free) = true := by
        simp only [Bool.and_eq_true] at q; exact q.1.1
      simp only [qk, if_true, List.map_cons]
      by_cases z : n = x
      · subst z; exact List.Mem.head _
      · rw [if_pos q, List.lookup_cons, beq_eq_false_iff_ne.mpr z] at h
        exact List.Mem.tail _ (lookup_free (scope := scope) h fun y hy => hc y (List.mem_cons_of_mem _ hy))
    · rw [if_neg q, List.lookup_cons] at h
      have rest : ∀ h', n ∈ (r.filter fun x => x.2 == .free).map (·.1) → n ∈ (if h' = true then (x, k) :: r.filter fun x => x.2 == .free else r.filter fun x => x.2 == .free).map (·.1) := fun h' hm => by
        split
        · exact List.Mem.tail _ hm
        · exact hm
      by_cases z : n = x
      · subst z
        rw [beq_self_eq_true] at h
        cases h
        exact absurd rfl (hc _ (List.mem_cons_self ..))
      · rw [beq_eq_false_iff_ne.mpr z] at h
        exact rest _ (lookup_free (scope := scope) h fun y hy => hc y (List.mem_cons_of_mem _ hy))

/-- a block's place -/
noncomputable def Ct.block (c : Ct) (scope : Scope) (clo : List (Str × Addr)) (C : Addr) (l : List (Str × Value)) (hk : scope.kind = .function) (hcl : ∀ n, (relabelS scope c.cs).names.lookup n = some .cell → ∃ a, List.lookup n clo = some a) : Ct :=
  { c with
    env := compEnvC scope clo C c.env
    fl := some l
    cs := relabelS scope c.cs
    cl := clo
    hs := relabel_eq scope
    hk := hk
    hc := rfl
    hlo := fun h => by cases h
    hcl := hcl }
end Mine

namespace Mine
open PySem PySem.W PySem.Calls PyProof.Rows

section
variable {prog : Program} {w : World} {A : Around} {s : Shared} {R : Result → Shared → Prop}
theorem compLoop_end {elt target iter : PySem.Expr} {ifs : List PySem.Expr} {scope : Scope} {pos : Pos} {it acc : Value} {env : Env}
    (h : wpAny (model prog w) A (pyNext it) (fun r s₁ => r = none ∧ R (.ok .next) s₁) (notedBy (model prog w) A env fun e s' => R (.error e) s') s) : codeAny (model prog w) A (.compLoop (.ListComp elt [⟨target, iter, ifs, 0⟩] scope pos) 0 it acc env) R s := by
  refine codeAny_loop rfl (fun _ s' => s' = s) (fun n s' hI => ?_) 0 rfl
  subst hI
  show wpAny _ A ((compTurn (.ListComp elt [⟨target, iter, ifs, 0⟩] scope pos) 0 it acc env).onRaise (fun x => do noteFrame x env; theTreesLotGoes x)) _ _ s'
  refine wpAny_noted ?_
  rw [compTurn_list]
  refine wpAny_bind (wpAny_standAt (wpAny_bind (wpAny_mono h (fun r s₁ h₁ => ?_) fun _ _ h' => h')))
  obtain ⟨rfl, h₁⟩ := h₁
  exact wpAny_pure h₁
end
section
variable {c : Ct} {m m' : I.Fm} {σ σ₀ : I.H} {n : Nat} {l l' : List (Str × Value)} {news news₀ : List (Addr × Obj)} {s : Shared} {h h' h₀ : Heap} {scope : Scope} {clo : List (Str × Addr)} {C : Addr} {hk : scope.kind = .function} {hcl : ∀ n, (relabelS scope c.cs).names.lookup n = some .cell → ∃ a, List.lookup n clo = some a}
open I
theorem own_none (hfl : c.fl = none) : c.own l = l := by unfold Ct.own; rw [hfl]; rfl
theorem St.toBlock (hfl : c.fl = none) (st : St c m σ h l news) (hC : Loc C h l') (h2 : C ∉ adr news) (h3 : C ≠ c.L) (h4 : c.g.get? C = none) (lr : ∀ x v, m'.l.lookup x = some v → ∃ cv, List.lookup (nm x) l' = some cv ∧ VR (adr news) v cv)
    (hclo : ∀ n ∈ freeOf scope, List.lookup n clo = List.lookup n c.cl) (hfr : ∀ n ∈ freeOf scope, c.cs.names.lookup n = some .cell) (hnc : ∀ y ∈ scope.names, y.2 ≠ .cell) (hc : m'.c = m.c) : St (c.block scope clo C l hk hcl) m' σ h l' news := by
  have cx := st.cx
  rw [own_none hfl] at cx
  refine ⟨cx, st.rel, lr, fun x i hx e => ?_, fun _ => ⟨hC, h2, h3, h4⟩⟩
  have hm := lookup_free (scope := scope) (cs := c.cs) (n := nm x) hx hnc
  obtain ⟨a, a1, a2⟩ := st.cr x i (hfr _ hm) (by rw [← hc]; exact e)
  exact ⟨a, by show List.lookup (nm x) clo = some a; rw [hclo _ hm]; exact a1, a2⟩
theorem St.ofBlock (hfl : c.fl = none) (st₀ : St c m σ₀ h₀ l news₀) (p : adr news₀ <+: adr news) (st : St (c.block scope clo C l hk hcl) m' σ h l' news) : St c m σ h l news := by
  have cx : Cx c.w c.mean c.mg c.mb c.A c.base c.outer c.g c.L h l news := st.cx
  exact ⟨by rw [own_none hfl]; exact cx, st.rel, fun x v e => by obtain ⟨cv, h1, h2⟩ := st₀.lr x v e; exact ⟨cv, h1, h2.mono p⟩, fun x i z e => by obtain ⟨a, h1, h2⟩ := st₀.cr x i z e; exact ⟨a, h1, pre_get p h2⟩, fun q => by rw [hfl] at q; cases q⟩
theorem Cx.beside {w : World} {mean : ExcName → Option Value} {mg mb : Str → Option Value} {A : Around} {base g : Heap} {outer : List Env} {L : Addr} (x : Cx w mean mg mb A base outer g L h l news) (hs : Heap.SameBut C h h') (h2 : C ∉ adr news) (h3 : C ≠ L) (h4 : g.get? C = none) : Cx w mean mg mb A base outer g L h' l news :=
  ⟨x.B, x.X, x.T, x.hh, x.F.change hs h3 h4, fun p hp => ⟨(hs.2 _ fun q => h2 (by rw [← q]; exact List.mem_map_of_mem hp)).trans (x.N p hp).1, (x.N p hp).2⟩, x.nd⟩
theorem look_if {x : Str} {cv : Value} : (fun y => List.lookup y ((x, cv) :: l)) = fun y => if y = x then some cv else List.lookup y l := by
  funext y
  rw [List.lookup_cons]
  by_cases q : y = x
  · rw [if_pos q, show (y == x) = true from beq_iff_eq.mpr q]
  · rw [if_neg q, show (y == x) = false from beq_eq_false_iff_ne.mpr q]
theorem St.storeB {x : String} {v : V} {cv : Value} (st : St (c.block scope clo C l hk hcl) m' σ s.heap l' news) (hv : VR (adr news) v cv) (hx : (relabelS scope c.cs).names.lookup (nm x) = some .local) {Q : Unit → Shared → Prop} {E : Value → Shared → Prop}
    (k : ∀ h' tk, St (c.block scope clo C l hk hcl) ⟨[(x, v)], m'.c⟩ σ h' ((nm x, cv) :: l') news → Q () (up s h' tk)) : wpAny (model p0 c.w) c.A' (storeName (c.block scope clo C l hk hcl).env (nm x) cv) Q E s :=
  have q := st.ns rfl
  wpAny_storeName_local (by rw [Ct.kindOf]; exact hx) q.1 (fun h' hn hs => k h' _ ⟨st.cx.beside hs q.2.1 q.2.2.1 q.2.2.2, st.rel, lr_cons (ml := []) (fun _ _ e => nos e) hv, st.cr, fun _ => ⟨by show h'.Ns _ _; rw [look_if]; exact hn, q.2⟩⟩) (by rw [Ct.kind]; rfl)
variable {fns : Nat → Option I.FD} {mets : Nat → String → Option Nat} {inits : Nat → Option Nat}
theorem app1_cases {i : Nat} {v : V} {σ' : H} {G : H → Prop} (h : ∀ xs, σ[i]? = some (.list xs) → xs.length < 100000 → G (σ.set i (.list (xs ++ [v])))) (e : app1 i v σ = some σ') : G σ' := by
  unfold app1 at e
  cases q : σ[i]? with
  | none => rw [q] at e; exact nos e
  | some o =>
    rw [q] at e
    cases o with
    | list xs =>
      by_cases z : xs.length < 100000
      · exact Option.some.inj ((if_pos z).symm.trans e) ▸ h xs q z
      · exact nos ((if_neg z).symm.trans e)
    | _ => exact nos e
theorem app_at {i : Nat} {v : V} {cv : Value} {σ' : H} {D : Addr} {Q : Value → Shared → Prop} {E : Value → Shared → Prop} (st : St c m σ s.heap l news) (e : app1 i v σ = some σ') (hD : (adr news)[i]? = some D) (hv : VR (adr news) v cv)
    (k : ∀ h' tk news', St c m σ' h' l news' → adr news' = adr news → Q .none (up s h' tk)) : wpAny (model p0 c.w) c.A' (call (.builtin "list.append") [.ref D, cv]) Q E s :=
  app1_cases (G := fun σ' => (∀ h' tk news', St c m σ' h' l news' → adr news' = adr news → Q .none (up s h' tk)) → _) (fun xs q hz k => append_ok st q hz (.obj hD) hv fun h' tk n' cv' st' p' v' => v'.noneE (k h' tk n' st' (by
    have l1 := RelP.len st'.rel
    rw [List.length_set, RelP.len st.rel] at l1
    exact (p'.eq_of_length (by rw [List.length_map, List.length_map]; exact l1)).symm))) e k
/-- what a comprehension assigns to -/
inductive TgtC (S : Scope) : List String → PySem.Expr → Prop
  | one {x : String} {p : Pos} : S.names.lookup (nm x) = some .local → TgtC S [x] (.Name (nm x) p)
  | none {xs : List String} {e : PySem.Expr} : (∀ x, xs ≠ [x]) → TgtC S xs e
/-- where a comprehension's loop stands -/
inductive CI (b : Ct) (n : Nat) (s : Shared) (f : Nat → H → R Unit) (mc : List (String × Nat)) (itx accx : Nat) (it D : Addr) (ρ : List Addr) (P : Shared → Prop) (k' : Nat) : Shared → Prop
  | mk {m' : Fm} {σ₁ σ' : H} {l₁ : List (Str × Value)} {n₁ : List (Addr × Obj)} {h : Heap} {tk : Nat} (hk : k' ≤ n) (hm : m'.c = mc) (st : St b m' σ₁ h l₁ n₁) (hi : (adr n₁)[itx]? = some it) (ha : (adr n₁)[accx]? = some D) (p : ρ <+: adr n₁) (e : f k' σ₁ = .ok () σ')
    (kk : ∀ h' tk news' l' m', St b m' σ' h' l' news' → ρ <+: adr news' → P (up s h' tk)) : CI b n s f mc itx accx it D ρ P k' (up s h tk)
/-- an item taken up -/
noncomputable def taken (k : Nat) (m : Fm) (e : ME) (x : String) (cond : Option ME) (itx accx : Nat) (y : V) (σ : H) : R Unit := match evalI fns mets inits k ⟨[(x, y)], m.c⟩ e σ with
  | .ok v σ => bad? (app1 accx v σ) fun σ => compI fns mets inits k m e [x] cond itx accx σ
  | _ => .bad
theorem r_ok {G : Prop} {r : R V} {f : V → H → R Unit} {σ' : H} (h : (match (generalizing := false) r with | .ok v σ => f v σ | _ => .bad) = .ok () σ') (k : ∀ v σ, r = .ok v σ → f v σ = .ok () σ' → G) : G := by
  cases r with
  | ok v σ => exact k v σ rfl h
  | _ => cases h
theorem q_ok {α : Type} {G : Prop} {o : Option α} {f : α → R Unit} {σ' : H} (h : bad? o f = .ok () σ') (k : ∀ v, o = some v → f v = .ok () σ' → G) : G := by
  cases o with
  | some v => exact k v rfl h
  | none => cases h
/-- a turn of a comprehension's loop -/
noncomputable def turnI (k : Nat) (m : Fm) (e : ME) (x : String) (cond : Option ME) (itx accx : Nat) (o : Option V) (σ : H) : R Unit := match o with
  | none => .ok () σ
  | some y => match cond with
    | none => taken (fns := fns) (mets := mets) (inits := inits) k m e x none itx accx y σ
    | some t => match evalI fns mets inits k ⟨[(x, y)], m.c⟩ t σ with
      | .ok v σ => bad? (truth v) fun b => if b then taken (fns := fns) (mets := mets) (inits := inits) k m e x (some t) itx accx y σ else compI fns mets inits k m e [x] (some t) itx accx σ
      | _ => .bad
noncomputable def turnX (k : Nat) (m : Fm) (e : ME) (xs : List String) (cond : Option ME) (itx accx : Nat) (o : Option V) (σ : H) : R Unit := match o with
  | none => .ok () σ
  | some y => match xs with
    | [x] => turnI (fns := fns) (mets := mets) (inits := inits) k m e x cond itx accx (some y) σ
    | _ => .bad
theorem compI_turnX {e : ME} {xs : List String} {cond : Option ME} {itx accx k : Nat} {m : Fm} {σ : H} : compI fns mets inits (k + 1) m e xs cond itx accx σ = bad? (next1 itx σ) fun p => turnX (fns := fns) (mets := mets) (inits := inits) k m e xs cond itx accx p.1 p.2 := by
  rw [compI]
  cases next1 itx σ with
  | none => rfl
  | some p => cases p with
    | mk o σ => cases o with
      | none => rfl
      | some y => cases xs with
        | nil => rfl
        | cons x r => cases r with
          | nil => cases cond <;> rfl
          | cons => rfl
theorem compI_turn {e : ME} {x : String} {cond : Option ME} {itx accx k : Nat} {m : Fm} {σ : H} : compI fns mets inits (k + 1) m e [x] cond itx accx σ = bad? (next1 itx σ) fun p => turnI (fns := fns) (mets := mets) (inits := inits) k m e x cond itx accx p.1 p.2 :=
  compI_turnX.trans (congrArg _ (funext fun p => by cases p with | mk o σ => cases o <;> rfl))
theorem turnX_no {e : ME} {xs : List String} {cond : Option ME} {itx accx k : Nat} {m : Fm} {o : Option V} {σ σ' : H} (hx : ∀ x, xs ≠ [x]) (h : turnX (fns := fns) (mets := mets) (inits := inits) k m e xs cond itx accx o σ = .ok () σ') : (o, σ) = (none, σ') := by
  cases o with
  | none => cases h; rfl
  | some y => cases xs with
    | nil => cases h
    | cons x r => cases r with
      | nil => exact absurd rfl (hx x)
      | cons => cases h
theorem comp_not {G : Prop} {e : ME} {xs : List String} {cond : Option ME} {itx accx k : Nat} {m : Fm} {σ σ' : H} (h : compI fns mets inits k m e xs cond itx accx σ = .ok () σ') (hx : ∀ x, xs ≠ [x]) (g : next1 itx σ = some (none, σ') → G) : G := by
  cases k with
  | zero => rw [compI] at h; cases h
  | succ k => exact q_ok (compI_turnX.symm.trans h) fun p q e => g (q.trans (congrArg some (turnX_no hx e)))
theorem tests_ok {b : Ct} {ifs : List PySem.Expr} {e : ME} {x : String} {cond : Option ME} {itx accx : Nat} {k' : Nat} {σ₂ σ' : H} {l₃ : List (Str × Value)} {n₂ : List (Addr × Obj)} {y : V} {Q : Bool → Shared → Prop} {E : Value → Shared → Prop}
    (ht : (cond = none ∧ ifs = []) ∨ ∃ t pt, cond = some t ∧ ifs = [pt] ∧ ∀ k < n, ∀ m σ, JT b m pt σ (evalI fns mets inits k m t σ)) (hk : k' < n) (st : St b ⟨[(x, y)], m.c⟩ σ₂ s.heap l₃ n₂) (h : turnI (fns := fns) (mets := mets) (inits := inits) k' m e x cond itx accx (some y) σ₂ = .ok () σ')
    (h1 : ∀ σ₅ h₅ t₅ n₅, St b ⟨[(x, y)], m.c⟩ σ₅ h₅ l₃ n₅ → adr n₂ <+: adr n₅ → taken (fns := fns) (mets := mets) (inits := inits) k' m e x cond itx accx y σ₅ = .ok () σ' → Q true (up s h₅ t₅))
    (h2 : ∀ σ₅ h₅ t₅ n₅, St b ⟨[(x, y)], m.c⟩ σ₅ h₅ l₃ n₅ → adr n₂ <+: adr n₅ → compI fns mets inits k' m e [x] cond itx accx σ₅ = .ok () σ' → Q false (up s h₅ t₅)) :
    wpAny (model p0 b.w) b.A' (forIn ifs true fun c r => if r = true then do let ok ← isTrue c b.env (eval c b.env); pure (ForInStep.yield ok) else pure (ForInStep.yield r)) Q E s := by
  rcases ht with ⟨rfl, rfl⟩ | ⟨t, pt, rfl, rfl, ht⟩
  · exact wpAny_tests_nil (h1 σ₂ s.heap s.toks n₂ st pre h)
  · refine r_ok h fun v σ₅ w h => q_ok h fun bb w' h => wpAny_tests_one (ht k' hk _ σ₂ s _ n₂ _ _ st ?_)
    rw [w]
    show Cont _ _ _ _ _ _ (bad? (truth v) fun t => I.R.ok t σ₅) _ _
    rw [w']
    refine fun h₅ t₅ n₅ cv st₅ p₅ hv => (show bb = cv from hv) ▸ ?_
    cases bb with
    | true => exact h1 _ _ _ _ st₅ p₅ h
    | false => exact h2 _ _ _ _ st₅ p₅ h
theorem comp_take {b : Ct} {elt : PySem.Expr} {e : ME} {x : String} {cond : Option ME} {mc : List (String × Nat)} {itx accx : Nat} {it D : Addr} {ρ : List Addr} {P : Shared → Prop} {k' : Nat} {σ₄ σ' : H} {l₄ : List (Str × Value)} {n₄ : List (Addr × Obj)} {h₄ : Heap} {t₄ : Nat} {y : V} {E : Value → Shared → Prop}
    (he : ∀ k < n, ∀ m σ, JE b m elt σ (evalI fns mets inits k m e σ)) (hm : m.c = mc) (hk : k' < n) (st : St b ⟨[(x, y)], m.c⟩ σ₄ h₄ l₄ n₄) (hi : (adr n₄)[itx]? = some it) (ha : (adr n₄)[accx]? = some D) (p₁ : ρ <+: adr n₄) (e₄ : taken (fns := fns) (mets := mets) (inits := inits) k' m e x cond itx accx y σ₄ = .ok () σ')
    (kk : ∀ h' tk news' l' m', St b m' σ' h' l' news' → ρ <+: adr news' → P (up s h' tk)) :
    wpAny (model p0 b.w) b.A' (eval elt b.env) (fun x₄ s₄ => wpAny (model p0 b.w) b.A' (call (.builtin "list.append") [.ref D, x₄]) (fun _ s₅ => ∃ m₁, m₁ < k' + 1 ∧ CI b n s (fun k σ => compI fns mets inits k m e [x] cond itx accx σ) mc itx accx it D ρ P m₁ s₅) E s₄) E (up s h₄ t₄) :=
  r_ok (r := evalI fns mets inits k' ⟨[(x, y)], m.c⟩ e σ₄) (f := fun v σ => bad? (app1 accx v σ) fun σ => compI fns mets inits k' m e [x] cond itx accx σ) e₄ fun v σ₅ q5 h => q_ok h fun σ₆ q6 q7 => he k' hk _ σ₄ (up s h₄ t₄) _ n₄ _ _ st (by
    rw [q5]
    exact fun h₅ t₅ n₅ cv st₅ p₅ hv => app_at (c := b) (s := (up s h₅ t₅)) st₅ q6 (pre_get p₅ ha) hv fun h₆ t₆ n₆ st₆ eb =>
      ⟨k', Nat.lt_succ_self _, .mk (m' := ⟨[(x, y)], m.c⟩) (Nat.le_of_lt hk) hm st₆ (by rw [eb]; exact pre_get p₅ hi) (by rw [eb]; exact pre_get p₅ ha) (by rw [eb]; exact p₁.trans p₅) q7 kk⟩)
theorem turn_none {e : ME} {x : String} {cond : Option ME} {itx accx k : Nat} {m : Fm} {σ σ' : H} (h : turnI (fns := fns) (mets := mets) (inits := inits) k m e x cond itx accx none σ = .ok () σ') : σ = σ' := by cases h; rfl
theorem comp_loop' {b : Ct} {elt iter : PySem.Expr} {ifs : List PySem.Expr} {xs : List String} {tg : PySem.Expr} {pos : Pos} {e : ME} {cond : Option ME} {itx accx : Nat} {it D : Addr} {R : Result → Shared → Prop}
    (hx : TgtC b.cs xs tg) (hsb : ∀ {x : String} {v : V} {cv : Value} {m' : Fm} {σ : H} {l' : List (Str × Value)} {news : List (Addr × Obj)} {s : Shared} {Q : Unit → Shared → Prop} {E : Value → Shared → Prop}, St b m' σ s.heap l' news → VR (adr news) v cv → b.cs.names.lookup (nm x) = some .local → (∀ h' tk, St b ⟨[(x, v)], m'.c⟩ σ h' ((nm x, cv) :: l') news → Q () (up s h' tk)) → wpAny (model p0 b.w) b.A' (storeName b.env (nm x) cv) Q E s)
    (he : ∀ k < n, ∀ m σ, JE b m elt σ (evalI fns mets inits k m e σ))
    (ht : (cond = none ∧ ifs = []) ∨ ∃ t pt, cond = some t ∧ ifs = [pt] ∧ ∀ k < n, ∀ m σ, JT b m pt σ (evalI fns mets inits k m t σ))
    (st : St b m' σ s.heap l' news) (hm : m'.c = m.c) (hit : (adr news)[itx]? = some it) (hacc : (adr news)[accx]? = some D)
    (k : ∃ σ', compI fns mets inits n m e xs cond itx accx σ = .ok () σ' ∧ ∀ h' tk news' l' m', St b m' σ' h' l' news' → adr news <+: adr news' → R (.ok .next) (up s h' tk)) :
    codeAny (model p0 b.w) b.A' (.compLoop (.ListComp elt [⟨tg, iter, ifs, 0⟩] scope pos) 0 (.ref it) (.ref D) b.env) R s := by
  obtain ⟨σ', e', kk⟩ := k
  cases hx with
  | none hx => exact comp_not e' hx fun q => compLoop_end (next_ok (c := b) st hit q (fun eo h₂ t₂ n₂ st₂ ea => ⟨rfl, kk h₂ t₂ n₂ _ _ st₂ (by rw [ea]; exact pre)⟩) fun _ e => nos e)
  | @one x px hx =>
  refine codeAny_compLoop_tests (CI b n s (fun k σ => compI fns mets inits k m e [x] cond itx accx σ) m.c itx accx it D (adr news) (R (.ok .next))) ?_ n (.mk (h := s.heap) (tk := s.toks) (Nat.le_refl _) hm st hit hacc pre e' kk)
  generalize adr news = ρ₀
  clear kk e' st hit hacc hm
  intro k' s' F
  generalize notedBy (model p0 b.w) b.A' b.env (fun e s' => R (.error e) s') = E'
  cases F with
  | @mk m' σ₁ σ' l₁ n₁ h tk hkn hm st hit hacc p₁ e' kk =>
  cases k' with
  | zero => rw [compI] at e'; cases e'
  | succ k' =>
    refine q_ok (compI_turn.symm.trans e') fun p q e => next_ok (c := b) (s := (up s h tk)) st hit q (fun eo h₂ t₂ n₂ st₂ ea => kk h₂ t₂ n₂ _ _ (turn_none (eo ▸ e) ▸ st₂) (by rw [ea]; exact p₁)) fun y eo h₂ t₂ n₂ cy st₂ ea hy => assign_Name (hsb (s := (up s h₂ t₂)) st₂ (by rw [ea]; exact hy) hx fun h₃ t₃ st₃ => ?_)
    rw [hm] at st₃
    rw [← ea] at hit hacc p₁
    exact tests_ok (m := m) ht hkn st₃ (eo ▸ e) (fun σ₅ h₅ t₅ n₅ st₅ p₅ e => (if_pos rfl).mpr (comp_take he rfl hkn st₅ (pre_get p₅ hit) (pre_get p₅ hacc) (p₁.trans p₅) e kk)) fun σ₅ h₅ t₅ n₅ st₅ p₅ e =>
      ⟨k', Nat.lt_succ_self _, .mk (m' := ⟨[(x, y)], m.c⟩) (Nat.le_of_lt hkn) rfl st₅ (pre_get p₅ hit) (pre_get p₅ hacc) (p₁.trans p₅) e kk⟩
theorem comp_loop {elt iter : PySem.Expr} {ifs : List PySem.Expr} {xs : List String} {tg : PySem.Expr} {pos : Pos} {e : ME} {cond : Option ME} {itx accx : Nat} {it D : Addr} {R : Result → Shared → Prop}
    (hx : TgtC (relabelS scope c.cs) xs tg) (he : ∀ k < n, ∀ m σ, JE (c.block scope clo C l hk hcl) m elt σ (evalI fns mets inits k m e σ))
    (ht : (cond = none ∧ ifs = []) ∨ ∃ t pt, cond = some t ∧ ifs = [pt] ∧ ∀ k < n, ∀ m σ, JT (c.block scope clo C l hk hcl) m pt σ (evalI fns mets inits k m t σ))
    (st : St (c.block scope clo C l hk hcl) m' σ s.heap l' news) (hm : m'.c = m.c) (hit : (adr news)[itx]? = some it) (hacc : (adr news)[accx]? = some D)
    (k : ∃ σ', compI fns mets inits n m e xs cond itx accx σ = .ok () σ' ∧ ∀ h' tk news' l' m', St (c.block scope clo C l hk hcl) m' σ' h' l' news' → adr news <+: adr news' → R (.ok .next) (up s h' tk)) :
    codeAny (model p0 c.w) c.A' (.compLoop (.ListComp elt [⟨tg, iter, ifs, 0⟩] scope pos) 0 (.ref it) (.ref D) (c.block scope clo C l hk hcl).env) R s :=
  comp_loop' (b := c.block scope clo C l hk hcl) hx (fun st hv hx k => St.storeB st hv hx k) he ht st hm hit hacc k
end
end Mine

namespace Mine
open PySem PySem.W PySem.Calls PyProof.Rows

section
variable {c : Ct} {m m' : I.Fm} {σ σ₀ σ₁ : I.H} {n : Nat} {l l' : List (Str × Value)} {news news₀ : List (Addr × Obj)} {s : Shared} {h h' h₀ h'' : Heap} {scope : Scope} {clo : List (Str × Addr)} {C it : Addr} {hk : scope.kind = .function} {hcl : ∀ n, (relabelS scope c.cs).names.lookup n = some .cell → ∃ a, List.lookup n clo = some a}
open I
theorem St.outBlock (hfl : c.fl = none) (st₀ : St c m σ₀ h₀ l news₀) (p : adr news₀ <+: adr news) (st : St (c.block scope clo C l hk hcl) m' σ h l' news) (hs : Heap.SameBut C h h'') : St c m σ h'' l news := by
  have x := St.ofBlock hfl st₀ p st
  obtain ⟨_, h2, h3, h4⟩ := st.ns rfl
  have cx : Cx c.w c.mean c.mg c.mb c.A c.base c.outer c.g c.L h l news := st.cx
  exact ⟨by rw [own_none hfl]; exact cx.beside hs h2 h3 h4, x.rel, x.lr, x.cr, fun q => by rw [hfl] at q; cases q⟩
theorem St.itAt {G : Prop} {i : Nat} {o : AO} {h : Heap} {τ : H} (st : St c m τ h l news) (hi : (adr news)[i]? = some it) (q : τ[i]? = some o) (k : ∀ ob, CO (adr news) o ob → h.get? it = some ob → G) : G :=
  st.atE q fun a ob _ g2 g3 g4 => k ob g3 (Option.some.inj (g2.symm.trans hi) ▸ g4)
theorem iter_self {v : V} {Q : Value → Shared → Prop} {E : Value → Shared → Prop} (e : iter1 v σ = some σ₁) {τ : H} (st : St c m τ s.heap l news) (hτ : ∀ (i : Nat) (o : AO), σ₁[i]? = some o → τ[i]? = some o) (hit : (adr news)[σ.length]? = some it) (k : Q (.ref it) s) : wpAny (model p0 c.w) c.A' (pyIter (.ref it)) Q E s :=
  iter_cases (G := fun _ σ₁ => (∀ (i : Nat) (o : AO), σ₁[i]? = some o → τ[i]? = some o) → _)
    (fun i xs _ hτ => st.itAt hit (hτ σ.length _ List.getElem?_concat_length) fun ob g3 g4 => by
      cases g3 with
      | iter hj hc hd => exact wpAny_pyIter_listiter ⟨_, g4, hc, hd⟩ k)
    (fun i z _ _ hτ => st.itAt hit (hτ σ.length _ List.getElem?_concat_length) fun ob g3 g4 => by
      cases g3 with
      | riter => exact wpAny_pyIter_rangeiter g4 k) v e hτ
variable {fns : Nat → Option I.FD} {mets : Nat → String → Option Nat} {inits : Nat → Option Nat}
structure ScopeOk (cs scope : Scope) : Prop where
  hk : scope.kind = .function
  hnames : ∀ x ∈ scope.names, x.2 = .local → scope.names.lookup x.1 = some .local
  hcell : ∀ y ∈ scope.names, y.2 ≠ .cell
  hfr : ∀ n ∈ freeOf scope, cs.names.lookup n = some .cell
theorem ScopeOk.cells (so : ScopeOk c.cs scope) (hclo : ∀ n ∈ freeOf scope, List.lookup n clo = List.lookup n c.cl) (n : Str) (hn : (relabelS scope c.cs).names.lookup n = some .cell) : ∃ a, List.lookup n clo = some a := by
  have hm := lookup_free (scope := scope) (cs := c.cs) (n := n) hn so.hcell
  rw [hclo n hm]
  exact c.hcl n (so.hfr n hm)
theorem St.newBlock {H2 h₁ : Heap} (st : St c m σ H2 l news) (hfl : c.fl = none) (so : ScopeOk c.cs scope) (hclo : ∀ n ∈ freeOf scope, List.lookup n clo = List.lookup n c.cl) (g : Grow H2 h₁) (hns : Loc H2.objs.size h₁ []) : St (c.block scope clo H2.objs.size l so.hk (so.cells hclo)) ⟨[], m.c⟩ σ h₁ [] news := by
  have fresh : ∀ b o, H2.get? b = some o → b ≠ H2.objs.size := fun b o e => Nat.ne_of_lt (Heap.lt_size e)
  refine (st.grow g).toBlock hfl hns (fun z => ?_) ?_ ?_ (fun x v e => nos e) hclo so.hfr so.hcell rfl
  · obtain ⟨p, hp, e⟩ := List.mem_map.mp z
    exact fresh _ _ (st.cx.N p hp).1 e
  · obtain ⟨oL, es, ep, hL, _⟩ := st.cx.F.ns
    exact fun q => fresh _ _ hL q.symm
  · cases q : c.g.get? H2.objs.size with
    | none => rfl
    | some o => exact absurd rfl (fresh _ _ (st.cx.F.keep _ _ q))
theorem ht_mono {A : Prop} {X : ME → Prop} {Y : PySem.Expr → Prop} {P P' : ME → PySem.Expr → Prop} (f : ∀ t pt, P t pt → P' t pt) (h : A ∨ ∃ t pt, X t ∧ Y pt ∧ P t pt) : A ∨ ∃ t pt, X t ∧ Y pt ∧ P' t pt := h.imp id fun ⟨t, pt, a, b, d⟩ => ⟨t, pt, a, b, f t pt d⟩
theorem comp_block {v : V} {elt iter : PySem.Expr} {ifs : List PySem.Expr} {xs : List String} {tg : PySem.Expr} {pos : Pos} {e : ME} {cond : Option ME} {RR : Value → Addr → Result → Shared → Prop} {E : Value → Shared → Prop} (hfl : c.fl = none)
    (so : ScopeOk c.cs scope) (hx : TgtC (relabelS scope c.cs) xs tg) (hclo : ∀ n ∈ freeOf scope, List.lookup n clo = List.lookup n c.cl)
    (he : ∀ C hcl, ∀ k < n, ∀ m σ, JE (c.block scope clo C l so.hk hcl) m elt σ (evalI fns mets inits k m e σ))
    (ht : (cond = none ∧ ifs = []) ∨ ∃ t pt, cond = some t ∧ ifs = [pt] ∧ ∀ C hcl, ∀ k < n, ∀ m σ, JT (c.block scope clo C l so.hk hcl) m pt σ (evalI fns mets inits k m t σ))
    (ei : iter1 v σ = some σ₁) (st : St c m σ₁ s.heap l news) (hlen : σ₁.length = σ.length + 1) (hit : (adr news)[σ.length]? = some it)
    (k : ∃ σ', compI fns mets inits n m e xs cond σ.length (σ.length + 1) (σ₁ ++ [.list []]) = .ok () σ' ∧ ∀ D C h' tk news' l' m' hcl, St (c.block scope clo C l so.hk hcl) m' σ' h' l' news' → adr news <+: adr news' → (adr news')[σ.length + 1]? = some D → RR (.ref D) C (.ok .next) (up s h' tk)) :
    wpAny (model p0 c.w) c.A' (newList []) (fun acc s₃ => wpAny (model p0 c.w) c.A' (newFunctionEnv scope c.env.globals clo [] c.env.qual none .none (some c.env)) (fun cenv s₄ =>
      codeAny (model p0 c.w) c.A' (.compStart (.ListComp elt [⟨tg, iter, ifs, 0⟩] scope pos) 0 (.ref it) acc { cenv with scope := relabel scope c.env }) (RR acc cenv.locals) s₄) E s₃) E s :=
  wpAny_newObj_type (wpAny_newFunctionEnv so.hcell (fun y hy => absurd hy List.not_mem_nil) (fun h₁ hns₁ hsb₁ => by
    have st₂ := st.add (ob := listOf [].toArray 0) (Grow.push s.heap (listOf [].toArray 0)) rfl (Heap.get?_push_size _ rfl) (.list .nil (Nat.zero_le _))
    have hD : (adr (news ++ [(s.heap.objs.size, listOf [].toArray 0)]))[σ.length + 1]? = some s.heap.objs.size := by rw [← hlen]; exact new_at st.rel
    have stB := st₂.newBlock (scope := scope) (clo := clo) hfl so hclo (fun b o eb => hsb₁.extBut b o (Nat.ne_of_lt (Heap.lt_size eb)) (Heap.get?_push_of_some _ eb)) hns₁
    have hit' : (adr (news ++ [(s.heap.objs.size, listOf [].toArray 0)]))[σ.length]? = some it := pre_get pre_add hit
    obtain ⟨σ', e', kk⟩ := k
    have loop := comp_loop (c := c) (hk := so.hk) (hcl := so.cells hclo) (elt := elt) (iter := iter) (ifs := ifs) (pos := pos) (e := e) (cond := cond) (m := m) (s := (up s h₁ (s.toks + ([] : List (Str × Value)).length))) (R := RR (.ref s.heap.objs.size) (s.heap.push (listOf [].toArray 0)).objs.size) hx (he _ _) (ht_mono (fun t pt d => d _ _) ht)
      stB rfl hit' hD ⟨σ', e', fun h' tk news' l' m' st' p' => kk _ _ h' tk news' l' m' _ st' (pre_add.trans p') (pre_get p' hD)⟩
    exact codeAny_compStart_list loop (iter_self (c := c.block scope clo (s.heap.push (listOf [].toArray 0)).objs.size l so.hk (so.cells hclo)) (s := (up s h₁ (s.toks + ([] : List (Str × Value)).length))) ei stB (fun i o eo => by rw [List.getElem?_append_left (List.getElem?_eq_some_iff.mp eo).1]; exact eo) hit' loop)) so.hk)
/-- nothing raised -/
noncomputable def NE (r : R Unit) : Prop := ∀ sy τ, r ≠ .exc sy τ
theorem ne_bad : NE .bad := fun _ _ h => by cases h
theorem ne_q {α : Type} {o : Option α} {f : α → R Unit} (h : ∀ a, NE (f a)) : NE (bad? o f) := by
  cases o with
  | none => exact ne_bad
  | some a => exact h a
theorem ne_r {r : R V} {f : V → H → R Unit} (h : ∀ v σ, NE (f v σ)) : NE (match (generalizing := false) r with | .ok v σ => f v σ | _ => .bad) := by
  cases r with
  | ok v σ => exact h v σ
  | _ => exact ne_bad
theorem compI_noexc : ∀ (n : Nat) {m : Fm} {e : ME} {xs : List String} {cond : Option ME} {i a : Nat} {σ : H}, NE (compI fns mets inits n m e xs cond i a σ)
  | 0, _, _, _, _, _, _, _ => ne_bad
  | n + 1, m, e, xs, cond, i, a, σ => by
    rw [compI_turnX]
    have tk : ∀ {x : String} {cond : Option ME} {y : V} {σ : H}, NE (taken (fns := fns) (mets := mets) (inits := inits) n m e x cond i a y σ) := ne_r fun v σ => ne_q fun σ => compI_noexc n
    refine ne_q fun p => ?_
    cases p with
    | mk o σ => cases o with
      | none => exact fun _ _ h => by cases h
      | some y => cases xs with
        | nil => exact ne_bad
        | cons x r => cases r with
          | cons => exact ne_bad
          | nil => cases cond with
            | none => exact tk
            | some t =>
              refine ne_r fun v σ => ne_q fun b => ?_
              cases b with
              | true => exact tk
              | false => exact compI_noexc n
theorem comp_k {β : Type} {G : Prop} {r : R Unit} {f : Unit → H → R β} {P : R β → Prop} (hn : NE r) (hb : ¬ P .bad) (k : P (r.bind f)) (g : ∀ σ', r = .ok () σ' → P (f () σ') → G) : G := by
  cases r with
  | bad => exact absurd k hb
  | exc sy τ => exact absurd rfl (hn sy τ)
  | ok u σ' => exact g σ' rfl k
theorem je_comp {elt iter : PySem.Expr} {ifs : List PySem.Expr} {xs : List String} {tg : PySem.Expr} {pos : Pos} {e : ME} {cond : Option ME} {ri : R V} (hfl : c.fl = none) (so : ScopeOk c.cs scope) (hx : TgtC (relabelS scope c.cs) xs tg) (hs : ∀ x, foldedSetIterable iter c.env x = pure x) (ha : JE c m iter σ ri)
    (he : ∀ l clo C hcl, ∀ k < n, ∀ m σ, JE (c.block scope clo C l so.hk hcl) m elt σ (evalI fns mets inits k m e σ))
    (ht : (cond = none ∧ ifs = []) ∨ ∃ t pt, cond = some t ∧ ifs = [pt] ∧ ∀ l clo C hcl, ∀ k < n, ∀ m σ, JT (c.block scope clo C l so.hk hcl) m pt σ (evalI fns mets inits k m t σ)) :
    JE c m (.ListComp elt [⟨tg, iter, ifs, 0⟩] scope pos) σ (ri.bind fun v σ => bad? (iter1 v σ) fun σ' =>
        (compI fns mets inits n m e xs cond σ.length (σ.length + 1) (σ' ++ [.list []])).bind fun _ σ'' => .ok (.obj (σ.length + 1)) σ'') := fun s l news Q E st k => by
  obtain ⟨clo, hc1, hc2⟩ := closure_for so.hfr
  rw [eval_ListComp]
  refine wpAny_comprehension_free (use := none) rfl hs hc1 so.hk so.hnames ?_
  refine ha s l news _ _ st (k.bind fun v σ₁ _ h₁ t₁ n₁ cv st₁ p₁ v₁ k₁ => ?_)
  obtain ⟨σ₂, e₂, k₂⟩ := cont_m k₁
  refine iter_ok (s := (up s h₁ t₁)) st₁ v₁ e₂ fun h₂ n₂ it st₂ p₂ hit hlen _ _ => ?_
  refine comp_block (s := (up s h₂ t₁)) (RR := fun acc C => compPost (model p0 c.w) c.A' E none Q acc C) (m := m) hfl so hx hc2 (he l clo) (ht_mono (fun t pt d => d l clo) ht) e₂ st₂ hlen hit ?_
  exact comp_k (P := fun r => Cont c m l (adr n₁) (up s h₁ t₁) VR r Q E) (compI_noexc _) id k₂ fun σ₃ e k₂ => ⟨σ₃, e, fun D C h' tk news' l' m' hcl st' p' hD => ⟨_, (st'.ns rfl).1, fun h'' hs'' => k₂ h'' tk news' _ (st₂.outBlock hfl p' st' hs'') (p₂.trans p') (.obj hD)⟩⟩
theorem js_setcomp {elt iter : PySem.Expr} {ifs : List PySem.Expr} {xs : List String} {tg : PySem.Expr} {y : String} {pos py spos : Pos} {e : ME} {cond : Option ME} {ri : R V} (hfl : c.fl = none) (so : ScopeOk c.cs scope) (hx : TgtC (relabelS scope c.cs) xs tg) (hs : ∀ x, foldedSetIterable iter c.env x = pure x) (ha : JE c m iter σ ri)
    (hsw : swapsWith (.ListComp elt [⟨tg, iter, ifs, 0⟩] scope pos) (some (.Name (nm y) py)) spos.line c.env = pure true) (hy : c.cs.names.lookup (nm y) = some .local)
    (he : ∀ l clo C hcl, ∀ k < n, ∀ m σ, JE (c.block scope clo C l so.hk hcl) m elt σ (evalI fns mets inits k m e σ))
    (ht : (cond = none ∧ ifs = []) ∨ ∃ t pt, cond = some t ∧ ifs = [pt] ∧ ∀ l clo C hcl, ∀ k < n, ∀ m σ, JT (c.block scope clo C l so.hk hcl) m pt σ (evalI fns mets inits k m t σ)) :
    JS c m (.Assign [.Name (nm y) py] (.ListComp elt [⟨tg, iter, ifs, 0⟩] scope pos) spos) σ ((ri.bind fun v σ => bad? (iter1 v σ) fun σ' =>
        (compI fns mets inits n m e xs cond σ.length (σ.length + 1) (σ' ++ [.list []])).bind fun _ σ'' => .ok (.obj (σ.length + 1)) σ'').bind fun v σ => .ok (.next, ⟨(y, v) :: m.l, m.c⟩) σ) := fun s l news Q E st k => by
  obtain ⟨clo, hc1, hc2⟩ := closure_for so.hfr
  rw [exec_Assign_Name_used _ _ _ _ hsw]
  refine wpAny_bind (wpAny_standAt (wpAny_bind ?_))
  show wpAny _ _ (do let _ ← comprehension (.ListComp elt [⟨tg, iter, ifs, 0⟩] scope pos) scope c.env _ (newList []) false (eval iter c.env) (some (assign (.Name (nm y) py) c.env))) _ _ s
  refine wpAny_bind (wpAny_mono (wpAny_comprehension_free (use := some (assign (.Name (nm y) py) c.env)) (Q := fun _ s' => Q .next s') rfl hs hc1 so.hk so.hnames ?_) (fun _ s' hq => wpAny_pure (wpAny_pure hq)) fun _ _ e => e)
  rw [bind_bind] at k
  refine ha s l news _ _ st (k.bindE fun v σ₁ _ h₁ t₁ n₁ cv st₁ p₁ v₁ k₁ => ?_)
  rw [bad_bind] at k₁
  obtain ⟨σ₂, e₂, k₁⟩ := contS_m k₁
  rw [bind_bind] at k₁
  refine iter_ok (s := (up s h₁ t₁)) st₁ v₁ e₂ fun h₂ n₂ it st₂ p₂ hit hlen _ _ => comp_block (s := (up s h₂ t₁)) (RR := fun acc C => compPost (model p0 c.w) c.A' E (some (assign (.Name (nm y) py) c.env)) (fun _ s' => Q .next s') acc C) (m := m) hfl so hx hc2 (he l clo) (ht_mono (fun t pt d => d l clo) ht) e₂ st₂ hlen hit ?_
  exact comp_k (P := fun r => ContS c (adr n₁) (up s h₁ t₁) r Q E) (compI_noexc _) id k₁ fun σ₃ e k₁ => ⟨σ₃, e, fun D C h' tk news' l' m' hcl st' p' hD => show wpAny _ c.A' (assign (.Name (nm y) py) c.env (.ref D)) _ _ _ from
    assign_Name ((st₂.ofBlock hfl p' st').storeS (s := (up s h' tk)) hfl (.obj hD) hy fun h₄ t₄ st₄ hs₄ => ⟨_, (st'.ns rfl).1.sameBut hs₄ (st'.ns rfl).2.2.1, fun h₅ hs₅ =>
      k₁ h₅ t₄ news' ((nm y, .ref D) :: l) _ ⟨st₄.cx.beside hs₅ (st'.ns rfl).2.1 (st'.ns rfl).2.2.1 (st'.ns rfl).2.2.2, st₄.rel, st₄.lr, st₄.cr, fun q => by rw [hfl] at q; cases q⟩ (p₂.trans p') .next⟩)⟩
end
end Mine

namespace Mine
open PySem PySem.W PySem.Calls PyProof.Rows

noncomputable def isDef : Stmt → Bool
  | .FunctionDef .. => true
  | _ => false
noncomputable def nameOf : Stmt → Str
  | .FunctionDef name _ _ _ _ _ _ _ _ _ => name
  | _ => nm ""
noncomputable def argsOf : Stmt → Arguments
  | .FunctionDef _ args _ _ _ _ _ _ _ _ => args
  | _ => ⟨[], [], none, [], [], none, []⟩
noncomputable def bodyOf : Stmt → List Stmt
  | .FunctionDef _ _ body _ _ _ _ _ _ _ => body
  | _ => []
noncomputable def scopeOf : Stmt → Scope
  | .FunctionDef _ _ _ _ _ _ scope _ _ _ => scope
  | _ => ⟨.function, [], false, false, []⟩
noncomputable abbrev fdOf (st : Stmt) (q : Str) (dV pm : Value) (cd : Addr) : FuncData := fnOf (nameOf st) q (argsOf st) (bodyOf st) (scopeOf st) dV .none .none pm none (.ref cd) .none
theorem fO_eq {st : Stmt} {q : Str} {dV pm : Value} {cd : Addr} (h : isDef st = true) : fO st q dV pm cd = { cls := .type "function", dict := none, data := .func (fdOf st q dV pm cd), slots := #[] } := by
  cases st with
  | FunctionDef => rfl
  | _ => exact absurd h Bool.false_ne_true
theorem lk35 (P : Params) : (K P).lookup 35 = some (fO (meAt 2 0) (nm "LispSignal.__init__") .none (.str (nm "emacs.errors") 194) 34) := by kernel_rfl
theorem def35 : isDef (meAt 2 0) = true := by kernel_rfl
noncomputable abbrev errCls : Obj := excClassObj (nm "LispSignal") (nm "LispSignal") 38 37 [.type "Exception"] [.type "Exception", .type "BaseException", .type "object"] true [] [] false none none (some (.ref 22)) none (some (.str (nm "LispSignal") 196)) (some (.str (nm "LispSignal") 204)) (some (.bool true)) "Exception.__new__"
theorem lk38 (P : Params) : (K P).lookup 38 = some errCls := by kernel_rfl
theorem lk37 (P : Params) : (K P).lookup 37 = some (d37 P) := by kernel_rfl
theorem ns37 {P : Params} {h : Heap} (X : (K P).In h) : h.Ns 37 (h.nsMap 37) ∧ h.nsMap 37 (nm "__init__") = some (.ref 35) :=
  ⟨Heap.Ns.of_isNs (isNs_of_in X (by kernel_rfl)), by unfold Heap.nsMap; rw [X _ _ (lk37 P)]; kernel_rfl⟩

section
variable {w : World} {A : Around} {E : Value → Shared → Prop} {s : Shared}
/-- into a dict of names -/
theorem store_dict {prog : Program} {D : Addr} {es : List DictEntry} {n : Nat} {name : Str} {tk : Tok} {v : Value} {Q : Fin → Shared → Prop} (hD : s.heap.get? D = some (dictOf es n)) (hl : (getL name es).isSome = true) (hz : es.length ≤ 900)
    (k : ∀ h' hsh t' , Heap.SameBut D s.heap h' → h'.get? D = some (dictOf (putL name hsh (.str name t') v es) (putN name es n)) → Q (.done (.ret .none)) (up s h' (s.toks + 1))) :
    wpAny (model prog w) A (Builtin.ObjectAttr.storeInDict D (.str name tk) name v) Q E s := by
  unfold Builtin.ObjectAttr.storeInDict Builtin.ObjectAttr.newKeyGuard
  refine wpAny_bind (wpAny_pure (wpAny_bind ?_))
  unfold nsSet
  refine wpAny_bind (wpAny_bind (wpAny_askSetting (wpAny_pure (wpAny_bind (wpAny_mkText (wpAny_bind (wpAny_loadPart hD ?_)))))))
  dsimp only
  have c : (!es.toArray.any (·.key.isStr name) && es.toArray.any (·.refKey)) = false := by
    rw [← Array.any_toList, ← Array.any_toList]
    unfold getL at hl
    split at hl
    · rename_i en he
      rw [List.any_eq_true.mpr ⟨en, List.mem_of_find?_eq_some he, List.find?_some he⟩]; rfl
    · split at hl
      · cases hl
      · rename_i z; rw [Bool.not_eq_true] at z; rw [z, Bool.and_false]
  rw [aRefKeyMayBeTheName_at, c]
  have hp := put_len (x := name) (hs := PyData.keyHash w.params name) (k := .str name s.toks) (v := v) es
  have D' : (s.heap.update D (Obj.putName name (PyData.keyHash w.params name) (.str name s.toks) v)).get? D = some (dictOf (putL name (PyData.keyHash w.params name) (.str name s.toks) v es) (putN name es n)) := by
    rw [Heap.get?_update_self _ hD (by rw [putName_dict]; rfl), putName_dict]
  refine wpAny_updatePart hD ?_
  refine wpAny_bind (wpAny_lookBehind D' (pastItsLine_dict (by rw [List.size_toArray, sizeLine_eq]; lia)) ?_)
  exact wpAny_pure (k _ _ _ (Heap.SameBut.update ..) D')
noncomputable abbrev errData : ClassData := { name := nm "LispSignal", bases := [.type "Exception"], mro := [.ref 38, .type "Exception", .type "BaseException", .type "object"], ns := 37, qualname := nm "LispSignal", hasDict := true, slotNames := [], subclasses := [], abstract := false, collection := none, hasDel := false }
theorem clsErr (P : Params) : clsIn (K P) 38 = some errData := by unfold clsIn; rw [lk38]
/-- object.__setattr__ upon the exception -/
theorem err_osa {oe : Obj} {e : Addr} {name : Str} {tk : Tok} {v : Value} {R : Result → Shared → Prop} (X : (K w.params).In s.heap) (he : s.heap.get? e = some oe) (hc : oe.cls = .ref 38) (ha : findIn (K w.params) (.ref 38) name = some none)
    (h : wpAny (model p0 w) A.in1 (do match ← instanceDict e true with | some d => Builtin.ObjectAttr.storeInDict d (.str name tk) name v | none => Builtin.ObjectAttr.noDictFor (.ref e) (.ref 38) name false)
      (fun fin s' => match fin with | .done f => R (.ok f) s' | .again c' => c'.quiet = true ∧ codeAny (model p0 w) A c' R s') (fun e s' => R (.error e) s') s) :
    codeAny (model p0 w) A (.call (.builtin "object.__setattr__") ⟨[.ref e, .str name tk, v], []⟩) R s := by
  have SF := PySem.F.store_object
  have ty : Looks (model p0 w) s.heap (typeOf (.ref e)) (.ref 38) := hc ▸ (Looks.ld he).andThen .now
  have hcl := clsErr w.params
  have sub : Looks (model p0 w) s.heap (isInstance (.ref e) (.type "object")) true := ty.andThen (looks_mroIn X (by unfold mroIn; rw [hcl, Option.bind_some, if_neg (by decide)]; rfl))
  refine codeAny_call_builtin SF.slot.plain SF.entry (@check_slot (model p0 w) _ _ s "object.__setattr__" "object" "__setattr__" (.ref e) [.str name tk, v] [] _ SF.kind SF.split sub (SF.args (.ref e) (.str name tk) v) ?_)
  have hm : Looks (model p0 w) s.heap (mroOf (.ref 38)) [.ref 38, .type "Exception", .type "BaseException", .type "object"] := (looks_clsIn X hcl).andThen .now
  rw [osa_eq, refuse_eq]
  refine wpAny_bind (wpAny_bind (ty.here (wpAny_bind (hm.here ?_))))
  rw [refuseLoop_ref, PySem.F.store_Exception.passes]
  refine wpAny_pure (wpAny_bind (ty.here (wpAny_bind ((looks_findIn X ha).here (wpAny_bind ?_)))))
  refine wpAny_pure (a := none) ?_
  show wpAny _ _ (Builtin.ObjectAttr.storeInOwnDict (.ref e) (.ref 38) (.str name tk) name v false) _ _ _
  unfold Builtin.ObjectAttr.storeInOwnDict
  refine wpAny_bind (wpAny_pure ?_)
  rw [if_neg (by decide)]
  exact h
theorem err_find {P : Params} : findIn (K P) (.ref 38) (nm "__setattr__") = some (some (.builtin "object.__setattr__")) := by kernel_rfl
/-- the first name of the exception's own -/
theorem err_first {e : Addr} {name : Str} {v a0 : Value} {Q : Unit → Shared → Prop} (X : (K w.params).In s.heap) (ha : findIn (K w.params) (.ref 38) name = some none)
    (he : s.heap.get? e = some { cls := .ref 38, data := .fields #[a0, .none, .none, .none, .bool false, .none] })
    (k : ∀ h' hsh t tk D, s.heap.get? D = none → D ≠ e → (∀ b o, b ≠ e → s.heap.get? b = some o → h'.get? b = some o) → h'.get? e = some { cls := .ref 38, dict := some D, data := .fields #[a0, .none, .none, .none, .bool false, .none] } →
      h'.get? D = some (dictOf [⟨hsh, .str name t, v⟩] 1) → Q () (up s h' tk)) :
    wpAny (model p0 w) A (setAttr (.ref e) name v) Q E s := by
  have hlt := Heap.lt_size he
  refine set_plain X (InstAt.mk (od := none) he rfl rfl trivial) err_find (err_osa (s := (ut s (s.toks + 1))) X he rfl ha ?_)
  unfold instanceDict
  refine wpAny_bind (wpAny_bind (wpAny_loadPart he ?_))
  dsimp only
  refine wpAny_bind (looks_clsIn X (clsErr w.params) _ _ _ _ (fun _ _ e => e) ?_)
  rw [if_neg (by decide), if_neg (by decide)]
  have hx₁ : (s.heap.push emptyDict).get? e = some { cls := .ref 38, data := .fields #[a0, .none, .none, .none, .bool false, .none] } := Heap.get?_push_of_some _ he
  refine wpAny_bind (wpAny_alloc' ?_)
  refine wpAny_bind (wpAny_update' hx₁ ?_)
  refine wpAny_pure ?_
  have hxs : e ≠ s.heap.objs.size := Nat.ne_of_lt hlt
  have hgd : ((s.heap.push emptyDict).update e fun o => { cls := o.cls, dict := some s.heap.objs.size, data := o.data, slots := o.slots }).get? s.heap.objs.size = some (dictOf [] 0) :=
    (Heap.get?_update_ne _ _ _ _ hxs.symm).trans (Heap.get?_push_at rfl rfl)
  have hge := Heap.get?_update_self (fun o => { cls := o.cls, dict := some s.heap.objs.size, data := o.data, slots := o.slots }) hx₁ rfl
  refine store_dict (s := (up s ((s.heap.push emptyDict).update e fun o => { cls := o.cls, dict := some s.heap.objs.size, data := o.data, slots := o.slots }) (s.toks + 1))) hgd rfl (Nat.zero_le _) fun h' hsh t' hs hD => ?_
  exact k h' hsh t' _ s.heap.objs.size (get_none_size _) hxs.symm (fun b o hb eb => (hs.2 b (Nat.ne_of_lt (Heap.lt_size eb))).trans ((Heap.get?_update_ne _ _ _ _ hb).trans (Heap.get?_push_of_some _ eb))) ((hs.2 e hxs).trans hge) hD
/-- a further name -/
theorem err_next {e D : Addr} {name : Str} {v a0 : Value} {es : List DictEntry} {n : Nat} {Q : Unit → Shared → Prop} (X : (K w.params).In s.heap) (ha : findIn (K w.params) (.ref 38) name = some none)
    (he : s.heap.get? e = some { cls := .ref 38, dict := some D, data := .fields #[a0, .none, .none, .none, .bool false, .none] }) (hD : s.heap.get? D = some (dictOf es n)) (hl : (getL name es).isSome = true) (hz : es.length ≤ 900)
    (k : ∀ h' hsh t tk, Heap.SameBut D s.heap h' → h'.get? D = some (dictOf (putL name hsh (.str name t) v es) (putN name es n)) → Q () (up s h' tk)) :
    wpAny (model p0 w) A (setAttr (.ref e) name v) Q E s := by
  refine set_plain X (InstAt.mk (od := some (dictOf es n)) he rfl rfl hD) err_find (err_osa (s := (ut s (s.toks + 1))) X he rfl ha ?_)
  unfold instanceDict
  refine wpAny_bind (wpAny_bind (wpAny_loadPart he ?_))
  dsimp only
  refine wpAny_bind (looks_clsIn X (clsErr w.params) _ _ _ _ (fun _ _ e => e) ?_)
  rw [if_neg (by decide)]
  refine wpAny_pure ?_
  exact store_dict (s := (ut s (s.toks + 1))) hD hl hz fun h' hsh t' hs hD => k h' hsh t' _ hs hD
end
end Mine

namespace Mine
open PySem PySem.W PySem.Calls PyProof.Rows
theorem body35 : ∃ p1 p2 p3 p4 q1 q2 q3 q4, bodyOf (meAt 2 0) = [.Assign [.Attribute (.Name (nm "self") p1) (nm "symbol") p2] (.Name (nm "symbol") p3) p4, .Assign [.Attribute (.Name (nm "self") q1) (nm "data") q2] (.Name (nm "data") q3) q4] := ⟨_, _, _, _, _, _, _, _, rfl⟩
noncomputable def n35 : List String := ["self", "symbol", "data"]
theorem sc35 : ∀ x ∈ n35, (scopeOf (meAt 2 0)).names.lookup (nm x) = some .local := all_cons (by kernel_rfl) (all_cons (by kernel_rfl) (all_cons (by kernel_rfl) all_nil))
section
variable {w : World} {A : Around} {E : Value → Shared → Prop} {s : Shared}
/-- a name of the maker's frame -/
theorem ld35 {env : Env} {m : Str → Option Value} {x : String} {p : Pos} {v : Value} {Q : Value → Shared → Prop} (ek : env.scope.kind = .function) (ex : ∀ x ∈ n35, env.kindOf (nm x) = some .local) (hn : s.heap.Ns env.locals m) (hx : x ∈ n35) (hd : (nm x == ("__debug__" : Str)) = false) (hv : m (nm x) = some v) (q : Q v s) : wpAny (model p0 w) A (eval (.Name (nm x) p) env) Q E s :=
  wpAny_Name (wpAny_loadName_local ek (ex _ hx) hn hv q) hd
theorem body_err {sy : String} {t : Tok} {v : Value} {e : Addr} {a0 : Value} {env : Env} {Q : Flow → Shared → Prop} (X : (K w.params).In s.heap) (ek : env.scope.kind = .function) (ex : ∀ x ∈ n35, env.kindOf (nm x) = some .local) (hns : s.heap.Ns env.locals (fun x => [(nm "self", Value.ref e), (nm "symbol", .str (nm sy) t), (nm "data", v)].reverse.lookup x)) (hLe : env.locals ≠ e) (hK : ∀ a o, (K w.params).lookup a = some o → a ≠ e)
    (he : s.heap.get? e = some { cls := .ref 38, data := .fields #[a0, .none, .none, .none, .bool false, .none] })
    (k : ∀ h' tk D od, (∀ b o, b ≠ e → b ≠ D → s.heap.get? b = some o → h'.get? b = some o) → s.heap.get? D = none → D ≠ e → h'.get? e = some { cls := .ref 38, dict := some D, data := .fields #[a0, .none, .none, .none, .bool false, .none] } → h'.get? D = some od → SymObj sy od → Q .next (up s h' tk)) :
    wpAny (model p0 w) A (execs (bodyOf (meAt 2 0)) env) Q E s := by
  obtain ⟨p1, p2, p3, p4, q1, q2, q3, q4, hb⟩ := body35
  rw [hb]
  refine st_seq (plainObj_wpAny_Assign_Attribute (ld35 (v := .str (nm sy) t) ek ex hns (.tail _ (.head _)) (by decide +kernel) (by kernel_rfl) (ld35 (v := .ref e) ek ex hns (.head _) (by decide +kernel) (by kernel_rfl) (err_first X (by kernel_rfl) he fun h₂ hsh t₂ tk₂ D d1 d2 d3 d4 d5 => ?_))) (by rfl))
  have hns₂ := hns.at' fun o eo => d3 _ o hLe eo
  have X₂ : (K w.params).In h₂ := fun a o ea => d3 a o (hK a o ea) (X a o ea)
  exact st_seq (plainObj_wpAny_Assign_Attribute (ld35 (s := up s h₂ tk₂) (v := v) ek ex hns₂ (.tail _ (.tail _ (.head _))) (by decide +kernel) (by kernel_rfl) (ld35 (s := up s h₂ tk₂) (v := .ref e) ek ex hns₂ (.head _) (by decide +kernel) (by kernel_rfl)
    (err_next (s := up s h₂ tk₂) X₂ (by kernel_rfl) d4 d5 (by kernel_rfl) (by show (1 : Nat) ≤ 900; decide) fun h₃ hsh' t₃ tk₃ hs₃ hD₃ => st_nil (k h₃ tk₃ D _ (fun b o b1 b2 eb => (hs₃.2 b b2).trans (d3 b o b1 eb)) d1 d2 ((hs₃.2 e (Ne.symm d2)).trans d4) hD₃ ⟨_, _, t, rfl, by kernel_rfl⟩)))) (by rfl))
theorem new_err {sy : String} {t : Tok} {v : Value} {Q : Value → Shared → Prop} (X : (K w.params).In s.heap) (hlim : s.heap.NoLimit) (hroom : A.depth + 2 < recursionLimit)
    (k : ∀ h' tk e D od a0, Grow s.heap h' → s.heap.get? e = none → s.heap.get? D = none → D ≠ e → h'.get? e = some { cls := .ref 38, dict := some D, data := .fields #[a0, .none, .none, .none, .bool false, .none] } → h'.get? D = some od → SymObj sy od → Q (.ref e) (up s h' tk)) :
    wpAny (model p0 w) A (call (.ref 38) [.str (nm sy) t, v]) Q E s := by
  obtain ⟨G, g1⟩ := ns37 X
  obtain ⟨hp, g, d, tk, os⟩ := s
  refine wpAny_call_exc_init PySem.F.excBase_Exception (X _ _ (lk38 _)) G g1 (X _ _ (lk35 _)) (by rw [fO_eq def35]) (fun h' e hm => ?_)
  obtain ⟨a0, m1, m2, m3⟩ := hm.there
  have X' : (K w.params).In h' := X.keeps hm.keeps
  obtain ⟨u1, -, -, -⟩ := under_tc A 38 [.str (nm sy) t, v]
  refine wpAny_call (codeAny_call_def (s := ⟨h', g, d, tk, os⟩) (binds := [(nm "self", .ref e), (nm "symbol", .str (nm sy) t), (nm "data", v)]) (by rw [u1]; lia) ((X' _ _ (lk35 _)).trans (congrArg some (fO_eq def35))) rfl (hlim.keeps hm.keeps) (codeRec_of X' (by kernel_rfl)) rfl (BindsTo.of_eq rfl)
    (by decide +kernel) (by intro y hy; simp only [List.mem_cons, List.mem_nil_iff, or_false] at hy; rcases hy with rfl | rfl | rfl; exact sc35 _ (.head _); exact sc35 _ (.tail _ (.head _)); exact sc35 _ (.tail _ (.tail _ (.head _)))) (fun h₁ hns hk₁ => ?_) (by kernel_rfl) (by kernel_rfl) (by kernel_rfl))
  have hDs : ∀ {D : Addr}, h₁.get? D = none → hp.get? D = none := fun {D} d1 => by
    cases q : hp.get? D with
    | none => rfl
    | some o => exact nos (d1.symm.trans (hk₁ _ _ (hm.keeps _ _ q)))
  have ne : ∀ {b D : Addr} {o : Obj}, hp.get? b = some o → hp.get? D = none → b ≠ D := fun eb q z => nos (q.symm.trans (z ▸ eb))
  exact body_err (s := ⟨h₁, g, d, _, os⟩) (env := callEnv (fdOf (meAt 2 0) (nm "LispSignal.__init__") .none (.str (nm "emacs.errors") 194) 34) h'.objs.size 35) (X'.keeps hk₁) (by kernel_rfl) sc35 hns (Nat.ne_of_gt (Heap.lt_size m1)) (fun a o ea => ne (X _ _ ea) hm.new) (hk₁ _ _ m1) fun h₃ tk₃ D od d0 d1 d2 d4 hD₃ hs =>
    ⟨rfl, k h₃ tk₃ e D od (.ref a0) (fun b o eb => d0 b o (ne eb hm.new) (ne eb (hDs d1)) (hk₁ _ _ (hm.keeps _ _ eb))) hm.new (hDs d1) d2 d4 hD₃ hs⟩
end
end Mine

namespace Mine
open PySem PySem.W PySem.Calls PyProof.Rows
section
variable {M : Model} {A : Around} {E : Value → Shared → Prop} {s : Shared} {env : Env}
theorem raise_err {x : Sem Value} {Q : Flow → Shared → Prop} (hh : A.handled = none)
    (h : wpAny M A x (fun v s₁ => ∃ e D a0, v = .ref e ∧ s₁.heap.get? 38 = some errCls ∧ s₁.heap.get? e = some { cls := .ref 38, dict := some D, data := .fields #[a0, .none, .none, .none, .bool false, .none] } ∧ E (.ref e) s₁) E s) :
    wpAny M A (raiseStmt env (some x) none) Q E s := by
  have hcB : (Value.ref 38 :: [Value.type "Exception", .type "BaseException", .type "object"]).contains (.type "BaseException") = true := by simp
  unfold raiseStmt
  refine wpAny_bind (wpAny_mono h (fun v s₁ h₁ => ?_) fun _ _ x => x)
  obtain ⟨e, D, a0, rfl, hC, he, hE⟩ := h₁
  obtain ⟨hp, g, d, tk, os⟩ := s₁
  repeat (first | with_reducible refine wpAny_loadPart_at he ?_ | with_reducible refine wpAny_loadPart_at hC ?_ | (with_reducible refine wpAny_isSubtype_exc hC ?_; rw [hcB]) | wp_step)
  exact wpAny_raiseNew_none hh hE
end
section
variable {c : Ct} {m : I.Fm} {σ : I.H} {n : Nat} {pos p f apos p1 p2 np cpos : Pos} {pe : PySem.Expr} {ra : I.R I.V} {sy : String} {kd : Nat}
variable {l : List (Str × Value)} {news : List (Addr × Obj)} {s : Shared}
open I
theorem ExAt.new {h' : Heap} {e D : Addr} {od : Obj} {a0 : Value} {tk : Nat} (st : St c m σ s.heap l news) (g : Grow s.heap h') (k1 : s.heap.get? e = none) (k2 : s.heap.get? D = none) (k3 : D ≠ e)
    (k4 : h'.get? e = some { cls := .ref 38, dict := some D, data := .fields #[a0, .none, .none, .none, .bool false, .none] }) (k5 : h'.get? D = some od) (k6 : SymObj sy od) : ExAt c (c.own l) (adr news) s σ sy (.ref e) (up s h' tk) := by
  have cx := st.cx
  have K' := pushX cx.B cx.F c.ffr c.fk
  have hin : ∀ env ∈ (c.fenv :: c.outer), ∀ b, env.frame = some b → b ∈ e :: (c.fenv :: c.outer).filterMap (·.frame) := fun env he b hb => List.mem_cons_of_mem _ (List.mem_filterMap.mpr ⟨env, he, hb⟩)
  have nfr : ∀ b, s.heap.get? b = none → b ∉ (c.fenv :: c.outer).filterMap (·.frame) := fun b hb hm => by
    obtain ⟨o, ho, _⟩ := (K'.frames.mem hm).2
    rw [hb] at ho; cases ho
  have ff : h'.FunFrames c.base (c.fenv :: c.outer) := K'.frames.of_keeps fun b o e _ => ⟨o, g _ _ e, rfl⟩
  have stb : c.base.StaysIn (hideAll h' (e :: (c.fenv :: c.outer).filterMap (·.frame))) := fun b o q => hideAll_get _ (g _ _ (K'.stays b o q)) fun hm => by
    rcases List.mem_cons.mp hm with rfl | hm
    · rw [K'.stays _ o q] at k1; cases k1
    · rw [(K'.frames.mem hm).1] at q; cases q
  refine ⟨e, s.heap, news, tk, h', some .none, rfl, rfl, cx.F, Heap.UpToSlots.of_keeps g, ⟨hideAll h' (e :: (c.fenv :: c.outer).filterMap (·.frame)), D, od, stb, fun q hq => ?_, ?_, ?_, k6, fun b o q => of_hideAll _ q, hideAll_none _ (List.mem_cons_self ..), funFrames_hide ff hin, ⟨_, _, k4, ⟨rfl, rfl⟩, rfl, rfl, rfl⟩⟩, st.rel, cx.nd, .inr (.inl rfl), pre⟩
  · refine ⟨hideAll_get _ (g _ _ (cx.N q hq).1) fun hm => ?_, fresh_of_stays cx.B.stays (cx.N q hq).2.2⟩
    rcases List.mem_cons.mp hm with q' | hm
    · have := (cx.N q hq).1
      rw [q', k1] at this; cases this
    · obtain ⟨env, he, hf⟩ := List.mem_filterMap.mp hm
      rcases List.mem_cons.mp he with rfl | he
      · rw [c.ffr] at hf; exact (cx.N q hq).2.1 (Option.some.inj hf).symm
      · obtain ⟨o, ho, _⟩ := (cx.B.frames.mem (List.mem_filterMap.mpr ⟨env, he, hf⟩)).2
        rw [(cx.N q hq).2.2] at ho; cases ho
  · exact hideAll_get _ k5 fun hm => by
      rcases List.mem_cons.mp hm with q' | hm
      · exact k3 q'
      · exact nfr D k2 hm
  · cases q : c.base.get? D with
    | none => rfl
    | some o => have := K'.stays _ _ q; rw [k2] at this; cases this
theorem js_rai (b : Bud c 2) (hx : c.cs.names.lookup (nm "LispSignal") = some .globalImplicit) (ns : NoStar c pe) (hk38 : ∀ P, keepIn (K P) (.ref 38) = true) (ha : JE c m pe σ ra) :
    JS c m (.Raise (some (.Call (.Name (nm "LispSignal") np) [.Constant (.str (nm sy)) kd p1, pe] [] cpos)) none pos) σ (ra.bind fun _ σ => .exc sy σ) := fun s l news Q E st k => by
  rw [arm_exec_Raise]
  refine wpAny_bind (wpAny_standAt (raise_err (M := model p0 c.w) (x := do let v ← eval (.Call (.Name (nm "LispSignal") np) [.Constant (.str (nm sy)) kd p1, pe] [] cpos) c.env; standAt pos; pure v) st.cx.hh (wpAny_bind ?_)))
  refine Call_ (glob_name st gl_LispSignal hx (by decide +kernel) ?_) call_hc
  refine callWith_of (P := fun h => (K c.w.params).In h) (by rw [show starEach [.Constant (.str (nm sy)) kd p1, pe] c.env = (false, eval (.Constant (.str (nm sy)) kd p1) c.env) :: starEach [pe] c.env from rfl, ns []]; rfl) (keeps_K (hk38 _)) (evalArgs_of (.inr ⟨_, _, rfl, rfl⟩) ?_)
  refine spliced_more (wpAny_Constant_str ?_) rfl
  refine spliced_more (ha (ut s (s.toks + 1)) l news _ _ st (ContS.bindE (s := (ut s (s.toks + 1))) (Q := Q) (E := E) (f := fun _ σ => .exc sy σ) (by
    revert k
    cases ra with
    | bad => exact id
    | ok v τ => exact id
    | exc sy' τ => exact id) fun v σ₁ _ h₁ t₁ n₁ cv st₁ p₁ v₁ k₁ => spliced_none ⟨st₁.bs.X, ?_⟩)) (ns [])
  refine new_err (s := (up s h₁ t₁)) st₁.bs.X st₁.bs.T.nolimit (by have := b.depth; show c.A.depth + 1 + 2 < _; lia) fun h' tk e D od a0 g k1 k2 k3 k4 k5 k6 => ?_
  refine wpAny_bind (wpAny_standAt (wpAny_pure ⟨e, D, a0, rfl, g _ _ (st₁.bs.X _ _ (lk38 _)), k4, ?_⟩))
  exact k₁ _ _ _ (ExAt.new (s := (up s h₁ t₁)) st₁ g k1 k2 k3 k4 k5 k6)
end
end Mine

namespace Mine
open PySem PySem.W PySem.Calls PyProof.Rows
theorem slot_exc_ga : Slot "Exception" "__getattribute__" "BaseException.__getattribute__" :=
  .of (owner := "BaseException") (n := "__getattribute__") (by rw [typeLookup_type, builtinLookup_eq_fast]; kernel_rfl) (by decide +kernel) (by decide +kernel) (by decide +kernel)
    (by first | exact .inl (by decide +kernel) | exact .inr (by decide +kernel)) (by rw [isSubtype_type]; kernel_rfl)
theorem kind_exc_ga : builtinKind "BaseException.__getattribute__" = some .slot := by decide +kernel
theorem split_exc_ga : splitId "BaseException.__getattribute__" = some ("BaseException", "__getattribute__") := by decide +kernel
theorem args_exc_ga (a b : Value) : argsOk "BaseException.__getattribute__" ⟨[a, b], []⟩ := by unfold argsOk; kernel_rfl
theorem ga38 (P : Params) : findIn (K P) (.ref 38) "__getattribute__" = some (some (.builtin "BaseException.__getattribute__")) := by kernel_rfl
theorem gt38 (P : Params) : findIn (K P) (.ref 38) "__getattr__" = some none := by kernel_rfl
theorem sy38 (P : Params) : findIn (K P) (.ref 38) (nm "symbol") = some none := by kernel_rfl
section
variable {w : World} {A : Around} {E : Value → Shared → Prop} {s : Shared}
theorem get_err {oe od : Obj} {D e : Addr} {v : Value} {Q : Value → Shared → Prop} (X : (K w.params).In s.heap) (he : s.heap.get? e = some oe) (hc : oe.cls = .ref 38) (hd : oe.dict = some D) (no : notCls oe = true) (hD : s.heap.get? D = some od) (hl : lookIn (nm "symbol") od = some (some v)) (hv : handedIn v = true)
    (k : Q v (ut s (s.toks + 1))) : wpAny (model p0 w) A (getAttr (.ref e) (nm "symbol") true) Q E s := by
  have I : InstAt s.heap e oe 38 (some od) := ⟨he, hc, no, by rw [hd]; exact hD⟩
  have L0 := I.type (M := model p0 w)
  have L1 := looks_findIn (M := model p0 w) X (ga38 _)
  have L2 := looks_findIn (M := model p0 w) X (gt38 _)
  have hf : findObj (K w.params) 38 (some od) (nm "symbol") = some (.value v) := findObj_own (by unfold hasDictIn; rw [clsErr]; rfl) (sy38 _) rfl hl
  have L3 := looks_find (M := model p0 w) X I hf
  have sub : Looks (model p0 w) s.heap (isInstance (.ref e) (.type "BaseException")) true := L0.andThen (looks_mroIn X (by unfold mroIn; rw [clsErr, Option.bind_some, if_neg (by decide)]; rfl))
  obtain ⟨hh, g, d, t, os⟩ := s
  unfold getAttr getAttrBy
  refine wpAny_bind (wpAny_mkText (wpAny_holding (wpAny_bind (L0.at (wpAny_bind (L1.at ?_))))))
  show wpAny _ _ (getAttrByItsOwn (.ref e) (.str (nm "symbol") t) (.ref 38) (.builtin "BaseException.__getattribute__") true true) _ _ _
  unfold getAttrByItsOwn hookBefore callGetattribute boundAndCalled
  refine wpAny_bind ?_
  show wpAny _ _ (typeLookup (.ref 38) "__getattr__") _ _ _
  refine L2.at ?_
  refine wpAny_bind (wpAny_attempt (wpAny_holding ?_))
  show wpAny _ _ (bindSpecial (.builtin "BaseException.__getattribute__") (.ref e) >>= _) _ _ _
  refine wpAny_bind (wpAny_of_eq (slot_exc_ga.bind _) ?_)
  refine wpAny_call (codeAny_call_builtin slot_exc_ga.plain PySem.F.entry_bexc_ga (@check_slot (model p0 w) _ _ _ "BaseException.__getattribute__" "BaseException" "__getattribute__" (.ref e) [.str (nm "symbol") t] [] _ kind_exc_ga split_exc_ga sub (args_exc_ga _ _) ?_))
  unfold Builtin.«object.__getattribute__»
  refine wpAny_bind (m := slotArgs "__getattribute__" 1 _) (wpAny_pure (wpAny_bind (m := Builtin.ObjectAttr.attrName _) (wpAny_pure (wpAny_bind (L0.at (wpAny_bind (L3.at ?_)))))))
  refine wpAny_pure ?_
  show wpAny _ _ (handedOut v) _ _ _
  rw [handedOut_of hv]; exact wpAny_pure k
end
theorem entry_unchain : entryFor table "proto.unchain" = some Builtin.«proto.unchain» := entryFor_of_tree (by kernel_rfl)
section
variable {prog : Program} {w : World} {A : Around} {E : Value → Shared → Prop} {s : Shared} {e : Addr} {oe : Obj} {vs : Array Value}
theorem next_tuple_end_h {it t : Addr} {i : Nat} {items} {Q : Option Value → Shared → Prop} (hh : A.handled = some (.ref e)) (he : s.heap.get? e = some oe) (hde : oe.data = .fields vs) (h2 : vs[2]? = some .none)
    (hit : IsTupIter s.heap it t i) (hne : it ≠ e) (ht : IsTup s.heap t items) (hx : items[i]? = none)
    (hQ : ∀ h', Heap.ExtBut it s.heap h' → Q none (uh s h')) : wpAny (model prog w) A (pyNext (.ref it)) Q E s := by
  obtain ⟨o, ho, hc, hd⟩ := id hit
  obtain ⟨ol, hol, _, nl, hdl⟩ := ht
  unfold pyNext
  refine wpAny_bind (wpAny_attempt (wpAny_callSpecial?_slot (name := Str.ofString "__next__") hit.typeIs slot_tupleiter_next
    (wpAny_call_entry slot_tupleiter_next hit.typeIs entry_tupleiter_next ?_ (args_tupleiter_next _))))
  show wpAny _ _ (field (.ref it) 0 >>= _) _ _ s
  refine wpAny_bind (wpAny_field ho hd (x := .ref t) rfl ?_)
  show wpAny _ _ (if (Value.ref t == Value.none) = true then _ else _) _ _ s
  rw [if_neg (show ¬ ((Value.ref t == Value.none) = true) from Bool.false_ne_true)]
  show wpAny _ _ (field (.ref it) 1 >>= _) _ _ s
  refine wpAny_bind (wpAny_field ho hd (x := .int i 0) rfl ?_)
  show wpAny _ _ (seqItems? (.ref t) >>= _) _ _ s
  refine wpAny_bind (wpAny_seqItems hol hdl ?_)
  simp only [Int.toNat_natCast, hx]
  refine wpAny_bind (wpAny_rule (wpAny_bind (wpAny_setField ho hd (by simp) ?_)))
  have he₁ : (s.heap.update it (Obj.mapFields (·.setIfInBounds 0 Value.none))).get? e = some oe := (Heap.get?_update_other _ _ hne).trans he
  show wpAny _ _ (newExc (.type "StopIteration") [] >>= _) _ _ _
  refine wpAny_bind ?_
  simp only [newExc, newTuple]
  refine wpAny_bind (wpAny_newObj_type ?_ (by size_fits))
  refine wpAny_bind (m := firstArgMember _ _) (wpAny_of_eq (a := Value.none) (by first | rfl | (simp only [firstArgMember]; rfl)) ?_)
  refine wpAny_newObj_type ?_ (by size_fits)
  simp only [raiseNew]
  refine wpAny_bind (wpAny_handled ?_)
  rw [show A.in1.handled = some (.ref e) from hh]
  generalize hH : (s.heap.update it (Obj.mapFields (·.setIfInBounds 0 Value.none))).push _ = H
  have he₂ : H.get? e = some oe := by rw [← hH]; exact Heap.get?_push_of_some _ he₁
  have hHs : Heap.ExtBut it s.heap H := by rw [← hH]; exact (Heap.SameBut.update ..).extBut.push _
  have hSe : e ≠ H.objs.size := Nat.ne_of_lt (Heap.lt_size he₂)
  dsimp only
  rw [if_pos (by simpa using hSe)]
  refine wpAny_bind (wpAny_holding (wpAny_runValue (codeAny_builtin entry_unchain ?_)))
  show wpAny _ _ (field (.ref e) 2 >>= _) _ _ _
  refine wpAny_bind (wpAny_field (Heap.get?_push_of_some _ he₂) hde h2 ?_)
  rw [if_pos (by decide)]
  refine wpAny_pure ?_
  refine wpAny_bind ?_
  unfold updateField
  refine wpAny_bind (wpAny_load (Heap.get?_push_size H rfl) ?_)
  dsimp only
  rw [if_pos (by rw [Array.size_append]; show 2 < 6 + _; lia)]
  refine wpAny_update (Heap.get?_push_size H rfl) ?_
  refine wpAny_throw ?_
  refine wpAny_bind (wpAny_isInstance (T := "StopIteration") (b := true) ⟨_, Heap.get?_update_self _ (Heap.get?_push_size H rfl) rfl, rfl⟩ isSubtype_stop ?_)
  refine wpAny_pure (hQ _ fun b o hb eb => ?_)
  have eb' := hHs b o hb eb
  exact (Heap.get?_update_other _ _ (Nat.ne_of_gt (Heap.lt_size eb'))).trans (Heap.get?_push_of_some _ eb')
end
end Mine

namespace Mine
open PySem PySem.W PySem.Calls PyProof.Rows

section
variable {prog : Program} {w : World} {A : Around} {E : Value → Shared → Prop} {s : Shared} {e : Addr} {oe : Obj} {vs : Array Value}
theorem unpackItems_h {t : Addr} {items : Array Value} {Q : List Value → Shared → Prop} (hh : A.handled = some (.ref e)) (he : s.heap.get? e = some oe) (hde : oe.data = .fields vs) (h2 : vs[2]? = some .none) (ht : IsTup s.heap t items)
    (hQ : ∀ h', Heap.ExtBut s.heap.objs.size s.heap h' → Q items.toList (uh s h')) : wpAny (model prog w) A (unpackItems (.ref t) items.size none) Q E s := by
  have hlt : t ≠ s.heap.objs.size := by obtain ⟨o, ho, _⟩ := ht; exact Nat.ne_of_lt (Heap.lt_size ho)
  have hle : e ≠ s.heap.objs.size := Nat.ne_of_lt (Heap.lt_size he)
  unfold unpackItems
  refine wpAny_bind ?_
  unfold notIterableAtAll
  refine wpAny_bind (wpAny_specialOf ht.typeIs slot_tuple_iter.lookup ?_)
  refine wpAny_pure ?_
  simp only [Bool.false_eq_true, if_false]
  refine wpAny_bind (wpAny_holding (iter_tuple ht ?_))
  refine wpAny_bind (wpAny_holding (draw_tuple hlt items.size 0 _ _ ⟨_, Heap.get?_push_size _ rfl, rfl, rfl⟩ (ht.push _) (by lia) fun h₁ hit₁ hs₁ => ?_))
  have hall : List.take items.size (List.drop 0 items.toList) = items.toList := by
    rw [List.drop_zero]; exact List.take_of_length_le (by simp)
  rw [hall]
  rw [if_neg (by simp)]
  have ht₁ : IsTup h₁ t items := (ht.push _).extBut hs₁.extBut hlt
  have he₁ : h₁.get? e = some oe := (hs₁.2 e hle).trans (Heap.get?_push_of_some _ he)
  refine wpAny_bind (wpAny_holding (next_tuple_end_h (s := (uh s h₁)) hh he₁ hde h2 hit₁ (Ne.symm hle) ht₁ (by simp) fun h₂ he₂ => ?_))
  simp only [Option.isSome_none, Bool.false_eq_true, if_false]
  exact wpAny_pure (hQ h₂ fun b o hb e => he₂ b o hb (hs₁.extBut b o hb (Heap.get?_push_of_some _ e)))
end
section
variable {c : Ct} {m : I.Fm} {σ : I.H} {n : Nat} {l : List (Str × Value)} {news : List (Addr × Obj)} {s : Shared} {x y p q r : String} {v : I.V} {h h' : Heap}
open I
/-- a name gone -/
noncomputable def without (x : Str) (v : Option Value) (l : List (Str × Value)) : List (Str × Value) := match v with
  | some u => (x, u) :: l
  | none => l.filter fun p => !(p.1 == x)
theorem lookup_filter {x y : Str} : ∀ {l : List (Str × Value)}, List.lookup y (l.filter fun p => !(p.1 == x)) = if y = x then none else List.lookup y l
  | [] => by split <;> rfl
  | (a, b) :: r => by
    rw [List.filter_cons]
    by_cases z : a = x
    · subst z
      rw [if_neg (by simp), lookup_filter]
      by_cases t : y = a
      · rw [if_pos t, if_pos t]
      · rw [if_neg t, if_neg t, List.lookup_cons, beq_eq_false_iff_ne.mpr t]
    · rw [if_pos (by simpa using z), List.lookup_cons, List.lookup_cons, lookup_filter]
      by_cases t : y = a
      · subst t; simp [z]
      · rw [beq_eq_false_iff_ne.mpr t]
theorem lookup_without {x y : Str} {v : Option Value} {l : List (Str × Value)} : List.lookup y (without x v l) = if y = x then v else List.lookup y l := by
  cases v with
  | none => exact lookup_filter
  | some u =>
    show List.lookup y ((x, u) :: l) = _
    rw [List.lookup_cons]
    by_cases t : y = x
    · subst t; rw [beq_self_eq_true, if_pos rfl]
    · rw [beq_eq_false_iff_ne.mpr t, if_neg t]
theorem St.gone {m' : Fm} {v : Option Value} (hfl : c.fl = none) (st : St c m σ h l news) (hn : h'.Ns c.env.locals fun y => if y = nm x then v else List.lookup y l) (hs : Heap.SameBut c.env.locals h h') (hc : m'.c = m.c) (hm : ∀ y u, m'.l.lookup y = some u → y ≠ x ∧ m.l.lookup y = some u) :
    St c m' σ h' (without (nm x) v l) news := by
  have ho : ∀ l, c.own l = l := fun l => by unfold Ct.own; rw [hfl]; rfl
  have hL := c.hlo hfl
  rw [hL] at hn hs
  have cx := st.cx
  rw [ho] at cx
  obtain ⟨B, X, T, hh, F, N, nd⟩ := cx
  have e1 : (fun y => List.lookup y (without (nm x) v l)) = fun y => if y = nm x then v else List.lookup y l := funext fun y => lookup_without
  refine ⟨?_, st.rel, fun y u e => ?_, fun y i z e => st.cr y i z (hc ▸ e), fun z => by rw [hfl] at z; cases z⟩
  · rw [ho]
    refine ⟨B, X, T, hh, ?_, fun p hp => ?_, nd⟩
    · rw [e1]
      exact F.set hn hs
    · exact ⟨(hs.2 _ (N p hp).2.1).trans (N p hp).1, (N p hp).2⟩
  · obtain ⟨h1, h2⟩ := hm y u e
    obtain ⟨cv, h3, h4⟩ := st.lr y u h2
    exact ⟨cv, by rw [lookup_without, if_neg fun q => h1 (nm_inj q)]; exact h3, h4⟩

/-- the heap in which an exception was taken -/
theorem St.caught {h₀ : Heap} {ea : Addr} {sy : String} {news' : List (Addr × Obj)} {σ' : H} {fl : Option Value} (hfl : c.fl = none) (hbg : c.base = c.g) (st : St c m σ h l news) (F : Fr c.g c.L h₀ (fun y => List.lookup y l)) (ups : h₀.UpToSlots h') (R : RaisedD c.base (c.fenv :: c.outer) ea sy news' h' fl) (hr : Rel σ' news') (nd : (adr news').Nodup) (p : adr news <+: adr news') : St c m σ' h' l news' := by
  have ho : ∀ l, c.own l = l := fun l => by unfold Ct.own; rw [hfl]; rfl
  obtain ⟨B', D, od, r1, r2, r3, r4, r5, f1, f2, f3, f4⟩ := R
  have cx := st.cx
  obtain ⟨B, X, T, hh, F', N, nd'⟩ := cx
  have hLB : B'.get? c.L = none := (f3.mem (List.mem_filterMap.mpr ⟨c.fenv, List.mem_cons_self .., c.ffr⟩)).1
  refine ⟨⟨B, X, T, hh, ?_, fun q hq => ?_, nd⟩, hr, fun y u e => ?_, fun y i z e => ?_, fun z => by rw [hfl] at z; cases z⟩
  · rw [ho]
    exact F.of_stays (fun b o e => f1 b o (r1 b o (hbg ▸ e))) ups
  · refine ⟨f1 _ _ (r2 q hq).1, fun z => ?_, hbg ▸ (r2 q hq).2⟩
    have := (r2 q hq).1
    rw [z, hLB] at this; cases this
  · obtain ⟨cv, h1, h2⟩ := st.lr y u e
    exact ⟨cv, h1, h2.mono p⟩
  · obtain ⟨a, h1, h2⟩ := st.cr y i z e
    exact ⟨a, h1, pre_get p h2⟩
end
section
variable {c : Ct} {m : I.Fm} {σ : I.H} {n : Nat} {l : List (Str × Value)} {news : List (Addr × Obj)} {s : Shared} {x y p q r : String} {v : I.V} {h h' : Heap} {E : Value → Shared → Prop}
variable {pa pb pc pd pe pf pg ph pi pj pq pos : Pos} {kt ke kv : Nat}
open I
/-- what stands in the handler's suite -/
theorem try_suite {A : Around} {ea D : Addr} {oe od : Obj} {vs : Array Value} {Q : Flow → Shared → Prop} (hfl : c.fl = none) (hh : A.handled = some (.ref ea))
    (hxl : c.cs.names.lookup (nm x) = some .local) (hpl : c.cs.names.lookup (nm p) = some .local) (hql : c.cs.names.lookup (nm q) = some .local) (hrl : c.cs.names.lookup (nm r) = some .local)
    (dx : (nm x == ("__debug__" : Str)) = false) (dr : (nm r == ("__debug__" : Str)) = false)
    (hatt : eval (.Attribute (.Name (nm x) pc) (nm "symbol") pd) c.env = (do
      let o ← eval (.Name (nm x) pc) c.env
      standAt pd.atName
      let r ← holding [o] (getAttr o (nm "symbol") true)
      letTemporaryGo (.Name (nm x) pc) o r
      pure r))
    (hm : behindInMarks .NotEq (.Constant (.str (nm "error")) ke pe) = false)
    (hs : swapsWithSole [.Tuple [.Name (nm p) pa, .Name (nm q) pb] kt ph] (.Tuple [.Compare (.Attribute (.Name (nm x) pc) (nm "symbol") pd) [.NotEq] [.Constant (.str (nm "error")) ke pe] pf, .Name (nm r) pg] kv pi) pos.line c.env = pure false)
    (hw : swappedStores [.Tuple [.Name (nm p) pa, .Name (nm q) pb] kt ph] (.Tuple [.Compare (.Attribute (.Name (nm x) pc) (nm "symbol") pd) [.NotEq] [.Constant (.str (nm "error")) ke pe] pf, .Name (nm r) pg] kv pi) c.env = pure (some [nm p, nm q]))
    (st : St c m σ s.heap l news) (hlx : List.lookup (nm x) l = some (.ref ea)) (hr : m.l.lookup r = some v)
    (he : s.heap.get? ea = some oe) (hec : oe.cls = .ref 38 ∧ oe.dict = some D) (hde : oe.data = .fields vs) (h2 : vs[2]? = some .none) (hD : s.heap.get? D = some od) (so : SymObj "error" od)
    (k : ∀ h' tk l', St c ⟨(p, .bool false) :: (q, v) :: m.l, m.c⟩ σ h' l' news → Q .next (up s h' tk)) :
    wpAny (model p0 c.w) A (exec (.Assign [.Tuple [.Name (nm p) pa, .Name (nm q) pb] kt ph] (.Tuple [.Compare (.Attribute (.Name (nm x) pc) (nm "symbol") pd) [.NotEq] [.Constant (.str (nm "error")) ke pe] pf, .Name (nm r) pg] kv pi) pos) c.env) Q E s := by
  obtain ⟨es, n', t, rfl, hl⟩ := so
  obtain ⟨cv, hc1, hc2⟩ := st.lr r v hr
  refine Assign_Tuple_swapped (Tuple_ (spliced_more (wpAny_Compare1 (Attribute_any_ (wpAny_Name (wpAny_loadName_local c.kind (by rw [c.kindOf]; exact hxl) st.loc hlx ?_) dx) hatt) hm) rfl)) hs hw
  refine get_err (s := s) (v := .str (nm "error") t) st.bs.X he hec.1 hec.2 (by unfold notCls; rw [hde]) hD (by rw [lookIn_dict]; exact hl) rfl ?_
  refine wpAny_Constant_str (SeqAt.RcNeAt.str_str _ _ _ _ _ _ _ _ ?_)
  refine spliced_more (wpAny_Name (wpAny_loadName_local c.kind (by rw [c.kindOf]; exact hrl) st.loc hc1 (spliced_none ?_)) dr) rfl
  refine wpAny_newObj_type ?_ (by show (2 : Nat) ≤ sizeLine; rw [sizeLine_eq]; decide)
  rw [beq_self_eq_true, Bool.not_true]
  have st₂ := st.grow (Grow.push s.heap { cls := .type "tuple", data := .seq [Value.bool false, cv].toArray })
  have hT : IsTup (s.heap.push { cls := .type "tuple", data := .seq [Value.bool false, cv].toArray }) s.heap.objs.size #[.bool false, cv] := ⟨_, Heap.get?_push_size _ rfl, rfl, 0, rfl⟩
  refine unpackItems_h (items := #[.bool false, cv]) hh (Heap.get?_push_of_some _ he) hde h2 hT fun h' hx => ?_
  have st₃ := st₂.grow (h' := h') fun b o e => hx b o (Nat.ne_of_lt (Heap.lt_size e)) e
  show wpAny _ _ (assignInOrder [bindName c.env (nm q), bindName c.env (nm p)] [cv, .bool false]) _ _ _
  refine assignInOrder_cons (bindName_ (st₃.storeS (s := ⟨h', s.gens, s.drawn, s.toks + 1 + 1, s.os⟩) hfl hc2 hql fun h₄ t₄ st₄ _ => ?_))
  exact assignInOrder_cons (bindName_ (st₄.storeS (s := ⟨h₄, s.gens, s.drawn, t₄, s.os⟩) hfl (.bool (b := false)) hpl fun h₅ t₅ st₅ _ => assignInOrder_nil (k h₅ t₅ _ st₅)))
end
end Mine

namespace Mine
open PySem PySem.W PySem.Calls PyProof.Rows
section
variable {c : Ct} {m : I.Fm} {σ : I.H} {n : Nat} {x y p q r : String} {ra : I.R I.V} {pe : PySem.Expr} {body : List Stmt} {fb : I.Fm → I.H → I.R (I.Fl × I.Fm)}
variable {pa pb pc pd p1 p2 pf pg ph pi pj pk pl pq pos pos1 : Pos} {kt ke kv : Nat}
open I
theorem try_look {l : List (String × V)} {v w b u : V} {z : String} (npq : p ≠ q) (npx : p ≠ x) (nqx : q ≠ x) (hmx : l.lookup x = .none) (hz : List.lookup z ((q, v) :: (p, b) :: l) = some u) :
    z ≠ x ∧ List.lookup z ((p, b) :: (q, v) :: (x, w) :: l) = some u := by
  simp only [List.lookup_cons] at hz ⊢
  by_cases zx : z = x
  · subst zx
    rw [beq_eq_false_iff_ne.mpr (Ne.symm nqx), beq_eq_false_iff_ne.mpr (Ne.symm npx)] at hz
    dsimp only at hz
    rw [hmx] at hz; cases hz
  · refine ⟨zx, ?_⟩
    rw [beq_eq_false_iff_ne.mpr zx]
    by_cases zp : z = p
    · subst zp
      rw [beq_eq_false_iff_ne.mpr npq, beq_self_eq_true] at hz
      rw [beq_self_eq_true]
      exact hz
    · rw [beq_eq_false_iff_ne.mpr zp] at hz ⊢
      exact hz
theorem js_try0 {sv : Stmt} (hfe : c.env = c.fenv) (hfl : c.fl = none) (hbg : c.base = c.g)
    (hyl : c.cs.names.lookup (nm y) = some .local) (hxl : c.cs.names.lookup (nm x) = some .local) (hpl : c.cs.names.lookup (nm p) = some .local) (hql : c.cs.names.lookup (nm q) = some .local) (hrl : c.cs.names.lookup (nm r) = some .local)
    (hls : c.cs.names.lookup (nm "LispSignal") = some .globalImplicit)
    (npq : p ≠ q) (npx : p ≠ x) (nqx : q ≠ x)
    (hsy : swapsWith pe (some (.Name (nm y) p1)) pos1.line c.env = pure false)
    (hS : ∀ {A : Around} {ea D : Addr} {oe od : Obj} {vs : Array Value} {s : Shared} {l : List (Str × Value)} {news : List (Addr × Obj)} {σ : H} {v : V} {l' : List (String × V)} {Q : Flow → Shared → Prop} {E : Value → Shared → Prop}, A.handled = some (.ref ea) → St c ⟨l', m.c⟩ σ s.heap l news → List.lookup (nm x) l = some (.ref ea) → l'.lookup r = some v → s.heap.get? ea = some oe → (oe.cls = .ref 38 ∧ oe.dict = some D) → oe.data = .fields vs → vs[2]? = some .none → s.heap.get? D = some od → SymObj "error" od →
      (∀ h' tk ls, St c ⟨(p, .bool false) :: (q, v) :: l', m.c⟩ σ h' ls news → Q .next (up s h' tk)) → wpAny (model p0 c.w) A (exec sv c.env) Q E s)
    (ha : JE c m pe σ ra) (hb : ∀ m σ, JSs c m body σ (fb m σ)) :
    JS c m (.Try (.Assign [.Name (nm y) p1] pe pos1 :: body) [.ExceptHandler (some (.Name (nm "LispSignal") p2)) (some (nm x)) [sv] pk] [] [] pos) σ (match (generalizing := false) ra with
      | .ok v σ => match fb ⟨(y, v) :: m.l, m.c⟩ σ with
        | .ok a σ => .ok a σ
        | _ => .bad
      | .bad => .bad
      | .exc s σ => if s = "error" ∧ m.l.lookup x = .none then (match m.l.lookup r with
        | some v => .ok (.next, ⟨(q, v) :: (p, .bool false) :: m.l, m.c⟩) σ
        | .none => .bad) else .bad) := fun s l news Q E st k => by
  refine wpAny_Try_except (st_seq (wpAny_Assign_Name (ha s l news _ _ st ?_) hsy))
  cases ra with
  | bad => exact k.elim
  | ok v σ₁ =>
    intro h₁ t₁ n₁ cv st₁ p₁ v₁
    refine st₁.store (s := (up s h₁ t₁)) hfl v₁ hyl fun h₂ t₂ st₂ => hb _ _ (up s h₂ t₂) _ _ _ _ st₂ ?_
    dsimp only at k
    cases hq : fb ⟨(y, v) :: m.l, m.c⟩ σ₁ with
    | bad => rw [hq] at k; exact k.elim
    | exc sy σ₂ => rw [hq] at k; exact k.elim
    | ok a σ₂ =>
      rw [hq] at k
      intro h₃ t₃ n₃ l₃ cfl st₃ p₃ f₃
      obtain ⟨fl, m₃⟩ := a
      cases f₃ with
      | next => exact wpAny_execs_nil (M := model p0 c.w) (k h₃ t₃ n₃ l₃ _ st₃ (p₁.trans p₃) .next)
      | ret hv => exact k h₃ t₃ n₃ l₃ _ st₃ (p₁.trans p₃) (.ret hv)
  | exc sy σ₁ =>
    obtain ⟨⟨rfl, hmx⟩, k₁⟩ := contS_if k
    cases hr : m.l.lookup r with
    | none => rw [hr] at k₁; exact k₁.elim
    | some v =>
    rw [hr] at k₁
    dsimp only at k₁
    intro s' e X
    rw [own_none hfl] at X
    refine X.note hfe st.cx.B fun ea h₀ h₁ n₁ t₁ he F ups R hrel nd hp => ?_
    subst he
    obtain ⟨B', D, od, r1, r2, r3, r4, r5, r6⟩ := R
    refine flightD (s := (up s h₁ t₁)) (f := none) (.inr rfl) r6 fun h₂ f2 u2 => ?_
    have st₂ := st.caught (h' := h₂) hfl hbg F (ups.trans u2) ⟨B', D, od, r1, r2, r3, r4, r5, f2⟩ hrel nd hp
    have f2' : FlyD B' (c.fenv :: c.outer) ea D h₂ none := f2
    obtain ⟨-, -, -, oe, vs, T, oT, ts, g1, g2, g3, -⟩ := f2
    refine wpAny_handleBy_cons (codeAny_handlers_test (Name_function_global c.kind (by rw [c.kindOf]; exact hls) (loadGlobal_global (by rw [c.hg]; exact st₂.bs.T.g) (mg_of st₂.bs.X st₂.bs.T.g gl_LispSignal) (wpAny_excMatches_sub_self (st₂.bs.X _ _ (lk38 _)) g1 g2.1 rfl ?_)) (by decide +kernel))) (by intro z; cases z)
    dsimp only
    refine codeAny_handlers_suite_as (flightD (L := c.L) (s := (up s h₂ t₁)) (f := none) (.inl rfl) f2' fun h₃ f3 u3 => ?_)
    have st₃ := st.caught (h' := h₃) hfl hbg F ((ups.trans u2).trans u3) ⟨B', D, od, r1, r2, r3, r4, r5, f3⟩ hrel nd hp
    obtain ⟨j1, -, j3, oe, vs, T, oT, ts, g1, g2, g3, g4, -⟩ := f3
    obtain ⟨hLB, oL, hoL, hnL⟩ := j3.mem (List.mem_filterMap.mpr ⟨c.fenv, List.mem_cons_self .., c.ffr⟩)
    have neL : ea ≠ c.L := fun z => by rw [← z, g1] at hoL; cases hoL; exact hnL _ g3
    have hD3 := j1 _ _ r3
    have nDL : D ≠ c.L := fun z => by rw [z, hLB] at r3; cases r3
    refine st₃.storeS (s := (up s h₃ t₁)) (x := x) (v := .glob ea) hfl .glob hxl fun h₄ t₄ st₄ hs₄ => ?_
    by_cases rx : r = x
    · subst rx; rw [hmx] at hr; cases hr
    have hr' : (⟨(x, V.glob ea) :: m.l, m.c⟩ : Fm).l.lookup r = some v := by
      show List.lookup r ((x, V.glob ea) :: m.l) = _
      rw [List.lookup_cons, beq_eq_false_iff_ne.mpr rx]; exact hr
    refine st_seq (hS (s := (up s h₄ t₄)) rfl st₄ List.lookup_cons_self hr' ((hs₄.2 _ neL).trans g1) g2 g3 g4 ((hs₄.2 _ nDL).trans hD3) r5 fun h₅ t₅ l₅ st₅ => ?_)
    refine wpAny_execs_nil (M := model p0 c.w) ?_
    dsimp only
    refine wpAny_nameGoes_keeps (by rw [c.kindOf]; exact hxl) st₅.loc (by rw [c.kind]; rfl) fun h₆ v₆ hn₆ hs₆ => ?_
    refine k₁ h₆ _ _ _ _ (st₅.gone (m' := ⟨(q, v) :: (p, .bool false) :: m.l, m.c⟩) hfl hn₆ hs₆ rfl fun z u hz => ?_) hp .next
    exact try_look npq npx nqx hmx hz
theorem js_try (hfe : c.env = c.fenv) (hfl : c.fl = none) (hbg : c.base = c.g)
    (hyl : c.cs.names.lookup (nm y) = some .local) (hxl : c.cs.names.lookup (nm x) = some .local) (hpl : c.cs.names.lookup (nm p) = some .local) (hql : c.cs.names.lookup (nm q) = some .local) (hrl : c.cs.names.lookup (nm r) = some .local)
    (hls : c.cs.names.lookup (nm "LispSignal") = some .globalImplicit)
    (dx : (nm x == ("__debug__" : Str)) = false) (dr : (nm r == ("__debug__" : Str)) = false) (npq : p ≠ q) (npx : p ≠ x) (nqx : q ≠ x)
    (hsy : swapsWith pe (some (.Name (nm y) p1)) pos1.line c.env = pure false)
    (hatt : eval (.Attribute (.Name (nm x) pc) (nm "symbol") pd) c.env = (do
      let o ← eval (.Name (nm x) pc) c.env
      standAt pd.atName
      let r ← holding [o] (getAttr o (nm "symbol") true)
      letTemporaryGo (.Name (nm x) pc) o r
      pure r))
    (hm : behindInMarks .NotEq (.Constant (.str (nm "error")) ke pl) = false)
    (hs : swapsWithSole [.Tuple [.Name (nm p) pa, .Name (nm q) pb] kt ph] (.Tuple [.Compare (.Attribute (.Name (nm x) pc) (nm "symbol") pd) [.NotEq] [.Constant (.str (nm "error")) ke pl] pf, .Name (nm r) pg] kv pi) pj.line c.env = pure false)
    (hw : swappedStores [.Tuple [.Name (nm p) pa, .Name (nm q) pb] kt ph] (.Tuple [.Compare (.Attribute (.Name (nm x) pc) (nm "symbol") pd) [.NotEq] [.Constant (.str (nm "error")) ke pl] pf, .Name (nm r) pg] kv pi) c.env = pure (some [nm p, nm q]))
    (ha : JE c m pe σ ra) (hb : ∀ m σ, JSs c m body σ (fb m σ)) :
    JS c m (.Try (.Assign [.Name (nm y) p1] pe pos1 :: body) [.ExceptHandler (some (.Name (nm "LispSignal") p2)) (some (nm x)) [.Assign [.Tuple [.Name (nm p) pa, .Name (nm q) pb] kt ph] (.Tuple [.Compare (.Attribute (.Name (nm x) pc) (nm "symbol") pd) [.NotEq] [.Constant (.str (nm "error")) ke pl] pf, .Name (nm r) pg] kv pi) pj] pk] [] [] pos) σ (match (generalizing := false) ra with
      | .ok v σ => match fb ⟨(y, v) :: m.l, m.c⟩ σ with
        | .ok a σ => .ok a σ
        | _ => .bad
      | .bad => .bad
      | .exc s σ => if s = "error" ∧ m.l.lookup x = .none then (match m.l.lookup r with
        | some v => .ok (.next, ⟨(q, v) :: (p, .bool false) :: m.l, m.c⟩) σ
        | .none => .bad) else .bad) := js_try0 hfe hfl hbg hyl hxl hpl hql hrl hls npq npx nqx hsy (fun hh st hlx hr he hec hde h2 hD so k => try_suite hfl hh hxl hpl hql hrl dx dr hatt hm hs hw st hlx hr he hec hde h2 hD so k) ha hb
end
end Mine

namespace Mine
open PySem PySem.W PySem.Calls PyProof.Rows
section
variable {c : Ct} {m : I.Fm} {σ : I.H} {pos : Pos} {pa pb pc : PySem.Expr} {ra : I.R I.V} {fb fc : I.H → I.R I.V}
open I
theorem r_assoc {α β γ : Type} (r : R α) (f : α → H → R β) (g : β → H → R γ) : (r.bind f).bind g = r.bind fun v σ => (f v σ).bind g := by cases r <;> rfl
theorem q_bind {α β γ : Type} (o : Option α) (f : α → R β) (g : β → H → R γ) : (bad? o f).bind g = bad? o fun v => (f v).bind g := by cases o <;> rfl
theorem jt_cmp2 {o₁ o₂ : Cop} (hu : c.A'.units + 64 < cLine) (hm : lastMarks [cop o₁, cop o₂] [pb, pc] = false) (ha : JE c m pa σ ra) (hb : ∀ σ, JE c m pb σ (fb σ)) (hc : ∀ σ, JE c m pc σ (fc σ)) :
    JT c m (.Compare pa [cop o₁, cop o₂] [pb, pc] pos) σ (ra.bind fun v σ => (fb σ).bind fun u σ => bad? (cmp1 σ o₁ v u) fun t =>
        if t then (fc σ).bind fun x σ => bad? (cmp1 σ o₂ u x) fun b => .ok (.bool b) σ else .ok (.bool false) σ) := fun s l news Q E st k => by
  rw [r_assoc] at k
  refine isTrue_chain (ha s l news _ _ st (k.bind fun v σ₁ _ h₁ t₁ n₁ cv st₁ p₁ v₁ k₁ => ?_)) hm
  rw [r_assoc] at k₁
  refine test_link (hb σ₁ _ l n₁ _ _ st₁ (k₁.bind fun u σ₂ _ h₂ t₂ n₂ cu st₂ p₂ v₂ k₂ => ?_))
  rw [q_bind] at k₂
  obtain ⟨b, e, k₃⟩ := cont_m k₂
  refine cmp_ok st₂ hu (v₁.mono p₂) v₂ e (wpAny_truthy_bool ?_)
  cases b with
  | false => exact k₃ _ _ _ _ st₂ pre rfl
  | true =>
    rw [if_pos rfl] at k₃ ⊢
    rw [r_assoc] at k₃
    refine test_last (hc σ₂ _ l n₂ _ _ st₂ (k₃.bind fun x σ₃ _ h₃ t₃ n₃ cx st₃ p₃ v₃ k₄ => ?_))
    rw [q_bind] at k₄
    obtain ⟨b, e, k₅⟩ := cont_m k₄
    exact cmp_ok st₃ hu (v₂.mono p₃) v₃ e (wpAny_truthy_bool (k₅ _ _ _ _ st₃ pre rfl))
end
end Mine

namespace Mine
open PySem PySem.W PySem.Calls PyProof.Rows

/-- an environment of which only the scope is asked -/
noncomputable abbrev envS (S : Scope) : Env := { scope := S, locals := 0, globals := 0, cells := [] }
theorem swapsWith_scope (v : PySem.Expr) (t : Option PySem.Expr) (n : Nat) (env : Env) : swapsWith v t n env = swapsWith v t n (envS env.scope) := by cases env; rfl
theorem swappedStores_scope (ts : List PySem.Expr) (v : PySem.Expr) (env : Env) : swappedStores ts v env = swappedStores ts v (envS env.scope) := by cases env; rfl
theorem interactive_scope (env : Env) : interactive env = interactive (envS env.scope) := by cases env; rfl

noncomputable def noStar : PySem.Expr → Bool
  | .Starred .. => false
  | _ => true
theorem noStar_ok {c : Ct} {pe : PySem.Expr} (h : noStar pe = true) : NoStar c pe := fun pes => by cases pe <;> first | rfl | cases h
noncomputable def allStar (pes : List PySem.Expr) : Bool := pes.all noStar && decide (pes.length < 30)
theorem allStar_any {c : Ct} {pos : Pos} : ∀ {pes : List PySem.Expr}, pes.all noStar = true → (backTo pos (starEach pes c.env)).any (·.1) = false
  | [], _ => rfl
  | pe :: pes, h => by
    rw [List.all_cons, Bool.and_eq_true] at h
    rw [noStar_ok h.1 pes]
    have := allStar_any (pos := pos) h.2 (c := c)
    unfold backTo at this ⊢
    rw [List.map_cons, List.any_cons, this]; rfl
theorem allStar_len {c : Ct} {pos : Pos} {pes : List PySem.Expr} (h : allStar pes = true) : methodCallForm pes.length (backTo pos (starEach pes c.env)) [] = true := by
  unfold allStar at h
  rw [Bool.and_eq_true] at h
  have a := allStar_any (pos := pos) (c := c) h.1
  unfold methodCallForm
  have b : (backTo pos (starEach pes c.env)).all (!·.1) = true := by
    rw [List.all_eq_true]
    intro x hx
    rw [List.any_eq_false] at a
    have := a x hx
    cases q : x.1 <;> simp_all
  have l := of_decide_eq_true h.2
  rw [b]
  simp; lia
theorem allStar_plain {c : Ct} {pes : List PySem.Expr} (h : pes.all noStar = true) : Plain c pes := by
  cases pes with
  | nil => exact .inl rfl
  | cons pe pes =>
    rw [List.all_cons, Bool.and_eq_true] at h
    exact .inr ⟨pe, pes, rfl, noStar_ok h.1 pes⟩
theorem allStar_all {pes : List PySem.Expr} (h : allStar pes = true) : pes.all noStar = true := by
  unfold allStar at h
  rw [Bool.and_eq_true] at h; exact h.1
noncomputable def noCall : PySem.Expr → Bool
  | .Call .. => false
  | _ => true
theorem noCall_ok {pe : PySem.Expr} {x : Str} {env : Env} {w : Sem Value} (h : noCall pe = true) : attributeBase pe x env w = w := by cases pe <;> first | rfl | cases h
theorem att_he {pe : PySem.Expr} {x : Str} {pos : Pos} {env : Env} (h : noCall pe = true) : eval (.Attribute pe x pos) env = (do
      let o ← eval pe env
      standAt pos.atName
      let r ← holding [o] (getAttr o x true)
      letTemporaryGo pe o r
      pure r) := by cases pe <;> first | rfl | cases h
noncomputable def noComp : PySem.Expr → Bool
  | .ListComp .. => false
  | .SetComp .. => false
  | .DictComp .. => false
  | _ => true
theorem noComp_ok {pe : PySem.Expr} {t : Option PySem.Expr} {n : Nat} {env : Env} (h : noComp pe = true) : swapsWith pe t n env = pure false := by cases pe <;> first | rfl | cases h
theorem noComp_sole {pe : PySem.Expr} {t : PySem.Expr} {n : Nat} {env : Env} (h : noComp pe = true) : swapsWithSole [t] pe n env = pure false := noComp_ok h
noncomputable def noSlice : PySem.Expr → Bool
  | .Slice .. => false
  | _ => true
theorem noSlice_ok {pe : PySem.Expr} {o i : Value} (h : noSlice pe = true) : subscripted pe false o i = operate [o, i] (getItem o i) := by cases pe <;> first | rfl | cases h
noncomputable def noSet : PySem.Expr → Bool
  | .Set .. => false
  | _ => true
theorem noSet_ok {pe : PySem.Expr} {env : Env} {x : Value} (h : noSet pe = true) : foldedSetIterable pe env x = pure x := by cases pe <;> first | rfl | cases h
theorem noSet_mark {pe : PySem.Expr} {o : CmpOp} (h : noSet pe = true) : behindInMarks o pe = false := by cases pe <;> first | rfl | cases h
noncomputable def plainT : PySem.Expr → Bool
  | .UnaryOp .. => false
  | .BoolOp .. => false
  | .IfExp .. => false
  | .Compare .. => false
  | _ => true
theorem plainT_ok {pe : PySem.Expr} {env : Env} (h : plainT pe = true) (whole : Sem Value) : isTrue pe env whole = (do let v ← whole; standAt pe.pos; holding [v] (truthy v)) := by cases pe <;> first | rfl | cases h

structure Ec (c : Ct) (S : Scope) (N : Nat) : Prop where
  cs : c.cs = S
  bud : Bud c N
  call : ∀ k < N, CallOk I.fns I.mets I.inits k
theorem Bud.mono {c : Ct} {n k : Nat} (b : Bud c n) (h : k ≤ n) : Bud c k := ⟨by have := b.depth; lia, by have := b.units; lia⟩

open I
noncomputable def SE (b : Bool) (S : Scope) (N : Nat) (pe : PySem.Expr) (e : ME) : Prop := ∀ c, Ec c S N → (b = true → c.fl = none) → ∀ n ≤ N, ∀ m σ, JE c m pe σ (evalI fns mets inits n m e σ)
noncomputable def ST (b : Bool) (S : Scope) (N : Nat) (pe : PySem.Expr) (e : ME) : Prop := ∀ c, Ec c S N → (b = true → c.fl = none) → ∀ n ≤ N, ∀ m σ, JT c m pe σ (evalI fns mets inits n m e σ)
noncomputable def SEs (b : Bool) (S : Scope) (N : Nat) (pes : List PySem.Expr) (es : List ME) : Prop := ∀ c, Ec c S N → (b = true → c.fl = none) → ∀ n ≤ N, ∀ m σ, JEs c m pes σ (evalsI fns mets inits n m es σ)
theorem je_bad {c : Ct} {m : Fm} {pe : PySem.Expr} {σ : H} : JE c m pe σ .bad := fun _ _ _ _ _ _ k => k.elim
theorem jt_bad {c : Ct} {m : Fm} {pe : PySem.Expr} {σ : H} : JT c m pe σ .bad := fun _ _ _ _ _ _ k => k.elim
theorem jes_bad {c : Ct} {m : Fm} {pe : List PySem.Expr} {σ : H} : JEs c m pe σ .bad := fun _ _ _ _ _ _ _ k => k.elim
section
variable {b : Bool} {S : Scope} {N : Nat} {pe : PySem.Expr} {e : ME} {pes : List PySem.Expr} {es : List ME}
theorem se_succ (h : ∀ c, Ec c S N → (b = true → c.fl = none) → ∀ n, n + 1 ≤ N → ∀ m σ, JE c m pe σ (evalI fns mets inits (n + 1) m e σ)) : SE b S N pe e := fun c x y n hn m σ => by
  cases n with
  | zero => rw [evalI]; exact je_bad
  | succ n => exact h c x y n hn m σ
theorem st_succ (h : ∀ c, Ec c S N → (b = true → c.fl = none) → ∀ n, n + 1 ≤ N → ∀ m σ, JT c m pe σ (evalI fns mets inits (n + 1) m e σ)) : ST b S N pe e := fun c x y n hn m σ => by
  cases n with
  | zero => rw [evalI]; exact jt_bad
  | succ n => exact h c x y n hn m σ
theorem ses_succ (h : ∀ c, Ec c S N → (b = true → c.fl = none) → ∀ n, n + 1 ≤ N → ∀ m σ, JEs c m pes σ (evalsI fns mets inits (n + 1) m es σ)) : SEs b S N pes es := fun c x y n hn m σ => by
  cases n with
  | zero => rw [evalsI]; exact jes_bad
  | succ n => exact h c x y n hn m σ
variable {pa pb pc : PySem.Expr} {a a' a'' : ME} {pos p f apos : Pos} {x : String} {kd : Nat}
theorem se_stuck : SE b S N pe .stuck := se_succ fun c E fl n hn m σ => by rw [evalI]; exact je_bad
theorem st_stuck : ST b S N pe .stuck := st_succ fun c E fl n hn m σ => by rw [evalI]; exact jt_bad
theorem se_loc (hx : S.names.lookup (nm x) = some .local := by kernel_rfl) (hd : (nm x == ("__debug__" : Str)) = false := by decide +kernel) : SE b S N (.Name (nm x) pos) (.loc x) := se_succ fun c E fl n hn m σ => by rw [evalI]; exact je_loc (by rw [E.cs]; exact hx) hd
theorem se_cel (hx : S.names.lookup (nm x) = some .cell := by kernel_rfl) (hd : (nm x == ("__debug__" : Str)) = false := by decide +kernel) : SE b S N (.Name (nm x) pos) (.cel x) := se_succ fun c E fl n hn m σ => by rw [evalI]; exact je_cel (by rw [E.cs]; exact hx) hd
theorem se_bnd (hx : S.names.lookup (nm "BOUNDARY") = some .globalImplicit := by kernel_rfl) : SE b S N (.Name (nm "BOUNDARY") pos) .bnd := se_succ fun c E fl n hn m σ => by rw [evalI]; exact je_bnd (by rw [E.cs]; exact hx)
theorem se_int {z : Int} : SE b S N (.Constant (.int z) kd pos) (.int z) := se_succ fun c E fl n hn m σ => by rw [evalI]; exact je_int
theorem se_neg {z : Int} : SE b S N (.UnaryOp .USub (.Constant (.int z) kd p) pos) (.int (-z)) := se_succ fun c E fl n hn m σ => by rw [evalI]; exact je_neg
theorem se_str {z : String} : SE b S N (.Constant (.str (nm z)) kd pos) (.str z) := se_succ fun c E fl n hn m σ => by rw [evalI]; exact je_str
theorem se_non : SE b S N (.Constant .none kd pos) .non := se_succ fun c E fl n hn m σ => by rw [evalI]; exact je_non
theorem se_boo {z : Bool} : SE b S N (.Constant (.bool z) kd pos) (.boo z) := se_succ fun c E fl n hn m σ => by rw [evalI]; exact je_boo
theorem se_pow : SE b S N (.BinOp (.Constant (.int 10) kd p) .Pow (.Constant (.int 18) kd f) pos) (.pow 10 18) := se_succ fun c E fl n hn m σ => by rw [evalI]; exact je_pow
theorem se_att (h : SE b S N pa a) (hc : noCall pa = true := by rfl) : SE b S N (.Attribute pa (nm x) pos) (.att a x) := se_succ fun c E fl n hn m σ => by rw [evalI]; exact je_att (att_he hc) (h c E fl n (by lia) m σ)
theorem se_bin {op : Bop} (h : SE b S N pa a) (h' : SE b S N pb a') : SE b S N (.BinOp pa (bop op) pb pos) (.bin op a a') := se_succ fun c E fl n hn m σ => by rw [evalI]; exact je_bin (h c E fl n (by lia) m σ) fun σ => h' c E fl n (by lia) m σ
theorem se_cmp {op : Cop} (h : SE b S N pa a) (h' : SE b S N pb a') (hm : noSet pb = true := by rfl) : SE b S N (.Compare pa [cop op] [pb] pos) (.cmp op a a') := se_succ fun c E fl n hn m σ => by rw [evalI]; exact je_cmp E.bud.u64 (noSet_mark hm) (h c E fl n (by lia) m σ) fun σ => h' c E fl n (by lia) m σ
theorem st_cmp {op : Cop} (h : SE b S N pa a) (h' : SE b S N pb a') (hm : noSet pb = true := by rfl) : ST b S N (.Compare pa [cop op] [pb] pos) (.cmp op a a') := st_succ fun c E fl n hn m σ => by rw [evalI]; exact jt_cmp E.bud.u64 (noSet_mark hm) (h c E fl n (by lia) m σ) fun σ => h' c E fl n (by lia) m σ
theorem st_cmp2 {o₁ o₂ : Cop} (h : SE b S N pa a) (h' : SE b S N pb a') (h'' : SE b S N pc a'') (hm : noSet pc = true := by rfl) : ST b S N (.Compare pa [cop o₁, cop o₂] [pb, pc] pos) (.cmp2 o₁ o₂ a a' a'') := st_succ fun c E fl n hn m σ => by
  rw [evalI]; exact jt_cmp2 E.bud.u64 (noSet_mark hm) (h c E fl n (by lia) m σ) (fun σ => h' c E fl n (by lia) m σ) fun σ => h'' c E fl n (by lia) m σ
theorem st_isn (h : SE b S N pa a) : ST b S N (.Compare pa [.Is] [.Constant .none kd p] pos) (.isn a) := st_succ fun c E fl n hn m σ => by rw [evalI]; exact jt_isn (h c E fl n (by lia) m σ)
theorem st_isnn (h : SE b S N pa a) : ST b S N (.Compare pa [.IsNot] [.Constant .none kd p] pos) (.isnn a) := st_succ fun c E fl n hn m σ => by rw [evalI]; exact jt_isnn (h c E fl n (by lia) m σ)
theorem st_not (h : ST b S N pa a) : ST b S N (.UnaryOp .Not pa pos) (.not a) := st_succ fun c E fl n hn m σ => by rw [evalI]; exact jt_not (h c E fl n (by lia) m σ) rfl
theorem st_and2 (h : ST b S N pa a) (h' : ST b S N pb a') : ST b S N (.BoolOp .And [pa, pb] pos) (.and2 a a') := st_succ fun c E fl n hn m σ => by rw [evalI]; exact jt_and2 (h c E fl n (by lia) m σ) fun σ => h' c E fl n (by lia) m σ
theorem st_or2 (h : ST b S N pa a) (h' : ST b S N pb a') : ST b S N (.BoolOp .Or [pa, pb] pos) (.or2 a a') := st_succ fun c E fl n hn m σ => by rw [evalI]; exact jt_or2 (h c E fl n (by lia) m σ) fun σ => h' c E fl n (by lia) m σ
theorem st_and3 (h : ST b S N pa a) (h' : ST b S N pb a') (h'' : ST b S N pc a'') : ST b S N (.BoolOp .And [pa, pb, pc] pos) (.and3 a a' a'') := st_succ fun c E fl n hn m σ => by rw [evalI]; exact jt_and3 (h c E fl n (by lia) m σ) (fun σ => h' c E fl n (by lia) m σ) fun σ => h'' c E fl n (by lia) m σ
theorem st_or3 (h : ST b S N pa a) (h' : ST b S N pb a') (h'' : ST b S N pc a'') : ST b S N (.BoolOp .Or [pa, pb, pc] pos) (.or3 a a' a'') := st_succ fun c E fl n hn m σ => by rw [evalI]; exact jt_or3 (h c E fl n (by lia) m σ) (fun σ => h' c E fl n (by lia) m σ) fun σ => h'' c E fl n (by lia) m σ
theorem st_plain (h : SE b S N pa a) (ht : plainT pa = true := by rfl) : ST b S N pa a := fun c E fl n hn m σ => jt_plain (h c E fl n hn m σ) (plainT_ok ht)
theorem se_and2 (h : SE b S N pa a) (h' : SE b S N pb a') : SE b S N (.BoolOp .And [pa, pb] pos) (.and2 a a') := se_succ fun c E fl n hn m σ => by rw [evalI]; exact je_and2 (h c E fl n (by lia) m σ) fun σ => h' c E fl n (by lia) m σ
theorem se_or2 (h : SE b S N pa a) (h' : SE b S N pb a') : SE b S N (.BoolOp .Or [pa, pb] pos) (.or2 a a') := se_succ fun c E fl n hn m σ => by rw [evalI]; exact je_or2 (h c E fl n (by lia) m σ) fun σ => h' c E fl n (by lia) m σ
theorem se_ifx (h : ST b S N pa a) (h' : SE b S N pb a') (h'' : SE b S N pc a'') : SE b S N (.IfExp pa pb pc pos) (.ifx a a' a'') := se_succ fun c E fl n hn m σ => by rw [evalI]; exact je_ifx (h c E fl n (by lia) m σ) (fun σ => h' c E fl n (by lia) m σ) fun σ => h'' c E fl n (by lia) m σ
theorem ses_nil : SEs b S N [] [] := ses_succ fun c E fl n hn m σ => by rw [evalsI]; exact jes_nil
theorem ses_cons (h : SE b S N pa a) (h' : SEs b S N pes es) (hs : noStar pa = true := by rfl) : SEs b S N (pa :: pes) (a :: es) := ses_succ fun c E fl n hn m σ => by rw [evalsI]; exact jes_cons (noStar_ok hs pes) (h c E fl n (by lia) m σ) fun σ => h' c E fl n (by lia) m σ
theorem se_lst (h : SEs b S N pes es) : SE b S N (.List pes pos) (.lst es) := se_succ fun c E fl n hn m σ => by rw [evalI]; exact je_lst (h c E fl n (by lia) m σ)
theorem se_tup (h : SEs b S N pes es) : SE b S N (.Tuple pes kd pos) (.tup es) := se_succ fun c E fl n hn m σ => by rw [evalI]; exact je_tup (h c E fl n (by lia) m σ)
theorem se_edict : SE b S N (.Dict [] [] pos) .edict := se_succ fun c E fl n hn m σ => by rw [evalI]; exact je_edict
theorem se_idx (h : SE b S N pa a) (h' : SE b S N pb a') (hs : noSlice pb = true := by rfl) : SE b S N (.Subscript pa pb pos) (.idx a a') := se_succ fun c E fl n hn m σ => by rw [evalI]; exact je_idx (fun o i => noSlice_ok hs) (h c E fl n (by lia) m σ) fun σ => h' c E fl n (by lia) m σ
theorem se_slc (h : SE b S N pa a) (h' : SE b S N pb a') (h'' : SE b S N pc a'') : SE b S N (.Subscript pa (.Slice (some pb) (some pc) none p) pos) (.slc a a' a'') := se_succ fun c E fl n hn m σ => by rw [evalI]; exact je_slc (h c E fl n (by lia) m σ) (fun σ => h' c E fl n (by lia) m σ) fun σ => h'' c E fl n (by lia) m σ
theorem se_upto (h : SE b S N pa a) (h' : SE b S N pb a') : SE b S N (.Subscript pa (.Slice none (some pb) none p) pos) (.upto a a') := se_succ fun c E fl n hn m σ => by rw [evalI]; exact je_upto (h c E fl n (by lia) m σ) fun σ => h' c E fl n (by lia) m σ
theorem se_fro (h : SE b S N pa a) (h' : SE b S N pb a') : SE b S N (.Subscript pa (.Slice (some pb) none none p) pos) (.fro a a') := se_succ fun c E fl n hn m σ => by rw [evalI]; exact je_fro (h c E fl n (by lia) m σ) fun σ => h' c E fl n (by lia) m σ
theorem se_rev {p1 p2 : Pos} (h : SE b S N pa a) : SE b S N (.Subscript pa (.Slice none none (some (.UnaryOp .USub (.Constant (.int 1) kd p1) p2)) p) pos) (.rev a) := se_succ fun c E fl n hn m σ => by rw [evalI]; exact je_rev (h c E fl n (by lia) m σ)
theorem se_call {fa : Nat} (h : SEs b S N pes es) (hx : S.names.lookup (nm x) = some .globalImplicit := by kernel_rfl) (hd : (nm x == ("__debug__" : Str)) = false := by decide +kernel) (hn : callName fa x = true := by rfl) (hs : allStar pes = true := by rfl) : SE b S N (.Call (.Name (nm x) f) pes [] pos) (.call fa x es) := se_succ fun c E fl n hn' m σ => by
  rw [evalI]; exact je_call (E.call n (by lia)) (E.bud.mono (by lia)) (by rw [E.cs]; exact hx) hd hn (allStar_any (allStar_all hs)) (allStar_plain (allStar_all hs)) (h c E fl n (by lia) m σ)
theorem se_new {C : Nat} (h : SEs b S N pes es) (hx : S.names.lookup (nm x) = some .globalImplicit := by kernel_rfl) (hd : (nm x == ("__debug__" : Str)) = false := by decide +kernel) (hn : newName C x = true := by rfl) (hs : allStar pes = true := by rfl) : SE b S N (.Call (.Name (nm x) f) pes [] pos) (.new C x es) := se_succ fun c E fl n hn' m σ => by
  rw [evalI]; exact je_new (fun e => new_ok c.w e) (E.call n (by lia)) (E.bud.mono (by lia)) (by rw [E.cs]; exact hx) hd hn (allStar_any (allStar_all hs)) (allStar_plain (allStar_all hs)) (h c E fl n (by lia) m σ)
theorem se_met (h : SE b S N pa a) (h' : SEs b S N pes es) (ho : noCall pa = true := by rfl) (hp : (apos.endLine == pos.line) = true := by rfl) (hs : allStar pes = true := by rfl) : SE b S N (.Call (.Attribute pa (nm x) apos) pes [] pos) (.met a x es) := se_succ fun c E fl n hn' m σ => by
  rw [evalI]; exact je_met (fun e => met_ok c.w e) (E.call n (by lia)) (E.bud.mono (by lia)) (meth_hc (noCall_ok ho) (allStar_len hs) hp) (allStar_any (allStar_all hs)) (allStar_plain (allStar_all hs)) (h c E fl n (by lia) m σ) fun σ => h' c E fl n (by lia) m σ
theorem gl_len {P : Params} : nsIn (K P) mainGlobals (nm "len") = some none := by kernel_rfl
theorem gl_abs {P : Params} : nsIn (K P) mainGlobals (nm "abs") = some none := by kernel_rfl
theorem gl_min {P : Params} : nsIn (K P) mainGlobals (nm "min") = some none := by kernel_rfl
theorem gl_max {P : Params} : nsIn (K P) mainGlobals (nm "max") = some none := by kernel_rfl
theorem gl_range {P : Params} : nsIn (K P) mainGlobals (nm "range") = some none := by kernel_rfl
theorem gl_list {P : Params} : nsIn (K P) mainGlobals (nm "list") = some none := by kernel_rfl
theorem gl_sorted {P : Params} : nsIn (K P) mainGlobals (nm "sorted") = some none := by kernel_rfl
theorem nn {x : String} (h : x ≠ "__name__") : nm x ≠ "__name__" := fun e => h (nm_inj e)
theorem se_len (h : SE b S N pa a) (hx : S.names.lookup (nm "len") = some .globalImplicit := by kernel_rfl) (hs : noStar pa = true := by rfl) : SE b S N (.Call (.Name (nm "len") f) [pa] [] pos) (.len a) := se_succ fun c E fl n hn m σ => by
  rw [evalI]; exact je_b1 gl_len PyProof.Rows.Boot.len (nn (by decide)) (by rw [E.cs]; exact hx) (by decide +kernel) (noStar_ok hs) (h c E fl n (by lia) m σ) fun s l news cv v σ Q E st hv k => len_ok st hv k
theorem se_abs (h : SE b S N pa a) (hx : S.names.lookup (nm "abs") = some .globalImplicit := by kernel_rfl) (hs : noStar pa = true := by rfl) : SE b S N (.Call (.Name (nm "abs") f) [pa] [] pos) (.abs a) := se_succ fun c E fl n hn m σ => by
  rw [evalI]; exact je_b1 gl_abs PyProof.Rows.Boot.abs (nn (by decide)) (by rw [E.cs]; exact hx) (by decide +kernel) (noStar_ok hs) (h c E fl n (by lia) m σ) fun s l news cv v σ Q E st hv k => abs_ok st hv k
theorem se_mn (h : SE b S N pa a) (h' : SE b S N pb a') (hx : S.names.lookup (nm "min") = some .globalImplicit := by kernel_rfl) (hs : noStar pa = true := by rfl) (hs' : noStar pb = true := by rfl) : SE b S N (.Call (.Name (nm "min") f) [pa, pb] [] pos) (.mn a a') := se_succ fun c E fl n hn m σ => by
  rw [evalI]; exact je_b2 gl_min PyProof.Rows.Boot.min (nn (by decide)) (by rw [E.cs]; exact hx) (by decide +kernel) (noStar_ok hs) (noStar_ok hs') (h c E fl n (by lia) m σ) (fun σ => h' c E fl n (by lia) m σ) fun s l news cv cu v u σ Q E st hv hu k => min_ok st hv hu k
theorem se_mx (h : SE b S N pa a) (h' : SE b S N pb a') (hx : S.names.lookup (nm "max") = some .globalImplicit := by kernel_rfl) (hs : noStar pa = true := by rfl) (hs' : noStar pb = true := by rfl) : SE b S N (.Call (.Name (nm "max") f) [pa, pb] [] pos) (.mx a a') := se_succ fun c E fl n hn m σ => by
  rw [evalI]; exact je_b2 gl_max PyProof.Rows.Boot.max (nn (by decide)) (by rw [E.cs]; exact hx) (by decide +kernel) (noStar_ok hs) (noStar_ok hs') (h c E fl n (by lia) m σ) (fun σ => h' c E fl n (by lia) m σ) fun s l news cv cu v u σ Q E st hv hu k => max_ok st hv hu k
theorem se_range (h : SE b S N pa a) (hx : S.names.lookup (nm "range") = some .globalImplicit := by kernel_rfl) (hs : noStar pa = true := by rfl) : SE b S N (.Call (.Name (nm "range") f) [pa] [] pos) (.range a) := se_succ fun c E fl n hn m σ => by
  rw [evalI]; exact je_t1 gl_range PyProof.Rows.Boot.range (nn (by decide)) (by rw [E.cs]; exact hx) (by decide +kernel) (noStar_ok hs) (h c E fl n (by lia) m σ) fun s l news cv v σ Q E st hv k => range_ok st hv k
theorem se_list (h : SE b S N pa a) (hx : S.names.lookup (nm "list") = some .globalImplicit := by kernel_rfl) (hs : noStar pa = true := by rfl) : SE b S N (.Call (.Name (nm "list") f) [pa] [] pos) (.list a) := se_succ fun c E fl n hn m σ => by
  rw [evalI]; exact je_t1 gl_list PyProof.Rows.Boot.list (nn (by decide)) (by rw [E.cs]; exact hx) (by decide +kernel) (noStar_ok hs) (h c E fl n (by lia) m σ) fun s l news cv v σ Q E st hv k => list_ok st hv k
theorem se_sorted (h : SE b S N pa a) (hx : S.names.lookup (nm "sorted") = some .globalImplicit := by kernel_rfl) (hs : noStar pa = true := by rfl) : SE b S N (.Call (.Name (nm "sorted") f) [pa] [] pos) (.sorted a) := se_succ fun c E fl n hn m σ => by
  rw [evalI]; exact je_b1 gl_sorted PyProof.Rows.Boot.sorted (nn (by decide)) (by rw [E.cs]; exact hx) (by decide +kernel) (noStar_ok hs) (h c E fl n (by lia) m σ) fun s l news cv v σ Q E st hv k => sorted_ok st hv k
theorem se_app (h : SE b S N pa a) (h' : SE b S N pb a') (ho : noCall pa = true := by rfl) (hp : (apos.endLine == pos.line) = true := by rfl) (hs : noStar pb = true := by rfl) : SE b S N (.Call (.Attribute pa (nm "append") apos) [pb] [] pos) (.app a a') := se_succ fun c E fl n hn m σ => by
  rw [evalI]; exact je_app (noStar_ok hs) (meth_hc (noCall_ok ho) (allStar_len (by unfold allStar; rw [List.all_cons, hs]; rfl)) hp) (h c E fl n (by lia) m σ) fun σ => h' c E fl n (by lia) m σ
theorem se_pop0 {p1 : Pos} (h : SE b S N pa a) (ho : noCall pa = true := by rfl) (hp : (apos.endLine == pos.line) = true := by rfl) : SE b S N (.Call (.Attribute pa (nm "pop") apos) [.Constant (.int 0) kd p1] [] pos) (.pop0 a) := se_succ fun c E fl n hn m σ => by
  rw [evalI]; exact je_pop0 (meth_hc (noCall_ok ho) (allStar_len rfl) hp) (h c E fl n (by lia) m σ)
end
end Mine

namespace Mine
open PySem PySem.W PySem.Calls PyProof.Rows
open I
theorem cs_scope {c : Ct} {S : Scope} {N : Nat} (E : Ec c S N) : c.env.scope = S := by rw [c.hs]; exact E.cs
theorem Ec.block {c : Ct} {S : Scope} {N : Nat} (E : Ec c S N) {scope : Scope} {clo : List (Str × Addr)} {C : Addr} {l : List (Str × Value)} {hk : scope.kind = .function} {hcl : ∀ n, (relabelS scope c.cs).names.lookup n = some .cell → ∃ a, List.lookup n clo = some a} : Ec (c.block scope clo C l hk hcl) (relabelS scope S) N :=
  ⟨by show relabelS scope c.cs = _; rw [E.cs], ⟨E.bud.depth, E.bud.units⟩, E.call⟩
section
variable {b : Bool} {S scope : Scope} {N : Nat} {elt iter tg : PySem.Expr} {ifs : List PySem.Expr} {xs : List String} {pos py spos : Pos} {e it : ME} {cond : Option ME} {y : String}
noncomputable def Cond (S : Scope) (N : Nat) (cond : Option ME) (ifs : List PySem.Expr) : Prop := (cond = .none ∧ ifs = []) ∨ ∃ t pt, cond = some t ∧ ifs = [pt] ∧ ST false S N pt t
theorem se_comp (so : ScopeOk S scope) (hx : TgtC (relabelS scope S) xs tg) (h : SE true S N iter it) (he : SE false (relabelS scope S) N elt e) (ht : Cond (relabelS scope S) N cond ifs) (hs : noSet iter = true := by rfl) : SE true S N (.ListComp elt [⟨tg, iter, ifs, 0⟩] scope pos) (.comp e xs it cond) := se_succ fun c E fl n hn m σ => by
  rw [evalI]
  have ec := E.cs
  subst ec
  exact je_comp (fl rfl) so hx (fun x => noSet_ok hs) (h c E fl n (by lia) m σ) (fun l clo C hcl k hk m σ => he _ E.block (fun z => by cases z) k (by lia) m σ)
    (ht.imp id fun ⟨t, pt, q1, q2, q3⟩ => ⟨t, pt, q1, q2, fun l clo C hcl k hk m σ => q3 _ E.block (fun z => by cases z) k (by lia) m σ⟩)
end

inductive NamesS (S : Scope) : List String → List PySem.Expr → Prop
  | nil : NamesS S [] []
  | cons {z : String} {q : Pos} {zs : List String} {qes : List PySem.Expr} : S.names.lookup (nm z) = some .local → NamesS S zs qes → NamesS S (z :: zs) (.Name (nm z) q :: qes)
inductive TgtS (S : Scope) : List String → PySem.Expr → Prop
  | one {x : String} {p : Pos} : S.names.lookup (nm x) = some .local → TgtS S [x] (.Name (nm x) p)
  | none {xs : List String} {e : PySem.Expr} : (∀ x, xs ≠ [x]) → TgtS S xs e
structure Fc (c : Ct) (S : Scope) (N : Nat) (top : Bool) : Prop extends Ec c S N where
  fe : c.env = c.fenv
  fl : c.fl = none
  top : top = true → c.base = c.g
noncomputable def SS (t : Bool) (S : Scope) (N : Nat) (p : Stmt) (x : MS) : Prop := ∀ c, Fc c S N t → ∀ n ≤ N, ∀ m σ, JS c m p σ (execI fns mets inits n m x σ)
noncomputable def SSs (t : Bool) (S : Scope) (N : Nat) (p : List Stmt) (x : List MS) : Prop := ∀ c, Fc c S N t → ∀ n ≤ N, ∀ m σ, JSs c m p σ (execsI fns mets inits n m x σ)
theorem js_bad {c : Ct} {m : Fm} {pe : Stmt} {σ : H} : JS c m pe σ .bad := fun _ _ _ _ _ _ k => k.elim
theorem jss_bad {c : Ct} {m : Fm} {pe : List Stmt} {σ : H} : JSs c m pe σ .bad := fun _ _ _ _ _ _ k => k.elim
section
variable {t : Bool} {S scope : Scope} {N : Nat} {ps : Stmt} {x : MS} {pss : List Stmt} {xs : List MS} {pe pa pb pc pu pv : PySem.Expr} {e a a' a'' : ME} {pos p p1 p2 pt pw : Pos} {y z : String} {kd kd' : Nat} {pes : List PySem.Expr} {ys : List String}
theorem ss_succ (h : ∀ c, Fc c S N t → ∀ n, n + 1 ≤ N → ∀ m σ, JS c m ps σ (execI fns mets inits (n + 1) m x σ)) : SS t S N ps x := fun c y n hn m σ => by
  cases n with
  | zero => rw [execI]; exact js_bad
  | succ n => exact h c y n hn m σ
theorem sss_succ (h : ∀ c, Fc c S N t → ∀ n, n + 1 ≤ N → ∀ m σ, JSs c m pss σ (execsI fns mets inits (n + 1) m xs σ)) : SSs t S N pss xs := fun c y n hn m σ => by
  cases n with
  | zero => rw [execsI]; exact jss_bad
  | succ n => exact h c y n hn m σ
theorem sss_nil : SSs t S N [] [] := sss_succ fun c F n hn m σ => by rw [execsI]; exact jss_nil
theorem sss_cons (h : SS t S N ps x) (h' : SSs t S N pss xs) : SSs t S N (ps :: pss) (x :: xs) := sss_succ fun c F n hn m σ => by rw [execsI]; exact jss_cons (h c F n (by lia) m σ) fun m σ => h' c F n (by lia) m σ
theorem sss_stuck : SSs t S N pss [.stuck] := sss_succ fun c F n hn m σ => by
  rw [execsI]
  cases n with
  | zero => rw [execI]; exact jss_bad
  | succ n => rw [execI]; exact jss_bad
theorem Fc.nf {c : Ct} (F : Fc c S N t) : true = true → c.fl = none := fun _ => F.fl
theorem ss_set (h : SE true S N pe e) (hx : S.names.lookup (nm y) = some .local := by kernel_rfl) (hc : noComp pe = true := by rfl) : SS t S N (.Assign [.Name (nm y) p] pe pos) (.set y e) := ss_succ fun c F n hn m σ => by
  rw [execI]; exact js_set F.fl (by rw [F.cs]; exact hx) (noComp_ok hc) (h c F.toEc F.nf n (by lia) m σ)
theorem ss_sec (h : SE true S N pe e) (hx : S.names.lookup (nm y) = some .cell := by kernel_rfl) (hc : noComp pe = true := by rfl) : SS t S N (.Assign [.Name (nm y) p] pe pos) (.sec y e) := ss_succ fun c F n hn m σ => by
  rw [execI]; exact js_sec (by rw [F.cs]; exact hx) (noComp_ok hc) (h c F.toEc F.nf n (by lia) m σ)
theorem ss_setcomp {elt iter tg : PySem.Expr} {ifs : List PySem.Expr} {xs : List String} {py spos : Pos} {it : ME} {cond : Option ME} (so : ScopeOk S scope) (hx : TgtC (relabelS scope S) xs tg) (h : SE true S N iter it) (he : SE false (relabelS scope S) N elt e) (ht : Cond (relabelS scope S) N cond ifs) (hy : S.names.lookup (nm y) = some .local := by kernel_rfl) (hs : noSet iter = true := by rfl) (hsw : swapsWith (.ListComp elt [⟨tg, iter, ifs, 0⟩] scope pos) (some (.Name (nm y) py)) spos.line (envS S) = pure true := by kernel_rfl) : SS t S N (.Assign [.Name (nm y) py] (.ListComp elt [⟨tg, iter, ifs, 0⟩] scope pos) spos) (.set y (.comp e xs it cond)) := ss_succ fun c F n hn m σ => by
  rw [execI]
  cases n with
  | zero => rw [evalI]; exact js_bad
  | succ n =>
  rw [evalI]
  have ec := F.cs
  subst ec
  exact js_setcomp F.fl so hx (fun x => noSet_ok hs) (h c F.toEc F.nf n (by lia) m σ) (by rw [swapsWith_scope, c.hs]; exact hsw) hy (fun l clo C hcl k hk m σ => he _ F.toEc.block (fun z => by cases z) k (by lia) m σ)
    (ht.imp id fun ⟨t, pt, q1, q2, q3⟩ => ⟨t, pt, q1, q2, fun l clo C hcl k hk m σ => q3 _ F.toEc.block (fun z => by cases z) k (by lia) m σ⟩)
theorem NamesS.to {c : Ct} (e : c.cs = S) (h : NamesS S ys pes) : NamesAre c ys pes := by
  induction h with
  | nil => exact .nil
  | cons h _ ih => exact .cons (by rw [e]; exact h) ih
theorem ss_unp (hn : NamesS S ys pes) (h : SE true S N pe e) (hc : noComp pe = true := by rfl) (hw : swappedStores [.Tuple pes kd p] pe (envS S) = pure none := by kernel_rfl) : SS t S N (.Assign [.Tuple pes kd p] pe pos) (.unp ys e) := ss_succ fun c F n hn' m σ => by
  rw [execI]; exact js_unp F.fl (hn.to F.cs) (noComp_sole hc) (by rw [swappedStores_scope, cs_scope F.toEc]; exact hw) (h c F.toEc F.nf n (by lia) m σ)
theorem ss_par {pt pv : Pos} (h : SE true S N pa a) (h' : SE true S N pb a') (hs : noStar pa = true := by rfl) (hs' : noStar pb = true := by rfl) (hne : y ≠ z := by decide) (hx : S.names.lookup (nm y) = some .local := by kernel_rfl) (hy : S.names.lookup (nm z) = some .local := by kernel_rfl) (hw : swappedStores [.Tuple [.Name (nm y) p1, .Name (nm z) p2] kd pt] (.Tuple [pa, pb] kd' pv) (envS S) = pure (some [nm y, nm z]) := by kernel_rfl) :
    SS t S N (.Assign [.Tuple [.Name (nm y) p1, .Name (nm z) p2] kd pt] (.Tuple [pa, pb] kd' pv) pos) (.par y z a a') := ss_succ fun c F n hn' m σ => by
  rw [execI]; exact js_par F.fl (noStar_ok hs) (noStar_ok hs') hne (by rw [F.cs]; exact hx) (by rw [F.cs]; exact hy) rfl (by rw [swappedStores_scope, cs_scope F.toEc]; exact hw) (h c F.toEc F.nf n (by lia) m σ) fun σ => h' c F.toEc F.nf n (by lia) m σ
theorem ss_sce {pt pv : Pos} (h : SE true S N pa a) (h' : SE true S N pb a') (hs : noStar pa = true := by rfl) (hs' : noStar pb = true := by rfl) (hx : S.names.lookup (nm y) = some .cell := by kernel_rfl) (hy : S.names.lookup (nm z) = some .cell := by kernel_rfl) (hw : swappedStores [.Tuple [.Name (nm y) p1, .Name (nm z) p2] kd pt] (.Tuple [pa, pb] kd' pv) (envS S) = pure none := by kernel_rfl) :
    SS t S N (.Assign [.Tuple [.Name (nm y) p1, .Name (nm z) p2] kd pt] (.Tuple [pa, pb] kd' pv) pos) (.sce y z a a') := ss_succ fun c F n hn' m σ => by
  rw [execI]; exact js_sce (noStar_ok hs) (noStar_ok hs') (by rw [F.cs]; exact hx) (by rw [F.cs]; exact hy) rfl (by rw [swappedStores_scope, cs_scope F.toEc]; exact hw) (h c F.toEc F.nf n (by lia) m σ) fun σ => h' c F.toEc F.nf n (by lia) m σ
theorem ss_sat (h : SE true S N pe e) (h' : SE true S N pa a) (hc : noComp pe = true := by rfl) : SS t S N (.Assign [.Attribute pa (nm y) p] pe pos) (.sat a y e) := ss_succ fun c F n hn m σ => by
  rw [execI]; exact js_sat F.fl (noComp_ok hc) (h c F.toEc F.nf n (by lia) m σ) fun σ => h' c F.toEc F.nf n (by lia) m σ
theorem ss_sat2 {u v : ME} {pt pw : Pos} (h : SE true S N pa a) (h' : SE true S N pb a') (hu : SE true S N pu u) (hv : SE true S N pv v) (hs : noStar pa = true := by rfl) (hs' : noStar pb = true := by rfl) (hw : swappedStores [.Tuple [.Attribute pu (nm y) p1, .Attribute pv (nm z) p2] kd pt] (.Tuple [pa, pb] kd' pw) (envS S) = pure none := by kernel_rfl) :
    SS t S N (.Assign [.Tuple [.Attribute pu (nm y) p1, .Attribute pv (nm z) p2] kd pt] (.Tuple [pa, pb] kd' pw) pos) (.sat2 u y v z a a') := ss_succ fun c F n hn m σ => by
  rw [execI]; exact js_sat2 F.fl (noStar_ok hs) (noStar_ok hs') rfl (by rw [swappedStores_scope, cs_scope F.toEc]; exact hw) (h c F.toEc F.nf n (by lia) m σ) (fun σ => h' c F.toEc F.nf n (by lia) m σ) (fun σ => hu c F.toEc F.nf n (by lia) m σ) fun σ => hv c F.toEc F.nf n (by lia) m σ
theorem ss_six (h : SE true S N pe e) (h' : SE true S N pa a) (h'' : SE true S N pb a') (hc : noComp pe = true := by rfl) : SS t S N (.Assign [.Subscript pa pb p] pe pos) (.six a a' e) := ss_succ fun c F n hn m σ => by
  rw [execI]; exact js_six (noComp_ok hc) (h c F.toEc F.nf n (by lia) m σ) (fun σ => h' c F.toEc F.nf n (by lia) m σ) fun σ => h'' c F.toEc F.nf n (by lia) m σ
theorem ss_ssl {q : Pos} (h : SE true S N pe e) (h' : SE true S N pa a) (h'' : SE true S N pb a') (h3 : SE true S N pc a'') (hc : noComp pe = true := by rfl) : SS t S N (.Assign [.Subscript pa (.Slice (some pb) (some pc) none q) p] pe pos) (.ssl a a' a'' e) := ss_succ fun c F n hn m σ => by
  rw [execI]; exact js_ssl (noComp_ok hc) (h c F.toEc F.nf n (by lia) m σ) (fun σ => h' c F.toEc F.nf n (by lia) m σ) (fun σ => h'' c F.toEc F.nf n (by lia) m σ) fun σ => h3 c F.toEc F.nf n (by lia) m σ
theorem ss_exp (h : SE true S N pe e) (hi : interactive (envS S) = false := by kernel_rfl) (hc : noComp pe = true := by rfl) : SS t S N (.Expr pe pos) (.exp e) := ss_succ fun c F n hn m σ => by
  rw [execI]; exact js_exp (by rw [interactive_scope, cs_scope F.toEc]; exact hi) (noComp_ok hc) (h c F.toEc F.nf n (by lia) m σ)
theorem ss_ret (h : SE true S N pe e) : SS t S N (.Return (some pe) pos) (.ret e) := ss_succ fun c F n hn m σ => by
  rw [execI]; exact js_ret (h c F.toEc F.nf n (by lia) m σ)
theorem ss_ret0 : SS t S N (.Return none pos) .ret0 := ss_succ fun c F n hn m σ => by
  rw [execI]; exact js_ret0
theorem ss_ife {p1 p2 : List Stmt} {b1 b2 : List MS} (ht : ST true S N pe e) (h : SSs t S N p1 b1) (h' : SSs t S N p2 b2) : SS t S N (.If pe p1 p2 pos) (.ife e b1 b2) := ss_succ fun c F n hn m σ => by
  rw [execI]; exact js_ife (ht c F.toEc F.nf n (by lia) m σ) (fun σ => h c F n (by lia) m σ) fun σ => h' c F n (by lia) m σ
theorem ss_whl {p1 : List Stmt} {b1 : List MS} (ht : ST true S N pe e) (h : SSs t S N p1 b1) : SS t S N (.While pe p1 [] pos) (.whl e b1) := ss_succ fun c F n hn m σ => by
  rw [execI]; exact js_whl F.fe (fun k hk m σ => ht c F.toEc F.nf k (by lia) m σ) fun k hk m σ => h c F k (by lia) m σ
theorem TgtS.to {c : Ct} {tg : PySem.Expr} (e : c.cs = S) (h : TgtS S ys tg) : TgtOk c ys tg := by
  cases h with
  | one h => exact .one (by rw [e]; exact h)
  | none h => exact .none h
theorem ss_for {p1 : List Stmt} {b1 : List MS} {tg : PySem.Expr} (ht : TgtS S ys tg) (h : SE true S N pe e) (h' : SSs t S N p1 b1) (hs : noSet pe = true := by rfl) : SS t S N (.For tg pe p1 [] pos) (.forin ys e b1) := ss_succ fun c F n hn m σ => by
  rw [execI]; exact js_for F.fe F.fl (ht.to F.cs) (fun x => noSet_ok hs) (h c F.toEc F.nf n (by lia) m σ) fun k hk m σ => h' c F k (by lia) m σ
theorem k38 (P : Params) : keepIn (K P) (.ref 38) = true := by kernel_rfl
theorem ss_rai {np cpos : Pos} {sy : String} (h2 : 2 ≤ N) (h : SE true S N pe e) (hx : S.names.lookup (nm "LispSignal") = some .globalImplicit := by kernel_rfl) (hs : noStar pe = true := by rfl) : SS t S N (.Raise (some (.Call (.Name (nm "LispSignal") np) [.Constant (.str (nm sy)) kd p1, pe] [] cpos)) none pos) (.rai sy e) := ss_succ fun c F n hn m σ => by
  rw [execI]; exact js_rai (F.bud.mono h2) (by rw [F.cs]; exact hx) (noStar_ok hs) k38 (h c F.toEc F.nf n (by lia) m σ)
theorem ss_try {pe : PySem.Expr} {x y p q r : String} {e : ME} {body : List Stmt} {b : List MS} {pa pb pc pd p1 p2 pf pg ph pi pj pk pl pos pos1 : Pos} {kt ke kv : Nat} (h : SE true S N pe e) (h' : SSs true S N body b) (hyl : S.names.lookup (nm y) = some .local := by kernel_rfl) (hxl : S.names.lookup (nm x) = some .local := by kernel_rfl) (hpl : S.names.lookup (nm p) = some .local := by kernel_rfl) (hql : S.names.lookup (nm q) = some .local := by kernel_rfl) (hrl : S.names.lookup (nm r) = some .local := by kernel_rfl) (hls : S.names.lookup (nm "LispSignal") = some .globalImplicit := by kernel_rfl) (dx : (nm x == ("__debug__" : Str)) = false := by decide +kernel) (dr : (nm r == ("__debug__" : Str)) = false := by decide +kernel) (npq : p ≠ q := by decide) (npx : p ≠ x := by decide) (nqx : q ≠ x := by decide) (hc : noComp pe = true := by rfl) (hw : swappedStores [.Tuple [.Name (nm p) pa, .Name (nm q) pb] kt ph] (.Tuple [.Compare (.Attribute (.Name (nm x) pc) (nm "symbol") pd) [.NotEq] [.Constant (.str (nm "error")) ke pl] pf, .Name (nm r) pg] kv pi) (envS S) = pure (some [nm p, nm q]) := by kernel_rfl) :
    SS true S N (.Try (.Assign [.Name (nm y) p1] pe pos1 :: body) [.ExceptHandler (some (.Name (nm "LispSignal") p2)) (some (nm x)) [.Assign [.Tuple [.Name (nm p) pa, .Name (nm q) pb] kt ph] (.Tuple [.Compare (.Attribute (.Name (nm x) pc) (nm "symbol") pd) [.NotEq] [.Constant (.str (nm "error")) ke pl] pf, .Name (nm r) pg] kv pi) pj] pk] [] [] pos) (.tryx y e b x p q r) := ss_succ fun c F n hn m σ => by
  rw [execI]
  have L : ∀ {z k}, S.names.lookup z = some k → c.cs.names.lookup z = some k := fun z => by rw [F.cs]; exact z
  exact js_try F.fe F.fl (F.top rfl) (L hyl) (L hxl) (L hpl) (L hql) (L hrl) (L hls) dx dr npq npx nqx (noComp_ok hc) (att_he rfl) rfl rfl (by rw [swappedStores_scope, cs_scope F.toEc]; exact hw) (h c F.toEc F.nf n (by lia) m σ) fun m σ => h' c F n (by lia) m σ
end
end Mine

namespace Mine
open PySem PySem.W PySem.Calls PyProof.Rows
open I
noncomputable def isLoc : Option NameKind → Bool
  | some .local => true
  | _ => false
theorem isLoc_ok {o : Option NameKind} (h : isLoc o = true) : o = some .local := by
  unfold isLoc at h; split at h
  · rfl
  · cases h
noncomputable def isCel : NameKind → Bool
  | .cell => true
  | _ => false
theorem scope_names {S : Scope} (h : (S.names.all fun x => match x.2 with | .local => isLoc (S.names.lookup x.1) | _ => true) = true) : ∀ x ∈ S.names, x.2 = .local → S.names.lookup x.1 = some .local := fun x hx e => by
  have := List.all_eq_true.mp h x hx
  rw [e] at this
  exact isLoc_ok this
theorem scope_cells {S : Scope} (h : (S.names.all fun x => !isCel x.2) = true) : ∀ y ∈ S.names, y.2 ≠ .cell := fun y hy e => by
  have := List.all_eq_true.mp h y hy
  rw [e] at this; cases this
noncomputable def isCel' : Option NameKind → Bool
  | some .cell => true
  | _ => false
theorem scope_free {S cs : Scope} (h : ((freeOf S).all fun n => isCel' (cs.names.lookup n)) = true) : ∀ n ∈ freeOf S, cs.names.lookup n = some .cell := fun n hn => by
  have := List.all_eq_true.mp h n hn
  unfold isCel' at this
  split at this
  · assumption
  · cases this
end Mine

namespace Mine
open PySem PySem.W PySem.Calls PyProof.Rows
open I
theorem b48 {t : Bool} {N : Nat} : SSs t (scopeOf (stAt 4)) N (bodyOf (stAt 4)) F48.body := (sss_cons (ss_ife (st_plain (se_att (se_loc))) sss_stuck sss_nil) sss_nil)
theorem b55 {t : Bool} {N : Nat} : SSs t (scopeOf (stAt 5)) N (bodyOf (stAt 5)) F55.body := (sss_cons (ss_par (se_mn (se_loc) (se_loc)) (se_mx (se_loc) (se_loc))) (sss_cons (ss_ife (st_or2 (st_cmp (op := .lt) (se_loc) (se_att (se_loc))) (st_cmp (op := .gt) (se_loc) (se_att (se_loc)))) sss_stuck sss_nil) (sss_cons (ss_ret (se_tup (ses_cons (se_loc) (ses_cons (se_loc) ses_nil)))) sss_nil)))
theorem b62 {t : Bool} {N : Nat} : SSs t (scopeOf (stAt 6)) N (bodyOf (stAt 6)) F62.body := (sss_cons (ss_for (.one (by kernel_rfl)) (se_list (se_att (se_loc))) sss_stuck) sss_nil)
theorem b69 {t : Bool} {N : Nat} : SSs t (scopeOf (stAt 7)) N (bodyOf (stAt 7)) F69.body := (sss_cons (ss_exp (se_met (se_loc) (ses_cons (se_boo) ses_nil))) (sss_cons (ss_for (.one (by kernel_rfl)) (se_list (se_att (se_loc))) sss_stuck) sss_nil))
theorem b76 {t : Bool} {N : Nat} : SSs t (scopeOf (stAt 8)) N (bodyOf (stAt 8)) F76.body := (sss_cons (ss_ife (st_isnn (se_att (se_loc))) (sss_cons (ss_exp (se_met (se_att (se_loc)) (ses_cons (se_loc) (ses_cons (se_loc) (ses_cons (se_loc) ses_nil))))) sss_nil) sss_nil) (sss_cons (ss_set (se_met (se_att (se_loc)) (ses_cons (se_bin (op := .sub) (se_loc) (se_int)) (ses_cons (se_bin (op := .sub) (se_loc) (se_int)) ses_nil)))) (sss_cons (ss_sat (se_bin (op := .sub) (se_att (se_loc)) (se_bin (op := .sub) (se_loc) (se_loc))) (se_loc)) (sss_cons (ss_ife (st_cmp (op := .gt) (se_att (se_loc)) (se_loc)) (sss_cons (ss_sat (se_mx (se_loc) (se_bin (op := .sub) (se_att (se_loc)) (se_bin (op := .sub) (se_loc) (se_loc)))) (se_loc)) sss_nil) sss_nil) (sss_cons (ss_ret (se_loc)) sss_nil)))))
theorem b83 {t : Bool} {N : Nat} : SSs t (scopeOf (stAt 9)) N (bodyOf (stAt 9)) F83.body := (sss_cons (ss_ife (st_isnn (se_att (se_loc))) (sss_cons (ss_exp (se_met (se_att (se_loc)) (ses_cons (se_loc) (ses_cons (se_loc) (ses_cons (se_len (se_loc)) ses_nil))))) sss_nil) sss_nil) (sss_cons (ss_exp (se_met (se_att (se_loc)) (ses_cons (se_bin (op := .sub) (se_loc) (se_int)) (ses_cons (se_loc) ses_nil)))) (sss_cons (ss_sat (se_bin (op := .add) (se_att (se_loc)) (se_len (se_loc))) (se_loc)) (sss_cons (ss_ife (st_cmp (op := .gt) (se_att (se_loc)) (se_loc)) (sss_cons (ss_sat (se_bin (op := .add) (se_att (se_loc)) (se_len (se_loc))) (se_loc)) sss_nil) sss_nil) sss_nil))))
theorem b90 {t : Bool} {N : Nat} : SSs t (scopeOf (stAt 10)) N (bodyOf (stAt 10)) F90.body := (sss_cons (ss_ife (st_isnn (se_att (se_loc))) sss_stuck sss_nil) (sss_cons (ss_ife (st_isnn (se_att (se_loc))) sss_stuck sss_nil) sss_nil))
theorem b97 {t : Bool} {N : Nat} : SSs t (scopeOf (stAt 11)) N (bodyOf (stAt 11)) F97.body := (sss_cons (ss_ife (st_isnn (se_att (se_loc))) sss_stuck sss_nil) (sss_cons (ss_ife (st_isnn (se_att (se_loc))) sss_stuck sss_nil) sss_nil))
theorem b104 {t : Bool} {N : Nat} : SSs t (scopeOf (stAt 12)) N (bodyOf (stAt 12)) F104.body := (sss_cons (ss_exp (se_call (ses_cons (se_loc) ses_nil))) (sss_cons (ss_exp (se_call (ses_cons (se_loc) (ses_cons (se_loc) (ses_cons (se_loc) ses_nil))))) (sss_cons (ss_ife (st_cmp (op := .eq) (se_len (se_loc)) (se_int)) (sss_cons ss_ret0 sss_nil) sss_nil) (sss_cons (ss_exp (se_call (ses_cons (se_loc) (ses_cons (se_loc) (ses_cons (se_loc) ses_nil))))) (sss_cons (ss_exp (se_call (ses_cons (se_loc) (ses_cons (se_loc) (ses_cons (se_loc) ses_nil))))) (sss_cons (ss_ife (st_plain (se_loc)) (sss_cons (ss_sat (se_bin (op := .add) (se_loc) (se_len (se_loc))) (se_loc)) sss_nil) sss_nil) (sss_cons (ss_exp (se_met (se_att (se_loc)) (ses_cons (se_loc) (ses_cons (se_bin (op := .add) (se_loc) (se_len (se_loc))) (ses_cons (se_loc) ses_nil))))) (sss_cons (ss_exp (se_call (ses_cons (se_loc) (ses_cons (se_loc) (ses_cons (se_len (se_loc)) (ses_cons (se_loc) ses_nil)))))) (sss_cons (ss_exp (se_call (ses_cons (se_loc) (ses_cons (se_loc) (ses_cons (se_bin (op := .add) (se_loc) (se_len (se_loc))) (ses_cons (se_int) ses_nil)))))) sss_nil)))))))))
theorem b112 {t : Bool} {N : Nat} : SSs t (scopeOf (stAt 13)) N (bodyOf (stAt 13)) F112.body := (sss_cons (ss_exp (se_call (ses_cons (se_loc) (ses_cons (se_att (se_loc)) (ses_cons (se_loc) (ses_cons (se_loc) (ses_cons (se_boo) ses_nil))))))) sss_nil)
theorem b119 {t : Bool} {N : Nat} : SSs t (scopeOf (stAt 14)) N (bodyOf (stAt 14)) F119.body := (sss_cons (ss_exp (se_call (ses_cons (se_loc) ses_nil))) (sss_cons (ss_unp (.cons (by kernel_rfl) (.cons (by kernel_rfl) .nil)) (se_call (ses_cons (se_loc) (ses_cons (se_loc) (ses_cons (se_loc) ses_nil))))) (sss_cons (ss_ife (st_cmp (op := .eq) (se_loc) (se_loc)) (sss_cons (ss_ret (se_lst ses_nil)) sss_nil) sss_nil) (sss_cons (ss_exp (se_call (ses_cons (se_loc) (ses_cons (se_loc) (ses_cons (se_loc) ses_nil))))) (sss_cons (ss_set (se_call (ses_cons (se_loc) (ses_cons (se_loc) (ses_cons (se_loc) ses_nil))))) (sss_cons (ss_exp (se_met (se_att (se_loc)) (ses_cons (se_loc) (ses_cons (se_loc) ses_nil)))) (sss_cons (ss_exp (se_call (ses_cons (se_loc) (ses_cons (se_loc) (ses_cons (se_loc) ses_nil))))) (sss_cons (ss_exp (se_call (ses_cons (se_loc) (ses_cons (se_loc) (ses_cons (se_loc) (ses_cons (se_bin (op := .sub) (se_loc) (se_loc)) ses_nil)))))) (sss_cons (ss_ret (se_loc)) sss_nil)))))))))
theorem b162 {t : Bool} {N : Nat} : SSs t (scopeOf (stAt 23)) N (bodyOf (stAt 23)) F162.body := (sss_cons (ss_sec (se_att (se_loc))) (sss_cons (ss_exp (se_call (ses_cons (se_loc) (ses_cons (se_att (se_loc)) ses_nil)))) (sss_cons (ss_ife (st_and2 (st_isnn (se_att (se_loc))) (st_cmp (op := .gt) (se_len (se_att (se_loc))) (se_int))) sss_stuck sss_nil) sss_nil)))
theorem b189 {t : Bool} {N : Nat} : SSs t (scopeOf (meAt 28 0)) N (bodyOf (meAt 28 0)) F189.body := (sss_cons (ss_sat (se_lst ses_nil) (se_loc)) (sss_cons (ss_sat (se_int) (se_loc)) (sss_cons (ss_sat (se_boo) (se_loc)) (sss_cons (ss_sat (se_non) (se_loc)) (sss_cons (ss_sat (se_non) (se_loc)) sss_nil)))))
theorem b203 {t : Bool} {N : Nat} : SSs t (scopeOf (meAt 28 2)) N (bodyOf (meAt 28 2)) F203.body := (sss_cons (ss_ret (se_or2 (se_cmp (op := .eq) (se_len (se_att (se_loc))) (se_int)) (se_cmp (op := .eq) (se_idx (se_att (se_loc)) (se_neg (z := 1))) (se_bnd)))) sss_nil)
theorem b210 {t : Bool} {N : Nat} : SSs t (scopeOf (meAt 28 3)) N (bodyOf (meAt 28 3)) F210.body := (sss_cons (ss_ife (st_not (st_plain (se_met (se_loc) ses_nil))) (sss_cons (ss_exp (se_app (se_att (se_loc)) (se_bnd))) sss_nil) sss_nil) sss_nil)
theorem b224 {t : Bool} {N : Nat} : SSs t (scopeOf (meAt 28 5)) N (bodyOf (meAt 28 5)) F224.body := (sss_cons (ss_ife (st_and2 (st_not (st_plain (se_loc))) (st_cmp (op := .ne) (se_loc) (se_att (se_loc)))) sss_stuck sss_nil) sss_nil)
theorem b231 {t : Bool} {N : Nat} : SSs t (scopeOf (meAt 28 6)) N (bodyOf (meAt 28 6)) F231.body := (sss_cons (ss_ife (st_or2 (st_not (st_plain (se_att (se_loc)))) (st_cmp (op := .eq) (se_loc) (se_int))) (sss_cons ss_ret0 sss_nil) sss_nil) (sss_cons (ss_exp (se_met (se_loc) (ses_cons (se_loc) (ses_cons (se_loc) ses_nil)))) (sss_cons (ss_set (se_ifx (st_cmp (op := .gt) (se_len (se_att (se_loc))) (se_int)) (se_idx (se_att (se_loc)) (se_neg (z := 1))) (se_bnd))) (sss_cons (ss_ife (st_and2 (st_cmp (op := .eq) (se_idx (se_loc) (se_int)) (se_str)) (st_cmp (op := .eq) (se_idx (se_loc) (se_int)) (se_loc))) sss_stuck (sss_cons (ss_exp (se_app (se_att (se_loc)) (se_tup (ses_cons (se_str) (ses_cons (se_loc) (ses_cons (se_bin (op := .add) (se_loc) (se_loc)) ses_nil)))))) sss_nil)) sss_nil))))
theorem b238 {t : Bool} {N : Nat} : SSs t (scopeOf (meAt 28 7)) N (bodyOf (meAt 28 7)) F238.body := (sss_cons (ss_ife (st_or2 (st_not (st_plain (se_att (se_loc)))) (st_cmp (op := .eq) (se_len (se_att (se_loc))) (se_int))) (sss_cons ss_ret0 sss_nil) sss_nil) (sss_cons (ss_set (se_met (se_loc) ses_nil)) (sss_cons (ss_exp (se_met (se_loc) (ses_cons (se_loc) (ses_cons (se_loc) ses_nil)))) (sss_cons (ss_ife (st_and3 (st_plain (se_loc)) (st_isnn (se_att (se_loc))) (st_cmp (op := .ne) (se_att (se_loc)) (se_loc))) sss_stuck sss_nil) (sss_cons (ss_for (.none (fun x h => by simp at h)) (se_loc) sss_stuck) (sss_cons (ss_exp (se_app (se_att (se_loc)) (se_tup (ses_cons (se_str) (ses_cons (se_loc) (ses_cons (se_loc) (ses_cons (se_cmp (op := .eq) (se_loc) (se_bin (op := .add) (se_loc) (se_len (se_att (se_loc))))) ses_nil))))))) sss_nil))))))
theorem b271 {t : Bool} {N : Nat} : SSs t (scopeOf (stAt 29)) N (bodyOf (stAt 29)) F271.body := (sss_cons (ss_ife (st_or2 (st_cmp (op := .lt) (se_loc) (se_loc)) (st_cmp (op := .gt) (se_loc) (se_loc))) (sss_cons (ss_ret (se_int)) sss_nil) sss_nil) (sss_cons (ss_ret (se_ifx (st_plain (se_loc)) (se_bin (op := .sub) (se_loc) (se_loc)) (se_bin (op := .sub) (se_loc) (se_loc)))) sss_nil))
theorem b278 {t : Bool} {N : Nat} (h2 : 2 ≤ N) : SSs t (scopeOf (stAt 31)) N (bodyOf (stAt 31)) F278.body := (sss_cons (ss_ife (st_or2 (st_cmp (op := .lt) (se_loc) (se_att (se_loc))) (st_cmp (op := .gt) (se_loc) (se_att (se_loc)))) (sss_cons (ss_rai h2 (se_lst (ses_cons (se_str) ses_nil))) sss_nil) sss_nil) sss_nil)
theorem b285 {t : Bool} {N : Nat} : SSs t (scopeOf (stAt 32)) N (bodyOf (stAt 32)) F285.body := (sss_cons (ss_set (se_lst ses_nil)) (sss_cons (ss_whl (st_and2 (st_cmp (op := .gt) (se_loc) (se_int)) (st_cmp (op := .eq) (se_idx (se_idx (se_loc) (se_bin (op := .sub) (se_loc) (se_int))) (se_int)) (se_str))) sss_stuck) (sss_cons (ss_ret (se_loc)) sss_nil)))
theorem b292 {t : Bool} {N : Nat} : SSs t (scopeOf (stAt 33)) N (bodyOf (stAt 33)) F292.body := (sss_cons (ss_exp (se_call (ses_cons (se_loc) (ses_cons (se_idx (se_loc) (se_int)) (ses_cons (se_idx (se_loc) (se_int)) ses_nil))))) (sss_cons (ss_exp (se_met (se_loc) (ses_cons (se_idx (se_loc) (se_int)) ses_nil))) (sss_cons (ss_exp (se_call (ses_cons (se_loc) (ses_cons (se_idx (se_loc) (se_int)) (ses_cons (se_idx (se_loc) (se_int)) ses_nil))))) sss_nil)))
theorem b299 {t : Bool} {N : Nat} : SSs t (scopeOf (stAt 34)) N (bodyOf (stAt 34)) F299.body := (sss_cons (ss_exp (se_call (ses_cons (se_loc) (ses_cons (se_idx (se_loc) (se_int)) (ses_cons (se_idx (se_loc) (se_int)) ses_nil))))) (sss_cons (ss_set (se_lst ses_nil)) (sss_cons (ss_for (.none (fun x h => by simp at h)) (se_loc) sss_stuck) (sss_cons (ss_exp (se_met (se_loc) (ses_cons (se_idx (se_loc) (se_int)) ses_nil))) (sss_cons (ss_exp (se_call (ses_cons (se_loc) (ses_cons (se_idx (se_loc) (se_int)) ses_nil)))) (sss_cons (ss_ife (st_not (st_plain (se_idx (se_loc) (se_int)))) (sss_cons (ss_exp (se_met (se_loc) (ses_cons (se_idx (se_loc) (se_int)) ses_nil))) sss_nil) sss_nil) (sss_cons (ss_for (.none (fun x h => by simp at h)) (se_loc) sss_stuck) sss_nil)))))))
theorem b306 {t : Bool} {N : Nat} : SSs t (scopeOf (stAt 35)) N (bodyOf (stAt 35)) F306.body := (sss_cons (ss_set (se_idx (se_loc) (se_bin (op := .sub) (se_loc) (se_int)))) (sss_cons (ss_set (se_bin (op := .sub) (se_loc) (se_int))) (sss_cons (ss_ife (st_cmp (op := .eq) (se_idx (se_loc) (se_int)) (se_str)) (sss_cons (ss_exp (se_call (ses_cons (se_loc) (ses_cons (se_loc) ses_nil)))) sss_nil) (sss_cons (ss_ife (st_cmp (op := .eq) (se_idx (se_loc) (se_int)) (se_str)) (sss_cons (ss_set (se_call (ses_cons (se_loc) (ses_cons (se_loc) ses_nil)))) (sss_cons (ss_exp (se_call (ses_cons (se_loc) (ses_cons (se_loc) (ses_cons (se_loc) ses_nil))))) (sss_cons (ss_set (se_bin (op := .sub) (se_loc) (se_len (se_loc)))) sss_nil))) sss_stuck) sss_nil)) (sss_cons (ss_ret (se_loc)) sss_nil))))
theorem b313 {t : Bool} {N : Nat} : SSs t (scopeOf (stAt 36)) N (bodyOf (stAt 36)) F313.body := (sss_cons (ss_whl (st_and2 (st_cmp (op := .gt) (se_loc) (se_int)) (st_cmp (op := .eq) (se_idx (se_loc) (se_bin (op := .sub) (se_loc) (se_int))) (se_bnd))) (sss_cons (ss_set (se_bin (op := .sub) (se_loc) (se_int))) sss_nil)) (sss_cons (ss_ret (se_loc)) sss_nil))
theorem b320 {t : Bool} {N : Nat} : SSs t (scopeOf (stAt 37)) N (bodyOf (stAt 37)) F320.body := (sss_cons (ss_set (se_call (ses_cons (se_loc) (ses_cons (se_loc) ses_nil)))) (sss_cons (ss_whl (st_and2 (st_cmp (op := .gt) (se_loc) (se_int)) (st_cmp (op := .ne) (se_idx (se_loc) (se_bin (op := .sub) (se_loc) (se_int))) (se_bnd))) (sss_cons (ss_set (se_call (ses_cons (se_loc) (ses_cons (se_loc) (ses_cons (se_loc) ses_nil))))) sss_nil)) (sss_cons (ss_ret (se_loc)) sss_nil)))
theorem b334 {t : Bool} {N : Nat} : SSs t (scopeOf (meAt 39 0)) N (bodyOf (meAt 39 0)) F334.body := (sss_cons (ss_sat (se_loc) (se_loc)) (sss_cons (ss_sat (se_bin (op := .add) (se_list (se_loc)) (se_bin (op := .mul) (se_lst (ses_cons (se_int) ses_nil)) (se_loc))) (se_loc)) (sss_cons (ss_sat (se_len (se_loc)) (se_loc)) (sss_cons (ss_sat (se_bin (op := .add) (se_len (se_loc)) (se_loc)) (se_loc)) sss_nil))))
theorem b341 {t : Bool} {N : Nat} : SSs t (scopeOf (meAt 39 1)) N (bodyOf (meAt 39 1)) F341.body := (sss_cons (ss_ret (se_bin (op := .add) (se_bin (op := .sub) (se_len (se_att (se_loc))) (se_att (se_loc))) (se_att (se_loc)))) sss_nil)
theorem b355 {t : Bool} {N : Nat} : SSs t (scopeOf (meAt 39 3)) N (bodyOf (meAt 39 3)) F355.body := (sss_cons (ss_set (se_bin (op := .sub) (se_att (se_loc)) (se_att (se_loc)))) (sss_cons (ss_ife (st_cmp (op := .le) (se_loc) (se_att (se_loc))) (sss_cons (ss_ret (se_slc (se_att (se_loc)) (se_loc) (se_loc))) sss_nil) sss_nil) (sss_cons (ss_ife (st_cmp (op := .ge) (se_loc) (se_att (se_loc))) (sss_cons (ss_ret (se_slc (se_att (se_loc)) (se_bin (op := .add) (se_loc) (se_loc)) (se_bin (op := .add) (se_loc) (se_loc)))) sss_nil) sss_nil) (sss_cons (ss_ret (se_bin (op := .add) (se_slc (se_att (se_loc)) (se_loc) (se_att (se_loc))) (se_slc (se_att (se_loc)) (se_att (se_loc)) (se_bin (op := .add) (se_loc) (se_loc))))) sss_nil))))
theorem b362 {t : Bool} {N : Nat} : SSs t (scopeOf (meAt 39 4)) N (bodyOf (meAt 39 4)) F362.body := (sss_cons (ss_ife (st_cmp (op := .lt) (se_loc) (se_att (se_loc))) (sss_cons (ss_set (se_slc (se_att (se_loc)) (se_loc) (se_att (se_loc)))) (sss_cons (ss_ssl (se_loc) (se_att (se_loc)) (se_bin (op := .sub) (se_att (se_loc)) (se_len (se_loc))) (se_att (se_loc))) (sss_cons (ss_sat (se_bin (op := .sub) (se_att (se_loc)) (se_len (se_loc))) (se_loc)) sss_nil))) (sss_cons (ss_set (se_slc (se_att (se_loc)) (se_att (se_loc)) (se_bin (op := .sub) (se_bin (op := .add) (se_att (se_loc)) (se_loc)) (se_att (se_loc))))) (sss_cons (ss_ssl (se_loc) (se_att (se_loc)) (se_att (se_loc)) (se_bin (op := .add) (se_att (se_loc)) (se_len (se_loc)))) (sss_cons (ss_sat (se_bin (op := .add) (se_att (se_loc)) (se_len (se_loc))) (se_loc)) sss_nil)))) (sss_cons (ss_sat (se_loc) (se_loc)) sss_nil))
theorem b369 {t : Bool} {N : Nat} : SSs t (scopeOf (meAt 39 5)) N (bodyOf (meAt 39 5)) F369.body := (sss_cons (ss_set (se_bin (op := .sub) (se_loc) (se_bin (op := .sub) (se_att (se_loc)) (se_att (se_loc))))) (sss_cons (ss_ife (st_cmp (op := .gt) (se_loc) (se_int)) (sss_cons (ss_ssl (se_bin (op := .mul) (se_lst (ses_cons (se_int) ses_nil)) (se_bin (op := .add) (se_loc) (se_att (se_loc)))) (se_att (se_loc)) (se_att (se_loc)) (se_att (se_loc))) (sss_cons (ss_sat (se_bin (op := .add) (se_bin (op := .add) (se_att (se_loc)) (se_loc)) (se_att (se_loc))) (se_loc)) sss_nil)) sss_nil) sss_nil))
theorem b376 {t : Bool} {N : Nat} : SSs t (scopeOf (meAt 39 6)) N (bodyOf (meAt 39 6)) F376.body := (sss_cons (ss_exp (se_met (se_loc) (ses_cons (se_len (se_loc)) ses_nil))) (sss_cons (ss_exp (se_met (se_loc) (ses_cons (se_loc) ses_nil))) (sss_cons (ss_ssl (se_loc) (se_att (se_loc)) (se_loc) (se_bin (op := .add) (se_loc) (se_len (se_loc)))) (sss_cons (ss_sat (se_bin (op := .add) (se_loc) (se_len (se_loc))) (se_loc)) sss_nil))))
theorem b383 {t : Bool} {N : Nat} : SSs t (scopeOf (meAt 39 7)) N (bodyOf (meAt 39 7)) F383.body := (sss_cons (ss_set (se_met (se_loc) (ses_cons (se_loc) (ses_cons (se_loc) ses_nil)))) (sss_cons (ss_ife (st_cmp (op := .lt) (se_loc) (se_att (se_loc))) (sss_cons (ss_exp (se_met (se_loc) (ses_cons (se_loc) ses_nil))) sss_nil) sss_nil) (sss_cons (ss_ife (st_cmp (op := .gt) (se_loc) (se_att (se_loc))) (sss_cons (ss_exp (se_met (se_loc) (ses_cons (se_loc) ses_nil))) sss_nil) sss_nil) (sss_cons (ss_sat (se_bin (op := .sub) (se_bin (op := .add) (se_att (se_loc)) (se_loc)) (se_att (se_loc))) (se_loc)) (sss_cons (ss_sat (se_loc) (se_loc)) (sss_cons (ss_ret (se_loc)) sss_nil))))))
theorem b425 {t : Bool} {N : Nat} : SSs t (scopeOf (meAt 41 0)) N (bodyOf (meAt 41 0)) F425.body := (sss_cons (ss_sat (se_edict) (se_loc)) sss_nil)
theorem b432 {t : Bool} {N : Nat} : SSs t (scopeOf (meAt 41 1)) N (bodyOf (meAt 41 1)) F432.body := (sss_cons (ss_ret (se_sorted (se_att (se_loc)))) sss_nil)
theorem b453 {t : Bool} {N : Nat} : SSs t (scopeOf (meAt 41 4)) N (bodyOf (meAt 41 4)) F453.body := (sss_cons (ss_set (se_lst ses_nil)) (sss_cons (ss_for (.one (by kernel_rfl)) (se_met (se_loc) ses_nil) sss_stuck) (sss_cons (ss_ret (se_loc)) sss_nil)))
theorem b460 {t : Bool} {N : Nat} : SSs t (scopeOf (meAt 41 5)) N (bodyOf (meAt 41 5)) F460.body := (sss_cons (ss_for (.one (by kernel_rfl)) (se_met (se_loc) ses_nil) sss_stuck) sss_nil)
theorem b467 {t : Bool} {N : Nat} : SSs t (scopeOf (meAt 41 6)) N (bodyOf (meAt 41 6)) F467.body := (sss_cons (ss_for (.one (by kernel_rfl)) (se_met (se_loc) ses_nil) sss_stuck) sss_nil)
theorem b531 {t : Bool} {N : Nat} : SSs t (scopeOf (meAt 45 0)) N (bodyOf (meAt 45 0)) F531.body := (sss_cons (ss_sat (se_loc) (se_loc)) (sss_cons (ss_sat (se_loc) (se_loc)) (sss_cons (ss_sat (se_new (ses_cons (se_lst ses_nil) (ses_cons (se_loc) ses_nil))) (se_loc)) (sss_cons (ss_sat (se_new ses_nil) (se_loc)) (sss_cons (ss_sat (se_int) (se_loc)) (sss_cons (ss_sat (se_int) (se_loc)) (sss_cons (ss_sat (se_int) (se_loc)) (sss_cons (ss_sat (se_non) (se_loc)) (sss_cons (ss_sat (se_boo) (se_loc)) (sss_cons (ss_sat (se_boo) (se_loc)) (sss_cons (ss_sat (se_int) (se_loc)) (sss_cons (ss_sat (se_int) (se_loc)) (sss_cons (ss_sat (se_int) (se_loc)) (sss_cons (ss_sat (se_lst ses_nil) (se_loc)) (sss_cons (ss_sat (se_non) (se_loc)) (sss_cons (ss_sat (se_non) (se_loc)) (sss_cons (ss_sat (se_non) (se_loc)) (sss_cons (ss_sat (se_non) (se_loc)) (sss_cons (ss_sat (se_non) (se_loc)) (sss_cons (ss_sat (se_non) (se_loc)) sss_nil))))))))))))))))))))
theorem b566 {t : Bool} {N : Nat} : SSs t (scopeOf (meAt 45 5)) N (bodyOf (meAt 45 5)) F566.body := (sss_cons (ss_ret (se_met (se_att (se_loc)) ses_nil)) sss_nil)
theorem b580 {t : Bool} {N : Nat} : SSs t (scopeOf (meAt 45 7)) N (bodyOf (meAt 45 7)) F580.body := (sss_cons (ss_ret (se_met (se_att (se_loc)) (ses_cons (se_bin (op := .sub) (se_loc) (se_int)) (ses_cons (se_bin (op := .sub) (se_loc) (se_int)) ses_nil)))) sss_nil)
theorem b587 {t : Bool} {N : Nat} : SSs t (scopeOf (meAt 45 8)) N (bodyOf (meAt 45 8)) F587.body := (sss_cons (ss_sat (se_mn (se_mx (se_loc) (se_att (se_loc))) (se_att (se_loc))) (se_loc)) (sss_cons (ss_ret (se_att (se_loc))) sss_nil))
theorem b601 {t : Bool} {N : Nat} : SSs t (scopeOf (meAt 45 10)) N (bodyOf (meAt 45 10)) F601.body := (sss_cons (ss_ret (se_cmp (op := .lt) (se_att (se_loc)) (se_att (se_loc)))) sss_nil)
theorem b615 {t : Bool} {N : Nat} : SSs t (scopeOf (meAt 45 12)) N (bodyOf (meAt 45 12)) F615.body := (sss_cons (ss_sat (se_bin (op := .add) (se_att (se_loc)) (se_int)) (se_loc)) (sss_cons (ss_ife (st_plain (se_loc)) (sss_cons (ss_sat (se_att (se_loc)) (se_loc)) sss_nil) sss_nil) sss_nil))
theorem b627 {t : Bool} {N : Nat} : SSs t (scopeOf (stAt 47)) N (bodyOf (stAt 47)) F627.body := (sss_cons (ss_par (se_mn (se_loc) (se_loc)) (se_mx (se_loc) (se_loc))) (sss_cons (ss_ife (st_or2 (st_cmp (op := .lt) (se_loc) (se_int)) (st_cmp (op := .gt) (se_loc) (se_bin (op := .add) (se_met (se_loc) ses_nil) (se_int)))) sss_stuck sss_nil) (sss_cons (ss_sat2 (se_loc) (se_loc) (se_loc) (se_loc)) (sss_cons (ss_exp (se_met (se_loc) (ses_cons (se_att (se_loc)) ses_nil))) sss_nil))))
theorem b634 {t : Bool} {N : Nat} : SSs t (scopeOf (stAt 48)) N (bodyOf (stAt 48)) F634.body := (sss_cons (ss_sat2 (se_int) (se_bin (op := .add) (se_met (se_loc) ses_nil) (se_int)) (se_loc) (se_loc)) sss_nil)
theorem b648 {t : Bool} {N : Nat} : SSs t (scopeOf (meAt 50 0)) N (bodyOf (meAt 50 0)) F648.body := (sss_cons (ss_sat (se_loc) (se_loc)) (sss_cons (ss_sat (se_loc) (se_loc)) sss_nil))
theorem b669 {t : Bool} {N : Nat} : SSs t (scopeOf (meAt 52 0)) N (bodyOf (meAt 52 0)) F669.body := (sss_cons (ss_sat (se_new ses_nil) (se_loc)) sss_nil)
theorem b676 {t : Bool} {N : Nat} : SSs t (scopeOf (meAt 52 1)) N (bodyOf (meAt 52 1)) F676.body := (sss_cons (ss_exp (se_met (se_att (se_loc)) (ses_cons (se_loc) (ses_cons (se_loc) (ses_cons (se_att (se_loc)) (ses_cons (se_met (se_loc) ses_nil) (ses_cons (se_att (se_loc)) ses_nil))))))) sss_nil)
theorem b681 {t : Bool} {N : Nat} : SSs t (scopeOf (meAt 52 2)) N (bodyOf (meAt 52 2)) F681.body := (sss_cons (ss_ife (st_not (st_plain (se_att (se_att (se_loc))))) (sss_cons ss_ret0 sss_nil) sss_nil) (sss_cons (ss_set (se_ifx (st_isn (se_att (se_loc))) (se_lst ses_nil) se_stuck)) (sss_cons (ss_setcomp ⟨by kernel_rfl, scope_names (by kernel_rfl), scope_cells (by kernel_rfl), scope_free (by kernel_rfl)⟩ (.none (fun x h => by simp at h)) (se_loc) se_stuck (.inr ⟨_, _, rfl, rfl, st_stuck⟩)) (sss_cons (ss_set (se_lst ses_nil)) (sss_cons (ss_for (.one (by kernel_rfl)) (se_met (se_att (se_loc)) (ses_cons (se_cel) (ses_cons (se_loc) ses_nil))) sss_stuck) (sss_cons (ss_set (se_new (ses_cons (se_met (se_loc) (ses_cons (se_cel) (ses_cons (se_loc) ses_nil))) (ses_cons (se_loc) ses_nil)))) (sss_cons (ss_exp (se_met (se_att (se_loc)) (ses_cons (se_cel) (ses_cons (se_loc) (ses_cons (se_att (se_loc)) (ses_cons (se_loc) (ses_cons (se_met (se_loc) ses_nil) (ses_cons (se_att (se_loc)) ses_nil)))))))) sss_nil)))))))
theorem b700 {t : Bool} {N : Nat} : SSs t (scopeOf (stAt 54)) N (bodyOf (stAt 54)) F700.body := (sss_cons (ss_setcomp ⟨by kernel_rfl, scope_names (by kernel_rfl), scope_cells (by kernel_rfl), scope_free (by kernel_rfl)⟩ (.one (by kernel_rfl)) (se_upto (se_loc) (se_int)) (se_abs (se_loc)) (.inl ⟨rfl, rfl⟩)) (sss_cons (ss_ret (se_lst (ses_cons (se_comp ⟨by kernel_rfl, scope_names (by kernel_rfl), scope_cells (by kernel_rfl), scope_free (by kernel_rfl)⟩ (.one (by kernel_rfl)) (se_loc) (se_loc) (.inr ⟨_, _, rfl, rfl, (st_cmp (op := .ge) (se_loc) (se_pow))⟩)) (ses_cons (se_bin (op := .add) (se_loc) (se_lst (ses_cons (se_bin (op := .add) (se_int) (se_len (se_loc))) ses_nil))) (ses_cons (se_int) ses_nil))))) sss_nil))
theorem b707 {t : Bool} {N : Nat} : SSs t (scopeOf (stAt 55)) N (bodyOf (stAt 55)) F707.body := (sss_cons (ss_ife (st_cmp (op := .ne) (se_idx (se_loc) (se_int)) (se_lst ses_nil)) (sss_cons (ss_set (se_idx (se_idx (se_loc) (se_int)) (se_int))) (sss_cons (ss_six (se_bin (op := .div) (se_loc) (se_loc)) (se_idx (se_loc) (se_int)) (se_int)) (sss_cons (ss_ife (st_cmp (op := .eq) (se_idx (se_idx (se_loc) (se_int)) (se_int)) (se_int)) (sss_cons (ss_exp (se_pop0 (se_idx (se_loc) (se_int)))) sss_nil) sss_nil) (sss_cons (ss_ret (se_bin (op := .mod) (se_loc) (se_loc))) sss_nil)))) sss_nil) (sss_cons (ss_six (se_bin (op := .add) (se_idx (se_loc) (se_int)) (se_int)) (se_loc) (se_int)) (sss_cons (ss_set (se_bin (op := .mod) (se_bin (op := .add) (se_idx (se_idx (se_loc) (se_int)) (se_bin (op := .mod) (se_idx (se_loc) (se_int)) (se_len (se_idx (se_loc) (se_int))))) (se_bin (op := .mul) (se_int) (se_idx (se_loc) (se_int)))) (se_int))) (sss_cons (ss_set (se_bin (op := .mod) (se_bin (op := .add) (se_bin (op := .mul) (se_loc) (se_loc)) (se_bin (op := .mul) (se_int) (se_idx (se_loc) (se_int)))) (se_int))) (sss_cons (ss_ret (se_bin (op := .mod) (se_bin (op := .div) (se_bin (op := .mod) (se_bin (op := .mul) (se_loc) (se_loc)) (se_int)) (se_int)) (se_loc))) sss_nil)))))
theorem b714 {t : Bool} {N : Nat} : SSs t (scopeOf (stAt 56)) N (bodyOf (stAt 56)) F714.body := (sss_cons (ss_set (se_met (se_loc) ses_nil)) (sss_cons (ss_set (se_bin (op := .add) (se_int) (se_call (ses_cons (se_loc) (ses_cons (se_bin (op := .add) (se_loc) (se_int)) ses_nil))))) (sss_cons (ss_set (se_bin (op := .add) (se_loc) (se_call (ses_cons (se_loc) (ses_cons (se_bin (op := .add) (se_mn (se_int) (se_bin (op := .sub) (se_bin (op := .add) (se_loc) (se_int)) (se_loc))) (se_int)) ses_nil))))) (sss_cons (ss_exp (se_met (se_att (se_att (se_loc))) ses_nil)) (sss_cons (ss_ife (st_cmp (op := .eq) (se_loc) (se_loc)) (sss_cons (ss_set (se_upto (se_lst (ses_cons (se_loc) (ses_cons (se_bin (op := .add) (se_loc) (se_int)) (ses_cons (se_bin (op := .add) (se_loc) (se_int)) ses_nil)))) (se_bin (op := .add) (se_int) (se_call (ses_cons (se_loc) (ses_cons (se_int) ses_nil)))))) (sss_cons (ss_exp (se_met (se_loc) (ses_cons (se_loc) ses_nil))) (sss_cons (ss_exp (se_call (ses_cons (se_loc) (ses_cons (se_loc) ses_nil)))) (sss_cons (ss_ret (se_tup (ses_cons (se_str) (ses_cons (se_loc) (ses_cons (se_loc) ses_nil))))) sss_nil)))) sss_nil) (sss_cons (ss_ret (se_tup (ses_cons (se_str) (ses_cons (se_loc) (ses_cons (se_call (ses_cons (se_loc) (ses_cons (se_loc) (ses_cons (se_loc) ses_nil)))) ses_nil))))) sss_nil))))))
theorem b721 {t : Bool} {N : Nat} : SSs t (scopeOf (stAt 57)) N (bodyOf (stAt 57)) F721.body := (sss_cons (ss_ret (se_tup (ses_cons (se_met (se_loc) (ses_cons (se_int) (ses_cons (se_bin (op := .add) (se_met (se_loc) ses_nil) (se_int)) ses_nil))) (ses_cons (se_att (se_loc)) (ses_cons (se_att (se_loc)) (ses_cons (se_att (se_loc)) ses_nil)))))) sss_nil)
theorem b728 {t : Bool} {N : Nat} : SSs t (scopeOf (stAt 58)) N (bodyOf (stAt 58)) F728.body := (sss_cons (ss_unp (.cons (by kernel_rfl) (.cons (by kernel_rfl) (.cons (by kernel_rfl) .nil))) (se_loc)) (sss_cons (ss_ife (st_cmp (op := .eq) (se_loc) (se_str)) (sss_cons (ss_ret (se_bin (op := .add) (se_upto (se_loc) (se_bin (op := .sub) (se_loc) (se_int))) (se_fro (se_loc) (se_bin (op := .add) (se_bin (op := .sub) (se_loc) (se_int)) (se_len (se_loc)))))) sss_nil) sss_nil) (sss_cons (ss_ret (se_bin (op := .add) (se_bin (op := .add) (se_upto (se_loc) (se_bin (op := .sub) (se_loc) (se_int))) (se_loc)) (se_fro (se_loc) (se_bin (op := .sub) (se_loc) (se_int))))) sss_nil)))
theorem b733 {t : Bool} {N : Nat} : SSs true (scopeOf (stAt 59)) N (bodyOf (stAt 59)) F733.body := (sss_cons (ss_sce (se_call (ses_cons (se_loc) ses_nil)) (se_new (ses_cons (se_int) (ses_cons (se_str) ses_nil)))) (sss_cons (ss_set (se_list (se_range (se_bin (op := .add) (se_int) (se_call (ses_cons (se_cel) (ses_cons (se_int) ses_nil))))))) (sss_cons (ss_exp (se_call (ses_cons (se_cel) (ses_cons (se_loc) ses_nil)))) (sss_cons (ss_sat (se_new ses_nil) (se_cel)) (sss_cons (ss_setcomp ⟨by kernel_rfl, scope_names (by kernel_rfl), scope_cells (by kernel_rfl), scope_free (by kernel_rfl)⟩ (.one (by kernel_rfl)) (se_range (se_bin (op := .add) (se_int) (se_call (ses_cons (se_cel) (ses_cons (se_int) ses_nil))))) (se_call (ses_cons (se_cel) (ses_cons (se_cel) (ses_cons (se_bin (op := .add) (se_bin (op := .mul) (se_int) (se_loc)) (se_int)) ses_nil)))) (.inl ⟨rfl, rfl⟩)) (sss_cons (ss_set (se_bin (op := .add) (se_int) (se_call (ses_cons (se_cel) (ses_cons (se_bin (op := .add) (se_met (se_cel) ses_nil) (se_int)) ses_nil))))) (sss_cons (ss_set (se_bin (op := .add) (se_loc) (se_call (ses_cons (se_cel) (ses_cons (se_bin (op := .sub) (se_bin (op := .add) (se_met (se_cel) ses_nil) (se_int)) (se_loc)) ses_nil))))) (sss_cons (ss_exp (se_call (ses_cons (se_cel) (ses_cons (se_loc) (ses_cons (se_loc) ses_nil))))) (sss_cons (ss_set (se_list (se_att (se_att (se_att (se_cel)))))) (sss_cons (ss_set (se_len (se_loc))) (sss_cons (ss_for (.one (by kernel_rfl)) (se_rev (se_loc)) (sss_cons (ss_unp (.cons (by kernel_rfl) (.cons (by kernel_rfl) (.cons (by kernel_rfl) .nil))) (se_loc)) (sss_cons (ss_exp (se_met (se_cel) (ses_cons (se_bin (op := .add) (se_loc) (se_call (ses_cons (se_cel) (ses_cons (se_int) ses_nil)))) ses_nil))) (sss_cons (ss_par (se_call (ses_cons (se_cel) ses_nil)) (se_len (se_loc))) (sss_cons (ss_set (se_ifx (st_cmp (op := .eq) (se_loc) (se_str)) (se_bin (op := .add) (se_loc) (se_loc)) (se_loc))) (sss_cons (ss_set (se_and2 (se_cmp (op := .le) (se_loc) (se_loc)) (se_cmp (op := .le) (se_loc) (se_loc)))) (sss_cons (ss_try (se_call (ses_cons (se_cel) (ses_cons (se_loc) (ses_cons (se_loc) ses_nil)))) (sss_cons (ss_set (se_boo)) sss_nil)) (sss_cons (ss_ife (st_cmp (op := .ne) (se_loc) (se_loc)) (sss_cons (ss_ret (se_boo)) sss_nil) sss_nil) (sss_cons (ss_set (se_call (ses_cons (se_idx (se_loc) (se_int)) (ses_cons (se_loc) ses_nil)))) (sss_cons (ss_ife (st_not (st_plain (se_loc))) (sss_cons (ss_ife (st_cmp (op := .ne) (se_call (ses_cons (se_cel) ses_nil)) (se_loc)) (sss_cons (ss_ret (se_boo)) sss_nil) sss_nil) (sss_cons (ss_exp (se_call (ses_cons (se_cel) ses_nil))) (sss_cons (ss_set (se_call (ses_cons (se_cel) (ses_cons (se_loc) (ses_cons (se_loc) ses_nil))))) (sss_cons (ss_par (se_int) (se_bin (op := .add) (se_len (se_loc)) (se_int))) sss_nil)))) (sss_cons (ss_set (se_bin (op := .add) (se_loc) (se_ifx (st_cmp (op := .eq) (se_loc) (se_str)) (se_loc) (se_bin (op := .sub) (se_int) (se_loc))))) sss_nil)) (sss_cons (ss_ife (st_or3 (st_cmp (op := .ne) (se_idx (se_call (ses_cons (se_cel) ses_nil)) (se_int)) (se_loc)) (st_cmp (op := .ne) (se_lst (ses_cons (se_att (se_cel)) (ses_cons (se_att (se_cel)) ses_nil))) (se_lst (ses_cons (se_loc) (ses_cons (se_loc) ses_nil)))) (st_not (st_cmp2 (o₁ := .le) (o₂ := .le) (se_loc) (se_att (se_cel)) (se_loc)))) (sss_cons (ss_ret (se_boo)) sss_nil) sss_nil) (sss_cons (ss_set (se_loc)) (sss_cons (ss_exp (se_met (se_att (se_att (se_cel))) ses_nil)) sss_nil))))))))))))) (sss_cons (ss_ret (se_and2 (se_cmp (op := .eq) (se_loc) (se_int)) (se_cmp (op := .eq) (se_loc) (se_list (se_range (se_len (se_loc))))))) sss_nil))))))))))))
end Mine

namespace Mine
open PySem PySem.W PySem.Calls PyProof.Rows
open I
/-- parameters and what they are bound to -/
inductive Pr (ρ : List Addr) : List (String × V) → List (Str × Value) → Prop
  | nil : Pr ρ [] []
  | cons {x : String} {v : V} {cv : Value} {l : List (String × V)} {b : List (Str × Value)} : VR ρ v cv → Pr ρ l b → Pr ρ ((x, v) :: l) ((nm x, cv) :: b)
section
variable {ρ : List Addr}
theorem Pr.app {l l' : List (String × V)} {b b' : List (Str × Value)} (x : Pr ρ l b) (y : Pr ρ l' b') : Pr ρ (l ++ l') (b ++ b') := by
  induction x with
  | nil => exact y
  | cons h _ ih => exact .cons h ih
theorem Pr.rev {l : List (String × V)} {b : List (Str × Value)} (x : Pr ρ l b) : Pr ρ l.reverse b.reverse := by
  induction x with
  | nil => exact .nil
  | cons h _ ih => rw [List.reverse_cons, List.reverse_cons]; exact ih.app (.cons h .nil)
theorem Pr.get {l : List (String × V)} {b : List (Str × Value)} (x : Pr ρ l b) {y : String} {v : V} (e : l.lookup y = some v) : ∃ cv, List.lookup (nm y) b = some cv ∧ VR ρ v cv := by
  induction x with
  | nil => cases e
  | @cons z u cu l b h _ ih =>
    rw [List.lookup_cons] at e ⊢
    rw [nm_beq]
    cases q : y == z with
    | true => rw [q] at e; cases e; exact ⟨cu, rfl, h⟩
    | false => rw [q] at e; exact ih e
theorem Pr.zip : ∀ {ps : List String} {vs : List V} {cvs : List Value}, VRs ρ vs cvs → Pr ρ (ps.zip vs) ((ps.map nm).zip cvs)
  | [], _, _, _ => .nil
  | _ :: _, _, _, .nil => .nil
  | x :: ps, _, _, .cons h hs => .cons h (Pr.zip hs)
theorem Pr.names {ps : List String} {vs : List Value} : ∀ y ∈ (ps.map nm).zip vs, y.1 ∈ ps.map nm := fun y hy => (List.of_mem_zip hy).1
end
theorem bind0 {ps : List String} {vs : List V} {l : List (String × V)} (e : I.bindArgs ps vs [] = some l) : vs.length = ps.length ∧ l = ps.zip vs := by
  simp only [I.bindArgs, List.length_nil, Nat.add_zero] at e
  split at e
  · rename_i h

    cases e
    exact ⟨Nat.le_antisymm h.1 h.2, by rw [List.drop_nil, List.append_nil]⟩
  · cases e
theorem len_succ {α : Type} {l : List α} {k : Nat} (h : l.length = k + 1) : ∃ a r, l = a :: r ∧ r.length = k := by
  cases l with
  | nil => cases h
  | cons a r => exact ⟨a, r, rfl, by simpa using h⟩
theorem len_zero {α : Type} {l : List α} (h : l.length = 0) : l = [] := List.eq_nil_of_length_eq_zero h
noncomputable def scopeB (S : Scope) (ps : List String) : Bool := (S.names.all fun x => !isCel x.2) && !S.isCoroutine && !S.isGenerator && (S.kind == .function) && ps.all fun x => isLoc (S.names.lookup (nm x))
/-- what is asked of a def -/
structure DefOk (f : Addr) (st : Stmt) (q : Str) (dV pm : Value) (cd : Addr) (d : FD) : Prop where
  fn : fns f = some d
  lk : ∀ P, (K P).lookup f = some (fO st q dV pm cd)
  df : isDef st = true
  cd : ∀ P, codeIn (K P) (.ref cd) q = true
noncomputable def CallAt (n : Nat) (f : Addr) : Prop := ∀ {w : World} {mean : ExcName → Option Value} {mg mb : Str → Option Value} {A : Around} {base : Heap} {outer : List Env} {g : Heap} {s : Shared} {Rr : Result → Shared → Prop} {vs : List V} {cvs : List Value} {σ : H} {news : List (Addr × Obj)},
  Site w mean mg mb A base outer g n (3 * n + 200) → (∀ b o, g.get? b = some o → s.heap.get? b = some o) → g.objs.size ≤ s.heap.objs.size → Own g s.heap news → (adr news).Nodup → Rel σ news → VRs (adr news) vs cvs →
  RCont base outer g s (adr news) (callI fns mets inits n f vs σ) Rr → codeAny (model p0 w) A (.call (.ref f) ⟨cvs, []⟩) Rr s
/-- out of a body -/
theorem leave_ok {c : Ct} {s : Shared} {h₁ : Heap} {tk : Nat} {ρ : List Addr} {r : R (Fl × Fm)} {Rr : Result → Shared → Prop} (hfe : c.env = c.fenv) (B : Below c.A c.base c.outer c.g)
    (k : RCont c.base c.outer c.g s ρ (r.bind fun r σ => match r.1 with | .next => .ok .none σ | .ret v => .ok v σ) Rr) :
    ContS c ρ (up s h₁ tk) r (fun fl s' => Rr (.ok (.ret (match fl with | .ret v => v | _ => .none))) s') (fun e s' => wpAny (model p0 c.w) c.A' (leaving c.env e) (fun _ s'' => Rr (.error e) s'') (fun e' s'' => Rr (.error e') s'') s') := by
  cases r with
  | bad => exact k.elim
  | exc sy σ' => exact fun s' e l' x => x.leave hfe B fun s'' y => k _ _ y
  | ok a σ' =>
    obtain ⟨fl, m⟩ := a
    intro h' tk' news' l' cfl st' pre hf
    have cx := st'.cx
    have own : Own c.g h' news' := fun p hp => ⟨(cx.N p hp).1, (cx.N p hp).2.2⟩
    cases hf with
    | next => exact k h' tk' .none news' cx.F.keep own cx.nd st'.rel pre .none
    | ret hv => exact k h' tk' _ news' cx.F.keep own cx.nd st'.rel pre hv
theorem fn_ok {f : Addr} {st : Stmt} {q : Str} {dV pm : Value} {cd : Addr} {d : FD} {n : Nat} (D : DefOk f st q dV pm cd d) (hc : d.cells = []) (hs : scopeB (scopeOf st) d.params = true)
    (hb : ∀ {s : Shared} {P : Params} {vs : List V} {l : List (String × V)} {ρ : List Addr} {cvs : List Value}, (K P).In s.heap → VRs ρ vs cvs → I.bindArgs d.params vs d.dflt = some l → ∃ binds, BindsTo s (fdOf st q dV pm cd) ⟨cvs, []⟩ binds ∧ Pr ρ l binds ∧ ∀ y ∈ binds, y.1 ∈ d.params.map nm)
    (body : SSs false (scopeOf st) n (bodyOf st) d.body) (ih : ∀ k < n, CallOk fns mets inits k) : CallAt (n + 1) f := fun {w mean mg mb A base outer g s Rr vs cvs σ news} S hs' hz hO nd hr hv k => by
  rw [callI, D.fn] at k
  dsimp only [bad?] at k
  cases e : I.bindArgs d.params vs d.dflt with
  | none => rw [e] at k; exact k.elim
  | some l =>
  rw [e] at k
  dsimp only at k
  unfold scopeB at hs
  simp only [Bool.and_eq_true] at hs
  obtain ⟨⟨⟨⟨s1, s2⟩, s3⟩, s4⟩, s5⟩ := hs
  have s4 := eq_of_beq s4
  have hcell := scope_cells s1
  have X' := S.X.keeps hs'
  obtain ⟨binds, b1, b2, b3⟩ := hb (s := s) (P := w.params) X' hv e
  have hloc : ∀ y ∈ binds, (scopeOf st).names.lookup y.1 = some .local := fun y hy => by
    obtain ⟨x, hx, ex⟩ := List.mem_map.mp (b3 y hy)
    rw [← ex]
    exact isLoc_ok (List.all_eq_true.mp s5 x hx)
  have e1 : (l.filter fun p => !(d.cells.contains p.1)) = l := by rw [hc]; exact List.filter_eq_self.mpr fun _ _ => rfl
  rw [e1, hc] at k
  rw [show σ ++ List.map (fun x => AO.cell (List.lookup x l)) [] = σ from List.append_nil σ] at k
  have none_cell : ∀ n, (scopeOf st).names.lookup n = some .cell → False := fun n hn => by
    have : ∀ {l : List (Str × NameKind)}, List.lookup n l = some .cell → ∃ y ∈ l, y.2 = .cell := by
      intro l
      induction l with
      | nil => intro z; cases z
      | cons p r ih =>
        intro z
        rw [List.lookup_cons] at z
        split at z
        · exact ⟨p, List.mem_cons_self .., Option.some.inj z⟩
        · obtain ⟨y, h1, h2⟩ := ih z; exact ⟨y, List.mem_cons_of_mem _ h1, h2⟩
    obtain ⟨y, h1, h2⟩ := this hn
    exact hcell y h1 h2
  refine enter S hs' hz hO nd ((D.lk w.params).trans (congrArg some (fO_eq D.df))) (D.cd _) b1 hloc rfl (fun L' h₁ tk cx => ?_) hcell (by simpa using s2) (by simpa using s3) s4
  let c : Ct := { w := w, mean := mean, mg := mg, mb := mb, A := A, base := base, outer := outer, g := g, L := L', env := envX q (scopeOf st) L' f (.ref cd) [], fenv := envX q (scopeOf st) L' f (.ref cd) [], fl := none, cs := scopeOf st, cl := [], hs := rfl, hk := s4, hg := rfl, hb := rfl, hc := rfl, hfr := rfl, ffr := rfl, fk := s4, hlo := fun _ => rfl, hcl := fun n hn => (none_cell n hn).elim }
  have F : Fc c (scopeOf st) n false := ⟨⟨rfl, ⟨by have := S.depth; show A.depth + 1 + n < _; lia, by have := S.units; show A.units + 3 + 3 * n + 200 < _; lia⟩, ih⟩, rfl, rfl, fun z => by cases z⟩
  have st₀ : St c ⟨l.reverse, []⟩ σ h₁ binds.reverse news := ⟨cx, hr, fun x v e => b2.rev.get e, fun x i z => (none_cell _ z).elim, fun z => by cases z⟩
  exact body c F n (Nat.le_refl _) ⟨l.reverse, []⟩ σ (up s h₁ tk) binds.reverse news _ _ st₀ (leave_ok (c := c) rfl S.below k)
end Mine

namespace Mine
open PySem PySem.W PySem.Calls PyProof.Rows
open I
theorem plain_bind {d : FD} {st : Stmt} {q : Str} {dV pm : Value} {cd : Addr} (hd : d.dflt = []) (h : ∀ cvs : List Value, cvs.length = d.params.length → PySem.bindArgs (fdOf st q dV pm cd) ⟨cvs, []⟩ = pure ((d.params.map nm).zip cvs))
    {s : Shared} {P : Params} {vs : List V} {l : List (String × V)} {ρ : List Addr} {cvs : List Value} (X : (K P).In s.heap) (hv : VRs ρ vs cvs) (e : I.bindArgs d.params vs d.dflt = some l) : ∃ binds, BindsTo s (fdOf st q dV pm cd) ⟨cvs, []⟩ binds ∧ Pr ρ l binds ∧ ∀ y ∈ binds, y.1 ∈ d.params.map nm := by
  rw [hd] at e
  obtain ⟨h1, rfl⟩ := bind0 e
  exact ⟨_, BindsTo.of_eq (h cvs (by rw [← hv.len, h1])), Pr.zip hv, Pr.names⟩
theorem few {t : Bool} {S : Scope} {n : Nat} {p : List Stmt} {x : List MS} (hx : x.isEmpty = false) (h : 2 ≤ n → SSs t S n p x) : SSs t S n p x := by
  by_cases h2 : 2 ≤ n
  · exact h h2
  · refine fun c F k hk m σ => ?_
    match k, x, hk, hx with
    | 0, _, _, _ => rw [execsI]; exact jss_bad
    | 1, y :: ys, _, _ => rw [execsI, execI]; exact jss_bad
    | k + 2, _, hk, _ => lia
theorem d48 : DefOk 48 (stAt 4) "need_writable" .none (.str "emacs.editing" 227) 47 F48 := ⟨rfl, fun P => by kernel_rfl, by kernel_rfl, fun P => by kernel_rfl⟩
theorem c48 {n : Nat} (ih : ∀ k < n, CallOk fns mets inits k) : CallAt (n + 1) 48 := fn_ok d48 rfl (by kernel_rfl) (plain_bind rfl (fun cvs h0 => by obtain ⟨a0, r0, rfl, h1⟩ := len_succ (k := 0) h0; cases len_zero h1; kernel_rfl)) b48 ih
theorem d55 : DefOk 55 (stAt 5) "reached" .none (.str "emacs.editing" 227) 54 F55 := ⟨rfl, fun P => by kernel_rfl, by kernel_rfl, fun P => by kernel_rfl⟩
theorem c55 {n : Nat} (ih : ∀ k < n, CallOk fns mets inits k) : CallAt (n + 1) 55 := fn_ok d55 rfl (by kernel_rfl) (plain_bind rfl (fun cvs h0 => by obtain ⟨a0, r0, rfl, h1⟩ := len_succ (k := 2) h0; obtain ⟨a1, r1, rfl, h2⟩ := len_succ (k := 1) h1; obtain ⟨a2, r2, rfl, h3⟩ := len_succ (k := 0) h2; cases len_zero h3; kernel_rfl)) b55 ih
theorem d62 : DefOk 62 (stAt 6) "tell_ahead" .none (.str "emacs.editing" 227) 61 F62 := ⟨rfl, fun P => by kernel_rfl, by kernel_rfl, fun P => by kernel_rfl⟩
theorem c62 {n : Nat} (ih : ∀ k < n, CallOk fns mets inits k) : CallAt (n + 1) 62 := fn_ok d62 rfl (by kernel_rfl) (plain_bind rfl (fun cvs h0 => by obtain ⟨a0, r0, rfl, h1⟩ := len_succ (k := 2) h0; obtain ⟨a1, r1, rfl, h2⟩ := len_succ (k := 1) h1; obtain ⟨a2, r2, rfl, h3⟩ := len_succ (k := 0) h2; cases len_zero h3; kernel_rfl)) b62 ih
theorem d69 : DefOk 69 (stAt 7) "tell_behind" .none (.str "emacs.editing" 227) 68 F69 := ⟨rfl, fun P => by kernel_rfl, by kernel_rfl, fun P => by kernel_rfl⟩
theorem c69 {n : Nat} (ih : ∀ k < n, CallOk fns mets inits k) : CallAt (n + 1) 69 := fn_ok d69 rfl (by kernel_rfl) (plain_bind rfl (fun cvs h0 => by obtain ⟨a0, r0, rfl, h1⟩ := len_succ (k := 3) h0; obtain ⟨a1, r1, rfl, h2⟩ := len_succ (k := 2) h1; obtain ⟨a2, r2, rfl, h3⟩ := len_succ (k := 1) h2; obtain ⟨a3, r3, rfl, h4⟩ := len_succ (k := 0) h3; cases len_zero h4; kernel_rfl)) b69 ih
theorem d76 : DefOk 76 (stAt 8) "text_out" .none (.str "emacs.editing" 227) 75 F76 := ⟨rfl, fun P => by kernel_rfl, by kernel_rfl, fun P => by kernel_rfl⟩
theorem c76 {n : Nat} (ih : ∀ k < n, CallOk fns mets inits k) : CallAt (n + 1) 76 := fn_ok d76 rfl (by kernel_rfl) (plain_bind rfl (fun cvs h0 => by obtain ⟨a0, r0, rfl, h1⟩ := len_succ (k := 2) h0; obtain ⟨a1, r1, rfl, h2⟩ := len_succ (k := 1) h1; obtain ⟨a2, r2, rfl, h3⟩ := len_succ (k := 0) h2; cases len_zero h3; kernel_rfl)) b76 ih
theorem d83 : DefOk 83 (stAt 9) "text_in" .none (.str "emacs.editing" 227) 82 F83 := ⟨rfl, fun P => by kernel_rfl, by kernel_rfl, fun P => by kernel_rfl⟩
theorem c83 {n : Nat} (ih : ∀ k < n, CallOk fns mets inits k) : CallAt (n + 1) 83 := fn_ok d83 rfl (by kernel_rfl) (plain_bind rfl (fun cvs h0 => by obtain ⟨a0, r0, rfl, h1⟩ := len_succ (k := 2) h0; obtain ⟨a1, r1, rfl, h2⟩ := len_succ (k := 1) h1; obtain ⟨a2, r2, rfl, h3⟩ := len_succ (k := 0) h2; cases len_zero h3; kernel_rfl)) b83 ih
theorem d90 : DefOk 90 (stAt 10) "hung_out" .none (.str "emacs.editing" 227) 89 F90 := ⟨rfl, fun P => by kernel_rfl, by kernel_rfl, fun P => by kernel_rfl⟩
theorem c90 {n : Nat} (ih : ∀ k < n, CallOk fns mets inits k) : CallAt (n + 1) 90 := fn_ok d90 rfl (by kernel_rfl) (plain_bind rfl (fun cvs h0 => by obtain ⟨a0, r0, rfl, h1⟩ := len_succ (k := 2) h0; obtain ⟨a1, r1, rfl, h2⟩ := len_succ (k := 1) h1; obtain ⟨a2, r2, rfl, h3⟩ := len_succ (k := 0) h2; cases len_zero h3; kernel_rfl)) b90 ih
theorem d97 : DefOk 97 (stAt 11) "hung_in" .none (.str "emacs.editing" 227) 96 F97 := ⟨rfl, fun P => by kernel_rfl, by kernel_rfl, fun P => by kernel_rfl⟩
theorem c97 {n : Nat} (ih : ∀ k < n, CallOk fns mets inits k) : CallAt (n + 1) 97 := fn_ok d97 rfl (by kernel_rfl) (plain_bind rfl (fun cvs h0 => by obtain ⟨a0, r0, rfl, h1⟩ := len_succ (k := 3) h0; obtain ⟨a1, r1, rfl, h2⟩ := len_succ (k := 2) h1; obtain ⟨a2, r2, rfl, h3⟩ := len_succ (k := 1) h2; obtain ⟨a3, r3, rfl, h4⟩ := len_succ (k := 0) h3; cases len_zero h4; kernel_rfl)) b97 ih
theorem d104 : DefOk 104 (stAt 12) "put_in" .none (.str "emacs.editing" 227) 103 F104 := ⟨rfl, fun P => by kernel_rfl, by kernel_rfl, fun P => by kernel_rfl⟩
theorem c104 {n : Nat} (ih : ∀ k < n, CallOk fns mets inits k) : CallAt (n + 1) 104 := fn_ok d104 rfl (by kernel_rfl) (plain_bind rfl (fun cvs h0 => by obtain ⟨a0, r0, rfl, h1⟩ := len_succ (k := 4) h0; obtain ⟨a1, r1, rfl, h2⟩ := len_succ (k := 3) h1; obtain ⟨a2, r2, rfl, h3⟩ := len_succ (k := 2) h2; obtain ⟨a3, r3, rfl, h4⟩ := len_succ (k := 1) h3; obtain ⟨a4, r4, rfl, h5⟩ := len_succ (k := 0) h4; cases len_zero h5; kernel_rfl)) b104 ih
theorem d112 : DefOk 112 (stAt 13) "insert" (.ref 105) (.str "emacs.editing" 227) 111 F112 := ⟨rfl, fun P => by kernel_rfl, by kernel_rfl, fun P => by kernel_rfl⟩
theorem d119 : DefOk 119 (stAt 14) "delete" .none (.str "emacs.editing" 227) 118 F119 := ⟨rfl, fun P => by kernel_rfl, by kernel_rfl, fun P => by kernel_rfl⟩
theorem c119 {n : Nat} (ih : ∀ k < n, CallOk fns mets inits k) : CallAt (n + 1) 119 := fn_ok d119 rfl (by kernel_rfl) (plain_bind rfl (fun cvs h0 => by obtain ⟨a0, r0, rfl, h1⟩ := len_succ (k := 2) h0; obtain ⟨a1, r1, rfl, h2⟩ := len_succ (k := 1) h1; obtain ⟨a2, r2, rfl, h3⟩ := len_succ (k := 0) h2; cases len_zero h3; kernel_rfl)) b119 ih
theorem d162 : DefOk 162 (stAt 23) "insert_piece" .none (.str "emacs.piecing" 382) 161 F162 := ⟨rfl, fun P => by kernel_rfl, by kernel_rfl, fun P => by kernel_rfl⟩
theorem d189 : DefOk 189 (meAt 28 0) "UndoList.__init__" .none (.str "emacs.undolist" 412) 188 F189 := ⟨rfl, fun P => by kernel_rfl, by kernel_rfl, fun P => by kernel_rfl⟩
theorem c189 {n : Nat} (ih : ∀ k < n, CallOk fns mets inits k) : CallAt (n + 1) 189 := fn_ok d189 rfl (by kernel_rfl) (plain_bind rfl (fun cvs h0 => by obtain ⟨a0, r0, rfl, h1⟩ := len_succ (k := 0) h0; cases len_zero h1; kernel_rfl)) b189 ih
theorem d203 : DefOk 203 (meAt 28 2) "UndoList.is_at_boundary" .none (.str "emacs.undolist" 412) 202 F203 := ⟨rfl, fun P => by kernel_rfl, by kernel_rfl, fun P => by kernel_rfl⟩
theorem c203 {n : Nat} (ih : ∀ k < n, CallOk fns mets inits k) : CallAt (n + 1) 203 := fn_ok d203 rfl (by kernel_rfl) (plain_bind rfl (fun cvs h0 => by obtain ⟨a0, r0, rfl, h1⟩ := len_succ (k := 0) h0; cases len_zero h1; kernel_rfl)) b203 ih
theorem d210 : DefOk 210 (meAt 28 3) "UndoList.boundary" .none (.str "emacs.undolist" 412) 209 F210 := ⟨rfl, fun P => by kernel_rfl, by kernel_rfl, fun P => by kernel_rfl⟩
theorem c210 {n : Nat} (ih : ∀ k < n, CallOk fns mets inits k) : CallAt (n + 1) 210 := fn_ok d210 rfl (by kernel_rfl) (plain_bind rfl (fun cvs h0 => by obtain ⟨a0, r0, rfl, h1⟩ := len_succ (k := 0) h0; cases len_zero h1; kernel_rfl)) b210 ih
theorem d224 : DefOk 224 (meAt 28 5) "UndoList.note_state" .none (.str "emacs.undolist" 412) 223 F224 := ⟨rfl, fun P => by kernel_rfl, by kernel_rfl, fun P => by kernel_rfl⟩
theorem c224 {n : Nat} (ih : ∀ k < n, CallOk fns mets inits k) : CallAt (n + 1) 224 := fn_ok d224 rfl (by kernel_rfl) (plain_bind rfl (fun cvs h0 => by obtain ⟨a0, r0, rfl, h1⟩ := len_succ (k := 2) h0; obtain ⟨a1, r1, rfl, h2⟩ := len_succ (k := 1) h1; obtain ⟨a2, r2, rfl, h3⟩ := len_succ (k := 0) h2; cases len_zero h3; kernel_rfl)) b224 ih
theorem d231 : DefOk 231 (meAt 28 6) "UndoList.note_insert" .none (.str "emacs.undolist" 412) 230 F231 := ⟨rfl, fun P => by kernel_rfl, by kernel_rfl, fun P => by kernel_rfl⟩
theorem c231 {n : Nat} (ih : ∀ k < n, CallOk fns mets inits k) : CallAt (n + 1) 231 := fn_ok d231 rfl (by kernel_rfl) (plain_bind rfl (fun cvs h0 => by obtain ⟨a0, r0, rfl, h1⟩ := len_succ (k := 5) h0; obtain ⟨a1, r1, rfl, h2⟩ := len_succ (k := 4) h1; obtain ⟨a2, r2, rfl, h3⟩ := len_succ (k := 3) h2; obtain ⟨a3, r3, rfl, h4⟩ := len_succ (k := 2) h3; obtain ⟨a4, r4, rfl, h5⟩ := len_succ (k := 1) h4; obtain ⟨a5, r5, rfl, h6⟩ := len_succ (k := 0) h5; cases len_zero h6; kernel_rfl)) b231 ih
theorem d238 : DefOk 238 (meAt 28 7) "UndoList.note_delete" .none (.str "emacs.undolist" 412) 237 F238 := ⟨rfl, fun P => by kernel_rfl, by kernel_rfl, fun P => by kernel_rfl⟩
theorem c238 {n : Nat} (ih : ∀ k < n, CallOk fns mets inits k) : CallAt (n + 1) 238 := fn_ok d238 rfl (by kernel_rfl) (plain_bind rfl (fun cvs h0 => by obtain ⟨a0, r0, rfl, h1⟩ := len_succ (k := 6) h0; obtain ⟨a1, r1, rfl, h2⟩ := len_succ (k := 5) h1; obtain ⟨a2, r2, rfl, h3⟩ := len_succ (k := 4) h2; obtain ⟨a3, r3, rfl, h4⟩ := len_succ (k := 3) h3; obtain ⟨a4, r4, rfl, h5⟩ := len_succ (k := 2) h4; obtain ⟨a5, r5, rfl, h6⟩ := len_succ (k := 1) h5; obtain ⟨a6, r6, rfl, h7⟩ := len_succ (k := 0) h6; cases len_zero h7; kernel_rfl)) b238 ih
theorem d271 : DefOk 271 (stAt 29) "marker_distance" .none (.str "emacs.undolist" 412) 270 F271 := ⟨rfl, fun P => by kernel_rfl, by kernel_rfl, fun P => by kernel_rfl⟩
theorem c271 {n : Nat} (ih : ∀ k < n, CallOk fns mets inits k) : CallAt (n + 1) 271 := fn_ok d271 rfl (by kernel_rfl) (plain_bind rfl (fun cvs h0 => by obtain ⟨a0, r0, rfl, h1⟩ := len_succ (k := 3) h0; obtain ⟨a1, r1, rfl, h2⟩ := len_succ (k := 2) h1; obtain ⟨a2, r2, rfl, h3⟩ := len_succ (k := 1) h2; obtain ⟨a3, r3, rfl, h4⟩ := len_succ (k := 0) h3; cases len_zero h4; kernel_rfl)) b271 ih
theorem d278 : DefOk 278 (stAt 31) "need_visible" .none (.str "emacs.primundo" 551) 277 F278 := ⟨rfl, fun P => by kernel_rfl, by kernel_rfl, fun P => by kernel_rfl⟩
theorem c278 {n : Nat} (ih : ∀ k < n, CallOk fns mets inits k) : CallAt (n + 1) 278 := fn_ok d278 rfl (by kernel_rfl) (plain_bind rfl (fun cvs h0 => by obtain ⟨a0, r0, rfl, h1⟩ := len_succ (k := 2) h0; obtain ⟨a1, r1, rfl, h2⟩ := len_succ (k := 1) h1; obtain ⟨a2, r2, rfl, h3⟩ := len_succ (k := 0) h2; cases len_zero h3; kernel_rfl)) (few (by rfl) fun h2 => b278 h2) ih
theorem d285 : DefOk 285 (stAt 32) "markers_ahead" .none (.str "emacs.primundo" 551) 284 F285 := ⟨rfl, fun P => by kernel_rfl, by kernel_rfl, fun P => by kernel_rfl⟩
theorem c285 {n : Nat} (ih : ∀ k < n, CallOk fns mets inits k) : CallAt (n + 1) 285 := fn_ok d285 rfl (by kernel_rfl) (plain_bind rfl (fun cvs h0 => by obtain ⟨a0, r0, rfl, h1⟩ := len_succ (k := 1) h0; obtain ⟨a1, r1, rfl, h2⟩ := len_succ (k := 0) h1; cases len_zero h2; kernel_rfl)) b285 ih
theorem d292 : DefOk 292 (stAt 33) "undo_insert" .none (.str "emacs.primundo" 551) 291 F292 := ⟨rfl, fun P => by kernel_rfl, by kernel_rfl, fun P => by kernel_rfl⟩
theorem c292 {n : Nat} (ih : ∀ k < n, CallOk fns mets inits k) : CallAt (n + 1) 292 := fn_ok d292 rfl (by kernel_rfl) (plain_bind rfl (fun cvs h0 => by obtain ⟨a0, r0, rfl, h1⟩ := len_succ (k := 1) h0; obtain ⟨a1, r1, rfl, h2⟩ := len_succ (k := 0) h1; cases len_zero h2; kernel_rfl)) b292 ih
theorem d299 : DefOk 299 (stAt 34) "undo_delete" .none (.str "emacs.primundo" 551) 298 F299 := ⟨rfl, fun P => by kernel_rfl, by kernel_rfl, fun P => by kernel_rfl⟩
theorem c299 {n : Nat} (ih : ∀ k < n, CallOk fns mets inits k) : CallAt (n + 1) 299 := fn_ok d299 rfl (by kernel_rfl) (plain_bind rfl (fun cvs h0 => by obtain ⟨a0, r0, rfl, h1⟩ := len_succ (k := 2) h0; obtain ⟨a1, r1, rfl, h2⟩ := len_succ (k := 1) h1; obtain ⟨a2, r2, rfl, h3⟩ := len_succ (k := 0) h2; cases len_zero h3; kernel_rfl)) b299 ih
theorem d306 : DefOk 306 (stAt 35) "undo_row" .none (.str "emacs.primundo" 551) 305 F306 := ⟨rfl, fun P => by kernel_rfl, by kernel_rfl, fun P => by kernel_rfl⟩
theorem c306 {n : Nat} (ih : ∀ k < n, CallOk fns mets inits k) : CallAt (n + 1) 306 := fn_ok d306 rfl (by kernel_rfl) (plain_bind rfl (fun cvs h0 => by obtain ⟨a0, r0, rfl, h1⟩ := len_succ (k := 2) h0; obtain ⟨a1, r1, rfl, h2⟩ := len_succ (k := 1) h1; obtain ⟨a2, r2, rfl, h3⟩ := len_succ (k := 0) h2; cases len_zero h3; kernel_rfl)) b306 ih
theorem d313 : DefOk 313 (stAt 36) "above_boundaries" .none (.str "emacs.primundo" 551) 312 F313 := ⟨rfl, fun P => by kernel_rfl, by kernel_rfl, fun P => by kernel_rfl⟩
theorem c313 {n : Nat} (ih : ∀ k < n, CallOk fns mets inits k) : CallAt (n + 1) 313 := fn_ok d313 rfl (by kernel_rfl) (plain_bind rfl (fun cvs h0 => by obtain ⟨a0, r0, rfl, h1⟩ := len_succ (k := 1) h0; obtain ⟨a1, r1, rfl, h2⟩ := len_succ (k := 0) h1; cases len_zero h2; kernel_rfl)) b313 ih
theorem d320 : DefOk 320 (stAt 37) "undo_group" .none (.str "emacs.primundo" 551) 319 F320 := ⟨rfl, fun P => by kernel_rfl, by kernel_rfl, fun P => by kernel_rfl⟩
theorem c320 {n : Nat} (ih : ∀ k < n, CallOk fns mets inits k) : CallAt (n + 1) 320 := fn_ok d320 rfl (by kernel_rfl) (plain_bind rfl (fun cvs h0 => by obtain ⟨a0, r0, rfl, h1⟩ := len_succ (k := 2) h0; obtain ⟨a1, r1, rfl, h2⟩ := len_succ (k := 1) h1; obtain ⟨a2, r2, rfl, h3⟩ := len_succ (k := 0) h2; cases len_zero h3; kernel_rfl)) b320 ih
theorem d334 : DefOk 334 (meAt 39 0) "GapText.__init__" .none (.str "emacs.gap" 620) 333 F334 := ⟨rfl, fun P => by kernel_rfl, by kernel_rfl, fun P => by kernel_rfl⟩
theorem c334 {n : Nat} (ih : ∀ k < n, CallOk fns mets inits k) : CallAt (n + 1) 334 := fn_ok d334 rfl (by kernel_rfl) (plain_bind rfl (fun cvs h0 => by obtain ⟨a0, r0, rfl, h1⟩ := len_succ (k := 2) h0; obtain ⟨a1, r1, rfl, h2⟩ := len_succ (k := 1) h1; obtain ⟨a2, r2, rfl, h3⟩ := len_succ (k := 0) h2; cases len_zero h3; kernel_rfl)) b334 ih
theorem d341 : DefOk 341 (meAt 39 1) "GapText.size" .none (.str "emacs.gap" 620) 340 F341 := ⟨rfl, fun P => by kernel_rfl, by kernel_rfl, fun P => by kernel_rfl⟩
theorem c341 {n : Nat} (ih : ∀ k < n, CallOk fns mets inits k) : CallAt (n + 1) 341 := fn_ok d341 rfl (by kernel_rfl) (plain_bind rfl (fun cvs h0 => by obtain ⟨a0, r0, rfl, h1⟩ := len_succ (k := 0) h0; cases len_zero h1; kernel_rfl)) b341 ih
theorem d355 : DefOk 355 (meAt 39 3) "GapText.codes" .none (.str "emacs.gap" 620) 354 F355 := ⟨rfl, fun P => by kernel_rfl, by kernel_rfl, fun P => by kernel_rfl⟩
theorem c355 {n : Nat} (ih : ∀ k < n, CallOk fns mets inits k) : CallAt (n + 1) 355 := fn_ok d355 rfl (by kernel_rfl) (plain_bind rfl (fun cvs h0 => by obtain ⟨a0, r0, rfl, h1⟩ := len_succ (k := 2) h0; obtain ⟨a1, r1, rfl, h2⟩ := len_succ (k := 1) h1; obtain ⟨a2, r2, rfl, h3⟩ := len_succ (k := 0) h2; cases len_zero h3; kernel_rfl)) b355 ih
theorem d362 : DefOk 362 (meAt 39 4) "GapText.move_gap" .none (.str "emacs.gap" 620) 361 F362 := ⟨rfl, fun P => by kernel_rfl, by kernel_rfl, fun P => by kernel_rfl⟩
theorem c362 {n : Nat} (ih : ∀ k < n, CallOk fns mets inits k) : CallAt (n + 1) 362 := fn_ok d362 rfl (by kernel_rfl) (plain_bind rfl (fun cvs h0 => by obtain ⟨a0, r0, rfl, h1⟩ := len_succ (k := 1) h0; obtain ⟨a1, r1, rfl, h2⟩ := len_succ (k := 0) h1; cases len_zero h2; kernel_rfl)) b362 ih
theorem d369 : DefOk 369 (meAt 39 5) "GapText.widen_gap" .none (.str "emacs.gap" 620) 368 F369 := ⟨rfl, fun P => by kernel_rfl, by kernel_rfl, fun P => by kernel_rfl⟩
theorem c369 {n : Nat} (ih : ∀ k < n, CallOk fns mets inits k) : CallAt (n + 1) 369 := fn_ok d369 rfl (by kernel_rfl) (plain_bind rfl (fun cvs h0 => by obtain ⟨a0, r0, rfl, h1⟩ := len_succ (k := 1) h0; obtain ⟨a1, r1, rfl, h2⟩ := len_succ (k := 0) h1; cases len_zero h2; kernel_rfl)) b369 ih
theorem d376 : DefOk 376 (meAt 39 6) "GapText.insert" .none (.str "emacs.gap" 620) 375 F376 := ⟨rfl, fun P => by kernel_rfl, by kernel_rfl, fun P => by kernel_rfl⟩
theorem c376 {n : Nat} (ih : ∀ k < n, CallOk fns mets inits k) : CallAt (n + 1) 376 := fn_ok d376 rfl (by kernel_rfl) (plain_bind rfl (fun cvs h0 => by obtain ⟨a0, r0, rfl, h1⟩ := len_succ (k := 2) h0; obtain ⟨a1, r1, rfl, h2⟩ := len_succ (k := 1) h1; obtain ⟨a2, r2, rfl, h3⟩ := len_succ (k := 0) h2; cases len_zero h3; kernel_rfl)) b376 ih
theorem d383 : DefOk 383 (meAt 39 7) "GapText.delete" .none (.str "emacs.gap" 620) 382 F383 := ⟨rfl, fun P => by kernel_rfl, by kernel_rfl, fun P => by kernel_rfl⟩
theorem c383 {n : Nat} (ih : ∀ k < n, CallOk fns mets inits k) : CallAt (n + 1) 383 := fn_ok d383 rfl (by kernel_rfl) (plain_bind rfl (fun cvs h0 => by obtain ⟨a0, r0, rfl, h1⟩ := len_succ (k := 2) h0; obtain ⟨a1, r1, rfl, h2⟩ := len_succ (k := 1) h1; obtain ⟨a2, r2, rfl, h3⟩ := len_succ (k := 0) h2; cases len_zero h3; kernel_rfl)) b383 ih
theorem d425 : DefOk 425 (meAt 41 0) "Markers.__init__" .none (.str "emacs.markers" 740) 424 F425 := ⟨rfl, fun P => by kernel_rfl, by kernel_rfl, fun P => by kernel_rfl⟩
theorem c425 {n : Nat} (ih : ∀ k < n, CallOk fns mets inits k) : CallAt (n + 1) 425 := fn_ok d425 rfl (by kernel_rfl) (plain_bind rfl (fun cvs h0 => by obtain ⟨a0, r0, rfl, h1⟩ := len_succ (k := 0) h0; cases len_zero h1; kernel_rfl)) b425 ih
theorem d432 : DefOk 432 (meAt 41 1) "Markers.numbers" .none (.str "emacs.markers" 740) 431 F432 := ⟨rfl, fun P => by kernel_rfl, by kernel_rfl, fun P => by kernel_rfl⟩
theorem c432 {n : Nat} (ih : ∀ k < n, CallOk fns mets inits k) : CallAt (n + 1) 432 := fn_ok d432 rfl (by kernel_rfl) (plain_bind rfl (fun cvs h0 => by obtain ⟨a0, r0, rfl, h1⟩ := len_succ (k := 0) h0; cases len_zero h1; kernel_rfl)) b432 ih
theorem d453 : DefOk 453 (meAt 41 4) "Markers.within" .none (.str "emacs.markers" 740) 452 F453 := ⟨rfl, fun P => by kernel_rfl, by kernel_rfl, fun P => by kernel_rfl⟩
theorem c453 {n : Nat} (ih : ∀ k < n, CallOk fns mets inits k) : CallAt (n + 1) 453 := fn_ok d453 rfl (by kernel_rfl) (plain_bind rfl (fun cvs h0 => by obtain ⟨a0, r0, rfl, h1⟩ := len_succ (k := 2) h0; obtain ⟨a1, r1, rfl, h2⟩ := len_succ (k := 1) h1; obtain ⟨a2, r2, rfl, h3⟩ := len_succ (k := 0) h2; cases len_zero h3; kernel_rfl)) b453 ih
theorem d460 : DefOk 460 (meAt 41 5) "Markers.inserted" .none (.str "emacs.markers" 740) 459 F460 := ⟨rfl, fun P => by kernel_rfl, by kernel_rfl, fun P => by kernel_rfl⟩
theorem c460 {n : Nat} (ih : ∀ k < n, CallOk fns mets inits k) : CallAt (n + 1) 460 := fn_ok d460 rfl (by kernel_rfl) (plain_bind rfl (fun cvs h0 => by obtain ⟨a0, r0, rfl, h1⟩ := len_succ (k := 3) h0; obtain ⟨a1, r1, rfl, h2⟩ := len_succ (k := 2) h1; obtain ⟨a2, r2, rfl, h3⟩ := len_succ (k := 1) h2; obtain ⟨a3, r3, rfl, h4⟩ := len_succ (k := 0) h3; cases len_zero h4; kernel_rfl)) b460 ih
theorem d467 : DefOk 467 (meAt 41 6) "Markers.deleted" .none (.str "emacs.markers" 740) 466 F467 := ⟨rfl, fun P => by kernel_rfl, by kernel_rfl, fun P => by kernel_rfl⟩
theorem c467 {n : Nat} (ih : ∀ k < n, CallOk fns mets inits k) : CallAt (n + 1) 467 := fn_ok d467 rfl (by kernel_rfl) (plain_bind rfl (fun cvs h0 => by obtain ⟨a0, r0, rfl, h1⟩ := len_succ (k := 2) h0; obtain ⟨a1, r1, rfl, h2⟩ := len_succ (k := 1) h1; obtain ⟨a2, r2, rfl, h3⟩ := len_succ (k := 0) h2; cases len_zero h3; kernel_rfl)) b467 ih
theorem d531 : DefOk 531 (meAt 45 0) "Buffer.__init__" (.ref 524) (.str "emacs.buffer" 882) 530 F531 := ⟨rfl, fun P => by kernel_rfl, by kernel_rfl, fun P => by kernel_rfl⟩
theorem d566 : DefOk 566 (meAt 45 5) "Buffer.size" .none (.str "emacs.buffer" 882) 565 F566 := ⟨rfl, fun P => by kernel_rfl, by kernel_rfl, fun P => by kernel_rfl⟩
theorem c566 {n : Nat} (ih : ∀ k < n, CallOk fns mets inits k) : CallAt (n + 1) 566 := fn_ok d566 rfl (by kernel_rfl) (plain_bind rfl (fun cvs h0 => by obtain ⟨a0, r0, rfl, h1⟩ := len_succ (k := 0) h0; cases len_zero h1; kernel_rfl)) b566 ih
theorem d580 : DefOk 580 (meAt 45 7) "Buffer.codes" .none (.str "emacs.buffer" 882) 579 F580 := ⟨rfl, fun P => by kernel_rfl, by kernel_rfl, fun P => by kernel_rfl⟩
theorem c580 {n : Nat} (ih : ∀ k < n, CallOk fns mets inits k) : CallAt (n + 1) 580 := fn_ok d580 rfl (by kernel_rfl) (plain_bind rfl (fun cvs h0 => by obtain ⟨a0, r0, rfl, h1⟩ := len_succ (k := 2) h0; obtain ⟨a1, r1, rfl, h2⟩ := len_succ (k := 1) h1; obtain ⟨a2, r2, rfl, h3⟩ := len_succ (k := 0) h2; cases len_zero h3; kernel_rfl)) b580 ih
theorem d587 : DefOk 587 (meAt 45 8) "Buffer.goto" .none (.str "emacs.buffer" 882) 586 F587 := ⟨rfl, fun P => by kernel_rfl, by kernel_rfl, fun P => by kernel_rfl⟩
theorem c587 {n : Nat} (ih : ∀ k < n, CallOk fns mets inits k) : CallAt (n + 1) 587 := fn_ok d587 rfl (by kernel_rfl) (plain_bind rfl (fun cvs h0 => by obtain ⟨a0, r0, rfl, h1⟩ := len_succ (k := 1) h0; obtain ⟨a1, r1, rfl, h2⟩ := len_succ (k := 0) h1; cases len_zero h2; kernel_rfl)) b587 ih
theorem d601 : DefOk 601 (meAt 45 10) "Buffer.is_modified" .none (.str "emacs.buffer" 882) 600 F601 := ⟨rfl, fun P => by kernel_rfl, by kernel_rfl, fun P => by kernel_rfl⟩
theorem c601 {n : Nat} (ih : ∀ k < n, CallOk fns mets inits k) : CallAt (n + 1) 601 := fn_ok d601 rfl (by kernel_rfl) (plain_bind rfl (fun cvs h0 => by obtain ⟨a0, r0, rfl, h1⟩ := len_succ (k := 0) h0; cases len_zero h1; kernel_rfl)) b601 ih
theorem d615 : DefOk 615 (meAt 45 12) "Buffer.touch" .none (.str "emacs.buffer" 882) 614 F615 := ⟨rfl, fun P => by kernel_rfl, by kernel_rfl, fun P => by kernel_rfl⟩
theorem c615 {n : Nat} (ih : ∀ k < n, CallOk fns mets inits k) : CallAt (n + 1) 615 := fn_ok d615 rfl (by kernel_rfl) (plain_bind rfl (fun cvs h0 => by obtain ⟨a0, r0, rfl, h1⟩ := len_succ (k := 1) h0; obtain ⟨a1, r1, rfl, h2⟩ := len_succ (k := 0) h1; cases len_zero h2; kernel_rfl)) b615 ih
theorem d627 : DefOk 627 (stAt 47) "narrow" .none (.str "emacs.narrowing" 1021) 626 F627 := ⟨rfl, fun P => by kernel_rfl, by kernel_rfl, fun P => by kernel_rfl⟩
theorem c627 {n : Nat} (ih : ∀ k < n, CallOk fns mets inits k) : CallAt (n + 1) 627 := fn_ok d627 rfl (by kernel_rfl) (plain_bind rfl (fun cvs h0 => by obtain ⟨a0, r0, rfl, h1⟩ := len_succ (k := 2) h0; obtain ⟨a1, r1, rfl, h2⟩ := len_succ (k := 1) h1; obtain ⟨a2, r2, rfl, h3⟩ := len_succ (k := 0) h2; cases len_zero h3; kernel_rfl)) b627 ih
theorem d634 : DefOk 634 (stAt 48) "widen" .none (.str "emacs.narrowing" 1021) 633 F634 := ⟨rfl, fun P => by kernel_rfl, by kernel_rfl, fun P => by kernel_rfl⟩
theorem c634 {n : Nat} (ih : ∀ k < n, CallOk fns mets inits k) : CallAt (n + 1) 634 := fn_ok d634 rfl (by kernel_rfl) (plain_bind rfl (fun cvs h0 => by obtain ⟨a0, r0, rfl, h1⟩ := len_succ (k := 0) h0; cases len_zero h1; kernel_rfl)) b634 ih
theorem d648 : DefOk 648 (meAt 50 0) "Piece.__init__" .none (.str "emacs.pieces" 1041) 647 F648 := ⟨rfl, fun P => by kernel_rfl, by kernel_rfl, fun P => by kernel_rfl⟩
theorem c648 {n : Nat} (ih : ∀ k < n, CallOk fns mets inits k) : CallAt (n + 1) 648 := fn_ok d648 rfl (by kernel_rfl) (plain_bind rfl (fun cvs h0 => by obtain ⟨a0, r0, rfl, h1⟩ := len_succ (k := 2) h0; obtain ⟨a1, r1, rfl, h2⟩ := len_succ (k := 1) h1; obtain ⟨a2, r2, rfl, h3⟩ := len_succ (k := 0) h2; cases len_zero h3; kernel_rfl)) b648 ih
theorem d669 : DefOk 669 (meAt 52 0) "Recording.__init__" .none (.str "emacs.recording" 1074) 668 F669 := ⟨rfl, fun P => by kernel_rfl, by kernel_rfl, fun P => by kernel_rfl⟩
theorem c669 {n : Nat} (ih : ∀ k < n, CallOk fns mets inits k) : CallAt (n + 1) 669 := fn_ok d669 rfl (by kernel_rfl) (plain_bind rfl (fun cvs h0 => by obtain ⟨a0, r0, rfl, h1⟩ := len_succ (k := 0) h0; cases len_zero h1; kernel_rfl)) b669 ih
theorem d676 : DefOk 676 (meAt 52 1) "Recording.text_comes" .none (.str "emacs.recording" 1074) 675 F676 := ⟨rfl, fun P => by kernel_rfl, by kernel_rfl, fun P => by kernel_rfl⟩
theorem c676 {n : Nat} (ih : ∀ k < n, CallOk fns mets inits k) : CallAt (n + 1) 676 := fn_ok d676 rfl (by kernel_rfl) (plain_bind rfl (fun cvs h0 => by obtain ⟨a0, r0, rfl, h1⟩ := len_succ (k := 3) h0; obtain ⟨a1, r1, rfl, h2⟩ := len_succ (k := 2) h1; obtain ⟨a2, r2, rfl, h3⟩ := len_succ (k := 1) h2; obtain ⟨a3, r3, rfl, h4⟩ := len_succ (k := 0) h3; cases len_zero h4; kernel_rfl)) b676 ih
theorem d681 : DefOk 681 (meAt 52 2) "Recording.text_goes" .none (.str "emacs.recording" 1074) 680 F681 := ⟨rfl, fun P => by kernel_rfl, by kernel_rfl, fun P => by kernel_rfl⟩
theorem d700 : DefOk 700 (stAt 54) "_law_deck" .none (.str "law_on0070_01" 1132) 699 F700 := ⟨rfl, fun P => by kernel_rfl, by kernel_rfl, fun P => by kernel_rfl⟩
theorem c700 {n : Nat} (ih : ∀ k < n, CallOk fns mets inits k) : CallAt (n + 1) 700 := fn_ok d700 rfl (by kernel_rfl) (plain_bind rfl (fun cvs h0 => by obtain ⟨a0, r0, rfl, h1⟩ := len_succ (k := 0) h0; cases len_zero h1; kernel_rfl)) b700 ih
theorem d707 : DefOk 707 (stAt 55) "_law_draw" .none (.str "law_on0070_01" 1132) 706 F707 := ⟨rfl, fun P => by kernel_rfl, by kernel_rfl, fun P => by kernel_rfl⟩
theorem c707 {n : Nat} (ih : ∀ k < n, CallOk fns mets inits k) : CallAt (n + 1) 707 := fn_ok d707 rfl (by kernel_rfl) (plain_bind rfl (fun cvs h0 => by obtain ⟨a0, r0, rfl, h1⟩ := len_succ (k := 1) h0; obtain ⟨a1, r1, rfl, h2⟩ := len_succ (k := 0) h1; cases len_zero h2; kernel_rfl)) b707 ih
theorem d714 : DefOk 714 (stAt 56) "_law_command" .none (.str "law_on0070_01" 1132) 713 F714 := ⟨rfl, fun P => by kernel_rfl, by kernel_rfl, fun P => by kernel_rfl⟩
theorem c714 {n : Nat} (ih : ∀ k < n, CallOk fns mets inits k) : CallAt (n + 1) 714 := fn_ok d714 rfl (by kernel_rfl) (plain_bind rfl (fun cvs h0 => by obtain ⟨a0, r0, rfl, h1⟩ := len_succ (k := 2) h0; obtain ⟨a1, r1, rfl, h2⟩ := len_succ (k := 1) h1; obtain ⟨a2, r2, rfl, h3⟩ := len_succ (k := 0) h2; cases len_zero h3; kernel_rfl)) b714 ih
theorem d721 : DefOk 721 (stAt 57) "_law_state" .none (.str "law_on0070_01" 1132) 720 F721 := ⟨rfl, fun P => by kernel_rfl, by kernel_rfl, fun P => by kernel_rfl⟩
theorem c721 {n : Nat} (ih : ∀ k < n, CallOk fns mets inits k) : CallAt (n + 1) 721 := fn_ok d721 rfl (by kernel_rfl) (plain_bind rfl (fun cvs h0 => by obtain ⟨a0, r0, rfl, h1⟩ := len_succ (k := 0) h0; cases len_zero h1; kernel_rfl)) b721 ih
theorem d728 : DefOk 728 (stAt 58) "_law_undone" .none (.str "law_on0070_01" 1132) 727 F728 := ⟨rfl, fun P => by kernel_rfl, by kernel_rfl, fun P => by kernel_rfl⟩
theorem c728 {n : Nat} (ih : ∀ k < n, CallOk fns mets inits k) : CallAt (n + 1) 728 := fn_ok d728 rfl (by kernel_rfl) (plain_bind rfl (fun cvs h0 => by obtain ⟨a0, r0, rfl, h1⟩ := len_succ (k := 1) h0; obtain ⟨a1, r1, rfl, h2⟩ := len_succ (k := 0) h1; cases len_zero h2; kernel_rfl)) b728 ih
end Mine

namespace Mine
open PySem PySem.W PySem.Calls PyProof.Rows
open I
theorem lk105 (P : Params) : (K P).lookup 105 = some (tO [.bool false]) := by kernel_rfl
theorem lk524 (P : Params) : (K P).lookup 524 = some (tO [.int 8 896]) := by kernel_rfl
theorem VRs.two {ρ : List Addr} {a b : V} {cvs : List Value} (h : VRs ρ [a, b] cvs) : ∃ x y, cvs = [x, y] ∧ VR ρ a x ∧ VR ρ b y := by
  cases h with | cons h1 h => cases h with | cons h2 h => cases h; exact ⟨_, _, rfl, h1, h2⟩
theorem VRs.three {ρ : List Addr} {a b c : V} {cvs : List Value} (h : VRs ρ [a, b, c] cvs) : ∃ x y z, cvs = [x, y, z] ∧ VR ρ a x ∧ VR ρ b y ∧ VR ρ c z := by
  cases h with | cons h1 h => cases h with | cons h2 h => cases h with | cons h3 h => cases h; exact ⟨_, _, _, rfl, h1, h2, h3⟩
theorem VRs.four {ρ : List Addr} {a b c d : V} {cvs : List Value} (h : VRs ρ [a, b, c, d] cvs) : ∃ x y z u, cvs = [x, y, z, u] ∧ VR ρ a x ∧ VR ρ b y ∧ VR ρ c z ∧ VR ρ d u := by
  cases h with | cons h1 h => cases h with | cons h2 h => cases h with | cons h3 h => cases h with | cons h4 h => cases h; exact ⟨_, _, _, _, rfl, h1, h2, h3, h4⟩
theorem bind112 {s : Shared} {P : Params} {vs : List V} {l : List (String × V)} {ρ : List Addr} {cvs : List Value} (X : (K P).In s.heap) (hv : VRs ρ vs cvs) (e : I.bindArgs F112.params vs F112.dflt = some l) :
    ∃ binds, BindsTo s (fdOf (stAt 13) "insert" (.ref 105) (.str "emacs.editing" 227) 111) ⟨cvs, []⟩ binds ∧ Pr ρ l binds ∧ ∀ y ∈ binds, y.1 ∈ F112.params.map nm := by
  match vs, hv, e with
  | [a, b], hv, e =>
    obtain ⟨x, y, rfl, h1, h2⟩ := hv.two
    cases e
    exact ⟨[(nm "buffer", x), (nm "codes", y), (nm "before_markers", .bool false)], BindsTo.of_defaults rfl (X _ _ (lk105 P)) rfl rfl rfl, .cons h1 (.cons h2 (.cons .bool .nil)), by simp [F112]⟩
  | [a, b, c], hv, e =>
    obtain ⟨x, y, z, rfl, h1, h2, h3⟩ := hv.three
    cases e
    exact ⟨[(nm "buffer", x), (nm "codes", y), (nm "before_markers", z)], BindsTo.of_defaults rfl (X _ _ (lk105 P)) rfl rfl rfl, .cons h1 (.cons h2 (.cons h3 .nil)), by simp [F112]⟩
  | [], _, e => cases e
  | [a], _, e => cases e
  | a :: b :: c :: d :: r, _, e =>
    simp [I.bindArgs, F112] at e
theorem c112 {n : Nat} (ih : ∀ k < n, CallOk fns mets inits k) : CallAt (n + 1) 112 := fn_ok d112 rfl (by kernel_rfl) bind112 b112 ih
theorem bind531 {s : Shared} {P : Params} {vs : List V} {l : List (String × V)} {ρ : List Addr} {cvs : List Value} (X : (K P).In s.heap) (hv : VRs ρ vs cvs) (e : I.bindArgs F531.params vs F531.dflt = some l) :
    ∃ binds, BindsTo s (fdOf (meAt 45 0) "Buffer.__init__" (.ref 524) (.str "emacs.buffer" 882) 530) ⟨cvs, []⟩ binds ∧ Pr ρ l binds ∧ ∀ y ∈ binds, y.1 ∈ F531.params.map nm := by
  match vs, hv, e with
  | [a, b, c], hv, e =>
    obtain ⟨x, y, z, rfl, h1, h2, h3⟩ := hv.three
    cases e
    exact ⟨[(nm "self", x), (nm "number", y), (nm "name", z), (nm "room", .int 8 896)], BindsTo.of_defaults rfl (X _ _ (lk524 P)) rfl rfl rfl, .cons h1 (.cons h2 (.cons h3 (.cons .int .nil))), by simp [F531]⟩
  | [a, b, c, d], hv, e =>
    obtain ⟨x, y, z, u, rfl, h1, h2, h3, h4⟩ := hv.four
    cases e
    exact ⟨[(nm "self", x), (nm "number", y), (nm "name", z), (nm "room", u)], BindsTo.of_defaults rfl (X _ _ (lk524 P)) rfl rfl rfl, .cons h1 (.cons h2 (.cons h3 (.cons h4 .nil))), by simp [F531]⟩
  | [], _, e => cases e
  | [a], _, e => cases e
  | [a, b], _, e => cases e
  | a :: b :: c :: d :: d' :: r, _, e =>
    simp [I.bindArgs, F531] at e
theorem c531 {n : Nat} (ih : ∀ k < n, CallOk fns mets inits k) : CallAt (n + 1) 531 := fn_ok d531 rfl (by kernel_rfl) bind531 b531 ih
end Mine

namespace Mine
open PySem PySem.W PySem.Calls PyProof.Rows
open I
section
variable {w : World} {mean : ExcName → Option Value} {mg mb : Str → Option Value} {A : Around} {base h₀ g : Heap} {outer : List Env} {d u : Nat} {f L : Addr} {s : Shared} {args : List Value} {own : List (Addr × Obj)} {l : List (Str × Value)}
noncomputable abbrev kOf (scope : Scope) : Str → Option NameKind := fun x => scope.names.lookup x
theorem enterC {R : Result → Shared → Prop} {name qual : Str} {params : Arguments} {body : List Stmt} {scope : Scope} {dV kV doc pm cdv ct oc : Value} {an od : Option Addr} {osl : Array (Option Value)} {binds : List (Str × Value)}
    (S : Site w mean mg mb A base outer g d u) (hs : ∀ b o, g.get? b = some o → s.heap.get? b = some o) (hz : g.objs.size ≤ s.heap.objs.size) (hO : Own g s.heap own) (nd : (own.map (·.1)).Nodup)
    (ho : (K w.params).lookup f = some ⟨oc, od, .func (fnOf name qual params body scope dV kV doc pm an cdv ct), osl⟩) (hcd : codeIn (K w.params) cdv qual = true)
    (hbind : BindsTo s (fnOf name qual params body scope dV kV doc pm an cdv ct) ⟨args, []⟩ binds)
    (hkind : ∀ n, ∀ x ∈ binds, scope.names.lookup x.1 = some .local ∨ (scope.names.lookup x.1 = some .cell ∧ ((cellsFrom n scope.names []).lookup x.1).isSome = true))
    (hnd : ((cellsFrom 0 scope.names []).map (·.1)).Nodup)
    (hm : bindL (kOf scope) binds (fun _ => none) = fun y => List.lookup y l)
    (h : ∀ L' h₁ tk cells, Cx w mean mg mb A base outer g L' h₁ l (own ++ cells) → CellsAre (bindC (kOf scope) binds fun _ => none) (cellsFrom (L' + 1) scope.names []) cells → (∀ p ∈ cells, p.1 ≠ 1) →
      wpAny (model p0 w) (A.deeper (envX qual scope L' f cdv (cellsFrom (L' + 1) scope.names []))) (execs body (envX qual scope L' f cdv (cellsFrom (L' + 1) scope.names []))) (fun fl s' => R (.ok (.ret (match fl with | .ret v => v | _ => .none))) s')
        (fun e s' => wpAny (model p0 w) (A.deeper (envX qual scope L' f cdv (cellsFrom (L' + 1) scope.names []))) (leaving (envX qual scope L' f cdv (cellsFrom (L' + 1) scope.names [])) e) (fun _ s'' => R (.error e) s'') (fun e' s'' => R (.error e') s'') s')
        (up s h₁ tk))
    (hco : scope.isCoroutine = false) (hgen : scope.isGenerator = false) (hk : scope.kind = .function) : codeAny (model p0 w) A (.call (.ref f) ⟨args, []⟩) R s := by
  have X' := S.X.keeps hs
  refine codeAny_call_function (by have := S.depth; lia) (X' _ _ ho) rfl hco hgen rfl (codeRec_of X' hcd) (hbind _ _ _ _ ?_)
  refine wpAny_newFunctionEnv_cells hk (hkind _) fun env' he s' x => ?_
  subst he
  refine ⟨(S.T.nolimit.keeps hs).keeps x.toInCall.keep, codeAny_func ?_⟩
  obtain ⟨h₁, tk, rfl, _⟩ := x.done
  have hk₁ := x.toInCall.keep
  obtain ⟨cells, NC, Y⟩ := Cl.news (h₀ := s.heap) (Nat.le_refl _) fun n c hm => ⟨x.cell n c (lookup_of_mem_nodup (cellsFrom_names scope.names 0 (s.heap.objs.size + 1) [] [] rfl ▸ hnd) hm), x.above n c hm⟩
  have hns := x.toInCall.ns
  have e1 : (bindL (newEnv scope s.heap.objs.size mainGlobals (cellsFrom (s.heap.objs.size + 1) scope.names []) (qual ++ ".<locals>.") (some f) cdv none builtinsNs).kindOf binds fun _ => none) = fun y => List.lookup y l := hm
  have lt0 : f < s.heap.objs.size := Heap.lt_size (X' _ _ ho)
  have hca : ∀ p ∈ cells, s.heap.objs.size < p.1 := fun p hp => by
    have : ∀ {cs : List (Str × Addr)} {cm : Str → Option Value} {cells : List (Addr × Obj)}, CellsAre cm cs cells → (∀ n c, (n, c) ∈ cs → s.heap.objs.size < c) → ∀ p ∈ cells, s.heap.objs.size < p.1 := by
      intro cs cm cells y
      induction y with
      | nil => intro _ p hp; cases hp
      | cons h y ih =>
        intro hx p hp
        rcases List.mem_cons.mp hp with rfl | hp
        · exact hx _ _ (List.mem_cons_self ..)
        · exact ih (fun n c hm => hx n c (List.mem_cons_of_mem _ hm)) p hp
    exact this Y x.above p hp
  have hcn : (cells.map (·.1)).Nodup := by
    have : ∀ {cs : List (Str × Addr)} {cm : Str → Option Value} {cells : List (Addr × Obj)}, CellsAre cm cs cells → cs.Pairwise (fun x y => x.2 ≠ y.2) → (cells.map (·.1)).Nodup ∧ cells.map (·.1) = cs.map (·.2) := by
      intro cs cm cells y
      induction y with
      | nil => intro _; exact ⟨List.nodup_nil, rfl⟩
      | cons h y ih =>
        intro hx
        rw [List.pairwise_cons] at hx
        obtain ⟨i1, i2⟩ := ih hx.2
        refine ⟨?_, by rw [List.map_cons, List.map_cons, i2]⟩
        rw [List.map_cons, List.nodup_cons]
        refine ⟨fun q => ?_, i1⟩
        rw [i2] at q
        obtain ⟨z, hz, e⟩ := List.mem_map.mp q
        exact hx.1 z hz e.symm
    exact (this Y x.apart).1
  have hol : ∀ p ∈ own, p.1 < s.heap.objs.size := fun p hp => Heap.lt_size (hO p hp).1
  refine h s.heap.objs.size h₁ tk cells ⟨S.below, S.X, S.T, S.hh, ⟨e1 ▸ hns, fun b o e => hk₁ b o (hs b o e), hz⟩, fun p hp => ?_, ?_⟩ Y fun p hp e => ?_
  · rcases List.mem_append.mp hp with hp | hp
    · exact ⟨hk₁ _ _ (hO p hp).1, Nat.ne_of_lt (hol p hp), (hO p hp).2⟩
    · exact ⟨(NC p hp).1, (NC p hp).2.1, Heap.get?_none_of_le (Nat.le_trans hz (Nat.le_of_lt (hca p hp)))⟩
  · rw [List.map_append, List.nodup_append]
    refine ⟨nd, hcn, fun a ha b hb e => ?_⟩
    obtain ⟨p, hp, rfl⟩ := List.mem_map.mp ha
    obtain ⟨r, hr, rfl⟩ := List.mem_map.mp hb
    have e : p.1 = r.1 := e
    have h1 := hol p hp
    have h2 := hca r hr
    rw [e] at h1
    exact Nat.lt_irrefl _ (Nat.lt_trans h1 h2)
  · have h1 := hca p hp
    rw [e] at h1
    exact absurd (Nat.lt_of_le_of_lt (Nat.zero_le _) lt0) (by lia)
theorem bindL_eq {k : Str → Option NameKind} : ∀ {binds : List (Str × Value)} {m : Str → Option Value}, bindL k binds m = fun y => (List.lookup y (binds.filter fun p => decide (k p.1 = some .local)).reverse).or (m y)
  | [], m => funext fun y => rfl
  | (n, v) :: r, m => by
    rw [bindL, bindL_eq (binds := r)]
    funext y
    rw [List.filter_cons]
    by_cases h : k n = some .local
    · rw [if_pos h]
      simp only [h, decide_true, if_true]
      rw [List.reverse_cons, List.lookup_append]
      cases q : List.lookup y (List.filter (fun p => decide (k p.1 = some .local)) r).reverse with
      | some z => rfl
      | none =>
        by_cases hy : y = n
        · subst hy; simp
        · simp [hy, List.lookup_cons, beq_eq_false_iff_ne.mpr hy]
    · rw [if_neg h]
      simp only [h, decide_false]
      rfl
end
theorem Pr.filter {ρ : List Addr} {f : String × V → Bool} {f' : Str × Value → Bool} (hf : ∀ x v cv, f (x, v) = f' (nm x, cv)) {l : List (String × V)} {b : List (Str × Value)} (x : Pr ρ l b) : Pr ρ (l.filter f) (b.filter f') := by
  induction x with
  | nil => exact .nil
  | @cons x v cv l b h _ ih =>
    rw [List.filter_cons, List.filter_cons, hf x v cv]
    split
    · exact .cons h ih
    · exact ih
/-- a cell's content -/
inductive CV (ρ : List Addr) : Option V → Option Value → Prop
  | none : CV ρ .none .none
  | some {v cv} : VR ρ v cv → CV ρ (some v) (some cv)
theorem CV.co {ρ : List Addr} {v : Option V} {cv : Option Value} (h : CV ρ v cv) {o : Obj} (e : o.data = .cell cv) : CO ρ (.cell v) o := by
  cases h with
  | none => exact .cell0 e
  | some h => exact .cell1 h e
end Mine

namespace Mine
open PySem PySem.W PySem.Calls PyProof.Rows
open I
theorem cell_named {S : Scope} {zs : List Str} (h : (S.names.all fun x => !isCel x.2 || zs.contains x.1) = true) : ∀ n, S.names.lookup n = some .cell → n ∈ zs := fun n hn => by
  have : ∀ {l : List (Str × NameKind)}, List.lookup n l = some .cell → (n, .cell) ∈ l := by
    intro l
    induction l with
    | nil => intro z; cases z
    | cons p r ih =>
      intro z
      rw [List.lookup_cons] at z
      split at z
      · rename_i q
        obtain ⟨a, b⟩ := p
        obtain rfl : n = a := eq_of_beq q
        obtain rfl : b = .cell := Option.some.inj z
        exact List.mem_cons_self ..
      · exact List.mem_cons_of_mem _ (ih z)
  have := List.all_eq_true.mp h _ (this hn)
  simpa [isCel] using this
noncomputable def scopeC (S : Scope) (ps : List String) (zs : List String) : Bool := (S.names.all fun x => !isCel x.2 || (zs.map nm).contains x.1) && !S.isCoroutine && !S.isGenerator && (S.kind == .function) && ps.all fun x => if zs.contains x then isCel' (S.names.lookup (nm x)) else isLoc (S.names.lookup (nm x))
theorem RCont.mono {base : Heap} {outer : List Env} {g : Heap} {s : Shared} {ρ ρ' : List Addr} {r : R V} {Rr : Result → Shared → Prop} (p : ρ <+: ρ') (k : RCont base outer g s ρ r Rr) : RCont base outer g s ρ' r Rr := by
  cases r with
  | bad => exact k
  | exc sy σ' => exact fun e s' x => k e s' (by obtain ⟨ea, ns, tk, h, x1, x2, x3, x4, x5, x6, x7⟩ := x; exact ⟨ea, ns, tk, h, x1, x2, x3, x4, x5, x6, p.trans x7⟩)
  | ok v σ' => exact fun h' tk' cv news' x1 x2 x3 x4 x5 x6 => k h' tk' cv news' x1 x2 x3 x4 (p.trans x5) x6
theorem cells_one {cm : Str → Option Value} {n : Str} {c : Addr} {cells : List (Addr × Obj)} (x : CellsAre cm [(n, c)] cells) : ∃ o, cells = [(c, o)] ∧ o.data = .cell (cm n) := x.one
theorem fn_cell1 {f : Addr} {st : Stmt} {q : Str} {dV pm : Value} {cd : Addr} {d : FD} {n : Nat} {z : String} (D : DefOk f st q dV pm cd d) (hc : d.cells = [z]) (hs : scopeC (scopeOf st) d.params [z] = true)
    (hcf : ∀ L, cellsFrom L (scopeOf st).names [] = [(nm z, L)])
    (hb : ∀ {s : Shared} {P : Params} {vs : List V} {l : List (String × V)} {ρ : List Addr} {cvs : List Value}, (K P).In s.heap → VRs ρ vs cvs → I.bindArgs d.params vs d.dflt = some l → ∃ binds, BindsTo s (fdOf st q dV pm cd) ⟨cvs, []⟩ binds ∧ Pr ρ l binds ∧ (∀ y ∈ binds, y.1 ∈ d.params.map nm) ∧ CV ρ (l.lookup z) (bindC (kOf (scopeOf st)) binds (fun _ => none) (nm z)))
    (body : SSs false (scopeOf st) n (bodyOf st) d.body) (ih : ∀ k < n, CallOk fns mets inits k) : CallAt (n + 1) f := fun {w mean mg mb A base outer g s Rr vs cvs σ news} S hs' hz hO nd hr hv k => by
  rw [callI, D.fn] at k
  dsimp only [bad?] at k
  cases e : I.bindArgs d.params vs d.dflt with
  | none => rw [e] at k; exact k.elim
  | some l =>
  rw [e] at k
  dsimp only at k
  unfold scopeC at hs
  simp only [Bool.and_eq_true] at hs
  obtain ⟨⟨⟨⟨s1, s2⟩, s3⟩, s4⟩, s5⟩ := hs
  have s4 := eq_of_beq s4
  have hcell := cell_named s1
  have X' := S.X.keeps hs'
  obtain ⟨binds, b1, b2, b3, b4⟩ := hb (s := s) (P := w.params) X' hv e
  have hz' : (scopeOf st).names.lookup (nm z) = some .cell ∨ ∀ y ∈ binds, y.1 ≠ nm z := by
    by_cases hzp : z ∈ d.params
    · left
      have := List.all_eq_true.mp s5 z hzp
      rw [if_pos (by simp)] at this
      unfold isCel' at this
      split at this
      · assumption
      · cases this
    · right
      intro y hy e
      obtain ⟨x, hx, ex⟩ := List.mem_map.mp (b3 y hy)
      rw [e] at ex
      rw [nm_inj ex] at hx
      exact hzp hx
  have hk : ∀ y ∈ binds, y.1 ≠ nm z → (scopeOf st).names.lookup y.1 = some .local := fun y hy ny => by
    obtain ⟨x, hx, ex⟩ := List.mem_map.mp (b3 y hy)
    rw [← ex] at ny ⊢
    have := List.all_eq_true.mp s5 x hx
    rw [if_neg (by simp; intro q; exact ny (by rw [q]))] at this
    exact isLoc_ok this
  rw [hc] at k
  rw [show σ ++ List.map (fun x => AO.cell (List.lookup x l)) [z] = σ ++ [.cell (l.lookup z)] from rfl] at k
  have hfil : (binds.filter fun p => decide (kOf (scopeOf st) p.1 = some .local)) = binds.filter fun p => !(p.1 == nm z) := by
    refine List.filter_congr fun y hy => ?_
    by_cases e : y.1 = nm z
    · have : (scopeOf st).names.lookup y.1 = some .cell := by
        rcases hz' with h | h
        · rw [e]; exact h
        · exact absurd e (h y hy)
      rw [show kOf (scopeOf st) y.1 = some .cell from this, e]; simp
    · rw [show kOf (scopeOf st) y.1 = some .local from hk y hy e]; simp [e]
  refine enterC (binds := binds) (l := (binds.filter fun p => !(p.1 == nm z)).reverse) S hs' hz hO nd ((D.lk w.params).trans (congrArg some (fO_eq D.df))) (D.cd _) b1 (fun L y hy => ?_) (by rw [hcf]; exact List.nodup_cons.mpr ⟨by simp, List.nodup_nil⟩) ?_ (fun L' h₁ tk cells cx cy c1 => ?_) (by simpa using s2) (by simpa using s3) s4
  · by_cases e : y.1 = nm z
    · right
      refine ⟨?_, by rw [hcf, e]; simp⟩
      rcases hz' with h | h
      · rw [e]; exact h
      · exact absurd e (h y hy)
    · exact .inl (hk y hy e)
  · rw [bindL_eq, hfil]
    funext y
    cases List.lookup y (List.filter (fun p => !(p.1 == nm z)) binds).reverse <;> rfl
  rw [hcf] at cy
  obtain ⟨o, rfl, ho⟩ := cells_one cy
  have hcl : ∀ n, (scopeOf st).names.lookup n = some .cell → ∃ a, List.lookup n (cellsFrom (L' + 1) (scopeOf st).names []) = some a := fun n hn => by
    have : n = nm z := by simpa using hcell n hn
    rw [hcf, this]; exact ⟨L' + 1, by simp⟩
  let c : Ct := { w := w, mean := mean, mg := mg, mb := mb, A := A, base := base, outer := outer, g := g, L := L', env := envX q (scopeOf st) L' f (.ref cd) (cellsFrom (L' + 1) (scopeOf st).names []), fenv := envX q (scopeOf st) L' f (.ref cd) (cellsFrom (L' + 1) (scopeOf st).names []), fl := none, cs := scopeOf st, cl := cellsFrom (L' + 1) (scopeOf st).names [], hs := rfl, hk := s4, hg := rfl, hb := rfl, hc := rfl, hfr := rfl, ffr := rfl, fk := s4, hlo := fun _ => rfl, hcl := hcl }
  have F : Fc c (scopeOf st) n false := ⟨⟨rfl, ⟨by have := S.depth; show A.depth + 1 + n < _; lia, by have := S.units; show A.units + 3 + 3 * n + 200 < _; lia⟩, ih⟩, rfl, rfl, fun z => by cases z⟩
  have hrel : Rel (σ ++ [.cell (l.lookup z)]) (news ++ [(L' + 1, o)]) := hr.add ((b4.co ho).mono pre_add) (c1 _ (List.mem_cons_self ..))
  have b2' : Pr (adr news) (l.filter fun p => !(([z] : List String).contains p.1)).reverse (binds.filter fun p => !(p.1 == nm z)).reverse := (b2.filter fun x v cv => by
    show (!([z].contains x)) = !(nm x == nm z)
    rw [nm_beq, List.contains_cons, List.contains_nil, Bool.or_false]).rev
  have st₀ : St c ⟨(l.filter fun p => !(([z] : List String).contains p.1)).reverse, [(z, σ.length)]⟩ (σ ++ [.cell (l.lookup z)]) h₁ (binds.filter fun p => !(p.1 == nm z)).reverse (news ++ [(L' + 1, o)]) :=
    ⟨cx, hrel, fun x v e => by obtain ⟨cv, h1, h2⟩ := b2'.get e; exact ⟨cv, h1, h2.mono pre_add⟩, fun x i hx e => (by
      rw [List.lookup_cons] at e
      split at e
      · rename_i q
        obtain rfl : x = z := eq_of_beq q
        cases e
        exact ⟨L' + 1, by show List.lookup (nm x) (cellsFrom (L' + 1) (scopeOf st).names []) = _; rw [hcf]; simp, new_at hr⟩
      · cases e), fun z => by cases z⟩
  have := body c F n (Nat.le_refl _) _ _ (up s h₁ tk) _ (news ++ [(L' + 1, o)]) _ _ st₀ (leave_ok (c := c) rfl S.below (Rr := Rr) ?_)
  · exact this
  · refine RCont.mono pre_add ?_
    exact k
end Mine

namespace Mine
open PySem PySem.W PySem.Calls PyProof.Rows
open I
theorem bind162 {s : Shared} {P : Params} {vs : List V} {l : List (String × V)} {ρ : List Addr} {cvs : List Value} (X : (K P).In s.heap) (hv : VRs ρ vs cvs) (e : I.bindArgs F162.params vs F162.dflt = some l) :
    ∃ binds, BindsTo s (fdOf (stAt 23) "insert_piece" .none (.str "emacs.piecing" 382) 161) ⟨cvs, []⟩ binds ∧ Pr ρ l binds ∧ (∀ y ∈ binds, y.1 ∈ F162.params.map nm) ∧ CV ρ (l.lookup "start") (bindC (kOf (scopeOf (stAt 23))) binds (fun _ => none) (nm "start")) := by
  obtain ⟨h1, rfl⟩ := bind0 e
  obtain ⟨a, r, rfl, h2⟩ := len_succ (k := 1) h1
  obtain ⟨b, r, rfl, h3⟩ := len_succ (k := 0) h2
  cases len_zero h3
  obtain ⟨x, y, rfl, h1, h2⟩ := hv.two
  refine ⟨[(nm "buffer", x), (nm "piece", y)], BindsTo.of_eq (by kernel_rfl), .cons h1 (.cons h2 .nil), by simp [F162], ?_⟩
  have e1 : bindC (kOf (scopeOf (stAt 23))) [(nm "buffer", x), (nm "piece", y)] (fun _ => none) (nm "start") = none := by kernel_rfl
  rw [e1]
  exact .none
theorem c162 {n : Nat} (ih : ∀ k < n, CallOk fns mets inits k) : CallAt (n + 1) 162 := fn_cell1 d162 rfl (by kernel_rfl) (fun L => by kernel_rfl) bind162 b162 ih
theorem bind681 {s : Shared} {P : Params} {vs : List V} {l : List (String × V)} {ρ : List Addr} {cvs : List Value} (X : (K P).In s.heap) (hv : VRs ρ vs cvs) (e : I.bindArgs F681.params vs F681.dflt = some l) :
    ∃ binds, BindsTo s (fdOf (meAt 52 2) "Recording.text_goes" .none (.str "emacs.recording" 1074) 680) ⟨cvs, []⟩ binds ∧ Pr ρ l binds ∧ (∀ y ∈ binds, y.1 ∈ F681.params.map nm) ∧ CV ρ (l.lookup "start") (bindC (kOf (scopeOf (meAt 52 2))) binds (fun _ => none) (nm "start")) := by
  obtain ⟨h1, rfl⟩ := bind0 e
  obtain ⟨a, r, rfl, h2⟩ := len_succ (k := 3) h1
  obtain ⟨b, r, rfl, h3⟩ := len_succ (k := 2) h2
  obtain ⟨c, r, rfl, h4⟩ := len_succ (k := 1) h3
  obtain ⟨d, r, rfl, h5⟩ := len_succ (k := 0) h4
  cases len_zero h5
  obtain ⟨x, y, z, u, rfl, h1, h2, h3, h4⟩ := hv.four
  refine ⟨[(nm "self", x), (nm "buffer", y), (nm "start", z), (nm "end", u)], BindsTo.of_eq (by kernel_rfl), .cons h1 (.cons h2 (.cons h3 (.cons h4 .nil))), by simp [F681], ?_⟩
  have e1 : bindC (kOf (scopeOf (meAt 52 2))) [(nm "self", x), (nm "buffer", y), (nm "start", z), (nm "end", u)] (fun _ => none) (nm "start") = some z := by kernel_rfl
  have e2 : List.lookup "start" (F681.params.zip [a, b, c, d]) = some c := by rfl
  rw [e1, e2]
  exact .some h3
theorem c681 {n : Nat} (ih : ∀ k < n, CallOk fns mets inits k) : CallAt (n + 1) 681 := fn_cell1 d681 rfl (by kernel_rfl) (fun L => by kernel_rfl) bind681 b681 ih
theorem call_ok : ∀ n, CallOk fns mets inits n := by
  intro n
  induction n using Nat.strongRecOn with
  | _ n ih =>
  cases n with
  | zero =>
    intro w mean mg mb A base outer g s Rr f vs cvs σ news S hs hz hO nd hr hv k
    rw [callI] at k
    exact k.elim
  | succ n =>
    have ih' : ∀ k < n, CallOk fns mets inits k := fun k h => ih k (by lia)
    intro w mean mg mb A base outer g s Rr f vs cvs σ news S hs hz hO nd hr hv k
    have all : ∀ p ∈ fnsT, CallAt (n + 1) p.1 := (all_cons (c48 ih') (all_cons (c55 ih') (all_cons (c62 ih') (all_cons (c69 ih') (all_cons (c76 ih') (all_cons (c83 ih') (all_cons (c90 ih') (all_cons (c97 ih') (all_cons (c104 ih') (all_cons (c112 ih') (all_cons (c119 ih') (all_cons (c162 ih') (all_cons (c189 ih') (all_cons (c203 ih') (all_cons (c210 ih') (all_cons (c224 ih') (all_cons (c231 ih') (all_cons (c238 ih') (all_cons (c271 ih') (all_cons (c278 ih') (all_cons (c285 ih') (all_cons (c292 ih') (all_cons (c299 ih') (all_cons (c306 ih') (all_cons (c313 ih') (all_cons (c320 ih') (all_cons (c334 ih') (all_cons (c341 ih') (all_cons (c355 ih') (all_cons (c362 ih') (all_cons (c369 ih') (all_cons (c376 ih') (all_cons (c383 ih') (all_cons (c425 ih') (all_cons (c432 ih') (all_cons (c453 ih') (all_cons (c460 ih') (all_cons (c467 ih') (all_cons (c531 ih') (all_cons (c566 ih') (all_cons (c580 ih') (all_cons (c587 ih') (all_cons (c601 ih') (all_cons (c615 ih') (all_cons (c627 ih') (all_cons (c634 ih') (all_cons (c648 ih') (all_cons (c669 ih') (all_cons (c676 ih') (all_cons (c681 ih') (all_cons (c700 ih') (all_cons (c707 ih') (all_cons (c714 ih') (all_cons (c721 ih') (all_cons (c728 ih') all_nil)))))))))))))))))))))))))))))))))))))))))))))))))))))))
    have key : (∃ d, fns f = some d) → CallAt (n + 1) f := by
      rintro ⟨d, e⟩
      have : ∀ {l : List (Nat × FD)}, l.lookup f = some d → ∃ p ∈ l, p.1 = f := by
        intro l
        induction l with
        | nil => intro z; cases z
        | cons p r ih =>
          intro z
          rw [List.lookup_cons] at z
          split at z
          · rename_i q
            exact ⟨p, List.mem_cons_self .., (eq_of_beq q).symm⟩
          · obtain ⟨p', h1, h2⟩ := ih z
            exact ⟨p', List.mem_cons_of_mem _ h1, h2⟩
      obtain ⟨p, hp, rfl⟩ := this e
      exact @all p hp
    cases q : fns f with
    | none => rw [callI, q] at k; exact k.elim
    | some d => exact key ⟨d, q⟩ S hs hz hO nd hr hv k
end Mine

namespace Mine.I
open PySem
/-- what stays -/
structure Kst where
  j : Nat → AO
  d1 : List Int
  t0 : H
/-- what a run changes -/
structure Sta where
  d0 : List Int
  d2 : Int
  cells : List Int
  gs : Int
  ge : Int
  point : Int
  begv : Int
  zv : Int
  ticks : Int
  ct : Int
  un : V
  rows : List V
noncomputable def bf (a : Sta) : List (String × V) := [("number", .int 1), ("name", .str "a"), ("text", .obj 15), ("markers", .obj 21), ("point", .int a.point), ("begv", .int a.begv), ("zv", .int a.zv), ("mark", .none), ("is_live", .bool true), ("is_read_only", .bool false), ("ticks", .int a.ticks), ("codes_ticks", .int a.ct), ("saved_ticks", .int 1), ("listeners", .obj 23), ("undo", a.un), ("props", .none), ("overlays", .none), ("locals", .none), ("syntax", .none), ("file", .none)]
noncomputable def tf (a : Sta) : List (String × V) := [("room", .int 8), ("cells", .obj 19), ("gap_start", .int a.gs), ("gap_end", .int a.ge)]
noncomputable abbrev il (l : List Int) : List V := l.map V.int
noncomputable def S (k : Kst) (a : Sta) : H := [k.j 0, .cell (some (.obj 10)), .cell (some (.obj 12)), k.j 3, k.j 4, k.j 5, k.j 6, .list (il a.d0), k.j 8, .list (il k.d1), .list [.obj 7, .obj 9, .int a.d2], .dict (bf a), .inst 618 11, k.j 13, .dict (tf a), .inst 407 14, k.j 16, k.j 17, k.j 18, .list (il a.cells), .dict [("rows", .obj 22)], .inst 477 20, .dict [], .list []]
noncomputable def Kst.u0 (k : Kst) : Nat := 24 + k.t0.length
noncomputable def Kst.u1 (k : Kst) : Nat := 24 + (k.t0.length + 1)
noncomputable def Kst.u2 (k : Kst) : Nat := 24 + (k.t0.length + 2)
noncomputable def Kst.u3 (k : Kst) : Nat := 24 + (k.t0.length + 3)
noncomputable def Kst.u4 (k : Kst) : Nat := 24 + (k.t0.length + 4)
noncomputable def Kst.q (k : Kst) : Nat := 24 + (k.t0.length + 5)
noncomputable def U (k : Kst) (rows : List V) : H := [.dict [("list", .obj k.u3)], .inst 691 k.u0, .dict [("rows", .obj k.u4), ("dropped", .int 0), ("is_on", .bool true), ("point_before", .none), ("noted_tick", .none)], .inst 260 k.u2, .list rows]
noncomputable def X (k : Kst) (a : Sta) (τ : H) : H := S k a ++ τ
noncomputable def W (k : Kst) (a : Sta) (τ : H) : H := S k a ++ (k.t0 ++ (U k a.rows ++ τ))
theorem W_X (k : Kst) (a : Sta) (τ : H) : W k a τ = X k a (k.t0 ++ (U k a.rows ++ τ)) := rfl
/-- o stands at i, in a tail that begins at b -/
noncomputable def At (b : Nat) (τ : H) (i : Nat) (o : AO) : Prop := ∃ t, i = b + t ∧ τ[t]? = some o
/-- a run that ends well in Q, or by the error in F -/
noncomputable def Run {α : Type} (F : H → Prop) (r : R α) (Q : α → H → Prop) : Prop := match r with | .ok v σ => Q v σ | .exc s σ => s = "error" ∧ F σ | .bad => False
noncomputable def kQ {α β : Type} (F : H → Prop) (f : α → H → R β) (Q : β → H → Prop) : α → H → Prop := fun v σ => Run F (f v σ) Q
theorem run_ok {α : Type} {F : H → Prop} {v : α} {σ : H} {Q : α → H → Prop} : Run F (.ok v σ) Q = Q v σ := rfl
theorem run_exc {α : Type} {F : H → Prop} {σ : H} {Q : α → H → Prop} : Run F (.exc "error" σ) Q = F σ := by simp [Run]
theorem kQ_eq {α β : Type} {F : H → Prop} {f : α → H → R β} {v : α} {σ : H} {Q : β → H → Prop} : kQ F f Q v σ = Run F ((R.ok v σ).bind f) Q := rfl
theorem run_bind {α β : Type} {F : H → Prop} {r : R α} {f : α → H → R β} {Q : β → H → Prop} : Run F (r.bind f) Q = Run F r (kQ F f Q) := by cases r <;> rfl
theorem Run.mono {α : Type} {F : H → Prop} {r : R α} {P Q : α → H → Prop} (h : Run F r P) (k : ∀ v σ, P v σ → Q v σ) : Run F r Q := by
  cases r with
  | ok v σ => exact k _ _ h
  | exc s σ => exact h
  | bad => exact h
section
variable {n : Nat} {m : Fm} {σ : H} {a b c e i lo hi t o : ME} {es : List ME} {x y : String} {op o₁ o₂ : Cop} {bo : Bop} {z : Int} {s : String} {v v0 v1 v2 v3 : V} {bb : Bool} {ss p q : List MS} {xs : List String}
variable {α β : Type}
theorem b_ok {v : α} {f : α → H → R β} : (R.ok v σ).bind f = f v σ := rfl
theorem b_exc {s : String} {f : α → H → R β} : (R.exc s σ : R α).bind f = .exc s σ := rfl
theorem q_some {v : α} {f : α → R β} : bad? (some v) f = f v := rfl
theorem tr_b {b : Bool} : truth (.bool b) = some b := rfl
theorem e_bnd : evalI fns mets inits (n + 1) m (.bnd) σ = .ok (.glob 175) σ := rfl
theorem e_int : evalI fns mets inits (n + 1) m (.int z) σ = .ok (.int z) σ := rfl
theorem e_str : evalI fns mets inits (n + 1) m (.str s) σ = .ok (.str s) σ := rfl
theorem e_non : evalI fns mets inits (n + 1) m (.non) σ = .ok .none σ := rfl
theorem e_boo : evalI fns mets inits (n + 1) m (.boo bb) σ = .ok (.bool bb) σ := rfl
noncomputable def okV (σ : H) (v : V) : R V := .ok v σ
theorem okV_ : bad? (some v) (okV σ) = .ok v σ := rfl
theorem e_loc : evalI fns mets inits (n + 1) m (.loc x) σ = bad? (m.l.lookup x) (okV σ) := rfl
noncomputable def celR (σ : H) (i : Nat) : R V := match σ[i]? with | some (.cell (some v)) => .ok v σ | _ => .bad
theorem celR_ {i : Nat} (h : σ[i]? = some (.cell (some v))) : bad? (some i) (celR σ) = .ok v σ := by rw [q_some, celR, h]
theorem e_cel : evalI fns mets inits (n + 1) m (.cel x) σ = bad? (m.c.lookup x) (celR σ) := rfl
theorem e_pow {a b : Nat} : evalI fns mets inits (n + 1) m (.pow a b) σ = .ok (.int ((a : Int) ^ b)) σ := rfl
noncomputable def okB (σ : H) (b : Bool) : R V := .ok (.bool b) σ
theorem okB_ : bad? (some bb) (okB σ) = .ok (.bool bb) σ := rfl
noncomputable def k1 (x : String) : V → H → R V := fun v0 σ => att1 x v0 σ
theorem k1_ : (R.ok v0 σ).bind (k1 x) = att1 x v0 σ := rfl
theorem e_att : evalI fns mets inits (n + 1) m (.att e x) σ = (evalI fns mets inits n m e σ).bind (k1 x) := rfl
noncomputable def k2 (n : Nat) (m : Fm) (bo : Bop) (b : ME) (v0 : V) : V → H → R V := fun v1 σ => bin1 σ bo v0 v1
theorem k2_ : (R.ok v1 σ).bind (k2 n m bo b v0) = bin1 σ bo v0 v1 := rfl
noncomputable def k3 (n : Nat) (m : Fm) (bo : Bop) (b : ME) : V → H → R V := fun v0 σ => (evalI fns mets inits n m b σ).bind (k2 n m bo b v0)
theorem k3_ : (R.ok v0 σ).bind (k3 n m bo b) = (evalI fns mets inits n m b σ).bind (k2 n m bo b v0) := rfl
theorem e_bin : evalI fns mets inits (n + 1) m (.bin bo a b) σ = (evalI fns mets inits n m a σ).bind (k3 n m bo b) := rfl
noncomputable def k4 (n : Nat) (m : Fm) (op : Cop) (b : ME) (v0 : V) : V → H → R V := fun v1 σ => bad? (cmp1 σ op v0 v1) (okB σ)
theorem k4_ : (R.ok v1 σ).bind (k4 n m op b v0) = bad? (cmp1 σ op v0 v1) (okB σ) := rfl
noncomputable def k5 (n : Nat) (m : Fm) (op : Cop) (b : ME) : V → H → R V := fun v0 σ => (evalI fns mets inits n m b σ).bind (k4 n m op b v0)
theorem k5_ : (R.ok v0 σ).bind (k5 n m op b) = (evalI fns mets inits n m b σ).bind (k4 n m op b v0) := rfl
theorem e_cmp : evalI fns mets inits (n + 1) m (.cmp op a b) σ = (evalI fns mets inits n m a σ).bind (k5 n m op b) := rfl
noncomputable def kc3 (o₂ : Cop) (v1 : V) : V → H → R V := fun v2 σ => bad? (cmp1 σ o₂ v1 v2) (okB σ)
theorem kc3_ : (R.ok v2 σ).bind (kc3 o₂ v1) = bad? (cmp1 σ o₂ v1 v2) (okB σ) := rfl
noncomputable def kc2 (n : Nat) (m : Fm) (o₂ : Cop) (c : ME) (v1 : V) (σ : H) : Bool → R V := fun t => if t then (evalI fns mets inits n m c σ).bind (kc3 o₂ v1) else .ok (.bool false) σ
theorem kc2_t : bad? (some true) (kc2 n m o₂ c v1 σ) = (evalI fns mets inits n m c σ).bind (kc3 o₂ v1) := rfl
noncomputable def k6 (n : Nat) (m : Fm) (o₁ : Cop) (o₂ : Cop) (b : ME) (c : ME) (v0 : V) : V → H → R V := fun v1 σ => bad? (cmp1 σ o₁ v0 v1) (kc2 n m o₂ c v1 σ)
theorem k6_ : (R.ok v1 σ).bind (k6 n m o₁ o₂ b c v0) = bad? (cmp1 σ o₁ v0 v1) (kc2 n m o₂ c v1 σ) := rfl
noncomputable def k7 (n : Nat) (m : Fm) (o₁ : Cop) (o₂ : Cop) (b : ME) (c : ME) : V → H → R V := fun v0 σ => (evalI fns mets inits n m b σ).bind (k6 n m o₁ o₂ b c v0)
theorem k7_ : (R.ok v0 σ).bind (k7 n m o₁ o₂ b c) = (evalI fns mets inits n m b σ).bind (k6 n m o₁ o₂ b c v0) := rfl
theorem e_cmp2 : evalI fns mets inits (n + 1) m (.cmp2 o₁ o₂ a b c) σ = (evalI fns mets inits n m a σ).bind (k7 n m o₁ o₂ b c) := rfl
noncomputable def k8  : V → H → R V := fun v0 σ => .ok (.bool (decide (v0 = .none))) σ
theorem k8_ : (R.ok v0 σ).bind (k8) = .ok (.bool (decide (v0 = .none))) σ := rfl
theorem e_isn : evalI fns mets inits (n + 1) m (.isn a) σ = (evalI fns mets inits n m a σ).bind (k8) := rfl
noncomputable def k9  : V → H → R V := fun v0 σ => .ok (.bool (!decide (v0 = .none))) σ
theorem k9_ : (R.ok v0 σ).bind (k9) = .ok (.bool (!decide (v0 = .none))) σ := rfl
theorem e_isnn : evalI fns mets inits (n + 1) m (.isnn a) σ = (evalI fns mets inits n m a σ).bind (k9) := rfl
noncomputable def brE (n : Nat) (m : Fm) (a b : ME) (σ : H) : Bool → R V := fun t => if t then evalI fns mets inits n m a σ else evalI fns mets inits n m b σ
theorem brE_t : bad? (truth (.bool true)) (brE n m a b σ) = evalI fns mets inits n m a σ := rfl
theorem brE_f : bad? (truth (.bool false)) (brE n m a b σ) = evalI fns mets inits n m b σ := rfl
noncomputable def brA (n : Nat) (m : Fm) (b : ME) (v : V) (σ : H) : Bool → R V := fun t => if t then evalI fns mets inits n m b σ else .ok v σ
theorem brA_t : bad? (truth (.bool true)) (brA n m b v σ) = evalI fns mets inits n m b σ := rfl
theorem brA_f : bad? (truth (.bool false)) (brA n m b v σ) = .ok v σ := rfl
noncomputable def brO (n : Nat) (m : Fm) (b : ME) (v : V) (σ : H) : Bool → R V := fun t => if t then .ok v σ else evalI fns mets inits n m b σ
theorem brO_t : bad? (truth (.bool true)) (brO n m b v σ) = .ok v σ := rfl
theorem brO_f : bad? (truth (.bool false)) (brO n m b v σ) = evalI fns mets inits n m b σ := rfl
noncomputable def k10 (n : Nat) (m : Fm) (b : ME) : V → H → R V := fun v0 σ => bad? (truth v0) (brA n m b v0 σ)
theorem k10_ : (R.ok v0 σ).bind (k10 n m b) = bad? (truth v0) (brA n m b v0 σ) := rfl
theorem e_and2 : evalI fns mets inits (n + 1) m (.and2 a b) σ = (evalI fns mets inits n m a σ).bind (k10 n m b) := rfl
noncomputable def k11 (n : Nat) (m : Fm) (b : ME) : V → H → R V := fun v0 σ => bad? (truth v0) (brO n m b v0 σ)
theorem k11_ : (R.ok v0 σ).bind (k11 n m b) = bad? (truth v0) (brO n m b v0 σ) := rfl
theorem e_or2 : evalI fns mets inits (n + 1) m (.or2 a b) σ = (evalI fns mets inits n m a σ).bind (k11 n m b) := rfl
noncomputable def ka3 (n : Nat) (m : Fm) (c : ME) : V → H → R V := fun v σ => bad? (truth v) (brA n m c v σ)
theorem ka3_ : (R.ok v σ).bind (ka3 n m c) = bad? (truth v) (brA n m c v σ) := rfl
noncomputable def brA3 (n : Nat) (m : Fm) (b c : ME) (v : V) (σ : H) : Bool → R V := fun t => if t then (evalI fns mets inits n m b σ).bind (ka3 n m c) else .ok v σ
theorem brA3_t : bad? (truth (.bool true)) (brA3 n m b c v σ) = (evalI fns mets inits n m b σ).bind (ka3 n m c) := rfl
theorem brA3_f : bad? (truth (.bool false)) (brA3 n m b c v σ) = .ok v σ := rfl
noncomputable def ko3 (n : Nat) (m : Fm) (c : ME) : V → H → R V := fun v σ => bad? (truth v) (brO n m c v σ)
theorem ko3_ : (R.ok v σ).bind (ko3 n m c) = bad? (truth v) (brO n m c v σ) := rfl
noncomputable def brO3 (n : Nat) (m : Fm) (b c : ME) (v : V) (σ : H) : Bool → R V := fun t => if t then .ok v σ else (evalI fns mets inits n m b σ).bind (ko3 n m c)
theorem brO3_f : bad? (truth (.bool false)) (brO3 n m b c v σ) = (evalI fns mets inits n m b σ).bind (ko3 n m c) := rfl
noncomputable def k12 (n : Nat) (m : Fm) (b : ME) (c : ME) : V → H → R V := fun v0 σ => bad? (truth v0) (brA3 n m b c v0 σ)
theorem k12_ : (R.ok v0 σ).bind (k12 n m b c) = bad? (truth v0) (brA3 n m b c v0 σ) := rfl
theorem e_and3 : evalI fns mets inits (n + 1) m (.and3 a b c) σ = (evalI fns mets inits n m a σ).bind (k12 n m b c) := rfl
noncomputable def k13 (n : Nat) (m : Fm) (b : ME) (c : ME) : V → H → R V := fun v0 σ => bad? (truth v0) (brO3 n m b c v0 σ)
theorem k13_ : (R.ok v0 σ).bind (k13 n m b c) = bad? (truth v0) (brO3 n m b c v0 σ) := rfl
theorem e_or3 : evalI fns mets inits (n + 1) m (.or3 a b c) σ = (evalI fns mets inits n m a σ).bind (k13 n m b c) := rfl
noncomputable def okN (σ : H) (b : Bool) : R V := .ok (.bool (!b)) σ
theorem okN_ : bad? (truth (.bool bb)) (okN σ) = .ok (.bool (!bb)) σ := rfl
noncomputable def k14  : V → H → R V := fun v0 σ => bad? (truth v0) (okN σ)
theorem k14_ : (R.ok v0 σ).bind (k14) = bad? (truth v0) (okN σ) := rfl
theorem e_not : evalI fns mets inits (n + 1) m (.not a) σ = (evalI fns mets inits n m a σ).bind (k14) := rfl
noncomputable def k15 (n : Nat) (m : Fm) (a : ME) (b : ME) : V → H → R V := fun v0 σ => bad? (truth v0) (brE n m a b σ)
theorem k15_ : (R.ok v0 σ).bind (k15 n m a b) = bad? (truth v0) (brE n m a b σ) := rfl
theorem e_ifx : evalI fns mets inits (n + 1) m (.ifx t a b) σ = (evalI fns mets inits n m t σ).bind (k15 n m a b) := rfl
noncomputable def kL : List V → H → R V := fun vs σ => if vs.length ≤ 1000 then .ok (.obj σ.length) (σ ++ [.list vs]) else .bad
noncomputable def kT : List V → H → R V := fun vs σ => if vs.length ≤ 1000 then .ok (.obj σ.length) (σ ++ [.tup vs]) else .bad
theorem kL0 : (R.ok [] σ).bind kL = .ok (.obj σ.length) (σ ++ [.list []]) := rfl
theorem kL1 : (R.ok [v0] σ).bind kL = .ok (.obj σ.length) (σ ++ [.list [v0]]) := rfl
theorem kL2 : (R.ok [v0, v1] σ).bind kL = .ok (.obj σ.length) (σ ++ [.list [v0, v1]]) := rfl
theorem kL3 : (R.ok [v0, v1, v2] σ).bind kL = .ok (.obj σ.length) (σ ++ [.list [v0, v1, v2]]) := rfl
theorem kT2 : (R.ok [v0, v1] σ).bind kT = .ok (.obj σ.length) (σ ++ [.tup [v0, v1]]) := rfl
theorem kT3 : (R.ok [v0, v1, v2] σ).bind kT = .ok (.obj σ.length) (σ ++ [.tup [v0, v1, v2]]) := rfl
theorem kT4 : (R.ok [v0, v1, v2, v3] σ).bind kT = .ok (.obj σ.length) (σ ++ [.tup [v0, v1, v2, v3]]) := rfl
theorem e_lst : evalI fns mets inits (n + 1) m (.lst es) σ = (evalsI fns mets inits n m es σ).bind kL := rfl
theorem e_tup : evalI fns mets inits (n + 1) m (.tup es) σ = (evalsI fns mets inits n m es σ).bind kT := rfl
noncomputable def k16 (n : Nat) (m : Fm) (i : ME) (v0 : V) : V → H → R V := fun v1 σ => idx1 v0 v1 σ
theorem k16_ : (R.ok v1 σ).bind (k16 n m i v0) = idx1 v0 v1 σ := rfl
noncomputable def k17 (n : Nat) (m : Fm) (i : ME) : V → H → R V := fun v0 σ => (evalI fns mets inits n m i σ).bind (k16 n m i v0)
theorem k17_ : (R.ok v0 σ).bind (k17 n m i) = (evalI fns mets inits n m i σ).bind (k16 n m i v0) := rfl
theorem e_idx : evalI fns mets inits (n + 1) m (.idx e i) σ = (evalI fns mets inits n m e σ).bind (k17 n m i) := rfl
noncomputable def k18 (n : Nat) (m : Fm) (hi : ME) (v0 : V) : V → H → R V := fun v1 σ => upto1 v0 v1 σ
theorem k18_ : (R.ok v1 σ).bind (k18 n m hi v0) = upto1 v0 v1 σ := rfl
noncomputable def k19 (n : Nat) (m : Fm) (hi : ME) : V → H → R V := fun v0 σ => (evalI fns mets inits n m hi σ).bind (k18 n m hi v0)
theorem k19_ : (R.ok v0 σ).bind (k19 n m hi) = (evalI fns mets inits n m hi σ).bind (k18 n m hi v0) := rfl
theorem e_upto : evalI fns mets inits (n + 1) m (.upto e hi) σ = (evalI fns mets inits n m e σ).bind (k19 n m hi) := rfl
noncomputable def k20 (n : Nat) (m : Fm) (lo : ME) (v0 : V) : V → H → R V := fun v1 σ => fro1 v0 v1 σ
theorem k20_ : (R.ok v1 σ).bind (k20 n m lo v0) = fro1 v0 v1 σ := rfl
noncomputable def k21 (n : Nat) (m : Fm) (lo : ME) : V → H → R V := fun v0 σ => (evalI fns mets inits n m lo σ).bind (k20 n m lo v0)
theorem k21_ : (R.ok v0 σ).bind (k21 n m lo) = (evalI fns mets inits n m lo σ).bind (k20 n m lo v0) := rfl
theorem e_fro : evalI fns mets inits (n + 1) m (.fro e lo) σ = (evalI fns mets inits n m e σ).bind (k21 n m lo) := rfl
noncomputable def k22 (n : Nat) (m : Fm) (lo : ME) (hi : ME) (v0 : V) (v1 : V) : V → H → R V := fun v2 σ => slc1 v0 v1 v2 σ
theorem k22_ : (R.ok v2 σ).bind (k22 n m lo hi v0 v1) = slc1 v0 v1 v2 σ := rfl
noncomputable def k23 (n : Nat) (m : Fm) (lo : ME) (hi : ME) (v0 : V) : V → H → R V := fun v1 σ => (evalI fns mets inits n m hi σ).bind (k22 n m lo hi v0 v1)
theorem k23_ : (R.ok v1 σ).bind (k23 n m lo hi v0) = (evalI fns mets inits n m hi σ).bind (k22 n m lo hi v0 v1) := rfl
noncomputable def k24 (n : Nat) (m : Fm) (lo : ME) (hi : ME) : V → H → R V := fun v0 σ => (evalI fns mets inits n m lo σ).bind (k23 n m lo hi v0)
theorem k24_ : (R.ok v0 σ).bind (k24 n m lo hi) = (evalI fns mets inits n m lo σ).bind (k23 n m lo hi v0) := rfl
theorem e_slc : evalI fns mets inits (n + 1) m (.slc e lo hi) σ = (evalI fns mets inits n m e σ).bind (k24 n m lo hi) := rfl
noncomputable def k25  : V → H → R V := fun v0 σ => rev1 v0 σ
theorem k25_ : (R.ok v0 σ).bind (k25) = rev1 v0 σ := rfl
theorem e_rev : evalI fns mets inits (n + 1) m (.rev e) σ = (evalI fns mets inits n m e σ).bind (k25) := rfl
noncomputable def kC (n f : Nat) : List V → H → R V := fun vs σ => callI fns mets inits n f vs σ
theorem kC_ {f : Nat} {vs : List V} : (R.ok vs σ).bind (kC n f) = callI fns mets inits n f vs σ := rfl
theorem e_call {f : Nat} : evalI fns mets inits (n + 1) m (.call f x es) σ = (evalsI fns mets inits n m es σ).bind (kC n f) := rfl
noncomputable def kM (n f i : Nat) : List V → H → R V := fun vs σ => callI fns mets inits n f (.obj i :: vs) σ
theorem kM_ {f i : Nat} {vs : List V} : (R.ok vs σ).bind (kM n f i) = callI fns mets inits n f (.obj i :: vs) σ := rfl
noncomputable def kN2 (d : Nat) : V → H → R V := fun v σ' => match v with | .none => .ok (.obj d) σ' | _ => .bad
theorem kN2_ {d : Nat} : (R.ok .none σ).bind (kN2 d) = .ok (.obj d) σ := rfl
noncomputable def kNC (n C f : Nat) : List V → H → R V := fun vs σ => (callI fns mets inits n f (.obj (σ.length + 1) :: vs) (σ ++ [.dict []] ++ [.inst C σ.length])).bind (kN2 (σ.length + 1))
theorem kNC_ {C f : Nat} {vs : List V} : (R.ok vs σ).bind (kNC n C f) = (callI fns mets inits n f (.obj (σ.length + 1) :: vs) (σ ++ [.dict []] ++ [.inst C σ.length])).bind (kN2 (σ.length + 1)) := rfl
theorem e_new {C f : Nat} (h : inits C = some f) : evalI fns mets inits (n + 1) m (.new C x es) σ = (evalsI fns mets inits n m es σ).bind (kNC n C f) := by
  show (R.bind _ _) = _
  rw [h]
  rfl
theorem e_new260 : evalI fns mets inits (n + 1) m (.new 260 x es) σ = (evalsI fns mets inits n m es σ).bind (kNC n 260 189) := e_new rfl
theorem e_new691 : evalI fns mets inits (n + 1) m (.new 691 x es) σ = (evalsI fns mets inits n m es σ).bind (kNC n 691 669) := e_new rfl
theorem e_new651 : evalI fns mets inits (n + 1) m (.new 651 x es) σ = (evalsI fns mets inits n m es σ).bind (kNC n 651 648) := e_new rfl
noncomputable def metR (n : Nat) (m : Fm) (x : String) (es : List ME) : V → H → R V := fun v σ => match v with
      | .obj i => match σ[i]? with
        | some (.inst C d) => match σ[d]? with
          | some (.dict fs) => if fs.lookup x = .none then bad? (mets C x) fun f => (evalsI fns mets inits n m es σ).bind fun vs σ => callI fns mets inits n f (.obj i :: vs) σ else .bad
          | _ => .bad
        | _ => .bad
      | _ => .bad
theorem met_eq {i C d f : Nat} {fs : List (String × V)} (h1 : σ[i]? = some (.inst C d)) (h2 : σ[d]? = some (.dict fs)) (h3 : fs.lookup x = .none) (h4 : mets C x = some f) : (R.ok (.obj i) σ).bind (metR n m x es) = (evalsI fns mets inits n m es σ).bind (kM n f i) := by
  rw [b_ok]
  unfold metR
  simp only [h1, h2, h3, h4, if_true, bad?]
  rfl
noncomputable def satR (x : String) (v : V) (m : Fm) : V → H → R (Fl × Fm) := fun u σ => match u with
  | .obj i => match σ[i]? with
    | some (.inst C d) => match σ[d]? with
      | some (.dict fs) => if attOk C x ∧ fs.length < 900 then .ok (.next, m) (σ.set d (.dict (upd x v fs))) else .bad
      | _ => .bad
    | _ => .bad
  | _ => .bad
theorem att_eq {i C d : Nat} {fs : List (String × V)} {v : V} (h1 : σ[i]? = some (.inst C d)) (h2 : σ[d]? = some (.dict fs)) (h3 : attOk C x = true) (h4 : fs.lookup x = some v) : att1 x (.obj i) σ = .ok v σ := by
  unfold att1
  simp only [h1, h2, h3, h4, if_true, bad?]
theorem sat_eq {i C d : Nat} {fs : List (String × V)} {v : V} (h1 : σ[i]? = some (.inst C d)) (h2 : σ[d]? = some (.dict fs)) (h3 : attOk C x = true) (h4 : fs.length < 900) : (R.ok (.obj i) σ).bind (satR x v m) = .ok (.next, m) (σ.set d (.dict (upd x v fs))) := by
  rw [b_ok]
  unfold satR
  simp only [h1, h2, h3, h4, if_true, and_self]
theorem e_met : evalI fns mets inits (n + 1) m (.met e x es) σ = (evalI fns mets inits n m e σ).bind (metR n m x es) := rfl
noncomputable def k26  : V → H → R V := fun v0 σ => len1 v0 σ
theorem k26_ : (R.ok v0 σ).bind (k26) = len1 v0 σ := rfl
theorem e_len : evalI fns mets inits (n + 1) m (.len e) σ = (evalI fns mets inits n m e σ).bind (k26) := rfl
noncomputable def k28  : V → H → R V := fun v0 σ => range1 v0 σ
theorem k28_ : (R.ok v0 σ).bind (k28) = range1 v0 σ := rfl
theorem e_range : evalI fns mets inits (n + 1) m (.range e) σ = (evalI fns mets inits n m e σ).bind (k28) := rfl
noncomputable def k29  : V → H → R V := fun v0 σ => list1 v0 σ
theorem k29_ : (R.ok v0 σ).bind (k29) = list1 v0 σ := rfl
theorem e_list : evalI fns mets inits (n + 1) m (.list e) σ = (evalI fns mets inits n m e σ).bind (k29) := rfl
noncomputable def k30  : V → H → R V := fun v0 σ => sorted1 v0 σ
theorem k30_ : (R.ok v0 σ).bind (k30) = sorted1 v0 σ := rfl
theorem e_sorted : evalI fns mets inits (n + 1) m (.sorted e) σ = (evalI fns mets inits n m e σ).bind (k30) := rfl
noncomputable def k31 (n : Nat) (m : Fm) (b : ME) (v0 : V) : V → H → R V := fun v1 σ => mn1 v0 v1 σ
theorem k31_ : (R.ok v1 σ).bind (k31 n m b v0) = mn1 v0 v1 σ := rfl
noncomputable def k32 (n : Nat) (m : Fm) (b : ME) : V → H → R V := fun v0 σ => (evalI fns mets inits n m b σ).bind (k31 n m b v0)
theorem k32_ : (R.ok v0 σ).bind (k32 n m b) = (evalI fns mets inits n m b σ).bind (k31 n m b v0) := rfl
theorem e_mn : evalI fns mets inits (n + 1) m (.mn a b) σ = (evalI fns mets inits n m a σ).bind (k32 n m b) := rfl
noncomputable def k33 (n : Nat) (m : Fm) (b : ME) (v0 : V) : V → H → R V := fun v1 σ => mx1 v0 v1 σ
theorem k33_ : (R.ok v1 σ).bind (k33 n m b v0) = mx1 v0 v1 σ := rfl
noncomputable def k34 (n : Nat) (m : Fm) (b : ME) : V → H → R V := fun v0 σ => (evalI fns mets inits n m b σ).bind (k33 n m b v0)
theorem k34_ : (R.ok v0 σ).bind (k34 n m b) = (evalI fns mets inits n m b σ).bind (k33 n m b v0) := rfl
theorem e_mx : evalI fns mets inits (n + 1) m (.mx a b) σ = (evalI fns mets inits n m a σ).bind (k34 n m b) := rfl
noncomputable def kA (i : Nat) : V → H → R V := fun u σ => match σ[i]? with
          | some (.list xs) => if xs.length < 100000 then .ok .none (σ.set i (.list (xs ++ [u]))) else .bad
          | _ => .bad
noncomputable def appR (n : Nat) (m : Fm) (a : ME) : V → H → R V := fun v σ => match v with
      | .obj i => match σ[i]? with
        | some (.list _) => (evalI fns mets inits n m a σ).bind fun u σ => match σ[i]? with
          | some (.list xs) => if xs.length < 100000 then .ok .none (σ.set i (.list (xs ++ [u]))) else .bad
          | _ => .bad
        | _ => .bad
      | _ => .bad
theorem app_eq {i : Nat} {xs : List V} (h : σ[i]? = some (.list xs)) : (R.ok (.obj i) σ).bind (appR n m a) = (evalI fns mets inits n m a σ).bind (kA i) := by rw [b_ok]; unfold appR; simp only [h]; rfl
theorem kA_eq {i : Nat} {xs : List V} (h : σ[i]? = some (.list xs)) (hl : xs.length < 100000) : (R.ok v σ).bind (kA i) = .ok .none (σ.set i (.list (xs ++ [v]))) := by rw [b_ok]; unfold kA; simp only [h, hl, if_true]
noncomputable def pop0R (v : V) (σ : H) : R V := match v with
      | .obj i => match σ[i]? with
        | some (.list (x :: xs)) => .ok x (σ.set i (.list xs))
        | _ => .bad
      | _ => .bad
theorem e_app : evalI fns mets inits (n + 1) m (.app e a) σ = (evalI fns mets inits n m e σ).bind (appR n m a) := rfl
theorem e_pop0 : evalI fns mets inits (n + 1) m (.pop0 e) σ = (evalI fns mets inits n m e σ).bind pop0R := rfl
theorem es_nil : evalsI fns mets inits (n + 1) m [] σ = .ok [] σ := rfl
noncomputable def kE2 (v : V) : List V → H → R (List V) := fun vs σ => .ok (v :: vs) σ
theorem kE2_ {vs : List V} : (R.ok vs σ).bind (kE2 v) = .ok (v :: vs) σ := rfl
noncomputable def kE1 (n : Nat) (m : Fm) (es : List ME) : V → H → R (List V) := fun v σ => (evalsI fns mets inits n m es σ).bind (kE2 v)
theorem kE1_ : (R.ok v σ).bind (kE1 n m es) = (evalsI fns mets inits n m es σ).bind (kE2 v) := rfl
theorem es_cons : evalsI fns mets inits (n + 1) m (e :: es) σ = (evalI fns mets inits n m e σ).bind (kE1 n m es) := rfl
noncomputable def kX (n : Nat) (ss : List MS) : Fl × Fm → H → R (Fl × Fm) := fun r σ => match r.1 with | .next => execsI fns mets inits n r.2 ss σ | .ret v => .ok (.ret v, r.2) σ
theorem kX_n : (R.ok (.next, m) σ).bind (kX n ss) = execsI fns mets inits n m ss σ := rfl
theorem kX_r : (R.ok (.ret v, m) σ).bind (kX n ss) = .ok (.ret v, m) σ := rfl
noncomputable def kRet : Fl × Fm → H → R V := fun r σ => match r.1 with | .next => .ok .none σ | .ret v => .ok v σ
theorem kRet_n : (R.ok (.next, m) σ).bind kRet = .ok .none σ := rfl
theorem kRet_r : (R.ok (.ret v, m) σ).bind kRet = .ok v σ := rfl
theorem x_nil : execsI fns mets inits (n + 1) m [] σ = .ok (.next, m) σ := rfl
theorem x_cons {s : MS} : execsI fns mets inits (n + 1) m (s :: ss) σ = (execI fns mets inits n m s σ).bind (kX n ss) := rfl
noncomputable def k35 (m : Fm) (x : String) : V → H → R (Fl × Fm) := fun v0 σ => .ok (.next, ⟨(x, v0) :: m.l, m.c⟩) σ
theorem k35_ : (R.ok v0 σ).bind (k35 m x) = .ok (.next, ⟨(x, v0) :: m.l, m.c⟩) σ := rfl
theorem s_set : execI fns mets inits (n + 1) m (.set x e) σ = (evalI fns mets inits n m e σ).bind (k35 m x) := rfl
noncomputable def secR (x : String) (v : V) (m : Fm) (σ : H) : R (Fl × Fm) := bad? (m.c.lookup x) fun i => match σ[i]? with
        | some (.cell _) => .ok (.next, m) (σ.set i (.cell (some v)))
        | _ => .bad
theorem sec_eq {i : Nat} {w : Option V} (h : m.c.lookup x = some i) (h2 : σ[i]? = some (.cell w)) : secR x v m σ = .ok (.next, m) (σ.set i (.cell (some v))) := by unfold secR; rw [h]; simp only [bad?, h2]
noncomputable def unpR (xs : List String) (m : Fm) (v : V) (σ : H) : R (Fl × Fm) := match v with
      | .obj i => match σ[i]? with
        | some (.tup vs) => if vs.length = xs.length then .ok (.next, ⟨(xs.zip vs).reverse ++ m.l, m.c⟩) σ else .bad
        | _ => .bad
      | _ => .bad
theorem unp_eq {i : Nat} {vs : List V} (h : σ[i]? = some (.tup vs)) (h2 : vs.length = xs.length) : unpR xs m (.obj i) σ = .ok (.next, ⟨(xs.zip vs).reverse ++ m.l, m.c⟩) σ := by unfold unpR; simp only [h, h2, if_true]
noncomputable def sixR (v u t : V) (m : Fm) (σ : H) : R (Fl × Fm) := match u, t with
      | .obj i, .int z => match σ[i]? with
        | some (.list xs) => if 0 ≤ z ∧ z < xs.length then .ok (.next, m) (σ.set i (.list (xs.set z.toNat v))) else .bad
        | _ => .bad
      | _, _ => .bad
theorem six_eq {i : Nat} {xs : List V} (h : σ[i]? = some (.list xs)) (h2 : 0 ≤ z ∧ z < xs.length) : sixR v (.obj i) (.int z) m σ = .ok (.next, m) (σ.set i (.list (xs.set z.toNat v))) := by unfold sixR; simp only [h, h2, if_true, and_self]
noncomputable def sslR (v u t w : V) (m : Fm) (σ : H) : R (Fl × Fm) := match v, u, t, w with
      | .obj j, .obj i, .int y, .int z => match σ[i]?, σ[j]? with
        | some (.list xs), some (.list ys) => if i ≠ j ∧ 0 ≤ y ∧ y ≤ xs.length ∧ 0 ≤ z ∧ z ≤ xs.length ∧ xs.length + ys.length ≤ 100000 then .ok (.next, m) (σ.set i (.list (xs.take y.toNat ++ ys ++ xs.drop (max y z).toNat))) else .bad
        | _, _ => .bad
      | _, _, _, _ => .bad
theorem ssl_eq {i j : Nat} {xs ys : List V} {y : Int} (h : σ[i]? = some (.list xs)) (h' : σ[j]? = some (.list ys)) (h2 : i ≠ j ∧ 0 ≤ y ∧ y ≤ xs.length ∧ 0 ≤ z ∧ z ≤ xs.length ∧ xs.length + ys.length ≤ 100000) : sslR (.obj j) (.obj i) (.int y) (.int z) m σ = .ok (.next, m) (σ.set i (.list (xs.take y.toNat ++ ys ++ xs.drop (max y z).toNat))) := by unfold sslR; simp only [h, h']; rw [if_pos h2]
noncomputable def k36 (m : Fm) (x : String) : V → H → R (Fl × Fm) := fun v0 σ => secR x v0 m σ
theorem k36_ : (R.ok v0 σ).bind (k36 m x) = secR x v0 m σ := rfl
theorem s_sec : execI fns mets inits (n + 1) m (.sec x e) σ = (evalI fns mets inits n m e σ).bind (k36 m x) := rfl
noncomputable def k37 (m : Fm) (xs : List String) : V → H → R (Fl × Fm) := fun v0 σ => unpR xs m v0 σ
theorem k37_ : (R.ok v0 σ).bind (k37 m xs) = unpR xs m v0 σ := rfl
theorem s_unp : execI fns mets inits (n + 1) m (.unp xs e) σ = (evalI fns mets inits n m e σ).bind (k37 m xs) := rfl
noncomputable def k38 (n : Nat) (m : Fm) (x : String) (y : String) (b : ME) (v0 : V) : V → H → R (Fl × Fm) := fun v1 σ => .ok (.next, ⟨(y, v1) :: (x, v0) :: m.l, m.c⟩) σ
theorem k38_ : (R.ok v1 σ).bind (k38 n m x y b v0) = .ok (.next, ⟨(y, v1) :: (x, v0) :: m.l, m.c⟩) σ := rfl
noncomputable def k39 (n : Nat) (m : Fm) (x : String) (y : String) (b : ME) : V → H → R (Fl × Fm) := fun v0 σ => (evalI fns mets inits n m b σ).bind (k38 n m x y b v0)
theorem k39_ : (R.ok v0 σ).bind (k39 n m x y b) = (evalI fns mets inits n m b σ).bind (k38 n m x y b v0) := rfl
theorem s_par : execI fns mets inits (n + 1) m (.par x y a b) σ = (evalI fns mets inits n m a σ).bind (k39 n m x y b) := rfl
noncomputable def kS (x : String) (m : Fm) (o : ME) (n : Nat) : V → H → R (Fl × Fm) := fun v σ => (evalI fns mets inits n m o σ).bind (satR x v m)
theorem kS_ : (R.ok v σ).bind (kS x m o n) = (evalI fns mets inits n m o σ).bind (satR x v m) := rfl
theorem s_sat : execI fns mets inits (n + 1) m (.sat o x e) σ = (evalI fns mets inits n m e σ).bind (kS x m o n) := rfl
noncomputable def k40 (n : Nat) (m : Fm) (o : ME) (i : ME) (v0 : V) (v1 : V) : V → H → R (Fl × Fm) := fun v2 σ => sixR v0 v1 v2 m σ
theorem k40_ : (R.ok v2 σ).bind (k40 n m o i v0 v1) = sixR v0 v1 v2 m σ := rfl
noncomputable def k41 (n : Nat) (m : Fm) (o : ME) (i : ME) (v0 : V) : V → H → R (Fl × Fm) := fun v1 σ => (evalI fns mets inits n m i σ).bind (k40 n m o i v0 v1)
theorem k41_ : (R.ok v1 σ).bind (k41 n m o i v0) = (evalI fns mets inits n m i σ).bind (k40 n m o i v0 v1) := rfl
noncomputable def k42 (n : Nat) (m : Fm) (o : ME) (i : ME) : V → H → R (Fl × Fm) := fun v0 σ => (evalI fns mets inits n m o σ).bind (k41 n m o i v0)
theorem k42_ : (R.ok v0 σ).bind (k42 n m o i) = (evalI fns mets inits n m o σ).bind (k41 n m o i v0) := rfl
theorem s_six : execI fns mets inits (n + 1) m (.six o i e) σ = (evalI fns mets inits n m e σ).bind (k42 n m o i) := rfl
noncomputable def k43 (n : Nat) (m : Fm) (o : ME) (lo : ME) (hi : ME) (v0 : V) (v1 : V) (v2 : V) : V → H → R (Fl × Fm) := fun v3 σ => sslR v0 v1 v2 v3 m σ
theorem k43_ : (R.ok v3 σ).bind (k43 n m o lo hi v0 v1 v2) = sslR v0 v1 v2 v3 m σ := rfl
noncomputable def k44 (n : Nat) (m : Fm) (o : ME) (lo : ME) (hi : ME) (v0 : V) (v1 : V) : V → H → R (Fl × Fm) := fun v2 σ => (evalI fns mets inits n m hi σ).bind (k43 n m o lo hi v0 v1 v2)
theorem k44_ : (R.ok v2 σ).bind (k44 n m o lo hi v0 v1) = (evalI fns mets inits n m hi σ).bind (k43 n m o lo hi v0 v1 v2) := rfl
noncomputable def k45 (n : Nat) (m : Fm) (o : ME) (lo : ME) (hi : ME) (v0 : V) : V → H → R (Fl × Fm) := fun v1 σ => (evalI fns mets inits n m lo σ).bind (k44 n m o lo hi v0 v1)
theorem k45_ : (R.ok v1 σ).bind (k45 n m o lo hi v0) = (evalI fns mets inits n m lo σ).bind (k44 n m o lo hi v0 v1) := rfl
noncomputable def k46 (n : Nat) (m : Fm) (o : ME) (lo : ME) (hi : ME) : V → H → R (Fl × Fm) := fun v0 σ => (evalI fns mets inits n m o σ).bind (k45 n m o lo hi v0)
theorem k46_ : (R.ok v0 σ).bind (k46 n m o lo hi) = (evalI fns mets inits n m o σ).bind (k45 n m o lo hi v0) := rfl
theorem s_ssl : execI fns mets inits (n + 1) m (.ssl o lo hi e) σ = (evalI fns mets inits n m e σ).bind (k46 n m o lo hi) := rfl
noncomputable def k47 (m : Fm) : V → H → R (Fl × Fm) := fun v0 σ => .ok (.next, m) σ
theorem k47_ : (R.ok v0 σ).bind (k47 m) = .ok (.next, m) σ := rfl
theorem s_exp : execI fns mets inits (n + 1) m (.exp e) σ = (evalI fns mets inits n m e σ).bind (k47 m) := rfl
noncomputable def k48 (m : Fm) : V → H → R (Fl × Fm) := fun v0 σ => .ok (.ret v0, m) σ
theorem k48_ : (R.ok v0 σ).bind (k48 m) = .ok (.ret v0, m) σ := rfl
theorem s_ret : execI fns mets inits (n + 1) m (.ret e) σ = (evalI fns mets inits n m e σ).bind (k48 m) := rfl
noncomputable def brS (n : Nat) (m : Fm) (p q : List MS) (σ : H) : Bool → R (Fl × Fm) := fun t => if t then execsI fns mets inits n m p σ else execsI fns mets inits n m q σ
theorem brS_t : bad? (truth (.bool true)) (brS n m p q σ) = execsI fns mets inits n m p σ := rfl
theorem brS_f : bad? (truth (.bool false)) (brS n m p q σ) = execsI fns mets inits n m q σ := rfl
noncomputable def k49 (n : Nat) (m : Fm) (p : List MS) (q : List MS) : V → H → R (Fl × Fm) := fun v0 σ => bad? (truth v0) (brS n m p q σ)
theorem k49_ : (R.ok v0 σ).bind (k49 n m p q) = bad? (truth v0) (brS n m p q σ) := rfl
theorem s_ife : execI fns mets inits (n + 1) m (.ife t p q) σ = (evalI fns mets inits n m t σ).bind (k49 n m p q) := rfl
theorem s_whl : execI fns mets inits (n + 1) m (.whl t p) σ = whlI fns mets inits n m t p σ := rfl
noncomputable def kW (n : Nat) (t : ME) (p : List MS) : Fl × Fm → H → R (Fl × Fm) := fun r σ => match r.1 with | .next => whlI fns mets inits n r.2 t p σ | .ret v => .ok (.ret v, r.2) σ
theorem kW_n : (R.ok (.next, m) σ).bind (kW n t p) = whlI fns mets inits n m t p σ := rfl
noncomputable def brW (n : Nat) (m : Fm) (t : ME) (p : List MS) (σ : H) : Bool → R (Fl × Fm) := fun c => if c then (execsI fns mets inits n m p σ).bind (kW n t p) else .ok (.next, m) σ
theorem brW_t : bad? (truth (.bool true)) (brW n m t p σ) = (execsI fns mets inits n m p σ).bind (kW n t p) := rfl
theorem brW_f : bad? (truth (.bool false)) (brW n m t p σ) = .ok (.next, m) σ := rfl
noncomputable def kW0 (n : Nat) (m : Fm) (t : ME) (p : List MS) : V → H → R (Fl × Fm) := fun v σ => bad? (truth v) (brW n m t p σ)
theorem kW0_ : (R.ok v σ).bind (kW0 n m t p) = bad? (truth v) (brW n m t p σ) := rfl
theorem w_eq : whlI fns mets inits (n + 1) m t p σ = (evalI fns mets inits n m t σ).bind (kW0 n m t p) := rfl
noncomputable def kF (n : Nat) (m : Fm) (xs : List String) (b : List MS) : V → H → R (Fl × Fm) := fun v σ => bad? (iter1 v σ) fun σ' => forI fns mets inits n m xs σ.length b σ'
theorem kF_eq {σ' : H} (h : iter1 v σ = some σ') : (R.ok v σ).bind (kF n m xs p) = forI fns mets inits n m xs σ.length p σ' := by rw [b_ok]; unfold kF; rw [h]; rfl
theorem s_for : execI fns mets inits (n + 1) m (.forin xs e p) σ = (evalI fns mets inits n m e σ).bind (kF n m xs p) := rfl
noncomputable def kF2 (n : Nat) (xs : List String) (it : Nat) (b : List MS) : Fl × Fm → H → R (Fl × Fm) := fun r σ => match r.1 with | .next => forI fns mets inits n r.2 xs it b σ | .ret v => .ok (.ret v, r.2) σ
theorem f_none {it : Nat} {σ' : H} (h : next1 it σ = some (none, σ')) : forI fns mets inits (n + 1) m xs it p σ = .ok (.next, m) σ' := by rw [forI, h]
theorem f_some {it : Nat} {v : V} {σ' : H} (h : next1 it σ = some (some v, σ')) : forI fns mets inits (n + 1) m [x] it p σ = (execsI fns mets inits n ⟨(x, v) :: m.l, m.c⟩ p σ').bind (kF2 n [x] it p) := by rw [forI, h]; rfl
theorem kF_empty {i : Nat} (h : σ[i]? = some (.list [])) : (R.ok (.obj i) σ).bind (kF (n + 1) m xs p) = .ok (.next, m) (σ ++ [.gone]) := by
  have hi : i < σ.length := (List.getElem?_eq_some_iff.mp h).1
  rw [kF_eq (σ' := σ ++ [.iter i 0]) (by simp only [iter1, h])]
  refine f_none ?_
  have e1 : (σ ++ [AO.iter i 0])[σ.length]? = some (.iter i 0) := by rw [List.getElem?_append_right (Nat.le_refl _), Nat.sub_self]; rfl
  have e2 : (σ ++ [AO.iter i 0])[i]? = some (.list []) := by rw [List.getElem?_append_left hi, h]
  simp only [next1, e1, e2, List.getElem?_nil]
  rw [List.set_append_right _ _ (Nat.le_refl _), Nat.sub_self]; rfl
noncomputable def kRai (s : String) : V → H → R (Fl × Fm) := fun _ σ => .exc s σ
theorem kRai_ : (R.ok v σ).bind (kRai s) = .exc s σ := rfl
theorem s_rai : execI fns mets inits (n + 1) m (.rai s e) σ = (evalI fns mets inits n m e σ).bind (kRai s) := rfl
theorem b_add {a b : Int} : bin1 σ .add (.int a) (.int b) = .ok (.int (a + b)) σ := rfl
theorem b_sub {a b : Int} : bin1 σ .sub (.int a) (.int b) = .ok (.int (a - b)) σ := rfl
theorem b_mul {a b : Int} (h : -lim ≤ a ∧ a ≤ lim ∧ -lim ≤ b ∧ b ≤ lim) : bin1 σ .mul (.int a) (.int b) = .ok (.int (a * b)) σ := if_pos h
theorem b_div {a b : Int} (h : 0 < b ∧ b ≤ lim) : bin1 σ .div (.int a) (.int b) = .ok (.int (a.fdiv b)) σ := if_pos h
theorem b_mod {a b : Int} (h : 0 < b ∧ b ≤ lim) : bin1 σ .mod (.int a) (.int b) = .ok (.int (a.fmod b)) σ := if_pos h
theorem b_addl {i j : Nat} {xs ys : List V} (h : σ[i]? = some (.list xs)) (h' : σ[j]? = some (.list ys)) (hl : xs.length + ys.length ≤ 100000) : bin1 σ .add (.obj i) (.obj j) = .ok (.obj σ.length) (σ ++ [.list (xs ++ ys)]) := by
  simp only [bin1, catO, lstV, h, h']; exact if_pos hl
theorem b_mull {i : Nat} {n : Int} (h : σ[i]? = some (.list [v])) (hl : 0 ≤ n ∧ n ≤ 100000) : bin1 σ .mul (.obj i) (.int n) = .ok (.obj σ.length) (σ ++ [.list (List.replicate n.toNat v)]) := by
  simp only [bin1, repO, lstV, sing, h]; exact if_pos hl
theorem c_lt {a b : Int} : cmp1 σ .lt (.int a) (.int b) = some (decide (a < b)) := rfl
theorem c_le {a b : Int} : cmp1 σ .le (.int a) (.int b) = some (decide (a ≤ b)) := rfl
theorem c_gt {a b : Int} : cmp1 σ .gt (.int a) (.int b) = some (decide (b < a)) := rfl
theorem c_ge {a b : Int} : cmp1 σ .ge (.int a) (.int b) = some (decide (b ≤ a)) := rfl
theorem c_eq {a b : Int} : cmp1 σ .eq (.int a) (.int b) = some (decide (a = b)) := rfl
theorem c_eqs {a b : String} : cmp1 σ .eq (.str a) (.str b) = some (decide (a = b)) := rfl
theorem c_neb {a b : Bool} : cmp1 σ .ne (.bool a) (.bool b) = some (!decide (a = b)) := rfl
theorem c_eqbg : cmp1 σ .eq (.glob 175) (.glob 175) = some true := rfl
theorem c_nebg : cmp1 σ .ne (.glob 175) (.glob 175) = some false := rfl
theorem c_eqog {i : Nat} {s : String} {r : List V} (h : σ[i]? = some (.tup (.str s :: r))) (hs : s ≠ "boundary") : cmp1 σ .eq (.obj i) (.glob 175) = some false := by show eq1 σ (.obj i) (.glob 175) = _; unfold eq1 hd1; simp only [h, hs, if_false, if_true]
theorem c_neog {i : Nat} {s : String} {r : List V} (h : σ[i]? = some (.tup (.str s :: r))) (hs : s ≠ "boundary") : cmp1 σ .ne (.obj i) (.glob 175) = some true := by show (eq1 σ (.obj i) (.glob 175)).map (!·) = _; rw [show eq1 σ (.obj i) (.glob 175) = _ from c_eqog h hs]; rfl
theorem intsL_il {l : List Int} : intsL (il l) = some l := by induction l with
  | nil => rfl
  | cons a l ih => rw [il, List.map_cons, intsL, ih]; rfl
theorem c_eql {i j : Nat} {x y : List Int} (h : σ[i]? = some (.list (il x))) (h' : σ[j]? = some (.list (il y))) : cmp1 σ .eq (.obj i) (.obj j) = some (decide (x = y)) := by
  show eq1 σ (.obj i) (.obj j) = _
  unfold eq1 eqO lstI; simp only [h, h', intsL_il]
theorem c_nel {i j : Nat} {x y : List Int} (h : σ[i]? = some (.list (il x))) (h' : σ[j]? = some (.list (il y))) : cmp1 σ .ne (.obj i) (.obj j) = some (!decide (x = y)) := by
  show (eq1 σ (.obj i) (.obj j)).map (!·) = _
  rw [show eq1 σ (.obj i) (.obj j) = _ from c_eql h h']; rfl
theorem c_net {i j c d : Nat} {x y : List Int} {p q r p' q' r' : Int} (h : σ[i]? = some (.tup [.obj c, .int p, .int q, .int r])) (h' : σ[j]? = some (.tup [.obj d, .int p', .int q', .int r'])) (hx : σ[c]? = some (.list (il x))) (hy : σ[d]? = some (.list (il y))) : cmp1 σ .ne (.obj i) (.obj j) = some (!decide (x = y ∧ p = p' ∧ q = q' ∧ r = r')) := by
  show (eq1 σ (.obj i) (.obj j)).map (!·) = _
  have : eq1 σ (.obj i) (.obj j) = some (decide (x = y ∧ p = p' ∧ q = q' ∧ r = r')) := by unfold eq1 eqO eqT lstI st4; simp only [h, h', hx, hy, intsL_il, tup4]
  rw [this]; rfl
theorem l_len {i : Nat} {xs : List V} (h : σ[i]? = some (.list xs)) : len1 (.obj i) σ = .ok (.int xs.length) σ := by unfold len1; simp only [h]
theorem l_slc {i : Nat} {xs : List V} {y z : Int} (h : σ[i]? = some (.list xs)) (h2 : 0 ≤ y ∧ 0 ≤ z ∧ y ≤ lim ∧ z ≤ lim) : slc1 (.obj i) (.int y) (.int z) σ = .ok (.obj σ.length) (σ ++ [.list ((xs.take z.toNat).drop y.toNat)]) := by unfold slc1; simp only [h]; exact if_pos h2
theorem l_upto {i : Nat} {xs : List V} {z : Int} (h : σ[i]? = some (.list xs)) (h2 : 0 ≤ z ∧ z ≤ lim) : upto1 (.obj i) (.int z) σ = .ok (.obj σ.length) (σ ++ [.list (xs.take z.toNat)]) := by unfold upto1; simp only [h]; exact if_pos h2
theorem l_uptos {i : Nat} {xs : List Int} {ts : List Nat} {z : Int} (h : σ[i]? = some (.scr xs ts)) (h2 : 0 ≤ z ∧ z ≤ lim) : upto1 (.obj i) (.int z) σ = .ok (.obj σ.length) (σ ++ [.list ((il xs).take z.toNat)]) := by unfold upto1; simp only [h]; exact if_pos h2
theorem l_fro {i : Nat} {xs : List V} {z : Int} (h : σ[i]? = some (.list xs)) (h2 : 0 ≤ z ∧ z ≤ lim) : fro1 (.obj i) (.int z) σ = .ok (.obj σ.length) (σ ++ [.list (xs.drop z.toNat)]) := by unfold fro1; simp only [h]; exact if_pos h2
theorem l_rev {i : Nat} {xs : List V} (h : σ[i]? = some (.list xs)) : rev1 (.obj i) σ = .ok (.obj σ.length) (σ ++ [.list xs.reverse]) := by unfold rev1; simp only [h]
theorem l_list {i : Nat} {xs : List V} (h : σ[i]? = some (.list xs)) : list1 (.obj i) σ = .ok (.obj σ.length) (σ ++ [.list xs]) := by unfold list1; simp only [h]
theorem l_listr {i : Nat} {z : Int} (h : σ[i]? = some (.rng z)) (h2 : 0 ≤ z ∧ z ≤ 100000) : list1 (.obj i) σ = .ok (.obj σ.length) (σ ++ [.list (rlist z)]) := by unfold list1; simp only [h]; exact if_pos h2
theorem l_range {z : Int} (h2 : 0 ≤ z ∧ z ≤ 100000) : range1 (.int z) σ = .ok (.obj σ.length) (σ ++ [.rng z]) := by unfold range1; exact if_pos h2
theorem l_sorted {i : Nat} (h : σ[i]? = some (.dict [])) : sorted1 (.obj i) σ = .ok (.obj σ.length) (σ ++ [.list []]) := by unfold sorted1; simp only [h]
theorem l_idx {i : Nat} {xs : List V} {z : Int} {v : V} (h : σ[i]? = some (.list xs)) (h2 : item1 xs z = some v) : idx1 (.obj i) (.int z) σ = .ok v σ := by unfold idx1; simp only [h, h2, bad?]
theorem l_idxt {i : Nat} {xs : List V} {z : Int} {v : V} (h : σ[i]? = some (.tup xs)) (h2 : item1 xs z = some v) : idx1 (.obj i) (.int z) σ = .ok v σ := by unfold idx1; simp only [h, h2, bad?]
theorem l_idxb : idx1 (.glob 175) (.int 0) σ = .ok (.str "boundary") σ := rfl
theorem l_mn {y z : Int} : mn1 (.int y) (.int z) σ = .ok (.int (min y z)) σ := rfl
theorem l_mx {y z : Int} : mx1 (.int y) (.int z) σ = .ok (.int (max y z)) σ := rfl
theorem it0 {v0 : V} {r : List V} : item1 (v0 :: r) 0 = some v0 := rfl
theorem it1 {v0 v1 : V} {r : List V} : item1 (v0 :: v1 :: r) 1 = some v1 := rfl
theorem it2 {v0 v1 v2 : V} {r : List V} : item1 (v0 :: v1 :: v2 :: r) 2 = some v2 := rfl
theorem it3 {v0 v1 v2 v3 : V} {r : List V} : item1 (v0 :: v1 :: v2 :: v3 :: r) 3 = some v3 := rfl
end
section
variable {k : Kst} {a : Sta} {τ τ₁ l : H} {i j : Nat} {o o₁ o₂ o₃ : AO} {m : Fm} {z : Int} {n : Nat} {es : List ME}
theorem len_X : (X k a τ).length = 24 + τ.length := by unfold X; rw [List.length_append]; rfl
theorem app_X : X k a τ ++ l = X k a (τ ++ l) := by unfold X; rw [List.append_assoc]
theorem get_X : (X k a τ)[24 + i]? = τ[i]? := by unfold X; rw [List.getElem?_append_right (by simp [S])]; simp [S]
theorem set_X : (X k a τ).set (24 + i) o = X k a (τ.set i o) := by unfold X; rw [List.set_append_right _ _ (by simp [S])]; simp [S]
theorem len_W : (W k a τ).length = k.q + τ.length := by rw [W_X, len_X, List.length_append, List.length_append, Kst.q, show (U k a.rows).length = 5 from rfl]; omega
theorem app_W : W k a τ ++ l = W k a (τ ++ l) := by unfold W; rw [List.append_assoc, List.append_assoc, List.append_assoc]
theorem get_U : (k.t0 ++ (U k a.rows ++ τ))[k.t0.length + 5 + i]? = τ[i]? := by
  rw [List.getElem?_append_right (by omega), List.getElem?_append_right (by simp [U]; omega)]; congr 1; simp [U]; omega
theorem get_W : (W k a τ)[k.q + i]? = τ[i]? := by rw [W_X, Kst.q, Nat.add_assoc, get_X, get_U]
theorem set_U : (k.t0 ++ (U k a.rows ++ τ)).set (k.t0.length + 5 + i) o = k.t0 ++ (U k a.rows ++ τ.set i o) := by
  rw [List.set_append_right _ _ (by omega), show k.t0.length + 5 + i - k.t0.length = (U k a.rows).length + i by rw [show (U k a.rows).length = 5 from rfl]; omega, List.set_append_right _ _ (by omega), Nat.add_sub_cancel_left]
theorem set_W : (W k a τ).set (k.q + i) o = W k a (τ.set i o) := by rw [W_X, Kst.q, Nat.add_assoc, set_X, set_U, W_X]
theorem t_get : (τ ++ l)[τ.length + i]? = l[i]? := by rw [List.getElem?_append_right (by omega)]; congr 1; omega
theorem t_get0 : (τ ++ l)[τ.length]? = l[0]? := by rw [List.getElem?_append_right (by omega)]; congr 1; omega
theorem t_set : (τ ++ l).set (τ.length + i) o = τ ++ l.set i o := by rw [List.set_append_right _ _ (by omega)]; congr 2; omega
theorem t_set0 : (τ ++ l).set τ.length o = τ ++ l.set 0 o := by rw [List.set_append_right _ _ (by omega)]; congr 2; omega
theorem at_X (h : At 24 τ i o) : (X k a τ)[i]? = some o := by obtain ⟨t, rfl, h⟩ := h; rw [get_X, h]
theorem at_W (h : At k.q τ i o) : (W k a τ)[i]? = some o := by obtain ⟨t, rfl, h⟩ := h; rw [get_W, h]
theorem At.app {b : Nat} (h : At b τ i o) : At b (τ ++ l) i o := by obtain ⟨t, rfl, h⟩ := h; exact ⟨t, rfl, by rw [List.getElem?_append_left (List.getElem?_eq_some_iff.mp h).1, h]⟩
theorem At.pre {b : Nat} (h : At b τ i o) (p : τ <+: τ₁) : At b τ₁ i o := by obtain ⟨l, rfl⟩ := p; exact h.app
theorem at_W' (h : At k.q τ i o) : (W k a (τ ++ l))[i]? = some o := at_W h.app
theorem At.new {b : Nat} : At b (τ ++ [o]) (b + τ.length) o := ⟨τ.length, rfl, t_get0⟩
theorem gU {t : Nat} (h : t < 5) : (W k a τ)[24 + (k.t0.length + t)]? = (U k a.rows)[t]? := by
  rw [W_X, get_X, t_get, List.getElem?_append_left (by simpa [U] using h)]
theorem g1X : (X k a (τ ++ [o]))[24 + τ.length]? = some o := by rw [get_X, t_get0]; rfl
theorem g2X : (X k a (τ ++ [o] ++ [o₁]))[24 + τ.length]? = some o := at_X (At.app At.new)
theorem g1W : (W k a (τ ++ [o]))[k.q + τ.length]? = some o := by rw [get_W, t_get0]; rfl
theorem g2W : (W k a (τ ++ [o] ++ [o₁]))[k.q + τ.length]? = some o := at_W (At.app At.new)
theorem g3W : (W k a (τ ++ [o] ++ [o₁] ++ [o₂]))[k.q + τ.length]? = some o := at_W (At.app (At.app At.new))
theorem aX_text : att1 "text" (.obj 12) (X k a τ) = .ok (.obj 15) (X k a τ) := rfl
theorem aX_markers : att1 "markers" (.obj 12) (X k a τ) = .ok (.obj 21) (X k a τ) := rfl
theorem aX_point : att1 "point" (.obj 12) (X k a τ) = .ok (.int a.point) (X k a τ) := rfl
theorem aX_begv : att1 "begv" (.obj 12) (X k a τ) = .ok (.int a.begv) (X k a τ) := rfl
theorem aX_zv : att1 "zv" (.obj 12) (X k a τ) = .ok (.int a.zv) (X k a τ) := rfl
theorem aX_is_read_only : att1 "is_read_only" (.obj 12) (X k a τ) = .ok (.bool false) (X k a τ) := rfl
theorem aX_ticks : att1 "ticks" (.obj 12) (X k a τ) = .ok (.int a.ticks) (X k a τ) := rfl
theorem aX_listeners : att1 "listeners" (.obj 12) (X k a τ) = .ok (.obj 23) (X k a τ) := rfl
theorem aX_undo : att1 "undo" (.obj 12) (X k a τ) = .ok (a.un) (X k a τ) := rfl
theorem aX_props : att1 "props" (.obj 12) (X k a τ) = .ok (.none) (X k a τ) := rfl
theorem aX_overlays : att1 "overlays" (.obj 12) (X k a τ) = .ok (.none) (X k a τ) := rfl
theorem aX_room : att1 "room" (.obj 15) (X k a τ) = .ok (.int 8) (X k a τ) := rfl
theorem aX_cells : att1 "cells" (.obj 15) (X k a τ) = .ok (.obj 19) (X k a τ) := rfl
theorem aX_gap_start : att1 "gap_start" (.obj 15) (X k a τ) = .ok (.int a.gs) (X k a τ) := rfl
theorem aX_gap_end : att1 "gap_end" (.obj 15) (X k a τ) = .ok (.int a.ge) (X k a τ) := rfl
theorem aX_mrows : att1 "rows" (.obj 21) (X k a τ) = .ok (.obj 22) (X k a τ) := rfl
theorem sX_point : (R.ok (.obj 12) (X k a τ)).bind (satR "point" (.int z) m) = .ok (.next, m) (X k { a with point := z } τ) := rfl
theorem sX_zv : (R.ok (.obj 12) (X k a τ)).bind (satR "zv" (.int z) m) = .ok (.next, m) (X k { a with zv := z } τ) := rfl
theorem sX_ticks : (R.ok (.obj 12) (X k a τ)).bind (satR "ticks" (.int z) m) = .ok (.next, m) (X k { a with ticks := z } τ) := rfl
theorem sX_codes_ticks : (R.ok (.obj 12) (X k a τ)).bind (satR "codes_ticks" (.int z) m) = .ok (.next, m) (X k { a with ct := z } τ) := rfl
theorem sX_gap_start : (R.ok (.obj 15) (X k a τ)).bind (satR "gap_start" (.int z) m) = .ok (.next, m) (X k { a with gs := z } τ) := rfl
theorem sX_gap_end : (R.ok (.obj 15) (X k a τ)).bind (satR "gap_end" (.int z) m) = .ok (.next, m) (X k { a with ge := z } τ) := rfl
theorem gX_7 : (X k a τ)[7]? = some (.list (il a.d0)) := rfl
theorem gX_9 : (X k a τ)[9]? = some (.list (il k.d1)) := rfl
theorem gX_10 : (X k a τ)[10]? = some (.list [.obj 7, .obj 9, .int a.d2]) := rfl
theorem gX_19 : (X k a τ)[19]? = some (.list (il a.cells)) := rfl
theorem gX_22 : (X k a τ)[22]? = some (.dict []) := rfl
theorem gX_23 : (X k a τ)[23]? = some (.list []) := rfl
theorem gX_1 : (X k a τ)[1]? = some (.cell (some (.obj 10))) := rfl
theorem gX_2 : (X k a τ)[2]? = some (.cell (some (.obj 12))) := rfl
theorem pX_7 {xs : List Int} : (X k a τ).set 7 (.list (il xs)) = X k { a with d0 := xs } τ := rfl
theorem pX_10 : (X k a τ).set 10 (.list [.obj 7, .obj 9, .int z]) = X k { a with d2 := z } τ := rfl
theorem pX_19 {xs : List Int} : (X k a τ).set 19 (.list (il xs)) = X k { a with cells := xs } τ := rfl
theorem mX_618_touch : (R.ok (.obj 12) (X k a τ)).bind (metR n m "touch" es) = (evalsI fns mets inits n m es (X k a τ)).bind (kM n 615 12) := rfl
theorem mX_407_move_gap : (R.ok (.obj 15) (X k a τ)).bind (metR n m "move_gap" es) = (evalsI fns mets inits n m es (X k a τ)).bind (kM n 362 15) := rfl
theorem mX_407_widen_gap : (R.ok (.obj 15) (X k a τ)).bind (metR n m "widen_gap" es) = (evalsI fns mets inits n m es (X k a τ)).bind (kM n 369 15) := rfl
theorem mX_407_insert : (R.ok (.obj 15) (X k a τ)).bind (metR n m "insert" es) = (evalsI fns mets inits n m es (X k a τ)).bind (kM n 376 15) := rfl
theorem mX_477_numbers : (R.ok (.obj 21) (X k a τ)).bind (metR n m "numbers" es) = (evalsI fns mets inits n m es (X k a τ)).bind (kM n 432 21) := rfl
theorem mX_477_inserted : (R.ok (.obj 21) (X k a τ)).bind (metR n m "inserted" es) = (evalsI fns mets inits n m es (X k a τ)).bind (kM n 460 21) := rfl
theorem aW_text : att1 "text" (.obj 12) (W k a τ) = .ok (.obj 15) (W k a τ) := rfl
theorem aW_markers : att1 "markers" (.obj 12) (W k a τ) = .ok (.obj 21) (W k a τ) := rfl
theorem aW_point : att1 "point" (.obj 12) (W k a τ) = .ok (.int a.point) (W k a τ) := rfl
theorem aW_begv : att1 "begv" (.obj 12) (W k a τ) = .ok (.int a.begv) (W k a τ) := rfl
theorem aW_zv : att1 "zv" (.obj 12) (W k a τ) = .ok (.int a.zv) (W k a τ) := rfl
theorem aW_is_read_only : att1 "is_read_only" (.obj 12) (W k a τ) = .ok (.bool false) (W k a τ) := rfl
theorem aW_ticks : att1 "ticks" (.obj 12) (W k a τ) = .ok (.int a.ticks) (W k a τ) := rfl
theorem aW_saved_ticks : att1 "saved_ticks" (.obj 12) (W k a τ) = .ok (.int 1) (W k a τ) := rfl
theorem aW_listeners : att1 "listeners" (.obj 12) (W k a τ) = .ok (.obj 23) (W k a τ) := rfl
theorem aW_undo : att1 "undo" (.obj 12) (W k a τ) = .ok (a.un) (W k a τ) := rfl
theorem aW_props : att1 "props" (.obj 12) (W k a τ) = .ok (.none) (W k a τ) := rfl
theorem aW_overlays : att1 "overlays" (.obj 12) (W k a τ) = .ok (.none) (W k a τ) := rfl
theorem aW_cells : att1 "cells" (.obj 15) (W k a τ) = .ok (.obj 19) (W k a τ) := rfl
theorem aW_gap_start : att1 "gap_start" (.obj 15) (W k a τ) = .ok (.int a.gs) (W k a τ) := rfl
theorem aW_gap_end : att1 "gap_end" (.obj 15) (W k a τ) = .ok (.int a.ge) (W k a τ) := rfl
theorem aW_mrows : att1 "rows" (.obj 21) (W k a τ) = .ok (.obj 22) (W k a τ) := rfl
theorem sW_point : (R.ok (.obj 12) (W k a τ)).bind (satR "point" (.int z) m) = .ok (.next, m) (W k { a with point := z } τ) := rfl
theorem sW_zv : (R.ok (.obj 12) (W k a τ)).bind (satR "zv" (.int z) m) = .ok (.next, m) (W k { a with zv := z } τ) := rfl
theorem sW_ticks : (R.ok (.obj 12) (W k a τ)).bind (satR "ticks" (.int z) m) = .ok (.next, m) (W k { a with ticks := z } τ) := rfl
theorem sW_codes_ticks : (R.ok (.obj 12) (W k a τ)).bind (satR "codes_ticks" (.int z) m) = .ok (.next, m) (W k { a with ct := z } τ) := rfl
theorem sW_gap_start : (R.ok (.obj 15) (W k a τ)).bind (satR "gap_start" (.int z) m) = .ok (.next, m) (W k { a with gs := z } τ) := rfl
theorem sW_gap_end : (R.ok (.obj 15) (W k a τ)).bind (satR "gap_end" (.int z) m) = .ok (.next, m) (W k { a with ge := z } τ) := rfl
theorem gW_19 : (W k a τ)[19]? = some (.list (il a.cells)) := rfl
theorem gW_22 : (W k a τ)[22]? = some (.dict []) := rfl
theorem gW_23 : (W k a τ)[23]? = some (.list []) := rfl
theorem gW_1 : (W k a τ)[1]? = some (.cell (some (.obj 10))) := rfl
theorem gW_2 : (W k a τ)[2]? = some (.cell (some (.obj 12))) := rfl
theorem mW_618_size : (R.ok (.obj 12) (W k a τ)).bind (metR n m "size" es) = (evalsI fns mets inits n m es (W k a τ)).bind (kM n 566 12) := rfl
theorem mW_618_codes : (R.ok (.obj 12) (W k a τ)).bind (metR n m "codes" es) = (evalsI fns mets inits n m es (W k a τ)).bind (kM n 580 12) := rfl
theorem mW_618_goto : (R.ok (.obj 12) (W k a τ)).bind (metR n m "goto" es) = (evalsI fns mets inits n m es (W k a τ)).bind (kM n 587 12) := rfl
theorem mW_618_is_modified : (R.ok (.obj 12) (W k a τ)).bind (metR n m "is_modified" es) = (evalsI fns mets inits n m es (W k a τ)).bind (kM n 601 12) := rfl
theorem mW_618_touch : (R.ok (.obj 12) (W k a τ)).bind (metR n m "touch" es) = (evalsI fns mets inits n m es (W k a τ)).bind (kM n 615 12) := rfl
theorem mW_407_size : (R.ok (.obj 15) (W k a τ)).bind (metR n m "size" es) = (evalsI fns mets inits n m es (W k a τ)).bind (kM n 341 15) := rfl
theorem mW_407_codes : (R.ok (.obj 15) (W k a τ)).bind (metR n m "codes" es) = (evalsI fns mets inits n m es (W k a τ)).bind (kM n 355 15) := rfl
theorem mW_407_move_gap : (R.ok (.obj 15) (W k a τ)).bind (metR n m "move_gap" es) = (evalsI fns mets inits n m es (W k a τ)).bind (kM n 362 15) := rfl
theorem mW_407_insert : (R.ok (.obj 15) (W k a τ)).bind (metR n m "insert" es) = (evalsI fns mets inits n m es (W k a τ)).bind (kM n 376 15) := rfl
theorem mW_407_delete : (R.ok (.obj 15) (W k a τ)).bind (metR n m "delete" es) = (evalsI fns mets inits n m es (W k a τ)).bind (kM n 383 15) := rfl
theorem mW_477_numbers : (R.ok (.obj 21) (W k a τ)).bind (metR n m "numbers" es) = (evalsI fns mets inits n m es (W k a τ)).bind (kM n 432 21) := rfl
theorem mW_477_within : (R.ok (.obj 21) (W k a τ)).bind (metR n m "within" es) = (evalsI fns mets inits n m es (W k a τ)).bind (kM n 453 21) := rfl
theorem mW_477_inserted : (R.ok (.obj 21) (W k a τ)).bind (metR n m "inserted" es) = (evalsI fns mets inits n m es (W k a τ)).bind (kM n 460 21) := rfl
theorem mW_477_deleted : (R.ok (.obj 21) (W k a τ)).bind (metR n m "deleted" es) = (evalsI fns mets inits n m es (W k a τ)).bind (kM n 467 21) := rfl
theorem mW_260_is_at_boundary : (R.ok (.obj k.u3) (W k a τ)).bind (metR n m "is_at_boundary" es) = (evalsI fns mets inits n m es (W k a τ)).bind (kM n 203 k.u3) := met_eq (gU (t := 3) (by decide)) (gU (t := 2) (by decide)) rfl rfl
theorem mW_260_boundary : (R.ok (.obj k.u3) (W k a τ)).bind (metR n m "boundary" es) = (evalsI fns mets inits n m es (W k a τ)).bind (kM n 210 k.u3) := met_eq (gU (t := 3) (by decide)) (gU (t := 2) (by decide)) rfl rfl
theorem mW_260_note_state : (R.ok (.obj k.u3) (W k a τ)).bind (metR n m "note_state" es) = (evalsI fns mets inits n m es (W k a τ)).bind (kM n 224 k.u3) := met_eq (gU (t := 3) (by decide)) (gU (t := 2) (by decide)) rfl rfl
theorem mW_260_note_insert : (R.ok (.obj k.u3) (W k a τ)).bind (metR n m "note_insert" es) = (evalsI fns mets inits n m es (W k a τ)).bind (kM n 231 k.u3) := met_eq (gU (t := 3) (by decide)) (gU (t := 2) (by decide)) rfl rfl
theorem mW_260_note_delete : (R.ok (.obj k.u3) (W k a τ)).bind (metR n m "note_delete" es) = (evalsI fns mets inits n m es (W k a τ)).bind (kM n 238 k.u3) := met_eq (gU (t := 3) (by decide)) (gU (t := 2) (by decide)) rfl rfl
theorem mW_691_text_comes : (R.ok (.obj k.u1) (W k a τ)).bind (metR n m "text_comes" es) = (evalsI fns mets inits n m es (W k a τ)).bind (kM n 676 k.u1) := met_eq (gU (t := 1) (by decide)) (gU (t := 0) (by decide)) rfl rfl
theorem mW_691_text_goes : (R.ok (.obj k.u1) (W k a τ)).bind (metR n m "text_goes" es) = (evalsI fns mets inits n m es (W k a τ)).bind (kM n 681 k.u1) := met_eq (gU (t := 1) (by decide)) (gU (t := 0) (by decide)) rfl rfl
theorem aW_list : att1 "list" (.obj k.u1) (W k a τ) = .ok (.obj k.u3) (W k a τ) := att_eq (gU (t := 1) (by decide)) (gU (t := 0) (by decide)) rfl rfl
theorem aW_urows : att1 "rows" (.obj k.u3) (W k a τ) = .ok (.obj k.u4) (W k a τ) := att_eq (gU (t := 3) (by decide)) (gU (t := 2) (by decide)) rfl rfl
theorem aW_uis_on : att1 "is_on" (.obj k.u3) (W k a τ) = .ok (.bool true) (W k a τ) := att_eq (gU (t := 3) (by decide)) (gU (t := 2) (by decide)) rfl rfl
theorem aW_upoint_before : att1 "point_before" (.obj k.u3) (W k a τ) = .ok (.none) (W k a τ) := att_eq (gU (t := 3) (by decide)) (gU (t := 2) (by decide)) rfl rfl
theorem gW_u4 : (W k a τ)[k.u4]? = some (.list a.rows) := gU (t := 4) (by decide)
theorem pW_u4 {xs : List V} : (W k a τ).set k.u4 (.list xs) = W k { a with rows := xs } τ := by
  rw [W_X, Kst.u4, set_X, t_set, List.set_append_left _ _ (by simp [U])]; rfl
end
theorem call_eq {n : Nat} {σ : H} {f : Nat} {d : FD} {vs : List V} {l : List (String × V)} (hf : fns f = some d) (hc : d.cells = []) (hb : bindArgs d.params vs d.dflt = some l) : callI fns mets inits (n + 1) f vs σ = (execsI fns mets inits n ⟨l.reverse, []⟩ d.body σ).bind kRet := by
  rw [callI, hf]
  dsimp only [bad?]
  rw [hb, hc]
  have e1 : (l.filter fun p => !(([] : List String).contains p.1)) = l := List.filter_eq_self.mpr fun _ _ => rfl
  dsimp only
  rw [e1]
  simp only [List.map_nil, List.append_nil, List.mapIdx_nil]
  rfl
section
variable {n : Nat} {σ : H} {v0 v1 v2 v3 v4 v5 v6 : V}
theorem c_48 : callI fns mets inits (n + 1) 48 [v0] σ = (execsI fns mets inits n ⟨[("buffer", v0)], []⟩ F48.body σ).bind kRet := call_eq (d := F48) (l := [("buffer", v0)]) rfl rfl rfl
theorem c_55 : callI fns mets inits (n + 1) 55 [v0, v1, v2] σ = (execsI fns mets inits n ⟨[("end", v2), ("start", v1), ("buffer", v0)], []⟩ F55.body σ).bind kRet := call_eq (d := F55) (l := [("buffer", v0), ("start", v1), ("end", v2)]) rfl rfl rfl
theorem c_62 : callI fns mets inits (n + 1) 62 [v0, v1, v2] σ = (execsI fns mets inits n ⟨[("end", v2), ("start", v1), ("buffer", v0)], []⟩ F62.body σ).bind kRet := call_eq (d := F62) (l := [("buffer", v0), ("start", v1), ("end", v2)]) rfl rfl rfl
theorem c_69 : callI fns mets inits (n + 1) 69 [v0, v1, v2, v3] σ = (execsI fns mets inits n ⟨[("old_length", v3), ("end", v2), ("start", v1), ("buffer", v0)], []⟩ F69.body σ).bind kRet := call_eq (d := F69) (l := [("buffer", v0), ("start", v1), ("end", v2), ("old_length", v3)]) rfl rfl rfl
theorem c_76 : callI fns mets inits (n + 1) 76 [v0, v1, v2] σ = (execsI fns mets inits n ⟨[("end", v2), ("start", v1), ("buffer", v0)], []⟩ F76.body σ).bind kRet := call_eq (d := F76) (l := [("buffer", v0), ("start", v1), ("end", v2)]) rfl rfl rfl
theorem c_83 : callI fns mets inits (n + 1) 83 [v0, v1, v2] σ = (execsI fns mets inits n ⟨[("codes", v2), ("place", v1), ("buffer", v0)], []⟩ F83.body σ).bind kRet := call_eq (d := F83) (l := [("buffer", v0), ("place", v1), ("codes", v2)]) rfl rfl rfl
theorem c_90 : callI fns mets inits (n + 1) 90 [v0, v1, v2] σ = (execsI fns mets inits n ⟨[("end", v2), ("start", v1), ("buffer", v0)], []⟩ F90.body σ).bind kRet := call_eq (d := F90) (l := [("buffer", v0), ("start", v1), ("end", v2)]) rfl rfl rfl
theorem c_97 : callI fns mets inits (n + 1) 97 [v0, v1, v2, v3] σ = (execsI fns mets inits n ⟨[("before_markers", v3), ("many", v2), ("place", v1), ("buffer", v0)], []⟩ F97.body σ).bind kRet := call_eq (d := F97) (l := [("buffer", v0), ("place", v1), ("many", v2), ("before_markers", v3)]) rfl rfl rfl
theorem c_104 : callI fns mets inits (n + 1) 104 [v0, v1, v2, v3, v4] σ = (execsI fns mets inits n ⟨[("is_point_behind", v4), ("before_markers", v3), ("codes", v2), ("place", v1), ("buffer", v0)], []⟩ F104.body σ).bind kRet := call_eq (d := F104) (l := [("buffer", v0), ("place", v1), ("codes", v2), ("before_markers", v3), ("is_point_behind", v4)]) rfl rfl rfl
theorem c_112d : callI fns mets inits (n + 1) 112 [v0, v1] σ = (execsI fns mets inits n ⟨[("before_markers", .bool false), ("codes", v1), ("buffer", v0)], []⟩ F112.body σ).bind kRet := call_eq (d := F112) (l := [("buffer", v0), ("codes", v1), ("before_markers", .bool false)]) rfl rfl rfl
theorem c_119 : callI fns mets inits (n + 1) 119 [v0, v1, v2] σ = (execsI fns mets inits n ⟨[("end", v2), ("start", v1), ("buffer", v0)], []⟩ F119.body σ).bind kRet := call_eq (d := F119) (l := [("buffer", v0), ("start", v1), ("end", v2)]) rfl rfl rfl
theorem c_162 : callI fns mets inits (n + 1) 162 [v0, v1] σ = (execsI fns mets inits n ⟨[("piece", v1), ("buffer", v0)], [("start", σ.length)]⟩ F162.body (σ ++ [.cell none])).bind kRet := by rfl
theorem c_189 : callI fns mets inits (n + 1) 189 [v0] σ = (execsI fns mets inits n ⟨[("self", v0)], []⟩ F189.body σ).bind kRet := call_eq (d := F189) (l := [("self", v0)]) rfl rfl rfl
theorem c_203 : callI fns mets inits (n + 1) 203 [v0] σ = (execsI fns mets inits n ⟨[("self", v0)], []⟩ F203.body σ).bind kRet := call_eq (d := F203) (l := [("self", v0)]) rfl rfl rfl
theorem c_210 : callI fns mets inits (n + 1) 210 [v0] σ = (execsI fns mets inits n ⟨[("self", v0)], []⟩ F210.body σ).bind kRet := call_eq (d := F210) (l := [("self", v0)]) rfl rfl rfl
theorem c_224 : callI fns mets inits (n + 1) 224 [v0, v1, v2] σ = (execsI fns mets inits n ⟨[("tick", v2), ("is_modified", v1), ("self", v0)], []⟩ F224.body σ).bind kRet := call_eq (d := F224) (l := [("self", v0), ("is_modified", v1), ("tick", v2)]) rfl rfl rfl
theorem c_231 : callI fns mets inits (n + 1) 231 [v0, v1, v2, v3, v4, v5] σ = (execsI fns mets inits n ⟨[("tick", v5), ("is_modified", v4), ("point", v3), ("many", v2), ("start", v1), ("self", v0)], []⟩ F231.body σ).bind kRet := call_eq (d := F231) (l := [("self", v0), ("start", v1), ("many", v2), ("point", v3), ("is_modified", v4), ("tick", v5)]) rfl rfl rfl
theorem c_238 : callI fns mets inits (n + 1) 238 [v0, v1, v2, v3, v4, v5, v6] σ = (execsI fns mets inits n ⟨[("tick", v6), ("is_modified", v5), ("markers", v4), ("point", v3), ("piece", v2), ("start", v1), ("self", v0)], []⟩ F238.body σ).bind kRet := call_eq (d := F238) (l := [("self", v0), ("start", v1), ("piece", v2), ("point", v3), ("markers", v4), ("is_modified", v5), ("tick", v6)]) rfl rfl rfl
theorem c_278 : callI fns mets inits (n + 1) 278 [v0, v1, v2] σ = (execsI fns mets inits n ⟨[("end", v2), ("start", v1), ("buffer", v0)], []⟩ F278.body σ).bind kRet := call_eq (d := F278) (l := [("buffer", v0), ("start", v1), ("end", v2)]) rfl rfl rfl
theorem c_285 : callI fns mets inits (n + 1) 285 [v0, v1] σ = (execsI fns mets inits n ⟨[("at", v1), ("rows", v0)], []⟩ F285.body σ).bind kRet := call_eq (d := F285) (l := [("rows", v0), ("at", v1)]) rfl rfl rfl
theorem c_292 : callI fns mets inits (n + 1) 292 [v0, v1] σ = (execsI fns mets inits n ⟨[("row", v1), ("buffer", v0)], []⟩ F292.body σ).bind kRet := call_eq (d := F292) (l := [("buffer", v0), ("row", v1)]) rfl rfl rfl
theorem c_299 : callI fns mets inits (n + 1) 299 [v0, v1, v2] σ = (execsI fns mets inits n ⟨[("marker_rows", v2), ("row", v1), ("buffer", v0)], []⟩ F299.body σ).bind kRet := call_eq (d := F299) (l := [("buffer", v0), ("row", v1), ("marker_rows", v2)]) rfl rfl rfl
theorem c_306 : callI fns mets inits (n + 1) 306 [v0, v1, v2] σ = (execsI fns mets inits n ⟨[("at", v2), ("rows", v1), ("buffer", v0)], []⟩ F306.body σ).bind kRet := call_eq (d := F306) (l := [("buffer", v0), ("rows", v1), ("at", v2)]) rfl rfl rfl
theorem c_313 : callI fns mets inits (n + 1) 313 [v0, v1] σ = (execsI fns mets inits n ⟨[("at", v1), ("rows", v0)], []⟩ F313.body σ).bind kRet := call_eq (d := F313) (l := [("rows", v0), ("at", v1)]) rfl rfl rfl
theorem c_320 : callI fns mets inits (n + 1) 320 [v0, v1, v2] σ = (execsI fns mets inits n ⟨[("at", v2), ("rows", v1), ("buffer", v0)], []⟩ F320.body σ).bind kRet := call_eq (d := F320) (l := [("buffer", v0), ("rows", v1), ("at", v2)]) rfl rfl rfl
theorem c_341 : callI fns mets inits (n + 1) 341 [v0] σ = (execsI fns mets inits n ⟨[("self", v0)], []⟩ F341.body σ).bind kRet := call_eq (d := F341) (l := [("self", v0)]) rfl rfl rfl
theorem c_355 : callI fns mets inits (n + 1) 355 [v0, v1, v2] σ = (execsI fns mets inits n ⟨[("end", v2), ("start", v1), ("self", v0)], []⟩ F355.body σ).bind kRet := call_eq (d := F355) (l := [("self", v0), ("start", v1), ("end", v2)]) rfl rfl rfl
theorem c_362 : callI fns mets inits (n + 1) 362 [v0, v1] σ = (execsI fns mets inits n ⟨[("at", v1), ("self", v0)], []⟩ F362.body σ).bind kRet := call_eq (d := F362) (l := [("self", v0), ("at", v1)]) rfl rfl rfl
theorem c_369 : callI fns mets inits (n + 1) 369 [v0, v1] σ = (execsI fns mets inits n ⟨[("wanted", v1), ("self", v0)], []⟩ F369.body σ).bind kRet := call_eq (d := F369) (l := [("self", v0), ("wanted", v1)]) rfl rfl rfl
theorem c_376 : callI fns mets inits (n + 1) 376 [v0, v1, v2] σ = (execsI fns mets inits n ⟨[("codes", v2), ("at", v1), ("self", v0)], []⟩ F376.body σ).bind kRet := call_eq (d := F376) (l := [("self", v0), ("at", v1), ("codes", v2)]) rfl rfl rfl
theorem c_383 : callI fns mets inits (n + 1) 383 [v0, v1, v2] σ = (execsI fns mets inits n ⟨[("end", v2), ("start", v1), ("self", v0)], []⟩ F383.body σ).bind kRet := call_eq (d := F383) (l := [("self", v0), ("start", v1), ("end", v2)]) rfl rfl rfl
theorem c_432 : callI fns mets inits (n + 1) 432 [v0] σ = (execsI fns mets inits n ⟨[("self", v0)], []⟩ F432.body σ).bind kRet := call_eq (d := F432) (l := [("self", v0)]) rfl rfl rfl
theorem c_453 : callI fns mets inits (n + 1) 453 [v0, v1, v2] σ = (execsI fns mets inits n ⟨[("end", v2), ("start", v1), ("self", v0)], []⟩ F453.body σ).bind kRet := call_eq (d := F453) (l := [("self", v0), ("start", v1), ("end", v2)]) rfl rfl rfl
theorem c_460 : callI fns mets inits (n + 1) 460 [v0, v1, v2, v3] σ = (execsI fns mets inits n ⟨[("is_before", v3), ("end", v2), ("start", v1), ("self", v0)], []⟩ F460.body σ).bind kRet := call_eq (d := F460) (l := [("self", v0), ("start", v1), ("end", v2), ("is_before", v3)]) rfl rfl rfl
theorem c_467 : callI fns mets inits (n + 1) 467 [v0, v1, v2] σ = (execsI fns mets inits n ⟨[("end", v2), ("start", v1), ("self", v0)], []⟩ F467.body σ).bind kRet := call_eq (d := F467) (l := [("self", v0), ("start", v1), ("end", v2)]) rfl rfl rfl
theorem c_566 : callI fns mets inits (n + 1) 566 [v0] σ = (execsI fns mets inits n ⟨[("self", v0)], []⟩ F566.body σ).bind kRet := call_eq (d := F566) (l := [("self", v0)]) rfl rfl rfl
theorem c_580 : callI fns mets inits (n + 1) 580 [v0, v1, v2] σ = (execsI fns mets inits n ⟨[("end", v2), ("start", v1), ("self", v0)], []⟩ F580.body σ).bind kRet := call_eq (d := F580) (l := [("self", v0), ("start", v1), ("end", v2)]) rfl rfl rfl
theorem c_587 : callI fns mets inits (n + 1) 587 [v0, v1] σ = (execsI fns mets inits n ⟨[("place", v1), ("self", v0)], []⟩ F587.body σ).bind kRet := call_eq (d := F587) (l := [("self", v0), ("place", v1)]) rfl rfl rfl
theorem c_601 : callI fns mets inits (n + 1) 601 [v0] σ = (execsI fns mets inits n ⟨[("self", v0)], []⟩ F601.body σ).bind kRet := call_eq (d := F601) (l := [("self", v0)]) rfl rfl rfl
theorem c_615 : callI fns mets inits (n + 1) 615 [v0, v1] σ = (execsI fns mets inits n ⟨[("are_codes", v1), ("self", v0)], []⟩ F615.body σ).bind kRet := call_eq (d := F615) (l := [("self", v0), ("are_codes", v1)]) rfl rfl rfl
theorem c_627 : callI fns mets inits (n + 1) 627 [v0, v1, v2] σ = (execsI fns mets inits n ⟨[("end", v2), ("start", v1), ("buffer", v0)], []⟩ F627.body σ).bind kRet := call_eq (d := F627) (l := [("buffer", v0), ("start", v1), ("end", v2)]) rfl rfl rfl
theorem c_634 : callI fns mets inits (n + 1) 634 [v0] σ = (execsI fns mets inits n ⟨[("buffer", v0)], []⟩ F634.body σ).bind kRet := call_eq (d := F634) (l := [("buffer", v0)]) rfl rfl rfl
theorem c_648 : callI fns mets inits (n + 1) 648 [v0, v1, v2] σ = (execsI fns mets inits n ⟨[("runs", v2), ("codes", v1), ("self", v0)], []⟩ F648.body σ).bind kRet := call_eq (d := F648) (l := [("self", v0), ("codes", v1), ("runs", v2)]) rfl rfl rfl
theorem c_669 : callI fns mets inits (n + 1) 669 [v0] σ = (execsI fns mets inits n ⟨[("self", v0)], []⟩ F669.body σ).bind kRet := call_eq (d := F669) (l := [("self", v0)]) rfl rfl rfl
theorem c_676 : callI fns mets inits (n + 1) 676 [v0, v1, v2, v3] σ = (execsI fns mets inits n ⟨[("many", v3), ("start", v2), ("buffer", v1), ("self", v0)], []⟩ F676.body σ).bind kRet := call_eq (d := F676) (l := [("self", v0), ("buffer", v1), ("start", v2), ("many", v3)]) rfl rfl rfl
theorem c_681 : callI fns mets inits (n + 1) 681 [v0, v1, v2, v3] σ = (execsI fns mets inits n ⟨[("end", v3), ("buffer", v1), ("self", v0)], [("start", σ.length)]⟩ F681.body (σ ++ [.cell (some v2)])).bind kRet := by rfl
theorem c_700 : callI fns mets inits (n + 1) 700 [v0] σ = (execsI fns mets inits n ⟨[("script", v0)], []⟩ F700.body σ).bind kRet := call_eq (d := F700) (l := [("script", v0)]) rfl rfl rfl
theorem c_707 : callI fns mets inits (n + 1) 707 [v0, v1] σ = (execsI fns mets inits n ⟨[("many", v1), ("deck", v0)], []⟩ F707.body σ).bind kRet := call_eq (d := F707) (l := [("deck", v0), ("many", v1)]) rfl rfl rfl
theorem c_714 : callI fns mets inits (n + 1) 714 [v0, v1, v2] σ = (execsI fns mets inits n ⟨[("fresh", v2), ("buffer", v1), ("deck", v0)], []⟩ F714.body σ).bind kRet := call_eq (d := F714) (l := [("deck", v0), ("buffer", v1), ("fresh", v2)]) rfl rfl rfl
theorem c_721 : callI fns mets inits (n + 1) 721 [v0] σ = (execsI fns mets inits n ⟨[("buffer", v0)], []⟩ F721.body σ).bind kRet := call_eq (d := F721) (l := [("buffer", v0)]) rfl rfl rfl
theorem c_728 : callI fns mets inits (n + 1) 728 [v0, v1] σ = (execsI fns mets inits n ⟨[("change", v1), ("text", v0)], []⟩ F728.body σ).bind kRet := call_eq (d := F728) (l := [("text", v0), ("change", v1)]) rfl rfl rfl
end
theorem aX_u {k : Kst} {a : Sta} {τ : H} {v : V} (hu : a.un = v) : att1 "undo" (.obj 12) (X k a τ) = .ok v (X k a τ) := by rw [aX_undo, hu]
theorem aW_u {k : Kst} {a : Sta} {τ : H} {v : V} (hu : a.un = v) : att1 "undo" (.obj 12) (W k a τ) = .ok v (W k a τ) := by rw [aW_undo, hu]
end Mine.I

namespace Mine.I
theorem il_take {l : List Int} {n : Nat} : (il l).take n = il (l.take n) := List.map_take.symm
theorem il_drop {l : List Int} {n : Nat} : (il l).drop n = il (l.drop n) := List.map_drop.symm
theorem il_app {l r : List Int} : il l ++ il r = il (l ++ r) := List.map_append.symm
theorem il_len {l : List Int} : (il l).length = l.length := List.length_map _
theorem il_rep {n : Nat} : List.replicate n (V.int 0) = il (List.replicate n 0) := by rw [il, List.map_replicate]
/-- the gap's own: what stands ahead of it, in it, behind it -/
noncomputable def Gx (a : Sta) (T : List Int) (N : Nat) : Prop := ∃ L M R : List Int, a.cells = L ++ (M ++ R) ∧ a.gs = L.length ∧ a.ge = L.length + M.length ∧ T = L ++ R ∧ a.cells.length ≤ N
theorem Gx.len {a : Sta} {T : List Int} {N : Nat} (h : Gx a T N) : T.length ≤ N := by
  obtain ⟨L, M, R, h1, h2, h3, rfl, h5⟩ := h
  rw [h1] at h5; simp at h5 ⊢; omega
/-- a new thing in the tail -/
noncomputable def Nw (b : Nat) (τ τ' : H) (i : Nat) (o : AO) : Prop := At b τ' i o ∧ b + τ.length ≤ i
theorem Nw.W {k : Kst} {a : Sta} {τ τ' : H} {i : Nat} {o : AO} (h : Nw 24 (k.t0 ++ (U k a.rows ++ τ)) (k.t0 ++ (U k a.rows ++ τ')) i o) : Nw k.q τ τ' i o := by
  obtain ⟨⟨t, rfl, h⟩, h2⟩ := h
  rw [List.length_append, List.length_append, show (U k a.rows).length = 5 from rfl] at h2
  have e : t = k.t0.length + 5 + (t - (k.t0.length + 5)) := by omega
  rw [e, get_U] at h
  refine ⟨⟨_, ?_, h⟩, ?_⟩
  · rw [Kst.q]; omega
  · rw [Kst.q]; omega
theorem pf {α : Type} {l r : List α} : l <+: l ++ r := List.prefix_append ..
theorem pr {α : Type} {l : List α} : l <+: l := List.prefix_refl _
section
variable {k : Kst} {a : Sta} {τ : H} {n : Nat} {F : H → Prop} {T : List Int} {N : Nat} {Q : V → H → Prop}
variable {z s e p : Int} {v v₁ v₂ v₃ : V}
theorem L615X : callI fns mets inits (n + 20) 615 [.obj 12, .bool true] (X k a τ) = .ok .none (X k { a with ticks := a.ticks + 1, ct := a.ticks + 1 } τ) := by
  simp only [c_615, F615, e_int, okV_, e_loc, k1_, e_att, k2_, k3_, e_bin, kX_n, kRet_n, x_nil, x_cons, kS_, s_sat, brS_t, k49_, s_ife, b_add, aX_ticks, sX_ticks, sX_codes_ticks, List.lookup_cons, String.reduceBEq]
theorem L48X : callI fns mets inits (n + 20) 48 [.obj 12] (X k a τ) = .ok .none (X k a τ) := by
  simp only [c_48, F48, okV_, e_loc, k1_, e_att, kX_n, kRet_n, x_nil, x_cons, brS_f, k49_, s_ife, aX_is_read_only, List.lookup_cons, String.reduceBEq]
theorem L55X (h1 : a.begv ≤ s) (h2 : s ≤ e) (h3 : e ≤ a.zv) : callI fns mets inits (n + 20) 55 [.obj 12, .int s, .int e] (X k a τ) = .ok (.obj (24 + τ.length)) (X k a (τ ++ [.tup [.int s, .int e]])) := by
  have e1 : min s e = s := by omega
  have e2 : max s e = e := by omega
  have e3 : ¬ s < a.begv := by omega
  have e4 : ¬ a.zv < e := by omega
  simp only [c_55, F55, okV_, e_loc, okB_, k1_, e_att, k4_, k5_, e_cmp, brO_f, k11_, e_or2, kT2, e_tup, k31_, k32_, e_mn, k33_, k34_, e_mx, es_nil, kE2_, kE1_, es_cons, kX_n, kX_r, kRet_r, x_nil, x_cons, k38_, k39_, s_par, k48_, s_ret, brS_f, k49_, s_ife, c_lt, c_gt, l_mn, l_mx, aX_begv, aX_zv, len_X, app_X, List.lookup_cons, String.reduceBEq, decide_false, e1, e2, e3, e4]
theorem L62X : callI fns mets inits (n + 20) 62 [.obj 12, v, v₁] (X k a τ) = .ok .none (X k a (τ ++ [.list []] ++ [.gone])) := by
  simp only [c_62, F62, okV_, e_loc, k1_, e_att, k29_, e_list, kX_n, kRet_n, x_nil, x_cons, s_for, aX_listeners, len_X, app_X, l_list gX_23, kF_empty g1X, List.lookup_cons, String.reduceBEq]
theorem L69X : callI fns mets inits (n + 40) 69 [.obj 12, v, v₁, v₂] (X k a τ) = .ok .none (X k { a with ticks := a.ticks + 1, ct := a.ticks + 1 } (τ ++ [.list []] ++ [.gone])) := by
  simp only [c_69, F69, e_boo, okV_, e_loc, k1_, e_att, kM_, e_met, k29_, e_list, es_nil, kE2_, kE1_, es_cons, kX_n, kRet_n, x_nil, x_cons, k47_, s_exp, s_for, aX_listeners, mX_618_touch, len_X, app_X, l_list gX_23, kF_empty g1X, List.lookup_cons, String.reduceBEq, L615X]
theorem L97X : callI fns mets inits (n + 20) 97 [.obj 12, v, v₁, v₂] (X k a τ) = .ok .none (X k a τ) := by
  simp only [c_97, F97, okV_, e_loc, k1_, e_att, k9_, e_isnn, kX_n, kRet_n, x_nil, x_cons, brS_f, k49_, s_ife, aX_props, aX_overlays, List.lookup_cons, String.reduceBEq, decide_true, Bool.not_true]
theorem L432X : callI fns mets inits (n + 20) 432 [.obj 21] (X k a τ) = .ok (.obj (24 + τ.length)) (X k a (τ ++ [.list []])) := by
  simp only [c_432, F432, okV_, e_loc, k1_, e_att, k30_, e_sorted, kX_r, kRet_r, x_cons, k48_, s_ret, aX_mrows, len_X, app_X, l_sorted gX_22, List.lookup_cons, String.reduceBEq]
theorem L460X : callI fns mets inits (n + 40) 460 [.obj 21, v, v₁, v₂] (X k a τ) = .ok .none (X k a (τ ++ [.list []] ++ [.gone])) := by
  simp only [c_460, F460, okV_, e_loc, kM_, e_met, es_nil, kX_n, kRet_n, x_nil, x_cons, s_for, mX_477_numbers, app_X, kF_empty g1X, List.lookup_cons, String.reduceBEq, L432X]
theorem L341W (h : Gx a T N) : callI fns mets inits (n + 20) 341 [.obj 15] (W k a τ) = .ok (.int T.length) (W k a τ) := by
  obtain ⟨L, M, R, h1, h2, h3, rfl, h5⟩ := h
  simp only [c_341, F341, okV_, e_loc, k1_, e_att, k2_, k3_, e_bin, k26_, e_len, kX_r, kRet_r, x_cons, k48_, s_ret, b_add, b_sub, aW_cells, aW_gap_start, aW_gap_end, l_len gW_19, List.lookup_cons, String.reduceBEq]
  rw [h1, h2, h3]
  simp
  omega
theorem L566W (h : Gx a T N) : callI fns mets inits (n + 30) 566 [.obj 12] (W k a τ) = .ok (.int T.length) (W k a τ) := by
  simp only [c_566, F566, okV_, e_loc, k1_, e_att, kM_, e_met, es_nil, kX_r, kRet_r, x_cons, k48_, s_ret, aW_text, mW_407_size, List.lookup_cons, String.reduceBEq, L341W h]
theorem L587W : callI fns mets inits (n + 20) 587 [.obj 12, .int z] (W k a τ) = .ok (.int (min (max z a.begv) a.zv)) (W k { a with point := min (max z a.begv) a.zv } τ) := by
  simp only [c_587, F587, okV_, e_loc, k1_, e_att, k31_, k32_, e_mn, k33_, k34_, e_mx, kX_n, kX_r, kRet_r, x_cons, kS_, s_sat, k48_, s_ret, l_mn, l_mx, aW_point, aW_begv, aW_zv, sW_point, List.lookup_cons, String.reduceBEq]
theorem L601W : callI fns mets inits (n + 20) 601 [.obj 12] (W k a τ) = .ok (.bool (decide (1 < a.ticks))) (W k a τ) := by
  simp only [c_601, F601, okV_, e_loc, okB_, k1_, e_att, k4_, k5_, e_cmp, kX_r, kRet_r, x_cons, k48_, s_ret, c_lt, aW_ticks, aW_saved_ticks, List.lookup_cons, String.reduceBEq]
theorem L615W : callI fns mets inits (n + 20) 615 [.obj 12, .bool true] (W k a τ) = .ok .none (W k { a with ticks := a.ticks + 1, ct := a.ticks + 1 } τ) := by
  simp only [c_615, F615, e_int, okV_, e_loc, k1_, e_att, k2_, k3_, e_bin, kX_n, kRet_n, x_nil, x_cons, kS_, s_sat, brS_t, k49_, s_ife, b_add, aW_ticks, sW_ticks, sW_codes_ticks, List.lookup_cons, String.reduceBEq]
theorem L48W : callI fns mets inits (n + 20) 48 [.obj 12] (W k a τ) = .ok .none (W k a τ) := by
  simp only [c_48, F48, okV_, e_loc, k1_, e_att, kX_n, kRet_n, x_nil, x_cons, brS_f, k49_, s_ife, aW_is_read_only, List.lookup_cons, String.reduceBEq]
theorem L55W (h1 : a.begv ≤ s) (h2 : s ≤ e) (h3 : e ≤ a.zv) : callI fns mets inits (n + 20) 55 [.obj 12, .int s, .int e] (W k a τ) = .ok (.obj (k.q + τ.length)) (W k a (τ ++ [.tup [.int s, .int e]])) := by
  have e1 : min s e = s := by omega
  have e2 : max s e = e := by omega
  have e3 : ¬ s < a.begv := by omega
  have e4 : ¬ a.zv < e := by omega
  simp only [c_55, F55, okV_, e_loc, okB_, k1_, e_att, k4_, k5_, e_cmp, brO_f, k11_, e_or2, kT2, e_tup, k31_, k32_, e_mn, k33_, k34_, e_mx, es_nil, kE2_, kE1_, es_cons, kX_n, kX_r, kRet_r, x_nil, x_cons, k38_, k39_, s_par, k48_, s_ret, brS_f, k49_, s_ife, c_lt, c_gt, l_mn, l_mx, aW_begv, aW_zv, len_W, app_W, List.lookup_cons, String.reduceBEq, decide_false, e1, e2, e3, e4]
theorem L62W : callI fns mets inits (n + 20) 62 [.obj 12, v, v₁] (W k a τ) = .ok .none (W k a (τ ++ [.list []] ++ [.gone])) := by
  simp only [c_62, F62, okV_, e_loc, k1_, e_att, k29_, e_list, kX_n, kRet_n, x_nil, x_cons, s_for, aW_listeners, len_W, app_W, l_list gW_23, kF_empty g1W, List.lookup_cons, String.reduceBEq]
theorem L69W : callI fns mets inits (n + 40) 69 [.obj 12, v, v₁, v₂] (W k a τ) = .ok .none (W k { a with ticks := a.ticks + 1, ct := a.ticks + 1 } (τ ++ [.list []] ++ [.gone])) := by
  simp only [c_69, F69, e_boo, okV_, e_loc, k1_, e_att, kM_, e_met, k29_, e_list, es_nil, kE2_, kE1_, es_cons, kX_n, kRet_n, x_nil, x_cons, k47_, s_exp, s_for, aW_listeners, mW_618_touch, len_W, app_W, l_list gW_23, kF_empty g1W, List.lookup_cons, String.reduceBEq, L615W]
theorem L90W : callI fns mets inits (n + 20) 90 [.obj 12, v, v₁] (W k a τ) = .ok .none (W k a τ) := by
  simp only [c_90, F90, okV_, e_loc, k1_, e_att, k9_, e_isnn, kX_n, kRet_n, x_nil, x_cons, brS_f, k49_, s_ife, aW_props, aW_overlays, List.lookup_cons, String.reduceBEq, decide_true, Bool.not_true]
theorem L97W : callI fns mets inits (n + 20) 97 [.obj 12, v, v₁, v₂] (W k a τ) = .ok .none (W k a τ) := by
  simp only [c_97, F97, okV_, e_loc, k1_, e_att, k9_, e_isnn, kX_n, kRet_n, x_nil, x_cons, brS_f, k49_, s_ife, aW_props, aW_overlays, List.lookup_cons, String.reduceBEq, decide_true, Bool.not_true]
theorem L432W : callI fns mets inits (n + 20) 432 [.obj 21] (W k a τ) = .ok (.obj (k.q + τ.length)) (W k a (τ ++ [.list []])) := by
  simp only [c_432, F432, okV_, e_loc, k1_, e_att, k30_, e_sorted, kX_r, kRet_r, x_cons, k48_, s_ret, aW_mrows, len_W, app_W, l_sorted gW_22, List.lookup_cons, String.reduceBEq]
theorem L453W : callI fns mets inits (n + 40) 453 [.obj 21, v, v₁] (W k a τ) = .ok (.obj (k.q + τ.length)) (W k a (τ ++ [.list []] ++ [.list []] ++ [.gone])) := by
  simp only [c_453, F453, okV_, e_loc, kL0, e_lst, kM_, e_met, es_nil, kX_n, kX_r, kRet_r, x_cons, k35_, s_set, k48_, s_ret, s_for, mW_477_numbers, len_W, app_W, kF_empty g1W, List.lookup_cons, String.reduceBEq, L432W]
theorem L460W : callI fns mets inits (n + 40) 460 [.obj 21, v, v₁, v₂] (W k a τ) = .ok .none (W k a (τ ++ [.list []] ++ [.gone])) := by
  simp only [c_460, F460, okV_, e_loc, kM_, e_met, es_nil, kX_n, kRet_n, x_nil, x_cons, s_for, mW_477_numbers, app_W, kF_empty g1W, List.lookup_cons, String.reduceBEq, L432W]
theorem L467W : callI fns mets inits (n + 40) 467 [.obj 21, v, v₁] (W k a τ) = .ok .none (W k a (τ ++ [.list []] ++ [.gone])) := by
  simp only [c_467, F467, okV_, e_loc, kM_, e_met, es_nil, kX_n, kRet_n, x_nil, x_cons, s_for, mW_477_numbers, app_W, kF_empty g1W, List.lookup_cons, String.reduceBEq, L432W]
end
end Mine.I

namespace Mine.I
theorem cut1 {L X : List Int} {s e : Nat} (h : e ≤ L.length) : ((L ++ X).take e).drop s = (L.take e).drop s := by
  rw [List.take_append_of_le_length h]
theorem cut2 {L M R : List Int} {s e : Nat} : ((L ++ (M ++ R)).take (L.length + (M.length + e))).drop (L.length + (M.length + s)) = ((L ++ R).take (L.length + e)).drop (L.length + s) := by
  rw [List.take_length_add_append, List.take_length_add_append, List.drop_length_add_append, List.drop_length_add_append, List.take_length_add_append, List.drop_length_add_append]
theorem cut3 {L M R : List Int} {s e : Nat} (h : s ≤ L.length) : ((L ++ (M ++ R)).take L.length).drop s ++ ((L ++ (M ++ R)).take (L.length + (M.length + e))).drop (L.length + M.length) = ((L ++ R).take (L.length + e)).drop s := by
  rw [List.take_left, List.take_length_add_append, List.take_length_add_append, List.take_length_add_append, List.drop_length_add_append, List.drop_left, List.drop_append_of_le_length h]
theorem mv1 {A B M R : List Int} : (A ++ B ++ (M ++ R)).take (A.length + M.length) ++ B ++ (A ++ B ++ (M ++ R)).drop (A.length + B.length + M.length) = A ++ ((B ++ M).take M.length ++ (B ++ R)) := by
  rw [show A.length + B.length + M.length = (A ++ B).length + M.length by rw [List.length_append], List.drop_length_add_append, List.drop_left, List.append_assoc A, List.take_length_add_append, ← List.append_assoc B M R, List.take_append_of_le_length (by rw [List.length_append]; lia)]
  simp only [List.append_assoc]
theorem mvd1 {A B X : List Int} : ((A ++ B ++ X).take (A.length + B.length)).drop A.length = B := by
  rw [← List.length_append, List.take_left, List.drop_left]
theorem mv2 {L M C D : List Int} : (L ++ (M ++ (C ++ D))).take L.length ++ C ++ (L ++ (M ++ (C ++ D))).drop (L.length + C.length) = (L ++ C) ++ ((M ++ C).drop C.length ++ D) := by
  rw [List.take_left, List.drop_length_add_append, ← List.append_assoc M C D, List.drop_append_of_le_length (by rw [List.length_append]; lia)]
theorem mvd2 {L M C D : List Int} : ((L ++ (M ++ (C ++ D))).take (L.length + (M.length + C.length))).drop (L.length + M.length) = C := by
  rw [List.take_length_add_append, List.take_length_add_append, List.take_left, List.drop_length_add_append, List.drop_left]
theorem lim_eq : lim = 1099511627776 := rfl
theorem Nw.new {b : Nat} {τ : H} {o : AO} : Nw b τ (τ ++ [o]) (b + τ.length) o := ⟨At.new, Nat.le_refl _⟩
theorem Nw.mono {b : Nat} {τ τ₁ τ₂ : H} {i : Nat} {o : AO} (h : Nw b τ₁ τ₂ i o) (p : τ <+: τ₁) : Nw b τ τ₂ i o := ⟨h.1, Nat.le_trans (Nat.add_le_add_left p.length_le b) h.2⟩
theorem Nw.pre {b : Nat} {τ τ₁ τ₂ : H} {i : Nat} {o : AO} (h : Nw b τ τ₁ i o) (p : τ₁ <+: τ₂) : Nw b τ τ₂ i o := ⟨h.1.pre p, h.2⟩
theorem At.toX {k : Kst} {r : List V} {τ : H} {i : Nat} {o : AO} (h : At k.q τ i o) : At 24 (k.t0 ++ (U k r ++ τ)) i o := by
  obtain ⟨t, rfl, h⟩ := h
  refine ⟨k.t0.length + 5 + t, by rw [Kst.q]; lia, ?_⟩
  rw [List.getElem?_append_right (by lia), List.getElem?_append_right (by rw [show (U k r).length = 5 from rfl]; lia), ← h]
  congr 1; rw [show (U k r).length = 5 from rfl]; lia
theorem pre2 {α : Type} {l : List α} {a b : α} : l <+: l ++ [a] ++ [b] := by rw [List.append_assoc]; exact pf
theorem pre3 {α : Type} {l : List α} {a b c : α} : l <+: l ++ [a] ++ [b] ++ [c] := pre2.trans pf
theorem pre4 {α : Type} {l : List α} {a b c d : α} : l <+: l ++ [a] ++ [b] ++ [c] ++ [d] := pre3.trans pf
/-- the gap's own, for arithmetic: lengths -/
theorem gl {a : Sta} {L M R : List Int} {N : Nat} (h : a.cells = L ++ (M ++ R)) (h' : a.cells.length ≤ N) : L.length + (M.length + R.length) ≤ N := by
  rw [h, List.length_append, List.length_append] at h'; exact h'
theorem in_lim {s e : Int} {n N : Nat} (h0 : 0 ≤ s) (h1 : s ≤ e) (h2 : e ≤ n) (h3 : n ≤ N) (hN : N ≤ 10000) : 0 ≤ s ∧ 0 ≤ e ∧ s ≤ lim ∧ e ≤ lim := by rw [lim_eq]; lia
section
variable {k : Kst} {a : Sta} {τ : H} {n : Nat} {F : H → Prop} {T C : List Int} {N i : Nat} {Q : V → H → Prop} {z s e p t : Int} {v v₁ v₂ v₃ : V} {L M R A B : List Int}
theorem il_cut {xs : List Int} {s e : Nat} : (il ((xs.take e).drop s)).length ≤ e := by rw [il_len, List.length_drop]; exact Nat.le_trans (Nat.sub_le _ _) (List.length_take_le ..)
theorem ne19 {t : Nat} : (19 : Nat) ≠ 24 + t := by lia
theorem L355a (q1 : a.cells = L ++ (M ++ R)) (hgs : a.gs = L.length) (hge : a.ge = L.length + M.length) (h0 : 0 ≤ s) (h1 : s ≤ e) (h2 : e ≤ ((L ++ R).length : Int)) (hN : L.length + (M.length + R.length) ≤ 10000)
    (kk : ∀ r τ', τ <+: τ' → Nw 24 τ τ' r (.list (il (((L ++ R).take e.toNat).drop s.toNat))) → Q (.obj r) (X k a τ')) : Run F (callI fns mets inits (n + 30) 355 [.obj 15, .int s, .int e] (X k a τ)) Q := by
  rw [List.length_append] at h2
  obtain ⟨s', rfl⟩ := Int.eq_ofNat_of_zero_le h0
  obtain ⟨e', rfl⟩ := Int.eq_ofNat_of_zero_le (Int.le_trans h0 h1)
  by_cases c1 : (e' : Int) ≤ a.gs
  · simp only [c_355, F355, run_ok, okV_, e_loc, okB_, k1_, e_att, k2_, k3_, e_bin, k4_, k5_, e_cmp, k22_, k23_, k24_, e_slc, kX_n, kX_r, kRet_r, x_cons, k35_, s_set, k48_, s_ret, brS_t, k49_, s_ife, b_sub, c_le, aX_cells, aX_gap_start, aX_gap_end, len_X, app_X, List.lookup_cons, String.reduceBEq, decide_true, c1, l_slc gX_19 (in_lim h0 h1 h2 (show L.length + R.length ≤ 10000 by lia) (Nat.le_refl _))]
    refine kk _ _ pf ?_
    rw [il_take, il_drop, q1, Int.toNat_natCast, Int.toNat_natCast, cut1 (by lia), cut1 (by lia)]
    exact Nw.new
  by_cases c2 : a.gs ≤ (s' : Int)
  · obtain ⟨s, rfl⟩ : ∃ s, s' = L.length + s := ⟨s' - L.length, by lia⟩
    obtain ⟨e, rfl⟩ : ∃ e, e' = L.length + e := ⟨e' - L.length, by lia⟩
    have x1 : ((L.length + s : Nat) : Int) + (a.ge - a.gs) = ((L.length + (M.length + s) : Nat) : Int) := by lia
    have x2 : ((L.length + e : Nat) : Int) + (a.ge - a.gs) = ((L.length + (M.length + e) : Nat) : Int) := by lia
    simp only [c_355, F355, run_ok, okV_, e_loc, okB_, k1_, e_att, k2_, k3_, e_bin, k4_, k5_, e_cmp, k22_, k23_, k24_, e_slc, kX_n, kX_r, kRet_r, x_nil, x_cons, k35_, s_set, k48_, s_ret, brS_t, brS_f, k49_, s_ife, b_add, b_sub, c_le, c_ge, aX_cells, aX_gap_start, aX_gap_end, len_X, app_X, List.lookup_cons, String.reduceBEq, decide_true, decide_false, c1, c2, x1, x2, l_slc gX_19 (in_lim (s := ((L.length + (M.length + s) : Nat) : Int)) (e := ((L.length + (M.length + e) : Nat) : Int)) (Int.natCast_nonneg _) (by lia) (Int.le_refl _) (show L.length + (M.length + e) ≤ 10000 by lia) (Nat.le_refl _))]
    refine kk _ _ pf ?_
    rw [il_take, il_drop, q1, Int.toNat_natCast, Int.toNat_natCast, Int.toNat_natCast, Int.toNat_natCast, cut2]
    exact Nw.new
  · obtain ⟨e, rfl⟩ : ∃ e, e' = L.length + e := ⟨e' - L.length, by lia⟩
    have x3 : a.ge = ((L.length + M.length : Nat) : Int) := by lia
    rw [hgs] at c1 c2
    have x2 : ((L.length + e : Nat) : Int) + (((L.length + M.length : Nat) : Int) - (L.length : Int)) = ((L.length + (M.length + e) : Nat) : Int) := by lia
    simp only [c_355, F355, run_bind, okV_, e_loc, okB_, k1_, e_att, k2_, k3_, e_bin, k4_, k5_, e_cmp, k22_, k23_, k24_, e_slc, kX_n, x_nil, x_cons, k35_, s_set, s_ret, brS_f, k49_, s_ife, b_add, b_sub, c_le, c_ge, aX_cells, aX_gap_start, aX_gap_end, len_X, app_X, List.lookup_cons, String.reduceBEq, decide_false, hgs, x3, c1, c2, x2, l_slc gX_19 (in_lim (s := (s' : Int)) (e := (L.length : Int)) (n := L.length) (N := 10000) h0 (by lia) (Int.le_refl _) (by lia) (Nat.le_refl _)), l_slc gX_19 (in_lim (s := ((L.length + M.length : Nat) : Int)) (e := ((L.length + (M.length + e) : Nat) : Int)) (Int.natCast_nonneg _) (by lia) (Int.le_refl _) (show L.length + (M.length + e) ≤ 10000 by lia) (Nat.le_refl _)), il_take, il_drop]
    rw [b_addl g2X g1X (by exact Nat.le_trans (Nat.add_le_add il_cut il_cut) (show L.length + (L.length + (M.length + e)) ≤ 100000 by lia))]
    simp only [run_ok, kQ_eq, kX_r, kRet_r, k48_, len_X, app_X, il_app]
    refine kk _ _ pre3 ?_
    rw [q1, Int.toNat_natCast, Int.toNat_natCast, Int.toNat_natCast, Int.toNat_natCast, cut3 (by lia)]
    exact Nw.new.mono pre2
theorem L355X (h : Gx a T N) (h0 : 0 ≤ s) (h1 : s ≤ e) (h2 : e ≤ T.length) (hN : N ≤ 10000)
    (kk : ∀ r τ', τ <+: τ' → Nw 24 τ τ' r (.list (il ((T.take e.toNat).drop s.toNat))) → Q (.obj r) (X k a τ')) : Run F (callI fns mets inits (n + 30) 355 [.obj 15, .int s, .int e] (X k a τ)) Q := by
  obtain ⟨L, M, R, q1, q2, q3, rfl, q5⟩ := h
  exact L355a q1 q2 q3 h0 h1 h2 (Nat.le_trans (gl q1 q5) hN) kk
theorem L362X (h : Gx a T N) (h0 : 0 ≤ t) (h2 : t ≤ T.length) (hN : N ≤ 10000)
    (kk : ∀ cells ge τ', τ <+: τ' → Gx { a with cells := cells, gs := t, ge := ge } T N → ge - t = a.ge - a.gs → Q .none (X k { a with cells := cells, gs := t, ge := ge } τ')) : Run F (callI fns mets inits (n + 30) 362 [.obj 15, .int t] (X k a τ)) Q := by
  obtain ⟨L, M, R, q1, q2, q3, rfl, q5⟩ := h
  have q6 := gl q1 q5
  rw [List.length_append] at h2
  obtain ⟨t', rfl⟩ := Int.eq_ofNat_of_zero_le h0
  by_cases c1 : (t' : Int) < a.gs
  · obtain ⟨A, B, rfl, hA⟩ : ∃ A B, L = A ++ B ∧ A.length = t' := ⟨L.take t', L.drop t', (List.take_append_drop ..).symm, by rw [List.length_take]; lia⟩
    subst hA
    rw [List.length_append] at q2 q3 q6
    have e2 : ((il a.cells).take a.gs.toNat).drop ((A.length : Int)).toNat = il B := by rw [il_take, il_drop, q1, q2, Int.toNat_natCast, Int.toNat_natCast, mvd1]
    have x1 : a.ge - (B.length : Int) = ((A.length + M.length : Nat) : Int) := by lia
    have x2 : (max ((A.length + M.length : Nat) : Int) a.ge).toNat = A.length + B.length + M.length := by lia
    simp only [c_362, F362, run_bind, okV_, e_loc, okB_, k1_, e_att, k2_, k3_, e_bin, k4_, k5_, e_cmp, k22_, k23_, k24_, e_slc, k26_, e_len, kX_n, x_cons, k35_, s_set, k43_, k44_, k45_, k46_, s_ssl, brS_t, k49_, s_ife, b_sub, c_lt, aX_cells, aX_gap_start, aX_gap_end, len_X, app_X, l_len g1X, List.lookup_cons, String.reduceBEq, decide_true, c1, l_slc gX_19 (in_lim (s := (A.length : Int)) (e := a.gs) (n := A.length + B.length) (N := 10000) h0 (by lia) (by lia) (by lia) (Nat.le_refl _)), e2, il_len, x1]
    rw [ssl_eq gX_19 g1X ⟨ne19, Int.natCast_nonneg _, by rw [il_len, q1, List.length_append, List.length_append, List.length_append]; lia, by lia, by rw [il_len, q1, List.length_append, List.length_append, List.length_append]; lia, by rw [il_len, il_len, q1, List.length_append, List.length_append, List.length_append]; lia⟩]
    simp only [il_take, il_drop, il_app, x2, Int.toNat_natCast, q1, mv1]
    simp only [run_ok, kQ_eq, okV_, e_loc, k1_, e_att, k2_, k3_, e_bin, k26_, e_len, kX_n, kRet_n, x_nil, x_cons, kS_, s_sat, b_sub, aX_gap_end, sX_gap_start, sX_gap_end, pX_19, l_len g1X, List.lookup_cons, String.reduceBEq, il_len, x1]
    refine kk _ _ _ pf ⟨A, (B ++ M).take M.length, B ++ R, rfl, rfl, ?_, List.append_assoc .., ?_⟩ (by lia)
    · rw [List.length_take, List.length_append]; show ((A.length + M.length : Nat) : Int) = _; lia
    · show (A ++ _).length ≤ _
      rw [List.length_append, List.length_append, List.length_take, List.length_append, List.length_append]; rw [q1, List.length_append, List.length_append, List.length_append] at q5; lia
  · obtain ⟨C, D, rfl, hC⟩ : ∃ C D, R = C ++ D ∧ L.length + C.length = t' := ⟨R.take (t' - L.length), R.drop (t' - L.length), (List.take_append_drop ..).symm, by rw [List.length_take]; lia⟩
    subst hC
    rw [List.length_append] at q6
    have x0 : a.ge + ((L.length + C.length : Nat) : Int) - a.gs = ((L.length + (M.length + C.length) : Nat) : Int) := by lia
    have x3 : a.ge = ((L.length + M.length : Nat) : Int) := by lia
    have e2 : ((il a.cells).take (((L.length + (M.length + C.length) : Nat) : Int)).toNat).drop (((L.length + M.length : Nat) : Int)).toNat = il C := by rw [il_take, il_drop, q1, Int.toNat_natCast, Int.toNat_natCast, mvd2]
    have x1 : (L.length : Int) + (C.length : Int) = ((L.length + C.length : Nat) : Int) := by lia
    have x2 : (max (L.length : Int) ((L.length + C.length : Nat) : Int)).toNat = L.length + C.length := by lia
    rw [q2] at c1 x0
    rw [x3] at x0
    simp only [c_362, F362, run_bind, okV_, e_loc, okB_, k1_, e_att, k2_, k3_, e_bin, k4_, k5_, e_cmp, k22_, k23_, k24_, e_slc, k26_, e_len, kX_n, x_cons, k35_, s_set, k43_, k44_, k45_, k46_, s_ssl, brS_f, k49_, s_ife, b_add, b_sub, c_lt, aX_cells, aX_gap_start, aX_gap_end, len_X, app_X, l_len g1X, List.lookup_cons, String.reduceBEq, decide_false, q2, x3, c1, x0, l_slc gX_19 (in_lim (s := ((L.length + M.length : Nat) : Int)) (e := ((L.length + (M.length + C.length) : Nat) : Int)) (n := L.length + (M.length + C.length)) (N := 10000) (Int.natCast_nonneg _) (by lia) (by lia) (by lia) (Nat.le_refl _)), e2, il_len, x1]
    rw [ssl_eq gX_19 g1X ⟨ne19, Int.natCast_nonneg _, by rw [il_len, q1, List.length_append]; lia, Int.natCast_nonneg _, by rw [il_len, q1, List.length_append, List.length_append, List.length_append]; lia, by rw [il_len, il_len, q1, List.length_append, List.length_append, List.length_append]; lia⟩]
    simp only [il_take, il_drop, il_app, x2, Int.toNat_natCast, q1, mv2]
    simp only [run_ok, kQ_eq, okV_, e_loc, k1_, e_att, k2_, k3_, e_bin, k26_, e_len, kX_n, kRet_n, x_nil, x_cons, kS_, s_sat, b_add, aX_gap_end, sX_gap_start, sX_gap_end, pX_19, l_len g1X, List.lookup_cons, String.reduceBEq, il_len, q2, x3]
    refine kk _ _ _ pf ⟨L ++ C, (M ++ C).drop C.length, D, rfl, by rw [List.length_append], ?_, (List.append_assoc ..).symm, ?_⟩ (by lia)
    · rw [List.length_append, List.length_drop, List.length_append]; show ((L.length + M.length : Nat) : Int) + _ = _; lia
    · show (L ++ C ++ _).length ≤ _
      rw [List.length_append, List.length_append, List.length_append, List.length_drop, List.length_append]; rw [q1, List.length_append, List.length_append, List.length_append] at q5; lia
theorem L369X (h : Gx a T N) (h0 : 0 ≤ t) (h1 : t ≤ 100) (hN : N ≤ 10000)
    (kk : ∀ cells ge τ', τ <+: τ' → Gx { a with cells := cells, ge := ge } T (N + t.toNat + 8) → t ≤ ge - a.gs → Q .none (X k { a with cells := cells, ge := ge } τ')) : Run F (callI fns mets inits (n + 30) 369 [.obj 15, .int t] (X k a τ)) Q := by
  obtain ⟨L, M, R, q1, q2, q3, rfl, q5⟩ := h
  have q6 := gl q1 q5
  by_cases c1 : 0 < t - (a.ge - a.gs)
  · have x3 : a.ge = (((L ++ M).length : Nat) : Int) := by rw [List.length_append]; lia
    have w : 0 ≤ t - (a.ge - a.gs) + 8 ∧ t - (a.ge - a.gs) + 8 ≤ 100000 := by lia
    have x2 : (max a.ge a.ge).toNat = (L ++ M).length := by rw [Int.max_self, x3, Int.toNat_natCast]
    have x4 : a.ge.toNat = (L ++ M).length := by rw [x3, Int.toNat_natCast]
    have q7 : a.cells = (L ++ M) ++ R := by rw [q1, List.append_assoc]
    simp only [c_369, F369, run_bind, e_int, okV_, e_loc, okB_, k1_, e_att, k2_, k3_, e_bin, k4_, k5_, e_cmp, kL1, e_lst, es_nil, kE2_, kE1_, es_cons, kX_n, x_cons, k35_, s_set, k43_, k44_, k45_, k46_, s_ssl, brS_t, k49_, s_ife, b_add, b_sub, c_gt, aX_room, aX_cells, aX_gap_start, aX_gap_end, len_X, app_X, List.lookup_cons, String.reduceBEq, decide_true, c1, b_mull g1X w, il_rep]
    rw [ssl_eq gX_19 g1X ⟨ne19, by lia, by rw [il_len, q1, List.length_append, List.length_append]; lia, by lia, by rw [il_len, q1, List.length_append, List.length_append]; lia, by rw [il_len, il_len, List.length_replicate, q1, List.length_append, List.length_append]; lia⟩]
    simp only [il_take, il_drop, il_app, x2, x4, q7, List.take_left, List.drop_left]
    simp only [run_ok, kQ_eq, okV_, e_loc, k1_, e_att, k2_, k3_, e_bin, kX_n, kRet_n, x_nil, x_cons, kS_, s_sat, b_add, aX_room, aX_gap_end, sX_gap_end, pX_19, List.lookup_cons, String.reduceBEq]
    refine kk _ _ _ pre2 ⟨L, M ++ List.replicate (t - (a.ge - a.gs) + 8).toNat 0, R, ?_, q2, ?_, rfl, ?_⟩ (by lia)
    · show (L ++ M) ++ _ ++ R = _
      simp only [List.append_assoc]
    · rw [List.length_append, List.length_replicate]; show a.ge + (t - (a.ge - a.gs)) + 8 = _; lia
    · show ((L ++ M) ++ _ ++ R).length ≤ _
      rw [List.length_append, List.length_append, List.length_append, List.length_replicate]; rw [q1, List.length_append, List.length_append] at q5; lia
  · simp only [c_369, F369, run_ok, e_int, okV_, e_loc, okB_, k1_, e_att, k2_, k3_, e_bin, k4_, k5_, e_cmp, kX_n, kRet_n, x_nil, x_cons, k35_, s_set, brS_f, k49_, s_ife, b_sub, c_gt, aX_gap_start, aX_gap_end, List.lookup_cons, String.reduceBEq, decide_false, c1]
    exact kk a.cells a.ge τ pr ⟨L, M, R, q1, q2, q3, rfl, Nat.le_trans q5 (by lia)⟩ (by lia)
/-- a prefix of a tail that holds the undo list -/
theorem upre {r : List V} {τ τ' : H} {P : H → Prop} (h : (k.t0 ++ (U k r ++ τ)) <+: τ') (kk : ∀ τ'', τ <+: τ'' → P (k.t0 ++ (U k r ++ τ''))) : P τ' := by
  obtain ⟨l, rfl⟩ := h
  simp only [List.append_assoc]
  exact kk _ pf
theorem L355W (h : Gx a T N) (h0 : 0 ≤ s) (h1 : s ≤ e) (h2 : e ≤ T.length) (hN : N ≤ 10000)
    (kk : ∀ r τ', τ <+: τ' → Nw k.q τ τ' r (.list (il ((T.take e.toNat).drop s.toNat))) → Q (.obj r) (W k a τ')) : Run F (callI fns mets inits (n + 30) 355 [.obj 15, .int s, .int e] (W k a τ)) Q :=
  L355X h h0 h1 h2 hN fun r τ' p => upre (P := fun τ' => Nw 24 (k.t0 ++ (U k a.rows ++ τ)) τ' r (.list (il ((T.take e.toNat).drop s.toNat))) → Q (.obj r) (X k a τ')) p fun τ'' p' hw => kk r τ'' p' hw.W
theorem L362W (h : Gx a T N) (h0 : 0 ≤ t) (h2 : t ≤ T.length) (hN : N ≤ 10000)
    (kk : ∀ cells ge τ', τ <+: τ' → Gx { a with cells := cells, gs := t, ge := ge } T N → ge - t = a.ge - a.gs → Q .none (W k { a with cells := cells, gs := t, ge := ge } τ')) : Run F (callI fns mets inits (n + 30) 362 [.obj 15, .int t] (W k a τ)) Q :=
  L362X h h0 h2 hN fun cells ge τ' p g w => upre (P := fun τ' => Q .none (X k { a with cells := cells, gs := t, ge := ge } τ')) p fun τ'' p' => kk cells ge τ'' p' g w
theorem L580W (h : Gx a T N) (h0 : 1 ≤ s) (h1 : s ≤ e) (h2 : e ≤ T.length + 1) (hN : N ≤ 10000)
    (kk : ∀ r τ', τ <+: τ' → Nw k.q τ τ' r (.list (il ((T.take (e - 1).toNat).drop (s - 1).toNat))) → Q (.obj r) (W k a τ')) : Run F (callI fns mets inits (n + 40) 580 [.obj 12, .int s, .int e] (W k a τ)) Q := by
  simp only [c_580, F580, run_bind, e_int, okV_, e_loc, k1_, e_att, k2_, k3_, e_bin, kM_, e_met, es_nil, kE2_, kE1_, es_cons, x_cons, s_ret, b_sub, aW_text, mW_407_codes, List.lookup_cons, String.reduceBEq]
  refine L355W h (by lia) (by lia) (by lia) hN fun r τ' p hw => ?_
  simp only [run_ok, kQ_eq, kX_r, kRet_r, k48_]
  exact kk r τ' p hw
end
end Mine.I

namespace Mine.I
theorem ins1 {L M R C : List Int} (h : C.length ≤ M.length) : (L ++ (M ++ R)).take L.length ++ C ++ (L ++ (M ++ R)).drop (L.length + C.length) = (L ++ C) ++ (M.drop C.length ++ R) := by
  rw [List.take_left, List.drop_length_add_append, List.drop_append_of_le_length h]
theorem del2 {L R : List Int} {s e : Nat} (h : s ≤ L.length) (h' : L.length ≤ e) : (L ++ R).take s ++ (L ++ R).drop e = L.take s ++ R.drop (e - L.length) := by
  rw [List.take_append_of_le_length h, List.drop_append, List.drop_of_length_le h', List.nil_append]
theorem del1 {L M R : List Int} {s e : Nat} : (L ++ (M ++ R)) = L.take s ++ ((L.drop s ++ M ++ R.take e) ++ R.drop e) := by
  simp only [List.append_assoc, List.take_append_drop]
  rw [← List.append_assoc (L.take s), List.take_append_drop]
section
variable {k : Kst} {a : Sta} {τ : H} {n : Nat} {F : H → Prop} {T C : List Int} {N i : Nat} {Q : V → H → Prop} {z s e p t : Int} {v v₁ v₂ v₃ : V}
theorem L376X (h : Gx a T N) (h0 : 0 ≤ t) (h2 : t ≤ T.length) (hC : At 24 τ i (.list (il C))) (hc : C.length ≤ 50) (hi : i ≠ 19) (hN : N ≤ 5000)
    (kk : ∀ cells gs ge τ', τ <+: τ' → Gx { a with cells := cells, gs := gs, ge := ge } (T.take t.toNat ++ C ++ T.drop t.toNat) (N + C.length + 8) → Q .none (X k { a with cells := cells, gs := gs, ge := ge } τ')) : Run F (callI fns mets inits (n + 40) 376 [.obj 15, .int t, .obj i] (X k a τ)) Q := by
  simp only [c_376, F376, run_bind, okV_, e_loc, kM_, e_met, k26_, e_len, es_nil, kE2_, kE1_, es_cons, x_cons, s_exp, mX_407_widen_gap, List.lookup_cons, String.reduceBEq, l_len (at_X hC), il_len]
  refine L369X h (Int.natCast_nonneg _) (by lia) (by lia) fun cells₁ ge₁ τ₁ p₁ g₁ w₁ => ?_
  simp only [run_ok, kQ_eq, run_bind, okV_, e_loc, kM_, e_met, es_nil, kE2_, kE1_, es_cons, kX_n, x_cons, k47_, s_exp, mX_407_move_gap, List.lookup_cons, String.reduceBEq]
  refine L362X g₁ h0 h2 (by lia) fun cells₂ ge₂ τ₂ p₂ g₂ w₂ => ?_
  have hC₂ := (hC.pre p₁).pre p₂
  obtain ⟨L, M, R, q1, q2, q3, rfl, q5⟩ := g₂
  simp only at q1 q2 q3 q5 w₂
  have q6 := q5
  rw [q1] at q6; simp only [List.length_append] at q6
  subst q2
  have e4 : (max (L.length : Int) ((L.length : Int) + (C.length : Int))).toNat = L.length + C.length := by lia
  simp only [run_ok, kQ_eq, run_bind, okV_, e_loc, k1_, e_att, k2_, k3_, e_bin, k26_, e_len, kX_n, x_cons, k43_, k44_, k45_, k46_, s_ssl, k47_, b_add, aX_cells, List.lookup_cons, String.reduceBEq, l_len (at_X hC₂), il_len]
  rw [ssl_eq gX_19 (at_X hC₂) ⟨fun e => hi e.symm, h0, by rw [il_len, q1, List.length_append]; lia, by lia, by rw [il_len, q1, List.length_append, List.length_append]; lia, by rw [il_len, il_len]; show cells₂.length + _ ≤ _; lia⟩]
  simp only [il_take, il_drop, il_app, e4, Int.toNat_natCast, q1, ins1 (show C.length ≤ M.length by lia)]
  simp only [run_ok, kQ_eq, okV_, e_loc, k2_, k3_, e_bin, k26_, e_len, kX_n, kRet_n, x_nil, x_cons, kS_, s_sat, b_add, sX_gap_start, pX_19, List.lookup_cons, String.reduceBEq, l_len (at_X hC₂), il_len]
  refine kk _ _ _ _ (p₁.trans p₂) ⟨L ++ C, M.drop C.length, R, rfl, by rw [List.length_append]; rfl, ?_, ?_, ?_⟩
  · rw [List.length_append, List.length_drop]; show ge₂ = _; lia
  · rw [Int.toNat_natCast, List.take_left, List.drop_left]
  · show (L ++ C ++ _).length ≤ _
    rw [List.length_append, List.length_append, List.length_append, List.length_drop]; lia
theorem L376W (h : Gx a T N) (h0 : 0 ≤ t) (h2 : t ≤ T.length) (hC : At k.q τ i (.list (il C))) (hc : C.length ≤ 50) (hi : i ≠ 19) (hN : N ≤ 5000)
    (kk : ∀ cells gs ge τ', τ <+: τ' → Gx { a with cells := cells, gs := gs, ge := ge } (T.take t.toNat ++ C ++ T.drop t.toNat) (N + C.length + 8) → Q .none (W k { a with cells := cells, gs := gs, ge := ge } τ')) : Run F (callI fns mets inits (n + 40) 376 [.obj 15, .int t, .obj i] (W k a τ)) Q :=
  L376X h h0 h2 hC.toX hc hi hN fun cells gs ge τ' p g => upre (P := fun τ' => Q .none (X k { a with cells := cells, gs := gs, ge := ge } τ')) p fun τ'' p' => kk cells gs ge τ'' p' g
theorem L383f {cells : List Int} {gs ge : Int} (g : Gx { a with cells := cells, gs := gs, ge := ge } T N) (h0 : 0 ≤ s) (x1 : s ≤ gs) (x2 : gs ≤ e) (h2 : e ≤ T.length) : Gx { a with cells := cells, gs := s, ge := ge + e - gs } (T.take s.toNat ++ T.drop e.toNat) N := by
  obtain ⟨L, M, R, q1, q2, q3, rfl, q5⟩ := g
  simp only at q1 q2 q3 q5
  rw [List.length_append] at h2
  obtain ⟨e', rfl⟩ : ∃ e' : Nat, e = ((L.length + e' : Nat) : Int) := ⟨(e - L.length).toNat, by lia⟩
  refine ⟨L.take s.toNat, L.drop s.toNat ++ M ++ R.take e', R.drop e', q1.trans del1, ?_, ?_, ?_, q5⟩
  · rw [List.length_take]; show s = _; lia
  · rw [List.length_append, List.length_append, List.length_drop, List.length_take, List.length_take]; show ge + _ - gs = _; lia
  · rw [Int.toNat_natCast, del2 (by lia) (by lia), Nat.add_sub_cancel_left]
theorem L383W (h : Gx a T N) (h0 : 0 ≤ s) (h1 : s ≤ e) (h2 : e ≤ T.length) (hN : N ≤ 10000)
    (kk : ∀ r cells gs ge τ', τ <+: τ' → Gx { a with cells := cells, gs := gs, ge := ge } (T.take s.toNat ++ T.drop e.toNat) N → Nw k.q τ τ' r (.list (il ((T.take e.toNat).drop s.toNat))) → Q (.obj r) (W k { a with cells := cells, gs := gs, ge := ge } τ')) : Run F (callI fns mets inits (n + 50) 383 [.obj 15, .int s, .int e] (W k a τ)) Q := by
  simp only [c_383, F383, run_bind, okV_, e_loc, kM_, e_met, es_nil, kE2_, kE1_, es_cons, x_cons, s_set, mW_407_codes, List.lookup_cons, String.reduceBEq]
  refine L355W h h0 h1 h2 hN fun r τ₁ p₁ hr => ?_
  by_cases c1 : e < a.gs
  · simp only [run_ok, kQ_eq, run_bind, okV_, e_loc, okB_, k1_, e_att, k4_, k5_, e_cmp, kM_, e_met, es_nil, kE2_, kE1_, es_cons, kX_n, x_cons, k35_, s_exp, brS_t, k49_, s_ife, c_lt, aW_gap_start, mW_407_move_gap, List.lookup_cons, String.reduceBEq, decide_true, c1]
    refine L362W h (Int.le_trans h0 h1) h2 hN fun cells₂ ge₂ τ₂ p₂ g₂ w₂ => ?_
    simp only [run_ok, kQ_eq, okV_, e_loc, okB_, k1_, e_att, k2_, k3_, e_bin, k4_, k5_, e_cmp, kX_n, kX_r, kRet_r, x_nil, x_cons, kS_, s_sat, k47_, k48_, s_ret, brS_f, k49_, s_ife, b_add, b_sub, c_gt, aW_gap_start, aW_gap_end, sW_gap_start, sW_gap_end, List.lookup_cons, String.reduceBEq, decide_false, eq_false (Int.not_lt.mpr h1)]
    exact kk _ _ _ _ _ (p₁.trans p₂) (L383f (a := a) g₂ h0 h1 (Int.le_refl _) h2) (hr.pre p₂)
  · by_cases c2 : a.gs < s
    · simp only [run_ok, kQ_eq, run_bind, okV_, e_loc, okB_, k1_, e_att, k4_, k5_, e_cmp, kM_, e_met, es_nil, kE2_, kE1_, es_cons, kX_n, x_nil, x_cons, k35_, s_exp, brS_t, brS_f, k49_, s_ife, c_lt, c_gt, aW_gap_start, mW_407_move_gap, List.lookup_cons, String.reduceBEq, decide_true, decide_false, c1, c2]
      refine L362W h h0 (Int.le_trans h1 h2) hN fun cells₂ ge₂ τ₂ p₂ g₂ w₂ => ?_
      simp only [run_ok, kQ_eq, okV_, e_loc, k1_, e_att, k2_, k3_, e_bin, kX_n, kX_r, kRet_r, x_nil, x_cons, kS_, s_sat, k47_, k48_, s_ret, b_add, b_sub, aW_gap_start, aW_gap_end, sW_gap_start, sW_gap_end, List.lookup_cons, String.reduceBEq]
      exact kk _ _ _ _ _ (p₁.trans p₂) (L383f (a := a) g₂ h0 (Int.le_refl _) h1 h2) (hr.pre p₂)
    · simp only [run_ok, kQ_eq, okV_, e_loc, okB_, k1_, e_att, k2_, k3_, e_bin, k4_, k5_, e_cmp, kX_n, kX_r, kRet_r, x_nil, x_cons, k35_, kS_, s_sat, k48_, s_ret, brS_f, k49_, s_ife, b_add, b_sub, c_lt, c_gt, aW_gap_start, aW_gap_end, sW_gap_start, sW_gap_end, List.lookup_cons, String.reduceBEq, decide_false, c1, c2]
      exact kk _ _ _ _ _ p₁ (L383f (a := a) (cells := a.cells) (gs := a.gs) (ge := a.ge) h h0 (Int.not_lt.mp c2) (Int.not_lt.mp c1) h2) hr
end
end Mine.I

namespace Mine.I
theorem c_nel0 {σ : H} {i j : Nat} {x : List Int} (h : σ[i]? = some (.list (il x))) (h' : σ[j]? = some (.list [])) : cmp1 σ .ne (.obj i) (.obj j) = some (!decide (x = [])) := c_nel (y := []) h h'
theorem item_il {l : List Int} {z : Int} (h0 : 0 ≤ z) (h1 : z < l.length) : ∃ w, item1 (il l) z = some (.int w) := by
  unfold item1
  rw [if_pos h0, List.getElem?_map, List.getElem?_eq_getElem (by lia)]
  exact ⟨_, rfl⟩
theorem fm {x p : Int} (h : 0 < p) : 0 ≤ x.fmod p ∧ x.fmod p < p := ⟨Int.fmod_nonneg_of_pos _ h, Int.fmod_lt_of_pos _ h⟩
section
variable {k : Kst} {a : Sta} {τ : H} {n : Nat} {m : Fm} {F : H → Prop} {T C : List Int} {N i : Nat} {Q : V → H → Prop} {z s e p t M x : Int} {v v₁ v₂ v₃ : V} {xs : List Int}
variable {d0 cells : List Int} {d2 gs ge pt bv zv tk ct : Int} {un : V} {rows : List V}
theorem i7 : item1 (il (x :: xs)) 0 = some (V.int x) := rfl
theorem u7 : (il (x :: xs)).set (Int.toNat 0) (V.int z) = il (z :: xs) := rfl
theorem t7 : (0 : Int) ≤ 0 ∧ (0 : Int) < (il (x :: xs)).length := by rw [il_len, List.length_cons]; lia
theorem u10 : [V.obj 7, V.obj 9, V.int x].set (Int.toNat 2) (V.int z) = [V.obj 7, V.obj 9, V.int z] := rfl
theorem t10 : (0 : Int) ≤ 2 ∧ (2 : Int) < [V.obj 7, V.obj 9, V.int x].length := ⟨by decide, by show (2 : Int) < 3; decide⟩
theorem h7X : (X k ⟨x :: xs, d2, cells, gs, ge, pt, bv, zv, tk, ct, un, rows⟩ τ)[7]? = some (.list (il (x :: xs))) := rfl
theorem q7X : (R.ok (.obj 7) (X k ⟨x :: xs, d2, cells, gs, ge, pt, bv, zv, tk, ct, un, rows⟩ τ)).bind pop0R = .ok (.int x) (X k ⟨xs, d2, cells, gs, ge, pt, bv, zv, tk, ct, un, rows⟩ τ) := rfl
theorem L707X (hp : 1 ≤ p) (hl : p ≤ 1000000) (hk : k.d1 ≠ [] ∧ k.d1.length ≤ 1000) (h0 : 0 ≤ a.d2) (h1 : a.d2 ≤ M) (h2 : M ≤ 1000000) (kk : ∀ r d0 d2 τ', τ <+: τ' → 0 ≤ r → r < p → 0 ≤ d2 → d2 ≤ M + 1 → Q (.int r) (X k { a with d0 := d0, d2 := d2 } τ')) : Run F (callI fns mets inits (n + 40) 707 [.obj 10, .int p] (X k a τ)) Q := by
  have hli := lim_eq
  have w1 : 0 < p ∧ p ≤ lim := by lia
  obtain ⟨d0, d2, cells, gs, ge, pt, bv, zv, tk, ct, un, rows⟩ := a
  simp only at h0 h1
  cases d0 with
  | cons x xs =>
    have o1 : ¬ (x :: xs = []) := by simp
    by_cases c1 : x.fdiv p = 0
    · simp only [c_707, F707, run_ok, e_int, okV_, e_loc, okB_, k2_, k3_, e_bin, k4_, k5_, e_cmp, kL0, e_lst, k16_, k17_, e_idx, e_pop0, es_nil, kX_n, kX_r, kRet_r, x_nil, x_cons, k35_, s_set, k40_, k41_, k42_, s_six, k47_, s_exp, k48_, s_ret, brS_t, k49_, s_ife, c_eq, pX_7, len_X, app_X, List.lookup_cons, String.reduceBEq, decide_true, decide_false, Bool.not_false, l_idx gX_10 it0, c_nel0 gX_7 g1X, o1, l_idx h7X i7, b_div w1, b_mod w1, six_eq h7X t7, u7, pX_7, c1, q7X]
      exact kk _ xs d2 _ pf (fm (Int.lt_of_lt_of_le Int.one_pos hp)).1 (fm (Int.lt_of_lt_of_le Int.one_pos hp)).2 h0 (Int.le_trans h1 (Int.le_of_lt (Int.lt_add_one_of_le (Int.le_refl _))))
    · simp only [c_707, F707, run_ok, e_int, okV_, e_loc, okB_, k2_, k3_, e_bin, k4_, k5_, e_cmp, kL0, e_lst, k16_, k17_, e_idx, es_nil, kX_n, kX_r, kRet_r, x_nil, x_cons, k35_, s_set, k40_, k41_, k42_, s_six, k48_, s_ret, brS_t, brS_f, k49_, s_ife, c_eq, pX_7, len_X, app_X, List.lookup_cons, String.reduceBEq, decide_false, Bool.not_false, l_idx gX_10 it0, c_nel0 gX_7 g1X, o1, l_idx h7X i7, b_div w1, b_mod w1, six_eq h7X t7, u7, pX_7, c1]
      exact kk _ _ d2 _ pf (fm (Int.lt_of_lt_of_le Int.one_pos hp)).1 (fm (Int.lt_of_lt_of_le Int.one_pos hp)).2 h0 (Int.le_trans h1 (Int.le_of_lt (Int.lt_add_one_of_le (Int.le_refl _))))
  | nil =>
    have hd : 0 < k.d1.length := List.length_pos_iff.mpr hk.1
    have e1 := fm (x := d2 + 1) (p := (k.d1.length : Int)) (by lia)
    obtain ⟨w, hw⟩ := item_il (l := k.d1) e1.1 e1.2
    have w2 : 0 < (k.d1.length : Int) ∧ (k.d1.length : Int) ≤ lim := by lia
    have w3 : -lim ≤ 1640531527 ∧ 1640531527 ≤ lim ∧ -lim ≤ d2 + 1 ∧ d2 + 1 ≤ lim := by lia
    have w4 : (0 : Int) < 4294966297 ∧ (4294966297 : Int) ≤ lim := by lia
    have e2 := fm (x := w + 1640531527 * (d2 + 1)) (p := 4294966297) (by lia)
    have w5 : (0 : Int) < 4294966237 ∧ (4294966237 : Int) ≤ lim := by lia
    have w6 : -lim ≤ 122949823 ∧ 122949823 ≤ lim ∧ -lim ≤ d2 + 1 ∧ d2 + 1 ≤ lim := by lia
    have w7 : (0 : Int) < 4294966187 ∧ (4294966187 : Int) ≤ lim := by lia
    have w8 : (0 : Int) < 1024 ∧ (1024 : Int) ≤ lim := by lia
    simp only [c_707, F707, run_bind, e_int, okV_, e_loc, okB_, k2_, k3_, e_bin, k4_, k5_, e_cmp, kL0, e_lst, k16_, k17_, e_idx, k26_, e_len, es_nil, kX_n, x_nil, x_cons, k35_, s_set, k40_, k41_, k42_, s_six, brS_f, k49_, s_ife, b_add, pX_10, len_X, app_X, List.lookup_cons, String.reduceBEq, decide_true, Bool.not_true, l_idx gX_10 it0, c_nel0 gX_7 g1X, six_eq gX_10 t10, u10, pX_10, l_idx gX_10 it1, l_idx gX_10 it2, l_len gX_9, il_len, b_mod w2, b_mod w4, l_idx gX_9 hw, b_mul w3]
    generalize hm1 : (w + 1640531527 * (d2 + 1)).fmod 4294966297 = m1 at e2
    have w9 : -lim ≤ m1 ∧ m1 ≤ lim ∧ -lim ≤ m1 ∧ m1 ≤ lim := by lia
    have e3 := fm (x := m1 * m1 + 122949823 * (d2 + 1)) (p := 4294966237) (by lia)
    simp only [run_ok, kQ_eq, run_bind, e_int, okV_, e_loc, k2_, k3_, e_bin, k16_, k17_, e_idx, kX_n, x_cons, k35_, s_ret, b_add, List.lookup_cons, String.reduceBEq, l_idx gX_10 it2, b_mul w6, b_mul w9, b_mod w5]
    generalize hm2 : (m1 * m1 + 122949823 * (d2 + 1)).fmod 4294966237 = m2 at e3
    have w10 : -lim ≤ m2 ∧ m2 ≤ lim ∧ -lim ≤ m2 ∧ m2 ≤ lim := by lia
    simp only [run_ok, kQ_eq, e_int, okV_, e_loc, k2_, k3_, kX_r, kRet_r, k48_, List.lookup_cons, String.reduceBEq, b_mul w10, b_mod w7, b_div w8, b_mod w1]
    exact kk _ [] (d2 + 1) _ pf (fm (Int.lt_of_lt_of_le Int.one_pos hp)).1 (fm (Int.lt_of_lt_of_le Int.one_pos hp)).2 (Int.le_add_one h0) (Int.add_le_add_right h1 1)
theorem L707W (hp : 1 ≤ p) (hl : p ≤ 1000000) (hk : k.d1 ≠ [] ∧ k.d1.length ≤ 1000) (h0 : 0 ≤ a.d2) (h1 : a.d2 ≤ M) (h2 : M ≤ 1000000) (kk : ∀ r d0 d2 τ', τ <+: τ' → 0 ≤ r → r < p → 0 ≤ d2 → d2 ≤ M + 1 → Q (.int r) (W k { a with d0 := d0, d2 := d2 } τ')) : Run F (callI fns mets inits (n + 40) 707 [.obj 10, .int p] (W k a τ)) Q :=
  L707X hp hl hk h0 h1 h2 fun r d0 d2 τ' p' x1 x2 x3 x4 => upre (P := fun τ' => Q (.int r) (X k { a with d0 := d0, d2 := d2 } τ')) p' fun τ'' p => kk r d0 d2 τ'' p x1 x2 x3 x4
theorem L721W (h : Gx a T N) (hN : N ≤ 10000) (kk : ∀ r c τ', τ <+: τ' → At k.q τ' r (.tup [.obj c, .int a.point, .int a.begv, .int a.zv]) → At k.q τ' c (.list (il T)) → Q (.obj r) (W k a τ')) : Run F (callI fns mets inits (n + 60) 721 [.obj 12] (W k a τ)) Q := by
  simp only [c_721, F721, run_bind, e_int, okV_, e_loc, k2_, k3_, e_bin, e_tup, kM_, e_met, es_nil, kE2_, kE1_, es_cons, x_cons, s_ret, b_add, mW_618_size, mW_618_codes, List.lookup_cons, String.reduceBEq, L566W h]
  refine L580W h (Int.le_refl _) (by lia) (Int.le_refl _) hN fun r τ₁ p₁ hr => ?_
  simp only [run_ok, kQ_eq, okV_, e_loc, k1_, e_att, kT4, es_nil, kE2_, kE1_, es_cons, kX_r, kRet_r, k48_, aW_point, aW_begv, aW_zv, len_W, app_W, List.lookup_cons, String.reduceBEq]
  rw [show ((1 : Int) - 1).toNat = 0 by rfl, List.drop_zero, Int.add_sub_cancel, Int.toNat_natCast, List.take_length] at hr
  exact kk _ r _ (p₁.trans pf) At.new (hr.1.pre pf)
theorem tk_le {T : List Int} {n N : Nat} (h : T.length ≤ N) : (il (T.take n)).length ≤ N := by rw [il_len]; exact Nat.le_trans (List.take_sublist ..).length_le h
theorem dp_le {T : List Int} {n N : Nat} (h : T.length ≤ N) : (il (T.drop n)).length ≤ N := by rw [il_len]; exact Nat.le_trans (List.drop_sublist ..).length_le h
theorem tc_le {T C : List Int} {n N M : Nat} (h : T.length ≤ N) (h' : C.length ≤ M) : (il (T.take n ++ C)).length ≤ N + M := by rw [il_len, List.length_append]; exact Nat.add_le_add (Nat.le_trans (List.take_sublist ..).length_le h) h'
theorem L728W {i j c : Nat} {w : String} (hi : At k.q τ i (.list (il T))) (hj : At k.q τ j (.tup [.str w, .int s, .obj c])) (hc : At k.q τ c (.list (il C))) (hs : 1 ≤ s) (hsT : s ≤ T.length + 1) (hT : T.length ≤ 10000) (hC : C.length ≤ 1000)
    (kk : ∀ r τ', τ <+: τ' → At k.q τ' r (.list (il (if w = "insert" then T.take (s - 1).toNat ++ T.drop ((s - 1).toNat + C.length) else T.take (s - 1).toNat ++ C ++ T.drop (s - 1).toNat))) → Q (.obj r) (W k a τ')) :
    Run F (callI fns mets inits (n + 60) 728 [.obj i, .obj j] (W k a τ)) Q := by
  obtain ⟨u, hu⟩ := Int.eq_ofNat_of_zero_le (show 0 ≤ s - 1 by lia)
  have hu2 : u ≤ 10000 := by lia
  clear hs hsT
  have e1 : 0 ≤ s - 1 ∧ s - 1 ≤ lim := by rw [hu, lim_eq]; lia
  have e2 : 0 ≤ s - 1 + (C.length : Int) ∧ s - 1 + (C.length : Int) ≤ lim := by rw [hu, lim_eq]; lia
  have e3 : (s - 1 + (C.length : Int)).toNat = (s - 1).toNat + C.length := by rw [hu]; exact Int.toNat_natCast _
  by_cases hw : w = "insert"
  · subst hw
    simp only [c_728, F728, run_bind, e_int, e_str, okV_, e_loc, okB_, k2_, k3_, e_bin, k4_, k5_, e_cmp, k18_, k19_, e_upto, k20_, k21_, e_fro, k26_, e_len, kX_n, x_cons, k37_, s_unp, s_ret, brS_t, k49_, s_ife, b_add, b_sub, c_eqs, len_W, app_W, List.lookup_cons, String.reduceBEq, decide_true, unp_eq (at_W hj) (xs := ["word", "start", "codes"]) rfl, List.zip_cons_cons, List.zip_nil_right, List.reverse_cons, List.reverse_nil, List.nil_append, List.cons_append, l_upto (at_W hi) e1, l_len (at_W' hc), il_len, il_take, l_fro (at_W' hi) e2, il_drop, e3]
    rw [b_addl g2W g1W (by exact Nat.le_trans (Nat.add_le_add (tk_le hT) (dp_le hT)) (by decide))]
    simp only [run_ok, kQ_eq, kX_r, kRet_r, k48_, len_W, app_W, il_app]
    exact kk _ _ pre3 (by rw [if_pos rfl]; exact At.new)
  · simp only [c_728, F728, run_bind, e_int, e_str, okV_, e_loc, okB_, k2_, k3_, e_bin, k4_, k5_, e_cmp, k18_, k19_, e_upto, kX_n, x_nil, x_cons, k37_, s_unp, s_ret, brS_f, k49_, s_ife, b_sub, c_eqs, len_W, app_W, List.lookup_cons, String.reduceBEq, decide_false, hw, unp_eq (at_W hj) (xs := ["word", "start", "codes"]) rfl, List.zip_cons_cons, List.zip_nil_right, List.reverse_cons, List.reverse_nil, List.nil_append, List.cons_append, l_upto (at_W hi) e1, il_take]
    rw [b_addl g1W (at_W' hc) (by rw [il_len (l := C)]; exact Nat.le_trans (Nat.add_le_add (tk_le hT) hC) (by decide))]
    simp only [run_ok, kQ_eq, e_int, okV_, e_loc, k2_, k3_, e_bin, k20_, k21_, e_fro, b_sub, len_W, app_W, List.lookup_cons, String.reduceBEq, il_app, l_fro (at_W (At.app (At.app hi))) e1, il_drop]
    rw [b_addl g2W g1W (by exact Nat.le_trans (Nat.add_le_add (tc_le hT hC) (dp_le hT)) (by decide))]
    simp only [run_ok, kQ_eq, kX_r, kRet_r, k48_, len_W, app_W, il_app]
    exact kk _ _ pre4 (by rw [if_neg hw]; exact At.new)
theorem sat2W {e₁ e₂ : ME} {x y : Int} (ha : evalI fns mets inits (n + 1) m e₁ (W k a τ) = .ok (.int x) (W k a τ)) (hb : evalI fns mets inits (n + 1) m e₂ (W k a τ) = .ok (.int y) (W k a τ)) (hl : m.l.lookup "buffer" = some (.obj 12)) :
    execI fns mets inits (n + 2) m (.sat2 (.loc "buffer") "begv" (.loc "buffer") "zv" e₁ e₂) (W k a τ) = .ok (.next, m) (W k { a with begv := x, zv := y } τ) := by
  rw [execI, ha]
  dsimp only [R.bind]
  rw [hb]
  dsimp only [R.bind]
  rw [show evalI fns mets inits (n + 1) m (.loc "buffer") (W k a τ) = .ok (.obj 12) (W k a τ) by rw [evalI, hl]; rfl]
  change R.bind (evalI fns mets inits (n + 1) m (.loc "buffer") (W k { a with begv := x } τ)) (satR "zv" (.int y) m) = _
  rw [show evalI fns mets inits (n + 1) m (.loc "buffer") (W k { a with begv := x } τ) = .ok (.obj 12) (W k { a with begv := x } τ) by rw [evalI, hl]; rfl]
  rfl
theorem L627W (h : Gx a T N) (h1 : 1 ≤ s) (h2 : s ≤ e) (h3 : e ≤ T.length + 1) : callI fns mets inits (n + 60) 627 [.obj 12, .int s, .int e] (W k a τ) = .ok .none (W k { a with begv := s, zv := e, point := min (max a.point s) e } τ) := by
  have e1 : min s e = s := by lia
  have e2 : max s e = e := by lia
  have e3 : ¬ s < 1 := by lia
  have e4 : ¬ ((T.length : Int) + 1 < e) := by lia
  simp only [c_627, F627, e_int, okV_, e_loc, okB_, k2_, k3_, e_bin, k4_, k5_, e_cmp, brO_f, k11_, e_or2, kM_, e_met, k31_, k32_, e_mn, k33_, k34_, e_mx, es_nil, kX_n, x_nil, x_cons, k38_, k39_, s_par, brS_f, k49_, s_ife, b_add, c_lt, c_gt, l_mn, l_mx, mW_618_size, List.lookup_cons, String.reduceBEq, decide_false, L566W h, e1, e2, e3, e4]
  rw [sat2W (x := s) (y := e) (by simp only [okV_, e_loc, List.lookup_cons, String.reduceBEq]) (by simp only [okV_, e_loc, List.lookup_cons, String.reduceBEq]) (by simp only [List.lookup_cons, String.reduceBEq])]
  simp only [okV_, e_loc, k1_, e_att, kM_, e_met, es_nil, kE2_, kE1_, es_cons, kX_n, kRet_n, x_nil, x_cons, k47_, s_exp, aW_point, mW_618_goto, List.lookup_cons, String.reduceBEq, L587W]
theorem L634W (h : Gx a T N) : callI fns mets inits (n + 60) 634 [.obj 12] (W k a τ) = .ok .none (W k { a with begv := 1, zv := T.length + 1 } τ) := by
  simp only [c_634, F634, x_cons]
  rw [sat2W (x := 1) (y := T.length + 1) (by simp only [e_int]) (by simp only [e_int, okV_, e_loc, k2_, k3_, e_bin, kM_, e_met, es_nil, b_add, mW_618_size, List.lookup_cons, String.reduceBEq, L566W h]) (by simp only [List.lookup_cons, String.reduceBEq])]
  simp only [kX_n, kRet_n, x_nil]
end
end Mine.I

namespace Mine.I
section
variable {k : Kst} {a : Sta} {τ l₀ l₁ l₂ l₃ l₄ : H} {n : Nat} {m : Fm} {F : H → Prop} {T C : List Int} {N i j c : Nat} {Q : V → H → Prop} {z s e p t M x : Int} {v v₁ v₂ v₃ : V} {rs : List V} {o : AO}
theorem at_W2 (h : At k.q τ i o) : (W k a (τ ++ l₀ ++ l₁))[i]? = some o := at_W h.app.app
theorem at_W4 (h : At k.q τ i o) : (W k a (τ ++ l₀ ++ l₁ ++ l₂ ++ l₃))[i]? = some o := at_W h.app.app.app.app
theorem item_last {l : List V} : item1 (l ++ [v]) (-1) = some v := by
  unfold item1
  rw [if_neg (by decide), List.length_append, List.length_singleton, if_pos (by lia), show (-1 + ((l.length + 1 : Nat) : Int)).toNat = l.length by lia, List.getElem?_append_right (Nat.le_refl _), Nat.sub_self]; rfl
/-- the last row, where there is one -/
inductive Ls (k : Kst) (τ : H) : List V → Bool → Prop
  | nil : Ls k τ [] true
  | bnd {l} : Ls k τ (l ++ [.glob 175]) true
  | row {l i s r} : At k.q τ i (.tup (.str s :: r)) → s ≠ "boundary" → s ≠ "insert" → Ls k τ (l ++ [.obj i]) false
  | ins {l i r} : At k.q τ i (.tup (.str "insert" :: r)) → Ls k τ (l ++ [.obj i]) false
theorem Ls.pre {τ' : H} {r : List V} {b : Bool} (h : Ls k τ r b) (p : τ <+: τ') : Ls k τ' r b := by
  cases h with
  | nil => exact .nil
  | bnd => exact .bnd
  | row h a b => exact .row (h.pre p) a b
  | ins h => exact .ins (h.pre p)
theorem len_snoc {l : List V} : ¬ ((l ++ [v]).length : Int) = 0 := by simp only [List.length_append, List.length_singleton]; lia
theorem pos_snoc {l : List V} : (0 : Int) < ((l ++ [v]).length : Int) := by simp only [List.length_append, List.length_singleton]; lia
theorem idxl {d0 cells : List Int} {d2 gs ge pt bv zv tk ct : Int} {un : V} {l : List V} : idx1 (.obj k.u4) (.int (-1)) (W k ⟨d0, d2, cells, gs, ge, pt, bv, zv, tk, ct, un, l ++ [v]⟩ τ) = .ok v (W k ⟨d0, d2, cells, gs, ge, pt, bv, zv, tk, ct, un, l ++ [v]⟩ τ) := l_idx gW_u4 item_last
theorem L203W {b : Bool} (h : Ls k τ a.rows b) : callI fns mets inits (n + 30) 203 [.obj k.u3] (W k a τ) = .ok (.bool b) (W k a τ) := by
  obtain ⟨d0, d2, cells, gs, ge, pt, bv, zv, tk, ct, un, rows⟩ := a
  simp only at h
  cases h with
  | nil => simp only [c_203, F203, e_int, okV_, e_loc, okB_, k1_, e_att, k4_, k5_, e_cmp, k11_, e_or2, k26_, e_len, x_cons, s_ret, c_eq, aW_urows, List.lookup_cons, String.reduceBEq, l_len gW_u4, List.length_nil]; rfl
  | bnd => simp only [c_203, F203, e_bnd, e_int, okV_, e_loc, okB_, k1_, e_att, k4_, k5_, e_cmp, brO_f, k11_, e_or2, k16_, k17_, e_idx, k26_, e_len, kX_r, kRet_r, x_cons, k48_, s_ret, c_eq, c_eqbg, aW_urows, List.lookup_cons, String.reduceBEq, decide_false, l_len gW_u4, len_snoc, idxl]
  | row h h1 h2 => simp only [c_203, F203, e_bnd, e_int, okV_, e_loc, okB_, k1_, e_att, k4_, k5_, e_cmp, brO_f, k11_, e_or2, k16_, k17_, e_idx, k26_, e_len, kX_r, kRet_r, x_cons, k48_, s_ret, c_eq, aW_urows, List.lookup_cons, String.reduceBEq, decide_false, l_len gW_u4, len_snoc, idxl, c_eqog (at_W h) h1]
  | ins h => simp only [c_203, F203, e_bnd, e_int, okV_, e_loc, okB_, k1_, e_att, k4_, k5_, e_cmp, brO_f, k11_, e_or2, k16_, k17_, e_idx, k26_, e_len, kX_r, kRet_r, x_cons, k48_, s_ret, c_eq, aW_urows, List.lookup_cons, String.reduceBEq, decide_false, l_len gW_u4, len_snoc, idxl, c_eqog (at_W h) (show ("insert" : String) ≠ "boundary" by decide)]
theorem L210Wt (h : Ls k τ a.rows true) : callI fns mets inits (n + 50) 210 [.obj k.u3] (W k a τ) = .ok .none (W k a τ) := by
  simp only [c_210, F210, okV_, e_loc, okN_, k14_, e_not, kM_, e_met, es_nil, kX_n, kRet_n, x_nil, x_cons, brS_f, k49_, s_ife, mW_260_is_at_boundary, List.lookup_cons, String.reduceBEq, Bool.not_true, L203W h]
theorem L210Wf (h : Ls k τ a.rows false) (hl : a.rows.length < 100000) : callI fns mets inits (n + 50) 210 [.obj k.u3] (W k a τ) = .ok .none (W k { a with rows := a.rows ++ [.glob 175] } τ) := by
  simp only [c_210, F210, e_bnd, okV_, e_loc, k1_, e_att, okN_, k14_, e_not, kM_, e_met, e_app, es_nil, kX_n, kRet_n, x_nil, x_cons, k47_, s_exp, brS_t, k49_, s_ife, mW_260_is_at_boundary, aW_urows, pW_u4, List.lookup_cons, String.reduceBEq, Bool.not_false, L203W h, app_eq gW_u4, kA_eq gW_u4 hl]
theorem L224W : callI fns mets inits (n + 30) 224 [.obj k.u3, .bool true, v] (W k a τ) = .ok .none (W k a τ) := by
  simp only [c_224, F224, okV_, e_loc, brA_f, k10_, e_and2, okN_, k14_, e_not, kX_n, kRet_n, x_nil, x_cons, brS_f, k49_, s_ife, List.lookup_cons, String.reduceBEq, Bool.not_true]
/-- the last row is no insertion -/
inductive Lx (k : Kst) (τ : H) : List V → Prop
  | nil : Lx k τ []
  | bnd {l} : Lx k τ (l ++ [.glob 175])
  | row {l i s r} : At k.q τ i (.tup (.str s :: r)) → s ≠ "boundary" → s ≠ "insert" → Lx k τ (l ++ [.obj i])
theorem Lx.pre {τ' : H} {r : List V} (h : Lx k τ r) (p : τ <+: τ') : Lx k τ' r := by
  cases h with
  | nil => exact .nil
  | bnd => exact .bnd
  | row h a b => exact .row (h.pre p) a b
theorem Lx.ls {r : List V} (h : Lx k τ r) : ∃ b, Ls k τ r b := by
  cases h with
  | nil => exact ⟨_, .nil⟩
  | bnd => exact ⟨_, .bnd⟩
  | row h a b => exact ⟨_, .row h a b⟩
theorem Lx.last (h : Lx k τ rs) : rs = [] ∨ ∃ l v w, rs = l ++ [v] ∧ (∀ a : Sta, idx1 v (.int 0) (W k a τ) = .ok (.str w) (W k a τ)) ∧ w ≠ "insert" := by
  cases h with
  | nil => exact .inl rfl
  | bnd => exact .inr ⟨_, _, _, rfl, fun _ => l_idxb, by decide⟩
  | row h a b => exact .inr ⟨_, _, _, rfl, fun _ => l_idxt (at_W h) it0, b⟩
theorem idxl' {l : List V} (h : a.rows = l ++ [v]) : idx1 (.obj k.u4) (.int (-1)) (W k a τ) = .ok v (W k a τ) := l_idx gW_u4 (by rw [h]; exact item_last)
theorem L231W (h : Lx k τ a.rows) (hp : p ≠ 0) (hl : a.rows.length < 100000) : callI fns mets inits (n + 50) 231 [.obj k.u3, .int s, .int p, v, .bool true, v₁] (W k a τ) = .ok .none (W k { a with rows := a.rows ++ [.obj (k.q + τ.length)] } (τ ++ [.tup [.str "insert", .int s, .int (s + p)]])) := by
  rcases h.last with e | ⟨l, u, w, e, hu, hw⟩
  · have e0 : ¬ (0 : Int) < (a.rows.length : Int) := by rw [e]; decide
    simp only [c_231, F231, e_bnd, e_int, e_str, okV_, e_loc, okB_, k1_, e_att, k2_, k3_, e_bin, k4_, k5_, e_cmp, brE_f, brA_f, brO_f, k10_, e_and2, k11_, e_or2, okN_, k14_, e_not, k15_, e_ifx, kT3, e_tup, k16_, k17_, e_idx, kM_, e_met, k26_, e_len, e_app, es_nil, kE2_, kE1_, es_cons, kX_n, kRet_n, x_nil, x_cons, k35_, s_set, k47_, s_exp, brS_f, k49_, s_ife, b_add, c_gt, c_eq, c_eqs, l_idxb, mW_260_note_state, aW_urows, aW_uis_on, pW_u4, len_W, app_W, List.lookup_cons, String.reduceBEq, String.reduceEq, decide_false, Bool.not_true, hp, L224W, l_len gW_u4, e0, app_eq gW_u4, kA_eq gW_u4 hl]
  · have e0 : (0 : Int) < (a.rows.length : Int) := by rw [e]; exact pos_snoc
    simp only [c_231, F231, e_int, e_str, okV_, e_loc, okB_, k1_, e_att, k2_, k3_, e_bin, k4_, k5_, e_cmp, brE_t, brA_f, brO_f, k10_, e_and2, k11_, e_or2, okN_, k14_, e_not, k15_, e_ifx, kT3, e_tup, k16_, k17_, e_idx, kM_, e_met, k26_, e_len, e_app, es_nil, kE2_, kE1_, es_cons, kX_n, kRet_n, x_nil, x_cons, k35_, s_set, k47_, s_exp, brS_f, k49_, s_ife, b_add, c_gt, c_eq, c_eqs, mW_260_note_state, aW_urows, aW_uis_on, pW_u4, len_W, app_W, List.lookup_cons, String.reduceBEq, decide_true, decide_false, Bool.not_true, hp, L224W, l_len gW_u4, e0, idxl' e, hu, hw, app_eq gW_u4, kA_eq gW_u4 hl]
theorem A238 {b : Bool} {e : ME} {l : List (String × V)} {c : List (String × Nat)} (h1 : l.lookup "is_first" = some (.bool b)) (h2 : l.lookup "self" = some (.obj k.u3)) : evalI fns mets inits (n + 6) ⟨l, c⟩ (.and3 (.loc "is_first") (.isnn (.att (.loc "self") "point_before")) e) (W k a τ) = .ok (.bool false) (W k a τ) := by
  cases b <;> simp only [okV_, e_loc, k1_, e_att, k9_, e_isnn, brA_f, ka3_, brA3_t, brA3_f, k12_, e_and3, aW_upoint_before, decide_true, Bool.not_true, h1, h2]
theorem L238W {b : Bool} {pi d mk : Nat} {rv : V} (h : Ls k τ a.rows b) (h1 : At k.q τ pi (.inst 651 d)) (h2 : At k.q τ d (.dict [("codes", .obj c), ("runs", rv)])) (h3 : At k.q τ c (.list (il C))) (h4 : C ≠ []) (h5 : At k.q τ mk (.list [])) (hl : a.rows.length < 100000) :
    callI fns mets inits (n + 50) 238 [.obj k.u3, .int s, .obj pi, .int p, .obj mk, .bool true, v₁] (W k a τ) = .ok .none (W k { a with rows := a.rows ++ [.obj (k.q + (τ ++ [AO.gone]).length)] } (τ ++ [AO.gone] ++ [.tup [.str "delete", .int s, .obj pi, .bool (decide (p = s + (C.length : Int)))]])) := by
  have e0 : ¬ ((C.length : Int) = 0) := by cases C with
    | nil => exact absurd rfl h4
    | cons _ _ => simp only [List.length_cons]; lia
  have ha : ∀ {a : Sta}, att1 "codes" (.obj pi) (W k a τ) = .ok (.obj c) (W k a τ) := att_eq (at_W h1) (at_W h2) rfl rfl
  have ha' : ∀ {a : Sta} {l}, att1 "codes" (.obj pi) (W k a (τ ++ l)) = .ok (.obj c) (W k a (τ ++ l)) := att_eq (at_W' h1) (at_W' h2) rfl rfl
  simp only [c_238, F238, e_int, e_str, okV_, e_loc, okB_, k1_, e_att, k2_, k3_, e_bin, k4_, k5_, e_cmp, brO_f, k11_, e_or2, okN_, k14_, e_not, kT4, e_tup, kM_, e_met, k26_, e_len, e_app, es_nil, kE2_, kE1_, es_cons, kX_n, kRet_n, x_nil, x_cons, k35_, s_set, k47_, s_exp, brS_f, k49_, s_ife, s_for, b_add, c_eq, mW_260_is_at_boundary, mW_260_note_state, aW_urows, aW_uis_on, pW_u4, len_W, app_W, List.lookup_cons, String.reduceBEq, decide_false, Bool.not_true, A238 (b := b) (l := [("is_first", .bool b), ("tick", v₁), ("is_modified", .bool true), ("markers", .obj mk), ("point", .int p), ("piece", .obj pi), ("start", .int s), ("self", .obj k.u3)]) rfl rfl, ha, ha', l_len (at_W h3), l_len (at_W' h3), il_len, e0, L203W h, L224W, kF_empty (at_W h5), app_eq gW_u4, kA_eq gW_u4 hl]
theorem L648W : callI fns mets inits (n + 30) 648 [.obj (k.q + τ.length + 1), v, v₁] (W k a (τ ++ [.dict []] ++ [.inst 651 (k.q + τ.length)])) = .ok .none (W k a (τ ++ [.dict [("codes", v), ("runs", v₁)]] ++ [.inst 651 (k.q + τ.length)])) := by
  have hs : ∀ {o o' : AO} {z : List (String × V)}, (W k a (τ ++ [o] ++ [o'])).set (k.q + τ.length) (.dict z) = W k a (τ ++ [.dict z] ++ [o']) := fun {o o' z} => by rw [set_W, List.append_assoc, t_set0, List.append_assoc]; rfl
  have hq : ∀ {o o' : AO}, (W k a (τ ++ [o] ++ [o']))[k.q + τ.length + 1]? = some o' := fun {o o'} => by rw [Nat.add_assoc, get_W, List.append_assoc, t_get]; rfl
  have s1 : ∀ {m v}, (R.ok (.obj (k.q + τ.length + 1)) (W k a (τ ++ [.dict []] ++ [.inst 651 (k.q + τ.length)]))).bind (satR "codes" v m) = .ok (.next, m) (W k a (τ ++ [.dict [("codes", v)]] ++ [.inst 651 (k.q + τ.length)])) := fun {m v} => by rw [sat_eq hq g2W rfl (by decide), hs]; rfl
  have s2 : ∀ {m v v'}, (R.ok (.obj (k.q + τ.length + 1)) (W k a (τ ++ [.dict [("codes", v')]] ++ [.inst 651 (k.q + τ.length)]))).bind (satR "runs" v m) = .ok (.next, m) (W k a (τ ++ [.dict [("codes", v'), ("runs", v)]] ++ [.inst 651 (k.q + τ.length)])) := fun {m v v'} => by rw [sat_eq hq g2W rfl (by simp only [List.length_cons, List.length_nil]; lia), hs]; rfl
  simp only [c_648, F648, okV_, e_loc, kX_n, kRet_n, x_nil, x_cons, kS_, s_sat, List.lookup_cons, String.reduceBEq, s1, s2]
theorem comp_empty {elt : ME} {xs : List String} {it : ME} {cond : Option ME} {σ σ' : H} {i : Nat} (h : evalI fns mets inits (n + 1) m it σ = .ok (.obj i) σ') (h2 : σ'[i]? = some (.list [])) : evalI fns mets inits (n + 2) m (.comp elt xs it cond) σ = .ok (.obj (σ'.length + 1)) (σ' ++ [.gone] ++ [.list []]) := by
  have hi : i < σ'.length := (List.getElem?_eq_some_iff.mp h2).1
  rw [evalI, h]
  have e0 : iter1 (.obj i) σ' = some (σ' ++ [.iter i 0]) := by simp only [iter1, h2]
  have e1 : (σ' ++ [AO.iter i 0] ++ [.list []])[σ'.length]? = some (.iter i 0) := by rw [List.append_assoc, t_get0]; rfl
  have e2 : (σ' ++ [AO.iter i 0] ++ [.list []])[i]? = some (.list []) := by rw [List.append_assoc, List.getElem?_append_left hi, h2]
  have e3 : next1 σ'.length (σ' ++ [AO.iter i 0] ++ [.list []]) = some (none, σ' ++ [.gone] ++ [.list []]) := by
    simp only [next1, e1, e2, List.getElem?_nil]
    rw [List.append_assoc, t_set0, List.append_assoc]; rfl
  simp only [R.bind, bad?, e0]
  rw [compI, e3]
theorem L676W (h : Lx k τ a.rows) (hp : p ≠ 0) (hl : a.rows.length < 100000) (ht : 1 < a.ticks) : callI fns mets inits (n + 80) 676 [.obj k.u1, .obj 12, .int s, .int p] (W k a τ) = .ok .none (W k { a with rows := a.rows ++ [.obj (k.q + τ.length)] } (τ ++ [.tup [.str "insert", .int s, .int (s + p)]])) := by
  simp -implicitDefEqProofs only [c_676, F676, okV_, e_loc, k1_, e_att, kM_, e_met, es_nil, kE2_, kE1_, es_cons, kX_n, kRet_n, x_nil, x_cons, k47_, s_exp, aW_point, aW_saved_ticks, mW_618_is_modified, mW_260_note_insert, aW_list, List.lookup_cons, String.reduceBEq, decide_true, L601W, ht, L231W h hp hl]
/-- a piece of text, as an object -/
noncomputable def Pc (k : Kst) (τ : H) (i : Nat) (C : List Int) : Prop := ∃ d c rv, At k.q τ i (.inst 651 d) ∧ At k.q τ d (.dict [("codes", .obj c), ("runs", rv)]) ∧ At k.q τ c (.list (il C))
theorem Pc.pre {τ' : H} (h : Pc k τ i C) (p : τ <+: τ') : Pc k τ' i C := by obtain ⟨d, c, rv, h1, h2, h3⟩ := h; exact ⟨d, c, rv, h1.pre p, h2.pre p, h3.pre p⟩
theorem cut_len {T : List Int} {s e : Nat} (h : s ≤ e) (h' : e ≤ T.length) : ((T.take e).drop s).length = e - s := by rw [List.length_drop, List.length_take]; lia
theorem cut_ne {T : List Int} {s e : Int} (h : 1 ≤ s) (h1 : s < e) (h2 : e ≤ T.length + 1) : (T.take (e - 1).toNat).drop (s - 1).toNat ≠ [] := fun q => by
  have := congrArg List.length q
  rw [cut_len (by lia) (by lia), List.length_nil] at this
  lia
theorem new2 {b : Nat} {τ : H} {o o' : AO} : At b (τ ++ [o] ++ [o']) (b + τ.length + 1) o' := by
  have := At.new (b := b) (τ := τ ++ [o]) (o := o')
  rw [List.length_append] at this; exact this
theorem L681W {b : Bool} (h : Gx a T N) (hN : N ≤ 10000) (hs : 1 ≤ s) (hse : s < e) (he : e ≤ T.length + 1) (hb : Ls k τ a.rows b) (hl : a.rows.length < 100000) (ht : 1 < a.ticks)
    (kk : ∀ i pi fl τ', τ <+: τ' → At k.q τ' i (.tup [.str "delete", .int s, .obj pi, .bool fl]) → Pc k τ' pi ((T.take (e - 1).toNat).drop (s - 1).toNat) → Q .none (W k { a with rows := a.rows ++ [.obj i] } τ')) :
    Run F (callI fns mets inits (n + 120) 681 [.obj k.u1, .obj 12, .int s, .int e] (W k a τ)) Q := by
  have hc : At k.q (τ ++ [.cell (some (.int s))]) (k.q + τ.length) (.cell (some (.int s))) := At.new
  have p₀ : τ <+: τ ++ [.cell (some (.int s))] := pf
  rw [c_681, app_W, len_W, run_bind]
  generalize τ ++ [.cell (some (.int s))] = τ₀ at hc p₀
  simp -implicitDefEqProofs only [F681, run_bind, okV_, e_loc, k1_, e_att, k8_, e_isn, brE_t, okN_, k14_, e_not, k15_, e_ifx, kL0, e_lst, es_nil, kX_n, x_nil, x_cons, k35_, s_set, brS_f, k49_, s_ife, aW_props, aW_list, aW_uis_on, len_W, app_W, List.lookup_cons, String.reduceBEq, decide_true, Bool.not_true]
  rw [comp_empty (i := k.q + τ₀.length) (σ' := W k a (τ₀ ++ [.list []])) (by simp -implicitDefEqProofs only [okV_, e_loc, List.lookup_cons, String.reduceBEq]) g1W]
  simp -implicitDefEqProofs only [run_ok, kQ_eq, run_bind, okV_, e_loc, e_cel, k1_, e_att, kL0, e_lst, e_met, es_nil, es_cons, kX_n, x_cons, k35_, s_set, s_for, aW_markers, mW_477_within, len_W, app_W, List.lookup_cons, String.reduceBEq]
  have hc4 : At k.q (τ₀ ++ [.list []] ++ [.gone] ++ [.list []] ++ [.list []]) (k.q + τ.length) (.cell (some (.int s))) := hc.app.app.app.app
  have hm : At k.q (τ₀ ++ [.list []] ++ [.gone] ++ [.list []] ++ [.list []]) (k.q + (τ₀ ++ [AO.list []] ++ [AO.gone] ++ [AO.list []]).length) (.list []) := At.new
  have p4 : τ₀ <+: τ₀ ++ [.list []] ++ [.gone] ++ [.list []] ++ [.list []] := pre4
  generalize τ₀ ++ [AO.list []] ++ [AO.gone] ++ [AO.list []] ++ [AO.list []] = τ₁ at hc4 p4 hm ⊢
  generalize k.q + (τ₀ ++ [AO.list []] ++ [AO.gone] ++ [AO.list []]).length = mk at hm ⊢
  generalize k.q + (τ₀ ++ [AO.list []]).length + 1 = ru
  simp -implicitDefEqProofs only [celR_ (at_W hc4), celR_ (at_W4 hc4), L453W, kF_empty g3W, run_ok, kQ_eq, run_bind, okV_, e_loc, e_cel, kM_, e_new651, e_met, es_nil, kE2_, kE1_, es_cons, kX_n, x_cons, s_set, mW_618_codes, app_W, List.lookup_cons, String.reduceBEq]
  refine L580W h hs (Int.le_of_lt hse) he hN fun c τ₂ p₂ hr => ?_
  have p₁ : τ₁ <+: τ₂ := pre4.trans p₂
  simp -implicitDefEqProofs only [run_ok, kQ_eq, run_bind, okV_, e_loc, e_cel, k1_, e_att, kN2_, kNC_, e_met, es_nil, kE2_, kE1_, es_cons, kX_n, x_cons, k35_, s_exp, mW_260_note_delete, aW_list, len_W, app_W, List.lookup_cons, String.reduceBEq, L648W]
  have i1 : At k.q (τ₂ ++ [.dict [("codes", .obj c), ("runs", .obj ru)]] ++ [.inst 651 (k.q + τ₂.length)]) (k.q + τ₂.length + 1) (.inst 651 (k.q + τ₂.length)) := new2
  have i2 : At k.q (τ₂ ++ [.dict [("codes", .obj c), ("runs", .obj ru)]] ++ [.inst 651 (k.q + τ₂.length)]) (k.q + τ₂.length) (.dict [("codes", .obj c), ("runs", .obj ru)]) := At.app At.new
  have p₃ := p₁.trans (pre2 (a := .dict [("codes", .obj c), ("runs", .obj ru)]) (b := .inst 651 (k.q + τ₂.length)))
  have p₅ := (p₀.trans p4).trans p₃
  have h3 := hr.1.pre (pre2 (a := .dict [("codes", .obj c), ("runs", .obj ru)]) (b := .inst 651 (k.q + τ₂.length)))
  simp -implicitDefEqProofs only [celR_ (at_W (hc4.pre p₃)), L601W, ht, run_ok, kQ_eq, okV_, e_loc, k1_, e_att, kM_, e_met, es_nil, kE2_, kE1_, es_cons, kX_n, kRet_n, x_nil, k47_, aW_point, aW_saved_ticks, mW_618_is_modified, List.lookup_cons, String.reduceBEq, decide_true, L238W (hb.pre p₅) i1 i2 h3 (cut_ne hs hse he) (hm.pre p₃) hl]
  exact kk _ _ _ _ (p₅.trans pre2) At.new ⟨_, _, _, i1.app.app, i2.app.app, h3.app.app⟩
end
end Mine.I

namespace Mine.I
section
variable {k : Kst} {a : Sta} {τ l₀ l₁ l₂ l₃ l₄ : H} {n : Nat} {m : Fm} {F : H → Prop} {T C : List Int} {N i j c ci : Nat} {Q : V → H → Prop} {z s e p t M x : Int} {v v₁ v₂ v₃ : V} {rs : List V} {o o' : AO}
theorem unp2 {x y : String} : unpR [x, y] m (.obj (k.q + τ.length)) (W k a (τ ++ [.tup [v, v₁]])) = .ok (.next, ⟨(y, v₁) :: (x, v) :: m.l, m.c⟩) (W k a (τ ++ [.tup [v, v₁]])) := unp_eq g1W rfl
theorem set1 : (W k a (τ ++ [o])).set (k.q + τ.length) o' = W k a (τ ++ [o']) := by rw [set_W, t_set0]; rfl
theorem ne_len {C : List Int} (h : C ≠ []) : ¬ ((C.length : Int) = 0) := by cases C with
  | nil => exact absurd rfl h
  | cons _ _ => simp only [List.length_cons]; lia
theorem at_ne (h : At 24 τ i o) : i ≠ 19 := by obtain ⟨t, rfl, _⟩ := h; lia
theorem at_neW (h : At k.q τ i o) : i ≠ 19 := by obtain ⟨t, rfl, _⟩ := h; unfold Kst.q; lia
theorem pl1 {x : Int} {n : Nat} (h : 1 ≤ x) : 0 ≤ x - 1 := by lia
theorem pl2 {x : Int} {n : Nat} (h : x ≤ n + 1) : x - 1 ≤ n := by lia
theorem L83X (hu : a.un = .none) (h : Gx a T N) (h0 : 1 ≤ p) (h2 : p ≤ T.length + 1) (hC : At 24 τ i (.list (il C))) (hc : C.length ≤ 50) (hN : N ≤ 5000)
    (kk : ∀ cells gs ge pt τ', τ <+: τ' → Gx { a with cells := cells, gs := gs, ge := ge } (T.take (p - 1).toNat ++ C ++ T.drop (p - 1).toNat) (N + C.length + 8) → Q .none (X k { a with cells := cells, gs := gs, ge := ge, point := pt, zv := a.zv + C.length } τ')) : Run F (callI fns mets inits (n + 60) 83 [.obj 12, .int p, .obj i] (X k a τ)) Q := by
  simp only [c_83, F83, run_bind, e_int, okV_, e_loc, k1_, e_att, k2_, k3_, e_bin, k9_, e_isnn, kM_, e_met, es_nil, kE2_, kE1_, es_cons, kX_n, x_nil, x_cons, s_exp, brS_f, k49_, s_ife, b_sub, aX_text, mX_407_insert, List.lookup_cons, String.reduceBEq, decide_true, Bool.not_true, aX_u hu]
  refine L376X h (pl1 (n := 0) h0) (pl2 h2) hC hc (at_ne hC) hN fun cells gs ge τ₁ p₁ g => ?_
  by_cases c1 : p < a.point
  · simp only [run_ok, kQ_eq, okV_, e_loc, okB_, k1_, e_att, k2_, k3_, e_bin, k4_, k5_, e_cmp, k26_, e_len, kX_n, kRet_n, x_nil, x_cons, kS_, s_sat, k47_, brS_t, k49_, s_ife, b_add, c_gt, aX_point, aX_zv, sX_point, sX_zv, List.lookup_cons, String.reduceBEq, decide_true, l_len (at_X (hC.pre p₁)), il_len, c1]
    exact kk _ _ _ _ τ₁ p₁ g
  · simp only [run_ok, kQ_eq, okV_, e_loc, okB_, k1_, e_att, k2_, k3_, e_bin, k4_, k5_, e_cmp, k26_, e_len, kX_n, kRet_n, x_nil, x_cons, kS_, s_sat, k47_, brS_f, k49_, s_ife, b_add, c_gt, aX_point, aX_zv, sX_zv, List.lookup_cons, String.reduceBEq, decide_false, l_len (at_X (hC.pre p₁)), il_len, c1]
    exact kk _ _ _ _ τ₁ p₁ g
theorem L83W (hu : a.un = .obj k.u1) (ht : 1 < a.ticks) (hb : Lx k τ a.rows) (hl : a.rows.length < 100000) (hC0 : C ≠ []) (h : Gx a T N) (h0 : 1 ≤ p) (h2 : p ≤ T.length + 1) (hC : At k.q τ i (.list (il C))) (hc : C.length ≤ 50) (hN : N ≤ 5000)
    (kk : ∀ cells gs ge pt r τ', τ <+: τ' → Gx { a with cells := cells, gs := gs, ge := ge } (T.take (p - 1).toNat ++ C ++ T.drop (p - 1).toNat) (N + C.length + 8) → At k.q τ' r (.tup [.str "insert", .int p, .int (p + C.length)]) → Q .none (W k { a with cells := cells, gs := gs, ge := ge, point := pt, zv := a.zv + C.length, rows := a.rows ++ [.obj r] } τ')) : Run F (callI fns mets inits (n + 100) 83 [.obj 12, .int p, .obj i] (W k a τ)) Q := by
  simp -implicitDefEqProofs only [c_83, F83, run_bind, e_int, okV_, e_loc, k1_, e_att, k2_, k3_, e_bin, k9_, e_isnn, kM_, e_met, k26_, e_len, es_nil, kE2_, kE1_, es_cons, kX_n, x_nil, x_cons, k47_, s_exp, brS_t, k49_, s_ife, b_sub, aW_text, mW_407_insert, mW_691_text_comes, List.lookup_cons, String.reduceBEq, decide_false, reduceCtorEq, Bool.not_false, aW_u hu, l_len (at_W hC), il_len, L676W hb (ne_len hC0) hl ht]
  refine L376W (T := T) (N := N) h (pl1 (n := 0) h0) (pl2 h2) hC.app hc (at_neW hC) hN fun cells gs ge τ₁ p₁ g => ?_
  by_cases c1 : p < a.point
  · simp -implicitDefEqProofs only [run_ok, kQ_eq, okV_, e_loc, okB_, k1_, e_att, k2_, k3_, e_bin, k4_, k5_, e_cmp, k26_, e_len, kX_n, kRet_n, x_nil, x_cons, kS_, s_sat, k47_, brS_t, k49_, s_ife, b_add, c_gt, aW_point, aW_zv, sW_point, sW_zv, List.lookup_cons, String.reduceBEq, decide_true, l_len (at_W (hC.pre (pf.trans p₁))), il_len, c1]
    exact kk _ _ _ _ _ τ₁ (pf.trans p₁) g (At.new.pre p₁)
  · simp -implicitDefEqProofs only [run_ok, kQ_eq, okV_, e_loc, okB_, k1_, e_att, k2_, k3_, e_bin, k4_, k5_, e_cmp, k26_, e_len, kX_n, kRet_n, x_nil, x_cons, kS_, s_sat, k47_, brS_f, k49_, s_ife, b_add, c_gt, aW_point, aW_zv, sW_zv, List.lookup_cons, String.reduceBEq, decide_false, l_len (at_W (hC.pre (pf.trans p₁))), il_len, c1]
    exact kk _ _ _ _ _ τ₁ (pf.trans p₁) g (At.new.pre p₁)
theorem L104X (hu : a.un = .none) (h : Gx a T N) (h0 : 1 ≤ p) (h2 : p ≤ T.length + 1) (hb1 : a.begv ≤ p) (hb2 : p ≤ a.zv) (hC0 : C ≠ []) (hC : At 24 τ i (.list (il C))) (hc : C.length ≤ 50) (hN : N ≤ 5000)
    (kk : ∀ cells gs ge τ', Gx { a with cells := cells, gs := gs, ge := ge } (T.take (p - 1).toNat ++ C ++ T.drop (p - 1).toNat) (N + C.length + 8) → Q .none (X k { a with cells := cells, gs := gs, ge := ge, point := p + C.length, zv := a.zv + C.length, ticks := a.ticks + 1, ct := a.ticks + 1 } τ')) : Run F (callI fns mets inits (n + 100) 104 [.obj 12, .int p, .obj i, v, .bool true] (X k a τ)) Q := by
  simp -implicitDefEqProofs only [c_104, F104, run_bind, e_int, okV_, e_loc, okB_, k4_, k5_, e_cmp, kC_, e_call, k26_, e_len, es_nil, kE2_, kE1_, es_cons, kX_n, x_nil, x_cons, k47_, s_exp, brS_f, k49_, s_ife, c_eq, List.lookup_cons, String.reduceBEq, decide_false, L48X, L55X hb1 (Int.le_refl p) hb2, l_len (at_X (At.app hC)), il_len, ne_len hC0, L62X]
  refine L83X hu h h0 h2 hC.app.app.app hc hN fun cells gs ge pt τ₁ p₁ g => ?_
  have hC₁ := hC.pre (pre3.trans p₁)
  simp -implicitDefEqProofs only [run_ok, kQ_eq, e_int, okV_, e_loc, k1_, e_att, k2_, k3_, e_bin, kC_, e_call, kM_, e_met, k26_, e_len, es_nil, kE2_, kE1_, es_cons, kX_n, kRet_n, x_nil, x_cons, kS_, s_sat, k47_, s_exp, brS_t, k49_, s_ife, b_add, aX_markers, sX_point, mX_477_inserted, List.lookup_cons, String.reduceBEq, l_len (at_X hC₁), il_len, L460X, l_len (at_X hC₁.app.app), L97X, L69X]
  exact kk _ _ _ _ g
theorem L104W (hu : a.un = .obj k.u1) (ht : 1 < a.ticks) (hb : Lx k τ a.rows) (hl : a.rows.length < 100000) (h : Gx a T N) (h0 : 1 ≤ p) (h2 : p ≤ T.length + 1) (hb1 : a.begv ≤ p) (hb2 : p ≤ a.zv) (hC0 : C ≠ []) (hC : At k.q τ i (.list (il C))) (hc : C.length ≤ 50) (hN : N ≤ 5000)
    (kk : ∀ cells gs ge r τ', τ <+: τ' → Gx { a with cells := cells, gs := gs, ge := ge } (T.take (p - 1).toNat ++ C ++ T.drop (p - 1).toNat) (N + C.length + 8) → At k.q τ' r (.tup [.str "insert", .int p, .int (p + C.length)]) → Q .none (W k { a with cells := cells, gs := gs, ge := ge, point := p + C.length, zv := a.zv + C.length, ticks := a.ticks + 1, ct := a.ticks + 1, rows := a.rows ++ [.obj r] } τ')) : Run F (callI fns mets inits (n + 150) 104 [.obj 12, .int p, .obj i, v, .bool true] (W k a τ)) Q := by
  simp -implicitDefEqProofs only [c_104, F104, run_bind, e_int, okV_, e_loc, okB_, k4_, k5_, e_cmp, kC_, e_call, k26_, e_len, es_nil, kE2_, kE1_, es_cons, kX_n, x_nil, x_cons, k47_, s_exp, brS_f, k49_, s_ife, c_eq, List.lookup_cons, String.reduceBEq, decide_false, L48W, L55W hb1 (Int.le_refl p) hb2, l_len (at_W (At.app hC)), il_len, ne_len hC0, L62W]
  refine L83W hu ht (hb.pre pre3) hl hC0 h h0 h2 hC.app.app.app hc hN fun cells gs ge pt r τ₁ p₁ g hr => ?_
  have hC₁ := hC.pre (pre3.trans p₁)
  simp -implicitDefEqProofs only [run_ok, kQ_eq, e_int, okV_, e_loc, k1_, e_att, k2_, k3_, e_bin, kC_, e_call, kM_, e_met, k26_, e_len, es_nil, kE2_, kE1_, es_cons, kX_n, kRet_n, x_nil, x_cons, kS_, s_sat, k47_, s_exp, brS_t, k49_, s_ife, b_add, aW_markers, sW_point, mW_477_inserted, List.lookup_cons, String.reduceBEq, l_len (at_W hC₁), il_len, L460W, l_len (at_W hC₁.app.app), L97W, L69W]
  exact kk _ _ _ _ _ ((pre3.trans p₁).trans pre4) g (hr.pre pre4)
theorem L112X (hu : a.un = .none) (h : Gx a T N) (h0 : 1 ≤ a.point) (h2 : a.point ≤ T.length + 1) (hb1 : a.begv ≤ a.point) (hb2 : a.point ≤ a.zv) (hC0 : C ≠ []) (hC : At 24 τ i (.list (il C))) (hc : C.length ≤ 50) (hN : N ≤ 5000)
    (kk : ∀ cells gs ge τ', Gx { a with cells := cells, gs := gs, ge := ge } (T.take (a.point - 1).toNat ++ C ++ T.drop (a.point - 1).toNat) (N + C.length + 8) → Q .none (X k { a with cells := cells, gs := gs, ge := ge, point := a.point + C.length, zv := a.zv + C.length, ticks := a.ticks + 1, ct := a.ticks + 1 } τ')) : Run F (callI fns mets inits (n + 120) 112 [.obj 12, .obj i] (X k a τ)) Q := by
  simp only [c_112d, F112, run_bind, e_boo, okV_, e_loc, k1_, e_att, kC_, e_call, es_nil, kE2_, kE1_, es_cons, x_cons, s_exp, aX_point, List.lookup_cons, String.reduceBEq]
  refine L104X hu h h0 h2 hb1 hb2 hC0 hC hc hN fun cells gs ge τ₁ g => ?_
  simp only [run_ok, kQ_eq, kX_n, kRet_n, x_nil, k47_]
  exact kk _ _ _ _ g
theorem L112W (hu : a.un = .obj k.u1) (ht : 1 < a.ticks) (hb : Lx k τ a.rows) (hl : a.rows.length < 100000) (h : Gx a T N) (h0 : 1 ≤ a.point) (h2 : a.point ≤ T.length + 1) (hb1 : a.begv ≤ a.point) (hb2 : a.point ≤ a.zv) (hC0 : C ≠ []) (hC : At k.q τ i (.list (il C))) (hc : C.length ≤ 50) (hN : N ≤ 5000)
    (kk : ∀ cells gs ge r τ', τ <+: τ' → Gx { a with cells := cells, gs := gs, ge := ge } (T.take (a.point - 1).toNat ++ C ++ T.drop (a.point - 1).toNat) (N + C.length + 8) → At k.q τ' r (.tup [.str "insert", .int a.point, .int (a.point + C.length)]) → Q .none (W k { a with cells := cells, gs := gs, ge := ge, point := a.point + C.length, zv := a.zv + C.length, ticks := a.ticks + 1, ct := a.ticks + 1, rows := a.rows ++ [.obj r] } τ')) : Run F (callI fns mets inits (n + 170) 112 [.obj 12, .obj i] (W k a τ)) Q := by
  simp only [c_112d, F112, run_bind, e_boo, okV_, e_loc, k1_, e_att, kC_, e_call, es_nil, kE2_, kE1_, es_cons, x_cons, s_exp, aW_point, List.lookup_cons, String.reduceBEq]
  refine L104W hu ht hb hl h h0 h2 hb1 hb2 hC0 hC hc hN fun cells gs ge r τ₁ p₁ g hr => ?_
  simp only [run_ok, kQ_eq, kX_n, kRet_n, x_nil, k47_]
  exact kk _ _ _ _ _ p₁ g hr
theorem L162W (hu : a.un = .obj k.u1) (ht : 1 < a.ticks) (hb : Lx k τ a.rows) (hl : a.rows.length < 100000) (h : Gx a T N) (h0 : 1 ≤ a.point) (h2 : a.point ≤ T.length + 1) (hb1 : a.begv ≤ a.point) (hb2 : a.point ≤ a.zv) (hC0 : C ≠ []) (hC : Pc k τ i C) (hc : C.length ≤ 50) (hN : N ≤ 5000)
    (kk : ∀ cells gs ge r τ', τ <+: τ' → Gx { a with cells := cells, gs := gs, ge := ge } (T.take (a.point - 1).toNat ++ C ++ T.drop (a.point - 1).toNat) (N + C.length + 8) → At k.q τ' r (.tup [.str "insert", .int a.point, .int (a.point + C.length)]) → Q .none (W k { a with cells := cells, gs := gs, ge := ge, point := a.point + C.length, zv := a.zv + C.length, ticks := a.ticks + 1, ct := a.ticks + 1, rows := a.rows ++ [.obj r] } τ')) : Run F (callI fns mets inits (n + 200) 162 [.obj 12, .obj i] (W k a τ)) Q := by
  obtain ⟨d, c, rv, q1, q2, q3⟩ := hC
  have hs : ∀ {v : V} {l : List (String × V)}, secR "start" v ⟨l, [("start", k.q + τ.length)]⟩ (W k a (τ ++ [.cell none])) = .ok (.next, ⟨l, [("start", k.q + τ.length)]⟩) (W k a (τ ++ [.cell (some v)])) := fun {v l} => by rw [sec_eq (i := k.q + τ.length) (w := none) rfl g1W, set1]
  have ha : ∀ {l}, att1 "codes" (.obj i) (W k a (τ ++ l)) = .ok (.obj c) (W k a (τ ++ l)) := att_eq (at_W' q1) (at_W' q2) rfl rfl
  simp only [c_162, F162, run_bind, okV_, e_loc, k1_, e_att, kC_, e_call, es_nil, kE2_, kE1_, es_cons, kX_n, x_cons, k36_, s_sec, s_exp, aW_point, len_W, app_W, List.lookup_cons, String.reduceBEq, hs, ha]
  refine L112W hu ht (hb.pre pf) hl h h0 h2 hb1 hb2 hC0 q3.app hc hN fun cells gs ge r τ₁ p₁ g hr => ?_
  simp only [run_ok, kQ_eq, okV_, e_loc, k1_, e_att, k9_, e_isnn, brA_f, k10_, e_and2, kX_n, kRet_n, x_nil, x_cons, k47_, brS_f, k49_, s_ife, aW_props, List.lookup_cons, String.reduceBEq, decide_true, Bool.not_true]
  exact kk _ _ _ _ _ (pf.trans p₁) g hr
theorem L76W {b : Bool} (hu : a.un = .obj k.u1) (ht : 1 < a.ticks) (hb : Ls k τ a.rows b) (hl : a.rows.length < 100000) (h : Gx a T N) (h0 : 1 ≤ s) (h1 : s < e) (h2 : e ≤ T.length + 1) (hN : N ≤ 10000)
    (kk : ∀ r i pi fl cells gs ge pt τ', τ <+: τ' → pt = (if s < a.point then max s (a.point - (e - s)) else a.point) → Gx { a with cells := cells, gs := gs, ge := ge } (T.take (s - 1).toNat ++ T.drop (e - 1).toNat) N → At k.q τ' i (.tup [.str "delete", .int s, .obj pi, .bool fl]) → Pc k τ' pi ((T.take (e - 1).toNat).drop (s - 1).toNat) → At k.q τ' r (.list (il ((T.take (e - 1).toNat).drop (s - 1).toNat))) → Q (.obj r) (W k { a with cells := cells, gs := gs, ge := ge, zv := a.zv - (e - s), point := pt, rows := a.rows ++ [.obj i] } τ')) : Run F (callI fns mets inits (n + 140) 76 [.obj 12, .int s, .int e] (W k a τ)) Q := by
  simp only [c_76, F76, run_bind, okV_, e_loc, k1_, e_att, k9_, e_isnn, kM_, e_met, es_nil, kE2_, kE1_, es_cons, x_cons, s_exp, brS_t, k49_, s_ife, mW_691_text_goes, List.lookup_cons, String.reduceBEq, decide_false, reduceCtorEq, Bool.not_false, aW_u hu]
  refine L681W h hN h0 h1 h2 hb hl ht fun i pi fl τ₁ p₁ hi hp => ?_
  simp only [run_ok, kQ_eq, run_bind, e_int, okV_, e_loc, k1_, e_att, k2_, k3_, e_bin, kM_, e_met, es_nil, kE2_, kE1_, es_cons, kX_n, x_nil, x_cons, s_set, k47_, b_sub, aW_text, mW_407_delete, List.lookup_cons, String.reduceBEq]
  refine L383W (T := T) (N := N) h (pl1 (n := 0) h0) (Int.sub_le_sub_right (Int.le_of_lt h1) 1) (pl2 h2) hN fun r cells gs ge τ₂ p₂ g hr => ?_
  by_cases c1 : s < a.point
  · simp only [run_ok, kQ_eq, okV_, e_loc, okB_, k1_, e_att, k2_, k3_, e_bin, k4_, k5_, e_cmp, k33_, k34_, e_mx, kX_n, kX_r, kRet_r, x_nil, x_cons, k35_, kS_, s_sat, k48_, s_ret, brS_t, k49_, s_ife, b_sub, c_gt, l_mx, aW_point, aW_zv, sW_point, sW_zv, List.lookup_cons, String.reduceBEq, decide_true, c1]
    exact kk _ _ _ _ _ _ _ _ τ₂ (p₁.trans p₂) (if_pos c1).symm g (hi.pre p₂) (hp.pre p₂) hr.1
  · simp only [run_ok, kQ_eq, okV_, e_loc, okB_, k1_, e_att, k2_, k3_, e_bin, k4_, k5_, e_cmp, kX_n, kX_r, kRet_r, x_nil, x_cons, k35_, kS_, s_sat, k48_, s_ret, brS_f, k49_, s_ife, b_sub, c_gt, aW_point, aW_zv, sW_zv, List.lookup_cons, String.reduceBEq, decide_false, c1]
    exact kk _ _ _ _ _ _ _ _ τ₂ (p₁.trans p₂) (if_neg c1).symm g (hi.pre p₂) (hp.pre p₂) hr.1
theorem L119W {b : Bool} (hu : a.un = .obj k.u1) (ht : 1 < a.ticks) (hb : Ls k τ a.rows b) (hl : a.rows.length < 100000) (h : Gx a T N) (h0 : 1 ≤ s) (h1 : s < e) (h2 : e ≤ T.length + 1) (hb1 : a.begv ≤ s) (hb2 : e ≤ a.zv) (hN : N ≤ 10000)
    (kk : ∀ r i pi fl cells gs ge pt τ', τ <+: τ' → pt = (if s < a.point then max s (a.point - (e - s)) else a.point) → Gx { a with cells := cells, gs := gs, ge := ge } (T.take (s - 1).toNat ++ T.drop (e - 1).toNat) N → At k.q τ' i (.tup [.str "delete", .int s, .obj pi, .bool fl]) → Pc k τ' pi ((T.take (e - 1).toNat).drop (s - 1).toNat) → At k.q τ' r (.list (il ((T.take (e - 1).toNat).drop (s - 1).toNat))) → Q (.obj r) (W k { a with cells := cells, gs := gs, ge := ge, zv := a.zv - (e - s), point := pt, rows := a.rows ++ [.obj i], ticks := a.ticks + 1, ct := a.ticks + 1 } τ')) : Run F (callI fns mets inits (n + 170) 119 [.obj 12, .int s, .int e] (W k a τ)) Q := by
  simp -implicitDefEqProofs only [c_119, F119, run_bind, okV_, e_loc, okB_, k4_, k5_, e_cmp, kC_, e_call, es_nil, kE2_, kE1_, es_cons, kX_n, x_nil, x_cons, s_set, k37_, s_unp, k47_, s_exp, brS_f, k49_, s_ife, c_eq, List.lookup_cons, String.reduceBEq, decide_false, L48W, L55W hb1 (Int.le_of_lt h1) hb2, unp2, eq_false (Int.ne_of_lt h1), L62W]
  refine L76W hu ht (hb.pre pre3) hl h h0 h1 h2 hN fun r i pi fl cells gs ge pt τ₁ p₁ hpt g hi hp hr => ?_
  simp -implicitDefEqProofs only [run_ok, kQ_eq, okV_, e_loc, k1_, e_att, k2_, k3_, e_bin, kC_, e_call, kM_, e_met, es_nil, kE2_, kE1_, es_cons, kX_n, kX_r, kRet_r, x_cons, k35_, k47_, s_exp, k48_, s_ret, b_sub, aW_markers, mW_477_deleted, List.lookup_cons, String.reduceBEq, L467W, L90W, L69W]
  exact kk _ _ _ _ _ _ _ _ _ ((pre3.trans p₁).trans pre4) hpt g (hi.pre pre4) (hp.pre pre4) (hr.pre pre4)
end
end Mine.I

namespace Mine.I
/-- a change of the text -/
inductive Ch where
  | ins (s : Int) (C : List Int)
  | del (s : Int) (C : List Int)
noncomputable def Ch.s : Ch → Int | .ins s _ => s | .del s _ => s
noncomputable def Ch.C : Ch → List Int | .ins _ C => C | .del _ C => C
noncomputable def Ch.w : Ch → String | .ins _ _ => "insert" | .del _ _ => "delete"
noncomputable def Ch.last : Ch → Int | .ins s C => s + C.length | .del s _ => s
noncomputable def Ch.dz : Ch → Int | .ins _ C => - C.length | .del _ C => C.length
noncomputable def Ch.undo (T : List Int) : Ch → List Int
  | .ins s C => T.take (s - 1).toNat ++ T.drop ((s - 1).toNat + C.length)
  | .del s C => T.take (s - 1).toNat ++ C ++ T.drop (s - 1).toNat
noncomputable def Rw (k : Kst) (τ : H) (i : Nat) : Ch → Prop
  | .ins s C => At k.q τ i (.tup [.str "insert", .int s, .int (s + C.length)])
  | .del s C => ∃ pi fl, At k.q τ i (.tup [.str "delete", .int s, .obj pi, .bool fl]) ∧ Pc k τ pi C
theorem Rw.pre {k : Kst} {τ τ' : H} {i : Nat} {c : Ch} (h : Rw k τ i c) (p : τ <+: τ') : Rw k τ' i c := by
  cases c with
  | ins s C => exact At.pre h p
  | del s C => obtain ⟨pi, fl, h1, h2⟩ := h; exact ⟨pi, fl, h1.pre p, h2.pre p⟩
theorem Rw.at {k : Kst} {τ : H} {i : Nat} {c : Ch} (h : Rw k τ i c) : ∃ r, At k.q τ i (.tup (.str c.w :: r)) := by
  cases c with
  | ins s C => exact ⟨_, h⟩
  | del s C => obtain ⟨pi, fl, h1, h2⟩ := h; exact ⟨_, h1⟩
theorem Ch.wb {c : Ch} : c.w ≠ "boundary" := by cases c <;> simp [Ch.w]
theorem Gx.mono {a : Sta} {T : List Int} {N M : Nat} (h : Gx a T N) (l : N ≤ M) : Gx a T M := by
  obtain ⟨L, M', R, h1, h2, h3, h4, h5⟩ := h
  exact ⟨L, M', R, h1, h2, h3, h4, Nat.le_trans h5 l⟩
/-- what an undone change leaves, and what follows on it -/
noncomputable def Uk (k : Kst) (a : Sta) (τ : H) (T : List Int) (N : Nat) (ch : Ch) (P : H → Prop) : Prop :=
  ∀ cells gs ge pt i τ', τ <+: τ' → Gx { a with cells := cells, gs := gs, ge := ge } (ch.undo T) (N + 60) → a.begv ≤ pt → pt ≤ a.zv + ch.dz → Ls k τ' (a.rows ++ [.obj i]) false → P (W k { a with cells := cells, gs := gs, ge := ge, point := pt, zv := a.zv + ch.dz, ticks := a.ticks + 1, ct := a.ticks + 1, rows := a.rows ++ [.obj i] } τ')
theorem Uk.imp {k : Kst} {a : Sta} {τ τ₁ : H} {T : List Int} {N : Nat} {ch : Ch} {P P' : H → Prop} (h : Uk k a τ T N ch P) (p : τ <+: τ₁) (hi : ∀ σ, P σ → P' σ) : Uk k a τ₁ T N ch P' := fun cells gs ge pt i τ' p' g h1 h2 h3 => hi _ (h cells gs ge pt i τ' (p.trans p') g h1 h2 h3)
section
variable {k : Kst} {a : Sta} {τ l₀ l₁ l₂ l₃ l₄ : H} {n : Nat} {m : Fm} {F : H → Prop} {T C : List Int} {N i j c ci ri : Nat} {Q : V → H → Prop} {z s e p t M x : Int} {v v₁ v₂ v₃ : V} {rs kept : List V} {o o' : AO} {ch : Ch}
theorem L278W (h1 : a.begv ≤ s) (h2 : e ≤ a.zv) : callI fns mets inits (n + 30) 278 [.obj 12, .int s, .int e] (W k a τ) = .ok .none (W k a τ) := by
  have e1 : ¬ s < a.begv := by lia
  have e2 : ¬ a.zv < e := by lia
  simp only [c_278, F278, okV_, e_loc, okB_, k1_, e_att, k4_, k5_, e_cmp, brO_f, k11_, e_or2, kX_n, kRet_n, x_nil, x_cons, brS_f, k49_, s_ife, c_lt, c_gt, aW_begv, aW_zv, List.lookup_cons, String.reduceBEq, decide_false, e1, e2]
theorem L278Wx (h : ¬ (a.begv ≤ s ∧ e ≤ a.zv)) : callI fns mets inits (n + 30) 278 [.obj 12, .int s, .int e] (W k a τ) = .exc "error" (W k a (τ ++ [.list [.str "Changes to be undone are outside visible portion of buffer"]])) := by
  by_cases e1 : s < a.begv
  · simp only [c_278, F278, b_exc, e_str, okV_, e_loc, okB_, k1_, e_att, k4_, k5_, e_cmp, brO_t, k11_, e_or2, kL1, e_lst, es_nil, kE2_, kE1_, es_cons, x_cons, brS_t, k49_, s_ife, kRai_, s_rai, c_lt, aW_begv, len_W, app_W, List.lookup_cons, String.reduceBEq, decide_true, e1]
  · have e2 : a.zv < e := by lia
    simp only [c_278, F278, b_exc, e_str, okV_, e_loc, okB_, k1_, e_att, k4_, k5_, e_cmp, brO_f, k11_, e_or2, kL1, e_lst, es_nil, kE2_, kE1_, es_cons, x_cons, brS_t, k49_, s_ife, kRai_, s_rai, c_lt, c_gt, aW_begv, aW_zv, len_W, app_W, List.lookup_cons, String.reduceBEq, decide_true, decide_false, e1, e2]
theorem L285W (hk : At k.q τ ri (.list kept)) (h : t = 0 ∨ (0 < t ∧ item1 kept (t - 1) = some (.glob 175))) : callI fns mets inits (n + 60) 285 [.obj ri, .int t] (W k a τ) = .ok (.obj (k.q + τ.length)) (W k a (τ ++ [.list []])) := by
  rcases h with rfl | ⟨h1, h2⟩
  · have e1 : ¬ (0 : Int) < 0 := by decide
    simp only [c_285, F285, e_int, okV_, e_loc, okB_, k4_, k5_, e_cmp, brA_f, k10_, e_and2, kL0, e_lst, es_nil, kX_n, kX_r, kRet_r, x_cons, k35_, s_set, k48_, s_ret, s_whl, brW_f, kW0_, c_gt, len_W, app_W, List.lookup_cons, String.reduceBEq, decide_false, w_eq, e1]
  · simp only [c_285, F285, e_int, e_str, okV_, e_loc, okB_, k2_, k3_, e_bin, k4_, k5_, e_cmp, brA_t, k10_, e_and2, kL0, e_lst, k16_, k17_, e_idx, es_nil, kX_n, kX_r, kRet_r, x_cons, k35_, s_set, k48_, s_ret, s_whl, brW_f, kW0_, b_sub, c_gt, c_eqs, l_idxb, len_W, app_W, List.lookup_cons, String.reduceBEq, String.reduceEq, decide_true, decide_false, w_eq, h1, l_idx (at_W' hk) h2]
theorem mm {s lo hi : Int} (h1 : lo ≤ s) (h2 : s ≤ hi) : min (max s lo) hi = s := by lia
theorem L292W {b : Bool} (hu : a.un = .obj k.u1) (ht : 1 < a.ticks) (hb : Ls k τ a.rows b) (hl : a.rows.length < 100000) (h : Gx a T N) (h0 : 1 ≤ s) (hC0 : C ≠ []) (h2 : s + C.length ≤ T.length + 1) (hb1 : a.begv ≤ s) (hb2 : s + C.length ≤ a.zv) (hN : N ≤ 10000) (hr : Rw k τ i (.ins s C)) (kk : Uk k a τ T N (.ins s C) (Q .none)) : Run F (callI fns mets inits (n + 220) 292 [.obj 12, .obj i] (W k a τ)) Q := by
  have hc := ne_len hC0
  have hs : s < s + (C.length : Int) := by lia
  have hr : At k.q τ i (.tup [.str "insert", .int s, .int (s + C.length)]) := hr
  simp only [c_292, F292, run_bind, e_int, okV_, e_loc, k16_, k17_, e_idx, kC_, e_call, kM_, e_met, es_nil, kE2_, kE1_, es_cons, kX_n, x_cons, k47_, s_exp, mW_618_goto, List.lookup_cons, String.reduceBEq, l_idxt (at_W hr) it1, l_idxt (at_W hr) it2, L278W hb1 hb2, L587W, mm hb1 (Int.le_trans (Int.le_of_lt hs) hb2)]
  refine L119W (T := T) (N := N) hu ht hb hl h h0 hs h2 hb1 hb2 hN fun r i pi fl cells gs ge pt τ₁ p₁ hpt g hi hp hr => ?_
  simp only [run_ok, kQ_eq, kX_n, kRet_n, x_nil, k47_]
  rw [show (s + (C.length : Int) - 1).toNat = (s - 1).toNat + C.length by clear hpt; lia] at g
  rw [hpt, if_neg (Int.lt_irrefl _), show a.zv - (s + (C.length : Int) - s) = a.zv + (Ch.ins s C).dz by show _ = a.zv + -(C.length : Int); clear hpt; lia]
  exact kk cells gs ge s i τ₁ p₁ (g.mono (Nat.le_add_right _ _)) hb1 (by show s ≤ a.zv + -(C.length : Int); clear hpt; lia) (.row hi (by decide) (by decide))
theorem L299W (hu : a.un = .obj k.u1) (ht : 1 < a.ticks) (hb : Lx k τ a.rows) (hl : a.rows.length < 100000) (h : Gx a T N) (h0 : 1 ≤ s) (hC0 : C ≠ []) (hc : C.length ≤ 50) (h2 : s ≤ T.length + 1) (hb1 : a.begv ≤ s) (hb2 : s ≤ a.zv) (hN : N ≤ 5000) (hr : Rw k τ i (.del s C)) (hm : At k.q τ j (.list [])) (kk : Uk k a τ T N (.del s C) (Q .none)) : Run F (callI fns mets inits (n + 230) 299 [.obj 12, .obj i, .obj j] (W k a τ)) Q := by
  obtain ⟨pi, fl, hr, hp⟩ := hr
  simp only [c_299, F299, run_bind, e_int, okV_, e_loc, kL0, e_lst, k16_, k17_, e_idx, kC_, e_call, kM_, e_met, es_nil, kE2_, kE1_, es_cons, kX_n, x_cons, k35_, s_set, k47_, s_exp, s_for, mW_618_goto, len_W, app_W, List.lookup_cons, String.reduceBEq, l_idxt (at_W hr) it1, l_idxt (at_W2 hr) it1, l_idxt (at_W2 hr) it2, L278W hb1 hb2, L587W, mm hb1 hb2, kF_empty (at_W' hm)]
  refine L162W (T := T) (N := N) (C := C) hu ht (hb.pre pre2) hl h h0 h2 hb1 hb2 hC0 (hp.pre pre2) hc hN fun cells gs ge r τ₁ p₁ g hi => ?_
  have hr₁ := hr.pre (pre2.trans p₁)
  have hv : At k.q τ₁ (k.q + τ.length) (.list []) := (At.app At.new).pre p₁
  have g' := g.mono (M := N + 60) (by lia)
  cases fl with
  | true =>
    simp only [run_ok, kQ_eq, e_int, okV_, e_loc, okN_, k14_, e_not, k16_, k17_, e_idx, kX_n, kRet_n, x_nil, x_cons, k47_, brS_f, k49_, s_ife, s_for, app_W, List.lookup_cons, String.reduceBEq, Bool.not_true, l_idxt (at_W hr₁) it3, kF_empty (at_W hv)]
    exact kk cells gs ge (s + C.length) r _ ((pre2.trans p₁).trans pf) g' (by lia) (Int.add_le_add_right hb2 _) (.ins hi.app)
  | false =>
    simp only [run_ok, kQ_eq, e_int, okV_, e_loc, okN_, k14_, e_not, k16_, k17_, e_idx, kM_, e_met, es_nil, kE2_, kE1_, es_cons, kX_n, kRet_n, x_nil, x_cons, k47_, s_exp, brS_t, k49_, s_ife, s_for, mW_618_goto, app_W, List.lookup_cons, String.reduceBEq, Bool.not_false, l_idxt (at_W hr₁) it3, l_idxt (at_W hr₁) it1, L587W, mm hb1 (show s ≤ a.zv + (C.length : Int) by lia), kF_empty (at_W hv)]
    exact kk cells gs ge s r _ ((pre2.trans p₁).trans pf) g' hb1 (show s ≤ a.zv + (C.length : Int) by lia) (.ins hi.app)
/-- may the change be undone here -/
noncomputable def Ch.can (a : Sta) (ch : Ch) : Prop := a.begv ≤ ch.s ∧ ch.last ≤ a.zv
theorem L306W {b : Bool} (hk : At k.q τ ri (.list kept)) (hrow : item1 kept (t - 1) = some (.obj i)) (hr : Rw k τ i ch) (ht0 : t - 1 = 0 ∨ (0 < t - 1 ∧ item1 kept (t - 1 - 1) = some (.glob 175))) (hcan : ch.can a) (hu : a.un = .obj k.u1) (ht : 1 < a.ticks) (hb : Ls k τ a.rows b) (hx : ch.w = "delete" → Lx k τ a.rows) (hl : a.rows.length < 100000) (h : Gx a T N) (h0 : 1 ≤ ch.s) (hC0 : ch.C ≠ []) (hc : ch.C.length ≤ 50) (h2 : ch.last ≤ T.length + 1) (hN : N ≤ 5000) (kk : Uk k a τ T N ch (Q (.int (t - 1)))) :
    Run F (callI fns mets inits (n + 260) 306 [.obj 12, .obj ri, .int t] (W k a τ)) Q := by
  obtain ⟨hc1, hc2⟩ := hcan
  cases ch with
  | ins s C =>
    have hr' : At k.q τ i (.tup [.str "insert", .int s, .int (s + C.length)]) := hr
    simp only [c_306, F306, run_bind, e_int, e_str, okV_, e_loc, okB_, k2_, k3_, e_bin, k4_, k5_, e_cmp, k16_, k17_, e_idx, kC_, e_call, es_nil, kE2_, kE1_, es_cons, kX_n, x_cons, k35_, s_set, s_exp, brS_t, k49_, s_ife, b_sub, c_eqs, List.lookup_cons, String.reduceBEq, decide_true, l_idx (at_W hk) hrow, l_idxt (at_W hr') it0]
    refine L292W hu ht hb hl h h0 hC0 h2 hc1 hc2 (Nat.le_trans hN (by decide)) hr fun cells gs ge pt i τ₁ p₁ g h1 h2 h3 => ?_
    simp only [run_ok, kQ_eq, okV_, e_loc, kX_n, kX_r, kRet_r, x_nil, x_cons, k47_, k48_, s_ret, List.lookup_cons, String.reduceBEq]
    exact kk cells gs ge pt i τ₁ p₁ g h1 h2 h3
  | del s C =>
    obtain ⟨pi, fl, hr', hp'⟩ := id hr
    have es : ¬ "delete" = "insert" := by decide
    simp only [c_306, F306, run_bind, e_int, e_str, okV_, e_loc, okB_, k2_, k3_, e_bin, k4_, k5_, e_cmp, k16_, k17_, e_idx, kC_, e_call, es_nil, kE2_, kE1_, es_cons, kX_n, x_cons, k35_, s_set, s_exp, brS_t, brS_f, k49_, s_ife, b_sub, c_eqs, List.lookup_cons, String.reduceBEq, decide_true, decide_false, l_idx (at_W hk) hrow, l_idxt (at_W hr') it0, es, L285W hk ht0]
    refine L299W hu ht ((hx rfl).pre pf) hl h h0 hC0 hc h2 hc1 hc2 hN (hr.pre pf) At.new fun cells gs ge pt i τ₁ p₁ g h1 h2 h3 => ?_
    simp only [run_ok, kQ_eq, okV_, e_loc, k2_, k3_, e_bin, k26_, e_len, kX_n, kX_r, kRet_r, x_nil, x_cons, k35_, s_set, k47_, k48_, s_ret, b_sub, List.lookup_cons, String.reduceBEq, l_len (at_W (At.new.pre p₁)), List.length_nil, Int.natCast_zero, Int.sub_zero]
    exact kk cells gs ge pt i τ₁ (pf.trans p₁) g h1 h2 h3
theorem L306Wx (hk : At k.q τ ri (.list kept)) (hrow : item1 kept (t - 1) = some (.obj i)) (hr : Rw k τ i ch) (ht0 : t - 1 = 0 ∨ (0 < t - 1 ∧ item1 kept (t - 1 - 1) = some (.glob 175))) (hcan : ¬ ch.can a) (hF : ∀ τ', τ <+: τ' → F (W k a τ')) :
    Run F (callI fns mets inits (n + 260) 306 [.obj 12, .obj ri, .int t] (W k a τ)) Q := by
  cases ch with
  | ins s C =>
    have hr' : At k.q τ i (.tup [.str "insert", .int s, .int (s + C.length)]) := hr
    have hcan : ¬ (a.begv ≤ s ∧ s + C.length ≤ a.zv) := hcan
    simp only [c_306, F306, b_exc, run_exc, e_int, e_str, okV_, e_loc, okB_, k2_, k3_, e_bin, k4_, k5_, e_cmp, k16_, k17_, e_idx, kC_, e_call, es_nil, kE2_, kE1_, es_cons, kX_n, x_cons, k35_, s_set, s_exp, brS_t, k49_, s_ife, b_sub, c_eqs, List.lookup_cons, String.reduceBEq, decide_true, l_idx (at_W hk) hrow, l_idxt (at_W hr') it0, c_292, F292, l_idxt (at_W hr') it1, l_idxt (at_W hr') it2, L278Wx hcan, b_exc]
    exact hF _ pf
  | del s C =>
    obtain ⟨pi, fl, hr', hp'⟩ := id hr
    have hcan : ¬ (a.begv ≤ s ∧ s ≤ a.zv) := hcan
    have es : ¬ "delete" = "insert" := by decide
    simp only [c_306, F306, b_exc, run_exc, e_int, e_str, okV_, e_loc, okB_, k2_, k3_, e_bin, k4_, k5_, e_cmp, k16_, k17_, e_idx, kC_, e_call, es_nil, kE2_, kE1_, es_cons, kX_n, x_cons, k35_, s_set, s_exp, brS_t, brS_f, k49_, s_ife, b_sub, c_eqs, List.lookup_cons, String.reduceBEq, decide_true, decide_false, l_idx (at_W hk) hrow, l_idxt (at_W hr') it0, es, L285W hk ht0, c_299, F299, l_idxt (at_W' hr') it1, L278Wx hcan, b_exc]
    exact hF _ pre2
/-- where a group ends in the list kept: the row m - 1, t is behind it or behind its boundary -/
structure Grp (kept : List V) (t m : Int) (i : Nat) : Prop where
  pos : 0 < m
  row : item1 kept (m - 1) = some (.obj i)
  low : m - 1 = 0 ∨ (0 < m - 1 ∧ item1 kept (m - 1 - 1) = some (.glob 175))
  top : t = m ∨ (t = m + 1 ∧ item1 kept m = some (.glob 175))
theorem L313W {r : List V} {w : String} (hk : At k.q τ ri (.list kept)) (hg : Grp kept t x i) (hr : At k.q τ i (.tup (.str w :: r))) (hw : w ≠ "boundary") : callI fns mets inits (n + 60) 313 [.obj ri, .int t] (W k a τ) = .ok (.int x) (W k a τ) := by
  have h1 := hg.pos
  rcases hg.top with rfl | ⟨rfl, h2⟩
  · simp only [c_313, F313, e_bnd, e_int, okV_, e_loc, okB_, k2_, k3_, e_bin, k4_, k5_, e_cmp, brA_t, k10_, e_and2, k16_, k17_, e_idx, kX_n, kX_r, kRet_r, x_cons, k48_, s_ret, s_whl, brW_f, kW0_, b_sub, c_gt, List.lookup_cons, String.reduceBEq, decide_true, w_eq, h1, l_idx (at_W hk) hg.row, c_eqog (at_W hr) hw]
  · have h3 : 0 < x + 1 := by lia
    have h4 : x + 1 - 1 = x := by lia
    simp only [c_313, F313, e_bnd, e_int, okV_, e_loc, okB_, k2_, k3_, e_bin, k4_, k5_, e_cmp, brA_t, k10_, e_and2, k16_, k17_, e_idx, kX_n, kX_r, kRet_r, x_nil, x_cons, k35_, s_set, k48_, s_ret, s_whl, kW_n, brW_t, brW_f, kW0_, b_sub, c_gt, c_eqbg, List.lookup_cons, String.reduceBEq, decide_true, w_eq, h1, h3, h4, l_idx (at_W hk) hg.row, l_idx (at_W hk) h2, c_eqog (at_W hr) hw]
theorem L320W {b : Bool} (hk : At k.q τ ri (.list kept)) (hg : Grp kept t x i) (hr : Rw k τ i ch) (hcan : ch.can a) (hu : a.un = .obj k.u1) (ht : 1 < a.ticks) (hb : Ls k τ a.rows b) (hx : ch.w = "delete" → Lx k τ a.rows) (hl : a.rows.length < 100000) (h : Gx a T N) (h0 : 1 ≤ ch.s) (hC0 : ch.C ≠ []) (hc : ch.C.length ≤ 50) (h2 : ch.last ≤ T.length + 1) (hN : N ≤ 5000) (kk : Uk k a τ T N ch (Q (.int (x - 1)))) :
    Run F (callI fns mets inits (n + 300) 320 [.obj 12, .obj ri, .int t] (W k a τ)) Q := by
  obtain ⟨r, hr'⟩ := hr.at
  simp only [c_320, F320, run_bind, e_bnd, e_int, okV_, e_loc, okB_, k2_, k3_, e_bin, k4_, k5_, e_cmp, brA_t, k10_, e_and2, k16_, k17_, e_idx, kC_, e_call, es_nil, kE2_, kE1_, es_cons, kX_n, x_cons, k35_, s_set, s_whl, brW_t, kW0_, b_sub, c_gt, List.lookup_cons, String.reduceBEq, decide_true, L313W hk hg hr' Ch.wb, w_eq, hg.pos, l_idx (at_W hk) hg.row, c_neog (at_W hr') Ch.wb]
  refine L306W hk hg.row hr hg.low hcan hu ht hb hx hl h h0 hC0 hc h2 hN fun cells gs ge pt i τ₁ p₁ g h1 h2 h3 => ?_
  rcases hg.low with h4 | ⟨h4, h5⟩
  · have h6 : ¬ 0 < x - 1 := by rw [h4]; decide
    simp only [run_ok, kQ_eq, e_int, okV_, e_loc, okB_, k4_, k5_, e_cmp, brA_f, k10_, e_and2, kX_n, kX_r, kRet_r, x_nil, x_cons, k35_, k48_, s_ret, kW_n, brW_f, kW0_, c_gt, List.lookup_cons, String.reduceBEq, decide_false, w_eq, h6]
    exact kk cells gs ge pt i τ₁ p₁ g h1 h2 h3
  · simp only [run_ok, kQ_eq, e_bnd, e_int, okV_, e_loc, okB_, k2_, k3_, e_bin, k4_, k5_, e_cmp, brA_t, k10_, e_and2, k16_, k17_, e_idx, kX_n, kX_r, kRet_r, x_nil, x_cons, k35_, k48_, s_ret, kW_n, brW_f, kW0_, b_sub, c_gt, c_nebg, List.lookup_cons, String.reduceBEq, decide_true, w_eq, h4, l_idx (at_W (hk.pre p₁)) h5]
    exact kk cells gs ge pt i τ₁ p₁ g h1 h2 h3
theorem L320Wx (hk : At k.q τ ri (.list kept)) (hg : Grp kept t x i) (hr : Rw k τ i ch) (hcan : ¬ ch.can a) (hF : ∀ τ', τ <+: τ' → F (W k a τ')) :
    Run F (callI fns mets inits (n + 300) 320 [.obj 12, .obj ri, .int t] (W k a τ)) Q := by
  obtain ⟨r, hr'⟩ := hr.at
  simp only [c_320, F320, run_bind, e_bnd, e_int, okV_, e_loc, okB_, k2_, k3_, e_bin, k4_, k5_, e_cmp, brA_t, k10_, e_and2, k16_, k17_, e_idx, kC_, e_call, es_nil, kE2_, kE1_, es_cons, kX_n, x_cons, k35_, s_set, s_whl, brW_t, kW0_, b_sub, c_gt, List.lookup_cons, String.reduceBEq, decide_true, L313W hk hg hr' Ch.wb, w_eq, hg.pos, l_idx (at_W hk) hg.row, c_neog (at_W hr') Ch.wb]
  exact L306Wx hk hg.row hr hg.low hcan hF
end
end Mine.I

namespace Mine.I
theorem und_ins {T C : List Int} {p : Nat} (h : p ≤ T.length) : (T.take p ++ C ++ T.drop p).take p ++ (T.take p ++ C ++ T.drop p).drop (p + C.length) = T := by
  have e1 : (T.take p).length = p := by rw [List.length_take]; lia
  have e2 : (T.take p ++ C).length = p + C.length := by rw [List.length_append, e1]
  rw [← e2, List.drop_left, List.append_assoc]
  rw [show (T.take p ++ (C ++ T.drop p)).take p = T.take p from by rw [List.take_append_of_le_length (by lia), List.take_take, Nat.min_self]]
  exact List.take_append_drop p T
theorem und_del {T : List Int} {p e : Nat} (h : p ≤ e) (h' : e ≤ T.length) : (T.take p ++ T.drop e).take p ++ (T.take e).drop p ++ (T.take p ++ T.drop e).drop p = T := by
  have e1 : (T.take p).length = p := by rw [List.length_take]; lia
  rw [show (T.take p ++ T.drop e).take p = T.take p from by rw [List.take_append_of_le_length (by lia), List.take_take, Nat.min_self]]
  rw [show (T.take p ++ T.drop e).drop p = T.drop e from by rw [List.drop_append_of_le_length (by lia), List.drop_of_length_le (by lia), List.nil_append]]
  have e2 : T.take p = (T.take e).take p := by rw [List.take_take, Nat.min_eq_left h]
  rw [e2, List.take_append_drop, List.take_append_drop]
/-- a change, as the things that the run made of it: its tuple, its codes, its row -/
structure Ent where
  ci : Nat
  li : Nat
  ri : Nat
  ch : Ch
structure EntOk (k : Kst) (τ : H) (e : Ent) (T : List Int) : Prop where
  tup : At k.q τ e.ci (.tup [.str e.ch.w, .int e.ch.s, .obj e.li])
  cod : At k.q τ e.li (.list (il e.ch.C))
  row : Rw k τ e.ri e.ch
  pos : 1 ≤ e.ch.s
  non : e.ch.C ≠ []
  few : e.ch.C.length ≤ 50
  low : e.ch.last ≤ T.length + 1
theorem EntOk.pre {k : Kst} {τ τ' : H} {e : Ent} {T : List Int} (h : EntOk k τ e T) (p : τ <+: τ') : EntOk k τ' e T := ⟨h.tup.pre p, h.cod.pre p, h.row.pre p, h.pos, h.non, h.few, h.low⟩
/-- the state of the text: all of it can be reached -/
structure Ok (k : Kst) (a : Sta) (T : List Int) (N : Nat) (M : Int) : Prop where
  un : a.un = .obj k.u1
  tk : 1 < a.ticks
  gx : Gx a T N
  d1 : k.d1 ≠ [] ∧ k.d1.length ≤ 1000
  d2 : 0 ≤ a.d2 ∧ a.d2 ≤ M
/-- the bounds -/
noncomputable def Bds (a : Sta) (lo hi : Int) : Prop := a.begv = lo ∧ a.zv = hi ∧ lo ≤ a.point ∧ a.point ≤ hi
section
variable {k : Kst} {a : Sta} {τ l₀ l₁ l₂ l₃ l₄ : H} {n : Nat} {m : Fm} {F : H → Prop} {T C : List Int} {N i j c ci ri : Nat} {Q : V → H → Prop} {z s e p t M x f : Int} {v v₁ v₂ v₃ : V} {rs kept : List V} {o o' : AO} {ch : Ch}
theorem L210W {b : Bool} (h : Ls k τ a.rows b) (hl : a.rows.length < 100000) : callI fns mets inits (n + 50) 210 [.obj k.u3] (W k a τ) = .ok .none (W k { a with rows := if b then a.rows else a.rows ++ [.glob 175] } τ) := by
  cases b with
  | true => rw [L210Wt h]; rfl
  | false => rw [L210Wf h hl]; rfl
theorem Ls.bnd' {b : Bool} {r : List V} (h : Ls k τ r b) : Ls k τ (if b then r else r ++ [.glob 175]) true ∧ Lx k τ (if b then r else r ++ [.glob 175]) := by
  cases h with
  | nil => exact ⟨.nil, .nil⟩
  | bnd => exact ⟨.bnd, .bnd⟩
  | row h a b => exact ⟨.bnd, .bnd⟩
  | ins h => exact ⟨.bnd, .bnd⟩
theorem a1 {r : Int} (h : 0 ≤ r) : 1 ≤ 1 + r := by lia
theorem a2 {r : Int} {n : Nat} (h : r < n + 1) : 1 + r ≤ n + 1 := by lia
theorem a3 {r n : Int} (h : r < n + 1) : 1 ≤ min 3 (n + 1 - (1 + r)) + 1 ∧ min 3 (n + 1 - (1 + r)) + 1 ≤ 1000000 := by lia
theorem a4 {r r' : Int} {n : Nat} (h1 : r' < min 3 ((n : Int) + 1 - (1 + r)) + 1) (h2 : r < n + 1) : 1 + r + r' ≤ n + 1 ∧ r' ≤ 3 := by lia
theorem a5 {r f : Int} (h0 : 0 ≤ r) (h1 : r < 3) : ([f, f + 1, f + 2].take (1 + r).toNat).length = (1 + r).toNat := by simp only [List.length_take, List.length_cons, List.length_nil]; lia
theorem a6 {r : Int} {n : Nat} (h0 : 0 ≤ r) (h : r < n + 1) : (1 + r - 1).toNat ≤ n := by lia
theorem a7 {n N : Nat} (h : n ≤ N) (hN : N ≤ 4000) : 1 ≤ (n : Int) + 1 ∧ (n : Int) + 1 ≤ 1000000 := by lia
theorem a8 {M : Int} (h : M + 10 ≤ 1000000) : M ≤ 1000000 ∧ M + 1 ≤ 1000000 ∧ M + 2 ≤ 1000000 := by lia
theorem a9 {r : Int} (h0 : 0 ≤ r) (h1 : r < 3) : 0 ≤ 1 + r ∧ 1 + r ≤ lim ∧ (1 + r).toNat ≤ 3 ∧ (1 + r).toNat ≠ 0 := by rw [lim_eq]; lia
theorem b1 {d M : Int} (h : d ≤ M + 2 + 1) : d ≤ M + 3 := by lia
theorem b1' {d M : Int} (h : d ≤ M + 1 + 1) : d ≤ M + 2 := by lia
theorem b1'' {d M : Int} (h : d ≤ M + 1 + 1) : d ≤ M + 3 := by lia
theorem b2 {t : Int} (h : 1 < t) : 1 < t + 1 := by lia
theorem ins_len {T C : List Int} {p : Nat} (h : p ≤ T.length) : (T.take p ++ C ++ T.drop p).length = T.length + C.length := by
  rw [List.length_append, List.length_append, List.length_take, List.length_drop]; lia
theorem del_len {T : List Int} {p e : Nat} (h : p ≤ e) (h' : e ≤ T.length) : (T.take p ++ T.drop e).length + (e - p) = T.length := by
  rw [List.length_append, List.length_take, List.length_drop]; lia
theorem b3 {r r' : Int} {n : Nat} (h0 : 0 ≤ r) (h0' : 0 ≤ r') (h : 1 + r + r' ≤ n + 1) : (1 + r - 1).toNat ≤ (1 + r + r' - 1).toNat ∧ (1 + r + r' - 1).toNat ≤ n ∧ (1 + r + r' - 1).toNat - (1 + r - 1).toNat = r'.toNat := by lia
theorem b4 {r r' : Int} (h0' : 0 ≤ r') (c1 : ¬ 1 + r = 1 + r + r') : 1 + r < 1 + r + r' ∧ r'.toNat ≠ 0 := by lia
theorem b5 {n n' c : Nat} (h : n' = n + c) : (n : Int) + 1 + c = n' + 1 := by lia
theorem b6 {n n' : Nat} {r r' : Int} (h : n' + r'.toNat = n) (h0 : 0 ≤ r') : (n : Int) + 1 - (1 + r + r' - (1 + r)) = n' + 1 := by lia
theorem b7 {n n' : Nat} {r r' q pt : Int} (h : n' + r'.toNat = n) (h0 : 0 ≤ r') (h1 : 0 ≤ r) (h2 : 1 + r + r' ≤ n + 1) (h3 : 1 ≤ q) (h4 : q ≤ n + 1) (e : pt = if 1 + r < q then max (1 + r) (q - (1 + r + r' - (1 + r))) else q) : 1 ≤ pt ∧ pt ≤ n' + 1 ∧ 1 + r ≤ n' + 1 := by
  subst e; split <;> lia
theorem b8 {n n' c : Nat} {r : Int} (h : n' = n + c) (hr : r < n + 1) : 1 + r + c ≤ n' + 1 := by lia
theorem b9 {r : Int} {c : Nat} (h : 0 ≤ r) : 1 ≤ 1 + r + c := by lia
theorem c1l {b : Bool} {rs : List V} {v : V} (h : rs.length + 10 < 100000) : (if b = true then rs else rs ++ [v]).length < 100000 := by
  cases b
  · rw [if_neg (by decide), List.length_append, List.length_singleton]; lia
  · rw [if_pos rfl]; lia
/-- what follows on a command -/
noncomputable def Ck (k : Kst) (τ : H) (T : List Int) (N : Nat) (M : Int) (rs : List V) (Q : V → H → Prop) : Prop :=
  ∀ (e : Ent) (T' : List Int) (a' : Sta) (τ' : H), τ <+: τ' → EntOk k τ' e T' → e.ch.undo T' = T → Ok k a' T' (N + 60) (M + 3) → Bds a' 1 (T'.length + 1) → a'.rows = rs ++ [.obj e.ri] → Ls k τ' a'.rows false → (e.ch.w = "delete" → Lx k τ' a'.rows) → Q (.obj e.ci) (W k a' τ')
theorem L714W {b : Bool} (h : Ok k a T N M) (hM : M + 10 ≤ 1000000) (hb : Ls k τ a.rows b) (hl : a.rows.length + 10 < 100000) (hz : Bds a 1 (T.length + 1)) (hN : N ≤ 4000) (kk : Ck k τ T N M (if b then a.rows else a.rows ++ [.glob 175]) Q) :
    Run F (callI fns mets inits (n + 300) 714 [.obj 10, .obj 12, .int f] (W k a τ)) Q := by
  simp -implicitDefEqProofs only [c_714, F714, run_bind, e_int, okV_, e_loc, k2_, k3_, e_bin, kC_, e_call, kM_, e_met, es_nil, kE2_, kE1_, es_cons, kX_n, x_cons, k35_, s_set, b_add, mW_618_size, List.lookup_cons, String.reduceBEq, L566W h.gx]
  refine L707W (p := (T.length : Int) + 1) (a7 h.gx.len hN).1 (a7 h.gx.len hN).2 h.d1 h.d2.1 h.d2.2 (a8 hM).1 fun r d0 d2 τ₁ p₁ hr0 hr1 hd2 hd3 => ?_
  simp -implicitDefEqProofs only [run_ok, kQ_eq, run_bind, e_int, okV_, e_loc, k2_, k3_, e_bin, kC_, e_call, k31_, k32_, e_mn, es_nil, kE2_, kE1_, es_cons, kX_n, x_cons, k35_, s_set, b_add, b_sub, l_mn, List.lookup_cons, String.reduceBEq]
  refine L707W (p := min 3 ((T.length : Int) + 1 - (1 + r)) + 1) (M := M + 1) (a3 hr1).1 (a3 hr1).2 h.d1 hd2 hd3 (a8 hM).2.1 fun r' d0' d2' τ₂ p₂ hr0' hr1' hd4 hd5 => ?_
  have hb₂ := hb.pre (p₁.trans p₂)
  have hlen := c1l (b := b) (v := .glob 175) hl
  simp -implicitDefEqProofs only [run_ok, kQ_eq, run_bind, okV_, e_loc, okB_, k1_, e_att, k2_, k4_, k5_, e_cmp, kM_, e_met, es_nil, kX_n, x_cons, k35_, k47_, s_exp, k49_, s_ife, b_add, c_eq, mW_260_boundary, aW_list, List.lookup_cons, String.reduceBEq, aW_u (a := { a with d0 := d0', d2 := d2' }) h.un, L210W (a := { a with d0 := d0', d2 := d2' }) hb₂ (Nat.lt_of_le_of_lt (Nat.le_add_right _ 10) hl)]
  obtain ⟨hb₃, hx₃⟩ := hb₂.bnd'
  generalize (if b = true then a.rows else a.rows ++ [V.glob 175]) = rows₁ at hb₃ hx₃ hlen kk ⊢
  by_cases c1 : 1 + r = 1 + r + r'
  · simp -implicitDefEqProofs only [run_bind, e_int, okV_, e_loc, k2_, k3_, e_bin, kL3, e_lst, k19_, e_upto, kC_, e_call, es_nil, kE2_, kE1_, es_cons, x_cons, s_set, brS_t, b_add, len_W, app_W, List.lookup_cons, String.reduceBEq, decide_true, eq_true c1]
    refine L707W (p := 3) (M := M + 2) (by decide) (by decide) h.d1 hd4 (b1' hd5) (a8 hM).2.2 fun r₃ d0₃ d2₃ τ₃ p₃ hr3 hr4 hd6 hd7 => ?_
    have g1 : At k.q τ₃ (k.q + τ₂.length) (.list (il [f, f + 1, f + 2])) := At.new.pre p₃
    have x := a9 hr3 hr4
    simp -implicitDefEqProofs only [run_ok, kQ_eq, run_bind, okV_, e_loc, k2_, k18_, kC_, e_call, kM_, e_met, es_nil, kE2_, kE1_, es_cons, kX_n, x_cons, k35_, k47_, s_exp, b_add, mW_618_goto, len_W, app_W, List.lookup_cons, String.reduceBEq, l_upto (at_W g1) ⟨x.1, x.2.1⟩, il_take, L587W, mm (show a.begv ≤ 1 + r by rw [hz.1]; exact a1 hr0) (show 1 + r ≤ a.zv by rw [hz.2.1]; exact a2 hr1)]
    have hC := a5 (f := f) hr3 hr4
    generalize [f, f + 1, f + 2].take (1 + r₃).toNat = C at hC ⊢
    have hC0 : C ≠ [] := fun q => x.2.2.2 (by rw [← hC, q]; rfl)
    have hC3 : C.length ≤ 50 := by rw [hC]; exact Nat.le_trans x.2.2.1 (by decide)
    refine L112W (T := T) (N := N) (C := C) h.un h.tk (hx₃.pre ((pf.trans p₃).trans pf)) hlen h.gx (a1 hr0) (a2 hr1) (show a.begv ≤ 1 + r by rw [hz.1]; exact a1 hr0) (show 1 + r ≤ a.zv by rw [hz.2.1]; exact a2 hr1) hC0 At.new hC3 (Nat.le_trans hN (by decide)) fun cells gs ge ri τ₄ p₄ g hri => ?_
    simp -implicitDefEqProofs only [run_ok, kQ_eq, e_str, okV_, e_loc, kT3, e_tup, es_nil, kE2_, kE1_, es_cons, kX_n, kX_r, kRet_r, x_cons, k47_, k48_, s_ret, len_W, app_W, List.lookup_cons, String.reduceBEq]
    have hlT := ins_len (C := C) (a6 hr0 hr1)
    refine kk ⟨_, k.q + τ₃.length, ri, .ins (1 + r) C⟩ _ _ _ ((p₁.trans p₂).trans (((pf.trans p₃).trans pf).trans (p₄.trans pf))) ⟨At.new, (At.new.pre p₄).app, hri.app, a1 hr0, hC0, hC3, b8 hlT hr1⟩ (und_ins (a6 hr0 hr1)) ⟨h.un, b2 h.tk, g.mono (Nat.le_trans (Nat.add_le_add_right (Nat.add_le_add_left hC3 N) 8) (by lia)), h.d1, hd6, b1 hd7⟩ ⟨hz.1, by show a.zv + (C.length : Int) = _; rw [hz.2.1]; exact b5 hlT, b9 hr0, b8 hlT hr1⟩ rfl (.ins hri.app) fun q => absurd q (show ¬ "insert" = "delete" by decide)
  · simp -implicitDefEqProofs only [run_ok, kQ_eq, run_bind, e_str, okV_, e_loc, e_tup, kC_, e_call, es_nil, kE2_, kE1_, es_cons, kX_n, x_nil, x_cons, s_ret, brS_f, List.lookup_cons, String.reduceBEq, decide_false, eq_false c1]
    have x := a4 hr1' hr1
    have y := b4 hr0' c1
    have u := b3 hr0 hr0' x.1
    refine L119W (T := T) (N := N) (s := 1 + r) (e := 1 + r + r') h.un h.tk hb₃ hlen h.gx (a1 hr0) y.1 x.1 (show a.begv ≤ 1 + r by rw [hz.1]; exact a1 hr0) (show 1 + r + r' ≤ a.zv by rw [hz.2.1]; exact x.1) (Nat.le_trans hN (by decide)) fun li ri pi fl cells gs ge pt τ₃ p₃ hpt g hri hpi hli => ?_
    simp -implicitDefEqProofs only [run_ok, kQ_eq, kT3, es_nil, kE2_, kE1_, kX_r, kRet_r, k48_, len_W, app_W]
    have hC := cut_len (T := T) u.1 u.2.1
    have hu' := und_del (T := T) u.1 u.2.1
    have hlT := del_len (T := T) u.1 u.2.1
    rw [u.2.2] at hC hlT
    generalize (T.take (1 + r + r' - 1).toNat).drop (1 + r - 1).toNat = C at hC hu' hpi hli ⊢
    generalize T.take (1 + r - 1).toNat ++ T.drop (1 + r + r' - 1).toNat = T' at hlT g hu' ⊢
    have hC0 : C ≠ [] := fun q => y.2 (by rw [← hC, q]; rfl)
    have hC3 : C.length ≤ 50 := by rw [hC]; have := x.2; lia
    have z := b7 hlT hr0' hr0 x.1 (show 1 ≤ a.point from hz.2.2.1) (show a.point ≤ T.length + 1 from hz.2.2.2) hpt
    refine kk ⟨_, li, ri, .del (1 + r) C⟩ T' _ _ ((p₁.trans p₂).trans (p₃.trans pf)) ⟨At.new, hli.app, ⟨_, _, hri.app, hpi.pre pf⟩, a1 hr0, hC0, hC3, z.2.2⟩ hu' ⟨h.un, b2 h.tk, g.mono (Nat.le_add_right _ _), h.d1, hd4, b1'' hd5⟩ ⟨hz.1, by show a.zv - (1 + r + r' - (1 + r)) = _; rw [hz.2.1]; exact b6 hlT hr0', z.1, z.2.1⟩ rfl (.row hri.app (by decide) (by decide)) fun _ => .row hri.app (by decide) (by decide)
end
end Mine.I

namespace Mine.I
/-- things that a run never changes -/
noncomputable def Kpb : AO → Prop
  | .tup _ => True
  | .inst _ _ => True
  | .dict _ => True
  | .list l => ∃ C, C ≠ [] ∧ l = il C
  | _ => False
noncomputable def Kp (k : Kst) (τ τ' : H) : Prop := ∀ i o, Kpb o → At k.q τ i o → At k.q τ' i o
section
variable {k : Kst} {a : Sta} {τ τ' : H} {n : Nat} {m : Fm} {F : H → Prop} {T C T₀ : List Int} {N i j c ci ri it acc : Nat} {z s e p t M x f : Int} {v v₁ v₂ v₃ : V} {rs kept : List V} {o o' : AO} {ch : Ch}
theorem Kp.of (p : τ <+: τ') : Kp k τ τ' := fun i o _ h => h.pre p
theorem Kp.put {u : Nat} (h : τ[u]? = some o') (hn : ¬ Kpb o') : Kp k τ (τ.set u o) := fun i o₁ ho ⟨t, e, h₁⟩ => ⟨t, e, by
  rw [List.getElem?_set_ne, h₁]
  rintro rfl
  rw [h] at h₁
  cases h₁
  exact hn ho⟩
theorem Kp.trans {τ₂ : H} (h : Kp k τ τ') (h' : Kp k τ' τ₂) : Kp k τ τ₂ := fun i o ho q => h' i o ho (h i o ho q)
theorem Pc.kp (h : Pc k τ i C) (hC : C ≠ []) (q : Kp k τ τ') : Pc k τ' i C := by obtain ⟨d, c, rv, h1, h2, h3⟩ := h; exact ⟨d, c, rv, q _ _ trivial h1, q _ _ trivial h2, q _ _ ⟨_, hC, rfl⟩ h3⟩
theorem Rw.kp (h : Rw k τ i ch) (hC : ch.C ≠ []) (q : Kp k τ τ') : Rw k τ' i ch := by
  cases ch with
  | ins s C => exact q _ _ trivial h
  | del s C => obtain ⟨pi, fl, h1, h2⟩ := h; exact ⟨pi, fl, q _ _ trivial h1, h2.kp hC q⟩
theorem EntOk.kp {e : Ent} (h : EntOk k τ e T) (q : Kp k τ τ') : EntOk k τ' e T := ⟨q _ _ trivial h.tup, q _ _ ⟨_, h.non, rfl⟩ h.cod, h.row.kp h.non q, h.pos, h.non, h.few, h.low⟩
theorem Ls.kp {r : List V} {b : Bool} (h : Ls k τ r b) (q : Kp k τ τ') : Ls k τ' r b := by
  cases h with
  | nil => exact .nil
  | bnd => exact .bnd
  | row h a b => exact .row (q _ _ trivial h) a b
  | ins h => exact .ins (q _ _ trivial h)
theorem Lx.kp {r : List V} (h : Lx k τ r) (q : Kp k τ τ') : Lx k τ' r := by
  cases h with
  | nil => exact .nil
  | bnd => exact .bnd
  | row h a b => exact .row (q _ _ trivial h) a b
/-- what was done, the latest first -/
inductive Chn (k : Kst) (τ : H) (T₀ : List Int) : List Ent → List Int → Prop
  | nil : Chn k τ T₀ [] T₀
  | cons {e h T} : EntOk k τ e T → Chn k τ T₀ h (e.ch.undo T) → Chn k τ T₀ (e :: h) T
theorem Chn.kp {h : List Ent} (x : Chn k τ T₀ h T) (q : Kp k τ τ') : Chn k τ' T₀ h T := by
  induction x with
  | nil => exact .nil
  | cons h _ ih => exact .cons (h.kp q) ih
noncomputable def rowsOf : List Ent → List V
  | [] => []
  | e :: h => (if h.isEmpty then rowsOf h else rowsOf h ++ [.glob 175]) ++ [.obj e.ri]
noncomputable def objs (h : List Ent) : List V := h.map fun e => .obj e.ci
theorem objs_kp {h : List Ent} : ¬ Kpb (.list (objs h).reverse) := by
  rintro ⟨C, hC, e⟩
  have hm : ∀ v ∈ (objs h).reverse, ∃ i, v = V.obj i := fun v hv => by
    obtain ⟨e, _, rfl⟩ := List.mem_map.mp (List.mem_reverse.mp hv)
    exact ⟨_, rfl⟩
  cases C with
  | nil => exact hC rfl
  | cons z r =>
    obtain ⟨i, q⟩ := hm (.int z) (by rw [e]; exact List.mem_cons_self ..)
    cases q
/-- the last change done and the last row -/
noncomputable def Lst (k : Kst) (τ : H) (rows : List V) : List Ent → Prop
  | [] => True
  | e :: _ => e.ch.w = "delete" → Lx k τ rows
theorem Lst.kp {rows : List V} {h : List Ent} (x : Lst k τ rows h) (q : Kp k τ τ') : Lst k τ' rows h := by
  cases h with
  | nil => trivial
  | cons e h => exact fun w => (x w).kp q
/-- how things stand after the changes hist -/
structure Dn (k : Kst) (a : Sta) (τ : H) (T₀ : List Int) (hist : List Ent) (T : List Int) (N : Nat) (M : Int) : Prop where
  ok : Ok k a T N M
  ch : Chn k τ T₀ hist T
  rw : a.rows = rowsOf hist
  ls : Ls k τ a.rows hist.isEmpty
  lt : Lst k τ a.rows hist
theorem comp_step {elt : ME} {x : String} {y : V} {σ σ₁ : H} {Q : Unit → H → Prop} (h : next1 it σ = some (some y, σ₁)) (he : Run (fun _ => False) (evalI fns mets inits n ⟨[(x, y)], m.c⟩ elt σ₁) fun v σ₂ => ∃ σ₃, app1 acc v σ₂ = some σ₃ ∧ Run F (compI fns mets inits n m elt [x] none it acc σ₃) Q) :
    Run F (compI fns mets inits (n + 1) m elt [x] none it acc σ) Q := by
  rw [compI, h]
  dsimp only
  cases q : evalI fns mets inits n ⟨[(x, y)], m.c⟩ elt σ₁ with
  | ok v σ₂ =>
    rw [q] at he
    obtain ⟨σ₃, h1, h2⟩ := he
    dsimp only
    rw [h1]
    exact h2
  | exc s σ₂ => rw [q] at he; exact he.2.elim
  | bad => rw [q] at he; exact he.elim
theorem comp_end {elt : ME} {xs : List String} {σ σ₁ : H} {Q : Unit → H → Prop} {cond : Option ME} (h : next1 it σ = some (none, σ₁)) (he : Q () σ₁) : Run F (compI fns mets inits (n + 1) m elt xs cond it acc σ) Q := by
  rw [compI, h]; exact he
theorem rows_len : ∀ {h : List Ent}, (rowsOf h).length ≤ 2 * h.length
  | [] => Nat.le_refl _
  | e :: h => by
    have := rows_len (h := h)
    rw [rowsOf, List.length_append]
    split <;> simp only [List.length_append, List.length_cons, List.length_nil] <;> lia
theorem mul10 {x : Int} (h0 : 0 ≤ x) (h1 : x ≤ 100) : -lim ≤ 10 ∧ 10 ≤ lim ∧ -lim ≤ x ∧ x ≤ lim := by rw [lim_eq]; lia
theorem m1 {n c : Nat} {N : Nat} (h : N + 60 * (c + 1) ≤ 4000) : N ≤ 4000 ∧ N + 60 + 60 * c ≤ 4000 := by lia
theorem m2 {c : Nat} {M : Int} (h : M + 3 * ((c + 1 : Nat) : Int) ≤ 10000) : M + 10 ≤ 1000000 ∧ M + 3 + 3 * c ≤ 10000 := by lia
theorem m3 {c : Nat} {x : Int} (h0 : 0 ≤ x) (h : x + ((c + 1 : Nat) : Int) ≤ 100) : x ≤ 100 ∧ 0 ≤ x + 1 ∧ x + 1 + c ≤ 100 := by lia
theorem m4 {l r c : Nat} (h : r ≤ 2 * l) (h' : l + (c + 1) ≤ 100) : r + 10 < 100000 ∧ l < 100000 := by lia
theorem riter_no {x y : Int} : ¬ Kpb (.riter x y) := id
theorem cmds {Q : Unit → H → Prop} {c : Nat} : ∀ {a : Sta} {τ : H} {hist : List Ent} {T : List Int} {N : Nat} {M x : Int} {n : Nat} {l : List (String × V)}, At k.q τ it (.riter x c) → At k.q τ acc (.list (objs hist).reverse) → it ≠ acc → Dn k a τ T₀ hist T N M → Bds a 1 (T.length + 1) → 0 ≤ x → x + c ≤ 100 → hist.length + c ≤ 100 → N + 60 * c ≤ 4000 → M + 3 * c ≤ 10000 →
    (∀ a' τ' hist' T', At k.q τ' acc (.list (objs hist').reverse) → hist'.length = hist.length + c → Dn k a' τ' T₀ hist' T' (N + 60 * c) (M + 3 * c) → Bds a' 1 (T'.length + 1) → Q () (W k a' τ')) →
    Run F (compI fns mets inits (n + c + 310) ⟨l, [("deck", 1), ("buffer", 2)]⟩ (.call 714 "_law_command" [.cel "deck", .cel "buffer", .bin .add (.bin .mul (.int 10) (.loc "turn")) (.int 10)]) ["turn"] .none it acc (W k a τ)) Q := by
  induction c with
  | zero =>
    intro a τ hist T N M x n l hit hacc hne hd hz _ _ _ _ _ kk
    obtain ⟨u, rfl, hu⟩ := hit
    have q : Kp k τ (τ.set u .gone) := Kp.put hu riter_no
    refine comp_end (σ₁ := W k a (τ.set u .gone)) (by simp only [next1, get_W, hu, set_W]; rfl) (kk a _ hist T ?_ rfl ?_ hz)
    · obtain ⟨t, rfl, ht⟩ := hacc
      exact ⟨t, rfl, by rw [List.getElem?_set_ne (by lia), ht]⟩
    · rw [Nat.mul_zero, Nat.add_zero]
      exact ⟨by simpa using hd.ok, hd.ch.kp q, hd.rw, hd.ls.kp q, hd.lt.kp q⟩
  | succ c ih =>
    intro a τ hist T N M x n l hit hacc hne hd hz hx0 hx1 hh hN hM kk
    obtain ⟨u, rfl, hu⟩ := hit
    obtain ⟨t, rfl, ht⟩ := hacc
    have hut : u ≠ t := fun e => hne (by rw [e])
    rw [show n + (c + 1) + 310 = n + c + 310 + 1 from Nat.add_right_comm (n + c) 1 310]
    have q : Kp k τ (τ.set u (.riter (x + 1) ((c + 1 : Nat) - 1))) := Kp.put hu riter_no
    have y := m3 hx0 hx1
    have w := m4 (rows_len (h := hist)) hh
    refine comp_step (y := .int x) (σ₁ := W k a (τ.set u (.riter (x + 1) ((c + 1 : Nat) - 1)))) (by simp only [next1, get_W, hu, set_W, if_pos (Int.natCast_succ_pos c)]) ?_
    simp only [e_call, es_cons, es_nil, e_int, okV_, e_loc, e_cel, k2_, k3_, e_bin, kC_, e_call, es_nil, kE2_, kE1_, es_cons, b_add, List.lookup_cons, String.reduceBEq, celR_ gW_1, celR_ gW_2, b_mul (mul10 hx0 y.1)]
    refine L714W hd.ok (m2 hM).1 (hd.ls.kp q) (by rw [hd.rw]; exact w.1) hz (m1 (n := 0) hN).1 fun e T' a₁ τ₁ p₁ he hun hok hz' hrw hls hlx => ?_
    obtain ⟨r, rfl⟩ := p₁
    have lu : u < τ.length := (List.getElem?_eq_some_iff.mp hu).1
    have lt' : t < τ.length := (List.getElem?_eq_some_iff.mp ht).1
    have g1 : (τ.set u (.riter (x + 1) ((c + 1 : Nat) - 1)) ++ r)[t]? = some (.list (objs hist).reverse) := by
      rw [List.getElem?_append_left (by rw [List.length_set]; exact lt'), List.getElem?_set_ne hut, ht]
    have g2 : (τ.set u (.riter (x + 1) ((c + 1 : Nat) - 1)) ++ r)[u]? = some (.riter (x + 1) c) := by
      rw [List.getElem?_append_left (by rw [List.length_set]; exact lu), List.getElem?_set_self lu, show (((c + 1 : Nat) : Int) - 1) = (c : Int) by lia]
    have q₃ := q.trans (Kp.of (pf (r := r)))
    generalize τ.set u (.riter (x + 1) ((c + 1 : Nat) - 1)) ++ r = τ₂ at g1 g2 he hls hlx q₃ ⊢
    have q₂ : Kp k τ₂ (τ₂.set t (.list (objs (e :: hist)).reverse)) := Kp.put g1 objs_kp
    have hol : (objs hist).reverse.length < 100000 := by rw [List.length_reverse, objs, List.length_map]; exact w.2
    refine ⟨W k a₁ (τ₂.set t (.list (objs (e :: hist)).reverse)), ?_, ?_⟩
    · simp only [app1, get_W, g1, if_pos hol, set_W]
      rw [objs, objs, List.map_cons, List.reverse_cons]
    · refine ih (n := n) (l := l) (x := x + 1) (N := N + 60) (M := M + 3) (hist := e :: hist) ⟨u, rfl, by rw [List.getElem?_set_ne (Ne.symm hut), g2]⟩ ⟨t, rfl, by rw [List.getElem?_set_self (List.getElem?_eq_some_iff.mp g1).1]⟩ hne ⟨hok, .cons (he.kp q₂) (by rw [hun]; exact (hd.ch.kp q₃).kp q₂), by rw [hrw, hd.rw]; rfl, hls.kp q₂, fun w => (hlx w).kp q₂⟩ hz' y.2.1 y.2.2 (by rw [List.length_cons, Nat.add_right_comm]; exact hh) (m1 (n := 0) hN).2 (m2 hM).2 fun a' τ' hist' T'' h1 h2 h3 h4 => ?_
      rw [show N + 60 + 60 * c = N + 60 * (c + 1) by lia, show M + 3 + 3 * (c : Int) = M + 3 * ((c + 1 : Nat) : Int) by lia] at h3
      exact kk a' τ' hist' T'' h1 (by rw [h2, List.length_cons]; lia) h3 h4
end
end Mine.I

namespace Mine.I
noncomputable abbrev dbc : List (String × Nat) := [("deck", 1), ("buffer", 2)]
noncomputable def LB : List MS := match (F733.body.drop 10) with | MS.forin _ _ b :: _ => b | _ => []
section
variable {k : Kst} {a : Sta} {τ τ' : H} {n : Nat} {m : Fm} {F G : H → Prop} {T C T₀ : List Int} {N i j c ci ri it acc li tx kp bt bc : Nat} {z s e p t M x f lo hi la : Int} {v v₁ v₂ v₃ : V} {rs kept : List V} {o o' : AO} {ch : Ch} {σ : H} {l : List (String × V)} {Q : Fl × Fm → H → Prop}
theorem try_ok {y x p q r : String} {e : ME} {b : List MS} (h : Run (fun _ => False) (evalI fns mets inits n m e σ) fun v σ => Run (fun _ => False) (execsI fns mets inits n ⟨(y, v) :: m.l, m.c⟩ b σ) Q) : Run F (execI fns mets inits (n + 1) m (.tryx y e b x p q r) σ) Q := by
  rw [execI]
  cases w : evalI fns mets inits n m e σ with
  | ok v σ₁ =>
    rw [w] at h
    simp only [run_ok] at h
    dsimp only
    cases w' : execsI fns mets inits n ⟨(y, v) :: m.l, m.c⟩ b σ₁ with
    | ok u σ₂ => rw [w'] at h; exact h
    | exc s σ₂ => rw [w'] at h; exact h.2.elim
    | bad => rw [w'] at h; exact h.elim
  | exc s σ₁ => rw [w] at h; exact h.2.elim
  | bad => rw [w] at h; exact h.elim
theorem try_exc {y x p q r : String} {e : ME} {b : List MS} (h : Run G (evalI fns mets inits n m e σ) fun _ _ => False) (hx : m.l.lookup x = none) (hr : m.l.lookup r = some v) (hG : ∀ σ, G σ → Q (.next, ⟨(q, v) :: (p, .bool false) :: m.l, m.c⟩) σ) : Run F (execI fns mets inits (n + 1) m (.tryx y e b x p q r) σ) Q := by
  rw [execI]
  cases w : evalI fns mets inits n m e σ with
  | ok v σ₁ => rw [w] at h; exact h.elim
  | exc s σ₁ =>
    rw [w] at h
    dsimp only
    rw [if_pos ⟨h.1, hx⟩, hr]
    exact hG _ h.2
  | bad => rw [w] at h; exact h.elim
theorem cons_run {s : MS} {ss : List MS} (h : Run F (execI fns mets inits n m s σ) (kQ F (kX n ss) Q)) : Run F (execsI fns mets inits (n + 1) m (s :: ss) σ) Q := by rw [x_cons, run_bind]; exact h
theorem cons_next {s : MS} {ss : List MS} {m' : Fm} {σ' : H} (h : execI fns mets inits n m s σ = .ok (.next, m') σ') (h' : Run F (execsI fns mets inits n m' ss σ') Q) : Run F (execsI fns mets inits (n + 1) m (s :: ss) σ) Q := by rw [x_cons, h, kX_n]; exact h'
theorem unp3 {x y z : String} {v0 v1 v2 : V} (h : σ[i]? = some (.tup [v0, v1, v2])) : unpR [x, y, z] m (.obj i) σ = .ok (.next, ⟨(z, v2) :: (y, v1) :: (x, v0) :: m.l, m.c⟩) σ := unp_eq h rfl
theorem B1 (h : At k.q τ i (.tup [v, v₁, v₂])) (hl : l.lookup "change" = some (.obj i)) : execI fns mets inits (n + 5) ⟨l, dbc⟩ (.unp ["word", "start", "codes"] (.loc "change")) (W k a τ) = .ok (.next, ⟨("codes", v₂) :: ("start", v₁) :: ("word", v) :: l, dbc⟩) (W k a τ) := by
  simp only [okV_, e_loc, k37_, s_unp, hl, unp3 (at_W h)]
theorem B2 (hlo : l.lookup "low" = some (.int lo)) (h : Ok k a T N M) (hM : M ≤ 100000) (kk : ∀ pt d0 d2 τ', τ <+: τ' → 0 ≤ d2 → d2 ≤ M + 1 → Q (.next, ⟨l, dbc⟩) (W k { a with point := min (max pt a.begv) a.zv, d0 := d0, d2 := d2 } τ')) : Run F (execI fns mets inits (n + 60) ⟨l, dbc⟩ (.exp (.met (.cel "buffer") "goto" [.bin .add (.loc "low") (.call 707 "_law_draw" [.cel "deck", .int 4])])) (W k a τ)) Q := by
  simp only [run_bind, e_int, okV_, e_loc, e_cel, k3_, e_bin, kC_, e_call, e_met, es_nil, kE2_, kE1_, es_cons, s_exp, mW_618_goto, List.lookup_cons, String.reduceBEq, celR_ gW_1, celR_ gW_2, hlo]
  refine L707W (p := 4) (by decide) (by decide) h.d1 h.d2.1 h.d2.2 (Int.le_trans hM (by decide)) fun r d0 d2 τ₁ p₁ hr0 hr1 hd2 hd3 => ?_
  simp only [run_ok, kQ_eq, k2_, kM_, es_nil, kE2_, kE1_, k47_, b_add, L587W]
  exact kk _ _ _ _ p₁ hd2 hd3
theorem B3 (hg : Gx a T N) (hN : N ≤ 10000) (hl : l.lookup "codes" = some (.obj li)) (hc : At k.q τ li (.list (il C))) (kk : ∀ bt bc τ', τ <+: τ' → At k.q τ' bt (.tup [.obj bc, .int a.point, .int a.begv, .int a.zv]) → At k.q τ' bc (.list (il T)) → Q (.next, ⟨("many", .int C.length) :: ("before", .obj bt) :: l, dbc⟩) (W k a τ')) : Run F (execI fns mets inits (n + 80) ⟨l, dbc⟩ (.par "before" "many" (.call 721 "_law_state" [.cel "buffer"]) (.len (.loc "codes"))) (W k a τ)) Q := by
  simp only [run_bind, e_cel, kC_, e_call, es_nil, kE2_, kE1_, es_cons, s_par, List.lookup_cons, String.reduceBEq, celR_ gW_2]
  refine L721W hg hN fun bt bc τ₁ p₁ h1 h2 => ?_
  simp only [run_ok, kQ_eq, okV_, e_loc, k26_, e_len, k38_, k39_, hl, l_len (at_W (hc.pre p₁)), il_len]
  exact kk bt bc τ₁ p₁ h1 h2
theorem B4 (hw : l.lookup "word" = some (.str ch.w)) (hs : l.lookup "start" = some (.int ch.s)) (hm : l.lookup "many" = some (.int ch.C.length)) : execI fns mets inits (n + 10) ⟨l, dbc⟩ (.set "last" (.ifx (.cmp .eq (.loc "word") (.str "insert")) (.bin .add (.loc "start") (.loc "many")) (.loc "start"))) σ = .ok (.next, ⟨("last", .int ch.last) :: l, dbc⟩) σ := by
  cases ch with
  | ins s C =>
    simp only [Ch.w, Ch.s, Ch.C] at hw hs hm
    simp only [e_str, okV_, e_loc, okB_, k2_, k3_, e_bin, k4_, k5_, e_cmp, brE_t, k15_, e_ifx, k35_, s_set, b_add, c_eqs, decide_true, hw, hs, hm, Ch.last]
  | del s C =>
    simp only [Ch.w, Ch.s, Ch.C] at hw hs hm
    simp only [e_str, okV_, e_loc, okB_, k4_, k5_, e_cmp, brE_f, k15_, e_ifx, k35_, s_set, c_eqs, String.reduceEq, decide_false, hw, hs, Ch.last]
theorem B5 (h1 : l.lookup "low" = some (.int lo)) (h2 : l.lookup "start" = some (.int s)) (h3 : l.lookup "last" = some (.int la)) (h4 : l.lookup "high" = some (.int hi)) : execI fns mets inits (n + 10) ⟨l, dbc⟩ (.set "can_go" (.and2 (.cmp .le (.loc "low") (.loc "start")) (.cmp .le (.loc "last") (.loc "high")))) σ = .ok (.next, ⟨("can_go", .bool (decide (lo ≤ s ∧ la ≤ hi))) :: l, dbc⟩) σ := by
  by_cases c1 : lo ≤ s
  · simp only [okV_, e_loc, okB_, k4_, k5_, e_cmp, brA_t, k10_, e_and2, k35_, s_set, c_le, decide_true, h1, h2, h3, h4, c1, true_and]
  · simp only [okV_, e_loc, okB_, k4_, k5_, e_cmp, brA_f, k10_, e_and2, k35_, s_set, c_le, decide_false, h1, h2, c1, false_and]
theorem B7 {b : Bool} (h1 : l.lookup "is_done" = some (.bool b)) (h2 : l.lookup "can_go" = some (.bool b)) : execI fns mets inits (n + 10) ⟨l, dbc⟩ (.ife (.cmp .ne (.loc "is_done") (.loc "can_go")) [.ret (.boo false)] []) σ = .ok (.next, ⟨l, dbc⟩) σ := by
  simp only [okV_, e_loc, okB_, k4_, k5_, e_cmp, x_nil, brS_f, k49_, s_ife, c_neb, decide_true, Bool.not_true, h1, h2]
theorem undo_if : (if ch.w = "insert" then T.take (ch.s - 1).toNat ++ T.drop ((ch.s - 1).toNat + ch.C.length) else T.take (ch.s - 1).toNat ++ ch.C ++ T.drop (ch.s - 1).toNat) = ch.undo T := by
  cases ch with
  | ins s C => exact if_pos rfl
  | del s C => exact if_neg (show ¬ "delete" = "insert" by decide)
theorem B8 {e : Ent} (h1 : l.lookup "before" = some (.obj bt)) (h2 : l.lookup "change" = some (.obj e.ci)) (hb : At k.q τ bt (.tup [.obj bc, v, v₁, v₂])) (hc : At k.q τ bc (.list (il T))) (he : EntOk k τ e T) (hT : T.length ≤ 10000) (hs : e.ch.s ≤ T.length + 1) (kk : ∀ tx τ', τ <+: τ' → At k.q τ' tx (.list (il (e.ch.undo T))) → Q (.next, ⟨("text", .obj tx) :: l, dbc⟩) (W k a τ')) : Run F (execI fns mets inits (n + 80) ⟨l, dbc⟩ (.set "text" (.call 728 "_law_undone" [.idx (.loc "before") (.int 0), .loc "change"])) (W k a τ)) Q := by
  have hf := he.few
  simp only [run_bind, e_int, okV_, e_loc, k16_, k17_, e_idx, kC_, e_call, es_nil, kE2_, kE1_, es_cons, s_set, h1, h2, l_idxt (at_W hb) it0]
  refine L728W (T := T) (C := e.ch.C) hc he.tup he.cod he.pos hs hT (Nat.le_trans hf (by decide)) fun r τ₁ p₁ h => ?_
  simp only [run_ok, kQ_eq, k35_]
  rw [undo_if] at h
  exact kk r τ₁ p₁ h
theorem B9a (h1 : l.lookup "is_done" = some (.bool true)) (h2 : l.lookup "high" = some (.int hi)) (h3 : l.lookup "word" = some (.str ch.w)) (h4 : l.lookup "many" = some (.int ch.C.length)) {b : List MS} : execI fns mets inits (n + 20) ⟨l, dbc⟩ (.ife (.not (.loc "is_done")) b [.set "high" (.bin .add (.loc "high") (.ifx (.cmp .eq (.loc "word") (.str "delete")) (.loc "many") (.bin .sub (.int 0) (.loc "many"))))]) σ = .ok (.next, ⟨("high", .int (hi + ch.dz)) :: l, dbc⟩) σ := by
  cases ch with
  | ins s C =>
    simp only [Ch.w, Ch.C] at h3 h4
    simp only [e_int, e_str, okV_, e_loc, okB_, k2_, k3_, e_bin, k4_, k5_, e_cmp, brE_f, okN_, k14_, e_not, k15_, e_ifx, kX_n, x_nil, x_cons, k35_, s_set, brS_f, k49_, s_ife, b_add, b_sub, c_eqs, String.reduceEq, decide_false, Bool.not_true, h1, h2, h3, h4, Ch.dz, Int.zero_sub]
  | del s C =>
    simp only [Ch.w, Ch.C] at h3 h4
    simp only [e_str, okV_, e_loc, okB_, k2_, k3_, e_bin, k4_, k5_, e_cmp, brE_t, okN_, k14_, e_not, k15_, e_ifx, kX_n, x_nil, x_cons, k35_, s_set, brS_f, k49_, s_ife, b_add, c_eqs, decide_true, Bool.not_true, h1, h2, h3, h4, Ch.dz]
theorem c_nel2 {u w y z : Int} (h : σ[i]? = some (.list [.int u, .int w])) (h' : σ[j]? = some (.list [.int y, .int z])) : cmp1 σ .ne (.obj i) (.obj j) = some (!decide ([u, w] = [y, z])) := c_nel (x := [u, w]) (y := [y, z]) h h'
theorem B10 (hg : Gx a T N) (hN : N ≤ 10000) (h1 : l.lookup "text" = some (.obj tx)) (h2 : l.lookup "low" = some (.int lo)) (h3 : l.lookup "high" = some (.int hi)) (ht : At k.q τ tx (.list (il T))) (hz : Bds a lo hi) (kk : ∀ τ', τ <+: τ' → Q (.next, ⟨l, dbc⟩) (W k a τ')) : Run F (execI fns mets inits (n + 90) ⟨l, dbc⟩ (.ife (.or3 (.cmp .ne (.idx (.call 721 "_law_state" [.cel "buffer"]) (.int 0)) (.loc "text")) (.cmp .ne (.lst [.att (.cel "buffer") "begv", .att (.cel "buffer") "zv"]) (.lst [.loc "low", .loc "high"])) (.not (.cmp2 .le .le (.loc "low") (.att (.cel "buffer") "point") (.loc "high")))) [.ret (.boo false)] []) (W k a τ)) Q := by
  obtain ⟨z1, z2, z3, z4⟩ := hz
  simp only [run_bind, e_cel, e_cmp, e_or3, e_idx, kC_, e_call, es_nil, kE2_, kE1_, es_cons, s_ife, List.lookup_cons, String.reduceBEq, celR_ gW_2]
  refine L721W hg hN fun bt bc τ₁ p₁ b1 b2 => ?_
  simp only [run_ok, kQ_eq, e_int, okV_, e_loc, e_cel, okB_, k1_, e_att, k4_, k5_, e_cmp, kc3_, kc2_t, k6_, k7_, e_cmp2, brO_f, ko3_, brO3_f, k13_, okN_, k14_, e_not, kL2, e_lst, k16_, k17_, es_nil, kE2_, kE1_, es_cons, x_nil, brS_f, k49_, c_le, aW_point, aW_begv, aW_zv, len_W, app_W, List.lookup_cons, String.reduceBEq, decide_true, Bool.not_true, h1, h2, h3, l_idxt (at_W b1) it0, c_nel (at_W b2) (at_W (ht.pre p₁)), celR_ gW_2, c_nel2 g2W g1W, z1, z2, z3, z4]
  exact kk _ (p₁.trans pre2)
theorem B11 (h1 : l.lookup "place" = some v) : execI fns mets inits (n + 5) ⟨l, dbc⟩ (.set "at" (.loc "place")) σ = .ok (.next, ⟨("at", v) :: l, dbc⟩) σ := by
  simp only [okV_, e_loc, k35_, s_set, h1]
theorem B12 {b : Bool} (hu : a.un = .obj k.u1) (h : Ls k τ a.rows b) (hl : a.rows.length < 100000) : execI fns mets inits (n + 60) ⟨l, dbc⟩ (.exp (.met (.att (.att (.cel "buffer") "undo") "list") "boundary" [])) (W k a τ) = .ok (.next, ⟨l, dbc⟩) (W k { a with rows := if b then a.rows else a.rows ++ [.glob 175] } τ) := by
  simp -implicitDefEqProofs only [e_cel, k1_, e_att, kM_, e_met, es_nil, k47_, s_exp, mW_260_boundary, aW_list, List.lookup_cons, String.reduceBEq, celR_ gW_2, aW_u hu, L210W h hl]
end
end Mine.I

namespace Mine.I
theorem ul1 {T : List Int} {u c : Nat} (h : u + c ≤ T.length) : (T.take u ++ T.drop (u + c)).length + c = T.length := by
  rw [List.length_append, List.length_take_of_le (Nat.le_of_add_right_le h), List.length_drop, Nat.add_right_comm]; exact Nat.add_sub_cancel' h
theorem ul2 {T C : List Int} {u : Nat} (h : u ≤ T.length) : (T.take u ++ C ++ T.drop u).length = T.length + C.length := by
  rw [List.length_append, List.length_append, List.length_take_of_le h, List.length_drop, Nat.add_right_comm]; exact congrArg (· + C.length) (Nat.add_sub_cancel' h)
theorem ul3 {a c : Nat} : (a : Int) = ((a + c : Nat) : Int) + - (c : Int) := by lia
theorem undo_len {ch : Ch} {T : List Int} (h0 : 1 ≤ ch.s) (h : ch.last ≤ T.length + 1) : ((ch.undo T).length : Int) = T.length + ch.dz := by
  cases ch with
  | ins s C =>
    have q := ul1 (T := T) (u := (s - 1).toNat) (c := C.length) (by simp only [Ch.s, Ch.last] at h0 h; lia)
    show ((T.take (s - 1).toNat ++ T.drop ((s - 1).toNat + C.length)).length : Int) = T.length + - (C.length : Int)
    rw [← q]; exact ul3
  | del s C => exact (congrArg Int.ofNat (ul2 (T := T) (C := C) (by simp only [Ch.s, Ch.last] at h0 h; lia))).trans (Int.natCast_add ..)
theorem s_last {ch : Ch} : ch.s ≤ ch.last := by
  cases ch with
  | ins s C => simp only [Ch.s, Ch.last]; lia
  | del s C => exact Int.le_refl _
structure Fr (l : List (String × V)) (lo hi t : Int) (kp : Nat) : Prop where
  low : l.lookup "low" = some (.int lo)
  high : l.lookup "high" = some (.int hi)
  kept : l.lookup "kept" = some (.obj kp)
  at_ : l.lookup "at" = some (.int t)
  err : l.lookup "error" = none
section
variable {k : Kst} {a : Sta} {τ τ' : H} {n : Nat} {m : Fm} {F G : H → Prop} {T C T₀ : List Int} {N i j c ci ri it acc li tx kp bt bc : Nat} {z s e p t M x f lo hi la : Int} {v v₁ v₂ v₃ : V} {rs kept : List V} {o o' : AO} {ch : Ch} {σ : H} {l : List (String × V)} {bd : Bool} {Q : Fl × Fm → H → Prop}
theorem T6A (h1 : l.lookup "kept" = some (.obj kp)) (h2 : l.lookup "at" = some (.int t)) (hk : At k.q τ kp (.list kept)) (hg : Grp kept t x i) (hr : Rw k τ i ch) (hcan : ch.can a) (hu : a.un = .obj k.u1) (ht : 1 < a.ticks) (hb : Ls k τ a.rows bd) (hx : ch.w = "delete" → Lx k τ a.rows) (hl : a.rows.length < 100000) (h : Gx a T N) (h0 : 1 ≤ ch.s) (hC0 : ch.C ≠ []) (hc : ch.C.length ≤ 50) (h3 : ch.last ≤ T.length + 1) (hN : N ≤ 5000) (kk : Uk k a τ T N ch (Q (.next, ⟨("is_done", .bool true) :: ("place", .int (x - 1)) :: l, dbc⟩))) :
    Run F (execI fns mets inits (n + 310) ⟨l, dbc⟩ (.tryx "place" (.call 320 "undo_group" [.cel "buffer", .loc "kept", .loc "at"]) [.set "is_done" (.boo true)] "error" "is_done" "place" "at") (W k a τ)) Q := by
  refine try_ok ?_
  simp only [run_ok, e_boo, okV_, e_loc, e_cel, kC_, e_call, es_nil, kE2_, kE1_, es_cons, kX_n, x_nil, x_cons, k35_, s_set, List.lookup_cons, String.reduceBEq, celR_ gW_2, h1, h2]
  refine L320W hk hg hr hcan hu ht hb hx hl h h0 hC0 hc h3 hN fun cells gs ge pt i τ₁ p₁ g w1 w2 w3 => ?_
  exact kk cells gs ge pt i τ₁ p₁ g w1 w2 w3
theorem T6B (h1 : l.lookup "kept" = some (.obj kp)) (h2 : l.lookup "at" = some (.int t)) (he : l.lookup "error" = none) (hk : At k.q τ kp (.list kept)) (hg : Grp kept t x i) (hr : Rw k τ i ch) (hcan : ¬ ch.can a) (kk : ∀ τ', τ <+: τ' → Q (.next, ⟨("place", .int t) :: ("is_done", .bool false) :: l, dbc⟩) (W k a τ')) :
    Run F (execI fns mets inits (n + 310) ⟨l, dbc⟩ (.tryx "place" (.call 320 "undo_group" [.cel "buffer", .loc "kept", .loc "at"]) [.set "is_done" (.boo true)] "error" "is_done" "place" "at") (W k a τ)) Q := by
  refine try_exc (G := fun σ => ∃ τ', σ = W k a τ' ∧ τ <+: τ') ?_ he h2 ?_
  · simp only [okV_, e_loc, e_cel, kC_, e_call, es_nil, kE2_, kE1_, es_cons, List.lookup_cons, String.reduceBEq, celR_ gW_2, h1, h2]
    exact L320Wx hk hg hr hcan fun τ' p => ⟨τ', rfl, p⟩
  · rintro σ ⟨τ', rfl, p⟩
    exact kk τ' p
theorem B9b {b : List MS} (h0' : l.lookup "is_done" = some (.bool false)) (h1 : l.lookup "kept" = some (.obj kp)) (h2 : l.lookup "at" = some (.int t)) (h3' : l.lookup "before" = some (.obj bt)) (h4 : l.lookup "text" = some (.obj tx)) (hbt : At k.q τ bt (.tup [.obj bc, .int a.point, .int a.begv, .int a.zv])) (hbc : At k.q τ bc (.list (il T))) (htx : At k.q τ tx (.list (il C)))
    (hk : At k.q τ kp (.list kept)) (hg : Grp kept t x i) (hr : Rw k τ i ch) (hu : a.un = .obj k.u1) (ht : 1 < a.ticks) (hb : Ls k τ a.rows bd) (hx : ch.w = "delete" → Lx k τ a.rows) (hl : a.rows.length < 100000) (h : Gx a T N) (h0 : 1 ≤ ch.s) (hC0 : ch.C ≠ []) (hc : ch.C.length ≤ 50) (h3 : ch.last ≤ T.length + 1) (hN : N ≤ 5000) (kk : Uk k { a with begv := 1, zv := T.length + 1 } τ T N ch (Q (.next, ⟨("high", .int (C.length + 1)) :: ("low", .int 1) :: ("place", .int (x - 1)) :: l, dbc⟩))) :
    Run F (execI fns mets inits (n + 330) ⟨l, dbc⟩ (.ife (.not (.loc "is_done")) [.ife (.cmp .ne (.call 721 "_law_state" [.cel "buffer"]) (.loc "before")) [.ret (.boo false)] [], .exp (.call 634 "widen" [.cel "buffer"]), .set "place" (.call 320 "undo_group" [.cel "buffer", .loc "kept", .loc "at"]), .par "low" "high" (.int 1) (.bin .add (.len (.loc "text")) (.int 1))] b) (W k a τ)) Q := by
  simp only [run_bind, okV_, e_loc, e_cel, e_cmp, okN_, k14_, e_not, kC_, e_call, es_nil, kE2_, kE1_, es_cons, x_cons, brS_t, k49_, s_ife, List.lookup_cons, String.reduceBEq, Bool.not_false, celR_ gW_2, h0']
  refine L721W h (Nat.le_trans hN (by decide)) fun bt' bc' τ₁ p₁ b1 b2 => ?_
  simp only [run_ok, kQ_eq, run_bind, okV_, e_loc, e_cel, okB_, k4_, k5_, kC_, e_call, es_nil, kE2_, kE1_, es_cons, kX_n, x_nil, x_cons, s_set, k47_, s_exp, brS_f, k49_, List.lookup_cons, String.reduceBEq, decide_true, Bool.not_true, celR_ gW_2, h3', c_net (at_W b1) (at_W (hbt.pre p₁)) (at_W b2) (at_W (hbc.pre p₁)), and_self, L634W h, h1, h2]
  refine L320W (a := { a with begv := 1, zv := T.length + 1 }) (hk.pre p₁) hg (hr.pre p₁) ⟨h0, h3⟩ hu ht (hb.pre p₁) (fun w => (hx w).pre p₁) hl h h0 hC0 hc h3 hN fun cells gs ge pt i τ₂ p₂ g w1 w2 w3 => ?_
  simp only [run_ok, kQ_eq, e_int, okV_, e_loc, k2_, k3_, e_bin, k26_, e_len, kX_n, x_nil, x_cons, k35_, k38_, k39_, s_par, b_add, List.lookup_cons, String.reduceBEq, h4, l_len (at_W (htx.pre (p₁.trans p₂))), il_len]
  exact kk cells gs ge pt i τ₂ (p₁.trans p₂) g w1 w2 w3
/-- what one turn of the undo loop leaves, and what follows on it -/
noncomputable def Bk (k : Kst) (rn : Nat) (τ : H) (e : Ent) (T : List Int) (N : Nat) (M x : Int) (kp : Nat) (Q : Fl × Fm → H → Prop) : Prop :=
  ∀ l' a' τ' tx lo' hi', τ <+: τ' → Fr l' lo' hi' (x - 1) kp → l'.lookup "text" = some (.obj tx) → At k.q τ' tx (.list (il (e.ch.undo T))) → Ok k a' (e.ch.undo T) (N + 60) (M + 1) → Ls k τ' a'.rows true → Lx k τ' a'.rows → Bds a' lo' hi' → 1 ≤ lo' → hi' ≤ (e.ch.undo T).length + 1 → a'.rows.length ≤ rn + 2 → Q (.next, ⟨l', dbc⟩) (W k a' τ')
theorem n1 {a b : Nat} (h : a ≤ b + 1) (hl : b < 9000) : a < 100000 ∧ a + 1 ≤ b + 2 := by lia
theorem n2 {N : Nat} (h : N ≤ 5000) : N + 60 ≤ 10000 := by lia
theorem n3 {x lo hi : Int} (h : lo ≤ hi) : lo ≤ min (max x lo) hi ∧ min (max x lo) hi ≤ hi := by lia
theorem fin {e : Ent} {rn : Nat} {τ₀ : H} (hf : Fr l lo hi t kp) (hp : l.lookup "place" = some (.int (x - 1))) (htx : l.lookup "text" = some (.obj tx)) (hT : At k.q τ tx (.list (il (e.ch.undo T)))) (ho : Ok k a (e.ch.undo T) (N + 60) (M + 1)) (hN : N ≤ 5000) (hb : Ls k τ a.rows false) (hl : a.rows.length ≤ rn + 1) (hl' : rn < 9000) (hz : Bds a lo hi) (hlo : 1 ≤ lo) (hhi : hi ≤ (e.ch.undo T).length + 1) (p : τ₀ <+: τ) (kk : Bk k rn τ₀ e T N M x kp Q) :
    Run F (execsI fns mets inits (n + 200) ⟨l, dbc⟩ (LB.drop 9) (W k a τ)) Q := by
  refine cons_run (B10 ho.gx (n2 hN) htx hf.low hf.high hT hz fun τ₁ p₁ => ?_)
  refine cons_next (B11 hp) (cons_next (B12 ho.un (hb.pre p₁) (n1 hl hl').1) ?_)
  have q := (hb.pre p₁).bnd'
  exact kk _ _ _ tx lo hi (p.trans p₁) ⟨hf.low, hf.high, hf.kept, rfl, hf.err⟩ htx (hT.pre p₁) ⟨ho.un, ho.tk, ho.gx, ho.d1, ho.d2⟩ q.1 q.2 hz hlo hhi (by
    show (a.rows ++ [V.glob 175]).length ≤ _
    rw [List.length_append, List.length_singleton]; exact (n1 hl hl').2)
theorem n5 {N : Nat} (h : N ≤ 4900) : N ≤ 10000 ∧ N ≤ 5000 := by lia
theorem n6 {T N : Nat} (h : T ≤ N) (h' : N ≤ 4900) : T ≤ 10000 := by lia
theorem n7 {a b c : Int} (h : a ≤ b) (h' : b ≤ c) : a ≤ c := Int.le_trans h h'
theorem n8 {rs : List V} {v : V} : (rs ++ [v]).length ≤ rs.length + 1 := by rw [List.length_append, List.length_singleton]; exact Nat.le_refl _
theorem body {e : Ent} (hf : Fr l lo hi t kp) (ho : Ok k a T N M) (hN : N ≤ 4900) (hM : M ≤ 90000) (he : EntOk k τ e T) (hk : At k.q τ kp (.list kept)) (hg : Grp kept t x e.ri) (hb : Ls k τ a.rows bd) (hx : e.ch.w = "delete" → Lx k τ a.rows) (hl : a.rows.length < 9000) (hz : Bds a lo hi) (hlo : 1 ≤ lo) (hhi : hi ≤ T.length + 1) (kk : Bk k a.rows.length τ e T N M x kp Q) :
    Run F (execsI fns mets inits (n + 390) ⟨("change", .obj e.ci) :: l, dbc⟩ LB (W k a τ)) Q := by
  refine cons_next (B1 he.tup rfl) (cons_run (B2 hf.low ho (Int.le_trans hM (by decide)) fun pt d0 d2 τ₁ p₁ hd1 hd2 => ?_))
  have z := n3 (x := pt) (n7 hz.2.2.1 hz.2.2.2)
  have ho₁ : Ok k { a with point := min (max pt a.begv) a.zv, d0 := d0, d2 := d2 } T N (M + 1) := ⟨ho.un, ho.tk, ho.gx, ho.d1, hd1, hd2⟩
  have hz₁ : Bds { a with point := min (max pt a.begv) a.zv, d0 := d0, d2 := d2 } lo hi := ⟨hz.1, hz.2.1, by show lo ≤ min (max pt a.begv) a.zv; rw [hz.1, hz.2.1]; exact z.1, by show min (max pt a.begv) a.zv ≤ hi; rw [hz.1, hz.2.1]; exact z.2⟩
  have hb₁ : Ls k τ ({ a with point := min (max pt a.begv) a.zv, d0 := d0, d2 := d2 } : Sta).rows bd := hb
  have hx₁ : e.ch.w = "delete" → Lx k τ ({ a with point := min (max pt a.begv) a.zv, d0 := d0, d2 := d2 } : Sta).rows := hx
  have hl₁ : ({ a with point := min (max pt a.begv) a.zv, d0 := d0, d2 := d2 } : Sta).rows.length < 9000 := hl
  have kk₁ : Bk k ({ a with point := min (max pt a.begv) a.zv, d0 := d0, d2 := d2 } : Sta).rows.length τ e T N M x kp Q := kk
  clear ho hz hb hx hl kk
  generalize { a with point := min (max pt a.begv) a.zv, d0 := d0, d2 := d2 } = a₁ at ho₁ hz₁ hb₁ hx₁ hl₁ kk₁ ⊢
  have hlen := undo_len he.pos he.low
  have hTN := n6 ho₁.gx.len hN
  have hr0 := Nat.lt_trans hl₁ (show 9000 < 100000 by decide)
  refine cons_run (B3 (C := e.ch.C) ho₁.gx (n5 hN).1 rfl (he.cod.pre p₁) fun bt bc τ₂ p₂ hbt hbc => ?_)
  have p₁₂ := p₁.trans p₂
  refine cons_next (B4 (ch := e.ch) rfl rfl rfl) (cons_next (B5 (lo := lo) (hi := hi) hf.low rfl rfl hf.high) ?_)
  by_cases hcan : lo ≤ e.ch.s ∧ e.ch.last ≤ hi
  · rw [decide_eq_true hcan]
    refine cons_run (T6A (ch := e.ch) (T := T) (N := N) (kp := kp) (t := t) hf.kept hf.at_ (hk.pre p₁₂) hg (he.row.pre p₁₂) ⟨by rw [hz₁.1]; exact hcan.1, by rw [hz₁.2.1]; exact hcan.2⟩ ho₁.un ho₁.tk (hb₁.pre p₁₂) (fun w => (hx₁ w).pre p₁₂) hr0 ho₁.gx he.pos he.non he.few he.low (n5 hN).2 fun cells gs ge pt' i' τ₃ p₃ g₂ w1 w2 hls => ?_)
    have p₁₃ := p₁₂.trans p₃
    refine cons_next (B7 (b := true) rfl rfl) (cons_run (B8 (e := e) (T := T) rfl rfl (hbt.pre p₃) (hbc.pre p₃) (he.pre p₁₃) hTN (n7 s_last he.low) fun tx τ₄ p₄ htx => ?_))
    refine cons_next (B9a (ch := e.ch) (hi := hi) (by rfl) (by exact hf.high) (by rfl) (by rfl)) ?_
    rw [hz₁.1] at w1
    rw [hz₁.2.1] at w2 ⊢
    exact fin (lo := lo) (hi := hi + e.ch.dz) (t := t) (tx := tx) ⟨hf.low, rfl, hf.kept, hf.at_, hf.err⟩ rfl rfl htx ⟨ho₁.un, b2 ho₁.tk, g₂, ho₁.d1, ho₁.d2⟩ (n5 hN).2 (hls.pre p₄) n8 hl₁ ⟨hz₁.1, rfl, w1, w2⟩ hlo (by rw [hlen, Int.add_right_comm]; exact Int.add_le_add_right hhi _) (p₁₃.trans p₄) kk₁
  · rw [decide_eq_false hcan]
    have hcan' : ¬ e.ch.can a₁ := fun q => hcan ⟨by rw [← hz₁.1]; exact q.1, by rw [← hz₁.2.1]; exact q.2⟩
    refine cons_run (T6B (ch := e.ch) (kp := kp) (t := t) hf.kept hf.at_ hf.err (hk.pre p₁₂) hg (he.row.pre p₁₂) hcan' fun τ₃ p₃ => ?_)
    have p₁₃ := p₁₂.trans p₃
    refine cons_next (B7 (b := false) rfl rfl) (cons_run (B8 (e := e) (T := T) rfl rfl (hbt.pre p₃) (hbc.pre p₃) (he.pre p₁₃) hTN (n7 s_last he.low) fun tx τ₄ p₄ htx => ?_))
    have p₁₄ := p₁₃.trans p₄
    refine cons_run (B9b (ch := e.ch) (T := T) (N := N) (C := e.ch.undo T) (kp := kp) (t := t) (bt := bt) (bc := bc) (tx := tx) (x := x) (i := e.ri) (kept := kept) (bd := bd) ?_ ?_ ?_ ?_ ?_ (hbt.pre (p₃.trans p₄)) (hbc.pre (p₃.trans p₄)) htx (hk.pre p₁₄) hg (he.row.pre p₁₄) ho₁.un ho₁.tk (hb₁.pre p₁₄) (fun w => (hx₁ w).pre p₁₄) hr0 ho₁.gx he.pos he.non he.few he.low (n5 hN).2 fun cells gs ge pt' i' τ₅ p₅ g₂ w1 w2 hls => ?_)
    · rfl
    · exact hf.kept
    · exact hf.at_
    · rfl
    · rfl
    have w1 : 1 ≤ pt' := w1
    have w2 : pt' ≤ (T.length : Int) + 1 + e.ch.dz := w2
    have w4 : (T.length : Int) + 1 + e.ch.dz = (e.ch.undo T).length + 1 := by rw [hlen, Int.add_right_comm]
    rw [w4] at w2
    exact fin (lo := 1) (hi := (e.ch.undo T).length + 1) (t := t) (tx := tx) ⟨rfl, rfl, hf.kept, hf.at_, hf.err⟩ rfl rfl (htx.pre p₅) ⟨ho₁.un, b2 ho₁.tk, g₂, ho₁.d1, ho₁.d2⟩ (n5 hN).2 hls n8 hl₁ ⟨rfl, w4, w1, w2⟩ (Int.le_refl _) (Int.le_refl _) (p₁₄.trans p₅) kk₁
end
end Mine.I

namespace Mine.I
theorem rows_cons {e : Ent} {h : List Ent} : ∃ X, rowsOf (e :: h) = X ++ [.obj e.ri] ∧ X.length = 2 * h.length ∧ (h ≠ [] → ∃ Y, X = Y ++ [.glob 175]) := by
  induction h generalizing e with
  | nil => exact ⟨[], rfl, rfl, fun q => absurd rfl q⟩
  | cons e' h ih =>
    obtain ⟨X, h1, h2, _⟩ := ih (e := e')
    refine ⟨rowsOf (e' :: h) ++ [.glob 175], rfl, ?_, fun _ => ⟨_, rfl⟩⟩
    rw [h1]; simp only [List.length_append, List.length_cons, List.length_nil, h2]; lia
theorem rows_app {e : Ent} {h : List Ent} : ∀ {pre : List Ent}, ∃ Z, rowsOf (pre ++ e :: h) = rowsOf (e :: h) ++ Z ∧ (pre = [] → Z = []) ∧ (pre ≠ [] → ∃ Z', Z = .glob 175 :: Z')
  | [] => ⟨[], (List.append_nil _).symm, fun _ => rfl, fun q => absurd rfl q⟩
  | p :: pre => by
    obtain ⟨Z, h1, h2, h3⟩ := rows_app (e := e) (h := h) (pre := pre)
    have e1 : (pre ++ e :: h).isEmpty = false := by cases pre <;> rfl
    have e2 : rowsOf (p :: pre ++ e :: h) = rowsOf (e :: h) ++ (Z ++ [.glob 175, .obj p.ri]) := by
      rw [List.cons_append, rowsOf, e1, h1]; simp
    refine ⟨_, e2, fun q => absurd q (List.cons_ne_nil _ _), fun _ => ?_⟩
    by_cases hp : pre = []
    · rw [h2 hp]; exact ⟨_, rfl⟩
    · obtain ⟨Z', rfl⟩ := h3 hp; exact ⟨_, rfl⟩
theorem item_at {X Y : List V} {v : V} {z : Int} (h : z = X.length) : item1 (X ++ v :: Y) z = some v := by
  unfold item1
  rw [if_pos (by lia), List.getElem?_append_right (by lia), show z.toNat - X.length = 0 by lia]; rfl
theorem grp {e : Ent} {h pre : List Ent} {t : Int} (ht : t = 2 * ((e :: h).length : Int) - (if pre.isEmpty then 1 else 0)) : Grp (rowsOf (pre ++ e :: h)) t (2 * (h.length : Int) + 1) e.ri := by
  obtain ⟨X, x1, x2, x3⟩ := rows_cons (e := e) (h := h)
  obtain ⟨Z, z1, z2, z3⟩ := rows_app (e := e) (h := h) (pre := pre)
  have e1 : rowsOf (pre ++ e :: h) = X ++ .obj e.ri :: Z := by rw [z1, x1, List.append_assoc]; rfl
  rw [List.length_cons] at ht
  refine ⟨by lia, ?_, ?_, ?_⟩
  · rw [e1]; exact item_at (by lia)
  · by_cases hh : h = []
    · subst hh; left; rfl
    · right
      obtain ⟨Y, rfl⟩ := x3 hh
      have : 0 < h.length := List.length_pos_iff.mpr hh
      rw [List.length_append, List.length_singleton] at x2
      refine ⟨by lia, ?_⟩
      rw [e1, List.append_assoc]; exact item_at (by lia)
  · cases pre with
    | nil => left; simp only [List.isEmpty_nil, if_true] at ht; lia
    | cons p pre =>
      right
      simp only [List.isEmpty_cons, Bool.false_eq_true, if_false] at ht
      obtain ⟨Z', rfl⟩ := z3 (by simp)
      refine ⟨by lia, ?_⟩
      rw [e1, show X ++ V.obj e.ri :: V.glob 175 :: Z' = (X ++ [.obj e.ri]) ++ .glob 175 :: Z' by simp]
      exact item_at (by rw [List.length_append, List.length_singleton]; lia)
theorem s1 {N c : Nat} (h : N + 60 * (c + 1) ≤ 4900) : N ≤ 4900 ∧ N + 60 + 60 * c ≤ 4900 := by lia
theorem s2 {M : Int} {c : Nat} (h : M + ((c + 1 : Nat) : Int) ≤ 90000) : M ≤ 90000 ∧ M + 1 + c ≤ 90000 := by lia
theorem s3 {r r' c : Nat} (h : r + 2 * (c + 1) < 9000) (h' : r' ≤ r + 2) : r' + 2 * c < 9000 := by lia
theorem s4 {r c : Nat} (h : r + 2 * (c + 1) < 9000) : r < 9000 := by lia
theorem s5 {c : Nat} : 2 * (c : Int) + 1 - 1 = 2 * c - 0 := by lia
theorem iter_no {x y : Nat} : ¬ Kpb (.iter x y) := id
section
variable {k : Kst} {F : H → Prop} {T₀ : List Int} {it li kp : Nat} {all : List Ent} {Q : Fl × Fm → H → Prop}
theorem At.other {τ : H} {u i li j : Nat} {o o' : AO} (h : At k.q τ i o) (hu : τ[u]? = some (.iter li j)) (hn : ∀ x y, o ≠ .iter x y) : At k.q (τ.set u o') i o := by
  obtain ⟨w, rfl, hw⟩ := h
  refine ⟨w, rfl, ?_⟩
  rw [List.getElem?_set_ne, hw]
  rintro rfl
  rw [hu] at hw; cases hw
  exact hn _ _ rfl
theorem undos : ∀ {h pre : List Ent} {a : Sta} {τ : H} {T : List Int} {N n : Nat} {M lo hi t : Int} {l : List (String × V)} {bd : Bool},
    At k.q τ it (.iter li pre.length) → At k.q τ li (.list (objs all)) → At k.q τ kp (.list (rowsOf all)) → all = pre ++ h → Fr l lo hi t kp → t = 2 * (h.length : Int) - (if pre.isEmpty then 1 else 0) → (h = [] → pre ≠ [] ∧ ∃ tx, l.lookup "text" = some (.obj tx) ∧ At k.q τ tx (.list (il T))) →
    Ok k a T N M → Chn k τ T₀ h T → Ls k τ a.rows bd → Lst k τ a.rows h → Bds a lo hi → 1 ≤ lo → hi ≤ T.length + 1 → N + 60 * h.length ≤ 4900 → M + h.length ≤ 90000 → a.rows.length + 2 * h.length < 9000 →
    (∀ l' a' τ' tx, l'.lookup "at" = some (.int 0) → l'.lookup "text" = some (.obj tx) → At k.q τ' tx (.list (il T₀)) → Q (.next, ⟨l', dbc⟩) (W k a' τ')) →
    Run F (forI fns mets inits (n + h.length + 400) ⟨l, dbc⟩ ["change"] it LB (W k a τ)) Q := by
  intro h
  induction h with
  | nil =>
    intro pre a τ T N n M lo hi t l bd hit hli hkp hall hf ht htx ho hch hb hx hz hlo hhi hN hM hl kk
    obtain ⟨hp, tx, t1, t2⟩ := htx rfl
    obtain ⟨u, rfl, hu⟩ := hit
    cases hch
    have : (objs all)[pre.length]? = none := by
      rw [List.getElem?_eq_none]; rw [objs, List.length_map, hall, List.append_nil]; exact Nat.le_refl _
    rw [f_none (σ' := W k a (τ.set u .gone)) (by simp only [next1, get_W, hu, at_W hli, this, set_W])]
    have hne : pre.isEmpty = false := by cases pre with
      | nil => exact absurd rfl hp
      | cons _ _ => rfl
    exact kk l a _ tx (by rw [hf.at_, ht, hne]; rfl) t1 (t2.other hu fun _ _ q => by cases q)
  | cons e h ih =>
    intro pre a τ T N n M lo hi t l bd hit hli hkp hall hf ht htx ho hch hb hx hz hlo hhi hN hM hl kk
    obtain ⟨u, rfl, hu⟩ := hit
    have lu : u < τ.length := (List.getElem?_eq_some_iff.mp hu).1
    have hget : (objs all)[pre.length]? = some (.obj e.ci) := by
      rw [objs, hall, List.map_append, List.getElem?_append_right (by rw [List.length_map]; exact Nat.le_refl _), List.length_map, Nat.sub_self]; rfl
    have q : Kp k τ (τ.set u (.iter li (pre.length + 1))) := Kp.put hu iter_no
    rw [show n + (e :: h).length + 400 = n + h.length + 400 + 1 from Nat.add_right_comm (n + h.length) 1 400, f_some (v := .obj e.ci) (σ' := W k a (τ.set u (.iter li (pre.length + 1)))) (by simp only [next1, get_W, hu, at_W hli, hget, set_W]), run_bind]
    cases hch with
    | cons he hch =>
    have hkp' := hkp.other (o' := .iter li (pre.length + 1)) hu (fun _ _ q => by cases q)
    have hli' := hli.other (o' := .iter li (pre.length + 1)) hu (fun _ _ q => by cases q)
    have hit' : At k.q (τ.set u (.iter li (pre.length + 1))) (k.q + u) (.iter li (pre ++ [e]).length) := ⟨u, rfl, by rw [List.getElem?_set_self lu, List.length_append]; rfl⟩
    have he' := he.kp q
    have hch' := hch.kp q
    have hb' := hb.kp q
    have hx' : e.ch.w = "delete" → Lx k _ a.rows := fun w => (hx w).kp q
    clear htx he hch hb hx hkp hli hu lu q
    generalize τ.set u (.iter li (pre.length + 1)) = τ₁ at hkp' hli' hit' he' hch' hb' hx' ⊢
    have g := grp ht
    rw [← hall] at g
    refine body (x := 2 * (h.length : Int) + 1) (T := T) (N := N) (M := M) (e := e) hf ho (s1 hN).1 (s2 hM).1 he' hkp' g hb' hx' (s4 hl) hz hlo hhi fun l' a' τ' tx lo' hi' p hf' t1 t2 ho' hb'' hx'' hz' hlo' hhi' hl' => ?_
    refine ih (pre := pre ++ [e]) (n := n) (N := N + 60) (M := M + 1) (hit'.pre p) (hli'.pre p) (hkp'.pre p) (by rw [hall, List.append_assoc]; rfl) hf' ?_ (fun _ => ⟨by simp, tx, t1, t2⟩) ho' (hch'.kp (Kp.of p)) hb'' ?_ hz' hlo' hhi' (s1 hN).2 (s2 hM).2 (s3 hl hl') kk
    · rw [show (pre ++ [e]).isEmpty = false by cases pre <;> rfl]
      exact s5
    · cases h with
      | nil => trivial
      | cons _ _ => exact fun _ => hx''
end
end Mine.I

namespace Mine.I
section
variable {n : Nat} {m : Fm} {σ : H} {o0 o1 o2 o3 o4 : AO} {l : List (String × V)} {c : List (String × Nat)}
theorem il_get {d r : List Int} : (il (d ++ r))[d.length]? = (il r)[0]? := by rw [List.getElem?_map, List.getElem?_append_right (Nat.le_refl _), Nat.sub_self, List.getElem?_map]
theorem comp_abs : ∀ {rest done acc : List Int}, acc.length + rest.length ≤ 1000 → compI fns mets inits (n + rest.length + 10) ⟨l, c⟩ (.abs (.loc "cell")) ["cell"] none 4 5 [o0, o1, o2, .list (il (done ++ rest)), .iter 3 done.length, .list (il acc)] = .ok () [o0, o1, o2, .list (il (done ++ rest)), .gone, .list (il (acc ++ rest.map fun z => (z.natAbs : Int)))]
  | [], done, acc, h => by
    rw [compI, show next1 4 [o0, o1, o2, .list (il (done ++ [])), .iter 3 done.length, .list (il acc)] = some (none, [o0, o1, o2, .list (il (done ++ [])), .gone, .list (il acc)]) by
      show (match (il (done ++ []))[done.length]? with | .none => _ | some y => _) = _
      rw [il_get]; rfl]
    simp
  | z :: r, done, acc, h => by
    rw [List.length_cons] at h
    rw [show n + (z :: r).length + 10 = n + r.length + 10 + 1 by rw [List.length_cons]; lia, compI, show next1 4 [o0, o1, o2, .list (il (done ++ z :: r)), .iter 3 done.length, .list (il acc)] = some (some (.int z), [o0, o1, o2, .list (il (done ++ z :: r)), .iter 3 (done.length + 1), .list (il acc)]) by
      show (match (il (done ++ z :: r))[done.length]? with | .none => _ | some y => _) = _
      rw [il_get]; rfl]
    have e1 : evalI fns mets inits (n + r.length + 10) ⟨[("cell", .int z)], c⟩ (.abs (.loc "cell")) [o0, o1, o2, .list (il (done ++ z :: r)), .iter 3 (done.length + 1), .list (il acc)] = .ok (.int z.natAbs) [o0, o1, o2, .list (il (done ++ z :: r)), .iter 3 (done.length + 1), .list (il acc)] := by
      rw [evalI, evalI]; rfl
    dsimp only
    rw [e1]
    have e2 : app1 5 (.int z.natAbs) [o0, o1, o2, .list (il (done ++ z :: r)), .iter 3 (done.length + 1), .list (il acc)] = some [o0, o1, o2, .list (il (done ++ z :: r)), .iter 3 (done.length + 1), .list (il (acc ++ [(z.natAbs : Int)]))] := by
      show (if (il acc).length < 100000 then _ else _) = _
      rw [if_pos (by rw [il_len]; lia), ← il_app (l := acc) (r := [(z.natAbs : Int)])]; rfl
    dsimp only
    rw [e2, q_some]
    have := comp_abs (rest := r) (done := done ++ [z]) (acc := acc ++ [(z.natAbs : Int)]) (by rw [List.length_append, List.length_singleton]; lia)
    rw [List.append_assoc, List.length_append, List.length_singleton] at this
    rw [show done ++ z :: r = done ++ ([z] ++ r) from rfl, this, List.append_assoc]; rfl
theorem comp_fil : ∀ {rest done acc : List Int}, acc.length + rest.length ≤ 1000 → ∃ d, compI fns mets inits (n + rest.length + 10) ⟨l, c⟩ (.loc "cell") ["cell"] (some (.cmp .ge (.loc "cell") (.pow 10 18))) 6 7 [o0, o1, o2, o3, o4, .list (il (done ++ rest)), .iter 5 done.length, .list (il acc)] = .ok () [o0, o1, o2, o3, o4, .list (il (done ++ rest)), .gone, .list (il d)]
  | [], done, acc, h => by
    refine ⟨acc, ?_⟩
    rw [compI, show next1 6 [o0, o1, o2, o3, o4, .list (il (done ++ [])), .iter 5 done.length, .list (il acc)] = some (none, [o0, o1, o2, o3, o4, .list (il (done ++ [])), .gone, .list (il acc)]) by
      show (match (il (done ++ []))[done.length]? with | .none => _ | some y => _) = _
      rw [il_get]; rfl]
  | z :: r, done, acc, h => by
    rw [List.length_cons] at h
    rw [show n + (z :: r).length + 10 = n + r.length + 10 + 1 by rw [List.length_cons]; lia]
    have e0 : next1 6 [o0, o1, o2, o3, o4, .list (il (done ++ z :: r)), .iter 5 done.length, .list (il acc)] = some (some (.int z), [o0, o1, o2, o3, o4, .list (il (done ++ z :: r)), .iter 5 (done.length + 1), .list (il acc)]) := by
      show (match (il (done ++ z :: r))[done.length]? with | .none => _ | some y => _) = _
      rw [il_get]; rfl
    have e1 : evalI fns mets inits (n + r.length + 10) ⟨[("cell", .int z)], c⟩ (.cmp .ge (.loc "cell") (.pow 10 18)) [o0, o1, o2, o3, o4, .list (il (done ++ z :: r)), .iter 5 (done.length + 1), .list (il acc)] = .ok (.bool (decide (((10 : Nat) : Int) ^ 18 ≤ z))) [o0, o1, o2, o3, o4, .list (il (done ++ z :: r)), .iter 5 (done.length + 1), .list (il acc)] := by
      rw [e_cmp, e_loc, show List.lookup "cell" [("cell", V.int z)] = some (.int z) from rfl, okV_, k5_, e_pow, k4_, c_ge, okB_]
    have e3 : evalI fns mets inits (n + r.length + 10) ⟨[("cell", .int z)], c⟩ (.loc "cell") [o0, o1, o2, o3, o4, .list (il (done ++ z :: r)), .iter 5 (done.length + 1), .list (il acc)] = .ok (.int z) [o0, o1, o2, o3, o4, .list (il (done ++ z :: r)), .iter 5 (done.length + 1), .list (il acc)] := by
      rw [e_loc]; rfl
    have e2 : app1 7 (.int z) [o0, o1, o2, o3, o4, .list (il (done ++ z :: r)), .iter 5 (done.length + 1), .list (il acc)] = some [o0, o1, o2, o3, o4, .list (il (done ++ z :: r)), .iter 5 (done.length + 1), .list (il (acc ++ [z]))] := by
      show (if (il acc).length < 100000 then _ else _) = _
      rw [if_pos (by rw [il_len]; lia), ← il_app (l := acc) (r := [z])]; rfl
    rw [compI, e0]
    dsimp only
    rw [e1]
    dsimp only
    rw [tr_b, q_some]
    cases decide (((10 : Nat) : Int) ^ 18 ≤ z) with
    | true =>
      obtain ⟨d, hd⟩ := comp_fil (rest := r) (done := done ++ [z]) (acc := acc ++ [z]) (by rw [List.length_append, List.length_singleton]; lia)
      rw [List.append_assoc, List.length_append, List.length_singleton] at hd
      refine ⟨d, ?_⟩
      rw [if_pos rfl, e3]
      dsimp only
      rw [e2, q_some]
      exact hd
    | false =>
      obtain ⟨d, hd⟩ := comp_fil (rest := r) (done := done ++ [z]) (acc := acc) (by lia)
      rw [List.append_assoc, List.length_append, List.length_singleton] at hd
      exact ⟨d, hd⟩
end
end Mine.I

namespace Mine.I
section
variable {n : Nat} {m : Fm} {σ σ₁ σ₂ σ₃ : H} {o0 o1 o2 o3 o4 o5 o6 o7 o8 o9 o10 : AO} {l : List (String × V)} {c : List (String × Nat)} {it elt : ME} {xs : List String} {cond : Option ME} {v : V}
theorem e_comp (h1 : evalI fns mets inits n m it σ = .ok v σ₁) (h2 : iter1 v σ₁ = some σ₂) (h3 : compI fns mets inits n m elt xs cond σ₁.length (σ₁.length + 1) (σ₂ ++ [.list []]) = .ok () σ₃) : evalI fns mets inits (n + 1) m (.comp elt xs it cond) σ = .ok (.obj (σ₁.length + 1)) σ₃ := by
  rw [evalI, h1]
  dsimp only [R.bind]
  rw [h2]
  dsimp only [bad?]
  rw [h3]
theorem buf : evalI fns mets inits (n + 60) m (.new 618 "Buffer" [.int 1, .str "a"]) [o0, o1, o2, o3, o4, o5, o6, o7, o8, o9, o10] = .ok (.obj 12) [o0, o1, o2, o3, o4, o5, o6, o7, o8, o9, o10, .dict [("number", .int 1), ("name", .str "a"), ("text", .obj 15), ("markers", .obj 21), ("point", .int 1), ("begv", .int 1), ("zv", .int 1), ("mark", .none), ("is_live", .bool true), ("is_read_only", .bool false), ("ticks", .int 1), ("codes_ticks", .int 1), ("saved_ticks", .int 1), ("listeners", .obj 23), ("undo", .none), ("props", .none), ("overlays", .none), ("locals", .none), ("syntax", .none), ("file", .none)], .inst 618 11, .list [], .dict [("room", .int 8), ("cells", .obj 19), ("gap_start", .int 0), ("gap_end", .int 8)], .inst 407 14, .list [], .list [.int 0], .list (il (List.replicate 8 0)), .list (il (List.replicate 8 0)), .dict [("rows", .obj 22)], .inst 477 20, .dict [], .list []] := by kernel_rfl
theorem L700 {xs : List Int} {ts : List Nat} : ∃ d0 d1 o3 o5 o8, callI fns mets inits (n + 80) 700 [.obj 0] [.scr xs ts, o1, o2] = .ok (.obj 10) [.scr xs ts, o1, o2, o3, .gone, o5, .gone, .list (il d0), o8, .list (il d1), .list [.obj 7, .obj 9, .int 0]] ∧ d1 ≠ [] ∧ d1.length ≤ 1000 := by
  have hl : (xs.take 20).length ≤ 20 := by rw [List.length_take]; lia
  have hlm : ((xs.take 20).map fun z => (z.natAbs : Int)).length = (xs.take 20).length := List.length_map _
  generalize hx : (xs.take 20).map (fun z => (z.natAbs : Int)) = ys at hlm
  obtain ⟨n1, hn1⟩ : ∃ n1, n + 76 = n1 + (xs.take 20).length + 10 := ⟨n + 76 - (xs.take 20).length - 10, by lia⟩
  have h1 : evalI fns mets inits (n + 77) ⟨[("script", .obj 0)], []⟩ (.comp (.abs (.loc "cell")) ["cell"] (.upto (.loc "script") (.int 20)) .none) [.scr xs ts, o1, o2] = .ok (.obj 5) [.scr xs ts, o1, o2, .list (il (xs.take 20)), .gone, .list (il ys)] := by
    refine e_comp (v := .obj 3) (σ₁ := [.scr xs ts, o1, o2, .list (il (xs.take 20))]) (σ₂ := [.scr xs ts, o1, o2, .list (il (xs.take 20)), .iter 3 0]) ?_ rfl ?_
    · simp only [e_upto, k19_, k18_, e_loc, e_int, okV_, List.lookup_cons, String.reduceBEq, l_uptos (σ := [.scr xs ts, o1, o2]) (i := 0) (xs := xs) (ts := ts) (z := 20) rfl (by rw [lim_eq]; lia)]
      rw [il_take]; rfl
    · rw [hn1, ← hx]
      exact comp_abs (n := n1) (rest := xs.take 20) (done := []) (acc := []) (by simp only [List.length_nil]; lia)
  obtain ⟨n2, hn2⟩ : ∃ n2, n + 73 = n2 + ys.length + 10 := ⟨n + 73 - ys.length - 10, by lia⟩
  obtain ⟨d, hd⟩ := comp_fil (n := n2) (o0 := .scr xs ts) (o1 := o1) (o2 := o2) (o3 := .list (il (xs.take 20))) (o4 := .gone) (l := [("cells", .obj 5), ("script", .obj 0)]) (c := []) (rest := ys) (done := []) (acc := []) (by simp only [List.length_nil]; lia)
  rw [← hn2] at hd
  have h2 : evalI fns mets inits (n + 74) ⟨[("cells", .obj 5), ("script", .obj 0)], []⟩ (.comp (.loc "cell") ["cell"] (.loc "cells") (some (.cmp .ge (.loc "cell") (.pow 10 18)))) [.scr xs ts, o1, o2, .list (il (xs.take 20)), .gone, .list (il ys)] = .ok (.obj 7) [.scr xs ts, o1, o2, .list (il (xs.take 20)), .gone, .list (il ys), .gone, .list (il d)] :=
    e_comp (v := .obj 5) (σ₁ := [.scr xs ts, o1, o2, .list (il (xs.take 20)), .gone, .list (il ys)]) (σ₂ := [.scr xs ts, o1, o2, .list (il (xs.take 20)), .gone, .list (il ys), .iter 5 0]) (by rw [e_loc]; rfl) rfl hd
  refine ⟨d, ys ++ [417 + (ys.length : Int)], .list (il (xs.take 20)), .list (il ys), .list [.int (417 + ys.length)], ?_, by simp, by simp only [List.length_append, List.length_singleton]; lia⟩
  simp only [c_700, F700, x_cons, s_set, h1, k35_, kX_n]
  simp only [s_ret, e_lst, es_cons, kE1_, h2]
  have hadd : ∀ (σ : H) (j : Nat), σ[5]? = some (.list (il ys)) → σ[j]? = some (.list [.int (417 + ys.length)]) → bin1 σ .add (.obj 5) (.obj j) = .ok (.obj σ.length) (σ ++ [.list (il (ys ++ [417 + (ys.length : Int)]))]) := fun σ j q1 q2 => by
    rw [b_addl q1 q2 (by rw [il_len]; simp only [List.length_singleton]; lia), ← il_app]; rfl
  simp only [e_bin, k2_, k3_, e_loc, List.lookup_cons, String.reduceBEq, okV_, e_lst, es_cons, kE1_, kE2_, es_nil, e_int, e_len, k26_, b_add, kL1, l_len (σ := [.scr xs ts, o1, o2, .list (il (xs.take 20)), .gone, .list (il ys), .gone, .list (il d)]) (i := 5) (xs := il ys) rfl, il_len]
  rw [hadd _ _ rfl rfl]
  rfl
end
end Mine.I

namespace Mine.I
noncomputable def rng (n : Nat) : List Int := (List.range n).map fun (i : Nat) => (i : Int)
theorem rlist_il {z : Int} : rlist z = il (rng z.toNat) := by rw [rlist, il, rng, List.map_map]; rfl
theorem rng_len {n : Nat} : (rng n).length = n := by rw [rng, List.length_map, List.length_range]
section
variable {k : Kst} {a : Sta} {τ τ' : H} {n : Nat} {m : Fm} {F G : H → Prop} {T C T₀ : List Int} {N i j c ci ri it acc li tx kp bt bc ch : Nat} {z s e p t M x f lo hi la : Int} {v v₁ v₂ v₃ : V} {rs kept : List V} {o o' : AO} {σ σ₁ σ₂ : H} {l : List (String × V)} {Q : Fl × Fm → H → Prop}
theorem sce_eq {x y : String} {ea eb : ME} {u : V} {w w' : Option V} (ha : evalI fns mets inits n m ea σ = .ok v σ₁) (hb : evalI fns mets inits n m eb σ₁ = .ok u σ₂) (hx : m.c.lookup x = some i) (hy : m.c.lookup y = some j) (hi : σ₂[i]? = some (.cell w)) (hj : (σ₂.set i (.cell (some v)))[j]? = some (.cell w')) :
    execI fns mets inits (n + 1) m (.sce x y ea eb) σ = .ok (.next, m) ((σ₂.set i (.cell (some v))).set j (.cell (some u))) := by
  rw [execI, ha]
  dsimp only [R.bind]
  rw [hb]
  dsimp only
  rw [hx, hy]
  dsimp only [bad?]
  rw [hi, hj]
theorem satT {C d : Nat} {l : H} {fs : List (String × V)} {x : String} (h1 : l[i]? = some (.inst C (σ.length + d))) (h2 : l[d]? = some (.dict fs)) (h3 : attOk C x = true) (h4 : fs.length < 900) : (R.ok (.obj (σ.length + i)) (σ ++ l)).bind (satR x v m) = .ok (.next, m) (σ ++ l.set d (.dict (upd x v fs))) := by
  rw [sat_eq (by rw [t_get, h1]) (by rw [t_get, h2]) h3 h4, t_set]
theorem L189 : callI fns mets inits (n + 30) 189 [.obj (σ.length + 3)] (σ ++ [o, o', .dict [], .inst 260 (σ.length + 2)]) = .ok .none (σ ++ [o, o', .dict [("rows", .obj (σ.length + 4)), ("dropped", .int 0), ("is_on", .bool true), ("point_before", .none), ("noted_tick", .none)], .inst 260 (σ.length + 2), .list []]) := by
  have s : ∀ {m : Fm} {x : String} {v : V} {fs : List (String × V)} {o₁ : AO}, attOk 260 x = true → fs.length < 900 → (R.ok (.obj (σ.length + 3)) (σ ++ [o, o', .dict fs, .inst 260 (σ.length + 2), o₁])).bind (satR x v m) = .ok (.next, m) (σ ++ [o, o', .dict (upd x v fs), .inst 260 (σ.length + 2), o₁]) := fun {m x v fs o₁} h1 h2 => satT (i := 3) (d := 2) (l := [o, o', .dict fs, .inst 260 (σ.length + 2), o₁]) rfl rfl h1 h2
  simp only [c_189, F189, e_int, e_non, e_boo, okV_, e_loc, kL0, e_lst, es_nil, kX_n, kRet_n, x_nil, x_cons, kS_, s_sat, List.lookup_cons, String.reduceBEq, String.reduceEq, if_false, List.append_assoc, List.cons_append, List.nil_append, List.length_cons, List.length_nil, List.length_append, Nat.zero_add, Nat.reduceAdd, s (x := "rows") rfl, s (x := "dropped") rfl, s (x := "is_on") rfl, s (x := "point_before") rfl, s (x := "noted_tick") rfl, upd, Nat.reduceLT]
theorem L669 : callI fns mets inits (n + 60) 669 [.obj (σ.length + 1)] (σ ++ [.dict [], .inst 691 σ.length]) = .ok .none (σ ++ [.dict [("list", .obj (σ.length + 3))], .inst 691 σ.length, .dict [("rows", .obj (σ.length + 4)), ("dropped", .int 0), ("is_on", .bool true), ("point_before", .none), ("noted_tick", .none)], .inst 260 (σ.length + 2), .list []]) := by
  have s : ∀ {m : Fm} {v : V} {l : H}, (R.ok (.obj (σ.length + 1)) (σ ++ .dict [] :: .inst 691 σ.length :: l)).bind (satR "list" v m) = .ok (.next, m) (σ ++ .dict [("list", v)] :: .inst 691 σ.length :: l) := fun {m v l} => satT (i := 1) (d := 0) (fs := []) (l := .dict [] :: .inst 691 σ.length :: l) rfl rfl rfl (by decide)
  simp only [c_669, F669, okV_, e_loc, kN2_, kNC_, e_new260, es_nil, kX_n, kRet_n, x_nil, x_cons, kS_, s_sat, List.lookup_cons, String.reduceBEq, List.append_assoc, List.cons_append, List.nil_append, List.length_cons, List.length_nil, List.length_append, Nat.zero_add, Nat.reduceAdd, Nat.add_assoc, L189, s]
theorem rec_new : evalI fns mets inits (n + 80) m (.new 691 "Recording" []) σ = .ok (.obj (σ.length + 1)) (σ ++ [.dict [("list", .obj (σ.length + 3))], .inst 691 σ.length, .dict [("rows", .obj (σ.length + 4)), ("dropped", .int 0), ("is_on", .bool true), ("point_before", .none), ("noted_tick", .none)], .inst 260 (σ.length + 2), .list []]) := by
  simp only [kN2_, kNC_, e_new691, es_nil, List.append_assoc, List.cons_append, List.nil_append, L669]
theorem e1 {r : Int} (h0 : 0 ≤ r) (h1 : r < 6) : (0 ≤ 2 + r ∧ 2 + r ≤ 100000) ∧ 2 ≤ (2 + r).toNat ∧ (2 + r).toNat ≤ 7 := by lia
theorem S1 (hd : k.d1 ≠ [] ∧ k.d1.length ≤ 1000) (h0 : a.d2 = 0) (kk : ∀ tx c d0 d2 τ', At 24 τ' tx (.list (il (rng c))) → 2 ≤ c → c ≤ 7 → 0 ≤ d2 → d2 ≤ 1 → Q (.next, ⟨("text", .obj tx) :: l, dbc⟩) (X k { a with d0 := d0, d2 := d2 } τ')) : Run F (execI fns mets inits (n + 60) ⟨l, dbc⟩ (.set "text" (.list (.range (.bin .add (.int 2) (.call 707 "_law_draw" [.cel "deck", .int 6]))))) (X k a τ)) Q := by
  simp only [run_bind, e_int, e_cel, k3_, e_bin, kC_, e_call, e_range, e_list, es_nil, kE2_, kE1_, es_cons, s_set, List.lookup_cons, String.reduceBEq, celR_ gX_1]
  refine L707X (p := 6) (M := 0) (by decide) (by decide) hd (by rw [h0]; decide) (by rw [h0]; decide) (by decide) fun r d0 d2 τ₁ p₁ hr0 hr1 hd2 hd3 => ?_
  have w1 := e1 hr0 hr1
  simp only [run_ok, kQ_eq, k2_, k28_, k29_, k35_, b_add, len_X, app_X, l_range w1.1, l_listr g1X w1.1, rlist_il]
  exact kk _ (2 + r).toNat _ _ _ At.new w1.2.1 w1.2.2 hd2 hd3
theorem S2 (hl : l.lookup "text" = some (.obj tx)) (ht : At 24 τ tx (.list (il C))) (hc0 : C ≠ []) (hc : C.length ≤ 50) (hu : a.un = .none) (hg : Gx a [] 8) (h1 : a.point = 1) (h2 : a.begv = 1) (h3 : a.zv = 1) (kk : ∀ cells gs ge τ', Gx { a with cells := cells, gs := gs, ge := ge } C 100 → Q (.next, ⟨l, dbc⟩) (X k { a with cells := cells, gs := gs, ge := ge, point := 1 + C.length, zv := 1 + C.length, ticks := a.ticks + 1, ct := a.ticks + 1 } τ')) : Run F (execI fns mets inits (n + 150) ⟨l, dbc⟩ (.exp (.call 112 "insert" [.cel "buffer", .loc "text"])) (X k a τ)) Q := by
  simp only [run_bind, okV_, e_loc, e_cel, kC_, e_call, es_nil, kE2_, kE1_, es_cons, s_exp, List.lookup_cons, String.reduceBEq, celR_ gX_2, hl]
  refine L112X (C := C) hu hg (by rw [h1]; decide) (by rw [h1]; decide) (by rw [h1, h2]; decide) (by rw [h1, h3]; decide) hc0 ht hc (by decide) fun cells gs ge τ₁ g => ?_
  simp only [run_ok, kQ_eq, k47_]
  rw [h1, h3]
  rw [h1] at g
  exact kk cells gs ge τ₁ (by
    have g' := g.mono (M := 100) (by lia)
    simp only [List.take_nil, List.drop_nil, List.append_nil, List.nil_append] at g'
    exact g')
theorem S3 (h : a.rows = []) : execI fns mets inits (n + 100) ⟨l, dbc⟩ (.sat (.cel "buffer") "undo" (.new 691 "Recording" [])) (X k a τ) = .ok (.next, ⟨l, dbc⟩) (W ⟨k.j, k.d1, τ⟩ { a with un := .obj (Kst.u1 ⟨k.j, k.d1, τ⟩) } []) := by
  have s : ∀ {m : Fm} {v : V} {τ : H}, (R.ok (.obj 12) (X k a τ)).bind (satR "undo" v m) = .ok (.next, m) (X k { a with un := v } τ) := rfl
  simp only [s_sat, rec_new, kS_, app_X, e_cel, List.lookup_cons, String.reduceBEq, celR_ gX_2, s]
  rw [len_X]
  have e : W ⟨k.j, k.d1, τ⟩ { a with un := .obj (Kst.u1 ⟨k.j, k.d1, τ⟩) } [] = X k { a with un := .obj (24 + τ.length + 1) } (τ ++ U ⟨k.j, k.d1, τ⟩ []) := by
    rw [W, List.append_nil]
    show _ ++ (τ ++ U _ a.rows) = _
    rw [h]; rfl
  rw [e]; rfl
end
end Mine.I

namespace Mine.I
section
variable {k : Kst} {a : Sta} {τ τ' : H} {n : Nat} {m : Fm} {F G : H → Prop} {T C T₀ : List Int} {N i j ci ri it acc li tx kp bt bc ch : Nat} {z s e p t M x f lo hi la : Int} {v v₁ v₂ v₃ : V} {rs kept : List V} {o o' : AO} {σ σ₁ σ₂ : H} {l : List (String × V)} {elt : ME} {xs : List String} {cond : Option ME} {hist : List Ent} {Q : Fl × Fm → H → Prop}
noncomputable def kCp2 (i : Nat) : Unit → H → R V := fun _ σ => .ok (.obj i) σ
theorem kCp2_ {u : Unit} : (R.ok u σ).bind (kCp2 i) = .ok (.obj i) σ := rfl
noncomputable def kCp (n : Nat) (m : Fm) (elt : ME) (xs : List String) (cond : Option ME) : V → H → R V := fun v σ => bad? (iter1 v σ) fun σ' => (compI fns mets inits n m elt xs cond σ.length (σ.length + 1) (σ' ++ [.list []])).bind fun _ σ'' => .ok (.obj (σ.length + 1)) σ''
theorem e_compk {itr : ME} : evalI fns mets inits (n + 1) m (.comp elt xs itr cond) σ = (evalI fns mets inits n m itr σ).bind (kCp n m elt xs cond) := rfl
theorem kCp_r (h : σ[i]? = some (.rng z)) (hz : 0 ≤ z ∧ z ≤ 100000) : (R.ok (.obj i) σ).bind (kCp n m elt xs cond) = (compI fns mets inits n m elt xs cond σ.length (σ.length + 1) (σ ++ [.riter 0 z] ++ [.list []])).bind (kCp2 (σ.length + 1)) := by
  rw [b_ok]
  unfold kCp
  rw [show iter1 (.obj i) σ = some (σ ++ [.riter 0 z]) by simp only [iter1, h]; exact if_pos hz]
  rfl
theorem r5 {r : Int} (h0 : 0 ≤ r) (h1 : r < 5) : ∃ c : Nat, 2 + r = (c : Int) ∧ 2 ≤ c ∧ c ≤ 6 := ⟨(2 + r).toNat, by lia⟩
theorem r6 {n c : Nat} (h : c ≤ 6) : ∃ n1, n + 398 = n1 + c + 310 := ⟨n + 88 - c, by lia⟩
theorem S4 (hr : a.rows = []) (h : Ok k a T N M) (hz : Bds a 1 (T.length + 1)) (hN : N ≤ 200) (hM : 0 ≤ M ∧ M ≤ 10) (kk : ∀ ch a' τ' hist T', At k.q τ' ch (.list (objs hist).reverse) → 2 ≤ hist.length → hist.length ≤ 6 → Dn k a' τ' T hist T' 600 50 → Bds a' 1 (T'.length + 1) → Q (.next, ⟨("changes", .obj ch) :: l, dbc⟩) (W k a' τ')) : Run F (execI fns mets inits (n + 400) ⟨l, dbc⟩ (.set "changes" (.comp (.call 714 "_law_command" [.cel "deck", .cel "buffer", .bin .add (.bin .mul (.int 10) (.loc "turn")) (.int 10)]) ["turn"] (.range (.bin .add (.int 2) (.call 707 "_law_draw" [.cel "deck", .int 5]))) .none)) (W k a τ)) Q := by
  simp only [run_bind, e_int, e_cel, k3_, e_bin, kC_, e_call, e_range, es_nil, kE2_, kE1_, es_cons, s_set, List.lookup_cons, String.reduceBEq, celR_ gW_1, e_compk]
  refine L707W (p := 5) (by decide) (by decide) h.d1 h.d2.1 h.d2.2 (Int.le_trans hM.2 (by decide)) fun r d0 d2 τ₁ p₁ hr0 hr1 hd2 hd3 => ?_
  obtain ⟨c, hc, hc2, hc6⟩ := r5 hr0 hr1
  have w1 : 0 ≤ (c : Int) ∧ (c : Int) ≤ 100000 := ⟨Int.natCast_nonneg c, by lia⟩
  simp only [run_ok, kQ_eq, run_bind, k2_, k28_, b_add, len_W, app_W, hc, l_range w1, kCp_r g1W w1]
  obtain ⟨n1, hn1⟩ := r6 (n := n) hc6
  rw [hn1]
  have ha : At k.q (τ₁ ++ [.rng (c : Int)] ++ [.riter 0 (c : Int)] ++ [.list []]) (k.q + (τ₁ ++ [AO.rng (c : Int)]).length + 1) (.list (objs []).reverse) := new2
  refine cmds (hist := []) (T := T) (N := N) (M := M + 1) (x := 0) (T₀ := T) (At.app At.new) ha (Nat.ne_of_lt (Nat.lt_succ_self _)) ⟨⟨h.un, h.tk, h.gx, h.d1, hd2, hd3⟩, .nil, hr, by show Ls k _ a.rows true; rw [hr]; exact .nil, trivial⟩ hz (Int.le_refl _) (by lia) (by rw [List.length_nil]; lia) (by lia) (by lia) fun a' τ' hist T' g1 g2 g3 g4 => ?_
  rw [List.length_nil, Nat.zero_add] at g2
  simp only [run_ok, kQ_eq, k35_, kCp2_]
  exact kk _ a' τ' hist T' g1 (g2 ▸ hc2) (g2 ▸ hc6) ⟨⟨g3.ok.un, g3.ok.tk, g3.ok.gx.mono (by lia), g3.ok.d1, g3.ok.d2.1, Int.le_trans g3.ok.d2.2 (by lia)⟩, g3.ch, g3.rw, g3.ls, g3.lt⟩ g4
theorem r7 {T N : Nat} (h : T ≤ N) (hN : N ≤ 5000) : 1 ≤ (T : Int) + 1 ∧ (T : Int) + 1 ≤ 1000000 := by lia
theorem r8 {r t : Int} (h0 : 0 ≤ r) (h : r < t + 1) : 1 ≤ 1 + r ∧ 1 + r ≤ t + 1 := by lia
theorem r9 {T N : Nat} {lo : Int} (h : T ≤ N) (hN : N ≤ 5000) (h1 : 1 ≤ lo) (h2 : lo ≤ T + 1) : 1 ≤ (T : Int) + 2 - lo ∧ (T : Int) + 2 - lo ≤ 1000000 := by lia
theorem r10 {r t lo : Int} (h0 : 0 ≤ r) (h : r < t + 2 - lo) : lo ≤ lo + r ∧ lo + r ≤ t + 1 := by lia
theorem S5 (h : Ok k a T N M) (hN : N ≤ 5000) (hM : M ≤ 90000) (kk : ∀ (lo : Int) d0 d2 τ', τ <+: τ' → 1 ≤ lo → lo ≤ T.length + 1 → 0 ≤ d2 → d2 ≤ M + 1 → Q (.next, ⟨("low", .int lo) :: l, dbc⟩) (W k { a with d0 := d0, d2 := d2 } τ')) : Run F (execI fns mets inits (n + 60) ⟨l, dbc⟩ (.set "low" (.bin .add (.int 1) (.call 707 "_law_draw" [.cel "deck", .bin .add (.met (.cel "buffer") "size" []) (.int 1)]))) (W k a τ)) Q := by
  have := h.gx.len
  simp only [run_bind, e_int, e_cel, k2_, k3_, e_bin, kC_, e_call, kM_, e_met, es_nil, kE2_, kE1_, es_cons, s_set, b_add, mW_618_size, List.lookup_cons, String.reduceBEq, celR_ gW_1, celR_ gW_2, L566W h.gx]
  refine L707W (p := (T.length : Int) + 1) (r7 this hN).1 (r7 this hN).2 h.d1 h.d2.1 h.d2.2 (Int.le_trans hM (by decide)) fun r d0 d2 τ₁ p₁ hr0 hr1 hd2 hd3 => ?_
  simp only [run_ok, kQ_eq, k2_, k35_, b_add]
  exact kk _ d0 d2 τ₁ p₁ (r8 hr0 hr1).1 (r8 hr0 hr1).2 hd2 hd3
theorem S6 (h : Ok k a T N M) (hN : N ≤ 5000) (hM : M ≤ 90000) (hlo : l.lookup "low" = some (.int lo)) (h1 : 1 ≤ lo) (h2 : lo ≤ T.length + 1) (kk : ∀ (hi : Int) d0 d2 τ', τ <+: τ' → lo ≤ hi → hi ≤ T.length + 1 → 0 ≤ d2 → d2 ≤ M + 1 → Q (.next, ⟨("high", .int hi) :: l, dbc⟩) (W k { a with d0 := d0, d2 := d2 } τ')) : Run F (execI fns mets inits (n + 60) ⟨l, dbc⟩ (.set "high" (.bin .add (.loc "low") (.call 707 "_law_draw" [.cel "deck", .bin .sub (.bin .add (.met (.cel "buffer") "size" []) (.int 2)) (.loc "low")]))) (W k a τ)) Q := by
  have := h.gx.len
  simp only [run_bind, e_int, okV_, e_loc, e_cel, k2_, k3_, e_bin, kC_, e_call, kM_, e_met, es_nil, kE2_, kE1_, es_cons, s_set, b_add, b_sub, mW_618_size, List.lookup_cons, String.reduceBEq, celR_ gW_1, celR_ gW_2, L566W h.gx, hlo]
  refine L707W (p := (T.length : Int) + 2 - lo) (r9 this hN h1 h2).1 (r9 this hN h1 h2).2 h.d1 h.d2.1 h.d2.2 (Int.le_trans hM (by decide)) fun r d0 d2 τ₁ p₁ hr0 hr1 hd2 hd3 => ?_
  simp only [run_ok, kQ_eq, k2_, k35_, b_add]
  exact kk _ d0 d2 τ₁ p₁ (r10 hr0 hr1).1 (r10 hr0 hr1).2 hd2 hd3
theorem S7 (hg : Gx a T N) (h1 : 1 ≤ lo) (h2 : lo ≤ hi) (h3 : hi ≤ T.length + 1) (hlo : l.lookup "low" = some (.int lo)) (hhi : l.lookup "high" = some (.int hi)) : execI fns mets inits (n + 70) ⟨l, dbc⟩ (.exp (.call 627 "narrow" [.cel "buffer", .loc "low", .loc "high"])) (W k a τ) = .ok (.next, ⟨l, dbc⟩) (W k { a with begv := lo, zv := hi, point := min (max a.point lo) hi } τ) := by
  simp -implicitDefEqProofs only [okV_, e_loc, e_cel, kC_, e_call, es_nil, kE2_, kE1_, es_cons, k47_, s_exp, List.lookup_cons, String.reduceBEq, celR_ gW_2, hlo, hhi, L627W hg h1 h2 h3]
theorem S8 (hu : a.un = .obj k.u1) : execI fns mets inits (n + 20) ⟨l, dbc⟩ (.set "kept" (.list (.att (.att (.att (.cel "buffer") "undo") "list") "rows"))) (W k a τ) = .ok (.next, ⟨("kept", .obj (k.q + τ.length)) :: l, dbc⟩) (W k a (τ ++ [.list a.rows])) := by
  simp only [e_cel, k1_, e_att, k29_, e_list, k35_, s_set, aW_list, aW_urows, len_W, app_W, List.lookup_cons, String.reduceBEq, celR_ gW_2, aW_u hu, l_list gW_u4]
theorem S9 (hl : l.lookup "kept" = some (.obj kp)) (hk : At k.q τ kp (.list kept)) : execI fns mets inits (n + 10) ⟨l, dbc⟩ (.set "at" (.len (.loc "kept"))) (W k a τ) = .ok (.next, ⟨("at", .int kept.length) :: l, dbc⟩) (W k a τ) := by
  simp only [okV_, e_loc, k26_, e_len, k35_, s_set, hl, l_len (at_W hk)]
theorem rows_eq {e : Ent} {h : List Ent} : ((rowsOf (e :: h)).length : Int) = 2 * ((e :: h).length : Int) - 1 := by
  obtain ⟨X, h1, h2, _⟩ := rows_cons (e := e) (h := h)
  rw [h1, List.length_append, List.length_singleton, List.length_cons, h2]; lia
theorem S10 {c0 : Nat} (hc : l.lookup "changes" = some (.obj c0)) (hcc : At k.q τ c0 (.list (objs hist).reverse)) (hk : At k.q τ kp (.list (rowsOf hist))) (hf : Fr l lo hi (2 * hist.length - 1) kp) (hh : 2 ≤ hist.length) (hh6 : hist.length ≤ 6) (hd : Dn k a τ T₀ hist T 600 60) (hz : Bds a lo hi) (h1 : 1 ≤ lo) (h3 : hi ≤ T.length + 1) (kk : ∀ l' a' τ' tx, l'.lookup "at" = some (.int 0) → l'.lookup "text" = some (.obj tx) → At k.q τ' tx (.list (il T₀)) → Q (.next, ⟨l', dbc⟩) (W k a' τ')) :
    Run F (execI fns mets inits (n + 420) ⟨l, dbc⟩ (.forin ["change"] (.rev (.loc "changes")) LB) (W k a τ)) Q := by
  have hrl := rows_len (h := hist)
  have e1 : iter1 (.obj (k.q + τ.length)) (W k a (τ ++ [.list (objs hist)])) = some (W k a (τ ++ [.list (objs hist)] ++ [.iter (k.q + τ.length) 0])) := by
    simp only [iter1, g1W, app_W]
  simp only [e_rev, okV_, e_loc, k25_, e_rev, s_for, len_W, app_W, hc, l_rev (at_W hcc), List.reverse_reverse, kF_eq e1]
  obtain ⟨n1, hn1⟩ : ∃ n1, n + 419 = n1 + hist.length + 400 := ⟨n + 419 - hist.length - 400, by lia⟩
  rw [hn1]
  have pp : τ <+: τ ++ [.list (objs hist)] ++ [.iter (k.q + τ.length) 0] := pre2
  refine undos (pre := []) (all := hist) (h := hist) (T := T) (N := 600) (M := 60) At.new (At.app At.new) (hk.pre pp) rfl hf (by simp) (fun q => absurd q (by intro q; rw [q] at hh; simp at hh)) hd.ok (hd.ch.kp (Kp.of pp)) (hd.ls.pre pp) (hd.lt.kp (Kp.of pp)) hz h1 h3 (by lia) (by lia) (by rw [hd.rw]; lia) kk
theorem S11 {c : Nat} (h1 : l.lookup "at" = some (.int 0)) (h2 : l.lookup "text" = some (.obj tx)) (ht : At k.q τ tx (.list (il (rng c)))) (hc : c ≤ 1000) {Q : Fl × Fm → H → Prop} (kk : ∀ τ', Q (.ret (.bool true), ⟨l, dbc⟩) (W k a τ')) : Run F (execI fns mets inits (n + 30) ⟨l, dbc⟩ (.ret (.and2 (.cmp .eq (.loc "at") (.int 0)) (.cmp .eq (.loc "text") (.list (.range (.len (.loc "text"))))))) (W k a τ)) Q := by
  have w1 : 0 ≤ (c : Int) ∧ (c : Int) ≤ 100000 := by lia
  simp only [run_ok, e_int, okV_, e_loc, okB_, k4_, k5_, e_cmp, brA_t, k10_, e_and2, k26_, e_len, k28_, e_range, k29_, e_list, k48_, s_ret, c_eq, len_W, app_W, decide_true, h1, h2, l_len (at_W ht), il_len, rng_len, l_range w1, l_listr g1W w1, rlist_il, Int.toNat_natCast, c_eql (at_W (At.app (At.app ht))) g1W]
  exact kk _
end
end Mine.I

namespace Mine.I
noncomputable def junk (xs : List Int) (ts : List Nat) (o3 o5 o8 : AO) : Nat → AO
  | 0 => .scr xs ts
  | 3 => o3
  | 5 => o5
  | 8 => o8
  | 13 => .list []
  | 16 => .list []
  | 17 => .list [.int 0]
  | 18 => .list (il (List.replicate 8 0))
  | _ => .gone
noncomputable def sta0 (d0 : List Int) : Sta := ⟨d0, 0, List.replicate 8 0, 0, 8, 1, 1, 1, 1, 1, .none, []⟩
theorem S0 {n : Nat} {xs : List Int} {ts : List Nat} : ∃ k d0, execI fns mets inits (n + 100) ⟨[("script", .obj 0)], dbc⟩ (.sce "deck" "buffer" (.call 700 "_law_deck" [.loc "script"]) (.new 618 "Buffer" [.int 1, .str "a"])) [.scr xs ts, .cell none, .cell none] = .ok (.next, ⟨[("script", .obj 0)], dbc⟩) (X k (sta0 d0) []) ∧ k.d1 ≠ [] ∧ k.d1.length ≤ 1000 ∧ k.j 0 = .scr xs ts := by
  obtain ⟨d0, d1, o3, o5, o8, h1, h2, h3⟩ := L700 (n := n + 18) (o1 := .cell none) (o2 := .cell none) (xs := xs) (ts := ts)
  have ha : evalI fns mets inits (n + 99) ⟨[("script", .obj 0)], dbc⟩ (.call 700 "_law_deck" [.loc "script"]) [.scr xs ts, .cell none, .cell none] = .ok (.obj 10) [.scr xs ts, .cell none, .cell none, o3, .gone, o5, .gone, .list (il d0), o8, .list (il d1), .list [.obj 7, .obj 9, .int 0]] := by
    simp only [e_call, es_cons, e_loc, List.lookup_cons, String.reduceBEq, q_some]
    exact h1
  refine ⟨⟨junk xs ts o3 o5 o8, d1, []⟩, d0, ?_, h2, h3, rfl⟩
  rw [sce_eq ha (buf (n := n + 39)) (i := 1) (j := 2) (w := none) (w' := none) rfl rfl rfl rfl]
  rfl
theorem v1 {c : Nat} : (1 : Int) + c = c + 1 ∧ (1 : Int) ≤ 1 + c := by lia
theorem law_run {n : Nat} {xs : List Int} {ts : List Nat} : Run (fun _ => False) (execsI fns mets inits (n + 500) ⟨[("script", .obj 0)], dbc⟩ F733.body [.scr xs ts, .cell none, .cell none]) fun r σ => r.1 = .ret (.bool true) ∧ σ[0]? = some (.scr xs ts) := by
  obtain ⟨k, d0, h0, hk1, hk2, hj⟩ := S0 (n := n + 399) (xs := xs) (ts := ts)
  refine cons_next h0 (cons_run (S1 (k := k) (a := sta0 d0) ⟨hk1, hk2⟩ rfl fun tx c d0₁ d2₁ τ₁ htx hc2 hc7 hd1 hd2 => ?_))
  have hcl := rng_len (n := c)
  have hc0 : rng c ≠ [] := fun q => by rw [q] at hcl; rw [← hcl] at hc2; exact absurd hc2 (by decide)
  refine cons_run (S2 (C := rng c) (k := k) (a := { sta0 d0 with d0 := d0₁, d2 := d2₁ }) rfl htx hc0 (by rw [hcl]; exact Nat.le_trans hc7 (by decide)) rfl ⟨[], List.replicate 8 0, [], by rfl, rfl, by rfl, rfl, by show (List.replicate 8 (0 : Int)).length ≤ 8; decide⟩ rfl rfl rfl fun cells gs ge τ₂ hg => ?_)
  refine cons_next (S3 rfl) ?_
  have ho : Ok ⟨k.j, k.d1, τ₂⟩ { ({ ({ sta0 d0 with d0 := d0₁, d2 := d2₁ } : Sta) with cells := cells, gs := gs, ge := ge, point := 1 + (rng c).length, zv := 1 + (rng c).length, ticks := 1 + 1, ct := 1 + 1 } : Sta) with un := .obj (Kst.u1 ⟨k.j, k.d1, τ₂⟩) } (rng c) 100 1 := ⟨rfl, by show (1 : Int) < 1 + 1; decide, hg, ⟨hk1, hk2⟩, hd1, hd2⟩
  refine cons_run (S4 (T := rng c) (N := 100) (M := 1) rfl ho ⟨rfl, v1.1, v1.2, Int.le_of_eq v1.1⟩ (by decide) (by decide) ?_)
  have hj : ({ j := k.j, d1 := k.d1, t0 := τ₂ } : Kst).j 0 = .scr xs ts := hj
  generalize ({ j := k.j, d1 := k.d1, t0 := τ₂ } : Kst) = k' at hj ⊢
  clear ho hg
  intro ch a τ₃ hist T hch hh2 hh6 hd hz
  refine cons_run (S5 hd.ok (by decide) (by decide) fun lo d0₂ d2₂ τ₄ p₄ hlo1 hlo2 hd3 hd4 => ?_)
  have ho₂ : Ok k' { a with d0 := d0₂, d2 := d2₂ } T 600 51 := ⟨hd.ok.un, hd.ok.tk, hd.ok.gx, hd.ok.d1, hd3, hd4⟩
  refine cons_run (S6 (lo := lo) ho₂ (by decide) (by decide) rfl hlo1 hlo2 fun hi d0₃ d2₃ τ₅ p₅ hhi1 hhi2 hd5 hd6 => ?_)
  refine cons_next (S7 (T := T) (N := 600) (lo := lo) (hi := hi) hd.ok.gx hlo1 hhi1 hhi2 rfl rfl) (cons_next (S8 hd.ok.un) ?_)
  have p : τ₃ <+: τ₅ ++ [.list a.rows] := (p₄.trans p₅).trans pf
  refine cons_next (S9 (kp := k'.q + τ₅.length) (kept := a.rows) rfl At.new) ?_
  have hd' : Dn k' { a with d0 := d0₃, d2 := d2₃, begv := lo, zv := hi, point := min (max a.point lo) hi } (τ₅ ++ [.list a.rows]) (rng c) hist T 600 60 := ⟨⟨hd.ok.un, hd.ok.tk, hd.ok.gx, hd.ok.d1, hd5, Int.le_trans hd6 (by decide)⟩, hd.ch.kp (Kp.of p), hd.rw, hd.ls.pre p, hd.lt.kp (Kp.of p)⟩
  have hlen : (a.rows.length : Int) = 2 * hist.length - 1 := by
    rw [hd.rw]
    cases hist with
    | nil => exact absurd hh2 (by decide)
    | cons e h => exact rows_eq
  have z := n3 (x := a.point) hhi1
  refine cons_run (S10 (c0 := ch) (kp := k'.q + τ₅.length) (hist := hist) (lo := lo) (hi := hi) rfl (hch.pre p) (by rw [hd.rw]; exact At.new) ⟨rfl, rfl, rfl, by rw [← hlen]; rfl, rfl⟩ hh2 hh6 hd' ⟨rfl, rfl, z.1, z.2⟩ hlo1 hhi2 fun l' a' τ' tx' t1 t2 t3 => ?_)
  exact cons_run (S11 t1 t2 t3 (Nat.le_trans hc7 (by decide)) fun τ'' => ⟨rfl, by rw [← hj]; rfl⟩)
end Mine.I

namespace Mine
open PySem PySem.W PySem.Calls PyProof.Rows
open I
theorem top_hide {mean : ExcName → Option Value} {mg mb : Str → Option Value} {h : Heap} {b : Addr} {vs : Array Value} {n : Nat} (T : Top q (looseW q lo) mean mg mb h) (hb : h.get? b = some { cls := .type "list", data := .seq vs n }) : Top q (looseW q lo) mean mg mb (hideAll h [b]) := by
  have kp : ∀ {x : Addr} {o : Obj}, h.get? x = some o → (∀ us k, o.data ≠ .seq us k) → (hideAll h [b]).get? x = some o := fun {x o} e ne => hideAll_get _ e fun m => by
    rw [List.mem_singleton] at m
    subst m
    rw [hb] at e; cases e
    exact ne _ _ rfl
  have ns : ∀ {L : Addr} {m : Str → Option Value}, h.Ns L m → (hideAll h [b]).Ns L m := fun {L m} ⟨o, es, ep, hL, hd, r⟩ => ⟨o, es, ep, kp hL (by rw [hd]; intro _ _ z; cases z), hd, r⟩
  have hf : ∀ {x : Addr} {o : Obj} {us : Array Value}, h.get? x = some o → o.data = .fields us → (hideAll h [b]).get? x = some o := fun e d => kp e (by rw [d]; intro _ _ z; cases z)
  refine ⟨ns T.g, ns T.b, ?_, ?_, fun d hd => ?_, fun o ho => ?_, T.const, T.free, T.builtins, fun d hd => ?_, ?_, fun s => ?_⟩
  · obtain ⟨mc, h1, h2⟩ := T.nolimit; exact ⟨mc, ns h1, h2⟩
  · obtain ⟨mc, h1, h2⟩ := T.nodigits; exact ⟨mc, ns h1, h2⟩
  · obtain ⟨a, o, pm, code, doc, h1, h2, h3, c, oc, us, t, h4, h5, h6, h7⟩ := T.fn d hd
    exact ⟨a, o, pm, code, doc, h1, kp h2 (by rw [h3]; intro _ _ z; cases z), h3, c, oc, us, t, h4, hf h5 h6, h6, h7⟩
  · have e : ownsOf q = [] := by kernel_rfl
    rw [e] at ho; cases ho
  · obtain ⟨a, o, fd, c, P, h1, h2, h3, h4, ⟨o1, vs1, file, tf, flags, tg, inF, text, tt, op, k1, k2, k3, k4, k5, k6, k7, k8, k9, k10⟩, ⟨o2, vs2, j1, j2, j3, j4⟩, j5⟩ := T.tab d hd
    exact ⟨a, o, fd, c, P, h1, kp h2 (by rw [h3]; intro _ _ z; cases z), h3, h4, ⟨o1, vs1, file, tf, flags, tg, inF, text, tt, op, hf k1 k2, k2, k3, k4, k5, k6, k7, hf k8 k9, k9, k10⟩, ⟨o2, vs2, hf j1 j3, j2, j3, j4⟩, hf j5 rfl⟩
  · obtain ⟨bm, ob, h1, h2, h3, h4, h5, h6⟩ := T.bmain
    exact ⟨bm, ob, h1, h2, kp h3 (by rw [h6]; intro _ _ z; cases z), h4, h5, h6⟩
  · obtain ⟨⟨mc, a1, a2⟩, ⟨mm, b1, b2⟩, ⟨mb', c1, c2⟩, _⟩ := T.seer s
    obtain ⟨bm, ob, h1, h2, h3, h4, h5, h6⟩ := T.bmain
    exact ⟨⟨mc, ns a1, a2⟩, ⟨mm, ns b1, b2⟩, ⟨mb', ns c1, c2⟩, mg, bm, ob, ns T.g, h1, kp h3 (by rw [h6]; intro _ _ z; cases z), h4, h5⟩
noncomputable def noLst (v : Value) : Bool := match v with
  | .type s => !(s == "list")
  | _ => true
theorem k_nolist (P : Params) : ((K P).all fun p => noLst p.2.cls) = true := by kernel_rfl
theorem k_hide {P : Params} {h : Heap} {b : Addr} {d : Data} (X : (K P).In h) (hb : h.get? b = some { cls := .type "list", data := d }) : (K P).In (hideAll h [b]) := fun a o e => hideAll_get _ (X a o e) fun m => by
  rw [List.mem_singleton] at m
  subst m
  have e1 := X _ _ e
  rw [hb] at e1
  cases e1
  have : ∀ {l : List (Addr × Obj)} {a : Addr} {o : Obj}, l.lookup a = some o → (a, o) ∈ l := by
    intro l
    induction l with
    | nil => intro a o z; cases z
    | cons p r ih =>
      intro a o z
      rw [List.lookup_cons] at z
      split at z
      · rename_i q
        obtain ⟨x, y⟩ := p
        obtain rfl : a = x := eq_of_beq q
        cases z
        exact List.mem_cons_self ..
      · exact List.mem_cons_of_mem _ (ih z)
  have z := List.all_eq_true.mp (k_nolist P) _ (this e)
  change noLst (.type "list") = true at z
  exact absurd z (by decide)
theorem d733 : (∀ P, (K P).lookup 733 = some (fO (stAt 59) "law" .none (.str "law_on0070_01" 1132) 732)) ∧ isDef (stAt 59) = true ∧ ∀ P, codeIn (K P) (.ref 732) "law" = true := ⟨fun P => by kernel_rfl, by kernel_rfl, fun P => by kernel_rfl⟩
theorem c733 {w : World} {mean : ExcName → Option Value} {mg mb : Str → Option Value} {A : Around} {g : Heap} {outer : List Env} {s : Shared} {n : Nat} {v : V} {cv : Value} {σ : H} {news : List (Addr × Obj)} {Rr : Result → Shared → Prop}
    (S : Site w mean mg mb A g outer g (n + 1) (3 * n + 203)) (hs' : ∀ b o, g.get? b = some o → s.heap.get? b = some o) (hz : g.objs.size ≤ s.heap.objs.size) (hO : Own g s.heap news) (nd : (adr news).Nodup) (hr : Rel σ news) (hv : VR (adr news) v cv)
    (k : RCont g outer g s (adr news) ((execsI fns mets inits n ⟨[("script", v)], [("deck", σ.length), ("buffer", σ.length + 1)]⟩ F733.body (σ ++ [.cell none, .cell none])).bind fun r σ => match r.1 with | .next => .ok .none σ | .ret v => .ok v σ) Rr) : codeAny (model p0 w) A (.call (.ref 733) ⟨[cv], []⟩) Rr s := by
  have X' := S.X.keeps hs'
  have hcf : ∀ L, cellsFrom L (scopeOf (stAt 59)).names [] = [(nm "buffer", L + 1), (nm "deck", L)] := fun L => by kernel_rfl
  have hcell : ∀ n, (scopeOf (stAt 59)).names.lookup n = some .cell → n ∈ [nm "deck", nm "buffer"] := cell_named (by kernel_rfl)
  have hscr : (scopeOf (stAt 59)).names.lookup (nm "script") = some .local := by kernel_rfl
  have s4 : (scopeOf (stAt 59)).kind = .function := by kernel_rfl
  refine enterC (binds := [(nm "script", cv)]) (l := [(nm "script", cv)]) S hs' hz hO nd ((d733.1 w.params).trans (congrArg some (fO_eq d733.2.1))) (d733.2.2 _) (BindsTo.of_eq (by kernel_rfl)) (fun L y hy => ?_) (by rw [hcf]; decide) ?_ (fun L' h₁ tk cells cx cy c1 => ?_) (by kernel_rfl) (by kernel_rfl) s4
  · rw [List.mem_singleton] at hy; subst hy; exact .inl hscr
  · rw [bindL_eq, List.filter_cons, show decide (kOf (scopeOf (stAt 59)) (nm "script", cv).1 = some .local) = true from decide_eq_true hscr]
    funext y
    simp only [if_true, List.filter_nil, List.reverse_cons, List.reverse_nil, List.nil_append]
    cases List.lookup y [(nm "script", cv)] <;> rfl
  have hb0 : ∀ z, bindC (kOf (scopeOf (stAt 59))) [(nm "script", cv)] (fun _ => none) z = none := fun z => by
    simp only [bindC, hscr]
    rfl
  rw [hcf] at cy
  obtain ⟨ob, od, rfl, hob, hod⟩ := cy.two
  rw [hb0] at hob hod
  have cx' := cx.perm (List.Perm.append_left news (List.Perm.swap (L' + 1, od) (L' + 1 + 1, ob) []))
  have hcl : ∀ n, (scopeOf (stAt 59)).names.lookup n = some .cell → ∃ a, List.lookup n (cellsFrom (L' + 1) (scopeOf (stAt 59)).names []) = some a := fun n hn => by
    have := hcell n hn
    rw [hcf]
    simp only [List.mem_cons, List.not_mem_nil, or_false] at this
    rcases this with rfl | rfl
    · exact ⟨L' + 1, by kernel_rfl⟩
    · exact ⟨L' + 1 + 1, by kernel_rfl⟩
  let c : Ct := { w := w, mean := mean, mg := mg, mb := mb, A := A, base := g, outer := outer, g := g, L := L', env := envX "law" (scopeOf (stAt 59)) L' 733 (.ref 732) (cellsFrom (L' + 1) (scopeOf (stAt 59)).names []), fenv := envX "law" (scopeOf (stAt 59)) L' 733 (.ref 732) (cellsFrom (L' + 1) (scopeOf (stAt 59)).names []), fl := none, cs := scopeOf (stAt 59), cl := cellsFrom (L' + 1) (scopeOf (stAt 59)).names [], hs := rfl, hk := s4, hg := rfl, hb := rfl, hc := rfl, hfr := rfl, ffr := rfl, fk := s4, hlo := fun _ => rfl, hcl := hcl }
  have F : Fc c (scopeOf (stAt 59)) n true := ⟨⟨rfl, ⟨by have := S.depth; show A.depth + 1 + n < _; lia, by have := S.units; show A.units + 3 + 3 * n + 200 < _; lia⟩, fun k _ => call_ok k⟩, rfl, rfl, fun _ => rfl⟩
  have hrel : Rel (σ ++ [.cell none] ++ [.cell none]) (news ++ [(L' + 1, od)] ++ [(L' + 1 + 1, ob)]) := (hr.add (.cell0 hod) (c1 _ (List.mem_cons_of_mem _ (List.mem_cons_self ..)))).add (.cell0 hob) (c1 _ (List.mem_cons_self ..))
  have pp : adr news <+: adr (news ++ [(L' + 1, od)] ++ [(L' + 1 + 1, ob)]) := pre_add.trans pre_add
  rw [show news ++ [(L' + 1, od), (L' + 1 + 1, ob)] = news ++ [(L' + 1, od)] ++ [(L' + 1 + 1, ob)] by rw [List.append_assoc]; rfl] at cx'
  have st₀ : St c ⟨[("script", v)], [("deck", σ.length), ("buffer", σ.length + 1)]⟩ (σ ++ [.cell none] ++ [.cell none]) h₁ [(nm "script", cv)] (news ++ [(L' + 1, od)] ++ [(L' + 1 + 1, ob)]) := by
    refine ⟨cx', hrel, fun x u e => ?_, fun x i hx e => ?_, fun z => by cases z⟩
    · rw [List.lookup_cons] at e
      split at e
      · rename_i q
        obtain rfl : x = "script" := eq_of_beq q
        cases e
        exact ⟨cv, by simp, hv.mono pp⟩
      · cases e
    · rw [List.lookup_cons] at e
      split at e
      · rename_i q
        obtain rfl : x = "deck" := eq_of_beq q
        cases e
        exact ⟨L' + 1, by show List.lookup (nm "deck") (cellsFrom (L' + 1) (scopeOf (stAt 59)).names []) = _; rw [hcf]; kernel_rfl, pre_get pre_add (new_at hr)⟩
      · rw [List.lookup_cons] at e
        split at e
        · rename_i q
          obtain rfl : x = "buffer" := eq_of_beq q
          cases e
          refine ⟨L' + 1 + 1, by show List.lookup (nm "buffer") (cellsFrom (L' + 1) (scopeOf (stAt 59)).names []) = _; rw [hcf]; kernel_rfl, ?_⟩
          have := new_at (D := L' + 1 + 1) (c := ob) (hr.add (.cell0 hod) (c1 (L' + 1, od) (List.mem_cons_of_mem _ (List.mem_cons_self ..))))
          rw [List.length_append] at this
          exact this
        · cases e
  have := b733 (t := true) c F n (Nat.le_refl _) _ _ (up s h₁ tk) _ (news ++ [(L' + 1, od)] ++ [(L' + 1 + 1, ob)]) _ _ st₀ (leave_ok (c := c) rfl S.below (Rr := Rr) ?_)
  · exact this
  · refine RCont.mono pp ?_
    rw [List.append_assoc]
    exact k
end Mine

namespace Mine
open PySem PySem.W PySem.Calls PyProof.Rows
open I
noncomputable abbrev rowL : RowW := PySem.Challenge.rw_on0070_01.row.toRowW
theorem well_ints {P : Params} {h : Heap} : ∀ {zs : List Int} {vs : List Value}, WellAll P h vs (zs.map WData.int) → ∃ ts : List Nat, ts.length = zs.length ∧ vs = (zs.zip ts).map fun p => Value.int p.1 p.2
  | [], _, x => by cases x; exact ⟨[], rfl, rfl⟩
  | z :: zs, _, x => by
    cases x with
    | cons h1 h2 =>
      cases h1 with
      | int i t =>
        obtain ⟨ts, h3, rfl⟩ := well_ints h2
        exact ⟨t :: ts, by rw [List.length_cons, List.length_cons, h3], rfl⟩
theorem args_of {args : List WData} (h : rowL.claim.pre args = true) : ∃ zs : List Int, args = [.list (zs.map WData.int)] ∧ zs.length ≤ 63 := by
  have hsh : WShape.hasAll rowL.records args [.list .int] = true := (pre_splitW h).1
  have hcond : WTm.holds rowL.records (.and (.not (.lt (.lit (.int 63)) (.len (.arg 0)))) (.lit (.bool true))) { args := args } = true := (pre_splitW h).2
  obtain ⟨d, r, rfl, hx, hr⟩ := hasAllW_cons hsh
  obtain ⟨xs, rfl, hi⟩ := hasW_list hx
  obtain ⟨ns, rfl⟩ := items_int hi
  obtain rfl := hasAllW_nil hr
  refine ⟨ns, rfl, ?_⟩
  have h1 := (holds_andW hcond).1
  simp [WTm.holds, WTm.value] at h1
  have e : less? (WData.int 63) (WData.int (ns.length : Int)) = some (decide ((63 : Int) < ns.length)) := by rfl
  rw [e] at h1
  by_cases q : (63 : Int) < ns.length
  · rw [decide_eq_true q] at h1; cases h1
  · lia
theorem gl_law {w : World} : nsIn (K w.params) mainGlobals (nm "law") = some (some (.ref 733)) := by kernel_rfl
theorem walk : WalkO q lo (XL q []) (kHook K as K_as).says rowL lawD [] (fun f vs => PySem.call f vs) := by
  intro w s₀ s₁ mg mb G Y a o pm cd doc dV kV ho hd hcd hD hg hgens args vals asx hpre hlay hrd hwl hlo
  have X : (K w.params).In s₁.heap := kIn_of Y
  obtain rfl : a = 733 := by
    have e1 := mg_of X G.T.g (gl_law (w := w))
    have e2 : mg (nm "law") = some (.ref a) := hg
    rw [e1] at e2
    cases e2; rfl
  obtain ⟨zs, rfl, hlen⟩ := args_of hpre
  cases hwl with
  | cons hw hnil =>
  cases hnil
  cases hw with
  | @list b vs _ hb hvs =>
  obtain ⟨ts, ht, rfl⟩ := well_ints hvs
  have S : Site w (ExcName.means s₀.heap) mg mb callerA (hideAll s₁.heap [b]) [] (hideAll s₁.heap [b]) (500 + 1) (3 * 500 + 203) := ⟨below_caller _, k_hide X hb, top_hide G.T hb, by decide, by decide, rfl⟩
  have hO : Own (hideAll s₁.heap [b]) s₁.heap [(b, listOf ((zs.zip ts).map fun p => Value.int p.1 p.2).toArray 0)] := fun p hp => by
    rw [List.mem_singleton] at hp; subst hp
    exact ⟨hb, hideAll_none _ (List.mem_cons_self ..)⟩
  have b1 : b ≠ 1 := fun e => by
    cases hrd with
    | cons h1 h2 =>
      cases h1 with
      | list q1 q2 q3 q4 =>
        have := hlo b (by simp)
        rw [e] at this
        exact absurd this (by decide)
  have hr : Rel [.scr zs ts] [(b, listOf ((zs.zip ts).map fun p => Value.int p.1 p.2).toArray 0)] := .cons (.scr ht (by lia)) b1 .nil
  refine wpAny_call (c733 (v := .obj 0) (σ := [.scr zs ts]) S (fun x o e => of_hideAll _ e) (Nat.le_of_eq (hideAll_size _ _)) hO (by simp) hr (.obj rfl) ?_)
  have lr := law_run (n := 0) (xs := zs) (ts := ts)
  have e0 : execsI fns mets inits 500 ⟨[("script", .obj 0)], [("deck", ([.scr zs ts] : H).length), ("buffer", ([.scr zs ts] : H).length + 1)]⟩ F733.body ([.scr zs ts] ++ [.cell none, .cell none]) = execsI fns mets inits (0 + 500) ⟨[("script", .obj 0)], dbc⟩ F733.body [.scr zs ts, .cell none, .cell none] := rfl
  rw [e0]
  revert lr
  cases execsI fns mets inits (0 + 500) ⟨[("script", .obj 0)], dbc⟩ F733.body [.scr zs ts, .cell none, .cell none] with
  | bad => exact fun lr => lr.elim
  | exc s σ => exact fun lr => lr.2.elim
  | ok r σ =>
    rintro ⟨l1, l2⟩
    obtain ⟨fl, m⟩ := r
    simp only at l1
    subst l1
    intro h' tk' cv news' hk hown hnd hrel hpre' hv
    cases hv
    obtain ⟨b', ob, g1, g2, g3⟩ := hrel.get l2
    have eb : b' = b := by
      have := pre_get hpre' (i := 0) (a := b) rfl
      rw [g2] at this; cases this; rfl
    subst eb
    cases g3 with
    | scr _ _ =>
    have hb' := (hown _ (List.mem_of_getElem? g1)).1
    refine GoodW.toG ⟨.inl ⟨_, .bool true, [], rfl, fun _ => rfl, .bool _, ?_, fun _ => ⟨List.nodup_nil, fun _ z => by cases z⟩⟩, fun x o e => ?_, rfl, hgens⟩
    · wrow_post
    · by_cases q : x = b'
      · subst q
        rw [hb] at e; cases e
        exact hb'
      · exact hk _ _ (hideAll_get _ e (by simpa using q))
end Mine
theorem PySem.Challenge.cw_on0070_01_holds : PySem.Challenge.rw_on0070_01.Holds :=
  Mine.hd Mine.walk
