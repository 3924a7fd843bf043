import PyProof.Rows.All
import Wide.All
import OpenK.AllK
import Wide.FinOn
import HandS.ForMost
import HandS.TupMul
import HandS.TupAny
import HandS.IsInst
import HandS.Text
import HandS.Zip
import HandS.Rev
import KE.GoesZip
import HandS.Style
import HandS.Small
import PyProof.FactsAll.list_3
import PyProof.FactsAll.list_4
import PySem.Challenge.RW_gatetown_k13_tasks_kept_in_their_stretch
set_option Elab.async false
set_option linter.all false
set_option maxRecDepth 100000
namespace G
open PySem L2

/-! ### data -/
abbrev P := PyData
inductive O where
  | pl (p : P) | fl (xs : List P) | fd (kvs : List (P × P)) | lst (xs : List O) | dic (kvs : List (P × O)) | tup (xs : List O) | obj (c : Nat) (fs : List (Nat × O))
instance : Inhabited P := ⟨.none⟩
instance : Inhabited O := ⟨.pl .none⟩

def keyP : P → Option Key
  | .int i => some (.inl i)
  | .str s => some (.inr s)
  | _ => none

/-- a list that is read: tracked, frozen, or known whole -/
def SL (K : PySem.W.Frag) (H : Hp) (a : Addr) (xs : List V) : Prop :=
  Rd H a (.lst xs) ∨ ∃ (its : Array Value) (n : Nat), K.lookup a = some { cls := .type "list", dict := none, data := .seq its n, slots := #[] } ∧ its.size ≤ sizeLine ∧ Vals xs its.toList
theorem SL.of {K : PySem.W.Frag} {H : Hp} {a : Addr} {xs : List V} (h : H a = some (.lst xs)) : SL K H a xs := .inl (.of h)
theorem SL.sq {K : PySem.W.Frag} {H : Hp} {a : Addr} {xs : List V} (h : SL K H a xs) : SqL K H a xs := by
  rcases h with h | ⟨its, n, h1, h2, h3⟩
  · exact .inl h
  · exact .inr ⟨_, its, n, h1, rfl, rfl, rfl, h2, h3⟩
section
variable (K : PySem.W.Frag)
mutual
inductive RP (B : Hp) : V → P → Prop
  | non : RP B .non .none
  | bl {b : Bool} : RP B (.bl b) (.bool b)
  | int {i : Int} : RP B (.int i) (.int i)
  | str {s : Str} : RP B (.str s) (.str s)
  | tup {a : Addr} {vs : List V} {xs : List P} : SqT K B a vs → RPs B vs xs → RP B (.ref a) (.tuple xs)
  | lst {a : Addr} {vs : List V} {xs : List P} : SL K B a vs → RPs B vs xs → RP B (.ref a) (.list xs)
  | dic {a : Addr} {us : List (Key × V)} {kvs : List (P × P)} : Rd B a (.dK us) → RPd B us kvs → RP B (.ref a) (.dict kvs)
inductive RPs (B : Hp) : List V → List P → Prop
  | nil : RPs B [] []
  | cons {v : V} {vs : List V} {p : P} {ps : List P} : RP B v p → RPs B vs ps → RPs B (v :: vs) (p :: ps)
inductive RPd (B : Hp) : List (Key × V) → List (P × P) → Prop
  | nil : RPd B [] []
  | cons {k : Key} {v : V} {us : List (Key × V)} {q p : P} {kvs : List (P × P)} : keyP q = some k → RP B v p → RPd B us kvs → RPd B ((k, v) :: us) ((q, p) :: kvs)
end
mutual
/-- v stands for o: the parts that are held alone lie at f in H, the others in B -/
inductive RO (B H : Hp) : V → O → List Addr → Prop
  | pl {v : V} {p : P} : RP K B v p → RO B H v (.pl p) []
  | fl {a : Addr} {vs : List V} {xs : List P} : H a = some (.lst vs) → RPs K B vs xs → RO B H (.ref a) (.fl xs) [a]
  | fd {a : Addr} {us : List (Key × V)} {kvs : List (P × P)} : H a = some (.dK us) → RPd K B us kvs → RO B H (.ref a) (.fd kvs) [a]
  | lst {a : Addr} {vs : List V} {xs : List O} {f : List Addr} : H a = some (.lst vs) → ROs B H vs xs f → RO B H (.ref a) (.lst xs) (a :: f)
  | dic {a : Addr} {us : List (Key × V)} {kvs : List (P × O)} {f : List Addr} : H a = some (.dK us) → ROd B H us kvs f → RO B H (.ref a) (.dic kvs) (a :: f)
  | tup {a : Addr} {vs : List V} {xs : List O} {f : List Addr} : B a = some (.tup vs) → ROs B H vs xs f → RO B H (.ref a) (.tup xs) f
inductive ROs (B H : Hp) : List V → List O → List Addr → Prop
  | nil : ROs B H [] [] []
  | cons {v : V} {vs : List V} {o : O} {os : List O} {f g : List Addr} : RO B H v o f → ROs B H vs os g → ROs B H (v :: vs) (o :: os) (f ++ g)
inductive ROd (B H : Hp) : List (Key × V) → List (P × O) → List Addr → Prop
  | nil : ROd B H [] [] []
  | cons {k : Key} {v : V} {us : List (Key × V)} {q : P} {o : O} {kvs : List (P × O)} {f g : List Addr} : keyP q = some k → RO B H v o f → ROd B H us kvs g → ROd B H ((k, v) :: us) ((q, o) :: kvs) (f ++ g)
end
end

def Ext (A B : Hp) : Prop := ∀ a o, A a = some o → B a = some o
theorem Ext.refl (H : Hp) : Ext H H := fun _ _ h => h
theorem Ext.trans {A B C : Hp} (h : Ext A B) (k : Ext B C) : Ext A C := fun a o e => k a o (h a o e)
theorem Ext.upd {H : Hp} {a : Addr} {o : HO} (h : H a = none) : Ext H (upd H a o) := fun b u e => by
  rw [upd_ne (ne_of_none e h)]
  exact e
theorem Ext.none {A B : Hp} (h : Ext A B) {a : Addr} (e : B a = Option.none) : A a = Option.none := by
  cases q : A a with
  | none => rfl
  | some o =>
    rw [h a o q] at e
    cases e
theorem Ext.rd {A B : Hp} (e : Ext A B) {a : Addr} {u : HO} (h : Rd A a u) : Rd B a u := by
  rcases h with h | ⟨o, h⟩
  · exact .inl (e a _ h)
  · exact .inr ⟨o, e a _ h⟩
section
variable {K : PySem.W.Frag} {A B H H' : Hp}
theorem Ext.sqL (e : Ext A B) {a : Addr} {xs : List V} (h : SqL K A a xs) : SqL K B a xs := by
  rcases h with h | h
  · exact .inl (e.rd h)
  · exact .inr h
theorem Ext.sl (e : Ext A B) {a : Addr} {xs : List V} (h : SL K A a xs) : SL K B a xs := by
  rcases h with h | h
  · exact .inl (e.rd h)
  · exact .inr h
theorem Ext.sqT (e : Ext A B) {a : Addr} {xs : List V} (h : SqT K A a xs) : SqT K B a xs := by
  rcases h with h | h
  · exact .inl (e.rd h)
  · exact .inr h
mutual
theorem RP.mono (e : Ext A B) : ∀ {v : V} {p : P}, RP K A v p → RP K B v p
  | _, _, .non => .non
  | _, _, .bl => .bl
  | _, _, .int => .int
  | _, _, .str => .str
  | _, _, .tup h r => .tup (e.sqT h) (RPs.mono e r)
  | _, _, .lst h r => .lst (e.sl h) (RPs.mono e r)
  | _, _, .dic h r => .dic (e.rd h) (RPd.mono e r)
theorem RPs.mono (e : Ext A B) : ∀ {v : List V} {p : List P}, RPs K A v p → RPs K B v p
  | _, _, .nil => .nil
  | _, _, .cons h r => .cons (RP.mono e h) (RPs.mono e r)
theorem RPd.mono (e : Ext A B) : ∀ {v : List (Key × V)} {p : List (P × P)}, RPd K A v p → RPd K B v p
  | _, _, .nil => .nil
  | _, _, .cons q h r => .cons q (RP.mono e h) (RPd.mono e r)
end
/-! the held parts stay, the others may grow -/
mutual
theorem RO.mono (e : Ext A B) : ∀ {v : V} {o : O} {f : List Addr}, (∀ a ∈ f, ∀ u, H a = some u → H' a = some u) → RO K A H v o f → RO K B H' v o f
  | _, _, _, _, .pl r => .pl (r.mono e)
  | _, _, _, k, .fl h r => .fl (k _ (by simp) _ h) (r.mono e)
  | _, _, _, k, .fd h r => .fd (k _ (by simp) _ h) (r.mono e)
  | _, _, _, k, .lst h r => .lst (k _ (by simp) _ h) (ROs.mono e (fun a ha => k a (by simp [ha])) r)
  | _, _, _, k, .dic h r => .dic (k _ (by simp) _ h) (ROd.mono e (fun a ha => k a (by simp [ha])) r)
  | _, _, _, k, .tup h r => .tup (e _ _ h) (ROs.mono e k r)
theorem ROs.mono (e : Ext A B) : ∀ {v : List V} {o : List O} {f : List Addr}, (∀ a ∈ f, ∀ u, H a = some u → H' a = some u) → ROs K A H v o f → ROs K B H' v o f
  | _, _, _, _, .nil => .nil
  | _, _, _, k, .cons h r => .cons (RO.mono e (fun a ha => k a (by simp [ha])) h) (ROs.mono e (fun a ha => k a (by simp [ha])) r)
theorem ROd.mono (e : Ext A B) : ∀ {v : List (Key × V)} {o : List (P × O)} {f : List Addr}, (∀ a ∈ f, ∀ u, H a = some u → H' a = some u) → ROd K A H v o f → ROd K B H' v o f
  | _, _, _, _, .nil => .nil
  | _, _, _, k, .cons q h r => .cons q (RO.mono e (fun a ha => k a (by simp [ha])) h) (ROd.mono e (fun a ha => k a (by simp [ha])) r)
end
/-! what is held is tracked -/
mutual
theorem RO.has : ∀ {v : V} {o : O} {f : List Addr}, RO K B H v o f → ∀ a ∈ f, H a ≠ none
  | _, _, _, .pl _, a, ha => by simp at ha
  | _, _, _, .fl h _, a, ha => by simp at ha; subst ha; rw [h]; simp
  | _, _, _, .fd h _, a, ha => by simp at ha; subst ha; rw [h]; simp
  | _, _, _, .lst h r, a, ha => by
    rcases List.mem_cons.mp ha with e | e
    · subst e; rw [h]; simp
    · exact ROs.has r a e
  | _, _, _, .dic h r, a, ha => by
    rcases List.mem_cons.mp ha with e | e
    · subst e; rw [h]; simp
    · exact ROd.has r a e
  | _, _, _, .tup h r, a, ha => ROs.has r a ha
theorem ROs.has : ∀ {v : List V} {o : List O} {f : List Addr}, ROs K B H v o f → ∀ a ∈ f, H a ≠ none
  | _, _, _, .nil, a, ha => by simp at ha
  | _, _, _, .cons h r, a, ha => by
    rcases List.mem_append.mp ha with e | e
    · exact RO.has h a e
    · exact ROs.has r a e
theorem ROd.has : ∀ {v : List (Key × V)} {o : List (P × O)} {f : List Addr}, ROd K B H v o f → ∀ a ∈ f, H a ≠ none
  | _, _, _, .nil, a, ha => by simp at ha
  | _, _, _, .cons _ h r, a, ha => by
    rcases List.mem_append.mp ha with e | e
    · exact RO.has h a e
    · exact ROd.has r a e
end
end

/-! ### held alone, then shared -/
mutual
def fz : O → Option P
  | .pl p => some p
  | .fl xs => some (.list xs)
  | .fd kvs => some (.dict kvs)
  | .lst xs => (fzs xs).map .list
  | .dic kvs => (fzd kvs).map .dict
  | .tup xs => (fzs xs).map .tuple
  | .obj _ _ => none
def fzs : List O → Option (List P)
  | [] => some []
  | o :: os => match fz o, fzs os with
    | some p, some ps => some (p :: ps)
    | _, _ => none
def fzd : List (P × O) → Option (List (P × P))
  | [] => some []
  | q :: os => match fzq q, fzd os with
    | some p, some ps => some (p :: ps)
    | _, _ => none
def fzq : P × O → Option (P × P)
  | (q, o) => match fz o with
    | some p => some (q, p)
    | none => none
end
/-- B with the addresses at f, as they stand in H -/
def frz (B H : Hp) (f : List Addr) : Hp := fun a => if a ∈ f then H a else B a
theorem frz_in {B H : Hp} {f : List Addr} {a : Addr} (h : a ∈ f) : frz B H f a = H a := by
  unfold frz
  rw [if_pos h]
theorem frz_out {B H : Hp} {f : List Addr} {a : Addr} (h : a ∉ f) : frz B H f a = B a := by
  unfold frz
  rw [if_neg h]
section
variable {K : PySem.W.Frag} {B C H : Hp}
mutual
theorem RO.fz (e : Ext B C) : ∀ {v : V} {o : O} {f : List Addr} {p : P}, (∀ a ∈ f, C a = H a) → RO K B H v o f → fz o = some p → RP K C v p
  | _, _, _, _, k, .pl r, q => by
    rw [G.fz] at q
    cases q
    exact r.mono e
  | _, _, _, _, k, .fl h r, q => by
    rw [G.fz] at q
    cases q
    exact .lst (.of ((k _ (by simp)).trans h)) (r.mono e)
  | _, _, _, _, k, .fd h r, q => by
    rw [G.fz] at q
    cases q
    exact .dic (.of ((k _ (by simp)).trans h)) (r.mono e)
  | _, _, _, _, k, .lst (xs := xs) h r, q => by
    rw [G.fz] at q
    cases z : fzs xs with
    | none => rw [z] at q; cases q
    | some ps =>
      rw [z] at q
      cases q
      exact .lst (.of ((k _ (by simp)).trans h)) (ROs.fz e (fun a ha => k a (by simp [ha])) r z)
  | _, _, _, _, k, .dic (kvs := xs) h r, q => by
    rw [G.fz] at q
    cases z : fzd xs with
    | none => rw [z] at q; cases q
    | some ps =>
      rw [z] at q
      cases q
      exact .dic (.of ((k _ (by simp)).trans h)) (ROd.fz e (fun a ha => k a (by simp [ha])) r z)
  | _, _, _, _, k, .tup (xs := xs) h r, q => by
    rw [G.fz] at q
    cases z : fzs xs with
    | none => rw [z] at q; cases q
    | some ps =>
      rw [z] at q
      cases q
      exact .tup (.of (e _ _ h)) (ROs.fz e k r z)
theorem ROs.fz (e : Ext B C) : ∀ {v : List V} {o : List O} {f : List Addr} {p : List P}, (∀ a ∈ f, C a = H a) → ROs K B H v o f → fzs o = some p → RPs K C v p
  | _, _, _, _, k, .nil, q => by
    rw [fzs] at q
    cases q
    exact .nil
  | _, _, _, _, k, .cons (o := o) (os := os) h r, q => by
    rw [fzs] at q
    cases z : G.fz o with
    | none => rw [z] at q; cases q
    | some p =>
      cases y : fzs os with
      | none => rw [z, y] at q; cases q
      | some ps =>
        rw [z, y] at q
        cases q
        exact .cons (RO.fz e (fun a ha => k a (by simp [ha])) h z) (ROs.fz e (fun a ha => k a (by simp [ha])) r y)
theorem ROd.fz (e : Ext B C) : ∀ {v : List (Key × V)} {o : List (P × O)} {f : List Addr} {p : List (P × P)}, (∀ a ∈ f, C a = H a) → ROd K B H v o f → fzd o = some p → RPd K C v p
  | _, _, _, _, k, .nil, q => by
    rw [fzd] at q
    cases q
    exact .nil
  | _, _, _, _, k, .cons (o := o) (kvs := os) hk h r, q => by
    rw [fzd, fzq] at q
    cases z : G.fz o with
    | none => rw [z] at q; cases q
    | some p =>
      cases y : fzd os with
      | none => rw [z, y] at q; cases q
      | some ps =>
        rw [z, y] at q
        cases q
        exact .cons hk (RO.fz e (fun a ha => k a (by simp [ha])) h z) (ROd.fz e (fun a ha => k a (by simp [ha])) r y)
end
end
end G

set_option maxRecDepth 100000
namespace G
open PySem L2

/-! ### the mini-syntax: names are slots, functions and constants numbers -/
inductive BI where
  | len | abs | int | str | list | tuple | max | min | sum | all | any | sorted
  deriving DecidableEq
inductive MI where
  | get | join | split | index | find | partition | startswith | endswith | count | strip | lstrip | replace
  deriving DecidableEq
inductive MM where
  | append | extend | insert | reverse | clear
  deriving DecidableEq
inductive Ty where
  | int | bool | str | list | tuple | dict
  deriving DecidableEq
inductive Tg where
  | nm (i : Nat) | tp (is : List Nat)
mutual
inductive Ex where
  | var (i : Nat) | mov (i : Nat) | lit (p : P) | glob (g : Nat)
  | bin (op : Operator) (a b : Ex) | neg (a : Ex) | not (a : Ex) | and (a b : Ex) | or (a b : Ex)
  | cmp (op : CmpOp) (a b : Ex) | chain (o1 o2 : CmpOp) (a b c : Ex) | ife (t a b : Ex)
  | lst (es : Exs) | tup (es : Exs) | dct (ks vs : Exs)
  | idx (a i : Ex) | slc (a : Ex) (lo hi : Ox)
  | call (f : Nat) (es : Exs) | bi (b : BI) (es : Exs) | isi (a : Ex) (ts : List Ty) | meth (m : MI) (a : Ex) (es : Exs)
  | lc (own : List Nat) (tg : Tg) (it : It) (cond : Ox) (e : Ex)
inductive Exs where
  | nil | cons (e : Ex) (es : Exs)
inductive Ox where
  | none | some (e : Ex)
inductive It where
  | seq (e : Ex) | range1 (a : Ex) | range2 (a b : Ex) | range3 (a b c : Ex) | enum (e : Ex) | zip (a b : Ex) | items (e : Ex) | rev (e : Ex)
end
mutual
inductive S where
  | asg (i : Nat) (e : Ex) | asgT (is : List Nat) (e : Ex) | aug (i : Nat) (op : Operator) (e : Ex)
  | setI (i : Nat) (ix e : Ex) | augI (i : Nat) (ix : Ex) (op : Operator) (e : Ex)
  | exp (e : Ex) | mut (m : MM) (i : Nat) (es : Exs) | pop (j : Option Nat) (i : Nat) (es : Exs)
  | ife (t : Ex) (a b : Ss) | forr (tg : Tg) (it : It) (b : Ss) | whl (t : Ex) (b : Ss)
  | ret (e : Ex) | retN | pass | brk | frz (i : Nat)
inductive Ss where
  | nil | cons (s : S) (ss : Ss)
end

/-! ### what is reckoned -/
abbrev Env := List (Option O)
structure Ct where
  call : Nat → List O → Option (O × List O)
  gl : Nat → Option P
  fuel : Nat

def mulOk (i j : Int) : Prop := (-(2 ^ 64) < i ∧ i < 2 ^ 64) ∨ (-(2 ^ 64) < j ∧ j < 2 ^ 64)
instance (i j : Int) : Decidable (mulOk i j) := by unfold mulOk; infer_instance
@[simp] theorem mulOk_l {i j : Int} (h : -(2 ^ 64) < i ∧ i < 2 ^ 64) : mulOk i j = True := eq_true (.inl h)
@[simp] theorem mulOk_r {i j : Int} (h : -(2 ^ 64) < j ∧ j < 2 ^ 64) : mulOk i j = True := eq_true (.inr h)
def iBin : Operator → Int → Int → Option Int
  | .Add, i, j => some (i + j)
  | .Sub, i, j => some (i - j)
  | .Mult, i, j => if mulOk i j then some (i * j) else none
  | .FloorDiv, i, j => if 0 < j ∧ j < 1073741824 then some (i / j) else none
  | .Mod, i, j => if 0 < j then some (i % j) else none
  | .Pow, i, j => if 0 ≤ j ∧ j ≤ 1000000 ∧ i.natAbs < 2 ^ 64 then some (i ^ j.toNat) else none
  | .LShift, i, j => if 0 ≤ j ∧ j ≤ 1000000 ∧ i.natAbs < 2 ^ 64 then some (i * 2 ^ j.toNat) else none
  | .RShift, i, j => if 0 ≤ j then some (i / 2 ^ j.toNat) else none
  | .BitAnd, i, j => some (Builtin.bitAnd i j)
  | .BitOr, i, j => some (Builtin.bitOr i j)
  | .BitXor, i, j => some (Builtin.bitXor i j)
  | _, _, _ => none
def toI : Option Int → Option O
  | some k => some (.pl (.int k))
  | none => none
def toB : Option Bool → Option O
  | some k => some (.pl (.bool k))
  | none => none
def toP : Option P → Option O
  | some k => some (.pl k)
  | none => none
def o1 {α β : Type} (f : α → Option β) : Option α → Option β
  | some x => f x
  | none => none
def o2 {α β γ : Type} (f : α → β → Option γ) : Option α → Option β → Option γ
  | some x, some y => f x y
  | _, _ => none
def o3 {α β γ δ : Type} (f : α → β → γ → Option δ) : Option α → Option β → Option γ → Option δ
  | some x, some y, some z => f x y z
  | _, _, _ => none
def litems : O → Option (List P)
  | .pl (.list xs) => some xs
  | .fl xs => some xs
  | _ => none
def titems : O → Option (List P)
  | .pl (.tuple xs) => some xs
  | _ => none
def ditems : O → Option (List (P × P))
  | .pl (.dict kvs) => some kvs
  | .fd kvs => some kvs
  | _ => none
def rep (k : Int) (xs : List P) : List P := (List.replicate k.toNat xs).flatten
def addL (a b : List P) : Option O := if a.length + b.length ≤ 16777216 then some (.fl (a ++ b)) else none
def addO : O → O → Option O
  | .pl (.int i), .pl (.int j) => some (.pl (.int (i + j)))
  | .pl (.str s), .pl (.str t) => if s.length + t.length ≤ 16777216 then some (.pl (.str (s ++ t))) else none
  | .pl (.tuple a), .pl (.tuple b) => if a.length + b.length ≤ 16777216 then some (.pl (.tuple (a ++ b))) else none
  | .pl (.list a), .pl (.list b) => addL a b
  | .pl (.list a), .fl b => addL a b
  | .fl a, .pl (.list b) => addL a b
  | .fl a, .fl b => addL a b
  | _, _ => none
def intO (op : Operator) : O → O → Option O
  | .pl (.int i), .pl (.int j) => toI (iBin op i j)
  | _, _ => none
def mulL (a : List P) (k : Int) : Option O := if -(2 ^ 63) ≤ k ∧ k < 2 ^ 63 ∧ a.length * k.toNat ≤ 16777216 then some (.fl (rep k a)) else none
def mulO : O → O → Option O
  | .pl (.int i), .pl (.int j) => toI (iBin .Mult i j)
  | .pl (.tuple a), .pl (.int k) => if a ≠ [] ∧ 2 ≤ k ∧ k ≤ 1000 ∧ a.length ≤ 1000 then some (.pl (.tuple (rep k a))) else none
  | .pl (.list _), .pl (.int _) => none
  | .fl a, .pl (.int k) => mulL a k
  | _, _ => none
def binO : Operator → O → O → Option O
  | .Add, x, y => addO x y
  | .Mult, x, y => mulO x y
  | .Sub, x, y => intO .Sub x y
  | .FloorDiv, x, y => intO .FloorDiv x y
  | .Mod, x, y => intO .Mod x y
  | .Pow, x, y => intO .Pow x y
  | .LShift, x, y => intO .LShift x y
  | .RShift, x, y => intO .RShift x y
  | .BitAnd, x, y => intO .BitAnd x y
  | .BitOr, x, y => intO .BitOr x y
  | .BitXor, x, y => intO .BitXor x y
  | _, _, _ => none
def negO : O → Option O
  | .pl (.int i) => some (.pl (.int (-i)))
  | _ => none
def notO : O → Option O
  | .pl (.bool b) => some (.pl (.bool !b))
  | _ => none
/-- which of two follows a test -/
def ifB {α : Type} : Option O → Option α → Option α → Option α
  | some (.pl (.bool b)), x, y => if b = true then x else y
  | _, _, _ => none
def eqP (p q : P) : Option Bool := if SeqAt.shaped p = true ∧ SeqAt.shaped q = true then some (PyData.eqv p q) else none
def eqQ : Option P → Option P → Option Bool
  | some p, some q => eqP p q
  | _, _ => none
def eqO : O → O → Option Bool
  | .pl (.int i), .pl (.int j) => some (decide (i = j))
  | .pl (.str i), .pl (.str j) => some (decide (i = j))
  | x, y => eqQ (fz x) (fz y)
def flatP : P → Bool
  | .none => true
  | .bool _ => true
  | .int _ => true
  | .str _ => true
  | _ => false
def seqI : O → Option (List P)
  | .pl (.list xs) => some xs
  | .fl xs => some xs
  | .pl (.tuple xs) => some xs
  | _ => none
/-- is p (a flat one) among the flat ones xs -/
def memP (p : P) (xs : List P) : Bool := xs.any fun q => PyData.eqv q p
def inSq (p : P) (xs : List P) : Option Bool := if flatP p = true ∧ xs.all flatP = true then some (memP p xs) else none
def hasK (k : Option Key) (kvs : List (P × P)) : Option Bool := match k with
  | some k => some (kvs.any fun e => decide (keyP e.1 = some k))
  | none => none
def inO : O → O → Option Bool
  | .pl (.str s), .pl (.str t) => some (!(Builtin.Str.occurrences t s 0 t.length 1).isEmpty)
  | .pl p, .pl (.list xs) => inSq p xs
  | .pl p, .fl xs => inSq p xs
  | .pl p, .pl (.tuple xs) => inSq p xs
  | .pl p, .pl (.dict kvs) => hasK (keyP p) kvs
  | .pl p, .fd kvs => hasK (keyP p) kvs
  | _, _ => none
def isNo : O → Bool
  | .pl .none => true
  | _ => false
def isO : O → O → Option Bool
  | x, .pl .none => some (isNo x)
  | _, _ => none
def cmpI (f : Int → Int → Bool) : O → O → Option Bool
  | .pl (.int i), .pl (.int j) => some (f i j)
  | _, _ => none
def neg : Option Bool → Option Bool
  | some b => some !b
  | none => none
def cmpO : CmpOp → O → O → Option Bool
  | .Eq, x, y => eqO x y
  | .NotEq, x, y => neg (eqO x y)
  | .Lt, x, y => cmpI (fun i j => decide (i < j)) x y
  | .LtE, x, y => cmpI (fun i j => decide (i ≤ j)) x y
  | .Gt, x, y => cmpI (fun i j => decide (j < i)) x y
  | .GtE, x, y => cmpI (fun i j => decide (j ≤ i)) x y
  | .In, x, y => inO x y
  | .NotIn, x, y => neg (inO x y)
  | .Is, x, y => isO x y
  | .IsNot, x, y => neg (isO x y)
def cmpV (op : CmpOp) (x y : O) : Option O := toB (cmpO op x y)
def chn1 (z : Option Bool) : Option Bool → Option O
  | some b => if b = true then toB z else some (.pl (.bool false))
  | none => none
def chn (o1 o2 : CmpOp) (x y z : O) : Option O := chn1 (cmpO o2 y z) (cmpO o1 x y)
def plC (p : P) : Option (List P) → Option (List P)
  | some ps => some (p :: ps)
  | none => none
def plains : List O → Option (List P)
  | [] => some []
  | .pl p :: os => plC p (plains os)
  | _ :: _ => none
def mkL1 (os : List O) : Option (List P) → Option O
  | some ps => some (.fl ps)
  | none => some (.lst os)
def mkL (os : List O) : Option O := if os.length ≤ 1000000 then mkL1 os (fzs os) else none
def mkT1 (os : List O) : Option (List P) → Option O
  | some ps => some (.pl (.tuple ps))
  | none => some (.tup os)
def mkT (os : List O) : Option O := if os.length ≤ 1000000 then mkT1 os (plains os) else none
def lookP (k : Key) : List (P × P) → Option P
  | [] => none
  | e :: es => if keyP e.1 = some k then some e.2 else lookP k es
def putP (k : Key) (q p : P) (kvs : List (P × P)) : List (P × P) :=
  if (kvs.any fun e => decide (keyP e.1 = some k)) = true then kvs.map fun e => if keyP e.1 = some k then (e.1, p) else e else kvs ++ [(q, p)]
def toC : Option Nat → Option O
  | some c => some (.pl (.str ⟨#[c]⟩))
  | none => none
def idxS (s : Str) (i : Int) : Option O := if s.length ≤ 16777216 then toC (atI s.cps.toList i) else none
def idxO : O → O → Option O
  | .pl (.str s), .pl (.int i) => idxS s i
  | .pl (.list xs), .pl (.int i) => toP (atI xs i)
  | .pl (.tuple xs), .pl (.int i) => toP (atI xs i)
  | .fl xs, .pl (.int i) => toP (atI xs i)
  | .pl (.dict kvs), .pl (.int i) => toP (lookP (.inl i) kvs)
  | .fd kvs, .pl (.int i) => toP (lookP (.inl i) kvs)
  | .pl (.dict kvs), .pl (.str i) => toP (lookP (.inr i) kvs)
  | .fd kvs, .pl (.str i) => toP (lookP (.inr i) kvs)
  | _, _ => none
def cutP (xs : List P) (lo hi : Option Int) : List P := (xs.drop (HT.sIx xs.length 0 lo)).take (HT.sIx xs.length xs.length hi - HT.sIx xs.length 0 lo)
def slcO : O → Option Int → Option Int → Option O
  | .pl (.str s), lo, hi => if s.length ≤ 16777216 then some (.pl (.str (cutS s lo hi))) else none
  | .pl (.tuple xs), lo, hi => some (.pl (.tuple (cutP xs lo hi)))
  | .pl (.list xs), lo, hi => some (.fl (cutP xs lo hi))
  | .fl xs, lo, hi => some (.fl (cutP xs lo hi))
  | _, _, _ => none
def strItems (s : Str) : List P := s.cps.toList.map fun c => .str ⟨#[c]⟩
def seqAny : O → Option (List P)
  | .pl (.list xs) => some xs
  | .fl xs => some xs
  | .pl (.tuple xs) => some xs
  | .pl (.str s) => some (strItems s)
  | _ => none
def rangeP (lo n : Int) : List P := (List.range n.toNat).map fun (k : Nat) => .int (lo + k)
def okI (i : Int) : Prop := -(2 ^ 62) ≤ i ∧ i < 2 ^ 62
instance (i : Int) : Decidable (okI i) := by unfold okI; infer_instance
def enumP (xs : List P) : List P := xs.zipIdx.map fun e => .tuple [.int (e.2 : Nat), e.1]
def zipP (xs ys : List P) : List P := List.zipWith (fun a b => .tuple [a, b]) xs ys
def scalO : O → Bool
  | .pl p => flatP p
  | _ => false
def intsP : List P → Option (List Int)
  | [] => some []
  | .int i :: ps => (intsP ps).map (i :: ·)
  | _ :: _ => none
def boolsP : List P → Option (List Bool)
  | [] => some []
  | .bool i :: ps => (boolsP ps).map (i :: ·)
  | _ :: _ => none
def lenO : O → Option Nat
  | .pl (.str s) => if s.length ≤ 16777216 then some s.length else none
  | .pl (.list xs) => some xs.length
  | .pl (.tuple xs) => some xs.length
  | .fl xs => some xs.length
  | .pl (.dict xs) => some xs.length
  | .fd xs => some xs.length
  | .lst os => some os.length
  | .dic kvs => some kvs.length
  | .tup os => some os.length
  | _ => none
def toN : Option Nat → Option O
  | some k => some (.pl (.int (k : Int)))
  | none => none
def toF : Option (List P) → Option O
  | some k => some (.fl k)
  | none => none
def toT : Option (List P) → Option O
  | some k => some (.pl (.tuple k))
  | none => none
def sumL : Option (List Int) → Option O
  | some ns => some (.pl (.int ns.sum))
  | none => none
def allL : Option (List Bool) → Option O
  | some ns => some (.pl (.bool (ns.all id)))
  | none => none
def anyL : Option (List Bool) → Option O
  | some ns => some (.pl (.bool (ns.any id)))
  | none => none
def biO : BI → List O → Option O
  | .len, [x] => toN (lenO x)
  | .abs, [.pl (.int i)] => some (.pl (.int (if i < 0 then -i else i)))
  | .int, [.pl (.int i)] => some (.pl (.int i))
  | .int, [.pl (.bool b)] => some (.pl (.int (if b then 1 else 0)))
  | .str, [.pl (.int i)] => if i.natAbs.log2 < 1920 then some (.pl (.str (toString i))) else none
  | .list, [x] => toF (seqI x)
  | .tuple, [x] => toT (seqI x)
  | .max, [.pl (.int i), .pl (.int j)] => some (.pl (.int (if j > i then j else i)))
  | .min, [.pl (.int i), .pl (.int j)] => some (.pl (.int (if j < i then j else i)))
  | .sum, [x] => sumL (o1 intsP (litems x))
  | .all, [x] => allL (o1 boolsP (litems x))
  | .any, [x] => anyL (o1 boolsP (litems x))
  | _, _ => none
def tyP : P → Option Ty
  | .int _ => some .int
  | .bool _ => some .bool
  | .str _ => some .str
  | .list _ => some .list
  | .tuple _ => some .tuple
  | .dict _ => some .dict
  | .none => none
def isTy1 : Option Ty → Ty → Bool
  | some .bool, .int => true
  | some u, t => u == t
  | none, _ => false
def isiO (ts : List Ty) (p : P) : Option O := some (.pl (.bool (ts.any (isTy1 (tyP p)))))
def getP (kvs : List (P × P)) (d : P) : Option Key → Option O
  | some k => some (.pl ((lookP k kvs).getD d))
  | none => none
def methO : MI → O → List O → Option O
  | .get, .pl (.dict kvs), [.pl k, .pl d] => getP kvs d (keyP k)
  | .get, .fd kvs, [.pl k, .pl d] => getP kvs d (keyP k)
  | _, _, _ => none
def slot (env : Env) (i : Nat) : Option O := (env[i]?).join
def opnd (env : Env) : Ex → Option O → Option O
  | .var i, _ => slot env i
  | _, r => r
def setTg (env : Env) : Tg → P → Option Env
  | .nm i, p => some (env.set i (some (.pl p)))
  | .tp is, .tuple ps => if is.length = ps.length then some ((is.zip ps).foldl (fun e x => e.set x.1 (some (.pl x.2))) env) else none
  | _, _ => none
def wipeE (env : Env) : List Nat → Env
  | [] => env
  | v :: vs => (wipeE env vs).set v none
def mapO {α β : Type} (f : α → Option β) : List α → Option (List β)
  | [] => some []
  | x :: xs => match f x, mapO f xs with
    | some y, some ys => some (y :: ys)
    | _, _ => none
def plO : Option O → Option O
  | some (.pl p) => some (.pl p)
  | _ => none
def consA {α : Type} : Option α → Option (List α) → Option (List α)
  | some x, some xs => some (x :: xs)
  | _, _ => none
def consB {α : Type} : Option (α × Bool) → Option (List α × Bool) → Option (List α × Bool)
  | some (x, a), some (xs, b) => some (x :: xs, a || b)
  | _, _ => none
def lendQ (b : Bool) : Option P → Option (P × Bool)
  | some p => some (p, b)
  | none => none
def lendS : Option O → Option (P × Bool)
  | some (.pl p) => some (p, false)
  | some o => lendQ true (fz o)
  | none => none
def lendE : Option O → Option (P × Bool)
  | some o => lendQ false (fz o)
  | none => none
def lend (env : Env) : Ex → Option O → Option (P × Bool)
  | .var i, _ => lendS (slot env i)
  | _, r => lendE r
def retC : Bool → Option (O × List O) → Option O
  | true, some (o, _) => if scalO o = true then some o else none
  | false, some (o, _) => some o
  | _, none => none
def callC (c : Ct) (f : Nat) : Option (List P × Bool) → Option O
  | some (ps, b) => retC b (c.call f (ps.map .pl))
  | none => none
def oI : Option O → Option (Option Int)
  | some (.pl (.int i)) => some (some i)
  | _ => none
def rng1 : O → Option (List P)
  | .pl (.int i) => if okI i then some (rangeP 0 i) else none
  | _ => none
def rng2 : O → O → Option (List P)
  | .pl (.int i), .pl (.int j) => if okI i ∧ okI j then some (rangeP i (j - i)) else none
  | _, _ => none
def mapI (f : List P → List P) : Option (List P) → Option (List P)
  | some xs => some (f xs)
  | none => none
def enmO (x : O) : Option (List P) := mapI enumP (litems x)
def zipQ : Option (List P) → Option (List P) → Option (List P)
  | some xs, some ys => some (zipP xs ys)
  | _, _ => none
def zipO (x y : O) : Option (List P) := zipQ (seqI x) (seqI y)
def itmQ : Option (List (P × P)) → Option (List P)
  | some kvs => some (kvs.map fun q => .tuple [q.1, q.2])
  | none => none
def itmO (x : O) : Option (List P) := itmQ (ditems x)
def revO (x : O) : Option (List P) := mapI List.reverse (seqI x)
/-- a comprehension's items, and what they make -/
def lcF (g : Env → Option O) (h : Env → Option O) (env : Env) (own : List Nat) (tg : Tg) (p : P) : Option (Option O) := match setTg (wipeE env own) tg p with
  | some e => ifB (g e) (match h e with
    | some o => some (some o)
    | none => none) (some none)
  | none => none
def lcM : Option (List (Option O)) → Option O
  | some os => mkL (os.filterMap id)
  | none => none
def lcO (f : P → Option (Option O)) : Option (List P) → Option O
  | some ps => if ps.length ≤ 1000000 then lcM (mapO f ps) else none
  | none => none
section
variable (c : Ct)
mutual
def evR (env : Env) : Ex → Option O
  | .var i => plO (slot env i)
  | .mov _ => none
  | .lit p => some (.pl p)
  | .glob g => toP (c.gl g)
  | .bin op a b => o2 (binO op) (opnd env a (evR env a)) (opnd env b (evR env b))
  | .neg a => o1 negO (evR env a)
  | .not a => o1 notO (evR env a)
  | .and a b => ifB (evR env a) (evR env b) (some (.pl (.bool false)))
  | .or a b => ifB (evR env a) (some (.pl (.bool true))) (evR env b)
  | .cmp op a b => o2 (cmpV op) (opnd env a (evR env a)) (opnd env b (evR env b))
  | .chain o1 o2 a b d => o3 (chn o1 o2) (opnd env a (evR env a)) (opnd env b (evR env b)) (opnd env d (evR env d))
  | .ife t a b => ifB (evR env t) (evR env a) (evR env b)
  | .lst es => o1 mkL (evRs env es)
  | .tup es => o1 mkT (evRs env es)
  | .dct .nil .nil => some (.fd [])
  | .dct _ _ => none
  | .idx a i => o2 idxO (opnd env a (evR env a)) (evR env i)
  | .slc a lo hi => o3 slcO (opnd env a (evR env a)) (evX env lo) (evX env hi)
  | .call f es => callC c f (evLs env es)
  | .bi b es => o1 (biO b) (evVs env es)
  | .isi a ts => o1 (isiO ts) (o1 fz (opnd env a (evR env a)))
  | .meth m a es => o2 (methO m) (opnd env a (evR env a)) (evVs env es)
  | .lc own tg it cond e => lcO (lcF (fun env1 => evC env1 cond) (fun env1 => evR env1 e) env own tg) (evI env it)
def evRs (env : Env) : Exs → Option (List O)
  | .nil => some []
  | .cons e es => consA (evR env e) (evRs env es)
/-- operands, only read -/
def evVs (env : Env) : Exs → Option (List O)
  | .nil => some []
  | .cons e es => consA (opnd env e (evR env e)) (evVs env es)
/-- arguments of a def, lent or given -/
def evLs (env : Env) : Exs → Option (List P × Bool)
  | .nil => some ([], false)
  | .cons e es => consB (lend env e (evR env e)) (evLs env es)
def evX (env : Env) : Ox → Option (Option Int)
  | .none => some none
  | .some e => oI (evR env e)
def evC (env : Env) : Ox → Option O
  | .none => some (.pl (.bool true))
  | .some e => evR env e
def evI (env : Env) : It → Option (List P)
  | .seq e => o1 seqAny (opnd env e (evR env e))
  | .range1 a => o1 rng1 (evR env a)
  | .range2 a b => o2 rng2 (evR env a) (evR env b)
  | .range3 _ _ _ => none
  | .enum e => o1 enmO (opnd env e (evR env e))
  | .zip a b => o2 zipO (opnd env a (evR env a)) (opnd env b (evR env b))
  | .items _ => none
  | .rev e => o1 revO (opnd env e (evR env e))
end
end

/-! .. of what a statement walks: made new, or shared -/
def sh (r : Option O) : Option O := toP (o1 fz r)
def evJ (c : Ct) (env : Env) : It → Option (List P)
  | .seq e => o1 seqAny (sh (evR c env e))
  | .range1 a => o1 rng1 (evR c env a)
  | .range2 a b => o2 rng2 (evR c env a) (evR c env b)
  | .range3 _ _ _ => none
  | .enum e => o1 enmO (sh (evR c env e))
  | .zip a b => o2 zipO (sh (evR c env a)) (sh (evR c env b))
  | .items _ => none
  | .rev e => o1 revO (sh (evR c env e))
inductive Fl where
  | nx | rt (o : O) | bk
abbrev Rs := Option (Fl × Env)
def forGo (f : Env → P → Rs) : List P → Env → Rs
  | [], env => some (.nx, env)
  | p :: ps, env => match f env p with
    | some (.nx, e) => forGo f ps e
    | some (.bk, e) => some (.nx, e)
    | some (.rt o, e) => some (.rt o, e)
    | none => none
def whlGo (t : Env → Option O) (f : Env → Rs) : Nat → Env → Rs
  | 0, _ => none
  | n + 1, env => ifB (t env) (match f env with
    | some (.nx, e) => whlGo t f n e
    | some (.bk, e) => some (.nx, e)
    | some (.rt o, e) => some (.rt o, e)
    | none => none) (some (.nx, env))
def forO (f : Env → P → Rs) (env : Env) : Option (List P) → Rs
  | some ps => forGo f ps env
  | none => none
def pairE (env : Env) : Option O → Option (O × Env)
  | some o => some (o, env)
  | none => none
def movE (env : Env) (i : Nat) : Option O → Option (O × Env)
  | some o => some (o, env.set i none)
  | none => none
def mkW (f : List O → Option O) : Option (List O × Env) → Option (O × Env)
  | some (os, env) => pairE env (f os)
  | none => none
section
variable (c : Ct)
def evW1 (env : Env) : Ex → Option (O × Env)
  | .mov i => movE env i (slot env i)
  | e => pairE env (evR c env e)
def snocW (os : List O) : Option (O × Env) → Option (List O × Env)
  | some (o, env) => some (os ++ [o], env)
  | none => none
def pushW (e : Ex) : Option (List O × Env) → Option (List O × Env)
  | some (os, env) => snocW os (evW1 c env e)
  | none => none
def evWs : Exs → Option (List O × Env) → Option (List O × Env)
  | .nil, r => r
  | .cons e es, r => evWs es (pushW c e r)
def evW (env : Env) : Ex → Option (O × Env)
  | .mov i => movE env i (slot env i)
  | .tup es => mkW mkT (evWs c es (some ([], env)))
  | .lst es => mkW mkL (evWs c es (some ([], env)))
  | e => pairE env (evR c env e)
def setIn (xs : List P) : Option P → Option Nat → Option O
  | some p, some n => some (.fl (xs.set n p))
  | _, _ => none
def setKn (kvs : List (P × P)) (q : P) : Option P → Option Key → Option O
  | some p, some k => if kvs.length < 16777216 then some (.fd (putP k q p kvs)) else none
  | _, _ => none
def appO (xs : List P) : Option P → Option O
  | some p => if xs.length < 16777216 then some (.fl (xs ++ [p])) else none
  | none => none
def augA : O → O → Option O
  | .pl (.int i), .pl (.int j) => some (.pl (.int (i + j)))
  | .pl (.str s), .pl (.str t) => if s.length + t.length ≤ 16777216 then some (.pl (.str (s ++ t))) else none
  | .fl xs, .fl ys => if xs.length + ys.length ≤ 16777216 then some (.fl (xs ++ ys)) else none
  | _, _ => none
def augO : Operator → O → O → Option O
  | .Add, x, y => augA x y
  | .Sub, x, y => intO .Sub x y
  | .Mult, x, y => intO .Mult x y
  | .FloorDiv, x, y => intO .FloorDiv x y
  | .Mod, x, y => intO .Mod x y
  | .LShift, x, y => intO .LShift x y
  | .RShift, x, y => intO .RShift x y
  | .BitAnd, x, y => intO .BitAnd x y
  | .BitOr, x, y => intO .BitOr x y
  | .BitXor, x, y => intO .BitXor x y
  | _, _, _ => none
/-- o[k] = y -/
def setO : O → O → O → Option O
  | .fl xs, .pl (.int j), y => setIn xs (fz y) (ixN xs.length j)
  | .fd kvs, .pl q, y => setKn kvs q (fz y) (keyP q)
  | _, _, _ => none
def mutO : MM → O → List O → Option O
  | .append, .fl xs, [y] => appO xs (fz y)
  | .extend, .fl xs, [.fl ys] => if xs.length + ys.length ≤ 16777216 then some (.fl (xs ++ ys)) else none
  | .reverse, .fl xs, [] => some (.fl xs.reverse)
  | .clear, .fl _, [] => some (.fl [])
  | _, _, _ => none
def popR (xs ys : List P) : Option P → Option (O × O)
  | some p => some (.pl p, .fl ys)
  | none => none
def popN (xs : List P) : Option Nat → Option (O × O)
  | some k => popR xs (xs.eraseIdx k) (xs[k]?)
  | none => none
def popO : O → List O → Option (O × O)
  | .fl xs, [] => popR xs xs.dropLast (xs[xs.length - 1]?)
  | .fl xs, [.pl (.int i)] => if okI i then popN xs (ixN xs.length i) else none
  | _, _ => none
def nxE : Option Env → Rs
  | some e => some (.nx, e)
  | none => none
def asgS (i : Nat) : Option (O × Env) → Rs
  | some (o, e) => some (.nx, e.set i (some o))
  | none => none
def unpS (is : List Nat) : Option (O × Env) → Rs
  | some (.pl p, e) => nxE (setTg e (.tp is) p)
  | some (.tup os, e) => if is.length = os.length then some (.nx, (is.zip os).foldl (fun e y => e.set y.1 (some y.2)) e) else none
  | _ => none
def putS (env : Env) (i : Nat) : Option O → Rs
  | some o => some (.nx, env.set i (some o))
  | none => none
def setS (i : Nat) (ix : Ex) : Option (O × Env) → Rs
  | some (y, e) => putS e i (o2 (fun o k => setO o k y) (slot e i) (evR c e ix))
  | none => none
def mutS (m : MM) (i : Nat) : Option (List O × Env) → Rs
  | some (os, e) => putS e i (o1 (fun o => mutO m o os) (slot e i))
  | none => none
def popS (env : Env) (i : Nat) : Option Nat → Option (O × O) → Rs
  | some j, some (x, y) => some (.nx, (env.set i (some y)).set j (some x))
  | none, some (_, y) => some (.nx, env.set i (some y))
  | _, none => none
def retS : Option (O × Env) → Rs
  | some (o, e) => some (.rt o, e)
  | none => none
def expS (env : Env) : Option O → Rs
  | some _ => some (.nx, env)
  | none => none
mutual
def exec (env : Env) : S → Rs
  | .asg i e => asgS i (evW c env e)
  | .asgT is e => unpS is (evW c env e)
  | .aug i op e => putS env i (o2 (augO op) (slot env i) (evR c env e))
  | .setI i ix e => setS c i ix (evW c env e)
  | .augI _ _ _ _ => none
  | .exp e => expS env (evR c env e)
  | .mut m i es => mutS m i (evWs c es (some ([], env)))
  | .pop j i es => popS env i j (o2 popO (slot env i) (evRs c env es))
  | .ife t a b => ifB (evR c env t) (execs a (some (.nx, env))) (execs b (some (.nx, env)))
  | .forr tg it b => forO (fun e p => execs b (nxE (setTg e tg p))) env (evJ c env it)
  | .whl t b => whlGo (fun e => evR c e t) (fun e => execs b (some (.nx, e))) c.fuel env
  | .ret e => retS (evW c env e)
  | .retN => some (.rt (.pl .none), env)
  | .pass => some (.nx, env)
  | .brk => some (.bk, env)
  | .frz i => putS env i (toP (o1 fz (slot env i)))
def stepS (s : S) : Rs → Rs
  | some (.nx, env) => exec env s
  | r => r
def execs : Ss → Rs → Rs
  | .nil, r => r
  | .cons s ss, r => execs ss (stepS s r)
end
end
section
variable (c : Ct)
/-- a turn of a for; a test and a block of a while; an item of a comprehension -/
def bodyF (tg : Tg) (b : Ss) (e : Env) (p : P) : Rs := execs c b (nxE (setTg e tg p))
def tstF (t : Ex) (e : Env) : Option O := evR c e t
def blkF (b : Ss) (e : Env) : Rs := execs c b (some (.nx, e))
theorem exec_forr (env : Env) (tg : Tg) (it : It) (b : Ss) : exec c env (.forr tg it b) = forO (bodyF c tg b) env (evJ c env it) := by
  rw [exec]
  rfl
theorem exec_whl (env : Env) (t : Ex) (b : Ss) : exec c env (.whl t b) = whlGo (tstF c t) (blkF c b) c.fuel env := by
  rw [exec]
  rfl
def lcB (env : Env) (own : List Nat) (tg : Tg) (cond : Ox) (e : Ex) : P → Option (Option O) := lcF (fun env1 => evC c env1 cond) (fun env1 => evR c env1 e) env own tg
theorem evR_lc (env : Env) (own : List Nat) (tg : Tg) (it : It) (cond : Ox) (e : Ex) : evR c env (.lc own tg it cond e) = lcO (lcB c env own tg cond e) (evI c env it) := by
  rw [evR]
  rfl
end
structure Df where
  ps : Nat
  n : Nat
  body : Ss
def startE (n : Nat) (os : List O) : Env := os.map some ++ List.replicate (n - os.length) none
def outD : Rs → Option O
  | some (.rt o, _) => some o
  | some (.nx, _) => some (.pl .none)
  | _ => none
def argD (os : List O) : Option O → Option (O × List O)
  | some o => some (o, os)
  | none => none
def runD (c : Ct) (d : Df) (os : List O) : Option (O × List O) := if os.length = d.ps then argD os (outD (execs c d.body (some (.nx, startE d.n os)))) else none
end G

set_option maxRecDepth 100000
namespace G
open PySem L2

/-! ### the best reading -/
def wE (X : Cx) (e : Expr) : TE := fun σ H Q => ∃ t, PE X e t ∧ t σ H Q
def wT (X : Cx) (e : Expr) : TT := fun σ H Q => ∃ t, PT X e t ∧ t σ H Q
def wA (X : Cx) (es : List Expr) : TA := fun σ H Q => ∃ t, PA X es t ∧ t σ H Q
def wS (X : Cx) (s : Stmt) : TS := fun D σ H => ∃ t, PS X s t ∧ t D σ H
def wSs (X : Cx) (s : List Stmt) : TS := fun D σ H => ∃ t, PSs X s t ∧ t D σ H
def wG (X : Cx) (e : Expr) : TG := fun v σ H Q => ∃ t, PG X e t ∧ t v σ H Q
def wO (X : Cx) (f : Value → Value → Sem Value) : R2 := fun x y H Q => ∃ r, OpR X f r ∧ r x y H Q
def wC (X : Cx) (f : Value) : List V → Hp → VK → Prop := fun vs H Q => ∃ r, CallR X f r ∧ r vs H Q
def wX (X : Cx) : R2 := fun x y H Q => ∃ r, IxR X r ∧ r x y H Q
section
variable {X : Cx}
theorem wE_ok {e : Expr} : PE X e (wE X e) := ⟨fun pins s σ H Q I ⟨_, h, q⟩ => h.run pins s σ H Q I q⟩
theorem wT_ok {e : Expr} : PT X e (wT X e) := ⟨fun pins s σ H Q I ⟨_, h, q⟩ => h.run pins s σ H Q I q⟩
theorem wA_ok {e : List Expr} : PA X e (wA X e) := ⟨fun pos pins s σ H Q I ⟨_, h, q⟩ => h.run pos pins s σ H Q I q⟩
theorem wS_ok {e : Stmt} : PS X e (wS X e) := ⟨fun pins s σ H D I ⟨_, h, q⟩ => h.run pins s σ H D I q⟩
theorem wSs_ok {e : List Stmt} : PSs X e (wSs X e) := ⟨fun pins s σ H D I ⟨_, h, q⟩ => h.run pins s σ H D I q⟩
theorem wG_ok {e : Expr} : PG X e (wG X e) := ⟨fun pins s σ H v u Q I r ⟨_, h, q⟩ => h.run pins s σ H v u Q I r q⟩
theorem wO_ok {f : Value → Value → Sem Value} : OpR X f (wO X f) := fun pins s σ H x y v u Q I r1 r2 ⟨_, h, q⟩ => h pins s σ H x y v u Q I r1 r2 q
theorem wC_ok {f : Value} : CallR X f (wC X f) := fun pins s σ H vs us Q I r ⟨_, h, q⟩ => h pins s σ H vs us Q I r q
end

/-! ### what a reading of values does to the two heaps -/
/-- H grew to H', what is shared grew from B to B' by new things alone -/
structure Stp (B H B' H' : Hp) : Prop where
  b : Ext B B'
  h : Ext H H'
  bh : Ext B' H'
  new : ∀ a, B' a ≠ none → B a ≠ none ∨ H a = none
theorem Stp.refl {B H : Hp} (e : Ext B H) : Stp B H B H := ⟨.refl B, .refl H, e, fun _ h => .inl h⟩
theorem Stp.trans {B H B1 H1 B2 H2 : Hp} (s : Stp B H B1 H1) (t : Stp B1 H1 B2 H2) : Stp B H B2 H2 := ⟨s.b.trans t.b, s.h.trans t.h, t.bh, fun a h => by
  rcases t.new a h with z | z
  · exact s.new a z
  · exact .inr (s.h.none z)⟩
/-- the frame's part of the heap: shared things B, things held alone at f -/
structure Wld (B H : Hp) (f : List Addr) : Prop where
  bh : Ext B H
  nd : f.Nodup
  out : ∀ a ∈ f, B a = none
/-- things at f are new since (B, H) -/
structure Frs (H B' : Hp) (f : List Addr) : Prop where
  nd : f.Nodup
  new : ∀ a ∈ f, H a = none
  out : ∀ a ∈ f, B' a = none
theorem Frs.nil {H B' : Hp} : Frs H B' [] := ⟨.nil, fun _ h => by simp at h, fun _ h => by simp at h⟩
section
variable {K : PySem.W.Frag} {B H B' H' : Hp}
theorem Stp.out {f : List Addr} (s : Stp B H B' H') (hf : ∀ a ∈ f, H a ≠ none) (ho : ∀ a ∈ f, B a = none) : ∀ a ∈ f, B' a = none := fun a ha => by
  cases q : B' a with
  | none => rfl
  | some o =>
    rcases s.new a (by rw [q]; simp) with z | z
    · exact absurd (ho a ha) z
    · exact absurd z (hf a ha)
theorem RO.stp {v : V} {o : O} {f : List Addr} (s : Stp B H B' H') (r : RO K B H v o f) : RO K B' H' v o f := r.mono s.b fun a _ u e => s.h a u e
theorem ROs.stp {v : List V} {o : List O} {f : List Addr} (s : Stp B H B' H') (r : ROs K B H v o f) : ROs K B' H' v o f := r.mono s.b fun a _ u e => s.h a u e
theorem RP.stp {v : V} {p : P} (s : Stp B H B' H') (r : RP K B v p) : RP K B' v p := r.mono s.b
theorem RPs.stp {v : List V} {p : List P} (s : Stp B H B' H') (r : RPs K B v p) : RPs K B' v p := r.mono s.b
theorem Wld.stp {f : List Addr} (w : Wld B H f) (s : Stp B H B' H') (hf : ∀ a ∈ f, H a ≠ none) : Wld B' H' f := ⟨s.bh, w.nd, s.out hf w.out⟩
theorem Frs.stp {H0 : Hp} {f : List Addr} (r : Frs H0 B f) (s : Stp B H B' H') (hf : ∀ a ∈ f, H a ≠ none) : Frs H0 B' f := ⟨r.nd, r.new, s.out hf r.out⟩
theorem Frs.back {H0 : Hp} {f : List Addr} (r : Frs H B' f) (e : Ext H0 H) : Frs H0 B' f := ⟨r.nd, fun a ha => e.none (r.new a ha), r.out⟩
theorem Frs.app {f g : List Addr} {H1 : Hp} (r : Frs H B' f) (e : Ext H H1) (hf : ∀ a ∈ f, H1 a ≠ none) (q : Frs H1 B' g) : Frs H B' (f ++ g) :=
  ⟨List.nodup_append.mpr ⟨r.nd, q.nd, fun a ha b hb z => hf a ha (by rw [z]; exact q.new b hb)⟩, fun a ha => (List.mem_append.mp ha).elim (r.new a) fun z => e.none (q.new a z), fun a ha => (List.mem_append.mp ha).elim (r.out a) (q.out a)⟩
/-- what is held alone can be read as plain -/
theorem RO.rd {v : V} {o : O} {f : List Addr} {p : P} (e : Ext B H) (r : RO K B H v o f) (q : G.fz o = some p) : RP K H v p := r.fz e (fun _ _ => rfl) q
/-- .. or become shared -/
theorem RO.share {v : V} {o : O} {f : List Addr} {p : P} (e : Ext B H) (ho : ∀ a ∈ f, B a = none) (r : RO K B H v o f) (q : G.fz o = some p) : Ext B (frz B H f) ∧ Ext (frz B H f) H ∧ RP K (frz B H f) v p ∧ ∀ a, frz B H f a ≠ none → B a ≠ none ∨ a ∈ f := by
  have e1 : Ext B (frz B H f) := fun a o' h => by
    by_cases ha : a ∈ f
    · rw [ho a ha] at h
      cases h
    · rw [frz_out ha]
      exact h
  refine ⟨e1, fun a o' h => ?_, r.fz e1 (fun a ha => frz_in ha) q, fun a h => ?_⟩
  · by_cases ha : a ∈ f
    · rw [frz_in ha] at h
      exact h
    · rw [frz_out ha] at h
      exact e a o' h
  · by_cases ha : a ∈ f
    · exact .inr ha
    · rw [frz_out ha] at h
      exact .inl h
theorem frz_ext {f : List Addr} (e : Ext B H) (ho : ∀ a ∈ f, B a = none) : Ext B (frz B H f) ∧ Ext (frz B H f) H ∧ ∀ a, frz B H f a ≠ none → B a ≠ none ∨ a ∈ f := by
  refine ⟨fun a o' h => ?_, fun a o' h => ?_, fun a h => ?_⟩
  · by_cases ha : a ∈ f
    · rw [ho a ha] at h
      cases h
    · rw [frz_out ha]
      exact h
  · by_cases ha : a ∈ f
    · rw [frz_in ha] at h
      exact h
    · rw [frz_out ha] at h
      exact e a o' h
  · by_cases ha : a ∈ f
    · exact .inr ha
    · rw [frz_out ha] at h
      exact .inl h
theorem Stp.shares {vs : List V} {os : List O} {f : List Addr} {ps : List P} (s : Stp B H B' H') (r : ROs K B' H' vs os f) (q : fzs os = some ps) (n : Frs H B' f) : ∃ B'', Stp B H B'' H' ∧ Ext B' B'' ∧ RPs K B'' vs ps ∧ ∀ a, B'' a ≠ none → B' a ≠ none ∨ a ∈ f := by
  obtain ⟨e1, e2, nw⟩ := frz_ext s.bh n.out
  refine ⟨frz B' H' f, ⟨s.b.trans e1, s.h, e2, fun a h => ?_⟩, e1, r.fz e1 (fun a ha => frz_in ha) q, nw⟩
  rcases nw a h with z | z
  · exact s.new a z
  · exact .inr (n.new a z)
/-- a new thing that was made is shared at once -/
theorem Stp.share {v : V} {o : O} {f : List Addr} {p : P} (s : Stp B H B' H') (r : RO K B' H' v o f) (q : G.fz o = some p) (n : Frs H B' f) : ∃ B'', Stp B H B'' H' ∧ Ext B' B'' ∧ RP K B'' v p ∧ ∀ a, B'' a ≠ none → B' a ≠ none ∨ a ∈ f := by
  obtain ⟨e1, e2, r', nw⟩ := r.share s.bh n.out q
  refine ⟨frz B' H' f, ⟨s.b.trans e1, s.h, e2, fun a h => ?_⟩, e1, r', nw⟩
  rcases nw a h with z | z
  · exact s.new a z
  · exact .inr (n.new a z)
/-! a new object -/
theorem Stp.lay {p : Addr} {o : HO} (e : Ext B H) (hp : H p = none) : Stp B H B (upd H p o) := ⟨.refl B, .upd hp, e.trans (.upd hp), fun _ h => .inl h⟩
theorem Stp.layB {p : Addr} {o : HO} (e : Ext B H) (hp : H p = none) : Stp B H (upd B p o) (upd H p o) :=
  ⟨.upd (e.none hp), .upd hp, fun a u h => by
    by_cases ha : a = p
    · subst ha
      rw [upd_same] at h ⊢
      exact h
    · rw [upd_ne ha] at h ⊢
      exact e a u h, fun a h => by
    by_cases ha : a = p
    · subst ha
      exact .inr hp
    · rw [upd_ne ha] at h
      exact .inl h⟩

/-! ### a frame's slots -/
inductive REnv (K : PySem.W.Frag) (B H : Hp) : L2.St → Env → List Addr → Prop
  | nil : REnv K B H [] [] []
  | non {v : Option V} {σ : L2.St} {env : Env} {f : List Addr} : REnv K B H σ env f → REnv K B H (v :: σ) (none :: env) f
  | som {v : V} {o : O} {σ : L2.St} {env : Env} {f g : List Addr} : RO K B H v o f → REnv K B H σ env g → REnv K B H (some v :: σ) (some o :: env) (f ++ g)
theorem REnv.mono {σ : L2.St} {env : Env} {f : List Addr} (e : Ext B B') (r : REnv K B H σ env f) (k : ∀ a ∈ f, ∀ u, H a = some u → H' a = some u) : REnv K B' H' σ env f := by
  induction r with
  | nil => exact .nil
  | non _ ih => exact .non (ih k)
  | som h _ ih => exact .som (h.mono e fun a ha => k a (by simp [ha])) (ih fun a ha => k a (by simp [ha]))
theorem REnv.stp {σ : L2.St} {env : Env} {f : List Addr} (r : REnv K B H σ env f) (s : Stp B H B' H') : REnv K B' H' σ env f := r.mono s.b fun a _ u e => s.h a u e
theorem REnv.has {σ : L2.St} {env : Env} {f : List Addr} (r : REnv K B H σ env f) : ∀ a ∈ f, H a ≠ none := by
  induction r with
  | nil => intro a ha; simp at ha
  | non _ ih => exact ih
  | som h _ ih =>
    intro a ha
    rcases List.mem_append.mp ha with z | z
    · exact h.has a z
    · exact ih a z
theorem REnv.len {σ : L2.St} {env : Env} {f : List Addr} (r : REnv K B H σ env f) : σ.length = env.length := by
  induction r with
  | nil => rfl
  | non _ ih => rw [List.length_cons, List.length_cons, ih]
  | som _ _ ih => rw [List.length_cons, List.length_cons, ih]
theorem REnv.get {σ : L2.St} {env : Env} {f : List Addr} (r : REnv K B H σ env f) : ∀ {i : Nat} {o : O}, env[i]? = some (some o) → ∃ v g, σ[i]? = some (some v) ∧ RO K B H v o g ∧ ∀ a ∈ g, a ∈ f := by
  induction r with
  | nil => intro i o h; simp at h
  | non _ ih =>
    intro i o h
    cases i with
    | zero => simp at h
    | succ i =>
      obtain ⟨v, g, h1, h2, h3⟩ := ih (i := i) (by simpa using h)
      exact ⟨v, g, by simpa using h1, h2, h3⟩
  | @som v' o' σ env f g hr _ ih =>
    intro i o h
    cases i with
    | zero =>
      simp at h
      subst h
      exact ⟨v', f, rfl, hr, fun a ha => by simp [ha]⟩
    | succ i =>
      obtain ⟨v, g', h1, h2, h3⟩ := ih (i := i) (by simpa using h)
      exact ⟨v, g', by simpa using h1, h2, fun a ha => by simp [h3 a ha]⟩
/-- a slot's thing taken out -/
theorem REnv.take {σ : L2.St} {env : Env} {f : List Addr} (r : REnv K B H σ env f) : ∀ {i : Nat} {o : O}, env[i]? = some (some o) → ∃ v g r', σ[i]? = some (some v) ∧ RO K B H v o g ∧ f.Perm (g ++ r') ∧ REnv K B H σ (env.set i none) r' := by
  induction r with
  | nil => intro i o h; simp at h
  | non q ih =>
    intro i o h
    cases i with
    | zero => simp at h
    | succ i =>
      obtain ⟨v, g, r', h1, h2, h3, h4⟩ := ih (i := i) (by simpa using h)
      exact ⟨v, g, r', by simpa using h1, h2, h3, .non h4⟩
  | @som v' o' σ env f g hr q ih =>
    intro i o h
    cases i with
    | zero =>
      simp at h
      subst h
      exact ⟨v', f, g, rfl, hr, .refl _, .non q⟩
    | succ i =>
      obtain ⟨v, g', r', h1, h2, h3, h4⟩ := ih (i := i) (by simpa using h)
      refine ⟨v, g', f ++ r', by simpa using h1, h2, ?_, .som hr h4⟩
      have e1 : (f ++ g).Perm (f ++ (g' ++ r')) := List.Perm.append_left f h3
      refine e1.trans ?_
      rw [← List.append_assoc, ← List.append_assoc]
      exact List.Perm.append_right r' List.perm_append_comm
/-- .. whatever it was -/
theorem REnv.drop {σ : L2.St} {env : Env} {f : List Addr} (r : REnv K B H σ env f) (i : Nat) : ∃ g r', f.Perm (g ++ r') ∧ REnv K B H σ (env.set i none) r' := by
  cases h : env[i]? with
  | none => exact ⟨[], f, .refl _, by rw [List.set_eq_of_length_le (List.getElem?_eq_none_iff.mp h)]; exact r⟩
  | some x =>
    cases x with
    | none =>
      refine ⟨[], f, .refl _, ?_⟩
      have : env.set i none = env := by
        refine List.ext_getElem? fun j => ?_
        by_cases hj : i = j
        · subst hj
          rw [List.getElem?_set_self (List.getElem?_eq_some_iff.mp h).1, h]
        · rw [List.getElem?_set_ne hj]
      rw [this]
      exact r
    | some o =>
      obtain ⟨v, g, r', _, _, h3, h4⟩ := r.take h
      exact ⟨g, r', h3, h4⟩
theorem REnv.putN {σ : L2.St} {env : Env} {f : List Addr} (r : REnv K B H σ env f) : ∀ {i : Nat} {v : V} {o : O} {g : List Addr}, env[i]? = some none → RO K B H v o g → ∃ f', f'.Perm (g ++ f) ∧ REnv K B H (σ.set i (some v)) (env.set i (some o)) f' := by
  induction r with
  | nil => intro i v o g h; simp at h
  | @non w σ env f q ih =>
    intro i v o g h ro
    cases i with
    | zero => exact ⟨g ++ f, .refl _, .som ro q⟩
    | succ i =>
      obtain ⟨f', h1, h2⟩ := ih (i := i) (by simpa using h) ro
      exact ⟨f', h1, .non h2⟩
  | @som v' o' σ env f g' hr q ih =>
    intro i v o g h ro
    cases i with
    | zero => simp at h
    | succ i =>
      obtain ⟨f', h1, h2⟩ := ih (i := i) (by simpa using h) ro
      refine ⟨f ++ f', ?_, .som hr h2⟩
      have e1 : (f ++ f').Perm (f ++ (g ++ g')) := List.Perm.append_left f h1
      refine e1.trans ?_
      rw [← List.append_assoc, ← List.append_assoc]
      exact List.Perm.append_right g' List.perm_append_comm
theorem REnv.put {σ : L2.St} {env : Env} {f : List Addr} (r : REnv K B H σ env f) {i : Nat} {v : V} {o : O} {g : List Addr} (hi : i < env.length) (ro : RO K B H v o g) : ∃ g' r' f', f.Perm (g' ++ r') ∧ f'.Perm (g ++ r') ∧ REnv K B H (σ.set i (some v)) (env.set i (some o)) f' := by
  obtain ⟨g', r', h1, h2⟩ := r.drop i
  obtain ⟨f', h3, h4⟩ := h2.putN (i := i) (v := v) (o := o) (g := g) (by rw [List.getElem?_set_self hi]) ro
  refine ⟨g', r', f', h1, h3, ?_⟩
  rw [List.set_set] at h4
  exact h4
theorem Wld.perm {f g : List Addr} (w : Wld B H f) (p : f.Perm g) : Wld B H g := ⟨w.bh, p.nodup_iff.mp w.nd, fun a ha => w.out a (p.mem_iff.mpr ha)⟩
theorem Wld.right {f g : List Addr} (w : Wld B H (f ++ g)) : Wld B H g := ⟨w.bh, (List.nodup_append.mp w.nd).2.1, fun a ha => w.out a (by simp [ha])⟩
theorem Wld.left {f g : List Addr} (w : Wld B H (f ++ g)) : Wld B H f := ⟨w.bh, (List.nodup_append.mp w.nd).1, fun a ha => w.out a (by simp [ha])⟩
theorem Wld.add {f g : List Addr} {H0 : Hp} (w : Wld B H f) (n : Frs H0 B g) (hf : ∀ a ∈ f, H0 a ≠ none) : Wld B H (g ++ f) :=
  ⟨w.bh, List.nodup_append.mpr ⟨n.nd, w.nd, fun a ha b hb z => hf b hb (by rw [← z]; exact n.new a ha)⟩, fun a ha => (List.mem_append.mp ha).elim (n.out a) (w.out a)⟩
end
end G

set_option maxRecDepth 100000
namespace G
open PySem L2
section
variable {K : PySem.W.Frag} {B H B' H' : Hp} {v x y : V} {f g : List Addr}
mutual
theorem RP.dp (e : Ext B H) : ∀ {v : V} {p : P}, RP K B v p → p.canLay0 = true → Dp K H v p
  | _, _, .non, _ => .non
  | _, _, .bl, _ => .bl _
  | _, _, .int, _ => .int _
  | _, _, .str, _ => .str _
  | _, _, .tup h' r, c => .tup (e.sqT h') (RPs.dp e r (by simpa [PyData.canLay0] using c))
  | _, _, .lst h' r, c => .lst (e.sl h').sq (RPs.dp e r (by simpa [PyData.canLay0] using c))
  | _, _, .dic _ _, c => by simp [PyData.canLay0] at c
theorem RPs.dp (e : Ext B H) : ∀ {v : List V} {p : List P}, RPs K B v p → PyData.canLayAll0 p = true → DpAll K H v p
  | _, _, .nil, _ => .nil
  | _, _, .cons h r, c => by
    simp only [PyData.canLayAll0, Bool.and_eq_true] at c
    exact .cons (RP.dp e h c.1) (RPs.dp e r c.2)
end
theorem RPs.len {vs : List V} {ps : List P} (r : RPs K B vs ps) : vs.length = ps.length := by
  induction ps generalizing vs with
  | nil => cases r; rfl
  | cons p ps ih => cases r with | cons h r => rw [List.length_cons, List.length_cons, ih r]
theorem RPs.app {vs ws : List V} {ps qs : List P} (r : RPs K B vs ps) (q : RPs K B ws qs) : RPs K B (vs ++ ws) (ps ++ qs) := by
  induction ps generalizing vs with
  | nil => cases r; exact q
  | cons p ps ih => cases r with | cons h r => exact .cons h (ih r)
theorem RPs.getE {vs : List V} {ps : List P} (r : RPs K B vs ps) : ∀ {i : Nat} {p : P}, ps[i]? = some p → ∃ v, vs[i]? = some v ∧ RP K B v p := by
  induction ps generalizing vs with
  | nil => intro i p h; simp at h
  | cons p ps ih =>
    cases r with
    | @cons v vs _ _ h r =>
      intro i q e
      cases i with
      | zero =>
        simp at e
        subst e
        exact ⟨v, rfl, h⟩
      | succ i =>
        obtain ⟨w, e1, e2⟩ := ih r (i := i) (by simpa using e)
        exact ⟨w, by simpa using e1, e2⟩
theorem RPs.getV {vs : List V} {ps : List P} (r : RPs K B vs ps) {i : Nat} {v : V} (e : vs[i]? = some v) : ∃ p, ps[i]? = some p ∧ RP K B v p := by
  have h1 := (List.getElem?_eq_some_iff.mp e).1
  rw [r.len] at h1
  obtain ⟨w, e1, e2⟩ := r.getE (List.getElem?_eq_getElem h1)
  rw [e] at e1
  cases e1
  exact ⟨_, List.getElem?_eq_getElem h1, e2⟩
theorem RPs.take {vs : List V} {ps : List P} (r : RPs K B vs ps) (n : Nat) : RPs K B (vs.take n) (ps.take n) := by
  induction ps generalizing vs n with
  | nil => cases r; simp; exact .nil
  | cons p ps ih =>
    cases r with
    | cons h r =>
      cases n with
      | zero => exact .nil
      | succ n => exact .cons h (ih r n)
theorem RPs.drop {vs : List V} {ps : List P} (r : RPs K B vs ps) (n : Nat) : RPs K B (vs.drop n) (ps.drop n) := by
  induction ps generalizing vs n with
  | nil => cases r; simp; exact .nil
  | cons p ps ih =>
    cases r with
    | cons h r =>
      cases n with
      | zero => exact .cons h r
      | succ n => exact ih r n
theorem RPs.set {vs : List V} {ps : List P} (r : RPs K B vs ps) {v : V} {p : P} (h : RP K B v p) (n : Nat) : RPs K B (vs.set n v) (ps.set n p) := by
  induction ps generalizing vs n with
  | nil => cases r; exact .nil
  | cons q ps ih =>
    cases r with
    | cons h' r =>
      cases n with
      | zero => exact .cons h r
      | succ n => exact .cons h' (ih r n)
theorem RPs.rev {vs : List V} {ps : List P} (r : RPs K B vs ps) : RPs K B vs.reverse ps.reverse := by
  induction ps generalizing vs with
  | nil => cases r; exact .nil
  | cons p ps ih =>
    cases r with
    | cons h r =>
      rw [List.reverse_cons, List.reverse_cons]
      exact (ih r).app (.cons h .nil)
theorem RPs.rep {vs : List V} {ps : List P} (r : RPs K B vs ps) (n : Nat) : RPs K B (List.replicate n vs).flatten (List.replicate n ps).flatten := by
  induction n with
  | zero => exact .nil
  | succ n ih =>
    rw [List.replicate_succ, List.replicate_succ, List.flatten_cons, List.flatten_cons]
    exact r.app ih
theorem RPs.erase {vs : List V} {ps : List P} (r : RPs K B vs ps) (n : Nat) : RPs K B (vs.eraseIdx n) (ps.eraseIdx n) := by
  induction ps generalizing vs n with
  | nil => cases r; exact .nil
  | cons p ps ih =>
    cases r with
    | cons h r =>
      cases n with
      | zero => exact r
      | succ n => exact .cons h (ih r n)
/-! what a thing of such a form is -/
theorem RO.i {i : Int} (r : RO K B H v (.pl (.int i)) f) : v = .int i := by
  cases r with | pl r => cases r; rfl
theorem RO.b {i : Bool} (r : RO K B H v (.pl (.bool i)) f) : v = .bl i := by
  cases r with | pl r => cases r; rfl
theorem RO.s {i : Str} (r : RO K B H v (.pl (.str i)) f) : v = .str i := by
  cases r with | pl r => cases r; rfl
theorem RO.n (r : RO K B H v (.pl .none) f) : v = .non := by
  cases r with | pl r => cases r; rfl
theorem RO.p {p : P} (r : RO K B H v (.pl p) f) : RP K B v p := by
  cases r with | pl r => exact r
theorem RO.lits {o : O} {ps : List P} (e : Ext B H) (r : RO K B H v o f) (h : litems o = some ps) : ∃ a vs, v = .ref a ∧ SL K H a vs ∧ RPs K B vs ps := by
  unfold litems at h
  split at h
  · cases h
    cases r with
    | pl r => cases r with | lst h r => exact ⟨_, _, rfl, e.sl h, r⟩
  · cases h
    cases r with
    | fl h r => exact ⟨_, _, rfl, .of h, r⟩
  · cases h
theorem RO.tits {ps : List P} (e : Ext B H) (r : RO K B H v (.pl (.tuple ps)) f) : ∃ a vs, v = .ref a ∧ SqT K H a vs ∧ RPs K B vs ps := by
  cases r with
  | pl r => cases r with | tup h r => exact ⟨_, _, rfl, e.sqT h, r⟩
theorem RO.seqs {o : O} {ps : List P} (e : Ext B H) (r : RO K B H v o f) (h : seqI o = some ps) : ∃ a vs, v = .ref a ∧ (SqL K H a vs ∨ SqT K H a vs) ∧ RPs K B vs ps := by
  unfold seqI at h
  split at h
  · cases h
    obtain ⟨a, vs, e1, e2, e3⟩ := r.lits e (by rfl)
    exact ⟨a, vs, e1, .inl e2.sq, e3⟩
  · cases h
    obtain ⟨a, vs, e1, e2, e3⟩ := r.lits e (by rfl)
    exact ⟨a, vs, e1, .inl e2.sq, e3⟩
  · cases h
    obtain ⟨a, vs, e1, e2, e3⟩ := r.tits e
    exact ⟨a, vs, e1, .inr e2, e3⟩
  · cases h
end
/-! ### what an operator gives -/
section
variable {X : Cx} {B H : Hp} {x y : V} {f g : List Addr} {ox oy o : O}
/-- what is wanted of a value that was made from (B, H) -/
def Gv (K : PySem.W.Frag) (B H : Hp) (o : O) (Q : VK) : Prop := ∀ v B' H' f, Stp B H B' H' → RO K B' H' v o f → Frs H B' f → Q v H'
theorem Gv.pl {K : PySem.W.Frag} {v : V} {p : P} {Q : VK} (e : Ext B H) (q : Gv K B H (.pl p) Q) (r : RP K B v p) : Q v H := q v B H [] (.refl e) (.pl r) .nil
theorem Gv.fl {K : PySem.W.Frag} {vs : List V} {ps : List P} {Q : VK} (e : Ext B H) (q : Gv K B H (.fl ps) Q) (r : RPs K B vs ps) (a : Addr) (ha : H a = none) : Q (.ref a) (upd H a (.lst vs)) :=
  q _ B _ [a] (.lay e ha) (.fl upd_same r) ⟨by simp, by simpa using ha, by simpa using e.none ha⟩
theorem Gv.tup {K : PySem.W.Frag} {vs : List V} {ps : List P} {Q : VK} (e : Ext B H) (q : Gv K B H (.pl (.tuple ps)) Q) (r : RPs K B vs ps) (a : Addr) (ha : H a = none) : Q (.ref a) (upd H a (.tup vs)) := by
  have s := Stp.layB (o := .tup vs) e ha
  exact q _ _ _ [] s (.pl (.tup (.of upd_same) (r.stp s))) .nil
theorem SL.at {pins : List (Addr × Obj)} {s : Shared} {σ : L2.St} {a : Addr} {xs : List V} (h : SL X.K H a xs) (I : Inv X pins σ H s) : ∃ (its : List Value) (n : Nat), Vals xs its ∧ s.heap.get? a = some { cls := .type "list", dict := none, data := .seq its.toArray n, slots := #[] } := by
  rcases h with h | ⟨its, n, h1, h2, h3⟩
  · obtain ⟨_, i1, n1, r1, e1⟩ := h.ok I.hok
    exact ⟨i1, n1, r1, e1⟩
  · exact ⟨its.toList, n, h3, by simpa using I.kIn _ _ h1⟩
theorem op_catR : OpR X (binaryOp .Add) (fun x y H Q => ∃ l b xs zs, x = .ref l ∧ y = .ref b ∧ SL X.K H l xs ∧ SL X.K H b zs ∧ xs.length + zs.length ≤ sizeLine ∧ ∀ p, H p = none → Q (.ref p) (upd H p (.lst (xs ++ zs)))) := by
  intro pins s σ H x y v u Q I rx ry h
  obtain ⟨l, b, xs, zs, rfl, rfl, hH, hB, hz, q⟩ := h
  cases rx
  cases ry
  obtain ⟨i1, n1, r1, e1⟩ := hH.at I
  obtain ⟨i2, n2, r2, e2⟩ := hB.at I
  have l1 := r1.length
  have l2 := r2.length
  refine PySem.P.add_list e1 e2 ?_ (by rw [List.size_toArray, List.size_toArray]; omega)
  rw [show i1.toArray ++ i2.toArray = (i1 ++ i2).toArray by simp]
  exact ⟨.ref _, _, I.lnew (t' := s.toks) (r1.append r2) (by rw [List.length_append]; exact hz), rfl, q _ I.fresh⟩
theorem op_repR : OpR X (binaryOp .Mult) (fun x y H Q => ∃ l k xs, x = .ref l ∧ y = .int k ∧ H l = some (.lst xs) ∧ -(2 ^ 63) ≤ k ∧ k < 2 ^ 63 ∧ xs.length * k.toNat ≤ sizeLine ∧
  ∀ p, H p = none → Q (.ref p) (upd H p (.lst (List.replicate k.toNat xs).flatten))) := op_rep
theorem line_eq : sizeLine = 16777216 := by decide
theorem bin_ok {op : Operator} (e : Ext B H) (r1 : RO X.K B H x ox f) (r2 : RO X.K B H y oy g) (h : binO op ox oy = some o) {Q : VK} (q : Gv X.K B H o Q) : wO X (binaryOp op) x y H Q := by
  have II : ∀ {op : Operator} {i j : Int}, toI (iBin op i j) = some o → x = .int i → y = .int j → wO X (binaryOp op) x y H Q := by
    intro op i j h e1 e2
    subst e1 e2
    have fin : ∀ k, o = .pl (.int k) → Q (.int k) H := fun k z => by
      subst z
      exact q.pl e .int
    have hz : ∃ k, iBin op i j = some k ∧ o = .pl (.int k) := by
      cases hk : iBin op i j with
      | none => rw [hk] at h; cases h
      | some k => rw [hk] at h; cases h; exact ⟨k, rfl, rfl⟩
    obtain ⟨k, hk, ho⟩ := hz
    have z := fin _ ho
    cases op
    case Add => cases hk; exact ⟨_, op_add, _, _, rfl, rfl, z⟩
    case Sub => cases hk; exact ⟨_, op_sub, _, _, rfl, rfl, z⟩
    case BitAnd => cases hk; exact ⟨_, op_and, _, _, rfl, rfl, z⟩
    case BitOr => cases hk; exact ⟨_, op_or, _, _, rfl, rfl, z⟩
    case BitXor => cases hk; exact ⟨_, op_xor, _, _, rfl, rfl, z⟩
    case Mult => rw [iBin] at hk; split at hk <;> cases hk; rename_i c; exact ⟨_, op_mul, _, _, rfl, rfl, c, z⟩
    case Mod => rw [iBin] at hk; split at hk <;> cases hk; rename_i c; exact ⟨_, op_mod, _, _, rfl, rfl, c, z⟩
    case Pow => rw [iBin] at hk; split at hk <;> cases hk; rename_i c; exact ⟨_, op_pow, _, _, rfl, rfl, c, z⟩
    case LShift => rw [iBin] at hk; split at hk <;> cases hk; rename_i c; exact ⟨_, op_shl, _, _, rfl, rfl, c, z⟩
    case RShift => rw [iBin] at hk; split at hk <;> cases hk; rename_i c; exact ⟨_, op_shr, _, _, rfl, rfl, c, z⟩
    case FloorDiv => rw [iBin] at hk; split at hk <;> cases hk; rename_i c; exact ⟨_, op_fdiv, _, _, rfl, rfl, c, z⟩
    all_goals cases hk
  have IO : ∀ {op : Operator}, intO op ox oy = some o → wO X (binaryOp op) x y H Q := by
    intro op h
    unfold intO at h
    split at h
    · exact II h r1.i r2.i
    · cases h
  have AL : ∀ {a b : List P}, litems ox = some a → litems oy = some b → addL a b = some o → wO X (binaryOp .Add) x y H Q := by
    intro a b h1 h2 h
    unfold addL at h
    split at h
    · rename_i c
      cases h
      obtain ⟨l, vs, rfl, d1, p1⟩ := r1.lits e h1
      obtain ⟨l', ws, rfl, d2, p2⟩ := r2.lits e h2
      exact ⟨_, op_catR, l, l', vs, ws, rfl, rfl, d1, d2, by rw [p1.len, p2.len, line_eq]; exact c, fun p hp => q.fl e (p1.app p2) p hp⟩
    · cases h
  cases op
  case Add =>
    replace h : addO ox oy = some o := h
    unfold addO at h
    split at h
    · rw [r1.i, r2.i]
      cases h
      exact ⟨_, op_add, _, _, rfl, rfl, q.pl e .int⟩
    · rw [r1.s, r2.s]
      split at h
      · rename_i c
        cases h
        exact ⟨_, op_add_str, _, _, rfl, rfl, by rw [line_eq]; exact c, q.pl e .str⟩
      · cases h
    · split at h
      · rename_i c
        cases h
        obtain ⟨l, vs, rfl, d1, p1⟩ := r1.tits e
        obtain ⟨l', ws, rfl, d2, p2⟩ := r2.tits e
        have p1' := r1.p
        have p2' := r2.p
        refine ⟨_, op_catA, l, l', vs, ws, rfl, rfl, d1, d2, by rw [p1.len, p2.len, line_eq]; exact c, fun z => ?_, fun _ z => ?_, fun _ _ p hp => q.tup e (p1.app p2) p hp⟩
        · subst z
          cases p1
          exact q.pl e p2'
        · subst z
          cases p2
          rw [List.append_nil] at q
          exact q.pl e p1'
      · cases h
    · exact AL rfl rfl h
    · exact AL rfl rfl h
    · exact AL rfl rfl h
    · exact AL rfl rfl h
    · cases h
  case Mult =>
    have ML : ∀ {a : List P} {k : Int}, (∃ l vs, x = .ref l ∧ SL X.K H l vs ∧ RPs X.K B vs a) → y = .int k → mulL a k = some o → (∃ l vs, x = .ref l ∧ H l = some (.lst vs) ∧ RPs X.K B vs a) → wO X (binaryOp .Mult) x y H Q := by
      intro a k _ e2 h h1
      unfold mulL at h
      split at h
      · rename_i c
        cases h
        obtain ⟨l, vs, rfl, d1, p1⟩ := h1
        subst e2
        exact ⟨_, op_rep, l, k, vs, rfl, rfl, d1, c.1, c.2.1, by rw [p1.len, line_eq]; exact c.2.2, fun p hp => q.fl e (p1.rep _) p hp⟩
      · cases h
    replace h : mulO ox oy = some o := h
    unfold mulO at h
    split at h
    · exact II h r1.i r2.i
    · rw [r2.i]
      split at h
      · rename_i c
        cases h
        obtain ⟨l, vs, rfl, d1, p1⟩ := r1.tits e
        refine ⟨_, op_repT, l, _, vs, rfl, rfl, d1, fun z => ?_, c.2.1, c.2.2.1, by rw [p1.len]; exact c.2.2.2, fun p hp => q.tup e (p1.rep _) p hp⟩
        subst z
        cases p1
        exact c.1 rfl
      · cases h
    · cases h
    · refine ML (r1.lits e rfl) r2.i h ?_
      cases r1 with
      | fl h r => exact ⟨_, _, rfl, h, r⟩
    · cases h
  all_goals first
    | exact IO h
    | cases h
theorem neg_ok (e : Ext B H) (r1 : RO X.K B H x ox f) (h : negO ox = some o) {Q : VK} (q : Gv X.K B H o Q) : ∃ r, UnR X (unaryOp .USub) r ∧ r x H Q := by
  unfold negO at h
  split at h
  · cases h
    exact ⟨_, un_neg, _, r1.i, q.pl e .int⟩
  · cases h
end
end G

set_option maxRecDepth 100000
namespace G
open PySem L2
section
variable {K : PySem.W.Frag} {B H B' H' : Hp} {v w x y : V} {f g : List Addr}
/-! flat things -/
theorem RP.flat {p : P} (r : RP K B v p) (h : flatP p = true) : flatV v = true := by
  cases r <;> first | rfl | cases h
theorem RPs.flat {vs : List V} {ps : List P} (r : RPs K B vs ps) (h : ps.all flatP = true) : vs.all flatV = true := by
  induction ps generalizing vs with
  | nil => cases r; rfl
  | cons p ps ih =>
    cases r with
    | cons r1 r2 =>
      rw [List.all_cons, Bool.and_eq_true] at h
      rw [List.all_cons, r1.flat h.1, ih r2 h.2]
      rfl
theorem RP.eqv {p q : P} (r : RP K B v p) (r' : RP K B w q) (h : flatP p = true) (h' : flatP q = true) : eqV v w = PyData.eqv p q := by
  cases r <;> cases r' <;> first | rfl | cases h | cases h'
theorem RPs.inV {p : P} {vs : List V} {ps : List P} (r : RP K B v p) (q : RPs K B vs ps) (h : flatP p = true) (h' : ps.all flatP = true) : inV v vs = memP p ps := by
  induction ps generalizing vs with
  | nil => cases q; rfl
  | cons p' ps ih =>
    cases q with
    | cons r1 r2 =>
      rw [List.all_cons, Bool.and_eq_true] at h'
      show (eqV _ v || L2.inV v _) = (PyData.eqv p' p || memP p ps)
      rw [r1.eqv r h'.1 h, ih r2 h'.2]
theorem RPs.at {vs : List V} {ps : List P} (q : RPs K B vs ps) {i : Int} {p : P} (h : atI ps i = some p) : ∃ v, atI vs i = some v ∧ RP K B v p := by
  unfold atI at h ⊢
  rw [q.len]
  cases e : ixN ps.length i with
  | none => rw [e] at h; cases h
  | some j =>
    rw [e] at h
    exact q.getE h
theorem RPs.cut {vs : List V} {ps : List P} (q : RPs K B vs ps) (lo hi : Option Int) : RPs K B (cutV vs lo hi) (cutP ps lo hi) := by
  unfold cutV cutP
  rw [q.len]
  exact (q.drop _).take _
theorem RPs.ints {vs : List V} {ps : List P} (q : RPs K B vs ps) : ∀ {ns : List Int}, intsP ps = some ns → vs = ns.map V.int := by
  induction ps generalizing vs with
  | nil => intro ns h; cases q; rw [intsP] at h; cases h; rfl
  | cons p ps ih =>
    intro ns h
    cases q with
    | cons r1 r2 =>
      unfold intsP at h
      split at h
      · rename_i e
        cases e
      · rename_i i ps' e
        injection e with e1 e2
        subst e1 e2
        cases z : intsP ps with
        | none => rw [z] at h; cases h
        | some ms =>
          rw [z] at h
          cases h
          cases r1
          rw [ih r2 z]
          rfl
      · cases h
theorem RPs.bools {vs : List V} {ps : List P} (q : RPs K B vs ps) : ∀ {ns : List Bool}, boolsP ps = some ns → vs = ns.map V.bl := by
  induction ps generalizing vs with
  | nil => intro ns h; cases q; rw [boolsP] at h; cases h; rfl
  | cons p ps ih =>
    intro ns h
    cases q with
    | cons r1 r2 =>
      unfold boolsP at h
      split at h
      · rename_i e
        cases e
      · rename_i i ps' e
        injection e with e1 e2
        subst e1 e2
        cases z : boolsP ps with
        | none => rw [z] at h; cases h
        | some ms =>
          rw [z] at h
          cases h
          cases r1
          rw [ih r2 z]
          rfl
      · cases h
/-! dicts -/
theorem keyV {p : P} {k : Key} (r : RP K B v p) (h : keyP p = some k) : v = kV k := by
  cases r with
  | int => rw [keyP] at h; cases h; rfl
  | str => rw [keyP] at h; cases h; rfl
  | _ => rw [keyP] at h <;> cases h
theorem RPd.look {us : List (Key × V)} {kvs : List (P × P)} (r : RPd K B us kvs) (k : Key) : (∀ p, lookP k kvs = some p → ∃ v, valV us k = some v ∧ RP K B v p) ∧ (lookP k kvs = none → valV us k = none) ∧ (valV us k).isSome = kvs.any fun e => decide (keyP e.1 = some k) := by
  induction kvs generalizing us with
  | nil => cases r; exact ⟨fun p h => (by cases h), fun _ => rfl, rfl⟩
  | cons e kvs ih =>
    cases r with
    | @cons k' v us q p _ hk hv r =>
      have i := ih r
      by_cases hkk : k' = k
      · subst hkk
        have e1 : valV ((k', v) :: us) k' = some v := by
          unfold valV
          rw [List.find?_cons_of_pos (by simp)]
          rfl
        refine ⟨fun p' h => ?_, fun h => ?_, ?_⟩
        · rw [lookP, if_pos hk] at h
          cases h
          exact ⟨v, e1, hv⟩
        · rw [lookP, if_pos hk] at h
          cases h
        · rw [e1, List.any_cons, decide_eq_true hk]
          rfl
      · have hk2 : ¬ keyP q = some k := fun z => hkk (by rw [hk] at z; exact Option.some.inj z)
        have e1 : valV ((k', v) :: us) k = valV us k := by
          unfold valV
          rw [List.find?_cons_of_neg (by simpa using hkk)]
        refine ⟨fun p' h => ?_, fun h => ?_, ?_⟩
        · rw [lookP, if_neg hk2] at h
          rw [e1]
          exact i.1 p' h
        · rw [lookP, if_neg hk2] at h
          rw [e1]
          exact i.2.1 h
        · rw [e1, i.2.2, List.any_cons, decide_eq_false hk2, Bool.false_or]
theorem RPd.len {us : List (Key × V)} {kvs : List (P × P)} (r : RPd K B us kvs) : us.length = kvs.length := by
  induction kvs generalizing us with
  | nil => cases r; rfl
  | cons e kvs ih => cases r with | cons _ _ r => rw [List.length_cons, List.length_cons, ih r]
theorem RPd.any {us : List (Key × V)} {kvs : List (P × P)} (r : RPd K B us kvs) (k : Key) : (us.any fun kv => decide (kv.1 = k)) = kvs.any fun e => decide (keyP e.1 = some k) := by
  induction kvs generalizing us with
  | nil => cases r; rfl
  | cons e kvs ih =>
    cases r with
    | @cons k' v us q p _ hk hv r =>
      rw [List.any_cons, List.any_cons, ih r]
      congr 1
      show decide (k' = k) = decide (keyP q = some k)
      rw [hk]
      by_cases z : k' = k
      · rw [decide_eq_true z, decide_eq_true (by rw [z])]
      · rw [decide_eq_false z, decide_eq_false (fun h => z (Option.some.inj h))]
theorem RPd.put {us : List (Key × V)} {kvs : List (P × P)} (r : RPd K B us kvs) {k : Key} {q p : P} (hk : keyP q = some k) (hv : RP K B v p) : RPd K B (putK us k v) (putP k q p kvs) := by
  have mp : ∀ {us : List (Key × V)} {kvs : List (P × P)}, RPd K B us kvs → RPd K B (us.map fun kv => if kv.1 = k then (kv.1, v) else kv) (kvs.map fun e => if keyP e.1 = some k then (e.1, p) else e) := by
    intro us kvs r
    induction kvs generalizing us with
    | nil => cases r; exact .nil
    | cons e kvs ih =>
      cases r with
      | @cons k' v' us q' p' _ hk' hv' r =>
        rw [List.map_cons, List.map_cons]
        by_cases z : k' = k
        · subst z
          rw [if_pos rfl, if_pos hk']
          exact .cons hk' hv (ih r)
        · rw [if_neg z, if_neg (fun h => z (Option.some.inj (hk'.symm.trans h)))]
          exact .cons hk' hv' (ih r)
  have ap : ∀ {us : List (Key × V)} {kvs : List (P × P)}, RPd K B us kvs → RPd K B (us ++ [(k, v)]) (kvs ++ [(q, p)]) := by
    intro us kvs r
    induction kvs generalizing us with
    | nil => cases r; exact .cons hk hv .nil
    | cons e kvs ih => cases r with | cons hk' hv' r => exact .cons hk' hv' (ih r)
  unfold putK putP
  rw [r.any k]
  split
  · exact mp r
  · exact ap r
theorem RO.dits {o : O} {kvs : List (P × P)} (e : Ext B H) (r : RO K B H v o f) (h : ditems o = some kvs) : ∃ a us, v = .ref a ∧ Rd H a (.dK us) ∧ RPd K B us kvs := by
  unfold ditems at h
  split at h
  · cases h
    cases r with
    | pl r => cases r with | dic h r => exact ⟨_, _, rfl, e.rd h, r⟩
  · cases h
    cases r with
    | fd h r => exact ⟨_, _, rfl, .of h, r⟩
  · cases h
/-! kinds -/
def tyN : Ty → String
  | .int => "int"
  | .bool => "bool"
  | .str => "str"
  | .list => "list"
  | .tuple => "tuple"
  | .dict => "dict"
def tyS : Option Ty → String
  | none => "NoneType"
  | some t => tyN t
def tyU (p : P) : String := tyS (tyP p)
theorem RP.ty {p : P} (r : RP K B v p) : TyX K B v (.type (tyU p)) := by
  cases r with
  | non => exact .base .non
  | bl => exact .base (.bl _)
  | int => exact .base (.int _)
  | str => exact .base (.str _)
  | tup h _ =>
    rcases h with (h | ⟨o, h⟩) | ⟨o, _, _, h1, h2, _⟩
    · exact .base (.tup h)
    · exact .fTuple h
    · exact .kTuple h1 h2
  | lst h _ =>
    rcases h with (h | ⟨o, h⟩) | ⟨its, n, h, _⟩
    · exact .base (.lst h)
    · exact .base (.frz h)
    · exact .kList h rfl
  | dic h _ =>
    rcases h with h | ⟨o, h⟩
    · exact .base (.dK h)
    · exact .fDict h
theorem kit_S (u : Option Ty) (t : Ty) : kitB (tyS u) (tyN t) = some (isTy1 u t) := by
  cases u with
  | none => cases t <;> decide +kernel
  | some u => cases u <;> cases t <;> decide +kernel
theorem kit_one (p : P) (t : Ty) : PySem.W.kitOne K (.type (tyU p)) (.type (tyN t)) = some (isTy1 (tyP p) t) := kit_ty (kit_S _ _)
theorem kit_all (p : P) (ts : List Ty) : PySem.W.kitAny K (.type (tyU p)) (ts.map fun t => .type (tyN t)) = some (ts.any (isTy1 (tyP p))) := by
  induction ts with
  | nil => rfl
  | cons t ts ih =>
    rw [List.map_cons, List.any_cons]
    refine kitAny_cons (kit_one p t) (fun h => ?_) (fun h => ?_)
    · rw [h, ih]
      rfl
    · rw [h]
      rfl
end
/-! ### comparisons -/
section
variable {X : Cx} {B H : Hp} {x y : V} {f g : List Addr} {ox oy o : O}
theorem eq_ok (hu : X.A.units + 64 < cLine) (e : Ext B H) (r1 : RO X.K B H x ox f) (r2 : RO X.K B H y oy g) {b : Bool} (h : eqO ox oy = some b) :
    (∃ r, OpR X (compareOp .Eq) r ∧ ∀ R : VK, R (.bl b) H → r x y H R) ∧ ∃ r, OpR X (compareOp .NotEq) r ∧ ∀ R : VK, R (.bl (!b)) H → r x y H R := by
  have D : eqQ (fz ox) (fz oy) = some b → (∃ r, OpR X (compareOp .Eq) r ∧ ∀ R : VK, R (.bl b) H → r x y H R) ∧ ∃ r, OpR X (compareOp .NotEq) r ∧ ∀ R : VK, R (.bl (!b)) H → r x y H R := by
    intro h
    unfold eqQ at h
    split at h
    · rename_i p q hp hq
      unfold eqP at h
      split at h
      · rename_i c
        cases h
        have d1 := (r1.rd e hp).dp (.refl H) (SeqAt.canLay_of_shaped c.1)
        have d2 := (r2.rd e hq).dp (.refl H) (SeqAt.canLay_of_shaped c.2)
        exact ⟨⟨_, op_eqD hu, fun R q => ⟨_, _, d1, d2, c.1, c.2, q⟩⟩, ⟨_, op_neD hu, fun R q => ⟨_, _, d1, d2, c.1, c.2, q⟩⟩⟩
      · cases h
    · cases h
  unfold eqO at h
  split at h
  · rename_i i j
    rw [r1.i, r2.i]
    cases h
    have z : decide (V.int i = V.int j) = decide (i = j) := by simp
    exact ⟨⟨_, op_eq, fun R q => ⟨rfl, by rw [z]; exact q⟩⟩, ⟨_, op_ne, fun R q => ⟨rfl, by rw [z]; exact q⟩⟩⟩
  · rename_i i j
    rw [r1.s, r2.s]
    cases h
    have z : decide (V.str i = V.str j) = decide (i = j) := by simp
    exact ⟨⟨_, op_eq, fun R q => ⟨rfl, by rw [z]; exact q⟩⟩, ⟨_, op_ne, fun R q => ⟨rfl, by rw [z]; exact q⟩⟩⟩
  · exact D h
theorem in_okL (e : Ext B H) (r1 : RO X.K B H x ox f) (r2 : RO X.K B H y oy g) {b : Bool} (hd : (ditems oy).isSome = false) (h : inO ox oy = some b) :
    (∃ r, OpR X (compareOp .In) r ∧ ∀ R : VK, R (.bl b) H → r x y H R) ∧ ∃ r, OpR X (compareOp .NotIn) r ∧ ∀ R : VK, R (.bl (!b)) H → r x y H R := by
  have Q : ∀ {p : P} {xs : List P}, ox = .pl p → seqI oy = some xs → inSq p xs = some b → (∃ r, OpR X (compareOp .In) r ∧ ∀ R : VK, R (.bl b) H → r x y H R) ∧ ∃ r, OpR X (compareOp .NotIn) r ∧ ∀ R : VK, R (.bl (!b)) H → r x y H R := by
    intro p xs e1 e2 hh
    subst e1
    unfold inSq at hh
    split at hh
    · rename_i c
      cases hh
      obtain ⟨a, vs, rfl, s, q⟩ := r2.seqs e e2
      have z := RPs.inV r1.p q c.1 c.2
      refine ⟨⟨_, op_in_seq, fun R k => ⟨a, vs, rfl, s, r1.p.flat c.1, q.flat c.2, ?_⟩⟩, ⟨_, op_notIn_seq, fun R k => ⟨a, vs, rfl, s, r1.p.flat c.1, q.flat c.2, ?_⟩⟩⟩
      · rw [if_neg (by decide), z]
        exact k
      · rw [if_pos rfl, z]
        exact k
    · cases hh
  unfold inO at h
  split at h
  · rw [r1.s, r2.s]
    cases h
    exact ⟨⟨_, op_in_str, fun R q => ⟨_, _, rfl, rfl, q⟩⟩, ⟨_, op_notin_str, fun R q => ⟨_, _, rfl, rfl, q⟩⟩⟩
  · exact Q rfl rfl h
  · exact Q rfl rfl h
  · exact Q rfl rfl h
  · cases hd
  · cases hd
  · cases h
theorem in_okD (e : Ext B H) (r1 : RO X.K B H x ox f) (r2 : RO X.K B H y oy g) {b : Bool} (hd : (ditems oy).isSome = true) (h : inO ox oy = some b) : ∃ a o, y = .ref a ∧ DGet H a x o ∧ o.isSome = b := by
  have D : ∀ {p : P} {kvs : List (P × P)}, ox = .pl p → ditems oy = some kvs → hasK (keyP p) kvs = some b → ∃ a o, y = .ref a ∧ DGet H a x o ∧ o.isSome = b := by
    intro p kvs e1 e2 hh
    subst e1
    cases hk : keyP p with
    | none => rw [hk] at hh; cases hh
    | some k =>
      rw [hk] at hh
      cases hh
      obtain ⟨a, us, rfl, s, q⟩ := r2.dits e e2
      exact ⟨a, valV us k, rfl, .inl ⟨us, k, s, keyV r1.p hk, rfl⟩, (q.look k).2.2⟩
  unfold inO at h
  split at h
  · cases hd
  · cases hd
  · cases hd
  · cases hd
  · exact D rfl rfl h
  · exact D rfl rfl h
  · cases h
theorem is_ok (r1 : RO X.K B H x ox f) (r2 : RO X.K B H y oy g) {b : Bool} (h : isO ox oy = some b) :
    (∃ r, OpR X (compareOp .Is) r ∧ ∀ R : VK, R (.bl b) H → r x y H R) ∧ ∃ r, OpR X (compareOp .IsNot) r ∧ ∀ R : VK, R (.bl (!b)) H → r x y H R := by
  unfold isO at h
  split at h
  · cases h
    have z : decide (x = .non) = isNo ox := by
      cases r1 with
      | pl r => cases r <;> rfl
      | _ => rfl
    have e2 := r2.n
    exact ⟨⟨_, op_isN, fun R q => ⟨e2, by rw [z]; exact q⟩⟩, ⟨_, op_notN, fun R q => ⟨e2, by rw [z]; exact q⟩⟩⟩
  · cases h
def isD (op : CmpOp) (oy : O) : Bool := (decide (op = .In) || decide (op = .NotIn)) && (ditems oy).isSome
theorem neg_some {z : Option Bool} {b : Bool} (h : neg z = some b) : ∃ c, z = some c ∧ b = !c := by
  cases z with
  | none => cases h
  | some c => cases h; exact ⟨c, rfl, rfl⟩
theorem cmp_okL (hu : X.A.units + 64 < cLine) {op : CmpOp} (e : Ext B H) (r1 : RO X.K B H x ox f) (r2 : RO X.K B H y oy g) {b : Bool} (h : cmpO op ox oy = some b) (hd : isD op oy = false) {R : VK} (q : R (.bl b) H) : wO X (compareOp op) x y H R := by
  have I : ∀ {fn : Int → Int → Bool}, cmpI fn ox oy = some b → ∃ i j, x = .int i ∧ y = .int j ∧ b = fn i j := by
    intro fn h
    unfold cmpI at h
    split at h
    · cases h
      exact ⟨_, _, r1.i, r2.i, rfl⟩
    · cases h
  have L : ∀ {op : CmpOp} {b : Bool}, (∃ r, OpR X (compareOp op) r ∧ ∀ R : VK, R (.bl b) H → r x y H R) → R (.bl b) H → wO X (compareOp op) x y H R := fun ⟨r, h1, h2⟩ q => ⟨r, h1, h2 R q⟩
  cases op
  case Eq => exact L (eq_ok hu e r1 r2 h).1 q
  case NotEq =>
    obtain ⟨c, h', rfl⟩ := neg_some h
    exact L (eq_ok hu e r1 r2 h').2 q
  case Lt =>
    obtain ⟨i, j, rfl, rfl, rfl⟩ := I h
    exact ⟨_, op_lt, i, j, rfl, rfl, q⟩
  case LtE =>
    obtain ⟨i, j, rfl, rfl, rfl⟩ := I h
    exact ⟨_, op_le, i, j, rfl, rfl, q⟩
  case Gt =>
    obtain ⟨i, j, rfl, rfl, rfl⟩ := I h
    exact ⟨_, op_gt, i, j, rfl, rfl, q⟩
  case GtE =>
    obtain ⟨i, j, rfl, rfl, rfl⟩ := I h
    exact ⟨_, op_ge, i, j, rfl, rfl, q⟩
  case Is => exact L (is_ok r1 r2 h).1 q
  case IsNot =>
    obtain ⟨c, h', rfl⟩ := neg_some h
    exact L (is_ok r1 r2 h').2 q
  case In => exact L (in_okL e r1 r2 hd h).1 q
  case NotIn =>
    obtain ⟨c, h', rfl⟩ := neg_some h
    exact L (in_okL e r1 r2 hd h').2 q
theorem cmp_okD {op : CmpOp} (e : Ext B H) (r1 : RO X.K B H x ox f) (r2 : RO X.K B H y oy g) {b : Bool} (h : cmpO op ox oy = some b) (hd : isD op oy = true) :
    (op = .In ∧ ∃ a o, y = .ref a ∧ DGet H a x o ∧ o.isSome = b) ∨ (op = .NotIn ∧ ∃ a o, y = .ref a ∧ DGet H a x o ∧ (!o.isSome) = b) := by
  unfold isD at hd
  rw [Bool.and_eq_true, Bool.or_eq_true, decide_eq_true_eq, decide_eq_true_eq] at hd
  rcases hd with ⟨rfl | rfl, hd⟩
  · exact .inl ⟨rfl, in_okD e r1 r2 hd h⟩
  · obtain ⟨c, h', rfl⟩ := neg_some h
    obtain ⟨a, o, e1, e2, e3⟩ := in_okD e r1 r2 hd h'
    exact .inr ⟨rfl, a, o, e1, e2, by rw [e3]⟩
/-! ### subscripts -/
theorem idx_okL (e : Ext B H) (r1 : RO X.K B H x ox f) (r2 : RO X.K B H y oy g) (hd : (ditems ox).isSome = false) (h : idxO ox oy = some o) {Q : VK} (q : Gv X.K B H o Q) : ∃ r, IxR X r ∧ r x y H Q := by
  have S : ∀ {xs : List P} {i : Int}, seqI ox = some xs → y = .int i → toP (atI xs i) = some o → ∃ r, IxR X r ∧ r x y H Q := by
    intro xs i h1 h2 h
    subst h2
    cases z : atI xs i with
    | none => rw [z] at h; cases h
    | some p =>
      rw [z] at h
      cases h
      obtain ⟨a, vs, rfl, s, r⟩ := r1.seqs e h1
      obtain ⟨v, e1, e2⟩ := r.at z
      rcases s with s | s
      · exact ⟨_, ix_list, a, vs, i, v, rfl, rfl, s, e1, q.pl e e2⟩
      · exact ⟨_, ix_tup, a, vs, i, v, rfl, rfl, s, e1, q.pl e e2⟩
  unfold idxO at h
  split at h
  · rename_i s i
    unfold idxS at h
    split at h
    · rename_i c
      cases z : atI s.cps.toList i with
      | none => rw [z] at h; cases h
      | some n =>
        rw [z] at h
        cases h
        exact ⟨_, ix_str, s, i, n, r1.s, r2.i, by rw [line_eq]; exact c, z, q.pl e .str⟩
    · cases h
  · exact S rfl r2.i h
  · exact S rfl r2.i h
  · exact S rfl r2.i h
  · cases hd
  · cases hd
  · cases hd
  · cases hd
  · cases h
theorem idx_okD (e : Ext B H) (r1 : RO X.K B H x ox f) (r2 : RO X.K B H y oy g) (hd : (ditems ox).isSome = true) (h : idxO ox oy = some o) {Q : VK} (q : Gv X.K B H o Q) : ∃ a v, x = .ref a ∧ DGet H a y (some v) ∧ Q v H := by
  have D : ∀ {kvs : List (P × P)} {k : Key}, ditems ox = some kvs → y = kV k → toP (lookP k kvs) = some o → ∃ a v, x = .ref a ∧ DGet H a y (some v) ∧ Q v H := by
    intro kvs k h1 h2 h
    subst h2
    cases z : lookP k kvs with
    | none => rw [z] at h; cases h
    | some p =>
      rw [z] at h
      cases h
      obtain ⟨a, us, rfl, s, r⟩ := r1.dits e h1
      obtain ⟨v, e1, e2⟩ := (r.look k).1 p z
      exact ⟨a, v, rfl, .inl ⟨us, k, s, rfl, e1.symm⟩, q.pl e e2⟩
  unfold idxO at h
  split at h
  · cases hd
  · cases hd
  · cases hd
  · cases hd
  · exact D rfl (k := .inl _) r2.i h
  · exact D rfl (k := .inl _) r2.i h
  · exact D rfl (k := .inr _) r2.s h
  · exact D rfl (k := .inr _) r2.s h
  · cases h
theorem slc_ok {lo hi : Option Int} (e : Ext B H) (r1 : RO X.K B H x ox f) (h : slcO ox lo hi = some o) {Q : VK} (q : Gv X.K B H o Q) : ∃ r, SlR X r ∧ r x lo hi H Q := by
  have L : ∀ {xs : List P}, litems ox = some xs → o = .fl (cutP xs lo hi) → ∃ r, SlR X r ∧ r x lo hi H Q := by
    intro xs h1 h2
    subst h2
    obtain ⟨a, vs, rfl, s, r⟩ := r1.lits e h1
    exact ⟨_, sl_list, a, vs, rfl, s.sq, fun p hp => q.fl e (r.cut lo hi) p hp⟩
  unfold slcO at h
  split at h
  · split at h
    · rename_i c
      cases h
      exact ⟨_, sl_str, _, r1.s, by rw [line_eq]; exact c, q.pl e .str⟩
    · cases h
  · rename_i xs
    cases h
    obtain ⟨a, vs, rfl, s, r⟩ := r1.tits e
    have r1' := r1.p
    refine ⟨_, sl_tupA, a, vs, rfl, s, fun z => ?_, fun _ p hp => q.tup e (r.cut lo hi) p hp⟩
    rw [r.len] at z
    have : cutP xs lo hi = xs := by
      unfold cutP
      rw [z.1, z.2, Nat.sub_zero, List.drop_zero, List.take_length]
    rw [this] at q
    exact q.pl e r1'
  · cases h
    exact L rfl rfl
  · cases h
    exact L rfl rfl
  · cases h
end
end G

set_option maxRecDepth 100000
namespace G
open PySem L2
def biV : BI → Value
  | .len => .builtin "len"
  | .abs => .builtin "abs"
  | .int => .type "int"
  | .str => .type "str"
  | .list => .type "list"
  | .tuple => .type "tuple"
  | .max => .builtin "max"
  | .min => .builtin "min"
  | .sum => .builtin "sum"
  | .all => .builtin "all"
  | .any => .builtin "any"
  | .sorted => .builtin "sorted"
section
variable {K : PySem.W.Frag} {B H : Hp} {v : V} {f : List Addr}
theorem ROs.one {vs : List V} {o : O} (r : ROs K B H vs [o] f) : ∃ v g, vs = [v] ∧ RO K B H v o g := by
  cases r with
  | cons h r => cases r; exact ⟨_, _, rfl, h⟩
theorem ROs.two {vs : List V} {o o' : O} (r : ROs K B H vs [o, o'] f) : ∃ v w g g', vs = [v, w] ∧ RO K B H v o g ∧ RO K B H w o' g' := by
  cases r with
  | cons h r =>
    obtain ⟨w, g', rfl, h'⟩ := r.one
    exact ⟨_, _, _, _, rfl, h, h'⟩
theorem ROs.len {vs : List V} {os : List O} (r : ROs K B H vs os f) : vs.length = os.length := by
  induction os generalizing vs f with
  | nil => cases r; rfl
  | cons p ps ih => cases r with | cons h r => rw [List.length_cons, List.length_cons, ih r]
theorem ROd.len {vs : List (Key × V)} {os : List (P × O)} (r : ROd K B H vs os f) : vs.length = os.length := by
  induction os generalizing vs f with
  | nil => cases r; rfl
  | cons p ps ih => cases r with | cons _ h r => rw [List.length_cons, List.length_cons, ih r]
end
section
variable {X : Cx} {B H : Hp} {vs : List V} {f : List Addr} {os : List O} {o : O}
theorem call_lenR : CallR X (.builtin "len") (fun xs H Q => ∃ a us, xs = [V.ref a] ∧ Rd H a (.dK us) ∧ Q (.int us.length) H) := fun pins s σ H xs ws Q I r h => by
  obtain ⟨a, us, e1, e2, q⟩ := h
  subst e1
  obtain ⟨w, e3, r2⟩ := vals1 r
  subst e3
  cases r2
  exact d_len I e2 fun t _ I2 => ⟨.int (us.length : Int), H, I2, ⟨t, rfl⟩, q⟩
theorem len_ok {x : V} {ox : O} {g : List Addr} {n : Nat} (e : Ext B H) (r : RO X.K B H x ox g) (h : lenO ox = some n) {Q : VK} (q : Q (.int (n : Int)) H) : wC X (.builtin "len") [x] H Q := by
  have S : ∀ {xs : List P}, seqI ox = some xs → n = xs.length → wC X (.builtin "len") [x] H Q := by
    intro xs h1 h2
    obtain ⟨a, vs, rfl, s, r'⟩ := r.seqs e h1
    exact ⟨_, call_len_seq, a, vs, rfl, s, by rw [r'.len, ← h2]; exact q⟩
  have D : ∀ {xs : List (P × P)}, ditems ox = some xs → n = xs.length → wC X (.builtin "len") [x] H Q := by
    intro xs h1 h2
    obtain ⟨a, us, rfl, s, r'⟩ := r.dits e h1
    exact ⟨_, call_lenR, a, us, rfl, s, by rw [r'.len, ← h2]; exact q⟩
  unfold lenO at h
  split at h
  · split at h
    · rename_i c
      cases h
      exact ⟨_, call_len_str, _, by rw [r.s], by rw [line_eq]; exact c, q⟩
    · cases h
  · cases h; exact S rfl rfl
  · cases h; exact S rfl rfl
  · cases h; exact S rfl rfl
  · cases h; exact D rfl rfl
  · cases h; exact D rfl rfl
  · cases h
    cases r with
    | lst h1 h2 => exact ⟨_, call_len_seq, _, _, rfl, .inl (.of h1), by rw [h2.len]; exact q⟩
  · cases h
    cases r with
    | dic h1 h2 => exact ⟨_, call_lenD, _, _, rfl, h1, by rw [h2.len]; exact q⟩
  · cases h
    cases r with
    | tup h1 h2 => exact ⟨_, call_len_seq, _, _, rfl, .inr (.of (e _ _ h1)), by rw [h2.len]; exact q⟩
  · cases h
theorem bi_ok (hc : X.calm = true) {b : BI} (e : Ext B H) (r : ROs X.K B H vs os f) (h : biO b os = some o) {Q : VK} (q : Gv X.K B H o Q) : wC X (biV b) vs H Q := by
  unfold biO at h
  split at h
  · obtain ⟨v, g, rfl, r1⟩ := r.one
    cases z : lenO _ with
    | none => rw [z] at h; cases h
    | some n =>
      rw [z] at h
      cases h
      exact len_ok e r1 z (q.pl e .int)
  · obtain ⟨v, g, rfl, r1⟩ := r.one
    cases h
    exact ⟨_, call_abs, _, by rw [r1.i], q.pl e .int⟩
  · obtain ⟨v, g, rfl, r1⟩ := r.one
    cases h
    exact ⟨_, call_int1, .inl ⟨_, by rw [r1.i], q.pl e .int⟩⟩
  · obtain ⟨v, g, rfl, r1⟩ := r.one
    cases h
    exact ⟨_, call_int1, .inr ⟨_, by rw [r1.b], q.pl e .int⟩⟩
  · obtain ⟨v, g, rfl, r1⟩ := r.one
    split at h
    · rename_i c
      cases h
      exact ⟨_, call_str_int, _, by rw [r1.i], c, q.pl e .str⟩
    · cases h
  · obtain ⟨v, g, rfl, r1⟩ := r.one
    cases z : seqI _ with
    | none => rw [z] at h; cases h
    | some ps =>
      rw [z] at h
      cases h
      obtain ⟨a, ws, rfl, s, r2⟩ := r1.seqs e z
      exact ⟨_, call_list_of, a, ws, rfl, s, fun l hl => q.fl e r2 l hl⟩
  · obtain ⟨v, g, rfl, r1⟩ := r.one
    cases z : seqI _ with
    | none => rw [z] at h; cases h
    | some ps =>
      rw [z] at h
      cases h
      have LL : ∀ {ox : O}, RO X.K B H v ox g → litems ox = some ps → wC X (biV .tuple) [v] H Q := fun r1 z => by
        obtain ⟨a, ws, rfl, s, r2⟩ := r1.lits e z
        exact ⟨_, call_tuple_of, a, ws, rfl, .inl ⟨s.sq, fun l hl => q.tup e r2 l hl⟩⟩
      unfold seqI at z
      split at z
      · cases z
        exact LL r1 rfl
      · cases z
        exact LL r1 rfl
      · cases z
        have r1' := r1.p
        obtain ⟨a, ws, rfl, s, r2⟩ := r1.tits e
        exact ⟨_, call_tuple_of, a, ws, rfl, .inr ⟨s, q.pl e r1'⟩⟩
      · cases z
  · obtain ⟨v, w, g, g', rfl, r1, r2⟩ := r.two
    cases h
    exact ⟨_, call_max2 hc, _, _, by rw [r1.i, r2.i], q.pl e .int⟩
  · obtain ⟨v, w, g, g', rfl, r1, r2⟩ := r.two
    cases h
    exact ⟨_, call_min2 hc, _, _, by rw [r1.i, r2.i], q.pl e .int⟩
  · obtain ⟨v, g, rfl, r1⟩ := r.one
    cases z : litems _ with
    | none => rw [z] at h; cases h
    | some ps =>
      rw [z] at h
      replace h : sumL (intsP ps) = some o := h
      cases z2 : intsP ps with
      | none => rw [z2] at h; cases h
      | some ns =>
        rw [z2] at h
        cases h
        obtain ⟨a, ws, rfl, s, r2⟩ := r1.lits e z
        rw [r2.ints z2] at s
        exact ⟨_, cr_sum hc, a, ns, rfl, s.sq, q.pl e .int⟩
  · obtain ⟨v, g, rfl, r1⟩ := r.one
    cases z : litems _ with
    | none => rw [z] at h; cases h
    | some ps =>
      rw [z] at h
      replace h : allL (boolsP ps) = some o := h
      cases z2 : boolsP ps with
      | none => rw [z2] at h; cases h
      | some ns =>
        rw [z2] at h
        cases h
        obtain ⟨a, ws, rfl, s, r2⟩ := r1.lits e z
        rw [r2.bools z2] at s
        exact ⟨_, cr_all hc, a, ns, rfl, s.sq, q.pl e .bl⟩
  · obtain ⟨v, g, rfl, r1⟩ := r.one
    cases z : litems _ with
    | none => rw [z] at h; cases h
    | some ps =>
      rw [z] at h
      replace h : anyL (boolsP ps) = some o := h
      cases z2 : boolsP ps with
      | none => rw [z2] at h; cases h
      | some ns =>
        rw [z2] at h
        cases h
        obtain ⟨a, ws, rfl, s, r2⟩ := r1.lits e z
        rw [r2.bools z2] at s
        exact ⟨_, cr_any hc, a, ns, rfl, s.sq, q.pl e .bl⟩
  · cases h
end
end G

set_option maxRecDepth 100000
namespace G
open PySem L2
/-! ### the mini-syntax against the given one -/
structure Tb where
  fn : Nat → Option Str
  gn : Nat → Option Str
def visB (sc : Scope) (x : Str) : Bool := match sc.names.lookup x with
  | some .local => true
  | some .cell => true
  | some .free => true
  | _ => false
def glB (sc : Scope) (x : Str) : Bool := match sc.names.lookup x with
  | some .globalImplicit => true
  | _ => false
def locB (sc : Scope) (x : Str) : Bool := match sc.names.lookup x with
  | some .local => true
  | some .cell => true
  | _ => false
def nameB (N : List Str) (sc : Scope) (i : Nat) (x : Str) : Bool := decide (N[i]? = some x) && visB sc x && !(x == ("__debug__" : Str)) && !(x == ("__classdict__" : Str))
def gnB (sc : Scope) (n : Option Str) (x : Str) : Bool := decide (n = some x) && glB sc x && !(x == ("__debug__" : Str))
def litB : P → Const → Bool
  | .none, .none => true
  | .bool b, .bool c => b == c
  | .int i, .int j => decide (i = j)
  | .str s, .str t => decide (s = t)
  | _, _ => false
def nst : Expr → Bool
  | .Starred .. => false
  | _ => true
def baseB : Expr → Bool
  | .Call (.Name id _) [] [] _ => !(id == ("super" : Str))
  | _ => true
def biN : BI → Str
  | .len => "len"
  | .abs => "abs"
  | .int => "int"
  | .str => "str"
  | .list => "list"
  | .tuple => "tuple"
  | .max => "max"
  | .min => "min"
  | .sum => "sum"
  | .all => "all"
  | .any => "any"
  | .sorted => "sorted"
def miN : MI → Str
  | .get => "get"
  | .join => "join"
  | .split => "split"
  | .index => "index"
  | .find => "find"
  | .partition => "partition"
  | .startswith => "startswith"
  | .endswith => "endswith"
  | .count => "count"
  | .strip => "strip"
  | .lstrip => "lstrip"
  | .replace => "replace"
def tyE (sc : Scope) (t : Ty) : Expr → Bool
  | .Name x _ => gnB sc (some (Str.ofString (tyN t))) x
  | _ => false
def tysE (sc : Scope) : List Ty → List Expr → Bool
  | [], [] => true
  | t :: ts, e :: es => tyE sc t e && tysE sc ts es
  | _, _ => false
def tyArg (sc : Scope) : List Ty → Expr → Bool
  | ts, .Tuple es _ _ => tysE sc ts es
  | [t], e => tyE sc t e
  | _, _ => false
def tgE (sc so : Scope) (N : List Str) (i : Nat) : Expr → Bool
  | .Name x _ => decide (N[i]? = some x) && locB sc x && locB so x
  | _ => false
def tgEs (sc so : Scope) (N : List Str) : List Nat → List Expr → Bool
  | [], [] => true
  | t :: ts, e :: es => tgE sc so N t e && tgEs sc so N ts es
  | _, _ => false
def chkTg (sc so : Scope) (N : List Str) : Tg → Expr → Bool
  | .nm i, e => tgE sc so N i e
  | .tp is, .Tuple es _ _ => tgEs sc so N is es
  | _, _ => false
def tgIs : Tg → List Nat
  | .nm i => [i]
  | .tp is => is
def ownOf (N : List Str) : List Nat → Option (List (Str × Nat))
  | [] => some []
  | i :: is => match N[i]?, ownOf N is with
    | some x, some r => some ((x, i) :: r)
    | _, _ => none
def ownB (N : List Str) (sc scope : Scope) (own : List Nat) : Bool := match ownOf N own with
  | some r => blkC N sc scope r
  | none => false
def setB : Expr → Bool
  | .Set .. => false
  | _ => true
def noIn : CmpOp → Bool
  | .In => false
  | .NotIn => false
  | _ => true
variable (T : Tb) (N : List Str)
mutual
def chk (sc : Scope) : Ex → Expr → Bool
  | .var i, .Name x _ => nameB N sc i x
  | .lit p, .Constant c _ _ => litB p c
  | .glob g, .Name x _ => gnB sc (T.gn g) x
  | .bin op a b, .BinOp l o r _ => decide (op = o) && chk sc a l && chk sc b r
  | .neg a, .UnaryOp .USub e _ => chk sc a e
  | .not a, .UnaryOp .Not e _ => chk sc a e
  | .and a b, .BoolOp .And (x :: y :: r) p => chk sc a x && (match r with
    | [] => chk sc b y
    | z :: r => chk sc b (.BoolOp .And (y :: z :: r) p))
  | .or a b, .BoolOp .Or (x :: y :: r) p => chk sc a x && (match r with
    | [] => chk sc b y
    | z :: r => chk sc b (.BoolOp .Or (y :: z :: r) p))
  | .cmp op a b, .Compare l [o] [r] _ => decide (op = o) && chk sc a l && chk sc b r
  | .chain o1 o2 a b d, .Compare l [p1, p2] [m, r] _ => noIn o1 && noIn o2 && decide (o1 = p1) && decide (o2 = p2) && chk sc a l && chk sc b m && chk sc d r
  | .ife t a b, .IfExp u l r _ => chk sc t u && chk sc a l && chk sc b r
  | .lst es, .List l _ => chks sc es l
  | .tup es, .Tuple l _ _ => chks sc es l
  | .dct .nil .nil, .Dict [] [] _ => true
  | .slc a lo hi, .Subscript v (.Slice l h none _) _ => chk sc a v && chkX sc lo l && chkX sc hi h
  | .idx a i, .Subscript v s _ => chk sc a v && chk sc i s
  | .call f .nil, .Call (.Name x _) [] [] _ => gnB sc (T.fn f) x
  | .call f es, .Call (.Name x _) (e :: l) [] _ => gnB sc (T.fn f) x && chks sc es (e :: l)
  | .bi b es, .Call (.Name x _) (e :: l) [] _ => gnB sc (some (biN b)) x && chks sc es (e :: l)
  | .isi a ts, .Call (.Name x _) [e, t] [] _ => decide (ts.length ≤ 1000) && gnB sc (some "isinstance") x && chk sc a e && tyArg sc ts t
  | .meth .get a (.cons e1 (.cons e2 .nil)), .Call (.Attribute v m ap) [f1, f2] [] cp => decide (m = miN .get) && baseB v && (ap.endLine == cp.line) && chk sc a v && chk sc e1 f1 && chk sc e2 f2
  | .lc own tg it cond e, .ListComp el [⟨t, i, ifs, 0⟩] scope _ => ownB N sc scope own && decide (own = tgIs tg) && chkTg (relS scope sc) scope N tg t && chkI sc it t i && (match cond, ifs with
    | .none, [] => true
    | .some d, [f] => chk (relS scope sc) d f
    | _, _ => false) && chk (relS scope sc) e el
  | _, _ => false
def chks (sc : Scope) : Exs → List Expr → Bool
  | .nil, [] => true
  | .cons e es, x :: xs => chk sc e x && chks sc es xs
  | _, _ => false
def chkX (sc : Scope) : Ox → Option Expr → Bool
  | .none, none => true
  | .some e, some x => chk sc e x
  | _, _ => false
def chkI (sc : Scope) : It → Expr → Expr → Bool
  | .seq e, _, x => chk sc e x
  | .range1 a, _, .Call (.Name x _) [e] [] _ => gnB sc (some "range") x && chk sc a e
  | .range2 a b, _, .Call (.Name x _) [e, f] [] _ => gnB sc (some "range") x && chk sc a e && chk sc b f
  | .enum a, .Tuple _ _ _, .Call (.Name x _) [e] [] _ => gnB sc (some "enumerate") x && chk sc a e
  | .zip a b, .Tuple _ _ _, .Call (.Name x _) [e, f] [] _ => gnB sc (some "zip") x && chk sc a e && chk sc b f
  | .rev a, _, .Call (.Name x _) [e] [] _ => gnB sc (some "reversed") x && chk sc a e
  | _, _, _ => false
end
end G

set_option maxRecDepth 100000
namespace G
open PySem L2
/-! ### facts of the syntax -/
section
variable {env : PySem.Env}
theorem star_cons {e : Expr} {es : List Expr} (h : nst e = true) : starEach (e :: es) env = (false, eval e env) :: starEach es env := by
  cases e <;> first | rfl | cases h
theorem star_any {es : List Expr} {pos : Pos} (h : es.all nst = true) : (backTo pos (starEach es env)).any (·.1) = false := by
  induction es with
  | nil => rfl
  | cons e es ih =>
    rw [List.all_cons, Bool.and_eq_true] at h
    rw [star_cons h.1]
    show (false || (backTo pos (starEach es env)).any (·.1)) = false
    rw [ih h.2]
    rfl
theorem base_ok {e : Expr} {m : Str} {w : Sem Value} (h : baseB e = true) : attributeBase e m env w = w := by
  cases e
  case Call f args kws pos =>
    cases f
    case Name id p =>
      cases args with
      | nil =>
        cases kws with
        | nil =>
          have h' : (id != ("super" : Str)) = true := h
          unfold attributeBase
          simp only [h', Bool.true_or]
          rfl
        | cons => rfl
      | cons => rfl
    all_goals rfl
  all_goals rfl
end
variable {T : Tb} {N : List Str}
theorem chk_nst {sc : Scope} {e : Ex} {x : Expr} (h : chk T N sc e x = true) : nst x = true := by
  unfold chk at h
  split at h <;> first | rfl | cases h
theorem chk_set {sc : Scope} {e : Ex} {x : Expr} (h : chk T N sc e x = true) : setB x = true := by
  unfold chk at h
  split at h <;> first | rfl | cases h
theorem chks_nst {sc : Scope} {es : Exs} : ∀ {xs : List Expr}, chks T N sc es xs = true → xs.all nst = true := by
  intro xs
  induction xs generalizing es with
  | nil => intro _; rfl
  | cons x xs ih =>
    intro h
    cases es with
    | nil => unfold chks at h; cases h
    | cons e es =>
      unfold chks at h
      rw [Bool.and_eq_true] at h
      rw [List.all_cons, chk_nst h.1, ih h.2]
      rfl
theorem behind_ok {op : CmpOp} {x : Expr} (h : setB x = true) : behindInMarks op x = false := by
  cases x <;> first | rfl | cases h
theorem folded_ok {x : Expr} {env : PySem.Env} (h : setB x = true) : ∀ v, foldedSetIterable x env v = pure v := by
  cases x <;> first | (intro _; rfl) | cases h
theorem plainIx_ok {sc : Scope} {e : Ex} {x : Expr} (h : chk T N sc e x = true) : ∀ o i, subscripted x false o i = operate [o, i] (getItem o i) := by
  unfold chk at h
  split at h <;> first | (intro _ _; rfl) | cases h

/-! ### what stands around -/
/-- the promise of a def whose worth is F, of shared things -/
def spO (K : PySem.W.Frag) (F : List O → Option (O × List O)) : Sp := fun vs H Q _ => ∃ B ps r, Ext B H ∧ RPs K B vs ps ∧ F (ps.map .pl) = some r ∧ Gv K B H r.1 Q
structure XOk (T : Tb) (c : Ct) (N : List Str) (sc so : Scope) (k : Nat) (X : Cx) : Prop where
  n : X.N = N
  sc : X.env.scope = sc
  nd : N.Nodup
  calm : X.calm = true
  fn : ∀ x, locB so x = true → X.fn x = true ∨ X.env.scope.names.lookup x = some .local
  room : Room k X.A
  fns : ∀ f x, T.fn f = some x → ∃ a fd ps, X.mg x = some (.ref a) ∧ PySem.W.keepIn X.K (.ref a) = true ∧ Binds X.K fd ps [] ∧ FnOk X.prog X.w X.K X.mg X.base CX0 k a fd ps (spO X.K (c.call f))
  gls : ∀ g x p, T.gn g = some x → c.gl g = some p → ∃ u v, X.mg x = some u ∧ RelV v u ∧ ∀ B, RP X.K B v p
  blt : ∀ b, X.mg (biN b) = none
  isi : X.mg "isinstance" = none
  rng : X.mg "range" = none
  enu : X.mg "enumerate" = none
  zip : X.mg "zip" = none
  rev : X.mg "reversed" = none
  ty : ∀ t, X.mg (Str.ofString (tyN t)) = none
  pss : PassesOwn (model X.prog X.w) X.A X.env X.xe
theorem gn_ok {sc : Scope} {n : Option Str} {x : Str} (h : gnB sc n x = true) : n = some x ∧ sc.names.lookup x = some .globalImplicit ∧ (x == ("__debug__" : Str)) = false := by
  unfold gnB at h
  rw [Bool.and_eq_true, Bool.and_eq_true, decide_eq_true_eq] at h
  obtain ⟨⟨h1, h2⟩, h3⟩ := h
  refine ⟨h1, ?_, by simpa using h3⟩
  unfold glB at h2
  split at h2
  · assumption
  · cases h2
theorem vis_ok {sc : Scope} {x : Str} (h : visB sc x = true) : Vis sc x := by
  unfold visB at h
  split at h
  · exact .inl (by assumption)
  · exact .inr (.inl (by assumption))
  · exact .inr (.inr (by assumption))
  · cases h
theorem loc_ok {sc : Scope} {x : Str} (h : locB sc x = true) : Loc sc x := by
  unfold locB at h
  split at h
  · exact .inl (by assumption)
  · exact .inr (by assumption)
  · cases h
end G

set_option maxRecDepth 100000
namespace G
open PySem L2
/-- what is wanted of a value that is only read -/
def Gw (K : PySem.W.Frag) (B H : Hp) (o : O) (Q : VK) : Prop := ∀ v B' H' f, Stp B H B' H' → RO K B' H' v o f → Q v H'
def Snd (X : Cx) (env : Env) (ex : Expr) (o : O) : Prop := ∀ ⦃B H : Hp⦄ ⦃σ : L2.St⦄ ⦃fp : List Addr⦄ ⦃Q : VK⦄, Wld B H fp → REnv X.K B H σ env fp → Gv X.K B H o Q → wE X ex σ H Q
def SndO (X : Cx) (env : Env) (ex : Expr) (o : O) : Prop := ∀ ⦃B H : Hp⦄ ⦃σ : L2.St⦄ ⦃fp : List Addr⦄ ⦃Q : VK⦄, Wld B H fp → REnv X.K B H σ env fp → Gw X.K B H o Q → wE X ex σ H Q
def SndT (X : Cx) (env : Env) (ex : Expr) (b : Bool) : Prop := ∀ ⦃B H : Hp⦄ ⦃σ : L2.St⦄ ⦃fp : List Addr⦄ ⦃Q : Bool → Hp → Prop⦄, Wld B H fp → REnv X.K B H σ env fp → (∀ B' H', Stp B H B' H' → Q b H') → wT X ex σ H Q
def SndRs (X : Cx) (env : Env) (es : List Expr) (os : List O) : Prop := ∀ ⦃B H : Hp⦄ ⦃σ : L2.St⦄ ⦃fp : List Addr⦄ ⦃Q : List V → Hp → Prop⦄, Wld B H fp → REnv X.K B H σ env fp →
  (∀ vs B' H' f, Stp B H B' H' → ROs X.K B' H' vs os f → Frs H B' f → Q vs H') → wA X es σ H Q
def SndVs (X : Cx) (env : Env) (es : List Expr) (os : List O) : Prop := ∀ ⦃B H : Hp⦄ ⦃σ : L2.St⦄ ⦃fp : List Addr⦄ ⦃Q : List V → Hp → Prop⦄, Wld B H fp → REnv X.K B H σ env fp →
  (∀ vs B' H' f, Stp B H B' H' → ROs X.K B' H' vs os f → Q vs H') → wA X es σ H Q
def SndLs (X : Cx) (env : Env) (es : List Expr) (ps : List P × Bool) : Prop := ∀ ⦃B H : Hp⦄ ⦃σ : L2.St⦄ ⦃fp : List Addr⦄ ⦃Q : List V → Hp → Prop⦄, Wld B H fp → REnv X.K B H σ env fp →
  (∀ vs B' H', Stp B H B' H' → (ps.2 = false → RPs X.K B' vs ps.1) → RPs X.K H' vs ps.1 → Q vs H') → wA X es σ H Q
section
variable {X : Cx} {env : Env} {B H B1 H1 : Hp}
theorem Gv.stp {K : PySem.W.Frag} {o : O} {Q : VK} (q : Gv K B H o Q) (s : Stp B H B1 H1) : Gv K B1 H1 o Q := fun v B' H' f s' r n => q v B' H' f (s.trans s') r (n.back s.h)
theorem Gw.stp {K : PySem.W.Frag} {o : O} {Q : VK} (q : Gw K B H o Q) (s : Stp B H B1 H1) : Gw K B1 H1 o Q := fun v B' H' f s' r => q v B' H' f (s.trans s') r
theorem Snd.o {ex : Expr} {o : O} (h : Snd X env ex o) : SndO X env ex o := fun _ _ _ _ _ w r q => h w r fun v B' H' f s ro _ => q v B' H' f s ro
section
variable {l r m : Expr} {ox oy oz o : O} {pos : Pos}
theorem snd_bin {op : Operator} (h1 : SndO X env l ox) (h2 : SndO X env r oy) (h : binO op ox oy = some o) : Snd X env (.BinOp l op r pos) o := fun _ _ _ _ _ w re q =>
  ⟨_, pe_op wO_ok wE_ok wE_ok, h1 w re fun v1 B1 H1 f1 s1 r1 => h2 (w.stp s1 re.has) (re.stp s1) fun v2 B2 H2 f2 s2 r2 => bin_ok s2.bh (r1.stp s2) r2 h (q.stp (s1.trans s2))⟩
def wU (X : Cx) (f : Value → Sem Value) : V → Hp → VK → Prop := fun x H Q => ∃ r, UnR X f r ∧ r x H Q
theorem wU_ok {f : Value → Sem Value} : UnR X f (wU X f) := fun pins s σ H x v Q I r1 ⟨_, h, q⟩ => h pins s σ H x v Q I r1 q
theorem snd_neg (h1 : SndO X env l ox) (h : negO ox = some o) : Snd X env (.UnaryOp .USub l pos) o := fun _ _ _ _ _ w re q =>
  ⟨_, pe_un wU_ok wE_ok, h1 w re fun v1 B1 H1 f1 s1 r1 => neg_ok s1.bh r1 h (q.stp s1)⟩
theorem snd_not (h1 : SndO X env l ox) (h : notO ox = some o) : Snd X env (.UnaryOp .Not l pos) o := fun _ _ _ _ _ w re q =>
  ⟨_, pe_not wE_ok, h1 w re fun v1 B1 H1 f1 s1 r1 => by
    unfold notO at h
    split at h
    · cases h
      exact ⟨_, r1.b, (q.stp s1).pl s1.bh .bl⟩
    · cases h⟩
theorem snd_and {rest : List Expr} {b : Bool} (h1 : SndO X env l (.pl (.bool b))) (h2 : b = true → Snd X env (.BoolOp .And (r :: rest) pos) o) (h3 : b = false → o = .pl (.bool false)) : Snd X env (.BoolOp .And (l :: r :: rest) pos) o := fun _ _ _ _ _ w re q =>
  ⟨_, pe_and wE_ok wE_ok, h1 w re fun v1 B1 H1 f1 s1 r1 => ⟨b, r1.b, by
    cases b with
    | true => exact iteT (h2 rfl (w.stp s1 re.has) (re.stp s1) (q.stp s1))
    | false =>
      have e := h3 rfl
      subst e
      exact iteF ((q.stp s1).pl s1.bh .bl)⟩⟩
theorem snd_or {rest : List Expr} {b : Bool} (h1 : SndO X env l (.pl (.bool b))) (h2 : b = false → Snd X env (.BoolOp .Or (r :: rest) pos) o) (h3 : b = true → o = .pl (.bool true)) : Snd X env (.BoolOp .Or (l :: r :: rest) pos) o := fun _ _ _ _ _ w re q =>
  ⟨_, pe_or wE_ok wE_ok, h1 w re fun v1 B1 H1 f1 s1 r1 => ⟨b, r1.b, by
    cases b with
    | false => exact iteF (h2 rfl (w.stp s1 re.has) (re.stp s1) (q.stp s1))
    | true =>
      have e := h3 rfl
      subst e
      exact iteT ((q.stp s1).pl s1.bh .bl)⟩⟩
theorem snd_one {op : BoolOp} (h : Snd X env l o) : Snd X env (.BoolOp op [l] pos) o := fun _ _ _ _ _ w re q => ⟨_, pe_one wE_ok, h w re q⟩
/-! comparisons -/
theorem snd_cmp (hu : X.A.units + 64 < cLine) {op : CmpOp} {b : Bool} (hs : setB r = true) (h1 : SndO X env l ox) (h2 : SndO X env r oy) (h : cmpO op ox oy = some b) : Snd X env (.Compare l [op] [r] pos) (.pl (.bool b)) := fun _ _ _ _ _ w re q => by
  have hu1 : X.A.units + 1 < cLine := by omega
  cases hd : isD op oy with
  | false => exact ⟨_, pe_cmpR wO_ok wE_ok wE_ok (behind_ok hs), h1 w re fun v1 B1 H1 f1 s1 r1 => h2 (w.stp s1 re.has) (re.stp s1) fun v2 B2 H2 f2 s2 r2 => cmp_okL hu s2.bh (r1.stp s2) r2 h hd ((q.stp (s1.trans s2)).pl s2.bh .bl)⟩
  | true =>
    have hop : op = .In ∨ op = .NotIn := by
      unfold isD at hd
      simpa using (Bool.and_eq_true_iff.mp hd).1
    rcases hop with rfl | rfl
    · refine ⟨_, pe_cmp (pc_din hu1 wE_ok wE_ok) (behind_ok hs), h1 w re fun v1 B1 H1 f1 s1 r1 => h2 (w.stp s1 re.has) (re.stp s1) fun v2 B2 H2 f2 s2 r2 => ?_⟩
      rcases cmp_okD s2.bh (r1.stp s2) r2 h hd with ⟨_, a, o, e1, e2, e3⟩ | ⟨z, _⟩
      · exact ⟨a, o, e1, e2, by rw [e3]; exact (q.stp (s1.trans s2)).pl s2.bh .bl⟩
      · cases z
    · refine ⟨_, pe_cmp (pc_dnotin hu1 wE_ok wE_ok) (behind_ok hs), h1 w re fun v1 B1 H1 f1 s1 r1 => h2 (w.stp s1 re.has) (re.stp s1) fun v2 B2 H2 f2 s2 r2 => ?_⟩
      rcases cmp_okD s2.bh (r1.stp s2) r2 h hd with ⟨z, _⟩ | ⟨_, a, o, e1, e2, e3⟩
      · cases z
      · exact ⟨a, o, e1, e2, by rw [e3]; exact (q.stp (s1.trans s2)).pl s2.bh .bl⟩
theorem snt_cmp (hu : X.A.units + 64 < cLine) {op : CmpOp} {b : Bool} (hs : setB r = true) (h1 : SndO X env l ox) (h2 : SndO X env r oy) (h : cmpO op ox oy = some b) : SndT X env (.Compare l [op] [r] pos) b := fun _ _ _ _ _ w re q => by
  have hu1 : X.A.units + 1 < cLine := by omega
  cases hd : isD op oy with
  | false => exact ⟨_, pt_cmpR wO_ok wE_ok wE_ok (behind_ok hs), h1 w re fun v1 B1 H1 f1 s1 r1 => h2 (w.stp s1 re.has) (re.stp s1) fun v2 B2 H2 f2 s2 r2 => cmp_okL hu s2.bh (r1.stp s2) r2 h hd ⟨b, rfl, q _ _ (s1.trans s2)⟩⟩
  | true =>
    have hop : op = .In ∨ op = .NotIn := by
      unfold isD at hd
      simpa using (Bool.and_eq_true_iff.mp hd).1
    rcases hop with rfl | rfl
    · refine ⟨_, pt_cmp (pc_din hu1 wE_ok wE_ok) (behind_ok hs), h1 w re fun v1 B1 H1 f1 s1 r1 => h2 (w.stp s1 re.has) (re.stp s1) fun v2 B2 H2 f2 s2 r2 => ?_⟩
      rcases cmp_okD s2.bh (r1.stp s2) r2 h hd with ⟨_, a, o, e1, e2, e3⟩ | ⟨z, _⟩
      · exact ⟨a, o, e1, e2, b, by rw [e3], q _ _ (s1.trans s2)⟩
      · cases z
    · refine ⟨_, pt_cmp (pc_dnotin hu1 wE_ok wE_ok) (behind_ok hs), h1 w re fun v1 B1 H1 f1 s1 r1 => h2 (w.stp s1 re.has) (re.stp s1) fun v2 B2 H2 f2 s2 r2 => ?_⟩
      rcases cmp_okD s2.bh (r1.stp s2) r2 h hd with ⟨z, _⟩ | ⟨_, a, o, e1, e2, e3⟩
      · cases z
      · exact ⟨a, o, e1, e2, b, by rw [e3], q _ _ (s1.trans s2)⟩
theorem last_ok {o1 o2 : CmpOp} {e1 e2 : Expr} (h2 : setB e2 = true) : lastMarks [o1, o2] [e1, e2] = false := by
  show behindInMarks o2 e2 = false
  exact behind_ok h2
theorem snd_chain (hu : X.A.units + 64 < cLine) {op op' : CmpOp} {e1 e2 e3 : Expr} (hs2 : setB e3 = true) (h1 : SndO X env e1 ox) (h2 : SndO X env e2 oy) (h3 : SndO X env e3 oz) (hd : isD op oy = false) (hd' : isD op' oz = false) (h : chn op op' ox oy oz = some o) :
    Snd X env (.Compare e1 [op, op'] [e2, e3] pos) o ∧ ∀ b, o = .pl (.bool b) → SndT X env (.Compare e1 [op, op'] [e2, e3] pos) b := by
  have core : ∀ {B H : Hp} {σ : L2.St} {fp : List Addr} {Q : VK}, Wld B H fp → REnv X.K B H σ env fp → Gv X.K B H o Q → tChain (wO X (compareOp op)) (wO X (compareOp op')) (wE X e1) (wE X e2) (wE X e3) σ H Q := by
    intro B H σ fp Q w re q
    refine h1 w re fun v1 B1 H1 f1 s1 r1 => h2 (w.stp s1 re.has) (re.stp s1) fun v2 B2 H2 f2 s2 r2 => ?_
    have h' : chn1 (cmpO op' oy oz) (cmpO op ox oy) = some o := h
    cases hc : cmpO op ox oy with
    | none => rw [hc] at h'; cases h'
    | some b =>
      rw [hc] at h'
      refine cmp_okL hu s2.bh (r1.stp s2) r2 hc hd ⟨b, rfl, ?_⟩
      cases b with
      | false =>
        cases h'
        exact iteF ((q.stp (s1.trans s2)).pl s2.bh .bl)
      | true =>
        have h'' : toB (cmpO op' oy oz) = some o := h'
        refine iteT (h3 (w.stp (s1.trans s2) re.has) (re.stp (s1.trans s2)) fun v3 B3 H3 f3 s3 r3 => ?_)
        cases hc' : cmpO op' oy oz with
        | none => rw [hc'] at h''; cases h''
        | some b' =>
          rw [hc'] at h''
          cases h''
          exact cmp_okL hu s3.bh (r2.stp s3) r3 hc' hd' ((q.stp ((s1.trans s2).trans s3)).pl s3.bh .bl)
  refine ⟨fun _ _ _ _ _ w re q => ⟨_, pe_chain wO_ok wO_ok wE_ok wE_ok wE_ok (last_ok hs2), core w re q⟩, fun b hb => ?_⟩
  subst hb
  intro B H σ fp Q w re q
  exact ⟨_, pt_chain wO_ok wO_ok wE_ok wE_ok wE_ok (last_ok hs2), core w re fun v B' H' f s ro n => ⟨b, ro.b, q _ _ s⟩⟩
/-! tests -/
theorem snt_val {e : Expr} {b : Bool} (h : Snd X env e (.pl (.bool b))) (he : ∀ whole, isTrue e X.env whole = (do let v ← whole; standAt e.pos; holding [v] (truthy v))) : SndT X env e b := fun _ _ _ _ _ w re q =>
  ⟨_, pt_val wE_ok he, h w re fun v B' H' f s ro _ => ⟨b, ro.b, q _ _ s⟩⟩
theorem snt_not {b : Bool} (h : SndT X env l b) : SndT X env (.UnaryOp .Not l pos) (!b) := fun _ _ _ _ _ w re q => ⟨_, pt_not wT_ok, h w re fun B' H' s => q B' H' s⟩
def wW (X : Cx) (e : Expr) : TT := fun σ H Q => ∃ t, PW X e t ∧ t σ H Q
theorem wW_ok {e : Expr} : PW X e (wW X e) := ⟨fun wh pins s σ H Q I ⟨_, h, q⟩ => h.run wh pins s σ H Q I q⟩
def SndW (X : Cx) (env : Env) (ex : Expr) (b : Bool) : Prop := ∀ ⦃B H : Hp⦄ ⦃σ : L2.St⦄ ⦃fp : List Addr⦄ ⦃Q : Bool → Hp → Prop⦄, Wld B H fp → REnv X.K B H σ env fp → (∀ B' H', Stp B H B' H' → Q b H') → wW X ex σ H Q
theorem SndW.t {b : Bool} (h : SndW X env l b) : SndT X env l b := fun _ _ _ _ _ w re q => ⟨_, wW_ok.pt, h w re q⟩
theorem snw_and1 {b : Bool} (h : SndT X env l b) : SndW X env (.BoolOp .And [l] pos) b := fun _ _ _ _ _ w re q => ⟨_, pw_and1 wT_ok, h w re q⟩
theorem snw_or1 {b : Bool} (h : SndT X env l b) : SndW X env (.BoolOp .Or [l] pos) b := fun _ _ _ _ _ w re q => ⟨_, pw_or1 wT_ok, h w re q⟩
theorem snw_and {rest : List Expr} {b c : Bool} (h1 : SndT X env l b) (h2 : b = true → SndW X env (.BoolOp .And (r :: rest) pos) c) (h3 : b = false → c = false) : SndW X env (.BoolOp .And (l :: r :: rest) pos) c := fun _ _ _ _ _ w re q =>
  ⟨_, pw_and wT_ok wW_ok, h1 w re fun B' H' s => by
    cases b with
    | true => exact iteT (h2 rfl (w.stp s re.has) (re.stp s) fun B2 H2 s2 => q _ _ (s.trans s2))
    | false =>
      have e := h3 rfl
      subst e
      exact iteF (q _ _ s)⟩
theorem snw_or {rest : List Expr} {b c : Bool} (h1 : SndT X env l b) (h2 : b = false → SndW X env (.BoolOp .Or (r :: rest) pos) c) (h3 : b = true → c = true) : SndW X env (.BoolOp .Or (l :: r :: rest) pos) c := fun _ _ _ _ _ w re q =>
  ⟨_, pw_or wT_ok wW_ok, h1 w re fun B' H' s => by
    cases b with
    | false => exact iteF (h2 rfl (w.stp s re.has) (re.stp s) fun B2 H2 s2 => q _ _ (s.trans s2))
    | true =>
      have e := h3 rfl
      subst e
      exact iteT (q _ _ s)⟩
theorem snd_ife {t : Expr} {b : Bool} (h : SndT X env t b) (h1 : b = true → Snd X env l o) (h2 : b = false → Snd X env r o) : Snd X env (.IfExp t l r pos) o := fun _ _ _ _ _ w re q =>
  ⟨_, pe_ifExp wT_ok wE_ok wE_ok, h w re fun B' H' s => by
    cases b with
    | true => exact iteT (h1 rfl (w.stp s re.has) (re.stp s) (q.stp s))
    | false => exact iteF (h2 rfl (w.stp s re.has) (re.stp s) (q.stp s))⟩
/-! subscripts, slices -/
theorem wX_ok : IxR X (wX X) := fun value slice pins s σ H x y v u Q I r1 r2 ⟨_, h, q⟩ hs => h value slice pins s σ H x y v u Q I r1 r2 q hs
theorem snd_idx (hu : X.A.units + 64 < cLine) (hp : ∀ a b, subscripted r false a b = operate [a, b] (getItem a b)) (h1 : SndO X env l ox) (h2 : SndO X env r oy) (h : idxO ox oy = some o) : Snd X env (.Subscript l r pos) o := fun _ _ _ _ _ w re q => by
  have hu1 : X.A.units + 1 < cLine := by omega
  cases hd : (ditems ox).isSome with
  | false => exact ⟨_, pe_ix wX_ok wE_ok wE_ok hp, h1 w re fun v1 B1 H1 f1 s1 r1 => h2 (w.stp s1 re.has) (re.stp s1) fun v2 B2 H2 f2 s2 r2 => idx_okL s2.bh (r1.stp s2) r2 hd h (q.stp (s1.trans s2))⟩
  | true => exact ⟨_, pe_dget hu1 wE_ok wE_ok hp, h1 w re fun v1 B1 H1 f1 s1 r1 => h2 (w.stp s1 re.has) (re.stp s1) fun v2 B2 H2 f2 s2 r2 => idx_okD s2.bh (r1.stp s2) r2 hd h (q.stp (s1.trans s2))⟩
def wSl (X : Cx) : V → Option Int → Option Int → Hp → VK → Prop := fun x lo hi H Q => ∃ r, SlR X r ∧ r x lo hi H Q
theorem wSl_ok : SlR X (wSl X) := fun pins s σ H x v vl vu lo hi sl Q I r1 h1 h2 h3 ⟨_, h, q⟩ => h pins s σ H x v vl vu lo hi sl Q I r1 h1 h2 h3 q
def wP (X : Cx) (e : Option Expr) : TO := fun σ H Q => ∃ t, PO X e t ∧ t σ H Q
theorem wP_ok {e : Option Expr} : PO X e (wP X e) := ⟨fun pins s σ H Q I ⟨_, h, q⟩ => h.run pins s σ H Q I q⟩
def SndX (X : Cx) (env : Env) (ex : Option Expr) (i : Option Int) : Prop := ∀ ⦃B H : Hp⦄ ⦃σ : L2.St⦄ ⦃fp : List Addr⦄ ⦃Q : Option Int → Hp → Prop⦄, Wld B H fp → REnv X.K B H σ env fp → (∀ B' H', Stp B H B' H' → Q i H') → wP X ex σ H Q
theorem snx_none : SndX X env none none := fun _ _ _ _ _ w re q => ⟨_, po_none, q _ _ (.refl w.bh)⟩
theorem snx_some {e : Expr} {i : Int} (h : Snd X env e (.pl (.int i))) : SndX X env (some e) (some i) := fun _ _ _ _ _ w re q => ⟨_, po_some wE_ok, h w re fun v B' H' f s ro _ => ⟨i, ro.i, q _ _ s⟩⟩
theorem snd_slc {lo hi : Option Expr} {i j : Option Int} {p2 : Pos} (h1 : SndO X env l ox) (h2 : SndX X env lo i) (h3 : SndX X env hi j) (h : slcO ox i j = some o) : Snd X env (.Subscript l (.Slice lo hi none p2) pos) o := fun _ _ _ _ _ w re q =>
  ⟨_, pe_slice wSl_ok wE_ok wP_ok wP_ok, h1 w re fun v1 B1 H1 f1 s1 r1 => h2 (w.stp s1 re.has) (re.stp s1) fun B2 H2 s2 => h3 (w.stp (s1.trans s2) re.has) (re.stp (s1.trans s2)) fun B3 H3 s3 => slc_ok s3.bh ((r1.stp s2).stp s3) h (q.stp ((s1.trans s2).trans s3))⟩
/-! lists of expressions -/
theorem snr_nil : SndRs X env [] [] := fun _ _ _ _ _ w re q => ⟨_, pa_nil, q _ _ _ _ (.refl w.bh) .nil .nil⟩
theorem snr_cons {es : List Expr} {os : List O} (hn : nst l = true) (h1 : Snd X env l o) (h2 : SndRs X env es os) : SndRs X env (l :: es) (o :: os) := fun _ _ _ _ _ w re q =>
  ⟨_, pa_cons wE_ok wA_ok (star_cons hn), h1 w re fun v1 B1 H1 f1 s1 r1 n1 => h2 (w.stp s1 re.has) (re.stp s1) fun vs B2 H2 f2 s2 r2 n2 => q _ _ _ _ (s1.trans s2) (.cons (r1.stp s2) r2) ((n1.stp s2 r1.has).app s1.h r1.has n2)⟩
theorem snv_nil : SndVs X env [] [] := fun _ _ _ _ _ w re q => ⟨_, pa_nil, q _ _ _ _ (.refl w.bh) .nil⟩
theorem snv_cons {es : List Expr} {os : List O} (hn : nst l = true) (h1 : SndO X env l o) (h2 : SndVs X env es os) : SndVs X env (l :: es) (o :: os) := fun _ _ _ _ _ w re q =>
  ⟨_, pa_cons wE_ok wA_ok (star_cons hn), h1 w re fun v1 B1 H1 f1 s1 r1 => h2 (w.stp s1 re.has) (re.stp s1) fun vs B2 H2 f2 s2 r2 => q _ _ _ _ (s1.trans s2) (.cons (r1.stp s2) r2)⟩
theorem snl_nil : SndLs X env [] ([], false) := fun _ _ _ _ _ w re q => ⟨_, pa_nil, q _ _ _ (.refl w.bh) (fun _ => .nil) .nil⟩
/-- an argument: shared (b = false) or lent -/
def SndL (X : Cx) (env : Env) (ex : Expr) (p : P) (b : Bool) : Prop := ∀ ⦃B H : Hp⦄ ⦃σ : L2.St⦄ ⦃fp : List Addr⦄ ⦃Q : VK⦄, Wld B H fp → REnv X.K B H σ env fp → (∀ v B' H', Stp B H B' H' → (b = false → RP X.K B' v p) → RP X.K H' v p → Q v H') → wE X ex σ H Q
theorem SndO.lend {p : P} (h : SndO X env l ox) (hp : fz ox = some p) : SndL X env l p true := fun _ _ _ _ _ w re q => h w re fun v B' H' f s ro => q v B' H' s (fun z => by cases z) (ro.rd s.bh hp)
theorem SndO.give {p : P} (h : SndO X env l (.pl p)) : SndL X env l p false := fun _ _ _ _ _ w re q => h w re fun v B' H' f s ro => q v B' H' s (fun _ => ro.p) (ro.rd s.bh rfl)
theorem Snd.give {p : P} (h : Snd X env l ox) (hp : fz ox = some p) : SndL X env l p false := fun _ _ _ _ _ w re q => h w re fun v B' H' f s ro n => by
  obtain ⟨B2, s2, _, r2, _⟩ := s.share ro hp n
  exact q v B2 H' s2 (fun _ => r2) (r2.mono s2.bh)
theorem snl_cons {es : List Expr} {p : P} {b : Bool} {ps : List P × Bool} (hn : nst l = true) (h1 : SndL X env l p b) (h2 : SndLs X env es ps) : SndLs X env (l :: es) (p :: ps.1, b || ps.2) := fun _ _ _ _ _ w re q =>
  ⟨_, pa_cons wE_ok wA_ok (star_cons hn), h1 w re fun v1 B1 H1 s1 r1 l1 => h2 (w.stp s1 re.has) (re.stp s1) fun vs B2 H2 s2 r2 l2 => q _ _ _ (s1.trans s2) (fun z => by
    rw [Bool.or_eq_false_iff] at z
    exact .cons ((r1 z.1).mono s2.b) (r2 z.2)) (.cons (l1.mono s2.h) l2)⟩
theorem plains_ok {K : PySem.W.Frag} {vs : List V} {os : List O} {f : List Addr} {ps : List P} (h : plains os = some ps) (r : ROs K B H vs os f) : RPs K B vs ps ∧ f = [] := by
  induction os generalizing vs f ps with
  | nil => cases r; rw [plains] at h; cases h; exact ⟨.nil, rfl⟩
  | cons o os ih =>
    cases r with
    | cons r1 r2 =>
      cases r1 with
      | pl r1 =>
        rw [plains] at h
        cases z : plains os with
        | none => rw [z] at h; cases h
        | some qs =>
          rw [z] at h
          cases h
          obtain ⟨i1, i2⟩ := ih z r2
          subst i2
          exact ⟨.cons r1 i1, rfl⟩
      | _ => cases h
theorem Frs.cons {B' H' : Hp} {f : List Addr} {a : Addr} (n : Frs H B' f) (e : Ext H H') (ha : H' a = none) (hb : B' a = none) (hf : ∀ b ∈ f, H' b ≠ none) : Frs H B' (a :: f) :=
  ⟨List.nodup_cons.mpr ⟨fun z => hf a z ha, n.nd⟩, fun b hb' => by
    rcases List.mem_cons.mp hb' with z | z
    · subst z
      exact e.none ha
    · exact n.new b z, fun b hb' => by
    rcases List.mem_cons.mp hb' with z | z
    · subst z
      exact hb
    · exact n.out b z⟩
theorem snd_lst {es : List Expr} {os : List O} (h1 : SndRs X env es os) (h : mkL os = some o) : Snd X env (.List es pos) o := fun _ _ _ _ _ w re q =>
  ⟨_, pe_lst wA_ok, h1 w re fun vs B1 H1 f1 s1 r1 n1 => by
    unfold mkL at h
    split at h
    · rename_i c
      refine ⟨by rw [r1.len, line_eq]; omega, fun a ha => ?_⟩
      cases z : fzs os with
      | some ps =>
        rw [z] at h
        cases h
        obtain ⟨B2, s2, _, r2, _⟩ := s1.shares r1 z n1
        exact (q.stp s2).fl s2.bh r2 a ha
      | none =>
        rw [z] at h
        cases h
        have s2 := Stp.lay (o := .lst vs) s1.bh ha
        exact q _ _ _ (a :: f1) (s1.trans s2) (.lst upd_same (r1.stp s2)) ((n1.cons s1.h ha (s1.bh.none ha) r1.has))
    · cases h⟩
theorem snd_tup {es : List Expr} {os : List O} {k : Nat} (h1 : SndRs X env es os) (h : mkT os = some o) : Snd X env (.Tuple es k pos) o := fun _ _ _ _ _ w re q =>
  ⟨_, pe_tup wA_ok, h1 w re fun vs B1 H1 f1 s1 r1 n1 => by
    unfold mkT at h
    split at h
    · rename_i c
      refine ⟨by rw [r1.len, line_eq]; omega, fun a ha => ?_⟩
      cases z : plains os with
      | some ps =>
        rw [z] at h
        cases h
        exact (q.stp s1).tup s1.bh (plains_ok z r1).1 a ha
      | none =>
        rw [z] at h
        cases h
        have s2 := Stp.layB (o := .tup vs) s1.bh ha
        exact q _ _ _ f1 (s1.trans s2) (.tup upd_same (r1.stp s2)) (n1.stp s2 r1.has)
    · cases h⟩
theorem snd_dct : Snd X env (.Dict [] [] pos) (.fd []) := fun _ _ _ _ _ w re q => ⟨_, pe_dnewK, fun a ha =>
  q _ _ _ [a] (.lay w.bh ha) (.fd upd_same .nil) ⟨by simp, by simpa using ha, by simpa using w.bh.none ha⟩⟩
end
end
end G

set_option maxRecDepth 100000
namespace G
open PySem L2
/-- J walks ps wherever R stands -/
structure ItS (K : PySem.W.Frag) (J : L2.It) (ps : List P) (R : Hp → Hp → Prop) : Prop where
  go : ∀ i B H, R B H → Ext B H → i < ps.length → J.go i H
  yld : ∀ i B H x H' p, R B H → Ext B H → ps[i]? = some p → J.yld i H x H' → ∃ B', Stp B H B' H' ∧ RP K B' x p
  stop : ∀ i B H, R B H → Ext B H → i = ps.length → J.stop i H
section
variable {K : PySem.W.Frag} {B0 H0 : Hp}
theorem its_list {R : Hp → Hp → Prop} {a : Addr} {vs : List V} {ps : List P} (r : ∀ B H, R B H → Ext B H → SqL K H a vs ∧ RPs K B vs ps) : ItS K (Itl K a) ps R where
  go := fun i B H hR e hi => by
    obtain ⟨h1, h2⟩ := r B H hR e
    rw [← h2.len] at hi
    exact ⟨vs, vs[i], h1, List.getElem?_eq_getElem hi⟩
  yld := fun i B H x H' p hR e hp hy => by
    obtain ⟨rfl, hy⟩ := hy
    obtain ⟨h1, h2⟩ := r B _ hR e
    obtain ⟨v, e1, e2⟩ := h2.getE hp
    have := hy vs h1
    rw [e1] at this
    cases this
    exact ⟨B, .refl e, e2⟩
  stop := fun i B H hR e hi => by
    obtain ⟨h1, h2⟩ := r B H hR e
    rw [← h2.len] at hi
    exact ⟨vs, h1, Nat.le_of_eq hi.symm⟩
theorem its_tup {R : Hp → Hp → Prop} {a : Addr} {vs : List V} {ps : List P} (r : ∀ B H, R B H → Ext B H → SqT K H a vs ∧ RPs K B vs ps) : ItS K (Itt K a) ps R where
  go := fun i B H hR e hi => by
    obtain ⟨h1, h2⟩ := r B H hR e
    rw [← h2.len] at hi
    exact ⟨vs, vs[i], h1, List.getElem?_eq_getElem hi⟩
  yld := fun i B H x H' p hR e hp hy => by
    obtain ⟨rfl, hy⟩ := hy
    obtain ⟨h1, h2⟩ := r B _ hR e
    obtain ⟨v, e1, e2⟩ := h2.getE hp
    have := hy vs h1
    rw [e1] at this
    cases this
    exact ⟨B, .refl e, e2⟩
  stop := fun i B H hR e hi => by
    obtain ⟨h1, h2⟩ := r B H hR e
    rw [← h2.len] at hi
    exact ⟨vs, h1, Nat.le_of_eq hi.symm⟩
theorem its_str {R : Hp → Hp → Prop} {s : Str} : ItS K (Its s) (strItems s) R where
  go := fun i B H hR e hi => by
    unfold strItems at hi
    rw [List.length_map, Array.length_toList] at hi
    exact hi
  yld := fun i B H x H' p hR e hp hy => by
    obtain ⟨rfl, c, hc, rfl⟩ := hy
    unfold strItems at hp
    rw [List.getElem?_map, Array.getElem?_toList, hc] at hp
    cases hp
    exact ⟨B, .refl e, .str⟩
  stop := fun i B H hR e hi => by
    unfold strItems at hi
    rw [List.length_map, Array.length_toList] at hi
    exact Nat.le_of_eq hi.symm
theorem its_rng {R : Hp → Hp → Prop} {lo j : Int} : ItS K (Itr lo j.toNat) (rangeP lo j) R where
  go := fun i B H hR e hi => by
    unfold rangeP at hi
    rw [List.length_map, List.length_range] at hi
    exact hi
  yld := fun i B H x H' p hR e hp hy => by
    obtain ⟨rfl, rfl⟩ := hy
    unfold rangeP at hp
    rw [List.getElem?_map] at hp
    cases z : (List.range j.toNat)[i]? with
    | none => rw [z] at hp; cases hp
    | some k =>
      rw [z] at hp
      cases hp
      have := (List.getElem?_eq_some_iff.mp z).2
      rw [List.getElem_range] at this
      subst this
      exact ⟨B, .refl e, .int⟩
  stop := fun i B H hR e hi => by
    unfold rangeP at hi
    rw [List.length_map, List.length_range] at hi
    exact Nat.le_of_eq hi.symm
theorem its_enum {R : Hp → Hp → Prop} {a : Addr} {vs : List V} {ps : List P} (r : ∀ B H, R B H → Ext B H → SqL K H a vs ∧ RPs K B vs ps) : ItS K (Ite K a) (enumP ps) R where
  go := fun i B H hR e hi => by
    obtain ⟨h1, h2⟩ := r B H hR e
    unfold enumP at hi
    rw [List.length_map, List.length_zipIdx, ← h2.len] at hi
    exact ⟨vs, vs[i], h1, List.getElem?_eq_getElem hi⟩
  yld := fun i B H x H' p hR e hp hy => by
    obtain ⟨T, y, rfl, hT, rfl, hy⟩ := hy
    obtain ⟨h1, h2⟩ := r B _ hR e
    unfold enumP at hp
    rw [List.getElem?_map, List.getElem?_zipIdx] at hp
    cases z : ps[i]? with
    | none => rw [z] at hp; cases hp
    | some q =>
      rw [z] at hp
      cases hp
      obtain ⟨v, e1, e2⟩ := h2.getE z
      have := hy vs h1
      rw [e1] at this
      cases this
      have s := Stp.layB (o := .tup [.int ((i : Nat) : Int), y]) e hT
      refine ⟨_, s, .tup (.of upd_same) (.cons ?_ (.cons (e2.stp s) .nil))⟩
      show RP K _ (.int ((i : Nat) : Int)) (.int ((0 + i : Nat) : Int))
      rw [Nat.zero_add]
      exact .int
  stop := fun i B H hR e hi => by
    obtain ⟨h1, h2⟩ := r B H hR e
    unfold enumP at hi
    rw [List.length_map, List.length_zipIdx, ← h2.len] at hi
    exact ⟨vs, h1, Nat.le_of_eq hi.symm⟩
theorem zip_len (xs ys : List P) : (zipP xs ys).length = min xs.length ys.length := by
  unfold zipP
  rw [List.length_zipWith]
theorem its_zip {R : Hp → Hp → Prop} {a b : Addr} {vs ws : List V} {ps qs : List P} {sq : PySem.W.Frag → Hp → Addr → List V → Prop} {J : L2.It}
    (hg : ∀ i H x y, sq K H a vs → sq K H b ws → vs[i]? = some x → ws[i]? = some y → J.go i H) (hy : ∀ i H v H', J.yld i H v H' → ∃ T x y, v = .ref T ∧ H T = none ∧ H' = upd H T (.tup [x, y]) ∧ (∀ xs, sq K H a xs → xs[i]? = some x) ∧ ∀ ys, sq K H b ys → ys[i]? = some y)
    (hs : ∀ i H, sq K H a vs → sq K H b ws → (vs.length ≤ i ∨ ws.length ≤ i) → J.stop i H)
    (r : ∀ B H, R B H → Ext B H → sq K H a vs ∧ RPs K B vs ps ∧ sq K H b ws ∧ RPs K B ws qs) : ItS K J (zipP ps qs) R where
  go := fun i B H hR e hi => by
    obtain ⟨h1, h2, h3, h4⟩ := r B H hR e
    rw [zip_len, ← h2.len, ← h4.len] at hi
    exact hg i H _ _ h1 h3 (List.getElem?_eq_getElem (by omega)) (List.getElem?_eq_getElem (by omega))
  yld := fun i B H x H' p hR e hp hyl => by
    obtain ⟨T, x, y, rfl, hT, rfl, hx, hy'⟩ := hy i H _ _ hyl
    obtain ⟨h1, h2, h3, h4⟩ := r B _ hR e
    obtain ⟨p1, q1, p2⟩ := h2.getV (hx vs h1)
    obtain ⟨p3, q3, p4⟩ := h4.getV (hy' ws h3)
    have e1 : (zipP ps qs)[i]? = some (.tuple [p1, p3]) := by
      unfold zipP
      rw [List.getElem?_zipWith, q1, q3]
    rw [e1] at hp
    cases hp
    have s := Stp.layB (o := .tup [x, y]) e hT
    exact ⟨_, s, .tup (.of upd_same) (.cons (p2.stp s) (.cons (p4.stp s) .nil))⟩
  stop := fun i B H hR e hi => by
    obtain ⟨h1, h2, h3, h4⟩ := r B H hR e
    rw [zip_len, ← h2.len, ← h4.len] at hi
    exact hs i H h1 h3 (by omega)
theorem its_rev {R : Hp → Hp → Prop} {a : Addr} {vs : List V} {ps : List P} {sq : PySem.W.Frag → Hp → Addr → List V → Prop} {J : L2.It} (n : Nat) (hn : n = vs.length)
    (hg : ∀ i H (x : V), i < n → sq K H a vs → vs[n - 1 - i]? = some x → J.go i H) (hy : ∀ i H v H', J.yld i H v H' → H' = H ∧ ∀ xs, sq K H a xs → xs[n - 1 - i]? = some v)
    (hs : ∀ i H, n ≤ i → J.stop i H) (r : ∀ B H, R B H → Ext B H → sq K H a vs ∧ RPs K B vs ps) : ItS K J ps.reverse R where
  go := fun i B H hR e hi => by
    obtain ⟨h1, h2⟩ := r B H hR e
    rw [List.length_reverse, ← h2.len, ← hn] at hi
    exact hg i H _ hi h1 (List.getElem?_eq_getElem (by omega))
  yld := fun i B H x H' p hR e hp hyl => by
    obtain ⟨rfl, hx⟩ := hy i H _ _ hyl
    obtain ⟨h1, h2⟩ := r B _ hR e
    obtain ⟨p1, q1, p2⟩ := h2.getV (hx vs h1)
    have hi := (List.getElem?_eq_some_iff.mp hp).1
    rw [List.length_reverse] at hi
    rw [List.getElem?_reverse hi, ← h2.len, ← hn, q1] at hp
    cases hp
    exact ⟨B, .refl e, p2⟩
  stop := fun i B H hR e hi => by
    obtain ⟨h1, h2⟩ := r B H hR e
    rw [List.length_reverse, ← h2.len, ← hn] at hi
    exact hs i H (Nat.le_of_eq hi.symm)
end
def wI (X : Cx) (tg iter : Expr) : TI := fun σ H R => ∃ wi, PI X tg iter wi ∧ wi σ H R
theorem wI_ok {X : Cx} {tg iter : Expr} : PI X tg iter (wI X tg iter) := ⟨fun pins s σ H R I ⟨_, h, q⟩ => h.run pins s σ H R I q⟩
/-- what stands of a walked thing: m, as long as the heap only grows; else whatever is changed -/
def cond (m : Bool) (B1 H1 : Hp) : Hp → Hp → Prop := fun B H => Ext B1 B ∧ (m = true → Ext H1 H)
theorem cond.mono {m : Bool} {B1 H1 B2 H2 B H : Hp} (s : Stp B1 H1 B2 H2) (c : cond m B2 H2 B H) : cond m B1 H1 B H := ⟨s.b.trans c.1, fun z => s.h.trans (c.2 z)⟩
def sq (t : Bool) (K : PySem.W.Frag) (H : Hp) (a : Addr) (vs : List V) : Prop := if t = true then SqT K H a vs else SqL K H a vs
theorem Ext.sq {t : Bool} {K : PySem.W.Frag} {A B : Hp} (e : Ext A B) {a : Addr} {vs : List V} (h : sq t K A a vs) : sq t K B a vs := by
  cases t with
  | true => exact e.sqT h
  | false => exact e.sqL h
def At (t : Bool) (K : PySem.W.Frag) (H1 : Hp) (R : Hp → Hp → Prop) (v : V) (ps : List P) : Prop := ∃ a vs, v = .ref a ∧ sq t K H1 a vs ∧ RPs K H1 vs ps ∧ ∀ B H, R B H → Ext B H → sq t K H a vs ∧ RPs K B vs ps
def SndM (m : Bool) (X : Cx) (env : Env) (tg ex : Expr) (ps : List P) : Prop := ∀ ⦃B H : Hp⦄ ⦃σ : L2.St⦄ ⦃fp : List Addr⦄ ⦃R : L2.It → Hp → Prop⦄, Wld B H fp → REnv X.K B H σ env fp →
  (∀ J B1 H1, Stp B H B1 H1 → ItS X.K J ps (cond m B1 H1) → R J H1) → wI X tg ex σ H R
/-- an operand that is walked: t, a tuple -/
def SndS (m t : Bool) (X : Cx) (env : Env) (ex : Expr) (ps : List P) : Prop := ∀ ⦃B H : Hp⦄ ⦃σ : L2.St⦄ ⦃fp : List Addr⦄ ⦃Q : VK⦄, Wld B H fp → REnv X.K B H σ env fp →
  (∀ v B1 H1, Stp B H B1 H1 → At t X.K H1 (cond m B1 H1) v ps → Q v H1) → wE X ex σ H Q
section
variable {X : Cx} {env : Env} {ex e1 e2 tg : Expr} {ps qs : List P} {m t : Bool}
theorem At.stp {K : PySem.W.Frag} {B1 H1 B2 H2 : Hp} {v : V} (s : Stp B1 H1 B2 H2) (h : At t K H1 (cond m B1 H1) v ps) : At t K H2 (cond m B2 H2) v ps := by
  obtain ⟨a, vs, e, h1, h2, h3⟩ := h
  exact ⟨a, vs, e, s.h.sq h1, h2.mono s.h, fun B H c e => h3 B H (c.mono s) e⟩
theorem sns_I {ox : O} (h : SndO X env ex ox) (hl : litems ox = some ps) : SndS true false X env ex ps := fun _ _ _ _ _ w re q => h w re fun v B1 H1 f s ro => q v B1 H1 s (by
  obtain ⟨a, vs, e, h1, h2⟩ := ro.lits s.bh hl
  exact ⟨a, vs, e, h1.sq, h2.mono s.bh, fun B H c e => ⟨((c.2 rfl).sl h1).sq, h2.mono c.1⟩⟩)
theorem sns_L (h : SndL X env ex (.list ps) false) : SndS m false X env ex ps := fun _ _ _ _ _ w re q => h w re fun v B1 H1 s r _ => q v B1 H1 s (by
  cases r rfl with
  | lst h1 h2 => exact ⟨_, _, rfl, (s.bh.sl h1).sq, h2.mono s.bh, fun B H c e => ⟨(e.sl (c.1.sl h1)).sq, h2.mono c.1⟩⟩)
theorem sns_T (h : SndL X env ex (.tuple ps) false) : SndS m true X env ex ps := fun _ _ _ _ _ w re q => h w re fun v B1 H1 s r _ => q v B1 H1 s (by
  cases r rfl with
  | tup h1 h2 => exact ⟨_, _, rfl, s.bh.sqT h1, h2.mono s.bh, fun B H c e => ⟨e.sqT (c.1.sqT h1), h2.mono c.1⟩⟩)
theorem snm_seq (h : SndS m t X env ex ps) : SndM m X env tg ex ps := fun _ _ _ _ _ w re q => by
  cases t with
  | true => exact ⟨_, pi_tup wE_ok, h w re fun v B1 H1 s ⟨a, vs, e, h1, _, h2⟩ => ⟨a, e, ⟨vs, h1⟩, q _ B1 H1 s (its_tup h2)⟩⟩
  | false => exact ⟨_, pi_list wE_ok, h w re fun v B1 H1 s ⟨a, vs, e, h1, _, h2⟩ => ⟨a, e, ⟨vs, h1⟩, q _ B1 H1 s (its_list h2)⟩⟩
theorem snm_str {s : Str} (h : SndO X env ex (.pl (.str s))) : SndM m X env tg ex (strItems s) := fun _ _ _ _ _ w re q =>
  ⟨_, pi_str wE_ok, h w re fun v B1 H1 f s ro => ⟨_, ro.s, q _ B1 H1 s its_str⟩⟩
variable {pos p1 : Pos}
theorem snm_rng1 {i : Int} (hg : Gl X "range") (hm : X.mg "range" = none) (hn : nst e1 = true) (h : Snd X env e1 (.pl (.int i))) (hi : okI i) : SndM m X env tg (.Call (.Name "range" p1) [e1] [] pos) (rangeP 0 i) := fun _ _ _ _ _ w re q =>
  ⟨_, pi_range1 hg hm wA_ok (star_cons hn), snr_cons hn h snr_nil w re fun vs B1 H1 f s ro _ => by
    obtain ⟨v, g, rfl, r1⟩ := ro.one
    exact ⟨i, by rw [r1.i], hi.1, hi.2, q _ B1 H1 s its_rng⟩⟩
theorem snm_rng2 {i j : Int} (hg : Gl X "range") (hm : X.mg "range" = none) (hn : nst e1 = true) (hn2 : nst e2 = true) (h : Snd X env e1 (.pl (.int i))) (h2 : Snd X env e2 (.pl (.int j))) (hi : okI i ∧ okI j) :
    SndM m X env tg (.Call (.Name "range" p1) [e1, e2] [] pos) (rangeP i (j - i)) := fun _ _ _ _ _ w re q =>
  ⟨_, pi_range2 hg hm wA_ok (by rw [star_cons hn, star_cons hn2]; rfl) (star_cons hn2), snr_cons hn h (snr_cons hn2 h2 snr_nil) w re fun vs B1 H1 f s ro _ => by
    obtain ⟨v, v2, g, g', rfl, r1, r2⟩ := ro.two
    exact ⟨i, j, by rw [r1.i, r2.i], ⟨hi.1.1, hi.1.2, hi.2.1, hi.2.2⟩, q _ B1 H1 s its_rng⟩⟩
theorem wA_one {σ : L2.St} {H : Hp} {Q : List V → Hp → Prop} (hn : nst e1 = true) (h : wE X e1 σ H fun v H1 => Q [v] H1) : wA X [e1] σ H Q := ⟨_, pa_cons wE_ok pa_nil (star_cons hn), h⟩
theorem wA_two {σ : L2.St} {H : Hp} {Q : List V → Hp → Prop} (hn : nst e1 = true) (hn2 : nst e2 = true) (h : wE X e1 σ H fun v H1 => wE X e2 σ H1 fun w H2 => Q [v, w] H2) : wA X [e1, e2] σ H Q :=
  ⟨_, pa_cons wE_ok (pa_cons wE_ok pa_nil (star_cons hn2)) (star_cons hn), h⟩
theorem snm_enum {es : List Expr} {k : Nat} {tp : Pos} (hg : Gl X "enumerate") (hm : X.mg "enumerate" = none) (hn : nst e1 = true) (h : SndS m false X env e1 ps) : SndM m X env (.Tuple es k tp) (.Call (.Name "enumerate" p1) [e1] [] pos) (enumP ps) := fun _ _ _ _ _ w re q =>
  ⟨_, pi_enum hg hm wA_ok (star_cons hn), wA_one hn (h w re fun v B1 H1 s ⟨a, vs, e, h1, _, h2⟩ => ⟨a, vs, by rw [e], h1, q _ B1 H1 s (its_enum h2)⟩)⟩
theorem snm_zip {es : List Expr} {k : Nat} {tp : Pos} (hg : Gl X "zip") (hm : X.mg "zip" = none) (hn : nst e1 = true) (hn2 : nst e2 = true) (h : SndS m t X env e1 ps) (h2 : SndS m t X env e2 qs) :
    SndM m X env (.Tuple es k tp) (.Call (.Name "zip" p1) [e1, e2] [] pos) (zipP ps qs) := fun _ _ _ _ _ w re q =>
  ⟨_, RZ.pi_zipA hg hm wA_ok (star_cons hn) (star_any (by simp [hn2])), wA_two hn hn2 (h w re fun v B1 H1 s a1 => h2 (w.stp s re.has) (re.stp s) fun v2 B2 H2 s2 ⟨b, ws, eb, k1, _, k2⟩ => by
    obtain ⟨a, vs, ea, j1, _, j2⟩ := a1.stp s2
    refine ⟨a, b, vs, ws, by rw [ea, eb], ?_⟩
    cases t with
    | false =>
      exact .inl ⟨j1, k1, q _ B2 H2 (s.trans s2) (its_zip (sq := SqL) (a := a) (b := b) (vs := vs) (ws := ws) (fun i H x y a1 a2 a3 a4 => ⟨vs, ws, x, y, a1, a2, a3, a4⟩) (fun i H v H' z => z) (fun i H a1 a2 a3 => ⟨vs, ws, a1, a2, a3⟩)
        fun B H c e => ⟨(j2 B H c e).1, (j2 B H c e).2, (k2 B H c e).1, (k2 B H c e).2⟩)⟩
    | true =>
      exact .inr ⟨j1, k1, q _ B2 H2 (s.trans s2) (its_zip (sq := SqT) (a := a) (b := b) (vs := vs) (ws := ws) (fun i H x y a1 a2 a3 a4 => ⟨vs, ws, x, y, a1, a2, a3, a4⟩) (fun i H v H' z => z) (fun i H a1 a2 a3 => ⟨vs, ws, a1, a2, a3⟩)
        fun B H c e => ⟨(j2 B H c e).1, (j2 B H c e).2, (k2 B H c e).1, (k2 B H c e).2⟩)⟩)⟩
theorem snm_rev (hg : Gl X "reversed") (hm : X.mg "reversed" = none) (hn : nst e1 = true) (h : SndS m t X env e1 ps) : SndM m X env tg (.Call (.Name "reversed" p1) [e1] [] pos) ps.reverse := fun _ _ _ _ _ w re q =>
  ⟨_, RT.pi_revA hg hm wE_ok (star_cons hn), h w re fun v B1 H1 s ⟨a, vs, e, h1, _, h2⟩ => by
    refine ⟨a, vs, e, ?_⟩
    cases t with
    | false => exact .inl ⟨h1, q _ B1 H1 s (its_rev (sq := SqL) (a := a) (vs := vs) vs.length rfl (fun i H x z1 z2 z3 => ⟨z1, vs, x, z2, z3⟩) (fun i H v H' z => z) (fun i H z => z) h2)⟩
    | true => exact .inr ⟨h1, q _ B1 H1 s (its_rev (sq := SqT) (a := a) (vs := vs) vs.length rfl (fun i H x z1 z2 z3 => ⟨z1, vs, x, z2, z3⟩) (fun i H v H' z => z) (fun i H z => z) h2)⟩⟩
end
end G

set_option maxRecDepth 100000
set_option maxHeartbeats 1000000
/-! zip of a list and a tuple, in either order -/
namespace G
open PySem PyProof PyProof.Rows L2
def clsI (t : Bool) : String := if t = true then "tuple_iterator" else "list_iterator"
def isIt (t : Bool) (h : Heap) (a l : Addr) (i : Nat) : Prop := ∃ o, h.get? a = some o ∧ o.cls = .type (clsI t) ∧ o.data = .fields #[.ref l, .int i 0]
def clsS (t : Bool) : String := if t = true then "tuple" else "list"
def isSq (t : Bool) (h : Heap) (a : Addr) (items : Array Value) : Prop := ∃ o, h.get? a = some o ∧ o.cls = .type (clsS t) ∧ ∃ n, o.data = .seq items n
theorem isIt.at {t : Bool} {h h' : Heap} {a l : Addr} {i : Nat} (x : isIt t h a l i) (e : ∀ o, h.get? a = some o → h'.get? a = some o) : isIt t h' a l i := let ⟨o, ho, r⟩ := x; ⟨o, e _ ho, r⟩
theorem isSq.at {t : Bool} {h h' : Heap} {a : Addr} {xs : Array Value} (x : isSq t h a xs) (e : ∀ o, h.get? a = some o → h'.get? a = some o) : isSq t h' a xs := let ⟨o, ho, r⟩ := x; ⟨o, e _ ho, r⟩
theorem drw {prog : Program} {w : World} {A : Around} (t : Bool) (hh : A.handled = none) {it l : Addr} (ne : l ≠ it) (items : Array Value) : Draws prog w A it [it, l] items.size (fun i x => items[i]? = some x) (fun i h => isIt t h it l i ∧ isSq t h l items) where
  live := fun i h st => let ⟨o, ho, _⟩ := st.1; ⟨o, ho⟩
  frame := fun i h h' st k => ⟨st.1.at (k it (by simp)), st.2.at (k l (by simp))⟩
  item := fun i s Q E hi st hQ => by
    have hx : items[i]? = some items[i] := by simp [hi]
    cases t with
    | true => exact RZ.nextOf_tuple_item (l := l) (i := i) st.1 st.2 hx fun h' h1 h2 => hQ _ h' s.toks hx ⟨h1, st.2.at fun o e => (h2.2 l ne).trans e⟩ h2
    | false => exact wpAny_nextOf_list_item (l := l) (i := i) st.1 st.2 hx fun h' h1 h2 => hQ _ h' s.toks hx ⟨h1, st.2.at fun o e => (h2.2 l ne).trans e⟩ h2
  done := fun s Q E st hE => by
    have hx : items[items.size]? = none := by simp
    cases t with
    | true => exact RZ.nextOf_tuple_end hh st.1 st.2 hx hE
    | false => exact wpAny_nextOf_list_end hh st.1 st.2 hx hE
theorem sq_at {X : Cx} {pins : List (Addr × Obj)} {σ : L2.St} {H : Hp} {s : Shared} (I : Inv X pins σ H s) {t : Bool} {a : Addr} {vs : List V} (h : sq t X.K H a vs) : ∃ its : List Value, Vals vs its ∧ isSq t s.heap a its.toArray := by
  cases t with
  | true =>
    obtain ⟨its, r, p, _⟩ := I.tuple h
    exact ⟨its, r, p⟩
  | false =>
    obtain ⟨its, r, p, _⟩ := I.list h
    exact ⟨its, r, p.isList⟩
theorem sq_inj {X : Cx} {pins : List (Addr × Obj)} {σ : L2.St} {H : Hp} {s : Shared} (I : Inv X pins σ H s) {t : Bool} {a : Addr} {vs ws : List V} (h : sq t X.K H a vs) (k : sq t X.K H a ws) : vs = ws := by
  cases t with
  | true => exact I.tuple_inj h k
  | false => exact I.list_inj h k
/-- the two as they stand at each turn -/
def ItzM (t u : Bool) (K : PySem.W.Frag) (a b : Addr) : L2.It :=
  ⟨fun i H => ∃ (xs ys : List V) (x y : V), sq t K H a xs ∧ sq u K H b ys ∧ xs[i]? = some x ∧ ys[i]? = some y,
    fun i H v H' => ∃ T x y, v = .ref T ∧ H T = none ∧ H' = upd H T (.tup [x, y]) ∧ (∀ xs, sq t K H a xs → xs[i]? = some x) ∧ ∀ ys, sq u K H b ys → ys[i]? = some y,
    fun i H => ∃ xs ys : List V, sq t K H a xs ∧ sq u K H b ys ∧ (xs.length = i ∧ i ≤ ys.length ∨ ys.length = i ∧ i ≤ xs.length)⟩
theorem ZipApart.sep {z TI TO i1 i2 l1 l2 : Addr} (D : ZipApart z TI TO i1 i2 l1 l2) : ZipSep2 z TI TO i1 i2 [i1, l1] [i2, l2] where
  TIz := D.TIz
  TOz := D.TOz
  TITO := D.TITO
  TIi1 := D.TIi1
  mem1 := by simp
  zf1 := by simp [D.i1z.symm, D.l1z.symm]
  Tf1 := by simp [D.TOi1, D.l1TO.symm]
  TIi2 := D.TIi2
  mem2 := by simp
  zf2 := by simp [D.i2z.symm, D.l2z.symm]
  Tf2 := by simp [D.TOi2, D.l2TO.symm]
  sep1_2 := by simp [D.i12, D.l2i1.symm]
  sep2_1 := by simp [D.i12.symm, D.l1i2.symm]
theorem turn_zipM {P : Program} {w : World} {K : PySem.W.Frag} {elts : List Expr} {kk : Nat} {tpos : Pos} {t u : Bool} {a b z TI TO i1 i2 : Addr} (D : ZipApart z TI TO i1 i2 a b) :
    Turn P w K (.Tuple elts kk tpos) (ItzM t u K a b) [z, TI, TO, i1, i2] z (fun i h => IsZip h z TI TO .none ∧ IsPair h TI (.ref i1) (.ref i2) ∧ (∃ x y, IsPair h TO x y) ∧ isIt t h i1 a i ∧ isIt u h i2 b i) where
  mem := by simp
  obj := fun i h st c hc => by
    obtain ⟨s1, s2, ⟨x, y, s3⟩, ⟨o1, e1, _, d1⟩, ⟨o2, e2, _, d2⟩⟩ := st
    simp only [List.mem_cons, List.not_mem_nil, or_false] at hc
    rcases hc with rfl | rfl | rfl | rfl | rfl
    · exact ⟨_, s1, by intro v q; cases q⟩
    · exact ⟨_, s2, by intro v q; cases q⟩
    · exact ⟨_, s3, by intro v q; cases q⟩
    · exact ⟨o1, e1, by intro v q; rw [d1] at q; cases q⟩
    · exact ⟨o2, e2, by intro v q; rw [d2] at q; cases q⟩
  keep := fun i h h' st k => ⟨k z (by simp) _ st.1, k TI (by simp) _ st.2.1, (let ⟨x, y, e⟩ := st.2.2.1; ⟨x, y, k TO (by simp) _ e⟩), st.2.2.2.1.at (k i1 (by simp)), st.2.2.2.2.at (k i2 (by simp))⟩
  item := by
    intro X hP hw hK hc i pins s σ H E I hf ⟨s1, s2, ⟨x0, y0, s3⟩, s4, s5⟩ ⟨xs, ys, x, y, hqx, hqy, hx, hy⟩
    subst hP hw hK
    have hh : X.A.in1.handled = none := I.ok.hd hc
    obtain ⟨its, rv, p⟩ := sq_at I hqx
    obtain ⟨its2, rv2, p2⟩ := sq_at I hqy
    have l1 : i < its.toArray.size := by
      have := (List.getElem?_eq_some_iff.mp hx).1
      have := rv.length
      simp; omega
    have l2 : i < its2.toArray.size := by
      have := (List.getElem?_eq_some_iff.mp hy).1
      have := rv2.length
      simp; omega
    obtain ⟨w1, hw1, r1⟩ := rv.get hx
    obtain ⟨w2, hw2, r2⟩ := rv2.get hy
    have hzl : z < s.heap.objs.size := Heap.lt_size s1
    refine wpAny_pyNext_zipD2_item (ZipApart.sep D) (drw t hh D.l1i1 its.toArray) (drw u hh D.l2i2 its2.toArray) s1 s2 s3 ⟨s4, p⟩ ⟨s5, p2⟩ l1 l2 fun a1 a2 h' tk q1 q2 b1 b2 b3 b4 b5 b6 b7 => ?_
    have ea : a1 = w1 := by
      have : its.toArray[i]? = some w1 := by simpa using hw1
      rw [this] at q1
      cases q1
      rfl
    have eb : a2 = w2 := by
      have : its2.toArray[i]? = some w2 := by simpa using hw2
      rw [this] at q2
      cases q2
      rfl
    subst ea eb
    refine ⟨_, rfl, wpAny_letOwnedTupleGo_zip (s := { s with heap := h', toks := tk }) b1 fun h'' z'' sb => ?_⟩
    have hT2 : h''.get? s.heap.objs.size = some { cls := .type "tuple", data := .seq #[a1, a2] } := (sb.2 _ (Nat.ne_of_gt hzl)).trans b5
    have new : ObjOk X.prog X.w (upd H s.heap.objs.size (.tup [x, y])) h'' s.heap.objs.size (.tup [x, y]) :=
      ⟨by show 2 ≤ sizeLine; decide, [a1, a2], .cons r1 (.cons r2 .nil), ⟨_, hT2, rfl, _, rfl⟩⟩
    have I1 : Inv X pins σ (upd H s.heap.objs.size (.tup [x, y])) { s with heap := h'', toks := tk } := by
      refine I.turnedNew (t' := tk) (ch := [z, TI, TO, i1, i2]) (fun c o hb q => ?_) hf (Nat.le_refl _) new
      simp only [List.mem_cons, List.not_mem_nil, or_false, not_or] at hb
      exact (sb.2 c hb.1).trans (b7 c o hb.1 hb.2.2.1 hb.2.2.2.1 hb.2.2.2.2 q)
    refine ⟨.ref s.heap.objs.size, _, I1, rfl, ⟨_, x, y, rfl, I.hok.fresh (Nat.le_refl _), rfl, fun l hl => by rw [sq_inj I hl hqx]; exact hx, fun l hl => by rw [sq_inj I hl hqy]; exact hy⟩, ⟨z'', (sb.2 _ D.TIz).trans (b7 _ _ D.TIz D.TITO D.TIi1 D.TIi2 s2), ⟨a1, a2, (sb.2 _ D.TOz).trans b2⟩, b3.1.at fun o q => (sb.2 _ D.i1z).trans q, b4.1.at fun o q => (sb.2 _ D.i2z).trans q⟩, fun c hcm => ?_⟩
    have hlt : c < s.heap.objs.size := by
      simp only [List.mem_cons, List.not_mem_nil, or_false] at hcm
      rcases hcm with rfl | rfl | rfl | rfl | rfl
      · exact hzl
      · exact Heap.lt_size s2
      · exact Heap.lt_size s3
      · obtain ⟨_, e1, _⟩ := s4; exact Heap.lt_size e1
      · obtain ⟨_, e1, _⟩ := s5; exact Heap.lt_size e1
    rw [upd_ne (Nat.ne_of_lt hlt)]
    exact (hf c hcm).1
  done := by
    intro X hP hw hK hc i pins s σ H E I hf ⟨s1, s2, ⟨x0, y0, s3⟩, s4, s5⟩ ⟨xs, ys, hqx, hqy, hend⟩
    subst hP hw hK
    have hh : X.A.in1.handled = none := I.ok.hd hc
    obtain ⟨its, rv, p⟩ := sq_at I hqx
    obtain ⟨its2, rv2, p2⟩ := sq_at I hqy
    have l1 := rv.length
    have l2 := rv2.length
    refine wpAny_pyNext_zipD2_end (ZipApart.sep D) (drw t hh D.l1i1 its.toArray) (drw u hh D.l2i2 its2.toArray) s1 s2 s3 ⟨s4, p⟩ ⟨s5, p2⟩ (by simp; omega) (by simp; omega) (by simp; omega) fun h' tk hk => ⟨rfl, I.turnedL (t' := tk) (ch := [z, TI, TO, i1, i2]) (fun c o hb q => ?_) hf⟩
    simp only [List.mem_cons, List.not_mem_nil, or_false, not_or] at hb
    exact hk c o hb.1 hb.2.2.1 hb.2.2.2.1 hb.2.2.2.2 q
  self := fun A i s Q E st h => wpAny_pyIter_zip st.1 h
section
variable {prog : Program} {w : World} {A : Around} {E : Value → Shared → Prop} {s : Shared}
theorem pyIter_sq {t : Bool} {l : Addr} {items : Array Value} {Q : Value → Shared → Prop} (h : isSq t s.heap l items)
    (hQ : Q (.ref s.heap.objs.size) { s with heap := s.heap.push { cls := .type (clsI t), data := .fields #[.ref l, .int 0 0] } }) : wpAny (model prog w) A (pyIter (.ref l)) Q E s := by
  cases t with
  | true => exact wpAny_pyIter_tuple h hQ
  | false => exact wpAny_pyIter_list h hQ
end
abbrev mz1 (t : Bool) (h : Heap) (l1 : Addr) : Heap := h.push { cls := .type (clsI t), data := .fields #[.ref l1, .int 0 0] }
abbrev mz2 (t u : Bool) (h : Heap) (l1 l2 : Addr) : Heap := (mz1 t h l1).push { cls := .type (clsI u), data := .fields #[.ref l2, .int 0 0] }
abbrev mz3 (t u : Bool) (h : Heap) (l1 l2 : Addr) : Heap := (mz2 t u h l1 l2).push { cls := .type "tuple", data := .seq #[.ref h.objs.size, .ref (mz1 t h l1).objs.size] }
abbrev mz4 (t u : Bool) (h : Heap) (l1 l2 : Addr) : Heap := (mz3 t u h l1 l2).push { cls := .type "tuple", data := .seq #[.none, .none] }
abbrev mz5 (t u : Bool) (h : Heap) (l1 l2 : Addr) : Heap := (mz4 t u h l1 l2).push { cls := .type "zip", data := .fields #[.none, .bool false, .bool false, .ref (mz2 t u h l1 l2).objs.size, .ref (mz3 t u h l1 l2).objs.size] }
theorem meets_zipM (t u : Bool) (l1 l2 : Addr) (xs ys : Array Value) :
    Meets (Builtin.«zip.__new__» ⟨[.type "zip", .ref l1, .ref l2], []⟩) (fun _ R s => isSq t s.heap l1 xs ∧ isSq u s.heap l2 ys ∧ R (.ok (.ret (.ref (mz4 t u s.heap l1 l2).objs.size))) { s with heap := mz5 t u s.heap l1 l2 }) :=
  .of_wp fun prog w A R s h => by
    obtain ⟨hp, g, d, tk, os⟩ := s
    obtain ⟨q1, q2, h⟩ := h
    have hsub := sub_zip
    have k1 : isSq t (Shared.heap ⟨hp, g, d, tk, os⟩) l1 xs := q1
    have k2 : isSq u (Shared.heap ⟨hp.push { cls := .type (clsI t), data := .fields #[.ref l1, .int 0 0] }, g, d, tk, os⟩) l2 ys := q2.at fun o e => Heap.get?_push_of_some _ e
    wp_walk using pyIter_sq k1, pyIter_sq k2
    exact ⟨_, rfl, h⟩
theorem call_zipM {prog : Program} {w : World} {A : Around} {E : Value → Shared → Prop} {s : Shared} {t u : Bool} {l1 l2 : Addr} {xs ys : Array Value} {Q : Value → Shared → Prop} (q1 : isSq t s.heap l1 xs) (q2 : isSq u s.heap l2 ys)
    (h : ∀ h', IsZip h' (s.heap.objs.size + 4) (s.heap.objs.size + 2) (s.heap.objs.size + 3) .none → IsPair h' (s.heap.objs.size + 2) (.ref s.heap.objs.size) (.ref (s.heap.objs.size + 1)) →
      IsPair h' (s.heap.objs.size + 3) .none .none → isIt t h' s.heap.objs.size l1 0 → isIt u h' (s.heap.objs.size + 1) l2 0 → (∀ c o, s.heap.get? c = some o → h'.get? c = some o) → Q (.ref (s.heap.objs.size + 4)) { s with heap := h' }) :
    wpAny (model prog w) A (call (.type "zip") [.ref l1, .ref l2]) Q E s := by
  refine callType_new F.called_zip (by decide) (F.typeCall_zip_2 _ _) (F.newCall_zip_2 _ _) (fun obj => F.args_object_init_3 obj _ _) F.entry_zip_new (meets_zipM t u l1 l2 xs ys) ⟨q1, q2, ?_⟩
  have n1 : (mz1 t s.heap l1).objs.size = s.heap.objs.size + 1 := Heap.size_push ..
  have n2 : (mz2 t u s.heap l1 l2).objs.size = s.heap.objs.size + 2 := by rw [Heap.size_push, n1]
  have n3 : (mz3 t u s.heap l1 l2).objs.size = s.heap.objs.size + 3 := by rw [Heap.size_push, n2]
  have n4 : (mz4 t u s.heap l1 l2).objs.size = s.heap.objs.size + 4 := by rw [Heap.size_push, n3]
  have up : ∀ {h : Heap} {c : Addr} {o p : Obj}, h.get? c = some o → (h.push p).get? c = some o := fun e => Heap.get?_push_of_some _ e
  have e5 : (mz5 t u s.heap l1 l2).get? (mz4 t u s.heap l1 l2).objs.size = some _ := Heap.get?_push_size _ rfl
  have e4 : (mz5 t u s.heap l1 l2).get? (mz3 t u s.heap l1 l2).objs.size = some _ := up (Heap.get?_push_size _ rfl)
  have e3 : (mz5 t u s.heap l1 l2).get? (mz2 t u s.heap l1 l2).objs.size = some _ := up (up (Heap.get?_push_size _ rfl))
  have e2 : (mz5 t u s.heap l1 l2).get? (mz1 t s.heap l1).objs.size = some _ := up (up (up (Heap.get?_push_size _ rfl)))
  have e1 : (mz5 t u s.heap l1 l2).get? s.heap.objs.size = some _ := up (up (up (up (Heap.get?_push_size _ rfl))))
  show _ ∧ _
  rw [n2, n3, n4] at e5
  rw [n1, n2] at e3
  rw [n3] at e4
  rw [n1] at e2
  rw [n4]
  exact ⟨⟨_, e5, rfl⟩, h _ e5 e3 e4 ⟨_, e1, rfl, rfl⟩ ⟨_, e2, rfl, rfl⟩ fun c o x => up (up (up (up (up x))))⟩
def iZipM (K : PySem.W.Frag) (t u : Bool) (ta : TA) : L2.TI := fun σ H R => ta σ H fun vs H1 => ∃ a b xs ys, vs = [.ref a, .ref b] ∧ sq t K H1 a xs ∧ sq u K H1 b ys ∧ R (ItzM t u K a b) H1
theorem pi_zipM {X : Cx} {e e2 : Expr} {ta : TA} {p pos tpos : Pos} {elts : List Expr} {kk : Nat} {t u : Bool} (hg : Gl X "zip") (hm : X.mg "zip" = none) (ha : PA X [e, e2] ta)
    (hs : starEach [e, e2] X.env = (false, eval e X.env) :: starEach [e2] X.env) (hpl : (backTo pos (starEach [e2] X.env)).any (·.1) = false) :
    PI X (.Tuple elts kk tpos) (.Call (.Name "zip" p) [e, e2] [] pos) (iZipM X.K t u ta) := by
  refine ⟨fun pins s σ H R I h => ?_⟩
  refine Call_ (ld_blt I hg hm PyProof.Rows.boot_zip (PyProof.Rows.callWith_type1 (thn (ha.run pos pins s σ H _ I h) fun us s1 ⟨vs, H1, I1, r1, a, b, xs, ys, ex, q1, q2, q⟩ => ?_) hs hpl))
  subst ex
  cases r1 with
  | cons r rr =>
    cases rr with
    | cons r' rr =>
      cases rr
      cases r
      cases r'
      obtain ⟨its, rv, p1⟩ := sq_at I1 q1
      obtain ⟨its2, rv2, p2⟩ := sq_at I1 q2
      have g1 : a < s1.heap.objs.size := let ⟨_, e1, _⟩ := p1; Heap.lt_size e1
      have g2 : b < s1.heap.objs.size := let ⟨_, e1, _⟩ := p2; Heap.lt_size e1
      refine call_zipM p1 p2 fun h' y1 y2 y3 y4 y5 hk => wpAny_pyIter_zip y1 ?_
      refine ⟨s1.heap.objs.size + 4, [s1.heap.objs.size + 4, s1.heap.objs.size + 2, s1.heap.objs.size + 3, s1.heap.objs.size, s1.heap.objs.size + 1], _, _, H1, rfl, I1.kept (t' := s1.toks) hk, turn_zipM (PySem.W.ktu_apart s1.heap.objs.size a b g1 g2), ⟨y1, y2, ⟨_, _, y3⟩, y4, y5⟩, fun c hc => ?_, q⟩
      have hle : s1.heap.objs.size ≤ c := by
        simp only [List.mem_cons, List.not_mem_nil, or_false] at hc
        rcases hc with rfl | rfl | rfl | rfl | rfl <;> omega
      exact I1.fpOk hle (I1.hok.fresh hle)
section
variable {X : Cx} {env : Env} {e1 e2 tg : Expr} {ps qs : List P} {m t u : Bool} {pos p1 : Pos}
theorem its_zipM {K : PySem.W.Frag} {R : Hp → Hp → Prop} {a b : Addr} {vs ws : List V} (r : ∀ B H, R B H → Ext B H → sq t K H a vs ∧ RPs K B vs ps ∧ sq u K H b ws ∧ RPs K B ws qs) : ItS K (ItzM t u K a b) (zipP ps qs) R where
  go := fun i B H hR e hi => by
    obtain ⟨h1, h2, h3, h4⟩ := r B H hR e
    rw [zip_len, ← h2.len, ← h4.len] at hi
    exact ⟨vs, ws, _, _, h1, h3, List.getElem?_eq_getElem (by omega), List.getElem?_eq_getElem (by omega)⟩
  yld := fun i B H x H' p hR e hp hy => by
    obtain ⟨h1, h2, h3, h4⟩ := r B H hR e
    obtain ⟨T, y, z, rfl, hT, rfl, k1, k2⟩ := hy
    obtain ⟨p1, e1, r1⟩ := h2.getV (k1 _ h1)
    obtain ⟨p2, e2, r2⟩ := h4.getV (k2 _ h3)
    have ep : p = .tuple [p1, p2] := by
      unfold zipP at hp
      rw [List.getElem?_zipWith, e1, e2] at hp
      cases hp
      rfl
    subst ep
    have s := Stp.layB (o := .tup [y, z]) e hT
    exact ⟨_, s, .tup (.of upd_same) (.cons (r1.stp s) (.cons (r2.stp s) .nil))⟩
  stop := fun i B H hR e hi => by
    obtain ⟨h1, h2, h3, h4⟩ := r B H hR e
    rw [zip_len, ← h2.len, ← h4.len] at hi
    exact ⟨vs, ws, h1, h3, by omega⟩
theorem snm_zipM {es : List Expr} {k : Nat} {tp : Pos} (hg : Gl X "zip") (hm : X.mg "zip" = none) (hn : nst e1 = true) (hn2 : nst e2 = true) (h : SndS m t X env e1 ps) (h2 : SndS m u X env e2 qs) :
    SndM m X env (.Tuple es k tp) (.Call (.Name "zip" p1) [e1, e2] [] pos) (zipP ps qs) := fun _ _ _ _ _ w re q =>
  ⟨_, pi_zipM hg hm wA_ok (star_cons hn) (star_any (by simp [hn2])), wA_two hn hn2 (h w re fun v B1 H1 s a1 => h2 (w.stp s re.has) (re.stp s) fun v2 B2 H2 s2 ⟨b, ws, eb, k1, _, k2⟩ => by
    obtain ⟨a, vs, ea, j1, _, j2⟩ := a1.stp s2
    refine ⟨a, b, vs, ws, by rw [ea, eb], j1, k1, q _ B2 H2 (s.trans s2) (its_zipM (vs := vs) (ws := ws) fun B H c e => ?_)⟩
    obtain ⟨x1, x2⟩ := j2 B H c e
    obtain ⟨x3, x4⟩ := k2 B H c e
    exact ⟨x1, x2, x3, x4⟩)⟩
end
end G

set_option maxRecDepth 100000
namespace G
open PySem L2
variable {T : Tb} {N : List Str}
/-! ### targets -/
def gNames : List Nat → TGs
  | [] => gNil
  | i :: is => gCons (gName i) (gNames is)
def gOf (K : PySem.W.Frag) : Tg → TG
  | .nm i => gName i
  | .tp is => gTup K is.length (gNames is)
theorem chk_tg {X : Cx} {c : Ct} {sc so : Scope} {k : Nat} (hx : XOk T c N sc so k X) {i : Nat} {e : Expr} (h : tgE sc so N i e = true) : PG X e (gName i) := by
  unfold tgE at h
  split at h
  · rw [Bool.and_eq_true, Bool.and_eq_true, decide_eq_true_eq] at h
    refine pg_name (by rw [hx.n]; exact hx.nd) (by rw [hx.n]; exact h.1.1) ?_ (hx.fn _ h.2)
    rw [hx.sc]
    exact loc_ok h.1.2
  · cases h
theorem tg_nm {sc so : Scope} {i : Nat} {e : Expr} (h : tgE sc so N i e = true) : ∃ x p, e = .Name x p := by
  unfold tgE at h
  split at h
  · exact ⟨_, _, rfl⟩
  · cases h
theorem chk_tgs {X : Cx} {c : Ct} {sc so : Scope} {k : Nat} (hx : XOk T c N sc so k X) : ∀ {is : List Nat} {es : List Expr}, tgEs sc so N is es = true → PGs X es (gNames is) ∧ (assignEach es X.env).length = is.length ∧ (assignEach es X.env).all (fun q => !q.1) = true
  | [], [], _ => ⟨pgs_nil, rfl, rfl⟩
  | i :: is, e :: es, h => by
    unfold tgEs at h
    rw [Bool.and_eq_true] at h
    obtain ⟨h1, h2, h3⟩ := chk_tgs hx h.2
    obtain ⟨x, p, rfl⟩ := tg_nm h.1
    exact ⟨pgs_cons (chk_tg hx h.1) h1, congrArg (· + 1) h2, h3⟩
  | [], _ :: _, h => by cases h
  | _ :: _, [], h => by cases h
theorem chk_Tg {X : Cx} {c : Ct} {sc so : Scope} {k : Nat} (hx : XOk T c N sc so k X) {tg : Tg} {e : Expr} (h : chkTg sc so N tg e = true) : PG X e (gOf X.K tg) := by
  unfold chkTg at h
  split at h
  · exact chk_tg hx h
  · obtain ⟨h1, h2, h3⟩ := chk_tgs hx h
    refine pg_tup hx.calm h1 h2 ?_
    rw [List.findIdx?_eq_none_iff]
    intro q hq
    have := List.all_eq_true.mp h3 q hq
    simpa using this
  · cases h
/-- slots stored one behind the other -/
def sets {α : Type} : List Nat → List α → List (Option α) → List (Option α)
  | i :: is, v :: vs, σ => sets is vs (σ.set i (some v))
  | _, _, σ => σ
theorem sets_len {α : Type} : ∀ (is : List Nat) (vs : List α) (σ : List (Option α)), (sets is vs σ).length = σ.length
  | [], _, _ => rfl
  | _ :: _, [], _ => rfl
  | i :: is, v :: vs, σ => by rw [sets, sets_len, List.length_set]
theorem sets_out {α : Type} : ∀ (is : List Nat) (vs : List α) (σ : List (Option α)) (j : Nat), j ∉ is → (sets is vs σ)[j]? = σ[j]?
  | [], _, _, _, _ => rfl
  | _ :: _, [], _, _, _ => rfl
  | i :: is, v :: vs, σ, j, h => by
    rw [sets, sets_out is vs _ j (fun z => h (by simp [z])), List.getElem?_set_ne (fun z => h (by simp [z]))]
theorem wipe_get (σ : L2.St) : ∀ (vs : List Nat) (j : Nat), (wipe σ vs)[j]? = if j ∈ vs ∧ j < σ.length then some none else σ[j]?
  | [], j => by simp [wipe]
  | v :: vs, j => by
    unfold wipe
    by_cases h : v = j
    · subst h
      by_cases hl : v < σ.length
      · rw [List.getElem?_set_self (by rw [wipe_length]; exact hl), if_pos ⟨by simp, hl⟩]
      · rw [List.getElem?_eq_none (by rw [List.length_set, wipe_length]; omega), if_neg (fun z => hl z.2), List.getElem?_eq_none (by omega)]
    · rw [List.getElem?_set_ne h, wipe_get σ vs j]
      by_cases hm : j ∈ vs ∧ j < σ.length
      · rw [if_pos hm, if_pos ⟨by simp [hm.1], hm.2⟩]
      · rw [if_neg hm, if_neg (fun z => hm ⟨by
          rcases List.mem_cons.mp z.1 with e | e
          · exact absurd e.symm h
          · exact e, z.2⟩)]
theorem wipe_sets (σ : L2.St) (is : List Nat) (vs : List V) : wipe (sets is vs (wipe σ is)) is = wipe σ is := by
  refine List.ext_getElem? fun j => ?_
  rw [wipe_get, wipe_get, sets_len, wipe_length]
  by_cases hm : j ∈ is ∧ j < σ.length
  · rw [if_pos hm, if_pos hm]
  · rw [if_neg hm, if_neg hm]
    by_cases hj : j ∈ is
    · have hl : ¬ j < σ.length := fun z => hm ⟨hj, z⟩
      rw [List.getElem?_eq_none (by rw [sets_len, wipe_length]; omega), List.getElem?_eq_none (by omega)]
    · rw [sets_out _ _ _ _ hj, wipe_get, if_neg hm]
section
variable {K : PySem.W.Frag} {B H : Hp}
theorem REnv.setP {σ : L2.St} {env : Env} {f : List Addr} (r : REnv K B H σ env f) (w : Wld B H f) (i : Nat) {v : V} {p : P} (h : RP K B v p) : ∃ f', REnv K B H (σ.set i (some v)) (env.set i (some (.pl p))) f' ∧ Wld B H f' ∧ ∀ a ∈ f', a ∈ f := by
  by_cases hi : i < env.length
  · obtain ⟨g, r', f', h1, h2, h3⟩ := r.put (g := []) hi (.pl h)
    have w2 := ((w.perm h1).right).perm h2.symm
    exact ⟨f', h3, w2, fun a ha => h1.mem_iff.mpr (List.mem_append_right _ (by simpa using h2.mem_iff.mp ha))⟩
  · have hl := r.len
    rw [List.set_eq_of_length_le (by omega), List.set_eq_of_length_le (by omega)]
    exact ⟨f, r, w, fun _ z => z⟩
theorem REnv.sets {env : Env} : ∀ {is : List Nat} {vs : List V} {ps : List P} {σ : L2.St} {env : Env} {f : List Addr}, REnv K B H σ env f → Wld B H f → RPs K B vs ps → is.length = ps.length →
    ∃ f', REnv K B H (G.sets is vs σ) ((is.zip ps).foldl (fun e x => e.set x.1 (some (.pl x.2))) env) f' ∧ Wld B H f' ∧ ∀ a ∈ f', a ∈ f
  | [], _, [], _, _, f, r, w, q, _ => ⟨f, r, w, fun _ z => z⟩
  | i :: is, _, p :: ps, σ, env, f, r, w, .cons h q, hl => by
    obtain ⟨f1, r1, w1, s1⟩ := r.setP w i h
    obtain ⟨f2, r2, w2, s2⟩ := REnv.sets (env := env) r1 w1 q (by simpa using hl)
    exact ⟨f2, r2, w2, fun a ha => s1 a (s2 a ha)⟩
  | [], _, _ :: _, _, _, _, _, _, _, h => by cases h
  | _ :: _, _, [], _, _, _, _, _, _, h => by cases h
theorem gNames_ok {σ' : L2.St} : ∀ {is : List Nat} {vs : List V} {σ : L2.St} {Q : L2.St → Hp → Prop}, is.length = vs.length → Q (G.sets is vs σ) H → gNames is vs σ H Q
  | [], [], _, _, _, q => ⟨rfl, q⟩
  | i :: is, v :: vs, σ, Q, h, q => ⟨v, vs, rfl, gNames_ok (σ' := σ') (by simpa using h) q⟩
  | [], _ :: _, _, _, h, _ => by cases h
  | _ :: _, [], _, _, h, _ => by cases h
/-- a target takes p -/
theorem tg_ok {σ : L2.St} {env env1 : Env} {f : List Addr} {tg : Tg} {v : V} {p : P} {Q : L2.St → Hp → Prop} (r : REnv K B H σ env f) (w : Wld B H f) (h : RP K B v p) (hs : setTg env tg p = some env1)
    (q : ∀ σ1 f', (∃ vs, σ1 = G.sets (tgIs tg) vs σ) → REnv K B H σ1 env1 f' → Wld B H f' → (∀ a ∈ f', a ∈ f) → Q σ1 H) : gOf K tg v σ H Q := by
  unfold setTg at hs
  split at hs
  · cases hs
    obtain ⟨f', r', w', s'⟩ := r.setP w _ h
    exact q _ f' ⟨[v], rfl⟩ r' w' s'
  · split at hs
    · rename_i is ps c
      cases hs
      cases h with
      | tup h1 h2 =>
        obtain ⟨f', r', w', s'⟩ := REnv.sets (env := env) r w h2 c
        exact ⟨_, _, rfl, w.bh.sqT h1, by rw [h2.len, c], gNames_ok (σ' := σ) (by rw [h2.len, c]) (q _ f' ⟨_, rfl⟩ r' w' s')⟩
    · cases hs
  · cases hs
theorem REnv.setNone {σ : L2.St} {env : Env} {f : List Addr} (r : REnv K B H σ env f) (w : Wld B H f) (i : Nat) : ∃ f', REnv K B H (σ.set i none) (env.set i none) f' ∧ Wld B H f' ∧ ∀ a ∈ f', a ∈ f := by
  induction r generalizing i with
  | nil => exact ⟨[], .nil, w, fun _ z => z⟩
  | @non v σ env f q ih =>
    cases i with
    | zero => exact ⟨f, .non q, w, fun _ z => z⟩
    | succ i =>
      obtain ⟨f', h1, h2, h3⟩ := ih w i
      exact ⟨f', .non h1, h2, h3⟩
  | @som v o σ env f g hr q ih =>
    cases i with
    | zero => exact ⟨g, .non q, w.right, fun a z => by simp [z]⟩
    | succ i =>
      obtain ⟨f', h1, h2, h3⟩ := ih w.right i
      refine ⟨f ++ f', .som hr h1, ⟨w.bh, List.nodup_append.mpr ⟨w.left.nd, h2.nd, fun a ha b hb z => ?_⟩, fun a ha => (List.mem_append.mp ha).elim (w.left.out a) (h2.out a)⟩, fun a ha => ?_⟩
      · exact (List.nodup_append.mp w.nd).2.2 a ha b (h3 b hb) z
      · rcases List.mem_append.mp ha with z | z
        · simp [z]
        · simp [h3 a z]
theorem REnv.wipe {σ : L2.St} {env : Env} {f : List Addr} (r : REnv K B H σ env f) (w : Wld B H f) : ∀ own : List Nat, ∃ f', REnv K B H (L2.wipe σ own) (wipeE env own) f' ∧ Wld B H f' ∧ ∀ a ∈ f', a ∈ f
  | [] => ⟨f, r, w, fun _ z => z⟩
  | i :: own => by
    obtain ⟨f1, r1, w1, s1⟩ := r.wipe w own
    obtain ⟨f2, r2, w2, s2⟩ := r1.setNone w1 i
    exact ⟨f2, r2, w2, fun a ha => s1 a (s2 a ha)⟩
end
end G

set_option maxRecDepth 100000
namespace G
open PySem L2
variable {T : Tb} {N : List Str}
/-- the contexts of a comprehension's block -/
def BX (X : Cx) (scope : Scope) (X' : Cx) : Prop := ∃ (s : Shared) (H : Hp) (C : Addr) (cl : List (Str × Addr)) (fp : List Addr), X' = X.blk s H scope (compEnvC scope cl C X.env) fp
theorem relS_local {scope sc : Scope} {x : Str} (h : scope.names.lookup x = some .local) : (relS scope sc).names.lookup x = some .local := by
  unfold relS
  show (scope.names.map _).lookup x = _
  generalize scope.names = l at h
  induction l with
  | nil => cases h
  | cons q l ih =>
    obtain ⟨n, k⟩ := q
    rw [List.map_cons]
    by_cases hx : (x == n) = true
    · rw [List.lookup_cons, hx] at h
      cases h
      show List.lookup x ((if ((NameKind.local == .free && sc.kind == .function && sc.names.lookup n == some .cell) = true) then (n, NameKind.cell) else (n, NameKind.local)) :: _) = _
      rw [if_neg (by simp), List.lookup_cons, hx]
    · have hx' : (x == n) = false := by simpa using hx
      rw [List.lookup_cons, hx'] at h
      show List.lookup x ((if ((k == .free && sc.kind == .function && sc.names.lookup n == some .cell) = true) then (n, NameKind.cell) else (n, k)) :: _) = _
      split <;> (rw [List.lookup_cons, hx']; exact ih h)
theorem blk_ok {X X' : Cx} {c : Ct} {sc so scope : Scope} {k : Nat} (hx : XOk T c N sc so k X) (h : BX X scope X') : XOk T c N (relS scope sc) scope k X' := by
  obtain ⟨s, H, C, cl, fp, rfl⟩ := h
  refine ⟨hx.n, ?_, hx.nd, hx.calm, fun x hl => ?_, hx.room, hx.fns, hx.gls, hx.blt, hx.isi, hx.rng, hx.enu, hx.zip, hx.rev, hx.ty, .never⟩
  · show relS scope X.env.scope = _
    rw [hx.sc]
  · unfold locB at hl
    split at hl
    · rename_i e
      exact .inr (relS_local e)
    · rename_i e
      refine .inl ?_
      show (scope.names.lookup x == some .cell) = true
      rw [e]
      rfl
    · cases hl
def wTs (X : Cx) (es : List Expr) : TT := fun σ H Q => ∃ t, PTs X es t ∧ t σ H Q
theorem wTs_ok {X : Cx} {es : List Expr} : PTs X es (wTs X es) := ⟨fun pins s σ H Q I ⟨_, h, q⟩ => h.run pins s σ H Q I q⟩
def SndTs (X : Cx) (env : Env) (es : List Expr) (b : Bool) : Prop := ∀ ⦃B H : Hp⦄ ⦃σ : L2.St⦄ ⦃fp : List Addr⦄ ⦃Q : Bool → Hp → Prop⦄, Wld B H fp → REnv X.K B H σ env fp → (∀ B' H', Stp B H B' H' → Q b H') → wTs X es σ H Q
theorem snts_nil {X : Cx} {env : Env} : SndTs X env [] true := fun _ _ _ _ _ w re q => ⟨_, pts_nil, q _ _ (.refl w.bh)⟩
theorem snts_one {X : Cx} {env : Env} {e : Expr} {b : Bool} (h : SndT X env e b) : SndTs X env [e] b := fun _ _ _ _ _ w re q => ⟨_, pts_one wT_ok, h w re q⟩
theorem mapO_get {α β : Type} {f : α → Option β} : ∀ {xs : List α} {ys : List β}, mapO f xs = some ys → xs.length = ys.length ∧ ∀ (i : Nat) (x : α), xs[i]? = some x → ∃ y, f x = some y ∧ ys[i]? = some y
  | [], ys, h => by
    rw [mapO] at h
    cases h
    exact ⟨rfl, fun i x z => by simp at z⟩
  | x :: xs, ys, h => by
    rw [mapO] at h
    split at h
    · rename_i y zs h1 h2
      cases h
      obtain ⟨l, g⟩ := mapO_get h2
      refine ⟨by rw [List.length_cons, List.length_cons, l], fun i w z => ?_⟩
      cases i with
      | zero =>
        simp at z
        subst z
        exact ⟨y, h1, rfl⟩
      | succ i =>
        obtain ⟨u, e1, e2⟩ := g i w (by simpa using z)
        exact ⟨u, e1, by simpa using e2⟩
    · cases h
theorem ROs.app {K : PySem.W.Frag} {B H : Hp} {vs ws : List V} {os ps : List O} {f g : List Addr} (r : ROs K B H vs os f) (q : ROs K B H ws ps g) : ROs K B H (vs ++ ws) (os ++ ps) (f ++ g) := by
  induction os generalizing vs f with
  | nil => cases r; exact q
  | cons o os ih =>
    cases r with
    | cons h r =>
      rw [List.append_assoc]
      exact .cons h (ih r)
theorem own_ix : ∀ {own : List Nat} {r : List (Str × Nat)}, ownOf N own = some r → r.map (·.2) = own
  | [], _, h => by
    rw [ownOf] at h
    cases h
    rfl
  | i :: is, r, h => by
    rw [ownOf] at h
    split at h
    · rename_i x r' h1 h2
      cases h
      rw [List.map_cons, own_ix h2]
    · cases h
theorem lcB_some {c : Ct} {env : Env} {own : List Nat} {tg : Tg} {cd : Ox} {e : Ex} {p : P} {q : Option O} (h : lcB c env own tg cd e p = some q) : ∃ env1 b, setTg (wipeE env own) tg p = some env1 ∧ evC c env1 cd = some (.pl (.bool b)) ∧ (b = true → ∃ o, evR c env1 e = some o ∧ q = some o) ∧ (b = false → q = none) := by
  unfold lcB lcF at h
  split at h
  · rename_i env1 h1
    unfold ifB at h
    split at h
    · rename_i b h2
      refine ⟨env1, b, h1, h2, fun z => ?_, fun z => ?_⟩
      · subst z
        rw [if_pos rfl] at h
        split at h
        · rename_i o h3
          cases h
          exact ⟨o, h3, rfl⟩
        · cases h
      · subst z
        rw [if_neg (by decide)] at h
        cases h
        rfl
    · cases h
  · cases h
/-- a comprehension's parts, and what its list is -/
def LcOk (X : Cx) (env : Env) (scope : Scope) (tgE iter elt : Expr) (ifs : List Expr) (o : O) : Prop := ∃ (own : List (Str × Nat)) (wi : TI) (g : TG) (tt : TT) (te : TE), X.calm = true ∧ X.N.Nodup ∧ PI X tgE iter wi ∧ BlkOk X.N X.env.scope scope own ∧
  (∀ (s : Shared) (H : Hp) (C : Addr) (cl : List (Str × Addr)) (fp : List Addr), PG (X.blk s H scope (compEnvC scope cl C X.env) fp) tgE g) ∧
  (∀ (s : Shared) (H : Hp) (C : Addr) (cl : List (Str × Addr)) (fp : List Addr), PTs (X.blk s H scope (compEnvC scope cl C X.env) fp) ifs tt) ∧
  (∀ (s : Shared) (H : Hp) (C : Addr) (cl : List (Str × Addr)) (fp : List Addr), PE (X.blk s H scope (compEnvC scope cl C X.env) fp) elt te) ∧ (∀ x, foldedSetIterable iter X.env x = pure x) ∧
  ∀ ⦃B H : Hp⦄ ⦃σ : L2.St⦄ ⦃fp : List Addr⦄ ⦃Q : VK⦄, Wld B H fp → REnv X.K B H σ env fp → Gv X.K B H o Q → tLc wi g tt te (own.map (·.2)) σ H Q
theorem lc_ok {X : Cx} {c : Ct} {sc so scope : Scope} {k : Nat} (hx : XOk T c N sc so k X) {env : Env} {own : List Nat} {tg : Tg} {cd : Ox} {e : Ex} {tgE iter elt : Expr} {ifs : List Expr} {pos : Pos} {o : O} {ps : List P} {os : List (Option O)}
    (ho : ownB N sc scope own = true) (hw : own = tgIs tg) (htg : chkTg (relS scope sc) scope N tg tgE = true) (hi : SndM true X env tgE iter ps) (hs : ∀ x, foldedSetIterable iter X.env x = pure x)
    (ht : ∀ X', XOk T c N (relS scope sc) scope k X' → ∀ env1 b, evC c env1 cd = some (.pl (.bool b)) → SndTs X' env1 ifs b) (he : ∀ X', XOk T c N (relS scope sc) scope k X' → ∀ env1 o, evR c env1 e = some o → Snd X' env1 elt o)
    (hn : ps.length ≤ 1000000) (hm : mapO (lcB c env own tg cd e) ps = some os) (h : mkL (os.filterMap id) = some o) : LcOk X env scope tgE iter elt ifs o := by
  unfold ownB at ho
  split at ho
  case h_2 => cases ho
  rename_i r hr
  have hix := own_ix hr
  obtain ⟨hlen, hget⟩ := mapO_get hm
  refine ⟨r, wI X tgE iter, gOf X.K tg, fun σ H Q => ∀ X', BX X scope X' → wTs X' ifs σ H Q, fun σ H Q => ∀ X', BX X scope X' → wE X' elt σ H Q, hx.calm, by rw [hx.n]; exact hx.nd, wI_ok, by rw [hx.n, hx.sc]; exact blkOk_by ho,
    fun s H C cl fp => chk_Tg (blk_ok hx ⟨s, H, C, cl, fp, rfl⟩) htg, fun s H C cl fp => ⟨fun pins s' σ H' Q I z => wTs_ok.run pins s' σ H' Q I (z _ ⟨s, H, C, cl, fp, rfl⟩)⟩,
    fun s H C cl fp => ⟨fun pins s' σ H' Q I z => wE_ok.run pins s' σ H' Q I (z _ ⟨s, H, C, cl, fp, rfl⟩)⟩, hs, ?_⟩
  intro B H σ fp Q w re q
  refine hi w re fun J B1 H1 s1 it => ?_
  intro D hD
  rw [hix]
  have w1 := w.stp s1 re.has
  have re1 := re.stp s1
  obtain ⟨fw, rw1, ww1, sw1⟩ := re1.wipe w1 own
  have hB1D := s1.bh.none hD
  refine ⟨fun i m H' => m = ps.length - i ∧ i ≤ ps.length ∧ ∃ B' vs f, Stp B1 H1 B' H' ∧ B' D = none ∧ H' D = some (.lst vs) ∧ ROs X.K B' H' vs ((os.take i).filterMap id) f ∧ Frs H1 B' f ∧ D ∉ f,
    ⟨_, rfl, Nat.zero_le _, B1, [], [], .lay s1.bh hD, hB1D, upd_same, .nil, .nil, by simp⟩, ?_⟩
  rintro i m H' ⟨rfl, hil, B', vs, f, s2, bD, hD', rv, fr, nf⟩
  by_cases hlt : i < ps.length
  · refine .inr ⟨it.go i B' H' ⟨s2.b, fun _ => s2.h⟩ s2.bh hlt, fun H5 => i + 1 ≤ ps.length ∧ ∃ B5 vs f, Stp B1 H1 B5 H5 ∧ B5 D = none ∧ H5 D = some (.lst vs) ∧ ROs X.K B5 H5 vs ((os.take (i + 1)).filterMap id) f ∧ Frs H1 B5 f ∧ D ∉ f,
      fun H5 h5 => ⟨_, by omega, rfl, h5⟩, fun x H2 hy => ?_⟩
    have hp := List.getElem?_eq_getElem hlt
    obtain ⟨B2, s3, rp⟩ := it.yld i B' H' x H2 _ ⟨s2.b, fun _ => s2.h⟩ s2.bh hp hy
    obtain ⟨qi, hq1, hq2⟩ := hget i _ hp
    obtain ⟨env1, b, e1, e2, e3, e4⟩ := lcB_some hq1
    have s12 := s2.trans s3
    have tk : os.take (i + 1) = os.take i ++ [qi] := by rw [List.take_add_one, hq2]; rfl
    refine tg_ok (rw1.stp s12) (ww1.stp s12 rw1.has) rp e1 fun σ1 f1 ⟨ws, hσ1⟩ r1 w2 _ => ⟨?_, ?_⟩
    · rw [hσ1, hw]
      exact wipe_sets σ (tgIs tg) ws
    · intro X' hX'
      have hx' := blk_ok hx hX'
      have hK : X'.K = X.K := by
        obtain ⟨_, _, _, _, _, rfl⟩ := hX'
        rfl
      refine ht X' hx' env1 b e2 w2 (by rw [hK]; exact r1) fun B3 H3 s4 => ?_
      have s13 := s12.trans s4
      have hD3 : H3 D = some (.lst vs) := s4.h _ _ (s3.h _ _ hD')
      cases b with
      | false =>
        refine iteF ⟨hlt, B3, vs, f, s13, ?_, hD3, ?_, fr.stp (s3.trans s4) rv.has, nf⟩
        · exact (s3.trans s4).out (f := [D]) (by simp [hD']) (by simpa using bD) D (by simp)
        · rw [tk, List.filterMap_append, e4 rfl]
          simpa using rv.stp (s3.trans s4)
      | true =>
        obtain ⟨oi, ev, rfl⟩ := e3 rfl
        refine iteT fun X'' hX'' => ?_
        have hx'' := blk_ok hx hX''
        have hK' : X''.K = X.K := by
          obtain ⟨_, _, _, _, _, rfl⟩ := hX''
          rfl
        refine he X'' hx'' env1 oi ev (w2.stp s4 r1.has) (by rw [hK']; exact r1.stp s4) fun y B4 H4 f4 s5 r4 n4 => ?_
        rw [hK'] at r4
        have s34 := (s3.trans s4).trans s5
        have hD4 : H4 D = some (.lst vs) := s5.h _ _ hD3
        have bD4 : B4 D = none := s34.out (f := [D]) (by simp [hD']) (by simpa using bD) D (by simp)
        have lv : vs.length ≤ i := by
          rw [rv.len]
          refine Nat.le_trans (List.length_filterMap_le _ _) ?_
          rw [List.length_take]
          omega
        have nf4 : D ∉ f4 := fun z => by
          have := n4.new D z
          rw [hD3] at this
          cases this
        refine ⟨vs, hD4, by rw [line_eq]; omega, hlt, B4, vs ++ [y], f ++ f4, ?_, bD4, upd_same, ?_, ?_, by simp [nf, nf4]⟩
        · have s15 := s13.trans s5
          refine ⟨s15.b, fun a u z => ?_, fun a u z => ?_, s15.new⟩
          · rw [upd_ne (ne_of_none z hD)]
            exact s15.h a u z
          · rw [upd_ne (ne_of_none z bD4)]
            exact s15.bh a u z
        · rw [tk, List.filterMap_append]
          have z : ROs X.K B4 (upd H4 D (.lst (vs ++ [y]))) [y] [oi] (f4 ++ []) := .cons (r4.mono (.refl _) fun a ha u z => by
            rw [upd_ne (fun e => nf4 (by rw [← e]; exact ha))]
            exact z) .nil
          rw [List.append_nil] at z
          exact (rv.mono s34.b fun a ha u z => by
            rw [upd_ne (fun e => nf (by rw [← e]; exact ha))]
            exact s34.h a u z).app (by simpa using z)
        · exact (fr.stp s34 rv.has).app ((s2.trans (s3.trans s4)).h) (fun a ha => by
            have := rv.has a ha
            cases z : H' a with
            | none => exact absurd z this
            | some u => rw [(s3.trans s4).h a u z]; simp) n4
  · have ei : i = ps.length := by omega
    subst ei
    refine .inl ⟨it.stop _ B' H' ⟨s2.b, fun _ => s2.h⟩ s2.bh rfl, ?_⟩
    rw [hlen, List.take_length] at rv
    unfold mkL at h
    split at h
    · have fr' : Frs H B' (D :: f) := (⟨List.nodup_cons.mpr ⟨nf, fr.nd⟩, fun a ha => by
        rcases List.mem_cons.mp ha with z | z
        · rw [z]; exact hD
        · exact fr.new a z, fun a ha => by
        rcases List.mem_cons.mp ha with z | z
        · rw [z]; exact bD
        · exact fr.out a z⟩ : Frs H1 B' (D :: f)).back s1.h
      cases z : fzs (os.filterMap id) with
      | some qs =>
        rw [z] at h
        cases h
        obtain ⟨B2, s3, e3, rp, nw⟩ := (s1.trans s2).shares rv z (fr.back s1.h)
        exact q _ B2 _ [D] s3 (.fl hD' rp) ⟨by simp, fun a ha => fr'.new a (by simp at ha; simp [ha]), fun a ha => by
          simp at ha
          subst ha
          cases y : B2 a with
          | none => rfl
          | some u =>
            rcases nw a (by rw [y]; simp) with w | w
            · exact absurd bD w
            · exact absurd w nf⟩
      | none =>
        rw [z] at h
        cases h
        exact q _ B' _ (D :: f) (s1.trans s2) (.lst hD' rv) fr'
    · cases h
theorem snd_lc {X : Cx} {env : Env} {scope : Scope} {tgE iter elt : Expr} {ifs : List Expr} {pos : Pos} {o : O} (h : LcOk X env scope tgE iter elt ifs o) : Snd X env (.ListComp elt [⟨tgE, iter, ifs, 0⟩] scope pos) o := by
  obtain ⟨own, wi, g, tt, te, h1, h2, h3, h4, h5, h6, h7, h8, h9⟩ := h
  exact fun _ _ _ _ _ w re q => ⟨_, pe_lc h1 h2 h3 h4 h5 h6 h7 h8, h9 w re q⟩
end G

set_option maxRecDepth 100000
namespace G
open PySem L2
variable {T : Tb} {N : List Str} {c : Ct} {X : Cx} {sc so : Scope} {k : Nat}
theorem XOk.hu (hx : XOk T c N sc so k X) : X.A.units + 64 < cLine := hx.room.units
theorem snd_lit {env : Env} {p : P} {co : Const} {j : Nat} {pos : Pos} (h : litB p co = true) : Snd X env (.Constant co j pos) (.pl p) := fun _ _ _ _ _ w re q => by
  unfold litB at h
  split at h
  · exact ⟨_, pe_non, q.pl w.bh .non⟩
  · rename_i b c
    have e : b = c := by simpa using h
    subst e
    exact ⟨_, pe_bl, q.pl w.bh .bl⟩
  · rename_i b c
    have e : b = c := by simpa using h
    subst e
    exact ⟨_, pe_int, q.pl w.bh .int⟩
  · rename_i b c
    have e : b = c := by simpa using h
    subst e
    exact ⟨_, pe_str, q.pl w.bh .str⟩
  · cases h
theorem name_ok (hx : XOk T c N sc so k X) {i : Nat} {x : Str} (h : nameB N sc i x = true) : ∀ {pos : Pos}, PE X (.Name x pos) (tVar i) := by
  unfold nameB at h
  simp only [Bool.and_eq_true, decide_eq_true_eq] at h
  intro pos
  exact pe_var (by rw [hx.n]; exact h.1.1.1) (by rw [hx.sc]; exact vis_ok h.1.1.2) (by simpa using h.1.2) (by simpa using h.2)
theorem slot_some {env : Env} {i : Nat} {o : O} (h : slot env i = some o) : env[i]? = some (some o) := by
  unfold slot at h
  cases z : env[i]? with
  | none => rw [z] at h; cases h
  | some x => rw [z] at h; cases x with
    | none => cases h
    | some y => cases h; rfl
theorem sno_var (hx : XOk T c N sc so k X) {i : Nat} {x : Str} {pos : Pos} {env : Env} {o : O} (h : nameB N sc i x = true) (hs : slot env i = some o) : SndO X env (.Name x pos) o := fun _ _ _ _ _ w re q => by
  obtain ⟨v, g, h1, h2, h3⟩ := re.get (slot_some hs)
  exact ⟨_, name_ok hx h, v, h1, q v _ _ g (.refl w.bh) h2⟩
theorem snd_var (hx : XOk T c N sc so k X) {i : Nat} {x : Str} {pos : Pos} {env : Env} {p : P} (h : nameB N sc i x = true) (hs : slot env i = some (.pl p)) : Snd X env (.Name x pos) (.pl p) := fun _ _ _ _ _ w re q => by
  obtain ⟨v, g, h1, h2, h3⟩ := re.get (slot_some hs)
  exact ⟨_, name_ok hx h, v, h1, q.pl w.bh h2.p⟩
theorem gl_ok (hx : XOk T c N sc so k X) {n : Option Str} {x : Str} (h : gnB sc n x = true) : Gl X x := by
  obtain ⟨_, h2, _⟩ := gn_ok h
  show X.env.scope.names.lookup x = _
  rw [hx.sc]
  exact h2
theorem snd_glob (hx : XOk T c N sc so k X) {g : Nat} {x : Str} {pos : Pos} {env : Env} {p : P} (h : gnB sc (T.gn g) x = true) (hg : c.gl g = some p) : Snd X env (.Name x pos) (.pl p) := fun _ _ _ _ _ w re q => by
  obtain ⟨h1, h2, h3⟩ := gn_ok h
  obtain ⟨u, v, e1, e2, e3⟩ := hx.gls g x p h1 hg
  exact ⟨_, pe_glob (gl_ok hx h) e1 e2 h3, q.pl w.bh (e3 _)⟩
/-! calls -/
theorem RPs.pl {K : PySem.W.Frag} {B : Hp} {vs : List V} {ps : List P} (r : RPs K B vs ps) : vs.length = ps.length := r.len
theorem call_core {f : Nat} {vs : List V} {ps : List P × Bool} {o : O} {B B1 H1 : Hp} {Q : VK} {E : XK} (e : Ext B1 H1) (h1 : ps.2 = false → RPs X.K B1 vs ps.1) (h2 : RPs X.K H1 vs ps.1) (h : retC ps.2 (c.call f (ps.1.map .pl)) = some o) (q : Gv X.K B1 H1 o Q) : spO X.K (c.call f) vs H1 Q E := by
  obtain ⟨ps, b⟩ := ps
  cases hb : b with
  | false =>
    subst hb
    cases hr : c.call f (ps.map .pl) with
    | none => rw [hr] at h; cases h
    | some r =>
      rw [hr] at h
      cases h
      exact ⟨B1, ps, r, e, h1 rfl, hr, q⟩
  | true =>
    subst hb
    cases hr : c.call f (ps.map .pl) with
    | none => rw [hr] at h; cases h
    | some r =>
      rw [hr] at h
      have h' : (if scalO r.1 = true then some r.1 else none) = some o := h
      split at h'
      · rename_i cs
        cases h'
        refine ⟨H1, ps, r, .refl _, h2, hr, fun v B' H' g s ro n => ?_⟩
        generalize hr1 : r.1 = ro1 at ro cs q
        cases ro with
        | pl rp =>
          refine q v B1 H' [] ⟨.refl _, s.h, e.trans s.h, fun a z => .inl z⟩ (.pl ?_) .nil
          cases rp with
          | tup => cases cs
          | lst => cases cs
          | dic => cases cs
          | non => exact .non
          | bl => exact .bl
          | int => exact .int
          | str => exact .str
        | _ => cases cs
      · cases h'
theorem snd_call (hx : XOk T c N sc so k X) {f : Nat} {x : Str} {p pos : Pos} {env : Env} {e : Expr} {es : List Expr} {ps : List P × Bool} {o : O} (h : gnB sc (T.fn f) x = true) (hn : (e :: es).all nst = true) (ha : SndLs X env (e :: es) ps) (hr : retC ps.2 (c.call f (ps.1.map .pl)) = some o) :
    Snd X env (.Call (.Name x p) (e :: es) [] pos) o := fun _ _ _ _ _ w re q => by
  obtain ⟨h1, h2, h3⟩ := gn_ok h
  obtain ⟨a, fd, pn, e1, e2, e3, F⟩ := hx.fns f x h1
  rw [List.all_cons, Bool.and_eq_true] at hn
  exact ⟨_, pe_call F hx.room (gl_ok hx h) e1 e2 e3 .nil pass0 wA_ok h3 (star_cons hn.1) (star_any hn.2), ha w re fun vs B1 H1 s r1 r2 => by
    rw [List.append_nil]
    exact call_core (B := B1) s.bh r1 r2 hr (q.stp s)⟩
theorem snd_call0 (hx : XOk T c N sc so k X) {f : Nat} {x : Str} {p pos : Pos} {env : Env} {o : O} (h : gnB sc (T.fn f) x = true) (hr : retC false (c.call f []) = some o) : Snd X env (.Call (.Name x p) [] [] pos) o := by
  intro B H σ fp Q w re q
  obtain ⟨h1, h2, h3⟩ := gn_ok h
  obtain ⟨a, fd, pn, e1, e2, e3, F⟩ := hx.fns f x h1
  exact ⟨_, pe_call0 F hx.room (gl_ok hx h) e1 e2 e3 .nil (pass0 (X := X)) h3, call_core (E := E0) (ps := ([], false)) (B := B) w.bh (fun _ => .nil) .nil hr q⟩
theorem bi_boot : ∀ b : BI, bootBuiltins (biN b) = some (biV b) := by
  intro b
  cases b <;> decide +kernel
theorem bi_name : ∀ b : BI, biN b ≠ "__name__" := by
  intro b
  cases b <;> decide +kernel
theorem snd_bi (hx : XOk T c N sc so k X) {b : BI} {x : Str} {p pos : Pos} {env : Env} {e : Expr} {es : List Expr} {os : List O} {o : O} (h : gnB sc (some (biN b)) x = true) (hn : (e :: es).all nst = true) (ha : SndVs X env (e :: es) os) (hr : biO b os = some o) :
    Snd X env (.Call (.Name x p) (e :: es) [] pos) o := fun _ _ _ _ _ w re q => by
  have hg := gl_ok hx h
  obtain ⟨h1, h2, h3⟩ := gn_ok h
  cases h1
  rw [List.all_cons, Bool.and_eq_true] at hn
  have hv := bi_boot b
  have run : tCB (wC X (biV b)) (wA X (e :: es)) _ _ _ := ha w re fun vs B1 H1 f s r => bi_ok hx.calm s.bh r hr (q.stp s)
  cases b
  case len => exact ⟨_, pe_callB wC_ok hg (hx.blt .len) hv wA_ok (bi_name .len) h3 (star_cons hn.1) (star_any hn.2), run⟩
  case abs => exact ⟨_, pe_callB wC_ok hg (hx.blt .abs) hv wA_ok (bi_name .abs) h3 (star_cons hn.1) (star_any hn.2), run⟩
  case int => exact ⟨_, pe_callTy wC_ok hg (hx.blt .int) hv wA_ok (bi_name .int) h3 (star_cons hn.1) (star_any hn.2), run⟩
  case str => exact ⟨_, pe_callTy wC_ok hg (hx.blt .str) hv wA_ok (bi_name .str) h3 (star_cons hn.1) (star_any hn.2), run⟩
  case list => exact ⟨_, pe_callTy wC_ok hg (hx.blt .list) hv wA_ok (bi_name .list) h3 (star_cons hn.1) (star_any hn.2), run⟩
  case tuple => exact ⟨_, pe_callTy wC_ok hg (hx.blt .tuple) hv wA_ok (bi_name .tuple) h3 (star_cons hn.1) (star_any hn.2), run⟩
  case max => exact ⟨_, pe_callB wC_ok hg (hx.blt .max) hv wA_ok (bi_name .max) h3 (star_cons hn.1) (star_any hn.2), run⟩
  case min => exact ⟨_, pe_callB wC_ok hg (hx.blt .min) hv wA_ok (bi_name .min) h3 (star_cons hn.1) (star_any hn.2), run⟩
  case sum => exact ⟨_, pe_callB wC_ok hg (hx.blt .sum) hv wA_ok (bi_name .sum) h3 (star_cons hn.1) (star_any hn.2), run⟩
  case all => exact ⟨_, pe_callB wC_ok hg (hx.blt .all) hv wA_ok (bi_name .all) h3 (star_cons hn.1) (star_any hn.2), run⟩
  case any => exact ⟨_, pe_callB wC_ok hg (hx.blt .any) hv wA_ok (bi_name .any) h3 (star_cons hn.1) (star_any hn.2), run⟩
  case sorted => exact ⟨_, pe_callB wC_ok hg (hx.blt .sorted) hv wA_ok (bi_name .sorted) h3 (star_cons hn.1) (star_any hn.2), run⟩
/-! isinstance -/
def tyBI : Ty → Option BI
  | .int => some .int
  | .str => some .str
  | .list => some .list
  | .tuple => some .tuple
  | _ => none
theorem ty_boot (t : Ty) : bootBuiltins (Str.ofString (tyN t)) = some (.type (tyN t)) ∧ Str.ofString (tyN t) ≠ "__name__" := by
  cases t <;> exact ⟨by decide +kernel, by decide +kernel⟩
theorem sne_ty (hx : XOk T c N sc so k X) (hm : ∀ t, X.mg (Str.ofString (tyN t)) = none) {t : Ty} {e : Expr} (h : tyE sc t e = true) : PE X e (tC (.ty (tyN t))) ∧ nst e = true := by
  unfold tyE at h
  split at h
  · have hg := gl_ok hx h
    obtain ⟨h1, h2, h3⟩ := gn_ok h
    cases h1
    exact ⟨pe_bltn hg (hm t) (ty_boot t).1 (show RelV (.ty (tyN t)) (.type (tyN t)) from rfl) (ty_boot t).2 h3, rfl⟩
  · cases h
def tTys : List Ty → TA
  | [] => tNil
  | t :: ts => tCons (tC (.ty (tyN t))) (tTys ts)
theorem sne_tys (hx : XOk T c N sc so k X) (hm : ∀ t, X.mg (Str.ofString (tyN t)) = none) : ∀ {ts : List Ty} {es : List Expr}, tysE sc ts es = true → PA X es (tTys ts)
  | [], [], _ => pa_nil
  | t :: ts, e :: es, h => by
    unfold tysE at h
    rw [Bool.and_eq_true] at h
    obtain ⟨h1, h2⟩ := sne_ty hx hm h.1
    exact pa_cons h1 (sne_tys hx hm h.2) (star_cons h2)
  | [], _ :: _, h => by cases h
  | _ :: _, [], h => by cases h
theorem tTys_ok {σ : L2.St} {H : Hp} : ∀ {ts : List Ty} {Q : List V → Hp → Prop}, Q (ts.map fun t => .ty (tyN t)) H → tTys ts σ H Q
  | [], _, q => q
  | t :: ts, Q, q => tTys_ok (ts := ts) (Q := fun xs H2 => Q (.ty (tyN t) :: xs) H2) q
theorem clsVs : ∀ ts : List Ty, Paired ClsV (ts.map fun t => .ty (tyN t)) (ts.map fun t => .type (tyN t))
  | [] => .nil
  | t :: ts => .cons (.ty _) (clsVs ts)
theorem snd_isi (hx : XOk T c N sc so k X) (hm : ∀ t, X.mg (Str.ofString (tyN t)) = none) {x : Str} {p pos : Pos} {env : Env} {e t : Expr} {ts : List Ty} {ox : O} {q0 : P} (h : gnB sc (some "isinstance") x = true) (hn : nst e = true) (ha : SndO X env e ox) (ht : tyArg sc ts t = true) (hl : ts.length ≤ 1000) (hp : fz ox = some q0) :
    Snd X env (.Call (.Name x p) [e, t] [] pos) (.pl (.bool (ts.any (isTy1 (tyP q0))))) := fun _ _ _ _ _ w re q => by
  have hg := gl_ok hx h
  obtain ⟨h1, h2, h3⟩ := gn_ok h
  cases h1
  have hv : bootBuiltins ("isinstance" : Str) = some (.builtin "isinstance") := by decide +kernel
  unfold tyArg at ht
  split at ht
  · rename_i es k tp
    refine ⟨_, pe_callB wC_ok hg hx.isi hv (pa_cons wE_ok (pa_cons (pe_tup (sne_tys hx hm ht)) pa_nil (star_cons rfl)) (star_cons hn)) (by decide) h3 (star_cons hn) (star_any rfl), ha w re fun v B1 H1 f s r => ?_⟩
    refine tTys_ok ⟨by rw [List.length_map, line_eq]; omega, fun a na => ⟨_, call_isiT, v, a, _, _, _, _, rfl, upd_same, clsVs ts, ?_, kit_all q0 ts, ?_⟩⟩
    · exact ((r.rd s.bh hp).mono (Ext.upd na)).ty
    · exact q _ _ _ [] (s.trans (.lay s.bh na)) (.pl .bl) .nil
  · rename_i t' e'
    obtain ⟨h4, h5⟩ := sne_ty hx hm ht
    refine ⟨_, pe_callB wC_ok hg hx.isi hv (pa_cons wE_ok (pa_cons h4 pa_nil (star_cons h5)) (star_cons hn)) (by decide) h3 (star_cons hn) (star_any (by simp [h5])), ha w re fun v B1 H1 f s r => ?_⟩
    refine ⟨_, call_isi, v, _, _, _, _, rfl, .ty _, (r.rd s.bh hp).ty, kit_one q0 t', ?_⟩
    have : (List.any [t'] (isTy1 (tyP q0))) = isTy1 (tyP q0) t' := by simp
    rw [this] at q
    exact (q.stp s).pl s.bh .bl
  · cases ht
/-! d.get(k, x) -/
theorem snd_get (hx : XOk T c N sc so k X) {env : Env} {l e1 e2 : Expr} {ap cp : Pos} {ox o : O} {o1 o2 : O} (hb : baseB l = true) (hl : (ap.endLine == cp.line) = true) (hn1 : nst e1 = true) (hn2 : nst e2 = true)
    (h : SndO X env l ox) (h1 : SndO X env e1 o1) (h2 : SndO X env e2 o2) (hr : methO .get ox [o1, o2] = some o) : Snd X env (.Call (.Attribute l "get" ap) [e1, e2] [] cp) o := fun _ _ _ _ _ w re q => by
  have hu : X.A.units + 1 < cLine := by have := hx.hu; omega
  have key : ∃ kvs p d k0, ditems ox = some kvs ∧ o1 = .pl p ∧ o2 = .pl d ∧ keyP p = some k0 ∧ o = .pl ((lookP k0 kvs).getD d) := by
    have fin : ∀ {kvs : List (P × P)} {p d : P}, getP kvs d (keyP p) = some o → ∃ k0, keyP p = some k0 ∧ o = .pl ((lookP k0 kvs).getD d) := by
      intro kvs p d hr
      cases hk : keyP p with
      | none => rw [hk] at hr; cases hr
      | some k0 => rw [hk] at hr; cases hr; exact ⟨k0, rfl, rfl⟩
    unfold methO at hr
    split at hr
    · rename_i kvs p d _ hos
      injection hos with h3 h4
      injection h4 with h4 _
      obtain ⟨k0, h5, h6⟩ := fin hr
      exact ⟨kvs, p, d, k0, rfl, h3, h4, h5, h6⟩
    · rename_i kvs p d _ hos
      injection hos with h3 h4
      injection h4 with h4 _
      obtain ⟨k0, h5, h6⟩ := fin hr
      exact ⟨kvs, p, d, k0, rfl, h3, h4, h5, h6⟩
    · cases hr
  obtain ⟨kvs, p, d, k0, hd, rfl, rfl, hk, rfl⟩ := key
  have st : starEach [e1, e2] X.env = [(false, eval e1 X.env), (false, eval e2 X.env)] := by rw [star_cons hn1, star_cons hn2]; rfl
  have bt : backTo cp (starEach [e1, e2] X.env) = [(false, eval e1 X.env), (false, eval e2 X.env)] := by rw [st]; rfl
  refine ⟨_, pe_dget2 hu wE_ok wE_ok wE_ok ⟨base_ok hb, by rw [bt]; rfl, hl, bt⟩, h w re fun v B1 H1 f s r => ?_⟩
  obtain ⟨a, us, rfl, rd, rp⟩ := r.dits s.bh hd
  refine ⟨a, rfl, .inl ⟨us, rd⟩, ?_⟩
  · refine h1 (w.stp s re.has) (re.stp s) fun v2 B2 H2 f2 s2 r2 => h2 (w.stp (s.trans s2) re.has) (re.stp (s.trans s2)) fun v3 B3 H3 f3 s3 r3 => ?_
    have s23 := s2.trans s3
    have g := rp.mono s23.b
    refine ⟨valV us k0, .inl ⟨us, k0, s23.h.rd rd, keyV r2.p hk, rfl⟩, (q.stp (s.trans s23)).pl s23.bh ?_⟩
    obtain ⟨g1, g2, _⟩ := g.look k0
    cases z : lookP k0 kvs with
    | none => rw [g2 z]; exact r3.p
    | some p' =>
      obtain ⟨v', e1, e2⟩ := g1 p' z
      rw [e1]
      exact e2
end G

set_option maxRecDepth 100000
namespace G
open PySem L2
variable {T : Tb} {N : List Str} {c : Ct}
section
variable {sc : Scope} {x : Expr}
theorem chk_var {i : Nat} (h : chk T N sc (.var i) x = true) : ∃ n p, x = .Name n p ∧ nameB N sc i n = true := by
  unfold chk at h
  split at h <;> first | (rename_i e; cases e <;> exact ⟨_, _, rfl, h⟩) | cases h
theorem chk_lit {q : P} (h : chk T N sc (.lit q) x = true) : ∃ n j p, x = .Constant n j p ∧ litB q n = true := by
  unfold chk at h
  split at h <;> first | (rename_i e; cases e <;> exact ⟨_, _, _, rfl, h⟩) | cases h
theorem chk_glob {g : Nat} (h : chk T N sc (.glob g) x = true) : ∃ n p, x = .Name n p ∧ gnB sc (T.gn g) n = true := by
  unfold chk at h
  split at h <;> first | (rename_i e; cases e <;> exact ⟨_, _, rfl, h⟩) | cases h
theorem chk_bin {op : Operator} {a b : Ex} (h : chk T N sc (.bin op a b) x = true) : ∃ l r p, x = .BinOp l op r p ∧ chk T N sc a l = true ∧ chk T N sc b r = true := by
  unfold chk at h
  split at h <;> first | (rename_i e; cases e <;> (rw [Bool.and_eq_true, Bool.and_eq_true, decide_eq_true_eq] at h; obtain ⟨⟨rfl, h1⟩, h2⟩ := h; exact ⟨_, _, _, rfl, h1, h2⟩)) | cases h
theorem chk_neg {a : Ex} (h : chk T N sc (.neg a) x = true) : ∃ l p, x = .UnaryOp .USub l p ∧ chk T N sc a l = true := by
  unfold chk at h
  split at h <;> first | (rename_i e; cases e <;> exact ⟨_, _, rfl, h⟩) | cases h
theorem chk_not {a : Ex} (h : chk T N sc (.not a) x = true) : ∃ l p, x = .UnaryOp .Not l p ∧ chk T N sc a l = true := by
  unfold chk at h
  split at h <;> first | (rename_i e; cases e <;> exact ⟨_, _, rfl, h⟩) | cases h
theorem chk_and {a b : Ex} (h : chk T N sc (.and a b) x = true) : ∃ l r s p, x = .BoolOp .And (l :: r :: s) p ∧ chk T N sc a l = true ∧ ((s = [] ∧ chk T N sc b r = true) ∨ chk T N sc b (.BoolOp .And (r :: s) p) = true) := by
  unfold chk at h
  split at h <;> first | (rename_i e; cases e <;> (rw [Bool.and_eq_true] at h; obtain ⟨h1, h2⟩ := h; refine ⟨_, _, _, _, rfl, h1, ?_⟩; split at h2 <;> first | exact .inl ⟨rfl, h2⟩ | exact .inr h2)) | cases h
theorem chk_or {a b : Ex} (h : chk T N sc (.or a b) x = true) : ∃ l r s p, x = .BoolOp .Or (l :: r :: s) p ∧ chk T N sc a l = true ∧ ((s = [] ∧ chk T N sc b r = true) ∨ chk T N sc b (.BoolOp .Or (r :: s) p) = true) := by
  unfold chk at h
  split at h <;> first | (rename_i e; cases e <;> (rw [Bool.and_eq_true] at h; obtain ⟨h1, h2⟩ := h; refine ⟨_, _, _, _, rfl, h1, ?_⟩; split at h2 <;> first | exact .inl ⟨rfl, h2⟩ | exact .inr h2)) | cases h
theorem chk_cmp {op : CmpOp} {a b : Ex} (h : chk T N sc (.cmp op a b) x = true) : ∃ l r p, x = .Compare l [op] [r] p ∧ chk T N sc a l = true ∧ chk T N sc b r = true := by
  unfold chk at h
  split at h <;> first | (rename_i e; cases e <;> (rw [Bool.and_eq_true, Bool.and_eq_true, decide_eq_true_eq] at h; obtain ⟨⟨rfl, h1⟩, h2⟩ := h; exact ⟨_, _, _, rfl, h1, h2⟩)) | cases h
theorem chk_chain {o1 o2 : CmpOp} {a b d : Ex} (h : chk T N sc (.chain o1 o2 a b d) x = true) : ∃ l m r p, x = .Compare l [o1, o2] [m, r] p ∧ chk T N sc a l = true ∧ chk T N sc b m = true ∧ chk T N sc d r = true ∧ noIn o1 = true ∧ noIn o2 = true := by
  unfold chk at h
  split at h <;> first | (rename_i e; cases e <;> (simp only [Bool.and_eq_true, decide_eq_true_eq] at h; obtain ⟨⟨⟨⟨⟨⟨n1, n2⟩, rfl⟩, rfl⟩, h1⟩, h2⟩, h3⟩ := h; exact ⟨_, _, _, _, rfl, h1, h2, h3, n1, n2⟩)) | cases h
theorem chk_ife {t a b : Ex} (h : chk T N sc (.ife t a b) x = true) : ∃ u l r p, x = .IfExp u l r p ∧ chk T N sc t u = true ∧ chk T N sc a l = true ∧ chk T N sc b r = true := by
  unfold chk at h
  split at h <;> first | (rename_i e; cases e <;> (simp only [Bool.and_eq_true] at h; obtain ⟨⟨h1, h2⟩, h3⟩ := h; exact ⟨_, _, _, _, rfl, h1, h2, h3⟩)) | cases h
theorem chk_lst {es : Exs} (h : chk T N sc (.lst es) x = true) : ∃ l p, x = .List l p ∧ chks T N sc es l = true := by
  unfold chk at h
  split at h <;> first | (rename_i e; cases e <;> exact ⟨_, _, rfl, h⟩) | cases h
theorem chk_tup {es : Exs} (h : chk T N sc (.tup es) x = true) : ∃ l k p, x = .Tuple l k p ∧ chks T N sc es l = true := by
  unfold chk at h
  split at h <;> first | (rename_i e; cases e <;> exact ⟨_, _, _, rfl, h⟩) | cases h
theorem chk_dct {ks vs : Exs} (h : chk T N sc (.dct ks vs) x = true) : ks = .nil ∧ vs = .nil ∧ ∃ p, x = .Dict [] [] p := by
  unfold chk at h
  split at h <;> first | (rename_i e; cases e <;> exact ⟨rfl, rfl, _, rfl⟩) | cases h
theorem chk_idx {a i : Ex} (h : chk T N sc (.idx a i) x = true) : ∃ l r p, x = .Subscript l r p ∧ chk T N sc a l = true ∧ chk T N sc i r = true := by
  unfold chk at h
  split at h <;> first | (rename_i e; cases e <;> (rw [Bool.and_eq_true] at h; exact ⟨_, _, _, rfl, h.1, h.2⟩)) | cases h
theorem chk_slc {a : Ex} {lo hi : Ox} (h : chk T N sc (.slc a lo hi) x = true) : ∃ l u v p q, x = .Subscript l (.Slice u v none p) q ∧ chk T N sc a l = true ∧ chkX T N sc lo u = true ∧ chkX T N sc hi v = true := by
  unfold chk at h
  split at h <;> first | (rename_i e; cases e <;> (rw [Bool.and_eq_true, Bool.and_eq_true] at h; exact ⟨_, _, _, _, _, rfl, h.1.1, h.1.2, h.2⟩)) | cases h
theorem chk_call {f : Nat} {es : Exs} (h : chk T N sc (.call f es) x = true) : ∃ n p l q, x = .Call (.Name n p) l [] q ∧ gnB sc (T.fn f) n = true ∧ chks T N sc es l = true := by
  unfold chk at h
  split at h <;> first | (rename_i e; cases e <;> first | exact ⟨_, _, _, _, rfl, h, by rw [chks]⟩ | (rw [Bool.and_eq_true] at h; exact ⟨_, _, _, _, rfl, h.1, h.2⟩)) | cases h
theorem chk_bi {b : BI} {es : Exs} (h : chk T N sc (.bi b es) x = true) : ∃ n p e l q, x = .Call (.Name n p) (e :: l) [] q ∧ gnB sc (some (biN b)) n = true ∧ chks T N sc es (e :: l) = true := by
  unfold chk at h
  split at h <;> first | (rename_i e; cases e <;> (rw [Bool.and_eq_true] at h; exact ⟨_, _, _, _, _, rfl, h.1, h.2⟩)) | cases h
theorem chk_isi {a : Ex} {ts : List Ty} (h : chk T N sc (.isi a ts) x = true) : ∃ n p e t q, x = .Call (.Name n p) [e, t] [] q ∧ gnB sc (some "isinstance") n = true ∧ chk T N sc a e = true ∧ tyArg sc ts t = true ∧ ts.length ≤ 1000 := by
  unfold chk at h
  split at h <;> first | (rename_i e; cases e <;> (simp only [Bool.and_eq_true, decide_eq_true_eq] at h; obtain ⟨⟨⟨h0, h1⟩, h2⟩, h3⟩ := h; exact ⟨_, _, _, _, _, rfl, h1, h2, h3, h0⟩)) | cases h
theorem chk_meth {m : MI} {a : Ex} {es : Exs} (h : chk T N sc (.meth m a es) x = true) : m = .get ∧ ∃ e1 e2 l ap f1 f2 cp, es = .cons e1 (.cons e2 .nil) ∧ x = .Call (.Attribute l (miN .get) ap) [f1, f2] [] cp ∧ baseB l = true ∧ (ap.endLine == cp.line) = true ∧ chk T N sc a l = true ∧ chk T N sc e1 f1 = true ∧ chk T N sc e2 f2 = true := by
  unfold chk at h
  split at h <;> first | (rename_i e; cases e <;> (simp only [Bool.and_eq_true, decide_eq_true_eq] at h; obtain ⟨⟨⟨⟨⟨rfl, h1⟩, h2⟩, h3⟩, h4⟩, h5⟩ := h; exact ⟨rfl, _, _, _, _, _, _, _, rfl, rfl, h1, h2, h3, h4, h5⟩)) | cases h
theorem chk_lc {own : List Nat} {tg : Tg} {it : It} {cd : Ox} {e : Ex} (h : chk T N sc (.lc own tg it cd e) x = true) : ∃ el t i ifs scope p, x = .ListComp el [⟨t, i, ifs, 0⟩] scope p ∧ ownB N sc scope own = true ∧ own = tgIs tg ∧ chkTg (relS scope sc) scope N tg t = true ∧ chkI T N sc it t i = true ∧ ((cd = .none ∧ ifs = []) ∨ ∃ d f, cd = .some d ∧ ifs = [f] ∧ chk T N (relS scope sc) d f = true) ∧ chk T N (relS scope sc) e el = true := by
  unfold chk at h
  split at h <;> first | (rename_i e; cases e <;> (simp only [Bool.and_eq_true, decide_eq_true_eq] at h; obtain ⟨⟨⟨⟨⟨h1, h2⟩, h3⟩, h4⟩, h5⟩, h6⟩ := h; refine ⟨_, _, _, _, _, _, rfl, h1, h2, h3, h4, ?_, h6⟩; split at h5 <;> first | exact .inl ⟨rfl, rfl⟩ | exact .inr ⟨_, _, rfl, rfl, h5⟩ | cases h5)) | cases h
theorem chk_mov {i : Nat} (h : chk T N sc (.mov i) x = true) : False := by
  unfold chk at h; cases h
end
end G

set_option maxRecDepth 100000
namespace G
open PySem L2
variable {T : Tb} {N : List Str} {c : Ct}
/-! ### a conditional as a test -/
section
open PySem.Spec PyProof PyProof.Rows
theorem pt_ife {X : Cx} {u a b : Expr} {pos : Pos} {tu ta tb : TT} (hc : PT X u tu) (ha : PT X a ta) (hb : PT X b tb) : PT X (.IfExp u a b pos) (fun σ H Q => tu σ H fun c H1 => if c = true then ta σ H1 Q else tb σ H1 Q) := by
  refine ⟨fun pins s σ H Q I h => ?_⟩
  refine isTrue_IfExp (thn (hc.run pins s σ H _ I h) fun d s1 ⟨H1, I1, q1⟩ => ?_)
  cases d with
  | true => exact ha.run pins s1 σ H1 Q I1 q1
  | false => exact hb.run pins s1 σ H1 Q I1 q1
end
theorem snt_ife {X : Cx} {env : Env} {t l r : Expr} {pos : Pos} {b d : Bool} (h : SndT X env t b) (h1 : b = true → SndT X env l d) (h2 : b = false → SndT X env r d) : SndT X env (.IfExp t l r pos) d := fun _ _ _ _ _ w re q =>
  ⟨_, pt_ife wT_ok wT_ok wT_ok, h w re fun B' H' s => by
    cases b with
    | true => exact iteT (h1 rfl (w.stp s re.has) (re.stp s) fun B2 H2 s2 => q _ _ (s.trans s2))
    | false => exact iteF (h2 rfl (w.stp s re.has) (re.stp s) fun B2 H2 s2 => q _ _ (s.trans s2))⟩
/-! ### an expression whose test is the truth of its value -/
def tstB : Expr → Bool
  | .BoolOp .. => false
  | .UnaryOp .Not _ _ => false
  | .IfExp .. => false
  | .Compare .. => false
  | _ => true
theorem tst_ok {x : Expr} (h : tstB x = true) {env : PySem.Env} : ∀ whole, isTrue x env whole = (do let v ← whole; standAt x.pos; holding [v] (truthy v)) := by
  cases x
  case UnaryOp op a p => cases op <;> first | (intro _; rfl) | cases h
  all_goals first | (intro _; rfl) | cases h
structure GE (T : Tb) (N : List Str) (c : Ct) (e : Ex) : Prop where
  r : ∀ {X : Cx} {sc so : Scope} {k : Nat} {env : Env} {x : Expr} {o : O}, XOk T c N sc so k X → chk T N sc e x = true → evR c env e = some o → Snd X env x o
  t : ∀ {X : Cx} {sc so : Scope} {k : Nat} {env : Env} {x : Expr} {b : Bool}, XOk T c N sc so k X → chk T N sc e x = true → evR c env e = some (.pl (.bool b)) → SndT X env x b
  w : ∀ {X : Cx} {sc so : Scope} {k : Nat} {env : Env} {op : BoolOp} {l : List Expr} {p : Pos} {b : Bool}, XOk T c N sc so k X → chk T N sc e (.BoolOp op l p) = true → evR c env e = some (.pl (.bool b)) → SndW X env (.BoolOp op l p) b
theorem ge_mk {e : Ex} (ht : ∀ {sc : Scope} {x : Expr}, chk T N sc e x = true → tstB x = true) (r : ∀ {X : Cx} {sc so : Scope} {k : Nat} {env : Env} {x : Expr} {o : O}, XOk T c N sc so k X → chk T N sc e x = true → evR c env e = some o → Snd X env x o) : GE T N c e :=
  ⟨r, fun hx hc he => snt_val (r hx hc he) (tst_ok (ht hc)), fun hx hc he => by cases ht hc⟩
variable {X : Cx} {sc so : Scope} {k : Nat} {env : Env} {x : Expr} {ou : O}
theorem GE.ro {e : Ex} (g : GE T N c e) (hx : XOk T c N sc so k X) (hc : chk T N sc e x = true) (he : evR c env e = some ou) : SndO X env x ou := by
  have z : Snd X env x ou := g.r hx hc he
  exact z.o
theorem GE.o {e : Ex} (g : GE T N c e) (hx : XOk T c N sc so k X) (hc : chk T N sc e x = true) (he : opnd env e (evR c env e) = some ou) : SndO X env x ou := by
  cases e
  case var i =>
    obtain ⟨n, p, rfl, h⟩ := chk_var hc
    exact sno_var hx h he
  all_goals exact g.ro hx hc he
theorem lendS_some {s : Option O} {p : P} {b : Bool} (h : lendS s = some (p, b)) : ∃ o, s = some o ∧ ((o = .pl p ∧ b = false) ∨ (fz o = some p ∧ b = true)) := by
  unfold lendS at h
  split at h
  · cases h; exact ⟨_, rfl, .inl ⟨rfl, rfl⟩⟩
  · rename_i o _
    refine ⟨o, rfl, .inr ?_⟩
    unfold lendQ at h
    split at h
    · cases h; exact ⟨by assumption, rfl⟩
    · cases h
  · cases h
theorem lendE_some {s : Option O} {p : P} {b : Bool} (h : lendE s = some (p, b)) : ∃ o, s = some o ∧ fz o = some p ∧ b = false := by
  unfold lendE at h
  split at h
  · rename_i o
    refine ⟨o, rfl, ?_⟩
    unfold lendQ at h
    split at h
    · cases h; exact ⟨by assumption, rfl⟩
    · cases h
  · cases h
theorem GE.ln {e : Ex} (g : GE T N c e) (hx : XOk T c N sc so k X) (hc : chk T N sc e x = true) {p : P} {b : Bool} (he : lend env e (evR c env e) = some (p, b)) : SndL X env x p b := by
  have gen : lendE (evR c env e) = some (p, b) → SndL X env x p b := fun h => by
    obtain ⟨o, h1, h2, rfl⟩ := lendE_some h
    have z : Snd X env x o := g.r hx hc h1
    exact z.give h2
  cases e
  case var i =>
    obtain ⟨o, h1, h2⟩ := lendS_some (s := slot env i) he
    obtain ⟨n, q, rfl, h⟩ := chk_var hc
    have z : SndO X env (.Name n q) o := sno_var hx h h1
    rcases h2 with ⟨rfl, rfl⟩ | ⟨h2, rfl⟩
    · exact z.give
    · exact z.lend h2
  all_goals exact gen he
theorem GE.sh {e : Ex} (g : GE T N c e) (hx : XOk T c N sc so k X) (hc : chk T N sc e x = true) (he : G.sh (evR c env e) = some ou) : ∃ p, ou = .pl p ∧ SndL X env x p false := by
  unfold G.sh at he
  cases z : evR c env e with
  | none => rw [z] at he; cases he
  | some u =>
    rw [z] at he
    cases y : fz u with
    | none =>
      have : toP (fz u) = some ou := he
      rw [y] at this
      cases this
    | some p =>
      have : toP (fz u) = some ou := he
      rw [y] at this
      cases this
      have z : Snd X env x u := g.r hx hc z
      exact ⟨p, rfl, z.give y⟩
theorem o1_some {α β : Type} {f : α → Option β} {x : Option α} {y : β} (h : o1 f x = some y) : ∃ a, x = some a ∧ f a = some y := by
  cases x with
  | none => cases h
  | some a => exact ⟨a, rfl, h⟩
theorem o2_some {α β γ : Type} {f : α → β → Option γ} {x : Option α} {y : Option β} {z : γ} (h : o2 f x y = some z) : ∃ a b, x = some a ∧ y = some b ∧ f a b = some z := by
  cases x with
  | none => cases h
  | some a =>
    cases y with
    | none => cases h
    | some b => exact ⟨a, b, rfl, rfl, h⟩
theorem o3_some {α β γ δ : Type} {f : α → β → γ → Option δ} {x : Option α} {y : Option β} {u : Option γ} {z : δ} (h : o3 f x y u = some z) : ∃ a b d, x = some a ∧ y = some b ∧ u = some d ∧ f a b d = some z := by
  cases x with
  | none => cases h
  | some a =>
    cases y with
    | none => cases h
    | some b =>
      cases u with
      | none => cases h
      | some d => exact ⟨a, b, d, rfl, rfl, rfl, h⟩
theorem ifB_some {α : Type} {t : Option O} {x y : Option α} {z : α} (h : ifB t x y = some z) : ∃ b, t = some (.pl (.bool b)) ∧ (b = true → x = some z) ∧ (b = false → y = some z) := by
  unfold ifB at h
  split at h
  · rename_i b
    cases b with
    | true => exact ⟨true, rfl, fun _ => h, fun z => by cases z⟩
    | false => exact ⟨false, rfl, (fun z => by cases z), fun _ => h⟩
  · cases h
theorem toB_some {x : Option Bool} {o : O} (h : toB x = some o) : ∃ b, x = some b ∧ o = .pl (.bool b) := by
  cases x with
  | none => cases h
  | some b => cases h; exact ⟨b, rfl, rfl⟩
theorem toP_some {x : Option P} {o : O} (h : toP x = some o) : ∃ p, x = some p ∧ o = .pl p := by
  cases x with
  | none => cases h
  | some b => cases h; exact ⟨b, rfl, rfl⟩
/-! ### one lemma for each construct -/
theorem ge_var {i : Nat} : GE T N c (.var i) := ge_mk (fun h => by obtain ⟨n, p, rfl, _⟩ := chk_var h; rfl) fun {X sc so k env x o} hx hc he => by
  obtain ⟨n, p, rfl, h⟩ := chk_var hc
  rw [evR] at he
  unfold plO at he
  split at he
  · rename_i q hq
    cases he
    exact snd_var hx h hq
  · cases he
theorem ge_mov {i : Nat} : GE T N c (.mov i) := ge_mk (fun h => (chk_mov h).elim) fun hx hc he => (chk_mov hc).elim
theorem ge_lit {p : P} : GE T N c (.lit p) := ge_mk (fun h => by obtain ⟨n, j, p, rfl, _⟩ := chk_lit h; rfl) fun {X sc so k env x o} hx hc he => by
  obtain ⟨n, j, p, rfl, h⟩ := chk_lit hc
  rw [evR] at he
  cases he
  exact snd_lit h
theorem ge_glob {g : Nat} : GE T N c (.glob g) := ge_mk (fun h => by obtain ⟨n, p, rfl, _⟩ := chk_glob h; rfl) fun {X sc so k env x o} hx hc he => by
  obtain ⟨n, p, rfl, h⟩ := chk_glob hc
  rw [evR] at he
  obtain ⟨q, h1, rfl⟩ := toP_some he
  exact snd_glob hx h h1
theorem ge_bin {op : Operator} {a b : Ex} (ga : GE T N c a) (gb : GE T N c b) : GE T N c (.bin op a b) := ge_mk (fun h => by obtain ⟨l, r, p, rfl, _⟩ := chk_bin h; rfl) fun {X sc so k env x o} hx hc he => by
  obtain ⟨l, r, p, rfl, h1, h2⟩ := chk_bin hc
  rw [evR] at he
  obtain ⟨u, v, e1, e2, e3⟩ := o2_some he
  exact snd_bin (ga.o hx h1 e1) (gb.o hx h2 e2) e3
theorem ge_neg {a : Ex} (ga : GE T N c a) : GE T N c (.neg a) := ge_mk (fun h => by obtain ⟨l, p, rfl, _⟩ := chk_neg h; rfl) fun {X sc so k env x o} hx hc he => by
  obtain ⟨l, p, rfl, h1⟩ := chk_neg hc
  rw [evR] at he
  obtain ⟨u, e1, e2⟩ := o1_some he
  exact snd_neg (ga.ro hx h1 e1) e2
theorem notO_some {u o : O} (h : notO u = some o) : ∃ b, u = .pl (.bool b) ∧ o = .pl (.bool !b) := by
  unfold notO at h
  split at h
  · cases h; exact ⟨_, rfl, rfl⟩
  · cases h
theorem ge_not {a : Ex} (ga : GE T N c a) : GE T N c (.not a) where
  r := fun {X sc so k env x o} hx hc he => by
    obtain ⟨l, p, rfl, h1⟩ := chk_not hc
    rw [evR] at he
    obtain ⟨u, e1, e2⟩ := o1_some he
    exact snd_not (ga.ro hx h1 e1) e2
  t := fun {X sc so k env x b} hx hc he => by
    obtain ⟨l, p, rfl, h1⟩ := chk_not hc
    rw [evR] at he
    obtain ⟨u, e1, e2⟩ := o1_some he
    obtain ⟨d, rfl, e3⟩ := notO_some e2
    cases e3
    exact snt_not (ga.t hx h1 e1)
  w := fun hx hc he => by obtain ⟨l, p, h, _⟩ := chk_not hc; cases h
theorem ge_and {a b : Ex} (ga : GE T N c a) (gb : GE T N c b) : GE T N c (.and a b) := by
  have W : ∀ {X : Cx} {sc so : Scope} {k : Nat} {env : Env} {x : Expr} {b' : Bool}, XOk T c N sc so k X → chk T N sc (.and a b) x = true → evR c env (.and a b) = some (.pl (.bool b')) → SndW X env x b' := fun {X sc so k env x b'} hx hc he => by
    obtain ⟨l, r, s, p, rfl, h1, h2⟩ := chk_and hc
    rw [evR] at he
    obtain ⟨d, e1, e2, e3⟩ := ifB_some he
    refine snw_and (ga.t hx h1 e1) (fun z => ?_) (fun z => by cases e3 z; rfl)
    rcases h2 with ⟨rfl, h2⟩ | h2
    · exact snw_and1 (gb.t hx h2 (e2 z))
    · exact gb.w hx h2 (e2 z)
  refine ⟨fun {X sc so k env x o} hx hc he => ?_, fun {X sc so k env x b} hx hc he => by
    have z : SndW X env x b := W hx hc he
    exact z.t, fun hx hc he => W hx hc he⟩
  obtain ⟨l, r, s, p, rfl, h1, h2⟩ := chk_and hc
  rw [evR] at he
  obtain ⟨d, e1, e2, e3⟩ := ifB_some he
  refine snd_and (ga.ro hx h1 e1) (fun z => ?_) (fun z => by cases e3 z; rfl)
  rcases h2 with ⟨rfl, h2⟩ | h2
  · exact snd_one (gb.r hx h2 (e2 z))
  · exact gb.r hx h2 (e2 z)
theorem ge_or {a b : Ex} (ga : GE T N c a) (gb : GE T N c b) : GE T N c (.or a b) := by
  have W : ∀ {X : Cx} {sc so : Scope} {k : Nat} {env : Env} {x : Expr} {b' : Bool}, XOk T c N sc so k X → chk T N sc (.or a b) x = true → evR c env (.or a b) = some (.pl (.bool b')) → SndW X env x b' := fun {X sc so k env x b'} hx hc he => by
    obtain ⟨l, r, s, p, rfl, h1, h2⟩ := chk_or hc
    rw [evR] at he
    obtain ⟨d, e1, e2, e3⟩ := ifB_some he
    refine snw_or (ga.t hx h1 e1) (fun z => ?_) (fun z => by cases e2 z; rfl)
    rcases h2 with ⟨rfl, h2⟩ | h2
    · exact snw_or1 (gb.t hx h2 (e3 z))
    · exact gb.w hx h2 (e3 z)
  refine ⟨fun {X sc so k env x o} hx hc he => ?_, fun {X sc so k env x b} hx hc he => by
    have z : SndW X env x b := W hx hc he
    exact z.t, fun hx hc he => W hx hc he⟩
  obtain ⟨l, r, s, p, rfl, h1, h2⟩ := chk_or hc
  rw [evR] at he
  obtain ⟨d, e1, e2, e3⟩ := ifB_some he
  refine snd_or (ga.ro hx h1 e1) (fun z => ?_) (fun z => by cases e2 z; rfl)
  rcases h2 with ⟨rfl, h2⟩ | h2
  · exact snd_one (gb.r hx h2 (e3 z))
  · exact gb.r hx h2 (e3 z)
theorem ge_cmp {op : CmpOp} {a b : Ex} (ga : GE T N c a) (gb : GE T N c b) : GE T N c (.cmp op a b) where
  r := fun {X sc so k env x o} hx hc he => by
    obtain ⟨l, r, p, rfl, h1, h2⟩ := chk_cmp hc
    rw [evR] at he
    obtain ⟨u, v, e1, e2, e3⟩ := o2_some he
    obtain ⟨d, e4, rfl⟩ := toB_some e3
    exact snd_cmp hx.hu (chk_set h2) (ga.o hx h1 e1) (gb.o hx h2 e2) e4
  t := fun {X sc so k env x b} hx hc he => by
    obtain ⟨l, r, p, rfl, h1, h2⟩ := chk_cmp hc
    rw [evR] at he
    obtain ⟨u, v, e1, e2, e3⟩ := o2_some he
    obtain ⟨d, e4, e5⟩ := toB_some e3
    cases e5
    exact snt_cmp hx.hu (chk_set h2) (ga.o hx h1 e1) (gb.o hx h2 e2) e4
  w := fun hx hc he => by obtain ⟨l, r, p, h, _⟩ := chk_cmp hc; cases h
theorem noIn_ok {op : CmpOp} (h : noIn op = true) (o : O) : isD op o = false := by
  cases op <;> first | rfl | cases h
theorem ge_chain {p1 p2 : CmpOp} {a b d : Ex} (ga : GE T N c a) (gb : GE T N c b) (gd : GE T N c d) : GE T N c (.chain p1 p2 a b d) where
  r := fun {X sc so k env x o} hx hc he => by
    obtain ⟨l, m, r, p, rfl, h1, h2, h3, n1, n2⟩ := chk_chain hc
    rw [evR] at he
    obtain ⟨u, v, w, e1, e2, e3, e4⟩ := o3_some he
    exact (snd_chain hx.hu (chk_set h3) (ga.o hx h1 e1) (gb.o hx h2 e2) (gd.o hx h3 e3) (noIn_ok n1 _) (noIn_ok n2 _) e4).1
  t := fun {X sc so k env x b'} hx hc he => by
    obtain ⟨l, m, r, p, rfl, h1, h2, h3, n1, n2⟩ := chk_chain hc
    rw [evR] at he
    obtain ⟨u, v, w, e1, e2, e3, e4⟩ := o3_some he
    exact (snd_chain hx.hu (chk_set h3) (ga.o hx h1 e1) (gb.o hx h2 e2) (gd.o hx h3 e3) (noIn_ok n1 _) (noIn_ok n2 _) e4).2 _ rfl
  w := fun hx hc he => by obtain ⟨l, m, r, p, h, _⟩ := chk_chain hc; cases h
theorem ge_ife {t a b : Ex} (gt : GE T N c t) (ga : GE T N c a) (gb : GE T N c b) : GE T N c (.ife t a b) where
  r := fun {X sc so k env x o} hx hc he => by
    obtain ⟨u, l, r, p, rfl, h1, h2, h3⟩ := chk_ife hc
    rw [evR] at he
    obtain ⟨d, e1, e2, e3⟩ := ifB_some he
    exact snd_ife (gt.t hx h1 e1) (fun z => ga.r hx h2 (e2 z)) (fun z => gb.r hx h3 (e3 z))
  t := fun {X sc so k env x b'} hx hc he => by
    obtain ⟨u, l, r, p, rfl, h1, h2, h3⟩ := chk_ife hc
    rw [evR] at he
    obtain ⟨d, e1, e2, e3⟩ := ifB_some he
    exact snt_ife (gt.t hx h1 e1) (fun z => ga.t hx h2 (e2 z)) (fun z => gb.t hx h3 (e3 z))
  w := fun hx hc he => by obtain ⟨u, l, r, p, h, _⟩ := chk_ife hc; cases h
/-! lists of expressions -/
structure GEs (T : Tb) (N : List Str) (c : Ct) (es : Exs) : Prop where
  r : ∀ {X : Cx} {sc so : Scope} {k : Nat} {env : Env} {xs : List Expr} {os : List O}, XOk T c N sc so k X → chks T N sc es xs = true → evRs c env es = some os → SndRs X env xs os
  v : ∀ {X : Cx} {sc so : Scope} {k : Nat} {env : Env} {xs : List Expr} {os : List O}, XOk T c N sc so k X → chks T N sc es xs = true → evVs c env es = some os → SndVs X env xs os
  l : ∀ {X : Cx} {sc so : Scope} {k : Nat} {env : Env} {xs : List Expr} {ps : List P × Bool}, XOk T c N sc so k X → chks T N sc es xs = true → evLs c env es = some ps → SndLs X env xs ps
theorem chks_nil {xs : List Expr} (h : chks T N sc .nil xs = true) : xs = [] := by
  cases xs with
  | nil => rfl
  | cons => unfold chks at h; cases h
theorem chks_cons {e : Ex} {es : Exs} {xs : List Expr} (h : chks T N sc (.cons e es) xs = true) : ∃ y ys, xs = y :: ys ∧ chk T N sc e y = true ∧ chks T N sc es ys = true := by
  cases xs with
  | nil => unfold chks at h; cases h
  | cons y ys => unfold chks at h; rw [Bool.and_eq_true] at h; exact ⟨y, ys, rfl, h.1, h.2⟩
theorem ges_nil : GEs T N c .nil where
  r := fun hx hc he => by rw [evRs] at he; cases he; cases chks_nil hc; exact snr_nil
  v := fun hx hc he => by rw [evVs] at he; cases he; cases chks_nil hc; exact snv_nil
  l := fun hx hc he => by rw [evLs] at he; cases he; cases chks_nil hc; exact snl_nil
theorem consA_some {α : Type} {x : Option α} {xs : Option (List α)} {ys : List α} (h : consA x xs = some ys) : ∃ a as, x = some a ∧ xs = some as ∧ ys = a :: as := by
  unfold consA at h
  split at h
  · cases h; exact ⟨_, _, rfl, rfl, rfl⟩
  · cases h
theorem consB_some {α : Type} {x : Option (α × Bool)} {xs : Option (List α × Bool)} {ys : List α × Bool} (h : consB x xs = some ys) : ∃ a b as d, x = some (a, b) ∧ xs = some (as, d) ∧ ys = (a :: as, b || d) := by
  unfold consB at h
  split at h
  · cases h; exact ⟨_, _, _, _, rfl, rfl, rfl⟩
  · cases h
theorem ges_cons {e : Ex} {es : Exs} (g : GE T N c e) (gs : GEs T N c es) : GEs T N c (.cons e es) where
  r := fun hx hc he => by
    obtain ⟨y, ys, rfl, h1, h2⟩ := chks_cons hc
    rw [evRs] at he
    obtain ⟨a, as, e1, e2, rfl⟩ := consA_some he
    exact snr_cons (chk_nst h1) (g.r hx h1 e1) (gs.r hx h2 e2)
  v := fun hx hc he => by
    obtain ⟨y, ys, rfl, h1, h2⟩ := chks_cons hc
    rw [evVs] at he
    obtain ⟨a, as, e1, e2, rfl⟩ := consA_some he
    exact snv_cons (chk_nst h1) (g.o hx h1 e1) (gs.v hx h2 e2)
  l := fun hx hc he => by
    obtain ⟨y, ys, rfl, h1, h2⟩ := chks_cons hc
    rw [evLs] at he
    obtain ⟨a, b, as, d, e1, e2, rfl⟩ := consB_some he
    exact snl_cons (ps := (as, d)) (chk_nst h1) (g.ln hx h1 e1) (gs.l hx h2 e2)
theorem ge_lst {es : Exs} (gs : GEs T N c es) : GE T N c (.lst es) := ge_mk (fun h => by obtain ⟨l, p, rfl, _⟩ := chk_lst h; rfl) fun {X sc so k env x o} hx hc he => by
  obtain ⟨l, p, rfl, h⟩ := chk_lst hc
  rw [evR] at he
  obtain ⟨os, e1, e2⟩ := o1_some he
  exact snd_lst (gs.r hx h e1) e2
theorem ge_tup {es : Exs} (gs : GEs T N c es) : GE T N c (.tup es) := ge_mk (fun h => by obtain ⟨l, j, p, rfl, _⟩ := chk_tup h; rfl) fun {X sc so k env x o} hx hc he => by
  obtain ⟨l, j, p, rfl, h⟩ := chk_tup hc
  rw [evR] at he
  obtain ⟨os, e1, e2⟩ := o1_some he
  exact snd_tup (gs.r hx h e1) e2
theorem ge_dct {ks vs : Exs} : GE T N c (.dct ks vs) := ge_mk (fun h => by obtain ⟨_, _, p, rfl⟩ := chk_dct h; rfl) fun {X sc so k env x o} hx hc he => by
  obtain ⟨rfl, rfl, p, rfl⟩ := chk_dct hc
  rw [evR] at he
  cases he
  exact snd_dct
theorem ge_idx {a i : Ex} (ga : GE T N c a) (gi : GE T N c i) : GE T N c (.idx a i) := ge_mk (fun h => by obtain ⟨l, r, p, rfl, _⟩ := chk_idx h; rfl) fun {X sc so k env x o} hx hc he => by
  obtain ⟨l, r, p, rfl, h1, h2⟩ := chk_idx hc
  rw [evR] at he
  obtain ⟨u, v, e1, e2, e3⟩ := o2_some he
  exact snd_idx hx.hu (plainIx_ok h2) (ga.o hx h1 e1) (gi.ro hx h2 e2) e3
theorem ge_call {f : Nat} {es : Exs} (gs : GEs T N c es) : GE T N c (.call f es) := ge_mk (fun h => by obtain ⟨n, p, l, q, rfl, _⟩ := chk_call h; rfl) fun {X sc so k env x o} hx hc he => by
  obtain ⟨n, p, l, q, rfl, h1, h2⟩ := chk_call hc
  rw [evR] at he
  unfold callC at he
  split at he
  · rename_i ps b e1
    have ha := gs.l hx h2 e1
    cases l with
    | nil =>
      cases es with
      | nil =>
        rw [evLs] at e1
        cases e1
        exact snd_call0 hx h1 he
      | cons => unfold chks at h2; cases h2
    | cons y ys => exact snd_call hx h1 (chks_nst h2) ha he
  · cases he
theorem ge_bi {b : BI} {es : Exs} (gs : GEs T N c es) : GE T N c (.bi b es) := ge_mk (fun h => by obtain ⟨n, p, e, l, q, rfl, _⟩ := chk_bi h; rfl) fun {X sc so k env x o} hx hc he => by
  obtain ⟨n, p, e, l, q, rfl, h1, h2⟩ := chk_bi hc
  rw [evR] at he
  obtain ⟨os, e1, e2⟩ := o1_some he
  exact snd_bi hx h1 (chks_nst h2) (gs.v hx h2 e1) e2
theorem ge_isi {a : Ex} {ts : List Ty} (ga : GE T N c a) : GE T N c (.isi a ts) := ge_mk (fun h => by obtain ⟨n, p, e, t, q, rfl, _⟩ := chk_isi h; rfl) fun {X sc so k env x o} hx hc he => by
  obtain ⟨n, p, e, t, q, rfl, h1, h2, h3, h4⟩ := chk_isi hc
  rw [evR] at he
  obtain ⟨p0, e1, e2⟩ := o1_some he
  obtain ⟨u, e3, e4⟩ := o1_some e1
  unfold isiO at e2
  cases e2
  exact snd_isi hx hx.ty h1 (chk_nst h2) (ga.o hx h2 e3) h3 h4 e4
theorem ge_meth {m : MI} {a : Ex} {es : Exs} (ga : GE T N c a) (gs : ∀ e1 e2, es = .cons e1 (.cons e2 .nil) → GE T N c e1 ∧ GE T N c e2) : GE T N c (.meth m a es) := ge_mk (fun h => by obtain ⟨_, e1, e2, l, ap, f1, f2, cp, _, rfl, _⟩ := chk_meth h; rfl) fun {X sc so k env x o} hx hc he => by
  obtain ⟨rfl, e1, e2, l, ap, f1, f2, cp, rfl, rfl, h1, h2, h3, h4, h5⟩ := chk_meth hc
  obtain ⟨g1, g2⟩ := gs _ _ rfl
  rw [evR] at he
  obtain ⟨u, v, z1, z2, z3⟩ := o2_some he
  rw [evVs, evVs, evVs] at z2
  obtain ⟨o1, r1, y1, y2, rfl⟩ := consA_some z2
  obtain ⟨o2, r2, y3, y4, rfl⟩ := consA_some y2
  cases y4
  exact snd_get hx h1 h2 (chk_nst h4) (chk_nst h5) (ga.o hx h3 z1) (g1.o hx h4 y1) (g2.o hx h5 y3) z3
end G

set_option maxRecDepth 100000
namespace G
open PySem L2
variable {T : Tb} {N : List Str} {c : Ct}
/-! ### what is walked -/
structure GX (T : Tb) (N : List Str) (c : Ct) (x : Ox) : Prop where
  x : ∀ {X : Cx} {sc so : Scope} {k : Nat} {env : Env} {e : Option Expr} {i : Option Int}, XOk T c N sc so k X → chkX T N sc x e = true → evX c env x = some i → SndX X env e i
theorem oI_some {o : Option O} {i : Option Int} (h : oI o = some i) : ∃ j, o = some (.pl (.int j)) ∧ i = some j := by
  unfold oI at h
  split at h
  · cases h; exact ⟨_, rfl, rfl⟩
  · cases h
theorem gx_none : GX T N c .none := ⟨fun {X sc so k env e i} hx hc he => by
  rw [evX] at he
  cases he
  cases e with
  | none => exact snx_none
  | some y => unfold chkX at hc; cases hc⟩
theorem gx_some {e : Ex} (g : GE T N c e) : GX T N c (.some e) := ⟨fun {X sc so k env e i} hx hc he => by
  rw [evX] at he
  obtain ⟨j, e1, rfl⟩ := oI_some he
  cases e with
  | none => unfold chkX at hc; cases hc
  | some y => unfold chkX at hc; exact snx_some (g.r hx hc e1)⟩
theorem ge_slc {a : Ex} {lo hi : Ox} (ga : GE T N c a) (gl : GX T N c lo) (gh : GX T N c hi) : GE T N c (.slc a lo hi) := ge_mk (fun h => by obtain ⟨l, u, v, p, q, rfl, _⟩ := chk_slc h; rfl) fun {X sc so k env x o} hx hc he => by
  obtain ⟨l, u, v, p, q, rfl, h1, h2, h3⟩ := chk_slc hc
  rw [evR] at he
  obtain ⟨z, i, j, e1, e2, e3, e4⟩ := o3_some he
  exact snd_slc (ga.o hx h1 e1) (gl.x hx h2 e2) (gh.x hx h3 e3) e4
def Ar (m : Bool) (X : Cx) (env : Env) (x : Expr) (o : O) : Prop := (m = true ∧ SndO X env x o) ∨ ∃ p, o = .pl p ∧ SndL X env x p false
def opM (m : Bool) (c : Ct) (env : Env) (e : Ex) : Option O := match m with
  | true => opnd env e (evR c env e)
  | false => sh (evR c env e)
def evM (m : Bool) (c : Ct) (env : Env) : It → Option (List P)
  | .seq e => o1 seqAny (opM m c env e)
  | .range1 a => o1 rng1 (evR c env a)
  | .range2 a b => o2 rng2 (evR c env a) (evR c env b)
  | .range3 _ _ _ => none
  | .enum e => o1 enmO (opM m c env e)
  | .zip a b => o2 zipO (opM m c env a) (opM m c env b)
  | .items _ => none
  | .rev e => o1 revO (opM m c env e)
theorem evI_eq {env : Env} {it : It} : evI c env it = evM true c env it := by
  cases it <;> rw [evI] <;> rfl
theorem evJ_eq {env : Env} {it : It} : evJ c env it = evM false c env it := by
  cases it <;> rw [evJ] <;> rfl
section
variable {X : Cx} {sc so : Scope} {k : Nat} {env : Env} {x : Expr} {o : O} {m : Bool} {ps : List P}
theorem GE.ar {e : Ex} (g : GE T N c e) (hx : XOk T c N sc so k X) (hc : chk T N sc e x = true) (he : opM m c env e = some o) : Ar m X env x o := by
  cases m with
  | true => exact .inl ⟨rfl, g.o hx hc he⟩
  | false =>
    obtain ⟨p, e1, e2⟩ := g.sh hx hc he
    exact .inr ⟨p, e1, e2⟩
theorem Ar.l (a : Ar m X env x o) (h : litems o = some ps) : SndS m false X env x ps := by
  rcases a with ⟨rfl, a⟩ | ⟨p, rfl, a⟩
  · exact sns_I a h
  · cases p <;> first | (cases h; exact sns_L a) | cases h
theorem Ar.t (a : Ar m X env x (.pl (.tuple ps))) : SndS m true X env x ps := by
  rcases a with ⟨rfl, a⟩ | ⟨p, z, a⟩
  · have z : SndL X env x (.tuple ps) false := @SndO.give _ _ _ _ a
    exact sns_T z
  · cases z
    exact sns_T a
theorem Ar.q (a : Ar m X env x o) (h : seqI o = some ps) : ∃ t, SndS m t X env x ps := by
  unfold seqI at h
  split at h
  · cases h; exact ⟨false, a.l rfl⟩
  · cases h; exact ⟨false, a.l rfl⟩
  · cases h; exact ⟨true, a.t⟩
  · cases h
theorem SndL.s {s : Str} (a : SndL X env x (.str s) false) : SndO X env x (.pl (.str s)) := fun _ _ _ _ _ w re q => a w re fun v B' H' s h1 h2 => q v B' H' [] s (.pl (h1 rfl))
theorem Ar.mm {tg : Expr} (a : Ar m X env x o) (h : seqAny o = some ps) : SndM m X env tg x ps := by
  unfold seqAny at h
  split at h
  · cases h; exact snm_seq (a.l rfl)
  · cases h; exact snm_seq (a.l rfl)
  · cases h; exact snm_seq a.t
  · cases h
    rcases a with ⟨rfl, a⟩ | ⟨p, z, a⟩
    · exact snm_str a
    · cases z
      exact snm_str (@SndL.s _ _ _ _ a)
  · cases h
theorem mapI_some {f : List P → List P} {r : Option (List P)} (h : mapI f r = some ps) : ∃ xs, r = some xs ∧ ps = f xs := by
  cases r with
  | none => cases h
  | some xs => cases h; exact ⟨xs, rfl, rfl⟩
theorem zipO_some {u v : O} (h : zipO u v = some ps) : ∃ xs ys, ps = zipP xs ys ∧ seqI u = some xs ∧ seqI v = some ys := by
  unfold zipO at h
  cases h1 : seqI u with
  | none => rw [h1] at h; cases h
  | some xs =>
    cases h2 : seqI v with
    | none => rw [h1, h2] at h; cases h
    | some ys => rw [h1, h2] at h; cases h; exact ⟨xs, ys, rfl, rfl, rfl⟩
structure GI (T : Tb) (N : List Str) (c : Ct) (it : It) : Prop where
  i : ∀ {m : Bool} {X : Cx} {sc so : Scope} {k : Nat} {env : Env} {tg x : Expr} {ps : List P}, XOk T c N sc so k X → chkI T N sc it tg x = true → evM m c env it = some ps → SndM m X env tg x ps ∧ setB x = true
theorem gi_seq {a : Ex} (ga : GE T N c a) : GI T N c (.seq a) := ⟨fun {m X sc so k env tg x ps} hx hc he => by
  unfold chkI at hc
  obtain ⟨o, e1, e2⟩ := o1_some he
  exact ⟨(ga.ar hx hc e1).mm e2, chk_set hc⟩⟩
theorem gi_r3 {a b d : Ex} : GI T N c (.range3 a b d) := ⟨fun {m X sc so k env tg x ps} hx hc he => by cases he⟩
theorem gi_items {a : Ex} : GI T N c (.items a) := ⟨fun {m X sc so k env tg x ps} hx hc he => by cases he⟩
theorem rng1_some (h : rng1 o = some ps) : ∃ i, o = .pl (.int i) ∧ okI i ∧ ps = rangeP 0 i := by
  unfold rng1 at h
  split at h
  · split at h
    · cases h; exact ⟨_, rfl, by assumption, rfl⟩
    · cases h
  · cases h
theorem rng2_some {u : O} (h : rng2 o u = some ps) : ∃ i j, o = .pl (.int i) ∧ u = .pl (.int j) ∧ (okI i ∧ okI j) ∧ ps = rangeP i (j - i) := by
  unfold rng2 at h
  split at h
  · split at h
    · cases h; exact ⟨_, _, rfl, rfl, by assumption, rfl⟩
    · cases h
  · cases h
theorem gi_r1 {a : Ex} (ga : GE T N c a) : GI T N c (.range1 a) := ⟨fun {m X sc so k env tg x ps} hx hc he => by
  unfold chkI at hc
  split at hc <;> first | (rename_i e; cases e) | cases hc
  rw [Bool.and_eq_true] at hc
  obtain ⟨o, e1, e2⟩ := o1_some he
  obtain ⟨i, rfl, hi, rfl⟩ := rng1_some e2
  have hg := gl_ok hx hc.1
  obtain ⟨h1, h2, h3⟩ := gn_ok hc.1
  cases h1
  exact ⟨snm_rng1 hg hx.rng (chk_nst hc.2) (ga.r hx hc.2 e1) hi, rfl⟩⟩
theorem gi_r2 {a b : Ex} (ga : GE T N c a) (gb : GE T N c b) : GI T N c (.range2 a b) := ⟨fun {m X sc so k env tg x ps} hx hc he => by
  unfold chkI at hc
  split at hc <;> first | (rename_i e; cases e) | cases hc
  rw [Bool.and_eq_true, Bool.and_eq_true] at hc
  obtain ⟨o, u, e1, e3, e2⟩ := o2_some he
  obtain ⟨i, j, rfl, rfl, hi, rfl⟩ := rng2_some e2
  have hg := gl_ok hx hc.1.1
  obtain ⟨h1, h2, h3⟩ := gn_ok hc.1.1
  cases h1
  exact ⟨snm_rng2 hg hx.rng (chk_nst hc.1.2) (chk_nst hc.2) (ga.r hx hc.1.2 e1) (gb.r hx hc.2 e3) hi, rfl⟩⟩
theorem gi_enum {a : Ex} (ga : GE T N c a) : GI T N c (.enum a) := ⟨fun {m X sc so k env tg x ps} hx hc he => by
  unfold chkI at hc
  split at hc <;> first | (rename_i e; cases e) | cases hc
  rw [Bool.and_eq_true] at hc
  obtain ⟨o, e1, e2⟩ := o1_some he
  obtain ⟨xs, e3, rfl⟩ := mapI_some e2
  have hg := gl_ok hx hc.1
  obtain ⟨h1, h2, h3⟩ := gn_ok hc.1
  cases h1
  exact ⟨snm_enum hg hx.enu (chk_nst hc.2) ((ga.ar hx hc.2 e1).l e3), rfl⟩⟩
theorem gi_rev {a : Ex} (ga : GE T N c a) : GI T N c (.rev a) := ⟨fun {m X sc so k env tg x ps} hx hc he => by
  unfold chkI at hc
  split at hc <;> first | (rename_i e; cases e) | cases hc
  rw [Bool.and_eq_true] at hc
  obtain ⟨o, e1, e2⟩ := o1_some he
  obtain ⟨xs, e3, rfl⟩ := mapI_some e2
  have hg := gl_ok hx hc.1
  obtain ⟨h1, h2, h3⟩ := gn_ok hc.1
  cases h1
  obtain ⟨t, ht⟩ := (ga.ar hx hc.2 e1).q e3
  exact ⟨snm_rev hg hx.rev (chk_nst hc.2) ht, rfl⟩⟩
theorem gi_zip {a b : Ex} (ga : GE T N c a) (gb : GE T N c b) : GI T N c (.zip a b) := ⟨fun {m X sc so k env tg x ps} hx hc he => by
  unfold chkI at hc
  split at hc <;> first | (rename_i e; cases e) | cases hc
  rw [Bool.and_eq_true, Bool.and_eq_true] at hc
  obtain ⟨o, u, e1, e3, e2⟩ := o2_some he
  obtain ⟨xs, ys, rfl, e5, e6⟩ := zipO_some e2
  have hg := gl_ok hx hc.1.1
  obtain ⟨h1, h2, h3⟩ := gn_ok hc.1.1
  cases h1
  refine ⟨?_, rfl⟩
  obtain ⟨t1, a1⟩ := (ga.ar hx hc.1.2 e1).q e5
  obtain ⟨t2, a2⟩ := (gb.ar hx hc.2 e3).q e6
  exact snm_zipM hg hx.zip (chk_nst hc.1.2) (chk_nst hc.2) a1 a2⟩
theorem lcO_some {f : P → Option (Option O)} {r : Option (List P)} {o : O} (h : lcO f r = some o) : ∃ ps os, r = some ps ∧ ps.length ≤ 1000000 ∧ mapO f ps = some os ∧ mkL (os.filterMap id) = some o := by
  unfold lcO at h
  split at h
  · split at h
    · rename_i ps hn
      unfold lcM at h
      split at h
      · rename_i os e
        exact ⟨ps, os, rfl, hn, e, h⟩
      · cases h
    · cases h
  · cases h
theorem lc_chk {own : List Nat} {tg : Tg} {it : It} {cd : Ox} {e : Ex} (gi : GI T N c it) (gc : ∀ d, cd = .some d → GE T N c d) (ge : GE T N c e) (hx : XOk T c N sc so k X) (hc : chk T N sc (.lc own tg it cd e) x = true) (he : evR c env (.lc own tg it cd e) = some o) :
    ∃ el t i ifs scope p, x = .ListComp el [⟨t, i, ifs, 0⟩] scope p ∧ LcOk X env scope t i el ifs o := by
  obtain ⟨el, t, i, ifs, scope, p, rfl, h1, h2, h3, h4, h5, h6⟩ := chk_lc hc
  rw [evR_lc] at he
  obtain ⟨ps, os, e1, e2, e3, e4⟩ := lcO_some he
  rw [evI_eq] at e1
  obtain ⟨z1, z2⟩ := gi.i (m := true) hx h4 e1
  refine ⟨el, t, i, ifs, scope, p, rfl, lc_ok (pos := p) hx h1 h2 h3 z1 (folded_ok z2) ?_ ?_ e2 e3 e4⟩
  · intro X' hx' env1 b hb
    rcases h5 with ⟨rfl, rfl⟩ | ⟨d, f, rfl, rfl, hd⟩
    · rw [evC] at hb
      cases hb
      exact snts_nil
    · rw [evC] at hb
      exact snts_one ((gc d rfl).t hx' hd hb)
  · intro X' hx' env1 o ho
    exact ge.r hx' h6 ho
theorem ge_lc {own : List Nat} {tg : Tg} {it : It} {cd : Ox} {e : Ex} (gi : GI T N c it) (gc : ∀ d, cd = .some d → GE T N c d) (ge : GE T N c e) : GE T N c (.lc own tg it cd e) := ge_mk (fun h => by obtain ⟨el, t, i, ifs, scope, p, rfl, _⟩ := chk_lc h; rfl) fun {X sc so k env x o} hx hc he => by
  obtain ⟨el, t, i, ifs, scope, p, rfl, h⟩ := lc_chk gi gc ge hx hc he
  exact snd_lc h
end
mutual
theorem gE : ∀ e : Ex, GE T N c e
  | .var i => ge_var
  | .mov i => ge_mov
  | .lit p => ge_lit
  | .glob g => ge_glob
  | .bin op a b => ge_bin (gE a) (gE b)
  | .neg a => ge_neg (gE a)
  | .not a => ge_not (gE a)
  | .and a b => ge_and (gE a) (gE b)
  | .or a b => ge_or (gE a) (gE b)
  | .cmp op a b => ge_cmp (gE a) (gE b)
  | .chain p q a b d => ge_chain (gE a) (gE b) (gE d)
  | .ife t a b => ge_ife (gE t) (gE a) (gE b)
  | .lst es => ge_lst (gEs es)
  | .tup es => ge_tup (gEs es)
  | .dct ks vs => ge_dct
  | .idx a i => ge_idx (gE a) (gE i)
  | .slc a lo hi => ge_slc (gE a) (gX lo) (gX hi)
  | .call f es => ge_call (gEs es)
  | .bi b es => ge_bi (gEs es)
  | .isi a ts => ge_isi (gE a)
  | .meth m a .nil => ge_meth (gE a) (fun _ _ h => by cases h)
  | .meth m a (.cons e .nil) => ge_meth (gE a) (fun _ _ h => by cases h)
  | .meth m a (.cons e (.cons f .nil)) => ge_meth (gE a) (fun _ _ h => by cases h; exact ⟨gE e, gE f⟩)
  | .meth m a (.cons e (.cons f (.cons g es))) => ge_meth (gE a) (fun _ _ h => by cases h)
  | .lc own tg it .none e => ge_lc (gI it) (fun _ h => by cases h) (gE e)
  | .lc own tg it (.some d) e => ge_lc (gI it) (fun _ h => by cases h; exact gE d) (gE e)
theorem gEs : ∀ es : Exs, GEs T N c es
  | .nil => ges_nil
  | .cons e es => ges_cons (gE e) (gEs es)
theorem gX : ∀ x : Ox, GX T N c x
  | .none => gx_none
  | .some e => gx_some (gE e)
theorem gI : ∀ it : It, GI T N c it
  | .seq a => gi_seq (gE a)
  | .range1 a => gi_r1 (gE a)
  | .range2 a b => gi_r2 (gE a) (gE b)
  | .range3 a b d => gi_r3
  | .enum a => gi_enum (gE a)
  | .zip a b => gi_zip (gE a) (gE b)
  | .items a => gi_items
  | .rev a => gi_rev (gE a)
end
end G

set_option maxRecDepth 100000
namespace G
open PySem L2
/-! ### a body's situation -/
/-- since (B0, H0), a body's start: what was there stands; what is held alone is new -/
structure Sit (B0 H0 B H : Hp) (f : List Addr) : Prop where
  s : Stp B0 H0 B H
  w : Wld B H f
  fr : ∀ a ∈ f, H0 a = none
section
variable {K : PySem.W.Frag} {B0 H0 B H B' H' : Hp} {f g fp : List Addr}
theorem Sit.stp (t : Sit B0 H0 B H f) (s : Stp B H B' H') (hf : ∀ a ∈ f, H a ≠ none) : Sit B0 H0 B' H' f := ⟨t.s.trans s, t.w.stp s hf, t.fr⟩
theorem Sit.add (t : Sit B0 H0 B H f) (s : Stp B H B' H') (hf : ∀ a ∈ f, H a ≠ none) (n : Frs H B' g) : Sit B0 H0 B' H' (g ++ f) :=
  ⟨t.s.trans s, (t.w.stp s hf).add n hf, fun a ha => (List.mem_append.mp ha).elim (fun z => t.s.h.none (n.new a z)) (t.fr a)⟩
theorem Sit.perm (t : Sit B0 H0 B H f) (p : f.Perm g) : Sit B0 H0 B H g := ⟨t.s, t.w.perm p, fun a ha => t.fr a (p.mem_iff.mpr ha)⟩
theorem Sit.right (t : Sit B0 H0 B H (f ++ g)) : Sit B0 H0 B H g := ⟨t.s, t.w.right, fun a ha => t.fr a (by simp [ha])⟩
theorem Sit.left (t : Sit B0 H0 B H (f ++ g)) : Sit B0 H0 B H f := ⟨t.s, t.w.left, fun a ha => t.fr a (by simp [ha])⟩
theorem Sit.sub (t : Sit B0 H0 B H f) (nd : g.Nodup) (h : ∀ a ∈ g, a ∈ f) : Sit B0 H0 B H g := ⟨t.s, ⟨t.w.bh, nd, fun a ha => t.w.out a (h a ha)⟩, fun a ha => t.fr a (h a ha)⟩
theorem Sit.frs (t : Sit B0 H0 B H (f ++ g)) : Frs H0 B f := ⟨t.left.w.nd, t.left.fr, t.left.w.out⟩
/-- an own thing is changed -/
theorem Sit.upd (t : Sit B0 H0 B H f) {a : Addr} (ha : a ∈ f) {u : HO} : Sit B0 H0 B (upd H a u) f :=
  ⟨⟨t.s.b, fun b o h => by
    rw [upd_ne (ne_of_none h (t.fr a ha))]
    exact t.s.h b o h, fun b o h => by
    rw [upd_ne (ne_of_none h (t.w.out a ha))]
    exact t.s.bh b o h, t.s.new⟩, ⟨fun b o h => by
    rw [upd_ne (ne_of_none h (t.w.out a ha))]
    exact t.w.bh b o h, t.w.nd, t.w.out⟩, t.fr⟩
theorem perm_ac (a b c : List Addr) : (a ++ (b ++ c)).Perm (b ++ (a ++ c)) := List.perm_append_comm_assoc a b c
/-- own things become shared -/
theorem Sit.share {vs : List V} {os : List O} {ps : List P} (t : Sit B0 H0 B H (f ++ fp)) (r : ROs K B H vs os f) (q : fzs os = some ps) : ∃ B2, Ext B B2 ∧ Sit B0 H0 B2 H fp ∧ RPs K B2 vs ps := by
  obtain ⟨e1, e2, nw⟩ := frz_ext t.w.bh t.left.w.out
  refine ⟨frz B H f, e1, ⟨⟨t.s.b.trans e1, t.s.h, e2, fun a h => ?_⟩, ⟨e2, t.right.w.nd, fun a ha => ?_⟩, t.right.fr⟩, r.fz e1 (fun a ha => frz_in ha) q⟩
  · rcases nw a h with z | z
    · exact t.s.new a z
    · exact .inr (t.left.fr a z)
  · rw [frz_out fun z => (List.nodup_append.mp t.w.nd).2.2 a z a ha rfl]
    exact t.right.w.out a ha
theorem Sit.share1 {v : V} {o : O} {p : P} (t : Sit B0 H0 B H (f ++ fp)) (r : RO K B H v o f) (q : fz o = some p) : ∃ B2, Ext B B2 ∧ Sit B0 H0 B2 H fp ∧ RP K B2 v p := by
  have r1 : ROs K B H [v] [o] (f ++ []) := .cons r .nil
  rw [List.append_nil] at r1
  obtain ⟨B2, e, t2, rp⟩ := t.share r1 (ps := [p]) (by rw [fzs, q]; rfl)
  cases rp with
  | cons h _ => exact ⟨B2, e, t2, h⟩
/-- a slot takes a thing -/
theorem put_fin {v : V} {o : O} {σ : L2.St} {env : Env} {i : Nat} (t : Sit B0 H0 B H (g ++ (f ++ fp))) (ro : RO K B H v o f) (re : REnv K B H σ env fp) : ∃ fp2, Sit B0 H0 B H (g ++ fp2) ∧ REnv K B H (σ.set i (some v)) (env.set i (some o)) fp2 := by
  by_cases hi : i < env.length
  · obtain ⟨g', r', f', h1, h2, h3⟩ := re.put hi ro
    refine ⟨f', ?_, h3⟩
    have p1 : (g ++ (f ++ fp)).Perm (g ++ (f ++ (g' ++ r'))) := List.Perm.append_left g (List.Perm.append_left f h1)
    have p2 : (g ++ (f ++ (g' ++ r'))).Perm (g' ++ (g ++ (f ++ r'))) := (List.Perm.append_left g (perm_ac f g' r')).trans (perm_ac g g' (f ++ r'))
    exact ((t.perm (p1.trans p2)).right).perm (List.Perm.append_left g h2.symm)
  · have hl := re.len
    rw [List.set_eq_of_length_le (by omega), List.set_eq_of_length_le (by omega)]
    exact ⟨fp, (t.perm (perm_ac g f fp)).right, re⟩
theorem putP_fin {v : V} {p : P} {σ : L2.St} {env : Env} {i : Nat} (t : Sit B0 H0 B H fp) (ro : RP K B v p) (re : REnv K B H σ env fp) : ∃ fp2, Sit B0 H0 B H fp2 ∧ REnv K B H (σ.set i (some v)) (env.set i (some (.pl p))) fp2 :=
  put_fin (g := []) (f := []) t (.pl ro) re
theorem puts_fin : ∀ {is : List Nat} {vs : List V} {os : List O} {σ : L2.St} {env : Env} {f fp : List Addr}, Sit B0 H0 B H (f ++ fp) → ROs K B H vs os f → REnv K B H σ env fp → is.length = os.length →
    ∃ fp2, Sit B0 H0 B H fp2 ∧ REnv K B H (G.sets is vs σ) ((is.zip os).foldl (fun e y => e.set y.1 (some y.2)) env) fp2
  | [], vs, [], σ, env, f, fp, t, r, re, _ => by
    cases r
    exact ⟨_, t, re⟩
  | i :: is, vs, o :: os, σ, env, f, fp, t, r, re, hl => by
    cases r with
    | @cons v vs' _ _ f1 f2 h r =>
      have t1 : Sit B0 H0 B H (f2 ++ (f1 ++ fp)) := t.perm (by rw [List.append_assoc]; exact perm_ac f1 f2 fp)
      obtain ⟨fp2, t2, re2⟩ := put_fin (i := i) t1 h re
      exact puts_fin (is := is) (vs := vs') (os := os) t2 r re2 (by simpa using hl)
  | [], _, _ :: _, _, _, _, _, _, _, _, h => by cases h
  | _ :: _, _, [], _, _, _, _, _, _, _, h => by cases h
/-- an own thing in a slot is changed -/
theorem mutate {σ : L2.St} {env : Env} {i : Nat} {o : O} (t : Sit B0 H0 B H fp) (re : REnv K B H σ env fp) (h : env[i]? = some (some o)) (ho : (∃ xs, o = .fl xs) ∨ ∃ kvs, o = .fd kvs) :
    ∃ a, σ[i]? = some (some (.ref a)) ∧ RO K B H (.ref a) o [a] ∧ a ∈ fp ∧ ∀ (u : HO) (o' : O), RO K B (upd H a u) (.ref a) o' [a] → Sit B0 H0 B (upd H a u) fp ∧ ∃ fp2, REnv K B (upd H a u) σ (env.set i (some o')) fp2 ∧ Sit B0 H0 B (upd H a u) fp2 := by
  obtain ⟨v, g, r', h1, h2, h3, h4⟩ := re.take h
  have key : ∃ a, v = .ref a ∧ g = [a] := by
    rcases ho with ⟨xs, rfl⟩ | ⟨kvs, rfl⟩
    · cases h2; exact ⟨_, rfl, rfl⟩
    · cases h2; exact ⟨_, rfl, rfl⟩
  obtain ⟨a, rfl, rfl⟩ := key
  have ha : a ∈ fp := h3.mem_iff.mpr (by simp)
  refine ⟨a, h1, h2, ha, fun u o' ro => ?_⟩
  have t' := t.upd ha (u := u)
  refine ⟨t', ?_⟩
  have nd : ([a] ++ r').Nodup := h3.nodup_iff.mp t.w.nd
  have na : a ∉ r' := (List.nodup_cons.mp nd).1
  have re' : REnv K B (upd H a u) σ (env.set i none) r' := h4.mono (.refl B) fun b hb w e => by
    rw [upd_ne (fun z => na (by rw [← z]; exact hb))]
    exact e
  obtain ⟨f', p1, re2⟩ := re'.putN (i := i) (v := .ref a) (o := o') (g := [a]) (by rw [List.getElem?_set_self (List.getElem?_eq_some_iff.mp h).1]) ro
  rw [List.set_set] at re2
  have es : σ.set i (some (.ref a)) = σ := by
    refine List.ext_getElem? fun j => ?_
    by_cases hj : i = j
    · subst hj
      rw [List.getElem?_set_self (List.getElem?_eq_some_iff.mp h1).1, h1]
    · rw [List.getElem?_set_ne hj]
  rw [es] at re2
  exact ⟨f', re2, t'.perm (h3.trans p1.symm)⟩
end
/-! ### values that may take a slot's thing along -/
def SndV (X : Cx) (env : Env) (ex : Expr) (o : O) (env1 : Env) : Prop := ∀ ⦃B0 H0 B H : Hp⦄ ⦃σ : L2.St⦄ ⦃fp g : List Addr⦄ ⦃Q : VK⦄, Sit B0 H0 B H (g ++ fp) → (∀ a ∈ g, H a ≠ none) → REnv X.K B H σ env fp →
  (∀ v B' H' f fp', Ext B B' → Ext H H' → Sit B0 H0 B' H' (g ++ (f ++ fp')) → RO X.K B' H' v o f → REnv X.K B' H' σ env1 fp' → Q v H') → wE X ex σ H Q
def SndWs (X : Cx) (env : Env) (es : List Expr) (os : List O) (env1 : Env) : Prop := ∀ ⦃B0 H0 B H : Hp⦄ ⦃σ : L2.St⦄ ⦃fp g : List Addr⦄ ⦃Q : List V → Hp → Prop⦄, Sit B0 H0 B H (g ++ fp) → (∀ a ∈ g, H a ≠ none) → REnv X.K B H σ env fp →
  (∀ vs B' H' f fp', Ext B B' → Ext H H' → Sit B0 H0 B' H' (g ++ (f ++ fp')) → ROs X.K B' H' vs os f → REnv X.K B' H' σ env1 fp' → Q vs H') → wA X es σ H Q
section
variable {X : Cx} {env env1 env2 : Env} {ex l : Expr} {o : O} {os : List O} {es : List Expr}
theorem mem_app {H : Hp} {f g : List Addr} (h1 : ∀ a ∈ f, H a ≠ none) (h2 : ∀ a ∈ g, H a ≠ none) : ∀ a ∈ f ++ g, H a ≠ none := fun a ha => (List.mem_append.mp ha).elim (h1 a) (h2 a)
theorem ext_has {H H' : Hp} (e : Ext H H') {f : List Addr} (h : ∀ a ∈ f, H a ≠ none) : ∀ a ∈ f, H' a ≠ none := fun a ha z => h a ha (e.none z)
theorem Snd.v (h : Snd X env ex o) : SndV X env ex o env := fun _ _ _ _ _ fp g _ t hg re q => h t.w.right re fun v B' H' f s ro n =>
  q v B' H' f fp s.b s.h ((t.add s (mem_app hg re.has) n).perm (perm_ac f g fp)) ro (re.stp s)
theorem sndv_mov {T : Tb} {c : Ct} {N : List Str} {sc so : Scope} {k : Nat} (hx : XOk T c N sc so k X) {i : Nat} {x : Str} {pos : Pos} (h : nameB N sc i x = true) (hs : slot env i = some o) : SndV X env (.Name x pos) o (env.set i none) := fun _ _ B H _ fp g _ t hg re q => by
  obtain ⟨v, g1, r', h1, h2, h3, h4⟩ := re.take (slot_some hs)
  exact ⟨_, name_ok hx h, v, h1, q v B H g1 r' (.refl B) (.refl H) (t.perm (List.Perm.append_left g h3)) h2 h4⟩
theorem sndw_nil : SndWs X env [] [] env := fun _ _ _ _ _ fp g _ t hg re q => ⟨_, pa_nil, q _ _ _ [] fp (.refl _) (.refl _) t .nil re⟩
theorem sndw_cons (hn : nst l = true) (h1 : SndV X env l o env1) (h2 : SndWs X env1 es os env2) : SndWs X env (l :: es) (o :: os) env2 := fun _ _ _ _ _ fp g _ t hg re q =>
  ⟨_, pa_cons wE_ok wA_ok (star_cons hn), h1 t hg re fun v B1 H1 f fp1 sb sh t1 r1 re1 => h2 (g := g ++ f) (by rw [List.append_assoc]; exact t1) (mem_app (ext_has sh hg) r1.has) re1 fun vs B2 H2 f2 fp2 sb2 sh2 t2 r2 re2 =>
    q _ _ _ (f ++ f2) fp2 (sb.trans sb2) (sh.trans sh2) (by rw [List.append_assoc] at t2; rw [List.append_assoc]; exact t2) (.cons (r1.mono sb2 fun a _ u z => sh2 a u z) r2) re2⟩
theorem sndv_tup {k : Nat} {pos : Pos} (h1 : SndWs X env es os env1) (h : mkT os = some o) : SndV X env (.Tuple es k pos) o env1 := fun _ _ _ _ _ fp g _ t hg re q =>
  ⟨_, pe_tup wA_ok, h1 t hg re fun vs B1 H1 f1 fp1 sb sh t1 r1 re1 => by
    unfold mkT at h
    split at h
    · rename_i c
      refine ⟨by rw [r1.len, line_eq]; omega, fun a ha => ?_⟩
      have s2 := Stp.layB (o := .tup vs) t1.s.bh ha
      have t2 := t1.stp s2 (mem_app (ext_has sh hg) (mem_app r1.has re1.has))
      cases z : plains os with
      | some ps =>
        rw [z] at h
        cases h
        obtain ⟨rp, rfl⟩ := plains_ok z r1
        exact q _ _ _ [] fp1 (sb.trans s2.b) (sh.trans s2.h) t2 (.pl (.tup (.of upd_same) (rp.stp s2))) (re1.stp s2)
      | none =>
        rw [z] at h
        cases h
        exact q _ _ _ f1 fp1 (sb.trans s2.b) (sh.trans s2.h) t2 (.tup upd_same (r1.stp s2)) (re1.stp s2)
    · cases h⟩
theorem sndv_lst {pos : Pos} (h1 : SndWs X env es os env1) (h : mkL os = some o) : SndV X env (.List es pos) o env1 := fun _ _ _ _ _ fp g _ t hg re q =>
  ⟨_, pe_lst wA_ok, h1 t hg re fun vs B1 H1 f1 fp1 sb sh t1 r1 re1 => by
    unfold mkL at h
    split at h
    · rename_i c
      refine ⟨by rw [r1.len, line_eq]; omega, fun a ha => ?_⟩
      have s2 := Stp.lay (o := .lst vs) t1.s.bh ha
      have hfs := mem_app (ext_has sh hg) (mem_app r1.has re1.has)
      have t2 : Sit _ _ B1 (upd H1 a (.lst vs)) ([a] ++ (g ++ (f1 ++ fp1))) := t1.add (g := [a]) s2 hfs ⟨by simp, by simpa using ha, by simpa using t1.w.bh.none ha⟩
      cases z : fzs os with
      | some ps =>
        rw [z] at h
        cases h
        have t3 : Sit _ _ B1 (upd H1 a (.lst vs)) (f1 ++ ([a] ++ (g ++ fp1))) := t2.perm (((List.Perm.append_left [a] (perm_ac g f1 fp1)).trans (perm_ac [a] f1 (g ++ fp1))))
        obtain ⟨B2, e2, t4, rp⟩ := t3.share (r1.stp s2) z
        exact q _ _ _ [a] fp1 (sb.trans e2) (sh.trans s2.h) (t4.perm (perm_ac [a] g fp1)) (.fl upd_same rp) ((re1.stp s2).mono e2 fun _ _ _ z => z)
      | none =>
        rw [z] at h
        cases h
        exact q _ _ _ (a :: f1) fp1 (sb.trans s2.b) (sh.trans s2.h) (t2.perm (perm_ac [a] g (f1 ++ fp1))) (.lst upd_same (r1.stp s2)) (re1.stp s2)
    · cases h⟩
end
end G

set_option maxRecDepth 100000
namespace G
open PySem L2
variable {T : Tb} {N : List Str} {c : Ct}
/-! ### in place -/
theorem toI_some {x : Option Int} {o : O} (h : toI x = some o) : ∃ k, x = some k ∧ o = .pl (.int k) := by
  cases x with
  | none => cases h
  | some k => cases h; exact ⟨k, rfl, rfl⟩
section
variable {X : Cx} {B H : Hp} {x y : V} {ox oy o : O} {f g : List Addr}
theorem aug_ok {op : Operator} (r1 : RO X.K B H x ox f) (r2 : RO X.K B H y oy g) (h : augO op ox oy = some o) :
    (∃ p, o = .pl p ∧ ∀ Q : VK, (∀ v, RP X.K B v p → Q v H) → wO X (inplaceOp op) x y H Q) ∨ (op = .Add ∧ ∃ xs ys, ox = .fl xs ∧ oy = .fl ys ∧ o = .fl (xs ++ ys) ∧ xs.length + ys.length ≤ 16777216) := by
  have IO : ∀ {op : Operator}, op ≠ .Pow → intO op ox oy = some o → ∃ p, o = .pl p ∧ ∀ Q : VK, (∀ v, RP X.K B v p → Q v H) → wO X (inplaceOp op) x y H Q := by
    intro op np h
    unfold intO at h
    split at h
    · obtain ⟨k, hk, rfl⟩ := toI_some h
      rename_i i j
      have e1 := r1.i
      have e2 := r2.i
      subst e1 e2
      refine ⟨_, rfl, fun Q q => ?_⟩
      have z : Q (.int k) H := q _ .int
      cases op
      case Add => cases hk; exact ⟨_, iop_add, _, _, rfl, rfl, z⟩
      case Sub => cases hk; exact ⟨_, iop_sub, _, _, rfl, rfl, z⟩
      case BitAnd => cases hk; exact ⟨_, iop_and, _, _, rfl, rfl, z⟩
      case BitOr => cases hk; exact ⟨_, iop_or, _, _, rfl, rfl, z⟩
      case BitXor => cases hk; exact ⟨_, iop_xor, _, _, rfl, rfl, z⟩
      case Mult => rw [iBin] at hk; split at hk <;> cases hk; rename_i c; exact ⟨_, iop_mul, _, _, rfl, rfl, c, z⟩
      case Mod => rw [iBin] at hk; split at hk <;> cases hk; rename_i c; exact ⟨_, iop_mod, _, _, rfl, rfl, c, z⟩
      case Pow => exact absurd rfl np
      case LShift => rw [iBin] at hk; split at hk <;> cases hk; rename_i c; exact ⟨_, iop_shl, _, _, rfl, rfl, c, z⟩
      case RShift => rw [iBin] at hk; split at hk <;> cases hk; rename_i c; exact ⟨_, iop_shr, _, _, rfl, rfl, c, z⟩
      case FloorDiv => rw [iBin] at hk; split at hk <;> cases hk; rename_i c; exact ⟨_, iop_fdiv, _, _, rfl, rfl, c, z⟩
      all_goals cases hk
    · cases h
  unfold augO at h
  split at h
  case h_1 =>
    unfold augA at h
    split at h
    · rename_i i j
      have e1 := r1.i
      have e2 := r2.i
      subst e1 e2
      cases h
      exact .inl ⟨_, rfl, fun Q q => ⟨_, iop_add, _, _, rfl, rfl, q _ .int⟩⟩
    · split at h
      · rename_i c
        have e1 := r1.s
        have e2 := r2.s
        subst e1 e2
        cases h
        exact .inl ⟨_, rfl, fun Q q => ⟨_, iop_add_str, _, _, rfl, rfl, by rw [line_eq]; omega, q _ .str⟩⟩
      · cases h
    · split at h
      · rename_i xs ys c
        cases h
        exact .inr ⟨rfl, _, _, rfl, rfl, rfl, c⟩
      · cases h
    · cases h
  all_goals first | exact .inl (IO (by decide) h) | cases h
end
/-! ### the statements' syntax -/
def notLc : Expr → Bool
  | .ListComp .. => false
  | .SetComp .. => false
  | .DictComp .. => false
  | _ => true
def notTp : Expr → Bool
  | .Tuple .. => false
  | .List .. => false
  | _ => true
def mmN : MM → Str
  | .append => "append"
  | .extend => "extend"
  | .insert => "insert"
  | .reverse => "reverse"
  | .clear => "clear"
def consts : List Expr → Bool
  | [] => true
  | .Constant .. :: es => consts es
  | _ => false
variable (T : Tb) (N : List Str)
def chkW1 (sc : Scope) : Ex → Expr → Bool
  | .mov i, x => match x with
    | .Name y _ => nameB N sc i y
    | _ => false
  | e, x => chk T N sc e x
def chkWs (sc : Scope) : Exs → List Expr → Bool
  | .nil, [] => true
  | .cons e es, x :: xs => nst x && chkW1 T N sc e x && chkWs sc es xs
  | _, _ => false
def chkW (sc : Scope) (e : Ex) (x : Expr) : Bool := match e with
  | .mov i => chkW1 T N sc (.mov i) x
  | .tup es => match x with
    | .Tuple l _ _ => chkWs T N sc es l
    | _ => false
  | .lst es => match x with
    | .List l _ => chkWs T N sc es l
    | _ => false
  | e => chk T N sc e x
def chkM (sc : Scope) : MM → Exs → List Expr → Bool
  | .append, .cons e .nil, [x] => nst x && chkW1 T N sc e x
  | .extend, .cons e .nil, [x] => nst x && chkW1 T N sc e x
  | .reverse, .nil, [] => true
  | .clear, .nil, [] => true
  | _, _, _ => false
def swB (sc : Scope) (y : Str) (py : Pos) : Expr → Bool
  | .ListComp _ _ s lp => decide (sc.kind = .function) && decide (sc.names.lookup y = some .local) && (py.line == lp.line) && !(s.names.any fun (n, k) => n == y && (k == .local || k == .cell))
  | .SetComp .. => false
  | .DictComp .. => false
  | _ => true
mutual
def chkS (sc so : Scope) : S → Stmt → Bool
  | .asg i e, .Assign [.Name x p] v _ => tgE sc so N i (.Name x p) && swB sc x p v && chkW T N sc e v
  | .asgT is e, .Assign [.Tuple es k p] v _ => chkTg sc so N (.tp is) (.Tuple es k p) && notLc v && (notTp v || (match v with
    | .Tuple vs _ _ => consts vs
    | _ => false)) && chkW T N sc e v
  | .aug i op e, .AugAssign (.Name x p) o v _ => tgE sc so N i (.Name x p) && nameB N sc i x && decide (op = o) && chk T N sc e v
  | .setI i ix e, .Assign [.Subscript (.Name x p) ixe q] v _ => nameB N sc i x && notLc v && chk T N sc ix ixe && chkW T N sc e v
  | .exp e, .Expr v _ => notLc v && chk T N sc e v
  | .mut m i es, .Expr (.Call (.Attribute (.Name x _) mm ap) args [] cp) _ => nameB N sc i x && decide (mm = mmN m) && (ap.endLine == cp.line) && chkM T N sc m es args
  | .pop (some j) i es, .Assign [.Name y p] (.Call (.Attribute (.Name x _) mm ap) args [] cp) _ => tgE sc so N j (.Name y p) && nameB N sc i x && decide (mm = ("pop" : Str)) && (ap.endLine == cp.line) && chks T N sc es args
  | .pop none i es, .Expr (.Call (.Attribute (.Name x _) mm ap) args [] cp) _ => nameB N sc i x && decide (mm = ("pop" : Str)) && (ap.endLine == cp.line) && chks T N sc es args
  | .ife t a b, .If c x y _ => chk T N sc t c && chkSs sc so a x && chkSs sc so b y
  | .forr tg it b, .For t i body [] _ => chkTg sc so N tg t && chkI T N sc it t i && chkSs sc so b body
  | .whl t b, .While c body [] _ => chk T N sc t c && chkSs sc so b body
  | .ret e, .Return (some v) _ => chkW T N sc e v
  | .retN, .Return none _ => true
  | .pass, .Pass _ => true
  | .pass, .Expr (.Constant (.str _) _ _) _ => true
  | .brk, .Break _ => true
  | _, _ => false
def chkSs (sc so : Scope) : Ss → List Stmt → Bool
  | .nil, [] => true
  | .cons (.frz _) ss, xs => chkSs sc so ss xs
  | .cons s ss, x :: xs => chkS sc so s x && chkSs sc so ss xs
  | _, _ => false
end
end G

set_option maxRecDepth 100000
namespace G
open PySem L2
variable {T : Tb} {N : List Str} {c : Ct}
theorem pairE_some {env env1 : Env} {r : Option O} {o : O} (h : pairE env r = some (o, env1)) : r = some o ∧ env1 = env := by
  cases r with
  | none => cases h
  | some x => cases h; exact ⟨rfl, rfl⟩
theorem movE_some {env env1 : Env} {i : Nat} {r : Option O} {o : O} (h : movE env i r = some (o, env1)) : r = some o ∧ env1 = env.set i none := by
  cases r with
  | none => cases h
  | some x => cases h; exact ⟨rfl, rfl⟩
section
variable {X : Cx} {sc so : Scope} {k : Nat} {env env1 : Env} {x : Expr} {o : O} {os : List O}
theorem gW1 {e : Ex} (hx : XOk T c N sc so k X) (hc : chkW1 T N sc e x = true) (he : evW1 c env e = some (o, env1)) : SndV X env x o env1 := by
  have gen : chk T N sc e x = true → pairE env (evR c env e) = some (o, env1) → SndV X env x o env1 := fun hc he => by
    obtain ⟨h1, rfl⟩ := pairE_some he
    have z : Snd X env1 x o := (gE e).r hx hc h1
    exact z.v
  cases e
  case mov i =>
    unfold chkW1 at hc
    dsimp only at hc
    cases x
    case Name y p =>
      obtain ⟨h1, rfl⟩ := movE_some he
      exact sndv_mov hx hc h1
    all_goals cases hc
  all_goals exact gen hc he
theorem keep1 {e : Ex} (he : evW1 c env e = some (o, env1)) {i : Nat} {u : O} (h : env1[i]? = some (some u)) : env[i]? = some (some u) := by
  have mv : ∀ {j : Nat}, env1 = env.set j none → env[i]? = some (some u) := fun {j} z => by
    subst z
    by_cases hj : j = i
    · subst hj
      by_cases hl : j < env.length
      · rw [List.getElem?_set_self hl] at h
        cases h
      · rw [List.set_eq_of_length_le (by omega)] at h
        exact h
    · rw [List.getElem?_set_ne hj] at h
      exact h
  have gen : pairE env (evR c env e) = some (o, env1) → env[i]? = some (some u) := fun he => by
    obtain ⟨_, rfl⟩ := pairE_some he
    exact h
  cases e
  case mov j => exact mv (movE_some he).2
  all_goals exact gen he
theorem evWs_none : ∀ {es : Exs}, evWs c es none = none
  | .nil => rfl
  | .cons e es => by rw [evWs]; exact evWs_none (es := es)
theorem gWs : ∀ {es : Exs} {xs : List Expr} {env env1 : Env} {acc os : List O}, XOk T c N sc so k X → chkWs T N sc es xs = true → evWs c es (some (acc, env)) = some (os, env1) →
    (∃ os', os = acc ++ os' ∧ SndWs X env xs os' env1) ∧ ∀ (i : Nat) (u : O), env1[i]? = some (some u) → env[i]? = some (some u)
  | .nil, xs, env, env1, acc, os, hx, hc, he => by
    cases xs with
    | nil =>
      rw [evWs] at he
      cases he
      exact ⟨⟨[], by simp, sndw_nil⟩, fun _ _ z => z⟩
    | cons => unfold chkWs at hc; cases hc
  | .cons e es, xs, env, env1, acc, os, hx, hc, he => by
    cases xs with
    | nil => unfold chkWs at hc; cases hc
    | cons x xs =>
      unfold chkWs at hc
      rw [Bool.and_eq_true, Bool.and_eq_true] at hc
      rw [evWs] at he
      cases z : evW1 c env e with
      | none =>
        have : pushW c e (some (acc, env)) = none := by
          show snocW acc (evW1 c env e) = none
          rw [z]
          rfl
        rw [this, evWs_none] at he
        cases he
      | some r =>
        obtain ⟨o, env2⟩ := r
        have : pushW c e (some (acc, env)) = some (acc ++ [o], env2) := by
          show snocW acc (evW1 c env e) = _
          rw [z]
          rfl
        rw [this] at he
        obtain ⟨⟨os', e1, e2⟩, kp⟩ := gWs hx hc.2 he
        exact ⟨⟨o :: os', by rw [e1]; simp, sndw_cons hc.1.1 (gW1 hx hc.1.2 z) e2⟩, fun i u y => keep1 z (kp i u y)⟩
theorem mkW_some {f : List O → Option O} {r : Option (List O × Env)} (h : mkW f r = some (o, env1)) : ∃ os, r = some (os, env1) ∧ f os = some o := by
  cases r with
  | none => cases h
  | some r =>
    obtain ⟨os, e⟩ := r
    obtain ⟨h1, rfl⟩ := pairE_some h
    exact ⟨os, rfl, h1⟩
theorem gW {e : Ex} (hx : XOk T c N sc so k X) (hc : chkW T N sc e x = true) (he : evW c env e = some (o, env1)) : SndV X env x o env1 := by
  have gen : chk T N sc e x = true → pairE env (evR c env e) = some (o, env1) → SndV X env x o env1 := fun hc he => by
    obtain ⟨h1, rfl⟩ := pairE_some he
    have z : Snd X env1 x o := (gE e).r hx hc h1
    exact z.v
  cases e
  case mov i => exact gW1 (e := .mov i) hx hc he
  case tup es =>
    unfold chkW at hc
    rw [evW] at he
    dsimp only at hc
    split at hc
    · obtain ⟨os, h1, h2⟩ := mkW_some he
      obtain ⟨⟨os', e1, e2⟩, _⟩ := gWs hx hc h1
      rw [List.nil_append] at e1
      subst e1
      exact sndv_tup e2 h2
    · cases hc
  case lst es =>
    unfold chkW at hc
    rw [evW] at he
    dsimp only at hc
    split at hc
    · obtain ⟨os, h1, h2⟩ := mkW_some he
      obtain ⟨⟨os', e1, e2⟩, _⟩ := gWs hx hc h1
      rw [List.nil_append] at e1
      subst e1
      exact sndv_lst e2 h2
    · cases hc
  all_goals exact gen hc he
end
/-! ### ends -/
def End (K : PySem.W.Frag) (B0 H0 Bs : Hp) (D : Ends) : Fl × Env → Prop
  | (.nx, env) => ∀ B H σ fp, Ext Bs B → Sit B0 H0 B H fp → REnv K B H σ env fp → D.nx σ H
  | (.bk, env) => ∀ B H σ fp, Ext Bs B → Sit B0 H0 B H fp → REnv K B H σ env fp → D.bk σ H
  | (.rt o, _) => Gv K B0 H0 o D.rt
def SndSt (X : Cx) (env : Env) (st : Stmt) (r : Fl × Env) : Prop := ∀ ⦃B0 H0 B H : Hp⦄ ⦃σ : L2.St⦄ ⦃fp : List Addr⦄ ⦃D : Ends⦄, Sit B0 H0 B H fp → REnv X.K B H σ env fp → End X.K B0 H0 B D r → wS X st D σ H
def SndSs (X : Cx) (env : Env) (sts : List Stmt) (r : Fl × Env) : Prop := ∀ ⦃B0 H0 B H : Hp⦄ ⦃σ : L2.St⦄ ⦃fp : List Addr⦄ ⦃D : Ends⦄, Sit B0 H0 B H fp → REnv X.K B H σ env fp → End X.K B0 H0 B D r → wSs X sts D σ H
theorem End.ext {K : PySem.W.Frag} {B0 H0 Bs Bt : Hp} {D : Ends} {r : Fl × Env} (e : Ext Bs Bt) (h : End K B0 H0 Bs D r) : End K B0 H0 Bt D r := by
  obtain ⟨f, env⟩ := r
  cases f with
  | nx => exact fun B H σ fp e2 => h B H σ fp (e.trans e2)
  | bk => exact fun B H σ fp e2 => h B H σ fp (e.trans e2)
  | rt o => exact h
section
variable {X : Cx} {sc so : Scope} {k : Nat} {env env1 : Env} {o : O} {pos : Pos}
theorem no_none : ∀ a ∈ ([] : List Addr), (fun _ => none : Hp) a ≠ none := fun a h => by simp at h
theorem st_pass : SndSt X env (.Pass pos) (.nx, env) := fun _ _ _ _ _ _ _ t re q => ⟨_, ps_pass, q _ _ _ _ (.refl _) t re⟩
theorem st_doc {x : Str} {j : Nat} {p : Pos} : SndSt X env (.Expr (.Constant (.str x) j p) pos) (.nx, env) := fun _ _ _ _ _ _ _ t re q => ⟨_, ps_doc, q _ _ _ _ (.refl _) t re⟩
theorem st_brk : SndSt X env (.Break pos) (.bk, env) := fun _ _ _ _ _ _ _ t re q => ⟨_, ps_break, q _ _ _ _ (.refl _) t re⟩
theorem st_retN : SndSt X env (.Return none pos) (.rt (.pl .none), env) := fun _ _ _ _ _ _ _ t re q => ⟨_, ps_retN, q _ _ _ [] t.s (.pl .non) .nil⟩
theorem SndV.at {x : Expr} (h : SndV X env x o env1) {B0 H0 B H : Hp} {σ : L2.St} {fp : List Addr} {Q : VK} (t : Sit B0 H0 B H fp) (re : REnv X.K B H σ env fp)
    (q : ∀ v B' H' f fp', Ext B B' → Ext H H' → Sit B0 H0 B' H' (f ++ fp') → RO X.K B' H' v o f → REnv X.K B' H' σ env1 fp' → Q v H') : wE X x σ H Q :=
  h (g := []) t (by simp) re fun v B' H' f fp' e1 e2 t' ro re' => q v B' H' f fp' e1 e2 t' ro re'
theorem st_ret {x : Expr} (h : SndV X env x o env1) : SndSt X env (.Return (some x) pos) (.rt o, env1) := fun _ _ _ _ _ _ D t re q =>
  ⟨_, ps_ret wE_ok, h.at t re fun v B' H' f fp' e1 e2 t' ro re' => q v B' H' f t'.s ro t'.frs⟩
theorem st_if {x : Expr} {a b : List Stmt} {d : Bool} {r : Fl × Env} (h : SndT X env x d) (h1 : d = true → SndSs X env a r) (h2 : d = false → SndSs X env b r) : SndSt X env (.If x a b pos) r := fun _ _ _ _ _ _ D t re q =>
  ⟨_, ps_if wT_ok wSs_ok wSs_ok, h t.w re fun B' H' s => by
    cases d with
    | true => exact iteT (h1 rfl (t.stp s re.has) (re.stp s) (q.ext s.b))
    | false => exact iteF (h2 rfl (t.stp s re.has) (re.stp s) (q.ext s.b))⟩
theorem st_exp {x : Expr} (h : Snd X env x o) (hs : swapsWith x none pos.line X.env = pure false) : SndSt X env (.Expr x pos) (.nx, env) := fun _ _ _ _ _ _ D t re q =>
  ⟨_, ps_expr wE_ok hs, h t.w re fun v B' H' f s ro n => q B' H' _ _ s.b (t.stp s re.has) (re.stp s)⟩
theorem st_asg {i : Nat} {x : Expr} {y : Str} {p : Pos} (hx : XOk T c N sc so k X) (hy : tgE sc so N i (.Name y p) = true) (h : SndV X env x o env1) (hs : swapsWith x (some (.Name y p)) pos.line X.env = pure false) : SndSt X env (.Assign [.Name y p] x pos) (.nx, env1.set i (some o)) := by
  unfold tgE at hy
  rw [Bool.and_eq_true, Bool.and_eq_true, decide_eq_true_eq] at hy
  exact fun _ _ _ _ _ _ D t re q =>
  ⟨_, ps_set (by rw [hx.n]; exact hx.nd) (by rw [hx.n]; exact hy.1.1) (by rw [hx.sc]; exact loc_ok hy.1.2) wE_ok hs (hx.fn _ hy.2), h.at t re fun v B' H' f fp' e1 e2 t' ro re' => by
    obtain ⟨fp2, t2, re2⟩ := put_fin (g := []) (i := i) t' ro re'
    exact q B' H' _ fp2 e1 t2 re2⟩
theorem st_asgLc {i : Nat} {y : Str} {p lp : Pos} {el tg it : Expr} {ifs : List Expr} {scope : Scope} (hx : XOk T c N sc so k X) (hy : tgE sc so N i (.Name y p) = true) (h : LcOk X env scope tg it el ifs o) (hl : sc.names.lookup y = some .local)
    (hsw : swapsWith (.ListComp el [⟨tg, it, ifs, 0⟩] scope lp) (some (.Name y p)) pos.line X.env = pure true) : SndSt X env (.Assign [.Name y p] (.ListComp el [⟨tg, it, ifs, 0⟩] scope lp) pos) (.nx, env.set i (some o)) := by
  unfold tgE at hy
  rw [Bool.and_eq_true, Bool.and_eq_true, decide_eq_true_eq] at hy
  obtain ⟨own, wi, g, tt, te, h1, h2, h3, h4, h5, h6, h7, h8, h9⟩ := h
  exact fun _ _ _ _ _ fp D t re q =>
  ⟨_, ps_setLc h1 h2 (by rw [hx.n]; exact hy.1.1) (by rw [hx.sc]; exact hl) hsw h3 h4 h5 h6 h7 h8, h9 t.w re fun v B' H' f s ro n => by
    obtain ⟨fp2, t2, re2⟩ := put_fin (g := []) (i := i) (t.add s re.has n) ro (re.stp s)
    exact q B' H' _ fp2 s.b t2 re2⟩
theorem st_asgT {is : List Nat} {x : Expr} {es : List Expr} {kk : Nat} {p : Pos} {r : Fl × Env} (hx : XOk T c N sc so k X) (hy : chkTg sc so N (.tp is) (.Tuple es kk p) = true) (h : SndV X env x o env1) (hr : unpS is (some (o, env1)) = some r)
    (hs : swapsWithSole [.Tuple es kk p] x pos.line X.env = pure false) (hw : swappedStores [.Tuple es kk p] x X.env = pure none) : SndSt X env (.Assign [.Tuple es kk p] x pos) r := fun _ _ _ _ _ _ D t re q =>
  ⟨_, ps_asg wE_ok (chk_Tg hx hy) hs hw, h.at t re fun v B' H' f fp' e1 e2 t' ro re' => by
    cases o with
    | pl pp =>
      have hr : nxE (setTg env1 (.tp is) pp) = some r := hr
      cases z : setTg env1 (.tp is) pp with
      | none => rw [z] at hr; cases hr
      | some e3 =>
        rw [z] at hr
        cases hr
        cases ro with
        | pl rp => exact tg_ok re' t'.right.w rp z fun σ1 f1 _ r1 w1 sub => q B' H' σ1 f1 e1 (t'.right.sub w1.nd sub) r1
    | tup os =>
      unfold unpS at hr
      dsimp only at hr
      split at hr
      · rename_i hl
        cases hr
        cases ro with
        | @tup a vs _ _ h1 h2 =>
          obtain ⟨fp2, t2, re2⟩ := puts_fin t' h2 re' hl
          have hv : is.length = vs.length := by rw [h2.len, hl]
          exact ⟨a, vs, rfl, .of (t'.w.bh _ _ h1), hv.symm, gNames_ok (σ' := []) hv (q B' H' _ fp2 e1 t2 re2)⟩
      · cases hr
    | _ => cases hr⟩
theorem st_aug {i : Nat} {x : Expr} {y : Str} {p : Pos} {op : Operator} {ox oy : O} (hx : XOk T c N sc so k X) (hy : tgE sc so N i (.Name y p) = true) (hox : slot env i = some ox) (h : Snd X env x oy) (hr : augO op ox oy = some o) : SndSt X env (.AugAssign (.Name y p) op x pos) (.nx, env.set i (some o)) := by
  unfold tgE at hy
  rw [Bool.and_eq_true, Bool.and_eq_true, decide_eq_true_eq] at hy
  intro B0 H0 B H σ fp D t re q
  have PA : ∀ {ti : TIp}, PIp X op ti → PS X (.AugAssign (.Name y p) op x pos) (tAug i (wE X x) ti) := fun hp => ps_aug (by rw [hx.n]; exact hx.nd) (by rw [hx.n]; exact hy.1.1) (by rw [hx.sc]; exact loc_ok hy.1.2) wE_ok hp (hx.fn _ hy.2)
  obtain ⟨v, g, h1, h2, h3⟩ := re.get (slot_some hox)
  by_cases hfl : op = .Add ∧ (∃ xs, ox = .fl xs) ∧ ∃ ys, oy = .fl ys
  · obtain ⟨rfl, ⟨xs, rfl⟩, ys, rfl⟩ := hfl
    have hr' : (if xs.length + ys.length ≤ 16777216 then some (O.fl (xs ++ ys)) else none) = some o := hr
    split at hr'
    · rename_i hlen
      cases hr'
      refine ⟨_, PA iop_ext, v, h1, h t.w re fun w B' H' f s ro n => ?_⟩
      have t' := t.stp s re.has
      have re' := re.stp s
      obtain ⟨a, a1, a2, a3, a4⟩ := mutate t' re' (slot_some hox) (.inl ⟨_, rfl⟩)
      rw [h1] at a1
      cases a1
      cases ro with
      | @fl b ws _ hb rb =>
        cases a2 with
        | @fl _ vs _ ha ra =>
          obtain ⟨_, fp2, re2, t2⟩ := a4 (.lst (vs ++ ws)) (.fl (xs ++ ys)) (.fl upd_same (ra.app rb))
          refine ⟨a, b, vs, ws, rfl, rfl, ha, hb, by rw [ra.len, rb.len, line_eq]; omega, ?_⟩
          have es : σ.set i (some (.ref a)) = σ := by
            refine List.ext_getElem? fun j => ?_
            by_cases hj : i = j
            · subst hj
              rw [List.getElem?_set_self (List.getElem?_eq_some_iff.mp h1).1, h1]
            · rw [List.getElem?_set_ne hj]
          show D.nx (σ.set i (some (.ref a))) _
          rw [es]
          exact q B' _ σ fp2 s.b t2 re2
    · cases hr'
  · refine ⟨_, PA (wO_ok (X := X) (f := inplaceOp op)), v, h1, h t.w re fun w B' H' f s ro n => ?_⟩
    rcases aug_ok (X := X) (h2.stp s) ro hr with ⟨pp, rfl, z⟩ | ⟨z1, xs, ys, z2, z3, _⟩
    · refine z _ fun u ru => ?_
      obtain ⟨fp2, t2, re2⟩ := putP_fin (i := i) (t.stp s re.has) ru (re.stp s)
      exact q B' H' _ fp2 s.b t2 re2
    · exact absurd ⟨z1, ⟨xs, z2⟩, ys, z3⟩ hfl
end
end G

set_option maxRecDepth 100000
namespace G
open PySem L2
variable {T : Tb} {N : List Str} {c : Ct}
section
variable {X : Cx} {sc so : Scope} {k : Nat} {env env1 : Env} {o : O} {pos : Pos}
/-! o[k] = y -/
theorem st_setI {i : Nat} {v ixe : Expr} {ix : Ex} {x : Str} {p q : Pos} {y : O} {r : Fl × Env} (hx : XOk T c N sc so k X) (hn : nameB N sc i x = true) (hix : chk T N sc ix ixe = true) (h : SndV X env v y env1) (hr : setS c i ix (some (y, env1)) = some r)
    (hl : notLc v = true) : SndSt X env (.Assign [.Subscript (.Name x p) ixe q] v pos) r := by
  intro B0 H0 B H σ fp D t re qe
  have hu : X.A.units + 1 < cLine := by have := hx.hu; omega
  have hs : swapsWithSole [.Subscript (.Name x p) ixe q] v pos.line X.env = pure false := by
    cases v <;> first | rfl | cases hl
  have hw : swappedStores [.Subscript (.Name x p) ixe q] v X.env = pure none := by
    cases v <;> rfl
  have hr' : putS env1 i (o2 (fun o k => setO o k y) (slot env1 i) (evR c env1 ix)) = some r := hr
  cases z : o2 (fun o k => setO o k y) (slot env1 i) (evR c env1 ix) with
  | none => rw [z] at hr'; cases hr'
  | some u =>
    rw [z] at hr'
    cases hr'
    obtain ⟨o, kx, e1, e2, e3⟩ := o2_some z
    have ha : ∀ w : Value, assign (.Subscript (.Name x p) ixe q) X.env w = (do
      let ov ← holding [w] (eval (.Name x p) X.env)
      let iv ← holding [w, ov] (eval ixe X.env)
      standAt q
      holding [w, ov, iv] (setItem ov iv w)
      release [w, ov, iv] []) := by
      intro w
      have := chk_nst hix
      have sl : ∀ l u p, ixe ≠ .Slice l u none p := fun l u p z => by
        subst z
        unfold chk at hix
        split at hix <;> first | contradiction | cases hix
      cases ixe <;> first | rfl | (rename_i l u s p; cases s <;> first | rfl | exact absurd rfl (sl _ _ _))
    have hn' := name_ok hx hn (pos := p)
    have main : ∀ {tset : TSet}, PSet X tset → (∀ B' H' (f fp' : List Addr) vy a vk fk, Ext B B' → Sit B0 H0 B' H' (f ++ fp') → RO X.K B' H' vy y f → REnv X.K B' H' σ env1 fp' → σ[i]? = some (some (.ref a)) → RO X.K B' H' vk kx fk → tset (.ref a) vk vy H' fun H3 => D.nx σ H3) → wS X (.Assign [.Subscript (.Name x p) ixe q] v pos) D σ H := by
      intro tset hp hq
      refine ⟨_, ps_asg wE_ok (pg_sub hn' wE_ok hp ha) hs hw, h.at t re fun vy B' H' f fp' b1 b2 t' ro re' => ?_⟩
      obtain ⟨va, g, g1, g2, g3⟩ := re'.get (slot_some e1)
      have hva : ∃ a, va = .ref a := by
        cases o with
        | fl xs => cases g2; exact ⟨_, rfl⟩
        | fd xs => cases g2; exact ⟨_, rfl⟩
        | _ => cases e3
      obtain ⟨a, rfl⟩ := hva
      refine ⟨_, g1, (gE ix).r hx hix e2 t'.right.w re' fun vk B2 H2 fk s rk _ => ?_⟩
      exact hq B2 H2 f fp' vy a vk fk (b1.trans s.b) (t'.stp s (mem_app ro.has re'.has)) (ro.stp s) (re'.stp s) g1 rk
    cases o with
    | fl xs =>
      refine main set_list fun B' H' f fp' vy a vk fk b1 t' ro re' ga rk => ?_
      cases kx with
      | pl kp =>
        cases kp with
        | int j =>
          have e3' : setIn xs (fz y) (ixN xs.length j) = some u := e3
          cases z1 : fz y with
          | none => rw [z1] at e3'; cases e3'
          | some pv =>
            cases z2 : ixN xs.length j with
            | none => rw [z1, z2] at e3'; cases e3'
            | some n =>
              rw [z1, z2] at e3'
              cases e3'
              obtain ⟨B2, b2, t2, rp⟩ := t'.share1 ro z1
              have re2 := re'.mono b2 (H' := H') fun _ _ _ z => z
              obtain ⟨a', m1, m2, m3, m4⟩ := mutate t2 re2 (slot_some e1) (.inl ⟨_, rfl⟩)
              rw [ga] at m1
              cases m1
              cases m2 with
              | @fl _ vs _ hv rv =>
                obtain ⟨_, fp2, re3, t3⟩ := m4 (.lst (vs.set n vy)) (.fl (xs.set n pv)) (.fl upd_same (rv.set rp n))
                have ek := rk.i
                subst ek
                exact ⟨a, vs, j, n, rfl, rfl, hv, by rw [rv.len]; exact z2, qe B2 _ σ fp2 (b1.trans b2) t3 re3⟩
        | _ => cases e3
      | _ => cases e3
    | fd kvs =>
      refine main (set_dict hu) fun B' H' f fp' vy a vk fk b1 t' ro re' ga rk => ?_
      cases kx with
      | pl kp =>
        have e3' : setKn kvs kp (fz y) (keyP kp) = some u := e3
        cases z1 : fz y with
        | none => rw [z1] at e3'; cases e3'
        | some pv =>
          cases z2 : keyP kp with
          | none => rw [z1, z2] at e3'; cases e3'
          | some kk =>
            rw [z1, z2] at e3'
            have e4 : (if kvs.length < 16777216 then some (O.fd (putP kk kp pv kvs)) else none) = some u := e3'
            split at e4
            · rename_i hlen
              cases e4
              obtain ⟨B2, b2, t2, rp⟩ := t'.share1 ro z1
              have re2 := re'.mono b2 (H' := H') fun _ _ _ z => z
              obtain ⟨a', m1, m2, m3, m4⟩ := mutate t2 re2 (slot_some e1) (.inr ⟨_, rfl⟩)
              rw [ga] at m1
              cases m1
              cases m2 with
              | @fd _ us _ hv rv =>
                obtain ⟨_, fp2, re3, t3⟩ := m4 (.dK (putK us kk vy)) (.fd (putP kk kp pv kvs)) (.fd upd_same (rv.put z2 rp))
                have ek : vk = kV kk := by
                  unfold keyP at z2
                  split at z2
                  · cases z2; exact rk.i
                  · cases z2; exact rk.s
                  · cases z2
                subst ek
                exact ⟨a, _, rfl, .k hv (by rw [rv.len, line_eq]; omega), qe B2 _ σ fp2 (b1.trans b2) t3 re3⟩
            · cases e4
      | _ => cases e3
    | _ => cases e3
/-! a method that changes a list -/
theorem bm0 {r : V → List V → Hp → VK → Prop} {name : Str} {id : String} {i : Nat} {x : Str} {p ap cp : Pos} {a : Addr} {vs : List V} {B H : Hp} {σ : L2.St} {Q : VK} (hx : XOk T c N sc so k X) (hn : nameB N sc i x = true) (hl : (ap.endLine == cp.line) = true)
    (slot : Slot "list" name id) (hty : typeOf (.builtin id) = pure (.type "method_descriptor")) (hm : MtR X id r) (h1 : σ[i]? = some (some (.ref a))) (h2 : H a = some (.lst vs)) (q : r (.ref a) [] H Q) : wE X (.Call (.Attribute (.Name x p) name ap) [] [] cp) σ H Q :=
  ⟨_, pe_bm0 PySem.F.plainAttrs_list slot hty hm (name_ok hx hn) rfl hl, _, h1, .inl ⟨rfl, vs, .inl (.of h2)⟩, q⟩
theorem bm1 {r : V → List V → Hp → VK → Prop} {name : Str} {id : String} {i : Nat} {x : Str} {e1 : Expr} {p ap cp : Pos} {a : Addr} {vs : List V} {B H : Hp} {σ : L2.St} {Q : VK} (hx : XOk T c N sc so k X) (hn : nameB N sc i x = true) (hl : (ap.endLine == cp.line) = true) (hs : nst e1 = true)
    (slot : Slot "list" name id) (hty : typeOf (.builtin id) = pure (.type "method_descriptor")) (hm : MtR X id r) (h1 : σ[i]? = some (some (.ref a))) (h2 : H a = some (.lst vs)) (q : wA X [e1] σ H fun us H2 => r (.ref a) us H2 Q) : wE X (.Call (.Attribute (.Name x p) name ap) [e1] [] cp) σ H Q :=
  ⟨_, pe_bm PySem.F.plainAttrs_list slot hty hm (name_ok hx hn) wA_ok rfl (by rw [star_cons hs]; rfl) hl (star_cons hs), _, h1, .inl ⟨rfl, vs, .inl (.of h2)⟩, q⟩
theorem putS_some {i : Nat} {x : Option O} {r : Fl × Env} (h : putS env i x = some r) : ∃ o, x = some o ∧ r = (.nx, env.set i (some o)) := by
  cases x with
  | none => cases h
  | some o => cases h; exact ⟨o, rfl, rfl⟩
theorem st_mut1 {m : MM} {i : Nat} {e : Ex} {x1 : Expr} {x : Str} {p ap cp : Pos} {r : Fl × Env} (hx : XOk T c N sc so k X) (hn : nameB N sc i x = true) (hl : (ap.endLine == cp.line) = true) (hs1 : nst x1 = true) (hc : chkW1 T N sc e x1 = true)
    (hr : mutS m i (evWs c (.cons e .nil) (some ([], env))) = some r) (hm : m = .append ∨ m = .extend) : SndSt X env (.Expr (.Call (.Attribute (.Name x p) (mmN m) ap) [x1] [] cp) pos) r := by
  intro B0 H0 B H σ fp D t re q
  have hr0 : mutS m i (snocW [] (evW1 c env e)) = some r := by
    rw [evWs, evWs] at hr
    exact hr
  cases z : evW1 c env e with
  | none => rw [z] at hr0; cases hr0
  | some w =>
    obtain ⟨y0, env1⟩ := w
    rw [z] at hr0
    have hr1 : putS env1 i (o1 (fun o => mutO m o [y0]) (slot env1 i)) = some r := hr0
    obtain ⟨u, hu, rfl⟩ := putS_some hr1
    obtain ⟨o, e1, e2⟩ := o1_some hu
    have s1 := slot_some e1
    have hv := gW1 hx hc z
    obtain ⟨va, g, g1, g2, g3⟩ := re.get (keep1 z s1)
    cases o with
    | fl xs =>
      cases g2 with
      | @fl a vs0 _ hv0 rv0 =>
        refine ⟨_, ps_expr wE_ok rfl, ?_⟩
        rcases hm with rfl | rfl
        · have e3 : appO xs (fz y0) = some u := e2
          cases z1 : fz y0 with
          | none => rw [z1] at e3; cases e3
          | some pv =>
            rw [z1] at e3
            have e4 : (if xs.length < 16777216 then some (O.fl (xs ++ [pv])) else none) = some u := e3
            split at e4
            · rename_i hlen
              cases e4
              refine bm1 (B := B) hx hn hl hs1 PySem.F.slot_list_append PySem.F.type_list_append mt_append g1 hv0 (wA_one hs1 (hv.at t re fun vy B' H' f fp' b1 b2 t' ro re' => ?_))
              obtain ⟨B2, b3, t2, rp⟩ := t'.share1 ro z1
              have re2 := re'.mono b3 (H' := H') fun _ _ _ z => z
              obtain ⟨a', m1, m2, m3, m4⟩ := mutate t2 re2 s1 (.inl ⟨_, rfl⟩)
              rw [g1] at m1
              cases m1
              cases m2 with
              | @fl _ vs _ hv rv =>
                obtain ⟨_, fp2, re3, t3⟩ := m4 (.lst (vs ++ [vy])) (.fl (xs ++ [pv])) (.fl upd_same (rv.app (.cons rp .nil)))
                exact ⟨a, vs, vy, rfl, rfl, hv, by rw [rv.len, line_eq]; omega, q B2 _ σ fp2 (b1.trans b3) t3 re3⟩
            · cases e4
        · cases y0 with
          | fl ys =>
            have e4 : (if xs.length + ys.length ≤ 16777216 then some (O.fl (xs ++ ys)) else none) = some u := e2
            split at e4
            · rename_i hlen
              cases e4
              refine bm1 (B := B) hx hn hl hs1 PySem.F.slot_list_extend PySem.F.type_list_extend mt_extend g1 hv0 (wA_one hs1 (hv.at t re fun vy B' H' f fp' b1 b2 t' ro re' => ?_))
              obtain ⟨a', m1, m2, m3, m4⟩ := mutate t'.right re' s1 (.inl ⟨_, rfl⟩)
              rw [g1] at m1
              cases m1
              cases m2 with
              | @fl _ vs _ hv rv =>
                cases ro with
                | @fl b ws _ hb rb =>
                  obtain ⟨_, fp2, re3, t3⟩ := m4 (.lst (vs ++ ws)) (.fl (xs ++ ys)) (.fl upd_same (rv.app rb))
                  exact ⟨a, b, vs, ws, rfl, rfl, hv, hb, by rw [rv.len, rb.len, line_eq]; omega, q B' _ σ fp2 b1 t3 re3⟩
            · cases e4
          | _ => cases e2
    | _ => rcases hm with rfl | rfl <;> cases e2
theorem st_mut0 {m : MM} {i : Nat} {x : Str} {p ap cp : Pos} {r : Fl × Env} (hx : XOk T c N sc so k X) (hn : nameB N sc i x = true) (hl : (ap.endLine == cp.line) = true)
    (hr : mutS m i (evWs c .nil (some ([], env))) = some r) (hm : m = .reverse ∨ m = .clear) : SndSt X env (.Expr (.Call (.Attribute (.Name x p) (mmN m) ap) [] [] cp) pos) r := by
  intro B0 H0 B H σ fp D t re q
  have hr1 : putS env i (o1 (fun o => mutO m o []) (slot env i)) = some r := hr
  obtain ⟨u, hu, rfl⟩ := putS_some hr1
  obtain ⟨o, e1, e2⟩ := o1_some hu
  have s1 := slot_some e1
  cases o with
  | fl xs =>
    obtain ⟨a, m1, m2, m3, m4⟩ := mutate t re s1 (.inl ⟨_, rfl⟩)
    cases m2 with
    | @fl _ vs _ hv rv =>
      refine ⟨_, ps_expr wE_ok rfl, ?_⟩
      rcases hm with rfl | rfl
      · have e4 : some (O.fl xs.reverse) = some u := e2
        cases e4
        obtain ⟨_, fp2, re3, t3⟩ := m4 (.lst vs.reverse) (.fl xs.reverse) (.fl upd_same rv.rev)
        exact bm0 (B := B) hx hn hl PySem.F.slot_list_reverse PySem.F.type_list_reverse mt_reverse m1 hv ⟨a, vs, rfl, rfl, hv, q B _ σ fp2 (.refl B) t3 re3⟩
      · have e4 : some (O.fl []) = some u := e2
        cases e4
        obtain ⟨_, fp2, re3, t3⟩ := m4 (.lst []) (.fl []) (.fl upd_same .nil)
        exact bm0 (B := B) hx hn hl PySem.F.slot_list_clear PySem.F.type_list_clear mt_clear m1 hv ⟨a, vs, rfl, rfl, hv, q B _ σ fp2 (.refl B) t3 re3⟩
  | _ => rcases hm with rfl | rfl <;> cases e2
theorem seq_ix {n : Nat} {i : Int} {j : Nat} (h : ixN n i = some j) : seqIndex? i n = some j ∧ j < n ∧ -(n : Int) ≤ i ∧ i < n := ixN_seq h
/-- xs.pop() -/
theorem pop_ok {i : Nat} {es : Exs} {args : List Expr} {x : Str} {p ap cp : Pos} {u v : O} (hx : XOk T c N sc so k X) (hn : nameB N sc i x = true) (hl : (ap.endLine == cp.line) = true) (hc : chks T N sc es args = true)
    (hr : o2 popO (slot env i) (evRs c env es) = some (u, v)) {B0 H0 B H : Hp} {σ : L2.St} {fp : List Addr} {Q : VK} (t : Sit B0 H0 B H fp) (re : REnv X.K B H σ env fp)
    (q : ∀ w B' H' fp', Ext B B' → Sit B0 H0 B' H' fp' → REnv X.K B' H' σ (env.set i (some v)) fp' → (∃ pp, u = .pl pp ∧ RP X.K B' w pp) → Q w H') : wE X (.Call (.Attribute (.Name x p) "pop" ap) args [] cp) σ H Q := by
  obtain ⟨o, os, e1, e2, e3⟩ := o2_some hr
  have s1 := slot_some e1
  cases o with
  | fl xs =>
    cases os with
    | nil =>
      have e4 : popR xs xs.dropLast (xs[xs.length - 1]?) = some (u, v) := e3
      cases z : xs[xs.length - 1]? with
      | none => rw [z] at e4; cases e4
      | some pv =>
        rw [z] at e4
        cases e4
        have ha : args = [] := by
          cases es with
          | nil => exact chks_nil hc
          | cons e es =>
            rw [evRs] at e2
            obtain ⟨_, _, _, _, h⟩ := consA_some e2
            cases h
        subst ha
        obtain ⟨a, m1, m2, m3, m4⟩ := mutate t re s1 (.inl ⟨_, rfl⟩)
        cases m2 with
        | @fl _ vs _ hv rv =>
          obtain ⟨y, y1, y2⟩ := rv.getE z
          obtain ⟨_, fp2, re3, t3⟩ := m4 (.lst vs.dropLast) (.fl xs.dropLast) (.fl upd_same (by
            rw [List.dropLast_eq_take, List.dropLast_eq_take, rv.len]
            exact rv.take _))
          exact bm0 (B := B) hx hn hl PySem.F.slot_list_pop PySem.F.type_list_pop mt_pop m1 hv ⟨a, vs, y, rfl, rfl, hv, by rw [rv.len]; exact y1, q y B _ fp2 (.refl B) t3 re3 ⟨pv, rfl, y2⟩⟩
    | cons o1 os =>
      cases os with
      | cons _ _ =>
        exfalso
        cases o1 with
        | pl p1 => cases p1 <;> cases e3
        | _ => cases e3
      | nil =>
        cases o1 with
        | pl p1 =>
          cases p1 with
          | int j =>
            have e40 : (if okI j then popN xs (ixN xs.length j) else none) = some (u, v) := e3
            have e4' : okI j ∧ popN xs (ixN xs.length j) = some (u, v) := by
              by_cases hj : okI j
              · rw [if_pos hj] at e40; exact ⟨hj, e40⟩
              · rw [if_neg hj] at e40; cases e40
            obtain ⟨hj, e4⟩ := e4'
            cases z : ixN xs.length j with
            | none => rw [z] at e4; cases e4
            | some n =>
              rw [z] at e4
              have e5 : popR xs (xs.eraseIdx n) (xs[n]?) = some (u, v) := e4
              cases z2 : xs[n]? with
              | none => rw [z2] at e5; cases e5
              | some pv =>
                rw [z2] at e5
                cases e5
                have ha : ∃ x1 e, args = [x1] ∧ chk T N sc e x1 = true ∧ evR c env e = some (.pl (.int j)) := by
                  cases es with
                  | nil => rw [evRs] at e2; cases e2
                  | cons e es =>
                    obtain ⟨y, ys, rfl, h1, h2⟩ := chks_cons hc
                    rw [evRs] at e2
                    obtain ⟨a1, as1, f1, f2, f3⟩ := consA_some e2
                    cases f3
                    cases es with
                    | nil => cases chks_nil h2; exact ⟨y, e, rfl, h1, f1⟩
                    | cons e' es' =>
                      rw [evRs] at f2
                      obtain ⟨_, _, _, _, h⟩ := consA_some f2
                      cases h
                obtain ⟨x1, e, rfl, h1, h2⟩ := ha
                obtain ⟨va, g, g1, g2, g3⟩ := re.get s1
                cases g2 with
                | @fl a vs0 _ hv0 rv0 =>
                  refine bm1 (B := B) hx hn hl (chk_nst h1) PySem.F.slot_list_pop PySem.F.type_list_pop mt_popAt g1 hv0 (wA_one (chk_nst h1) ((gE e).r hx h1 h2 t.w re fun vi B' H' f s ro _ => ?_))
                  have ei := ro.i
                  subst ei
                  obtain ⟨a', m1, m2, m3, m4⟩ := mutate (t.stp s re.has) (re.stp s) s1 (.inl ⟨_, rfl⟩)
                  rw [g1] at m1
                  cases m1
                  cases m2 with
                  | @fl _ vs _ hv rv =>
                    obtain ⟨y, y1, y2⟩ := rv.getE z2
                    obtain ⟨_, fp2, re3, t3⟩ := m4 (.lst (vs.eraseIdx n)) (.fl (xs.eraseIdx n)) (.fl upd_same (rv.erase n))
                    obtain ⟨q1, q2, q3, q4⟩ := ixN_seq z
                    exact ⟨a, vs, j, n, y, rfl, rfl, hv, by have := hj.1; omega, by have := hj.2; omega, by rw [rv.len]; exact q1, y1, q y _ _ fp2 s.b t3 re3 ⟨pv, rfl, y2⟩⟩
          | _ => cases e3
        | _ => cases e3
  | _ => exfalso; cases os <;> cases e3
theorem popS_some {j : Nat} {i : Nat} {z : Option (O × O)} {r : Fl × Env} (h : popS env i (some j) z = some r) : ∃ u v, z = some (u, v) ∧ r = (.nx, (env.set i (some v)).set j (some u)) := by
  cases z with
  | none => cases h
  | some w => cases h; exact ⟨_, _, rfl, rfl⟩
theorem popS_some0 {i : Nat} {z : Option (O × O)} {r : Fl × Env} (h : popS env i none z = some r) : ∃ u v, z = some (u, v) ∧ r = (.nx, env.set i (some v)) := by
  cases z with
  | none => cases h
  | some w => cases h; exact ⟨_, _, rfl, rfl⟩
theorem st_pop0 {i : Nat} {es : Exs} {args : List Expr} {x : Str} {p ap cp : Pos} {r : Fl × Env} (hx : XOk T c N sc so k X) (hn : nameB N sc i x = true) (hl : (ap.endLine == cp.line) = true) (hc : chks T N sc es args = true)
    (hr : popS env i none (o2 popO (slot env i) (evRs c env es)) = some r) : SndSt X env (.Expr (.Call (.Attribute (.Name x p) "pop" ap) args [] cp) pos) r := by
  obtain ⟨u, v, e1, rfl⟩ := popS_some0 hr
  exact fun _ _ _ _ _ _ D t re q => ⟨_, ps_expr wE_ok rfl, pop_ok hx hn hl hc e1 t re fun w B' H' fp' e t' re' _ => q B' H' _ fp' e t' re'⟩
theorem st_pop1 {i j : Nat} {es : Exs} {args : List Expr} {x y : Str} {p p2 ap cp : Pos} {r : Fl × Env} (hx : XOk T c N sc so k X) (hy : tgE sc so N j (.Name y p2) = true) (hn : nameB N sc i x = true) (hl : (ap.endLine == cp.line) = true) (hc : chks T N sc es args = true)
    (hr : popS env i (some j) (o2 popO (slot env i) (evRs c env es)) = some r) : SndSt X env (.Assign [.Name y p2] (.Call (.Attribute (.Name x p) "pop" ap) args [] cp) pos) r := by
  obtain ⟨u, v, e1, rfl⟩ := popS_some hr
  unfold tgE at hy
  rw [Bool.and_eq_true, Bool.and_eq_true, decide_eq_true_eq] at hy
  exact fun _ _ _ _ _ _ D t re q => ⟨_, ps_set (by rw [hx.n]; exact hx.nd) (by rw [hx.n]; exact hy.1.1) (by rw [hx.sc]; exact loc_ok hy.1.2) wE_ok rfl (hx.fn _ hy.2), pop_ok hx hn hl hc e1 t re fun w B' H' fp' e t' re' ⟨pp, hu, rp⟩ => by
    subst hu
    obtain ⟨fp2, t2, re2⟩ := putP_fin (i := j) t' rp re'
    exact q B' H' _ fp2 e t2 re2⟩
/-! loops -/
theorem st_for {tg : Tg} {f : Env → P → Rs} {t it : Expr} {body : List Stmt} {ps : List P} {r : Fl × Env} (hx : XOk T c N sc so k X) (htg : chkTg sc so N tg t = true) (hi : SndM false X env t it ps) (hs : setB it = true)
    (hb : ∀ env1 r1, SndSs X env1 body r1 ∨ True) (hf : ∀ env1 p r1, f env1 p = some r1 → ∃ env2, setTg env1 tg p = some env2 ∧ SndSs X env2 body r1) (hr : forGo f ps env = some r) : SndSt X env (.For t it body [] pos) r := by
  intro B0 H0 B H σ fp D tt re q
  refine ⟨_, ps_for hx.pss hx.calm wI_ok (chk_Tg hx htg) wSs_ok (folded_ok hs), ?_⟩
  refine hi tt.w re fun J B1 H1 s1 its => ?_
  refine ⟨fun i m σ' H' => m = ps.length - i ∧ i ≤ ps.length ∧ ∃ B' fp' env', Sit B0 H0 B' H' fp' ∧ REnv X.K B' H' σ' env' fp' ∧ Ext B1 B' ∧ forGo f (ps.drop i) env' = some r, ⟨_, rfl, Nat.zero_le _, B1, fp, env, tt.stp s1 re.has, re.stp s1, .refl _, hr⟩, ?_⟩
  rintro i m σ' H' ⟨rfl, hil, B', fp', env', t', re', e', hg⟩
  by_cases hlt : i < ps.length
  · refine .inr ⟨its.go i B' H' ⟨e', fun z => by cases z⟩ t'.w.bh hlt, fun σ2 H2 => ∃ m', m' < ps.length - i ∧ (m' = ps.length - (i + 1) ∧ i + 1 ≤ ps.length ∧ ∃ B' fp' env', Sit B0 H0 B' H2 fp' ∧ REnv X.K B' H2 σ2 env' fp' ∧ Ext B1 B' ∧ forGo f (ps.drop (i + 1)) env' = some r), fun _ _ z => z, fun x H2 hy => ?_⟩
    obtain ⟨B2, s2, rp⟩ := its.yld i B' H' x H2 _ ⟨e', fun z => by cases z⟩ t'.w.bh (List.getElem?_eq_getElem hlt) hy
    rw [List.drop_eq_getElem_cons hlt] at hg
    have hg' : (match f env' ps[i] with
      | some (.nx, e) => forGo f (ps.drop (i + 1)) e
      | some (.bk, e) => some (.nx, e)
      | some (.rt o, e) => some (.rt o, e)
      | none => none) = some r := hg
    cases hfe : f env' ps[i] with
    | none => rw [hfe] at hg'; cases hg'
    | some r1 =>
      obtain ⟨env2, h2, hsn⟩ := hf _ _ _ hfe
      rw [hfe] at hg'
      have t2 := t'.stp s2 re'.has
      refine tg_ok (re'.stp s2) t2.w rp h2 fun σ1 f1 _ r2 w2 sub => ?_
      have t3 := t2.sub w2.nd sub
      refine hsn t3 r2 ?_
      obtain ⟨fl, e2⟩ := r1
      cases fl with
      | nx => exact fun B4 H4 σ4 fp4 e4 t4 r4 => ⟨_, by omega, rfl, by omega, B4, fp4, e2, t4, r4, (e'.trans s2.b).trans e4, hg'⟩
      | bk =>
        have hg'' : some (Fl.nx, e2) = some r := hg'
        cases hg''
        exact fun B4 H4 σ4 fp4 e4 t4 r4 => q B4 H4 σ4 fp4 (((s1.b.trans e').trans s2.b).trans e4) t4 r4
      | rt o =>
        have hg'' : some (Fl.rt o, e2) = some r := hg'
        cases hg''
        exact q
  · have ei : i = ps.length := by omega
    subst ei
    refine .inl ⟨its.stop _ B' H' ⟨e', fun z => by cases z⟩ t'.w.bh rfl, ?_⟩
    rw [List.drop_length] at hg
    have hg' : some (Fl.nx, env') = some r := hg
    cases hg'
    exact q B' H' σ' fp' (s1.b.trans e') t' re'
theorem st_whl {te : Env → Option O} {f : Env → Rs} {x : Expr} {body : List Stmt} {n : Nat} {r : Fl × Env} (hx : XOk T c N sc so k X) (ht : ∀ env1 b, te env1 = some (.pl (.bool b)) → SndT X env1 x b) (hf : ∀ env1 r1, f env1 = some r1 → SndSs X env1 body r1) (hr : whlGo te f n env = some r) :
    SndSt X env (.While x body [] pos) r := by
  intro B0 H0 B H σ fp D tt re q
  refine ⟨_, ps_while hx.pss wT_ok wSs_ok, ?_⟩
  refine ⟨fun m σ' H' => ∃ B' fp' env', Sit B0 H0 B' H' fp' ∧ REnv X.K B' H' σ' env' fp' ∧ Ext B B' ∧ whlGo te f m env' = some r, ⟨n, B, fp, env, tt, re, .refl _, hr⟩, ?_⟩
  rintro m σ' H' ⟨B', fp', env', t', re', e', hg⟩
  cases m with
  | zero => cases hg
  | succ m =>
    have hg' : ifB (te env') (match f env' with
      | some (.nx, e) => whlGo te f m e
      | some (.bk, e) => some (.nx, e)
      | some (.rt o, e) => some (.rt o, e)
      | none => none) (some (.nx, env')) = some r := hg
    obtain ⟨b, h1, h2, h3⟩ := ifB_some hg'
    refine ht _ _ h1 t'.w re' fun B2 H2 s2 => ?_
    have t2 := t'.stp s2 re'.has
    have r2 := re'.stp s2
    cases b with
    | false =>
      cases h3 rfl
      exact iteF (q B2 H2 σ' fp' (e'.trans s2.b) t2 r2)
    | true =>
      have h4 := h2 rfl
      refine iteT ⟨fun σ2 H2 => ∃ m', m' < m + 1 ∧ ∃ B' fp' env', Sit B0 H0 B' H2 fp' ∧ REnv X.K B' H2 σ2 env' fp' ∧ Ext B B' ∧ whlGo te f m' env' = some r, fun _ _ z => z, ?_⟩
      cases hfe : f env' with
      | none => rw [hfe] at h4; cases h4
      | some r1 =>
        rw [hfe] at h4
        refine hf _ _ hfe t2 r2 ?_
        obtain ⟨fl, e2⟩ := r1
        cases fl with
        | nx => exact fun B4 H4 σ4 fp4 e4 t4 r4 => ⟨m, by omega, B4, fp4, e2, t4, r4, (e'.trans s2.b).trans e4, h4⟩
        | bk =>
          have h5 : some (Fl.nx, e2) = some r := h4
          cases h5
          exact fun B4 H4 σ4 fp4 e4 t4 r4 => q B4 H4 σ4 fp4 ((e'.trans s2.b).trans e4) t4 r4
        | rt o =>
          have h5 : some (Fl.rt o, e2) = some r := h4
          cases h5
          exact q
/-! sequences -/
theorem ss_nil : SndSs X env [] (.nx, env) := fun _ _ _ _ _ _ D t re q => ⟨_, pss_nil, q _ _ _ _ (.refl _) t re⟩
theorem ss_next {st : Stmt} {rest : List Stmt} {r : Fl × Env} (h1 : SndSt X env st (.nx, env1)) (h2 : SndSs X env1 rest r) : SndSs X env (st :: rest) r := fun _ _ B _ _ _ D t re q =>
  ⟨_, pss_cons wS_ok wSs_ok, h1 t re fun B' H' σ' fp' e t' re' => h2 t' re' (q.ext e)⟩
theorem ss_rt {st : Stmt} {rest : List Stmt} (h1 : SndSt X env st (.rt o, env1)) : SndSs X env (st :: rest) (.rt o, env1) := fun _ _ B _ _ _ D t re q =>
  ⟨_, pss_cons wS_ok wSs_ok, h1 t re q⟩
theorem ss_bk {st : Stmt} {rest : List Stmt} (h1 : SndSt X env st (.bk, env1)) : SndSs X env (st :: rest) (.bk, env1) := fun _ _ B _ _ _ D t re q =>
  ⟨_, pss_cons wS_ok wSs_ok, h1 t re q⟩
/-- a slot's thing becomes shared -/
theorem ss_frz {i : Nat} {sts : List Stmt} {r : Fl × Env} {p : P} (hs : slot env i = some o) (hp : fz o = some p) (h : SndSs X (env.set i (some (.pl p))) sts r) : SndSs X env sts r := fun B0 H0 B H σ fp D t re q => by
  obtain ⟨v, g, r', h1, h2, h3, h4⟩ := re.take (slot_some hs)
  obtain ⟨B2, e2, t2, rp⟩ := (t.perm h3).share1 h2 hp
  have hi := (List.getElem?_eq_some_iff.mp (slot_some hs)).1
  obtain ⟨f', p1, re2⟩ := (h4.mono e2 (H' := H) fun _ _ _ z => z).putN (i := i) (v := v) (o := .pl p) (g := []) (by rw [List.getElem?_set_self hi]) (.pl rp)
  rw [List.set_set] at re2
  have es : σ.set i (some v) = σ := by
    refine List.ext_getElem? fun j => ?_
    by_cases hj : i = j
    · subst hj
      rw [List.getElem?_set_self (List.getElem?_eq_some_iff.mp h1).1, h1]
    · rw [List.getElem?_set_ne hj]
  rw [es] at re2
  exact h (t2.perm (by simpa using p1.symm)) re2 (q.ext e2)
end
end G

set_option maxRecDepth 100000
namespace G
open PySem L2
variable {T : Tb} {N : List Str} {c : Ct}
def GS (T : Tb) (N : List Str) (c : Ct) (s : S) : Prop := ∀ {X : Cx} {sc so : Scope} {k : Nat} {env : Env} {st : Stmt} {r : Fl × Env}, XOk T c N sc so k X → chkS T N sc so s st = true → exec c env s = some r → SndSt X env st r
def GSs (T : Tb) (N : List Str) (c : Ct) (ss : Ss) : Prop := ∀ {X : Cx} {sc so : Scope} {k : Nat} {env : Env} {sts : List Stmt} {r : Fl × Env}, XOk T c N sc so k X → chkSs T N sc so ss sts = true → execs c ss (some (.nx, env)) = some r → SndSs X env sts r
theorem notLc_sw {v : Expr} {t : Option Expr} {l : Nat} {env : PySem.Env} (h : notLc v = true) : swapsWith v t l env = pure false := by
  cases v <;> first | rfl | cases h
theorem asgS_some {i : Nat} {z : Option (O × Env)} {r : Fl × Env} (h : asgS i z = some r) : ∃ o e, z = some (o, e) ∧ r = (.nx, e.set i (some o)) := by
  cases z with
  | none => cases h
  | some w => obtain ⟨o, e⟩ := w; cases h; exact ⟨o, e, rfl, rfl⟩
theorem retS_some {z : Option (O × Env)} {r : Fl × Env} (h : retS z = some r) : ∃ o e, z = some (o, e) ∧ r = (.rt o, e) := by
  cases z with
  | none => cases h
  | some w => obtain ⟨o, e⟩ := w; cases h; exact ⟨o, e, rfl, rfl⟩
theorem expS_some {env : Env} {z : Option O} {r : Fl × Env} (h : expS env z = some r) : ∃ o, z = some o ∧ r = (.nx, env) := by
  cases z with
  | none => cases h
  | some w => cases h; exact ⟨w, rfl, rfl⟩
theorem evW_lc {env env1 : Env} {own : List Nat} {tg : Tg} {it : It} {cd : Ox} {e : Ex} {o : O} (h : evW c env (.lc own tg it cd e) = some (o, env1)) : evR c env (.lc own tg it cd e) = some o ∧ env1 = env := pairE_some h
theorem chkW_lc {X : Cx} {sc : Scope} {e : Ex} {el : Expr} {gs : List Comprehension} {scope : Scope} {p : Pos} (h : chkW T N sc e (.ListComp el gs scope p) = true) : ∃ own tg it cd e', e = .lc own tg it cd e' ∧ chk T N sc e (.ListComp el gs scope p) = true := by
  cases e
  case lc own tg it cd e' => exact ⟨_, _, _, _, _, rfl, h⟩
  all_goals
    exfalso
    first
    | (obtain ⟨_, _, _, z⟩ := chk_dct (T := T) (N := N) h; cases z)
    | (obtain ⟨_, _, _, _, z, _⟩ := chk_call (T := T) (N := N) h; cases z)
    | (obtain ⟨_, _, _, _, _, _, _, _, _, z, _⟩ := chk_meth (T := T) (N := N) h; cases z)
    | (unfold chkW at h; dsimp only at h; unfold chk at h; cases h)
    | (unfold chkW at h; dsimp only at h; cases h)
    | cases h
theorem lc_any {X : Cx} {sc so : Scope} {k : Nat} {env : Env} {x : Expr} {o : O} {own : List Nat} {tg : Tg} {it : It} {cd : Ox} {e : Ex} (hx : XOk T c N sc so k X) (hc : chk T N sc (.lc own tg it cd e) x = true) (he : evR c env (.lc own tg it cd e) = some o) :
    ∃ el t i ifs scope p, x = .ListComp el [⟨t, i, ifs, 0⟩] scope p ∧ LcOk X env scope t i el ifs o := lc_chk (gI it) (fun d _ => gE d) (gE e) hx hc he
theorem gs_asg {i : Nat} {e : Ex} : GS T N c (.asg i e) := fun {X sc so k env st r} hx hc he => by
  unfold chkS at hc
  split at hc <;> try cases hc
  all_goals rename_i q; cases q
  rename_i x p v pos
  simp only [Bool.and_eq_true] at hc
  obtain ⟨⟨h1, h2⟩, h3⟩ := hc
  rw [exec] at he
  obtain ⟨o, e1, z1, rfl⟩ := asgS_some he
  cases v
  case ListComp el gs scope lp =>
    obtain ⟨own, tg, it, cd, e', rfl, h4⟩ := chkW_lc (X := X) h3
    obtain ⟨z2, rfl⟩ := evW_lc z1
    obtain ⟨el', t, i', ifs, scope', p', hxx, hl⟩ := lc_any hx h4 z2
    cases hxx
    simp only [swB, Bool.and_eq_true, decide_eq_true_eq] at h2
    obtain ⟨⟨⟨k1, k2⟩, k3⟩, k4⟩ := h2
    exact st_asgLc hx h1 hl k2 (sw_true (by rw [hx.sc]; exact k1) (by rw [hx.sc]; exact k2) k3 (by simpa using k4))
  all_goals first | exact st_asg hx h1 (gW hx h3 z1) rfl | cases h2
theorem consts_ok : ∀ {vs : List Expr}, consts vs = true → vs.all (foldedForSure 8) = true
  | [], _ => rfl
  | v :: vs, h => by
    cases v
    case Constant a b c =>
      have h' : consts vs = true := h
      rw [List.all_cons, consts_ok h']
      rfl
    all_goals cases h
theorem sw_const {es : List Expr} {kk : Nat} {p : Pos} {v : Expr} {env : PySem.Env} (h : (notTp v || (match v with
    | .Tuple vs _ _ => consts vs
    | _ => false)) = true) : swappedStores [.Tuple es kk p] v env = pure none := by
  cases v
  case Tuple vs k2 p2 =>
    have hc : consts vs = true := by simpa [notTp] using h
    have hf := consts_ok hc
    unfold swappedStores
    simp only [hf]
    split
    · rfl
    · split
      · rfl
      · split <;> rfl
  all_goals rfl
theorem gs_asgT {is : List Nat} {e : Ex} : GS T N c (.asgT is e) := fun {X sc so k env st r} hx hc he => by
  unfold chkS at hc
  split at hc <;> try cases hc
  all_goals rename_i q; cases q
  rename_i es kk p v pos
  simp only [Bool.and_eq_true] at hc
  obtain ⟨⟨⟨h1, h2⟩, h3⟩, h4⟩ := hc
  rw [exec] at he
  cases z : evW c env e with
  | none => rw [z] at he; cases he
  | some w =>
    obtain ⟨o, e1⟩ := w
    rw [z] at he
    refine st_asgT hx h1 (gW hx h4 z) he (by unfold swapsWithSole; exact notLc_sw h2) ?_
    exact sw_const h3
theorem gs_aug {i : Nat} {op : Operator} {e : Ex} : GS T N c (.aug i op e) := fun {X sc so k env st r} hx hc he => by
  unfold chkS at hc
  split at hc <;> try cases hc
  all_goals rename_i q; cases q
  simp only [Bool.and_eq_true, decide_eq_true_eq] at hc
  obtain ⟨⟨⟨h1, h2⟩, rfl⟩, h3⟩ := hc
  rw [exec] at he
  obtain ⟨o, z1, rfl⟩ := putS_some he
  obtain ⟨a, b, z2, z3, z4⟩ := o2_some z1
  exact st_aug hx h1 z2 ((gE e).r hx h3 z3) z4
theorem gs_setI {i : Nat} {ix e : Ex} : GS T N c (.setI i ix e) := fun {X sc so k env st r} hx hc he => by
  unfold chkS at hc
  split at hc <;> try cases hc
  all_goals rename_i q; cases q
  simp only [Bool.and_eq_true] at hc
  obtain ⟨⟨⟨h1, h2⟩, h3⟩, h4⟩ := hc
  rw [exec] at he
  cases z : evW c env e with
  | none => rw [z] at he; cases he
  | some w =>
    obtain ⟨o, e1⟩ := w
    rw [z] at he
    exact st_setI hx h1 h3 (gW hx h4 z) he h2
theorem gs_exp {e : Ex} : GS T N c (.exp e) := fun {X sc so k env st r} hx hc he => by
  unfold chkS at hc
  split at hc <;> try cases hc
  all_goals rename_i q; cases q
  simp only [Bool.and_eq_true] at hc
  rw [exec] at he
  obtain ⟨o, z, rfl⟩ := expS_some he
  exact st_exp ((gE e).r hx hc.2 z) (notLc_sw hc.1)
theorem gs_mut {m : MM} {i : Nat} {es : Exs} : GS T N c (.mut m i es) := fun {X sc so k env st r} hx hc he => by
  unfold chkS at hc
  split at hc <;> try cases hc
  all_goals rename_i q; cases q
  simp only [Bool.and_eq_true, decide_eq_true_eq] at hc
  obtain ⟨⟨⟨h1, rfl⟩, h3⟩, h4⟩ := hc
  rw [exec] at he
  unfold chkM at h4
  split at h4 <;> try cases h4
  · rw [Bool.and_eq_true] at h4
    exact st_mut1 hx h1 h3 h4.1 h4.2 he (.inl rfl)
  · rw [Bool.and_eq_true] at h4
    exact st_mut1 hx h1 h3 h4.1 h4.2 he (.inr rfl)
  · exact st_mut0 hx h1 h3 he (.inl rfl)
  · exact st_mut0 hx h1 h3 he (.inr rfl)
theorem gs_pop {j : Option Nat} {i : Nat} {es : Exs} : GS T N c (.pop j i es) := fun {X sc so k env st r} hx hc he => by
  unfold chkS at hc
  split at hc <;> try cases hc
  all_goals rename_i q; cases q
  · simp only [Bool.and_eq_true, decide_eq_true_eq] at hc
    obtain ⟨⟨⟨⟨h1, h2⟩, rfl⟩, h4⟩, h5⟩ := hc
    rw [exec] at he
    exact st_pop1 hx h1 h2 h4 h5 he
  · simp only [Bool.and_eq_true, decide_eq_true_eq] at hc
    obtain ⟨⟨⟨h2, rfl⟩, h4⟩, h5⟩ := hc
    rw [exec] at he
    exact st_pop0 hx h2 h4 h5 he
theorem gs_ret {e : Ex} : GS T N c (.ret e) := fun {X sc so k env st r} hx hc he => by
  unfold chkS at hc
  split at hc <;> try cases hc
  all_goals rename_i q; cases q
  rw [exec] at he
  obtain ⟨o, e1, z, rfl⟩ := retS_some he
  exact st_ret (gW hx hc z)
theorem gs_retN : GS T N c .retN := fun {X sc so k env st r} hx hc he => by
  unfold chkS at hc
  split at hc <;> try cases hc
  all_goals rename_i q; cases q
  rw [exec] at he
  cases he
  exact st_retN
theorem gs_pass : GS T N c .pass := fun {X sc so k env st r} hx hc he => by
  unfold chkS at hc
  rw [exec] at he
  cases he
  split at hc <;> try cases hc
  all_goals rename_i q; cases q
  · exact st_pass
  · exact st_doc
theorem gs_brk : GS T N c .brk := fun {X sc so k env st r} hx hc he => by
  unfold chkS at hc
  split at hc <;> try cases hc
  all_goals rename_i q; cases q
  rw [exec] at he
  cases he
  exact st_brk
theorem gs_frz {i : Nat} : GS T N c (.frz i) := fun {X sc so k env st r} hx hc he => by
  unfold chkS at hc
  cases hc
theorem gs_ife {t : Ex} {a b : Ss} (ga : GSs T N c a) (gb : GSs T N c b) : GS T N c (.ife t a b) := fun {X sc so k env st r} hx hc he => by
  unfold chkS at hc
  split at hc <;> try cases hc
  all_goals rename_i q; cases q
  simp only [Bool.and_eq_true] at hc
  rw [exec] at he
  obtain ⟨d, h1, h2, h3⟩ := ifB_some he
  exact st_if ((gE t).t hx hc.1.1 h1) (fun z => ga hx hc.1.2 (h2 z)) (fun z => gb hx hc.2 (h3 z))
theorem nxE_some {e : Option Env} {r : Fl × Env} {f : Rs → Rs} (hf : f none = none) (h : f (nxE e) = some r) : ∃ e1, e = some e1 ∧ f (some (.nx, e1)) = some r := by
  cases e with
  | none => rw [show nxE none = none from rfl, hf] at h; cases h
  | some e1 => exact ⟨e1, rfl, h⟩
theorem execs_none : ∀ ss : Ss, execs c ss none = none
  | .nil => by rw [execs]
  | .cons s ss => by rw [execs, stepS]; exact execs_none ss; all_goals simp
theorem execs_end {fl : Fl} {env : Env} (h : fl ≠ .nx) : ∀ ss : Ss, execs c ss (some (fl, env)) = some (fl, env)
  | .nil => by rw [execs]
  | .cons s ss => by
    rw [execs]
    have : stepS c s (some (fl, env)) = some (fl, env) := by
      cases fl with
      | nx => exact absurd rfl h
      | rt o => rw [stepS]; intro _ z; cases z
      | bk => rw [stepS]; intro _ z; cases z
    rw [this]
    exact execs_end h ss
theorem forO_some {f : Env → P → Rs} {env : Env} {ps : Option (List P)} {r : Fl × Env} (h : forO f env ps = some r) : ∃ qs, ps = some qs ∧ forGo f qs env = some r := by
  cases ps with
  | none => cases h
  | some qs => exact ⟨qs, rfl, h⟩
theorem gs_forr {tg : Tg} {it : It} {b : Ss} (gb : GSs T N c b) : GS T N c (.forr tg it b) := fun {X sc so k env st r} hx hc he => by
  unfold chkS at hc
  split at hc <;> try cases hc
  all_goals rename_i q; cases q
  simp only [Bool.and_eq_true] at hc
  rw [exec_forr] at he
  obtain ⟨ps, h1, h2⟩ := forO_some he
  rw [evJ_eq] at h1
  obtain ⟨z1, z2⟩ := (gI it).i (m := false) hx hc.1.2 h1
  refine st_for hx hc.1.1 z1 z2 (fun _ _ => .inr trivial) (fun env1 p r1 hf => ?_) h2
  obtain ⟨e1, k1, k2⟩ := nxE_some (f := execs c b) (execs_none b) hf
  exact ⟨e1, k1, gb hx hc.2 k2⟩
theorem gs_whl {t : Ex} {b : Ss} (gb : GSs T N c b) : GS T N c (.whl t b) := fun {X sc so k env st r} hx hc he => by
  unfold chkS at hc
  split at hc <;> try cases hc
  all_goals rename_i q; cases q
  simp only [Bool.and_eq_true] at hc
  rw [exec_whl] at he
  exact st_whl hx (fun env1 b h => (gE t).t hx hc.1 h) (fun env1 r1 h => gb hx hc.2 h) he
theorem gss_nil : GSs T N c .nil := fun {X sc so k env sts r} hx hc he => by
  rw [execs] at he
  cases he
  cases sts with
  | nil => exact ss_nil
  | cons => unfold chkSs at hc; cases hc
theorem gss_cons {s : S} {ss : Ss} (g : GS T N c s) (gs : GSs T N c ss) : GSs T N c (.cons s ss) := fun {X sc so k env sts r} hx hc he => by
  rw [execs, stepS] at he
  have gen : ∀ {x : Stmt} {xs : List Stmt}, sts = x :: xs → chkS T N sc so s x = true → chkSs T N sc so ss xs = true → SndSs X env sts r := fun {x xs} e h1 h2 => by
    subst e
    cases z : exec c env s with
    | none => rw [z, execs_none] at he; cases he
    | some r1 =>
      obtain ⟨fl, e1⟩ := r1
      rw [z] at he
      have a := g hx h1 z
      cases fl with
      | nx => exact ss_next a (gs hx h2 he)
      | rt o =>
        rw [execs_end (by simp)] at he
        cases he
        exact ss_rt a
      | bk =>
        rw [execs_end (by simp)] at he
        cases he
        exact ss_bk a
  cases s
  case frz i0 =>
    unfold chkSs at hc
    rw [exec] at he
    cases z : toP (o1 fz (slot env i0)) with
    | none => rw [z, show putS env i0 none = none from rfl, execs_none] at he; cases he
    | some o =>
      obtain ⟨p, h1, rfl⟩ := toP_some z
      obtain ⟨o, h2, h3⟩ := o1_some h1
      rw [z] at he
      exact ss_frz h2 h3 (gs hx hc he)
  all_goals
    cases sts with
    | nil => unfold chkSs at hc; cases hc
    | cons x xs =>
      unfold chkSs at hc
      rw [Bool.and_eq_true] at hc
      exact gen rfl hc.1 hc.2
mutual
theorem gS : ∀ s : S, GS T N c s
  | .asg i e => gs_asg
  | .asgT is e => gs_asgT
  | .aug i op e => gs_aug
  | .setI i ix e => gs_setI
  | .augI i ix op e => fun hx hc he => by rw [exec] at he; cases he
  | .exp e => gs_exp
  | .mut m i es => gs_mut
  | .pop j i es => gs_pop
  | .ife t a b => gs_ife (gSs a) (gSs b)
  | .forr tg it b => gs_forr (gSs b)
  | .whl t b => gs_whl (gSs b)
  | .ret e => gs_ret
  | .retN => gs_retN
  | .pass => gs_pass
  | .brk => gs_brk
  | .frz i => gs_frz
theorem gSs : ∀ ss : Ss, GSs T N c ss
  | .nil => gss_nil
  | .cons s ss => gss_cons (gS s) (gSs ss)
end
end G

set_option maxRecDepth 100000
namespace G
open PySem L2
/-! ### defs -/
/-- the callees' worths, by the depth of calls -/
def Ck (ds : Nat → Option Df) (gl : Nat → Option P) (fuel : Nat) : Nat → Ct
  | 0 => { call := fun _ _ => none, gl := gl, fuel := fuel }
  | k + 1 => { call := fun f os => match ds f with
    | some d => runD (Ck ds gl fuel k) d os
    | none => none, gl := gl, fuel := fuel }
theorem Ck_gl {ds : Nat → Option Df} {gl : Nat → Option P} {fuel : Nat} : ∀ k, (Ck ds gl fuel k).gl = gl
  | 0 => rfl
  | _ + 1 => rfl
/-- what the names of the module stand for: nothing that the machine calls by its own name -/
structure Bare (mg : Str → Option Value) : Prop where
  blt : ∀ b, mg (biN b) = none
  isi : mg "isinstance" = none
  rng : mg "range" = none
  enu : mg "enumerate" = none
  zip : mg "zip" = none
  rev : mg "reversed" = none
  ty : ∀ t, mg (Str.ofString (tyN t)) = none
structure DefOk (K : PySem.W.Frag) (mg : Str → Option Value) (T : Tb) (d : Df) (x : Str) (a : Addr) (fd : FuncData) (ps : List Str) : Prop where
  ex : ∃ (st : Stmt) (N : List Str) (qual nm : Str), Fun K nm qual st a fd ∧ FnScope N ps (defScope st) ∧ chkSs T N (defScope st) (defScope st) d.body (defBody st) = true ∧ d.n = N.length
  mg : mg x = some (.ref a)
  bd : Binds K fd ps []
  np : d.ps = ps.length
structure ProgOk (K : PySem.W.Frag) (mg : Str → Option Value) (T : Tb) (ds : Nat → Option Df) (gl : Nat → Option P) : Prop where
  fns : ∀ f x, T.fn f = some x → ∃ d a fd ps, ds f = some d ∧ DefOk K mg T d x a fd ps
  gls : ∀ g x p, T.gn g = some x → gl g = some p → ∃ u v, mg x = some u ∧ RelV v u ∧ ∀ B, RP K B v p
  bare : Bare mg
theorem RPs.env {K : PySem.W.Frag} {B H : Hp} : ∀ {vs : List V} {ps : List P} (m : Nat), RPs K B vs ps → REnv K B H (vs.map some ++ List.replicate m none) ((ps.map O.pl).map some ++ List.replicate m none) []
  | _, _, 0, .nil => .nil
  | _, _, m + 1, .nil => .non (RPs.env (vs := []) (ps := []) m .nil)
  | v :: vs, p :: ps, m, .cons h r => by
    have z := REnv.som (σ := vs.map some ++ List.replicate m none) (env := (ps.map O.pl).map some ++ List.replicate m none) (H := H) (.pl h : RO K B H v (.pl p) []) (RPs.env m r)
    simpa using z
theorem outD_some {r : Rs} {o : O} (h : outD r = some o) : ∃ fl env, r = some (fl, env) ∧ ((fl = .rt o) ∨ (fl = .nx ∧ o = .pl .none)) := by
  unfold outD at h
  split at h
  · cases h; exact ⟨_, _, rfl, .inl rfl⟩
  · cases h; exact ⟨_, _, rfl, .inr ⟨rfl, rfl⟩⟩
  · cases h
section
variable {K : PySem.W.Frag} {mg : Str → Option Value} {T : Tb} {ds : Nat → Option Df} {gl : Nat → Option P} {fuel : Nat} {Pr : Program} {w : World} {base : Heap}
theorem def_ok (p : ProgOk K mg T ds gl) {k : Nat} {d : Df} {x : Str} {a : Addr} {fd : FuncData} {ps : List Str} (D : DefOk K mg T d x a fd ps)
    (ih : ∀ f x, T.fn f = some x → ∃ a fd ps, mg x = some (.ref a) ∧ PySem.W.keepIn K (.ref a) = true ∧ Binds K fd ps [] ∧ FnOk Pr w K mg base CX0 k a fd ps (spO K ((Ck ds gl fuel k).call f))) :
    FnOk Pr w K mg base CX0 (k + 1) a fd ps (spO K (runD (Ck ds gl fuel k) d)) := by
  obtain ⟨st, N, qual, nm, F, S, hc, hn⟩ := D.ex
  have key : ∀ {vs : List V} {H : Hp} {Q : VK} {E : XK}, spO K (runD (Ck ds gl fuel k) d) vs H Q E → ∃ B qs o rr, Ext B H ∧ RPs K B vs qs ∧ qs.length = d.ps ∧ execs (Ck ds gl fuel k) d.body (some (.nx, startE d.n (qs.map .pl))) = some rr ∧ outD (some rr) = some o ∧ Gv K B H o Q := by
    rintro vs H Q E ⟨B, qs, r, e, rp, hr, q⟩
    unfold runD at hr
    split at hr
    · rename_i hl
      rw [List.length_map] at hl
      cases z : outD (execs (Ck ds gl fuel k) d.body (some (.nx, startE d.n (qs.map .pl)))) with
      | none => rw [z] at hr; cases hr
      | some o =>
        rw [z] at hr
        cases hr
        obtain ⟨fl, env, z1, z2⟩ := outD_some z
        exact ⟨B, qs, o, _, e, rp, hl, z1, by rw [← z1]; exact z, q⟩
    · cases hr
  refine F.ok S (fun vs H Q E h => ?_) (fun cdv A outer s H vs Q E hr h => ?_)
  · obtain ⟨B, qs, o, rr, e, rp, hl, _⟩ := key h
    rw [rp.len, hl, D.np]
  · obtain ⟨B, qs, o, rr, e, rp, hl, hx, ho, q⟩ := key h
    generalize hX : (cxOf CX0 Pr w K mg base N qual (defScope st) a cdv A outer s H E).nox = X
    have xok : XOk T (Ck ds gl fuel k) N (defScope st) (defScope st) k X := by
      subst hX
      exact ⟨rfl, rfl, S.nd, rfl, fun _ _ => .inl rfl, hr, ih, fun g x p' h1 h2 => p.gls g x p' h1 (by rw [← Ck_gl (ds := ds) (gl := gl) (fuel := fuel) k]; exact h2), p.bare.blt, p.bare.isi, p.bare.rng, p.bare.enu, p.bare.zip, p.bare.rev, p.bare.ty, .never⟩
    have hK : X.K = K := by subst hX; rfl
    have hsn := gSs d.body xok hc hx
    have hlen : N.length = d.n := hn.symm
    have re : REnv X.K B H (L2.start N vs) (startE d.n (qs.map .pl)) [] := by
      rw [hK]
      unfold L2.start startE
      rw [hlen, List.length_map, rp.len]
      exact RPs.env _ rp
    have st0 : Sit B H B H [] := ⟨.refl e, ⟨e, .nil, fun _ h => by simp at h⟩, fun _ h => by simp at h⟩
    have fin := hsn (D := { nx := fun _ H' => Q .non H', rt := Q }) st0 re (by
      obtain ⟨fl, env, z1, z2⟩ := outD_some ho
      cases z1
      rw [hK]
      rcases z2 with rfl | ⟨rfl, rfl⟩
      · exact q
      · exact fun B' H' σ fp e1 t _ => q .non B' H' [] t.s (.pl .non) .nil)
    exact fin
/-- every def, at every depth -/
theorem all_ok (p : ProgOk K mg T ds gl) : ∀ (k f : Nat) (x : Str), T.fn f = some x → ∃ a fd ps, mg x = some (.ref a) ∧ PySem.W.keepIn K (.ref a) = true ∧ Binds K fd ps [] ∧ FnOk Pr w K mg base CX0 k a fd ps (spO K ((Ck ds gl fuel k).call f))
  | 0, f, x, h => by
    obtain ⟨d, a, fd, ps, h1, D⟩ := p.fns f x h
    obtain ⟨st, N, qual, nm, F, _⟩ := D.ex
    refine ⟨a, fd, ps, D.mg, F.kp, D.bd, ⟨fun vs H Q E z => ?_, fun A outer s H args us vs Q E _ _ _ _ z => ?_⟩⟩
    · obtain ⟨_, _, _, _, _, z, _⟩ := z
      cases z
    · obtain ⟨_, _, _, _, _, z, _⟩ := z
      cases z
  | k + 1, f, x, h => by
    obtain ⟨d, a, fd, ps, h1, D⟩ := p.fns f x h
    obtain ⟨st, N, qual, nm, F, _⟩ := id D.ex
    refine ⟨a, fd, ps, D.mg, F.kp, D.bd, ?_⟩
    have e : (Ck ds gl fuel (k + 1)).call f = runD (Ck ds gl fuel k) d := by
      funext os
      show (match ds f with
        | some d => runD (Ck ds gl fuel k) d os
        | none => none) = _
      rw [h1]
    rw [e]
    exact def_ok p D (fun f x => all_ok p k f x)
/-- the law's own promise: of a list of ints it tells True -/
theorem law_fn {k f : Nat} {x : Str} {n : Nat} (p : ProgOk K mg T ds gl) (h : T.fn f = some x) (hl : ∀ ns : List Int, ns.length ≤ n → ∃ os, (Ck ds gl fuel k).call f [.pl (.list (ns.map .int))] = some (.pl (.bool true), os)) :
    ∃ a fd ps, mg x = some (.ref a) ∧ Binds K fd ps [] ∧ FnOk Pr w K mg base CX0 k a fd ps (fun vs H Q _ => ∃ (a : Addr) (ns : List Int), vs = [.ref a] ∧ SL K H a (ns.map V.int) ∧ ns.length ≤ n ∧ ∀ H', Q (.bl true) H') := by
  obtain ⟨a, fd, ps, h1, _, h3, F⟩ := all_ok (Pr := Pr) (w := w) (base := base) (fuel := fuel) p k f x h
  refine ⟨a, fd, ps, h1, h3, F.imp ?_⟩
  rintro vs H Q E ⟨b, ns, rfl, hS, hn, q⟩
  obtain ⟨os, ho⟩ := hl ns hn
  have rp : ∀ ns : List Int, RPs K H (ns.map V.int) (ns.map PyData.int) := fun ns => by
    induction ns with
    | nil => exact .nil
    | cons i ns ih => exact .cons .int ih
  exact ⟨H, [.list (ns.map .int)], _, .refl H, .cons (.lst hS (rp ns)) .nil, ho, fun v B' H' f s r _ => by rw [r.b]; exact q H'⟩
end
end G

set_option maxRecDepth 100000
namespace G
open PySem L2
/-- the law's own promise: of a list of at most n ints it tells True -/
def spEnd (K : PySem.W.Frag) (n : Nat) : Sp := fun vs H Q _ => ∃ (a : Addr) (ns : List Int), vs = [.ref a] ∧ SL K H a (ns.map V.int) ∧ ns.length ≤ n ∧ ∀ H', Q (.bl true) H'
section
variable {K : PySem.W.Frag} {mg : Str → Option Value} {T : Tb} {ds : Nat → Option Df} {gl : Nat → Option P} {fuel : Nat} {Pr : Program} {w : World} {base : Heap}
theorem end_fn {k n : Nat} {d : Df} {x : Str} {a : Addr} {fd : FuncData} {ps : List Str} (p : ProgOk K mg T ds gl) (D : DefOk K mg T d x a fd ps) (hl : ∀ ns : List Int, ns.length ≤ n → ∃ os, runD (Ck ds gl fuel k) d [.pl (.list (ns.map .int))] = some (.pl (.bool true), os)) :
    FnOk Pr w K mg base CX0 (k + 1) a fd ps (spEnd K n) := by
  refine (def_ok (fuel := fuel) p D (fun f x => all_ok p k f x)).imp ?_
  rintro vs H Q E ⟨b, ns, rfl, hS, hn, q⟩
  obtain ⟨os, ho⟩ := hl ns hn
  have rp : ∀ ns : List Int, RPs K H (ns.map V.int) (ns.map PyData.int) := fun ns => by
    induction ns with
    | nil => exact .nil
    | cons i ns ih => exact .cons .int ih
  exact ⟨H, [.list (ns.map .int)], _, .refl H, .cons (.lst hS (rp ns)) .nil, ho, fun v B' H' f s r _ => by rw [r.b]; exact q H'⟩
/-- a def as the top has made it -/
theorem mkD {h : Heap} {d : Df} {x : Str} {st : Stmt} {N ps : List Str} {f : Addr} {oc : Value} {od an : Option Addr} {osl : Array (Option Value)} {kV doc pm cdv ct : Value} (X : K.In h) (G : h.Ns mainGlobals mg)
    (a : PySem.W.nsIn K mainGlobals x = some (some (.ref f))) (l : K.lookup f = some ⟨oc, od, .func (PySem.W.fnOf x x (defArgs st) (defBody st) (defScope st) .none kV doc pm an cdv ct), osl⟩)
    (c : PySem.W.codeIn K cdv x = true) (k : PySem.W.keepIn K (.ref f) = true) (S : FnScope N ps (defScope st)) (hc : chkSs T N (defScope st) (defScope st) d.body (defBody st) = true) (hn : d.n = N.length) (hp : d.ps = ps.length)
    (hb : ∀ (kV doc pm : Value) (an : Option Addr) (cdv ct : Value) (us : List Value), us.length = ps.length → bindArgs (PySem.W.fnOf x x (defArgs st) (defBody st) (defScope st) .none kV doc pm an cdv ct) ⟨us, []⟩ = pure (ps.zip us)) :
    DefOk K mg T d x f (PySem.W.fnOf x x (defArgs st) (defBody st) (defScope st) .none kV doc pm an cdv ct) ps :=
  have F := fun_mk (st := st) l c k
  ⟨⟨st, N, x, x, F, S, hc, hn⟩, PySem.W.mg_of X G a, F.binds hb, hp⟩
theorem mkI {h : Heap} {x : Str} {i : Int} {t : Tok} (X : K.In h) (G : h.Ns mainGlobals mg) (a : PySem.W.nsIn K mainGlobals x = some (some (.int i t))) : ∃ u v, mg x = some u ∧ RelV v u ∧ ∀ B, RP K B v (.int i) := ⟨_, .int i, PySem.W.mg_of X G a, ⟨_, rfl⟩, fun _ => .int⟩
theorem mkS {h : Heap} {x : Str} {i : Str} {t : Tok} (X : K.In h) (G : h.Ns mainGlobals mg) (a : PySem.W.nsIn K mainGlobals x = some (some (.str i t))) : ∃ u v, mg x = some u ∧ RelV v u ∧ ∀ B, RP K B v (.str i) := ⟨_, .str i, PySem.W.mg_of X G a, ⟨_, rfl⟩, fun _ => .str⟩
end
open PyProof PyProof.Rows in
theorem walkG {l : PySem.W.OpenLaw} {n k : Nat} {q : Program} {loose : List Str} {XP : (Str → Option Value) → Heap → Prop} {YP : World → Heap → Prop} {d : DefRec} {K : Params → PySem.W.Frag} {x : Str}
    (hn : l.most = some n) (hn2 : n ≤ sizeLine) (hdf : d.params.defaults = []) (hr : Room k callerA) (hY : ∀ (w : World) (h : Heap), YP w h → (K w.params).In h)
    (F : ∀ (w : World) (mg : Str → Option Value) (fa : Addr) (h : Heap), (K w.params).In h → h.Ns mainGlobals mg → mg d.name = some (.ref fa) →
      ∃ fd : FuncData, (∀ (s : Shared) (u : Value), BindsTo s fd ⟨[u], []⟩ [(x, u)]) ∧ ∀ base : Heap, (K w.params).In base → base.Ns mainGlobals mg → FnOk l.prog w (K w.params) mg base CX0 k fa fd [x] (spEnd (K w.params) n)) :
    PySem.W.WalkO q loose XP YP l.row.toRowW d [] (fun f vs => PySem.call f vs) := by
  refine Att.attach_call hn hdf fun w s₀ s₁ mg mb fa o pm cd doc a vs ns G Y ho hd hcd hmg hobj hints hlen hg => ?_
  have KX := hY w _ Y
  obtain ⟨fd, hb, hF⟩ := F w mg fa _ KX G.T.g hmg
  refine law_call (CX := CX0) KX G.T.g G.T.b G.T.builtins G.T.nolimit hg hobj hints (Nat.le_trans hlen hn2) hr hF hb (fun H hO hS => ⟨a, ns, rfl, ?_, hlen, fun _ => rfl⟩) fun H e s' z => z
  rcases hS with hS | ⟨o', its, m, k1, k2, k3, k4, k5, k6⟩
  · exact .inl hS
  · have e := KX _ _ k1
    rw [hobj] at e
    cases e
    cases k4
    exact .inr ⟨_, _, k1, k5, k6⟩
end G

set_option maxRecDepth 100000
namespace G
open PySem L2
@[simp] theorem iBin_1 : type_of% @iBin.eq_1 := @iBin.eq_1
@[simp] theorem iBin_2 : type_of% @iBin.eq_2 := @iBin.eq_2
@[simp] theorem iBin_3 : type_of% @iBin.eq_3 := @iBin.eq_3
@[simp] theorem iBin_4 : type_of% @iBin.eq_4 := @iBin.eq_4
@[simp] theorem iBin_5 : type_of% @iBin.eq_5 := @iBin.eq_5
@[simp] theorem iBin_6 : type_of% @iBin.eq_6 := @iBin.eq_6
@[simp] theorem iBin_7 : type_of% @iBin.eq_7 := @iBin.eq_7
@[simp] theorem iBin_8 : type_of% @iBin.eq_8 := @iBin.eq_8
@[simp] theorem iBin_9 : type_of% @iBin.eq_9 := @iBin.eq_9
@[simp] theorem iBin_10 : type_of% @iBin.eq_10 := @iBin.eq_10
@[simp] theorem iBin_11 : type_of% @iBin.eq_11 := @iBin.eq_11
@[simp] theorem iBin_12 : type_of% @iBin.eq_12 := @iBin.eq_12
@[simp] theorem toI_1 : type_of% @toI.eq_1 := @toI.eq_1
@[simp] theorem toI_2 : type_of% @toI.eq_2 := @toI.eq_2
@[simp] theorem toB_1 : type_of% @toB.eq_1 := @toB.eq_1
@[simp] theorem toB_2 : type_of% @toB.eq_2 := @toB.eq_2
@[simp] theorem toP_1 : type_of% @toP.eq_1 := @toP.eq_1
@[simp] theorem toP_2 : type_of% @toP.eq_2 := @toP.eq_2
@[simp] theorem o1_1 : type_of% @o1.eq_1 := @o1.eq_1
@[simp] theorem o1_2 : type_of% @o1.eq_2 := @o1.eq_2
@[simp] theorem o2_1 : type_of% @o2.eq_1 := @o2.eq_1
@[simp] theorem o2_2 : type_of% @o2.eq_2 := @o2.eq_2
@[simp] theorem o3_1 : type_of% @o3.eq_1 := @o3.eq_1
@[simp] theorem o3_2 : type_of% @o3.eq_2 := @o3.eq_2
@[simp] theorem litems_1 : type_of% @litems.eq_1 := @litems.eq_1
@[simp] theorem litems_2 : type_of% @litems.eq_2 := @litems.eq_2
@[simp] theorem litems_3 : type_of% @litems.eq_3 := @litems.eq_3
@[simp] theorem titems_1 : type_of% @titems.eq_1 := @titems.eq_1
@[simp] theorem titems_2 : type_of% @titems.eq_2 := @titems.eq_2
@[simp] theorem ditems_1 : type_of% @ditems.eq_1 := @ditems.eq_1
@[simp] theorem ditems_2 : type_of% @ditems.eq_2 := @ditems.eq_2
@[simp] theorem ditems_3 : type_of% @ditems.eq_3 := @ditems.eq_3
@[simp] theorem addL_1 : type_of% @addL.eq_1 := @addL.eq_1
@[simp] theorem addO_1 : type_of% @addO.eq_1 := @addO.eq_1
@[simp] theorem addO_2 : type_of% @addO.eq_2 := @addO.eq_2
@[simp] theorem addO_3 : type_of% @addO.eq_3 := @addO.eq_3
@[simp] theorem addO_4 : type_of% @addO.eq_4 := @addO.eq_4
@[simp] theorem addO_5 : type_of% @addO.eq_5 := @addO.eq_5
@[simp] theorem addO_6 : type_of% @addO.eq_6 := @addO.eq_6
@[simp] theorem addO_7 : type_of% @addO.eq_7 := @addO.eq_7
@[simp] theorem addO_8 : type_of% @addO.eq_8 := @addO.eq_8
@[simp] theorem intO_1 : type_of% @intO.eq_1 := @intO.eq_1
@[simp] theorem intO_2 : type_of% @intO.eq_2 := @intO.eq_2
@[simp] theorem mulL_1 : type_of% @mulL.eq_1 := @mulL.eq_1
@[simp] theorem mulO_1 : type_of% @mulO.eq_1 := @mulO.eq_1
@[simp] theorem mulO_2 : type_of% @mulO.eq_2 := @mulO.eq_2
@[simp] theorem mulO_3 : type_of% @mulO.eq_3 := @mulO.eq_3
@[simp] theorem mulO_4 : type_of% @mulO.eq_4 := @mulO.eq_4
@[simp] theorem mulO_5 : type_of% @mulO.eq_5 := @mulO.eq_5
@[simp] theorem binO_1 : type_of% @binO.eq_1 := @binO.eq_1
@[simp] theorem binO_2 : type_of% @binO.eq_2 := @binO.eq_2
@[simp] theorem binO_3 : type_of% @binO.eq_3 := @binO.eq_3
@[simp] theorem binO_4 : type_of% @binO.eq_4 := @binO.eq_4
@[simp] theorem binO_5 : type_of% @binO.eq_5 := @binO.eq_5
@[simp] theorem binO_6 : type_of% @binO.eq_6 := @binO.eq_6
@[simp] theorem binO_7 : type_of% @binO.eq_7 := @binO.eq_7
@[simp] theorem binO_8 : type_of% @binO.eq_8 := @binO.eq_8
@[simp] theorem binO_9 : type_of% @binO.eq_9 := @binO.eq_9
@[simp] theorem binO_10 : type_of% @binO.eq_10 := @binO.eq_10
@[simp] theorem binO_11 : type_of% @binO.eq_11 := @binO.eq_11
@[simp] theorem binO_12 : type_of% @binO.eq_12 := @binO.eq_12
@[simp] theorem negO_1 : type_of% @negO.eq_1 := @negO.eq_1
@[simp] theorem negO_2 : type_of% @negO.eq_2 := @negO.eq_2
@[simp] theorem notO_1 : type_of% @notO.eq_1 := @notO.eq_1
@[simp] theorem notO_2 : type_of% @notO.eq_2 := @notO.eq_2
@[simp] theorem ifB_1 : type_of% @ifB.eq_1 := @ifB.eq_1
@[simp] theorem ifB_2 : type_of% @ifB.eq_2 := @ifB.eq_2
@[simp] theorem eqO_1 : type_of% @eqO.eq_1 := @eqO.eq_1
@[simp] theorem eqO_2 : type_of% @eqO.eq_2 := @eqO.eq_2
@[simp] theorem eqO_3 : type_of% @eqO.eq_3 := @eqO.eq_3
@[simp] theorem eqQ_1 : type_of% @eqQ.eq_1 := @eqQ.eq_1
@[simp] theorem eqQ_2 : type_of% @eqQ.eq_2 := @eqQ.eq_2
@[simp] theorem flatP_1 : type_of% @flatP.eq_1 := @flatP.eq_1
@[simp] theorem flatP_2 : type_of% @flatP.eq_2 := @flatP.eq_2
@[simp] theorem flatP_3 : type_of% @flatP.eq_3 := @flatP.eq_3
@[simp] theorem flatP_4 : type_of% @flatP.eq_4 := @flatP.eq_4
@[simp] theorem flatP_5 : type_of% @flatP.eq_5 := @flatP.eq_5
@[simp] theorem seqI_1 : type_of% @seqI.eq_1 := @seqI.eq_1
@[simp] theorem seqI_2 : type_of% @seqI.eq_2 := @seqI.eq_2
@[simp] theorem seqI_3 : type_of% @seqI.eq_3 := @seqI.eq_3
@[simp] theorem seqI_4 : type_of% @seqI.eq_4 := @seqI.eq_4
@[simp] theorem inSq_1 : type_of% @inSq.eq_1 := @inSq.eq_1
@[simp] theorem hasK_1 : type_of% @hasK.eq_1 := @hasK.eq_1
@[simp] theorem inO_1 : type_of% @inO.eq_1 := @inO.eq_1
@[simp] theorem inO_2 : type_of% @inO.eq_2 := @inO.eq_2
@[simp] theorem inO_3 : type_of% @inO.eq_3 := @inO.eq_3
@[simp] theorem inO_4 : type_of% @inO.eq_4 := @inO.eq_4
@[simp] theorem inO_5 : type_of% @inO.eq_5 := @inO.eq_5
@[simp] theorem inO_6 : type_of% @inO.eq_6 := @inO.eq_6
@[simp] theorem inO_7 : type_of% @inO.eq_7 := @inO.eq_7
@[simp] theorem isNo_1 : type_of% @isNo.eq_1 := @isNo.eq_1
@[simp] theorem isNo_2 : type_of% @isNo.eq_2 := @isNo.eq_2
@[simp] theorem isO_1 : type_of% @isO.eq_1 := @isO.eq_1
@[simp] theorem isO_2 : type_of% @isO.eq_2 := @isO.eq_2
@[simp] theorem cmpI_1 : type_of% @cmpI.eq_1 := @cmpI.eq_1
@[simp] theorem cmpI_2 : type_of% @cmpI.eq_2 := @cmpI.eq_2
@[simp] theorem neg_1 : type_of% @neg.eq_1 := @neg.eq_1
@[simp] theorem neg_2 : type_of% @neg.eq_2 := @neg.eq_2
@[simp] theorem cmpO_1 : type_of% @cmpO.eq_1 := @cmpO.eq_1
@[simp] theorem cmpO_2 : type_of% @cmpO.eq_2 := @cmpO.eq_2
@[simp] theorem cmpO_3 : type_of% @cmpO.eq_3 := @cmpO.eq_3
@[simp] theorem cmpO_4 : type_of% @cmpO.eq_4 := @cmpO.eq_4
@[simp] theorem cmpO_5 : type_of% @cmpO.eq_5 := @cmpO.eq_5
@[simp] theorem cmpO_6 : type_of% @cmpO.eq_6 := @cmpO.eq_6
@[simp] theorem cmpO_7 : type_of% @cmpO.eq_7 := @cmpO.eq_7
@[simp] theorem cmpO_8 : type_of% @cmpO.eq_8 := @cmpO.eq_8
@[simp] theorem cmpO_9 : type_of% @cmpO.eq_9 := @cmpO.eq_9
@[simp] theorem cmpO_10 : type_of% @cmpO.eq_10 := @cmpO.eq_10
@[simp] theorem cmpV_1 : type_of% @cmpV.eq_1 := @cmpV.eq_1
@[simp] theorem chn1_1 : type_of% @chn1.eq_1 := @chn1.eq_1
@[simp] theorem chn1_2 : type_of% @chn1.eq_2 := @chn1.eq_2
@[simp] theorem chn_1 : type_of% @chn.eq_1 := @chn.eq_1
@[simp] theorem plC_1 : type_of% @plC.eq_1 := @plC.eq_1
@[simp] theorem plC_2 : type_of% @plC.eq_2 := @plC.eq_2
@[simp] theorem plains_1 : type_of% @plains.eq_1 := @plains.eq_1
@[simp] theorem plains_2 : type_of% @plains.eq_2 := @plains.eq_2
@[simp] theorem plains_3 : type_of% @plains.eq_3 := @plains.eq_3
@[simp] theorem mkL1_1 : type_of% @mkL1.eq_1 := @mkL1.eq_1
@[simp] theorem mkL1_2 : type_of% @mkL1.eq_2 := @mkL1.eq_2
@[simp] theorem mkL_1 : type_of% @mkL.eq_1 := @mkL.eq_1
@[simp] theorem mkT1_1 : type_of% @mkT1.eq_1 := @mkT1.eq_1
@[simp] theorem mkT1_2 : type_of% @mkT1.eq_2 := @mkT1.eq_2
@[simp] theorem mkT_1 : type_of% @mkT.eq_1 := @mkT.eq_1
@[simp] theorem toC_1 : type_of% @toC.eq_1 := @toC.eq_1
@[simp] theorem toC_2 : type_of% @toC.eq_2 := @toC.eq_2
@[simp] theorem idxS_1 : type_of% @idxS.eq_1 := @idxS.eq_1
@[simp] theorem idxO_1 : type_of% @idxO.eq_1 := @idxO.eq_1
@[simp] theorem idxO_2 : type_of% @idxO.eq_2 := @idxO.eq_2
@[simp] theorem idxO_3 : type_of% @idxO.eq_3 := @idxO.eq_3
@[simp] theorem idxO_4 : type_of% @idxO.eq_4 := @idxO.eq_4
@[simp] theorem idxO_5 : type_of% @idxO.eq_5 := @idxO.eq_5
@[simp] theorem idxO_6 : type_of% @idxO.eq_6 := @idxO.eq_6
@[simp] theorem idxO_7 : type_of% @idxO.eq_7 := @idxO.eq_7
@[simp] theorem idxO_8 : type_of% @idxO.eq_8 := @idxO.eq_8
@[simp] theorem idxO_9 : type_of% @idxO.eq_9 := @idxO.eq_9
@[simp] theorem slcO_1 : type_of% @slcO.eq_1 := @slcO.eq_1
@[simp] theorem slcO_2 : type_of% @slcO.eq_2 := @slcO.eq_2
@[simp] theorem slcO_3 : type_of% @slcO.eq_3 := @slcO.eq_3
@[simp] theorem slcO_4 : type_of% @slcO.eq_4 := @slcO.eq_4
@[simp] theorem slcO_5 : type_of% @slcO.eq_5 := @slcO.eq_5
@[simp] theorem seqAny_1 : type_of% @seqAny.eq_1 := @seqAny.eq_1
@[simp] theorem seqAny_2 : type_of% @seqAny.eq_2 := @seqAny.eq_2
@[simp] theorem seqAny_3 : type_of% @seqAny.eq_3 := @seqAny.eq_3
@[simp] theorem seqAny_4 : type_of% @seqAny.eq_4 := @seqAny.eq_4
@[simp] theorem seqAny_5 : type_of% @seqAny.eq_5 := @seqAny.eq_5
@[simp] theorem scalO_1 : type_of% @scalO.eq_1 := @scalO.eq_1
@[simp] theorem scalO_2 : type_of% @scalO.eq_2 := @scalO.eq_2
@[simp] theorem lenO_1 : type_of% @lenO.eq_1 := @lenO.eq_1
@[simp] theorem lenO_2 : type_of% @lenO.eq_2 := @lenO.eq_2
@[simp] theorem lenO_3 : type_of% @lenO.eq_3 := @lenO.eq_3
@[simp] theorem lenO_4 : type_of% @lenO.eq_4 := @lenO.eq_4
@[simp] theorem lenO_5 : type_of% @lenO.eq_5 := @lenO.eq_5
@[simp] theorem lenO_6 : type_of% @lenO.eq_6 := @lenO.eq_6
@[simp] theorem lenO_7 : type_of% @lenO.eq_7 := @lenO.eq_7
@[simp] theorem lenO_8 : type_of% @lenO.eq_8 := @lenO.eq_8
@[simp] theorem lenO_9 : type_of% @lenO.eq_9 := @lenO.eq_9
@[simp] theorem lenO_10 : type_of% @lenO.eq_10 := @lenO.eq_10
@[simp] theorem toN_1 : type_of% @toN.eq_1 := @toN.eq_1
@[simp] theorem toN_2 : type_of% @toN.eq_2 := @toN.eq_2
@[simp] theorem toF_1 : type_of% @toF.eq_1 := @toF.eq_1
@[simp] theorem toF_2 : type_of% @toF.eq_2 := @toF.eq_2
@[simp] theorem toT_1 : type_of% @toT.eq_1 := @toT.eq_1
@[simp] theorem toT_2 : type_of% @toT.eq_2 := @toT.eq_2
@[simp] theorem sumL_1 : type_of% @sumL.eq_1 := @sumL.eq_1
@[simp] theorem sumL_2 : type_of% @sumL.eq_2 := @sumL.eq_2
@[simp] theorem allL_1 : type_of% @allL.eq_1 := @allL.eq_1
@[simp] theorem allL_2 : type_of% @allL.eq_2 := @allL.eq_2
@[simp] theorem anyL_1 : type_of% @anyL.eq_1 := @anyL.eq_1
@[simp] theorem anyL_2 : type_of% @anyL.eq_2 := @anyL.eq_2
@[simp] theorem biO_1 : type_of% @biO.eq_1 := @biO.eq_1
@[simp] theorem biO_2 : type_of% @biO.eq_2 := @biO.eq_2
@[simp] theorem biO_3 : type_of% @biO.eq_3 := @biO.eq_3
@[simp] theorem biO_4 : type_of% @biO.eq_4 := @biO.eq_4
@[simp] theorem biO_5 : type_of% @biO.eq_5 := @biO.eq_5
@[simp] theorem biO_6 : type_of% @biO.eq_6 := @biO.eq_6
@[simp] theorem biO_7 : type_of% @biO.eq_7 := @biO.eq_7
@[simp] theorem biO_8 : type_of% @biO.eq_8 := @biO.eq_8
@[simp] theorem biO_9 : type_of% @biO.eq_9 := @biO.eq_9
@[simp] theorem biO_10 : type_of% @biO.eq_10 := @biO.eq_10
@[simp] theorem biO_11 : type_of% @biO.eq_11 := @biO.eq_11
@[simp] theorem biO_12 : type_of% @biO.eq_12 := @biO.eq_12
@[simp] theorem biO_13 : type_of% @biO.eq_13 := @biO.eq_13
@[simp] theorem tyP_1 : type_of% @tyP.eq_1 := @tyP.eq_1
@[simp] theorem tyP_2 : type_of% @tyP.eq_2 := @tyP.eq_2
@[simp] theorem tyP_3 : type_of% @tyP.eq_3 := @tyP.eq_3
@[simp] theorem tyP_4 : type_of% @tyP.eq_4 := @tyP.eq_4
@[simp] theorem tyP_5 : type_of% @tyP.eq_5 := @tyP.eq_5
@[simp] theorem tyP_6 : type_of% @tyP.eq_6 := @tyP.eq_6
@[simp] theorem tyP_7 : type_of% @tyP.eq_7 := @tyP.eq_7
@[simp] theorem isTy1_1 : type_of% @isTy1.eq_1 := @isTy1.eq_1
@[simp] theorem isTy1_2 : type_of% @isTy1.eq_2 := @isTy1.eq_2
@[simp] theorem isTy1_3 : type_of% @isTy1.eq_3 := @isTy1.eq_3
@[simp] theorem isiO_1 : type_of% @isiO.eq_1 := @isiO.eq_1
@[simp] theorem getP_1 : type_of% @getP.eq_1 := @getP.eq_1
@[simp] theorem getP_2 : type_of% @getP.eq_2 := @getP.eq_2
@[simp] theorem methO_1 : type_of% @methO.eq_1 := @methO.eq_1
@[simp] theorem methO_2 : type_of% @methO.eq_2 := @methO.eq_2
@[simp] theorem methO_3 : type_of% @methO.eq_3 := @methO.eq_3
@[simp] theorem slot_1 : type_of% @slot.eq_1 := @slot.eq_1
@[simp] theorem opnd_1 : type_of% @opnd.eq_1 := @opnd.eq_1
@[simp] theorem opnd_2 : type_of% @opnd.eq_2 := @opnd.eq_2
@[simp] theorem setTg_1 : type_of% @setTg.eq_1 := @setTg.eq_1
@[simp] theorem setTg_2 : type_of% @setTg.eq_2 := @setTg.eq_2
@[simp] theorem setTg_3 : type_of% @setTg.eq_3 := @setTg.eq_3
@[simp] theorem wipeE_1 : type_of% @wipeE.eq_1 := @wipeE.eq_1
@[simp] theorem wipeE_2 : type_of% @wipeE.eq_2 := @wipeE.eq_2
@[simp] theorem plO_1 : type_of% @plO.eq_1 := @plO.eq_1
@[simp] theorem plO_2 : type_of% @plO.eq_2 := @plO.eq_2
@[simp] theorem consA_1 : type_of% @consA.eq_1 := @consA.eq_1
@[simp] theorem consA_2 : type_of% @consA.eq_2 := @consA.eq_2
@[simp] theorem consB_1 : type_of% @consB.eq_1 := @consB.eq_1
@[simp] theorem consB_2 : type_of% @consB.eq_2 := @consB.eq_2
@[simp] theorem lendQ_1 : type_of% @lendQ.eq_1 := @lendQ.eq_1
@[simp] theorem lendQ_2 : type_of% @lendQ.eq_2 := @lendQ.eq_2
@[simp] theorem lendS_1 : type_of% @lendS.eq_1 := @lendS.eq_1
@[simp] theorem lendS_2 : type_of% @lendS.eq_2 := @lendS.eq_2
@[simp] theorem lendS_3 : type_of% @lendS.eq_3 := @lendS.eq_3
@[simp] theorem lendE_1 : type_of% @lendE.eq_1 := @lendE.eq_1
@[simp] theorem lendE_2 : type_of% @lendE.eq_2 := @lendE.eq_2
@[simp] theorem lend_1 : type_of% @lend.eq_1 := @lend.eq_1
@[simp] theorem lend_2 : type_of% @lend.eq_2 := @lend.eq_2
@[simp] theorem retC_1 : type_of% @retC.eq_1 := @retC.eq_1
@[simp] theorem retC_2 : type_of% @retC.eq_2 := @retC.eq_2
@[simp] theorem retC_3 : type_of% @retC.eq_3 := @retC.eq_3
@[simp] theorem callC_1 : type_of% @callC.eq_1 := @callC.eq_1
@[simp] theorem callC_2 : type_of% @callC.eq_2 := @callC.eq_2
@[simp] theorem oI_1 : type_of% @oI.eq_1 := @oI.eq_1
@[simp] theorem oI_2 : type_of% @oI.eq_2 := @oI.eq_2
@[simp] theorem rng1_1 : type_of% @rng1.eq_1 := @rng1.eq_1
@[simp] theorem rng1_2 : type_of% @rng1.eq_2 := @rng1.eq_2
@[simp] theorem rng2_1 : type_of% @rng2.eq_1 := @rng2.eq_1
@[simp] theorem rng2_2 : type_of% @rng2.eq_2 := @rng2.eq_2
@[simp] theorem mapI_1 : type_of% @mapI.eq_1 := @mapI.eq_1
@[simp] theorem mapI_2 : type_of% @mapI.eq_2 := @mapI.eq_2
@[simp] theorem enmO_1 : type_of% @enmO.eq_1 := @enmO.eq_1
@[simp] theorem zipQ_1 : type_of% @zipQ.eq_1 := @zipQ.eq_1
@[simp] theorem zipQ_2 : type_of% @zipQ.eq_2 := @zipQ.eq_2
@[simp] theorem itmQ_1 : type_of% @itmQ.eq_1 := @itmQ.eq_1
@[simp] theorem itmQ_2 : type_of% @itmQ.eq_2 := @itmQ.eq_2
@[simp] theorem itmO_1 : type_of% @itmO.eq_1 := @itmO.eq_1
@[simp] theorem revO_1 : type_of% @revO.eq_1 := @revO.eq_1
@[simp] theorem evR_1 : type_of% @evR.eq_1 := @evR.eq_1
@[simp] theorem evR_2 : type_of% @evR.eq_2 := @evR.eq_2
@[simp] theorem evR_3 : type_of% @evR.eq_3 := @evR.eq_3
@[simp] theorem evR_4 : type_of% @evR.eq_4 := @evR.eq_4
@[simp] theorem evR_5 : type_of% @evR.eq_5 := @evR.eq_5
@[simp] theorem evR_6 : type_of% @evR.eq_6 := @evR.eq_6
@[simp] theorem evR_7 : type_of% @evR.eq_7 := @evR.eq_7
@[simp] theorem evR_8 : type_of% @evR.eq_8 := @evR.eq_8
@[simp] theorem evR_9 : type_of% @evR.eq_9 := @evR.eq_9
@[simp] theorem evR_10 : type_of% @evR.eq_10 := @evR.eq_10
@[simp] theorem evR_11 : type_of% @evR.eq_11 := @evR.eq_11
@[simp] theorem evR_12 : type_of% @evR.eq_12 := @evR.eq_12
@[simp] theorem evR_13 : type_of% @evR.eq_13 := @evR.eq_13
@[simp] theorem evR_14 : type_of% @evR.eq_14 := @evR.eq_14
@[simp] theorem evR_15 : type_of% @evR.eq_15 := @evR.eq_15
@[simp] theorem evR_16 : type_of% @evR.eq_16 := @evR.eq_16
@[simp] theorem evR_17 : type_of% @evR.eq_17 := @evR.eq_17
@[simp] theorem evR_18 : type_of% @evR.eq_18 := @evR.eq_18
@[simp] theorem evR_19 : type_of% @evR.eq_19 := @evR.eq_19
@[simp] theorem evR_20 : type_of% @evR.eq_20 := @evR.eq_20
@[simp] theorem evR_21 : type_of% @evR.eq_21 := @evR.eq_21
@[simp] theorem evR_22 : type_of% @evR.eq_22 := @evR.eq_22
@[simp] theorem evR_lc_ : type_of% @evR_lc := @evR_lc
@[simp] theorem evRs_1 : type_of% @evRs.eq_1 := @evRs.eq_1
@[simp] theorem evRs_2 : type_of% @evRs.eq_2 := @evRs.eq_2
@[simp] theorem evVs_1 : type_of% @evVs.eq_1 := @evVs.eq_1
@[simp] theorem evVs_2 : type_of% @evVs.eq_2 := @evVs.eq_2
@[simp] theorem evLs_1 : type_of% @evLs.eq_1 := @evLs.eq_1
@[simp] theorem evLs_2 : type_of% @evLs.eq_2 := @evLs.eq_2
@[simp] theorem evX_1 : type_of% @evX.eq_1 := @evX.eq_1
@[simp] theorem evX_2 : type_of% @evX.eq_2 := @evX.eq_2
@[simp] theorem evC_1 : type_of% @evC.eq_1 := @evC.eq_1
@[simp] theorem evC_2 : type_of% @evC.eq_2 := @evC.eq_2
@[simp] theorem evI_1 : type_of% @evI.eq_1 := @evI.eq_1
@[simp] theorem evI_2 : type_of% @evI.eq_2 := @evI.eq_2
@[simp] theorem evI_3 : type_of% @evI.eq_3 := @evI.eq_3
@[simp] theorem evI_4 : type_of% @evI.eq_4 := @evI.eq_4
@[simp] theorem evI_5 : type_of% @evI.eq_5 := @evI.eq_5
@[simp] theorem evI_6 : type_of% @evI.eq_6 := @evI.eq_6
@[simp] theorem evI_7 : type_of% @evI.eq_7 := @evI.eq_7
@[simp] theorem evI_8 : type_of% @evI.eq_8 := @evI.eq_8
@[simp] theorem forO_1 : type_of% @forO.eq_1 := @forO.eq_1
@[simp] theorem forO_2 : type_of% @forO.eq_2 := @forO.eq_2
@[simp] theorem sh_1 : type_of% @sh.eq_1 := @sh.eq_1
@[simp] theorem evJ_1 : type_of% @evJ.eq_1 := @evJ.eq_1
@[simp] theorem evJ_2 : type_of% @evJ.eq_2 := @evJ.eq_2
@[simp] theorem evJ_3 : type_of% @evJ.eq_3 := @evJ.eq_3
@[simp] theorem evJ_4 : type_of% @evJ.eq_4 := @evJ.eq_4
@[simp] theorem evJ_5 : type_of% @evJ.eq_5 := @evJ.eq_5
@[simp] theorem evJ_6 : type_of% @evJ.eq_6 := @evJ.eq_6
@[simp] theorem evJ_7 : type_of% @evJ.eq_7 := @evJ.eq_7
@[simp] theorem evJ_8 : type_of% @evJ.eq_8 := @evJ.eq_8
@[simp] theorem pairE_1 : type_of% @pairE.eq_1 := @pairE.eq_1
@[simp] theorem pairE_2 : type_of% @pairE.eq_2 := @pairE.eq_2
@[simp] theorem movE_1 : type_of% @movE.eq_1 := @movE.eq_1
@[simp] theorem movE_2 : type_of% @movE.eq_2 := @movE.eq_2
@[simp] theorem mkW_1 : type_of% @mkW.eq_1 := @mkW.eq_1
@[simp] theorem mkW_2 : type_of% @mkW.eq_2 := @mkW.eq_2
@[simp] theorem evW1_1 : type_of% @evW1.eq_1 := @evW1.eq_1
@[simp] theorem evW1_2 : type_of% @evW1.eq_2 := @evW1.eq_2
@[simp] theorem snocW_1 : type_of% @snocW.eq_1 := @snocW.eq_1
@[simp] theorem snocW_2 : type_of% @snocW.eq_2 := @snocW.eq_2
@[simp] theorem pushW_1 : type_of% @pushW.eq_1 := @pushW.eq_1
@[simp] theorem pushW_2 : type_of% @pushW.eq_2 := @pushW.eq_2
@[simp] theorem evWs_1 : type_of% @evWs.eq_1 := @evWs.eq_1
@[simp] theorem evWs_2 : type_of% @evWs.eq_2 := @evWs.eq_2
@[simp] theorem evW_1 : type_of% @evW.eq_1 := @evW.eq_1
@[simp] theorem evW_2 : type_of% @evW.eq_2 := @evW.eq_2
@[simp] theorem evW_3 : type_of% @evW.eq_3 := @evW.eq_3
@[simp] theorem evW_4 : type_of% @evW.eq_4 := @evW.eq_4
@[simp] theorem popR_1 : type_of% @popR.eq_1 := @popR.eq_1
@[simp] theorem popR_2 : type_of% @popR.eq_2 := @popR.eq_2
@[simp] theorem popN_1 : type_of% @popN.eq_1 := @popN.eq_1
@[simp] theorem popN_2 : type_of% @popN.eq_2 := @popN.eq_2
@[simp] theorem popO_1 : type_of% @popO.eq_1 := @popO.eq_1
@[simp] theorem popO_2 : type_of% @popO.eq_2 := @popO.eq_2
@[simp] theorem popO_3 : type_of% @popO.eq_3 := @popO.eq_3
@[simp] theorem nxE_1 : type_of% @nxE.eq_1 := @nxE.eq_1
@[simp] theorem nxE_2 : type_of% @nxE.eq_2 := @nxE.eq_2
@[simp] theorem asgS_1 : type_of% @asgS.eq_1 := @asgS.eq_1
@[simp] theorem asgS_2 : type_of% @asgS.eq_2 := @asgS.eq_2
@[simp] theorem unpS_1 : type_of% @unpS.eq_1 := @unpS.eq_1
@[simp] theorem unpS_2 : type_of% @unpS.eq_2 := @unpS.eq_2
@[simp] theorem unpS_3 : type_of% @unpS.eq_3 := @unpS.eq_3
@[simp] theorem putS_1 : type_of% @putS.eq_1 := @putS.eq_1
@[simp] theorem putS_2 : type_of% @putS.eq_2 := @putS.eq_2
@[simp] theorem setS_1 : type_of% @setS.eq_1 := @setS.eq_1
@[simp] theorem setS_2 : type_of% @setS.eq_2 := @setS.eq_2
@[simp] theorem mutS_1 : type_of% @mutS.eq_1 := @mutS.eq_1
@[simp] theorem mutS_2 : type_of% @mutS.eq_2 := @mutS.eq_2
@[simp] theorem popS_1 : type_of% @popS.eq_1 := @popS.eq_1
@[simp] theorem popS_2 : type_of% @popS.eq_2 := @popS.eq_2
@[simp] theorem popS_3 : type_of% @popS.eq_3 := @popS.eq_3
@[simp] theorem retS_1 : type_of% @retS.eq_1 := @retS.eq_1
@[simp] theorem retS_2 : type_of% @retS.eq_2 := @retS.eq_2
@[simp] theorem expS_1 : type_of% @expS.eq_1 := @expS.eq_1
@[simp] theorem expS_2 : type_of% @expS.eq_2 := @expS.eq_2
@[simp] theorem exec_1 : type_of% @exec.eq_1 := @exec.eq_1
@[simp] theorem exec_2 : type_of% @exec.eq_2 := @exec.eq_2
@[simp] theorem exec_3 : type_of% @exec.eq_3 := @exec.eq_3
@[simp] theorem exec_4 : type_of% @exec.eq_4 := @exec.eq_4
@[simp] theorem exec_5 : type_of% @exec.eq_5 := @exec.eq_5
@[simp] theorem exec_6 : type_of% @exec.eq_6 := @exec.eq_6
@[simp] theorem exec_7 : type_of% @exec.eq_7 := @exec.eq_7
@[simp] theorem exec_8 : type_of% @exec.eq_8 := @exec.eq_8
@[simp] theorem exec_9 : type_of% @exec.eq_9 := @exec.eq_9
@[simp] theorem exec_forr_ : type_of% @exec_forr := @exec_forr
@[simp] theorem exec_whl_ : type_of% @exec_whl := @exec_whl
@[simp] theorem exec_12 : type_of% @exec.eq_12 := @exec.eq_12
@[simp] theorem exec_13 : type_of% @exec.eq_13 := @exec.eq_13
@[simp] theorem exec_14 : type_of% @exec.eq_14 := @exec.eq_14
@[simp] theorem exec_15 : type_of% @exec.eq_15 := @exec.eq_15
@[simp] theorem exec_16 : type_of% @exec.eq_16 := @exec.eq_16
@[simp] theorem stepS_1 : type_of% @stepS.eq_1 := @stepS.eq_1
@[simp] theorem stepS_2 : type_of% @stepS.eq_2 := @stepS.eq_2
@[simp] theorem execs_1 : type_of% @execs.eq_1 := @execs.eq_1
@[simp] theorem execs_2 : type_of% @execs.eq_2 := @execs.eq_2
@[simp] theorem outD_1 : type_of% @outD.eq_1 := @outD.eq_1
@[simp] theorem outD_2 : type_of% @outD.eq_2 := @outD.eq_2
@[simp] theorem outD_3 : type_of% @outD.eq_3 := @outD.eq_3
@[simp] theorem argD_1 : type_of% @argD.eq_1 := @argD.eq_1
@[simp] theorem argD_2 : type_of% @argD.eq_2 := @argD.eq_2
@[simp] theorem keyP_1 : type_of% @keyP.eq_1 := @keyP.eq_1
@[simp] theorem keyP_2 : type_of% @keyP.eq_2 := @keyP.eq_2
@[simp] theorem keyP_3 : type_of% @keyP.eq_3 := @keyP.eq_3
@[simp] theorem fz_1 : type_of% @fz.eq_1 := @fz.eq_1
@[simp] theorem fz_2 : type_of% @fz.eq_2 := @fz.eq_2
@[simp] theorem fz_3 : type_of% @fz.eq_3 := @fz.eq_3
@[simp] theorem fz_4 : type_of% @fz.eq_4 := @fz.eq_4
@[simp] theorem fz_5 : type_of% @fz.eq_5 := @fz.eq_5
@[simp] theorem fz_6 : type_of% @fz.eq_6 := @fz.eq_6
@[simp] theorem fz_7 : type_of% @fz.eq_7 := @fz.eq_7
@[simp] theorem fzs_1 : type_of% @fzs.eq_1 := @fzs.eq_1
@[simp] theorem fzs_2 : type_of% @fzs.eq_2 := @fzs.eq_2
@[simp] theorem fzd_1 : type_of% @fzd.eq_1 := @fzd.eq_1
@[simp] theorem fzd_2 : type_of% @fzd.eq_2 := @fzd.eq_2
@[simp] theorem fzq_1 : type_of% @fzq.eq_1 := @fzq.eq_1
@[simp] theorem zipO_1 : type_of% @zipO.eq_1 := @zipO.eq_1
@[simp] theorem setIn_1 : type_of% @setIn.eq_1 := @setIn.eq_1
@[simp] theorem setKn_1 : type_of% @setKn.eq_1 := @setKn.eq_1
@[simp] theorem appO_1 : type_of% @appO.eq_1 := @appO.eq_1
@[simp] theorem augA_1 : type_of% @augA.eq_1 := @augA.eq_1
@[simp] theorem augA_2 : type_of% @augA.eq_2 := @augA.eq_2
@[simp] theorem augA_3 : type_of% @augA.eq_3 := @augA.eq_3
@[simp] theorem augO_1 : type_of% @augO.eq_1 := @augO.eq_1
@[simp] theorem augO_2 : type_of% @augO.eq_2 := @augO.eq_2
@[simp] theorem augO_3 : type_of% @augO.eq_3 := @augO.eq_3
@[simp] theorem augO_4 : type_of% @augO.eq_4 := @augO.eq_4
@[simp] theorem augO_5 : type_of% @augO.eq_5 := @augO.eq_5
@[simp] theorem augO_6 : type_of% @augO.eq_6 := @augO.eq_6
@[simp] theorem augO_7 : type_of% @augO.eq_7 := @augO.eq_7
@[simp] theorem augO_8 : type_of% @augO.eq_8 := @augO.eq_8
@[simp] theorem augO_9 : type_of% @augO.eq_9 := @augO.eq_9
@[simp] theorem augO_10 : type_of% @augO.eq_10 := @augO.eq_10
@[simp] theorem setO_1 : type_of% @setO.eq_1 := @setO.eq_1
@[simp] theorem setO_2 : type_of% @setO.eq_2 := @setO.eq_2
@[simp] theorem mutO_1 : type_of% @mutO.eq_1 := @mutO.eq_1
@[simp] theorem mutO_2 : type_of% @mutO.eq_2 := @mutO.eq_2
@[simp] theorem mutO_3 : type_of% @mutO.eq_3 := @mutO.eq_3
@[simp] theorem mutO_4 : type_of% @mutO.eq_4 := @mutO.eq_4
end G

set_option maxRecDepth 100000
/-! plain helpers -/
namespace G
open PySem L2
def il (ns : List Int) : List P := ns.map .int
@[simp] theorem il_nil : il [] = [] := rfl
@[simp] theorem il_cons (n : Int) (ns : List Int) : il (n :: ns) = .int n :: il ns := rfl
@[simp] theorem il_app (ns ms : List Int) : il (ns ++ ms) = il ns ++ il ms := List.map_append ..
@[simp] theorem il_len (ns : List Int) : (il ns).length = ns.length := List.length_map ..
theorem atI_nat {α : Type} (xs : List α) (k : Nat) : atI xs (k : Int) = xs[k]? := by
  unfold atI ixN
  by_cases h : k < xs.length
  · rw [if_pos (by omega), if_pos (by omega)]
    rfl
  · rw [if_pos (by omega), if_neg (by omega)]
    rw [List.getElem?_eq_none (by omega)]
    rfl
theorem atI_ints (ns : List Int) (k : Nat) (h : k < ns.length) : atI (il ns) (k : Int) = some (.int ns[k]) := by
  rw [atI_nat]
  unfold il
  rw [List.getElem?_map, List.getElem?_eq_getElem h]
  rfl
/-- an item of a list, by an index in reach -/
theorem atI_all {α : Type} (xs : List α) (i : Int) (h0 : 0 ≤ i) (h1 : i < xs.length) : ∃ x ∈ xs, atI xs i = some x := by
  obtain ⟨k, rfl⟩ := Int.eq_ofNat_of_zero_le h0
  refine ⟨xs[k]'(by omega), by simp, ?_⟩
  rw [atI_nat, List.getElem?_eq_getElem (by omega)]
/-- a for that never stops early: the invariant Pv by the turns made -/
theorem for_inv {f : Env → P → Rs} (Pv : Nat → Env → Prop) : ∀ (ps : List P) (k : Nat) (env : Env), Pv k env → (∀ i p env, ps[i]? = some p → Pv (k + i) env → ∃ env', f env p = some (.nx, env') ∧ Pv (k + i + 1) env') → ∃ env', forGo f ps env = some (.nx, env') ∧ Pv (k + ps.length) env'
  | [], k, env, h, _ => ⟨env, rfl, h⟩
  | p :: ps, k, env, h, st => by
    obtain ⟨e1, h1, h2⟩ := st 0 p env rfl h
    obtain ⟨e2, h3, h4⟩ := for_inv Pv ps (k + 1) e1 h2 fun i q env hq hp => by
      have := st (i + 1) q env hq (by rw [show k + (i + 1) = k + 1 + i by omega]; exact hp)
      rw [show k + (i + 1) = k + 1 + i by omega] at this
      exact this
    refine ⟨e2, ?_, by rw [List.length_cons, show k + (ps.length + 1) = k + 1 + ps.length by omega]; exact h4⟩
    rw [forGo, h1]
    exact h3
/-- all of a list by their places -/
theorem mapO_all {α β : Type} {f : α → Option β} {Q : Nat → β → Prop} : ∀ (xs : List α) (k : Nat), (∀ i x, xs[i]? = some x → ∃ y, f x = some y ∧ Q (k + i) y) → ∃ ys, mapO f xs = some ys ∧ ys.length = xs.length ∧ ∀ i y, ys[i]? = some y → Q (k + i) y
  | [], k, _ => ⟨[], rfl, rfl, fun i y h => by simp at h⟩
  | x :: xs, k, h => by
    obtain ⟨y, h1, h2⟩ := h 0 x rfl
    obtain ⟨ys, h3, h4, h5⟩ := mapO_all (Q := Q) xs (k + 1) fun i z hz => by
      have := h (i + 1) z hz
      rw [show k + (i + 1) = k + 1 + i by omega] at this
      exact this
    refine ⟨y :: ys, by rw [mapO, h1, h3], by rw [List.length_cons, List.length_cons, h4], fun i z hz => ?_⟩
    cases i with
    | zero =>
      simp at hz
      subst hz
      exact h2
    | succ i =>
      have := h5 i z (by simpa using hz)
      rw [show k + 1 + i = k + (i + 1) by omega] at this
      exact this
theorem rangeP_get {lo n : Int} {i : Nat} {p : P} (h : (rangeP lo n)[i]? = some p) : p = .int (lo + i) ∧ i < n.toNat := by
  unfold rangeP at h
  rw [List.getElem?_map] at h
  cases z : (List.range n.toNat)[i]? with
  | none => rw [z] at h; cases h
  | some k =>
    rw [z] at h
    cases h
    obtain ⟨h1, h2⟩ := List.getElem?_eq_some_iff.mp z
    rw [List.getElem_range] at h2
    subst h2
    rw [List.length_range] at h1
    exact ⟨rfl, h1⟩
theorem rangeP_len (lo n : Int) : (rangeP lo n).length = n.toNat := by
  unfold rangeP
  rw [List.length_map, List.length_range]
theorem fzs_ints : ∀ ns : List Int, fzs (ns.map fun n => .pl (.int n)) = some (il ns)
  | [] => rfl
  | n :: ns => by
    rw [List.map_cons, fzs, fzs_ints ns]
    rfl
/-- a list of il, each below its size -/
def Fits (ns ss : List Int) : Prop := ns.length = ss.length ∧ ∀ (i : Nat) (n s : Int), ns[i]? = some n → ss[i]? = some s → 0 ≤ n ∧ n < s

theorem il_set (ns : List Int) (i : Nat) (v : Int) : il (ns.set i v) = (il ns).set i (.int v) := List.map_set ..
theorem Fits.set {ns ss : List Int} (h : Fits ns ss) {i : Nat} {v : Int} (hv : ∀ s, ss[i]? = some s → 0 ≤ v ∧ v < s) : Fits (ns.set i v) ss := by
  refine ⟨by rw [List.length_set, h.1], fun j n s hn hs => ?_⟩
  by_cases hj : i = j
  · subst hj
    have := (List.getElem?_eq_some_iff.mp hn).1
    rw [List.length_set] at this
    rw [List.getElem?_set_self this] at hn
    cases hn
    exact hv s hs
  · rw [List.getElem?_set_ne hj] at hn
    exact h.2 j n s hn hs
theorem Fits.at {ns ss : List Int} (h : Fits ns ss) {i : Nat} {s : Int} (hs : ss[i]? = some s) : ∃ v, ns[i]? = some v ∧ 0 ≤ v ∧ v < s := by
  have hi := (List.getElem?_eq_some_iff.mp hs).1
  have hn : ns[i]? = some (ns[i]'(by rw [h.1]; exact hi)) := List.getElem?_eq_getElem _
  exact ⟨_, hn, h.2 i _ s hn hs⟩
theorem atI_il (ns : List Int) (i : Nat) (v : Int) (h : ns[i]? = some v) : atI (il ns) (i : Int) = some (.int v) := by
  obtain ⟨h1, h2⟩ := List.getElem?_eq_some_iff.mp h
  rw [atI_ints ns i h1, h2]
theorem atI_pick (xs : List Int) (i : Int) (h0 : 0 ≤ i) (h1 : i < xs.length) : ∃ v ∈ xs, atI (il xs) i = some (.int v) := by
  obtain ⟨k, rfl⟩ := Int.eq_ofNat_of_zero_le h0
  refine ⟨xs[k]'(by omega), by simp, atI_ints xs k (by omega)⟩
theorem opts_int {R : Nat → Int → Prop} : ∀ (ys : List (Option O)) (k : Nat), (∀ i y, ys[i]? = some y → ∃ x, y = some (.pl (.int x)) ∧ R (k + i) x) → ∃ ns : List Int, ys = ns.map (fun n => some (.pl (.int n))) ∧ ∀ i n, ns[i]? = some n → R (k + i) n
  | [], k, _ => ⟨[], rfl, fun i n h => by simp at h⟩
  | y :: ys, k, h => by
    obtain ⟨x, rfl, hx⟩ := h 0 y rfl
    obtain ⟨ns, rfl, hn⟩ := opts_int (R := R) ys (k + 1) fun i z hz => by
      obtain ⟨w, e, hw⟩ := h (i + 1) z hz
      exact ⟨w, e, by rw [show k + 1 + i = k + (i + 1) by omega]; exact hw⟩
    refine ⟨x :: ns, rfl, fun i n hi => ?_⟩
    cases i with
    | zero =>
      simp at hi
      subst hi
      exact hx
    | succ i =>
      have := hn i n (by simpa using hi)
      rw [show k + (i + 1) = k + 1 + i by omega]
      exact this
theorem filt_int (ns : List Int) : (ns.map fun n => some (O.pl (.int n))).filterMap id = ns.map fun n => O.pl (.int n) := by
  induction ns with
  | nil => rfl
  | cons n ns ih => rw [List.map_cons, List.filterMap_cons, ih]; rfl
/-- a comprehension of ints -/
theorem lc_ints {f : P → Option (Option O)} (R : Nat → Int → Prop) (ps : List P) (hl : ps.length ≤ 1000000) (h : ∀ i p, ps[i]? = some p → ∃ x, f p = some (some (.pl (.int x))) ∧ R i x) :
    ∃ ns : List Int, lcO f (some ps) = some (.fl (il ns)) ∧ ns.length = ps.length ∧ ∀ i n, ns[i]? = some n → R i n := by
  obtain ⟨ys, h1, h2, h3⟩ := mapO_all (f := f) (Q := fun i y => ∃ x, y = some (.pl (.int x)) ∧ R i x) ps 0 (fun i p hp => by
    obtain ⟨x, e, hx⟩ := h i p hp
    exact ⟨_, e, x, rfl, by rw [show 0 + i = i by omega]; exact hx⟩)
  obtain ⟨ns, rfl, hn⟩ := opts_int (R := R) ys 0 (fun i y hy => by
    have := h3 i y hy
    rw [show 0 + i = i by omega] at *
    exact this)
  rw [List.length_map] at h2
  refine ⟨ns, ?_, h2, fun i n hi => by have := hn i n hi; rw [show 0 + i = i by omega] at this; exact this⟩
  show (if ps.length ≤ 1000000 then lcM (mapO f ps) else none) = _
  rw [if_pos hl, h1]
  show mkL ((ns.map fun n => some (O.pl (.int n))).filterMap id) = _
  rw [filt_int]
  unfold mkL
  rw [List.length_map, h2, if_pos hl, fzs_ints]
  rfl
theorem execs_go (c : Ct) (s : S) (ss : Ss) (env : Env) : execs c (.cons s ss) (some (.nx, env)) = execs c ss (exec c env s) := by
  rw [execs, stepS]
theorem ife_J {c : Ct} {env : Env} {t : Ex} {a b : Ss} {d : Bool} {J : Env → Prop} (h : evR c env t = some (.pl (.bool d))) (h1 : d = true → ∃ e, execs c a (some (.nx, env)) = some (.nx, e) ∧ J e) (h2 : d = false → ∃ e, execs c b (some (.nx, env)) = some (.nx, e) ∧ J e) :
    ∃ e, exec c env (.ife t a b) = some (.nx, e) ∧ J e := by
  rw [exec, h]
  cases d with
  | true => exact h1 rfl
  | false => exact h2 rfl
theorem runD_go {c : Ct} {d : Df} {os : List O} (h : os.length = d.ps) : runD c d os = argD os (outD (execs c d.body (some (.nx, startE d.n os)))) := if_pos h
end G

set_option maxRecDepth 100000
namespace Kx
open PySem L2 G
def top (i : Nat) : Stmt := PySem.Challenge.pw_gatetown_k13_tasks_kept_in_their_stretch.main.body.getD i (.Pass ⟨0, 0, 0, 0⟩)
abbrev s0 : Stmt := top 23
def N0 : List Str := ["word"]
def P0 : List Str := ["word"]
/-- op_of -/
def b_op_of_0 : S := (.ret (.bin .FloorDiv (.var 0) (.glob 1)))
def b_op_of : Ss := (.cons b_op_of_0 .nil)
def d_op_of : Df := { ps := 1, n := 1, body := b_op_of }
abbrev s1 : Stmt := top 24
def N1 : List Str := ["word"]
def P1 : List Str := ["word"]
/-- number_of -/
def b_number_of_0 : S := (.ret (.bin .Mod (.var 0) (.glob 1)))
def b_number_of : Ss := (.cons b_number_of_0 .nil)
def d_number_of : Df := { ps := 1, n := 1, body := b_number_of }
abbrev s2 : Stmt := top 25
def N2 : List Str := ["state", "pairs", "made", "at", "number"]
def P2 : List Str := ["state", "pairs"]
/-- changed -/
def b_changed_0 : S := (.asg 2 (.bi .list (.cons (.var 0) .nil)))
def b_changed_1b_0 : S := (.setI 2 (.var 3) (.var 4))
def b_changed_1b : Ss := (.cons b_changed_1b_0 .nil)
def b_changed_1 : S := (.forr (.tp [3, 4]) (.seq (.var 1)) b_changed_1b)
def b_changed_2 : S := (.ret (.bi .tuple (.cons (.var 2) .nil)))
def b_changed : Ss := (.cons b_changed_0 (.cons b_changed_1 (.cons b_changed_2 .nil)))
def d_changed : Df := { ps := 2, n := 5, body := b_changed }
abbrev s3 : Stmt := top 26
def N3 : List Str := ["state"]
def P3 : List Str := ["state"]
/-- wanted -/
def b_wanted_0 : S := (.ife (.cmp .Eq (.idx (.var 0) (.glob 7)) (.lit (.int 0))) (.cons (.ret (.idx (.var 0) (.glob 5))) .nil) .nil)
def b_wanted_1 : S := (.ife (.cmp .In (.call 0 (.cons (.idx (.var 0) (.glob 6)) .nil)) (.tup (.cons (.lit (.int 9)) (.cons (.lit (.int 10)) .nil)))) (.cons (.ret (.bin .Mod (.bin .Add (.idx (.var 0) (.glob 4)) (.call 1 (.cons (.idx (.var 0) (.glob 6)) .nil))) (.glob 0))) .nil) .nil)
def b_wanted_2 : S := (.ret (.call 1 (.cons (.idx (.var 0) (.glob 6)) .nil)))
def b_wanted : Ss := (.cons b_wanted_0 (.cons b_wanted_1 (.cons b_wanted_2 .nil)))
def d_wanted : Df := { ps := 1, n := 1, body := b_wanted }
abbrev s4 : Stmt := top 27
def N4 : List Str := ["state"]
def P4 : List Str := ["state"]
/-- asked -/
def b_asked_0 : S := (.ife (.cmp .Eq (.idx (.var 0) (.glob 8)) (.lit (.int 0))) (.cons (.ret (.bin .Mod (.call 3 (.cons (.var 0) .nil)) (.glob 1))) .nil) .nil)
def b_asked_1 : S := (.ret (.bin .Mod (.bin .Add (.idx (.var 0) (.glob 9)) (.call 3 (.cons (.var 0) .nil))) (.glob 1)))
def b_asked : Ss := (.cons b_asked_0 (.cons b_asked_1 .nil))
def d_asked : Df := { ps := 1, n := 1, body := b_asked }
abbrev s5 : Stmt := top 28
def N5 : List Str := ["state"]
def P5 : List Str := ["state"]
/-- is_barred -/
def b_is_barred_0 : S := (.ret (.and (.cmp .Eq (.idx (.var 0) (.glob 8)) (.lit (.int 1))) (.cmp .GtE (.call 3 (.cons (.var 0) .nil)) (.idx (.var 0) (.glob 10)))))
def b_is_barred : Ss := (.cons b_is_barred_0 .nil)
def d_is_barred : Df := { ps := 1, n := 1, body := b_is_barred }
abbrev s6 : Stmt := top 29
def N6 : List Str := ["state", "cause", "place", "saved"]
def P6 : List Str := ["state", "cause", "place"]
/-- trap -/
def b_trap_0 : S := (.asg 3 (.lst (.cons (.tup (.cons (.glob 12) (.cons (.idx (.var 0) (.glob 3)) .nil))) (.cons (.tup (.cons (.glob 13) (.cons (.idx (.var 0) (.glob 4)) .nil))) (.cons (.tup (.cons (.glob 14) (.cons (.bin .Mod (.var 2) (.glob 1)) .nil))) (.cons (.tup (.cons (.glob 15) (.cons (.var 1) .nil))) .nil))))))
def b_trap_1 : S := (.ret (.call 2 (.cons (.var 0) (.cons (.bin .Add (.var 3) (.lst (.cons (.tup (.cons (.glob 8) (.cons (.lit (.int 0)) .nil))) (.cons (.tup (.cons (.glob 5) (.cons (.lit (.int 0)) .nil))) (.cons (.tup (.cons (.glob 7) (.cons (.lit (.int 0)) .nil))) .nil))))) .nil))))
def b_trap : Ss := (.cons b_trap_0 (.cons b_trap_1 .nil))
def d_trap : Df := { ps := 3, n := 4, body := b_trap }
abbrev s7 : Stmt := top 30
def N7 : List Str := ["state", "which"]
def P7 : List Str := ["state"]
/-- own_row -/
def b_own_row_0 : S := (.asg 1 (.bin .Mod (.call 1 (.cons (.idx (.var 0) (.glob 6)) .nil)) (.lit (.int 16))))
def b_own_row_1 : S := (.ife (.cmp .Lt (.var 1) (.lit (.int 5))) (.cons (.ret (.call 2 (.cons (.var 0) (.cons (.lst (.cons (.tup (.cons (.glob 3) (.cons (.idx (.var 0) (.idx (.tup (.cons (.glob 12) (.cons (.glob 13) (.cons (.glob 14) (.cons (.glob 15) (.cons (.glob 16) .nil)))))) (.var 1))) .nil))) .nil)) .nil)))) .nil) .nil)
def b_own_row_2 : S := (.ife (.cmp .Eq (.var 1) (.lit (.int 5))) (.cons (.ret (.call 2 (.cons (.var 0) (.cons (.lst (.cons (.tup (.cons (.glob 17) (.cons (.lit (.int 1)) .nil))) .nil)) .nil)))) .nil) .nil)
def b_own_row_3 : S := (.ife (.or (.cmp .Eq (.var 1) (.lit (.int 8))) (.cmp .Eq (.var 1) (.lit (.int 9)))) (.cons (.ret (.call 2 (.cons (.var 0) (.cons (.lst (.cons (.tup (.cons (.idx (.tup (.cons (.glob 12) (.cons (.glob 13) .nil))) (.bin .Sub (.var 1) (.lit (.int 8)))) (.cons (.idx (.var 0) (.glob 3)) .nil))) .nil)) .nil)))) .nil) .nil)
def b_own_row_4 : S := (.ife (.chain .LtE .Lt (.lit (.int 10)) (.var 1) (.lit (.int 14))) (.cons (.ret (.call 2 (.cons (.var 0) (.cons (.lst (.cons (.tup (.cons (.idx (.tup (.cons (.glob 14) (.cons (.glob 9) (.cons (.glob 10) (.cons (.glob 11) .nil))))) (.bin .Sub (.var 1) (.lit (.int 10)))) (.cons (.bin .Mod (.idx (.var 0) (.glob 3)) (.glob 1)) .nil))) .nil)) .nil)))) .nil) .nil)
def b_own_row_5 : S := (.ret (.var 0))
def b_own_row : Ss := (.cons b_own_row_0 (.cons b_own_row_1 (.cons b_own_row_2 (.cons b_own_row_3 (.cons b_own_row_4 (.cons b_own_row_5 .nil))))))
def d_own_row : Df := { ps := 1, n := 2, body := b_own_row }
abbrev s8 : Stmt := top 31
def N8 : List Str := ["state", "which"]
def P8 : List Str := ["state"]
/-- move_row -/
def b_move_row_0 : S := (.asg 1 (.bin .Mod (.call 1 (.cons (.idx (.var 0) (.glob 6)) .nil)) (.lit (.int 4))))
def b_move_row_1 : S := (.ife (.cmp .Eq (.var 1) (.lit (.int 0))) (.cons (.ret (.call 2 (.cons (.var 0) (.cons (.lst (.cons (.tup (.cons (.glob 4) (.cons (.idx (.var 0) (.glob 3)) .nil))) .nil)) .nil)))) .nil) .nil)
def b_move_row_2 : S := (.ife (.cmp .Eq (.var 1) (.lit (.int 1))) (.cons (.ret (.call 2 (.cons (.var 0) (.cons (.lst (.cons (.tup (.cons (.glob 3) (.cons (.idx (.var 0) (.glob 4)) .nil))) .nil)) .nil)))) .nil) .nil)
def b_move_row_3 : S := (.ife (.cmp .Eq (.var 1) (.lit (.int 2))) (.cons (.ret (.call 2 (.cons (.var 0) (.cons (.lst (.cons (.tup (.cons (.glob 3) (.cons (.bin .FloorDiv (.idx (.var 0) (.glob 3)) (.lit (.int 2))) .nil))) .nil)) .nil)))) .nil) .nil)
def b_move_row_4 : S := (.ret (.call 2 (.cons (.var 0) (.cons (.lst (.cons (.tup (.cons (.glob 5) (.cons (.bin .Mod (.idx (.var 0) (.glob 3)) (.glob 1)) .nil))) .nil)) .nil))))
def b_move_row : Ss := (.cons b_move_row_0 (.cons b_move_row_1 (.cons b_move_row_2 (.cons b_move_row_3 (.cons b_move_row_4 .nil)))))
def d_move_row : Df := { ps := 1, n := 2, body := b_move_row }
abbrev s9 : Stmt := top 32
def N9 : List Str := ["state", "after", "op", "number"]
def P9 : List Str := ["state", "after", "op"]
/-- leap_row -/
def b_leap_row_0 : S := (.asg 3 (.call 1 (.cons (.idx (.var 0) (.glob 6)) .nil)))
def b_leap_row_1 : S := (.ife (.cmp .Eq (.var 2) (.lit (.int 12))) (.cons (.ret (.call 2 (.cons (.var 1) (.cons (.lst (.cons (.tup (.cons (.glob 3) (.cons (.idx (.var 1) (.glob 5)) .nil))) (.cons (.tup (.cons (.glob 5) (.cons (.var 3) .nil))) .nil))) .nil)))) .nil) .nil)
def b_leap_row_2 : S := (.ife (.or (.cmp .Eq (.var 2) (.lit (.int 6))) (.or (.and (.cmp .Eq (.var 2) (.lit (.int 7))) (.cmp .Eq (.idx (.var 0) (.glob 3)) (.lit (.int 0)))) (.and (.cmp .Eq (.var 2) (.lit (.int 8))) (.cmp .GtE (.idx (.var 0) (.glob 3)) (.glob 2))))) (.cons (.ret (.call 2 (.cons (.var 1) (.cons (.lst (.cons (.tup (.cons (.glob 5) (.cons (.var 3) .nil))) .nil)) .nil)))) .nil) .nil)
def b_leap_row_3 : S := (.ret (.var 1))
def b_leap_row : Ss := (.cons b_leap_row_0 (.cons b_leap_row_1 (.cons b_leap_row_2 (.cons b_leap_row_3 .nil))))
def d_leap_row : Df := { ps := 3, n := 4, body := b_leap_row }
abbrev s10 : Stmt := top 33
def N10 : List Str := ["after", "op", "word"]
def P10 : List Str := ["after", "op", "word"]
/-- word_row -/
def b_word_row_0 : S := (.ife (.cmp .Eq (.var 1) (.lit (.int 0))) (.cons (.ret (.call 2 (.cons (.var 0) (.cons (.lst (.cons (.tup (.cons (.glob 3) (.cons (.call 1 (.cons (.idx (.var 0) (.glob 6)) .nil)) .nil))) .nil)) .nil)))) .nil) .nil)
def b_word_row_1 : S := (.ife (.or (.cmp .Eq (.var 1) (.lit (.int 1))) (.cmp .Eq (.var 1) (.lit (.int 9)))) (.cons (.ret (.call 2 (.cons (.var 0) (.cons (.lst (.cons (.tup (.cons (.glob 3) (.cons (.var 2) .nil))) .nil)) .nil)))) .nil) .nil)
def b_word_row_2 : S := (.ife (.cmp .Eq (.var 1) (.lit (.int 3))) (.cons (.ret (.call 2 (.cons (.var 0) (.cons (.lst (.cons (.tup (.cons (.glob 3) (.cons (.bin .Mod (.bin .Add (.idx (.var 0) (.glob 3)) (.var 2)) (.glob 0)) .nil))) .nil)) .nil)))) .nil) .nil)
def b_word_row_3 : S := (.ife (.cmp .Eq (.var 1) (.lit (.int 4))) (.cons (.ret (.call 2 (.cons (.var 0) (.cons (.lst (.cons (.tup (.cons (.glob 3) (.cons (.bin .Mod (.bin .Sub (.idx (.var 0) (.glob 3)) (.var 2)) (.glob 0)) .nil))) .nil)) .nil)))) .nil) .nil)
def b_word_row_4 : S := (.ife (.cmp .Eq (.var 1) (.lit (.int 5))) (.cons (.ret (.call 2 (.cons (.var 0) (.cons (.lst (.cons (.tup (.cons (.glob 3) (.cons (.bin .BitAnd (.idx (.var 0) (.glob 3)) (.var 2)) .nil))) .nil)) .nil)))) .nil) .nil)
def b_word_row_5 : S := (.ret (.var 0))
def b_word_row : Ss := (.cons b_word_row_0 (.cons b_word_row_1 (.cons b_word_row_2 (.cons b_word_row_3 (.cons b_word_row_4 (.cons b_word_row_5 .nil))))))
def d_word_row : Df := { ps := 3, n := 3, body := b_word_row }
abbrev s11 : Stmt := top 34
def N11 : List Str := ["state", "word", "op", "after"]
def P11 : List Str := ["state", "word"]
/-- row_done -/
def b_row_done_0 : S := (.asg 2 (.call 0 (.cons (.idx (.var 0) (.glob 6)) .nil)))
def b_row_done_1 : S := (.asg 3 (.call 2 (.cons (.var 0) (.cons (.lst (.cons (.tup (.cons (.glob 7) (.cons (.lit (.int 0)) .nil))) (.cons (.tup (.cons (.glob 5) (.cons (.bin .Mod (.bin .Add (.idx (.var 0) (.glob 5)) (.lit (.int 1))) (.glob 1)) .nil))) .nil))) .nil))))
def b_row_done_2 : S := (.ife (.cmp .In (.var 2) (.tup (.cons (.lit (.int 6)) (.cons (.lit (.int 7)) (.cons (.lit (.int 8)) (.cons (.lit (.int 12)) .nil)))))) (.cons (.ret (.call 9 (.cons (.var 0) (.cons (.var 3) (.cons (.var 2) .nil))))) .nil) .nil)
def b_row_done_3 : S := (.ife (.cmp .Eq (.var 2) (.lit (.int 11))) (.cons (.ret (.call 8 (.cons (.var 3) .nil))) .nil) .nil)
def b_row_done_4 : S := (.ife (.cmp .Eq (.var 2) (.lit (.int 14))) (.cons (.ret (.call 7 (.cons (.var 3) .nil))) .nil) .nil)
def b_row_done_5 : S := (.ife (.cmp .Eq (.var 2) (.lit (.int 15))) (.cons (.ret (.call 2 (.cons (.var 3) (.cons (.lst (.cons (.tup (.cons (.glob 3) (.cons (.idx (.var 0) (.glob 12)) .nil))) (.cons (.tup (.cons (.glob 4) (.cons (.idx (.var 0) (.glob 13)) .nil))) (.cons (.tup (.cons (.glob 5) (.cons (.idx (.var 0) (.glob 14)) .nil))) (.cons (.tup (.cons (.glob 8) (.cons (.lit (.int 1)) .nil))) .nil))))) .nil)))) .nil) .nil)
def b_row_done_6 : S := (.ret (.call 10 (.cons (.var 3) (.cons (.var 2) (.cons (.var 1) .nil)))))
def b_row_done : Ss := (.cons b_row_done_0 (.cons b_row_done_1 (.cons b_row_done_2 (.cons b_row_done_3 (.cons b_row_done_4 (.cons b_row_done_5 (.cons b_row_done_6 .nil)))))))
def d_row_done : Df := { ps := 2, n := 4, body := b_row_done }
abbrev s12 : Stmt := top 35
def N12 : List Str := ["state", "after", "counted"]
def P12 : List Str := ["state", "after"]
/-- rung -/
def b_rung_0 : S := (.ife (.or (.cmp .Eq (.idx (.var 0) (.glob 8)) (.lit (.int 0))) (.cmp .Eq (.idx (.var 0) (.glob 11)) (.lit (.int 0)))) (.cons (.ret (.var 1)) .nil) .nil)
def b_rung_1 : S := (.asg 2 (.call 2 (.cons (.var 1) (.cons (.lst (.cons (.tup (.cons (.glob 11) (.cons (.bin .Sub (.idx (.var 0) (.glob 11)) (.lit (.int 1))) .nil))) .nil)) .nil))))
def b_rung_2 : S := (.ife (.cmp .Eq (.idx (.var 2) (.glob 11)) (.lit (.int 0))) (.cons (.ret (.call 6 (.cons (.var 2) (.cons (.glob 21) (.cons (.idx (.var 2) (.glob 5)) .nil))))) .nil) .nil)
def b_rung_3 : S := (.ret (.var 2))
def b_rung : Ss := (.cons b_rung_0 (.cons b_rung_1 (.cons b_rung_2 (.cons b_rung_3 .nil))))
def d_rung : Df := { ps := 2, n := 3, body := b_rung }
abbrev s13 : Stmt := top 36
def N13 : List Str := ["state", "op"]
def P13 : List Str := ["state"]
/-- trap_of -/
def b_trap_of_0 : S := (.asg 1 (.call 0 (.cons (.idx (.var 0) (.glob 6)) .nil)))
def b_trap_of_1 : S := (.ife (.and (.cmp .In (.var 1) (.tup (.cons (.lit (.int 1)) (.cons (.lit (.int 2)) (.cons (.lit (.int 3)) (.cons (.lit (.int 4)) (.cons (.lit (.int 5)) (.cons (.lit (.int 9)) (.cons (.lit (.int 10)) .nil))))))))) (.call 5 (.cons (.var 0) .nil))) (.cons (.ret (.glob 18)) .nil) .nil)
def b_trap_of_2 : S := (.ife (.and (.cmp .GtE (.var 1) (.lit (.int 14))) (.cmp .Eq (.idx (.var 0) (.glob 8)) (.lit (.int 1)))) (.cons (.ret (.glob 19)) .nil) .nil)
def b_trap_of_3 : S := (.ife (.cmp .Eq (.var 1) (.lit (.int 13))) (.cons (.ret (.glob 20)) .nil) .nil)
def b_trap_of_4 : S := (.ret (.lit (.int 0)))
def b_trap_of : Ss := (.cons b_trap_of_0 (.cons b_trap_of_1 (.cons b_trap_of_2 (.cons b_trap_of_3 (.cons b_trap_of_4 .nil)))))
def d_trap_of : Df := { ps := 1, n := 2, body := b_trap_of }
abbrev s14 : Stmt := top 37
def N14 : List Str := ["state", "cause"]
def P14 : List Str := ["state", "cause"]
/-- trapped -/
def b_trapped_0 : S := (.ife (.cmp .Eq (.var 1) (.glob 20)) (.cons (.ret (.call 6 (.cons (.call 2 (.cons (.var 0) (.cons (.lst (.cons (.tup (.cons (.glob 16) (.cons (.call 1 (.cons (.idx (.var 0) (.glob 6)) .nil)) .nil))) .nil)) .nil))) (.cons (.var 1) (.cons (.bin .Add (.idx (.var 0) (.glob 5)) (.lit (.int 1))) .nil))))) .nil) .nil)
def b_trapped_1 : S := (.ret (.call 6 (.cons (.var 0) (.cons (.var 1) (.cons (.idx (.var 0) (.glob 5)) .nil)))))
def b_trapped : Ss := (.cons b_trapped_0 (.cons b_trapped_1 .nil))
def d_trapped : Df := { ps := 2, n := 2, body := b_trapped }
abbrev s15 : Stmt := top 38
def N15 : List Str := ["state", "word"]
def P15 : List Str := ["state", "word"]
/-- fetched -/
def b_fetched_0 : S := (.ife (.call 5 (.cons (.var 0) .nil)) (.cons (.ret (.call 6 (.cons (.var 0) (.cons (.glob 18) (.cons (.idx (.var 0) (.glob 5)) .nil))))) .nil) .nil)
def b_fetched_1 : S := (.ret (.call 2 (.cons (.var 0) (.cons (.lst (.cons (.tup (.cons (.glob 6) (.cons (.var 1) .nil))) (.cons (.tup (.cons (.glob 7) (.cons (.lit (.int 1)) .nil))) .nil))) .nil))))
def b_fetched : Ss := (.cons b_fetched_0 (.cons b_fetched_1 .nil))
def d_fetched : Df := { ps := 2, n := 2, body := b_fetched }
abbrev s16 : Stmt := top 39
def N16 : List Str := ["state", "word", "cause", "op", "write", "tell"]
def P16 : List Str := ["state", "word"]
/-- beat_of -/
def b_beat_of_0 : S := (.ife (.cmp .Eq (.idx (.var 0) (.glob 17)) (.lit (.int 1))) (.cons (.ret (.tup (.cons (.var 0) (.cons (.lit .none) (.cons (.lit .none) .nil))))) .nil) .nil)
def b_beat_of_1 : S := (.ife (.cmp .Eq (.idx (.var 0) (.glob 7)) (.lit (.int 0))) (.cons (.ret (.tup (.cons (.call 15 (.cons (.var 0) (.cons (.var 1) .nil))) (.cons (.lit .none) (.cons (.lit .none) .nil))))) .nil) .nil)
def b_beat_of_2 : S := (.asg 2 (.call 13 (.cons (.var 0) .nil)))
def b_beat_of_3 : S := (.ife (.cmp .Gt (.var 2) (.lit (.int 0))) (.cons (.ret (.tup (.cons (.call 14 (.cons (.var 0) (.cons (.var 2) .nil))) (.cons (.lit .none) (.cons (.lit .none) .nil))))) .nil) .nil)
def b_beat_of_4 : S := (.asg 3 (.call 0 (.cons (.idx (.var 0) (.glob 6)) .nil)))
def b_beat_of_5 : S := (.asg 4 (.lit .none))
def b_beat_of_6 : S := (.asg 5 (.lit .none))
def b_beat_of_7 : S := (.ife (.or (.cmp .Eq (.var 3) (.lit (.int 2))) (.cmp .Eq (.var 3) (.lit (.int 10)))) (.cons (.asg 4 (.idx (.var 0) (.glob 3))) .nil) .nil)
def b_beat_of_8 : S := (.ife (.and (.cmp .Eq (.var 3) (.lit (.int 14))) (.cmp .Eq (.bin .Mod (.call 1 (.cons (.idx (.var 0) (.glob 6)) .nil)) (.lit (.int 16))) (.lit (.int 6)))) (.cons (.asg 5 (.idx (.var 0) (.glob 3))) .nil) .nil)
def b_beat_of_9 : S := (.ret (.tup (.cons (.call 12 (.cons (.var 0) (.cons (.call 11 (.cons (.var 0) (.cons (.var 1) .nil))) .nil))) (.cons (.var 4) (.cons (.var 5) .nil)))))
def b_beat_of : Ss := (.cons b_beat_of_0 (.cons b_beat_of_1 (.cons b_beat_of_2 (.cons b_beat_of_3 (.cons b_beat_of_4 (.cons b_beat_of_5 (.cons b_beat_of_6 (.cons b_beat_of_7 (.cons b_beat_of_8 (.cons b_beat_of_9 .nil))))))))))
def d_beat_of : Df := { ps := 2, n := 6, body := b_beat_of }
abbrev s17 : Stmt := top 41
def N17 : List Str := ["_law_script", "_law_k"]
def P17 : List Str := ["_law_script", "_law_k"]
/-- _law_cell_at -/
def b__law_cell_at_0 : S := (.ife (.cmp .Lt (.var 1) (.bi .len (.cons (.var 0) .nil))) (.cons (.ret (.idx (.var 0) (.var 1))) .nil) .nil)
def b__law_cell_at_1 : S := (.ret (.lit (.int 0)))
def b__law_cell_at : Ss := (.cons b__law_cell_at_0 (.cons b__law_cell_at_1 .nil))
def d__law_cell_at : Df := { ps := 2, n := 2, body := b__law_cell_at }
abbrev s18 : Stmt := top 42
def N18 : List Str := ["_law_number", "_law_k", "_law_once", "_law_twice"]
def P18 : List Str := ["_law_number", "_law_k"]
/-- _law_mixed -/
def b__law_mixed_0 : S := (.asg 2 (.bin .Mod (.bin .Mult (.bin .Add (.bin .Add (.bin .Mod (.var 0) (.lit (.int 1000000007))) (.bin .Mult (.lit (.int 7)) (.var 1))) (.lit (.int 1))) (.lit (.int 48271))) (.lit (.int 2147483647))))
def b__law_mixed_1 : S := (.asg 3 (.bin .Mod (.bin .Mult (.var 2) (.bin .Add (.bin .Add (.bin .Mod (.var 2) (.lit (.int 1009))) (.var 1)) (.lit (.int 3)))) (.lit (.int 998244353))))
def b__law_mixed_2 : S := (.ret (.bin .Mod (.bin .Add (.bin .Mult (.var 3) (.lit (.int 69621))) (.var 2)) (.lit (.int 2147483629))))
def b__law_mixed : Ss := (.cons b__law_mixed_0 (.cons b__law_mixed_1 (.cons b__law_mixed_2 .nil)))
def d__law_mixed : Df := { ps := 2, n := 4, body := b__law_mixed }
abbrev s19 : Stmt := top 43
def N19 : List Str := ["_law_cell", "_law_sizes_here", "_law_found", "_law_k"]
def P19 : List Str := ["_law_cell", "_law_sizes_here"]
/-- _law_figures -/
def b__law_figures_0 : S := (.asg 2 (.lst .nil))
def b__law_figures_1b_0 : S := (.mut .append 2 (.cons (.bin .Mod (.var 0) (.idx (.var 1) (.var 3))) .nil))
def b__law_figures_1b_1 : S := (.asg 0 (.bin .FloorDiv (.var 0) (.idx (.var 1) (.var 3))))
def b__law_figures_1b : Ss := (.cons b__law_figures_1b_0 (.cons b__law_figures_1b_1 .nil))
def b__law_figures_1 : S := (.forr (.nm 3) (.range1 (.bi .len (.cons (.var 1) .nil))) b__law_figures_1b)
def b__law_figures_2 : S := (.ret (.mov 2))
def b__law_figures : Ss := (.cons b__law_figures_0 (.cons b__law_figures_1 (.cons b__law_figures_2 .nil)))
def d__law_figures : Df := { ps := 2, n := 4, body := b__law_figures }
abbrev s20 : Stmt := top 44
def N20 : List Str := ["_law_cell", "_law_sizes_here", "_law_k"]
def P20 : List Str := ["_law_cell", "_law_sizes_here"]
/-- _law_drawn -/
def b__law_drawn_0 : S := (.ife (.cmp .GtE (.var 0) (.bin .Pow (.lit (.int 10)) (.lit (.int 18)))) (.cons (.ret (.call 19 (.cons (.var 0) (.cons (.var 1) .nil)))) .nil) .nil)
def b__law_drawn_1 : S := (.ret (.lc [2] (.nm 2) (.range1 (.bi .len (.cons (.var 1) .nil))) .none (.bin .Mod (.call 18 (.cons (.var 0) (.cons (.bin .Add (.lit (.int 3)) (.var 2)) .nil))) (.idx (.var 1) (.var 2)))))
def b__law_drawn : Ss := (.cons b__law_drawn_0 (.cons b__law_drawn_1 .nil))
def d__law_drawn : Df := { ps := 2, n := 3, body := b__law_drawn }
abbrev s21 : Stmt := top 45
def N21 : List Str := []
def P21 : List Str := []
/-- _law_sizes -/
def b__law_sizes_0 : S := (.ret (.lst (.cons (.lit (.int 65536)) (.cons (.lit (.int 65536)) (.cons (.lit (.int 4096)) (.cons (.lit (.int 65536)) (.cons (.lit (.int 2)) (.cons (.lit (.int 2)) (.cons (.lit (.int 4096)) (.cons (.lit (.int 4096)) (.cons (.lit (.int 4096)) (.cons (.lit (.int 65536)) (.cons (.lit (.int 65536)) (.cons (.lit (.int 4096)) (.cons (.lit (.int 8)) (.cons (.lit (.int 4096)) (.cons (.lit (.int 2)) .nil)))))))))))))))))
def b__law_sizes : Ss := (.cons b__law_sizes_0 .nil)
def d__law_sizes : Df := { ps := 0, n := 0, body := b__law_sizes }
abbrev s22 : Stmt := top 46
def N22 : List Str := ["_law_cell", "_law_number", "_law_state", "_law_reach", "_law_far"]
def P22 : List Str := ["_law_cell", "_law_number"]
/-- _law_state_by -/
def b__law_state_by_0 : S := (.asg 2 (.call 20 (.cons (.var 0) (.cons (.call 21 .nil) .nil))))
def b__law_state_by_1 : S := (.ife (.cmp .Gt (.bin .Mod (.var 1) (.lit (.int 4))) (.lit (.int 0))) (.cons (.setI 2 (.lit (.int 14)) (.lit (.int 0))) .nil) .nil)
def b__law_state_by_2 : S := (.ife (.cmp .Eq (.bin .Mod (.bin .FloorDiv (.var 1) (.lit (.int 4))) (.lit (.int 3))) (.lit (.int 0))) (.cons (.setI 2 (.lit (.int 3)) (.bin .Add (.bin .Mult (.bin .Mod (.bin .FloorDiv (.var 1) (.lit (.int 12))) (.lit (.int 16))) (.lit (.int 4096))) (.idx (.lst (.cons (.bin .Mod (.idx (.var 2) (.lit (.int 3))) (.lit (.int 4096))) (.cons (.bin .Mod (.idx (.var 2) (.lit (.int 3))) (.lit (.int 16))) (.cons (.bin .Mod (.idx (.var 2) (.lit (.int 7))) (.lit (.int 4096))) .nil)))) (.bin .Mod (.bin .FloorDiv (.var 1) (.lit (.int 192))) (.lit (.int 3)))))) .nil) .nil)
def b__law_state_by_3 : S := (.ife (.cmp .Eq (.bin .Mod (.bin .FloorDiv (.var 1) (.lit (.int 576))) (.lit (.int 4))) (.lit (.int 0))) (.cons (.setI 2 (.lit (.int 0)) (.idx (.lst (.cons (.lit (.int 0)) (.cons (.lit (.int 1)) (.cons (.lit (.int 32767)) (.cons (.lit (.int 32768)) (.cons (.lit (.int 65535)) (.cons (.idx (.var 2) (.lit (.int 7))) .nil))))))) (.bin .Mod (.bin .FloorDiv (.var 1) (.lit (.int 2304))) (.lit (.int 6))))) .nil) .nil)
def b__law_state_by_4 : S := (.ife (.cmp .Eq (.bin .Mod (.bin .FloorDiv (.var 1) (.lit (.int 13824))) (.lit (.int 4))) (.lit (.int 0))) (.cons (.setI 2 (.lit (.int 8)) (.idx (.lst (.cons (.lit (.int 0)) (.cons (.lit (.int 1)) (.cons (.lit (.int 2)) (.cons (.lit (.int 4095)) .nil))))) (.bin .Mod (.bin .FloorDiv (.var 1) (.lit (.int 55296))) (.lit (.int 4))))) .nil) .nil)
def b__law_state_by_5 : S := (.ife (.cmp .Eq (.bin .Mod (.bin .FloorDiv (.var 1) (.lit (.int 442368))) (.lit (.int 4))) (.lit (.int 0))) (.cons (.setI 2 (.lit (.int 2)) (.idx (.lst (.cons (.lit (.int 0)) (.cons (.lit (.int 4094)) (.cons (.lit (.int 4095)) (.cons (.lit (.int 4095)) .nil))))) (.bin .Mod (.bin .FloorDiv (.var 1) (.lit (.int 1769472))) (.lit (.int 4))))) .nil) .nil)
def b__law_state_by_6 : S := (.ife (.cmp .Eq (.bin .Mod (.bin .FloorDiv (.var 1) (.lit (.int 221184))) (.lit (.int 4))) (.lit (.int 0))) (.cons (.setI 2 (.lit (.int 7)) (.idx (.lst (.cons (.lit (.int 0)) (.cons (.lit (.int 4095)) (.cons (.idx (.var 2) (.lit (.int 2))) (.cons (.bin .Mod (.bin .Add (.idx (.var 2) (.lit (.int 2))) (.lit (.int 1))) (.lit (.int 4096))) .nil))))) (.bin .Mod (.bin .FloorDiv (.var 1) (.lit (.int 884736))) (.lit (.int 4))))) .nil) .nil)
def b__law_state_by_7 : S := (.ife (.cmp .Eq (.bin .Mod (.bin .FloorDiv (.var 1) (.lit (.int 442368))) (.lit (.int 4))) (.lit (.int 1))) (.cons (.asg 3 (.bin .Mod (.idx (.var 2) (.lit (.int 3))) (.lit (.int 4096)))) (.cons (.asg 4 (.lst (.cons (.lit (.int 65535)) (.cons (.bin .Sub (.idx (.var 2) (.lit (.int 7))) (.var 3)) (.cons (.bin .Sub (.lit (.int 65536)) (.var 3)) (.cons (.bin .Sub (.bin .Sub (.idx (.var 2) (.lit (.int 7))) (.lit (.int 1))) (.var 3)) .nil)))))) (.cons (.setI 2 (.lit (.int 1)) (.bin .Mod (.idx (.var 4) (.bin .Mod (.bin .FloorDiv (.var 1) (.lit (.int 1769472))) (.lit (.int 4)))) (.lit (.int 65536)))) .nil))) .nil)
def b__law_state_by_8 : S := (.ret (.bi .tuple (.cons (.var 2) .nil)))
def b__law_state_by : Ss := (.cons b__law_state_by_0 (.cons b__law_state_by_1 (.cons b__law_state_by_2 (.cons b__law_state_by_3 (.cons b__law_state_by_4 (.cons b__law_state_by_5 (.cons b__law_state_by_6 (.cons b__law_state_by_7 (.cons b__law_state_by_8 .nil)))))))))
def d__law_state_by : Df := { ps := 2, n := 5, body := b__law_state_by }
abbrev s23 : Stmt := top 47
def N23 : List Str := ["_law_script", "_law_k", "_law_cell", "_law_state", "_law_after", "_law_write", "_law_tell"]
def P23 : List Str := ["_law_script"]
/-- law -/
def b_law_0b_0 : S := (.asg 2 (.call 17 (.cons (.var 0) (.cons (.bin .Mult (.lit (.int 2)) (.var 1)) .nil))))
def b_law_0b_1 : S := (.asg 3 (.bi .list (.cons (.call 22 (.cons (.var 2) (.cons (.call 18 (.cons (.var 2) (.cons (.bin .Add (.lit (.int 1)) (.var 1)) .nil))) .nil))) .nil)))
def b_law_0b_2 : S := (.setI 3 (.lit (.int 5)) (.lit (.int 1)))
def b_law_0b_3 : S := (.setI 3 (.lit (.int 14)) (.lit (.int 0)))
def b_law_0b_4 : S := (.asg 3 (.bi .tuple (.cons (.var 3) .nil)))
def b_law_0b_5 : S := (.asgT [4, 5, 6] (.call 16 (.cons (.var 3) (.cons (.bin .Mod (.call 17 (.cons (.var 0) (.cons (.bin .Add (.bin .Mult (.lit (.int 2)) (.var 1)) (.lit (.int 1))) .nil))) (.lit (.int 65536))) .nil))))
def b_law_0b_6 : S := (.ife (.or (.cmp .IsNot (.var 6) (.lit .none)) (.or (.cmp .NotEq (.slc (.var 4) (.some (.lit (.int 6))) (.some (.lit (.int 8)))) (.slc (.var 3) (.some (.lit (.int 6))) (.some (.lit (.int 8))))) (.cmp .NotEq (.idx (.var 4) (.lit (.int 14))) (.lit (.int 0))))) (.cons (.ret (.lit (.bool false))) .nil) .nil)
def b_law_0b_7 : S := (.ife (.and (.cmp .IsNot (.var 5) (.lit .none)) (.cmp .GtE (.bin .Mod (.bin .Sub (.call 4 (.cons (.var 3) .nil)) (.idx (.var 3) (.lit (.int 6)))) (.lit (.int 4096))) (.idx (.var 3) (.lit (.int 7))))) (.cons (.ret (.lit (.bool false))) .nil) .nil)
def b_law_0b_8 : S := (.ife (.and (.cmp .Eq (.idx (.var 4) (.lit (.int 5))) (.lit (.int 0))) (.or (.cmp .NotEq (.idx (.var 4) (.lit (.int 2))) (.lit (.int 0))) (.or (.cmp .NotEq (.idx (.var 4) (.lit (.int 4))) (.lit (.int 0))) (.not (.chain .LtE .LtE (.lit (.int 1)) (.idx (.var 4) (.lit (.int 12))) (.lit (.int 4))))))) (.cons (.ret (.lit (.bool false))) .nil) .nil)
def b_law_0b : Ss := (.cons b_law_0b_0 (.cons b_law_0b_1 (.cons b_law_0b_2 (.cons b_law_0b_3 (.cons b_law_0b_4 (.cons b_law_0b_5 (.cons b_law_0b_6 (.cons b_law_0b_7 (.cons b_law_0b_8 .nil)))))))))
def b_law_0 : S := (.forr (.nm 1) (.range1 (.bin .Add (.lit (.int 1)) (.bi .min (.cons (.lit (.int 30)) (.cons (.bin .FloorDiv (.bi .len (.cons (.var 0) .nil)) (.lit (.int 2))) .nil))))) b_law_0b)
def b_law_1 : S := (.ret (.lit (.bool true)))
def b_law : Ss := (.cons b_law_0 (.cons b_law_1 .nil))
def d_law : Df := { ps := 1, n := 7, body := b_law }
def fnT : Nat → Option Str
  | 0 => some "op_of"
  | 1 => some "number_of"
  | 2 => some "changed"
  | 3 => some "wanted"
  | 4 => some "asked"
  | 5 => some "is_barred"
  | 6 => some "trap"
  | 7 => some "own_row"
  | 8 => some "move_row"
  | 9 => some "leap_row"
  | 10 => some "word_row"
  | 11 => some "row_done"
  | 12 => some "rung"
  | 13 => some "trap_of"
  | 14 => some "trapped"
  | 15 => some "fetched"
  | 16 => some "beat_of"
  | 17 => some "_law_cell_at"
  | 18 => some "_law_mixed"
  | 19 => some "_law_figures"
  | 20 => some "_law_drawn"
  | 21 => some "_law_sizes"
  | 22 => some "_law_state_by"
  | 23 => some "law"
  | _ => none
def ds : Nat → Option Df
  | 0 => some d_op_of
  | 1 => some d_number_of
  | 2 => some d_changed
  | 3 => some d_wanted
  | 4 => some d_asked
  | 5 => some d_is_barred
  | 6 => some d_trap
  | 7 => some d_own_row
  | 8 => some d_move_row
  | 9 => some d_leap_row
  | 10 => some d_word_row
  | 11 => some d_row_done
  | 12 => some d_rung
  | 13 => some d_trap_of
  | 14 => some d_trapped
  | 15 => some d_fetched
  | 16 => some d_beat_of
  | 17 => some d__law_cell_at
  | 18 => some d__law_mixed
  | 19 => some d__law_figures
  | 20 => some d__law_drawn
  | 21 => some d__law_sizes
  | 22 => some d__law_state_by
  | 23 => some d_law
  | _ => none
def gnT : Nat → Option Str
  | 0 => some "WORDS"
  | 1 => some "PLACES"
  | 2 => some "TOP"
  | 3 => some "A"
  | 4 => some "X"
  | 5 => some "P"
  | 6 => some "I"
  | 7 => some "F"
  | 8 => some "M"
  | 9 => some "B"
  | 10 => some "L"
  | 11 => some "T"
  | 12 => some "SA"
  | 13 => some "SX"
  | 14 => some "SP"
  | 15 => some "C"
  | 16 => some "N"
  | 17 => some "H"
  | 18 => some "GUARD"
  | 19 => some "BARRED"
  | 20 => some "CALL"
  | 21 => some "BELL"
  | _ => none
def gl : Nat → Option P
  | 0 => some (.int (65536))
  | 1 => some (.int (4096))
  | 2 => some (.int (32768))
  | 3 => some (.int (0))
  | 4 => some (.int (1))
  | 5 => some (.int (2))
  | 6 => some (.int (3))
  | 7 => some (.int (4))
  | 8 => some (.int (5))
  | 9 => some (.int (6))
  | 10 => some (.int (7))
  | 11 => some (.int (8))
  | 12 => some (.int (9))
  | 13 => some (.int (10))
  | 14 => some (.int (11))
  | 15 => some (.int (12))
  | 16 => some (.int (13))
  | 17 => some (.int (14))
  | 18 => some (.int (1))
  | 19 => some (.int (2))
  | 20 => some (.int (3))
  | 21 => some (.int (4))
  | _ => none
def T : Tb := ⟨fnT, gnT⟩
@[simp] theorem call_op_of (k : Nat) (os : List O) : (Ck ds gl 100 (k + 1)).call 0 os = runD (Ck ds gl 100 k) d_op_of os := rfl
@[simp] theorem call_number_of (k : Nat) (os : List O) : (Ck ds gl 100 (k + 1)).call 1 os = runD (Ck ds gl 100 k) d_number_of os := rfl
@[simp] theorem call_changed (k : Nat) (os : List O) : (Ck ds gl 100 (k + 1)).call 2 os = runD (Ck ds gl 100 k) d_changed os := rfl
@[simp] theorem call_wanted (k : Nat) (os : List O) : (Ck ds gl 100 (k + 1)).call 3 os = runD (Ck ds gl 100 k) d_wanted os := rfl
@[simp] theorem call_asked (k : Nat) (os : List O) : (Ck ds gl 100 (k + 1)).call 4 os = runD (Ck ds gl 100 k) d_asked os := rfl
@[simp] theorem call_is_barred (k : Nat) (os : List O) : (Ck ds gl 100 (k + 1)).call 5 os = runD (Ck ds gl 100 k) d_is_barred os := rfl
@[simp] theorem call_trap (k : Nat) (os : List O) : (Ck ds gl 100 (k + 1)).call 6 os = runD (Ck ds gl 100 k) d_trap os := rfl
@[simp] theorem call_own_row (k : Nat) (os : List O) : (Ck ds gl 100 (k + 1)).call 7 os = runD (Ck ds gl 100 k) d_own_row os := rfl
@[simp] theorem call_move_row (k : Nat) (os : List O) : (Ck ds gl 100 (k + 1)).call 8 os = runD (Ck ds gl 100 k) d_move_row os := rfl
@[simp] theorem call_leap_row (k : Nat) (os : List O) : (Ck ds gl 100 (k + 1)).call 9 os = runD (Ck ds gl 100 k) d_leap_row os := rfl
@[simp] theorem call_word_row (k : Nat) (os : List O) : (Ck ds gl 100 (k + 1)).call 10 os = runD (Ck ds gl 100 k) d_word_row os := rfl
@[simp] theorem call_row_done (k : Nat) (os : List O) : (Ck ds gl 100 (k + 1)).call 11 os = runD (Ck ds gl 100 k) d_row_done os := rfl
@[simp] theorem call_rung (k : Nat) (os : List O) : (Ck ds gl 100 (k + 1)).call 12 os = runD (Ck ds gl 100 k) d_rung os := rfl
@[simp] theorem call_trap_of (k : Nat) (os : List O) : (Ck ds gl 100 (k + 1)).call 13 os = runD (Ck ds gl 100 k) d_trap_of os := rfl
@[simp] theorem call_trapped (k : Nat) (os : List O) : (Ck ds gl 100 (k + 1)).call 14 os = runD (Ck ds gl 100 k) d_trapped os := rfl
@[simp] theorem call_fetched (k : Nat) (os : List O) : (Ck ds gl 100 (k + 1)).call 15 os = runD (Ck ds gl 100 k) d_fetched os := rfl
@[simp] theorem call_beat_of (k : Nat) (os : List O) : (Ck ds gl 100 (k + 1)).call 16 os = runD (Ck ds gl 100 k) d_beat_of os := rfl
@[simp] theorem call__law_cell_at (k : Nat) (os : List O) : (Ck ds gl 100 (k + 1)).call 17 os = runD (Ck ds gl 100 k) d__law_cell_at os := rfl
@[simp] theorem call__law_mixed (k : Nat) (os : List O) : (Ck ds gl 100 (k + 1)).call 18 os = runD (Ck ds gl 100 k) d__law_mixed os := rfl
@[simp] theorem call__law_figures (k : Nat) (os : List O) : (Ck ds gl 100 (k + 1)).call 19 os = runD (Ck ds gl 100 k) d__law_figures os := rfl
@[simp] theorem call__law_drawn (k : Nat) (os : List O) : (Ck ds gl 100 (k + 1)).call 20 os = runD (Ck ds gl 100 k) d__law_drawn os := rfl
@[simp] theorem call__law_sizes (k : Nat) (os : List O) : (Ck ds gl 100 (k + 1)).call 21 os = runD (Ck ds gl 100 k) d__law_sizes os := rfl
@[simp] theorem call__law_state_by (k : Nat) (os : List O) : (Ck ds gl 100 (k + 1)).call 22 os = runD (Ck ds gl 100 k) d__law_state_by os := rfl
@[simp] theorem call_law (k : Nat) (os : List O) : (Ck ds gl 100 (k + 1)).call 23 os = runD (Ck ds gl 100 k) d_law os := rfl
@[simp] theorem gl_k (k : Nat) : (Ck ds gl 100 k).gl = gl := Ck_gl k
theorem Sc0 : FnScope N0 P0 (defScope s0) := ⟨rfl, rfl, rfl, by decide +kernel, rfl, by decide +kernel, by decide +kernel⟩
theorem c0 : chkSs T N0 (defScope s0) (defScope s0) d_op_of.body (defBody s0) = true := by decide +kernel
theorem Sc1 : FnScope N1 P1 (defScope s1) := ⟨rfl, rfl, rfl, by decide +kernel, rfl, by decide +kernel, by decide +kernel⟩
theorem c1 : chkSs T N1 (defScope s1) (defScope s1) d_number_of.body (defBody s1) = true := by decide +kernel
theorem Sc2 : FnScope N2 P2 (defScope s2) := ⟨rfl, rfl, rfl, by decide +kernel, rfl, by decide +kernel, by decide +kernel⟩
theorem c2 : chkSs T N2 (defScope s2) (defScope s2) d_changed.body (defBody s2) = true := by decide +kernel
theorem Sc3 : FnScope N3 P3 (defScope s3) := ⟨rfl, rfl, rfl, by decide +kernel, rfl, by decide +kernel, by decide +kernel⟩
theorem c3 : chkSs T N3 (defScope s3) (defScope s3) d_wanted.body (defBody s3) = true := by decide +kernel
theorem Sc4 : FnScope N4 P4 (defScope s4) := ⟨rfl, rfl, rfl, by decide +kernel, rfl, by decide +kernel, by decide +kernel⟩
theorem c4 : chkSs T N4 (defScope s4) (defScope s4) d_asked.body (defBody s4) = true := by decide +kernel
theorem Sc5 : FnScope N5 P5 (defScope s5) := ⟨rfl, rfl, rfl, by decide +kernel, rfl, by decide +kernel, by decide +kernel⟩
theorem c5 : chkSs T N5 (defScope s5) (defScope s5) d_is_barred.body (defBody s5) = true := by decide +kernel
theorem Sc6 : FnScope N6 P6 (defScope s6) := ⟨rfl, rfl, rfl, by decide +kernel, rfl, by decide +kernel, by decide +kernel⟩
theorem c6 : chkSs T N6 (defScope s6) (defScope s6) d_trap.body (defBody s6) = true := by decide +kernel
theorem Sc7 : FnScope N7 P7 (defScope s7) := ⟨rfl, rfl, rfl, by decide +kernel, rfl, by decide +kernel, by decide +kernel⟩
theorem c7 : chkSs T N7 (defScope s7) (defScope s7) d_own_row.body (defBody s7) = true := by decide +kernel
theorem Sc8 : FnScope N8 P8 (defScope s8) := ⟨rfl, rfl, rfl, by decide +kernel, rfl, by decide +kernel, by decide +kernel⟩
theorem c8 : chkSs T N8 (defScope s8) (defScope s8) d_move_row.body (defBody s8) = true := by decide +kernel
theorem Sc9 : FnScope N9 P9 (defScope s9) := ⟨rfl, rfl, rfl, by decide +kernel, rfl, by decide +kernel, by decide +kernel⟩
theorem c9 : chkSs T N9 (defScope s9) (defScope s9) d_leap_row.body (defBody s9) = true := by decide +kernel
theorem Sc10 : FnScope N10 P10 (defScope s10) := ⟨rfl, rfl, rfl, by decide +kernel, rfl, by decide +kernel, by decide +kernel⟩
theorem c10 : chkSs T N10 (defScope s10) (defScope s10) d_word_row.body (defBody s10) = true := by decide +kernel
theorem Sc11 : FnScope N11 P11 (defScope s11) := ⟨rfl, rfl, rfl, by decide +kernel, rfl, by decide +kernel, by decide +kernel⟩
theorem c11 : chkSs T N11 (defScope s11) (defScope s11) d_row_done.body (defBody s11) = true := by decide +kernel
theorem Sc12 : FnScope N12 P12 (defScope s12) := ⟨rfl, rfl, rfl, by decide +kernel, rfl, by decide +kernel, by decide +kernel⟩
theorem c12 : chkSs T N12 (defScope s12) (defScope s12) d_rung.body (defBody s12) = true := by decide +kernel
theorem Sc13 : FnScope N13 P13 (defScope s13) := ⟨rfl, rfl, rfl, by decide +kernel, rfl, by decide +kernel, by decide +kernel⟩
theorem c13 : chkSs T N13 (defScope s13) (defScope s13) d_trap_of.body (defBody s13) = true := by decide +kernel
theorem Sc14 : FnScope N14 P14 (defScope s14) := ⟨rfl, rfl, rfl, by decide +kernel, rfl, by decide +kernel, by decide +kernel⟩
theorem c14 : chkSs T N14 (defScope s14) (defScope s14) d_trapped.body (defBody s14) = true := by decide +kernel
theorem Sc15 : FnScope N15 P15 (defScope s15) := ⟨rfl, rfl, rfl, by decide +kernel, rfl, by decide +kernel, by decide +kernel⟩
theorem c15 : chkSs T N15 (defScope s15) (defScope s15) d_fetched.body (defBody s15) = true := by decide +kernel
theorem Sc16 : FnScope N16 P16 (defScope s16) := ⟨rfl, rfl, rfl, by decide +kernel, rfl, by decide +kernel, by decide +kernel⟩
theorem c16 : chkSs T N16 (defScope s16) (defScope s16) d_beat_of.body (defBody s16) = true := by decide +kernel
theorem Sc17 : FnScope N17 P17 (defScope s17) := ⟨rfl, rfl, rfl, by decide +kernel, rfl, by decide +kernel, by decide +kernel⟩
theorem c17 : chkSs T N17 (defScope s17) (defScope s17) d__law_cell_at.body (defBody s17) = true := by decide +kernel
theorem Sc18 : FnScope N18 P18 (defScope s18) := ⟨rfl, rfl, rfl, by decide +kernel, rfl, by decide +kernel, by decide +kernel⟩
theorem c18 : chkSs T N18 (defScope s18) (defScope s18) d__law_mixed.body (defBody s18) = true := by decide +kernel
theorem Sc19 : FnScope N19 P19 (defScope s19) := ⟨rfl, rfl, rfl, by decide +kernel, rfl, by decide +kernel, by decide +kernel⟩
theorem c19 : chkSs T N19 (defScope s19) (defScope s19) d__law_figures.body (defBody s19) = true := by decide +kernel
theorem Sc20 : FnScope N20 P20 (defScope s20) := ⟨rfl, rfl, rfl, by decide +kernel, rfl, by decide +kernel, by decide +kernel⟩
theorem c20 : chkSs T N20 (defScope s20) (defScope s20) d__law_drawn.body (defBody s20) = true := by decide +kernel
theorem Sc21 : FnScope N21 P21 (defScope s21) := ⟨rfl, rfl, rfl, by decide +kernel, rfl, by decide +kernel, by decide +kernel⟩
theorem c21 : chkSs T N21 (defScope s21) (defScope s21) d__law_sizes.body (defBody s21) = true := by decide +kernel
theorem Sc22 : FnScope N22 P22 (defScope s22) := ⟨rfl, rfl, rfl, by decide +kernel, rfl, by decide +kernel, by decide +kernel⟩
theorem c22 : chkSs T N22 (defScope s22) (defScope s22) d__law_state_by.body (defBody s22) = true := by decide +kernel
theorem Sc23 : FnScope N23 P23 (defScope s23) := ⟨rfl, rfl, rfl, by decide +kernel, rfl, by decide +kernel, by decide +kernel⟩
theorem c23 : chkSs T N23 (defScope s23) (defScope s23) d_law.body (defBody s23) = true := by decide +kernel
theorem all_mk {w : World} {K : PySem.W.Frag} {h : Heap} {mg : Str → Option Value} (X : K.In h) (G : h.Ns mainGlobals mg)
    {f0 f1 f2 f3 f4 f5 f6 f7 f8 f9 f10 f11 f12 f13 f14 f15 f16 f17 f18 f19 f20 f21 f22 f23 : Addr} {od0 an0 od1 an1 od2 an2 od3 an3 od4 an4 od5 an5 od6 an6 od7 an7 od8 an8 od9 an9 od10 an10 od11 an11 od12 an12 od13 an13 od14 an14 od15 an15 od16 an16 od17 an17 od18 an18 od19 an19 od20 an20 od21 an21 od22 an22 od23 an23 : Option Addr} {sl0 sl1 sl2 sl3 sl4 sl5 sl6 sl7 sl8 sl9 sl10 sl11 sl12 sl13 sl14 sl15 sl16 sl17 sl18 sl19 sl20 sl21 sl22 sl23 : Array (Option Value)} {oc0 kV0 dc0 pm0 cd0 ct0 oc1 kV1 dc1 pm1 cd1 ct1 oc2 kV2 dc2 pm2 cd2 ct2 oc3 kV3 dc3 pm3 cd3 ct3 oc4 kV4 dc4 pm4 cd4 ct4 oc5 kV5 dc5 pm5 cd5 ct5 oc6 kV6 dc6 pm6 cd6 ct6 oc7 kV7 dc7 pm7 cd7 ct7 oc8 kV8 dc8 pm8 cd8 ct8 oc9 kV9 dc9 pm9 cd9 ct9 oc10 kV10 dc10 pm10 cd10 ct10 oc11 kV11 dc11 pm11 cd11 ct11 oc12 kV12 dc12 pm12 cd12 ct12 oc13 kV13 dc13 pm13 cd13 ct13 oc14 kV14 dc14 pm14 cd14 ct14 oc15 kV15 dc15 pm15 cd15 ct15 oc16 kV16 dc16 pm16 cd16 ct16 oc17 kV17 dc17 pm17 cd17 ct17 oc18 kV18 dc18 pm18 cd18 ct18 oc19 kV19 dc19 pm19 cd19 ct19 oc20 kV20 dc20 pm20 cd20 ct20 oc21 kV21 dc21 pm21 cd21 ct21 oc22 kV22 dc22 pm22 cd22 ct22 oc23 kV23 dc23 pm23 cd23 ct23 : Value} {t0 t1 t2 t3 t4 t5 t6 t7 t8 t9 t10 t11 t12 t13 t14 t15 t16 t17 t18 t19 t20 t21 : Tok}
    (a0 : PySem.W.nsIn K mainGlobals "op_of" = some (some (.ref f0))) (l0 : K.lookup f0 = some ⟨oc0, od0, .func (PySem.W.fnOf "op_of" "op_of" (defArgs s0) (defBody s0) (defScope s0) .none kV0 dc0 pm0 an0 cd0 ct0), sl0⟩) (c0 : PySem.W.codeIn K cd0 "op_of" = true) (k0 : PySem.W.keepIn K (.ref f0) = true)
    (a1 : PySem.W.nsIn K mainGlobals "number_of" = some (some (.ref f1))) (l1 : K.lookup f1 = some ⟨oc1, od1, .func (PySem.W.fnOf "number_of" "number_of" (defArgs s1) (defBody s1) (defScope s1) .none kV1 dc1 pm1 an1 cd1 ct1), sl1⟩) (c1 : PySem.W.codeIn K cd1 "number_of" = true) (k1 : PySem.W.keepIn K (.ref f1) = true)
    (a2 : PySem.W.nsIn K mainGlobals "changed" = some (some (.ref f2))) (l2 : K.lookup f2 = some ⟨oc2, od2, .func (PySem.W.fnOf "changed" "changed" (defArgs s2) (defBody s2) (defScope s2) .none kV2 dc2 pm2 an2 cd2 ct2), sl2⟩) (c2 : PySem.W.codeIn K cd2 "changed" = true) (k2 : PySem.W.keepIn K (.ref f2) = true)
    (a3 : PySem.W.nsIn K mainGlobals "wanted" = some (some (.ref f3))) (l3 : K.lookup f3 = some ⟨oc3, od3, .func (PySem.W.fnOf "wanted" "wanted" (defArgs s3) (defBody s3) (defScope s3) .none kV3 dc3 pm3 an3 cd3 ct3), sl3⟩) (c3 : PySem.W.codeIn K cd3 "wanted" = true) (k3 : PySem.W.keepIn K (.ref f3) = true)
    (a4 : PySem.W.nsIn K mainGlobals "asked" = some (some (.ref f4))) (l4 : K.lookup f4 = some ⟨oc4, od4, .func (PySem.W.fnOf "asked" "asked" (defArgs s4) (defBody s4) (defScope s4) .none kV4 dc4 pm4 an4 cd4 ct4), sl4⟩) (c4 : PySem.W.codeIn K cd4 "asked" = true) (k4 : PySem.W.keepIn K (.ref f4) = true)
    (a5 : PySem.W.nsIn K mainGlobals "is_barred" = some (some (.ref f5))) (l5 : K.lookup f5 = some ⟨oc5, od5, .func (PySem.W.fnOf "is_barred" "is_barred" (defArgs s5) (defBody s5) (defScope s5) .none kV5 dc5 pm5 an5 cd5 ct5), sl5⟩) (c5 : PySem.W.codeIn K cd5 "is_barred" = true) (k5 : PySem.W.keepIn K (.ref f5) = true)
    (a6 : PySem.W.nsIn K mainGlobals "trap" = some (some (.ref f6))) (l6 : K.lookup f6 = some ⟨oc6, od6, .func (PySem.W.fnOf "trap" "trap" (defArgs s6) (defBody s6) (defScope s6) .none kV6 dc6 pm6 an6 cd6 ct6), sl6⟩) (c6 : PySem.W.codeIn K cd6 "trap" = true) (k6 : PySem.W.keepIn K (.ref f6) = true)
    (a7 : PySem.W.nsIn K mainGlobals "own_row" = some (some (.ref f7))) (l7 : K.lookup f7 = some ⟨oc7, od7, .func (PySem.W.fnOf "own_row" "own_row" (defArgs s7) (defBody s7) (defScope s7) .none kV7 dc7 pm7 an7 cd7 ct7), sl7⟩) (c7 : PySem.W.codeIn K cd7 "own_row" = true) (k7 : PySem.W.keepIn K (.ref f7) = true)
    (a8 : PySem.W.nsIn K mainGlobals "move_row" = some (some (.ref f8))) (l8 : K.lookup f8 = some ⟨oc8, od8, .func (PySem.W.fnOf "move_row" "move_row" (defArgs s8) (defBody s8) (defScope s8) .none kV8 dc8 pm8 an8 cd8 ct8), sl8⟩) (c8 : PySem.W.codeIn K cd8 "move_row" = true) (k8 : PySem.W.keepIn K (.ref f8) = true)
    (a9 : PySem.W.nsIn K mainGlobals "leap_row" = some (some (.ref f9))) (l9 : K.lookup f9 = some ⟨oc9, od9, .func (PySem.W.fnOf "leap_row" "leap_row" (defArgs s9) (defBody s9) (defScope s9) .none kV9 dc9 pm9 an9 cd9 ct9), sl9⟩) (c9 : PySem.W.codeIn K cd9 "leap_row" = true) (k9 : PySem.W.keepIn K (.ref f9) = true)
    (a10 : PySem.W.nsIn K mainGlobals "word_row" = some (some (.ref f10))) (l10 : K.lookup f10 = some ⟨oc10, od10, .func (PySem.W.fnOf "word_row" "word_row" (defArgs s10) (defBody s10) (defScope s10) .none kV10 dc10 pm10 an10 cd10 ct10), sl10⟩) (c10 : PySem.W.codeIn K cd10 "word_row" = true) (k10 : PySem.W.keepIn K (.ref f10) = true)
    (a11 : PySem.W.nsIn K mainGlobals "row_done" = some (some (.ref f11))) (l11 : K.lookup f11 = some ⟨oc11, od11, .func (PySem.W.fnOf "row_done" "row_done" (defArgs s11) (defBody s11) (defScope s11) .none kV11 dc11 pm11 an11 cd11 ct11), sl11⟩) (c11 : PySem.W.codeIn K cd11 "row_done" = true) (k11 : PySem.W.keepIn K (.ref f11) = true)
    (a12 : PySem.W.nsIn K mainGlobals "rung" = some (some (.ref f12))) (l12 : K.lookup f12 = some ⟨oc12, od12, .func (PySem.W.fnOf "rung" "rung" (defArgs s12) (defBody s12) (defScope s12) .none kV12 dc12 pm12 an12 cd12 ct12), sl12⟩) (c12 : PySem.W.codeIn K cd12 "rung" = true) (k12 : PySem.W.keepIn K (.ref f12) = true)
    (a13 : PySem.W.nsIn K mainGlobals "trap_of" = some (some (.ref f13))) (l13 : K.lookup f13 = some ⟨oc13, od13, .func (PySem.W.fnOf "trap_of" "trap_of" (defArgs s13) (defBody s13) (defScope s13) .none kV13 dc13 pm13 an13 cd13 ct13), sl13⟩) (c13 : PySem.W.codeIn K cd13 "trap_of" = true) (k13 : PySem.W.keepIn K (.ref f13) = true)
    (a14 : PySem.W.nsIn K mainGlobals "trapped" = some (some (.ref f14))) (l14 : K.lookup f14 = some ⟨oc14, od14, .func (PySem.W.fnOf "trapped" "trapped" (defArgs s14) (defBody s14) (defScope s14) .none kV14 dc14 pm14 an14 cd14 ct14), sl14⟩) (c14 : PySem.W.codeIn K cd14 "trapped" = true) (k14 : PySem.W.keepIn K (.ref f14) = true)
    (a15 : PySem.W.nsIn K mainGlobals "fetched" = some (some (.ref f15))) (l15 : K.lookup f15 = some ⟨oc15, od15, .func (PySem.W.fnOf "fetched" "fetched" (defArgs s15) (defBody s15) (defScope s15) .none kV15 dc15 pm15 an15 cd15 ct15), sl15⟩) (c15 : PySem.W.codeIn K cd15 "fetched" = true) (k15 : PySem.W.keepIn K (.ref f15) = true)
    (a16 : PySem.W.nsIn K mainGlobals "beat_of" = some (some (.ref f16))) (l16 : K.lookup f16 = some ⟨oc16, od16, .func (PySem.W.fnOf "beat_of" "beat_of" (defArgs s16) (defBody s16) (defScope s16) .none kV16 dc16 pm16 an16 cd16 ct16), sl16⟩) (c16 : PySem.W.codeIn K cd16 "beat_of" = true) (k16 : PySem.W.keepIn K (.ref f16) = true)
    (a17 : PySem.W.nsIn K mainGlobals "_law_cell_at" = some (some (.ref f17))) (l17 : K.lookup f17 = some ⟨oc17, od17, .func (PySem.W.fnOf "_law_cell_at" "_law_cell_at" (defArgs s17) (defBody s17) (defScope s17) .none kV17 dc17 pm17 an17 cd17 ct17), sl17⟩) (c17 : PySem.W.codeIn K cd17 "_law_cell_at" = true) (k17 : PySem.W.keepIn K (.ref f17) = true)
    (a18 : PySem.W.nsIn K mainGlobals "_law_mixed" = some (some (.ref f18))) (l18 : K.lookup f18 = some ⟨oc18, od18, .func (PySem.W.fnOf "_law_mixed" "_law_mixed" (defArgs s18) (defBody s18) (defScope s18) .none kV18 dc18 pm18 an18 cd18 ct18), sl18⟩) (c18 : PySem.W.codeIn K cd18 "_law_mixed" = true) (k18 : PySem.W.keepIn K (.ref f18) = true)
    (a19 : PySem.W.nsIn K mainGlobals "_law_figures" = some (some (.ref f19))) (l19 : K.lookup f19 = some ⟨oc19, od19, .func (PySem.W.fnOf "_law_figures" "_law_figures" (defArgs s19) (defBody s19) (defScope s19) .none kV19 dc19 pm19 an19 cd19 ct19), sl19⟩) (c19 : PySem.W.codeIn K cd19 "_law_figures" = true) (k19 : PySem.W.keepIn K (.ref f19) = true)
    (a20 : PySem.W.nsIn K mainGlobals "_law_drawn" = some (some (.ref f20))) (l20 : K.lookup f20 = some ⟨oc20, od20, .func (PySem.W.fnOf "_law_drawn" "_law_drawn" (defArgs s20) (defBody s20) (defScope s20) .none kV20 dc20 pm20 an20 cd20 ct20), sl20⟩) (c20 : PySem.W.codeIn K cd20 "_law_drawn" = true) (k20 : PySem.W.keepIn K (.ref f20) = true)
    (a21 : PySem.W.nsIn K mainGlobals "_law_sizes" = some (some (.ref f21))) (l21 : K.lookup f21 = some ⟨oc21, od21, .func (PySem.W.fnOf "_law_sizes" "_law_sizes" (defArgs s21) (defBody s21) (defScope s21) .none kV21 dc21 pm21 an21 cd21 ct21), sl21⟩) (c21 : PySem.W.codeIn K cd21 "_law_sizes" = true) (k21 : PySem.W.keepIn K (.ref f21) = true)
    (a22 : PySem.W.nsIn K mainGlobals "_law_state_by" = some (some (.ref f22))) (l22 : K.lookup f22 = some ⟨oc22, od22, .func (PySem.W.fnOf "_law_state_by" "_law_state_by" (defArgs s22) (defBody s22) (defScope s22) .none kV22 dc22 pm22 an22 cd22 ct22), sl22⟩) (c22 : PySem.W.codeIn K cd22 "_law_state_by" = true) (k22 : PySem.W.keepIn K (.ref f22) = true)
    (a23 : PySem.W.nsIn K mainGlobals "law" = some (some (.ref f23))) (l23 : K.lookup f23 = some ⟨oc23, od23, .func (PySem.W.fnOf "law" "law" (defArgs s23) (defBody s23) (defScope s23) .none kV23 dc23 pm23 an23 cd23 ct23), sl23⟩) (c23 : PySem.W.codeIn K cd23 "law" = true) (k23 : PySem.W.keepIn K (.ref f23) = true)
    (g0 : PySem.W.nsIn K mainGlobals "WORDS" = some (some (.int (65536) t0)))
    (g1 : PySem.W.nsIn K mainGlobals "PLACES" = some (some (.int (4096) t1)))
    (g2 : PySem.W.nsIn K mainGlobals "TOP" = some (some (.int (32768) t2)))
    (g3 : PySem.W.nsIn K mainGlobals "A" = some (some (.int (0) t3)))
    (g4 : PySem.W.nsIn K mainGlobals "X" = some (some (.int (1) t4)))
    (g5 : PySem.W.nsIn K mainGlobals "P" = some (some (.int (2) t5)))
    (g6 : PySem.W.nsIn K mainGlobals "I" = some (some (.int (3) t6)))
    (g7 : PySem.W.nsIn K mainGlobals "F" = some (some (.int (4) t7)))
    (g8 : PySem.W.nsIn K mainGlobals "M" = some (some (.int (5) t8)))
    (g9 : PySem.W.nsIn K mainGlobals "B" = some (some (.int (6) t9)))
    (g10 : PySem.W.nsIn K mainGlobals "L" = some (some (.int (7) t10)))
    (g11 : PySem.W.nsIn K mainGlobals "T" = some (some (.int (8) t11)))
    (g12 : PySem.W.nsIn K mainGlobals "SA" = some (some (.int (9) t12)))
    (g13 : PySem.W.nsIn K mainGlobals "SX" = some (some (.int (10) t13)))
    (g14 : PySem.W.nsIn K mainGlobals "SP" = some (some (.int (11) t14)))
    (g15 : PySem.W.nsIn K mainGlobals "C" = some (some (.int (12) t15)))
    (g16 : PySem.W.nsIn K mainGlobals "N" = some (some (.int (13) t16)))
    (g17 : PySem.W.nsIn K mainGlobals "H" = some (some (.int (14) t17)))
    (g18 : PySem.W.nsIn K mainGlobals "GUARD" = some (some (.int (1) t18)))
    (g19 : PySem.W.nsIn K mainGlobals "BARRED" = some (some (.int (2) t19)))
    (g20 : PySem.W.nsIn K mainGlobals "CALL" = some (some (.int (3) t20)))
    (g21 : PySem.W.nsIn K mainGlobals "BELL" = some (some (.int (4) t21)))
    (z_len : PySem.W.nsIn K mainGlobals "len" = some none)
    (z_abs : PySem.W.nsIn K mainGlobals "abs" = some none)
    (z_int : PySem.W.nsIn K mainGlobals "int" = some none)
    (z_str : PySem.W.nsIn K mainGlobals "str" = some none)
    (z_list : PySem.W.nsIn K mainGlobals "list" = some none)
    (z_tuple : PySem.W.nsIn K mainGlobals "tuple" = some none)
    (z_max : PySem.W.nsIn K mainGlobals "max" = some none)
    (z_min : PySem.W.nsIn K mainGlobals "min" = some none)
    (z_sum : PySem.W.nsIn K mainGlobals "sum" = some none)
    (z_all : PySem.W.nsIn K mainGlobals "all" = some none)
    (z_any : PySem.W.nsIn K mainGlobals "any" = some none)
    (z_sorted : PySem.W.nsIn K mainGlobals "sorted" = some none)
    (z_isinstance : PySem.W.nsIn K mainGlobals "isinstance" = some none)
    (z_range : PySem.W.nsIn K mainGlobals "range" = some none)
    (z_enumerate : PySem.W.nsIn K mainGlobals "enumerate" = some none)
    (z_zip : PySem.W.nsIn K mainGlobals "zip" = some none)
    (z_reversed : PySem.W.nsIn K mainGlobals "reversed" = some none)
    (z_bool : PySem.W.nsIn K mainGlobals "bool" = some none)
    (z_dict : PySem.W.nsIn K mainGlobals "dict" = some none)
    : ProgOk K mg T ds gl ∧ DefOk K mg T d_law "law" f23 (PySem.W.fnOf "law" "law" (defArgs s23) (defBody s23) (defScope s23) .none kV23 dc23 pm23 an23 cd23 ct23) P23 := by
  have D0 := mkD (d := d_op_of) (T := T) X G a0 l0 c0 k0 Sc0 Kx.c0 rfl rfl (fun _ _ _ _ _ _ us hl => match us, hl with | [_], _ => rfl)
  have D1 := mkD (d := d_number_of) (T := T) X G a1 l1 c1 k1 Sc1 Kx.c1 rfl rfl (fun _ _ _ _ _ _ us hl => match us, hl with | [_], _ => rfl)
  have D2 := mkD (d := d_changed) (T := T) X G a2 l2 c2 k2 Sc2 Kx.c2 rfl rfl (fun _ _ _ _ _ _ us hl => match us, hl with | [_, _], _ => rfl)
  have D3 := mkD (d := d_wanted) (T := T) X G a3 l3 c3 k3 Sc3 Kx.c3 rfl rfl (fun _ _ _ _ _ _ us hl => match us, hl with | [_], _ => rfl)
  have D4 := mkD (d := d_asked) (T := T) X G a4 l4 c4 k4 Sc4 Kx.c4 rfl rfl (fun _ _ _ _ _ _ us hl => match us, hl with | [_], _ => rfl)
  have D5 := mkD (d := d_is_barred) (T := T) X G a5 l5 c5 k5 Sc5 Kx.c5 rfl rfl (fun _ _ _ _ _ _ us hl => match us, hl with | [_], _ => rfl)
  have D6 := mkD (d := d_trap) (T := T) X G a6 l6 c6 k6 Sc6 Kx.c6 rfl rfl (fun _ _ _ _ _ _ us hl => match us, hl with | [_, _, _], _ => rfl)
  have D7 := mkD (d := d_own_row) (T := T) X G a7 l7 c7 k7 Sc7 Kx.c7 rfl rfl (fun _ _ _ _ _ _ us hl => match us, hl with | [_], _ => rfl)
  have D8 := mkD (d := d_move_row) (T := T) X G a8 l8 c8 k8 Sc8 Kx.c8 rfl rfl (fun _ _ _ _ _ _ us hl => match us, hl with | [_], _ => rfl)
  have D9 := mkD (d := d_leap_row) (T := T) X G a9 l9 c9 k9 Sc9 Kx.c9 rfl rfl (fun _ _ _ _ _ _ us hl => match us, hl with | [_, _, _], _ => rfl)
  have D10 := mkD (d := d_word_row) (T := T) X G a10 l10 c10 k10 Sc10 Kx.c10 rfl rfl (fun _ _ _ _ _ _ us hl => match us, hl with | [_, _, _], _ => rfl)
  have D11 := mkD (d := d_row_done) (T := T) X G a11 l11 c11 k11 Sc11 Kx.c11 rfl rfl (fun _ _ _ _ _ _ us hl => match us, hl with | [_, _], _ => rfl)
  have D12 := mkD (d := d_rung) (T := T) X G a12 l12 c12 k12 Sc12 Kx.c12 rfl rfl (fun _ _ _ _ _ _ us hl => match us, hl with | [_, _], _ => rfl)
  have D13 := mkD (d := d_trap_of) (T := T) X G a13 l13 c13 k13 Sc13 Kx.c13 rfl rfl (fun _ _ _ _ _ _ us hl => match us, hl with | [_], _ => rfl)
  have D14 := mkD (d := d_trapped) (T := T) X G a14 l14 c14 k14 Sc14 Kx.c14 rfl rfl (fun _ _ _ _ _ _ us hl => match us, hl with | [_, _], _ => rfl)
  have D15 := mkD (d := d_fetched) (T := T) X G a15 l15 c15 k15 Sc15 Kx.c15 rfl rfl (fun _ _ _ _ _ _ us hl => match us, hl with | [_, _], _ => rfl)
  have D16 := mkD (d := d_beat_of) (T := T) X G a16 l16 c16 k16 Sc16 Kx.c16 rfl rfl (fun _ _ _ _ _ _ us hl => match us, hl with | [_, _], _ => rfl)
  have D17 := mkD (d := d__law_cell_at) (T := T) X G a17 l17 c17 k17 Sc17 Kx.c17 rfl rfl (fun _ _ _ _ _ _ us hl => match us, hl with | [_, _], _ => rfl)
  have D18 := mkD (d := d__law_mixed) (T := T) X G a18 l18 c18 k18 Sc18 Kx.c18 rfl rfl (fun _ _ _ _ _ _ us hl => match us, hl with | [_, _], _ => rfl)
  have D19 := mkD (d := d__law_figures) (T := T) X G a19 l19 c19 k19 Sc19 Kx.c19 rfl rfl (fun _ _ _ _ _ _ us hl => match us, hl with | [_, _], _ => rfl)
  have D20 := mkD (d := d__law_drawn) (T := T) X G a20 l20 c20 k20 Sc20 Kx.c20 rfl rfl (fun _ _ _ _ _ _ us hl => match us, hl with | [_, _], _ => rfl)
  have D21 := mkD (d := d__law_sizes) (T := T) X G a21 l21 c21 k21 Sc21 Kx.c21 rfl rfl (fun _ _ _ _ _ _ us hl => match us, hl with | [], _ => rfl)
  have D22 := mkD (d := d__law_state_by) (T := T) X G a22 l22 c22 k22 Sc22 Kx.c22 rfl rfl (fun _ _ _ _ _ _ us hl => match us, hl with | [_, _], _ => rfl)
  have D23 := mkD (d := d_law) (T := T) X G a23 l23 c23 k23 Sc23 Kx.c23 rfl rfl (fun _ _ _ _ _ _ us hl => match us, hl with | [_], _ => rfl)
  refine ⟨⟨fun f x h => ?_, fun g x p h1 h2 => ?_, ⟨fun b => ?_, PySem.W.mg_none_of X G z_isinstance, PySem.W.mg_none_of X G z_range, PySem.W.mg_none_of X G z_enumerate, PySem.W.mg_none_of X G z_zip, PySem.W.mg_none_of X G z_reversed, fun t => ?_⟩⟩, D23⟩
  · match f, h with
    | 0, h => cases h; exact ⟨_, _, _, _, rfl, D0⟩
    | 1, h => cases h; exact ⟨_, _, _, _, rfl, D1⟩
    | 2, h => cases h; exact ⟨_, _, _, _, rfl, D2⟩
    | 3, h => cases h; exact ⟨_, _, _, _, rfl, D3⟩
    | 4, h => cases h; exact ⟨_, _, _, _, rfl, D4⟩
    | 5, h => cases h; exact ⟨_, _, _, _, rfl, D5⟩
    | 6, h => cases h; exact ⟨_, _, _, _, rfl, D6⟩
    | 7, h => cases h; exact ⟨_, _, _, _, rfl, D7⟩
    | 8, h => cases h; exact ⟨_, _, _, _, rfl, D8⟩
    | 9, h => cases h; exact ⟨_, _, _, _, rfl, D9⟩
    | 10, h => cases h; exact ⟨_, _, _, _, rfl, D10⟩
    | 11, h => cases h; exact ⟨_, _, _, _, rfl, D11⟩
    | 12, h => cases h; exact ⟨_, _, _, _, rfl, D12⟩
    | 13, h => cases h; exact ⟨_, _, _, _, rfl, D13⟩
    | 14, h => cases h; exact ⟨_, _, _, _, rfl, D14⟩
    | 15, h => cases h; exact ⟨_, _, _, _, rfl, D15⟩
    | 16, h => cases h; exact ⟨_, _, _, _, rfl, D16⟩
    | 17, h => cases h; exact ⟨_, _, _, _, rfl, D17⟩
    | 18, h => cases h; exact ⟨_, _, _, _, rfl, D18⟩
    | 19, h => cases h; exact ⟨_, _, _, _, rfl, D19⟩
    | 20, h => cases h; exact ⟨_, _, _, _, rfl, D20⟩
    | 21, h => cases h; exact ⟨_, _, _, _, rfl, D21⟩
    | 22, h => cases h; exact ⟨_, _, _, _, rfl, D22⟩
    | 23, h => cases h; exact ⟨_, _, _, _, rfl, D23⟩
    | n + 24, h => cases h
  · match g, h1, h2 with
    | 0, h1, h2 => cases h1; cases h2; exact mkI X G g0
    | 1, h1, h2 => cases h1; cases h2; exact mkI X G g1
    | 2, h1, h2 => cases h1; cases h2; exact mkI X G g2
    | 3, h1, h2 => cases h1; cases h2; exact mkI X G g3
    | 4, h1, h2 => cases h1; cases h2; exact mkI X G g4
    | 5, h1, h2 => cases h1; cases h2; exact mkI X G g5
    | 6, h1, h2 => cases h1; cases h2; exact mkI X G g6
    | 7, h1, h2 => cases h1; cases h2; exact mkI X G g7
    | 8, h1, h2 => cases h1; cases h2; exact mkI X G g8
    | 9, h1, h2 => cases h1; cases h2; exact mkI X G g9
    | 10, h1, h2 => cases h1; cases h2; exact mkI X G g10
    | 11, h1, h2 => cases h1; cases h2; exact mkI X G g11
    | 12, h1, h2 => cases h1; cases h2; exact mkI X G g12
    | 13, h1, h2 => cases h1; cases h2; exact mkI X G g13
    | 14, h1, h2 => cases h1; cases h2; exact mkI X G g14
    | 15, h1, h2 => cases h1; cases h2; exact mkI X G g15
    | 16, h1, h2 => cases h1; cases h2; exact mkI X G g16
    | 17, h1, h2 => cases h1; cases h2; exact mkI X G g17
    | 18, h1, h2 => cases h1; cases h2; exact mkI X G g18
    | 19, h1, h2 => cases h1; cases h2; exact mkI X G g19
    | 20, h1, h2 => cases h1; cases h2; exact mkI X G g20
    | 21, h1, h2 => cases h1; cases h2; exact mkI X G g21
    | n + 22, h1, h2 => cases h1
  · cases b
    · exact PySem.W.mg_none_of X G z_len
    · exact PySem.W.mg_none_of X G z_abs
    · exact PySem.W.mg_none_of X G z_int
    · exact PySem.W.mg_none_of X G z_str
    · exact PySem.W.mg_none_of X G z_list
    · exact PySem.W.mg_none_of X G z_tuple
    · exact PySem.W.mg_none_of X G z_max
    · exact PySem.W.mg_none_of X G z_min
    · exact PySem.W.mg_none_of X G z_sum
    · exact PySem.W.mg_none_of X G z_all
    · exact PySem.W.mg_none_of X G z_any
    · exact PySem.W.mg_none_of X G z_sorted
  · cases t
    · exact PySem.W.mg_none_of X G z_int
    · exact PySem.W.mg_none_of X G z_bool
    · exact PySem.W.mg_none_of X G z_str
    · exact PySem.W.mg_none_of X G z_list
    · exact PySem.W.mg_none_of X G z_tuple
    · exact PySem.W.mg_none_of X G z_dict
end Kx
set_option maxRecDepth 100000
namespace Kx
open PySem L2 G
variable {k : Nat}
abbrev ck (k : Nat) : Ct := Ck ds gl 100 k
theorem mixed_ev (c : Ct) (n i : Int) : ∃ r : Int, runD c d__law_mixed [.pl (.int n), .pl (.int i)] = some (.pl (.int r), [.pl (.int n), .pl (.int i)]) ∧ 0 ≤ r ∧ r < 2147483629 := by
  have h : -(2 ^ 64) < (n % 1000000007 + 7 * i + 1) * 48271 % 2147483647 ∧ (n % 1000000007 + 7 * i + 1) * 48271 % 2147483647 < 2 ^ 64 := by omega
  have hm : mulOk ((n % 1000000007 + 7 * i + 1) * 48271 % 2147483647) ((n % 1000000007 + 7 * i + 1) * 48271 % 2147483647 % 1009 + i + 3) := .inl h
  refine ⟨_, by simp [runD, d__law_mixed, b__law_mixed, b__law_mixed_0, b__law_mixed_1, b__law_mixed_2, startE, hm]; rfl, ?_, ?_⟩ <;> omega
theorem figures_ev (c : Ct) (n : Int) (ss : List Int) (h : ∀ s ∈ ss, 0 < s ∧ s < 1073741824) (hl : ss.length ≤ 1000) : ∃ ns : List Int, runD c d__law_figures [.pl (.int n), .pl (.list (il ss))] = some (.fl (il ns), [.pl (.int n), .pl (.list (il ss))]) ∧ Fits ns ss := by
  have hr : okI (ss.length : Int) := by unfold okI; omega
  have key := for_inv (f := bodyF c (.nm 3) b__law_figures_1b)
    (fun i env => ∃ (m : Int) (ns : List Int) (o : Option O), env = [some (.pl (.int m)), some (.pl (.list (il ss))), some (.fl (il ns)), o] ∧ ns.length = i ∧ ∀ (j : Nat) (x s : Int), ns[j]? = some x → ss[j]? = some s → 0 ≤ x ∧ x < s)
    (rangeP 0 ss.length) 0 [some (.pl (.int n)), some (.pl (.list (il ss))), some (.fl []), none] ⟨n, [], none, rfl, rfl, fun j x s z => by simp at z⟩ (by
      rintro i p env hp ⟨m, ns, o, rfl, hn, hs⟩
      obtain ⟨rfl, hi⟩ := rangeP_get hp
      have hi : i < ss.length := by simpa using hi
      have hat : atI (il ss) ((i : Nat) : Int) = some (.int ss[i]) := atI_ints ss i hi
      have hb := h ss[i] (by simp)
      have hz : ((0 : Nat) + i) = i := by omega
      refine ⟨[some (.pl (.int (m / ss[i]))), some (.pl (.list (il ss))), some (.fl (il (ns ++ [m % ss[i]]))), some (.pl (.int i))], ?_, m / ss[i], ns ++ [m % ss[i]], _, rfl, by simp; omega, ?_⟩
      · have hlen : ns.length < 16777216 := by omega
        simp [bodyF, b__law_figures_1b, b__law_figures_1b_0, b__law_figures_1b_1, hat, hb.1, hb.2, hlen]
      · intro j x s hx hs'
        by_cases hj : j < ns.length
        · rw [List.getElem?_append_left hj] at hx
          exact hs j x s hx hs'
        · rw [List.getElem?_append_right (by omega)] at hx
          have ej : j = ns.length := by
            have := (List.getElem?_eq_some_iff.mp hx).1
            simp at this
            omega
          subst ej
          simp at hx
          subst hx
          have e : ss[ns.length]? = some ss[i] := by
            rw [List.getElem?_eq_some_iff]
            exact ⟨by omega, by congr 1; omega⟩
          rw [e] at hs'
          cases hs'
          exact ⟨Int.emod_nonneg _ (by omega), Int.emod_lt_of_pos _ hb.1⟩)
  obtain ⟨env', k1, m, ns, o, rfl, hn, hs⟩ := key
  rw [rangeP_len] at hn
  refine ⟨ns, ?_, by simpa using hn, hs⟩
  simp [runD, d__law_figures, b__law_figures, b__law_figures_0, b__law_figures_1, b__law_figures_2, startE, exec_forr, hr, k1]

def W : List Int := [65536, 65536, 4096, 65536, 2, 2, 4096, 4096, 4096, 65536, 65536, 4096, 8, 4096, 2]
theorem sizes_ev (c : Ct) : runD c d__law_sizes [] = some (.fl (il W), []) := by
  simp [runD, d__law_sizes, b__law_sizes, b__law_sizes_0, startE, W, mkL, fzs, fz]
theorem drawn_ev (n : Int) (ss : List Int) (h : ∀ s ∈ ss, 0 < s ∧ s < 1073741824) (hl : ss.length ≤ 1000) : ∃ ns : List Int, runD (Ck ds gl 100 (k + 1)) d__law_drawn [.pl (.int n), .pl (.list (il ss))] = some (.fl (il ns), [.pl (.int n), .pl (.list (il ss))]) ∧ Fits ns ss := by
  have hr : okI (ss.length : Int) := by unfold okI; omega
  by_cases hn : n ≥ 10 ^ 18
  · obtain ⟨ns, h1, h2⟩ := figures_ev (Ck ds gl 100 k) n ss h hl
    refine ⟨ns, ?_, h2⟩
    have hn' : 1000000000000000000 ≤ n := by omega
    rw [runD_go rfl]
    simp [d__law_drawn, b__law_drawn, b__law_drawn_0, b__law_drawn_1, startE, call__law_figures, h1, hn', evR_lc]
  · obtain ⟨ns, e1, e2, e3⟩ := lc_ints (f := lcB (Ck ds gl 100 (k + 1)) [some (.pl (.int n)), some (.pl (.list (il ss))), none] [2] (.nm 2) .none (.bin .Mod (.call 18 (.cons (.var 0) (.cons (.bin .Add (.lit (.int 3)) (.var 2)) .nil))) (.idx (.var 1) (.var 2))))
      (fun i x => ∀ s, ss[i]? = some s → 0 ≤ x ∧ x < s) (rangeP 0 ss.length) (by rw [rangeP_len]; omega) (by
        intro i p hp
        obtain ⟨rfl, hi⟩ := rangeP_get hp
        have hi : i < ss.length := by simpa using hi
        have hat : atI (il ss) ((i : Nat) : Int) = some (.int ss[i]) := atI_ints ss i hi
        have hb := h ss[i] (by simp)
        obtain ⟨r, hr, h0, h1⟩ := mixed_ev (Ck ds gl 100 k) n (3 + i)
        refine ⟨r % ss[i], by simp [lcB, lcF, setTg, wipeE, call__law_mixed, hr, hat, hb.1], fun s hs => ?_⟩
        rw [List.getElem?_eq_getElem hi] at hs
        cases hs
        exact ⟨Int.emod_nonneg _ (by omega), Int.emod_lt_of_pos _ hb.1⟩)
    refine ⟨ns, ?_, by rw [e2, rangeP_len]; simp, fun i x s hx hs => e3 i x hx s hs⟩
    have hn' : ¬ 1000000000000000000 ≤ n := by omega
    rw [runD_go rfl]
    simp [d__law_drawn, b__law_drawn, b__law_drawn_0, b__law_drawn_1, startE, evR_lc, hn', hr, e1]

theorem W_ok : ∀ s ∈ W, 0 < s ∧ s < 1073741824 := by decide
/-- a state that is being made -/
def J (cell n : Int) (env : G.Env) : Prop := ∃ (ns : List Int) (o3 o4 : Option O), env = [some (.pl (.int cell)), some (.pl (.int n)), some (.fl (il ns)), o3, o4] ∧ Fits ns W
theorem fits_len {ns : List Int} (h : Fits ns W) : ns.length = 15 := h.1
theorem ix14 : ixN 15 14 = some 14 := rfl
theorem ix3 : ixN 15 3 = some 3 := rfl
theorem ix0 : ixN 15 0 = some 0 := rfl
theorem ix8 : ixN 15 8 = some 8 := rfl
theorem ix2 : ixN 15 2 = some 2 := rfl
theorem ix7 : ixN 15 7 = some 7 := rfl
theorem ix1 : ixN 15 1 = some 1 := rfl
variable {cell n : Int} {env : G.Env} {c : Ct}
theorem j1 (h : J cell n env) : ∃ e, G.exec c env b__law_state_by_1 = some (.nx, e) ∧ J cell n e := by
  obtain ⟨ns, o3, o4, rfl, hf⟩ := h
  have hl := fits_len hf
  refine ife_J (d := decide (0 < n % 4)) (by simp) (fun _ => ⟨_, ?_, ns.set 14 0, o3, o4, rfl, hf.set fun s hs => ?_⟩) fun _ => ⟨_, by simp, ns, o3, o4, rfl, hf⟩
  · simp [hl, ix14, il_set]
  · cases hs; decide
theorem j2 (h : J cell n env) : ∃ e, G.exec c env b__law_state_by_2 = some (.nx, e) ∧ J cell n e := by
  obtain ⟨ns, o3, o4, rfl, hf⟩ := h
  have hl := fits_len hf
  obtain ⟨s3, e3, p3, q3⟩ := hf.at (i := 3) (s := 65536) rfl
  obtain ⟨s7, e7, p7, q7⟩ := hf.at (i := 7) (s := 4096) rfl
  have a3 := atI_il _ _ _ e3
  have a7 := atI_il _ _ _ e7
  obtain ⟨v, hv, av⟩ := atI_pick [s3 % 4096, s3 % 16, s7 % 4096] (n / 192 % 3) (by omega) (by simp; omega)
  have hv' : 0 ≤ v ∧ v < 4096 := by
    simp at hv
    rcases hv with rfl | rfl | rfl <;> omega
  simp at a3 a7 av
  refine ife_J (d := decide (n / 4 % 3 = 0)) (by simp) (fun _ => ⟨_, ?_, ns.set 3 (n / 12 % 16 * 4096 + v), o3, o4, rfl, hf.set fun s hs => ?_⟩) fun _ => ⟨_, by simp, ns, o3, o4, rfl, hf⟩
  · simp [hl, ix3, il_set, a3, a7, av, mkL, fzs, fz]
  · cases hs; omega
theorem j3 (h : J cell n env) : ∃ e, G.exec c env b__law_state_by_3 = some (.nx, e) ∧ J cell n e := by
  obtain ⟨ns, o3, o4, rfl, hf⟩ := h
  have hl := fits_len hf
  obtain ⟨s7, e7, p7, q7⟩ := hf.at (i := 7) (s := 4096) rfl
  have a7 := atI_il _ _ _ e7
  simp at a7
  obtain ⟨v, hv, av⟩ := atI_pick [0, 1, 32767, 32768, 65535, s7] (n / 2304 % 6) (by omega) (by simp; omega)
  have hv' : 0 ≤ v ∧ v < 65536 := by
    simp at hv
    omega
  simp at av
  refine ife_J (d := decide (n / 576 % 4 = 0)) (by simp) (fun _ => ⟨_, ?_, ns.set 0 v, o3, o4, rfl, hf.set fun s hs => ?_⟩) fun _ => ⟨_, by simp, ns, o3, o4, rfl, hf⟩
  · simp [hl, ix0, il_set, a7, av, mkL, fzs, fz]
  · cases hs; omega
theorem j4 (h : J cell n env) : ∃ e, G.exec c env b__law_state_by_4 = some (.nx, e) ∧ J cell n e := by
  obtain ⟨ns, o3, o4, rfl, hf⟩ := h
  have hl := fits_len hf
  obtain ⟨v, hv, av⟩ := atI_pick [0, 1, 2, 4095] (n / 55296 % 4) (by omega) (by simp; omega)
  have hv' : 0 ≤ v ∧ v < 4096 := by
    simp at hv
    omega
  simp at av
  refine ife_J (d := decide (n / 13824 % 4 = 0)) (by simp) (fun _ => ⟨_, ?_, ns.set 8 v, o3, o4, rfl, hf.set fun s hs => ?_⟩) fun _ => ⟨_, by simp, ns, o3, o4, rfl, hf⟩
  · simp [hl, ix8, il_set, av, mkL, fzs, fz]
  · cases hs; omega
theorem j5 (h : J cell n env) : ∃ e, G.exec c env b__law_state_by_5 = some (.nx, e) ∧ J cell n e := by
  obtain ⟨ns, o3, o4, rfl, hf⟩ := h
  have hl := fits_len hf
  obtain ⟨v, hv, av⟩ := atI_pick [0, 4094, 4095, 4095] (n / 1769472 % 4) (by omega) (by simp; omega)
  have hv' : 0 ≤ v ∧ v < 4096 := by
    simp at hv
    omega
  simp at av
  refine ife_J (d := decide (n / 442368 % 4 = 0)) (by simp) (fun _ => ⟨_, ?_, ns.set 2 v, o3, o4, rfl, hf.set fun s hs => ?_⟩) fun _ => ⟨_, by simp, ns, o3, o4, rfl, hf⟩
  · simp [hl, ix2, il_set, av, mkL, fzs, fz]
  · cases hs; omega
theorem j6 (h : J cell n env) : ∃ e, G.exec c env b__law_state_by_6 = some (.nx, e) ∧ J cell n e := by
  obtain ⟨ns, o3, o4, rfl, hf⟩ := h
  have hl := fits_len hf
  obtain ⟨s2, e2, p2, q2⟩ := hf.at (i := 2) (s := 4096) rfl
  have a2 := atI_il _ _ _ e2
  simp at a2
  obtain ⟨v, hv, av⟩ := atI_pick [0, 4095, s2, (s2 + 1) % 4096] (n / 884736 % 4) (by omega) (by simp; omega)
  have hv' : 0 ≤ v ∧ v < 4096 := by
    simp at hv
    omega
  simp at av
  refine ife_J (d := decide (n / 221184 % 4 = 0)) (by simp) (fun _ => ⟨_, ?_, ns.set 7 v, o3, o4, rfl, hf.set fun s hs => ?_⟩) fun _ => ⟨_, by simp, ns, o3, o4, rfl, hf⟩
  · simp [hl, ix7, il_set, a2, av, mkL, fzs, fz]
  · cases hs; omega
theorem j7 (h : J cell n env) : ∃ e, G.exec c env b__law_state_by_7 = some (.nx, e) ∧ J cell n e := by
  obtain ⟨ns, o3, o4, rfl, hf⟩ := h
  have hl := fits_len hf
  obtain ⟨s3, e3, p3, q3⟩ := hf.at (i := 3) (s := 65536) rfl
  have a3 := atI_il _ _ _ e3
  simp at a3
  obtain ⟨s7, e7, p7, q7⟩ := hf.at (i := 7) (s := 4096) rfl
  have a7 := atI_il _ _ _ e7
  simp at a7
  obtain ⟨v, hv, av⟩ := atI_pick [65535, s7 - s3 % 4096, 65536 - s3 % 4096, s7 - 1 - s3 % 4096] (n / 1769472 % 4) (by omega) (by simp; omega)
  simp at av
  refine ife_J (d := decide (n / 442368 % 4 = 1)) (by simp) (fun _ => ⟨_, ?_, ns.set 1 (v % 65536), some (.pl (.int (s3 % 4096))), some (.fl [.int 65535, .int (s7 - s3 % 4096), .int (65536 - s3 % 4096), .int (s7 - 1 - s3 % 4096)]), rfl, hf.set fun s hs => ?_⟩) fun _ => ⟨_, by simp, ns, o3, o4, rfl, hf⟩
  · simp [hl, ix1, il_set, a3, a7, av, mkL, fzs, fz]
  · cases hs; omega
theorem state_ev (cell n : Int) : ∃ ns : List Int, runD (Ck ds gl 100 (k + 2)) d__law_state_by [.pl (.int cell), .pl (.int n)] = some (.pl (.tuple (il ns)), [.pl (.int cell), .pl (.int n)]) ∧ Fits ns W := by
  obtain ⟨ns0, h0, f0⟩ := drawn_ev (k := k) cell W W_ok (by decide)
  have z0 : G.exec (Ck ds gl 100 (k + 2)) (startE 5 [.pl (.int cell), .pl (.int n)]) b__law_state_by_0 = some (.nx, [some (.pl (.int cell)), some (.pl (.int n)), some (.fl (il ns0)), none, none]) := by
    simp [b__law_state_by_0, startE, call__law_drawn, call__law_sizes, sizes_ev, h0, fz]
  obtain ⟨e1, z1, k1⟩ := j1 (c := Ck ds gl 100 (k + 2)) ⟨ns0, none, none, rfl, f0⟩
  obtain ⟨e2, z2, k2⟩ := j2 (c := Ck ds gl 100 (k + 2)) k1
  obtain ⟨e3, z3, k3⟩ := j3 (c := Ck ds gl 100 (k + 2)) k2
  obtain ⟨e4, z4, k4⟩ := j4 (c := Ck ds gl 100 (k + 2)) k3
  obtain ⟨e5, z5, k5⟩ := j5 (c := Ck ds gl 100 (k + 2)) k4
  obtain ⟨e6, z6, k6⟩ := j6 (c := Ck ds gl 100 (k + 2)) k5
  obtain ⟨e7, z7, ns, o3, o4, rfl, hf⟩ := j7 (c := Ck ds gl 100 (k + 2)) k6
  refine ⟨ns, ?_, hf⟩
  rw [runD_go rfl]
  show argD _ (outD (execs _ b__law_state_by _)) = _
  unfold b__law_state_by
  rw [execs_go, show d__law_state_by.n = 5 from rfl, z0, execs_go, z1, execs_go, z2, execs_go, z3, execs_go, z4, execs_go, z5, execs_go, z6, execs_go, z7, execs_go]
  simp [b__law_state_by_8]
end Kx

set_option maxRecDepth 100000
namespace Kx
open PySem L2 G
variable {k : Nat}
def chP : List P → List (Int × Int) → List P
  | xs, [] => xs
  | xs, q :: r => chP (xs.set q.1.toNat (.int q.2)) r
theorem ixN_of {n : Nat} {a : Int} (h0 : 0 ≤ a) (h1 : a < n) : ixN n a = some a.toNat := by
  unfold ixN
  rw [if_pos h0, if_pos h1]
theorem changed_go (c : Ct) (e0 e1 : Option O) : ∀ (prs : List (Int × Int)) (xs : List P) (o3 o4 : Option O), (∀ q ∈ prs, 0 ≤ q.1 ∧ q.1 < xs.length) →
    ∃ o3' o4', forGo (bodyF c (.tp [3, 4]) b_changed_1b) (prs.map fun q => .tuple [.int q.1, .int q.2]) [e0, e1, some (.fl xs), o3, o4] = some (.nx, [e0, e1, some (.fl (chP xs prs)), o3', o4'])
  | [], xs, o3, o4, _ => ⟨o3, o4, rfl⟩
  | q :: r, xs, o3, o4, h => by
    have hq := h q (by simp)
    obtain ⟨o3', o4', ih⟩ := changed_go c e0 e1 r (xs.set q.1.toNat (.int q.2)) (some (.pl (.int q.1))) (some (.pl (.int q.2))) fun z hz => by rw [List.length_set]; exact h z (by simp [hz])
    refine ⟨o3', o4', ?_⟩
    have st : bodyF c (.tp [3, 4]) b_changed_1b [e0, e1, some (.fl xs), o3, o4] (.tuple [.int q.1, .int q.2]) = some (.nx, [e0, e1, some (.fl (xs.set q.1.toNat (.int q.2))), some (.pl (.int q.1)), some (.pl (.int q.2))]) := by
      simp [bodyF, b_changed_1b, b_changed_1b_0, setTg, fz, ixN_of hq.1 hq.2]
    rw [List.map_cons, forGo, st]
    exact ih
theorem changed_ev (c : Ct) (xs : List P) (prs : List (Int × Int)) (h : ∀ q ∈ prs, 0 ≤ q.1 ∧ q.1 < xs.length) : runD c d_changed [.pl (.tuple xs), .pl (.list (prs.map fun q => .tuple [.int q.1, .int q.2]))] = some (.pl (.tuple (chP xs prs)), [.pl (.tuple xs), .pl (.list (prs.map fun q => .tuple [.int q.1, .int q.2]))]) := by
  obtain ⟨o3, o4, h1⟩ := changed_go c (some (.pl (.tuple xs))) (some (.pl (.list (prs.map fun q => .tuple [.int q.1, .int q.2])))) prs xs none none h
  rw [runD_go rfl]
  simp [d_changed, b_changed, b_changed_0, b_changed_1, b_changed_2, startE, exec_forr, evJ, sh, fz, h1]

theorem ch1 (c : Ct) (xs : List P) (x0 v0 : Int) (hl : xs.length = 15) (h : (0 ≤ x0 ∧ x0 < 15)) : runD c d_changed [.pl (.tuple xs), .pl (.list [.tuple [.int x0, .int v0]])] = some (.pl (.tuple (xs.set x0.toNat (.int v0))), [.pl (.tuple xs), .pl (.list [.tuple [.int x0, .int v0]])]) := changed_ev c xs [(x0, v0)] (by simp [hl]; omega)
theorem ch2 (c : Ct) (xs : List P) (x0 v0 x1 v1 : Int) (hl : xs.length = 15) (h : (0 ≤ x0 ∧ x0 < 15) ∧ (0 ≤ x1 ∧ x1 < 15)) : runD c d_changed [.pl (.tuple xs), .pl (.list [.tuple [.int x0, .int v0], .tuple [.int x1, .int v1]])] = some (.pl (.tuple ((xs.set x0.toNat (.int v0)).set x1.toNat (.int v1))), [.pl (.tuple xs), .pl (.list [.tuple [.int x0, .int v0], .tuple [.int x1, .int v1]])]) := changed_ev c xs [(x0, v0), (x1, v1)] (by simp [hl]; omega)
theorem ch3 (c : Ct) (xs : List P) (x0 v0 x1 v1 x2 v2 : Int) (hl : xs.length = 15) (h : (0 ≤ x0 ∧ x0 < 15) ∧ (0 ≤ x1 ∧ x1 < 15) ∧ (0 ≤ x2 ∧ x2 < 15)) : runD c d_changed [.pl (.tuple xs), .pl (.list [.tuple [.int x0, .int v0], .tuple [.int x1, .int v1], .tuple [.int x2, .int v2]])] = some (.pl (.tuple (((xs.set x0.toNat (.int v0)).set x1.toNat (.int v1)).set x2.toNat (.int v2))), [.pl (.tuple xs), .pl (.list [.tuple [.int x0, .int v0], .tuple [.int x1, .int v1], .tuple [.int x2, .int v2]])]) := changed_ev c xs [(x0, v0), (x1, v1), (x2, v2)] (by simp [hl]; omega)
theorem ch7 (c : Ct) (xs : List P) (x0 v0 x1 v1 x2 v2 x3 v3 x4 v4 x5 v5 x6 v6 : Int) (hl : xs.length = 15) (h : (0 ≤ x0 ∧ x0 < 15) ∧ (0 ≤ x1 ∧ x1 < 15) ∧ (0 ≤ x2 ∧ x2 < 15) ∧ (0 ≤ x3 ∧ x3 < 15) ∧ (0 ≤ x4 ∧ x4 < 15) ∧ (0 ≤ x5 ∧ x5 < 15) ∧ (0 ≤ x6 ∧ x6 < 15)) : runD c d_changed [.pl (.tuple xs), .pl (.list [.tuple [.int x0, .int v0], .tuple [.int x1, .int v1], .tuple [.int x2, .int v2], .tuple [.int x3, .int v3], .tuple [.int x4, .int v4], .tuple [.int x5, .int v5], .tuple [.int x6, .int v6]])] = some (.pl (.tuple (((((((xs.set x0.toNat (.int v0)).set x1.toNat (.int v1)).set x2.toNat (.int v2)).set x3.toNat (.int v3)).set x4.toNat (.int v4)).set x5.toNat (.int v5)).set x6.toNat (.int v6))), [.pl (.tuple xs), .pl (.list [.tuple [.int x0, .int v0], .tuple [.int x1, .int v1], .tuple [.int x2, .int v2], .tuple [.int x3, .int v3], .tuple [.int x4, .int v4], .tuple [.int x5, .int v5], .tuple [.int x6, .int v6]])]) := changed_ev c xs [(x0, v0), (x1, v1), (x2, v2), (x3, v3), (x4, v4), (x5, v5), (x6, v6)] (by simp [hl]; omega)
end Kx

set_option maxRecDepth 100000
namespace Kx
open PySem L2 G
variable {k : Nat}
variable (a0 a1 a2 a3 a4 a5 a6 a7 a8 a9 a10 a11 a12 a13 a14 : Int)
abbrev S15 : List P := [.int a0, .int a1, .int a2, .int a3, .int a4, .int a5, .int a6, .int a7, .int a8, .int a9, .int a10, .int a11, .int a12, .int a13, .int a14]
theorem t0 : atI (S15 a0 a1 a2 a3 a4 a5 a6 a7 a8 a9 a10 a11 a12 a13 a14) 0 = some (.int a0) := rfl
theorem t1 : atI (S15 a0 a1 a2 a3 a4 a5 a6 a7 a8 a9 a10 a11 a12 a13 a14) 1 = some (.int a1) := rfl
theorem t2 : atI (S15 a0 a1 a2 a3 a4 a5 a6 a7 a8 a9 a10 a11 a12 a13 a14) 2 = some (.int a2) := rfl
theorem t3 : atI (S15 a0 a1 a2 a3 a4 a5 a6 a7 a8 a9 a10 a11 a12 a13 a14) 3 = some (.int a3) := rfl
theorem t4 : atI (S15 a0 a1 a2 a3 a4 a5 a6 a7 a8 a9 a10 a11 a12 a13 a14) 4 = some (.int a4) := rfl
theorem t5 : atI (S15 a0 a1 a2 a3 a4 a5 a6 a7 a8 a9 a10 a11 a12 a13 a14) 5 = some (.int a5) := rfl
theorem t6 : atI (S15 a0 a1 a2 a3 a4 a5 a6 a7 a8 a9 a10 a11 a12 a13 a14) 6 = some (.int a6) := rfl
theorem t7 : atI (S15 a0 a1 a2 a3 a4 a5 a6 a7 a8 a9 a10 a11 a12 a13 a14) 7 = some (.int a7) := rfl
theorem t8 : atI (S15 a0 a1 a2 a3 a4 a5 a6 a7 a8 a9 a10 a11 a12 a13 a14) 8 = some (.int a8) := rfl
theorem t12 : atI (S15 a0 a1 a2 a3 a4 a5 a6 a7 a8 a9 a10 a11 a12 a13 a14) 12 = some (.int a12) := rfl
theorem t14 : atI (S15 a0 a1 a2 a3 a4 a5 a6 a7 a8 a9 a10 a11 a12 a13 a14) 14 = some (.int a14) := rfl
theorem op_ev (c : Ct) (hg : c.gl = gl) (w : Int) : runD c d_op_of [.pl (.int w)] = some (.pl (.int (w / 4096)), [.pl (.int w)]) := by
  rw [runD_go rfl]
  simp [d_op_of, b_op_of, b_op_of_0, startE, hg, gl]
theorem number_ev (c : Ct) (hg : c.gl = gl) (w : Int) : runD c d_number_of [.pl (.int w)] = some (.pl (.int (w % 4096)), [.pl (.int w)]) := by
  rw [runD_go rfl]
  simp [d_number_of, b_number_of, b_number_of_0, startE, hg, gl]
def wantI (x p i f : Int) : Int := if f = 0 then p else if i / 4096 = 9 ∨ i / 4096 = 10 then (x + i % 4096) % 65536 else i % 4096
theorem wanted_ev : runD (Ck ds gl 100 (k + 1)) d_wanted [.pl (.tuple (S15 a0 a1 a2 a3 a4 a5 a6 a7 a8 a9 a10 a11 a12 a13 a14))] = some (.pl (.int (wantI a1 a2 a3 a4)), [.pl (.tuple (S15 a0 a1 a2 a3 a4 a5 a6 a7 a8 a9 a10 a11 a12 a13 a14))]) := by
  have h1 := t1 a0 a1 a2 a3 a4 a5 a6 a7 a8 a9 a10 a11 a12 a13 a14
  have h2 := t2 a0 a1 a2 a3 a4 a5 a6 a7 a8 a9 a10 a11 a12 a13 a14
  have h3 := t3 a0 a1 a2 a3 a4 a5 a6 a7 a8 a9 a10 a11 a12 a13 a14
  have h4 := t4 a0 a1 a2 a3 a4 a5 a6 a7 a8 a9 a10 a11 a12 a13 a14
  generalize S15 a0 a1 a2 a3 a4 a5 a6 a7 a8 a9 a10 a11 a12 a13 a14 = X at *
  rw [runD_go rfl]
  have o1 := op_ev (Ck ds gl 100 k) (Ck_gl k) a3
  have o2 := number_ev (Ck ds gl 100 k) (Ck_gl k) a3
  unfold wantI
  by_cases g1 : a4 = 0
  · simp [d_wanted, b_wanted, b_wanted_0, b_wanted_1, b_wanted_2, startE, gl, h4, h2, g1]
  · by_cases g2 : a3 / 4096 = 9
    · simp [d_wanted, b_wanted, b_wanted_0, b_wanted_1, b_wanted_2, startE, gl, h1, h2, h3, h4, g1, g2, o1, o2, mkT, inSq, memP, flatP, PyData.eqv]
    · by_cases g3 : a3 / 4096 = 10
      · simp [d_wanted, b_wanted, b_wanted_0, b_wanted_1, b_wanted_2, startE, gl, h1, h2, h3, h4, g1, g2, g3, o1, o2, mkT, inSq, memP, flatP, PyData.eqv]
      · have g2' : ¬ 9 = a3 / 4096 := fun z => g2 z.symm
        have g3' : ¬ 10 = a3 / 4096 := fun z => g3 z.symm
        simp [d_wanted, b_wanted, b_wanted_0, b_wanted_1, b_wanted_2, startE, gl, h1, h2, h3, h4, g1, g2, g3, g2', g3', o1, o2, mkT, inSq, memP, flatP, PyData.eqv]
theorem asked_ev (hm : a5 = 1) : runD (Ck ds gl 100 (k + 2)) d_asked [.pl (.tuple (S15 a0 a1 a2 a3 a4 a5 a6 a7 a8 a9 a10 a11 a12 a13 a14))] = some (.pl (.int ((a6 + wantI a1 a2 a3 a4) % 4096)), [.pl (.tuple (S15 a0 a1 a2 a3 a4 a5 a6 a7 a8 a9 a10 a11 a12 a13 a14))]) := by
  have w := wanted_ev (k := k) a0 a1 a2 a3 a4 a5 a6 a7 a8 a9 a10 a11 a12 a13 a14
  have h5 := t5 a0 a1 a2 a3 a4 a5 a6 a7 a8 a9 a10 a11 a12 a13 a14
  have h6 := t6 a0 a1 a2 a3 a4 a5 a6 a7 a8 a9 a10 a11 a12 a13 a14
  generalize S15 a0 a1 a2 a3 a4 a5 a6 a7 a8 a9 a10 a11 a12 a13 a14 = X at *
  rw [runD_go rfl]
  simp [d_asked, b_asked, b_asked_0, b_asked_1, startE, gl, h5, h6, w, hm]
theorem barred_ev (hm : a5 = 1) : runD (Ck ds gl 100 (k + 2)) d_is_barred [.pl (.tuple (S15 a0 a1 a2 a3 a4 a5 a6 a7 a8 a9 a10 a11 a12 a13 a14))] = some (.pl (.bool (decide (a7 ≤ wantI a1 a2 a3 a4))), [.pl (.tuple (S15 a0 a1 a2 a3 a4 a5 a6 a7 a8 a9 a10 a11 a12 a13 a14))]) := by
  have w := wanted_ev (k := k) a0 a1 a2 a3 a4 a5 a6 a7 a8 a9 a10 a11 a12 a13 a14
  have h5 := t5 a0 a1 a2 a3 a4 a5 a6 a7 a8 a9 a10 a11 a12 a13 a14
  have h7 := t7 a0 a1 a2 a3 a4 a5 a6 a7 a8 a9 a10 a11 a12 a13 a14
  generalize S15 a0 a1 a2 a3 a4 a5 a6 a7 a8 a9 a10 a11 a12 a13 a14 = X at *
  rw [runD_go rfl]
  simp [d_is_barred, b_is_barred, b_is_barred_0, startE, gl, h5, h7, w, hm]
theorem trap_ev (cause place : Int) : runD (Ck ds gl 100 (k + 1)) d_trap [.pl (.tuple (S15 a0 a1 a2 a3 a4 a5 a6 a7 a8 a9 a10 a11 a12 a13 a14)), .pl (.int cause), .pl (.int place)] = some (.pl (.tuple (S15 a0 a1 0 a3 0 0 a6 a7 a8 a0 a1 (place % 4096) cause a13 a14)), [.pl (.tuple (S15 a0 a1 a2 a3 a4 a5 a6 a7 a8 a9 a10 a11 a12 a13 a14)), .pl (.int cause), .pl (.int place)]) := by
  have h0 := t0 a0 a1 a2 a3 a4 a5 a6 a7 a8 a9 a10 a11 a12 a13 a14
  have h1 := t1 a0 a1 a2 a3 a4 a5 a6 a7 a8 a9 a10 a11 a12 a13 a14
  have hc := ch7 (Ck ds gl 100 k) (S15 a0 a1 a2 a3 a4 a5 a6 a7 a8 a9 a10 a11 a12 a13 a14) 9 a0 10 a1 11 (place % 4096) 12 cause 5 0 2 0 4 0 rfl (by omega)
  rw [runD_go rfl]
  simp [d_trap, b_trap, b_trap_0, b_trap_1, startE, gl, h0, h1, mkT, mkL, fzs, fz, addL, hc]
end Kx

set_option maxRecDepth 100000
namespace Kx
open PySem L2 G
variable {k : Nat}
/-- what is kept, whatever a row does in a task's mode -/
def Kp (a5 a6 a7 a14 : Int) (xs : List P) : Prop := ∃ b0 b1 b2 b3 b4 b8 b9 b10 b11 b12 b13 : Int, xs = S15 b0 b1 b2 b3 b4 a5 a6 a7 b8 b9 b10 b11 b12 b13 a14
/-- behind a trap -/
def Tr (a6 a7 a14 : Int) (xs : List P) : Prop := ∃ b0 b1 b3 b8 b9 b10 b11 c b13 : Int, xs = S15 b0 b1 0 b3 0 0 a6 a7 b8 b9 b10 b11 c b13 a14 ∧ 1 ≤ c ∧ c ≤ 4
variable (a0 a1 a2 a3 a4 a5 a6 a7 a8 a9 a10 a11 a12 a13 a14 : Int)
theorem one_ev (c : Ct) (i v : Int) (h : 0 ≤ i ∧ i < 15) : runD c d_changed [.pl (.tuple (S15 a0 a1 a2 a3 a4 a5 a6 a7 a8 a9 a10 a11 a12 a13 a14)), .pl (.list [.tuple [.int i, .int v]])] = some (.pl (.tuple ((S15 a0 a1 a2 a3 a4 a5 a6 a7 a8 a9 a10 a11 a12 a13 a14).set i.toNat (.int v))), [.pl (.tuple (S15 a0 a1 a2 a3 a4 a5 a6 a7 a8 a9 a10 a11 a12 a13 a14)), .pl (.list [.tuple [.int i, .int v]])]) := ch1 c _ i v rfl h
theorem kp (b0 b1 b2 b3 b4 b8 b9 b10 b11 b12 b13 : Int) : Kp a5 a6 a7 a14 (S15 b0 b1 b2 b3 b4 a5 a6 a7 b8 b9 b10 b11 b12 b13 a14) := ⟨_, _, _, _, _, _, _, _, _, _, _, rfl⟩
theorem move_ev : ∃ xs, runD (Ck ds gl 100 (k + 1)) d_move_row [.pl (.tuple (S15 a0 a1 a2 a3 a4 a5 a6 a7 a8 a9 a10 a11 a12 a13 a14))] = some (.pl (.tuple xs), [.pl (.tuple (S15 a0 a1 a2 a3 a4 a5 a6 a7 a8 a9 a10 a11 a12 a13 a14))]) ∧ Kp a5 a6 a7 a14 xs := by
  have o2 := number_ev (Ck ds gl 100 k) (Ck_gl k) a3
  have h0 := t0 a0 a1 a2 a3 a4 a5 a6 a7 a8 a9 a10 a11 a12 a13 a14
  have h1 := t1 a0 a1 a2 a3 a4 a5 a6 a7 a8 a9 a10 a11 a12 a13 a14
  have h3 := t3 a0 a1 a2 a3 a4 a5 a6 a7 a8 a9 a10 a11 a12 a13 a14
  have c0 := one_ev a0 a1 a2 a3 a4 a5 a6 a7 a8 a9 a10 a11 a12 a13 a14 (Ck ds gl 100 k) 0
  have c1 := one_ev a0 a1 a2 a3 a4 a5 a6 a7 a8 a9 a10 a11 a12 a13 a14 (Ck ds gl 100 k) 1
  have c2 := one_ev a0 a1 a2 a3 a4 a5 a6 a7 a8 a9 a10 a11 a12 a13 a14 (Ck ds gl 100 k) 2
  rw [runD_go rfl]
  by_cases g0 : a3 % 4096 % 4 = 0
  · exact ⟨S15 a0 a0 a2 a3 a4 a5 a6 a7 a8 a9 a10 a11 a12 a13 a14, by simp [d_move_row, b_move_row, b_move_row_0, b_move_row_1, startE, gl, h0, h1, h3, o2, g0, mkT, mkL, fzs, fz, c1], kp ..⟩
  · by_cases g1 : a3 % 4096 % 4 = 1
    · exact ⟨S15 a1 a1 a2 a3 a4 a5 a6 a7 a8 a9 a10 a11 a12 a13 a14, by simp [d_move_row, b_move_row, b_move_row_0, b_move_row_1, b_move_row_2, startE, gl, h0, h1, h3, o2, g0, g1, mkT, mkL, fzs, fz, c0], kp ..⟩
    · by_cases g2 : a3 % 4096 % 4 = 2
      · exact ⟨S15 (a0 / 2) a1 a2 a3 a4 a5 a6 a7 a8 a9 a10 a11 a12 a13 a14, by simp [d_move_row, b_move_row, b_move_row_0, b_move_row_1, b_move_row_2, b_move_row_3, startE, gl, h0, h1, h3, o2, g0, g1, g2, mkT, mkL, fzs, fz, c0], kp ..⟩
      · have g0' : ¬ a3 % 4 = 0 := by omega
        have g1' : ¬ a3 % 4 = 1 := by omega
        have g2' : ¬ a3 % 4 = 2 := by omega
        exact ⟨S15 a0 a1 (a0 % 4096) a3 a4 a5 a6 a7 a8 a9 a10 a11 a12 a13 a14, by simp [d_move_row, b_move_row, b_move_row_0, b_move_row_1, b_move_row_2, b_move_row_3, b_move_row_4, startE, gl, h0, h1, h3, o2, g0, g1, g2, g0', g1', g2', mkT, mkL, fzs, fz, c2], kp ..⟩
/-- a row that leads on -/
theorem leap_ev (b0 b1 b2 b3 b4 b8 b9 b10 b11 b12 b13 op : Int) : ∃ xs, runD (Ck ds gl 100 (k + 1)) d_leap_row [.pl (.tuple (S15 a0 a1 a2 a3 a4 a5 a6 a7 a8 a9 a10 a11 a12 a13 a14)), .pl (.tuple (S15 b0 b1 b2 b3 b4 a5 a6 a7 b8 b9 b10 b11 b12 b13 a14)), .pl (.int op)] = some (.pl (.tuple xs), [.pl (.tuple (S15 a0 a1 a2 a3 a4 a5 a6 a7 a8 a9 a10 a11 a12 a13 a14)), .pl (.tuple (S15 b0 b1 b2 b3 b4 a5 a6 a7 b8 b9 b10 b11 b12 b13 a14)), .pl (.int op)]) ∧ Kp a5 a6 a7 a14 xs := by
  have o2 := number_ev (Ck ds gl 100 k) (Ck_gl k) a3
  have h0 := t0 a0 a1 a2 a3 a4 a5 a6 a7 a8 a9 a10 a11 a12 a13 a14
  have h3 := t3 a0 a1 a2 a3 a4 a5 a6 a7 a8 a9 a10 a11 a12 a13 a14
  have q2 := t2 b0 b1 b2 b3 b4 a5 a6 a7 b8 b9 b10 b11 b12 b13 a14
  have c2 := one_ev b0 b1 b2 b3 b4 a5 a6 a7 b8 b9 b10 b11 b12 b13 a14 (Ck ds gl 100 k) 2
  have cc := ch2 (Ck ds gl 100 k) (S15 b0 b1 b2 b3 b4 a5 a6 a7 b8 b9 b10 b11 b12 b13 a14) 0 b2 2 (a3 % 4096) rfl (by omega)
  have fin : (op = 6 ∨ (op = 7 ∧ a0 = 0) ∨ (op = 8 ∧ 32768 ≤ a0)) ∨ ¬ (op = 6 ∨ (op = 7 ∧ a0 = 0) ∨ (op = 8 ∧ 32768 ≤ a0)) := Decidable.em _
  rw [runD_go rfl]
  by_cases g0 : op = 12
  · exact ⟨S15 b2 b1 (a3 % 4096) b3 b4 a5 a6 a7 b8 b9 b10 b11 b12 b13 a14, by simp [d_leap_row, b_leap_row, b_leap_row_0, b_leap_row_1, startE, gl, h0, h3, q2, o2, g0, mkT, mkL, fzs, fz, cc], kp ..⟩
  · rcases fin with (g1 | ⟨g1, g2⟩ | ⟨g1, g2⟩) | g
    · exact ⟨S15 b0 b1 (a3 % 4096) b3 b4 a5 a6 a7 b8 b9 b10 b11 b12 b13 a14, by simp [d_leap_row, b_leap_row, b_leap_row_0, b_leap_row_1, b_leap_row_2, startE, gl, h0, h3, q2, o2, g1, mkT, mkL, fzs, fz, c2], kp ..⟩
    · subst g1 g2
      exact ⟨S15 b0 b1 (a3 % 4096) b3 b4 a5 a6 a7 b8 b9 b10 b11 b12 b13 a14, by simp [d_leap_row, b_leap_row, b_leap_row_0, b_leap_row_1, b_leap_row_2, startE, gl, h0, h3, q2, o2, mkT, mkL, fzs, fz, c2], kp ..⟩
    · exact ⟨S15 b0 b1 (a3 % 4096) b3 b4 a5 a6 a7 b8 b9 b10 b11 b12 b13 a14, by simp [d_leap_row, b_leap_row, b_leap_row_0, b_leap_row_1, b_leap_row_2, startE, gl, h0, h3, q2, o2, g1, g2, mkT, mkL, fzs, fz, c2], kp ..⟩
    · refine ⟨S15 b0 b1 b2 b3 b4 a5 a6 a7 b8 b9 b10 b11 b12 b13 a14, ?_, kp ..⟩
      have g6 : op ≠ 6 := fun z => g (.inl z)
      by_cases g7 : op = 7
      · have n0 : a0 ≠ 0 := fun z => g (.inr (.inl ⟨g7, z⟩))
        simp [d_leap_row, b_leap_row, b_leap_row_0, b_leap_row_1, b_leap_row_2, b_leap_row_3, startE, gl, h0, h3, q2, o2, g7, n0]
      · by_cases g8 : op = 8
        · have n0 : ¬ 32768 ≤ a0 := fun z => g (.inr (.inr ⟨g8, z⟩))
          simp [d_leap_row, b_leap_row, b_leap_row_0, b_leap_row_1, b_leap_row_2, b_leap_row_3, startE, gl, h0, h3, q2, o2, g8, n0]
        · simp [d_leap_row, b_leap_row, b_leap_row_0, b_leap_row_1, b_leap_row_2, b_leap_row_3, startE, gl, h0, h3, q2, o2, g0, g6, g7, g8]
/-- a row that reckons -/
theorem word_ev (op word : Int) : ∃ xs, runD (Ck ds gl 100 (k + 1)) d_word_row [.pl (.tuple (S15 a0 a1 a2 a3 a4 a5 a6 a7 a8 a9 a10 a11 a12 a13 a14)), .pl (.int op), .pl (.int word)] = some (.pl (.tuple xs), [.pl (.tuple (S15 a0 a1 a2 a3 a4 a5 a6 a7 a8 a9 a10 a11 a12 a13 a14)), .pl (.int op), .pl (.int word)]) ∧ Kp a5 a6 a7 a14 xs := by
  have o2 := number_ev (Ck ds gl 100 k) (Ck_gl k) a3
  have h0 := t0 a0 a1 a2 a3 a4 a5 a6 a7 a8 a9 a10 a11 a12 a13 a14
  have h3 := t3 a0 a1 a2 a3 a4 a5 a6 a7 a8 a9 a10 a11 a12 a13 a14
  have c0 := one_ev a0 a1 a2 a3 a4 a5 a6 a7 a8 a9 a10 a11 a12 a13 a14 (Ck ds gl 100 k) 0
  rw [runD_go rfl]
  have fin : ∀ v, Kp a5 a6 a7 a14 (S15 v a1 a2 a3 a4 a5 a6 a7 a8 a9 a10 a11 a12 a13 a14) := fun v => kp ..
  by_cases g0 : op = 0
  · exact ⟨S15 (a3 % 4096) a1 a2 a3 a4 a5 a6 a7 a8 a9 a10 a11 a12 a13 a14, by simp [d_word_row, b_word_row, b_word_row_0, startE, gl, h0, h3, o2, g0, mkT, mkL, fzs, fz, c0], fin _⟩
  · by_cases g1 : op = 1
    · exact ⟨S15 word a1 a2 a3 a4 a5 a6 a7 a8 a9 a10 a11 a12 a13 a14, by simp [d_word_row, b_word_row, b_word_row_0, b_word_row_1, startE, gl, h0, h3, o2, g1, mkT, mkL, fzs, fz, c0], fin _⟩
    · by_cases g9 : op = 9
      · exact ⟨S15 word a1 a2 a3 a4 a5 a6 a7 a8 a9 a10 a11 a12 a13 a14, by simp [d_word_row, b_word_row, b_word_row_0, b_word_row_1, startE, gl, h0, h3, o2, g9, mkT, mkL, fzs, fz, c0], fin _⟩
      · by_cases g3 : op = 3
        · exact ⟨S15 ((a0 + word) % 65536) a1 a2 a3 a4 a5 a6 a7 a8 a9 a10 a11 a12 a13 a14, by simp [d_word_row, b_word_row, b_word_row_0, b_word_row_1, b_word_row_2, startE, gl, h0, h3, o2, g3, mkT, mkL, fzs, fz, c0], fin _⟩
        · by_cases g4 : op = 4
          · exact ⟨S15 ((a0 - word) % 65536) a1 a2 a3 a4 a5 a6 a7 a8 a9 a10 a11 a12 a13 a14, by simp [d_word_row, b_word_row, b_word_row_0, b_word_row_1, b_word_row_2, b_word_row_3, startE, gl, h0, h3, o2, g4, mkT, mkL, fzs, fz, c0], fin _⟩
          · by_cases g5 : op = 5
            · exact ⟨S15 (Builtin.bitAnd a0 word) a1 a2 a3 a4 a5 a6 a7 a8 a9 a10 a11 a12 a13 a14, by simp [d_word_row, b_word_row, b_word_row_0, b_word_row_1, b_word_row_2, b_word_row_3, b_word_row_4, startE, gl, h0, h3, o2, g5, mkT, mkL, fzs, fz, c0], fin _⟩
            · exact ⟨S15 a0 a1 a2 a3 a4 a5 a6 a7 a8 a9 a10 a11 a12 a13 a14, by simp [d_word_row, b_word_row, b_word_row_0, b_word_row_1, b_word_row_2, b_word_row_3, b_word_row_4, b_word_row_5, startE, gl, h0, h3, o2, g0, g1, g9, g3, g4, g5], fin _⟩
end Kx

set_option maxRecDepth 100000
namespace Kx
open PySem L2 G
variable {k : Nat}
variable (a0 a1 a2 a3 a4 a5 a6 a7 a8 a9 a10 a11 a12 a13 a14 : Int)
theorem row_ev (word : Int) (h14 : a3 / 4096 ≠ 14) (h15 : a3 / 4096 ≠ 15) : ∃ xs, runD (Ck ds gl 100 (k + 2)) d_row_done [.pl (.tuple (S15 a0 a1 a2 a3 a4 a5 a6 a7 a8 a9 a10 a11 a12 a13 a14)), .pl (.int word)] = some (.pl (.tuple xs), [.pl (.tuple (S15 a0 a1 a2 a3 a4 a5 a6 a7 a8 a9 a10 a11 a12 a13 a14)), .pl (.int word)]) ∧ Kp a5 a6 a7 a14 xs := by
  have o1 := op_ev (Ck ds gl 100 (k + 1)) (Ck_gl _) a3
  have h2 := t2 a0 a1 a2 a3 a4 a5 a6 a7 a8 a9 a10 a11 a12 a13 a14
  have h3 := t3 a0 a1 a2 a3 a4 a5 a6 a7 a8 a9 a10 a11 a12 a13 a14
  have cc := ch2 (Ck ds gl 100 (k + 1)) (S15 a0 a1 a2 a3 a4 a5 a6 a7 a8 a9 a10 a11 a12 a13 a14) 4 0 2 ((a2 + 1) % 4096) rfl (by omega)
  have hL := leap_ev (k := k) a0 a1 a2 a3 a4 a5 a6 a7 a8 a9 a10 a11 a12 a13 a14 a0 a1 ((a2 + 1) % 4096) a3 0 a8 a9 a10 a11 a12 a13
  have hM := move_ev (k := k) a0 a1 ((a2 + 1) % 4096) a3 0 a5 a6 a7 a8 a9 a10 a11 a12 a13 a14
  have hW := word_ev (k := k) a0 a1 ((a2 + 1) % 4096) a3 0 a5 a6 a7 a8 a9 a10 a11 a12 a13 a14 (a3 / 4096) word
  rw [runD_go rfl]
  have z0 : G.exec (Ck ds gl 100 (k + 2)) (startE 4 [.pl (.tuple (S15 a0 a1 a2 a3 a4 a5 a6 a7 a8 a9 a10 a11 a12 a13 a14)), .pl (.int word)]) b_row_done_0 = some (.nx, [some (.pl (.tuple (S15 a0 a1 a2 a3 a4 a5 a6 a7 a8 a9 a10 a11 a12 a13 a14))), some (.pl (.int word)), some (.pl (.int (a3 / 4096))), none]) := by
    simp [b_row_done_0, startE, gl, h3, o1]
  have z1 : G.exec (Ck ds gl 100 (k + 2)) [some (.pl (.tuple (S15 a0 a1 a2 a3 a4 a5 a6 a7 a8 a9 a10 a11 a12 a13 a14))), some (.pl (.int word)), some (.pl (.int (a3 / 4096))), none] b_row_done_1 = some (.nx, [some (.pl (.tuple (S15 a0 a1 a2 a3 a4 a5 a6 a7 a8 a9 a10 a11 a12 a13 a14))), some (.pl (.int word)), some (.pl (.int (a3 / 4096))), some (.pl (.tuple (S15 a0 a1 ((a2 + 1) % 4096) a3 0 a5 a6 a7 a8 a9 a10 a11 a12 a13 a14)))]) := by
    simp [b_row_done_1, gl, h2, mkT, mkL, fzs, fz, cc]
  have zz : ∀ xs, execs (Ck ds gl 100 (k + 2)) (.cons b_row_done_2 (.cons b_row_done_3 (.cons b_row_done_4 (.cons b_row_done_5 (.cons b_row_done_6 .nil))))) (some (.nx, [some (.pl (.tuple (S15 a0 a1 a2 a3 a4 a5 a6 a7 a8 a9 a10 a11 a12 a13 a14))), some (.pl (.int word)), some (.pl (.int (a3 / 4096))), some (.pl (.tuple (S15 a0 a1 ((a2 + 1) % 4096) a3 0 a5 a6 a7 a8 a9 a10 a11 a12 a13 a14)))])) = some (.rt (.pl (.tuple xs)), [some (.pl (.tuple (S15 a0 a1 a2 a3 a4 a5 a6 a7 a8 a9 a10 a11 a12 a13 a14))), some (.pl (.int word)), some (.pl (.int (a3 / 4096))), some (.pl (.tuple (S15 a0 a1 ((a2 + 1) % 4096) a3 0 a5 a6 a7 a8 a9 a10 a11 a12 a13 a14)))]) → argD [.pl (.tuple (S15 a0 a1 a2 a3 a4 a5 a6 a7 a8 a9 a10 a11 a12 a13 a14)), .pl (.int word)] (outD (execs (Ck ds gl 100 (k + 2)) d_row_done.body (some (.nx, startE d_row_done.n [.pl (.tuple (S15 a0 a1 a2 a3 a4 a5 a6 a7 a8 a9 a10 a11 a12 a13 a14)), .pl (.int word)])))) = some (.pl (.tuple xs), [.pl (.tuple (S15 a0 a1 a2 a3 a4 a5 a6 a7 a8 a9 a10 a11 a12 a13 a14)), .pl (.int word)]) := fun xs h => by
    show argD _ (outD (execs _ b_row_done _)) = _
    unfold b_row_done
    rw [execs_go, show d_row_done.n = 4 from rfl, z0, execs_go, z1, h]
    rfl
  generalize S15 a0 a1 ((a2 + 1) % 4096) a3 0 a5 a6 a7 a8 a9 a10 a11 a12 a13 a14 = F at *
  generalize S15 a0 a1 a2 a3 a4 a5 a6 a7 a8 a9 a10 a11 a12 a13 a14 = X at *
  by_cases g6 : a3 / 4096 = 6
  · obtain ⟨xs, hx, hk⟩ := hL 6
    exact ⟨xs, zz xs (by simp [b_row_done_2, g6, mkT, inSq, memP, flatP, PyData.eqv, hx]), hk⟩
  · by_cases g7 : a3 / 4096 = 7
    · obtain ⟨xs, hx, hk⟩ := hL 7
      exact ⟨xs, zz xs (by simp [b_row_done_2, g7, mkT, inSq, memP, flatP, PyData.eqv, hx]), hk⟩
    · by_cases g8 : a3 / 4096 = 8
      · obtain ⟨xs, hx, hk⟩ := hL 8
        exact ⟨xs, zz xs (by simp [b_row_done_2, g8, mkT, inSq, memP, flatP, PyData.eqv, hx]), hk⟩
      · by_cases g12 : a3 / 4096 = 12
        · obtain ⟨xs, hx, hk⟩ := hL 12
          exact ⟨xs, zz xs (by simp [b_row_done_2, g12, mkT, inSq, memP, flatP, PyData.eqv, hx]), hk⟩
        · by_cases g11 : a3 / 4096 = 11
          · obtain ⟨xs, hx, hk⟩ := hM
            exact ⟨xs, zz xs (by simp [b_row_done_2, b_row_done_3, g11, mkT, inSq, memP, flatP, PyData.eqv, hx]), hk⟩
          · obtain ⟨xs, hx, hk⟩ := hW
            have s6 : ¬ 6 = a3 / 4096 := fun z => g6 z.symm
            have s7 : ¬ 7 = a3 / 4096 := fun z => g7 z.symm
            have s8 : ¬ 8 = a3 / 4096 := fun z => g8 z.symm
            have s12 : ¬ 12 = a3 / 4096 := fun z => g12 z.symm
            exact ⟨xs, zz xs (by simp [b_row_done_2, b_row_done_3, b_row_done_4, b_row_done_5, b_row_done_6, g6, g7, g8, g12, g11, s6, s7, s8, s12, h14, h15, mkT, inSq, memP, flatP, PyData.eqv, hx]), hk⟩
end Kx

set_option maxRecDepth 100000
namespace Kx
open PySem L2 G
variable {k : Nat}
/-- behind a beat in a task's mode -/
def Bt (a6 a7 a14 : Int) (xs : List P) : Prop := Kp 1 a6 a7 a14 xs ∨ Tr a6 a7 a14 xs
variable (a0 a1 a2 a3 a4 a6 a7 a8 a9 a10 a11 a12 a13 a14 : Int)
theorem rung_ev (b0 b1 b2 b3 b4 b8 b9 b10 b11 b12 b13 : Int) : ∃ xs, runD (Ck ds gl 100 (k + 2)) d_rung [.pl (.tuple (S15 a0 a1 a2 a3 a4 1 a6 a7 a8 a9 a10 a11 a12 a13 a14)), .pl (.tuple (S15 b0 b1 b2 b3 b4 1 a6 a7 b8 b9 b10 b11 b12 b13 a14))] = some (.pl (.tuple xs), [.pl (.tuple (S15 a0 a1 a2 a3 a4 1 a6 a7 a8 a9 a10 a11 a12 a13 a14)), .pl (.tuple (S15 b0 b1 b2 b3 b4 1 a6 a7 b8 b9 b10 b11 b12 b13 a14))]) ∧ Bt a6 a7 a14 xs := by
  have h5 := t5 a0 a1 a2 a3 a4 1 a6 a7 a8 a9 a10 a11 a12 a13 a14
  have h8 := t8 a0 a1 a2 a3 a4 1 a6 a7 a8 a9 a10 a11 a12 a13 a14
  have c8 := one_ev b0 b1 b2 b3 b4 1 a6 a7 b8 b9 b10 b11 b12 b13 a14 (Ck ds gl 100 (k + 1)) 8
  have q8 := t8 b0 b1 b2 b3 b4 1 a6 a7 (a8 - 1) b9 b10 b11 b12 b13 a14
  have q2 := t2 b0 b1 b2 b3 b4 1 a6 a7 (a8 - 1) b9 b10 b11 b12 b13 a14
  have tr := trap_ev (k := k) b0 b1 b2 b3 b4 1 a6 a7 (a8 - 1) b9 b10 b11 b12 b13 a14 4 b2
  generalize S15 a0 a1 a2 a3 a4 1 a6 a7 a8 a9 a10 a11 a12 a13 a14 = X at *
  rw [runD_go rfl]
  by_cases g : a8 = 0
  · exact ⟨S15 b0 b1 b2 b3 b4 1 a6 a7 b8 b9 b10 b11 b12 b13 a14, by simp [d_rung, b_rung, b_rung_0, startE, gl, h5, h8, g], .inl (kp ..)⟩
  · have z1 : ∀ (o : Option O), G.exec (Ck ds gl 100 (k + 2)) [some (.pl (.tuple (X))), some (.pl (.tuple (S15 b0 b1 b2 b3 b4 1 a6 a7 b8 b9 b10 b11 b12 b13 a14))), o] b_rung_1 = some (.nx, [some (.pl (.tuple (X))), some (.pl (.tuple (S15 b0 b1 b2 b3 b4 1 a6 a7 b8 b9 b10 b11 b12 b13 a14))), some (.pl (.tuple (S15 b0 b1 b2 b3 b4 1 a6 a7 (a8 - 1) b9 b10 b11 b12 b13 a14)))]) := fun o => by
      simp [b_rung_1, gl, h8, mkT, mkL, fzs, fz, c8]
    by_cases g1 : a8 - 1 = 0
    · refine ⟨S15 b0 b1 0 b3 0 0 a6 a7 (a8 - 1) b0 b1 (b2 % 4096) 4 b13 a14, ?_, .inr ⟨_, _, _, _, _, _, _, _, _, rfl, by omega, by omega⟩⟩
      simp only [d_rung, b_rung, startE]
      generalize S15 b0 b1 b2 b3 b4 1 a6 a7 (a8 - 1) b9 b10 b11 b12 b13 a14 = Y at *
      simp [b_rung_0, b_rung_2, gl, h5, h8, g, z1, q8, g1, q2, tr]
    · refine ⟨S15 b0 b1 b2 b3 b4 1 a6 a7 (a8 - 1) b9 b10 b11 b12 b13 a14, ?_, .inl (kp ..)⟩
      simp only [d_rung, b_rung, startE]
      generalize S15 b0 b1 b2 b3 b4 1 a6 a7 (a8 - 1) b9 b10 b11 b12 b13 a14 = Y at *
      simp [b_rung_0, b_rung_2, b_rung_3, gl, h5, h8, g, z1, q8, g1]
set_option maxHeartbeats 4000000 in
theorem trapof_ev (hw : 0 ≤ a3 ∧ a3 < 65536) : ∃ c : Int, runD (Ck ds gl 100 (k + 3)) d_trap_of [.pl (.tuple (S15 a0 a1 a2 a3 a4 1 a6 a7 a8 a9 a10 a11 a12 a13 a14))] = some (.pl (.int c), [.pl (.tuple (S15 a0 a1 a2 a3 a4 1 a6 a7 a8 a9 a10 a11 a12 a13 a14))]) ∧ 0 ≤ c ∧ c ≤ 3 ∧ (c = 0 → a3 / 4096 ≠ 14 ∧ a3 / 4096 ≠ 15 ∧ (a3 / 4096 = 2 ∨ a3 / 4096 = 10 → wantI a1 a2 a3 a4 < a7)) := by
  have o1 := op_ev (Ck ds gl 100 (k + 2)) (Ck_gl _) a3
  have h3 := t3 a0 a1 a2 a3 a4 1 a6 a7 a8 a9 a10 a11 a12 a13 a14
  have h5 := t5 a0 a1 a2 a3 a4 1 a6 a7 a8 a9 a10 a11 a12 a13 a14
  have hb := barred_ev (k := k) a0 a1 a2 a3 a4 1 a6 a7 a8 a9 a10 a11 a12 a13 a14 rfl
  generalize S15 a0 a1 a2 a3 a4 1 a6 a7 a8 a9 a10 a11 a12 a13 a14 = X at *
  generalize wantI a1 a2 a3 a4 = w at *
  have hop : 0 ≤ a3 / 4096 ∧ a3 / 4096 < 16 := by omega
  generalize a3 / 4096 = op at *
  rw [runD_go rfl]
  have z0 : G.exec (Ck ds gl 100 (k + 3)) (startE 2 [.pl (.tuple X)]) b_trap_of_0 = some (.nx, [some (.pl (.tuple X)), some (.pl (.int op))]) := by
    simp [b_trap_of_0, startE, gl, h3, o1]
  have fin : ∀ v, execs (Ck ds gl 100 (k + 3)) (.cons b_trap_of_1 (.cons b_trap_of_2 (.cons b_trap_of_3 (.cons b_trap_of_4 .nil)))) (some (.nx, [some (.pl (.tuple X)), some (.pl (.int op))])) = some (.rt (.pl (.int v)), [some (.pl (.tuple X)), some (.pl (.int op))]) → argD [.pl (.tuple X)] (outD (execs (Ck ds gl 100 (k + 3)) d_trap_of.body (some (.nx, startE d_trap_of.n [.pl (.tuple X)])))) = some (.pl (.int v), [.pl (.tuple X)]) := fun v h => by
    show argD _ (outD (execs _ b_trap_of _)) = _
    unfold b_trap_of
    rw [execs_go, show d_trap_of.n = 2 from rfl, z0, h]
    rfl
  have cs : op = 0 ∨ op = 1 ∨ op = 2 ∨ op = 3 ∨ op = 4 ∨ op = 5 ∨ op = 6 ∨ op = 7 ∨ op = 8 ∨ op = 9 ∨ op = 10 ∨ op = 11 ∨ op = 12 ∨ op = 13 ∨ op = 14 ∨ op = 15 := by omega
  rcases cs with rfl | rfl | rfl | rfl | rfl | rfl | rfl | rfl | rfl | rfl | rfl | rfl | rfl | rfl | rfl | rfl
  all_goals
    by_cases g : a7 ≤ w
    all_goals
      first
      | (refine ⟨0, fin 0 ?_, by decide, by decide, ?_⟩; simp [b_trap_of_1, b_trap_of_2, b_trap_of_3, b_trap_of_4, gl, mkT, inSq, memP, flatP, PyData.eqv, hb, h5, g]; (intro z; first | omega | (refine ⟨?_, ?_, ?_⟩ <;> omega)))
      | (refine ⟨1, fin 1 ?_, by decide, by decide, ?_⟩; simp [b_trap_of_1, b_trap_of_2, b_trap_of_3, b_trap_of_4, gl, mkT, inSq, memP, flatP, PyData.eqv, hb, h5, g]; (intro z; first | omega | (refine ⟨?_, ?_, ?_⟩ <;> omega)))
      | (refine ⟨2, fin 2 ?_, by decide, by decide, ?_⟩; simp [b_trap_of_1, b_trap_of_2, b_trap_of_3, b_trap_of_4, gl, mkT, inSq, memP, flatP, PyData.eqv, hb, h5, g]; (intro z; first | omega | (refine ⟨?_, ?_, ?_⟩ <;> omega)))
      | (refine ⟨3, fin 3 ?_, by decide, by decide, ?_⟩; simp [b_trap_of_1, b_trap_of_2, b_trap_of_3, b_trap_of_4, gl, mkT, inSq, memP, flatP, PyData.eqv, hb, h5, g]; (intro z; first | omega | (refine ⟨?_, ?_, ?_⟩ <;> omega)))
theorem trapped_ev (c : Int) (h1 : 1 ≤ c ∧ c ≤ 3) : ∃ xs, runD (Ck ds gl 100 (k + 2)) d_trapped [.pl (.tuple (S15 a0 a1 a2 a3 a4 1 a6 a7 a8 a9 a10 a11 a12 a13 a14)), .pl (.int c)] = some (.pl (.tuple xs), [.pl (.tuple (S15 a0 a1 a2 a3 a4 1 a6 a7 a8 a9 a10 a11 a12 a13 a14)), .pl (.int c)]) ∧ Tr a6 a7 a14 xs := by
  have h2 := t2 a0 a1 a2 a3 a4 1 a6 a7 a8 a9 a10 a11 a12 a13 a14
  have h3 := t3 a0 a1 a2 a3 a4 1 a6 a7 a8 a9 a10 a11 a12 a13 a14
  have o2 := number_ev (Ck ds gl 100 (k + 1)) (Ck_gl _) a3
  have cN := one_ev a0 a1 a2 a3 a4 1 a6 a7 a8 a9 a10 a11 a12 a13 a14 (Ck ds gl 100 (k + 1)) 13
  have tr := trap_ev (k := k) a0 a1 a2 a3 a4 1 a6 a7 a8 a9 a10 a11 a12 a13 a14 c a2
  have tr2 := trap_ev (k := k) a0 a1 a2 a3 a4 1 a6 a7 a8 a9 a10 a11 a12 (a3 % 4096) a14 3 (a2 + 1)
  rw [runD_go rfl]
  by_cases g : c = 3
  · subst g
    refine ⟨S15 a0 a1 0 a3 0 0 a6 a7 a8 a0 a1 ((a2 + 1) % 4096) 3 (a3 % 4096) a14, ?_, _, _, _, _, _, _, _, _, _, rfl, by omega, by omega⟩
    simp [d_trapped, b_trapped, b_trapped_0, startE, gl, h2, h3, o2, mkT, mkL, fzs, fz, cN, tr2]
  · refine ⟨S15 a0 a1 0 a3 0 0 a6 a7 a8 a0 a1 (a2 % 4096) c a13 a14, ?_, _, _, _, _, _, _, _, _, _, rfl, by omega, by omega⟩
    simp [d_trapped, b_trapped, b_trapped_0, b_trapped_1, startE, gl, h2, g, tr]
theorem fetched_ev (word : Int) : ∃ xs, runD (Ck ds gl 100 (k + 3)) d_fetched [.pl (.tuple (S15 a0 a1 a2 a3 a4 1 a6 a7 a8 a9 a10 a11 a12 a13 a14)), .pl (.int word)] = some (.pl (.tuple xs), [.pl (.tuple (S15 a0 a1 a2 a3 a4 1 a6 a7 a8 a9 a10 a11 a12 a13 a14)), .pl (.int word)]) ∧ Bt a6 a7 a14 xs := by
  have h2 := t2 a0 a1 a2 a3 a4 1 a6 a7 a8 a9 a10 a11 a12 a13 a14
  have hb := barred_ev (k := k) a0 a1 a2 a3 a4 1 a6 a7 a8 a9 a10 a11 a12 a13 a14 rfl
  have tr := trap_ev (k := k + 1) a0 a1 a2 a3 a4 1 a6 a7 a8 a9 a10 a11 a12 a13 a14 1 a2
  have cc := ch2 (Ck ds gl 100 (k + 2)) (S15 a0 a1 a2 a3 a4 1 a6 a7 a8 a9 a10 a11 a12 a13 a14) 3 word 4 1 rfl (by omega)
  rw [runD_go rfl]
  by_cases g : a7 ≤ wantI a1 a2 a3 a4
  · refine ⟨S15 a0 a1 0 a3 0 0 a6 a7 a8 a0 a1 (a2 % 4096) 1 a13 a14, ?_, .inr ⟨_, _, _, _, _, _, _, _, _, rfl, by omega, by omega⟩⟩
    simp [d_fetched, b_fetched, b_fetched_0, startE, gl, h2, g, hb, tr]
  · refine ⟨S15 a0 a1 a2 word 1 1 a6 a7 a8 a9 a10 a11 a12 a13 a14, ?_, .inl (kp ..)⟩
    simp [d_fetched, b_fetched, b_fetched_0, b_fetched_1, startE, gl, h2, g, hb, mkT, mkL, fzs, fz, cc]
end Kx

set_option maxRecDepth 100000
set_option maxHeartbeats 4000000
namespace Kx
open PySem L2 G
variable {k : Nat}
theorem beat_ev (a0 a1 a2 a3 a4 a6 a7 a8 a9 a10 a11 a12 a13 word : Int) (hw : 0 ≤ a3 ∧ a3 < 65536) : ∃ xs wv, runD (Ck ds gl 100 (k + 4)) d_beat_of [.pl (.tuple (S15 a0 a1 a2 a3 a4 1 a6 a7 a8 a9 a10 a11 a12 a13 0)), .pl (.int word)] = some (.pl (.tuple [.tuple xs, wv, .none]), [.pl (.tuple (S15 a0 a1 a2 a3 a4 1 a6 a7 a8 a9 a10 a11 a12 a13 0)), .pl (.int word)]) ∧ Bt a6 a7 0 xs ∧ (wv = .none ∨ (wv = .int a0 ∧ wantI a1 a2 a3 a4 < a7)) := by
  have h0 := t0 a0 a1 a2 a3 a4 1 a6 a7 a8 a9 a10 a11 a12 a13 0
  have h3 := t3 a0 a1 a2 a3 a4 1 a6 a7 a8 a9 a10 a11 a12 a13 0
  have h4 := t4 a0 a1 a2 a3 a4 1 a6 a7 a8 a9 a10 a11 a12 a13 0
  have h14 := t14 a0 a1 a2 a3 a4 1 a6 a7 a8 a9 a10 a11 a12 a13 0
  have o1 := op_ev (Ck ds gl 100 (k + 3)) (Ck_gl _) a3
  obtain ⟨xf, hf, pf⟩ := fetched_ev (k := k) a0 a1 a2 a3 a4 a6 a7 a8 a9 a10 a11 a12 a13 0 word
  obtain ⟨cz, hc, c0, c3, cI⟩ := trapof_ev (k := k) a0 a1 a2 a3 a4 a6 a7 a8 a9 a10 a11 a12 a13 0 hw
  by_cases g4 : a4 = 0
  · refine ⟨xf, .none, ?_, pf, .inl rfl⟩
    generalize S15 a0 a1 a2 a3 a4 1 a6 a7 a8 a9 a10 a11 a12 a13 0 = X at *
    rw [runD_go rfl]
    simp [d_beat_of, b_beat_of, b_beat_of_0, b_beat_of_1, startE, gl, h14, h4, g4, hf, mkT]
  · by_cases gc : 0 < cz
    · obtain ⟨xt, ht, pt⟩ := trapped_ev (k := k + 1) a0 a1 a2 a3 a4 a6 a7 a8 a9 a10 a11 a12 a13 0 cz ⟨gc, c3⟩
      refine ⟨xt, .none, ?_, .inr pt, .inl rfl⟩
      generalize S15 a0 a1 a2 a3 a4 1 a6 a7 a8 a9 a10 a11 a12 a13 0 = X at *
      rw [runD_go rfl]
      simp [d_beat_of, b_beat_of, b_beat_of_0, b_beat_of_1, b_beat_of_2, b_beat_of_3, startE, gl, h14, h4, g4, hc, gc, ht, mkT]
    · have ez : cz = 0 := by omega
      obtain ⟨n14, n15, hlt⟩ := cI ez
      subst ez
      obtain ⟨xr, hr, b0, b1, b2, b3, b4, b8, b9, b10, b11, b12, b13, rfl⟩ := row_ev (k := k + 1) a0 a1 a2 a3 a4 1 a6 a7 a8 a9 a10 a11 a12 a13 0 word n14 n15
      obtain ⟨xg, hg, pg⟩ := rung_ev (k := k + 1) a0 a1 a2 a3 a4 a6 a7 a8 a9 a10 a11 a12 a13 0 b0 b1 b2 b3 b4 b8 b9 b10 b11 b12 b13
      by_cases gw : a3 / 4096 = 2 ∨ a3 / 4096 = 10
      · refine ⟨xg, .int a0, ?_, pg, .inr ⟨rfl, hlt gw⟩⟩
        generalize S15 a0 a1 a2 a3 a4 1 a6 a7 a8 a9 a10 a11 a12 a13 0 = X at *
        rw [runD_go rfl]
        rcases gw with gw | gw
        · simp [d_beat_of, b_beat_of, b_beat_of_0, b_beat_of_1, b_beat_of_2, b_beat_of_3, b_beat_of_4, b_beat_of_5, b_beat_of_6, b_beat_of_7, b_beat_of_8, b_beat_of_9, startE, gl, h0, h3, h14, h4, g4, hc, o1, gw, hr, hg, mkT]
        · simp [d_beat_of, b_beat_of, b_beat_of_0, b_beat_of_1, b_beat_of_2, b_beat_of_3, b_beat_of_4, b_beat_of_5, b_beat_of_6, b_beat_of_7, b_beat_of_8, b_beat_of_9, startE, gl, h0, h3, h14, h4, g4, hc, o1, gw, hr, hg, mkT]
      · have w2 : ¬ a3 / 4096 = 2 := fun z => gw (.inl z)
        have w10 : ¬ a3 / 4096 = 10 := fun z => gw (.inr z)
        refine ⟨xg, .none, ?_, pg, .inl rfl⟩
        generalize S15 a0 a1 a2 a3 a4 1 a6 a7 a8 a9 a10 a11 a12 a13 0 = X at *
        rw [runD_go rfl]
        simp [d_beat_of, b_beat_of, b_beat_of_0, b_beat_of_1, b_beat_of_2, b_beat_of_3, b_beat_of_4, b_beat_of_5, b_beat_of_6, b_beat_of_7, b_beat_of_8, b_beat_of_9, startE, gl, h0, h3, h14, h4, g4, hc, o1, w2, w10, n14, hr, hg, mkT]
theorem cell_ev (c : Ct) (ns : List Int) (j : Nat) (hl : ns.length ≤ 63) : ∃ v : Int, runD c d__law_cell_at [.pl (.list (il ns)), .pl (.int (j : Int))] = some (.pl (.int v), [.pl (.list (il ns)), .pl (.int (j : Int))]) := by
  by_cases h : j < ns.length
  · refine ⟨ns[j], ?_⟩
    have a := atI_ints ns j h
    rw [runD_go rfl]
    simp [d__law_cell_at, b__law_cell_at, b__law_cell_at_0, b__law_cell_at_1, startE, h, a]
  · refine ⟨0, ?_⟩
    rw [runD_go rfl]
    simp [d__law_cell_at, b__law_cell_at, b__law_cell_at_0, b__law_cell_at_1, startE, h]
end Kx

set_option maxRecDepth 100000
set_option maxHeartbeats 4000000
namespace Kx
open PySem L2 G
theorem cutS (a0 a1 a2 a3 a4 a5 a6 a7 a8 a9 a10 a11 a12 a13 a14 : Int) : cutP (S15 a0 a1 a2 a3 a4 a5 a6 a7 a8 a9 a10 a11 a12 a13 a14) (some 6) (some 8) = [.int a6, .int a7] := rfl
theorem eq2 (a b : Int) : eqP (.tuple [.int a, .int b]) (.tuple [.int a, .int b]) = some true := by
  have h : SeqAt.shaped (.tuple [.int a, .int b]) = true := by kernel_rfl
  unfold eqP
  rw [if_pos ⟨h, h⟩]
  simp [PyData.eqv, PyData.eqvAll]
theorem want_nn {x p i f : Int} (hp : 0 ≤ p) : 0 ≤ wantI x p i f := by
  unfold wantI
  split
  · exact hp
  · split <;> omega
/-- what the turn asks of a state behind the beat -/
structure Aft (a6 a7 : Int) (xs : List P) (m p f c : Int) : Prop where
  hm : atI xs 5 = some (.int m)
  hp : atI xs 2 = some (.int p)
  hf : atI xs 4 = some (.int f)
  hc : atI xs 12 = some (.int c)
  hh : atI xs 14 = some (.int 0)
  hs : cutP xs (some 6) (some 8) = [.int a6, .int a7]
  ok : m = 1 ∨ (m = 0 ∧ p = 0 ∧ f = 0 ∧ 1 ≤ c ∧ c ≤ 4)
theorem Bt.aft {a6 a7 : Int} {xs : List P} (h : Bt a6 a7 0 xs) : ∃ m p f c, Aft a6 a7 xs m p f c := by
  rcases h with ⟨b0, b1, b2, b3, b4, b8, b9, b10, b11, b12, b13, rfl⟩ | ⟨b0, b1, b3, b8, b9, b10, b11, c, b13, rfl, h1, h2⟩
  · exact ⟨1, b2, b4, b12, rfl, rfl, rfl, rfl, rfl, cutS .., .inl rfl⟩
  · exact ⟨0, 0, 0, c, rfl, rfl, rfl, rfl, rfl, cutS .., .inr ⟨rfl, rfl, rfl, h1, h2⟩⟩
theorem turn_ev (ns : List Int) (hl : ns.length ≤ 63) (o1 o2 o3 o4 o5 o6 : Option O) (i : Nat) : ∃ p1 p2 p3 p4 p5 p6 : Option O, bodyF (Ck ds gl 100 20) (.nm 1) b_law_0b [some (.pl (.list (il ns))), o1, o2, o3, o4, o5, o6] (.int (i : Int)) = some (.nx, [some (.pl (.list (il ns))), p1, p2, p3, p4, p5, p6]) := by
  obtain ⟨cell, hcell⟩ := cell_ev (Ck ds gl 100 19) ns (2 * i) hl
  obtain ⟨wd, hwd⟩ := cell_ev (Ck ds gl 100 19) ns (2 * i + 1) hl
  obtain ⟨r, hr, r0, r1⟩ := mixed_ev (Ck ds gl 100 19) cell (1 + i)
  obtain ⟨st, hs, hf⟩ := state_ev (k := 17) cell r
  have hlen := hf.1
  match st, hlen with
  | [a0, a1, a2, a3, a4, a5, a6, a7, a8, a9, a10, a11, a12, a13, a14], _ =>
  have f2 : 0 ≤ a2 ∧ a2 < 4096 := hf.2 2 a2 4096 rfl rfl
  have f3 : 0 ≤ a3 ∧ a3 < 65536 := hf.2 3 a3 65536 rfl rfl
  have f7 : 0 ≤ a7 ∧ a7 < 4096 := hf.2 7 a7 4096 rfl rfl
  have hs : runD (Ck ds gl 100 19) d__law_state_by [.pl (.int cell), .pl (.int r)] = some (.pl (.tuple (S15 a0 a1 a2 a3 a4 a5 a6 a7 a8 a9 a10 a11 a12 a13 a14)), [.pl (.int cell), .pl (.int r)]) := hs
  obtain ⟨xs, wv, hb, pb, pw⟩ := beat_ev (k := 15) a0 a1 a2 a3 a4 a6 a7 a8 a9 a10 a11 a12 a13 (wd % 65536) f3
  obtain ⟨m, p, f, c, A⟩ := Bt.aft pb
  have ha := asked_ev (k := 17) a0 a1 a2 a3 a4 1 a6 a7 a8 a9 a10 a11 a12 a13 0 rfl
  have h6 := t6 a0 a1 a2 a3 a4 1 a6 a7 a8 a9 a10 a11 a12 a13 0
  have h7 := t7 a0 a1 a2 a3 a4 1 a6 a7 a8 a9 a10 a11 a12 a13 0
  have hcut := cutS a0 a1 a2 a3 a4 1 a6 a7 a8 a9 a10 a11 a12 a13 0
  have e2 := eq2 a6 a7
  have nn := want_nn (x := a1) (i := a3) (f := a4) f2.1
  have y0 : ∀ o, G.exec (Ck ds gl 100 20) [some (.pl (.list (il ns))), some (.pl (.int (i : Int))), o, o3, o4, o5, o6] b_law_0b_0 = some (.nx, [some (.pl (.list (il ns))), some (.pl (.int (i : Int))), some (.pl (.int cell)), o3, o4, o5, o6]) := fun o => by
    have e : (2 : Int) * (i : Int) = ((2 * i : Nat) : Int) := by omega
    have hm : mulOk 2 (i : Int) := .inl (by omega)
    simp [b_law_0b_0, hm]
    rw [e, hcell]
    rfl
  have y1 : ∀ o, G.exec (Ck ds gl 100 20) [some (.pl (.list (il ns))), some (.pl (.int (i : Int))), some (.pl (.int cell)), o, o4, o5, o6] b_law_0b_1 = some (.nx, [some (.pl (.list (il ns))), some (.pl (.int (i : Int))), some (.pl (.int cell)), some (.fl (S15 a0 a1 a2 a3 a4 a5 a6 a7 a8 a9 a10 a11 a12 a13 a14)), o4, o5, o6]) := fun o => by
    simp [b_law_0b_1, hr, hs, fz]
  have y2 : ∀ o, G.exec (Ck ds gl 100 20) [some (.pl (.list (il ns))), some (.pl (.int (i : Int))), some (.pl (.int cell)), some (.fl (S15 a0 a1 a2 a3 a4 a5 a6 a7 a8 a9 a10 a11 a12 a13 a14)), o4, o5, o] b_law_0b_2 = some (.nx, [some (.pl (.list (il ns))), some (.pl (.int (i : Int))), some (.pl (.int cell)), some (.fl (S15 a0 a1 a2 a3 a4 1 a6 a7 a8 a9 a10 a11 a12 a13 a14)), o4, o5, o]) := fun o => by
    have e : ixN 15 5 = some 5 := rfl
    simp [b_law_0b_2, e, fz]
  have y3 : ∀ o, G.exec (Ck ds gl 100 20) [some (.pl (.list (il ns))), some (.pl (.int (i : Int))), some (.pl (.int cell)), some (.fl (S15 a0 a1 a2 a3 a4 1 a6 a7 a8 a9 a10 a11 a12 a13 a14)), o4, o5, o] b_law_0b_3 = some (.nx, [some (.pl (.list (il ns))), some (.pl (.int (i : Int))), some (.pl (.int cell)), some (.fl (S15 a0 a1 a2 a3 a4 1 a6 a7 a8 a9 a10 a11 a12 a13 0)), o4, o5, o]) := fun o => by
    have e : ixN 15 14 = some 14 := rfl
    simp [b_law_0b_3, e, fz]
  have y4 : ∀ o, G.exec (Ck ds gl 100 20) [some (.pl (.list (il ns))), some (.pl (.int (i : Int))), some (.pl (.int cell)), some (.fl (S15 a0 a1 a2 a3 a4 1 a6 a7 a8 a9 a10 a11 a12 a13 0)), o4, o5, o] b_law_0b_4 = some (.nx, [some (.pl (.list (il ns))), some (.pl (.int (i : Int))), some (.pl (.int cell)), some (.pl (.tuple (S15 a0 a1 a2 a3 a4 1 a6 a7 a8 a9 a10 a11 a12 a13 0))), o4, o5, o]) := fun o => by
    simp [b_law_0b_4]
  generalize S15 a0 a1 a2 a3 a4 1 a6 a7 a8 a9 a10 a11 a12 a13 0 = X at *
  generalize wantI a1 a2 a3 a4 = w at *
  refine ⟨some (.pl (.int (i : Int))), some (.pl (.int cell)), some (.pl (.tuple X)), some (.pl (.tuple xs)), some (.pl wv), some (.pl .none), ?_⟩
  have y5 : G.exec (Ck ds gl 100 20) [some (.pl (.list (il ns))), some (.pl (.int (i : Int))), some (.pl (.int cell)), some (.pl (.tuple X)), o4, o5, o6] b_law_0b_5 = some (.nx, [some (.pl (.list (il ns))), some (.pl (.int (i : Int))), some (.pl (.int cell)), some (.pl (.tuple X)), some (.pl (.tuple xs)), some (.pl wv), some (.pl .none)]) := by
    have e : (2 : Int) * (i : Int) + 1 = ((2 * i + 1 : Nat) : Int) := by omega
    have hm : mulOk 2 (i : Int) := .inl (by omega)
    have hw2 : (Ck ds gl 100 20).call 17 [.pl (.list (il ns)), .pl (.int (2 * (i : Int) + 1))] = some (.pl (.int wd), [.pl (.list (il ns)), .pl (.int ((2 * i + 1 : Nat) : Int))]) := by
      rw [e]
      exact hwd
    have hb' : (Ck ds gl 100 20).call 16 [.pl (.tuple X), .pl (.int (wd % 65536))] = some (.pl (.tuple [.tuple xs, wv, .none]), [.pl (.tuple X), .pl (.int (wd % 65536))]) := hb
    simp [b_law_0b_5, hm, -call__law_cell_at, -call_beat_of, hw2, hb', setTg]
  have y6 : G.exec (Ck ds gl 100 20) [some (.pl (.list (il ns))), some (.pl (.int (i : Int))), some (.pl (.int cell)), some (.pl (.tuple X)), some (.pl (.tuple xs)), some (.pl wv), some (.pl .none)] b_law_0b_6 = some (.nx, [some (.pl (.list (il ns))), some (.pl (.int (i : Int))), some (.pl (.int cell)), some (.pl (.tuple X)), some (.pl (.tuple xs)), some (.pl wv), some (.pl .none)]) := by
    simp [b_law_0b_6, hcut, A.hs, e2, A.hh, eqO, fz, isNo]
  have y7 : G.exec (Ck ds gl 100 20) [some (.pl (.list (il ns))), some (.pl (.int (i : Int))), some (.pl (.int cell)), some (.pl (.tuple X)), some (.pl (.tuple xs)), some (.pl wv), some (.pl .none)] b_law_0b_7 = some (.nx, [some (.pl (.list (il ns))), some (.pl (.int (i : Int))), some (.pl (.int cell)), some (.pl (.tuple X)), some (.pl (.tuple xs)), some (.pl wv), some (.pl .none)]) := by
    rcases pw with rfl | ⟨rfl, hlt⟩
    · simp [b_law_0b_7, isNo]
    · have e : ((a6 + w) % 4096 - a6) % 4096 = w := by omega
      have e3 : ¬ a7 ≤ w := by omega
      simp [b_law_0b_7, isNo, ha, h6, h7, e, e3]
  have y8 : G.exec (Ck ds gl 100 20) [some (.pl (.list (il ns))), some (.pl (.int (i : Int))), some (.pl (.int cell)), some (.pl (.tuple X)), some (.pl (.tuple xs)), some (.pl wv), some (.pl .none)] b_law_0b_8 = some (.nx, [some (.pl (.list (il ns))), some (.pl (.int (i : Int))), some (.pl (.int cell)), some (.pl (.tuple X)), some (.pl (.tuple xs)), some (.pl wv), some (.pl .none)]) := by
    have am := A.hm
    have ap := A.hp
    have af := A.hf
    have ac := A.hc
    rcases A.ok with g | ⟨g1, g2, g3, g4, g5⟩
    · simp [b_law_0b_8, am, g]
    · simp [b_law_0b_8, am, ap, af, ac, g1, g2, g3, g4, g5, chn]
  unfold bodyF b_law_0b
  show execs _ _ (some (.nx, [some (.pl (.list (il ns))), some (.pl (.int (i : Int))), o2, o3, o4, o5, o6])) = _
  rw [execs_go, y0, execs_go, y1, execs_go, y2, execs_go, y3, execs_go, y4, execs_go, y5, execs_go, y6, execs_go, y7, execs_go, y8]
  rw [G.execs]
theorem law_true : ∀ ns : List Int, ns.length ≤ 63 → ∃ os, runD (Ck ds gl 100 20) d_law [.pl (.list (ns.map .int))] = some (.pl (.bool true), os) := by
  intro ns hn
  obtain ⟨e, h1, o1, o2, o3, o4, o5, o6, rfl⟩ := for_inv (f := bodyF (Ck ds gl 100 20) (.nm 1) b_law_0b) (fun _ env => ∃ o1 o2 o3 o4 o5 o6 : Option O, env = [some (.pl (.list (il ns))), o1, o2, o3, o4, o5, o6]) (rangeP 0 (1 + (if (ns.length : Int) / 2 < 30 then (ns.length : Int) / 2 else 30))) 0 [some (.pl (.list (il ns))), none, none, none, none, none, none] ⟨_, _, _, _, _, _, rfl⟩ (by
    rintro i p env hp ⟨o1, o2, o3, o4, o5, o6, rfl⟩
    obtain ⟨rfl, hi⟩ := rangeP_get hp
    obtain ⟨p1, p2, p3, p4, p5, p6, h⟩ := turn_ev ns hn o1 o2 o3 o4 o5 o6 i
    rw [show (0 : Int) + (i : Int) = (i : Int) by omega]
    exact ⟨_, h, _, _, _, _, _, _, rfl⟩)
  refine ⟨[.pl (.list (il ns))], ?_⟩
  show runD _ _ [.pl (.list (il ns))] = _
  rw [runD_go rfl]
  show argD _ (outD (execs _ b_law _)) = _
  unfold b_law
  have hok : okI (1 + (if (ns.length : Int) / 2 < 30 then (ns.length : Int) / 2 else 30)) := by
    unfold okI
    split <;> omega
  have z1 : evJ (Ck ds gl 100 20) (startE 7 [.pl (.list (il ns))]) (.range1 (.bin .Add (.lit (.int 1)) (.bi .min (.cons (.lit (.int 30)) (.cons (.bin .FloorDiv (.bi .len (.cons (.var 0) .nil)) (.lit (.int 2))) .nil))))) = some (rangeP 0 (1 + (if (ns.length : Int) / 2 < 30 then (ns.length : Int) / 2 else 30))) := by
    simp [evJ, startE, hok]
  rw [execs_go, show d_law.n = 7 from rfl]
  unfold b_law_0
  rw [exec_forr, z1]
  show argD _ (outD (execs _ _ (forGo _ _ [some (.pl (.list (il ns))), none, none, none, none, none, none]))) = _
  rw [h1]
  simp [b_law_1]
end Kx

namespace Kx
open PySem L2 G
theorem fin {w : World} {K : PySem.W.Frag} {h : Heap} {mg : Str → Option Value} {fa f : Addr} {Pr : Program} {kV dc pm cd ct : Value} {an : Option Addr} (X : K.In h) (G : h.Ns mainGlobals mg) (hmg : mg "law" = some (.ref fa)) (A : ProgOk K mg T ds gl ∧ DefOk K mg T d_law "law" f (PySem.W.fnOf "law" "law" (defArgs s23) (defBody s23) (defScope s23) .none kV dc pm an cd ct) P23) :
    ∃ fd : FuncData, (∀ (s : Shared) (u : Value), BindsTo s fd ⟨[u], []⟩ [("_law_script", u)]) ∧ ∀ base : Heap, K.In base → base.Ns mainGlobals mg → FnOk Pr w K mg base CX0 21 fa fd ["_law_script"] (spEnd K 63) := by
  have e := hmg.symm.trans A.2.mg
  cases e
  exact ⟨_, fun s v => .of_eq rfl, fun base _ _ => end_fn (fuel := 100) (k := 20) (n := 63) A.1 A.2 law_true⟩
end Kx
open PySem PySem.W PyProof.Rows L2 G in
set_option maxRecDepth 100000 in
set_option maxHeartbeats 0 in
theorem PySem.Challenge.cw_gatetown_k13_tasks_kept_in_their_stretch_holds : PySem.Challenge.rw_gatetown_k13_tasks_kept_in_their_stretch.Holds := by
  w_on; o_law; k_head; (case hw => w_witness2)
  k_fill
  refine G.walkG (l := PySem.Challenge.rw_gatetown_k13_tasks_kept_in_their_stretch) (n := 63) (k := 21) (x := "_law_script") rfl (by decide) rfl ⟨rfl, by decide, by decide⟩ (fun w h Y => PySem.W.kIn_of Y) ?F
  case F =>
    intro w mg fa h KX G hmg
    refine' Kx.fin KX G hmg (Kx.all_mk (w := w) KX G ?ka0 ?kl0 ?kc0 ?kk0 ?ka1 ?kl1 ?kc1 ?kk1 ?ka2 ?kl2 ?kc2 ?kk2 ?ka3 ?kl3 ?kc3 ?kk3 ?ka4 ?kl4 ?kc4 ?kk4 ?ka5 ?kl5 ?kc5 ?kk5 ?ka6 ?kl6 ?kc6 ?kk6 ?ka7 ?kl7 ?kc7 ?kk7 ?ka8 ?kl8 ?kc8 ?kk8 ?ka9 ?kl9 ?kc9 ?kk9 ?ka10 ?kl10 ?kc10 ?kk10 ?ka11 ?kl11 ?kc11 ?kk11 ?ka12 ?kl12 ?kc12 ?kk12 ?ka13 ?kl13 ?kc13 ?kk13 ?ka14 ?kl14 ?kc14 ?kk14 ?ka15 ?kl15 ?kc15 ?kk15 ?ka16 ?kl16 ?kc16 ?kk16 ?ka17 ?kl17 ?kc17 ?kk17 ?ka18 ?kl18 ?kc18 ?kk18 ?ka19 ?kl19 ?kc19 ?kk19 ?ka20 ?kl20 ?kc20 ?kk20 ?ka21 ?kl21 ?kc21 ?kk21 ?ka22 ?kl22 ?kc22 ?kk22 ?ka23 ?kl23 ?kc23 ?kk23 ?kg0 ?kg1 ?kg2 ?kg3 ?kg4 ?kg5 ?kg6 ?kg7 ?kg8 ?kg9 ?kg10 ?kg11 ?kg12 ?kg13 ?kg14 ?kg15 ?kg16 ?kg17 ?kg18 ?kg19 ?kg20 ?kg21 ?z_len ?z_abs ?z_int ?z_str ?z_list ?z_tuple ?z_max ?z_min ?z_sum ?z_all ?z_any ?z_sorted ?z_isinstance ?z_range ?z_enumerate ?z_zip ?z_reversed ?z_bool ?z_dict)
    (case ka0 => k_is); (case kl0 => k_is); (case kc0 => k_is); (case kk0 => k_is); (case ka1 => k_is); (case kl1 => k_is); (case kc1 => k_is); (case kk1 => k_is); (case ka2 => k_is); (case kl2 => k_is); (case kc2 => k_is); (case kk2 => k_is); (case ka3 => k_is); (case kl3 => k_is); (case kc3 => k_is); (case kk3 => k_is); (case ka4 => k_is); (case kl4 => k_is); (case kc4 => k_is); (case kk4 => k_is); (case ka5 => k_is); (case kl5 => k_is); (case kc5 => k_is); (case kk5 => k_is); (case ka6 => k_is); (case kl6 => k_is); (case kc6 => k_is); (case kk6 => k_is); (case ka7 => k_is); (case kl7 => k_is); (case kc7 => k_is); (case kk7 => k_is); (case ka8 => k_is); (case kl8 => k_is); (case kc8 => k_is); (case kk8 => k_is); (case ka9 => k_is); (case kl9 => k_is); (case kc9 => k_is); (case kk9 => k_is); (case ka10 => k_is); (case kl10 => k_is); (case kc10 => k_is); (case kk10 => k_is); (case ka11 => k_is); (case kl11 => k_is); (case kc11 => k_is); (case kk11 => k_is); (case ka12 => k_is); (case kl12 => k_is); (case kc12 => k_is); (case kk12 => k_is); (case ka13 => k_is); (case kl13 => k_is); (case kc13 => k_is); (case kk13 => k_is); (case ka14 => k_is); (case kl14 => k_is); (case kc14 => k_is); (case kk14 => k_is); (case ka15 => k_is); (case kl15 => k_is); (case kc15 => k_is); (case kk15 => k_is); (case ka16 => k_is); (case kl16 => k_is); (case kc16 => k_is); (case kk16 => k_is); (case ka17 => k_is); (case kl17 => k_is); (case kc17 => k_is); (case kk17 => k_is); (case ka18 => k_is); (case kl18 => k_is); (case kc18 => k_is); (case kk18 => k_is); (case ka19 => k_is); (case kl19 => k_is); (case kc19 => k_is); (case kk19 => k_is); (case ka20 => k_is); (case kl20 => k_is); (case kc20 => k_is); (case kk20 => k_is); (case ka21 => k_is); (case kl21 => k_is); (case kc21 => k_is); (case kk21 => k_is); (case ka22 => k_is); (case kl22 => k_is); (case kc22 => k_is); (case kk22 => k_is); (case ka23 => k_is); (case kl23 => k_is); (case kc23 => k_is); (case kk23 => k_is); (case kg0 => k_is); (case kg1 => k_is); (case kg2 => k_is); (case kg3 => k_is); (case kg4 => k_is); (case kg5 => k_is); (case kg6 => k_is); (case kg7 => k_is); (case kg8 => k_is); (case kg9 => k_is); (case kg10 => k_is); (case kg11 => k_is); (case kg12 => k_is); (case kg13 => k_is); (case kg14 => k_is); (case kg15 => k_is); (case kg16 => k_is); (case kg17 => k_is); (case kg18 => k_is); (case kg19 => k_is); (case kg20 => k_is); (case kg21 => k_is); (case z_len => k_is); (case z_abs => k_is); (case z_int => k_is); (case z_str => k_is); (case z_list => k_is); (case z_tuple => k_is); (case z_max => k_is); (case z_min => k_is); (case z_sum => k_is); (case z_all => k_is); (case z_any => k_is); (case z_sorted => k_is); (case z_isinstance => k_is); (case z_range => k_is); (case z_enumerate => k_is); (case z_zip => k_is); (case z_reversed => k_is); (case z_bool => k_is); (case z_dict => k_is)

