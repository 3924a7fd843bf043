import PyProof.Rows.All
import Wide.All
import OpenK.AllK
import Wide.FinOn
import HandS.WideMore
import HandS.ForMost
import HandS.TupMul
import HandS.TupAny
import HandS.IsInst
import HandS.Text
import HandS.TupLe
import HandS.More
import HandS.ForExc
import HandS.ExcOwn
import HandS.Zip
import HandS.Rev
import KE.GoesZip
import PyProof.EnumMake
import KE.GoesMore
import HandS.NoneIn
import HandS.Conv
import HandS.Strs
import HandS.SetFor
import PyProof.FactsAll.str_3
import PyProof.FactsAll.str_4
import PyProof.FactsAll.str_5
import PyProof.FactsAll.tuple_2
import PyProof.DictUpdate
import HandS.Style
import HandS.Small
import PyProof.FactsAll.list_3
import PyProof.FactsAll.list_4
import PySem.Challenge.RW_gatetown_k81_signs
set_option Elab.async false
set_option linter.all false
set_option maxRecDepth 100000
namespace G
open PySem L2

/-! ### data -/
abbrev P := PyData
inductive O where
  | pl (p : P) | fl (xs : List P) | fd (kvs : List (P × P)) | lst (xs : List O) | dic (kvs : List (P × O)) | tup (xs : List O) | obj (c : Str) (fs : List (Str × O)) | hole
instance : Inhabited P := ⟨.none⟩
instance : Inhabited O := ⟨.pl .none⟩

def keyP : P → Option Key
  | .int i => some (.inl i)
  | .str s => some (.inr s)
  | _ => none

/-- a list that is read: tracked, frozen, or known whole -/
def SL (K : PySem.W.Frag) (H : Hp) (a : Addr) (xs : List V) : Prop :=
  Rd H a (.lst xs) ∨ ∃ (its : Array Value) (n : Nat), K.lookup a = some { cls := .type "list", dict := none, data := .seq its n, slots := #[] } ∧ its.size ≤ sizeLine ∧ Vals xs its.toList
theorem SL.of {K : PySem.W.Frag} {H : Hp} {a : Addr} {xs : List V} (h : H a = some (.lst xs)) : SL K H a xs := .inl (.of h)
theorem SL.sq {K : PySem.W.Frag} {H : Hp} {a : Addr} {xs : List V} (h : SL K H a xs) : SqL K H a xs := by
  rcases h with h | ⟨its, n, h1, h2, h3⟩
  · exact .inl h
  · exact .inr ⟨_, its, n, h1, rfl, rfl, rfl, h2, h3⟩
section
variable (K : PySem.W.Frag)
mutual
inductive RP (B : Hp) : V → P → Prop
  | non : RP B .non .none
  | bl {b : Bool} : RP B (.bl b) (.bool b)
  | int {i : Int} : RP B (.int i) (.int i)
  | str {s : Str} : RP B (.str s) (.str s)
  | tup {a : Addr} {vs : List V} {xs : List P} : SqT K B a vs → RPs B vs xs → RP B (.ref a) (.tuple xs)
  | lst {a : Addr} {vs : List V} {xs : List P} : SL K B a vs → RPs B vs xs → RP B (.ref a) (.list xs)
  | dic {a : Addr} {us : List (Key × V)} {kvs : List (P × P)} : Rd B a (.dK us) → RPd B us kvs → RP B (.ref a) (.dict kvs)
inductive RPs (B : Hp) : List V → List P → Prop
  | nil : RPs B [] []
  | cons {v : V} {vs : List V} {p : P} {ps : List P} : RP B v p → RPs B vs ps → RPs B (v :: vs) (p :: ps)
inductive RPd (B : Hp) : List (Key × V) → List (P × P) → Prop
  | nil : RPd B [] []
  | cons {k : Key} {v : V} {us : List (Key × V)} {q p : P} {kvs : List (P × P)} : keyP q = some k → RP B v p → RPd B us kvs → RPd B ((k, v) :: us) ((q, p) :: kvs)
end
/-- the class that the module's name c holds -/
def clsK (c : Str) : Option Addr := match PySem.W.nsIn K mainGlobals c with
  | some (some (.ref C)) => some C
  | _ => none
mutual
/-- v stands for o: the parts that are held alone lie at f in H, the others in B -/
inductive RO (B H : Hp) : V → O → List Addr → Prop
  | pl {v : V} {p : P} : RP K B v p → RO B H v (.pl p) []
  | fl {a : Addr} {vs : List V} {xs : List P} : H a = some (.lst vs) → RPs K B vs xs → RO B H (.ref a) (.fl xs) [a]
  | fd {a : Addr} {us : List (Key × V)} {kvs : List (P × P)} : H a = some (.dK us) → RPd K B us kvs → RO B H (.ref a) (.fd kvs) [a]
  | lst {a : Addr} {vs : List V} {xs : List O} {f : List Addr} : H a = some (.lst vs) → ROs B H vs xs f → RO B H (.ref a) (.lst xs) (a :: f)
  | dic {a : Addr} {us : List (Key × V)} {kvs : List (P × O)} {f : List Addr} : H a = some (.dK us) → ROd B H us kvs f → RO B H (.ref a) (.dic kvs) (a :: f)
  | tup {a : Addr} {vs : List V} {xs : List O} {f : List Addr} : B a = some (.tup vs) → ROs B H vs xs f → RO B H (.ref a) (.tup xs) f
  | obj {a dx C : Addr} {us : List (Str × V)} {c : Str} {kvs : List (Str × O)} {f : List Addr} : clsK K c = some C → Cls K C → (∀ q ∈ kvs, NoAttr K C q.1) → H a = some (.ins C dx us) → H dx = some (.own a) → ROf B H us kvs f → RO B H (.ref a) (.obj c kvs) (a :: dx :: f)
  | hole {v : V} : RO B H v .hole []
inductive ROs (B H : Hp) : List V → List O → List Addr → Prop
  | nil : ROs B H [] [] []
  | cons {v : V} {vs : List V} {o : O} {os : List O} {f g : List Addr} : RO B H v o f → ROs B H vs os g → ROs B H (v :: vs) (o :: os) (f ++ g)
inductive ROd (B H : Hp) : List (Key × V) → List (P × O) → List Addr → Prop
  | nil : ROd B H [] [] []
  | cons {k : Key} {v : V} {us : List (Key × V)} {q : P} {o : O} {kvs : List (P × O)} {f g : List Addr} : keyP q = some k → RO B H v o f → ROd B H us kvs g → ROd B H ((k, v) :: us) ((q, o) :: kvs) (f ++ g)
inductive ROf (B H : Hp) : List (Str × V) → List (Str × O) → List Addr → Prop
  | nil : ROf B H [] [] []
  | cons {x : Str} {v : V} {us : List (Str × V)} {o : O} {kvs : List (Str × O)} {f g : List Addr} : RO B H v o f → ROf B H us kvs g → ROf B H ((x, v) :: us) ((x, o) :: kvs) (f ++ g)
end
end

def Ext (A B : Hp) : Prop := ∀ a o, A a = some o → B a = some o
theorem Ext.refl (H : Hp) : Ext H H := fun _ _ h => h
theorem Ext.trans {A B C : Hp} (h : Ext A B) (k : Ext B C) : Ext A C := fun a o e => k a o (h a o e)
theorem Ext.upd {H : Hp} {a : Addr} {o : HO} (h : H a = none) : Ext H (upd H a o) := fun b u e => by
  rw [upd_ne (ne_of_none e h)]
  exact e
theorem Ext.none {A B : Hp} (h : Ext A B) {a : Addr} (e : B a = Option.none) : A a = Option.none := by
  cases q : A a with
  | none => rfl
  | some o =>
    rw [h a o q] at e
    cases e
theorem Ext.rd {A B : Hp} (e : Ext A B) {a : Addr} {u : HO} (h : Rd A a u) : Rd B a u := by
  rcases h with h | ⟨o, h⟩
  · exact .inl (e a _ h)
  · exact .inr ⟨o, e a _ h⟩
section
variable {K : PySem.W.Frag} {A B H H' : Hp}
theorem Ext.sqL (e : Ext A B) {a : Addr} {xs : List V} (h : SqL K A a xs) : SqL K B a xs := by
  rcases h with h | h
  · exact .inl (e.rd h)
  · exact .inr h
theorem Ext.sl (e : Ext A B) {a : Addr} {xs : List V} (h : SL K A a xs) : SL K B a xs := by
  rcases h with h | h
  · exact .inl (e.rd h)
  · exact .inr h
theorem Ext.sqT (e : Ext A B) {a : Addr} {xs : List V} (h : SqT K A a xs) : SqT K B a xs := by
  rcases h with h | h
  · exact .inl (e.rd h)
  · exact .inr h
mutual
theorem RP.mono (e : Ext A B) : ∀ {v : V} {p : P}, RP K A v p → RP K B v p
  | _, _, .non => .non
  | _, _, .bl => .bl
  | _, _, .int => .int
  | _, _, .str => .str
  | _, _, .tup h r => .tup (e.sqT h) (RPs.mono e r)
  | _, _, .lst h r => .lst (e.sl h) (RPs.mono e r)
  | _, _, .dic h r => .dic (e.rd h) (RPd.mono e r)
theorem RPs.mono (e : Ext A B) : ∀ {v : List V} {p : List P}, RPs K A v p → RPs K B v p
  | _, _, .nil => .nil
  | _, _, .cons h r => .cons (RP.mono e h) (RPs.mono e r)
theorem RPd.mono (e : Ext A B) : ∀ {v : List (Key × V)} {p : List (P × P)}, RPd K A v p → RPd K B v p
  | _, _, .nil => .nil
  | _, _, .cons q h r => .cons q (RP.mono e h) (RPd.mono e r)
end
/-! the held parts stay, the others may grow -/
mutual
theorem RO.mono (e : Ext A B) : ∀ {v : V} {o : O} {f : List Addr}, (∀ a ∈ f, ∀ u, H a = some u → H' a = some u) → RO K A H v o f → RO K B H' v o f
  | _, _, _, _, .pl r => .pl (r.mono e)
  | _, _, _, k, .fl h r => .fl (k _ (by simp) _ h) (r.mono e)
  | _, _, _, k, .fd h r => .fd (k _ (by simp) _ h) (r.mono e)
  | _, _, _, k, .lst h r => .lst (k _ (by simp) _ h) (ROs.mono e (fun a ha => k a (by simp [ha])) r)
  | _, _, _, k, .dic h r => .dic (k _ (by simp) _ h) (ROd.mono e (fun a ha => k a (by simp [ha])) r)
  | _, _, _, k, .tup h r => .tup (e _ _ h) (ROs.mono e k r)
  | _, _, _, k, .obj c cc cn h h2 r => .obj c cc cn (k _ (by simp) _ h) (k _ (by simp) _ h2) (ROf.mono e (fun a ha => k a (by simp [ha])) r)
  | _, _, _, _, .hole => .hole
theorem ROs.mono (e : Ext A B) : ∀ {v : List V} {o : List O} {f : List Addr}, (∀ a ∈ f, ∀ u, H a = some u → H' a = some u) → ROs K A H v o f → ROs K B H' v o f
  | _, _, _, _, .nil => .nil
  | _, _, _, k, .cons h r => .cons (RO.mono e (fun a ha => k a (by simp [ha])) h) (ROs.mono e (fun a ha => k a (by simp [ha])) r)
theorem ROd.mono (e : Ext A B) : ∀ {v : List (Key × V)} {o : List (P × O)} {f : List Addr}, (∀ a ∈ f, ∀ u, H a = some u → H' a = some u) → ROd K A H v o f → ROd K B H' v o f
  | _, _, _, _, .nil => .nil
  | _, _, _, k, .cons q h r => .cons q (RO.mono e (fun a ha => k a (by simp [ha])) h) (ROd.mono e (fun a ha => k a (by simp [ha])) r)
theorem ROf.mono (e : Ext A B) : ∀ {v : List (Str × V)} {o : List (Str × O)} {f : List Addr}, (∀ a ∈ f, ∀ u, H a = some u → H' a = some u) → ROf K A H v o f → ROf K B H' v o f
  | _, _, _, _, .nil => .nil
  | _, _, _, k, .cons h r => .cons (RO.mono e (fun a ha => k a (by simp [ha])) h) (ROf.mono e (fun a ha => k a (by simp [ha])) r)
end
/-! what is held is tracked -/
mutual
theorem RO.has : ∀ {v : V} {o : O} {f : List Addr}, RO K B H v o f → ∀ a ∈ f, H a ≠ none
  | _, _, _, .pl _, a, ha => by simp at ha
  | _, _, _, .fl h _, a, ha => by simp at ha; subst ha; rw [h]; simp
  | _, _, _, .fd h _, a, ha => by simp at ha; subst ha; rw [h]; simp
  | _, _, _, .lst h r, a, ha => by
    rcases List.mem_cons.mp ha with e | e
    · subst e; rw [h]; simp
    · exact ROs.has r a e
  | _, _, _, .dic h r, a, ha => by
    rcases List.mem_cons.mp ha with e | e
    · subst e; rw [h]; simp
    · exact ROd.has r a e
  | _, _, _, .tup h r, a, ha => ROs.has r a ha
  | _, _, _, .obj _ _ _ h h2 r, a, ha => by
    rcases List.mem_cons.mp ha with e | e
    · subst e; rw [h]; simp
    · rcases List.mem_cons.mp e with e | e
      · subst e; rw [h2]; simp
      · exact ROf.has r a e
  | _, _, _, .hole, a, ha => by simp at ha
theorem ROs.has : ∀ {v : List V} {o : List O} {f : List Addr}, ROs K B H v o f → ∀ a ∈ f, H a ≠ none
  | _, _, _, .nil, a, ha => by simp at ha
  | _, _, _, .cons h r, a, ha => by
    rcases List.mem_append.mp ha with e | e
    · exact RO.has h a e
    · exact ROs.has r a e
theorem ROd.has : ∀ {v : List (Key × V)} {o : List (P × O)} {f : List Addr}, ROd K B H v o f → ∀ a ∈ f, H a ≠ none
  | _, _, _, .nil, a, ha => by simp at ha
  | _, _, _, .cons _ h r, a, ha => by
    rcases List.mem_append.mp ha with e | e
    · exact RO.has h a e
    · exact ROd.has r a e
theorem ROf.has : ∀ {v : List (Str × V)} {o : List (Str × O)} {f : List Addr}, ROf K B H v o f → ∀ a ∈ f, H a ≠ none
  | _, _, _, .nil, a, ha => by simp at ha
  | _, _, _, .cons h r, a, ha => by
    rcases List.mem_append.mp ha with e | e
    · exact RO.has h a e
    · exact ROf.has r a e
end
end

/-! ### held alone, then shared -/
mutual
def fz : O → Option P
  | .pl p => some p
  | .fl xs => some (.list xs)
  | .fd kvs => some (.dict kvs)
  | .lst xs => (fzs xs).map .list
  | .dic kvs => (fzd kvs).map .dict
  | .tup xs => (fzs xs).map .tuple
  | .obj _ _ => none
  | .hole => none
def fzs : List O → Option (List P)
  | [] => some []
  | o :: os => match fz o, fzs os with
    | some p, some ps => some (p :: ps)
    | _, _ => none
def fzd : List (P × O) → Option (List (P × P))
  | [] => some []
  | q :: os => match fzq q, fzd os with
    | some p, some ps => some (p :: ps)
    | _, _ => none
def fzq : P × O → Option (P × P)
  | (q, o) => match fz o with
    | some p => some (q, p)
    | none => none
end
/-- B with the addresses at f, as they stand in H -/
def frz (B H : Hp) (f : List Addr) : Hp := fun a => if a ∈ f then H a else B a
theorem frz_in {B H : Hp} {f : List Addr} {a : Addr} (h : a ∈ f) : frz B H f a = H a := by
  unfold frz
  rw [if_pos h]
theorem frz_out {B H : Hp} {f : List Addr} {a : Addr} (h : a ∉ f) : frz B H f a = B a := by
  unfold frz
  rw [if_neg h]
section
variable {K : PySem.W.Frag} {B C H : Hp}
mutual
theorem RO.fz (e : Ext B C) : ∀ {v : V} {o : O} {f : List Addr} {p : P}, (∀ a ∈ f, C a = H a) → RO K B H v o f → fz o = some p → RP K C v p
  | _, _, _, _, k, .pl r, q => by
    rw [G.fz] at q
    cases q
    exact r.mono e
  | _, _, _, _, k, .fl h r, q => by
    rw [G.fz] at q
    cases q
    exact .lst (.of ((k _ (by simp)).trans h)) (r.mono e)
  | _, _, _, _, k, .fd h r, q => by
    rw [G.fz] at q
    cases q
    exact .dic (.of ((k _ (by simp)).trans h)) (r.mono e)
  | _, _, _, _, k, .lst (xs := xs) h r, q => by
    rw [G.fz] at q
    cases z : fzs xs with
    | none => rw [z] at q; cases q
    | some ps =>
      rw [z] at q
      cases q
      exact .lst (.of ((k _ (by simp)).trans h)) (ROs.fz e (fun a ha => k a (by simp [ha])) r z)
  | _, _, _, _, k, .dic (kvs := xs) h r, q => by
    rw [G.fz] at q
    cases z : fzd xs with
    | none => rw [z] at q; cases q
    | some ps =>
      rw [z] at q
      cases q
      exact .dic (.of ((k _ (by simp)).trans h)) (ROd.fz e (fun a ha => k a (by simp [ha])) r z)
  | _, _, _, _, k, .tup (xs := xs) h r, q => by
    rw [G.fz] at q
    cases z : fzs xs with
    | none => rw [z] at q; cases q
    | some ps =>
      rw [z] at q
      cases q
      exact .tup (.of (e _ _ h)) (ROs.fz e k r z)
  | _, _, _, _, k, .obj _ _ _ _ _ _, q => by
    rw [G.fz] at q
    cases q
  | _, _, _, _, k, .hole, q => by
    rw [G.fz] at q
    cases q
theorem ROs.fz (e : Ext B C) : ∀ {v : List V} {o : List O} {f : List Addr} {p : List P}, (∀ a ∈ f, C a = H a) → ROs K B H v o f → fzs o = some p → RPs K C v p
  | _, _, _, _, k, .nil, q => by
    rw [fzs] at q
    cases q
    exact .nil
  | _, _, _, _, k, .cons (o := o) (os := os) h r, q => by
    rw [fzs] at q
    cases z : G.fz o with
    | none => rw [z] at q; cases q
    | some p =>
      cases y : fzs os with
      | none => rw [z, y] at q; cases q
      | some ps =>
        rw [z, y] at q
        cases q
        exact .cons (RO.fz e (fun a ha => k a (by simp [ha])) h z) (ROs.fz e (fun a ha => k a (by simp [ha])) r y)
theorem ROd.fz (e : Ext B C) : ∀ {v : List (Key × V)} {o : List (P × O)} {f : List Addr} {p : List (P × P)}, (∀ a ∈ f, C a = H a) → ROd K B H v o f → fzd o = some p → RPd K C v p
  | _, _, _, _, k, .nil, q => by
    rw [fzd] at q
    cases q
    exact .nil
  | _, _, _, _, k, .cons (o := o) (kvs := os) hk h r, q => by
    rw [fzd, fzq] at q
    cases z : G.fz o with
    | none => rw [z] at q; cases q
    | some p =>
      cases y : fzd os with
      | none => rw [z, y] at q; cases q
      | some ps =>
        rw [z, y] at q
        cases q
        exact .cons hk (RO.fz e (fun a ha => k a (by simp [ha])) h z) (ROd.fz e (fun a ha => k a (by simp [ha])) r y)
end
end
end G

set_option maxRecDepth 100000
namespace G
open PySem L2

/-! ### the mini-syntax: names are slots, functions and constants numbers -/
inductive BI where
  | len | abs | int | str | list | tuple | max | min | sum | all | any | sorted | dict
  deriving DecidableEq
inductive MI where
  | get | join | split | index | find | partition | startswith | endswith | count | strip | lstrip | replace
  deriving DecidableEq
inductive MM where
  | append | extend | insert | reverse | clear | update
  deriving DecidableEq
inductive Ty where
  | int | bool | str | list | tuple | dict
  deriving DecidableEq
inductive Tg where
  | nm (i : Nat) | tp (is : List Nat)
mutual
inductive Ex where
  | var (i : Nat) | mov (i : Nat) | lit (p : P) | glob (g : Nat) | fld (i : Nat) (f : Str) | idx2 (j : Nat) (k i : Ex)
  | bin (op : Operator) (a b : Ex) | neg (a : Ex) | not (a : Ex) | and (a b : Ex) | or (a b : Ex)
  | cmp (op : CmpOp) (a b : Ex) | chain (o1 o2 : CmpOp) (a b c : Ex) | ife (t a b : Ex)
  | lst (es : Exs) | tup (es : Exs) | dct (ks vs : Exs)
  | idx (a i : Ex) | slc (a : Ex) (lo hi : Ox)
  | call (f : Nat) (es : Exs) | bi (b : BI) (es : Exs) | isi (a : Ex) (ts : List Ty) | meth (m : MI) (a : Ex) (es : Exs)
  | lc (own : List Nat) (tg : Tg) (it : It) (cond : Ox) (e : Ex)
  | el (j : Nat) (n : Int)
  | lrg1 (a : Ex) | lrg2 (a b : Ex) | gix (g : Nat) (e : Ex) | sh (a : Ex)
inductive Exs where
  | nil | cons (e : Ex) (es : Exs)
inductive Ox where
  | none | some (e : Ex)
inductive It where
  | seq (e : Ex) | range1 (a : Ex) | range2 (a b : Ex) | range3 (a b c : Ex) | enum (e : Ex) | zip (a b : Ex) | items (e : Ex) | rev (e : Ex) | zip3 (a b c : Ex)
end
/-- a step of a place -/
inductive Ps where
  | fld (f : Str) | ix (e : Ex)
mutual
/-- expressions that may change what slots hold -/
inductive Fx where
  | p (e : Ex) | mv (i : Nat) (ps : List Ps) | fr (i : Nat) (ps : List Ps)
  | call (f : Nat) (as : Fas) | meth (cl m : Str) (f : Nat) (i : Nat) (ps : List Ps) (as : Fas) | new (cl : Str) (f : Nat) (as : Fas)
  | bin (op : Operator) (a b : Fx) | not (a : Fx) | and (a b : Fx) | or (a b : Fx) | cmp (op : CmpOp) (a b : Fx) | ife (t a b : Fx)
  | tup (es : Fxs) | lst (es : Fxs) | lsto (es : Fxs) | idx (a i : Fx) | bi (b : BI) (es : Fxs) | pop (i : Nat) (ps : List Ps) (es : Exs)
  | lc (own : List Nat) (tg : Tg) (it : Fit) (cond : Ox) (e : Fx) | sh (a : Fx) | dct (ks : List Str) (es : Fxs)
inductive Fxs where
  | nil | cons (e : Fx) (es : Fxs)
/-- arguments: a value (shared), a thing of its own, a place that is lent -/
inductive Fas where
  | nil | val (e : Fx) (as : Fas) | own (e : Fx) (as : Fas) | ln (i : Nat) (ps : List Ps) (as : Fas)
inductive Fit where
  | pure (it : It) | seq (e : Fx) | range1 (e : Fx) | enum (e : Fx)
end
mutual
inductive S where
  | asg (i : Nat) (e : Ex) | asgT (is : List Nat) (e : Ex) | aug (i : Nat) (op : Operator) (e : Ex)
  | setI (i : Nat) (ix e : Ex) | augI (i : Nat) (ix : Ex) (op : Operator) (e : Ex)
  | exp (e : Ex) | mut (m : MM) (i : Nat) (es : Exs) | pop (j : Option Nat) (i : Nat) (es : Exs)
  | ife (t : Ex) (a b : Ss) | forr (tg : Tg) (it : It) (b : Ss) | forW (j : Nat) (tg : Tg) (it : It) (b : Ss) | whl (t : Ex) (b : Ss)
  | ret (e : Ex) | retN | pass | brk | frz (i : Nat)
  | asgF (i : Nat) (e : Fx) | asgP (i : Nat) (e : Fx) | asgTF (is : List Nat) (e : Fx) | augF (i : Nat) (op : Operator) (e : Fx) | expF (e : Fx) | retF (e : Fx) | ifeF (t : Fx) (a b : Ss) | whlF (t : Fx) (b : Ss) | forF (tg : Tg) (it : Fit) (b : Ss)
  | setF (cl : Str) (i : Nat) (ps : List Ps) (f : Str) (e : Fx) | setX (i : Nat) (ps : List Ps) (ix : Ex) (e : Fx) | mutF (m : MM) (i : Nat) (ps : List Ps) (es : Fxs)
  | cont | raise (c : Str) (es : Exs) | fail | appT (e : Fx) (i : Int)
inductive Ss where
  | nil | cons (s : S) (ss : Ss)
end

/-! ### what is reckoned -/
abbrev Env := List (Option O)
/-- a value, or an error: its class, its fields -/
inductive Rx (α : Type) where
  | ok (a : α) | ex (c : Str) (us : List (Str × P))
structure Ct where
  call : Nat → List O → Option (Rx O × List O)
  low : Nat → List O → Option (Rx O × List O)
  gl : Nat → Option P
  fuel : Nat
  io : Nat → List Bool
  exf : Str → List O → Option (List (Str × P))

def mulOk (i j : Int) : Prop := (-(2 ^ 64) < i ∧ i < 2 ^ 64) ∨ (-(2 ^ 64) < j ∧ j < 2 ^ 64) ∨ i.natAbs.log2 + j.natAbs.log2 < 1000000
instance (i j : Int) : Decidable (mulOk i j) := by unfold mulOk; infer_instance
@[simp] theorem mulOk_l {i j : Int} (h : -(2 ^ 64) < i ∧ i < 2 ^ 64) : mulOk i j = True := eq_true (.inl h)
@[simp] theorem mulOk_r {i j : Int} (h : -(2 ^ 64) < j ∧ j < 2 ^ 64) : mulOk i j = True := eq_true (.inr (.inl h))
def iBin : Operator → Int → Int → Option Int
  | .Add, i, j => some (i + j)
  | .Sub, i, j => some (i - j)
  | .Mult, i, j => if mulOk i j then some (i * j) else none
  | .FloorDiv, i, j => if 0 < j ∧ (j < 1073741824 ∨ j.natAbs.log2 < 9000) then some (i / j) else none
  | .Mod, i, j => if 0 < j then some (i % j) else none
  | .Pow, i, j => if 0 ≤ j ∧ j ≤ 1000000 ∧ i.natAbs < 2 ^ 64 then some (i ^ j.toNat) else none
  | .LShift, i, j => if 0 ≤ j ∧ j ≤ 1000000 ∧ i.natAbs < 2 ^ 64 then some (i * 2 ^ j.toNat) else none
  | .RShift, i, j => if 0 ≤ j then some (i / 2 ^ j.toNat) else none
  | .BitAnd, i, j => some (Builtin.bitAnd i j)
  | .BitOr, i, j => some (Builtin.bitOr i j)
  | .BitXor, i, j => some (Builtin.bitXor i j)
  | _, _, _ => none
def toI : Option Int → Option O
  | some k => some (.pl (.int k))
  | none => none
def toB : Option Bool → Option O
  | some k => some (.pl (.bool k))
  | none => none
def toP : Option P → Option O
  | some k => some (.pl k)
  | none => none
def o1 {α β : Type} (f : α → Option β) : Option α → Option β
  | some x => f x
  | none => none
def o2 {α β γ : Type} (f : α → β → Option γ) : Option α → Option β → Option γ
  | some x, some y => f x y
  | _, _ => none
def o3 {α β γ δ : Type} (f : α → β → γ → Option δ) : Option α → Option β → Option γ → Option δ
  | some x, some y, some z => f x y z
  | _, _, _ => none
def litems : O → Option (List P)
  | .pl (.list xs) => some xs
  | .fl xs => some xs
  | _ => none
def titems : O → Option (List P)
  | .pl (.tuple xs) => some xs
  | _ => none
def ditems : O → Option (List (P × P))
  | .pl (.dict kvs) => some kvs
  | .fd kvs => some kvs
  | _ => none
def rep (k : Int) (xs : List P) : List P := (List.replicate k.toNat xs).flatten
def addL (a b : List P) : Option O := if a.length + b.length ≤ 16777216 then some (.fl (a ++ b)) else none
def addO : O → O → Option O
  | .pl (.int i), .pl (.int j) => some (.pl (.int (i + j)))
  | .pl (.str s), .pl (.str t) => if s.length + t.length ≤ 16777216 then some (.pl (.str (s ++ t))) else none
  | .pl (.tuple a), .pl (.tuple b) => if a.length + b.length ≤ 16777216 then some (.pl (.tuple (a ++ b))) else none
  | .pl (.list a), .pl (.list b) => addL a b
  | .pl (.list a), .fl b => addL a b
  | .fl a, .pl (.list b) => addL a b
  | .fl a, .fl b => addL a b
  | _, _ => none
def intO (op : Operator) : O → O → Option O
  | .pl (.int i), .pl (.int j) => toI (iBin op i j)
  | _, _ => none
def mulL (a : List P) (k : Int) : Option O := if -(2 ^ 63) ≤ k ∧ k < 2 ^ 63 ∧ a.length * k.toNat ≤ 16777216 then some (.fl (rep k a)) else none
def mulO : O → O → Option O
  | .pl (.int i), .pl (.int j) => toI (iBin .Mult i j)
  | .pl (.tuple a), .pl (.int k) => if a ≠ [] ∧ 2 ≤ k ∧ k ≤ 1000 ∧ a.length ≤ 1000 then some (.pl (.tuple (rep k a))) else none
  | .pl (.list _), .pl (.int _) => none
  | .fl a, .pl (.int k) => mulL a k
  | _, _ => none
def binO : Operator → O → O → Option O
  | .Add, x, y => addO x y
  | .Mult, x, y => mulO x y
  | .Sub, x, y => intO .Sub x y
  | .FloorDiv, x, y => intO .FloorDiv x y
  | .Mod, x, y => intO .Mod x y
  | .Pow, x, y => intO .Pow x y
  | .LShift, x, y => intO .LShift x y
  | .RShift, x, y => intO .RShift x y
  | .BitAnd, x, y => intO .BitAnd x y
  | .BitOr, x, y => intO .BitOr x y
  | .BitXor, x, y => intO .BitXor x y
  | _, _, _ => none
def negO : O → Option O
  | .pl (.int i) => some (.pl (.int (-i)))
  | _ => none
def notO : O → Option O
  | .pl (.bool b) => some (.pl (.bool !b))
  | _ => none
/-- which of two follows a test -/
def ifB {α : Type} : Option O → Option α → Option α → Option α
  | some (.pl (.bool b)), x, y => if b = true then x else y
  | _, _, _ => none
def eqP (p q : P) : Option Bool := if SeqAt.shaped p = true ∧ SeqAt.shaped q = true then some (PyData.eqv p q) else none
def eqQ : Option P → Option P → Option Bool
  | some p, some q => eqP p q
  | _, _ => none
def eqO : O → O → Option Bool
  | .pl (.int i), .pl (.int j) => some (decide (i = j))
  | .pl (.str i), .pl (.str j) => some (decide (i = j))
  | x, y => eqQ (fz x) (fz y)
def flatP : P → Bool
  | .none => true
  | .bool _ => true
  | .int _ => true
  | .str _ => true
  | _ => false
def seqI : O → Option (List P)
  | .pl (.list xs) => some xs
  | .fl xs => some xs
  | .pl (.tuple xs) => some xs
  | _ => none
/-- is p (a flat one) among the flat ones xs -/
def memP (p : P) (xs : List P) : Bool := xs.any fun q => PyData.eqv q p
def inSq (p : P) (xs : List P) : Option Bool := if flatP p = true ∧ xs.all flatP = true then some (memP p xs) else none
def hasK (k : Option Key) (kvs : List (P × P)) : Option Bool := match k with
  | some k => some (kvs.any fun e => decide (keyP e.1 = some k))
  | none => none
def inO : O → O → Option Bool
  | .pl (.str s), .pl (.str t) => some (!(Builtin.Str.occurrences t s 0 t.length 1).isEmpty)
  | .pl p, .pl (.list xs) => inSq p xs
  | .pl p, .fl xs => inSq p xs
  | .pl p, .pl (.tuple xs) => inSq p xs
  | .pl p, .pl (.dict kvs) => hasK (keyP p) kvs
  | .pl p, .fd kvs => hasK (keyP p) kvs
  | _, _ => none
def isNo : O → Bool
  | .pl .none => true
  | _ => false
def isO : O → O → Option Bool
  | .hole, _ => none
  | .pl (.bool a), .pl (.bool b) => some (decide (a = b))
  | x, .pl .none => some (isNo x)
  | _, _ => none
def cmpI (f : Int → Int → Bool) : O → O → Option Bool
  | .pl (.int i), .pl (.int j) => some (f i j)
  | _, _ => none
def neg : Option Bool → Option Bool
  | some b => some !b
  | none => none
def cmpO : CmpOp → O → O → Option Bool
  | .Eq, x, y => eqO x y
  | .NotEq, x, y => neg (eqO x y)
  | .Lt, x, y => cmpI (fun i j => decide (i < j)) x y
  | .LtE, x, y => cmpI (fun i j => decide (i ≤ j)) x y
  | .Gt, x, y => cmpI (fun i j => decide (j < i)) x y
  | .GtE, x, y => cmpI (fun i j => decide (j ≤ i)) x y
  | .In, x, y => inO x y
  | .NotIn, x, y => neg (inO x y)
  | .Is, x, y => isO x y
  | .IsNot, x, y => neg (isO x y)
def cmpV (op : CmpOp) (x y : O) : Option O := toB (cmpO op x y)
def chn1 (z : Option Bool) : Option Bool → Option O
  | some b => if b = true then toB z else some (.pl (.bool false))
  | none => none
def chn (o1 o2 : CmpOp) (x y z : O) : Option O := chn1 (cmpO o2 y z) (cmpO o1 x y)
def plC (p : P) : Option (List P) → Option (List P)
  | some ps => some (p :: ps)
  | none => none
def plains : List O → Option (List P)
  | [] => some []
  | .pl p :: os => plC p (plains os)
  | _ :: _ => none
def mkL1 (os : List O) : Option (List P) → Option O
  | some ps => some (.fl ps)
  | none => some (.lst os)
def mkL (os : List O) : Option O := if os.length ≤ 1000000 then mkL1 os (fzs os) else none
def mkT1 (os : List O) : Option (List P) → Option O
  | some ps => some (.pl (.tuple ps))
  | none => some (.tup os)
def mkT (os : List O) : Option O := if os.length ≤ 1000000 then mkT1 os (plains os) else none
def lookP (k : Key) : List (P × P) → Option P
  | [] => none
  | e :: es => if keyP e.1 = some k then some e.2 else lookP k es
def putP (k : Key) (q p : P) (kvs : List (P × P)) : List (P × P) :=
  if (kvs.any fun e => decide (keyP e.1 = some k)) = true then kvs.map fun e => if keyP e.1 = some k then (e.1, p) else e else kvs ++ [(q, p)]
def toFd : Option (List (P × P)) → Option O
  | some kvs => some (.fd kvs)
  | none => none
/-- a display's pairs, one behind the other -/
def mrgS (kvs : List (P × P)) : List (Str × P) → List (P × P)
  | [] => kvs
  | e :: es => mrgS (putP (.inr e.1) (.str e.1) e.2 kvs) es
def dctP (ks : List Str) : Option (List P) → Option O
  | some ps => if ks.length = ps.length then some (.fd (mrgS [] (ks.zip ps))) else none
  | none => none
def dctO (ks : List Str) (os : List O) : Option O := if 1 ≤ ks.length ∧ ks.length ≤ 15 then dctP ks (fzs os) else none
/-- a dict's pairs taken over -/
def mrgD (kvs : List (P × P)) : List (P × P) → Option (List (P × P))
  | [] => some kvs
  | e :: es => match keyP e.1 with
    | some k => mrgD (putP k e.1 e.2 kvs) es
    | none => none
def updD (kvs ls : List (P × P)) : Option O := if kvs.length + ls.length ≤ 16777216 then toFd (mrgD kvs ls) else none
def toC : Option Nat → Option O
  | some c => some (.pl (.str ⟨#[c]⟩))
  | none => none
def idxS (s : Str) (i : Int) : Option O := if s.length ≤ 16777216 then toC (atI s.cps.toList i) else none
def idxO : O → O → Option O
  | .pl (.str s), .pl (.int i) => idxS s i
  | .pl (.list xs), .pl (.int i) => toP (atI xs i)
  | .pl (.tuple xs), .pl (.int i) => toP (atI xs i)
  | .fl xs, .pl (.int i) => toP (atI xs i)
  | .pl (.dict kvs), .pl (.int i) => toP (lookP (.inl i) kvs)
  | .fd kvs, .pl (.int i) => toP (lookP (.inl i) kvs)
  | .pl (.dict kvs), .pl (.str i) => toP (lookP (.inr i) kvs)
  | .fd kvs, .pl (.str i) => toP (lookP (.inr i) kvs)
  | _, _ => none
def cutP (xs : List P) (lo hi : Option Int) : List P := (xs.drop (HT.sIx xs.length 0 lo)).take (HT.sIx xs.length xs.length hi - HT.sIx xs.length 0 lo)
def slcO : O → Option Int → Option Int → Option O
  | .pl (.str s), lo, hi => if s.length ≤ 16777216 then some (.pl (.str (cutS s lo hi))) else none
  | .pl (.tuple xs), lo, hi => some (.pl (.tuple (cutP xs lo hi)))
  | .pl (.list xs), lo, hi => some (.fl (cutP xs lo hi))
  | .fl xs, lo, hi => some (.fl (cutP xs lo hi))
  | _, _, _ => none
def strItems (s : Str) : List P := s.cps.toList.map fun c => .str ⟨#[c]⟩
def seqAny : O → Option (List P)
  | .pl (.list xs) => some xs
  | .fl xs => some xs
  | .pl (.tuple xs) => some xs
  | .pl (.str s) => some (strItems s)
  | _ => none
def rangeP (lo n : Int) : List P := (List.range n.toNat).map fun (k : Nat) => .int (lo + k)
def okI (i : Int) : Prop := -(2 ^ 62) ≤ i ∧ i < 2 ^ 62
instance (i : Int) : Decidable (okI i) := by unfold okI; infer_instance
def enumP (xs : List P) : List P := xs.zipIdx.map fun e => .tuple [.int (e.2 : Nat), e.1]
def zipP (xs ys : List P) : List P := List.zipWith (fun a b => .tuple [a, b]) xs ys
mutual
/-- nothing that may be shared with what is lent -/
def clnP : P → Bool
  | .none => true
  | .bool _ => true
  | .int _ => true
  | .str _ => true
  | .tuple xs => clnPs xs
  | .list _ => false
  | .dict _ => false
def clnPs : List P → Bool
  | [] => true
  | x :: xs => clnP x && clnPs xs
end
def clnPd : List (P × P) → Bool
  | [] => true
  | q :: qs => clnP q.2 && clnPd qs
mutual
def scalO : O → Bool
  | .pl p => clnP p
  | .fl xs => clnPs xs
  | .fd kvs => clnPd kvs
  | .lst os => scalOs os
  | .tup os => scalOs os
  | .dic _ => false
  | .obj _ _ => false
  | .hole => false
def scalOs : List O → Bool
  | [] => true
  | o :: os => scalO o && scalOs os
end
def intsP : List P → Option (List Int)
  | [] => some []
  | .int i :: ps => (intsP ps).map (i :: ·)
  | _ :: _ => none
def boolsP : List P → Option (List Bool)
  | [] => some []
  | .bool i :: ps => (boolsP ps).map (i :: ·)
  | _ :: _ => none
def lenO : O → Option Nat
  | .pl (.str s) => if s.length ≤ 16777216 then some s.length else none
  | .pl (.list xs) => some xs.length
  | .pl (.tuple xs) => some xs.length
  | .fl xs => some xs.length
  | .pl (.dict xs) => some xs.length
  | .fd xs => some xs.length
  | .lst os => some os.length
  | .dic kvs => some kvs.length
  | .tup os => some os.length
  | _ => none
def toN : Option Nat → Option O
  | some k => some (.pl (.int (k : Int)))
  | none => none
def toF : Option (List P) → Option O
  | some k => some (.fl k)
  | none => none
def toT : Option (List P) → Option O
  | some k => some (.pl (.tuple k))
  | none => none
def sumL : Option (List Int) → Option O
  | some ns => some (.pl (.int ns.sum))
  | none => none
def allL : Option (List Bool) → Option O
  | some ns => some (.pl (.bool (ns.all id)))
  | none => none
def anyL : Option (List Bool) → Option O
  | some ns => some (.pl (.bool (ns.any id)))
  | none => none
def biO : BI → List O → Option O
  | .len, [x] => toN (lenO x)
  | .abs, [.pl (.int i)] => some (.pl (.int (if i < 0 then -i else i)))
  | .int, [.pl (.int i)] => some (.pl (.int i))
  | .int, [.pl (.bool b)] => some (.pl (.int (if b then 1 else 0)))
  | .str, [.pl (.int i)] => if i.natAbs.log2 < 1920 then some (.pl (.str (toString i))) else none
  | .list, [x] => toF (seqI x)
  | .tuple, [x] => toT (seqI x)
  | .max, [.pl (.int i), .pl (.int j)] => some (.pl (.int (if j > i then j else i)))
  | .min, [.pl (.int i), .pl (.int j)] => some (.pl (.int (if j < i then j else i)))
  | .max, [.pl (.tuple [.int i, .int j])] => some (.pl (.int (if j > i then j else i)))
  | .min, [.pl (.tuple [.int i, .int j])] => some (.pl (.int (if j < i then j else i)))
  | .sum, [x] => sumL (o1 intsP (litems x))
  | .all, [x] => allL (o1 boolsP (litems x))
  | .any, [x] => anyL (o1 boolsP (litems x))
  | .dict, [x] => toFd (ditems x)
  | _, _ => none
def tyP : P → Option Ty
  | .int _ => some .int
  | .bool _ => some .bool
  | .str _ => some .str
  | .list _ => some .list
  | .tuple _ => some .tuple
  | .dict _ => some .dict
  | .none => none
def isTy1 : Option Ty → Ty → Bool
  | some .bool, .int => true
  | some u, t => u == t
  | none, _ => false
def isiO (ts : List Ty) (p : P) : Option O := some (.pl (.bool (ts.any (isTy1 (tyP p)))))
def getP (kvs : List (P × P)) (d : P) : Option Key → Option O
  | some k => some (.pl ((lookP k kvs).getD d))
  | none => none
def strsP : List P → Option (List Str)
  | [] => some []
  | .str s :: ps => (strsP ps).map (s :: ·)
  | _ :: _ => none
/-- the first place of s -/
def plcS1 (s : Str) (ys : List Str) : Option Nat := ys.findIdx? fun y => decide (y = s)
def joinO (a : Str) : Option (List Str) → Option O
  | some ys => if (ys.map (·.length)).sum + ys.length * a.length ≤ 16777216 then some (.pl (.str (Txt.join a ys))) else none
  | none => none
def gixO : Option P → O → Option O
  | some (.tuple xs), .pl (.str s) => toN (o1 (plcS1 s) (strsP xs))
  | _, _ => none
def lrgO : O → O → Option O
  | .pl (.int i), .pl (.int j) => if 0 ≤ i ∧ i ≤ 16777216 ∧ 0 ≤ j ∧ j ≤ 16777216 then some (.fl (rangeP i (j - i))) else none
  | _, _ => none
def strM2 (g : Str → Str → P) : O → O → Option O
  | .pl (.str a), .pl (.str b) => some (.pl (g a b))
  | _, _ => none
def joinM : O → O → Option O
  | .pl (.str a), y => joinO a (o1 strsP (seqI y))
  | _, _ => none
def cntI (k : Int) : Option (List Int) → Option O
  | some ns => some (.pl (.int (ns.count k : Nat)))
  | none => none
/-- how often: a text in a text, a whole number in a list -/
def cntM : O → O → Option O
  | .pl (.str a), .pl (.str b) => some (.pl (.int (Txt.count a b)))
  | x, .pl (.int k) => cntI k (o1 intsP (litems x))
  | _, _ => none
def methO : MI → O → List O → Option O
  | .get, .pl (.dict kvs), [.pl k, .pl d] => getP kvs d (keyP k)
  | .get, .fd kvs, [.pl k, .pl d] => getP kvs d (keyP k)
  | .find, x, [y] => strM2 (fun a b => .int (Txt.find a b)) x y
  | .count, x, [y] => cntM x y
  | .join, x, [y] => joinM x y
  | _, _, _ => none
def slot (env : Env) (i : Nat) : Option O := (env[i]?).join
def fldL (f : Str) : List (Str × O) → Option O
  | [] => none
  | q :: qs => if q.1 = f then some q.2 else fldL f qs
def fldO (f : Str) : O → Option O
  | .obj _ kvs => fldL f kvs
  | _ => none
/-- a thing within a list -/
def elO : O → O → Option O
  | .lst xs, .pl (.int j) => atI xs j
  | .tup xs, .pl (.int j) => atI xs j
  | _, _ => none
def opnd (env : Env) : Ex → Option O → Option O
  | .var i, _ => slot env i
  | .fld i f, _ => o1 (fldO f) (slot env i)
  | .el j n, _ => o1 (fun u => elO u (.pl (.int n))) (slot env j)
  | _, r => r
def setTg (env : Env) : Tg → P → Option Env
  | .nm i, p => some (env.set i (some (.pl p)))
  | .tp is, .tuple ps => if is.length = ps.length then some ((is.zip ps).foldl (fun e x => e.set x.1 (some (.pl x.2))) env) else none
  | .tp is, .list ps => if is.length = ps.length then some ((is.zip ps).foldl (fun e x => e.set x.1 (some (.pl x.2))) env) else none
  | _, _ => none
def wipeE (env : Env) : List Nat → Env
  | [] => env
  | v :: vs => (wipeE env vs).set v none
def mapO {α β : Type} (f : α → Option β) : List α → Option (List β)
  | [] => some []
  | x :: xs => match f x, mapO f xs with
    | some y, some ys => some (y :: ys)
    | _, _ => none
def plO : Option O → Option O
  | some (.pl p) => some (.pl p)
  | _ => none
def consA {α : Type} : Option α → Option (List α) → Option (List α)
  | some x, some xs => some (x :: xs)
  | _, _ => none
def consB {α : Type} : Option (α × Bool) → Option (List α × Bool) → Option (List α × Bool)
  | some (x, a), some (xs, b) => some (x :: xs, a || b)
  | _, _ => none
def lendQ (b : Bool) : Option P → Option (P × Bool)
  | some p => some (p, b)
  | none => none
def lendS : Option O → Option (P × Bool)
  | some (.pl p) => some (p, false)
  | some o => lendQ true (fz o)
  | none => none
def lendE : Option O → Option (P × Bool)
  | some o => lendQ false (fz o)
  | none => none
def lend (env : Env) : Ex → Option O → Option (P × Bool)
  | .var i, _ => lendS (slot env i)
  | .fld i f, _ => lendS (o1 (fldO f) (slot env i))
  | .el j n, _ => lendS (o1 (fun u => elO u (.pl (.int n))) (slot env j))
  | _, r => lendE r
def retC : Bool → Option (Rx O × List O) → Option O
  | true, some (.ok o, []) => if scalO o = true then some o else none
  | false, some (.ok o, []) => some o
  | _, _ => none
def callC (c : Ct) (f : Nat) : Option (List P × Bool) → Option O
  | some (ps, b) => retC b (c.call f (ps.map .pl))
  | none => none
def oI : Option O → Option (Option Int)
  | some (.pl (.int i)) => some (some i)
  | _ => none
def rng1 : O → Option (List P)
  | .pl (.int i) => if okI i then some (rangeP 0 i) else none
  | _ => none
def rng2 : O → O → Option (List P)
  | .pl (.int i), .pl (.int j) => if okI i ∧ okI j then some (rangeP i (j - i)) else none
  | _, _ => none
def mapI (f : List P → List P) : Option (List P) → Option (List P)
  | some xs => some (f xs)
  | none => none
def enmL (x : O) : Option (List P) := mapI enumP (litems x)
def enmO (x : O) : Option (List P) := mapI enumP (seqI x)
def zipQ : Option (List P) → Option (List P) → Option (List P)
  | some xs, some ys => some (zipP xs ys)
  | _, _ => none
def zipO (x y : O) : Option (List P) := zipQ (seqI x) (seqI y)
def itmQ : Option (List (P × P)) → Option (List P)
  | some kvs => some (kvs.map fun q => .tuple [q.1, q.2])
  | none => none
def itmO (x : O) : Option (List P) := itmQ (ditems x)
def zip3P (ps qs rs : List P) : List P := List.zipWith (fun (u : P × P) r => .tuple [u.1, u.2, r]) (ps.zip qs) rs
def zip3Q : Option (List P) → Option (List P) → Option (List P) → Option (List P)
  | some xs, some ys, some zs => some (zip3P xs ys zs)
  | _, _, _ => none
def zip3O (x y z : O) : Option (List P) := zip3Q (litems x) (litems y) (litems z)
def revO (x : O) : Option (List P) := mapI List.reverse (seqI x)
/-- a comprehension's items, and what they make -/
def lcF (g : Env → Option O) (h : Env → Option O) (env : Env) (own : List Nat) (tg : Tg) (p : P) : Option (Option O) := match setTg (wipeE env own) tg p with
  | some e => ifB (g e) (match h e with
    | some o => some (some o)
    | none => none) (some none)
  | none => none
def lcM : Option (List (Option O)) → Option O
  | some os => mkL (os.filterMap id)
  | none => none
def lcO (f : P → Option (Option O)) : Option (List P) → Option O
  | some ps => if ps.length ≤ 1000000 then lcM (mapO f ps) else none
  | none => none
section
variable (c : Ct)
mutual
def evR (env : Env) : Ex → Option O
  | .var i => plO (slot env i)
  | .mov _ => none
  | .lit p => some (.pl p)
  | .glob g => toP (c.gl g)
  | .fld i f => plO (o1 (fldO f) (slot env i))
  | .idx2 j k i => o2 idxO (o2 elO (slot env j) (evR env k)) (evR env i)
  | .bin op a b => o2 (binO op) (opnd env a (evR env a)) (opnd env b (evR env b))
  | .neg a => o1 negO (evR env a)
  | .not a => o1 notO (evR env a)
  | .and a b => ifB (evR env a) (evR env b) (some (.pl (.bool false)))
  | .or a b => ifB (evR env a) (some (.pl (.bool true))) (evR env b)
  | .cmp op a b => o2 (cmpV op) (opnd env a (evR env a)) (opnd env b (evR env b))
  | .chain o1 o2 a b d => o3 (chn o1 o2) (opnd env a (evR env a)) (opnd env b (evR env b)) (opnd env d (evR env d))
  | .ife t a b => ifB (evR env t) (evR env a) (evR env b)
  | .lst es => o1 mkL (evRs env es)
  | .tup es => o1 mkT (evRs env es)
  | .dct .nil .nil => some (.fd [])
  | .dct _ _ => none
  | .idx a i => o2 idxO (opnd env a (evR env a)) (evR env i)
  | .slc a lo hi => o3 slcO (opnd env a (evR env a)) (evX env lo) (evX env hi)
  | .call f es => callC c f (evLs env es)
  | .bi b es => o1 (biO b) (evVs env es)
  | .isi a ts => o1 (isiO ts) (o1 fz (opnd env a (evR env a)))
  | .meth m a es => o2 (methO m) (opnd env a (evR env a)) (evVs env es)
  | .lc own tg it cond e => lcO (lcF (fun env1 => evC env1 cond) (fun env1 => evR env1 e) env own tg) (evI env it)
  | .el j n => plO (o1 (fun u => elO u (.pl (.int n))) (slot env j))
  | .lrg1 a => o1 (lrgO (.pl (.int 0))) (evR env a)
  | .lrg2 a b => o2 lrgO (evR env a) (evR env b)
  | .gix g e => o1 (gixO (c.gl g)) (evR env e)
  | .sh a => toP (o1 fz (evR env a))
def evRs (env : Env) : Exs → Option (List O)
  | .nil => some []
  | .cons e es => consA (evR env e) (evRs env es)
/-- operands, only read -/
def evVs (env : Env) : Exs → Option (List O)
  | .nil => some []
  | .cons e es => consA (opnd env e (evR env e)) (evVs env es)
/-- arguments of a def, lent or given -/
def evLs (env : Env) : Exs → Option (List P × Bool)
  | .nil => some ([], false)
  | .cons e es => consB (lend env e (evR env e)) (evLs env es)
def evX (env : Env) : Ox → Option (Option Int)
  | .none => some none
  | .some e => oI (evR env e)
def evC (env : Env) : Ox → Option O
  | .none => some (.pl (.bool true))
  | .some e => evR env e
def evI (env : Env) : It → Option (List P)
  | .seq e => o1 seqAny (opnd env e (evR env e))
  | .range1 a => o1 rng1 (evR env a)
  | .range2 a b => o2 rng2 (evR env a) (evR env b)
  | .range3 _ _ _ => none
  | .enum e => o1 enmO (opnd env e (evR env e))
  | .zip a b => o2 zipO (opnd env a (evR env a)) (opnd env b (evR env b))
  | .items _ => none
  | .rev e => o1 revO (opnd env e (evR env e))
  | .zip3 a b d => o3 zip3O (opnd env a (evR env a)) (opnd env b (evR env b)) (opnd env d (evR env d))
end
end

/-! .. of what a statement walks: made new, or shared -/
def sh (r : Option O) : Option O := toP (o1 fz r)
def evJ (c : Ct) (env : Env) : It → Option (List P)
  | .seq e => o1 seqAny (sh (evR c env e))
  | .range1 a => o1 rng1 (evR c env a)
  | .range2 a b => o2 rng2 (evR c env a) (evR c env b)
  | .range3 _ _ _ => none
  | .enum e => o1 enmO (sh (evR c env e))
  | .zip a b => o2 zipO (sh (evR c env a)) (sh (evR c env b))
  | .items _ => none
  | .rev e => o1 revO (sh (evR c env e))
  | .zip3 a b d => o3 zip3O (sh (evR c env a)) (sh (evR c env b)) (sh (evR c env d))
inductive Fl where
  | nx | rt (o : O) | bk | ct | ex (c : Str) (us : List (Str × P))
abbrev Rs := Option (Fl × Env)
def forGo (f : Env → P → Rs) : List P → Env → Rs
  | [], env => some (.nx, env)
  | p :: ps, env => match f env p with
    | some (.nx, e) => forGo f ps e
    | some (.bk, e) => some (.nx, e)
    | some (.rt o, e) => some (.rt o, e)
    | some (.ct, e) => forGo f ps e
    | some (.ex c us, e) => some (.ex c us, e)
    | none => none
def whlGo (t : Env → Option O) (f : Env → Rs) : Nat → Env → Rs
  | 0, _ => none
  | n + 1, env => ifB (t env) (match f env with
    | some (.nx, e) => whlGo t f n e
    | some (.bk, e) => some (.nx, e)
    | some (.rt o, e) => some (.rt o, e)
    | some (.ct, e) => whlGo t f n e
    | some (.ex c us, e) => some (.ex c us, e)
    | none => none) (some (.nx, env))
def forO (f : Env → P → Rs) (env : Env) : Option (List P) → Rs
  | some ps => forGo f ps env
  | none => none
def pairE (env : Env) : Option O → Option (O × Env)
  | some o => some (o, env)
  | none => none
def movE (env : Env) (i : Nat) : Option O → Option (O × Env)
  | some o => some (o, env.set i none)
  | none => none
def mkW (f : List O → Option O) : Option (List O × Env) → Option (O × Env)
  | some (os, env) => pairE env (f os)
  | none => none
section
variable (c : Ct)
def evW1 (env : Env) : Ex → Option (O × Env)
  | .mov i => movE env i (slot env i)
  | e => pairE env (evR c env e)
def snocW (os : List O) : Option (O × Env) → Option (List O × Env)
  | some (o, env) => some (os ++ [o], env)
  | none => none
def pushW (e : Ex) : Option (List O × Env) → Option (List O × Env)
  | some (os, env) => snocW os (evW1 c env e)
  | none => none
def evWs : Exs → Option (List O × Env) → Option (List O × Env)
  | .nil, r => r
  | .cons e es, r => evWs es (pushW c e r)
def evW (env : Env) : Ex → Option (O × Env)
  | .mov i => movE env i (slot env i)
  | .tup es => mkW mkT (evWs c es (some ([], env)))
  | .lst es => mkW mkL (evWs c es (some ([], env)))
  | e => pairE env (evR c env e)
end
def popR (xs ys : List P) : Option P → Option (O × O)
  | some p => some (.pl p, .fl ys)
  | none => none
def popN (xs : List P) : Option Nat → Option (O × O)
  | some k => popR xs (xs.eraseIdx k) (xs[k]?)
  | none => none
def popRo (xs ys : List O) : Option O → Option (O × O)
  | some p => some (p, .lst ys)
  | none => none
def popO : O → List O → Option (O × O)
  | .fl xs, [] => popR xs xs.dropLast (xs[xs.length - 1]?)
  | .fl xs, [.pl (.int i)] => if okI i then popN xs (ixN xs.length i) else none
  | _, _ => none
def popO2 : O → List O → Option (O × O)
  | .lst xs, [] => popRo xs xs.dropLast (xs[xs.length - 1]?)
  | o, os => popO o os
/-! ### places -/
inductive Pt where
  | fld (f : Str) | ix (p : P)
def putL (f : Str) (y : O) : List (Str × O) → List (Str × O)
  | [] => [(f, y)]
  | q :: qs => if q.1 = f then (f, y) :: qs else q :: putL f y qs
def getT : Pt → O → Option O
  | .fld f, o => fldO f o
  | .ix p, o => elO o (.pl p)
def setT : Pt → O → O → O
  | .fld f, y, .obj c kvs => .obj c (putL f y kvs)
  | .ix (.int j), y, .lst xs => match ixN xs.length j with
    | some n => .lst (xs.set n y)
    | none => .lst xs
  | .ix (.int j), y, .tup xs => match ixN xs.length j with
    | some n => .tup (xs.set n y)
    | none => .tup xs
  | _, _, o => o
/-- the outermost step first -/
def getQ : List Pt → O → Option O
  | [], o => some o
  | t :: ts, o => o1 (getT t) (getQ ts o)
def putU (t : Pt) (y : O) (f : O → O) : Option O → O → O
  | some u, _ => f (setT t y u)
  | none, o => o
def putQ : List Pt → O → O → O
  | [], y, _ => y
  | t :: ts, y, o => putU t y (fun z => putQ ts z o) (getQ ts o) o
def rsv1 : Ps → Option O → Option Pt
  | .fld f, _ => some (.fld f)
  | .ix _, some (.pl p) => some (.ix p)
  | .ix _, _ => none
def psE : Ps → Ex
  | .fld _ => .lit .none
  | .ix e => e
def rsv (c : Ct) (env : Env) : List Ps → Option (List Pt)
  | [] => some []
  | p :: ps => consA (rsv1 p (evR c env (psE p))) (rsv c env ps)
/-- what stands at a place -/
def plcG (env : Env) (i : Nat) : Option (List Pt) → Option O
  | some q => o1 (getQ q) (slot env i)
  | none => none
def plcT (env : Env) (i : Nat) (y : O) (q : List Pt) (o : O) : Option O → Option Env
  | some _ => some (env.set i (some (putQ q y o)))
  | none => none
def plcS (env : Env) (i : Nat) (y : O) : Option (List Pt) → Option Env
  | some q => match slot env i with
    | some o => plcT env i y q o (getQ q o)
    | none => none
  | none => none
/-! ### errors, and what goes on -/
abbrev Rf (α : Type) := Option (Rx α × Env)
def bnd {α β : Type} : Option (Rx α × Env) → (α → Env → Option (Rx β × Env)) → Option (Rx β × Env)
  | some (.ok a, e), f => f a e
  | some (.ex c us, e), _ => some (.ex c us, e)
  | none, _ => none
def bndO {α β : Type} : Option (Rx α × Env) → (α → Env → Option (Rx β × Env)) → Option (Rx β × Env)
  | some (.ok a, e), f => f a e
  | _, _ => none
def okE {α : Type} (e : Env) : Option α → Rf α
  | some a => some (.ok a, e)
  | none => none
def okP {α : Type} (a : α) : Option Env → Rf α
  | some e => some (.ok a, e)
  | none => none
/-- an argument as it waits for the call -/
inductive Arg where
  | val (p : P) | own (o : O) | plc (i : Nat) (q : List Pt)
def isIo : Arg → Bool
  | .val _ => false
  | _ => true
def isHole : O → Bool
  | .hole => true
  | _ => false
/-- a lent place, if it is there -/
def lnQ (env : Env) (i : Nat) : Option (List Pt) → Option (List Pt)
  | some q => match plcG env i (some q) with
    | some _ => some q
    | none => none
  | none => none
def tkE (os : List O) : Option (List O × Env) → Option (List O × Env)
  | some (ps, e) => some (os ++ ps, e)
  | none => none
def tkS (y : O) (env1 : Option Env) (f : Env → Option (List O × Env)) : Option (List O × Env) := match env1 with
  | some e => if isHole y = true then none else tkE [y] (f e)
  | none => none
def tkP (env : Env) (i : Nat) (q : List Pt) (f : Env → Option (List O × Env)) : Option O → Option (List O × Env)
  | some y => tkS y (plcS env i .hole (some q)) f
  | none => none
def takeA : List Arg → Env → Option (List O × Env)
  | [], e => some ([], e)
  | .val p :: as, e => tkE [.pl p] (takeA as e)
  | .own o :: as, e => tkE [o] (takeA as e)
  | .plc i q :: as, e => tkP e i q (takeA as) (plcG e i (some q))
def giveN (f : Env → Option Env) : Option Env → Option Env
  | some e => f e
  | none => none
def giveA : List Arg → List O → Env → Option Env
  | [], [], e => some e
  | .val _ :: as, os, e => giveA as os e
  | .own _ :: as, _ :: os, e => giveA as os e
  | .plc i q :: as, o :: os, e => giveN (giveA as os) (plcS e i o (some q))
  | _, _, _ => none
def giveR (ars : List Arg) (e : Env) : Option (Rx O × List O) → Rf O
  | some (.ok o, os) => okP o (giveA ars os e)
  | some (.ex c us, os) => match giveA ars os e with
    | some e1 => some (.ex c us, e1)
    | none => none
  | none => none
def callT (c : Ct) (f : Nat) (ars : List Arg) : Option (List O × Env) → Rf O
  | some (os, e) => giveR ars e (c.call f os)
  | none => none
def callF (c : Ct) (f : Nat) (ars : List Arg) (env : Env) : Rf O := if ars.map isIo = c.io f then callT c f ars (takeA ars env) else none
def isObj (cl m : Str) : Option O → Bool
  | some (.obj c kvs) => decide (c = cl) && (fldL m kvs).isNone
  | _ => false
def methF (c : Ct) (cl m : Str) (f i : Nat) (env : Env) (r : Rf (List Arg)) : Option (List Pt) → Rf O
  | some q => if isObj cl m (plcG env i (some q)) = true then bnd r fun ars e => callF c f (.plc i q :: ars) e else none
  | none => none
/-- a new object -/
def newR (ars : List Arg) (e : Env) : Option (Rx O × List O) → Rf O
  | some (.ok (.pl .none), o :: os) => okP o (giveA ars os e)
  | _ => none
def newT (c : Ct) (f : Nat) (cl : Str) (ars : List Arg) : Option (List O × Env) → Rf O
  | some (os, e) => newR ars e (c.low f (.obj cl [] :: os))
  | none => none
def newF (c : Ct) (cl : Str) (f : Nat) (ars : List Arg) (env : Env) : Rf O := if true :: ars.map isIo = c.io f then newT c f cl ars (takeA ars env) else none
/-! ### expressions that change slots -/
def popF (env : Env) (i : Nat) (q : Option (List Pt)) : Option (O × O) → Rf O
  | some (x, y) => okP x (plcS env i y q)
  | none => none
def toPl (r : Option P) (e : Env) : Rf P := okE e r
def ifF {α : Type} (r : Rf O) (f g : Env → Rf α) : Rf α := bnd r fun o e => match o with
  | .pl (.bool b) => if b = true then f e else g e
  | _ => none
def mvF (env : Env) (i : Nat) (q : Option (List Pt)) : Rf O := match plcG env i q with
  | some y => if isHole y = true then none else okP y (plcS env i .hole q)
  | none => none
def frF (env : Env) (i : Nat) (q : Option (List Pt)) : Rf O := match o1 fz (plcG env i q) with
  | some p => okP (.pl p) (plcS env i (.pl p) q)
  | none => none
def mkLo (os : List O) : Option O := if os.length ≤ 1000000 then some (.lst os) else none
def isPl : Option (Option O) → Bool
  | some (some (.pl _)) => true
  | some none => true
  | _ => false
def rstE (env : Env) : List Nat → Env → Env
  | [], e => e
  | i :: is, e => (rstE env is e).set i ((env[i]?).join)
def lcS (acc : List O) (tst : Option O) (r : Env → Rf O) (e : Env) (k : List O → Env → Rf O) : Rf O := match tst with
  | some (.pl (.bool b)) => if b = true then bnd (r e) fun o e2 => k (acc ++ [o]) e2 else k acc e
  | _ => none
/-- the items of a comprehension, one behind the other -/
def lcGo (tst : Env → Option O) (f : Env → Rf O) (own : List Nat) (tg : Tg) : List P → List O → Env → Rf O
  | [], acc, e => okE e (mkL acc)
  | p :: ps, acc, e => match setTg (wipeE e own) tg p with
    | some e1 => lcS acc (tst e1) f e1 fun acc2 e2 => lcGo tst f own tg ps acc2 e2
    | none => none
def lcEnd (env : Env) (own : List Nat) : Rf O → Rf O
  | some (.ok o, e) => some (.ok o, rstE env own e)
  | _ => none
def lcF2 (tst : Env → Option O) (f : Env → Rf O) (own : List Nat) (tg : Tg) (r : Rf (List P)) : Rf O := bnd r fun ps e => if ps.length ≤ 1000000 ∧ (own.all fun i => isPl e[i]?) = true then lcEnd e own (lcGo tst f own tg ps [] e) else none
section
variable (c : Ct)
mutual
def evF : Fx → Env → Rf O
  | .p e, env => okE env (evR c env e)
  | .mv i ps, env => mvF env i (rsv c env ps)
  | .fr i ps, env => frF env i (rsv c env ps)
  | .call f as, env => bnd (evAs as env) fun ars e => callF c f ars e
  | .meth cl m f i ps as, env => methF c cl m f i env (evAs as env) (rsv c env ps)
  | .new cl f as, env => bndO (evAs as env) fun ars e => newF c cl f ars e
  | .bin op a b, env => bnd (evF a env) fun x e1 => bnd (evF b e1) fun y e2 => okE e2 (binO op x y)
  | .not a, env => bnd (evF a env) fun x e1 => okE e1 (notO x)
  | .and a b, env => ifF (evF a env) (evF b) (fun e => some (.ok (.pl (.bool false)), e))
  | .or a b, env => ifF (evF a env) (fun e => some (.ok (.pl (.bool true)), e)) (evF b)
  | .cmp op a b, env => bnd (evF a env) fun x e1 => bnd (evF b e1) fun y e2 => okE e2 (cmpV op x y)
  | .ife t a b, env => ifF (evF t env) (evF a) (evF b)
  | .tup es, env => bnd (evFs es env) fun os e => okE e (mkT os)
  | .lst es, env => bnd (evFs es env) fun os e => okE e (mkL os)
  | .lsto es, env => bnd (evFs es env) fun os e => okE e (mkLo os)
  | .idx a i, env => bnd (evF a env) fun x e1 => bnd (evF i e1) fun y e2 => okE e2 (idxO x y)
  | .bi b es, env => bnd (evFs es env) fun os e => okE e (biO b os)
  | .pop i ps es, env => popF env i (rsv c env ps) (o2 popO2 (plcG env i (rsv c env ps)) (evRs c env es))
  | .sh a, env => bnd (evF a env) fun o e1 => okE e1 (toP (fz o))
  | .lc own tg it cond e, env => lcF2 (fun e1 => evC c e1 cond) (evF e) own tg (evFit it env)
  | .dct ks es, env => bnd (evFs es env) fun os e => okE e (dctO ks os)
def evFs : Fxs → Env → Rf (List O)
  | .nil, env => some (.ok [], env)
  | .cons e es, env => bnd (evF e env) fun o e1 => bnd (evFs es e1) fun os e2 => some (.ok (o :: os), e2)
def evAs : Fas → Env → Rf (List Arg)
  | .nil, env => some (.ok [], env)
  | .val e as, env => bnd (evF e env) fun o e1 => bnd (okE e1 (fz o)) fun p e2 => bnd (evAs as e2) fun ars e3 => some (.ok (.val p :: ars), e3)
  | .own e as, env => bnd (evF e env) fun o e1 => bnd (evAs as e1) fun ars e3 => some (.ok (.own o :: ars), e3)
  | .ln i ps as, env => bnd (okE env (lnQ env i (rsv c env ps))) fun q e1 => bnd (evAs as e1) fun ars e3 => some (.ok (.plc i q :: ars), e3)
def evFit : Fit → Env → Rf (List P)
  | .pure it, env => okE env (evJ c env it)
  | .seq e, env => bnd (evF e env) fun o e1 => okE e1 (o1 seqAny (toP (fz o)))
  | .range1 e, env => bnd (evF e env) fun o e1 => okE e1 (rng1 o)
  | .enum e, env => bnd (evF e env) fun o e1 => okE e1 (o1 enmL (toP (fz o)))
end
end
section
variable (c : Ct)
def setIn (xs : List P) : Option P → Option Nat → Option O
  | some p, some n => some (.fl (xs.set n p))
  | _, _ => none
def setKn (kvs : List (P × P)) (q : P) : Option P → Option Key → Option O
  | some p, some k => if kvs.length < 16777216 then some (.fd (putP k q p kvs)) else none
  | _, _ => none
def appO (xs : List P) : Option P → Option O
  | some p => if xs.length < 16777216 then some (.fl (xs ++ [p])) else none
  | none => none
def insO (xs : List P) (i : Int) : Option P → Option O
  | some p => if xs.length < 16777216 ∧ 0 ≤ i ∧ i < 2 ^ 63 then some (.fl (xs.take i.toNat ++ [p] ++ xs.drop i.toNat)) else none
  | none => none
def augA : O → O → Option O
  | .pl (.int i), .pl (.int j) => some (.pl (.int (i + j)))
  | .pl (.str s), .pl (.str t) => if s.length + t.length ≤ 16777216 then some (.pl (.str (s ++ t))) else none
  | .fl xs, .fl ys => if xs.length + ys.length ≤ 16777216 then some (.fl (xs ++ ys)) else none
  | _, _ => none
def augO : Operator → O → O → Option O
  | .Add, x, y => augA x y
  | .Sub, x, y => intO .Sub x y
  | .Mult, x, y => intO .Mult x y
  | .FloorDiv, x, y => intO .FloorDiv x y
  | .Mod, x, y => intO .Mod x y
  | .LShift, x, y => intO .LShift x y
  | .RShift, x, y => intO .RShift x y
  | .BitAnd, x, y => intO .BitAnd x y
  | .BitOr, x, y => intO .BitOr x y
  | .BitXor, x, y => intO .BitXor x y
  | _, _, _ => none
/-- o[k] = y -/
def setO : O → O → O → Option O
  | .fl xs, .pl (.int j), y => setIn xs (fz y) (ixN xs.length j)
  | .fd kvs, .pl q, y => setKn kvs q (fz y) (keyP q)
  | _, _, _ => none
def mutO : MM → O → List O → Option O
  | .append, .fl xs, [y] => appO xs (fz y)
  | .extend, .fl xs, [.fl ys] => if xs.length + ys.length ≤ 16777216 then some (.fl (xs ++ ys)) else none
  | .extend, .fl xs, [.pl (.list ys)] => if xs.length + ys.length ≤ 16777216 then some (.fl (xs ++ ys)) else none
  | .update, .fd kvs, [.fd ls] => updD kvs ls
  | .update, .fd kvs, [.pl (.dict ls)] => updD kvs ls
  | .reverse, .fl xs, [] => some (.fl xs.reverse)
  | .clear, .fl _, [] => some (.fl [])
  | .insert, .fl xs, [.pl (.int i), y] => insO xs i (fz y)
  | _, _, _ => none
def nxE : Option Env → Rs
  | some e => some (.nx, e)
  | none => none
def asgS (i : Nat) : Option (O × Env) → Rs
  | some (o, e) => some (.nx, e.set i (some o))
  | none => none
def unpS (is : List Nat) : Option (O × Env) → Rs
  | some (.pl p, e) => nxE (setTg e (.tp is) p)
  | some (.fl ps, e) => nxE (setTg e (.tp is) (.list ps))
  | some (.tup os, e) => if is.length = os.length then some (.nx, (is.zip os).foldl (fun e y => e.set y.1 (some y.2)) e) else none
  | _ => none
def putS (env : Env) (i : Nat) : Option O → Rs
  | some o => some (.nx, env.set i (some o))
  | none => none
def setS (i : Nat) (ix : Ex) : Option (O × Env) → Rs
  | some (y, e) => putS e i (o2 (fun o k => setO o k y) (slot e i) (evR c e ix))
  | none => none
def mutS (m : MM) (i : Nat) : Option (List O × Env) → Rs
  | some (os, e) => putS e i (o1 (fun o => mutO m o os) (slot e i))
  | none => none
def popS (env : Env) (i : Nat) : Option Nat → Option (O × O) → Rs
  | some j, some (x, y) => some (.nx, (env.set i (some y)).set j (some x))
  | none, some (_, y) => some (.nx, env.set i (some y))
  | _, none => none
def retS : Option (O × Env) → Rs
  | some (o, e) => some (.rt o, e)
  | none => none
def expS (env : Env) : Option O → Rs
  | some _ => some (.nx, env)
  | none => none
def bndS {α : Type} : Rf α → (α → Env → Rs) → Rs
  | some (.ok a, e), f => f a e
  | some (.ex c us, e), _ => some (.ex c us, e)
  | none, _ => none
def whlGoF (t : Env → Rf O) (f : Env → Rs) : Nat → Env → Rs
  | 0, _ => none
  | n + 1, env => bndS (t env) fun o e1 => ifB (some o) (match f e1 with
    | some (.nx, e) => whlGoF t f n e
    | some (.bk, e) => some (.nx, e)
    | some (.rt o, e) => some (.rt o, e)
    | some (.ct, e) => whlGoF t f n e
    | some (.ex c us, e) => some (.ex c us, e)
    | none => none) (some (.nx, e1))
def plcN (env : Env) (i : Nat) (q : Option (List Pt)) : Option O → Rs
  | some y => nxE (plcS env i y q)
  | none => none
def setFO (cn f : Str) (y : O) : O → Option O
  | .obj cl kvs => if cl = cn ∧ kvs.length < 900 then some (.obj cl (putL f y kvs)) else none
  | _ => none
def setFS (env : Env) (i : Nat) (q : Option (List Pt)) (cn f : Str) (y : O) : Rs := plcN env i q (o1 (setFO cn f y) (plcG env i q))
def setOo (xs : List O) (y : O) : Option Nat → Option O
  | some n => some (.lst (xs.set n y))
  | none => none
/-- o[k] = y at a place -/
def setO2 : O → O → O → Option O
  | .lst xs, .pl (.int j), y => setOo xs y (ixN xs.length j)
  | o, k, y => setO o k y
def setXS (env : Env) (i : Nat) (q : Option (List Pt)) (k : Option O) (y : O) : Rs := plcN env i q (o2 (fun o k => setO2 o k y) (plcG env i q) k)
def mutO2 : MM → O → List O → Option O
  | .append, .lst xs, [y] => if xs.length < 16777216 then some (.lst (xs ++ [y])) else none
  | m, o, os => mutO m o os
def lstB : Option O → Bool
  | some (.fl _) => true
  | some (.lst _) => true
  | _ => false
def fdB : Option O → Bool
  | some (.fd _) => true
  | _ => false
def rcvB : MM → Option O → Bool
  | .update, o => fdB o
  | _, o => lstB o
def mutFS (m : MM) (env : Env) (i : Nat) (q : Option (List Pt)) (os : List O) : Rs := plcN env i q (o1 (fun o => mutO2 m o os) (plcG env i q))
def excS (cl : Str) (env : Env) : Option (List (Str × P)) → Rs
  | some us => some (.ex cl us, env)
  | none => none
def flI : O → Option (List P)
  | .fl xs => some xs
  | .pl (.list xs) => some xs
  | _ => none
def plI : O → Option (List P)
  | .pl (.list xs) => some xs
  | _ => none
/-- a list that is walked: the own one at j, or a shared one -/
def lstO (env : Env) (j i : Nat) : Option (List P) := if i = j then o1 flI (slot env i) else o1 plI (slot env i)
def mapE : Option (List P) → Option (List P)
  | some xs => some (enumP xs)
  | none => none
def zipE : Option (List P) → Option (List P) → Option (List P)
  | some xs, some ys => some (zipP xs ys)
  | _, _ => none
def itO (env : Env) (j : Nat) : It → Option (List P)
  | .seq (.var i) => lstO env j i
  | .enum (.var i) => mapE (lstO env j i)
  | .zip (.var a) (.var b) => zipE (lstO env j a) (lstO env j b)
  | _ => none
def thw1 (j : Nat) (y : O) (fl : Fl) (e : Env) : Option (Option O) → Rs
  | some none => some (fl, e.set j (some y))
  | _ => none
/-- the own thing is back in its slot -/
def thwS (j : Nat) (y : O) : Rs → Rs
  | some (fl, e) => thw1 j y fl e e[j]?
  | none => none
def appT (o : O) (e : Env) : Rs := match o with
  | .fl xs => if xs.length < 16777216 then some (.nx, e) else none
  | _ => none
mutual
def exec (env : Env) : S → Rs
  | .asg i e => asgS i (evW c env e)
  | .asgT is e => unpS is (evW c env e)
  | .aug i op e => putS env i (o2 (augO op) (slot env i) (evR c env e))
  | .setI i ix e => setS c i ix (evW c env e)
  | .augI _ _ _ _ => none
  | .exp e => expS env (evR c env e)
  | .mut m i es => mutS m i (evWs c es (some ([], env)))
  | .pop j i es => popS env i j (o2 popO (slot env i) (evRs c env es))
  | .ife t a b => ifB (evR c env t) (execs a (some (.nx, env))) (execs b (some (.nx, env)))
  | .forr tg it b => forO (fun e p => execs b (nxE (setTg e tg p))) env (evJ c env it)
  | .forW j tg it b => match slot env j with
    | some y => thwS j y (forO (fun e p => execs b (nxE (setTg e tg p))) (env.set j none) (itO env j it))
    | none => none
  | .whl t b => whlGo (fun e => evR c e t) (fun e => execs b (some (.nx, e))) c.fuel env
  | .ret e => retS (evW c env e)
  | .retN => some (.rt (.pl .none), env)
  | .pass => some (.nx, env)
  | .brk => some (.bk, env)
  | .frz i => putS env i (toP (o1 fz (slot env i)))
  | .asgF i e => bndS (evF c e env) fun o e1 => some (.nx, e1.set i (some o))
  | .asgP i e => bndS (evF c e env) fun o e1 => putS e1 i (toP (fz o))
  | .asgTF is e => bndS (evF c e env) fun o e1 => unpS is (some (o, e1))
  | .augF i op e => if (slot env i).isSome = true then bndS (evF c e env) fun o e1 => putS e1 i (o1 (fun x => augO op x o) (slot e1 i)) else none
  | .expF e => bndS (evF c e env) fun _ e1 => some (.nx, e1)
  | .retF e => bndS (evF c e env) fun o e1 => some (.rt o, e1)
  | .ifeF t a b => bndS (evF c t env) fun o e1 => ifB (some o) (execs a (some (.nx, e1))) (execs b (some (.nx, e1)))
  | .whlF t b => whlGoF (evF c t) (fun e => execs b (some (.nx, e))) c.fuel env
  | .forF tg it b => bndS (evFit c it env) fun ps e1 => forGo (fun e p => execs b (nxE (setTg e tg p))) ps e1
  | .setF cl i ps f e => bndS (evF c e env) fun y e1 => setFS e1 i (rsv c e1 ps) cl f y
  | .setX i ps ix e => bndS (evF c e env) fun y e1 => setXS e1 i (rsv c e1 ps) (evR c e1 ix) y
  | .mutF m i ps es => if rcvB m (plcG env i (rsv c env ps)) = true then bndS (evFs c es env) fun os e1 => mutFS m e1 i (rsv c e1 ps) os else none
  | .cont => some (.ct, env)
  | .raise cl es => excS cl env (o1 (c.exf cl) (evRs c env es))
  | .fail => none
  | .appT e _ => bndS (evF c e env) appT
def stepS (s : S) : Rs → Rs
  | some (.nx, env) => exec env s
  | r => r
def execs : Ss → Rs → Rs
  | .nil, r => r
  | .cons s ss, r => execs ss (stepS s r)
end
end
section
variable (c : Ct)
/-- a turn of a for; a test and a block of a while; an item of a comprehension -/
def bodyF (tg : Tg) (b : Ss) (e : Env) (p : P) : Rs := execs c b (nxE (setTg e tg p))
def tstF (t : Ex) (e : Env) : Option O := evR c e t
def blkF (b : Ss) (e : Env) : Rs := execs c b (some (.nx, e))
theorem exec_forr (env : Env) (tg : Tg) (it : It) (b : Ss) : exec c env (.forr tg it b) = forO (bodyF c tg b) env (evJ c env it) := by
  rw [exec]
  rfl
theorem exec_forW (env : Env) (j : Nat) (y : O) (tg : Tg) (it : It) (b : Ss) (h : slot env j = some y) : exec c env (.forW j tg it b) = thwS j y (forO (bodyF c tg b) (env.set j none) (itO env j it)) := by
  rw [exec, h]
  rfl
theorem exec_whl (env : Env) (t : Ex) (b : Ss) : exec c env (.whl t b) = whlGo (tstF c t) (blkF c b) c.fuel env := by
  rw [exec]
  rfl
def lcB (env : Env) (own : List Nat) (tg : Tg) (cond : Ox) (e : Ex) : P → Option (Option O) := lcF (fun env1 => evC c env1 cond) (fun env1 => evR c env1 e) env own tg
theorem evR_lc (env : Env) (own : List Nat) (tg : Tg) (it : It) (cond : Ox) (e : Ex) : evR c env (.lc own tg it cond e) = lcO (lcB c env own tg cond e) (evI c env it) := by
  rw [evR]
  rfl
end
structure Df where
  ps : Nat
  n : Nat
  body : Ss
  io : List Bool := []
def startE (n : Nat) (os : List O) : Env := os.map some ++ List.replicate (n - os.length) none
/-- what lent parameters hold in the end -/
def outsD : List Bool → Env → Option (List O)
  | [], _ => some []
  | false :: bs, _ :: e => outsD bs e
  | true :: bs, some o :: e => consA (some o) (outsD bs e)
  | _, _ => none
def finR (r : Rx O) : Option (List O) → Option (Rx O × List O)
  | some os => some (r, os)
  | none => none
def finD (io : List Bool) : Rs → Option (Rx O × List O)
  | some (.rt o, e) => finR (.ok o) (outsD io e)
  | some (.nx, e) => finR (.ok (.pl .none)) (outsD io e)
  | some (.ex c us, e) => finR (.ex c us) (outsD io e)
  | _ => none
/-- what is shared where it is not lent -/
def plB : O → Bool
  | .pl _ => true
  | _ => false
def modeB : List Bool → List O → Bool
  | [], os => os.all plB
  | _ :: _, [] => false
  | true :: bs, _ :: os => modeB bs os
  | false :: bs, o :: os => plB o && modeB bs os
def runD (c : Ct) (d : Df) (os : List O) : Option (Rx O × List O) := if os.length = d.ps ∧ modeB d.io os = true then finD d.io (execs c d.body (some (.nx, startE d.n os))) else none
end G

set_option maxRecDepth 100000
namespace G
open PySem L2

/-! ### the best reading -/
def wE (X : Cx) (e : Expr) : TE := fun σ H Q => ∃ t, PE X e t ∧ t σ H Q
def wT (X : Cx) (e : Expr) : TT := fun σ H Q => ∃ t, PT X e t ∧ t σ H Q
def wA (X : Cx) (es : List Expr) : TA := fun σ H Q => ∃ t, PA X es t ∧ t σ H Q
def wS (X : Cx) (s : Stmt) : TS := fun D σ H => ∃ t, PS X s t ∧ t D σ H
def wSs (X : Cx) (s : List Stmt) : TS := fun D σ H => ∃ t, PSs X s t ∧ t D σ H
def wG (X : Cx) (e : Expr) : TG := fun v σ H Q => ∃ t, PG X e t ∧ t v σ H Q
def wO (X : Cx) (f : Value → Value → Sem Value) : R2 := fun x y H Q => ∃ r, OpR X f r ∧ r x y H Q
def wC (X : Cx) (f : Value) : List V → Hp → VK → Prop := fun vs H Q => ∃ r, CallR X f r ∧ r vs H Q
def wX (X : Cx) : R2 := fun x y H Q => ∃ r, IxR X r ∧ r x y H Q
section
variable {X : Cx}
theorem wE_ok {e : Expr} : PE X e (wE X e) := ⟨fun pins s σ H Q I ⟨_, h, q⟩ => h.run pins s σ H Q I q⟩
theorem wT_ok {e : Expr} : PT X e (wT X e) := ⟨fun pins s σ H Q I ⟨_, h, q⟩ => h.run pins s σ H Q I q⟩
theorem wA_ok {e : List Expr} : PA X e (wA X e) := ⟨fun pos pins s σ H Q I ⟨_, h, q⟩ => h.run pos pins s σ H Q I q⟩
theorem wS_ok {e : Stmt} : PS X e (wS X e) := ⟨fun pins s σ H D I ⟨_, h, q⟩ => h.run pins s σ H D I q⟩
theorem wSs_ok {e : List Stmt} : PSs X e (wSs X e) := ⟨fun pins s σ H D I ⟨_, h, q⟩ => h.run pins s σ H D I q⟩
theorem wG_ok {e : Expr} : PG X e (wG X e) := ⟨fun pins s σ H v u Q I r ⟨_, h, q⟩ => h.run pins s σ H v u Q I r q⟩
theorem wO_ok {f : Value → Value → Sem Value} : OpR X f (wO X f) := fun pins s σ H x y v u Q I r1 r2 ⟨_, h, q⟩ => h pins s σ H x y v u Q I r1 r2 q
theorem wC_ok {f : Value} : CallR X f (wC X f) := fun pins s σ H vs us Q I r ⟨_, h, q⟩ => h pins s σ H vs us Q I r q
end

/-! ### what a reading of values does to the two heaps -/
/-- H grew to H', what is shared grew from B to B' by new things alone -/
structure Stp (B H B' H' : Hp) : Prop where
  b : Ext B B'
  h : Ext H H'
  bh : Ext B' H'
  new : ∀ a, B' a ≠ none → B a ≠ none ∨ H a = none
theorem Stp.refl {B H : Hp} (e : Ext B H) : Stp B H B H := ⟨.refl B, .refl H, e, fun _ h => .inl h⟩
theorem Stp.trans {B H B1 H1 B2 H2 : Hp} (s : Stp B H B1 H1) (t : Stp B1 H1 B2 H2) : Stp B H B2 H2 := ⟨s.b.trans t.b, s.h.trans t.h, t.bh, fun a h => by
  rcases t.new a h with z | z
  · exact s.new a z
  · exact .inr (s.h.none z)⟩
/-- the frame's part of the heap: shared things B, things held alone at f -/
structure Wld (B H : Hp) (f : List Addr) : Prop where
  bh : Ext B H
  nd : f.Nodup
  out : ∀ a ∈ f, B a = none
/-- things at f are new since (B, H) -/
structure Frs (H B' : Hp) (f : List Addr) : Prop where
  nd : f.Nodup
  new : ∀ a ∈ f, H a = none
  out : ∀ a ∈ f, B' a = none
theorem Frs.nil {H B' : Hp} : Frs H B' [] := ⟨.nil, fun _ h => by simp at h, fun _ h => by simp at h⟩
section
variable {K : PySem.W.Frag} {B H B' H' : Hp}
theorem Stp.out {f : List Addr} (s : Stp B H B' H') (hf : ∀ a ∈ f, H a ≠ none) (ho : ∀ a ∈ f, B a = none) : ∀ a ∈ f, B' a = none := fun a ha => by
  cases q : B' a with
  | none => rfl
  | some o =>
    rcases s.new a (by rw [q]; simp) with z | z
    · exact absurd (ho a ha) z
    · exact absurd z (hf a ha)
theorem RO.stp {v : V} {o : O} {f : List Addr} (s : Stp B H B' H') (r : RO K B H v o f) : RO K B' H' v o f := r.mono s.b fun a _ u e => s.h a u e
theorem ROs.stp {v : List V} {o : List O} {f : List Addr} (s : Stp B H B' H') (r : ROs K B H v o f) : ROs K B' H' v o f := r.mono s.b fun a _ u e => s.h a u e
theorem RP.stp {v : V} {p : P} (s : Stp B H B' H') (r : RP K B v p) : RP K B' v p := r.mono s.b
theorem RPs.stp {v : List V} {p : List P} (s : Stp B H B' H') (r : RPs K B v p) : RPs K B' v p := r.mono s.b
theorem Wld.stp {f : List Addr} (w : Wld B H f) (s : Stp B H B' H') (hf : ∀ a ∈ f, H a ≠ none) : Wld B' H' f := ⟨s.bh, w.nd, s.out hf w.out⟩
theorem Frs.stp {H0 : Hp} {f : List Addr} (r : Frs H0 B f) (s : Stp B H B' H') (hf : ∀ a ∈ f, H a ≠ none) : Frs H0 B' f := ⟨r.nd, r.new, s.out hf r.out⟩
theorem Frs.back {H0 : Hp} {f : List Addr} (r : Frs H B' f) (e : Ext H0 H) : Frs H0 B' f := ⟨r.nd, fun a ha => e.none (r.new a ha), r.out⟩
theorem Frs.app {f g : List Addr} {H1 : Hp} (r : Frs H B' f) (e : Ext H H1) (hf : ∀ a ∈ f, H1 a ≠ none) (q : Frs H1 B' g) : Frs H B' (f ++ g) :=
  ⟨List.nodup_append.mpr ⟨r.nd, q.nd, fun a ha b hb z => hf a ha (by rw [z]; exact q.new b hb)⟩, fun a ha => (List.mem_append.mp ha).elim (r.new a) fun z => e.none (q.new a z), fun a ha => (List.mem_append.mp ha).elim (r.out a) (q.out a)⟩
/-- what is held alone can be read as plain -/
theorem RO.rd {v : V} {o : O} {f : List Addr} {p : P} (e : Ext B H) (r : RO K B H v o f) (q : G.fz o = some p) : RP K H v p := r.fz e (fun _ _ => rfl) q
/-- .. or become shared -/
theorem RO.share {v : V} {o : O} {f : List Addr} {p : P} (e : Ext B H) (ho : ∀ a ∈ f, B a = none) (r : RO K B H v o f) (q : G.fz o = some p) : Ext B (frz B H f) ∧ Ext (frz B H f) H ∧ RP K (frz B H f) v p ∧ ∀ a, frz B H f a ≠ none → B a ≠ none ∨ a ∈ f := by
  have e1 : Ext B (frz B H f) := fun a o' h => by
    by_cases ha : a ∈ f
    · rw [ho a ha] at h
      cases h
    · rw [frz_out ha]
      exact h
  refine ⟨e1, fun a o' h => ?_, r.fz e1 (fun a ha => frz_in ha) q, fun a h => ?_⟩
  · by_cases ha : a ∈ f
    · rw [frz_in ha] at h
      exact h
    · rw [frz_out ha] at h
      exact e a o' h
  · by_cases ha : a ∈ f
    · exact .inr ha
    · rw [frz_out ha] at h
      exact .inl h
theorem frz_ext {f : List Addr} (e : Ext B H) (ho : ∀ a ∈ f, B a = none) : Ext B (frz B H f) ∧ Ext (frz B H f) H ∧ ∀ a, frz B H f a ≠ none → B a ≠ none ∨ a ∈ f := by
  refine ⟨fun a o' h => ?_, fun a o' h => ?_, fun a h => ?_⟩
  · by_cases ha : a ∈ f
    · rw [ho a ha] at h
      cases h
    · rw [frz_out ha]
      exact h
  · by_cases ha : a ∈ f
    · rw [frz_in ha] at h
      exact h
    · rw [frz_out ha] at h
      exact e a o' h
  · by_cases ha : a ∈ f
    · exact .inr ha
    · rw [frz_out ha] at h
      exact .inl h
theorem Stp.shares {vs : List V} {os : List O} {f : List Addr} {ps : List P} (s : Stp B H B' H') (r : ROs K B' H' vs os f) (q : fzs os = some ps) (n : Frs H B' f) : ∃ B'', Stp B H B'' H' ∧ Ext B' B'' ∧ RPs K B'' vs ps ∧ ∀ a, B'' a ≠ none → B' a ≠ none ∨ a ∈ f := by
  obtain ⟨e1, e2, nw⟩ := frz_ext s.bh n.out
  refine ⟨frz B' H' f, ⟨s.b.trans e1, s.h, e2, fun a h => ?_⟩, e1, r.fz e1 (fun a ha => frz_in ha) q, nw⟩
  rcases nw a h with z | z
  · exact s.new a z
  · exact .inr (n.new a z)
/-- a new thing that was made is shared at once -/
theorem Stp.share {v : V} {o : O} {f : List Addr} {p : P} (s : Stp B H B' H') (r : RO K B' H' v o f) (q : G.fz o = some p) (n : Frs H B' f) : ∃ B'', Stp B H B'' H' ∧ Ext B' B'' ∧ RP K B'' v p ∧ ∀ a, B'' a ≠ none → B' a ≠ none ∨ a ∈ f := by
  obtain ⟨e1, e2, r', nw⟩ := r.share s.bh n.out q
  refine ⟨frz B' H' f, ⟨s.b.trans e1, s.h, e2, fun a h => ?_⟩, e1, r', nw⟩
  rcases nw a h with z | z
  · exact s.new a z
  · exact .inr (n.new a z)
/-! a new object -/
theorem Stp.lay {p : Addr} {o : HO} (e : Ext B H) (hp : H p = none) : Stp B H B (upd H p o) := ⟨.refl B, .upd hp, e.trans (.upd hp), fun _ h => .inl h⟩
theorem Stp.layB {p : Addr} {o : HO} (e : Ext B H) (hp : H p = none) : Stp B H (upd B p o) (upd H p o) :=
  ⟨.upd (e.none hp), .upd hp, fun a u h => by
    by_cases ha : a = p
    · subst ha
      rw [upd_same] at h ⊢
      exact h
    · rw [upd_ne ha] at h ⊢
      exact e a u h, fun a h => by
    by_cases ha : a = p
    · subst ha
      exact .inr hp
    · rw [upd_ne ha] at h
      exact .inl h⟩

/-! ### a frame's slots -/
inductive REnv (K : PySem.W.Frag) (B H : Hp) : L2.St → Env → List Addr → Prop
  | nil : REnv K B H [] [] []
  | non {v : Option V} {σ : L2.St} {env : Env} {f : List Addr} : REnv K B H σ env f → REnv K B H (v :: σ) (none :: env) f
  | som {v : V} {o : O} {σ : L2.St} {env : Env} {f g : List Addr} : RO K B H v o f → REnv K B H σ env g → REnv K B H (some v :: σ) (some o :: env) (f ++ g)
theorem REnv.mono {σ : L2.St} {env : Env} {f : List Addr} (e : Ext B B') (r : REnv K B H σ env f) (k : ∀ a ∈ f, ∀ u, H a = some u → H' a = some u) : REnv K B' H' σ env f := by
  induction r with
  | nil => exact .nil
  | non _ ih => exact .non (ih k)
  | som h _ ih => exact .som (h.mono e fun a ha => k a (by simp [ha])) (ih fun a ha => k a (by simp [ha]))
theorem REnv.stp {σ : L2.St} {env : Env} {f : List Addr} (r : REnv K B H σ env f) (s : Stp B H B' H') : REnv K B' H' σ env f := r.mono s.b fun a _ u e => s.h a u e
theorem REnv.has {σ : L2.St} {env : Env} {f : List Addr} (r : REnv K B H σ env f) : ∀ a ∈ f, H a ≠ none := by
  induction r with
  | nil => intro a ha; simp at ha
  | non _ ih => exact ih
  | som h _ ih =>
    intro a ha
    rcases List.mem_append.mp ha with z | z
    · exact h.has a z
    · exact ih a z
theorem REnv.len {σ : L2.St} {env : Env} {f : List Addr} (r : REnv K B H σ env f) : σ.length = env.length := by
  induction r with
  | nil => rfl
  | non _ ih => rw [List.length_cons, List.length_cons, ih]
  | som _ _ ih => rw [List.length_cons, List.length_cons, ih]
theorem REnv.get {σ : L2.St} {env : Env} {f : List Addr} (r : REnv K B H σ env f) : ∀ {i : Nat} {o : O}, env[i]? = some (some o) → ∃ v g, σ[i]? = some (some v) ∧ RO K B H v o g ∧ ∀ a ∈ g, a ∈ f := by
  induction r with
  | nil => intro i o h; simp at h
  | non _ ih =>
    intro i o h
    cases i with
    | zero => simp at h
    | succ i =>
      obtain ⟨v, g, h1, h2, h3⟩ := ih (i := i) (by simpa using h)
      exact ⟨v, g, by simpa using h1, h2, h3⟩
  | @som v' o' σ env f g hr _ ih =>
    intro i o h
    cases i with
    | zero =>
      simp at h
      subst h
      exact ⟨v', f, rfl, hr, fun a ha => by simp [ha]⟩
    | succ i =>
      obtain ⟨v, g', h1, h2, h3⟩ := ih (i := i) (by simpa using h)
      exact ⟨v, g', by simpa using h1, h2, fun a ha => by simp [h3 a ha]⟩
/-- a slot's thing taken out -/
theorem REnv.take {σ : L2.St} {env : Env} {f : List Addr} (r : REnv K B H σ env f) : ∀ {i : Nat} {o : O}, env[i]? = some (some o) → ∃ v g r', σ[i]? = some (some v) ∧ RO K B H v o g ∧ f.Perm (g ++ r') ∧ REnv K B H σ (env.set i none) r' := by
  induction r with
  | nil => intro i o h; simp at h
  | non q ih =>
    intro i o h
    cases i with
    | zero => simp at h
    | succ i =>
      obtain ⟨v, g, r', h1, h2, h3, h4⟩ := ih (i := i) (by simpa using h)
      exact ⟨v, g, r', by simpa using h1, h2, h3, .non h4⟩
  | @som v' o' σ env f g hr q ih =>
    intro i o h
    cases i with
    | zero =>
      simp at h
      subst h
      exact ⟨v', f, g, rfl, hr, .refl _, .non q⟩
    | succ i =>
      obtain ⟨v, g', r', h1, h2, h3, h4⟩ := ih (i := i) (by simpa using h)
      refine ⟨v, g', f ++ r', by simpa using h1, h2, ?_, .som hr h4⟩
      have e1 : (f ++ g).Perm (f ++ (g' ++ r')) := List.Perm.append_left f h3
      refine e1.trans ?_
      rw [← List.append_assoc, ← List.append_assoc]
      exact List.Perm.append_right r' List.perm_append_comm
/-- .. whatever it was -/
theorem REnv.drop {σ : L2.St} {env : Env} {f : List Addr} (r : REnv K B H σ env f) (i : Nat) : ∃ g r', f.Perm (g ++ r') ∧ REnv K B H σ (env.set i none) r' := by
  cases h : env[i]? with
  | none => exact ⟨[], f, .refl _, by rw [List.set_eq_of_length_le (List.getElem?_eq_none_iff.mp h)]; exact r⟩
  | some x =>
    cases x with
    | none =>
      refine ⟨[], f, .refl _, ?_⟩
      have : env.set i none = env := by
        refine List.ext_getElem? fun j => ?_
        by_cases hj : i = j
        · subst hj
          rw [List.getElem?_set_self (List.getElem?_eq_some_iff.mp h).1, h]
        · rw [List.getElem?_set_ne hj]
      rw [this]
      exact r
    | some o =>
      obtain ⟨v, g, r', _, _, h3, h4⟩ := r.take h
      exact ⟨g, r', h3, h4⟩
theorem REnv.putN {σ : L2.St} {env : Env} {f : List Addr} (r : REnv K B H σ env f) : ∀ {i : Nat} {v : V} {o : O} {g : List Addr}, env[i]? = some none → RO K B H v o g → ∃ f', f'.Perm (g ++ f) ∧ REnv K B H (σ.set i (some v)) (env.set i (some o)) f' := by
  induction r with
  | nil => intro i v o g h; simp at h
  | @non w σ env f q ih =>
    intro i v o g h ro
    cases i with
    | zero => exact ⟨g ++ f, .refl _, .som ro q⟩
    | succ i =>
      obtain ⟨f', h1, h2⟩ := ih (i := i) (by simpa using h) ro
      exact ⟨f', h1, .non h2⟩
  | @som v' o' σ env f g' hr q ih =>
    intro i v o g h ro
    cases i with
    | zero => simp at h
    | succ i =>
      obtain ⟨f', h1, h2⟩ := ih (i := i) (by simpa using h) ro
      refine ⟨f ++ f', ?_, .som hr h2⟩
      have e1 : (f ++ f').Perm (f ++ (g ++ g')) := List.Perm.append_left f h1
      refine e1.trans ?_
      rw [← List.append_assoc, ← List.append_assoc]
      exact List.Perm.append_right g' List.perm_append_comm
theorem REnv.put {σ : L2.St} {env : Env} {f : List Addr} (r : REnv K B H σ env f) {i : Nat} {v : V} {o : O} {g : List Addr} (hi : i < env.length) (ro : RO K B H v o g) : ∃ g' r' f', f.Perm (g' ++ r') ∧ f'.Perm (g ++ r') ∧ REnv K B H (σ.set i (some v)) (env.set i (some o)) f' := by
  obtain ⟨g', r', h1, h2⟩ := r.drop i
  obtain ⟨f', h3, h4⟩ := h2.putN (i := i) (v := v) (o := o) (g := g) (by rw [List.getElem?_set_self hi]) ro
  refine ⟨g', r', f', h1, h3, ?_⟩
  rw [List.set_set] at h4
  exact h4
theorem Wld.perm {f g : List Addr} (w : Wld B H f) (p : f.Perm g) : Wld B H g := ⟨w.bh, p.nodup_iff.mp w.nd, fun a ha => w.out a (p.mem_iff.mpr ha)⟩
theorem Wld.right {f g : List Addr} (w : Wld B H (f ++ g)) : Wld B H g := ⟨w.bh, (List.nodup_append.mp w.nd).2.1, fun a ha => w.out a (by simp [ha])⟩
theorem Wld.left {f g : List Addr} (w : Wld B H (f ++ g)) : Wld B H f := ⟨w.bh, (List.nodup_append.mp w.nd).1, fun a ha => w.out a (by simp [ha])⟩
theorem Wld.add {f g : List Addr} {H0 : Hp} (w : Wld B H f) (n : Frs H0 B g) (hf : ∀ a ∈ f, H0 a ≠ none) : Wld B H (g ++ f) :=
  ⟨w.bh, List.nodup_append.mpr ⟨n.nd, w.nd, fun a ha b hb z => hf b hb (by rw [← z]; exact n.new a ha)⟩, fun a ha => (List.mem_append.mp ha).elim (n.out a) (w.out a)⟩
end
end G

set_option maxRecDepth 100000
namespace G
open PySem L2
section
variable {K : PySem.W.Frag} {B H B' H' : Hp} {v x y : V} {f g : List Addr}
mutual
theorem RP.dp (e : Ext B H) : ∀ {v : V} {p : P}, RP K B v p → p.canLay0 = true → Dp K H v p
  | _, _, .non, _ => .non
  | _, _, .bl, _ => .bl _
  | _, _, .int, _ => .int _
  | _, _, .str, _ => .str _
  | _, _, .tup h' r, c => .tup (e.sqT h') (RPs.dp e r (by simpa [PyData.canLay0] using c))
  | _, _, .lst h' r, c => .lst (e.sl h').sq (RPs.dp e r (by simpa [PyData.canLay0] using c))
  | _, _, .dic _ _, c => by simp [PyData.canLay0] at c
theorem RPs.dp (e : Ext B H) : ∀ {v : List V} {p : List P}, RPs K B v p → PyData.canLayAll0 p = true → DpAll K H v p
  | _, _, .nil, _ => .nil
  | _, _, .cons h r, c => by
    simp only [PyData.canLayAll0, Bool.and_eq_true] at c
    exact .cons (RP.dp e h c.1) (RPs.dp e r c.2)
end
theorem RPs.len {vs : List V} {ps : List P} (r : RPs K B vs ps) : vs.length = ps.length := by
  induction ps generalizing vs with
  | nil => cases r; rfl
  | cons p ps ih => cases r with | cons h r => rw [List.length_cons, List.length_cons, ih r]
theorem RPs.app {vs ws : List V} {ps qs : List P} (r : RPs K B vs ps) (q : RPs K B ws qs) : RPs K B (vs ++ ws) (ps ++ qs) := by
  induction ps generalizing vs with
  | nil => cases r; exact q
  | cons p ps ih => cases r with | cons h r => exact .cons h (ih r)
theorem RPs.getE {vs : List V} {ps : List P} (r : RPs K B vs ps) : ∀ {i : Nat} {p : P}, ps[i]? = some p → ∃ v, vs[i]? = some v ∧ RP K B v p := by
  induction ps generalizing vs with
  | nil => intro i p h; simp at h
  | cons p ps ih =>
    cases r with
    | @cons v vs _ _ h r =>
      intro i q e
      cases i with
      | zero =>
        simp at e
        subst e
        exact ⟨v, rfl, h⟩
      | succ i =>
        obtain ⟨w, e1, e2⟩ := ih r (i := i) (by simpa using e)
        exact ⟨w, by simpa using e1, e2⟩
theorem RPs.getV {vs : List V} {ps : List P} (r : RPs K B vs ps) {i : Nat} {v : V} (e : vs[i]? = some v) : ∃ p, ps[i]? = some p ∧ RP K B v p := by
  have h1 := (List.getElem?_eq_some_iff.mp e).1
  rw [r.len] at h1
  obtain ⟨w, e1, e2⟩ := r.getE (List.getElem?_eq_getElem h1)
  rw [e] at e1
  cases e1
  exact ⟨_, List.getElem?_eq_getElem h1, e2⟩
theorem RPs.take {vs : List V} {ps : List P} (r : RPs K B vs ps) (n : Nat) : RPs K B (vs.take n) (ps.take n) := by
  induction ps generalizing vs n with
  | nil => cases r; simp; exact .nil
  | cons p ps ih =>
    cases r with
    | cons h r =>
      cases n with
      | zero => exact .nil
      | succ n => exact .cons h (ih r n)
theorem RPs.drop {vs : List V} {ps : List P} (r : RPs K B vs ps) (n : Nat) : RPs K B (vs.drop n) (ps.drop n) := by
  induction ps generalizing vs n with
  | nil => cases r; simp; exact .nil
  | cons p ps ih =>
    cases r with
    | cons h r =>
      cases n with
      | zero => exact .cons h r
      | succ n => exact ih r n
theorem RPs.set {vs : List V} {ps : List P} (r : RPs K B vs ps) {v : V} {p : P} (h : RP K B v p) (n : Nat) : RPs K B (vs.set n v) (ps.set n p) := by
  induction ps generalizing vs n with
  | nil => cases r; exact .nil
  | cons q ps ih =>
    cases r with
    | cons h' r =>
      cases n with
      | zero => exact .cons h r
      | succ n => exact .cons h' (ih r n)
theorem RPs.rev {vs : List V} {ps : List P} (r : RPs K B vs ps) : RPs K B vs.reverse ps.reverse := by
  induction ps generalizing vs with
  | nil => cases r; exact .nil
  | cons p ps ih =>
    cases r with
    | cons h r =>
      rw [List.reverse_cons, List.reverse_cons]
      exact (ih r).app (.cons h .nil)
theorem RPs.rep {vs : List V} {ps : List P} (r : RPs K B vs ps) (n : Nat) : RPs K B (List.replicate n vs).flatten (List.replicate n ps).flatten := by
  induction n with
  | zero => exact .nil
  | succ n ih =>
    rw [List.replicate_succ, List.replicate_succ, List.flatten_cons, List.flatten_cons]
    exact r.app ih
theorem RPs.erase {vs : List V} {ps : List P} (r : RPs K B vs ps) (n : Nat) : RPs K B (vs.eraseIdx n) (ps.eraseIdx n) := by
  induction ps generalizing vs n with
  | nil => cases r; exact .nil
  | cons p ps ih =>
    cases r with
    | cons h r =>
      cases n with
      | zero => exact r
      | succ n => exact .cons h (ih r n)
/-! what a thing of such a form is -/
theorem RO.i {i : Int} (r : RO K B H v (.pl (.int i)) f) : v = .int i := by
  cases r with | pl r => cases r; rfl
theorem RO.b {i : Bool} (r : RO K B H v (.pl (.bool i)) f) : v = .bl i := by
  cases r with | pl r => cases r; rfl
theorem RO.s {i : Str} (r : RO K B H v (.pl (.str i)) f) : v = .str i := by
  cases r with | pl r => cases r; rfl
theorem RO.n (r : RO K B H v (.pl .none) f) : v = .non := by
  cases r with | pl r => cases r; rfl
theorem RO.p {p : P} (r : RO K B H v (.pl p) f) : RP K B v p := by
  cases r with | pl r => exact r
theorem RO.lits {o : O} {ps : List P} (e : Ext B H) (r : RO K B H v o f) (h : litems o = some ps) : ∃ a vs, v = .ref a ∧ SL K H a vs ∧ RPs K B vs ps := by
  unfold litems at h
  split at h
  · cases h
    cases r with
    | pl r => cases r with | lst h r => exact ⟨_, _, rfl, e.sl h, r⟩
  · cases h
    cases r with
    | fl h r => exact ⟨_, _, rfl, .of h, r⟩
  · cases h
theorem RO.tits {ps : List P} (e : Ext B H) (r : RO K B H v (.pl (.tuple ps)) f) : ∃ a vs, v = .ref a ∧ SqT K H a vs ∧ RPs K B vs ps := by
  cases r with
  | pl r => cases r with | tup h r => exact ⟨_, _, rfl, e.sqT h, r⟩
theorem RO.seqs {o : O} {ps : List P} (e : Ext B H) (r : RO K B H v o f) (h : seqI o = some ps) : ∃ a vs, v = .ref a ∧ (SqL K H a vs ∨ SqT K H a vs) ∧ RPs K B vs ps := by
  unfold seqI at h
  split at h
  · cases h
    obtain ⟨a, vs, e1, e2, e3⟩ := r.lits e (by rfl)
    exact ⟨a, vs, e1, .inl e2.sq, e3⟩
  · cases h
    obtain ⟨a, vs, e1, e2, e3⟩ := r.lits e (by rfl)
    exact ⟨a, vs, e1, .inl e2.sq, e3⟩
  · cases h
    obtain ⟨a, vs, e1, e2, e3⟩ := r.tits e
    exact ⟨a, vs, e1, .inr e2, e3⟩
  · cases h
end
/-! ### what an operator gives -/
section
variable {X : Cx} {B H : Hp} {x y : V} {f g : List Addr} {ox oy o : O}
/-- what is wanted of a value that was made from (B, H) -/
def Gv (K : PySem.W.Frag) (B H : Hp) (o : O) (Q : VK) : Prop := ∀ v B' H' f, Stp B H B' H' → RO K B' H' v o f → Frs H B' f → Q v H'
theorem Gv.pl {K : PySem.W.Frag} {v : V} {p : P} {Q : VK} (e : Ext B H) (q : Gv K B H (.pl p) Q) (r : RP K B v p) : Q v H := q v B H [] (.refl e) (.pl r) .nil
theorem Gv.fl {K : PySem.W.Frag} {vs : List V} {ps : List P} {Q : VK} (e : Ext B H) (q : Gv K B H (.fl ps) Q) (r : RPs K B vs ps) (a : Addr) (ha : H a = none) : Q (.ref a) (upd H a (.lst vs)) :=
  q _ B _ [a] (.lay e ha) (.fl upd_same r) ⟨by simp, by simpa using ha, by simpa using e.none ha⟩
theorem Gv.tup {K : PySem.W.Frag} {vs : List V} {ps : List P} {Q : VK} (e : Ext B H) (q : Gv K B H (.pl (.tuple ps)) Q) (r : RPs K B vs ps) (a : Addr) (ha : H a = none) : Q (.ref a) (upd H a (.tup vs)) := by
  have s := Stp.layB (o := .tup vs) e ha
  exact q _ _ _ [] s (.pl (.tup (.of upd_same) (r.stp s))) .nil
theorem SL.at {pins : List (Addr × Obj)} {s : Shared} {σ : L2.St} {a : Addr} {xs : List V} (h : SL X.K H a xs) (I : Inv X pins σ H s) : ∃ (its : List Value) (n : Nat), Vals xs its ∧ s.heap.get? a = some { cls := .type "list", dict := none, data := .seq its.toArray n, slots := #[] } := by
  rcases h with h | ⟨its, n, h1, h2, h3⟩
  · obtain ⟨_, i1, n1, r1, e1⟩ := h.ok I.hok
    exact ⟨i1, n1, r1, e1⟩
  · exact ⟨its.toList, n, h3, by simpa using I.kIn _ _ h1⟩
theorem op_catR : OpR X (binaryOp .Add) (fun x y H Q => ∃ l b xs zs, x = .ref l ∧ y = .ref b ∧ SL X.K H l xs ∧ SL X.K H b zs ∧ xs.length + zs.length ≤ sizeLine ∧ ∀ p, H p = none → Q (.ref p) (upd H p (.lst (xs ++ zs)))) := by
  intro pins s σ H x y v u Q I rx ry h
  obtain ⟨l, b, xs, zs, rfl, rfl, hH, hB, hz, q⟩ := h
  cases rx
  cases ry
  obtain ⟨i1, n1, r1, e1⟩ := hH.at I
  obtain ⟨i2, n2, r2, e2⟩ := hB.at I
  have l1 := r1.length
  have l2 := r2.length
  refine PySem.P.add_list e1 e2 ?_ (by rw [List.size_toArray, List.size_toArray]; omega)
  rw [show i1.toArray ++ i2.toArray = (i1 ++ i2).toArray by simp]
  exact ⟨.ref _, _, I.lnew (t' := s.toks) (r1.append r2) (by rw [List.length_append]; exact hz), rfl, q _ I.fresh⟩
theorem op_repR : OpR X (binaryOp .Mult) (fun x y H Q => ∃ l k xs, x = .ref l ∧ y = .int k ∧ H l = some (.lst xs) ∧ -(2 ^ 63) ≤ k ∧ k < 2 ^ 63 ∧ xs.length * k.toNat ≤ sizeLine ∧
  ∀ p, H p = none → Q (.ref p) (upd H p (.lst (List.replicate k.toNat xs).flatten))) := op_rep
theorem line_eq : sizeLine = 16777216 := by decide
theorem bin_ok {op : Operator} (e : Ext B H) (r1 : RO X.K B H x ox f) (r2 : RO X.K B H y oy g) (h : binO op ox oy = some o) {Q : VK} (q : Gv X.K B H o Q) : wO X (binaryOp op) x y H Q := by
  have II : ∀ {op : Operator} {i j : Int}, toI (iBin op i j) = some o → x = .int i → y = .int j → wO X (binaryOp op) x y H Q := by
    intro op i j h e1 e2
    subst e1 e2
    have fin : ∀ k, o = .pl (.int k) → Q (.int k) H := fun k z => by
      subst z
      exact q.pl e .int
    have hz : ∃ k, iBin op i j = some k ∧ o = .pl (.int k) := by
      cases hk : iBin op i j with
      | none => rw [hk] at h; cases h
      | some k => rw [hk] at h; cases h; exact ⟨k, rfl, rfl⟩
    obtain ⟨k, hk, ho⟩ := hz
    have z := fin _ ho
    cases op
    case Add => cases hk; exact ⟨_, op_add, _, _, rfl, rfl, z⟩
    case Sub => cases hk; exact ⟨_, op_sub, _, _, rfl, rfl, z⟩
    case BitAnd => cases hk; exact ⟨_, op_and, _, _, rfl, rfl, z⟩
    case BitOr => cases hk; exact ⟨_, op_or, _, _, rfl, rfl, z⟩
    case BitXor => cases hk; exact ⟨_, op_xor, _, _, rfl, rfl, z⟩
    case Mult =>
      rw [iBin] at hk; split at hk <;> cases hk; rename_i c
      rcases c with c | c | c
      · exact ⟨_, op_mul, _, _, rfl, rfl, .inl c, z⟩
      · exact ⟨_, op_mul, _, _, rfl, rfl, .inr c, z⟩
      · exact ⟨_, op_mulW, _, _, rfl, rfl, c, z⟩
    case Mod => rw [iBin] at hk; split at hk <;> cases hk; rename_i c; exact ⟨_, op_mod, _, _, rfl, rfl, c, z⟩
    case Pow => rw [iBin] at hk; split at hk <;> cases hk; rename_i c; exact ⟨_, op_pow, _, _, rfl, rfl, c, z⟩
    case LShift => rw [iBin] at hk; split at hk <;> cases hk; rename_i c; exact ⟨_, op_shl, _, _, rfl, rfl, c, z⟩
    case RShift => rw [iBin] at hk; split at hk <;> cases hk; rename_i c; exact ⟨_, op_shr, _, _, rfl, rfl, c, z⟩
    case FloorDiv =>
      rw [iBin] at hk; split at hk <;> cases hk; rename_i c
      obtain ⟨c0, c | c⟩ := c
      · exact ⟨_, op_fdiv, _, _, rfl, rfl, ⟨c0, c⟩, z⟩
      · exact ⟨_, op_fdivW, _, _, rfl, rfl, ⟨c0, c⟩, z⟩
    all_goals cases hk
  have IO : ∀ {op : Operator}, intO op ox oy = some o → wO X (binaryOp op) x y H Q := by
    intro op h
    unfold intO at h
    split at h
    · exact II h r1.i r2.i
    · cases h
  have AL : ∀ {a b : List P}, litems ox = some a → litems oy = some b → addL a b = some o → wO X (binaryOp .Add) x y H Q := by
    intro a b h1 h2 h
    unfold addL at h
    split at h
    · rename_i c
      cases h
      obtain ⟨l, vs, rfl, d1, p1⟩ := r1.lits e h1
      obtain ⟨l', ws, rfl, d2, p2⟩ := r2.lits e h2
      exact ⟨_, op_catR, l, l', vs, ws, rfl, rfl, d1, d2, by rw [p1.len, p2.len, line_eq]; exact c, fun p hp => q.fl e (p1.app p2) p hp⟩
    · cases h
  cases op
  case Add =>
    replace h : addO ox oy = some o := h
    unfold addO at h
    split at h
    · rw [r1.i, r2.i]
      cases h
      exact ⟨_, op_add, _, _, rfl, rfl, q.pl e .int⟩
    · rw [r1.s, r2.s]
      split at h
      · rename_i c
        cases h
        exact ⟨_, op_add_str, _, _, rfl, rfl, by rw [line_eq]; exact c, q.pl e .str⟩
      · cases h
    · split at h
      · rename_i c
        cases h
        obtain ⟨l, vs, rfl, d1, p1⟩ := r1.tits e
        obtain ⟨l', ws, rfl, d2, p2⟩ := r2.tits e
        have p1' := r1.p
        have p2' := r2.p
        refine ⟨_, op_catA, l, l', vs, ws, rfl, rfl, d1, d2, by rw [p1.len, p2.len, line_eq]; exact c, fun z => ?_, fun _ z => ?_, fun _ _ p hp => q.tup e (p1.app p2) p hp⟩
        · subst z
          cases p1
          exact q.pl e p2'
        · subst z
          cases p2
          rw [List.append_nil] at q
          exact q.pl e p1'
      · cases h
    · exact AL rfl rfl h
    · exact AL rfl rfl h
    · exact AL rfl rfl h
    · exact AL rfl rfl h
    · cases h
  case Mult =>
    have ML : ∀ {a : List P} {k : Int}, (∃ l vs, x = .ref l ∧ SL X.K H l vs ∧ RPs X.K B vs a) → y = .int k → mulL a k = some o → (∃ l vs, x = .ref l ∧ H l = some (.lst vs) ∧ RPs X.K B vs a) → wO X (binaryOp .Mult) x y H Q := by
      intro a k _ e2 h h1
      unfold mulL at h
      split at h
      · rename_i c
        cases h
        obtain ⟨l, vs, rfl, d1, p1⟩ := h1
        subst e2
        exact ⟨_, op_rep, l, k, vs, rfl, rfl, d1, c.1, c.2.1, by rw [p1.len, line_eq]; exact c.2.2, fun p hp => q.fl e (p1.rep _) p hp⟩
      · cases h
    replace h : mulO ox oy = some o := h
    unfold mulO at h
    split at h
    · exact II h r1.i r2.i
    · rw [r2.i]
      split at h
      · rename_i c
        cases h
        obtain ⟨l, vs, rfl, d1, p1⟩ := r1.tits e
        refine ⟨_, op_repT, l, _, vs, rfl, rfl, d1, fun z => ?_, c.2.1, c.2.2.1, by rw [p1.len]; exact c.2.2.2, fun p hp => q.tup e (p1.rep _) p hp⟩
        subst z
        cases p1
        exact c.1 rfl
      · cases h
    · cases h
    · refine ML (r1.lits e rfl) r2.i h ?_
      cases r1 with
      | fl h r => exact ⟨_, _, rfl, h, r⟩
    · cases h
  all_goals first
    | exact IO h
    | cases h
theorem neg_ok (e : Ext B H) (r1 : RO X.K B H x ox f) (h : negO ox = some o) {Q : VK} (q : Gv X.K B H o Q) : ∃ r, UnR X (unaryOp .USub) r ∧ r x H Q := by
  unfold negO at h
  split at h
  · cases h
    exact ⟨_, un_neg, _, r1.i, q.pl e .int⟩
  · cases h
end
end G

set_option maxRecDepth 100000
namespace G
open PySem L2
section
variable {K : PySem.W.Frag} {B H B' H' : Hp} {v w x y : V} {f g : List Addr}
/-! flat things -/
theorem RP.flat {p : P} (r : RP K B v p) (h : flatP p = true) : flatV v = true := by
  cases r <;> first | rfl | cases h
theorem RPs.flat {vs : List V} {ps : List P} (r : RPs K B vs ps) (h : ps.all flatP = true) : vs.all flatV = true := by
  induction ps generalizing vs with
  | nil => cases r; rfl
  | cons p ps ih =>
    cases r with
    | cons r1 r2 =>
      rw [List.all_cons, Bool.and_eq_true] at h
      rw [List.all_cons, r1.flat h.1, ih r2 h.2]
      rfl
theorem RP.eqv {p q : P} (r : RP K B v p) (r' : RP K B w q) (h : flatP p = true) (h' : flatP q = true) : eqV v w = PyData.eqv p q := by
  cases r <;> cases r' <;> first | rfl | cases h | cases h'
theorem RPs.inV {p : P} {vs : List V} {ps : List P} (r : RP K B v p) (q : RPs K B vs ps) (h : flatP p = true) (h' : ps.all flatP = true) : inV v vs = memP p ps := by
  induction ps generalizing vs with
  | nil => cases q; rfl
  | cons p' ps ih =>
    cases q with
    | cons r1 r2 =>
      rw [List.all_cons, Bool.and_eq_true] at h'
      show (eqV _ v || L2.inV v _) = (PyData.eqv p' p || memP p ps)
      rw [r1.eqv r h'.1 h, ih r2 h'.2]
theorem RPs.at {vs : List V} {ps : List P} (q : RPs K B vs ps) {i : Int} {p : P} (h : atI ps i = some p) : ∃ v, atI vs i = some v ∧ RP K B v p := by
  unfold atI at h ⊢
  rw [q.len]
  cases e : ixN ps.length i with
  | none => rw [e] at h; cases h
  | some j =>
    rw [e] at h
    exact q.getE h
theorem RPs.cut {vs : List V} {ps : List P} (q : RPs K B vs ps) (lo hi : Option Int) : RPs K B (cutV vs lo hi) (cutP ps lo hi) := by
  unfold cutV cutP
  rw [q.len]
  exact (q.drop _).take _
theorem RPs.ints {vs : List V} {ps : List P} (q : RPs K B vs ps) : ∀ {ns : List Int}, intsP ps = some ns → vs = ns.map V.int := by
  induction ps generalizing vs with
  | nil => intro ns h; cases q; rw [intsP] at h; cases h; rfl
  | cons p ps ih =>
    intro ns h
    cases q with
    | cons r1 r2 =>
      unfold intsP at h
      split at h
      · rename_i e
        cases e
      · rename_i i ps' e
        injection e with e1 e2
        subst e1 e2
        cases z : intsP ps with
        | none => rw [z] at h; cases h
        | some ms =>
          rw [z] at h
          cases h
          cases r1
          rw [ih r2 z]
          rfl
      · cases h
theorem RPs.bools {vs : List V} {ps : List P} (q : RPs K B vs ps) : ∀ {ns : List Bool}, boolsP ps = some ns → vs = ns.map V.bl := by
  induction ps generalizing vs with
  | nil => intro ns h; cases q; rw [boolsP] at h; cases h; rfl
  | cons p ps ih =>
    intro ns h
    cases q with
    | cons r1 r2 =>
      unfold boolsP at h
      split at h
      · rename_i e
        cases e
      · rename_i i ps' e
        injection e with e1 e2
        subst e1 e2
        cases z : boolsP ps with
        | none => rw [z] at h; cases h
        | some ms =>
          rw [z] at h
          cases h
          cases r1
          rw [ih r2 z]
          rfl
      · cases h
/-! dicts -/
theorem keyV {p : P} {k : Key} (r : RP K B v p) (h : keyP p = some k) : v = kV k := by
  cases r with
  | int => rw [keyP] at h; cases h; rfl
  | str => rw [keyP] at h; cases h; rfl
  | _ => rw [keyP] at h <;> cases h
theorem RPd.look {us : List (Key × V)} {kvs : List (P × P)} (r : RPd K B us kvs) (k : Key) : (∀ p, lookP k kvs = some p → ∃ v, valV us k = some v ∧ RP K B v p) ∧ (lookP k kvs = none → valV us k = none) ∧ (valV us k).isSome = kvs.any fun e => decide (keyP e.1 = some k) := by
  induction kvs generalizing us with
  | nil => cases r; exact ⟨fun p h => (by cases h), fun _ => rfl, rfl⟩
  | cons e kvs ih =>
    cases r with
    | @cons k' v us q p _ hk hv r =>
      have i := ih r
      by_cases hkk : k' = k
      · subst hkk
        have e1 : valV ((k', v) :: us) k' = some v := by
          unfold valV
          rw [List.find?_cons_of_pos (by simp)]
          rfl
        refine ⟨fun p' h => ?_, fun h => ?_, ?_⟩
        · rw [lookP, if_pos hk] at h
          cases h
          exact ⟨v, e1, hv⟩
        · rw [lookP, if_pos hk] at h
          cases h
        · rw [e1, List.any_cons, decide_eq_true hk]
          rfl
      · have hk2 : ¬ keyP q = some k := fun z => hkk (by rw [hk] at z; exact Option.some.inj z)
        have e1 : valV ((k', v) :: us) k = valV us k := by
          unfold valV
          rw [List.find?_cons_of_neg (by simpa using hkk)]
        refine ⟨fun p' h => ?_, fun h => ?_, ?_⟩
        · rw [lookP, if_neg hk2] at h
          rw [e1]
          exact i.1 p' h
        · rw [lookP, if_neg hk2] at h
          rw [e1]
          exact i.2.1 h
        · rw [e1, i.2.2, List.any_cons, decide_eq_false hk2, Bool.false_or]
theorem RPd.len {us : List (Key × V)} {kvs : List (P × P)} (r : RPd K B us kvs) : us.length = kvs.length := by
  induction kvs generalizing us with
  | nil => cases r; rfl
  | cons e kvs ih => cases r with | cons _ _ r => rw [List.length_cons, List.length_cons, ih r]
theorem RPd.any {us : List (Key × V)} {kvs : List (P × P)} (r : RPd K B us kvs) (k : Key) : (us.any fun kv => decide (kv.1 = k)) = kvs.any fun e => decide (keyP e.1 = some k) := by
  induction kvs generalizing us with
  | nil => cases r; rfl
  | cons e kvs ih =>
    cases r with
    | @cons k' v us q p _ hk hv r =>
      rw [List.any_cons, List.any_cons, ih r]
      congr 1
      show decide (k' = k) = decide (keyP q = some k)
      rw [hk]
      by_cases z : k' = k
      · rw [decide_eq_true z, decide_eq_true (by rw [z])]
      · rw [decide_eq_false z, decide_eq_false (fun h => z (Option.some.inj h))]
theorem RPd.put {us : List (Key × V)} {kvs : List (P × P)} (r : RPd K B us kvs) {k : Key} {q p : P} (hk : keyP q = some k) (hv : RP K B v p) : RPd K B (putK us k v) (putP k q p kvs) := by
  have mp : ∀ {us : List (Key × V)} {kvs : List (P × P)}, RPd K B us kvs → RPd K B (us.map fun kv => if kv.1 = k then (kv.1, v) else kv) (kvs.map fun e => if keyP e.1 = some k then (e.1, p) else e) := by
    intro us kvs r
    induction kvs generalizing us with
    | nil => cases r; exact .nil
    | cons e kvs ih =>
      cases r with
      | @cons k' v' us q' p' _ hk' hv' r =>
        rw [List.map_cons, List.map_cons]
        by_cases z : k' = k
        · subst z
          rw [if_pos rfl, if_pos hk']
          exact .cons hk' hv (ih r)
        · rw [if_neg z, if_neg (fun h => z (Option.some.inj (hk'.symm.trans h)))]
          exact .cons hk' hv' (ih r)
  have ap : ∀ {us : List (Key × V)} {kvs : List (P × P)}, RPd K B us kvs → RPd K B (us ++ [(k, v)]) (kvs ++ [(q, p)]) := by
    intro us kvs r
    induction kvs generalizing us with
    | nil => cases r; exact .cons hk hv .nil
    | cons e kvs ih => cases r with | cons hk' hv' r => exact .cons hk' hv' (ih r)
  unfold putK putP
  rw [r.any k]
  split
  · exact mp r
  · exact ap r
theorem RO.dits {o : O} {kvs : List (P × P)} (e : Ext B H) (r : RO K B H v o f) (h : ditems o = some kvs) : ∃ a us, v = .ref a ∧ Rd H a (.dK us) ∧ RPd K B us kvs := by
  unfold ditems at h
  split at h
  · cases h
    cases r with
    | pl r => cases r with | dic h r => exact ⟨_, _, rfl, e.rd h, r⟩
  · cases h
    cases r with
    | fd h r => exact ⟨_, _, rfl, .of h, r⟩
  · cases h
/-! kinds -/
def tyN : Ty → String
  | .int => "int"
  | .bool => "bool"
  | .str => "str"
  | .list => "list"
  | .tuple => "tuple"
  | .dict => "dict"
def tyS : Option Ty → String
  | none => "NoneType"
  | some t => tyN t
def tyU (p : P) : String := tyS (tyP p)
theorem RP.ty {p : P} (r : RP K B v p) : TyX K B v (.type (tyU p)) := by
  cases r with
  | non => exact .base .non
  | bl => exact .base (.bl _)
  | int => exact .base (.int _)
  | str => exact .base (.str _)
  | tup h _ =>
    rcases h with (h | ⟨o, h⟩) | ⟨o, _, _, h1, h2, _⟩
    · exact .base (.tup h)
    · exact .fTuple h
    · exact .kTuple h1 h2
  | lst h _ =>
    rcases h with (h | ⟨o, h⟩) | ⟨its, n, h, _⟩
    · exact .base (.lst h)
    · exact .base (.frz h)
    · exact .kList h rfl
  | dic h _ =>
    rcases h with h | ⟨o, h⟩
    · exact .base (.dK h)
    · exact .fDict h
theorem kit_S (u : Option Ty) (t : Ty) : kitB (tyS u) (tyN t) = some (isTy1 u t) := by
  cases u with
  | none => cases t <;> decide +kernel
  | some u => cases u <;> cases t <;> decide +kernel
theorem kit_one (p : P) (t : Ty) : PySem.W.kitOne K (.type (tyU p)) (.type (tyN t)) = some (isTy1 (tyP p) t) := kit_ty (kit_S _ _)
theorem kit_all (p : P) (ts : List Ty) : PySem.W.kitAny K (.type (tyU p)) (ts.map fun t => .type (tyN t)) = some (ts.any (isTy1 (tyP p))) := by
  induction ts with
  | nil => rfl
  | cons t ts ih =>
    rw [List.map_cons, List.any_cons]
    refine kitAny_cons (kit_one p t) (fun h => ?_) (fun h => ?_)
    · rw [h, ih]
      rfl
    · rw [h]
      rfl
end
/-! ### comparisons -/
section
variable {X : Cx} {B H : Hp} {x y : V} {f g : List Addr} {ox oy o : O}
theorem eq_ok (hu : X.A.units + 64 < cLine) (e : Ext B H) (r1 : RO X.K B H x ox f) (r2 : RO X.K B H y oy g) {b : Bool} (h : eqO ox oy = some b) :
    (∃ r, OpR X (compareOp .Eq) r ∧ ∀ R : VK, R (.bl b) H → r x y H R) ∧ ∃ r, OpR X (compareOp .NotEq) r ∧ ∀ R : VK, R (.bl (!b)) H → r x y H R := by
  have D : eqQ (fz ox) (fz oy) = some b → (∃ r, OpR X (compareOp .Eq) r ∧ ∀ R : VK, R (.bl b) H → r x y H R) ∧ ∃ r, OpR X (compareOp .NotEq) r ∧ ∀ R : VK, R (.bl (!b)) H → r x y H R := by
    intro h
    unfold eqQ at h
    split at h
    · rename_i p q hp hq
      unfold eqP at h
      split at h
      · rename_i c
        cases h
        have d1 := (r1.rd e hp).dp (.refl H) (SeqAt.canLay_of_shaped c.1)
        have d2 := (r2.rd e hq).dp (.refl H) (SeqAt.canLay_of_shaped c.2)
        exact ⟨⟨_, op_eqD hu, fun R q => ⟨_, _, d1, d2, c.1, c.2, q⟩⟩, ⟨_, op_neD hu, fun R q => ⟨_, _, d1, d2, c.1, c.2, q⟩⟩⟩
      · cases h
    · cases h
  unfold eqO at h
  split at h
  · rename_i i j
    rw [r1.i, r2.i]
    cases h
    have z : decide (V.int i = V.int j) = decide (i = j) := by simp
    exact ⟨⟨_, op_eq, fun R q => ⟨rfl, by rw [z]; exact q⟩⟩, ⟨_, op_ne, fun R q => ⟨rfl, by rw [z]; exact q⟩⟩⟩
  · rename_i i j
    rw [r1.s, r2.s]
    cases h
    have z : decide (V.str i = V.str j) = decide (i = j) := by simp
    exact ⟨⟨_, op_eq, fun R q => ⟨rfl, by rw [z]; exact q⟩⟩, ⟨_, op_ne, fun R q => ⟨rfl, by rw [z]; exact q⟩⟩⟩
  · exact D h
theorem in_okL (e : Ext B H) (r1 : RO X.K B H x ox f) (r2 : RO X.K B H y oy g) {b : Bool} (hd : (ditems oy).isSome = false) (h : inO ox oy = some b) :
    (∃ r, OpR X (compareOp .In) r ∧ ∀ R : VK, R (.bl b) H → r x y H R) ∧ ∃ r, OpR X (compareOp .NotIn) r ∧ ∀ R : VK, R (.bl (!b)) H → r x y H R := by
  have Q : ∀ {p : P} {xs : List P}, ox = .pl p → seqI oy = some xs → inSq p xs = some b → (∃ r, OpR X (compareOp .In) r ∧ ∀ R : VK, R (.bl b) H → r x y H R) ∧ ∃ r, OpR X (compareOp .NotIn) r ∧ ∀ R : VK, R (.bl (!b)) H → r x y H R := by
    intro p xs e1 e2 hh
    subst e1
    unfold inSq at hh
    split at hh
    · rename_i c
      cases hh
      obtain ⟨a, vs, rfl, s, q⟩ := r2.seqs e e2
      have z := RPs.inV r1.p q c.1 c.2
      refine ⟨⟨_, op_in_seq, fun R k => ⟨a, vs, rfl, s, r1.p.flat c.1, q.flat c.2, ?_⟩⟩, ⟨_, op_notIn_seq, fun R k => ⟨a, vs, rfl, s, r1.p.flat c.1, q.flat c.2, ?_⟩⟩⟩
      · rw [if_neg (by decide), z]
        exact k
      · rw [if_pos rfl, z]
        exact k
    · cases hh
  unfold inO at h
  split at h
  · rw [r1.s, r2.s]
    cases h
    exact ⟨⟨_, op_in_str, fun R q => ⟨_, _, rfl, rfl, q⟩⟩, ⟨_, op_notin_str, fun R q => ⟨_, _, rfl, rfl, q⟩⟩⟩
  · exact Q rfl rfl h
  · exact Q rfl rfl h
  · exact Q rfl rfl h
  · cases hd
  · cases hd
  · cases h
theorem in_okD (e : Ext B H) (r1 : RO X.K B H x ox f) (r2 : RO X.K B H y oy g) {b : Bool} (hd : (ditems oy).isSome = true) (h : inO ox oy = some b) : ∃ a o, y = .ref a ∧ DGet H a x o ∧ o.isSome = b := by
  have D : ∀ {p : P} {kvs : List (P × P)}, ox = .pl p → ditems oy = some kvs → hasK (keyP p) kvs = some b → ∃ a o, y = .ref a ∧ DGet H a x o ∧ o.isSome = b := by
    intro p kvs e1 e2 hh
    subst e1
    cases hk : keyP p with
    | none => rw [hk] at hh; cases hh
    | some k =>
      rw [hk] at hh
      cases hh
      obtain ⟨a, us, rfl, s, q⟩ := r2.dits e e2
      exact ⟨a, valV us k, rfl, .inl ⟨us, k, s, keyV r1.p hk, rfl⟩, (q.look k).2.2⟩
  unfold inO at h
  split at h
  · cases hd
  · cases hd
  · cases hd
  · cases hd
  · exact D rfl rfl h
  · exact D rfl rfl h
  · cases h
theorem is_ok (r1 : RO X.K B H x ox f) (r2 : RO X.K B H y oy g) {b : Bool} (h : isO ox oy = some b) :
    (∃ r, OpR X (compareOp .Is) r ∧ ∀ R : VK, R (.bl b) H → r x y H R) ∧ ∃ r, OpR X (compareOp .IsNot) r ∧ ∀ R : VK, R (.bl (!b)) H → r x y H R := by
  unfold isO at h
  split at h
  · cases h
  · rename_i a b
    cases h
    have e1 := r1.b
    have e2 := r2.b
    exact ⟨⟨_, op_is_bl, fun R q => ⟨a, b, e1, e2, q⟩⟩, ⟨_, op_isnot_bl, fun R q => ⟨a, b, e1, e2, q⟩⟩⟩
  · rename_i nh
    cases h
    have z : decide (x = .non) = isNo ox := by
      cases r1 with
      | pl r => cases r <;> rfl
      | hole => exact absurd rfl nh
      | _ => rfl
    have e2 := r2.n
    exact ⟨⟨_, op_isN, fun R q => ⟨e2, by rw [z]; exact q⟩⟩, ⟨_, op_notN, fun R q => ⟨e2, by rw [z]; exact q⟩⟩⟩
  · cases h
def isD (op : CmpOp) (oy : O) : Bool := (decide (op = .In) || decide (op = .NotIn)) && (ditems oy).isSome
theorem neg_some {z : Option Bool} {b : Bool} (h : neg z = some b) : ∃ c, z = some c ∧ b = !c := by
  cases z with
  | none => cases h
  | some c => cases h; exact ⟨c, rfl, rfl⟩
theorem cmp_okL (hu : X.A.units + 64 < cLine) {op : CmpOp} (e : Ext B H) (r1 : RO X.K B H x ox f) (r2 : RO X.K B H y oy g) {b : Bool} (h : cmpO op ox oy = some b) (hd : isD op oy = false) {R : VK} (q : R (.bl b) H) : wO X (compareOp op) x y H R := by
  have I : ∀ {fn : Int → Int → Bool}, cmpI fn ox oy = some b → ∃ i j, x = .int i ∧ y = .int j ∧ b = fn i j := by
    intro fn h
    unfold cmpI at h
    split at h
    · cases h
      exact ⟨_, _, r1.i, r2.i, rfl⟩
    · cases h
  have L : ∀ {op : CmpOp} {b : Bool}, (∃ r, OpR X (compareOp op) r ∧ ∀ R : VK, R (.bl b) H → r x y H R) → R (.bl b) H → wO X (compareOp op) x y H R := fun ⟨r, h1, h2⟩ q => ⟨r, h1, h2 R q⟩
  cases op
  case Eq => exact L (eq_ok hu e r1 r2 h).1 q
  case NotEq =>
    obtain ⟨c, h', rfl⟩ := neg_some h
    exact L (eq_ok hu e r1 r2 h').2 q
  case Lt =>
    obtain ⟨i, j, rfl, rfl, rfl⟩ := I h
    exact ⟨_, op_lt, i, j, rfl, rfl, q⟩
  case LtE =>
    obtain ⟨i, j, rfl, rfl, rfl⟩ := I h
    exact ⟨_, op_le, i, j, rfl, rfl, q⟩
  case Gt =>
    obtain ⟨i, j, rfl, rfl, rfl⟩ := I h
    exact ⟨_, op_gt, i, j, rfl, rfl, q⟩
  case GtE =>
    obtain ⟨i, j, rfl, rfl, rfl⟩ := I h
    exact ⟨_, op_ge, i, j, rfl, rfl, q⟩
  case Is => exact L (is_ok r1 r2 h).1 q
  case IsNot =>
    obtain ⟨c, h', rfl⟩ := neg_some h
    exact L (is_ok r1 r2 h').2 q
  case In => exact L (in_okL e r1 r2 hd h).1 q
  case NotIn =>
    obtain ⟨c, h', rfl⟩ := neg_some h
    exact L (in_okL e r1 r2 hd h').2 q
theorem cmp_okD {op : CmpOp} (e : Ext B H) (r1 : RO X.K B H x ox f) (r2 : RO X.K B H y oy g) {b : Bool} (h : cmpO op ox oy = some b) (hd : isD op oy = true) :
    (op = .In ∧ ∃ a o, y = .ref a ∧ DGet H a x o ∧ o.isSome = b) ∨ (op = .NotIn ∧ ∃ a o, y = .ref a ∧ DGet H a x o ∧ (!o.isSome) = b) := by
  unfold isD at hd
  rw [Bool.and_eq_true, Bool.or_eq_true, decide_eq_true_eq, decide_eq_true_eq] at hd
  rcases hd with ⟨rfl | rfl, hd⟩
  · exact .inl ⟨rfl, in_okD e r1 r2 hd h⟩
  · obtain ⟨c, h', rfl⟩ := neg_some h
    obtain ⟨a, o, e1, e2, e3⟩ := in_okD e r1 r2 hd h'
    exact .inr ⟨rfl, a, o, e1, e2, by rw [e3]⟩
/-! ### subscripts -/
theorem idx_okL (e : Ext B H) (r1 : RO X.K B H x ox f) (r2 : RO X.K B H y oy g) (hd : (ditems ox).isSome = false) (h : idxO ox oy = some o) {Q : VK} (q : Gv X.K B H o Q) : ∃ r, IxR X r ∧ r x y H Q := by
  have S : ∀ {xs : List P} {i : Int}, seqI ox = some xs → y = .int i → toP (atI xs i) = some o → ∃ r, IxR X r ∧ r x y H Q := by
    intro xs i h1 h2 h
    subst h2
    cases z : atI xs i with
    | none => rw [z] at h; cases h
    | some p =>
      rw [z] at h
      cases h
      obtain ⟨a, vs, rfl, s, r⟩ := r1.seqs e h1
      obtain ⟨v, e1, e2⟩ := r.at z
      rcases s with s | s
      · exact ⟨_, ix_list, a, vs, i, v, rfl, rfl, s, e1, q.pl e e2⟩
      · exact ⟨_, ix_tup, a, vs, i, v, rfl, rfl, s, e1, q.pl e e2⟩
  unfold idxO at h
  split at h
  · rename_i s i
    unfold idxS at h
    split at h
    · rename_i c
      cases z : atI s.cps.toList i with
      | none => rw [z] at h; cases h
      | some n =>
        rw [z] at h
        cases h
        exact ⟨_, ix_str, s, i, n, r1.s, r2.i, by rw [line_eq]; exact c, z, q.pl e .str⟩
    · cases h
  · exact S rfl r2.i h
  · exact S rfl r2.i h
  · exact S rfl r2.i h
  · cases hd
  · cases hd
  · cases hd
  · cases hd
  · cases h
theorem idx_okD (e : Ext B H) (r1 : RO X.K B H x ox f) (r2 : RO X.K B H y oy g) (hd : (ditems ox).isSome = true) (h : idxO ox oy = some o) {Q : VK} (q : Gv X.K B H o Q) : ∃ a v, x = .ref a ∧ DGet H a y (some v) ∧ Q v H := by
  have D : ∀ {kvs : List (P × P)} {k : Key}, ditems ox = some kvs → y = kV k → toP (lookP k kvs) = some o → ∃ a v, x = .ref a ∧ DGet H a y (some v) ∧ Q v H := by
    intro kvs k h1 h2 h
    subst h2
    cases z : lookP k kvs with
    | none => rw [z] at h; cases h
    | some p =>
      rw [z] at h
      cases h
      obtain ⟨a, us, rfl, s, r⟩ := r1.dits e h1
      obtain ⟨v, e1, e2⟩ := (r.look k).1 p z
      exact ⟨a, v, rfl, .inl ⟨us, k, s, rfl, e1.symm⟩, q.pl e e2⟩
  unfold idxO at h
  split at h
  · cases hd
  · cases hd
  · cases hd
  · cases hd
  · exact D rfl (k := .inl _) r2.i h
  · exact D rfl (k := .inl _) r2.i h
  · exact D rfl (k := .inr _) r2.s h
  · exact D rfl (k := .inr _) r2.s h
  · cases h
theorem slc_ok {lo hi : Option Int} (e : Ext B H) (r1 : RO X.K B H x ox f) (h : slcO ox lo hi = some o) {Q : VK} (q : Gv X.K B H o Q) : ∃ r, SlR X r ∧ r x lo hi H Q := by
  have L : ∀ {xs : List P}, litems ox = some xs → o = .fl (cutP xs lo hi) → ∃ r, SlR X r ∧ r x lo hi H Q := by
    intro xs h1 h2
    subst h2
    obtain ⟨a, vs, rfl, s, r⟩ := r1.lits e h1
    exact ⟨_, sl_list, a, vs, rfl, s.sq, fun p hp => q.fl e (r.cut lo hi) p hp⟩
  unfold slcO at h
  split at h
  · split at h
    · rename_i c
      cases h
      exact ⟨_, sl_str, _, r1.s, by rw [line_eq]; exact c, q.pl e .str⟩
    · cases h
  · rename_i xs
    cases h
    obtain ⟨a, vs, rfl, s, r⟩ := r1.tits e
    have r1' := r1.p
    refine ⟨_, sl_tupA, a, vs, rfl, s, fun z => ?_, fun _ p hp => q.tup e (r.cut lo hi) p hp⟩
    rw [r.len] at z
    have : cutP xs lo hi = xs := by
      unfold cutP
      rw [z.1, z.2, Nat.sub_zero, List.drop_zero, List.take_length]
    rw [this] at q
    exact q.pl e r1'
  · cases h
    exact L rfl rfl
  · cases h
    exact L rfl rfl
  · cases h
end
end G

set_option maxRecDepth 100000
namespace G
open PySem L2
def biV : BI → Value
  | .len => .builtin "len"
  | .abs => .builtin "abs"
  | .int => .type "int"
  | .str => .type "str"
  | .list => .type "list"
  | .tuple => .type "tuple"
  | .max => .builtin "max"
  | .min => .builtin "min"
  | .sum => .builtin "sum"
  | .all => .builtin "all"
  | .any => .builtin "any"
  | .sorted => .builtin "sorted"
  | .dict => .type "dict"
section
variable {K : PySem.W.Frag} {B H : Hp} {v : V} {f : List Addr}
theorem ROs.one {vs : List V} {o : O} (r : ROs K B H vs [o] f) : ∃ v g, vs = [v] ∧ RO K B H v o g := by
  cases r with
  | cons h r => cases r; exact ⟨_, _, rfl, h⟩
theorem ROs.two {vs : List V} {o o' : O} (r : ROs K B H vs [o, o'] f) : ∃ v w g g', vs = [v, w] ∧ RO K B H v o g ∧ RO K B H w o' g' := by
  cases r with
  | cons h r =>
    obtain ⟨w, g', rfl, h'⟩ := r.one
    exact ⟨_, _, _, _, rfl, h, h'⟩
theorem ROs.len {vs : List V} {os : List O} (r : ROs K B H vs os f) : vs.length = os.length := by
  induction os generalizing vs f with
  | nil => cases r; rfl
  | cons p ps ih => cases r with | cons h r => rw [List.length_cons, List.length_cons, ih r]
theorem ROd.len {vs : List (Key × V)} {os : List (P × O)} (r : ROd K B H vs os f) : vs.length = os.length := by
  induction os generalizing vs f with
  | nil => cases r; rfl
  | cons p ps ih => cases r with | cons _ h r => rw [List.length_cons, List.length_cons, ih r]
end
/-! min and max of a pair -/
section
variable {prog : Program} {w : World} {A : Around} {E : Value → Shared → Prop} {s : Shared}
theorem max_pair {a b : Int} {t u : Tok} {p : Addr} {Q : Value → Shared → Prop} (hh : A.handled = none) (hT : s.heap.IsTuple p (intItems #[(a, t), (b, u)]))
    (h : ∀ h' tk, (∀ c o, s.heap.get? c = some o → h'.get? c = some o) → Q (if b > a then .int b u else .int a t) { s with heap := h', toks := tk }) :
    wpAny (model prog w) A (call (.builtin "max") [.ref p]) Q E s := by
  have hlt : p < s.heap.objs.size := by obtain ⟨_, e, _⟩ := hT; exact Heap.lt_size e
  refine call_max_walk (wpAny_pyIter_tuple hT ?_)
  refine ⟨_, [_, p], [_], _, _, _, _, rfl, Walks.tuple (A := A.in1) hh _ p (Nat.ne_of_lt hlt) (intItems #[(a, t), (b, u)]),
    ⟨⟨_, Heap.get?_push_size _ rfl, rfl, rfl⟩, hT.push _⟩, fun c hc => ?_, by simp [intItems], CmpOf.ints_gt (numAt #[(a, t), (b, u)]) (fun _ _ => intItems_at), fun v h' tk hP hk => ?_⟩
  · show c < (s.heap.push _).objs.size
    rw [Heap.size_push]
    rcases List.mem_cons.mp hc with rfl | hc
    · exact Nat.lt_succ_self _
    · rcases List.mem_cons.mp hc with rfl | hc
      · exact Nat.lt_succ_of_lt hlt
      · cases hc
  · have hold : ∀ c o, s.heap.get? c = some o → h'.get? c = some o := fun c o e => by
      refine hk c o (fun hm => ?_) (Heap.get?_push_of_some _ e)
      rcases List.mem_cons.mp hm with e1 | hm
      · have := Heap.lt_size e; rw [e1] at this; exact Nat.lt_irrefl _ this
      · cases hm
    have := h h' tk hold
    have hv : v = if b > a then Value.int b u else Value.int a t := by
      have hP' : (intItems #[(a, t), (b, u)])[argBest (fun i j => decide (numAt #[(a, t), (b, u)] i > numAt #[(a, t), (b, u)] j)) 1]? = some v := by
        have hsz2 : (intItems #[(a, t), (b, u)]).size - 1 = 1 := by simp [intItems]
        rw [← hsz2]; exact hP
      by_cases hba : b > a
      · have e : argBest (fun i j => decide (numAt #[(a, t), (b, u)] i > numAt #[(a, t), (b, u)] j)) 1 = 1 := by simp [argBest, numAt, hba]
        rw [e] at hP'
        simpa [intItems, hba] using hP'.symm
      · have e : argBest (fun i j => decide (numAt #[(a, t), (b, u)] i > numAt #[(a, t), (b, u)] j)) 1 = 0 := by simp [argBest, numAt, hba]
        rw [e] at hP'
        simpa [intItems, hba] using hP'.symm
    rw [hv]; exact this
theorem min_pair {a b : Int} {t u : Tok} {p : Addr} {Q : Value → Shared → Prop} (hh : A.handled = none) (hT : s.heap.IsTuple p (intItems #[(a, t), (b, u)]))
    (h : ∀ h' tk, (∀ c o, s.heap.get? c = some o → h'.get? c = some o) → Q (if b < a then .int b u else .int a t) { s with heap := h', toks := tk }) :
    wpAny (model prog w) A (call (.builtin "min") [.ref p]) Q E s := by
  have hlt : p < s.heap.objs.size := by obtain ⟨_, e, _⟩ := hT; exact Heap.lt_size e
  refine call_min_walk (wpAny_pyIter_tuple hT ?_)
  refine ⟨_, [_, p], [_], _, _, _, _, rfl, Walks.tuple (A := A.in1) hh _ p (Nat.ne_of_lt hlt) (intItems #[(a, t), (b, u)]),
    ⟨⟨_, Heap.get?_push_size _ rfl, rfl, rfl⟩, hT.push _⟩, fun c hc => ?_, by simp [intItems], CmpOf.ints_lt (numAt #[(a, t), (b, u)]) (fun _ _ => intItems_at), fun v h' tk hP hk => ?_⟩
  · show c < (s.heap.push _).objs.size
    rw [Heap.size_push]
    rcases List.mem_cons.mp hc with rfl | hc
    · exact Nat.lt_succ_self _
    · rcases List.mem_cons.mp hc with rfl | hc
      · exact Nat.lt_succ_of_lt hlt
      · cases hc
  · have hold : ∀ c o, s.heap.get? c = some o → h'.get? c = some o := fun c o e => by
      refine hk c o (fun hm => ?_) (Heap.get?_push_of_some _ e)
      rcases List.mem_cons.mp hm with e1 | hm
      · have := Heap.lt_size e; rw [e1] at this; exact Nat.lt_irrefl _ this
      · cases hm
    have := h h' tk hold
    have hv : v = if b < a then Value.int b u else Value.int a t := by
      have hP' : (intItems #[(a, t), (b, u)])[argBest (fun i j => decide (numAt #[(a, t), (b, u)] i < numAt #[(a, t), (b, u)] j)) 1]? = some v := by
        have hsz2 : (intItems #[(a, t), (b, u)]).size - 1 = 1 := by simp [intItems]
        rw [← hsz2]; exact hP
      by_cases hba : b < a
      · have e : argBest (fun i j => decide (numAt #[(a, t), (b, u)] i < numAt #[(a, t), (b, u)] j)) 1 = 1 := by simp [argBest, numAt, hba]
        rw [e] at hP'
        simpa [intItems, hba] using hP'.symm
      · have e : argBest (fun i j => decide (numAt #[(a, t), (b, u)] i < numAt #[(a, t), (b, u)] j)) 1 = 0 := by simp [argBest, numAt, hba]
        rw [e] at hP'
        simpa [intItems, hba] using hP'.symm
    rw [hv]; exact this
end
section
variable {X : Cx}
theorem pair_vals {i j : Int} {its : List Value} (r : Vals [.int i, .int j] its) : ∃ t u, its.toArray = intItems #[(i, t), (j, u)] := by
  obtain ⟨a, b, rfl, ⟨t, rfl⟩, ⟨u, rfl⟩⟩ := vals2 r
  exact ⟨t, u, by simp [intItems]⟩
theorem call_max_pair (hc : X.calm = true) : CallR X (.builtin "max") (fun xs H Q => ∃ p i j, xs = [V.ref p] ∧ SqT X.K H p [.int i, .int j] ∧ Q (.int (if j > i then j else i)) H) := by
  intro pins s σ H xs us Q I r h
  obtain ⟨p, i, j, rfl, hq, q⟩ := h
  obtain ⟨its, rv, ht, _⟩ := I.tuple hq
  obtain ⟨t, u, e⟩ := pair_vals rv
  rw [e] at ht
  rw [Vals.ref1 r]
  refine max_pair (I.ok.hd hc) ht fun h' tk k => ⟨_, H, I.kept k, ?_, q⟩
  by_cases hj : j > i
  · rw [if_pos hj, if_pos hj]; exact ⟨_, rfl⟩
  · rw [if_neg hj, if_neg hj]; exact ⟨_, rfl⟩
theorem call_min_pair (hc : X.calm = true) : CallR X (.builtin "min") (fun xs H Q => ∃ p i j, xs = [V.ref p] ∧ SqT X.K H p [.int i, .int j] ∧ Q (.int (if j < i then j else i)) H) := by
  intro pins s σ H xs us Q I r h
  obtain ⟨p, i, j, rfl, hq, q⟩ := h
  obtain ⟨its, rv, ht, _⟩ := I.tuple hq
  obtain ⟨t, u, e⟩ := pair_vals rv
  rw [e] at ht
  rw [Vals.ref1 r]
  refine min_pair (I.ok.hd hc) ht fun h' tk k => ⟨_, H, I.kept k, ?_, q⟩
  by_cases hj : j < i
  · rw [if_pos hj, if_pos hj]; exact ⟨_, rfl⟩
  · rw [if_neg hj, if_neg hj]; exact ⟨_, rfl⟩
end
section
variable {X : Cx} {B H : Hp} {vs : List V} {f : List Addr} {os : List O} {o : O}
theorem call_lenR : CallR X (.builtin "len") (fun xs H Q => ∃ a us, xs = [V.ref a] ∧ Rd H a (.dK us) ∧ Q (.int us.length) H) := fun pins s σ H xs ws Q I r h => by
  obtain ⟨a, us, e1, e2, q⟩ := h
  subst e1
  obtain ⟨w, e3, r2⟩ := vals1 r
  subst e3
  cases r2
  exact d_len I e2 fun t _ I2 => ⟨.int (us.length : Int), H, I2, ⟨t, rfl⟩, q⟩
theorem len_ok {x : V} {ox : O} {g : List Addr} {n : Nat} (e : Ext B H) (r : RO X.K B H x ox g) (h : lenO ox = some n) {Q : VK} (q : Q (.int (n : Int)) H) : wC X (.builtin "len") [x] H Q := by
  have S : ∀ {xs : List P}, seqI ox = some xs → n = xs.length → wC X (.builtin "len") [x] H Q := by
    intro xs h1 h2
    obtain ⟨a, vs, rfl, s, r'⟩ := r.seqs e h1
    exact ⟨_, call_len_seq, a, vs, rfl, s, by rw [r'.len, ← h2]; exact q⟩
  have D : ∀ {xs : List (P × P)}, ditems ox = some xs → n = xs.length → wC X (.builtin "len") [x] H Q := by
    intro xs h1 h2
    obtain ⟨a, us, rfl, s, r'⟩ := r.dits e h1
    exact ⟨_, call_lenR, a, us, rfl, s, by rw [r'.len, ← h2]; exact q⟩
  unfold lenO at h
  split at h
  · split at h
    · rename_i c
      cases h
      exact ⟨_, call_len_str, _, by rw [r.s], by rw [line_eq]; exact c, q⟩
    · cases h
  · cases h; exact S rfl rfl
  · cases h; exact S rfl rfl
  · cases h; exact S rfl rfl
  · cases h; exact D rfl rfl
  · cases h; exact D rfl rfl
  · cases h
    cases r with
    | lst h1 h2 => exact ⟨_, call_len_seq, _, _, rfl, .inl (.of h1), by rw [h2.len]; exact q⟩
  · cases h
    cases r with
    | dic h1 h2 => exact ⟨_, call_lenD, _, _, rfl, h1, by rw [h2.len]; exact q⟩
  · cases h
    cases r with
    | tup h1 h2 => exact ⟨_, call_len_seq, _, _, rfl, .inr (.of (e _ _ h1)), by rw [h2.len]; exact q⟩
  · cases h
theorem Gv.fd {K : PySem.W.Frag} {us : List (Key × V)} {kvs : List (P × P)} {Q : VK} (e : Ext B H) (q : Gv K B H (.fd kvs) Q) (r : RPd K B us kvs) (a : Addr) (ha : H a = none) : Q (.ref a) (upd H a (.dK us)) :=
  q _ _ _ [a] (.lay e ha) (.fd upd_same r) ⟨by simp, by simpa using ha, by simpa using e.none ha⟩
theorem bi_ok (hc : X.calm = true) {b : BI} (e : Ext B H) (r : ROs X.K B H vs os f) (h : biO b os = some o) {Q : VK} (q : Gv X.K B H o Q) : wC X (biV b) vs H Q := by
  unfold biO at h
  split at h
  · obtain ⟨v, g, rfl, r1⟩ := r.one
    cases z : lenO _ with
    | none => rw [z] at h; cases h
    | some n =>
      rw [z] at h
      cases h
      exact len_ok e r1 z (q.pl e .int)
  · obtain ⟨v, g, rfl, r1⟩ := r.one
    cases h
    exact ⟨_, call_abs, _, by rw [r1.i], q.pl e .int⟩
  · obtain ⟨v, g, rfl, r1⟩ := r.one
    cases h
    exact ⟨_, call_int1, .inl ⟨_, by rw [r1.i], q.pl e .int⟩⟩
  · obtain ⟨v, g, rfl, r1⟩ := r.one
    cases h
    exact ⟨_, call_int1, .inr ⟨_, by rw [r1.b], q.pl e .int⟩⟩
  · obtain ⟨v, g, rfl, r1⟩ := r.one
    split at h
    · rename_i c
      cases h
      exact ⟨_, call_str_int, _, by rw [r1.i], c, q.pl e .str⟩
    · cases h
  · obtain ⟨v, g, rfl, r1⟩ := r.one
    cases z : seqI _ with
    | none => rw [z] at h; cases h
    | some ps =>
      rw [z] at h
      cases h
      obtain ⟨a, ws, rfl, s, r2⟩ := r1.seqs e z
      exact ⟨_, call_list_of, a, ws, rfl, s, fun l hl => q.fl e r2 l hl⟩
  · obtain ⟨v, g, rfl, r1⟩ := r.one
    cases z : seqI _ with
    | none => rw [z] at h; cases h
    | some ps =>
      rw [z] at h
      cases h
      have LL : ∀ {ox : O}, RO X.K B H v ox g → litems ox = some ps → wC X (biV .tuple) [v] H Q := fun r1 z => by
        obtain ⟨a, ws, rfl, s, r2⟩ := r1.lits e z
        exact ⟨_, call_tuple_of, a, ws, rfl, .inl ⟨s.sq, fun l hl => q.tup e r2 l hl⟩⟩
      unfold seqI at z
      split at z
      · cases z
        exact LL r1 rfl
      · cases z
        exact LL r1 rfl
      · cases z
        have r1' := r1.p
        obtain ⟨a, ws, rfl, s, r2⟩ := r1.tits e
        exact ⟨_, call_tuple_of, a, ws, rfl, .inr ⟨s, q.pl e r1'⟩⟩
      · cases z
  · obtain ⟨v, w, g, g', rfl, r1, r2⟩ := r.two
    cases h
    exact ⟨_, call_max2 hc, _, _, by rw [r1.i, r2.i], q.pl e .int⟩
  · obtain ⟨v, w, g, g', rfl, r1, r2⟩ := r.two
    cases h
    exact ⟨_, call_min2 hc, _, _, by rw [r1.i, r2.i], q.pl e .int⟩
  · obtain ⟨v, g, rfl, r1⟩ := r.one
    cases h
    obtain ⟨a, ws, rfl, s, r2⟩ := r1.tits e
    rw [r2.ints (ns := [_, _]) rfl] at s
    exact ⟨_, call_max_pair hc, a, _, _, rfl, s, q.pl e .int⟩
  · obtain ⟨v, g, rfl, r1⟩ := r.one
    cases h
    obtain ⟨a, ws, rfl, s, r2⟩ := r1.tits e
    rw [r2.ints (ns := [_, _]) rfl] at s
    exact ⟨_, call_min_pair hc, a, _, _, rfl, s, q.pl e .int⟩
  · obtain ⟨v, g, rfl, r1⟩ := r.one
    cases z : litems _ with
    | none => rw [z] at h; cases h
    | some ps =>
      rw [z] at h
      replace h : sumL (intsP ps) = some o := h
      cases z2 : intsP ps with
      | none => rw [z2] at h; cases h
      | some ns =>
        rw [z2] at h
        cases h
        obtain ⟨a, ws, rfl, s, r2⟩ := r1.lits e z
        rw [r2.ints z2] at s
        exact ⟨_, cr_sum hc, a, ns, rfl, s.sq, q.pl e .int⟩
  · obtain ⟨v, g, rfl, r1⟩ := r.one
    cases z : litems _ with
    | none => rw [z] at h; cases h
    | some ps =>
      rw [z] at h
      replace h : allL (boolsP ps) = some o := h
      cases z2 : boolsP ps with
      | none => rw [z2] at h; cases h
      | some ns =>
        rw [z2] at h
        cases h
        obtain ⟨a, ws, rfl, s, r2⟩ := r1.lits e z
        rw [r2.bools z2] at s
        exact ⟨_, cr_all hc, a, ns, rfl, s.sq, q.pl e .bl⟩
  · obtain ⟨v, g, rfl, r1⟩ := r.one
    cases z : litems _ with
    | none => rw [z] at h; cases h
    | some ps =>
      rw [z] at h
      replace h : anyL (boolsP ps) = some o := h
      cases z2 : boolsP ps with
      | none => rw [z2] at h; cases h
      | some ns =>
        rw [z2] at h
        cases h
        obtain ⟨a, ws, rfl, s, r2⟩ := r1.lits e z
        rw [r2.bools z2] at s
        exact ⟨_, cr_any hc, a, ns, rfl, s.sq, q.pl e .bl⟩
  · obtain ⟨v, g, rfl, r1⟩ := r.one
    cases z : ditems _ with
    | none => rw [z] at h; cases h
    | some ps =>
      rw [z] at h
      cases h
      obtain ⟨a, us, rfl, s, r2⟩ := r1.dits e z
      exact ⟨_, call_dictD, a, us, rfl, s, fun l hl => q.fd e r2 l hl⟩
  · cases h
end
end G

set_option maxRecDepth 100000
namespace G
open PySem L2
/-! ### the mini-syntax against the given one -/
structure Tb where
  fn : Nat → Option Str
  gn : Nat → Option Str
  me : Str → Str → Option Nat := fun _ _ => none
  ini : Str → Option Nat := fun _ => none
  fl : Str → Str → Bool := fun _ _ => false
def visB (sc : Scope) (x : Str) : Bool := match sc.names.lookup x with
  | some .local => true
  | some .cell => true
  | some .free => true
  | _ => false
def glB (sc : Scope) (x : Str) : Bool := match sc.names.lookup x with
  | some .globalImplicit => true
  | _ => false
def locB (sc : Scope) (x : Str) : Bool := match sc.names.lookup x with
  | some .local => true
  | some .cell => true
  | _ => false
def nameB (N : List Str) (sc : Scope) (i : Nat) (x : Str) : Bool := decide (N[i]? = some x) && visB sc x && !(x == ("__debug__" : Str)) && !(x == ("__classdict__" : Str))
def gnB (sc : Scope) (n : Option Str) (x : Str) : Bool := decide (n = some x) && glB sc x && !(x == ("__debug__" : Str))
def litB : P → Const → Bool
  | .none, .none => true
  | .bool b, .bool c => b == c
  | .int i, .int j => decide (i = j)
  | .str s, .str t => decide (s = t)
  | _, _ => false
def nst : Expr → Bool
  | .Starred .. => false
  | _ => true
def baseB : Expr → Bool
  | .Call (.Name id _) [] [] _ => !(id == ("super" : Str))
  | _ => true
def biN : BI → Str
  | .len => "len"
  | .abs => "abs"
  | .int => "int"
  | .str => "str"
  | .list => "list"
  | .tuple => "tuple"
  | .max => "max"
  | .min => "min"
  | .sum => "sum"
  | .all => "all"
  | .any => "any"
  | .sorted => "sorted"
  | .dict => "dict"
def miN : MI → Str
  | .get => "get"
  | .join => "join"
  | .split => "split"
  | .index => "index"
  | .find => "find"
  | .partition => "partition"
  | .startswith => "startswith"
  | .endswith => "endswith"
  | .count => "count"
  | .strip => "strip"
  | .lstrip => "lstrip"
  | .replace => "replace"
def tyE (sc : Scope) (t : Ty) : Expr → Bool
  | .Name x _ => gnB sc (some (Str.ofString (tyN t))) x
  | _ => false
def tysE (sc : Scope) : List Ty → List Expr → Bool
  | [], [] => true
  | t :: ts, e :: es => tyE sc t e && tysE sc ts es
  | _, _ => false
def tyArg (sc : Scope) : List Ty → Expr → Bool
  | ts, .Tuple es _ _ => tysE sc ts es
  | [t], e => tyE sc t e
  | _, _ => false
def tgE (sc so : Scope) (N : List Str) (i : Nat) : Expr → Bool
  | .Name x _ => decide (N[i]? = some x) && locB sc x && locB so x
  | _ => false
def tgEs (sc so : Scope) (N : List Str) : List Nat → List Expr → Bool
  | [], [] => true
  | t :: ts, e :: es => tgE sc so N t e && tgEs sc so N ts es
  | _, _ => false
def chkTg (sc so : Scope) (N : List Str) : Tg → Expr → Bool
  | .nm i, e => tgE sc so N i e
  | .tp is, .Tuple es _ _ => tgEs sc so N is es
  | _, _ => false
def tgIs : Tg → List Nat
  | .nm i => [i]
  | .tp is => is
def ownOf (N : List Str) : List Nat → Option (List (Str × Nat))
  | [] => some []
  | i :: is => match N[i]?, ownOf N is with
    | some x, some r => some ((x, i) :: r)
    | _, _ => none
def ownB (N : List Str) (sc scope : Scope) (own : List Nat) : Bool := match ownOf N own with
  | some r => blkC N sc scope r
  | none => false
def setB : Expr → Bool
  | .Set .. => false
  | _ => true
def noIn : CmpOp → Bool
  | .In => false
  | .NotIn => false
  | _ => true
def m1B : MI → Bool
  | .find => true
  | .count => true
  | .join => true
  | _ => false
variable (T : Tb) (N : List Str)
mutual
def chk (sc : Scope) : Ex → Expr → Bool
  | .var i, .Name x _ => nameB N sc i x
  | .lit p, .Constant c _ _ => litB p c
  | .glob g, .Name x _ => gnB sc (T.gn g) x
  | .fld i f, .Attribute (.Name x _) m _ => decide (m = f) && nameB N sc i x
  | .idx2 j k i, .Subscript (.Subscript (.Name x _) ke _) ie _ => nameB N sc j x && chk sc k ke && chk sc i ie
  | .el j n, .Subscript (.Name x _) (.Constant c _ _) _ => nameB N sc j x && litB (.int n) c
  | .bin op a b, .BinOp l o r _ => decide (op = o) && chk sc a l && chk sc b r
  | .neg a, .UnaryOp .USub e _ => chk sc a e
  | .not a, .UnaryOp .Not e _ => chk sc a e
  | .and a b, .BoolOp .And (x :: y :: r) p => chk sc a x && (match r with
    | [] => chk sc b y
    | z :: r => chk sc b (.BoolOp .And (y :: z :: r) p))
  | .or a b, .BoolOp .Or (x :: y :: r) p => chk sc a x && (match r with
    | [] => chk sc b y
    | z :: r => chk sc b (.BoolOp .Or (y :: z :: r) p))
  | .cmp op a b, .Compare l [o] [r] _ => decide (op = o) && chk sc a l && chk sc b r
  | .chain o1 o2 a b d, .Compare l [p1, p2] [m, r] _ => noIn o1 && noIn o2 && decide (o1 = p1) && decide (o2 = p2) && chk sc a l && chk sc b m && chk sc d r
  | .ife t a b, .IfExp u l r _ => chk sc t u && chk sc a l && chk sc b r
  | .lst es, .List l _ => chks sc es l
  | .tup es, .Tuple l _ _ => chks sc es l
  | .dct .nil .nil, .Dict [] [] _ => true
  | .slc a lo hi, .Subscript v (.Slice l h none _) _ => chk sc a v && chkX sc lo l && chkX sc hi h
  | .idx a i, .Subscript v s _ => chk sc a v && chk sc i s
  | .call f .nil, .Call (.Name x _) [] [] _ => gnB sc (T.fn f) x
  | .call f es, .Call (.Name x _) (e :: l) [] _ => gnB sc (T.fn f) x && chks sc es (e :: l)
  | .bi b es, .Call (.Name x _) (e :: l) [] _ => gnB sc (some (biN b)) x && chks sc es (e :: l)
  | .isi a ts, .Call (.Name x _) [e, t] [] _ => decide (ts.length ≤ 1000) && gnB sc (some "isinstance") x && chk sc a e && tyArg sc ts t
  | .meth .get a (.cons e1 (.cons e2 .nil)), .Call (.Attribute v m ap) [f1, f2] [] cp => decide (m = miN .get) && baseB v && (ap.endLine == cp.line) && chk sc a v && chk sc e1 f1 && chk sc e2 f2
  | .sh a, .Call f args kws p => chk sc a (.Call f args kws p)
  | .lrg1 a, .Call (.Name x _) [.Call (.Name y _) [e] [] _] [] _ => gnB sc (some "list") x && gnB sc (some "range") y && chk sc a e
  | .lrg2 a b, .Call (.Name x _) [.Call (.Name y _) [e, f] [] _] [] _ => gnB sc (some "list") x && gnB sc (some "range") y && chk sc a e && chk sc b f
  | .gix g a, .Call (.Attribute (.Name x _) m ap) [f1] [] cp => decide (m = miN .index) && (ap.endLine == cp.line) && gnB sc (T.gn g) x && chk sc a f1
  | .meth m a (.cons e1 .nil), .Call (.Attribute v n ap) [f1] [] cp => m1B m && decide (n = miN m) && baseB v && (ap.endLine == cp.line) && chk sc a v && chk sc e1 f1
  | .lc own tg it cond e, .ListComp el [⟨t, i, ifs, 0⟩] scope _ => ownB N sc scope own && decide (own = tgIs tg) && chkTg (relS scope sc) scope N tg t && chkI sc it t i && (match cond, ifs with
    | .none, [] => true
    | .some d, [f] => chk (relS scope sc) d f
    | _, _ => false) && chk (relS scope sc) e el
  | _, _ => false
def chks (sc : Scope) : Exs → List Expr → Bool
  | .nil, [] => true
  | .cons e es, x :: xs => chk sc e x && chks sc es xs
  | _, _ => false
def chkX (sc : Scope) : Ox → Option Expr → Bool
  | .none, none => true
  | .some e, some x => chk sc e x
  | _, _ => false
def chkI (sc : Scope) : It → Expr → Expr → Bool
  | .seq e, _, x => chk sc e x
  | .range1 a, _, .Call (.Name x _) [e] [] _ => gnB sc (some "range") x && chk sc a e
  | .range2 a b, _, .Call (.Name x _) [e, f] [] _ => gnB sc (some "range") x && chk sc a e && chk sc b f
  | .enum a, .Tuple _ _ _, .Call (.Name x _) [e] [] _ => gnB sc (some "enumerate") x && chk sc a e
  | .zip a b, .Tuple _ _ _, .Call (.Name x _) [e, f] [] _ => gnB sc (some "zip") x && chk sc a e && chk sc b f
  | .rev a, _, .Call (.Name x _) [e] [] _ => gnB sc (some "reversed") x && chk sc a e
  | .zip3 a b d, .Tuple _ _ _, .Call (.Name x _) [e, f, g] [] _ => gnB sc (some "zip") x && chk sc a e && chk sc b f && chk sc d g
  | _, _, _ => false
end
end G

set_option maxRecDepth 100000
namespace G
open PySem L2
/-! ### facts of the syntax -/
section
variable {env : PySem.Env}
theorem star_cons {e : Expr} {es : List Expr} (h : nst e = true) : starEach (e :: es) env = (false, eval e env) :: starEach es env := by
  cases e <;> first | rfl | cases h
theorem star_any {es : List Expr} {pos : Pos} (h : es.all nst = true) : (backTo pos (starEach es env)).any (·.1) = false := by
  induction es with
  | nil => rfl
  | cons e es ih =>
    rw [List.all_cons, Bool.and_eq_true] at h
    rw [star_cons h.1]
    show (false || (backTo pos (starEach es env)).any (·.1)) = false
    rw [ih h.2]
    rfl
theorem base_ok {e : Expr} {m : Str} {w : Sem Value} (h : baseB e = true) : attributeBase e m env w = w := by
  cases e
  case Call f args kws pos =>
    cases f
    case Name id p =>
      cases args with
      | nil =>
        cases kws with
        | nil =>
          have h' : (id != ("super" : Str)) = true := h
          unfold attributeBase
          simp only [h', Bool.true_or]
          rfl
        | cons => rfl
      | cons => rfl
    all_goals rfl
  all_goals rfl
end
variable {T : Tb} {N : List Str}
theorem chk_nst {sc : Scope} {e : Ex} {x : Expr} (h : chk T N sc e x = true) : nst x = true := by
  unfold chk at h
  split at h <;> first | rfl | cases h
theorem chk_set {sc : Scope} {e : Ex} {x : Expr} (h : chk T N sc e x = true) : setB x = true := by
  unfold chk at h
  split at h <;> first | rfl | cases h
theorem chks_nst {sc : Scope} {es : Exs} : ∀ {xs : List Expr}, chks T N sc es xs = true → xs.all nst = true := by
  intro xs
  induction xs generalizing es with
  | nil => intro _; rfl
  | cons x xs ih =>
    intro h
    cases es with
    | nil => unfold chks at h; cases h
    | cons e es =>
      unfold chks at h
      rw [Bool.and_eq_true] at h
      rw [List.all_cons, chk_nst h.1, ih h.2]
      rfl
theorem behind_ok {op : CmpOp} {x : Expr} (h : setB x = true) : behindInMarks op x = false := by
  cases x <;> first | rfl | cases h
theorem folded_ok {x : Expr} {env : PySem.Env} (h : setB x = true) : ∀ v, foldedSetIterable x env v = pure v := by
  cases x <;> first | (intro _; rfl) | cases h
theorem plainIx_ok {sc : Scope} {e : Ex} {x : Expr} (h : chk T N sc e x = true) : ∀ o i, subscripted x false o i = operate [o, i] (getItem o i) := by
  unfold chk at h
  split at h <;> first | (intro _ _; rfl) | cases h

/-! ### errors, and what a def promises -/
/-- an error of the class c, with the fields us, as it flies -/
def RX (K : PySem.W.Frag) (B H : Hp) (cls : Value) (d : Option Addr) (c : Str) (us : List (Str × P)) (f : List Addr) : Prop := ∃ C, clsK K c = some C ∧ cls = .ref C ∧
  ((us = [] ∧ d = none ∧ f = []) ∨ ∃ dx ws, d = some dx ∧ f = [dx] ∧ H dx = some (.xd ws) ∧ ROf K B H ws (us.map fun q => (q.1, .pl q.2)) [])
def cut (H : Hp) (f : List Addr) : Hp := fun a => if a ∈ f then none else H a
theorem cut_in {H : Hp} {f : List Addr} {a : Addr} (h : a ∈ f) : cut H f a = none := by
  unfold cut
  rw [if_pos h]
theorem cut_out {H : Hp} {f : List Addr} {a : Addr} (h : a ∉ f) : cut H f a = H a := by
  unfold cut
  rw [if_neg h]
theorem cut_nil {H : Hp} : cut H [] = H := by
  funext a
  exact cut_out (by simp)
theorem cut_ext {H : Hp} {f : List Addr} : Ext (cut H f) H := fun a o h => by
  by_cases ha : a ∈ f
  · rw [cut_in ha] at h
    cases h
  · rw [cut_out ha] at h
    exact h
def selV : List Bool → List V → List V
  | true :: bs, v :: vs => v :: selV bs vs
  | false :: bs, _ :: vs => selV bs vs
  | _, _ => []
/-- behind a call: a value or an error, and the lent things again -/
def EndM (K : PySem.W.Frag) (ws : List V) (B H : Hp) (Q : VK) (E : XK) : Rx O × List O → Prop
  | (.ok o, outs) => ∀ v B' H' f g, Stp B H B' H' → RO K B' H' v o f → ROs K B' H' ws outs g → Frs H B' (f ++ g) → Q v H'
  | (.ex c us, outs) => ∀ cls d B' H' f g, Stp B H B' H' → RX K B' H' cls d c us f → ROs K B' H' ws outs g → Frs H B' (f ++ g) → E cls d H'
/-- the promise of a def whose worth is F; what is handed in to be changed lies at f0 -/
def spM (K : PySem.W.Frag) (io : List Bool) (F : List O → Option (Rx O × List O)) : Sp := fun vs H Q E => ∃ B os f0 r, Ext B H ∧ f0.Nodup ∧ (∀ a ∈ f0, B a = none) ∧ ROs K B H vs os f0 ∧ F os = some r ∧ EndM K (selV io vs) B (cut H f0) Q E r
theorem RPs.ros {K : PySem.W.Frag} {B H : Hp} : ∀ {vs : List V} {ps : List P}, RPs K B vs ps → ROs K B H vs (ps.map .pl) []
  | _, _, .nil => .nil
  | _, _, .cons h r => (.cons (.pl h) (RPs.ros r) : ROs K B H _ _ ([] ++ []))
/-- of shared things alone -/
theorem spM_pl {K : PySem.W.Frag} {io : List Bool} {F : List O → Option (Rx O × List O)} {vs : List V} {B H : Hp} {Q : VK} {E : XK} {ps : List P} {o : O} (e : Ext B H) (r : RPs K B vs ps) (h : F (ps.map .pl) = some (.ok o, [])) (q : Gv K B H o Q) : spM K io F vs H Q E :=
  ⟨B, _, [], _, e, .nil, fun _ z => by simp at z, r.ros, h, fun v B' H' f g s ro rs n => by
    rw [cut_nil] at s n
    have hg : g = [] := by
      generalize selV io vs = ws at rs
      cases rs
      rfl
    subst hg
    rw [List.append_nil] at n
    exact q v B' H' f s ro n⟩
/-- a tuple that the module's top has made -/
def GTup (K : PySem.W.Frag) (v : V) (p : P) : Prop := ∀ xs, p = .tuple xs → ∃ a o, v = .ref a ∧ K.lookup a = some o ∧ o.cls = .type "tuple" ∧ o.dict = none ∧ ∃ vs, (∃ (its : Array Value) (n : Nat), o.data = .seq its n ∧ its.size ≤ sizeLine ∧ Vals vs its.toList) ∧ ∀ B, RPs K B vs xs
/-! ### what stands around -/
structure XOk (T : Tb) (c : Ct) (N : List Str) (sc so : Scope) (k : Nat) (X : Cx) : Prop where
  n : X.N = N
  sc : X.env.scope = sc
  nd : N.Nodup
  calm : X.calm = true
  fn : ∀ x, locB so x = true → X.fn x = true ∨ X.env.scope.names.lookup x = some .local
  room : Room k X.A
  fns : ∀ f x, T.fn f = some x → ∃ a fd ps, X.mg x = some (.ref a) ∧ PySem.W.keepIn X.K (.ref a) = true ∧ Binds X.K fd ps [] ∧ FnOk X.prog X.w X.K X.mg X.base (L2.CX X.prog X.w) k a fd ps (spM X.K (c.io f) (c.call f))
  mes : ∀ cl m f, T.me cl m = some f → ∃ C a fd ps, clsK X.K cl = some C ∧ Meth X.K C m a ∧ Binds X.K fd ps [] ∧ FnOk X.prog X.w X.K X.mg X.base (L2.CX X.prog X.w) k a fd ps (spM X.K (c.io f) (c.call f))
  inis : ∀ cl f, T.ini cl = some f → (∀ os, c.low f os = none) ∨ ∃ C a fd ps j, k = j + 1 ∧ clsK X.K cl = some C ∧ X.mg cl = some (.ref C) ∧ Cls X.K C ∧ Mk X.K C a ∧ Binds X.K fd ps [] ∧ FnOk X.prog X.w X.K X.mg X.base (L2.CX X.prog X.w) j a fd ps (spM X.K (c.io f) (c.low f))
  fls : ∀ cl f, T.fl cl f = true → ∃ C, clsK X.K cl = some C ∧ NoAttr X.K C f
  gls : ∀ g x p, T.gn g = some x → c.gl g = some p → ∃ u v, X.mg x = some u ∧ RelV v u ∧ (∀ B, RP X.K B v p) ∧ GTup X.K v p
  blt : ∀ b, X.mg (biN b) = none
  isi : X.mg "isinstance" = none
  rng : X.mg "range" = none
  enu : X.mg "enumerate" = none
  zip : X.mg "zip" = none
  rev : X.mg "reversed" = none
  ty : ∀ t, X.mg (Str.ofString (tyN t)) = none
  pss : PassesOwn (model X.prog X.w) X.A X.env X.xe
theorem gn_ok {sc : Scope} {n : Option Str} {x : Str} (h : gnB sc n x = true) : n = some x ∧ sc.names.lookup x = some .globalImplicit ∧ (x == ("__debug__" : Str)) = false := by
  unfold gnB at h
  rw [Bool.and_eq_true, Bool.and_eq_true, decide_eq_true_eq] at h
  obtain ⟨⟨h1, h2⟩, h3⟩ := h
  refine ⟨h1, ?_, by simpa using h3⟩
  unfold glB at h2
  split at h2
  · assumption
  · cases h2
theorem vis_ok {sc : Scope} {x : Str} (h : visB sc x = true) : Vis sc x := by
  unfold visB at h
  split at h
  · exact .inl (by assumption)
  · exact .inr (.inl (by assumption))
  · exact .inr (.inr (by assumption))
  · cases h
theorem loc_ok {sc : Scope} {x : Str} (h : locB sc x = true) : Loc sc x := by
  unfold locB at h
  split at h
  · exact .inl (by assumption)
  · exact .inr (by assumption)
  · cases h
end G

set_option maxRecDepth 100000
namespace G
open PySem L2
/-- what is wanted of a value that is only read -/
def Gw (K : PySem.W.Frag) (B H : Hp) (o : O) (Q : VK) : Prop := ∀ v B' H' f, Stp B H B' H' → RO K B' H' v o f → Q v H'
def Snd (X : Cx) (env : Env) (ex : Expr) (o : O) : Prop := ∀ ⦃B H : Hp⦄ ⦃σ : L2.St⦄ ⦃fp : List Addr⦄ ⦃Q : VK⦄, Wld B H fp → REnv X.K B H σ env fp → Gv X.K B H o Q → wE X ex σ H Q
def SndO (X : Cx) (env : Env) (ex : Expr) (o : O) : Prop := ∀ ⦃B H : Hp⦄ ⦃σ : L2.St⦄ ⦃fp : List Addr⦄ ⦃Q : VK⦄, Wld B H fp → REnv X.K B H σ env fp → Gw X.K B H o Q → wE X ex σ H Q
def SndT (X : Cx) (env : Env) (ex : Expr) (b : Bool) : Prop := ∀ ⦃B H : Hp⦄ ⦃σ : L2.St⦄ ⦃fp : List Addr⦄ ⦃Q : Bool → Hp → Prop⦄, Wld B H fp → REnv X.K B H σ env fp → (∀ B' H', Stp B H B' H' → Q b H') → wT X ex σ H Q
def SndRs (X : Cx) (env : Env) (es : List Expr) (os : List O) : Prop := ∀ ⦃B H : Hp⦄ ⦃σ : L2.St⦄ ⦃fp : List Addr⦄ ⦃Q : List V → Hp → Prop⦄, Wld B H fp → REnv X.K B H σ env fp →
  (∀ vs B' H' f, Stp B H B' H' → ROs X.K B' H' vs os f → Frs H B' f → Q vs H') → wA X es σ H Q
def SndVs (X : Cx) (env : Env) (es : List Expr) (os : List O) : Prop := ∀ ⦃B H : Hp⦄ ⦃σ : L2.St⦄ ⦃fp : List Addr⦄ ⦃Q : List V → Hp → Prop⦄, Wld B H fp → REnv X.K B H σ env fp →
  (∀ vs B' H' f, Stp B H B' H' → ROs X.K B' H' vs os f → Q vs H') → wA X es σ H Q
/-- a container stands at a -/
def Ctn (H : Hp) (a : Addr) : Prop := (∃ xs, H a = some (.lst xs)) ∨ (∃ kvs, H a = some (.dK kvs)) ∨ (∃ C dx fs, H a = some (.ins C dx fs)) ∨ ∃ x, H a = some (.own x)
theorem Ctn.ext {H H' : Hp} {a : Addr} (e : Ext H H') (h : Ctn H a) : Ctn H' a := by
  rcases h with ⟨_, h⟩ | ⟨_, h⟩ | ⟨_, _, _, h⟩ | ⟨_, h⟩
  · exact .inl ⟨_, e _ _ h⟩
  · exact .inr (.inl ⟨_, e _ _ h⟩)
  · exact .inr (.inr (.inl ⟨_, _, _, e _ _ h⟩))
  · exact .inr (.inr (.inr ⟨_, e _ _ h⟩))
theorem Ctn.no_tup {H : Hp} {a : Addr} {vs : List V} (h : Ctn H a) : ¬ Rd H a (.tup vs) := by
  intro r
  rcases r with r | ⟨o, r⟩ <;> rcases h with ⟨_, h⟩ | ⟨_, h⟩ | ⟨_, _, _, h⟩ | ⟨_, h⟩ <;> rw [h] at r <;> cases r
section
variable {K : PySem.W.Frag} {B H : Hp}
mutual
theorem RO.ctn : ∀ {v : V} {o : O} {f : List Addr}, RO K B H v o f → ∀ a ∈ f, Ctn H a
  | _, _, _, .pl _, a, ha => by simp at ha
  | _, _, _, .fl h _, a, ha => by simp at ha; subst ha; exact .inl ⟨_, h⟩
  | _, _, _, .fd h _, a, ha => by simp at ha; subst ha; exact .inr (.inl ⟨_, h⟩)
  | _, _, _, .lst h r, a, ha => by
    rcases List.mem_cons.mp ha with e | e
    · subst e; exact .inl ⟨_, h⟩
    · exact ROs.ctn r a e
  | _, _, _, .dic h r, a, ha => by
    rcases List.mem_cons.mp ha with e | e
    · subst e; exact .inr (.inl ⟨_, h⟩)
    · exact ROd.ctn r a e
  | _, _, _, .tup h r, a, ha => ROs.ctn r a ha
  | _, _, _, .obj _ _ _ h h2 r, a, ha => by
    rcases List.mem_cons.mp ha with e | e
    · subst e; exact .inr (.inr (.inl ⟨_, _, _, h⟩))
    · rcases List.mem_cons.mp e with e | e
      · subst e; exact .inr (.inr (.inr ⟨_, h2⟩))
      · exact ROf.ctn r a e
  | _, _, _, .hole, a, ha => by simp at ha
theorem ROs.ctn : ∀ {v : List V} {o : List O} {f : List Addr}, ROs K B H v o f → ∀ a ∈ f, Ctn H a
  | _, _, _, .nil, a, ha => by simp at ha
  | _, _, _, .cons h r, a, ha => by
    rcases List.mem_append.mp ha with e | e
    · exact RO.ctn h a e
    · exact ROs.ctn r a e
theorem ROd.ctn : ∀ {v : List (Key × V)} {o : List (P × O)} {f : List Addr}, ROd K B H v o f → ∀ a ∈ f, Ctn H a
  | _, _, _, .nil, a, ha => by simp at ha
  | _, _, _, .cons _ h r, a, ha => by
    rcases List.mem_append.mp ha with e | e
    · exact RO.ctn h a e
    · exact ROd.ctn r a e
theorem ROf.ctn : ∀ {v : List (Str × V)} {o : List (Str × O)} {f : List Addr}, ROf K B H v o f → ∀ a ∈ f, Ctn H a
  | _, _, _, .nil, a, ha => by simp at ha
  | _, _, _, .cons h r, a, ha => by
    rcases List.mem_append.mp ha with e | e
    · exact RO.ctn h a e
    · exact ROf.ctn r a e
end
theorem frz_B {f : List Addr} (e : Ext B H) : Ext B (frz B H f) := fun a o h => by
  by_cases ha : a ∈ f
  · rw [frz_in ha]; exact e a o h
  · rw [frz_out ha]; exact h
theorem frz_H {f : List Addr} (e : Ext B H) : Ext (frz B H f) H := fun a o h => by
  by_cases ha : a ∈ f
  · rw [frz_in ha] at h; exact h
  · rw [frz_out ha] at h; exact e a o h
theorem frz_up {B2 H2 : Hp} {f g : List Addr} (eb : Ext B B2) (eh : Ext H H2) (e2 : Ext B2 H2) : Ext (frz B H f) (frz B2 H2 (f ++ g)) := fun a o h => by
  by_cases ha : a ∈ f
  · rw [frz_in ha] at h
    rw [frz_in (by simp [ha])]
    exact eh a o h
  · rw [frz_out ha] at h
    by_cases hb : a ∈ g
    · rw [frz_in (by simp [hb])]
      exact e2 a o (eb a o h)
    · rw [frz_out (by simp [ha, hb])]
      exact eb a o h
theorem frz_dn {f g : List Addr} (e : Ext B H) : Ext (frz B H g) (frz B H (f ++ g)) := fun a o h => by
  by_cases ha : a ∈ g
  · rw [frz_in ha] at h
    rw [frz_in (by simp [ha])]
    exact h
  · rw [frz_out ha] at h
    by_cases hb : a ∈ f
    · rw [frz_in (by simp [hb])]
      exact e a o h
    · rw [frz_out (by simp [ha, hb])]
      exact h
theorem frz_nil : frz B H [] = B := by
  funext a
  exact frz_out (by simp)
/-! what is not shared with the things at f stands without them -/
variable {B1 B' H' : Hp} {f : List Addr}
theorem un_tup (hc : ∀ a ∈ f, Ctn H' a) (e : Ext B' H') {a : Addr} {vs : List V} (h : SqT K B' a vs) : SqT K (frz B' B1 f) a vs := by
  rcases h with h | h
  · have ha : a ∉ f := fun z => (hc a z).no_tup (e.rd h)
    refine .inl ?_
    unfold Rd
    rw [frz_out ha]
    exact h
  · exact .inr h
mutual
theorem un_rp (hc : ∀ a ∈ f, Ctn H' a) (e : Ext B' H') : ∀ {v : V} {p : P}, RP K B' v p → clnP p = true → RP K (frz B' B1 f) v p
  | _, _, .non, _ => .non
  | _, _, .bl, _ => .bl
  | _, _, .int, _ => .int
  | _, _, .str, _ => .str
  | _, _, .tup h r, c => .tup (un_tup hc e h) (un_rps hc e r (by rw [clnP] at c; exact c))
  | _, _, .lst _ _, c => by rw [clnP] at c; cases c
  | _, _, .dic _ _, c => by rw [clnP] at c; cases c
theorem un_rps (hc : ∀ a ∈ f, Ctn H' a) (e : Ext B' H') : ∀ {v : List V} {p : List P}, RPs K B' v p → clnPs p = true → RPs K (frz B' B1 f) v p
  | _, _, .nil, _ => .nil
  | _, _, .cons h r, c => by
    rw [clnPs, Bool.and_eq_true] at c
    exact .cons (un_rp hc e h c.1) (un_rps hc e r c.2)
end
theorem un_rpd (hc : ∀ a ∈ f, Ctn H' a) (e : Ext B' H') : ∀ {v : List (Key × V)} {p : List (P × P)}, RPd K B' v p → clnPd p = true → RPd K (frz B' B1 f) v p
  | _, _, .nil, _ => .nil
  | _, _, .cons q h r, c => by
    rw [clnPd, Bool.and_eq_true] at c
    exact .cons q (un_rp hc e h c.1) (un_rpd hc e r c.2)
mutual
theorem un_ro (hc : ∀ a ∈ f, Ctn H' a) (e : Ext B' H') : ∀ {v : V} {o : O} {g : List Addr}, RO K B' H' v o g → scalO o = true → RO K (frz B' B1 f) H' v o g
  | _, _, _, .pl r, c => .pl (un_rp hc e r (by rw [scalO] at c; exact c))
  | _, _, _, .fl h r, c => .fl h (un_rps hc e r (by rw [scalO] at c; exact c))
  | _, _, _, .fd h r, c => .fd h (un_rpd hc e r (by rw [scalO] at c; exact c))
  | _, _, _, .lst h r, c => .lst h (un_ros hc e r (by rw [scalO] at c; exact c))
  | _, _, _, .tup (a := a) h r, c => .tup (by
      have ha : a ∉ f := fun z => (hc a z).no_tup (.of (e _ _ h))
      rw [frz_out ha]
      exact h) (un_ros hc e r (by rw [scalO] at c; exact c))
  | _, _, _, .dic _ _, c => by rw [scalO] at c; cases c
  | _, _, _, .obj _ _ _ _ _ _, c => by rw [scalO] at c; cases c
  | _, _, _, .hole, c => by rw [scalO] at c; cases c
theorem un_ros (hc : ∀ a ∈ f, Ctn H' a) (e : Ext B' H') : ∀ {v : List V} {o : List O} {g : List Addr}, ROs K B' H' v o g → scalOs o = true → ROs K (frz B' B1 f) H' v o g
  | _, _, _, .nil, _ => .nil
  | _, _, _, .cons h r, c => by
    rw [scalOs, Bool.and_eq_true] at c
    exact .cons (un_ro hc e h c.1) (un_ros hc e r c.2)
end
end
def SndLs (X : Cx) (env : Env) (es : List Expr) (ps : List P × Bool) : Prop := ∀ ⦃B H : Hp⦄ ⦃σ : L2.St⦄ ⦃fp : List Addr⦄ ⦃Q : List V → Hp → Prop⦄, Wld B H fp → REnv X.K B H σ env fp →
  (∀ vs B' H' f, Stp B H B' H' → (ps.2 = false → RPs X.K B' vs ps.1) → (∀ a ∈ f, Ctn H' a) → RPs X.K (frz B' H' f) vs ps.1 → Q vs H') → wA X es σ H Q
section
variable {X : Cx} {env : Env} {B H B1 H1 : Hp}
theorem Gv.stp {K : PySem.W.Frag} {o : O} {Q : VK} (q : Gv K B H o Q) (s : Stp B H B1 H1) : Gv K B1 H1 o Q := fun v B' H' f s' r n => q v B' H' f (s.trans s') r (n.back s.h)
theorem Gw.stp {K : PySem.W.Frag} {o : O} {Q : VK} (q : Gw K B H o Q) (s : Stp B H B1 H1) : Gw K B1 H1 o Q := fun v B' H' f s' r => q v B' H' f (s.trans s') r
theorem Snd.o {ex : Expr} {o : O} (h : Snd X env ex o) : SndO X env ex o := fun _ _ _ _ _ w r q => h w r fun v B' H' f s ro _ => q v B' H' f s ro
section
variable {l r m : Expr} {ox oy oz o : O} {pos : Pos}
theorem snd_bin {op : Operator} (h1 : SndO X env l ox) (h2 : SndO X env r oy) (h : binO op ox oy = some o) : Snd X env (.BinOp l op r pos) o := fun _ _ _ _ _ w re q =>
  ⟨_, pe_op wO_ok wE_ok wE_ok, h1 w re fun v1 B1 H1 f1 s1 r1 => h2 (w.stp s1 re.has) (re.stp s1) fun v2 B2 H2 f2 s2 r2 => bin_ok s2.bh (r1.stp s2) r2 h (q.stp (s1.trans s2))⟩
def wU (X : Cx) (f : Value → Sem Value) : V → Hp → VK → Prop := fun x H Q => ∃ r, UnR X f r ∧ r x H Q
theorem wU_ok {f : Value → Sem Value} : UnR X f (wU X f) := fun pins s σ H x v Q I r1 ⟨_, h, q⟩ => h pins s σ H x v Q I r1 q
theorem snd_neg (h1 : SndO X env l ox) (h : negO ox = some o) : Snd X env (.UnaryOp .USub l pos) o := fun _ _ _ _ _ w re q =>
  ⟨_, pe_un wU_ok wE_ok, h1 w re fun v1 B1 H1 f1 s1 r1 => neg_ok s1.bh r1 h (q.stp s1)⟩
theorem snd_not (h1 : SndO X env l ox) (h : notO ox = some o) : Snd X env (.UnaryOp .Not l pos) o := fun _ _ _ _ _ w re q =>
  ⟨_, pe_not wE_ok, h1 w re fun v1 B1 H1 f1 s1 r1 => by
    unfold notO at h
    split at h
    · cases h
      exact ⟨_, r1.b, (q.stp s1).pl s1.bh .bl⟩
    · cases h⟩
theorem snd_and {rest : List Expr} {b : Bool} (h1 : SndO X env l (.pl (.bool b))) (h2 : b = true → Snd X env (.BoolOp .And (r :: rest) pos) o) (h3 : b = false → o = .pl (.bool false)) : Snd X env (.BoolOp .And (l :: r :: rest) pos) o := fun _ _ _ _ _ w re q =>
  ⟨_, pe_and wE_ok wE_ok, h1 w re fun v1 B1 H1 f1 s1 r1 => ⟨b, r1.b, by
    cases b with
    | true => exact iteT (h2 rfl (w.stp s1 re.has) (re.stp s1) (q.stp s1))
    | false =>
      have e := h3 rfl
      subst e
      exact iteF ((q.stp s1).pl s1.bh .bl)⟩⟩
theorem snd_or {rest : List Expr} {b : Bool} (h1 : SndO X env l (.pl (.bool b))) (h2 : b = false → Snd X env (.BoolOp .Or (r :: rest) pos) o) (h3 : b = true → o = .pl (.bool true)) : Snd X env (.BoolOp .Or (l :: r :: rest) pos) o := fun _ _ _ _ _ w re q =>
  ⟨_, pe_or wE_ok wE_ok, h1 w re fun v1 B1 H1 f1 s1 r1 => ⟨b, r1.b, by
    cases b with
    | false => exact iteF (h2 rfl (w.stp s1 re.has) (re.stp s1) (q.stp s1))
    | true =>
      have e := h3 rfl
      subst e
      exact iteT ((q.stp s1).pl s1.bh .bl)⟩⟩
theorem snd_one {op : BoolOp} (h : Snd X env l o) : Snd X env (.BoolOp op [l] pos) o := fun _ _ _ _ _ w re q => ⟨_, pe_one wE_ok, h w re q⟩
/-! comparisons -/
theorem snd_cmp (hu : X.A.units + 64 < cLine) {op : CmpOp} {b : Bool} (hs : setB r = true) (h1 : SndO X env l ox) (h2 : SndO X env r oy) (h : cmpO op ox oy = some b) : Snd X env (.Compare l [op] [r] pos) (.pl (.bool b)) := fun _ _ _ _ _ w re q => by
  have hu1 : X.A.units + 1 < cLine := by omega
  cases hd : isD op oy with
  | false => exact ⟨_, pe_cmpR wO_ok wE_ok wE_ok (behind_ok hs), h1 w re fun v1 B1 H1 f1 s1 r1 => h2 (w.stp s1 re.has) (re.stp s1) fun v2 B2 H2 f2 s2 r2 => cmp_okL hu s2.bh (r1.stp s2) r2 h hd ((q.stp (s1.trans s2)).pl s2.bh .bl)⟩
  | true =>
    have hop : op = .In ∨ op = .NotIn := by
      unfold isD at hd
      simpa using (Bool.and_eq_true_iff.mp hd).1
    rcases hop with rfl | rfl
    · refine ⟨_, pe_cmp (pc_din hu1 wE_ok wE_ok) (behind_ok hs), h1 w re fun v1 B1 H1 f1 s1 r1 => h2 (w.stp s1 re.has) (re.stp s1) fun v2 B2 H2 f2 s2 r2 => ?_⟩
      rcases cmp_okD s2.bh (r1.stp s2) r2 h hd with ⟨_, a, o, e1, e2, e3⟩ | ⟨z, _⟩
      · exact ⟨a, o, e1, e2, by rw [e3]; exact (q.stp (s1.trans s2)).pl s2.bh .bl⟩
      · cases z
    · refine ⟨_, pe_cmp (pc_dnotin hu1 wE_ok wE_ok) (behind_ok hs), h1 w re fun v1 B1 H1 f1 s1 r1 => h2 (w.stp s1 re.has) (re.stp s1) fun v2 B2 H2 f2 s2 r2 => ?_⟩
      rcases cmp_okD s2.bh (r1.stp s2) r2 h hd with ⟨z, _⟩ | ⟨_, a, o, e1, e2, e3⟩
      · cases z
      · exact ⟨a, o, e1, e2, by rw [e3]; exact (q.stp (s1.trans s2)).pl s2.bh .bl⟩
theorem snt_cmp (hu : X.A.units + 64 < cLine) {op : CmpOp} {b : Bool} (hs : setB r = true) (h1 : SndO X env l ox) (h2 : SndO X env r oy) (h : cmpO op ox oy = some b) : SndT X env (.Compare l [op] [r] pos) b := fun _ _ _ _ _ w re q => by
  have hu1 : X.A.units + 1 < cLine := by omega
  cases hd : isD op oy with
  | false => exact ⟨_, pt_cmpR wO_ok wE_ok wE_ok (behind_ok hs), h1 w re fun v1 B1 H1 f1 s1 r1 => h2 (w.stp s1 re.has) (re.stp s1) fun v2 B2 H2 f2 s2 r2 => cmp_okL hu s2.bh (r1.stp s2) r2 h hd ⟨b, rfl, q _ _ (s1.trans s2)⟩⟩
  | true =>
    have hop : op = .In ∨ op = .NotIn := by
      unfold isD at hd
      simpa using (Bool.and_eq_true_iff.mp hd).1
    rcases hop with rfl | rfl
    · refine ⟨_, pt_cmp (pc_din hu1 wE_ok wE_ok) (behind_ok hs), h1 w re fun v1 B1 H1 f1 s1 r1 => h2 (w.stp s1 re.has) (re.stp s1) fun v2 B2 H2 f2 s2 r2 => ?_⟩
      rcases cmp_okD s2.bh (r1.stp s2) r2 h hd with ⟨_, a, o, e1, e2, e3⟩ | ⟨z, _⟩
      · exact ⟨a, o, e1, e2, b, by rw [e3], q _ _ (s1.trans s2)⟩
      · cases z
    · refine ⟨_, pt_cmp (pc_dnotin hu1 wE_ok wE_ok) (behind_ok hs), h1 w re fun v1 B1 H1 f1 s1 r1 => h2 (w.stp s1 re.has) (re.stp s1) fun v2 B2 H2 f2 s2 r2 => ?_⟩
      rcases cmp_okD s2.bh (r1.stp s2) r2 h hd with ⟨z, _⟩ | ⟨_, a, o, e1, e2, e3⟩
      · cases z
      · exact ⟨a, o, e1, e2, b, by rw [e3], q _ _ (s1.trans s2)⟩
theorem last_ok {o1 o2 : CmpOp} {e1 e2 : Expr} (h2 : setB e2 = true) : lastMarks [o1, o2] [e1, e2] = false := by
  show behindInMarks o2 e2 = false
  exact behind_ok h2
theorem snd_chain (hu : X.A.units + 64 < cLine) {op op' : CmpOp} {e1 e2 e3 : Expr} (hs2 : setB e3 = true) (h1 : SndO X env e1 ox) (h2 : SndO X env e2 oy) (h3 : SndO X env e3 oz) (hd : isD op oy = false) (hd' : isD op' oz = false) (h : chn op op' ox oy oz = some o) :
    Snd X env (.Compare e1 [op, op'] [e2, e3] pos) o ∧ ∀ b, o = .pl (.bool b) → SndT X env (.Compare e1 [op, op'] [e2, e3] pos) b := by
  have core : ∀ {B H : Hp} {σ : L2.St} {fp : List Addr} {Q : VK}, Wld B H fp → REnv X.K B H σ env fp → Gv X.K B H o Q → tChain (wO X (compareOp op)) (wO X (compareOp op')) (wE X e1) (wE X e2) (wE X e3) σ H Q := by
    intro B H σ fp Q w re q
    refine h1 w re fun v1 B1 H1 f1 s1 r1 => h2 (w.stp s1 re.has) (re.stp s1) fun v2 B2 H2 f2 s2 r2 => ?_
    have h' : chn1 (cmpO op' oy oz) (cmpO op ox oy) = some o := h
    cases hc : cmpO op ox oy with
    | none => rw [hc] at h'; cases h'
    | some b =>
      rw [hc] at h'
      refine cmp_okL hu s2.bh (r1.stp s2) r2 hc hd ⟨b, rfl, ?_⟩
      cases b with
      | false =>
        cases h'
        exact iteF ((q.stp (s1.trans s2)).pl s2.bh .bl)
      | true =>
        have h'' : toB (cmpO op' oy oz) = some o := h'
        refine iteT (h3 (w.stp (s1.trans s2) re.has) (re.stp (s1.trans s2)) fun v3 B3 H3 f3 s3 r3 => ?_)
        cases hc' : cmpO op' oy oz with
        | none => rw [hc'] at h''; cases h''
        | some b' =>
          rw [hc'] at h''
          cases h''
          exact cmp_okL hu s3.bh (r2.stp s3) r3 hc' hd' ((q.stp ((s1.trans s2).trans s3)).pl s3.bh .bl)
  refine ⟨fun _ _ _ _ _ w re q => ⟨_, pe_chain wO_ok wO_ok wE_ok wE_ok wE_ok (last_ok hs2), core w re q⟩, fun b hb => ?_⟩
  subst hb
  intro B H σ fp Q w re q
  exact ⟨_, pt_chain wO_ok wO_ok wE_ok wE_ok wE_ok (last_ok hs2), core w re fun v B' H' f s ro n => ⟨b, ro.b, q _ _ s⟩⟩
/-! tests -/
theorem snt_val {e : Expr} {b : Bool} (h : Snd X env e (.pl (.bool b))) (he : ∀ whole, isTrue e X.env whole = (do let v ← whole; standAt e.pos; holding [v] (truthy v))) : SndT X env e b := fun _ _ _ _ _ w re q =>
  ⟨_, pt_val wE_ok he, h w re fun v B' H' f s ro _ => ⟨b, ro.b, q _ _ s⟩⟩
theorem snt_not {b : Bool} (h : SndT X env l b) : SndT X env (.UnaryOp .Not l pos) (!b) := fun _ _ _ _ _ w re q => ⟨_, pt_not wT_ok, h w re fun B' H' s => q B' H' s⟩
def wW (X : Cx) (e : Expr) : TT := fun σ H Q => ∃ t, PW X e t ∧ t σ H Q
theorem wW_ok {e : Expr} : PW X e (wW X e) := ⟨fun wh pins s σ H Q I ⟨_, h, q⟩ => h.run wh pins s σ H Q I q⟩
def SndW (X : Cx) (env : Env) (ex : Expr) (b : Bool) : Prop := ∀ ⦃B H : Hp⦄ ⦃σ : L2.St⦄ ⦃fp : List Addr⦄ ⦃Q : Bool → Hp → Prop⦄, Wld B H fp → REnv X.K B H σ env fp → (∀ B' H', Stp B H B' H' → Q b H') → wW X ex σ H Q
theorem SndW.t {b : Bool} (h : SndW X env l b) : SndT X env l b := fun _ _ _ _ _ w re q => ⟨_, wW_ok.pt, h w re q⟩
theorem snw_and1 {b : Bool} (h : SndT X env l b) : SndW X env (.BoolOp .And [l] pos) b := fun _ _ _ _ _ w re q => ⟨_, pw_and1 wT_ok, h w re q⟩
theorem snw_or1 {b : Bool} (h : SndT X env l b) : SndW X env (.BoolOp .Or [l] pos) b := fun _ _ _ _ _ w re q => ⟨_, pw_or1 wT_ok, h w re q⟩
theorem snw_and {rest : List Expr} {b c : Bool} (h1 : SndT X env l b) (h2 : b = true → SndW X env (.BoolOp .And (r :: rest) pos) c) (h3 : b = false → c = false) : SndW X env (.BoolOp .And (l :: r :: rest) pos) c := fun _ _ _ _ _ w re q =>
  ⟨_, pw_and wT_ok wW_ok, h1 w re fun B' H' s => by
    cases b with
    | true => exact iteT (h2 rfl (w.stp s re.has) (re.stp s) fun B2 H2 s2 => q _ _ (s.trans s2))
    | false =>
      have e := h3 rfl
      subst e
      exact iteF (q _ _ s)⟩
theorem snw_or {rest : List Expr} {b c : Bool} (h1 : SndT X env l b) (h2 : b = false → SndW X env (.BoolOp .Or (r :: rest) pos) c) (h3 : b = true → c = true) : SndW X env (.BoolOp .Or (l :: r :: rest) pos) c := fun _ _ _ _ _ w re q =>
  ⟨_, pw_or wT_ok wW_ok, h1 w re fun B' H' s => by
    cases b with
    | false => exact iteF (h2 rfl (w.stp s re.has) (re.stp s) fun B2 H2 s2 => q _ _ (s.trans s2))
    | true =>
      have e := h3 rfl
      subst e
      exact iteT (q _ _ s)⟩
theorem snd_ife {t : Expr} {b : Bool} (h : SndT X env t b) (h1 : b = true → Snd X env l o) (h2 : b = false → Snd X env r o) : Snd X env (.IfExp t l r pos) o := fun _ _ _ _ _ w re q =>
  ⟨_, pe_ifExp wT_ok wE_ok wE_ok, h w re fun B' H' s => by
    cases b with
    | true => exact iteT (h1 rfl (w.stp s re.has) (re.stp s) (q.stp s))
    | false => exact iteF (h2 rfl (w.stp s re.has) (re.stp s) (q.stp s))⟩
/-! subscripts, slices -/
theorem wX_ok : IxR X (wX X) := fun value slice pins s σ H x y v u Q I r1 r2 ⟨_, h, q⟩ hs => h value slice pins s σ H x y v u Q I r1 r2 q hs
theorem snd_idx (hu : X.A.units + 64 < cLine) (hp : ∀ a b, subscripted r false a b = operate [a, b] (getItem a b)) (h1 : SndO X env l ox) (h2 : SndO X env r oy) (h : idxO ox oy = some o) : Snd X env (.Subscript l r pos) o := fun _ _ _ _ _ w re q => by
  have hu1 : X.A.units + 1 < cLine := by omega
  cases hd : (ditems ox).isSome with
  | false => exact ⟨_, pe_ix wX_ok wE_ok wE_ok hp, h1 w re fun v1 B1 H1 f1 s1 r1 => h2 (w.stp s1 re.has) (re.stp s1) fun v2 B2 H2 f2 s2 r2 => idx_okL s2.bh (r1.stp s2) r2 hd h (q.stp (s1.trans s2))⟩
  | true => exact ⟨_, pe_dget hu1 wE_ok wE_ok hp, h1 w re fun v1 B1 H1 f1 s1 r1 => h2 (w.stp s1 re.has) (re.stp s1) fun v2 B2 H2 f2 s2 r2 => idx_okD s2.bh (r1.stp s2) r2 hd h (q.stp (s1.trans s2))⟩
def wSl (X : Cx) : V → Option Int → Option Int → Hp → VK → Prop := fun x lo hi H Q => ∃ r, SlR X r ∧ r x lo hi H Q
theorem wSl_ok : SlR X (wSl X) := fun pins s σ H x v vl vu lo hi sl Q I r1 h1 h2 h3 ⟨_, h, q⟩ => h pins s σ H x v vl vu lo hi sl Q I r1 h1 h2 h3 q
def wP (X : Cx) (e : Option Expr) : TO := fun σ H Q => ∃ t, PO X e t ∧ t σ H Q
theorem wP_ok {e : Option Expr} : PO X e (wP X e) := ⟨fun pins s σ H Q I ⟨_, h, q⟩ => h.run pins s σ H Q I q⟩
def SndX (X : Cx) (env : Env) (ex : Option Expr) (i : Option Int) : Prop := ∀ ⦃B H : Hp⦄ ⦃σ : L2.St⦄ ⦃fp : List Addr⦄ ⦃Q : Option Int → Hp → Prop⦄, Wld B H fp → REnv X.K B H σ env fp → (∀ B' H', Stp B H B' H' → Q i H') → wP X ex σ H Q
theorem snx_none : SndX X env none none := fun _ _ _ _ _ w re q => ⟨_, po_none, q _ _ (.refl w.bh)⟩
theorem snx_some {e : Expr} {i : Int} (h : Snd X env e (.pl (.int i))) : SndX X env (some e) (some i) := fun _ _ _ _ _ w re q => ⟨_, po_some wE_ok, h w re fun v B' H' f s ro _ => ⟨i, ro.i, q _ _ s⟩⟩
theorem snd_slc {lo hi : Option Expr} {i j : Option Int} {p2 : Pos} (h1 : SndO X env l ox) (h2 : SndX X env lo i) (h3 : SndX X env hi j) (h : slcO ox i j = some o) : Snd X env (.Subscript l (.Slice lo hi none p2) pos) o := fun _ _ _ _ _ w re q =>
  ⟨_, pe_slice wSl_ok wE_ok wP_ok wP_ok, h1 w re fun v1 B1 H1 f1 s1 r1 => h2 (w.stp s1 re.has) (re.stp s1) fun B2 H2 s2 => h3 (w.stp (s1.trans s2) re.has) (re.stp (s1.trans s2)) fun B3 H3 s3 => slc_ok s3.bh ((r1.stp s2).stp s3) h (q.stp ((s1.trans s2).trans s3))⟩
/-! lists of expressions -/
theorem snr_nil : SndRs X env [] [] := fun _ _ _ _ _ w re q => ⟨_, pa_nil, q _ _ _ _ (.refl w.bh) .nil .nil⟩
theorem snr_cons {es : List Expr} {os : List O} (hn : nst l = true) (h1 : Snd X env l o) (h2 : SndRs X env es os) : SndRs X env (l :: es) (o :: os) := fun _ _ _ _ _ w re q =>
  ⟨_, pa_cons wE_ok wA_ok (star_cons hn), h1 w re fun v1 B1 H1 f1 s1 r1 n1 => h2 (w.stp s1 re.has) (re.stp s1) fun vs B2 H2 f2 s2 r2 n2 => q _ _ _ _ (s1.trans s2) (.cons (r1.stp s2) r2) ((n1.stp s2 r1.has).app s1.h r1.has n2)⟩
theorem snv_nil : SndVs X env [] [] := fun _ _ _ _ _ w re q => ⟨_, pa_nil, q _ _ _ _ (.refl w.bh) .nil⟩
theorem snv_cons {es : List Expr} {os : List O} (hn : nst l = true) (h1 : SndO X env l o) (h2 : SndVs X env es os) : SndVs X env (l :: es) (o :: os) := fun _ _ _ _ _ w re q =>
  ⟨_, pa_cons wE_ok wA_ok (star_cons hn), h1 w re fun v1 B1 H1 f1 s1 r1 => h2 (w.stp s1 re.has) (re.stp s1) fun vs B2 H2 f2 s2 r2 => q _ _ _ _ (s1.trans s2) (.cons (r1.stp s2) r2)⟩
theorem snl_nil : SndLs X env [] ([], false) := fun _ _ _ _ _ w re q => ⟨_, pa_nil, q _ _ _ [] (.refl w.bh) (fun _ => .nil) (fun _ z => by simp at z) .nil⟩
/-- an argument: shared (b = false) or lent -/
def SndL (X : Cx) (env : Env) (ex : Expr) (p : P) (b : Bool) : Prop := ∀ ⦃B H : Hp⦄ ⦃σ : L2.St⦄ ⦃fp : List Addr⦄ ⦃Q : VK⦄, Wld B H fp → REnv X.K B H σ env fp → (∀ v B' H' f, Stp B H B' H' → (b = false → RP X.K B' v p) → (∀ a ∈ f, Ctn H' a) → RP X.K (frz B' H' f) v p → Q v H') → wE X ex σ H Q
theorem SndO.lend {p : P} (h : SndO X env l ox) (hp : fz ox = some p) : SndL X env l p true := fun _ _ _ _ _ w re q => h w re fun v B' H' f s ro => q v B' H' f s (fun z => by cases z) ro.ctn (ro.fz (frz_B s.bh) (fun a ha => frz_in ha) hp)
theorem SndO.give {p : P} (h : SndO X env l (.pl p)) : SndL X env l p false := fun _ _ _ _ _ w re q => h w re fun v B' H' f s ro => q v B' H' [] s (fun _ => ro.p) (fun _ z => by simp at z) (by rw [frz_nil]; exact ro.p)
theorem Snd.give {p : P} (h : Snd X env l ox) (hp : fz ox = some p) : SndL X env l p false := fun _ _ _ _ _ w re q => h w re fun v B' H' f s ro n => by
  obtain ⟨B2, s2, _, r2, _⟩ := s.share ro hp n
  exact q v B2 H' [] s2 (fun _ => r2) (fun _ z => by simp at z) (by rw [frz_nil]; exact r2)
theorem snl_cons {es : List Expr} {p : P} {b : Bool} {ps : List P × Bool} (hn : nst l = true) (h1 : SndL X env l p b) (h2 : SndLs X env es ps) : SndLs X env (l :: es) (p :: ps.1, b || ps.2) := fun _ _ _ _ _ w re q =>
  ⟨_, pa_cons wE_ok wA_ok (star_cons hn), h1 w re fun v1 B1 H1 f1 s1 r1 c1 l1 => h2 (w.stp s1 re.has) (re.stp s1) fun vs B2 H2 f2 s2 r2 c2 l2 => q _ _ _ (f1 ++ f2) (s1.trans s2) (fun z => by
    rw [Bool.or_eq_false_iff] at z
    exact .cons ((r1 z.1).mono s2.b) (r2 z.2)) (fun a ha => by
    rcases List.mem_append.mp ha with z | z
    · exact (c1 a z).ext s2.h
    · exact c2 a z) (.cons (l1.mono (frz_up s2.b s2.h s2.bh)) (l2.mono (frz_dn s2.bh)))⟩
theorem plains_ok {K : PySem.W.Frag} {vs : List V} {os : List O} {f : List Addr} {ps : List P} (h : plains os = some ps) (r : ROs K B H vs os f) : RPs K B vs ps ∧ f = [] := by
  induction os generalizing vs f ps with
  | nil => cases r; rw [plains] at h; cases h; exact ⟨.nil, rfl⟩
  | cons o os ih =>
    cases r with
    | cons r1 r2 =>
      cases r1 with
      | pl r1 =>
        rw [plains] at h
        cases z : plains os with
        | none => rw [z] at h; cases h
        | some qs =>
          rw [z] at h
          cases h
          obtain ⟨i1, i2⟩ := ih z r2
          subst i2
          exact ⟨.cons r1 i1, rfl⟩
      | _ => cases h
theorem Frs.cons {B' H' : Hp} {f : List Addr} {a : Addr} (n : Frs H B' f) (e : Ext H H') (ha : H' a = none) (hb : B' a = none) (hf : ∀ b ∈ f, H' b ≠ none) : Frs H B' (a :: f) :=
  ⟨List.nodup_cons.mpr ⟨fun z => hf a z ha, n.nd⟩, fun b hb' => by
    rcases List.mem_cons.mp hb' with z | z
    · subst z
      exact e.none ha
    · exact n.new b z, fun b hb' => by
    rcases List.mem_cons.mp hb' with z | z
    · subst z
      exact hb
    · exact n.out b z⟩
theorem snd_lst {es : List Expr} {os : List O} (h1 : SndRs X env es os) (h : mkL os = some o) : Snd X env (.List es pos) o := fun _ _ _ _ _ w re q =>
  ⟨_, pe_lst wA_ok, h1 w re fun vs B1 H1 f1 s1 r1 n1 => by
    unfold mkL at h
    split at h
    · rename_i c
      refine ⟨by rw [r1.len, line_eq]; omega, fun a ha => ?_⟩
      cases z : fzs os with
      | some ps =>
        rw [z] at h
        cases h
        obtain ⟨B2, s2, _, r2, _⟩ := s1.shares r1 z n1
        exact (q.stp s2).fl s2.bh r2 a ha
      | none =>
        rw [z] at h
        cases h
        have s2 := Stp.lay (o := .lst vs) s1.bh ha
        exact q _ _ _ (a :: f1) (s1.trans s2) (.lst upd_same (r1.stp s2)) ((n1.cons s1.h ha (s1.bh.none ha) r1.has))
    · cases h⟩
theorem snd_tup {es : List Expr} {os : List O} {k : Nat} (h1 : SndRs X env es os) (h : mkT os = some o) : Snd X env (.Tuple es k pos) o := fun _ _ _ _ _ w re q =>
  ⟨_, pe_tup wA_ok, h1 w re fun vs B1 H1 f1 s1 r1 n1 => by
    unfold mkT at h
    split at h
    · rename_i c
      refine ⟨by rw [r1.len, line_eq]; omega, fun a ha => ?_⟩
      cases z : plains os with
      | some ps =>
        rw [z] at h
        cases h
        exact (q.stp s1).tup s1.bh (plains_ok z r1).1 a ha
      | none =>
        rw [z] at h
        cases h
        have s2 := Stp.layB (o := .tup vs) s1.bh ha
        exact q _ _ _ f1 (s1.trans s2) (.tup upd_same (r1.stp s2)) (n1.stp s2 r1.has)
    · cases h⟩
theorem snd_dct : Snd X env (.Dict [] [] pos) (.fd []) := fun _ _ _ _ _ w re q => ⟨_, pe_dnewK, fun a ha =>
  q _ _ _ [a] (.lay w.bh ha) (.fd upd_same .nil) ⟨by simp, by simpa using ha, by simpa using w.bh.none ha⟩⟩
end
end
end G

set_option maxRecDepth 100000
namespace G
open PySem L2
/-- J walks ps wherever R stands -/
structure ItS (K : PySem.W.Frag) (J : L2.It) (ps : List P) (R : Hp → Hp → Prop) : Prop where
  go : ∀ i B H, R B H → Ext B H → i < ps.length → J.go i H
  yld : ∀ i B H x H' p, R B H → Ext B H → ps[i]? = some p → J.yld i H x H' → ∃ B', Stp B H B' H' ∧ RP K B' x p
  stop : ∀ i B H, R B H → Ext B H → i = ps.length → J.stop i H
section
variable {K : PySem.W.Frag} {B0 H0 : Hp}
theorem its_list {R : Hp → Hp → Prop} {a : Addr} {vs : List V} {ps : List P} (r : ∀ B H, R B H → Ext B H → SqL K H a vs ∧ RPs K B vs ps) : ItS K (Itl K a) ps R where
  go := fun i B H hR e hi => by
    obtain ⟨h1, h2⟩ := r B H hR e
    rw [← h2.len] at hi
    exact ⟨vs, vs[i], h1, List.getElem?_eq_getElem hi⟩
  yld := fun i B H x H' p hR e hp hy => by
    obtain ⟨rfl, hy⟩ := hy
    obtain ⟨h1, h2⟩ := r B _ hR e
    obtain ⟨v, e1, e2⟩ := h2.getE hp
    have := hy vs h1
    rw [e1] at this
    cases this
    exact ⟨B, .refl e, e2⟩
  stop := fun i B H hR e hi => by
    obtain ⟨h1, h2⟩ := r B H hR e
    rw [← h2.len] at hi
    exact ⟨vs, h1, Nat.le_of_eq hi.symm⟩
theorem its_tup {R : Hp → Hp → Prop} {a : Addr} {vs : List V} {ps : List P} (r : ∀ B H, R B H → Ext B H → SqT K H a vs ∧ RPs K B vs ps) : ItS K (Itt K a) ps R where
  go := fun i B H hR e hi => by
    obtain ⟨h1, h2⟩ := r B H hR e
    rw [← h2.len] at hi
    exact ⟨vs, vs[i], h1, List.getElem?_eq_getElem hi⟩
  yld := fun i B H x H' p hR e hp hy => by
    obtain ⟨rfl, hy⟩ := hy
    obtain ⟨h1, h2⟩ := r B _ hR e
    obtain ⟨v, e1, e2⟩ := h2.getE hp
    have := hy vs h1
    rw [e1] at this
    cases this
    exact ⟨B, .refl e, e2⟩
  stop := fun i B H hR e hi => by
    obtain ⟨h1, h2⟩ := r B H hR e
    rw [← h2.len] at hi
    exact ⟨vs, h1, Nat.le_of_eq hi.symm⟩
theorem its_str {R : Hp → Hp → Prop} {s : Str} : ItS K (Its s) (strItems s) R where
  go := fun i B H hR e hi => by
    unfold strItems at hi
    rw [List.length_map, Array.length_toList] at hi
    exact hi
  yld := fun i B H x H' p hR e hp hy => by
    obtain ⟨rfl, c, hc, rfl⟩ := hy
    unfold strItems at hp
    rw [List.getElem?_map, Array.getElem?_toList, hc] at hp
    cases hp
    exact ⟨B, .refl e, .str⟩
  stop := fun i B H hR e hi => by
    unfold strItems at hi
    rw [List.length_map, Array.length_toList] at hi
    exact Nat.le_of_eq hi.symm
theorem its_rng {R : Hp → Hp → Prop} {lo j : Int} : ItS K (Itr lo j.toNat) (rangeP lo j) R where
  go := fun i B H hR e hi => by
    unfold rangeP at hi
    rw [List.length_map, List.length_range] at hi
    exact hi
  yld := fun i B H x H' p hR e hp hy => by
    obtain ⟨rfl, rfl⟩ := hy
    unfold rangeP at hp
    rw [List.getElem?_map] at hp
    cases z : (List.range j.toNat)[i]? with
    | none => rw [z] at hp; cases hp
    | some k =>
      rw [z] at hp
      cases hp
      have := (List.getElem?_eq_some_iff.mp z).2
      rw [List.getElem_range] at this
      subst this
      exact ⟨B, .refl e, .int⟩
  stop := fun i B H hR e hi => by
    unfold rangeP at hi
    rw [List.length_map, List.length_range] at hi
    exact Nat.le_of_eq hi.symm
theorem its_enum {R : Hp → Hp → Prop} {a : Addr} {vs : List V} {ps : List P} (r : ∀ B H, R B H → Ext B H → SqL K H a vs ∧ RPs K B vs ps) : ItS K (Ite K a) (enumP ps) R where
  go := fun i B H hR e hi => by
    obtain ⟨h1, h2⟩ := r B H hR e
    unfold enumP at hi
    rw [List.length_map, List.length_zipIdx, ← h2.len] at hi
    exact ⟨vs, vs[i], h1, List.getElem?_eq_getElem hi⟩
  yld := fun i B H x H' p hR e hp hy => by
    obtain ⟨T, y, rfl, hT, rfl, hy⟩ := hy
    obtain ⟨h1, h2⟩ := r B _ hR e
    unfold enumP at hp
    rw [List.getElem?_map, List.getElem?_zipIdx] at hp
    cases z : ps[i]? with
    | none => rw [z] at hp; cases hp
    | some q =>
      rw [z] at hp
      cases hp
      obtain ⟨v, e1, e2⟩ := h2.getE z
      have := hy vs h1
      rw [e1] at this
      cases this
      have s := Stp.layB (o := .tup [.int ((i : Nat) : Int), y]) e hT
      refine ⟨_, s, .tup (.of upd_same) (.cons ?_ (.cons (e2.stp s) .nil))⟩
      show RP K _ (.int ((i : Nat) : Int)) (.int ((0 + i : Nat) : Int))
      rw [Nat.zero_add]
      exact .int
  stop := fun i B H hR e hi => by
    obtain ⟨h1, h2⟩ := r B H hR e
    unfold enumP at hi
    rw [List.length_map, List.length_zipIdx, ← h2.len] at hi
    exact ⟨vs, h1, Nat.le_of_eq hi.symm⟩
theorem zip_len (xs ys : List P) : (zipP xs ys).length = min xs.length ys.length := by
  unfold zipP
  rw [List.length_zipWith]
theorem its_zip {R : Hp → Hp → Prop} {a b : Addr} {vs ws : List V} {ps qs : List P} {sq : PySem.W.Frag → Hp → Addr → List V → Prop} {J : L2.It}
    (hg : ∀ i H x y, sq K H a vs → sq K H b ws → vs[i]? = some x → ws[i]? = some y → J.go i H) (hy : ∀ i H v H', J.yld i H v H' → ∃ T x y, v = .ref T ∧ H T = none ∧ H' = upd H T (.tup [x, y]) ∧ (∀ xs, sq K H a xs → xs[i]? = some x) ∧ ∀ ys, sq K H b ys → ys[i]? = some y)
    (hs : ∀ i H, sq K H a vs → sq K H b ws → (vs.length ≤ i ∨ ws.length ≤ i) → J.stop i H)
    (r : ∀ B H, R B H → Ext B H → sq K H a vs ∧ RPs K B vs ps ∧ sq K H b ws ∧ RPs K B ws qs) : ItS K J (zipP ps qs) R where
  go := fun i B H hR e hi => by
    obtain ⟨h1, h2, h3, h4⟩ := r B H hR e
    rw [zip_len, ← h2.len, ← h4.len] at hi
    exact hg i H _ _ h1 h3 (List.getElem?_eq_getElem (by omega)) (List.getElem?_eq_getElem (by omega))
  yld := fun i B H x H' p hR e hp hyl => by
    obtain ⟨T, x, y, rfl, hT, rfl, hx, hy'⟩ := hy i H _ _ hyl
    obtain ⟨h1, h2, h3, h4⟩ := r B _ hR e
    obtain ⟨p1, q1, p2⟩ := h2.getV (hx vs h1)
    obtain ⟨p3, q3, p4⟩ := h4.getV (hy' ws h3)
    have e1 : (zipP ps qs)[i]? = some (.tuple [p1, p3]) := by
      unfold zipP
      rw [List.getElem?_zipWith, q1, q3]
    rw [e1] at hp
    cases hp
    have s := Stp.layB (o := .tup [x, y]) e hT
    exact ⟨_, s, .tup (.of upd_same) (.cons (p2.stp s) (.cons (p4.stp s) .nil))⟩
  stop := fun i B H hR e hi => by
    obtain ⟨h1, h2, h3, h4⟩ := r B H hR e
    rw [zip_len, ← h2.len, ← h4.len] at hi
    exact hs i H h1 h3 (by omega)
theorem its_rev {R : Hp → Hp → Prop} {a : Addr} {vs : List V} {ps : List P} {sq : PySem.W.Frag → Hp → Addr → List V → Prop} {J : L2.It} (n : Nat) (hn : n = vs.length)
    (hg : ∀ i H (x : V), i < n → sq K H a vs → vs[n - 1 - i]? = some x → J.go i H) (hy : ∀ i H v H', J.yld i H v H' → H' = H ∧ ∀ xs, sq K H a xs → xs[n - 1 - i]? = some v)
    (hs : ∀ i H, n ≤ i → J.stop i H) (r : ∀ B H, R B H → Ext B H → sq K H a vs ∧ RPs K B vs ps) : ItS K J ps.reverse R where
  go := fun i B H hR e hi => by
    obtain ⟨h1, h2⟩ := r B H hR e
    rw [List.length_reverse, ← h2.len, ← hn] at hi
    exact hg i H _ hi h1 (List.getElem?_eq_getElem (by omega))
  yld := fun i B H x H' p hR e hp hyl => by
    obtain ⟨rfl, hx⟩ := hy i H _ _ hyl
    obtain ⟨h1, h2⟩ := r B _ hR e
    obtain ⟨p1, q1, p2⟩ := h2.getV (hx vs h1)
    have hi := (List.getElem?_eq_some_iff.mp hp).1
    rw [List.length_reverse] at hi
    rw [List.getElem?_reverse hi, ← h2.len, ← hn, q1] at hp
    cases hp
    exact ⟨B, .refl e, p2⟩
  stop := fun i B H hR e hi => by
    obtain ⟨h1, h2⟩ := r B H hR e
    rw [List.length_reverse, ← h2.len, ← hn] at hi
    exact hs i H (Nat.le_of_eq hi.symm)
end
def wI (X : Cx) (tg iter : Expr) : TI := fun σ H R => ∃ wi, PI X tg iter wi ∧ wi σ H R
theorem wI_ok {X : Cx} {tg iter : Expr} : PI X tg iter (wI X tg iter) := ⟨fun pins s σ H R I ⟨_, h, q⟩ => h.run pins s σ H R I q⟩
/-- what stands of a walked thing: m, as long as the heap only grows; else whatever is changed -/
def cond (m : Bool) (B1 H1 : Hp) : Hp → Hp → Prop := fun B H => Ext B1 B ∧ (m = true → Ext H1 H)
theorem cond.mono {m : Bool} {B1 H1 B2 H2 B H : Hp} (s : Stp B1 H1 B2 H2) (c : cond m B2 H2 B H) : cond m B1 H1 B H := ⟨s.b.trans c.1, fun z => s.h.trans (c.2 z)⟩
def sq (t : Bool) (K : PySem.W.Frag) (H : Hp) (a : Addr) (vs : List V) : Prop := if t = true then SqT K H a vs else SqL K H a vs
theorem Ext.sq {t : Bool} {K : PySem.W.Frag} {A B : Hp} (e : Ext A B) {a : Addr} {vs : List V} (h : sq t K A a vs) : sq t K B a vs := by
  cases t with
  | true => exact e.sqT h
  | false => exact e.sqL h
def At (t : Bool) (K : PySem.W.Frag) (H1 : Hp) (R : Hp → Hp → Prop) (v : V) (ps : List P) : Prop := ∃ a vs, v = .ref a ∧ sq t K H1 a vs ∧ RPs K H1 vs ps ∧ ∀ B H, R B H → Ext B H → sq t K H a vs ∧ RPs K B vs ps
def SndM (m : Bool) (X : Cx) (env : Env) (tg ex : Expr) (ps : List P) : Prop := ∀ ⦃B H : Hp⦄ ⦃σ : L2.St⦄ ⦃fp : List Addr⦄ ⦃R : L2.It → Hp → Prop⦄, Wld B H fp → REnv X.K B H σ env fp →
  (∀ J B1 H1, Stp B H B1 H1 → ItS X.K J ps (cond m B1 H1) → R J H1) → wI X tg ex σ H R
/-- an operand that is walked: t, a tuple -/
def SndS (m t : Bool) (X : Cx) (env : Env) (ex : Expr) (ps : List P) : Prop := ∀ ⦃B H : Hp⦄ ⦃σ : L2.St⦄ ⦃fp : List Addr⦄ ⦃Q : VK⦄, Wld B H fp → REnv X.K B H σ env fp →
  (∀ v B1 H1, Stp B H B1 H1 → At t X.K H1 (cond m B1 H1) v ps → Q v H1) → wE X ex σ H Q
section
variable {X : Cx} {env : Env} {ex e1 e2 tg : Expr} {ps qs : List P} {m t : Bool}
theorem At.stp {K : PySem.W.Frag} {B1 H1 B2 H2 : Hp} {v : V} (s : Stp B1 H1 B2 H2) (h : At t K H1 (cond m B1 H1) v ps) : At t K H2 (cond m B2 H2) v ps := by
  obtain ⟨a, vs, e, h1, h2, h3⟩ := h
  exact ⟨a, vs, e, s.h.sq h1, h2.mono s.h, fun B H c e => h3 B H (c.mono s) e⟩
theorem sns_I {ox : O} (h : SndO X env ex ox) (hl : litems ox = some ps) : SndS true false X env ex ps := fun _ _ _ _ _ w re q => h w re fun v B1 H1 f s ro => q v B1 H1 s (by
  obtain ⟨a, vs, e, h1, h2⟩ := ro.lits s.bh hl
  exact ⟨a, vs, e, h1.sq, h2.mono s.bh, fun B H c e => ⟨((c.2 rfl).sl h1).sq, h2.mono c.1⟩⟩)
theorem sns_L (h : SndL X env ex (.list ps) false) : SndS m false X env ex ps := fun _ _ _ _ _ w re q => h w re fun v B1 H1 _ s r _ _ => q v B1 H1 s (by
  cases r rfl with
  | lst h1 h2 => exact ⟨_, _, rfl, (s.bh.sl h1).sq, h2.mono s.bh, fun B H c e => ⟨(e.sl (c.1.sl h1)).sq, h2.mono c.1⟩⟩)
theorem sns_T (h : SndL X env ex (.tuple ps) false) : SndS m true X env ex ps := fun _ _ _ _ _ w re q => h w re fun v B1 H1 _ s r _ _ => q v B1 H1 s (by
  cases r rfl with
  | tup h1 h2 => exact ⟨_, _, rfl, s.bh.sqT h1, h2.mono s.bh, fun B H c e => ⟨e.sqT (c.1.sqT h1), h2.mono c.1⟩⟩)
theorem snm_seq (h : SndS m t X env ex ps) : SndM m X env tg ex ps := fun _ _ _ _ _ w re q => by
  cases t with
  | true => exact ⟨_, pi_tup wE_ok, h w re fun v B1 H1 s ⟨a, vs, e, h1, _, h2⟩ => ⟨a, e, ⟨vs, h1⟩, q _ B1 H1 s (its_tup h2)⟩⟩
  | false => exact ⟨_, pi_list wE_ok, h w re fun v B1 H1 s ⟨a, vs, e, h1, _, h2⟩ => ⟨a, e, ⟨vs, h1⟩, q _ B1 H1 s (its_list h2)⟩⟩
theorem snm_str {s : Str} (h : SndO X env ex (.pl (.str s))) : SndM m X env tg ex (strItems s) := fun _ _ _ _ _ w re q =>
  ⟨_, pi_str wE_ok, h w re fun v B1 H1 f s ro => ⟨_, ro.s, q _ B1 H1 s its_str⟩⟩
variable {pos p1 : Pos}
theorem snm_rng1 {i : Int} (hg : Gl X "range") (hm : X.mg "range" = none) (hn : nst e1 = true) (h : Snd X env e1 (.pl (.int i))) (hi : okI i) : SndM m X env tg (.Call (.Name "range" p1) [e1] [] pos) (rangeP 0 i) := fun _ _ _ _ _ w re q =>
  ⟨_, pi_range1 hg hm wA_ok (star_cons hn), snr_cons hn h snr_nil w re fun vs B1 H1 f s ro _ => by
    obtain ⟨v, g, rfl, r1⟩ := ro.one
    exact ⟨i, by rw [r1.i], hi.1, hi.2, q _ B1 H1 s its_rng⟩⟩
theorem snm_rng2 {i j : Int} (hg : Gl X "range") (hm : X.mg "range" = none) (hn : nst e1 = true) (hn2 : nst e2 = true) (h : Snd X env e1 (.pl (.int i))) (h2 : Snd X env e2 (.pl (.int j))) (hi : okI i ∧ okI j) :
    SndM m X env tg (.Call (.Name "range" p1) [e1, e2] [] pos) (rangeP i (j - i)) := fun _ _ _ _ _ w re q =>
  ⟨_, pi_range2 hg hm wA_ok (by rw [star_cons hn, star_cons hn2]; rfl) (star_cons hn2), snr_cons hn h (snr_cons hn2 h2 snr_nil) w re fun vs B1 H1 f s ro _ => by
    obtain ⟨v, v2, g, g', rfl, r1, r2⟩ := ro.two
    exact ⟨i, j, by rw [r1.i, r2.i], ⟨hi.1.1, hi.1.2, hi.2.1, hi.2.2⟩, q _ B1 H1 s its_rng⟩⟩
theorem wA_one {σ : L2.St} {H : Hp} {Q : List V → Hp → Prop} (hn : nst e1 = true) (h : wE X e1 σ H fun v H1 => Q [v] H1) : wA X [e1] σ H Q := ⟨_, pa_cons wE_ok pa_nil (star_cons hn), h⟩
theorem wA_two {σ : L2.St} {H : Hp} {Q : List V → Hp → Prop} (hn : nst e1 = true) (hn2 : nst e2 = true) (h : wE X e1 σ H fun v H1 => wE X e2 σ H1 fun w H2 => Q [v, w] H2) : wA X [e1, e2] σ H Q :=
  ⟨_, pa_cons wE_ok (pa_cons wE_ok pa_nil (star_cons hn2)) (star_cons hn), h⟩
theorem snm_enum {es : List Expr} {k : Nat} {tp : Pos} (hg : Gl X "enumerate") (hm : X.mg "enumerate" = none) (hn : nst e1 = true) (h : SndS m false X env e1 ps) : SndM m X env (.Tuple es k tp) (.Call (.Name "enumerate" p1) [e1] [] pos) (enumP ps) := fun _ _ _ _ _ w re q =>
  ⟨_, pi_enum hg hm wA_ok (star_cons hn), wA_one hn (h w re fun v B1 H1 s ⟨a, vs, e, h1, _, h2⟩ => ⟨a, vs, by rw [e], h1, q _ B1 H1 s (its_enum h2)⟩)⟩
theorem snm_zip {es : List Expr} {k : Nat} {tp : Pos} (hg : Gl X "zip") (hm : X.mg "zip" = none) (hn : nst e1 = true) (hn2 : nst e2 = true) (h : SndS m t X env e1 ps) (h2 : SndS m t X env e2 qs) :
    SndM m X env (.Tuple es k tp) (.Call (.Name "zip" p1) [e1, e2] [] pos) (zipP ps qs) := fun _ _ _ _ _ w re q =>
  ⟨_, RZ.pi_zipA hg hm wA_ok (star_cons hn) (star_any (by simp [hn2])), wA_two hn hn2 (h w re fun v B1 H1 s a1 => h2 (w.stp s re.has) (re.stp s) fun v2 B2 H2 s2 ⟨b, ws, eb, k1, _, k2⟩ => by
    obtain ⟨a, vs, ea, j1, _, j2⟩ := a1.stp s2
    refine ⟨a, b, vs, ws, by rw [ea, eb], ?_⟩
    cases t with
    | false =>
      exact .inl ⟨j1, k1, q _ B2 H2 (s.trans s2) (its_zip (sq := SqL) (a := a) (b := b) (vs := vs) (ws := ws) (fun i H x y a1 a2 a3 a4 => ⟨vs, ws, x, y, a1, a2, a3, a4⟩) (fun i H v H' z => z) (fun i H a1 a2 a3 => ⟨vs, ws, a1, a2, a3⟩)
        fun B H c e => ⟨(j2 B H c e).1, (j2 B H c e).2, (k2 B H c e).1, (k2 B H c e).2⟩)⟩
    | true =>
      exact .inr ⟨j1, k1, q _ B2 H2 (s.trans s2) (its_zip (sq := SqT) (a := a) (b := b) (vs := vs) (ws := ws) (fun i H x y a1 a2 a3 a4 => ⟨vs, ws, x, y, a1, a2, a3, a4⟩) (fun i H v H' z => z) (fun i H a1 a2 a3 => ⟨vs, ws, a1, a2, a3⟩)
        fun B H c e => ⟨(j2 B H c e).1, (j2 B H c e).2, (k2 B H c e).1, (k2 B H c e).2⟩)⟩)⟩
theorem snm_rev (hg : Gl X "reversed") (hm : X.mg "reversed" = none) (hn : nst e1 = true) (h : SndS m t X env e1 ps) : SndM m X env tg (.Call (.Name "reversed" p1) [e1] [] pos) ps.reverse := fun _ _ _ _ _ w re q =>
  ⟨_, RT.pi_revA hg hm wE_ok (star_cons hn), h w re fun v B1 H1 s ⟨a, vs, e, h1, _, h2⟩ => by
    refine ⟨a, vs, e, ?_⟩
    cases t with
    | false => exact .inl ⟨h1, q _ B1 H1 s (its_rev (sq := SqL) (a := a) (vs := vs) vs.length rfl (fun i H x z1 z2 z3 => ⟨z1, vs, x, z2, z3⟩) (fun i H v H' z => z) (fun i H z => z) h2)⟩
    | true => exact .inr ⟨h1, q _ B1 H1 s (its_rev (sq := SqT) (a := a) (vs := vs) vs.length rfl (fun i H x z1 z2 z3 => ⟨z1, vs, x, z2, z3⟩) (fun i H v H' z => z) (fun i H z => z) h2)⟩⟩
end
end G

set_option maxRecDepth 100000
set_option maxHeartbeats 1000000
/-! zip of a list and a tuple, in either order -/
namespace G
open PySem PyProof PyProof.Rows L2
def clsI (t : Bool) : String := if t = true then "tuple_iterator" else "list_iterator"
def isIt (t : Bool) (h : Heap) (a l : Addr) (i : Nat) : Prop := ∃ o, h.get? a = some o ∧ o.cls = .type (clsI t) ∧ o.data = .fields #[.ref l, .int i 0]
def clsS (t : Bool) : String := if t = true then "tuple" else "list"
def isSq (t : Bool) (h : Heap) (a : Addr) (items : Array Value) : Prop := ∃ o, h.get? a = some o ∧ o.cls = .type (clsS t) ∧ ∃ n, o.data = .seq items n
theorem isIt.at {t : Bool} {h h' : Heap} {a l : Addr} {i : Nat} (x : isIt t h a l i) (e : ∀ o, h.get? a = some o → h'.get? a = some o) : isIt t h' a l i := let ⟨o, ho, r⟩ := x; ⟨o, e _ ho, r⟩
theorem isSq.at {t : Bool} {h h' : Heap} {a : Addr} {xs : Array Value} (x : isSq t h a xs) (e : ∀ o, h.get? a = some o → h'.get? a = some o) : isSq t h' a xs := let ⟨o, ho, r⟩ := x; ⟨o, e _ ho, r⟩
theorem drw {prog : Program} {w : World} {A : Around} (t : Bool) (hh : A.handled = none) {it l : Addr} (ne : l ≠ it) (items : Array Value) : Draws prog w A it [it, l] items.size (fun i x => items[i]? = some x) (fun i h => isIt t h it l i ∧ isSq t h l items) where
  live := fun i h st => let ⟨o, ho, _⟩ := st.1; ⟨o, ho⟩
  frame := fun i h h' st k => ⟨st.1.at (k it (by simp)), st.2.at (k l (by simp))⟩
  item := fun i s Q E hi st hQ => by
    have hx : items[i]? = some items[i] := by simp [hi]
    cases t with
    | true => exact RZ.nextOf_tuple_item (l := l) (i := i) st.1 st.2 hx fun h' h1 h2 => hQ _ h' s.toks hx ⟨h1, st.2.at fun o e => (h2.2 l ne).trans e⟩ h2
    | false => exact wpAny_nextOf_list_item (l := l) (i := i) st.1 st.2 hx fun h' h1 h2 => hQ _ h' s.toks hx ⟨h1, st.2.at fun o e => (h2.2 l ne).trans e⟩ h2
  done := fun s Q E st hE => by
    have hx : items[items.size]? = none := by simp
    cases t with
    | true => exact RZ.nextOf_tuple_end hh st.1 st.2 hx hE
    | false => exact wpAny_nextOf_list_end hh st.1 st.2 hx hE
theorem sq_at {X : Cx} {pins : List (Addr × Obj)} {σ : L2.St} {H : Hp} {s : Shared} (I : Inv X pins σ H s) {t : Bool} {a : Addr} {vs : List V} (h : sq t X.K H a vs) : ∃ its : List Value, Vals vs its ∧ isSq t s.heap a its.toArray := by
  cases t with
  | true =>
    obtain ⟨its, r, p, _⟩ := I.tuple h
    exact ⟨its, r, p⟩
  | false =>
    obtain ⟨its, r, p, _⟩ := I.list h
    exact ⟨its, r, p.isList⟩
theorem sq_inj {X : Cx} {pins : List (Addr × Obj)} {σ : L2.St} {H : Hp} {s : Shared} (I : Inv X pins σ H s) {t : Bool} {a : Addr} {vs ws : List V} (h : sq t X.K H a vs) (k : sq t X.K H a ws) : vs = ws := by
  cases t with
  | true => exact I.tuple_inj h k
  | false => exact I.list_inj h k
/-- the two as they stand at each turn -/
def ItzM (t u : Bool) (K : PySem.W.Frag) (a b : Addr) : L2.It :=
  ⟨fun i H => ∃ (xs ys : List V) (x y : V), sq t K H a xs ∧ sq u K H b ys ∧ xs[i]? = some x ∧ ys[i]? = some y,
    fun i H v H' => ∃ T x y, v = .ref T ∧ H T = none ∧ H' = upd H T (.tup [x, y]) ∧ (∀ xs, sq t K H a xs → xs[i]? = some x) ∧ ∀ ys, sq u K H b ys → ys[i]? = some y,
    fun i H => ∃ xs ys : List V, sq t K H a xs ∧ sq u K H b ys ∧ (xs.length = i ∧ i ≤ ys.length ∨ ys.length = i ∧ i ≤ xs.length)⟩
theorem ZipApart.sep {z TI TO i1 i2 l1 l2 : Addr} (D : ZipApart z TI TO i1 i2 l1 l2) : ZipSep2 z TI TO i1 i2 [i1, l1] [i2, l2] where
  TIz := D.TIz
  TOz := D.TOz
  TITO := D.TITO
  TIi1 := D.TIi1
  mem1 := by simp
  zf1 := by simp [D.i1z.symm, D.l1z.symm]
  Tf1 := by simp [D.TOi1, D.l1TO.symm]
  TIi2 := D.TIi2
  mem2 := by simp
  zf2 := by simp [D.i2z.symm, D.l2z.symm]
  Tf2 := by simp [D.TOi2, D.l2TO.symm]
  sep1_2 := by simp [D.i12, D.l2i1.symm]
  sep2_1 := by simp [D.i12.symm, D.l1i2.symm]
theorem turn_zipM {P : Program} {w : World} {K : PySem.W.Frag} {elts : List Expr} {kk : Nat} {tpos : Pos} {t u : Bool} {a b z TI TO i1 i2 : Addr} (D : ZipApart z TI TO i1 i2 a b) :
    Turn P w K (.Tuple elts kk tpos) (ItzM t u K a b) [z, TI, TO, i1, i2] z (fun i h => IsZip h z TI TO .none ∧ IsPair h TI (.ref i1) (.ref i2) ∧ (∃ x y, IsPair h TO x y) ∧ isIt t h i1 a i ∧ isIt u h i2 b i) where
  mem := by simp
  obj := fun i h st c hc => by
    obtain ⟨s1, s2, ⟨x, y, s3⟩, ⟨o1, e1, _, d1⟩, ⟨o2, e2, _, d2⟩⟩ := st
    simp only [List.mem_cons, List.not_mem_nil, or_false] at hc
    rcases hc with rfl | rfl | rfl | rfl | rfl
    · exact ⟨_, s1, by intro v q; cases q⟩
    · exact ⟨_, s2, by intro v q; cases q⟩
    · exact ⟨_, s3, by intro v q; cases q⟩
    · exact ⟨o1, e1, by intro v q; rw [d1] at q; cases q⟩
    · exact ⟨o2, e2, by intro v q; rw [d2] at q; cases q⟩
  keep := fun i h h' st k => ⟨k z (by simp) _ st.1, k TI (by simp) _ st.2.1, (let ⟨x, y, e⟩ := st.2.2.1; ⟨x, y, k TO (by simp) _ e⟩), st.2.2.2.1.at (k i1 (by simp)), st.2.2.2.2.at (k i2 (by simp))⟩
  item := by
    intro X hP hw hK hc i pins s σ H E I hf ⟨s1, s2, ⟨x0, y0, s3⟩, s4, s5⟩ ⟨xs, ys, x, y, hqx, hqy, hx, hy⟩
    subst hP hw hK
    have hh : X.A.in1.handled = none := I.ok.hd hc
    obtain ⟨its, rv, p⟩ := sq_at I hqx
    obtain ⟨its2, rv2, p2⟩ := sq_at I hqy
    have l1 : i < its.toArray.size := by
      have := (List.getElem?_eq_some_iff.mp hx).1
      have := rv.length
      simp; omega
    have l2 : i < its2.toArray.size := by
      have := (List.getElem?_eq_some_iff.mp hy).1
      have := rv2.length
      simp; omega
    obtain ⟨w1, hw1, r1⟩ := rv.get hx
    obtain ⟨w2, hw2, r2⟩ := rv2.get hy
    have hzl : z < s.heap.objs.size := Heap.lt_size s1
    refine wpAny_pyNext_zipD2_item (ZipApart.sep D) (drw t hh D.l1i1 its.toArray) (drw u hh D.l2i2 its2.toArray) s1 s2 s3 ⟨s4, p⟩ ⟨s5, p2⟩ l1 l2 fun a1 a2 h' tk q1 q2 b1 b2 b3 b4 b5 b6 b7 => ?_
    have ea : a1 = w1 := by
      have : its.toArray[i]? = some w1 := by simpa using hw1
      rw [this] at q1
      cases q1
      rfl
    have eb : a2 = w2 := by
      have : its2.toArray[i]? = some w2 := by simpa using hw2
      rw [this] at q2
      cases q2
      rfl
    subst ea eb
    refine ⟨_, rfl, wpAny_letOwnedTupleGo_zip (s := { s with heap := h', toks := tk }) b1 fun h'' z'' sb => ?_⟩
    have hT2 : h''.get? s.heap.objs.size = some { cls := .type "tuple", data := .seq #[a1, a2] } := (sb.2 _ (Nat.ne_of_gt hzl)).trans b5
    have new : ObjOk X.prog X.w (upd H s.heap.objs.size (.tup [x, y])) h'' s.heap.objs.size (.tup [x, y]) :=
      ⟨by show 2 ≤ sizeLine; decide, [a1, a2], .cons r1 (.cons r2 .nil), ⟨_, hT2, rfl, _, rfl⟩⟩
    have I1 : Inv X pins σ (upd H s.heap.objs.size (.tup [x, y])) { s with heap := h'', toks := tk } := by
      refine I.turnedNew (t' := tk) (ch := [z, TI, TO, i1, i2]) (fun c o hb q => ?_) hf (Nat.le_refl _) new
      simp only [List.mem_cons, List.not_mem_nil, or_false, not_or] at hb
      exact (sb.2 c hb.1).trans (b7 c o hb.1 hb.2.2.1 hb.2.2.2.1 hb.2.2.2.2 q)
    refine ⟨.ref s.heap.objs.size, _, I1, rfl, ⟨_, x, y, rfl, I.hok.fresh (Nat.le_refl _), rfl, fun l hl => by rw [sq_inj I hl hqx]; exact hx, fun l hl => by rw [sq_inj I hl hqy]; exact hy⟩, ⟨z'', (sb.2 _ D.TIz).trans (b7 _ _ D.TIz D.TITO D.TIi1 D.TIi2 s2), ⟨a1, a2, (sb.2 _ D.TOz).trans b2⟩, b3.1.at fun o q => (sb.2 _ D.i1z).trans q, b4.1.at fun o q => (sb.2 _ D.i2z).trans q⟩, fun c hcm => ?_⟩
    have hlt : c < s.heap.objs.size := by
      simp only [List.mem_cons, List.not_mem_nil, or_false] at hcm
      rcases hcm with rfl | rfl | rfl | rfl | rfl
      · exact hzl
      · exact Heap.lt_size s2
      · exact Heap.lt_size s3
      · obtain ⟨_, e1, _⟩ := s4; exact Heap.lt_size e1
      · obtain ⟨_, e1, _⟩ := s5; exact Heap.lt_size e1
    rw [upd_ne (Nat.ne_of_lt hlt)]
    exact (hf c hcm).1
  done := by
    intro X hP hw hK hc i pins s σ H E I hf ⟨s1, s2, ⟨x0, y0, s3⟩, s4, s5⟩ ⟨xs, ys, hqx, hqy, hend⟩
    subst hP hw hK
    have hh : X.A.in1.handled = none := I.ok.hd hc
    obtain ⟨its, rv, p⟩ := sq_at I hqx
    obtain ⟨its2, rv2, p2⟩ := sq_at I hqy
    have l1 := rv.length
    have l2 := rv2.length
    refine wpAny_pyNext_zipD2_end (ZipApart.sep D) (drw t hh D.l1i1 its.toArray) (drw u hh D.l2i2 its2.toArray) s1 s2 s3 ⟨s4, p⟩ ⟨s5, p2⟩ (by simp; omega) (by simp; omega) (by simp; omega) fun h' tk hk => ⟨rfl, I.turnedL (t' := tk) (ch := [z, TI, TO, i1, i2]) (fun c o hb q => ?_) hf⟩
    simp only [List.mem_cons, List.not_mem_nil, or_false, not_or] at hb
    exact hk c o hb.1 hb.2.2.1 hb.2.2.2.1 hb.2.2.2.2 q
  self := fun A i s Q E st h => wpAny_pyIter_zip st.1 h
section
variable {prog : Program} {w : World} {A : Around} {E : Value → Shared → Prop} {s : Shared}
theorem pyIter_sq {t : Bool} {l : Addr} {items : Array Value} {Q : Value → Shared → Prop} (h : isSq t s.heap l items)
    (hQ : Q (.ref s.heap.objs.size) { s with heap := s.heap.push { cls := .type (clsI t), data := .fields #[.ref l, .int 0 0] } }) : wpAny (model prog w) A (pyIter (.ref l)) Q E s := by
  cases t with
  | true => exact wpAny_pyIter_tuple h hQ
  | false => exact wpAny_pyIter_list h hQ
end
abbrev mz1 (t : Bool) (h : Heap) (l1 : Addr) : Heap := h.push { cls := .type (clsI t), data := .fields #[.ref l1, .int 0 0] }
abbrev mz2 (t u : Bool) (h : Heap) (l1 l2 : Addr) : Heap := (mz1 t h l1).push { cls := .type (clsI u), data := .fields #[.ref l2, .int 0 0] }
abbrev mz3 (t u : Bool) (h : Heap) (l1 l2 : Addr) : Heap := (mz2 t u h l1 l2).push { cls := .type "tuple", data := .seq #[.ref h.objs.size, .ref (mz1 t h l1).objs.size] }
abbrev mz4 (t u : Bool) (h : Heap) (l1 l2 : Addr) : Heap := (mz3 t u h l1 l2).push { cls := .type "tuple", data := .seq #[.none, .none] }
abbrev mz5 (t u : Bool) (h : Heap) (l1 l2 : Addr) : Heap := (mz4 t u h l1 l2).push { cls := .type "zip", data := .fields #[.none, .bool false, .bool false, .ref (mz2 t u h l1 l2).objs.size, .ref (mz3 t u h l1 l2).objs.size] }
theorem meets_zipM (t u : Bool) (l1 l2 : Addr) (xs ys : Array Value) :
    Meets (Builtin.«zip.__new__» ⟨[.type "zip", .ref l1, .ref l2], []⟩) (fun _ R s => isSq t s.heap l1 xs ∧ isSq u s.heap l2 ys ∧ R (.ok (.ret (.ref (mz4 t u s.heap l1 l2).objs.size))) { s with heap := mz5 t u s.heap l1 l2 }) :=
  .of_wp fun prog w A R s h => by
    obtain ⟨hp, g, d, tk, os⟩ := s
    obtain ⟨q1, q2, h⟩ := h
    have hsub := sub_zip
    have k1 : isSq t (Shared.heap ⟨hp, g, d, tk, os⟩) l1 xs := q1
    have k2 : isSq u (Shared.heap ⟨hp.push { cls := .type (clsI t), data := .fields #[.ref l1, .int 0 0] }, g, d, tk, os⟩) l2 ys := q2.at fun o e => Heap.get?_push_of_some _ e
    wp_walk using pyIter_sq k1, pyIter_sq k2
    exact ⟨_, rfl, h⟩
theorem call_zipM {prog : Program} {w : World} {A : Around} {E : Value → Shared → Prop} {s : Shared} {t u : Bool} {l1 l2 : Addr} {xs ys : Array Value} {Q : Value → Shared → Prop} (q1 : isSq t s.heap l1 xs) (q2 : isSq u s.heap l2 ys)
    (h : ∀ h', IsZip h' (s.heap.objs.size + 4) (s.heap.objs.size + 2) (s.heap.objs.size + 3) .none → IsPair h' (s.heap.objs.size + 2) (.ref s.heap.objs.size) (.ref (s.heap.objs.size + 1)) →
      IsPair h' (s.heap.objs.size + 3) .none .none → isIt t h' s.heap.objs.size l1 0 → isIt u h' (s.heap.objs.size + 1) l2 0 → (∀ c o, s.heap.get? c = some o → h'.get? c = some o) → Q (.ref (s.heap.objs.size + 4)) { s with heap := h' }) :
    wpAny (model prog w) A (call (.type "zip") [.ref l1, .ref l2]) Q E s := by
  refine callType_new F.called_zip (by decide) (F.typeCall_zip_2 _ _) (F.newCall_zip_2 _ _) (fun obj => F.args_object_init_3 obj _ _) F.entry_zip_new (meets_zipM t u l1 l2 xs ys) ⟨q1, q2, ?_⟩
  have n1 : (mz1 t s.heap l1).objs.size = s.heap.objs.size + 1 := Heap.size_push ..
  have n2 : (mz2 t u s.heap l1 l2).objs.size = s.heap.objs.size + 2 := by rw [Heap.size_push, n1]
  have n3 : (mz3 t u s.heap l1 l2).objs.size = s.heap.objs.size + 3 := by rw [Heap.size_push, n2]
  have n4 : (mz4 t u s.heap l1 l2).objs.size = s.heap.objs.size + 4 := by rw [Heap.size_push, n3]
  have up : ∀ {h : Heap} {c : Addr} {o p : Obj}, h.get? c = some o → (h.push p).get? c = some o := fun e => Heap.get?_push_of_some _ e
  have e5 : (mz5 t u s.heap l1 l2).get? (mz4 t u s.heap l1 l2).objs.size = some _ := Heap.get?_push_size _ rfl
  have e4 : (mz5 t u s.heap l1 l2).get? (mz3 t u s.heap l1 l2).objs.size = some _ := up (Heap.get?_push_size _ rfl)
  have e3 : (mz5 t u s.heap l1 l2).get? (mz2 t u s.heap l1 l2).objs.size = some _ := up (up (Heap.get?_push_size _ rfl))
  have e2 : (mz5 t u s.heap l1 l2).get? (mz1 t s.heap l1).objs.size = some _ := up (up (up (Heap.get?_push_size _ rfl)))
  have e1 : (mz5 t u s.heap l1 l2).get? s.heap.objs.size = some _ := up (up (up (up (Heap.get?_push_size _ rfl))))
  show _ ∧ _
  rw [n2, n3, n4] at e5
  rw [n1, n2] at e3
  rw [n3] at e4
  rw [n1] at e2
  rw [n4]
  exact ⟨⟨_, e5, rfl⟩, h _ e5 e3 e4 ⟨_, e1, rfl, rfl⟩ ⟨_, e2, rfl, rfl⟩ fun c o x => up (up (up (up (up x))))⟩
def iZipM (K : PySem.W.Frag) (t u : Bool) (ta : TA) : L2.TI := fun σ H R => ta σ H fun vs H1 => ∃ a b xs ys, vs = [.ref a, .ref b] ∧ sq t K H1 a xs ∧ sq u K H1 b ys ∧ R (ItzM t u K a b) H1
theorem pi_zipM {X : Cx} {e e2 : Expr} {ta : TA} {p pos tpos : Pos} {elts : List Expr} {kk : Nat} {t u : Bool} (hg : Gl X "zip") (hm : X.mg "zip" = none) (ha : PA X [e, e2] ta)
    (hs : starEach [e, e2] X.env = (false, eval e X.env) :: starEach [e2] X.env) (hpl : (backTo pos (starEach [e2] X.env)).any (·.1) = false) :
    PI X (.Tuple elts kk tpos) (.Call (.Name "zip" p) [e, e2] [] pos) (iZipM X.K t u ta) := by
  refine ⟨fun pins s σ H R I h => ?_⟩
  refine Call_ (ld_blt I hg hm PyProof.Rows.boot_zip (PyProof.Rows.callWith_type1 (thn (ha.run pos pins s σ H _ I h) fun us s1 ⟨vs, H1, I1, r1, a, b, xs, ys, ex, q1, q2, q⟩ => ?_) hs hpl))
  subst ex
  cases r1 with
  | cons r rr =>
    cases rr with
    | cons r' rr =>
      cases rr
      cases r
      cases r'
      obtain ⟨its, rv, p1⟩ := sq_at I1 q1
      obtain ⟨its2, rv2, p2⟩ := sq_at I1 q2
      have g1 : a < s1.heap.objs.size := let ⟨_, e1, _⟩ := p1; Heap.lt_size e1
      have g2 : b < s1.heap.objs.size := let ⟨_, e1, _⟩ := p2; Heap.lt_size e1
      refine call_zipM p1 p2 fun h' y1 y2 y3 y4 y5 hk => wpAny_pyIter_zip y1 ?_
      refine ⟨s1.heap.objs.size + 4, [s1.heap.objs.size + 4, s1.heap.objs.size + 2, s1.heap.objs.size + 3, s1.heap.objs.size, s1.heap.objs.size + 1], _, _, H1, rfl, I1.kept (t' := s1.toks) hk, turn_zipM (PySem.W.ktu_apart s1.heap.objs.size a b g1 g2), ⟨y1, y2, ⟨_, _, y3⟩, y4, y5⟩, fun c hc => ?_, q⟩
      have hle : s1.heap.objs.size ≤ c := by
        simp only [List.mem_cons, List.not_mem_nil, or_false] at hc
        rcases hc with rfl | rfl | rfl | rfl | rfl <;> omega
      exact I1.fpOk hle (I1.hok.fresh hle)
section
variable {X : Cx} {env : Env} {e1 e2 tg : Expr} {ps qs : List P} {m t u : Bool} {pos p1 : Pos}
theorem its_zipM {K : PySem.W.Frag} {R : Hp → Hp → Prop} {a b : Addr} {vs ws : List V} (r : ∀ B H, R B H → Ext B H → sq t K H a vs ∧ RPs K B vs ps ∧ sq u K H b ws ∧ RPs K B ws qs) : ItS K (ItzM t u K a b) (zipP ps qs) R where
  go := fun i B H hR e hi => by
    obtain ⟨h1, h2, h3, h4⟩ := r B H hR e
    rw [zip_len, ← h2.len, ← h4.len] at hi
    exact ⟨vs, ws, _, _, h1, h3, List.getElem?_eq_getElem (by omega), List.getElem?_eq_getElem (by omega)⟩
  yld := fun i B H x H' p hR e hp hy => by
    obtain ⟨h1, h2, h3, h4⟩ := r B H hR e
    obtain ⟨T, y, z, rfl, hT, rfl, k1, k2⟩ := hy
    obtain ⟨p1, e1, r1⟩ := h2.getV (k1 _ h1)
    obtain ⟨p2, e2, r2⟩ := h4.getV (k2 _ h3)
    have ep : p = .tuple [p1, p2] := by
      unfold zipP at hp
      rw [List.getElem?_zipWith, e1, e2] at hp
      cases hp
      rfl
    subst ep
    have s := Stp.layB (o := .tup [y, z]) e hT
    exact ⟨_, s, .tup (.of upd_same) (.cons (r1.stp s) (.cons (r2.stp s) .nil))⟩
  stop := fun i B H hR e hi => by
    obtain ⟨h1, h2, h3, h4⟩ := r B H hR e
    rw [zip_len, ← h2.len, ← h4.len] at hi
    exact ⟨vs, ws, h1, h3, by omega⟩
theorem snm_zipM {es : List Expr} {k : Nat} {tp : Pos} (hg : Gl X "zip") (hm : X.mg "zip" = none) (hn : nst e1 = true) (hn2 : nst e2 = true) (h : SndS m t X env e1 ps) (h2 : SndS m u X env e2 qs) :
    SndM m X env (.Tuple es k tp) (.Call (.Name "zip" p1) [e1, e2] [] pos) (zipP ps qs) := fun _ _ _ _ _ w re q =>
  ⟨_, pi_zipM hg hm wA_ok (star_cons hn) (star_any (by simp [hn2])), wA_two hn hn2 (h w re fun v B1 H1 s a1 => h2 (w.stp s re.has) (re.stp s) fun v2 B2 H2 s2 ⟨b, ws, eb, k1, _, k2⟩ => by
    obtain ⟨a, vs, ea, j1, _, j2⟩ := a1.stp s2
    refine ⟨a, b, vs, ws, by rw [ea, eb], j1, k1, q _ B2 H2 (s.trans s2) (its_zipM (vs := vs) (ws := ws) fun B H c e => ?_)⟩
    obtain ⟨x1, x2⟩ := j2 B H c e
    obtain ⟨x3, x4⟩ := k2 B H c e
    exact ⟨x1, x2, x3, x4⟩)⟩
end
end G

set_option maxRecDepth 100000
set_option maxHeartbeats 1000000
/-! enumerate of a tuple -/
namespace G
open PySem PyProof PyProof.Rows L2
def IteT (K : PySem.W.Frag) (a : Addr) : L2.It :=
  ⟨fun i H => ∃ (xs : List V) (x : V), SqT K H a xs ∧ xs[i]? = some x, fun i H v H' => ∃ T x, v = .ref T ∧ H T = none ∧ H' = upd H T (.tup [.int (i : Nat), x]) ∧ ∀ xs, SqT K H a xs → xs[i]? = some x, fun i H => ∃ xs : List V, SqT K H a xs ∧ xs.length = i⟩
theorem turn_enumT {P : Program} {w : World} {K : PySem.W.Frag} {elts : List Expr} {kk : Nat} {tpos : Pos} (a e it : Addr) (hei : e ≠ it) (hea : e ≠ a) (hai : a ≠ it) :
    Turn P w K (.Tuple elts kk tpos) (IteT K a) [e, it] e (fun i h => (∃ old, IsEnum h e it ((i : Nat) : Int) old) ∧ isIt true h it a i) where
  mem := by simp
  obj := fun i h st b hb => by
    obtain ⟨⟨old, he⟩, ⟨o, ho, hc, hd⟩⟩ := st
    have e' : b = e ∨ b = it := by simpa using hb
    rcases e' with z | z
    · rw [z]; exact ⟨_, he, fun v q => nomatch q⟩
    · rw [z]; exact ⟨o, ho, fun v q => by rw [hd] at q; cases q⟩
  keep := fun i h h' st k => let ⟨⟨old, he⟩, hi⟩ := st; ⟨⟨old, k e (by simp) _ he⟩, hi.at fun o q => k it (by simp) o q⟩
  item := by
    intro X hP hw hK hc i pins s σ H E I hf st hg
    subst hP hw hK
    obtain ⟨⟨old, he⟩, hit⟩ := st
    obtain ⟨xs, x, hq, hx⟩ := hg
    have hh : X.A.in1.handled = none := I.ok.hd hc
    obtain ⟨its, rv, p⟩ := sq_at (t := true) I hq
    obtain ⟨u, hu, ru⟩ := rv.get hx
    have hel : e < s.heap.objs.size := Heap.lt_size he
    have hil : it < s.heap.objs.size := by obtain ⟨_, q, _⟩ := hit; exact Heap.lt_size q
    have l1 : i < its.toArray.size := by
      have := (List.getElem?_eq_some_iff.mp hx).1
      have := rv.length
      simp; omega
    refine wpAny_pyNext_enum_itemD (drw true hh hai its.toArray) he ⟨hit, p⟩ l1 hei (by simp [hei, hea]) fun a1 h' tk q1 ho hit' hT hsz hk => ?_
    have ea : a1 = u := by
      have : its.toArray[i]? = some u := by simpa using hu
      rw [this] at q1
      cases q1
      rfl
    subst ea
    refine ⟨_, rfl, wpAny_letOwnedTupleGo_enum (s := { s with heap := h', toks := tk + 1 }) ho fun h'' he' sb => ?_⟩
    have hT2 : h''.get? s.heap.objs.size = some { cls := .type "tuple", data := .seq #[.int i tk, a1] } := (sb.2 _ (Nat.ne_of_gt hel)).trans hT
    have new : ObjOk X.prog X.w (upd H s.heap.objs.size (.tup [.int (i : Nat), x])) h'' s.heap.objs.size (.tup [.int (i : Nat), x]) :=
      ⟨by show 2 ≤ sizeLine; decide, [.int i tk, a1], .cons ⟨_, rfl⟩ (.cons ru .nil), ⟨_, hT2, rfl, _, rfl⟩⟩
    have I1 : Inv X pins σ (upd H s.heap.objs.size (.tup [.int (i : Nat), x])) { s with heap := h'', toks := tk + 1 } :=
      I.turnedNew (t' := tk + 1) (ch := [e, it]) (fun b ob hb q => (sb.2 b (fun z => hb (by simp [z]))).trans (hk b ob (fun z => hb (by simp [z])) (fun z => hb (by simp [z])) q)) hf (Nat.le_refl _) new
    refine ⟨.ref s.heap.objs.size, _, I1, rfl, ⟨_, x, rfl, I.hok.fresh (Nat.le_refl _), rfl, fun ys hy => by rw [I.tuple_inj hy hq]; exact hx⟩, ⟨⟨a1, ?_⟩, hit'.1.at fun o q => (sb.2 it (Ne.symm hei)).trans q⟩, fun b hb => ?_⟩
    · have e1 : ((i + 1 : Nat) : Int) = (i : Int) + 1 := by omega
      rw [e1]; exact he'
    · have hb' : b < s.heap.objs.size := by
        have e' : b = e ∨ b = it := by simpa using hb
        rcases e' with z | z
        · rw [z]; exact hel
        · rw [z]; exact hil
      rw [upd_ne (Nat.ne_of_lt hb')]
      exact (hf b hb).1
  done := by
    intro X hP hw hK hc i pins s σ H E I hf st hg
    subst hP hw hK
    obtain ⟨⟨old, he⟩, hit⟩ := st
    obtain ⟨xs, hq, hx⟩ := hg
    have hh : X.A.in1.handled = none := I.ok.hd hc
    obtain ⟨its, rv, p⟩ := sq_at (t := true) I hq
    obtain ⟨f0, f1, f2, f3, f4, f5⟩ := hf it (by simp)
    have hl := rv.length
    have ez : i = its.toArray.size := by simp; omega
    subst ez
    exact wpAny_pyNext_enum_endD (drw true hh hai its.toArray) he ⟨hit, p⟩ fun h' eb => ⟨rfl, I.turned (t' := s.toks) (fun b o hb q => eb b o hb q) f0 f1 f3 f4 f5⟩
  self := fun A i s Q E st h => let ⟨⟨_, he⟩, _⟩ := st; wpAny_pyIter_enum he h
theorem meets_enumT (l : Addr) (items : Array Value) (n : Nat) (dct : Option Addr) (sl : Array (Option Value)) :
    Meets (Builtin.«enumerate.__new__» ⟨[.type "enumerate", .ref l], []⟩) (fun _ R s => s.heap.get? l = some { cls := .type "tuple", dict := dct, data := .seq items n, slots := sl } ∧
      R (.ok (.ret (.ref (s.heap.push { cls := .type "tuple_iterator", data := .fields #[.ref l, .int 0 0] }).objs.size)))
        { s with heap := (s.heap.push { cls := .type "tuple_iterator", data := .fields #[.ref l, .int 0 0] }).push { cls := .type "enumerate", data := .fields #[.none, .bool false, .ref s.heap.objs.size, rawInt 0, .none, .none] } }) :=
  .of_wp fun prog w A R s h => by
    obtain ⟨hp, g, d, tk, os⟩ := s; obtain ⟨hl, h⟩ := h
    have hsub := sub_enumerate
    have hL : Heap.IsTuple (Shared.heap ⟨hp, g, d, tk, os⟩) l items := ⟨_, hl, rfl, n, rfl⟩
    wp_walk using AutoSeq1.wpAny_loadPart' hl
    refine wpAny_stack_any fun st => wpAny_pure ?_
    split
    · rename_i c _ _ _ _ _
      cases (c == Value.type "enumerate")
      · wp_walk using AutoSeq1.wpAny_loadPart' hl, wpAny_pyIter_tuple hL
        exact ⟨_, rfl, h⟩
      · wp_walk using AutoSeq1.wpAny_loadPart' hl, wpAny_pyIter_tuple hL
        exact ⟨_, rfl, h⟩
    · wp_walk using AutoSeq1.wpAny_loadPart' hl, wpAny_pyIter_tuple hL
      exact ⟨_, rfl, h⟩
theorem call_enumT {prog : Program} {w : World} {A : Around} {E : Value → Shared → Prop} {s : Shared} {l : Addr} {items : Array Value} {Q : Value → Shared → Prop} (hL : isSq true s.heap l items)
    (h : ∀ h', IsEnum h' (s.heap.objs.size + 1) s.heap.objs.size 0 .none → isIt true h' s.heap.objs.size l 0 → h'.objs.size = s.heap.objs.size + 2 →
      (∀ b o, s.heap.get? b = some o → h'.get? b = some o) → Q (.ref (s.heap.objs.size + 1)) { s with heap := h' }) :
    wpAny (model prog w) A (call (.type "enumerate") [.ref l]) Q E s := by
  obtain ⟨⟨c, dct, dt, sl⟩, hl, hc, n, hd⟩ := hL
  replace hc : c = .type "tuple" := hc
  replace hd : dt = .seq items n := hd
  subst hc hd
  refine callType_new F.called_enumerate (by decide) (F.typeCall_enumerate_1 _) (F.newCall_enumerate_1 _) (fun obj => F.args_object_init_2 obj _) F.entry_enumerate_new
    (meets_enumT l items n dct sl) ⟨hl, ?_⟩
  have hz : (s.heap.push { cls := .type "tuple_iterator", data := .fields #[.ref l, .int 0 0] }).objs.size = s.heap.objs.size + 1 := Heap.size_push ..
  show _ ∧ _
  rw [hz]
  have he : IsEnum ((s.heap.push { cls := .type "tuple_iterator", data := .fields #[.ref l, .int 0 0] }).push
      { cls := .type "enumerate", data := .fields #[.none, .bool false, .ref s.heap.objs.size, rawInt 0, .none, .none] }) (s.heap.objs.size + 1) s.heap.objs.size 0 .none := by
    have := Heap.get?_push_size (s.heap.push { cls := .type "tuple_iterator", data := .fields #[.ref l, .int 0 0] })
      (o := { cls := .type "enumerate", data := .fields #[.none, .bool false, .ref s.heap.objs.size, rawInt 0, .none, .none] }) rfl
    rw [hz] at this; exact this
  refine ⟨⟨_, he, rfl⟩, h _ he ⟨_, Heap.get?_push_of_some _ (Heap.get?_push_size _ rfl), rfl, rfl⟩ (by rw [Heap.size_push, hz]) fun b o x => Heap.get?_push_of_some _ (Heap.get?_push_of_some _ x)⟩
def iEnumT (K : PySem.W.Frag) (ta : TA) : L2.TI := fun σ H R => ta σ H fun vs H1 => ∃ a xs, vs = [.ref a] ∧ SqT K H1 a xs ∧ R (IteT K a) H1
theorem pi_enumT {X : Cx} {e : Expr} {ta : TA} {p pos tpos : Pos} {elts : List Expr} {kk : Nat} (hg : Gl X "enumerate") (hm : X.mg "enumerate" = none) (ha : PA X [e] ta) (hs : starEach [e] X.env = [(false, eval e X.env)] := by rfl) :
    PI X (.Tuple elts kk tpos) (.Call (.Name "enumerate" p) [e] [] pos) (iEnumT X.K ta) := by
  refine ⟨fun pins s σ H R I h => ?_⟩
  refine Call_ (ld_blt I hg hm boot_enumerate (PyProof.Rows.callWith_type1 (thn (ha.run pos pins s σ H _ I h) fun us s1 ⟨vs, H1, I1, r1, q1⟩ => ?_) hs rfl))
  obtain ⟨a, xs, ex, hq, q⟩ := q1
  subst ex
  cases r1 with
  | cons r rr =>
    cases rr
    cases r
    obtain ⟨its, rv, p'⟩ := sq_at (t := true) I1 hq
    have ga : a < s1.heap.objs.size := let ⟨_, e1, _⟩ := p'; Heap.lt_size e1
    refine call_enumT p' fun h' he hit hsz hk => wpAny_pyIter_enum he ?_
    have I2 : Inv X pins σ H1 { s1 with heap := h' } := I1.kept (t' := s1.toks) hk
    refine ⟨s1.heap.objs.size + 1, [s1.heap.objs.size + 1, s1.heap.objs.size], _, _, H1, rfl, I2, turn_enumT a (s1.heap.objs.size + 1) s1.heap.objs.size (Nat.succ_ne_self _) (Nat.ne_of_gt (Nat.lt_succ_of_lt ga)) (Nat.ne_of_lt ga), ⟨⟨.none, he⟩, hit⟩, fun b hb => ?_, q⟩
    have e' : b = s1.heap.objs.size + 1 ∨ b = s1.heap.objs.size := by simpa using hb
    have hle : s1.heap.objs.size ≤ b := by
      rcases e' with z | z
      · rw [z]; exact Nat.le_add_right _ _
      · rw [z]; exact Nat.le_refl _
    exact I1.fpOk hle (I1.hok.fresh hle)
theorem its_enumT {K : PySem.W.Frag} {R : Hp → Hp → Prop} {a : Addr} {vs : List V} {ps : List P} (r : ∀ B H, R B H → Ext B H → SqT K H a vs ∧ RPs K B vs ps) : ItS K (IteT K a) (enumP ps) R where
  go := fun i B H hR e hi => by
    obtain ⟨h1, h2⟩ := r B H hR e
    unfold enumP at hi
    rw [List.length_map, List.length_zipIdx, ← h2.len] at hi
    exact ⟨vs, vs[i], h1, List.getElem?_eq_getElem hi⟩
  yld := fun i B H x H' p hR e hp hy => by
    obtain ⟨T, y, rfl, hT, rfl, hy⟩ := hy
    obtain ⟨h1, h2⟩ := r B _ hR e
    unfold enumP at hp
    rw [List.getElem?_map, List.getElem?_zipIdx] at hp
    cases z : ps[i]? with
    | none => rw [z] at hp; cases hp
    | some q =>
      rw [z] at hp
      have hp : some (PyData.tuple [.int ((0 + i : Nat) : Int), q]) = some p := hp
      rw [Nat.zero_add] at hp
      cases hp
      obtain ⟨p1, e1, r1⟩ := h2.getV (hy _ h1)
      rw [z] at e1
      cases e1
      have s := Stp.layB (o := .tup [.int (i : Nat), y]) e hT
      exact ⟨_, s, .tup (.of upd_same) (.cons .int (.cons (r1.stp s) .nil))⟩
  stop := fun i B H hR e hi => by
    obtain ⟨h1, h2⟩ := r B H hR e
    unfold enumP at hi
    rw [List.length_map, List.length_zipIdx, ← h2.len] at hi
    exact ⟨vs, h1, hi.symm⟩
section
variable {X : Cx} {env : Env} {e1 : Expr} {ps : List P} {m : Bool} {pos p1 : Pos}
theorem snm_enumT {es : List Expr} {k : Nat} {tp : Pos} (hg : Gl X "enumerate") (hm : X.mg "enumerate" = none) (hn : nst e1 = true) (h : SndS m true X env e1 ps) : SndM m X env (.Tuple es k tp) (.Call (.Name "enumerate" p1) [e1] [] pos) (enumP ps) := fun _ _ _ _ _ w re q =>
  ⟨_, pi_enumT hg hm wA_ok (star_cons hn), wA_one hn (h w re fun v B1 H1 s ⟨a, vs, e, h1, _, h2⟩ => ⟨a, vs, by rw [e], h1, q _ B1 H1 s (its_enumT h2)⟩)⟩
end
end G

set_option maxRecDepth 100000
set_option maxHeartbeats 1000000
/-! zip of three lists -/
namespace G
open PySem PyProof PyProof.Rows L2
/-- the three as they stand at each turn -/
def Itz3 (K : PySem.W.Frag) (a b d : Addr) : L2.It :=
  ⟨fun i H => ∃ (xs ys zs : List V) (x y z : V), SqL K H a xs ∧ SqL K H b ys ∧ SqL K H d zs ∧ xs[i]? = some x ∧ ys[i]? = some y ∧ zs[i]? = some z,
    fun i H v H' => ∃ T x y z, v = .ref T ∧ H T = none ∧ H' = upd H T (.tup [x, y, z]) ∧ (∀ xs, SqL K H a xs → xs[i]? = some x) ∧ (∀ ys, SqL K H b ys → ys[i]? = some y) ∧ ∀ zs, SqL K H d zs → zs[i]? = some z,
    fun i H => ∃ xs ys zs : List V, SqL K H a xs ∧ SqL K H b ys ∧ SqL K H d zs ∧ i ≤ xs.length ∧ i ≤ ys.length ∧ i ≤ zs.length ∧ (i = xs.length ∨ i = ys.length ∨ i = zs.length)⟩
theorem turn_zip3 {P : Program} {w : World} {K : PySem.W.Frag} {elts : List Expr} {kk : Nat} {tpos : Pos} {a b d z TI TO i1 i2 i3 : Addr} (D : ZipSep3 z TI TO i1 i2 i3 [i1, a] [i2, b] [i3, d]) (ha : a ≠ i1) (hb : b ≠ i2) (hd : d ≠ i3) :
    Turn P w K (.Tuple elts kk tpos) (Itz3 K a b d) [z, TI, TO, i1, i2, i3] z (fun i h => IsZip h z TI TO .none ∧ IsTupOf3 h TI (.ref i1) (.ref i2) (.ref i3) ∧ (∃ x y u, IsTupOf3 h TO x y u) ∧ isIt false h i1 a i ∧ isIt false h i2 b i ∧ isIt false h i3 d i) where
  mem := by simp
  obj := fun i h st c hc => by
    obtain ⟨s1, s2, ⟨x, y, u, s3⟩, ⟨o1, e1, _, d1⟩, ⟨o2, e2, _, d2⟩, ⟨o3, e3, _, d3⟩⟩ := st
    simp only [List.mem_cons, List.not_mem_nil, or_false] at hc
    rcases hc with rfl | rfl | rfl | rfl | rfl | rfl
    · exact ⟨_, s1, by intro v q; cases q⟩
    · exact ⟨_, s2, by intro v q; cases q⟩
    · exact ⟨_, s3, by intro v q; cases q⟩
    · exact ⟨o1, e1, by intro v q; rw [d1] at q; cases q⟩
    · exact ⟨o2, e2, by intro v q; rw [d2] at q; cases q⟩
    · exact ⟨o3, e3, by intro v q; rw [d3] at q; cases q⟩
  keep := fun i h h' st k => ⟨k z (by simp) _ st.1, k TI (by simp) _ st.2.1, (let ⟨x, y, u, e⟩ := st.2.2.1; ⟨x, y, u, k TO (by simp) _ e⟩), st.2.2.2.1.at (k i1 (by simp)), st.2.2.2.2.1.at (k i2 (by simp)), st.2.2.2.2.2.at (k i3 (by simp))⟩
  item := by
    intro X hP hw hK hc i pins s σ H E I hf ⟨s1, s2, ⟨x0, y0, u0, s3⟩, s4, s5, s6⟩ ⟨xs, ys, zs, x, y, zz, hqx, hqy, hqz, hx, hy, hz⟩
    subst hP hw hK
    have hh : X.A.in1.handled = none := I.ok.hd hc
    obtain ⟨its, rv, p⟩ := sq_at (t := false) I hqx
    obtain ⟨its2, rv2, p2⟩ := sq_at (t := false) I hqy
    obtain ⟨its3, rv3, p3⟩ := sq_at (t := false) I hqz
    have l1 : i < its.toArray.size := by
      have := (List.getElem?_eq_some_iff.mp hx).1
      have := rv.length
      simp; omega
    have l2 : i < its2.toArray.size := by
      have := (List.getElem?_eq_some_iff.mp hy).1
      have := rv2.length
      simp; omega
    have l3 : i < its3.toArray.size := by
      have := (List.getElem?_eq_some_iff.mp hz).1
      have := rv3.length
      simp; omega
    obtain ⟨w1, hw1, r1⟩ := rv.get hx
    obtain ⟨w2, hw2, r2⟩ := rv2.get hy
    obtain ⟨w3, hw3, r3⟩ := rv3.get hz
    have hzl : z < s.heap.objs.size := Heap.lt_size s1
    refine wpAny_pyNext_zipD3_item D (drw false hh ha its.toArray) (drw false hh hb its2.toArray) (drw false hh hd its3.toArray) s1 s2 s3 ⟨s4, p⟩ ⟨s5, p2⟩ ⟨s6, p3⟩ l1 l2 l3 fun a1 a2 a3 h' tk q1 q2 q3 b1 b2 b3 b4 b4' b5 b6 b7 => ?_
    have ea : a1 = w1 := by
      have : its.toArray[i]? = some w1 := by simpa using hw1
      rw [this] at q1
      cases q1
      rfl
    have eb : a2 = w2 := by
      have : its2.toArray[i]? = some w2 := by simpa using hw2
      rw [this] at q2
      cases q2
      rfl
    have ed : a3 = w3 := by
      have : its3.toArray[i]? = some w3 := by simpa using hw3
      rw [this] at q3
      cases q3
      rfl
    subst ea eb ed
    refine ⟨_, rfl, wpAny_letOwnedTupleGo_zip (s := { s with heap := h', toks := tk }) b1 fun h'' z'' sb => ?_⟩
    have hT2 : h''.get? s.heap.objs.size = some { cls := .type "tuple", data := .seq #[a1, a2, a3] } := (sb.2 _ (Nat.ne_of_gt hzl)).trans b5
    have new : ObjOk X.prog X.w (upd H s.heap.objs.size (.tup [x, y, zz])) h'' s.heap.objs.size (.tup [x, y, zz]) :=
      ⟨by show 3 ≤ sizeLine; decide, [a1, a2, a3], .cons r1 (.cons r2 (.cons r3 .nil)), ⟨_, hT2, rfl, _, rfl⟩⟩
    have I1 : Inv X pins σ (upd H s.heap.objs.size (.tup [x, y, zz])) { s with heap := h'', toks := tk } := by
      refine I.turnedNew (t' := tk) (ch := [z, TI, TO, i1, i2, i3]) (fun c o hb q => ?_) hf (Nat.le_refl _) new
      simp only [List.mem_cons, List.not_mem_nil, or_false, not_or] at hb
      exact (sb.2 c hb.1).trans (b7 c o hb.1 hb.2.2.1 hb.2.2.2.1 hb.2.2.2.2.1 hb.2.2.2.2.2 q)
    refine ⟨.ref s.heap.objs.size, _, I1, rfl, ⟨_, x, y, zz, rfl, I.hok.fresh (Nat.le_refl _), rfl, fun l hl => by rw [I.list_inj hl hqx]; exact hx, fun l hl => by rw [I.list_inj hl hqy]; exact hy, fun l hl => by rw [I.list_inj hl hqz]; exact hz⟩, ⟨z'', (sb.2 _ D.TIz).trans (b7 _ _ D.TIz D.TITO D.TIi1 D.TIi2 D.TIi3 s2), ⟨a1, a2, a3, (sb.2 _ D.TOz).trans b2⟩, b3.1.at fun o q => (sb.2 _ D.zi1.symm).trans q, b4.1.at fun o q => (sb.2 _ D.zi2.symm).trans q, b4'.1.at fun o q => (sb.2 _ D.zi3.symm).trans q⟩, fun c hcm => ?_⟩
    have hlt : c < s.heap.objs.size := by
      simp only [List.mem_cons, List.not_mem_nil, or_false] at hcm
      rcases hcm with rfl | rfl | rfl | rfl | rfl | rfl
      · exact hzl
      · exact Heap.lt_size s2
      · exact Heap.lt_size s3
      · obtain ⟨_, e1, _⟩ := s4; exact Heap.lt_size e1
      · obtain ⟨_, e1, _⟩ := s5; exact Heap.lt_size e1
      · obtain ⟨_, e1, _⟩ := s6; exact Heap.lt_size e1
    rw [upd_ne (Nat.ne_of_lt hlt)]
    exact (hf c hcm).1
  done := by
    intro X hP hw hK hc i pins s σ H E I hf ⟨s1, s2, ⟨x0, y0, u0, s3⟩, s4, s5, s6⟩ ⟨xs, ys, zs, hqx, hqy, hqz, n1, n2, n3, hend⟩
    subst hP hw hK
    have hh : X.A.in1.handled = none := I.ok.hd hc
    obtain ⟨its, rv, p⟩ := sq_at (t := false) I hqx
    obtain ⟨its2, rv2, p2⟩ := sq_at (t := false) I hqy
    obtain ⟨its3, rv3, p3⟩ := sq_at (t := false) I hqz
    have l1 := rv.length
    have l2 := rv2.length
    have l3 := rv3.length
    refine wpAny_pyNext_zipD3_end D (drw false hh ha its.toArray) (drw false hh hb its2.toArray) (drw false hh hd its3.toArray) s1 s2 s3 ⟨s4, p⟩ ⟨s5, p2⟩ ⟨s6, p3⟩ (by simp; omega) (by simp; omega) (by simp; omega) (by simp; omega) fun h' tk hk => ⟨rfl, I.turnedL (t' := tk) (ch := [z, TI, TO, i1, i2, i3]) (fun c o hb q => ?_) hf⟩
    simp only [List.mem_cons, List.not_mem_nil, or_false, not_or] at hb
    exact hk c o hb.1 hb.2.2.1 hb.2.2.2.1 hb.2.2.2.2.1 hb.2.2.2.2.2 q
  self := fun A i s Q E st h => wpAny_pyIter_zip st.1 h
theorem sep3 (n a b d : Nat) (h1 : a < n) (h2 : b < n) (h3 : d < n) : ZipSep3 (n + 5) (n + 3) (n + 4) n (n + 1) (n + 2) [n, a] [n + 1, b] [n + 2, d] := by
  have a1 : a ≠ n := by omega
  have a2 : a ≠ n + 1 := by omega
  have a3 : a ≠ n + 2 := by omega
  have a4 : a ≠ n + 4 := by omega
  have a5 : a ≠ n + 5 := by omega
  have b1 : b ≠ n := by omega
  have b2 : b ≠ n + 1 := by omega
  have b3 : b ≠ n + 2 := by omega
  have b4 : b ≠ n + 4 := by omega
  have b5 : b ≠ n + 5 := by omega
  have d1 : d ≠ n := by omega
  have d2 : d ≠ n + 1 := by omega
  have d3 : d ≠ n + 2 := by omega
  have d4 : d ≠ n + 4 := by omega
  have d5 : d ≠ n + 5 := by omega
  constructor <;> simp [a1.symm, a2.symm, a3.symm, a4.symm, a5.symm, b1.symm, b2.symm, b3.symm, b4.symm, b5.symm, d1.symm, d2.symm, d3.symm, d4.symm, d5.symm]
def iZip3 (K : PySem.W.Frag) (ta : TA) : L2.TI := fun σ H R => ta σ H fun vs H1 => ∃ a b d xs ys zs, vs = [.ref a, .ref b, .ref d] ∧ SqL K H1 a xs ∧ SqL K H1 b ys ∧ SqL K H1 d zs ∧ R (Itz3 K a b d) H1
theorem pi_zip3 {X : Cx} {e e2 e3 : Expr} {ta : TA} {p pos tpos : Pos} {elts : List Expr} {kk : Nat} (hg : Gl X "zip") (hm : X.mg "zip" = none) (ha : PA X [e, e2, e3] ta)
    (hs : starEach [e, e2, e3] X.env = (false, eval e X.env) :: starEach [e2, e3] X.env) (hpl : (backTo pos (starEach [e2, e3] X.env)).any (·.1) = false) :
    PI X (.Tuple elts kk tpos) (.Call (.Name "zip" p) [e, e2, e3] [] pos) (iZip3 X.K ta) := by
  refine ⟨fun pins s σ H R I h => ?_⟩
  refine Call_ (ld_blt I hg hm PyProof.Rows.boot_zip (PyProof.Rows.callWith_type1 (thn (ha.run pos pins s σ H _ I h) fun us s1 ⟨vs, H1, I1, r1, a, b, d, xs, ys, zs, ex, q1, q2, q3, q⟩ => ?_) hs hpl))
  subst ex
  cases r1 with
  | cons r rr =>
    cases rr with
    | cons r' rr =>
      cases rr with
      | cons r'' rr =>
        cases rr
        cases r
        cases r'
        cases r''
        obtain ⟨its, rv, p1⟩ := sq_at (t := false) I1 q1
        obtain ⟨its2, rv2, p2⟩ := sq_at (t := false) I1 q2
        obtain ⟨its3, rv3, p3⟩ := sq_at (t := false) I1 q3
        have g1 : a < s1.heap.objs.size := let ⟨_, e1, _⟩ := p1; Heap.lt_size e1
        have g2 : b < s1.heap.objs.size := let ⟨_, e1, _⟩ := p2; Heap.lt_size e1
        have g3 : d < s1.heap.objs.size := let ⟨_, e1, _⟩ := p3; Heap.lt_size e1
        refine zip_begins3 (begins_list a its.toArray) (begins_list b its2.toArray) (begins_list d its3.toArray) p1 p2 p3 fun h' y1 y2 y3 y4 y5 y6 y7 hk => wpAny_pyIter_zip y1 ?_
        generalize hn : s1.heap.objs.size = n at *
        have S : ZipSep3 (n + 5) (n + 3) (n + 4) n (n + 1) (n + 2) [n, a] [n + 1, b] [n + 2, d] := sep3 n a b d g1 g2 g3
        refine ⟨n + 5, [n + 5, n + 3, n + 4, n, n + 1, n + 2], _, _, H1, rfl, I1.kept (t' := s1.toks) hk, turn_zip3 S (Nat.ne_of_lt g1) (Nat.ne_of_lt (Nat.lt_succ_of_lt g2)) (Nat.ne_of_lt (Nat.lt_succ_of_lt (Nat.lt_succ_of_lt g3))), ⟨y1, y2, ⟨_, _, _, y3⟩, ⟨_, y4, rfl, rfl⟩, ⟨_, y5, rfl, rfl⟩, ⟨_, y6, rfl, rfl⟩⟩, fun c hc => ?_, q⟩
        have hle : s1.heap.objs.size ≤ c := by
          rw [hn]
          simp only [List.mem_cons, List.not_mem_nil, or_false] at hc
          rcases hc with rfl | rfl | rfl | rfl | rfl | rfl
          · exact Nat.le_add_right _ _
          · exact Nat.le_add_right _ _
          · exact Nat.le_add_right _ _
          · exact Nat.le_refl _
          · exact Nat.le_add_right _ _
          · exact Nat.le_add_right _ _
        exact I1.fpOk hle (I1.hok.fresh hle)
section
variable {X : Cx} {env : Env} {e1 e2 e3 tg : Expr} {ps qs rs : List P} {m : Bool} {pos p1 : Pos}
theorem zip3_get {i : Nat} {p : P} (h : (zip3P ps qs rs)[i]? = some p) : ∃ x y z, ps[i]? = some x ∧ qs[i]? = some y ∧ rs[i]? = some z ∧ p = .tuple [x, y, z] := by
  unfold zip3P at h
  rw [List.getElem?_zipWith] at h
  cases h1 : (ps.zip qs)[i]? with
  | none => rw [h1] at h; cases h
  | some u =>
    rw [h1] at h
    obtain ⟨x, y⟩ := u
    rw [List.getElem?_zip_eq_some] at h1
    cases h2 : rs[i]? with
    | none => rw [h2] at h; cases h
    | some z =>
      rw [h2] at h
      cases h
      exact ⟨x, y, z, h1.1, h1.2, rfl, rfl⟩
theorem zip3_len (ps qs rs : List P) : (zip3P ps qs rs).length = min (min ps.length qs.length) rs.length := by
  unfold zip3P
  rw [List.length_zipWith, List.length_zip]
theorem its_zip3 {K : PySem.W.Frag} {R : Hp → Hp → Prop} {a b d : Addr} {vs ws us : List V} (r : ∀ B H, R B H → Ext B H → (SqL K H a vs ∧ RPs K B vs ps) ∧ (SqL K H b ws ∧ RPs K B ws qs) ∧ SqL K H d us ∧ RPs K B us rs) : ItS K (Itz3 K a b d) (zip3P ps qs rs) R where
  go := fun i B H hR e hi => by
    obtain ⟨⟨h1, h2⟩, ⟨h3, h4⟩, h5, h6⟩ := r B H hR e
    rw [zip3_len, ← h2.len, ← h4.len, ← h6.len] at hi
    exact ⟨vs, ws, us, _, _, _, h1, h3, h5, List.getElem?_eq_getElem (by omega), List.getElem?_eq_getElem (by omega), List.getElem?_eq_getElem (by omega)⟩
  yld := fun i B H x H' p hR e hp hy => by
    obtain ⟨⟨h1, h2⟩, ⟨h3, h4⟩, h5, h6⟩ := r B H hR e
    obtain ⟨T, y, z, u, rfl, hT, rfl, k1, k2, k3⟩ := hy
    obtain ⟨p1, e1, r1⟩ := h2.getV (k1 _ h1)
    obtain ⟨p2, e2, r2⟩ := h4.getV (k2 _ h3)
    obtain ⟨p3, e3, r3⟩ := h6.getV (k3 _ h5)
    obtain ⟨x1, x2, x3, f1, f2, f3, rfl⟩ := zip3_get hp
    rw [e1] at f1
    rw [e2] at f2
    rw [e3] at f3
    cases f1
    cases f2
    cases f3
    have s := Stp.layB (o := .tup [y, z, u]) e hT
    exact ⟨_, s, .tup (.of upd_same) (.cons (r1.stp s) (.cons (r2.stp s) (.cons (r3.stp s) .nil)))⟩
  stop := fun i B H hR e hi => by
    obtain ⟨⟨h1, h2⟩, ⟨h3, h4⟩, h5, h6⟩ := r B H hR e
    rw [zip3_len, ← h2.len, ← h4.len, ← h6.len] at hi
    exact ⟨vs, ws, us, h1, h3, h5, by omega, by omega, by omega, by omega⟩
theorem wA_three {σ : L2.St} {H : Hp} {Q : List V → Hp → Prop} (hn : nst e1 = true) (hn2 : nst e2 = true) (hn3 : nst e3 = true) (h : wE X e1 σ H fun v H1 => wE X e2 σ H1 fun w H2 => wE X e3 σ H2 fun u H3 => Q [v, w, u] H3) : wA X [e1, e2, e3] σ H Q :=
  ⟨_, pa_cons wE_ok (pa_cons wE_ok (pa_cons wE_ok pa_nil (star_cons hn3)) (star_cons hn2)) (star_cons hn), h⟩
theorem snm_zip3 {es : List Expr} {k : Nat} {tp : Pos} (hg : Gl X "zip") (hm : X.mg "zip" = none) (hn : nst e1 = true) (hn2 : nst e2 = true) (hn3 : nst e3 = true) (h : SndS m false X env e1 ps) (h2 : SndS m false X env e2 qs) (h3 : SndS m false X env e3 rs) :
    SndM m X env (.Tuple es k tp) (.Call (.Name "zip" p1) [e1, e2, e3] [] pos) (zip3P ps qs rs) := fun _ _ _ _ _ w re q =>
  ⟨_, pi_zip3 hg hm wA_ok (star_cons hn) (star_any (by simp [hn2, hn3])), wA_three hn hn2 hn3 (h w re fun v B1 H1 s a1 => h2 (w.stp s re.has) (re.stp s) fun v2 B2 H2 s2 a2 => h3 (w.stp (s.trans s2) re.has) (re.stp (s.trans s2)) fun v3 B3 H3 s3 ⟨d, us, ed, k1, _, k2⟩ => by
    obtain ⟨a, vs, ea, j1, _, j2⟩ := (a1.stp s2).stp s3
    obtain ⟨b, ws, eb, i1, _, i2⟩ := a2.stp s3
    refine ⟨a, b, d, vs, ws, us, by rw [ea, eb, ed], j1, i1, k1, q _ B3 H3 ((s.trans s2).trans s3) (its_zip3 (vs := vs) (ws := ws) (us := us) fun B H c e => ?_)⟩
    exact ⟨j2 B H c e, i2 B H c e, k2 B H c e⟩)⟩
end
end G

set_option maxRecDepth 100000
namespace G
open PySem L2
variable {T : Tb} {N : List Str}
/-! ### targets -/
def gNames : List Nat → TGs
  | [] => gNil
  | i :: is => gCons (gName i) (gNames is)
/-- (a, b, ..) = a tuple or a list of that length -/
def gUn (K : PySem.W.Frag) (n : Nat) (t : TGs) : TG := fun v σ H Q => ∃ a xs, v = .ref a ∧ (SqT K H a xs ∨ SqL K H a xs) ∧ xs.length = n ∧ t xs σ H Q
theorem pg_un {X : Cx} {pos : Pos} {es : List Expr} {k : Nat} {t : TGs} {n : Nat} (hc : X.calm = true) (h : PGs X es t)
    (hn : (assignEach es X.env).length = n) (hst : (assignEach es X.env).findIdx? (·.1) = none) : PG X (.Tuple es k pos) (gUn X.K n t) := by
  refine ⟨fun pins s σ H v u Q I r hw => ?_⟩
  obtain ⟨a, xs, e1, hq, hl, hw⟩ := hw
  rcases hq with hq | hq
  · exact (pg_tup (pos := pos) (k := k) hc h hn hst).run pins s σ H v u Q I r ⟨a, xs, e1, hq, hl, hw⟩
  · exact (pg_unl (pos := pos) (k := k) hc h hn hst).run pins s σ H v u Q I r ⟨a, xs, e1, hq, hl, hw⟩
def gOf (K : PySem.W.Frag) : Tg → TG
  | .nm i => gName i
  | .tp is => gUn K is.length (gNames is)
theorem chk_tg {X : Cx} {c : Ct} {sc so : Scope} {k : Nat} (hx : XOk T c N sc so k X) {i : Nat} {e : Expr} (h : tgE sc so N i e = true) : PG X e (gName i) := by
  unfold tgE at h
  split at h
  · rw [Bool.and_eq_true, Bool.and_eq_true, decide_eq_true_eq] at h
    refine pg_name (by rw [hx.n]; exact hx.nd) (by rw [hx.n]; exact h.1.1) ?_ (hx.fn _ h.2)
    rw [hx.sc]
    exact loc_ok h.1.2
  · cases h
theorem tg_nm {sc so : Scope} {i : Nat} {e : Expr} (h : tgE sc so N i e = true) : ∃ x p, e = .Name x p := by
  unfold tgE at h
  split at h
  · exact ⟨_, _, rfl⟩
  · cases h
theorem chk_tgs {X : Cx} {c : Ct} {sc so : Scope} {k : Nat} (hx : XOk T c N sc so k X) : ∀ {is : List Nat} {es : List Expr}, tgEs sc so N is es = true → PGs X es (gNames is) ∧ (assignEach es X.env).length = is.length ∧ (assignEach es X.env).all (fun q => !q.1) = true
  | [], [], _ => ⟨pgs_nil, rfl, rfl⟩
  | i :: is, e :: es, h => by
    unfold tgEs at h
    rw [Bool.and_eq_true] at h
    obtain ⟨h1, h2, h3⟩ := chk_tgs hx h.2
    obtain ⟨x, p, rfl⟩ := tg_nm h.1
    exact ⟨pgs_cons (chk_tg hx h.1) h1, congrArg (· + 1) h2, h3⟩
  | [], _ :: _, h => by cases h
  | _ :: _, [], h => by cases h
theorem chk_Tg {X : Cx} {c : Ct} {sc so : Scope} {k : Nat} (hx : XOk T c N sc so k X) {tg : Tg} {e : Expr} (h : chkTg sc so N tg e = true) : PG X e (gOf X.K tg) := by
  unfold chkTg at h
  split at h
  · exact chk_tg hx h
  · obtain ⟨h1, h2, h3⟩ := chk_tgs hx h
    refine pg_un hx.calm h1 h2 ?_
    rw [List.findIdx?_eq_none_iff]
    intro q hq
    have := List.all_eq_true.mp h3 q hq
    simpa using this
  · cases h
/-- slots stored one behind the other -/
def sets {α : Type} : List Nat → List α → List (Option α) → List (Option α)
  | i :: is, v :: vs, σ => sets is vs (σ.set i (some v))
  | _, _, σ => σ
theorem sets_len {α : Type} : ∀ (is : List Nat) (vs : List α) (σ : List (Option α)), (sets is vs σ).length = σ.length
  | [], _, _ => rfl
  | _ :: _, [], _ => rfl
  | i :: is, v :: vs, σ => by rw [sets, sets_len, List.length_set]
theorem sets_out {α : Type} : ∀ (is : List Nat) (vs : List α) (σ : List (Option α)) (j : Nat), j ∉ is → (sets is vs σ)[j]? = σ[j]?
  | [], _, _, _, _ => rfl
  | _ :: _, [], _, _, _ => rfl
  | i :: is, v :: vs, σ, j, h => by
    rw [sets, sets_out is vs _ j (fun z => h (by simp [z])), List.getElem?_set_ne (fun z => h (by simp [z]))]
theorem wipe_get (σ : L2.St) : ∀ (vs : List Nat) (j : Nat), (wipe σ vs)[j]? = if j ∈ vs ∧ j < σ.length then some none else σ[j]?
  | [], j => by simp [wipe]
  | v :: vs, j => by
    unfold wipe
    by_cases h : v = j
    · subst h
      by_cases hl : v < σ.length
      · rw [List.getElem?_set_self (by rw [wipe_length]; exact hl), if_pos ⟨by simp, hl⟩]
      · rw [List.getElem?_eq_none (by rw [List.length_set, wipe_length]; omega), if_neg (fun z => hl z.2), List.getElem?_eq_none (by omega)]
    · rw [List.getElem?_set_ne h, wipe_get σ vs j]
      by_cases hm : j ∈ vs ∧ j < σ.length
      · rw [if_pos hm, if_pos ⟨by simp [hm.1], hm.2⟩]
      · rw [if_neg hm, if_neg (fun z => hm ⟨by
          rcases List.mem_cons.mp z.1 with e | e
          · exact absurd e.symm h
          · exact e, z.2⟩)]
theorem wipe_sets (σ : L2.St) (is : List Nat) (vs : List V) : wipe (sets is vs (wipe σ is)) is = wipe σ is := by
  refine List.ext_getElem? fun j => ?_
  rw [wipe_get, wipe_get, sets_len, wipe_length]
  by_cases hm : j ∈ is ∧ j < σ.length
  · rw [if_pos hm, if_pos hm]
  · rw [if_neg hm, if_neg hm]
    by_cases hj : j ∈ is
    · have hl : ¬ j < σ.length := fun z => hm ⟨hj, z⟩
      rw [List.getElem?_eq_none (by rw [sets_len, wipe_length]; omega), List.getElem?_eq_none (by omega)]
    · rw [sets_out _ _ _ _ hj, wipe_get, if_neg hm]
section
variable {K : PySem.W.Frag} {B H : Hp}
theorem REnv.setP {σ : L2.St} {env : Env} {f : List Addr} (r : REnv K B H σ env f) (w : Wld B H f) (i : Nat) {v : V} {p : P} (h : RP K B v p) : ∃ f', REnv K B H (σ.set i (some v)) (env.set i (some (.pl p))) f' ∧ Wld B H f' ∧ ∀ a ∈ f', a ∈ f := by
  by_cases hi : i < env.length
  · obtain ⟨g, r', f', h1, h2, h3⟩ := r.put (g := []) hi (.pl h)
    have w2 := ((w.perm h1).right).perm h2.symm
    exact ⟨f', h3, w2, fun a ha => h1.mem_iff.mpr (List.mem_append_right _ (by simpa using h2.mem_iff.mp ha))⟩
  · have hl := r.len
    rw [List.set_eq_of_length_le (by omega), List.set_eq_of_length_le (by omega)]
    exact ⟨f, r, w, fun _ z => z⟩
theorem REnv.sets {env : Env} : ∀ {is : List Nat} {vs : List V} {ps : List P} {σ : L2.St} {env : Env} {f : List Addr}, REnv K B H σ env f → Wld B H f → RPs K B vs ps → is.length = ps.length →
    ∃ f', REnv K B H (G.sets is vs σ) ((is.zip ps).foldl (fun e x => e.set x.1 (some (.pl x.2))) env) f' ∧ Wld B H f' ∧ ∀ a ∈ f', a ∈ f
  | [], _, [], _, _, f, r, w, q, _ => ⟨f, r, w, fun _ z => z⟩
  | i :: is, _, p :: ps, σ, env, f, r, w, .cons h q, hl => by
    obtain ⟨f1, r1, w1, s1⟩ := r.setP w i h
    obtain ⟨f2, r2, w2, s2⟩ := REnv.sets (env := env) r1 w1 q (by simpa using hl)
    exact ⟨f2, r2, w2, fun a ha => s1 a (s2 a ha)⟩
  | [], _, _ :: _, _, _, _, _, _, _, h => by cases h
  | _ :: _, _, [], _, _, _, _, _, _, h => by cases h
theorem gNames_ok {σ' : L2.St} : ∀ {is : List Nat} {vs : List V} {σ : L2.St} {Q : L2.St → Hp → Prop}, is.length = vs.length → Q (G.sets is vs σ) H → gNames is vs σ H Q
  | [], [], _, _, _, q => ⟨rfl, q⟩
  | i :: is, v :: vs, σ, Q, h, q => ⟨v, vs, rfl, gNames_ok (σ' := σ') (by simpa using h) q⟩
  | [], _ :: _, _, _, h, _ => by cases h
  | _ :: _, [], _, _, h, _ => by cases h
/-- a target takes p -/
theorem tg_ok {σ : L2.St} {env env1 : Env} {f : List Addr} {tg : Tg} {v : V} {p : P} {Q : L2.St → Hp → Prop} (r : REnv K B H σ env f) (w : Wld B H f) (h : RP K B v p) (hs : setTg env tg p = some env1)
    (q : ∀ σ1 f', (∃ vs, σ1 = G.sets (tgIs tg) vs σ) → REnv K B H σ1 env1 f' → Wld B H f' → (∀ a ∈ f', a ∈ f) → Q σ1 H) : gOf K tg v σ H Q := by
  unfold setTg at hs
  split at hs
  · cases hs
    obtain ⟨f', r', w', s'⟩ := r.setP w _ h
    exact q _ f' ⟨[v], rfl⟩ r' w' s'
  · split at hs
    · rename_i is ps c
      cases hs
      cases h with
      | tup h1 h2 =>
        obtain ⟨f', r', w', s'⟩ := REnv.sets (env := env) r w h2 c
        exact ⟨_, _, rfl, .inl (w.bh.sqT h1), by rw [h2.len, c], gNames_ok (σ' := σ) (by rw [h2.len, c]) (q _ f' ⟨_, rfl⟩ r' w' s')⟩
    · cases hs
  · split at hs
    · rename_i is ps c
      cases hs
      cases h with
      | lst h1 h2 =>
        obtain ⟨f', r', w', s'⟩ := REnv.sets (env := env) r w h2 c
        exact ⟨_, _, rfl, .inr (w.bh.sl h1).sq, by rw [h2.len, c], gNames_ok (σ' := σ) (by rw [h2.len, c]) (q _ f' ⟨_, rfl⟩ r' w' s')⟩
    · cases hs
  · cases hs
theorem REnv.setNone {σ : L2.St} {env : Env} {f : List Addr} (r : REnv K B H σ env f) (w : Wld B H f) (i : Nat) : ∃ f', REnv K B H (σ.set i none) (env.set i none) f' ∧ Wld B H f' ∧ ∀ a ∈ f', a ∈ f := by
  induction r generalizing i with
  | nil => exact ⟨[], .nil, w, fun _ z => z⟩
  | @non v σ env f q ih =>
    cases i with
    | zero => exact ⟨f, .non q, w, fun _ z => z⟩
    | succ i =>
      obtain ⟨f', h1, h2, h3⟩ := ih w i
      exact ⟨f', .non h1, h2, h3⟩
  | @som v o σ env f g hr q ih =>
    cases i with
    | zero => exact ⟨g, .non q, w.right, fun a z => by simp [z]⟩
    | succ i =>
      obtain ⟨f', h1, h2, h3⟩ := ih w.right i
      refine ⟨f ++ f', .som hr h1, ⟨w.bh, List.nodup_append.mpr ⟨w.left.nd, h2.nd, fun a ha b hb z => ?_⟩, fun a ha => (List.mem_append.mp ha).elim (w.left.out a) (h2.out a)⟩, fun a ha => ?_⟩
      · exact (List.nodup_append.mp w.nd).2.2 a ha b (h3 b hb) z
      · rcases List.mem_append.mp ha with z | z
        · simp [z]
        · simp [h3 a z]
theorem REnv.wipe {σ : L2.St} {env : Env} {f : List Addr} (r : REnv K B H σ env f) (w : Wld B H f) : ∀ own : List Nat, ∃ f', REnv K B H (L2.wipe σ own) (wipeE env own) f' ∧ Wld B H f' ∧ ∀ a ∈ f', a ∈ f
  | [] => ⟨f, r, w, fun _ z => z⟩
  | i :: own => by
    obtain ⟨f1, r1, w1, s1⟩ := r.wipe w own
    obtain ⟨f2, r2, w2, s2⟩ := r1.setNone w1 i
    exact ⟨f2, r2, w2, fun a ha => s1 a (s2 a ha)⟩
end
end G

set_option maxRecDepth 100000
namespace G
open PySem L2
variable {T : Tb} {N : List Str}
/-- the contexts of a comprehension's block -/
def BX (X : Cx) (scope : Scope) (X' : Cx) : Prop := ∃ (s : Shared) (H : Hp) (C : Addr) (cl : List (Str × Addr)) (fp : List Addr), X' = X.blk s H scope (compEnvC scope cl C X.env) fp
theorem relS_local {scope sc : Scope} {x : Str} (h : scope.names.lookup x = some .local) : (relS scope sc).names.lookup x = some .local := by
  unfold relS
  show (scope.names.map _).lookup x = _
  generalize scope.names = l at h
  induction l with
  | nil => cases h
  | cons q l ih =>
    obtain ⟨n, k⟩ := q
    rw [List.map_cons]
    by_cases hx : (x == n) = true
    · rw [List.lookup_cons, hx] at h
      cases h
      show List.lookup x ((if ((NameKind.local == .free && sc.kind == .function && sc.names.lookup n == some .cell) = true) then (n, NameKind.cell) else (n, NameKind.local)) :: _) = _
      rw [if_neg (by simp), List.lookup_cons, hx]
    · have hx' : (x == n) = false := by simpa using hx
      rw [List.lookup_cons, hx'] at h
      show List.lookup x ((if ((k == .free && sc.kind == .function && sc.names.lookup n == some .cell) = true) then (n, NameKind.cell) else (n, k)) :: _) = _
      split <;> (rw [List.lookup_cons, hx']; exact ih h)
theorem blk_ok {X X' : Cx} {c : Ct} {sc so scope : Scope} {k : Nat} (hx : XOk T c N sc so k X) (h : BX X scope X') : XOk T c N (relS scope sc) scope k X' := by
  obtain ⟨s, H, C, cl, fp, rfl⟩ := h
  refine ⟨hx.n, ?_, hx.nd, hx.calm, fun x hl => ?_, hx.room, hx.fns, hx.mes, hx.inis, hx.fls, hx.gls, hx.blt, hx.isi, hx.rng, hx.enu, hx.zip, hx.rev, hx.ty, .never⟩
  · show relS scope X.env.scope = _
    rw [hx.sc]
  · unfold locB at hl
    split at hl
    · rename_i e
      exact .inr (relS_local e)
    · rename_i e
      refine .inl ?_
      show (scope.names.lookup x == some .cell) = true
      rw [e]
      rfl
    · cases hl
def wTs (X : Cx) (es : List Expr) : TT := fun σ H Q => ∃ t, PTs X es t ∧ t σ H Q
theorem wTs_ok {X : Cx} {es : List Expr} : PTs X es (wTs X es) := ⟨fun pins s σ H Q I ⟨_, h, q⟩ => h.run pins s σ H Q I q⟩
def SndTs (X : Cx) (env : Env) (es : List Expr) (b : Bool) : Prop := ∀ ⦃B H : Hp⦄ ⦃σ : L2.St⦄ ⦃fp : List Addr⦄ ⦃Q : Bool → Hp → Prop⦄, Wld B H fp → REnv X.K B H σ env fp → (∀ B' H', Stp B H B' H' → Q b H') → wTs X es σ H Q
theorem snts_nil {X : Cx} {env : Env} : SndTs X env [] true := fun _ _ _ _ _ w re q => ⟨_, pts_nil, q _ _ (.refl w.bh)⟩
theorem snts_one {X : Cx} {env : Env} {e : Expr} {b : Bool} (h : SndT X env e b) : SndTs X env [e] b := fun _ _ _ _ _ w re q => ⟨_, pts_one wT_ok, h w re q⟩
theorem mapO_get {α β : Type} {f : α → Option β} : ∀ {xs : List α} {ys : List β}, mapO f xs = some ys → xs.length = ys.length ∧ ∀ (i : Nat) (x : α), xs[i]? = some x → ∃ y, f x = some y ∧ ys[i]? = some y
  | [], ys, h => by
    rw [mapO] at h
    cases h
    exact ⟨rfl, fun i x z => by simp at z⟩
  | x :: xs, ys, h => by
    rw [mapO] at h
    split at h
    · rename_i y zs h1 h2
      cases h
      obtain ⟨l, g⟩ := mapO_get h2
      refine ⟨by rw [List.length_cons, List.length_cons, l], fun i w z => ?_⟩
      cases i with
      | zero =>
        simp at z
        subst z
        exact ⟨y, h1, rfl⟩
      | succ i =>
        obtain ⟨u, e1, e2⟩ := g i w (by simpa using z)
        exact ⟨u, e1, by simpa using e2⟩
    · cases h
theorem ROs.app {K : PySem.W.Frag} {B H : Hp} {vs ws : List V} {os ps : List O} {f g : List Addr} (r : ROs K B H vs os f) (q : ROs K B H ws ps g) : ROs K B H (vs ++ ws) (os ++ ps) (f ++ g) := by
  induction os generalizing vs f with
  | nil => cases r; exact q
  | cons o os ih =>
    cases r with
    | cons h r =>
      rw [List.append_assoc]
      exact .cons h (ih r)
theorem own_ix : ∀ {own : List Nat} {r : List (Str × Nat)}, ownOf N own = some r → r.map (·.2) = own
  | [], _, h => by
    rw [ownOf] at h
    cases h
    rfl
  | i :: is, r, h => by
    rw [ownOf] at h
    split at h
    · rename_i x r' h1 h2
      cases h
      rw [List.map_cons, own_ix h2]
    · cases h
theorem lcB_some {c : Ct} {env : Env} {own : List Nat} {tg : Tg} {cd : Ox} {e : Ex} {p : P} {q : Option O} (h : lcB c env own tg cd e p = some q) : ∃ env1 b, setTg (wipeE env own) tg p = some env1 ∧ evC c env1 cd = some (.pl (.bool b)) ∧ (b = true → ∃ o, evR c env1 e = some o ∧ q = some o) ∧ (b = false → q = none) := by
  unfold lcB lcF at h
  split at h
  · rename_i env1 h1
    unfold ifB at h
    split at h
    · rename_i b h2
      refine ⟨env1, b, h1, h2, fun z => ?_, fun z => ?_⟩
      · subst z
        rw [if_pos rfl] at h
        split at h
        · rename_i o h3
          cases h
          exact ⟨o, h3, rfl⟩
        · cases h
      · subst z
        rw [if_neg (by decide)] at h
        cases h
        rfl
    · cases h
  · cases h
/-- a comprehension's parts, and what its list is -/
def LcOk (X : Cx) (env : Env) (scope : Scope) (tgE iter elt : Expr) (ifs : List Expr) (o : O) : Prop := ∃ (own : List (Str × Nat)) (wi : TI) (g : TG) (tt : TT) (te : TE), X.calm = true ∧ X.N.Nodup ∧ PI X tgE iter wi ∧ BlkOk X.N X.env.scope scope own ∧
  (∀ (s : Shared) (H : Hp) (C : Addr) (cl : List (Str × Addr)) (fp : List Addr), PG (X.blk s H scope (compEnvC scope cl C X.env) fp) tgE g) ∧
  (∀ (s : Shared) (H : Hp) (C : Addr) (cl : List (Str × Addr)) (fp : List Addr), PTs (X.blk s H scope (compEnvC scope cl C X.env) fp) ifs tt) ∧
  (∀ (s : Shared) (H : Hp) (C : Addr) (cl : List (Str × Addr)) (fp : List Addr), PE (X.blk s H scope (compEnvC scope cl C X.env) fp) elt te) ∧ (∀ x, foldedSetIterable iter X.env x = pure x) ∧
  ∀ ⦃B H : Hp⦄ ⦃σ : L2.St⦄ ⦃fp : List Addr⦄ ⦃Q : VK⦄, Wld B H fp → REnv X.K B H σ env fp → Gv X.K B H o Q → tLc wi g tt te (own.map (·.2)) σ H Q
theorem lc_ok {X : Cx} {c : Ct} {sc so scope : Scope} {k : Nat} (hx : XOk T c N sc so k X) {env : Env} {own : List Nat} {tg : Tg} {cd : Ox} {e : Ex} {tgE iter elt : Expr} {ifs : List Expr} {pos : Pos} {o : O} {ps : List P} {os : List (Option O)}
    (ho : ownB N sc scope own = true) (hw : own = tgIs tg) (htg : chkTg (relS scope sc) scope N tg tgE = true) (hi : SndM true X env tgE iter ps) (hs : ∀ x, foldedSetIterable iter X.env x = pure x)
    (ht : ∀ X', XOk T c N (relS scope sc) scope k X' → ∀ env1 b, evC c env1 cd = some (.pl (.bool b)) → SndTs X' env1 ifs b) (he : ∀ X', XOk T c N (relS scope sc) scope k X' → ∀ env1 o, evR c env1 e = some o → Snd X' env1 elt o)
    (hn : ps.length ≤ 1000000) (hm : mapO (lcB c env own tg cd e) ps = some os) (h : mkL (os.filterMap id) = some o) : LcOk X env scope tgE iter elt ifs o := by
  unfold ownB at ho
  split at ho
  case h_2 => cases ho
  rename_i r hr
  have hix := own_ix hr
  obtain ⟨hlen, hget⟩ := mapO_get hm
  refine ⟨r, wI X tgE iter, gOf X.K tg, fun σ H Q => ∀ X', BX X scope X' → wTs X' ifs σ H Q, fun σ H Q => ∀ X', BX X scope X' → wE X' elt σ H Q, hx.calm, by rw [hx.n]; exact hx.nd, wI_ok, by rw [hx.n, hx.sc]; exact blkOk_by ho,
    fun s H C cl fp => chk_Tg (blk_ok hx ⟨s, H, C, cl, fp, rfl⟩) htg, fun s H C cl fp => ⟨fun pins s' σ H' Q I z => wTs_ok.run pins s' σ H' Q I (z _ ⟨s, H, C, cl, fp, rfl⟩)⟩,
    fun s H C cl fp => ⟨fun pins s' σ H' Q I z => wE_ok.run pins s' σ H' Q I (z _ ⟨s, H, C, cl, fp, rfl⟩)⟩, hs, ?_⟩
  intro B H σ fp Q w re q
  refine hi w re fun J B1 H1 s1 it => ?_
  intro D hD
  rw [hix]
  have w1 := w.stp s1 re.has
  have re1 := re.stp s1
  obtain ⟨fw, rw1, ww1, sw1⟩ := re1.wipe w1 own
  have hB1D := s1.bh.none hD
  refine ⟨fun i m H' => m = ps.length - i ∧ i ≤ ps.length ∧ ∃ B' vs f, Stp B1 H1 B' H' ∧ B' D = none ∧ H' D = some (.lst vs) ∧ ROs X.K B' H' vs ((os.take i).filterMap id) f ∧ Frs H1 B' f ∧ D ∉ f,
    ⟨_, rfl, Nat.zero_le _, B1, [], [], .lay s1.bh hD, hB1D, upd_same, .nil, .nil, by simp⟩, ?_⟩
  rintro i m H' ⟨rfl, hil, B', vs, f, s2, bD, hD', rv, fr, nf⟩
  by_cases hlt : i < ps.length
  · refine .inr ⟨it.go i B' H' ⟨s2.b, fun _ => s2.h⟩ s2.bh hlt, fun H5 => i + 1 ≤ ps.length ∧ ∃ B5 vs f, Stp B1 H1 B5 H5 ∧ B5 D = none ∧ H5 D = some (.lst vs) ∧ ROs X.K B5 H5 vs ((os.take (i + 1)).filterMap id) f ∧ Frs H1 B5 f ∧ D ∉ f,
      fun H5 h5 => ⟨_, by omega, rfl, h5⟩, fun x H2 hy => ?_⟩
    have hp := List.getElem?_eq_getElem hlt
    obtain ⟨B2, s3, rp⟩ := it.yld i B' H' x H2 _ ⟨s2.b, fun _ => s2.h⟩ s2.bh hp hy
    obtain ⟨qi, hq1, hq2⟩ := hget i _ hp
    obtain ⟨env1, b, e1, e2, e3, e4⟩ := lcB_some hq1
    have s12 := s2.trans s3
    have tk : os.take (i + 1) = os.take i ++ [qi] := by rw [List.take_add_one, hq2]; rfl
    refine tg_ok (rw1.stp s12) (ww1.stp s12 rw1.has) rp e1 fun σ1 f1 ⟨ws, hσ1⟩ r1 w2 _ => ⟨?_, ?_⟩
    · rw [hσ1, hw]
      exact wipe_sets σ (tgIs tg) ws
    · intro X' hX'
      have hx' := blk_ok hx hX'
      have hK : X'.K = X.K := by
        obtain ⟨_, _, _, _, _, rfl⟩ := hX'
        rfl
      refine ht X' hx' env1 b e2 w2 (by rw [hK]; exact r1) fun B3 H3 s4 => ?_
      have s13 := s12.trans s4
      have hD3 : H3 D = some (.lst vs) := s4.h _ _ (s3.h _ _ hD')
      cases b with
      | false =>
        refine iteF ⟨hlt, B3, vs, f, s13, ?_, hD3, ?_, fr.stp (s3.trans s4) rv.has, nf⟩
        · exact (s3.trans s4).out (f := [D]) (by simp [hD']) (by simpa using bD) D (by simp)
        · rw [tk, List.filterMap_append, e4 rfl]
          simpa using rv.stp (s3.trans s4)
      | true =>
        obtain ⟨oi, ev, rfl⟩ := e3 rfl
        refine iteT fun X'' hX'' => ?_
        have hx'' := blk_ok hx hX''
        have hK' : X''.K = X.K := by
          obtain ⟨_, _, _, _, _, rfl⟩ := hX''
          rfl
        refine he X'' hx'' env1 oi ev (w2.stp s4 r1.has) (by rw [hK']; exact r1.stp s4) fun y B4 H4 f4 s5 r4 n4 => ?_
        rw [hK'] at r4
        have s34 := (s3.trans s4).trans s5
        have hD4 : H4 D = some (.lst vs) := s5.h _ _ hD3
        have bD4 : B4 D = none := s34.out (f := [D]) (by simp [hD']) (by simpa using bD) D (by simp)
        have lv : vs.length ≤ i := by
          rw [rv.len]
          refine Nat.le_trans (List.length_filterMap_le _ _) ?_
          rw [List.length_take]
          omega
        have nf4 : D ∉ f4 := fun z => by
          have := n4.new D z
          rw [hD3] at this
          cases this
        refine ⟨vs, hD4, by rw [line_eq]; omega, hlt, B4, vs ++ [y], f ++ f4, ?_, bD4, upd_same, ?_, ?_, by simp [nf, nf4]⟩
        · have s15 := s13.trans s5
          refine ⟨s15.b, fun a u z => ?_, fun a u z => ?_, s15.new⟩
          · rw [upd_ne (ne_of_none z hD)]
            exact s15.h a u z
          · rw [upd_ne (ne_of_none z bD4)]
            exact s15.bh a u z
        · rw [tk, List.filterMap_append]
          have z : ROs X.K B4 (upd H4 D (.lst (vs ++ [y]))) [y] [oi] (f4 ++ []) := .cons (r4.mono (.refl _) fun a ha u z => by
            rw [upd_ne (fun e => nf4 (by rw [← e]; exact ha))]
            exact z) .nil
          rw [List.append_nil] at z
          exact (rv.mono s34.b fun a ha u z => by
            rw [upd_ne (fun e => nf (by rw [← e]; exact ha))]
            exact s34.h a u z).app (by simpa using z)
        · exact (fr.stp s34 rv.has).app ((s2.trans (s3.trans s4)).h) (fun a ha => by
            have := rv.has a ha
            cases z : H' a with
            | none => exact absurd z this
            | some u => rw [(s3.trans s4).h a u z]; simp) n4
  · have ei : i = ps.length := by omega
    subst ei
    refine .inl ⟨it.stop _ B' H' ⟨s2.b, fun _ => s2.h⟩ s2.bh rfl, ?_⟩
    rw [hlen, List.take_length] at rv
    unfold mkL at h
    split at h
    · have fr' : Frs H B' (D :: f) := (⟨List.nodup_cons.mpr ⟨nf, fr.nd⟩, fun a ha => by
        rcases List.mem_cons.mp ha with z | z
        · rw [z]; exact hD
        · exact fr.new a z, fun a ha => by
        rcases List.mem_cons.mp ha with z | z
        · rw [z]; exact bD
        · exact fr.out a z⟩ : Frs H1 B' (D :: f)).back s1.h
      cases z : fzs (os.filterMap id) with
      | some qs =>
        rw [z] at h
        cases h
        obtain ⟨B2, s3, e3, rp, nw⟩ := (s1.trans s2).shares rv z (fr.back s1.h)
        exact q _ B2 _ [D] s3 (.fl hD' rp) ⟨by simp, fun a ha => fr'.new a (by simp at ha; simp [ha]), fun a ha => by
          simp at ha
          subst ha
          cases y : B2 a with
          | none => rfl
          | some u =>
            rcases nw a (by rw [y]; simp) with w | w
            · exact absurd bD w
            · exact absurd w nf⟩
      | none =>
        rw [z] at h
        cases h
        exact q _ B' _ (D :: f) (s1.trans s2) (.lst hD' rv) fr'
    · cases h
theorem snd_lc {X : Cx} {env : Env} {scope : Scope} {tgE iter elt : Expr} {ifs : List Expr} {pos : Pos} {o : O} (h : LcOk X env scope tgE iter elt ifs o) : Snd X env (.ListComp elt [⟨tgE, iter, ifs, 0⟩] scope pos) o := by
  obtain ⟨own, wi, g, tt, te, h1, h2, h3, h4, h5, h6, h7, h8, h9⟩ := h
  exact fun _ _ _ _ _ w re q => ⟨_, pe_lc h1 h2 h3 h4 h5 h6 h7 h8, h9 w re q⟩
end G

set_option maxRecDepth 100000
namespace G
open PySem L2
variable {T : Tb} {N : List Str} {c : Ct} {X : Cx} {sc so : Scope} {k : Nat}
theorem XOk.hu (hx : XOk T c N sc so k X) : X.A.units + 64 < cLine := hx.room.units
theorem snd_lit {env : Env} {p : P} {co : Const} {j : Nat} {pos : Pos} (h : litB p co = true) : Snd X env (.Constant co j pos) (.pl p) := fun _ _ _ _ _ w re q => by
  unfold litB at h
  split at h
  · exact ⟨_, pe_non, q.pl w.bh .non⟩
  · rename_i b c
    have e : b = c := by simpa using h
    subst e
    exact ⟨_, pe_bl, q.pl w.bh .bl⟩
  · rename_i b c
    have e : b = c := by simpa using h
    subst e
    exact ⟨_, pe_int, q.pl w.bh .int⟩
  · rename_i b c
    have e : b = c := by simpa using h
    subst e
    exact ⟨_, pe_str, q.pl w.bh .str⟩
  · cases h
theorem name_ok (hx : XOk T c N sc so k X) {i : Nat} {x : Str} (h : nameB N sc i x = true) : ∀ {pos : Pos}, PE X (.Name x pos) (tVar i) := by
  unfold nameB at h
  simp only [Bool.and_eq_true, decide_eq_true_eq] at h
  intro pos
  exact pe_var (by rw [hx.n]; exact h.1.1.1) (by rw [hx.sc]; exact vis_ok h.1.1.2) (by simpa using h.1.2) (by simpa using h.2)
theorem slot_some {env : Env} {i : Nat} {o : O} (h : slot env i = some o) : env[i]? = some (some o) := by
  unfold slot at h
  cases z : env[i]? with
  | none => rw [z] at h; cases h
  | some x => rw [z] at h; cases x with
    | none => cases h
    | some y => cases h; rfl
theorem sno_var (hx : XOk T c N sc so k X) {i : Nat} {x : Str} {pos : Pos} {env : Env} {o : O} (h : nameB N sc i x = true) (hs : slot env i = some o) : SndO X env (.Name x pos) o := fun _ _ _ _ _ w re q => by
  obtain ⟨v, g, h1, h2, h3⟩ := re.get (slot_some hs)
  exact ⟨_, name_ok hx h, v, h1, q v _ _ g (.refl w.bh) h2⟩
theorem snd_var (hx : XOk T c N sc so k X) {i : Nat} {x : Str} {pos : Pos} {env : Env} {p : P} (h : nameB N sc i x = true) (hs : slot env i = some (.pl p)) : Snd X env (.Name x pos) (.pl p) := fun _ _ _ _ _ w re q => by
  obtain ⟨v, g, h1, h2, h3⟩ := re.get (slot_some hs)
  exact ⟨_, name_ok hx h, v, h1, q.pl w.bh h2.p⟩
section
variable {K : PySem.W.Frag} {B H : Hp}
theorem ROf.get {f : Str} {o : O} : ∀ {us : List (Str × V)} {kvs : List (Str × O)} {g : List Addr}, ROf K B H us kvs g → fldL f kvs = some o → ∃ v g', us.lookup f = some v ∧ RO K B H v o g' ∧ (∃ q ∈ kvs, q.1 = f)
  | _, _, _, .nil, h => by cases h
  | _, _, _, .cons (x := x) (v := v) (o := o') r rs, h => by
    unfold fldL at h
    split at h
    · rename_i e
      cases h
      have e : x = f := e
      subst e
      exact ⟨v, _, by rw [List.lookup_cons]; simp, r, ⟨_, List.mem_cons_self, rfl⟩⟩
    · rename_i e
      have e : ¬ x = f := e
      obtain ⟨v', g', h1, h2, q, h3, h4⟩ := ROf.get rs h
      refine ⟨v', g', ?_, h2, q, List.mem_cons_of_mem _ h3, h4⟩
      rw [List.lookup_cons]
      have : (f == x) = false := by
        rw [beq_eq_false_iff_ne]
        exact fun z => e z.symm
      rw [this]
      exact h1
theorem fldO_some {f : Str} {u o : O} (h : fldO f u = some o) : ∃ c kvs, u = .obj c kvs ∧ fldL f kvs = some o := by
  unfold fldO at h
  split at h
  · exact ⟨_, _, rfl, h⟩
  · cases h
/-- a field read -/
theorem RO.fld {v : V} {u o : O} {g : List Addr} {f : Str} (r : RO K B H v u g) (h : fldO f u = some o) : ∃ a C dx us w g', v = .ref a ∧ H a = some (.ins C dx us) ∧ Cls K C ∧ NoAttr K C f ∧ us.lookup f = some w ∧ RO K B H w o g' := by
  obtain ⟨c, kvs, rfl, h1⟩ := fldO_some h
  cases r with
  | obj k1 k2 k3 k4 k5 k6 =>
    obtain ⟨w, g', e1, e2, q, e3, rfl⟩ := k6.get h1
    exact ⟨_, _, _, _, w, g', rfl, k4, k2, k3 q e3, e1, e2⟩
/-- a thing within a list -/
theorem ROs.getI {os : List O} {vs : List V} {g : List Addr} (r : ROs K B H vs os g) : ∀ {n : Nat} {o : O}, os[n]? = some o → ∃ v g', vs[n]? = some v ∧ RO K B H v o g' := by
  induction os generalizing vs g with
  | nil => intro n o h; simp at h
  | cons o' os ih =>
    intro n o h
    cases r with
    | cons r rs =>
      cases n with
      | zero => simp at h; subst h; exact ⟨_, _, rfl, r⟩
      | succ n =>
        obtain ⟨v, g', h1, h2⟩ := ih rs (n := n) (by simpa using h)
        exact ⟨v, g', by simpa using h1, h2⟩
theorem RO.el {v w : V} {u k o : O} {g g2 : List Addr} (r : RO K B H v u g) (r2 : RO K B H w k g2) (h : elO u k = some o) : ∃ a vs j y g', v = .ref a ∧ (H a = some (.lst vs) ∨ B a = some (.tup vs)) ∧ w = .int j ∧ atI vs j = some y ∧ RO K B H y o g' := by
  unfold elO at h
  split at h
  · rename_i xs j
    have e := r2.i
    subst e
    cases r with
    | lst h1 h2 =>
      obtain ⟨n, e1, e2⟩ := Option.bind_eq_some_iff.mp h
      obtain ⟨y, g', e3, e4⟩ := h2.getI e2
      refine ⟨_, _, j, y, g', rfl, .inl h1, rfl, ?_, e4⟩
      unfold atI
      rw [h2.len, e1]
      exact e3
  · rename_i xs j
    have e := r2.i
    subst e
    cases r with
    | tup h1 h2 =>
      obtain ⟨n, e1, e2⟩ := Option.bind_eq_some_iff.mp h
      obtain ⟨y, g', e3, e4⟩ := h2.getI e2
      refine ⟨_, _, j, y, g', rfl, .inr h1, rfl, ?_, e4⟩
      unfold atI
      rw [h2.len, e1]
      exact e3
  · cases h
theorem el_ix {X : Cx} {B H : Hp} {a : Addr} {vs : List V} {j : Int} {y : V} {Q : VK} (e : Ext B H) (h : H a = some (.lst vs) ∨ B a = some (.tup vs)) (h2 : atI vs j = some y) (q : Q y H) : wX X (.ref a) (.int j) H Q := by
  rcases h with h | h
  · exact ⟨_, ix_list, a, vs, j, y, rfl, rfl, .of h, h2, q⟩
  · exact ⟨_, ix_tup, a, vs, j, y, rfl, rfl, .of (e a _ h), h2, q⟩
end
theorem sno_fld (hx : XOk T c N sc so k X) {i : Nat} {x f : Str} {p pos : Pos} {env : Env} {u o : O} (h : nameB N sc i x = true) (hs : slot env i = some u) (hf : fldO f u = some o) : SndO X env (.Attribute (.Name x p) f pos) o := fun _ _ _ _ _ w re q => by
  obtain ⟨v, g, h1, h2, h3⟩ := re.get (slot_some hs)
  obtain ⟨a, C, dx, us, y, g', rfl, k1, k2, k3, k4, k5⟩ := h2.fld hf
  exact ⟨_, pe_fld (name_ok hx h) rfl, _, h1, a, C, dx, us, y, rfl, k1, k2, k3, k4, q y _ _ g' (.refl w.bh) k5⟩
theorem snd_fld (hx : XOk T c N sc so k X) {i : Nat} {x f : Str} {p0 pos : Pos} {env : Env} {u : O} {p : P} (h : nameB N sc i x = true) (hs : slot env i = some u) (hf : fldO f u = some (.pl p)) : Snd X env (.Attribute (.Name x p0) f pos) (.pl p) := fun _ _ _ _ _ w re q => by
  obtain ⟨v, g, h1, h2, h3⟩ := re.get (slot_some hs)
  obtain ⟨a, C, dx, us, y, g', rfl, k1, k2, k3, k4, k5⟩ := h2.fld hf
  exact ⟨_, pe_fld (name_ok hx h) rfl, _, h1, a, C, dx, us, y, rfl, k1, k2, k3, k4, q.pl w.bh k5.p⟩
theorem snd_idx2 (hx : XOk T c N sc so k X) {j : Nat} {x : Str} {p0 p1 pos : Pos} {ke ie : Expr} {env : Env} {u ok oe oi o : O} (h : nameB N sc j x = true) (hs : slot env j = some u) (hp1 : ∀ a b, subscripted ke false a b = operate [a, b] (getItem a b)) (hp2 : ∀ a b, subscripted ie false a b = operate [a, b] (getItem a b))
    (hk : SndO X env ke ok) (hi : SndO X env ie oi) (he : elO u ok = some oe) (ho : idxO oe oi = some o) : Snd X env (.Subscript (.Subscript (.Name x p0) ke p1) ie pos) o := by
  refine snd_idx hx.hu hp2 (fun B H σ fp Q w re q => ?_) hi ho
  obtain ⟨v, g, h1, h2, h3⟩ := re.get (slot_some hs)
  refine ⟨_, pe_ix wX_ok (name_ok hx h) wE_ok hp1, v, h1, hk w re fun vk B2 H2 f2 s2 r2 => ?_⟩
  obtain ⟨a, vs, j, y, g', rfl, e1, rfl, e3, e4⟩ := (h2.stp s2).el r2 he
  exact el_ix s2.bh e1 e3 (q y _ _ g' s2 e4)
theorem sno_el (hx : XOk T c N sc so k X) {j : Nat} {x : Str} {n : Int} {p0 pos : Pos} {ie : Expr} {env : Env} {u o : O} (h : nameB N sc j x = true) (hs : slot env j = some u) (hp1 : ∀ a b, subscripted ie false a b = operate [a, b] (getItem a b))
    (hk : SndO X env ie (.pl (.int n))) (he : elO u (.pl (.int n)) = some o) : SndO X env (.Subscript (.Name x p0) ie pos) o := fun B H σ fp Q w re q => by
  obtain ⟨v, g, h1, h2, h3⟩ := re.get (slot_some hs)
  refine ⟨_, pe_ix wX_ok (name_ok hx h) wE_ok hp1, v, h1, hk w re fun vk B2 H2 f2 s2 r2 => ?_⟩
  obtain ⟨a, vs, j, y, g', rfl, e1, rfl, e3, e4⟩ := (h2.stp s2).el r2 he
  exact el_ix s2.bh e1 e3 (q y _ _ g' s2 e4)
theorem snd_el (hx : XOk T c N sc so k X) {j : Nat} {x : Str} {n : Int} {p0 pos : Pos} {ie : Expr} {env : Env} {u : O} {p : P} (h : nameB N sc j x = true) (hs : slot env j = some u) (hp1 : ∀ a b, subscripted ie false a b = operate [a, b] (getItem a b))
    (hk : SndO X env ie (.pl (.int n))) (he : elO u (.pl (.int n)) = some (.pl p)) : Snd X env (.Subscript (.Name x p0) ie pos) (.pl p) := fun B H σ fp Q w re q => by
  obtain ⟨v, g, h1, h2, h3⟩ := re.get (slot_some hs)
  refine ⟨_, pe_ix wX_ok (name_ok hx h) wE_ok hp1, v, h1, hk w re fun vk B2 H2 f2 s2 r2 => ?_⟩
  obtain ⟨a, vs, j, y, g', rfl, e1, rfl, e3, e4⟩ := (h2.stp s2).el r2 he
  exact el_ix s2.bh e1 e3 ((q.stp s2).pl s2.bh e4.p)
theorem gl_ok (hx : XOk T c N sc so k X) {n : Option Str} {x : Str} (h : gnB sc n x = true) : Gl X x := by
  obtain ⟨_, h2, _⟩ := gn_ok h
  show X.env.scope.names.lookup x = _
  rw [hx.sc]
  exact h2
theorem snd_glob (hx : XOk T c N sc so k X) {g : Nat} {x : Str} {pos : Pos} {env : Env} {p : P} (h : gnB sc (T.gn g) x = true) (hg : c.gl g = some p) : Snd X env (.Name x pos) (.pl p) := fun _ _ _ _ _ w re q => by
  obtain ⟨h1, h2, h3⟩ := gn_ok h
  obtain ⟨u, v, e1, e2, e3, _⟩ := hx.gls g x p h1 hg
  exact ⟨_, pe_glob (gl_ok hx h) e1 e2 h3, q.pl w.bh (e3 _)⟩
/-! calls -/
theorem RPs.pl {K : PySem.W.Frag} {B : Hp} {vs : List V} {ps : List P} (r : RPs K B vs ps) : vs.length = ps.length := r.len
theorem call_core {f : Nat} {vs : List V} {ps : List P × Bool} {o : O} {io : List Bool} {B1 H1 : Hp} {Q : VK} {E : XK} {f0 : List Addr} (e : Ext B1 H1) (h1 : ps.2 = false → RPs X.K B1 vs ps.1) (hc : ∀ a ∈ f0, Ctn H1 a) (h2 : RPs X.K (frz B1 H1 f0) vs ps.1) (h : retC ps.2 (c.call f (ps.1.map .pl)) = some o) (q : Gv X.K B1 H1 o Q) : spM X.K io (c.call f) vs H1 Q E := by
  obtain ⟨ps, b⟩ := ps
  unfold retC at h
  split at h
  · rename_i o1 e1 e2
    have hb : b = true := e1
    subst hb
    split at h
    · rename_i cs
      cases h
      refine spM_pl (frz_H e) h2 e2 fun v B' H' g s ro n => ?_
      have hc' : ∀ a ∈ f0, Ctn H' a := fun a ha => (hc a ha).ext s.h
      refine q v (frz B' B1 f0) H' g ⟨fun a u z => ?_, s.h, fun a u z => ?_, fun a z => ?_⟩ (un_ro hc' s.bh ro cs) ⟨n.nd, n.new, fun a ha => ?_⟩
      · by_cases ha : a ∈ f0
        · rw [frz_in ha]
          exact z
        · rw [frz_out ha]
          exact s.b a u (by rw [frz_out ha]; exact z)
      · by_cases ha : a ∈ f0
        · rw [frz_in ha] at z
          exact s.h a u (e a u z)
        · rw [frz_out ha] at z
          exact s.bh a u z
      · by_cases ha : a ∈ f0
        · rw [frz_in ha] at z
          exact .inl z
        · rw [frz_out ha] at z
          rcases s.new a z with y | y
          · rw [frz_out ha] at y
            exact .inl y
          · exact .inr y
      · by_cases hf : a ∈ f0
        · rw [frz_in hf]
          exact e.none (n.new a ha)
        · rw [frz_out hf]
          exact n.out a ha
    · cases h
  · rename_i o1 e1 e2
    have hb : b = false := e1
    subst hb
    cases h
    exact spM_pl e (h1 rfl) e2 q
  · cases h
theorem snd_call (hx : XOk T c N sc so k X) {f : Nat} {x : Str} {p pos : Pos} {env : Env} {e : Expr} {es : List Expr} {ps : List P × Bool} {o : O} (h : gnB sc (T.fn f) x = true) (hn : (e :: es).all nst = true) (ha : SndLs X env (e :: es) ps) (hr : retC ps.2 (c.call f (ps.1.map .pl)) = some o) :
    Snd X env (.Call (.Name x p) (e :: es) [] pos) o := fun _ _ _ _ _ w re q => by
  obtain ⟨h1, h2, h3⟩ := gn_ok h
  obtain ⟨a, fd, pn, e1, e2, e3, F⟩ := hx.fns f x h1
  rw [List.all_cons, Bool.and_eq_true] at hn
  exact ⟨_, pe_call F hx.room (gl_ok hx h) e1 e2 e3 .nil passL wA_ok h3 (star_cons hn.1) (star_any hn.2), ha w re fun vs B1 H1 f0 s r1 hc r2 => by
    rw [List.append_nil]
    exact call_core s.bh r1 hc r2 hr (q.stp s)⟩
theorem snd_call0 (hx : XOk T c N sc so k X) {f : Nat} {x : Str} {p pos : Pos} {env : Env} {o : O} (h : gnB sc (T.fn f) x = true) (hr : retC false (c.call f []) = some o) : Snd X env (.Call (.Name x p) [] [] pos) o := by
  intro B H σ fp Q w re q
  obtain ⟨h1, h2, h3⟩ := gn_ok h
  obtain ⟨a, fd, pn, e1, e2, e3, F⟩ := hx.fns f x h1
  exact ⟨_, pe_call0 F hx.room (gl_ok hx h) e1 e2 e3 .nil (passL (X := X)) h3, call_core (E := E0) (ps := ([], false)) (f0 := []) w.bh (fun _ => .nil) (fun _ z => by simp at z) .nil hr q⟩
theorem bi_boot : ∀ b : BI, bootBuiltins (biN b) = some (biV b) := by
  intro b
  cases b <;> decide +kernel
theorem bi_name : ∀ b : BI, biN b ≠ "__name__" := by
  intro b
  cases b <;> decide +kernel
theorem snd_bi (hx : XOk T c N sc so k X) {b : BI} {x : Str} {p pos : Pos} {env : Env} {e : Expr} {es : List Expr} {os : List O} {o : O} (h : gnB sc (some (biN b)) x = true) (hn : (e :: es).all nst = true) (ha : SndVs X env (e :: es) os) (hr : biO b os = some o) :
    Snd X env (.Call (.Name x p) (e :: es) [] pos) o := fun _ _ _ _ _ w re q => by
  have hg := gl_ok hx h
  obtain ⟨h1, h2, h3⟩ := gn_ok h
  cases h1
  rw [List.all_cons, Bool.and_eq_true] at hn
  have hv := bi_boot b
  have run : tCB (wC X (biV b)) (wA X (e :: es)) _ _ _ := ha w re fun vs B1 H1 f s r => bi_ok hx.calm s.bh r hr (q.stp s)
  cases b
  case len => exact ⟨_, pe_callB wC_ok hg (hx.blt .len) hv wA_ok (bi_name .len) h3 (star_cons hn.1) (star_any hn.2), run⟩
  case abs => exact ⟨_, pe_callB wC_ok hg (hx.blt .abs) hv wA_ok (bi_name .abs) h3 (star_cons hn.1) (star_any hn.2), run⟩
  case int => exact ⟨_, pe_callTy wC_ok hg (hx.blt .int) hv wA_ok (bi_name .int) h3 (star_cons hn.1) (star_any hn.2), run⟩
  case str => exact ⟨_, pe_callTy wC_ok hg (hx.blt .str) hv wA_ok (bi_name .str) h3 (star_cons hn.1) (star_any hn.2), run⟩
  case list => exact ⟨_, pe_callTy wC_ok hg (hx.blt .list) hv wA_ok (bi_name .list) h3 (star_cons hn.1) (star_any hn.2), run⟩
  case tuple => exact ⟨_, pe_callTy wC_ok hg (hx.blt .tuple) hv wA_ok (bi_name .tuple) h3 (star_cons hn.1) (star_any hn.2), run⟩
  case max => exact ⟨_, pe_callB wC_ok hg (hx.blt .max) hv wA_ok (bi_name .max) h3 (star_cons hn.1) (star_any hn.2), run⟩
  case min => exact ⟨_, pe_callB wC_ok hg (hx.blt .min) hv wA_ok (bi_name .min) h3 (star_cons hn.1) (star_any hn.2), run⟩
  case sum => exact ⟨_, pe_callB wC_ok hg (hx.blt .sum) hv wA_ok (bi_name .sum) h3 (star_cons hn.1) (star_any hn.2), run⟩
  case all => exact ⟨_, pe_callB wC_ok hg (hx.blt .all) hv wA_ok (bi_name .all) h3 (star_cons hn.1) (star_any hn.2), run⟩
  case any => exact ⟨_, pe_callB wC_ok hg (hx.blt .any) hv wA_ok (bi_name .any) h3 (star_cons hn.1) (star_any hn.2), run⟩
  case sorted => exact ⟨_, pe_callB wC_ok hg (hx.blt .sorted) hv wA_ok (bi_name .sorted) h3 (star_cons hn.1) (star_any hn.2), run⟩
  case dict => exact ⟨_, pe_callTy wC_ok hg (hx.blt .dict) hv wA_ok (bi_name .dict) h3 (star_cons hn.1) (star_any hn.2), run⟩
/-! isinstance -/
def tyBI : Ty → Option BI
  | .int => some .int
  | .str => some .str
  | .list => some .list
  | .tuple => some .tuple
  | _ => none
theorem ty_boot (t : Ty) : bootBuiltins (Str.ofString (tyN t)) = some (.type (tyN t)) ∧ Str.ofString (tyN t) ≠ "__name__" := by
  cases t <;> exact ⟨by decide +kernel, by decide +kernel⟩
theorem sne_ty (hx : XOk T c N sc so k X) (hm : ∀ t, X.mg (Str.ofString (tyN t)) = none) {t : Ty} {e : Expr} (h : tyE sc t e = true) : PE X e (tC (.ty (tyN t))) ∧ nst e = true := by
  unfold tyE at h
  split at h
  · have hg := gl_ok hx h
    obtain ⟨h1, h2, h3⟩ := gn_ok h
    cases h1
    exact ⟨pe_bltn hg (hm t) (ty_boot t).1 (show RelV (.ty (tyN t)) (.type (tyN t)) from rfl) (ty_boot t).2 h3, rfl⟩
  · cases h
def tTys : List Ty → TA
  | [] => tNil
  | t :: ts => tCons (tC (.ty (tyN t))) (tTys ts)
theorem sne_tys (hx : XOk T c N sc so k X) (hm : ∀ t, X.mg (Str.ofString (tyN t)) = none) : ∀ {ts : List Ty} {es : List Expr}, tysE sc ts es = true → PA X es (tTys ts)
  | [], [], _ => pa_nil
  | t :: ts, e :: es, h => by
    unfold tysE at h
    rw [Bool.and_eq_true] at h
    obtain ⟨h1, h2⟩ := sne_ty hx hm h.1
    exact pa_cons h1 (sne_tys hx hm h.2) (star_cons h2)
  | [], _ :: _, h => by cases h
  | _ :: _, [], h => by cases h
theorem tTys_ok {σ : L2.St} {H : Hp} : ∀ {ts : List Ty} {Q : List V → Hp → Prop}, Q (ts.map fun t => .ty (tyN t)) H → tTys ts σ H Q
  | [], _, q => q
  | t :: ts, Q, q => tTys_ok (ts := ts) (Q := fun xs H2 => Q (.ty (tyN t) :: xs) H2) q
theorem clsVs : ∀ ts : List Ty, Paired ClsV (ts.map fun t => .ty (tyN t)) (ts.map fun t => .type (tyN t))
  | [] => .nil
  | t :: ts => .cons (.ty _) (clsVs ts)
theorem snd_isi (hx : XOk T c N sc so k X) (hm : ∀ t, X.mg (Str.ofString (tyN t)) = none) {x : Str} {p pos : Pos} {env : Env} {e t : Expr} {ts : List Ty} {ox : O} {q0 : P} (h : gnB sc (some "isinstance") x = true) (hn : nst e = true) (ha : SndO X env e ox) (ht : tyArg sc ts t = true) (hl : ts.length ≤ 1000) (hp : fz ox = some q0) :
    Snd X env (.Call (.Name x p) [e, t] [] pos) (.pl (.bool (ts.any (isTy1 (tyP q0))))) := fun _ _ _ _ _ w re q => by
  have hg := gl_ok hx h
  obtain ⟨h1, h2, h3⟩ := gn_ok h
  cases h1
  have hv : bootBuiltins ("isinstance" : Str) = some (.builtin "isinstance") := by decide +kernel
  unfold tyArg at ht
  split at ht
  · rename_i es k tp
    refine ⟨_, pe_callB wC_ok hg hx.isi hv (pa_cons wE_ok (pa_cons (pe_tup (sne_tys hx hm ht)) pa_nil (star_cons rfl)) (star_cons hn)) (by decide) h3 (star_cons hn) (star_any rfl), ha w re fun v B1 H1 f s r => ?_⟩
    refine tTys_ok ⟨by rw [List.length_map, line_eq]; omega, fun a na => ⟨_, call_isiT, v, a, _, _, _, _, rfl, upd_same, clsVs ts, ?_, kit_all q0 ts, ?_⟩⟩
    · exact ((r.rd s.bh hp).mono (Ext.upd na)).ty
    · exact q _ _ _ [] (s.trans (.lay s.bh na)) (.pl .bl) .nil
  · rename_i t' e'
    obtain ⟨h4, h5⟩ := sne_ty hx hm ht
    refine ⟨_, pe_callB wC_ok hg hx.isi hv (pa_cons wE_ok (pa_cons h4 pa_nil (star_cons h5)) (star_cons hn)) (by decide) h3 (star_cons hn) (star_any (by simp [h5])), ha w re fun v B1 H1 f s r => ?_⟩
    refine ⟨_, call_isi, v, _, _, _, _, rfl, .ty _, (r.rd s.bh hp).ty, kit_one q0 t', ?_⟩
    have : (List.any [t'] (isTy1 (tyP q0))) = isTy1 (tyP q0) t' := by simp
    rw [this] at q
    exact (q.stp s).pl s.bh .bl
  · cases ht
/-! d.get(k, x) -/
theorem snd_get (hx : XOk T c N sc so k X) {env : Env} {l e1 e2 : Expr} {ap cp : Pos} {ox o : O} {o1 o2 : O} (hb : baseB l = true) (hl : (ap.endLine == cp.line) = true) (hn1 : nst e1 = true) (hn2 : nst e2 = true)
    (h : SndO X env l ox) (h1 : SndO X env e1 o1) (h2 : SndO X env e2 o2) (hr : methO .get ox [o1, o2] = some o) : Snd X env (.Call (.Attribute l "get" ap) [e1, e2] [] cp) o := fun _ _ _ _ _ w re q => by
  have hu : X.A.units + 1 < cLine := by have := hx.hu; omega
  have key : ∃ kvs p d k0, ditems ox = some kvs ∧ o1 = .pl p ∧ o2 = .pl d ∧ keyP p = some k0 ∧ o = .pl ((lookP k0 kvs).getD d) := by
    have fin : ∀ {kvs : List (P × P)} {p d : P}, getP kvs d (keyP p) = some o → ∃ k0, keyP p = some k0 ∧ o = .pl ((lookP k0 kvs).getD d) := by
      intro kvs p d hr
      cases hk : keyP p with
      | none => rw [hk] at hr; cases hr
      | some k0 => rw [hk] at hr; cases hr; exact ⟨k0, rfl, rfl⟩
    unfold methO at hr
    split at hr
    · rename_i kvs p d _ hos
      injection hos with h3 h4
      injection h4 with h4 _
      obtain ⟨k0, h5, h6⟩ := fin hr
      exact ⟨kvs, p, d, k0, rfl, h3, h4, h5, h6⟩
    · rename_i kvs p d _ hos
      injection hos with h3 h4
      injection h4 with h4 _
      obtain ⟨k0, h5, h6⟩ := fin hr
      exact ⟨kvs, p, d, k0, rfl, h3, h4, h5, h6⟩
    all_goals first | (cases hr; done) | (exfalso; simp_all; done)
  obtain ⟨kvs, p, d, k0, hd, rfl, rfl, hk, rfl⟩ := key
  have st : starEach [e1, e2] X.env = [(false, eval e1 X.env), (false, eval e2 X.env)] := by rw [star_cons hn1, star_cons hn2]; rfl
  have bt : backTo cp (starEach [e1, e2] X.env) = [(false, eval e1 X.env), (false, eval e2 X.env)] := by rw [st]; rfl
  refine ⟨_, pe_dget2 hu wE_ok wE_ok wE_ok ⟨base_ok hb, by rw [bt]; rfl, hl, bt⟩, h w re fun v B1 H1 f s r => ?_⟩
  obtain ⟨a, us, rfl, rd, rp⟩ := r.dits s.bh hd
  refine ⟨a, rfl, .inl ⟨us, rd⟩, ?_⟩
  · refine h1 (w.stp s re.has) (re.stp s) fun v2 B2 H2 f2 s2 r2 => h2 (w.stp (s.trans s2) re.has) (re.stp (s.trans s2)) fun v3 B3 H3 f3 s3 r3 => ?_
    have s23 := s2.trans s3
    have g := rp.mono s23.b
    refine ⟨valV us k0, .inl ⟨us, k0, s23.h.rd rd, keyV r2.p hk, rfl⟩, (q.stp (s.trans s23)).pl s23.bh ?_⟩
    obtain ⟨g1, g2, _⟩ := g.look k0
    cases z : lookP k0 kvs with
    | none => rw [g2 z]; exact r3.p
    | some p' =>
      obtain ⟨v', e1, e2⟩ := g1 p' z
      rw [e1]
      exact e2
end G

set_option maxRecDepth 100000
/-! more words: list(range(..)), a constant's index, methods of texts -/
namespace G
open PySem L2
theorem o1_some' {α β : Type} {f : α → Option β} {x : Option α} {y : β} (h : o1 f x = some y) : ∃ a, x = some a ∧ f a = some y := by
  cases x with
  | none => cases h
  | some a => exact ⟨a, rfl, h⟩
theorem RPs.strs {K : PySem.W.Frag} {B : Hp} {vs : List V} {ps : List P} (q : RPs K B vs ps) : ∀ {ns : List Str}, strsP ps = some ns → vs = ns.map V.str := by
  induction ps generalizing vs with
  | nil => intro ns h; cases q; rw [strsP] at h; cases h; rfl
  | cons p ps ih =>
    intro ns h
    cases q with
    | cons r1 r2 =>
      unfold strsP at h
      split at h
      · rename_i e
        cases e
      · rename_i i ps' e
        injection e with e1 e2
        subst e1
        subst e2
        cases z : strsP ps with
        | none => rw [z] at h; cases h
        | some ms =>
          rw [z] at h
          cases h
          rw [ih r2 z]
          cases r1
          rfl
      · cases h
theorem rg_rps {K : PySem.W.Frag} {B : Hp} (a n : Int) : RPs K B ((List.range n.toNat).map fun i => V.int (a + (i : Nat))) (rangeP a n) := by
  unfold rangeP
  generalize List.range n.toNat = l
  induction l with
  | nil => exact .nil
  | cons k l ih => exact .cons .int ih
theorem joinO_some {a : Str} {z : Option (List Str)} {o : O} (h : joinO a z = some o) : ∃ ys, z = some ys ∧ (ys.map (·.length)).sum + ys.length * a.length ≤ 16777216 ∧ o = .pl (.str (Txt.join a ys)) := by
  unfold joinO at h
  split at h
  · split at h
    · rename_i c
      cases h
      exact ⟨_, rfl, c, rfl⟩
    · cases h
  · cases h
section
variable {T : Tb} {N : List Str} {sc so : Scope} {k : Nat} {X : Cx} {c : Ct}
theorem strM2_some {g : Str → Str → P} {x y o : O} (h : strM2 g x y = some o) : ∃ a b, x = .pl (.str a) ∧ y = .pl (.str b) ∧ o = .pl (g a b) := by
  unfold strM2 at h
  split at h
  · cases h
    exact ⟨_, _, rfl, rfl, rfl⟩
  · cases h
theorem joinM_some {x y o : O} (h : joinM x y = some o) : ∃ a ps ys, x = .pl (.str a) ∧ seqI y = some ps ∧ strsP ps = some ys ∧ (ys.map (·.length)).sum + ys.length * a.length ≤ 16777216 ∧ o = .pl (.str (Txt.join a ys)) := by
  unfold joinM at h
  split at h
  · obtain ⟨ys, h1, h2, h3⟩ := joinO_some h
    obtain ⟨ps, h4, h5⟩ := o1_some' h1
    exact ⟨_, ps, ys, rfl, h4, h5, h2, h3⟩
  · cases h
theorem SL.ext {K : PySem.W.Frag} {H H' : Hp} {a : Addr} {xs : List V} (h : SL K H a xs) (e : Ext H H') : SL K H' a xs := by
  rcases h with h | h
  · exact .inl (e.rd h)
  · exact .inr h
theorem cntM_some {x y o : O} (h : cntM x y = some o) : (∃ a b, x = .pl (.str a) ∧ y = .pl (.str b) ∧ o = .pl (.int (Txt.count a b))) ∨ ∃ ps ns k, litems x = some ps ∧ intsP ps = some ns ∧ y = .pl (.int k) ∧ o = .pl (.int (ns.count k : Nat)) := by
  unfold cntM at h
  split at h
  · cases h
    exact .inl ⟨_, _, rfl, rfl, rfl⟩
  · rename_i k
    cases z : litems x with
    | none => rw [z] at h; cases h
    | some ps =>
      rw [z] at h
      have h : cntI k (intsP ps) = some o := h
      cases z2 : intsP ps with
      | none => rw [z2] at h; cases h
      | some ns =>
        rw [z2] at h
        cases h
        exact .inr ⟨ps, ns, k, rfl, z2, rfl, rfl⟩
  · cases h
theorem snd_m1 (hx : XOk T c N sc so k X) {env : Env} {m : MI} {l e1 : Expr} {ap cp : Pos} {ox o o1 : O} (hm : m1B m = true) (hb : baseB l = true) (hl : (ap.endLine == cp.line) = true) (hn1 : nst e1 = true)
    (h : SndO X env l ox) (h1 : SndO X env e1 o1) (hr : methO m ox [o1] = some o) : Snd X env (.Call (.Attribute l (miN m) ap) [e1] [] cp) o := fun _ _ _ _ _ w re q => by
  have st : starEach [e1] X.env = [(false, eval e1 X.env)] := star_cons hn1
  cases m
  case find =>
    obtain ⟨a, b, rfl, rfl, rfl⟩ := strM2_some hr
    exact ⟨_, pe_m1 PySem.F.slot_str_find PySem.F.type_str_find mt_find wE_ok wE_ok st (base_ok hb) hl, h w re fun v B1 H1 f s r => ⟨⟨a, r.s⟩, h1 (w.stp s re.has) (re.stp s) fun v2 B2 H2 f2 s2 r2 => ⟨a, b, r.s, by rw [r2.s], (q.stp (s.trans s2)).pl s2.bh .int⟩⟩⟩
  case count =>
    rcases cntM_some hr with ⟨a, b, rfl, rfl, rfl⟩ | ⟨ps, ns, i, z1, z2, rfl, rfl⟩
    · exact ⟨_, pe_m1 PySem.F.slot_str_count PySem.F.type_str_count mt_count wE_ok wE_ok st (base_ok hb) hl, h w re fun v B1 H1 f s r => ⟨⟨a, r.s⟩, h1 (w.stp s re.has) (re.stp s) fun v2 B2 H2 f2 s2 r2 => ⟨a, b, r.s, by rw [r2.s], (q.stp (s.trans s2)).pl s2.bh .int⟩⟩⟩
    · have few : ((backTo cp (starEach (e1 :: []) X.env)).all (fun x => !x.1) && (backToKw cp (keywordEach [] X.env)).all (fun x => x.1.isSome) && decide ((e1 :: []).length + ([] : List Keyword).length + (if ([] : List Keyword).isEmpty then 0 else 1) < 30)) = true := by rw [star_cons hn1]; rfl
      refine ⟨_, pe_bm PySem.F.plainAttrs_list PySem.F.slot_list_count PySem.F.type_list_count mt_lcount wE_ok wA_ok (base_ok hb) few hl (star_cons hn1), h w re fun v B1 H1 f s r => ?_⟩
      obtain ⟨a, vs, rfl, hs, hv⟩ := r.lits s.bh z1
      rw [hv.ints z2] at hs
      exact ⟨.inl ⟨rfl, _, hs.sq⟩, wA_one hn1 (h1 (w.stp s re.has) (re.stp s) fun v2 B2 H2 f2 s2 r2 => ⟨a, ns, i, rfl, by rw [r2.i], (hs.ext s2.h).sq, (q.stp (s.trans s2)).pl s2.bh .int⟩)⟩
  case join =>
    obtain ⟨a, ps, ys, rfl, h2, h3, h4, rfl⟩ := joinM_some hr
    refine ⟨_, pe_m1 PySem.F.slot_str_join PySem.F.type_str_join mt_join wE_ok wE_ok st (base_ok hb) hl, h w re fun v B1 H1 f s r => ⟨⟨a, r.s⟩, h1 (w.stp s re.has) (re.stp s) fun v2 B2 H2 f2 s2 r2 => ?_⟩⟩
    obtain ⟨p, vs, rfl, hs, hv⟩ := r2.seqs s2.bh h2
    have e := hv.strs h3
    subst e
    exact ⟨a, p, ys, r.s, rfl, hs, h4, (q.stp (s.trans s2)).pl s2.bh .str⟩
  all_goals cases hm
theorem gixO_some {z : Option P} {x o : O} (h : gixO z x = some o) : ∃ xs ys s j, z = some (.tuple xs) ∧ x = .pl (.str s) ∧ strsP xs = some ys ∧ plcS1 s ys = some j ∧ o = .pl (.int (j : Nat)) := by
  unfold gixO at h
  split at h
  · rename_i xs s
    cases z : o1 (plcS1 s) (strsP xs) with
    | none => rw [z] at h; cases h
    | some j =>
      rw [z] at h
      cases h
      obtain ⟨ys, h1, h2⟩ := o1_some' z
      exact ⟨xs, ys, s, j, rfl, rfl, h1, h2, rfl⟩
  · cases h
theorem snd_gix (hx : XOk T c N sc so k X) {env : Env} {g : Nat} {x : Str} {p ap cp : Pos} {e1 : Expr} {o o1 : O} (hl : (ap.endLine == cp.line) = true) (hn : gnB sc (T.gn g) x = true) (hn1 : nst e1 = true) (h1 : SndO X env e1 o1) (hr : gixO (c.gl g) o1 = some o) :
    Snd X env (.Call (.Attribute (.Name x p) "index" ap) [e1] [] cp) o := fun _ _ _ _ _ w re q => by
  obtain ⟨xs, ys, s, j, z1, rfl, z2, z3, rfl⟩ := gixO_some hr
  obtain ⟨k1, k2, k3⟩ := gn_ok hn
  obtain ⟨u, v, m1, m2, _, m4⟩ := hx.gls g x _ k1 z1
  obtain ⟨a, ob, rfl, l1, l2, l3, vs, ⟨its, n, l4, l5, l6⟩, l7⟩ := m4 xs rfl
  have e := (l7 (fun _ => none)).strs z2
  subst e
  obtain ⟨hj, y1, y2⟩ := List.findIdx?_eq_some_iff_getElem.mp z3
  refine ⟨_, pe_bm PySem.F.plainAttrs_tuple PySem.F.slot_tuple_index PySem.F.type_tuple_index mt_tup_index (pe_glob (gl_ok hx hn) m1 m2 k3) wA_ok rfl (by rw [star_cons hn1]; rfl) hl (star_cons hn1), ?_⟩
  refine ⟨.inr (.inl ⟨rfl, ob, l1, l2, l3⟩), wA_one hn1 (h1 w re fun v B1 H1 f s1 r => ⟨a, ys, s, j, rfl, by rw [r.s], .inr ⟨ob, its, n, l1, l2, l4, l5, l6⟩, ?_, ?_, (q.stp s1).pl s1.bh .int⟩)⟩
  · rw [List.getElem?_eq_getElem hj]
    exact congrArg some (of_decide_eq_true y1)
  · intro i hi z
    have hil : i < ys.length := by omega
    rw [List.getElem?_eq_getElem hil] at z
    exact y2 i hi (decide_eq_true (Option.some.inj z))
theorem lrgO_some {x y o : O} (h : lrgO x y = some o) : ∃ i j, x = .pl (.int i) ∧ y = .pl (.int j) ∧ RgOk i j ∧ o = .fl (rangeP i (j - i)) := by
  unfold lrgO at h
  split at h
  · split at h
    · rename_i c
      cases h
      exact ⟨_, _, rfl, rfl, RgOk.of_le c.1 c.2.2.2 c.2.1 c.2.2.1, rfl⟩
    · cases h
  · cases h
theorem snd_lrg1 (hx : XOk T c N sc so k X) {env : Env} {x y : Str} {p p2 p3 pos : Pos} {e : Expr} {oe o : O} (h1 : gnB sc (some "list") x = true) (h2 : gnB sc (some "range") y = true) (hn : nst e = true) (h : Snd X env e oe) (hr : lrgO (.pl (.int 0)) oe = some o) :
    Snd X env (.Call (.Name x p) [.Call (.Name y p2) [e] [] p3] [] pos) o := fun _ _ _ _ _ w re q => by
  have g1 := gl_ok hx h1
  have g2 := gl_ok hx h2
  obtain ⟨a1, _, _⟩ := gn_ok h1
  obtain ⟨b1, _, _⟩ := gn_ok h2
  cases a1
  cases b1
  obtain ⟨i, j, e1, rfl, ok, rfl⟩ := lrgO_some hr
  cases e1
  refine ⟨_, pe_listRg hx.calm g1 (hx.blt .list) (prg_1 g2 hx.rng wE_ok (star_cons hn)) (star_cons rfl), h w re fun v B1 H1 f s r _ => ⟨j, by rw [r.i], ok, fun l hl => (q.stp s).fl s.bh (rg_rps 0 (j - 0)) l hl⟩⟩
theorem snd_lrg2 (hx : XOk T c N sc so k X) {env : Env} {x y : Str} {p p2 p3 pos : Pos} {e1 e2 : Expr} {oa ob o : O} (h1 : gnB sc (some "list") x = true) (h2 : gnB sc (some "range") y = true) (hn1 : nst e1 = true) (hn2 : nst e2 = true) (ha : Snd X env e1 oa) (hb : Snd X env e2 ob) (hr : lrgO oa ob = some o) :
    Snd X env (.Call (.Name x p) [.Call (.Name y p2) [e1, e2] [] p3] [] pos) o := fun _ _ _ _ _ w re q => by
  have g1 := gl_ok hx h1
  have g2 := gl_ok hx h2
  obtain ⟨a1, _, _⟩ := gn_ok h1
  obtain ⟨b1, _, _⟩ := gn_ok h2
  cases a1
  cases b1
  obtain ⟨i, j, rfl, rfl, ok, rfl⟩ := lrgO_some hr
  exact ⟨_, pe_listRg hx.calm g1 (hx.blt .list) (prg_2 g2 hx.rng wE_ok wE_ok (star_cons hn1) (star_cons hn2) (star_any (by simp [hn2]))) (star_cons rfl), ha w re fun v B1 H1 f s r _ => hb (w.stp s re.has) (re.stp s) fun v2 B2 H2 f2 s2 r2 _ => ⟨i, j, by rw [r.i], by rw [r2.i], ok, fun l hl => (q.stp (s.trans s2)).fl s2.bh (rg_rps i (j - i)) l hl⟩⟩
end
end G

set_option maxRecDepth 100000
namespace G
open PySem L2
variable {T : Tb} {N : List Str} {c : Ct}
section
variable {sc : Scope} {x : Expr}
theorem chk_var {i : Nat} (h : chk T N sc (.var i) x = true) : ∃ n p, x = .Name n p ∧ nameB N sc i n = true := by
  unfold chk at h
  split at h <;> first | (rename_i e; cases e <;> exact ⟨_, _, rfl, h⟩) | cases h
theorem chk_lit {q : P} (h : chk T N sc (.lit q) x = true) : ∃ n j p, x = .Constant n j p ∧ litB q n = true := by
  unfold chk at h
  split at h <;> first | (rename_i e; cases e <;> exact ⟨_, _, _, rfl, h⟩) | cases h
theorem chk_glob {g : Nat} (h : chk T N sc (.glob g) x = true) : ∃ n p, x = .Name n p ∧ gnB sc (T.gn g) n = true := by
  unfold chk at h
  split at h <;> first | (rename_i e; cases e <;> exact ⟨_, _, rfl, h⟩) | cases h
theorem chk_bin {op : Operator} {a b : Ex} (h : chk T N sc (.bin op a b) x = true) : ∃ l r p, x = .BinOp l op r p ∧ chk T N sc a l = true ∧ chk T N sc b r = true := by
  unfold chk at h
  split at h <;> first | (rename_i e; cases e <;> (rw [Bool.and_eq_true, Bool.and_eq_true, decide_eq_true_eq] at h; obtain ⟨⟨rfl, h1⟩, h2⟩ := h; exact ⟨_, _, _, rfl, h1, h2⟩)) | cases h
theorem chk_neg {a : Ex} (h : chk T N sc (.neg a) x = true) : ∃ l p, x = .UnaryOp .USub l p ∧ chk T N sc a l = true := by
  unfold chk at h
  split at h <;> first | (rename_i e; cases e <;> exact ⟨_, _, rfl, h⟩) | cases h
theorem chk_not {a : Ex} (h : chk T N sc (.not a) x = true) : ∃ l p, x = .UnaryOp .Not l p ∧ chk T N sc a l = true := by
  unfold chk at h
  split at h <;> first | (rename_i e; cases e <;> exact ⟨_, _, rfl, h⟩) | cases h
theorem chk_and {a b : Ex} (h : chk T N sc (.and a b) x = true) : ∃ l r s p, x = .BoolOp .And (l :: r :: s) p ∧ chk T N sc a l = true ∧ ((s = [] ∧ chk T N sc b r = true) ∨ chk T N sc b (.BoolOp .And (r :: s) p) = true) := by
  unfold chk at h
  split at h <;> first | (rename_i e; cases e <;> (rw [Bool.and_eq_true] at h; obtain ⟨h1, h2⟩ := h; refine ⟨_, _, _, _, rfl, h1, ?_⟩; split at h2 <;> first | exact .inl ⟨rfl, h2⟩ | exact .inr h2)) | cases h
theorem chk_or {a b : Ex} (h : chk T N sc (.or a b) x = true) : ∃ l r s p, x = .BoolOp .Or (l :: r :: s) p ∧ chk T N sc a l = true ∧ ((s = [] ∧ chk T N sc b r = true) ∨ chk T N sc b (.BoolOp .Or (r :: s) p) = true) := by
  unfold chk at h
  split at h <;> first | (rename_i e; cases e <;> (rw [Bool.and_eq_true] at h; obtain ⟨h1, h2⟩ := h; refine ⟨_, _, _, _, rfl, h1, ?_⟩; split at h2 <;> first | exact .inl ⟨rfl, h2⟩ | exact .inr h2)) | cases h
theorem chk_cmp {op : CmpOp} {a b : Ex} (h : chk T N sc (.cmp op a b) x = true) : ∃ l r p, x = .Compare l [op] [r] p ∧ chk T N sc a l = true ∧ chk T N sc b r = true := by
  unfold chk at h
  split at h <;> first | (rename_i e; cases e <;> (rw [Bool.and_eq_true, Bool.and_eq_true, decide_eq_true_eq] at h; obtain ⟨⟨rfl, h1⟩, h2⟩ := h; exact ⟨_, _, _, rfl, h1, h2⟩)) | cases h
theorem chk_chain {o1 o2 : CmpOp} {a b d : Ex} (h : chk T N sc (.chain o1 o2 a b d) x = true) : ∃ l m r p, x = .Compare l [o1, o2] [m, r] p ∧ chk T N sc a l = true ∧ chk T N sc b m = true ∧ chk T N sc d r = true ∧ noIn o1 = true ∧ noIn o2 = true := by
  unfold chk at h
  split at h <;> first | (rename_i e; cases e <;> (simp only [Bool.and_eq_true, decide_eq_true_eq] at h; obtain ⟨⟨⟨⟨⟨⟨n1, n2⟩, rfl⟩, rfl⟩, h1⟩, h2⟩, h3⟩ := h; exact ⟨_, _, _, _, rfl, h1, h2, h3, n1, n2⟩)) | cases h
theorem chk_ife {t a b : Ex} (h : chk T N sc (.ife t a b) x = true) : ∃ u l r p, x = .IfExp u l r p ∧ chk T N sc t u = true ∧ chk T N sc a l = true ∧ chk T N sc b r = true := by
  unfold chk at h
  split at h <;> first | (rename_i e; cases e <;> (simp only [Bool.and_eq_true] at h; obtain ⟨⟨h1, h2⟩, h3⟩ := h; exact ⟨_, _, _, _, rfl, h1, h2, h3⟩)) | cases h
theorem chk_lst {es : Exs} (h : chk T N sc (.lst es) x = true) : ∃ l p, x = .List l p ∧ chks T N sc es l = true := by
  unfold chk at h
  split at h <;> first | (rename_i e; cases e <;> exact ⟨_, _, rfl, h⟩) | cases h
theorem chk_tup {es : Exs} (h : chk T N sc (.tup es) x = true) : ∃ l k p, x = .Tuple l k p ∧ chks T N sc es l = true := by
  unfold chk at h
  split at h <;> first | (rename_i e; cases e <;> exact ⟨_, _, _, rfl, h⟩) | cases h
theorem chk_dct {ks vs : Exs} (h : chk T N sc (.dct ks vs) x = true) : ks = .nil ∧ vs = .nil ∧ ∃ p, x = .Dict [] [] p := by
  unfold chk at h
  split at h <;> first | (rename_i e; cases e <;> exact ⟨rfl, rfl, _, rfl⟩) | cases h
theorem chk_idx {a i : Ex} (h : chk T N sc (.idx a i) x = true) : ∃ l r p, x = .Subscript l r p ∧ chk T N sc a l = true ∧ chk T N sc i r = true := by
  unfold chk at h
  split at h <;> first | (rename_i e; cases e <;> (rw [Bool.and_eq_true] at h; exact ⟨_, _, _, rfl, h.1, h.2⟩)) | cases h
theorem chk_slc {a : Ex} {lo hi : Ox} (h : chk T N sc (.slc a lo hi) x = true) : ∃ l u v p q, x = .Subscript l (.Slice u v none p) q ∧ chk T N sc a l = true ∧ chkX T N sc lo u = true ∧ chkX T N sc hi v = true := by
  unfold chk at h
  split at h <;> first | (rename_i e; cases e <;> (rw [Bool.and_eq_true, Bool.and_eq_true] at h; exact ⟨_, _, _, _, _, rfl, h.1.1, h.1.2, h.2⟩)) | cases h
theorem chk_call {f : Nat} {es : Exs} (h : chk T N sc (.call f es) x = true) : ∃ n p l q, x = .Call (.Name n p) l [] q ∧ gnB sc (T.fn f) n = true ∧ chks T N sc es l = true := by
  unfold chk at h
  split at h <;> first | (rename_i e; cases e <;> first | exact ⟨_, _, _, _, rfl, h, by rw [chks]⟩ | (rw [Bool.and_eq_true] at h; exact ⟨_, _, _, _, rfl, h.1, h.2⟩)) | cases h
theorem chk_bi {b : BI} {es : Exs} (h : chk T N sc (.bi b es) x = true) : ∃ n p e l q, x = .Call (.Name n p) (e :: l) [] q ∧ gnB sc (some (biN b)) n = true ∧ chks T N sc es (e :: l) = true := by
  unfold chk at h
  split at h <;> first | (rename_i e; cases e <;> (rw [Bool.and_eq_true] at h; exact ⟨_, _, _, _, _, rfl, h.1, h.2⟩)) | cases h
theorem chk_isi {a : Ex} {ts : List Ty} (h : chk T N sc (.isi a ts) x = true) : ∃ n p e t q, x = .Call (.Name n p) [e, t] [] q ∧ gnB sc (some "isinstance") n = true ∧ chk T N sc a e = true ∧ tyArg sc ts t = true ∧ ts.length ≤ 1000 := by
  unfold chk at h
  split at h <;> first | (rename_i e; cases e <;> (simp only [Bool.and_eq_true, decide_eq_true_eq] at h; obtain ⟨⟨⟨h0, h1⟩, h2⟩, h3⟩ := h; exact ⟨_, _, _, _, _, rfl, h1, h2, h3, h0⟩)) | cases h
theorem chk_sh {a : Ex} (h : chk T N sc (.sh a) x = true) : ∃ f args kws p, x = .Call f args kws p ∧ chk T N sc a (.Call f args kws p) = true := by
  unfold chk at h
  split at h <;> first | (rename_i e; cases e <;> exact ⟨_, _, _, _, rfl, h⟩) | cases h
theorem chk_lrg1 {a : Ex} (h : chk T N sc (.lrg1 a) x = true) : ∃ n p m q e r s, x = .Call (.Name n p) [.Call (.Name m q) [e] [] r] [] s ∧ gnB sc (some "list") n = true ∧ gnB sc (some "range") m = true ∧ chk T N sc a e = true := by
  unfold chk at h
  split at h <;> first | (rename_i e; cases e <;> (simp only [Bool.and_eq_true] at h; obtain ⟨⟨h1, h2⟩, h3⟩ := h; exact ⟨_, _, _, _, _, _, _, rfl, h1, h2, h3⟩)) | cases h
theorem chk_lrg2 {a b : Ex} (h : chk T N sc (.lrg2 a b) x = true) : ∃ n p m q e f r s, x = .Call (.Name n p) [.Call (.Name m q) [e, f] [] r] [] s ∧ gnB sc (some "list") n = true ∧ gnB sc (some "range") m = true ∧ chk T N sc a e = true ∧ chk T N sc b f = true := by
  unfold chk at h
  split at h <;> first | (rename_i e; cases e <;> (simp only [Bool.and_eq_true] at h; obtain ⟨⟨⟨h1, h2⟩, h3⟩, h4⟩ := h; exact ⟨_, _, _, _, _, _, _, _, rfl, h1, h2, h3, h4⟩)) | cases h
theorem chk_gix {g : Nat} {a : Ex} (h : chk T N sc (.gix g a) x = true) : ∃ n p ap e cp, x = .Call (.Attribute (.Name n p) "index" ap) [e] [] cp ∧ (ap.endLine == cp.line) = true ∧ gnB sc (T.gn g) n = true ∧ chk T N sc a e = true := by
  unfold chk at h
  split at h <;> first | (rename_i e; cases e <;> (simp only [Bool.and_eq_true, decide_eq_true_eq] at h; obtain ⟨⟨⟨rfl, h1⟩, h2⟩, h3⟩ := h; exact ⟨_, _, _, _, _, rfl, h1, h2, h3⟩)) | cases h
theorem chk_meth {m : MI} {a : Ex} {es : Exs} (h : chk T N sc (.meth m a es) x = true) : (m1B m = true ∧ ∃ e1 l ap f1 cp, es = .cons e1 .nil ∧ x = .Call (.Attribute l (miN m) ap) [f1] [] cp ∧ baseB l = true ∧ (ap.endLine == cp.line) = true ∧ chk T N sc a l = true ∧ chk T N sc e1 f1 = true) ∨ m = .get ∧ ∃ e1 e2 l ap f1 f2 cp, es = .cons e1 (.cons e2 .nil) ∧ x = .Call (.Attribute l (miN .get) ap) [f1, f2] [] cp ∧ baseB l = true ∧ (ap.endLine == cp.line) = true ∧ chk T N sc a l = true ∧ chk T N sc e1 f1 = true ∧ chk T N sc e2 f2 = true := by
  unfold chk at h
  split at h <;> first | (rename_i e; cases e <;> (simp only [Bool.and_eq_true, decide_eq_true_eq] at h; first | (obtain ⟨⟨⟨⟨⟨rfl, h1⟩, h2⟩, h3⟩, h4⟩, h5⟩ := h; exact .inr ⟨rfl, _, _, _, _, _, _, _, rfl, rfl, h1, h2, h3, h4, h5⟩) | (obtain ⟨⟨⟨⟨⟨h0, rfl⟩, h2⟩, h3⟩, h4⟩, h5⟩ := h; exact .inl ⟨h0, _, _, _, _, _, rfl, rfl, h2, h3, h4, h5⟩))) | cases h
theorem chk_lc {own : List Nat} {tg : Tg} {it : It} {cd : Ox} {e : Ex} (h : chk T N sc (.lc own tg it cd e) x = true) : ∃ el t i ifs scope p, x = .ListComp el [⟨t, i, ifs, 0⟩] scope p ∧ ownB N sc scope own = true ∧ own = tgIs tg ∧ chkTg (relS scope sc) scope N tg t = true ∧ chkI T N sc it t i = true ∧ ((cd = .none ∧ ifs = []) ∨ ∃ d f, cd = .some d ∧ ifs = [f] ∧ chk T N (relS scope sc) d f = true) ∧ chk T N (relS scope sc) e el = true := by
  unfold chk at h
  split at h <;> first | (rename_i e; cases e <;> (simp only [Bool.and_eq_true, decide_eq_true_eq] at h; obtain ⟨⟨⟨⟨⟨h1, h2⟩, h3⟩, h4⟩, h5⟩, h6⟩ := h; refine ⟨_, _, _, _, _, _, rfl, h1, h2, h3, h4, ?_, h6⟩; split at h5 <;> first | exact .inl ⟨rfl, rfl⟩ | exact .inr ⟨_, _, rfl, rfl, h5⟩ | cases h5)) | cases h
theorem chk_fld {i : Nat} {f : Str} (h : chk T N sc (.fld i f) x = true) : ∃ n p q, x = .Attribute (.Name n p) f q ∧ nameB N sc i n = true := by
  unfold chk at h
  split at h <;> first | (rename_i e; cases e <;> (rw [Bool.and_eq_true, decide_eq_true_eq] at h; obtain ⟨rfl, h1⟩ := h; exact ⟨_, _, _, rfl, h1⟩)) | cases h
theorem chk_el {j : Nat} {m : Int} (h : chk T N sc (.el j m) x = true) : ∃ n p c a b q, x = .Subscript (.Name n p) (.Constant c a b) q ∧ nameB N sc j n = true ∧ litB (.int m) c = true := by
  unfold chk at h
  split at h <;> first | (rename_i e; cases e <;> (rw [Bool.and_eq_true] at h; exact ⟨_, _, _, _, _, _, rfl, h.1, h.2⟩)) | cases h
theorem chk_idx2 {j : Nat} {k i : Ex} (h : chk T N sc (.idx2 j k i) x = true) : ∃ n p l r q s, x = .Subscript (.Subscript (.Name n p) l q) r s ∧ nameB N sc j n = true ∧ chk T N sc k l = true ∧ chk T N sc i r = true := by
  unfold chk at h
  split at h <;> first | (rename_i e; cases e <;> (rw [Bool.and_eq_true, Bool.and_eq_true] at h; exact ⟨_, _, _, _, _, _, rfl, h.1.1, h.1.2, h.2⟩)) | cases h
theorem chk_mov {i : Nat} (h : chk T N sc (.mov i) x = true) : False := by
  unfold chk at h; cases h
end
end G

set_option maxRecDepth 100000
namespace G
open PySem L2
variable {T : Tb} {N : List Str} {c : Ct}
/-! ### a conditional as a test -/
section
open PySem.Spec PyProof PyProof.Rows
theorem pt_ife {X : Cx} {u a b : Expr} {pos : Pos} {tu ta tb : TT} (hc : PT X u tu) (ha : PT X a ta) (hb : PT X b tb) : PT X (.IfExp u a b pos) (fun σ H Q => tu σ H fun c H1 => if c = true then ta σ H1 Q else tb σ H1 Q) := by
  refine ⟨fun pins s σ H Q I h => ?_⟩
  refine isTrue_IfExp (thn (hc.run pins s σ H _ I h) fun d s1 ⟨H1, I1, q1⟩ => ?_)
  cases d with
  | true => exact ha.run pins s1 σ H1 Q I1 q1
  | false => exact hb.run pins s1 σ H1 Q I1 q1
end
theorem snt_ife {X : Cx} {env : Env} {t l r : Expr} {pos : Pos} {b d : Bool} (h : SndT X env t b) (h1 : b = true → SndT X env l d) (h2 : b = false → SndT X env r d) : SndT X env (.IfExp t l r pos) d := fun _ _ _ _ _ w re q =>
  ⟨_, pt_ife wT_ok wT_ok wT_ok, h w re fun B' H' s => by
    cases b with
    | true => exact iteT (h1 rfl (w.stp s re.has) (re.stp s) fun B2 H2 s2 => q _ _ (s.trans s2))
    | false => exact iteF (h2 rfl (w.stp s re.has) (re.stp s) fun B2 H2 s2 => q _ _ (s.trans s2))⟩
/-! ### an expression whose test is the truth of its value -/
def tstB : Expr → Bool
  | .BoolOp .. => false
  | .UnaryOp .Not _ _ => false
  | .IfExp .. => false
  | .Compare .. => false
  | _ => true
theorem tst_ok {x : Expr} (h : tstB x = true) {env : PySem.Env} : ∀ whole, isTrue x env whole = (do let v ← whole; standAt x.pos; holding [v] (truthy v)) := by
  cases x
  case UnaryOp op a p => cases op <;> first | (intro _; rfl) | cases h
  all_goals first | (intro _; rfl) | cases h
structure GE (T : Tb) (N : List Str) (c : Ct) (e : Ex) : Prop where
  r : ∀ {X : Cx} {sc so : Scope} {k : Nat} {env : Env} {x : Expr} {o : O}, XOk T c N sc so k X → chk T N sc e x = true → evR c env e = some o → Snd X env x o
  t : ∀ {X : Cx} {sc so : Scope} {k : Nat} {env : Env} {x : Expr} {b : Bool}, XOk T c N sc so k X → chk T N sc e x = true → evR c env e = some (.pl (.bool b)) → SndT X env x b
  w : ∀ {X : Cx} {sc so : Scope} {k : Nat} {env : Env} {op : BoolOp} {l : List Expr} {p : Pos} {b : Bool}, XOk T c N sc so k X → chk T N sc e (.BoolOp op l p) = true → evR c env e = some (.pl (.bool b)) → SndW X env (.BoolOp op l p) b
theorem ge_mk {e : Ex} (ht : ∀ {sc : Scope} {x : Expr}, chk T N sc e x = true → tstB x = true) (r : ∀ {X : Cx} {sc so : Scope} {k : Nat} {env : Env} {x : Expr} {o : O}, XOk T c N sc so k X → chk T N sc e x = true → evR c env e = some o → Snd X env x o) : GE T N c e :=
  ⟨r, fun hx hc he => snt_val (r hx hc he) (tst_ok (ht hc)), fun hx hc he => by cases ht hc⟩
variable {X : Cx} {sc so : Scope} {k : Nat} {env : Env} {x : Expr} {ou : O}
theorem GE.ro {e : Ex} (g : GE T N c e) (hx : XOk T c N sc so k X) (hc : chk T N sc e x = true) (he : evR c env e = some ou) : SndO X env x ou := by
  have z : Snd X env x ou := g.r hx hc he
  exact z.o
theorem GE.o {e : Ex} (g : GE T N c e) (hx : XOk T c N sc so k X) (hc : chk T N sc e x = true) (he : opnd env e (evR c env e) = some ou) : SndO X env x ou := by
  cases e
  case var i =>
    obtain ⟨n, p, rfl, h⟩ := chk_var hc
    exact sno_var hx h he
  case fld i f =>
    obtain ⟨n, p, q, rfl, h⟩ := chk_fld hc
    have he' : o1 (fldO f) (slot env i) = some ou := he
    cases z : slot env i with
    | none => rw [z] at he'; cases he'
    | some u => rw [z] at he'; exact sno_fld hx h z he'
  case el j m =>
    obtain ⟨n, p, cc, a, b, q, rfl, h, h2⟩ := chk_el hc
    have hl : chk T N sc (.lit (.int m)) (.Constant cc a b) = true := by
      rw [chk]
      exact h2
    have he' : o1 (fun u => elO u (.pl (.int m))) (slot env j) = some ou := he
    cases z : slot env j with
    | none => rw [z] at he'; cases he'
    | some u =>
      rw [z] at he'
      have sl : Snd X env (.Constant cc a b) (.pl (.int m)) := snd_lit h2
      exact sno_el hx h z (plainIx_ok hl) sl.o he'
  all_goals exact g.ro hx hc he
theorem o1_some {α β : Type} {f : α → Option β} {x : Option α} {y : β} (h : o1 f x = some y) : ∃ a, x = some a ∧ f a = some y := by
  cases x with
  | none => cases h
  | some a => exact ⟨a, rfl, h⟩
theorem lendS_some {s : Option O} {p : P} {b : Bool} (h : lendS s = some (p, b)) : ∃ o, s = some o ∧ ((o = .pl p ∧ b = false) ∨ (fz o = some p ∧ b = true)) := by
  unfold lendS at h
  split at h
  · cases h; exact ⟨_, rfl, .inl ⟨rfl, rfl⟩⟩
  · rename_i o _
    refine ⟨o, rfl, .inr ?_⟩
    unfold lendQ at h
    split at h
    · cases h; exact ⟨by assumption, rfl⟩
    · cases h
  · cases h
theorem lendE_some {s : Option O} {p : P} {b : Bool} (h : lendE s = some (p, b)) : ∃ o, s = some o ∧ fz o = some p ∧ b = false := by
  unfold lendE at h
  split at h
  · rename_i o
    refine ⟨o, rfl, ?_⟩
    unfold lendQ at h
    split at h
    · cases h; exact ⟨by assumption, rfl⟩
    · cases h
  · cases h
theorem GE.ln {e : Ex} (g : GE T N c e) (hx : XOk T c N sc so k X) (hc : chk T N sc e x = true) {p : P} {b : Bool} (he : lend env e (evR c env e) = some (p, b)) : SndL X env x p b := by
  have gen : lendE (evR c env e) = some (p, b) → SndL X env x p b := fun h => by
    obtain ⟨o, h1, h2, rfl⟩ := lendE_some h
    have z : Snd X env x o := g.r hx hc h1
    exact z.give h2
  cases e
  case var i =>
    obtain ⟨o, h1, h2⟩ := lendS_some (s := slot env i) he
    obtain ⟨n, q, rfl, h⟩ := chk_var hc
    have z : SndO X env (.Name n q) o := sno_var hx h h1
    rcases h2 with ⟨rfl, rfl⟩ | ⟨h2, rfl⟩
    · exact z.give
    · exact z.lend h2
  case fld i f =>
    obtain ⟨o, h1, h2⟩ := lendS_some (s := o1 (fldO f) (slot env i)) he
    obtain ⟨n, p0, q, rfl, h⟩ := chk_fld hc
    obtain ⟨u, e1, e2⟩ := o1_some h1
    have z : SndO X env (.Attribute (.Name n p0) f q) o := sno_fld hx h e1 e2
    rcases h2 with ⟨rfl, rfl⟩ | ⟨h2, rfl⟩
    · exact z.give
    · exact z.lend h2
  case el j m =>
    obtain ⟨o, h1, h2⟩ := lendS_some (s := o1 (fun u => elO u (.pl (.int m))) (slot env j)) he
    obtain ⟨n, p0, cc, a, b', q, rfl, h, hl2⟩ := chk_el hc
    have hl : chk T N sc (.lit (.int m)) (.Constant cc a b') = true := by
      rw [chk]
      exact hl2
    obtain ⟨u, e1, e2⟩ := o1_some h1
    have sl : Snd X env (.Constant cc a b') (.pl (.int m)) := snd_lit hl2
    have z : SndO X env (.Subscript (.Name n p0) (.Constant cc a b') q) o := sno_el hx h e1 (plainIx_ok hl) sl.o e2
    rcases h2 with ⟨rfl, rfl⟩ | ⟨h2, rfl⟩
    · exact z.give
    · exact z.lend h2
  all_goals exact gen he
theorem GE.sh {e : Ex} (g : GE T N c e) (hx : XOk T c N sc so k X) (hc : chk T N sc e x = true) (he : G.sh (evR c env e) = some ou) : ∃ p, ou = .pl p ∧ SndL X env x p false := by
  unfold G.sh at he
  cases z : evR c env e with
  | none => rw [z] at he; cases he
  | some u =>
    rw [z] at he
    cases y : fz u with
    | none =>
      have : toP (fz u) = some ou := he
      rw [y] at this
      cases this
    | some p =>
      have : toP (fz u) = some ou := he
      rw [y] at this
      cases this
      have z : Snd X env x u := g.r hx hc z
      exact ⟨p, rfl, z.give y⟩
theorem o2_some {α β γ : Type} {f : α → β → Option γ} {x : Option α} {y : Option β} {z : γ} (h : o2 f x y = some z) : ∃ a b, x = some a ∧ y = some b ∧ f a b = some z := by
  cases x with
  | none => cases h
  | some a =>
    cases y with
    | none => cases h
    | some b => exact ⟨a, b, rfl, rfl, h⟩
theorem o3_some {α β γ δ : Type} {f : α → β → γ → Option δ} {x : Option α} {y : Option β} {u : Option γ} {z : δ} (h : o3 f x y u = some z) : ∃ a b d, x = some a ∧ y = some b ∧ u = some d ∧ f a b d = some z := by
  cases x with
  | none => cases h
  | some a =>
    cases y with
    | none => cases h
    | some b =>
      cases u with
      | none => cases h
      | some d => exact ⟨a, b, d, rfl, rfl, rfl, h⟩
theorem ifB_some {α : Type} {t : Option O} {x y : Option α} {z : α} (h : ifB t x y = some z) : ∃ b, t = some (.pl (.bool b)) ∧ (b = true → x = some z) ∧ (b = false → y = some z) := by
  unfold ifB at h
  split at h
  · rename_i b
    cases b with
    | true => exact ⟨true, rfl, fun _ => h, fun z => by cases z⟩
    | false => exact ⟨false, rfl, (fun z => by cases z), fun _ => h⟩
  · cases h
theorem toB_some {x : Option Bool} {o : O} (h : toB x = some o) : ∃ b, x = some b ∧ o = .pl (.bool b) := by
  cases x with
  | none => cases h
  | some b => cases h; exact ⟨b, rfl, rfl⟩
theorem toP_some {x : Option P} {o : O} (h : toP x = some o) : ∃ p, x = some p ∧ o = .pl p := by
  cases x with
  | none => cases h
  | some b => cases h; exact ⟨b, rfl, rfl⟩
/-! ### one lemma for each construct -/
theorem ge_var {i : Nat} : GE T N c (.var i) := ge_mk (fun h => by obtain ⟨n, p, rfl, _⟩ := chk_var h; rfl) fun {X sc so k env x o} hx hc he => by
  obtain ⟨n, p, rfl, h⟩ := chk_var hc
  rw [evR] at he
  unfold plO at he
  split at he
  · rename_i q hq
    cases he
    exact snd_var hx h hq
  · cases he
theorem ge_fld {i : Nat} {f : Str} : GE T N c (.fld i f) := ge_mk (fun h => by obtain ⟨n, p, q, rfl, _⟩ := chk_fld h; rfl) fun {X sc so k env x o} hx hc he => by
  obtain ⟨n, p, q, rfl, h⟩ := chk_fld hc
  rw [evR] at he
  unfold plO at he
  split at he
  · rename_i q hq
    cases he
    obtain ⟨u, h1, h2⟩ := o1_some hq
    exact snd_fld hx h h1 h2
  · cases he
theorem ge_el {j : Nat} {m : Int} : GE T N c (.el j m) := ge_mk (fun h => by obtain ⟨n, p, cc, a, b, q, rfl, _⟩ := chk_el h; rfl) fun {X sc so k env x o} hx hc he => by
  obtain ⟨n, p0, cc, a, b, q, rfl, h, h2⟩ := chk_el hc
  have hl : chk T N sc (.lit (.int m)) (.Constant cc a b) = true := by
    rw [chk]
    exact h2
  have sl : Snd X env (.Constant cc a b) (.pl (.int m)) := snd_lit h2
  rw [evR] at he
  unfold plO at he
  split at he
  · rename_i y hy
    cases he
    obtain ⟨u, e1, e2⟩ := o1_some hy
    exact snd_el hx h e1 (plainIx_ok hl) sl.o e2
  · cases he
theorem ge_idx2 {j : Nat} {k0 i : Ex} (gk : GE T N c k0) (gi : GE T N c i) : GE T N c (.idx2 j k0 i) := ge_mk (fun h => by obtain ⟨n, p, l, r, q, s, rfl, _⟩ := chk_idx2 h; rfl) fun {X sc so k env x o} hx hc he => by
  obtain ⟨n, p, l, r, q, s, rfl, h1, h2, h3⟩ := chk_idx2 hc
  rw [evR] at he
  obtain ⟨u, v, e1, e2, e3⟩ := o2_some he
  obtain ⟨w, y, e4, e5, e6⟩ := o2_some e1
  exact snd_idx2 hx h1 e4 (plainIx_ok h2) (plainIx_ok h3) (gk.ro hx h2 e5) (gi.ro hx h3 e2) e6 e3
theorem ge_mov {i : Nat} : GE T N c (.mov i) := ge_mk (fun h => (chk_mov h).elim) fun hx hc he => (chk_mov hc).elim
theorem ge_lit {p : P} : GE T N c (.lit p) := ge_mk (fun h => by obtain ⟨n, j, p, rfl, _⟩ := chk_lit h; rfl) fun {X sc so k env x o} hx hc he => by
  obtain ⟨n, j, p, rfl, h⟩ := chk_lit hc
  rw [evR] at he
  cases he
  exact snd_lit h
theorem ge_glob {g : Nat} : GE T N c (.glob g) := ge_mk (fun h => by obtain ⟨n, p, rfl, _⟩ := chk_glob h; rfl) fun {X sc so k env x o} hx hc he => by
  obtain ⟨n, p, rfl, h⟩ := chk_glob hc
  rw [evR] at he
  obtain ⟨q, h1, rfl⟩ := toP_some he
  exact snd_glob hx h h1
theorem ge_bin {op : Operator} {a b : Ex} (ga : GE T N c a) (gb : GE T N c b) : GE T N c (.bin op a b) := ge_mk (fun h => by obtain ⟨l, r, p, rfl, _⟩ := chk_bin h; rfl) fun {X sc so k env x o} hx hc he => by
  obtain ⟨l, r, p, rfl, h1, h2⟩ := chk_bin hc
  rw [evR] at he
  obtain ⟨u, v, e1, e2, e3⟩ := o2_some he
  exact snd_bin (ga.o hx h1 e1) (gb.o hx h2 e2) e3
theorem ge_neg {a : Ex} (ga : GE T N c a) : GE T N c (.neg a) := ge_mk (fun h => by obtain ⟨l, p, rfl, _⟩ := chk_neg h; rfl) fun {X sc so k env x o} hx hc he => by
  obtain ⟨l, p, rfl, h1⟩ := chk_neg hc
  rw [evR] at he
  obtain ⟨u, e1, e2⟩ := o1_some he
  exact snd_neg (ga.ro hx h1 e1) e2
theorem notO_some {u o : O} (h : notO u = some o) : ∃ b, u = .pl (.bool b) ∧ o = .pl (.bool !b) := by
  unfold notO at h
  split at h
  · cases h; exact ⟨_, rfl, rfl⟩
  · cases h
theorem ge_not {a : Ex} (ga : GE T N c a) : GE T N c (.not a) where
  r := fun {X sc so k env x o} hx hc he => by
    obtain ⟨l, p, rfl, h1⟩ := chk_not hc
    rw [evR] at he
    obtain ⟨u, e1, e2⟩ := o1_some he
    exact snd_not (ga.ro hx h1 e1) e2
  t := fun {X sc so k env x b} hx hc he => by
    obtain ⟨l, p, rfl, h1⟩ := chk_not hc
    rw [evR] at he
    obtain ⟨u, e1, e2⟩ := o1_some he
    obtain ⟨d, rfl, e3⟩ := notO_some e2
    cases e3
    exact snt_not (ga.t hx h1 e1)
  w := fun hx hc he => by obtain ⟨l, p, h, _⟩ := chk_not hc; cases h
theorem ge_and {a b : Ex} (ga : GE T N c a) (gb : GE T N c b) : GE T N c (.and a b) := by
  have W : ∀ {X : Cx} {sc so : Scope} {k : Nat} {env : Env} {x : Expr} {b' : Bool}, XOk T c N sc so k X → chk T N sc (.and a b) x = true → evR c env (.and a b) = some (.pl (.bool b')) → SndW X env x b' := fun {X sc so k env x b'} hx hc he => by
    obtain ⟨l, r, s, p, rfl, h1, h2⟩ := chk_and hc
    rw [evR] at he
    obtain ⟨d, e1, e2, e3⟩ := ifB_some he
    refine snw_and (ga.t hx h1 e1) (fun z => ?_) (fun z => by cases e3 z; rfl)
    rcases h2 with ⟨rfl, h2⟩ | h2
    · exact snw_and1 (gb.t hx h2 (e2 z))
    · exact gb.w hx h2 (e2 z)
  refine ⟨fun {X sc so k env x o} hx hc he => ?_, fun {X sc so k env x b} hx hc he => by
    have z : SndW X env x b := W hx hc he
    exact z.t, fun hx hc he => W hx hc he⟩
  obtain ⟨l, r, s, p, rfl, h1, h2⟩ := chk_and hc
  rw [evR] at he
  obtain ⟨d, e1, e2, e3⟩ := ifB_some he
  refine snd_and (ga.ro hx h1 e1) (fun z => ?_) (fun z => by cases e3 z; rfl)
  rcases h2 with ⟨rfl, h2⟩ | h2
  · exact snd_one (gb.r hx h2 (e2 z))
  · exact gb.r hx h2 (e2 z)
theorem ge_or {a b : Ex} (ga : GE T N c a) (gb : GE T N c b) : GE T N c (.or a b) := by
  have W : ∀ {X : Cx} {sc so : Scope} {k : Nat} {env : Env} {x : Expr} {b' : Bool}, XOk T c N sc so k X → chk T N sc (.or a b) x = true → evR c env (.or a b) = some (.pl (.bool b')) → SndW X env x b' := fun {X sc so k env x b'} hx hc he => by
    obtain ⟨l, r, s, p, rfl, h1, h2⟩ := chk_or hc
    rw [evR] at he
    obtain ⟨d, e1, e2, e3⟩ := ifB_some he
    refine snw_or (ga.t hx h1 e1) (fun z => ?_) (fun z => by cases e2 z; rfl)
    rcases h2 with ⟨rfl, h2⟩ | h2
    · exact snw_or1 (gb.t hx h2 (e3 z))
    · exact gb.w hx h2 (e3 z)
  refine ⟨fun {X sc so k env x o} hx hc he => ?_, fun {X sc so k env x b} hx hc he => by
    have z : SndW X env x b := W hx hc he
    exact z.t, fun hx hc he => W hx hc he⟩
  obtain ⟨l, r, s, p, rfl, h1, h2⟩ := chk_or hc
  rw [evR] at he
  obtain ⟨d, e1, e2, e3⟩ := ifB_some he
  refine snd_or (ga.ro hx h1 e1) (fun z => ?_) (fun z => by cases e2 z; rfl)
  rcases h2 with ⟨rfl, h2⟩ | h2
  · exact snd_one (gb.r hx h2 (e3 z))
  · exact gb.r hx h2 (e3 z)
theorem ge_cmp {op : CmpOp} {a b : Ex} (ga : GE T N c a) (gb : GE T N c b) : GE T N c (.cmp op a b) where
  r := fun {X sc so k env x o} hx hc he => by
    obtain ⟨l, r, p, rfl, h1, h2⟩ := chk_cmp hc
    rw [evR] at he
    obtain ⟨u, v, e1, e2, e3⟩ := o2_some he
    obtain ⟨d, e4, rfl⟩ := toB_some e3
    exact snd_cmp hx.hu (chk_set h2) (ga.o hx h1 e1) (gb.o hx h2 e2) e4
  t := fun {X sc so k env x b} hx hc he => by
    obtain ⟨l, r, p, rfl, h1, h2⟩ := chk_cmp hc
    rw [evR] at he
    obtain ⟨u, v, e1, e2, e3⟩ := o2_some he
    obtain ⟨d, e4, e5⟩ := toB_some e3
    cases e5
    exact snt_cmp hx.hu (chk_set h2) (ga.o hx h1 e1) (gb.o hx h2 e2) e4
  w := fun hx hc he => by obtain ⟨l, r, p, h, _⟩ := chk_cmp hc; cases h
theorem noIn_ok {op : CmpOp} (h : noIn op = true) (o : O) : isD op o = false := by
  cases op <;> first | rfl | cases h
theorem ge_chain {p1 p2 : CmpOp} {a b d : Ex} (ga : GE T N c a) (gb : GE T N c b) (gd : GE T N c d) : GE T N c (.chain p1 p2 a b d) where
  r := fun {X sc so k env x o} hx hc he => by
    obtain ⟨l, m, r, p, rfl, h1, h2, h3, n1, n2⟩ := chk_chain hc
    rw [evR] at he
    obtain ⟨u, v, w, e1, e2, e3, e4⟩ := o3_some he
    exact (snd_chain hx.hu (chk_set h3) (ga.o hx h1 e1) (gb.o hx h2 e2) (gd.o hx h3 e3) (noIn_ok n1 _) (noIn_ok n2 _) e4).1
  t := fun {X sc so k env x b'} hx hc he => by
    obtain ⟨l, m, r, p, rfl, h1, h2, h3, n1, n2⟩ := chk_chain hc
    rw [evR] at he
    obtain ⟨u, v, w, e1, e2, e3, e4⟩ := o3_some he
    exact (snd_chain hx.hu (chk_set h3) (ga.o hx h1 e1) (gb.o hx h2 e2) (gd.o hx h3 e3) (noIn_ok n1 _) (noIn_ok n2 _) e4).2 _ rfl
  w := fun hx hc he => by obtain ⟨l, m, r, p, h, _⟩ := chk_chain hc; cases h
theorem ge_ife {t a b : Ex} (gt : GE T N c t) (ga : GE T N c a) (gb : GE T N c b) : GE T N c (.ife t a b) where
  r := fun {X sc so k env x o} hx hc he => by
    obtain ⟨u, l, r, p, rfl, h1, h2, h3⟩ := chk_ife hc
    rw [evR] at he
    obtain ⟨d, e1, e2, e3⟩ := ifB_some he
    exact snd_ife (gt.t hx h1 e1) (fun z => ga.r hx h2 (e2 z)) (fun z => gb.r hx h3 (e3 z))
  t := fun {X sc so k env x b'} hx hc he => by
    obtain ⟨u, l, r, p, rfl, h1, h2, h3⟩ := chk_ife hc
    rw [evR] at he
    obtain ⟨d, e1, e2, e3⟩ := ifB_some he
    exact snt_ife (gt.t hx h1 e1) (fun z => ga.t hx h2 (e2 z)) (fun z => gb.t hx h3 (e3 z))
  w := fun hx hc he => by obtain ⟨u, l, r, p, h, _⟩ := chk_ife hc; cases h
/-! lists of expressions -/
structure GEs (T : Tb) (N : List Str) (c : Ct) (es : Exs) : Prop where
  r : ∀ {X : Cx} {sc so : Scope} {k : Nat} {env : Env} {xs : List Expr} {os : List O}, XOk T c N sc so k X → chks T N sc es xs = true → evRs c env es = some os → SndRs X env xs os
  v : ∀ {X : Cx} {sc so : Scope} {k : Nat} {env : Env} {xs : List Expr} {os : List O}, XOk T c N sc so k X → chks T N sc es xs = true → evVs c env es = some os → SndVs X env xs os
  l : ∀ {X : Cx} {sc so : Scope} {k : Nat} {env : Env} {xs : List Expr} {ps : List P × Bool}, XOk T c N sc so k X → chks T N sc es xs = true → evLs c env es = some ps → SndLs X env xs ps
theorem chks_nil {xs : List Expr} (h : chks T N sc .nil xs = true) : xs = [] := by
  cases xs with
  | nil => rfl
  | cons => unfold chks at h; cases h
theorem chks_cons {e : Ex} {es : Exs} {xs : List Expr} (h : chks T N sc (.cons e es) xs = true) : ∃ y ys, xs = y :: ys ∧ chk T N sc e y = true ∧ chks T N sc es ys = true := by
  cases xs with
  | nil => unfold chks at h; cases h
  | cons y ys => unfold chks at h; rw [Bool.and_eq_true] at h; exact ⟨y, ys, rfl, h.1, h.2⟩
theorem ges_nil : GEs T N c .nil where
  r := fun hx hc he => by rw [evRs] at he; cases he; cases chks_nil hc; exact snr_nil
  v := fun hx hc he => by rw [evVs] at he; cases he; cases chks_nil hc; exact snv_nil
  l := fun hx hc he => by rw [evLs] at he; cases he; cases chks_nil hc; exact snl_nil
theorem consA_some {α : Type} {x : Option α} {xs : Option (List α)} {ys : List α} (h : consA x xs = some ys) : ∃ a as, x = some a ∧ xs = some as ∧ ys = a :: as := by
  unfold consA at h
  split at h
  · cases h; exact ⟨_, _, rfl, rfl, rfl⟩
  · cases h
theorem consB_some {α : Type} {x : Option (α × Bool)} {xs : Option (List α × Bool)} {ys : List α × Bool} (h : consB x xs = some ys) : ∃ a b as d, x = some (a, b) ∧ xs = some (as, d) ∧ ys = (a :: as, b || d) := by
  unfold consB at h
  split at h
  · cases h; exact ⟨_, _, _, _, rfl, rfl, rfl⟩
  · cases h
theorem ges_cons {e : Ex} {es : Exs} (g : GE T N c e) (gs : GEs T N c es) : GEs T N c (.cons e es) where
  r := fun hx hc he => by
    obtain ⟨y, ys, rfl, h1, h2⟩ := chks_cons hc
    rw [evRs] at he
    obtain ⟨a, as, e1, e2, rfl⟩ := consA_some he
    exact snr_cons (chk_nst h1) (g.r hx h1 e1) (gs.r hx h2 e2)
  v := fun hx hc he => by
    obtain ⟨y, ys, rfl, h1, h2⟩ := chks_cons hc
    rw [evVs] at he
    obtain ⟨a, as, e1, e2, rfl⟩ := consA_some he
    exact snv_cons (chk_nst h1) (g.o hx h1 e1) (gs.v hx h2 e2)
  l := fun hx hc he => by
    obtain ⟨y, ys, rfl, h1, h2⟩ := chks_cons hc
    rw [evLs] at he
    obtain ⟨a, b, as, d, e1, e2, rfl⟩ := consB_some he
    exact snl_cons (ps := (as, d)) (chk_nst h1) (g.ln hx h1 e1) (gs.l hx h2 e2)
theorem ge_lst {es : Exs} (gs : GEs T N c es) : GE T N c (.lst es) := ge_mk (fun h => by obtain ⟨l, p, rfl, _⟩ := chk_lst h; rfl) fun {X sc so k env x o} hx hc he => by
  obtain ⟨l, p, rfl, h⟩ := chk_lst hc
  rw [evR] at he
  obtain ⟨os, e1, e2⟩ := o1_some he
  exact snd_lst (gs.r hx h e1) e2
theorem ge_tup {es : Exs} (gs : GEs T N c es) : GE T N c (.tup es) := ge_mk (fun h => by obtain ⟨l, j, p, rfl, _⟩ := chk_tup h; rfl) fun {X sc so k env x o} hx hc he => by
  obtain ⟨l, j, p, rfl, h⟩ := chk_tup hc
  rw [evR] at he
  obtain ⟨os, e1, e2⟩ := o1_some he
  exact snd_tup (gs.r hx h e1) e2
theorem ge_dct {ks vs : Exs} : GE T N c (.dct ks vs) := ge_mk (fun h => by obtain ⟨_, _, p, rfl⟩ := chk_dct h; rfl) fun {X sc so k env x o} hx hc he => by
  obtain ⟨rfl, rfl, p, rfl⟩ := chk_dct hc
  rw [evR] at he
  cases he
  exact snd_dct
theorem ge_idx {a i : Ex} (ga : GE T N c a) (gi : GE T N c i) : GE T N c (.idx a i) := ge_mk (fun h => by obtain ⟨l, r, p, rfl, _⟩ := chk_idx h; rfl) fun {X sc so k env x o} hx hc he => by
  obtain ⟨l, r, p, rfl, h1, h2⟩ := chk_idx hc
  rw [evR] at he
  obtain ⟨u, v, e1, e2, e3⟩ := o2_some he
  exact snd_idx hx.hu (plainIx_ok h2) (ga.o hx h1 e1) (gi.ro hx h2 e2) e3
theorem ge_call {f : Nat} {es : Exs} (gs : GEs T N c es) : GE T N c (.call f es) := ge_mk (fun h => by obtain ⟨n, p, l, q, rfl, _⟩ := chk_call h; rfl) fun {X sc so k env x o} hx hc he => by
  obtain ⟨n, p, l, q, rfl, h1, h2⟩ := chk_call hc
  rw [evR] at he
  unfold callC at he
  split at he
  · rename_i ps b e1
    have ha := gs.l hx h2 e1
    cases l with
    | nil =>
      cases es with
      | nil =>
        rw [evLs] at e1
        cases e1
        exact snd_call0 hx h1 he
      | cons => unfold chks at h2; cases h2
    | cons y ys => exact snd_call hx h1 (chks_nst h2) ha he
  · cases he
theorem ge_bi {b : BI} {es : Exs} (gs : GEs T N c es) : GE T N c (.bi b es) := ge_mk (fun h => by obtain ⟨n, p, e, l, q, rfl, _⟩ := chk_bi h; rfl) fun {X sc so k env x o} hx hc he => by
  obtain ⟨n, p, e, l, q, rfl, h1, h2⟩ := chk_bi hc
  rw [evR] at he
  obtain ⟨os, e1, e2⟩ := o1_some he
  exact snd_bi hx h1 (chks_nst h2) (gs.v hx h2 e1) e2
theorem ge_isi {a : Ex} {ts : List Ty} (ga : GE T N c a) : GE T N c (.isi a ts) := ge_mk (fun h => by obtain ⟨n, p, e, t, q, rfl, _⟩ := chk_isi h; rfl) fun {X sc so k env x o} hx hc he => by
  obtain ⟨n, p, e, t, q, rfl, h1, h2, h3, h4⟩ := chk_isi hc
  rw [evR] at he
  obtain ⟨p0, e1, e2⟩ := o1_some he
  obtain ⟨u, e3, e4⟩ := o1_some e1
  unfold isiO at e2
  cases e2
  exact snd_isi hx hx.ty h1 (chk_nst h2) (ga.o hx h2 e3) h3 h4 e4
theorem snd_sh {X : Cx} {env : Env} {x : Expr} {o : O} {p : P} (h : Snd X env x o) (hp : fz o = some p) : Snd X env x (.pl p) := fun _ _ _ _ _ w re q => h w re fun v B1 H1 f s ro n => by
  obtain ⟨B2, s2, e2, rp, nw⟩ := s.share ro hp n
  exact q v B2 H1 [] s2 (.pl rp) .nil
theorem ge_sh {a : Ex} (ga : GE T N c a) : GE T N c (.sh a) := ge_mk (fun h => by obtain ⟨_, _, _, _, rfl, _⟩ := chk_sh h; rfl) fun {X sc so k env x o} hx hc he => by
  obtain ⟨_, _, _, _, rfl, h1⟩ := chk_sh hc
  rw [evR] at he
  obtain ⟨p, e1, rfl⟩ := toP_some he
  obtain ⟨u, e2, e3⟩ := o1_some e1
  exact snd_sh (ga.r hx h1 e2) e3
theorem ge_lrg1 {a : Ex} (ga : GE T N c a) : GE T N c (.lrg1 a) := ge_mk (fun h => by obtain ⟨_, _, _, _, _, _, _, rfl, _⟩ := chk_lrg1 h; rfl) fun {X sc so k env x o} hx hc he => by
  obtain ⟨_, _, _, _, _, _, _, rfl, h1, h2, h3⟩ := chk_lrg1 hc
  rw [evR] at he
  obtain ⟨u, e1, e2⟩ := o1_some he
  exact snd_lrg1 hx h1 h2 (chk_nst h3) (ga.r hx h3 e1) e2
theorem ge_lrg2 {a b : Ex} (ga : GE T N c a) (gb : GE T N c b) : GE T N c (.lrg2 a b) := ge_mk (fun h => by obtain ⟨_, _, _, _, _, _, _, _, rfl, _⟩ := chk_lrg2 h; rfl) fun {X sc so k env x o} hx hc he => by
  obtain ⟨_, _, _, _, _, _, _, _, rfl, h1, h2, h3, h4⟩ := chk_lrg2 hc
  rw [evR] at he
  obtain ⟨u, v, e1, e2, e3⟩ := o2_some he
  exact snd_lrg2 hx h1 h2 (chk_nst h3) (chk_nst h4) (ga.r hx h3 e1) (gb.r hx h4 e2) e3
theorem ge_gix {g : Nat} {a : Ex} (ga : GE T N c a) : GE T N c (.gix g a) := ge_mk (fun h => by obtain ⟨_, _, _, _, _, rfl, _⟩ := chk_gix h; rfl) fun {X sc so k env x o} hx hc he => by
  obtain ⟨_, _, _, _, _, rfl, h1, h2, h3⟩ := chk_gix hc
  rw [evR] at he
  obtain ⟨u, e1, e2⟩ := o1_some he
  exact snd_gix hx h1 h2 (chk_nst h3) (ga.ro hx h3 e1) e2
theorem ge_meth {m : MI} {a : Ex} {es : Exs} (ga : GE T N c a) (gs1 : ∀ e1, es = .cons e1 .nil → GE T N c e1) (gs : ∀ e1 e2, es = .cons e1 (.cons e2 .nil) → GE T N c e1 ∧ GE T N c e2) : GE T N c (.meth m a es) := ge_mk (fun h => by rcases chk_meth h with ⟨_, _, _, _, _, _, _, rfl, _⟩ | ⟨_, e1, e2, l, ap, f1, f2, cp, _, rfl, _⟩ <;> rfl) fun {X sc so k env x o} hx hc he => by
  rcases chk_meth hc with ⟨hm, e1, l, ap, f1, cp, rfl, rfl, h1, h2, h3, h4⟩ | ⟨rfl, e1, e2, l, ap, f1, f2, cp, rfl, rfl, h1, h2, h3, h4, h5⟩
  · have g1 := gs1 _ rfl
    rw [evR] at he
    obtain ⟨u, v, z1, z2, z3⟩ := o2_some he
    rw [evVs, evVs] at z2
    obtain ⟨o1, r1, y1, y2, rfl⟩ := consA_some z2
    cases y2
    exact snd_m1 hx hm h1 h2 (chk_nst h4) (ga.o hx h3 z1) (g1.o hx h4 y1) z3
  obtain ⟨g1, g2⟩ := gs _ _ rfl
  rw [evR] at he
  obtain ⟨u, v, z1, z2, z3⟩ := o2_some he
  rw [evVs, evVs, evVs] at z2
  obtain ⟨o1, r1, y1, y2, rfl⟩ := consA_some z2
  obtain ⟨o2, r2, y3, y4, rfl⟩ := consA_some y2
  cases y4
  exact snd_get hx h1 h2 (chk_nst h4) (chk_nst h5) (ga.o hx h3 z1) (g1.o hx h4 y1) (g2.o hx h5 y3) z3
end G

set_option maxRecDepth 100000
namespace G
open PySem L2
variable {T : Tb} {N : List Str} {c : Ct}
/-! ### what is walked -/
structure GX (T : Tb) (N : List Str) (c : Ct) (x : Ox) : Prop where
  x : ∀ {X : Cx} {sc so : Scope} {k : Nat} {env : Env} {e : Option Expr} {i : Option Int}, XOk T c N sc so k X → chkX T N sc x e = true → evX c env x = some i → SndX X env e i
theorem oI_some {o : Option O} {i : Option Int} (h : oI o = some i) : ∃ j, o = some (.pl (.int j)) ∧ i = some j := by
  unfold oI at h
  split at h
  · cases h; exact ⟨_, rfl, rfl⟩
  · cases h
theorem gx_none : GX T N c .none := ⟨fun {X sc so k env e i} hx hc he => by
  rw [evX] at he
  cases he
  cases e with
  | none => exact snx_none
  | some y => unfold chkX at hc; cases hc⟩
theorem gx_some {e : Ex} (g : GE T N c e) : GX T N c (.some e) := ⟨fun {X sc so k env e i} hx hc he => by
  rw [evX] at he
  obtain ⟨j, e1, rfl⟩ := oI_some he
  cases e with
  | none => unfold chkX at hc; cases hc
  | some y => unfold chkX at hc; exact snx_some (g.r hx hc e1)⟩
theorem ge_slc {a : Ex} {lo hi : Ox} (ga : GE T N c a) (gl : GX T N c lo) (gh : GX T N c hi) : GE T N c (.slc a lo hi) := ge_mk (fun h => by obtain ⟨l, u, v, p, q, rfl, _⟩ := chk_slc h; rfl) fun {X sc so k env x o} hx hc he => by
  obtain ⟨l, u, v, p, q, rfl, h1, h2, h3⟩ := chk_slc hc
  rw [evR] at he
  obtain ⟨z, i, j, e1, e2, e3, e4⟩ := o3_some he
  exact snd_slc (ga.o hx h1 e1) (gl.x hx h2 e2) (gh.x hx h3 e3) e4
def Ar (m : Bool) (X : Cx) (env : Env) (x : Expr) (o : O) : Prop := (m = true ∧ SndO X env x o) ∨ ∃ p, o = .pl p ∧ SndL X env x p false
def opM (m : Bool) (c : Ct) (env : Env) (e : Ex) : Option O := match m with
  | true => opnd env e (evR c env e)
  | false => sh (evR c env e)
def evM (m : Bool) (c : Ct) (env : Env) : It → Option (List P)
  | .seq e => o1 seqAny (opM m c env e)
  | .range1 a => o1 rng1 (evR c env a)
  | .range2 a b => o2 rng2 (evR c env a) (evR c env b)
  | .range3 _ _ _ => none
  | .enum e => o1 enmO (opM m c env e)
  | .zip a b => o2 zipO (opM m c env a) (opM m c env b)
  | .items _ => none
  | .rev e => o1 revO (opM m c env e)
  | .zip3 a b d => o3 zip3O (opM m c env a) (opM m c env b) (opM m c env d)
theorem evI_eq {env : Env} {it : It} : evI c env it = evM true c env it := by
  cases it <;> rw [evI] <;> rfl
theorem evJ_eq {env : Env} {it : It} : evJ c env it = evM false c env it := by
  cases it <;> rw [evJ] <;> rfl
section
variable {X : Cx} {sc so : Scope} {k : Nat} {env : Env} {x : Expr} {o : O} {m : Bool} {ps : List P}
theorem GE.ar {e : Ex} (g : GE T N c e) (hx : XOk T c N sc so k X) (hc : chk T N sc e x = true) (he : opM m c env e = some o) : Ar m X env x o := by
  cases m with
  | true => exact .inl ⟨rfl, g.o hx hc he⟩
  | false =>
    obtain ⟨p, e1, e2⟩ := g.sh hx hc he
    exact .inr ⟨p, e1, e2⟩
theorem Ar.l (a : Ar m X env x o) (h : litems o = some ps) : SndS m false X env x ps := by
  rcases a with ⟨rfl, a⟩ | ⟨p, rfl, a⟩
  · exact sns_I a h
  · cases p <;> first | (cases h; exact sns_L a) | cases h
theorem Ar.t (a : Ar m X env x (.pl (.tuple ps))) : SndS m true X env x ps := by
  rcases a with ⟨rfl, a⟩ | ⟨p, z, a⟩
  · have z : SndL X env x (.tuple ps) false := @SndO.give _ _ _ _ a
    exact sns_T z
  · cases z
    exact sns_T a
theorem Ar.q (a : Ar m X env x o) (h : seqI o = some ps) : ∃ t, SndS m t X env x ps := by
  unfold seqI at h
  split at h
  · cases h; exact ⟨false, a.l rfl⟩
  · cases h; exact ⟨false, a.l rfl⟩
  · cases h; exact ⟨true, a.t⟩
  · cases h
theorem SndL.s {s : Str} (a : SndL X env x (.str s) false) : SndO X env x (.pl (.str s)) := fun _ _ _ _ _ w re q => a w re fun v B' H' _ s h1 _ _ => q v B' H' [] s (.pl (h1 rfl))
theorem Ar.mm {tg : Expr} (a : Ar m X env x o) (h : seqAny o = some ps) : SndM m X env tg x ps := by
  unfold seqAny at h
  split at h
  · cases h; exact snm_seq (a.l rfl)
  · cases h; exact snm_seq (a.l rfl)
  · cases h; exact snm_seq a.t
  · cases h
    rcases a with ⟨rfl, a⟩ | ⟨p, z, a⟩
    · exact snm_str a
    · cases z
      exact snm_str (@SndL.s _ _ _ _ a)
  · cases h
theorem mapI_some {f : List P → List P} {r : Option (List P)} (h : mapI f r = some ps) : ∃ xs, r = some xs ∧ ps = f xs := by
  cases r with
  | none => cases h
  | some xs => cases h; exact ⟨xs, rfl, rfl⟩
theorem zipO_some {u v : O} (h : zipO u v = some ps) : ∃ xs ys, ps = zipP xs ys ∧ seqI u = some xs ∧ seqI v = some ys := by
  unfold zipO at h
  cases h1 : seqI u with
  | none => rw [h1] at h; cases h
  | some xs =>
    cases h2 : seqI v with
    | none => rw [h1, h2] at h; cases h
    | some ys => rw [h1, h2] at h; cases h; exact ⟨xs, ys, rfl, rfl, rfl⟩
structure GI (T : Tb) (N : List Str) (c : Ct) (it : It) : Prop where
  i : ∀ {m : Bool} {X : Cx} {sc so : Scope} {k : Nat} {env : Env} {tg x : Expr} {ps : List P}, XOk T c N sc so k X → chkI T N sc it tg x = true → evM m c env it = some ps → SndM m X env tg x ps ∧ setB x = true
theorem gi_seq {a : Ex} (ga : GE T N c a) : GI T N c (.seq a) := ⟨fun {m X sc so k env tg x ps} hx hc he => by
  unfold chkI at hc
  obtain ⟨o, e1, e2⟩ := o1_some he
  exact ⟨(ga.ar hx hc e1).mm e2, chk_set hc⟩⟩
theorem gi_r3 {a b d : Ex} : GI T N c (.range3 a b d) := ⟨fun {m X sc so k env tg x ps} hx hc he => by cases he⟩
theorem gi_items {a : Ex} : GI T N c (.items a) := ⟨fun {m X sc so k env tg x ps} hx hc he => by cases he⟩
theorem rng1_some (h : rng1 o = some ps) : ∃ i, o = .pl (.int i) ∧ okI i ∧ ps = rangeP 0 i := by
  unfold rng1 at h
  split at h
  · split at h
    · cases h; exact ⟨_, rfl, by assumption, rfl⟩
    · cases h
  · cases h
theorem rng2_some {u : O} (h : rng2 o u = some ps) : ∃ i j, o = .pl (.int i) ∧ u = .pl (.int j) ∧ (okI i ∧ okI j) ∧ ps = rangeP i (j - i) := by
  unfold rng2 at h
  split at h
  · split at h
    · cases h; exact ⟨_, _, rfl, rfl, by assumption, rfl⟩
    · cases h
  · cases h
theorem gi_r1 {a : Ex} (ga : GE T N c a) : GI T N c (.range1 a) := ⟨fun {m X sc so k env tg x ps} hx hc he => by
  unfold chkI at hc
  split at hc <;> first | (rename_i e; cases e) | cases hc
  rw [Bool.and_eq_true] at hc
  obtain ⟨o, e1, e2⟩ := o1_some he
  obtain ⟨i, rfl, hi, rfl⟩ := rng1_some e2
  have hg := gl_ok hx hc.1
  obtain ⟨h1, h2, h3⟩ := gn_ok hc.1
  cases h1
  exact ⟨snm_rng1 hg hx.rng (chk_nst hc.2) (ga.r hx hc.2 e1) hi, rfl⟩⟩
theorem gi_r2 {a b : Ex} (ga : GE T N c a) (gb : GE T N c b) : GI T N c (.range2 a b) := ⟨fun {m X sc so k env tg x ps} hx hc he => by
  unfold chkI at hc
  split at hc <;> first | (rename_i e; cases e) | cases hc
  rw [Bool.and_eq_true, Bool.and_eq_true] at hc
  obtain ⟨o, u, e1, e3, e2⟩ := o2_some he
  obtain ⟨i, j, rfl, rfl, hi, rfl⟩ := rng2_some e2
  have hg := gl_ok hx hc.1.1
  obtain ⟨h1, h2, h3⟩ := gn_ok hc.1.1
  cases h1
  exact ⟨snm_rng2 hg hx.rng (chk_nst hc.1.2) (chk_nst hc.2) (ga.r hx hc.1.2 e1) (gb.r hx hc.2 e3) hi, rfl⟩⟩
theorem gi_enum {a : Ex} (ga : GE T N c a) : GI T N c (.enum a) := ⟨fun {m X sc so k env tg x ps} hx hc he => by
  unfold chkI at hc
  split at hc <;> first | (rename_i e; cases e) | cases hc
  rw [Bool.and_eq_true] at hc
  obtain ⟨o, e1, e2⟩ := o1_some he
  obtain ⟨xs, e3, rfl⟩ := mapI_some e2
  have hg := gl_ok hx hc.1
  obtain ⟨h1, h2, h3⟩ := gn_ok hc.1
  cases h1
  obtain ⟨t, ht⟩ := (ga.ar hx hc.2 e1).q e3
  cases t with
  | true => exact ⟨snm_enumT hg hx.enu (chk_nst hc.2) ht, rfl⟩
  | false => exact ⟨snm_enum hg hx.enu (chk_nst hc.2) ht, rfl⟩⟩
theorem gi_rev {a : Ex} (ga : GE T N c a) : GI T N c (.rev a) := ⟨fun {m X sc so k env tg x ps} hx hc he => by
  unfold chkI at hc
  split at hc <;> first | (rename_i e; cases e) | cases hc
  rw [Bool.and_eq_true] at hc
  obtain ⟨o, e1, e2⟩ := o1_some he
  obtain ⟨xs, e3, rfl⟩ := mapI_some e2
  have hg := gl_ok hx hc.1
  obtain ⟨h1, h2, h3⟩ := gn_ok hc.1
  cases h1
  obtain ⟨t, ht⟩ := (ga.ar hx hc.2 e1).q e3
  exact ⟨snm_rev hg hx.rev (chk_nst hc.2) ht, rfl⟩⟩
theorem zip3O_some {u v w : O} (h : zip3O u v w = some ps) : ∃ xs ys zs, ps = zip3P xs ys zs ∧ litems u = some xs ∧ litems v = some ys ∧ litems w = some zs := by
  unfold zip3O at h
  cases h1 : litems u with
  | none => rw [h1] at h; cases h
  | some xs =>
    cases h2 : litems v with
    | none => rw [h1, h2] at h; cases h
    | some ys =>
      cases h3 : litems w with
      | none => rw [h1, h2, h3] at h; cases h
      | some zs =>
        rw [h1, h2, h3] at h
        cases h
        exact ⟨xs, ys, zs, rfl, rfl, rfl, rfl⟩
theorem gi_zip3 {a b d : Ex} (ga : GE T N c a) (gb : GE T N c b) (gd : GE T N c d) : GI T N c (.zip3 a b d) := ⟨fun {m X sc so k env tg x ps} hx hc he => by
  unfold chkI at hc
  split at hc <;> first | (rename_i e; cases e) | cases hc
  rw [Bool.and_eq_true, Bool.and_eq_true, Bool.and_eq_true] at hc
  obtain ⟨o, u, w, e1, e3, e4, e2⟩ := o3_some he
  obtain ⟨xs, ys, zs, rfl, e5, e6, e7⟩ := zip3O_some e2
  have hg := gl_ok hx hc.1.1.1
  obtain ⟨h1, h2, h3⟩ := gn_ok hc.1.1.1
  cases h1
  exact ⟨snm_zip3 hg hx.zip (chk_nst hc.1.1.2) (chk_nst hc.1.2) (chk_nst hc.2) ((ga.ar hx hc.1.1.2 e1).l e5) ((gb.ar hx hc.1.2 e3).l e6) ((gd.ar hx hc.2 e4).l e7), rfl⟩⟩
theorem gi_zip {a b : Ex} (ga : GE T N c a) (gb : GE T N c b) : GI T N c (.zip a b) := ⟨fun {m X sc so k env tg x ps} hx hc he => by
  unfold chkI at hc
  split at hc <;> first | (rename_i e; cases e) | cases hc
  rw [Bool.and_eq_true, Bool.and_eq_true] at hc
  obtain ⟨o, u, e1, e3, e2⟩ := o2_some he
  obtain ⟨xs, ys, rfl, e5, e6⟩ := zipO_some e2
  have hg := gl_ok hx hc.1.1
  obtain ⟨h1, h2, h3⟩ := gn_ok hc.1.1
  cases h1
  refine ⟨?_, rfl⟩
  obtain ⟨t1, a1⟩ := (ga.ar hx hc.1.2 e1).q e5
  obtain ⟨t2, a2⟩ := (gb.ar hx hc.2 e3).q e6
  exact snm_zipM hg hx.zip (chk_nst hc.1.2) (chk_nst hc.2) a1 a2⟩
theorem lcO_some {f : P → Option (Option O)} {r : Option (List P)} {o : O} (h : lcO f r = some o) : ∃ ps os, r = some ps ∧ ps.length ≤ 1000000 ∧ mapO f ps = some os ∧ mkL (os.filterMap id) = some o := by
  unfold lcO at h
  split at h
  · split at h
    · rename_i ps hn
      unfold lcM at h
      split at h
      · rename_i os e
        exact ⟨ps, os, rfl, hn, e, h⟩
      · cases h
    · cases h
  · cases h
theorem lc_chk {own : List Nat} {tg : Tg} {it : It} {cd : Ox} {e : Ex} (gi : GI T N c it) (gc : ∀ d, cd = .some d → GE T N c d) (ge : GE T N c e) (hx : XOk T c N sc so k X) (hc : chk T N sc (.lc own tg it cd e) x = true) (he : evR c env (.lc own tg it cd e) = some o) :
    ∃ el t i ifs scope p, x = .ListComp el [⟨t, i, ifs, 0⟩] scope p ∧ LcOk X env scope t i el ifs o := by
  obtain ⟨el, t, i, ifs, scope, p, rfl, h1, h2, h3, h4, h5, h6⟩ := chk_lc hc
  rw [evR_lc] at he
  obtain ⟨ps, os, e1, e2, e3, e4⟩ := lcO_some he
  rw [evI_eq] at e1
  obtain ⟨z1, z2⟩ := gi.i (m := true) hx h4 e1
  refine ⟨el, t, i, ifs, scope, p, rfl, lc_ok (pos := p) hx h1 h2 h3 z1 (folded_ok z2) ?_ ?_ e2 e3 e4⟩
  · intro X' hx' env1 b hb
    rcases h5 with ⟨rfl, rfl⟩ | ⟨d, f, rfl, rfl, hd⟩
    · rw [evC] at hb
      cases hb
      exact snts_nil
    · rw [evC] at hb
      exact snts_one ((gc d rfl).t hx' hd hb)
  · intro X' hx' env1 o ho
    exact ge.r hx' h6 ho
theorem ge_lc {own : List Nat} {tg : Tg} {it : It} {cd : Ox} {e : Ex} (gi : GI T N c it) (gc : ∀ d, cd = .some d → GE T N c d) (ge : GE T N c e) : GE T N c (.lc own tg it cd e) := ge_mk (fun h => by obtain ⟨el, t, i, ifs, scope, p, rfl, _⟩ := chk_lc h; rfl) fun {X sc so k env x o} hx hc he => by
  obtain ⟨el, t, i, ifs, scope, p, rfl, h⟩ := lc_chk gi gc ge hx hc he
  exact snd_lc h
end
mutual
theorem gE : ∀ e : Ex, GE T N c e
  | .var i => ge_var
  | .mov i => ge_mov
  | .lit p => ge_lit
  | .glob g => ge_glob
  | .fld i f => ge_fld
  | .el j m => ge_el
  | .idx2 j k i => ge_idx2 (gE k) (gE i)
  | .bin op a b => ge_bin (gE a) (gE b)
  | .neg a => ge_neg (gE a)
  | .not a => ge_not (gE a)
  | .and a b => ge_and (gE a) (gE b)
  | .or a b => ge_or (gE a) (gE b)
  | .cmp op a b => ge_cmp (gE a) (gE b)
  | .chain p q a b d => ge_chain (gE a) (gE b) (gE d)
  | .ife t a b => ge_ife (gE t) (gE a) (gE b)
  | .lst es => ge_lst (gEs es)
  | .tup es => ge_tup (gEs es)
  | .dct ks vs => ge_dct
  | .idx a i => ge_idx (gE a) (gE i)
  | .slc a lo hi => ge_slc (gE a) (gX lo) (gX hi)
  | .call f es => ge_call (gEs es)
  | .bi b es => ge_bi (gEs es)
  | .isi a ts => ge_isi (gE a)
  | .meth m a .nil => ge_meth (gE a) (fun _ h => by cases h) (fun _ _ h => by cases h)
  | .meth m a (.cons e .nil) => ge_meth (gE a) (fun _ h => by cases h; exact gE e) (fun _ _ h => by cases h)
  | .meth m a (.cons e (.cons f .nil)) => ge_meth (gE a) (fun _ h => by cases h) (fun _ _ h => by cases h; exact ⟨gE e, gE f⟩)
  | .meth m a (.cons e (.cons f (.cons g es))) => ge_meth (gE a) (fun _ h => by cases h) (fun _ _ h => by cases h)
  | .lrg1 a => ge_lrg1 (gE a)
  | .sh a => ge_sh (gE a)
  | .lrg2 a b => ge_lrg2 (gE a) (gE b)
  | .gix g a => ge_gix (gE a)
  | .lc own tg it .none e => ge_lc (gI it) (fun _ h => by cases h) (gE e)
  | .lc own tg it (.some d) e => ge_lc (gI it) (fun _ h => by cases h; exact gE d) (gE e)
theorem gEs : ∀ es : Exs, GEs T N c es
  | .nil => ges_nil
  | .cons e es => ges_cons (gE e) (gEs es)
theorem gX : ∀ x : Ox, GX T N c x
  | .none => gx_none
  | .some e => gx_some (gE e)
theorem gI : ∀ it : It, GI T N c it
  | .seq a => gi_seq (gE a)
  | .range1 a => gi_r1 (gE a)
  | .range2 a b => gi_r2 (gE a) (gE b)
  | .range3 a b d => gi_r3
  | .enum a => gi_enum (gE a)
  | .zip a b => gi_zip (gE a) (gE b)
  | .items a => gi_items
  | .rev a => gi_rev (gE a)
  | .zip3 a b d => gi_zip3 (gE a) (gE b) (gE d)
end
end G

set_option maxRecDepth 100000
namespace G
open PySem L2
/-! ### a body's situation -/
/-- since (B0, H0), a body's start: what was there stands; what is held alone is new -/
structure Sit (B0 H0 B H : Hp) (f : List Addr) : Prop where
  s : Stp B0 H0 B H
  w : Wld B H f
  fr : ∀ a ∈ f, H0 a = none
section
variable {K : PySem.W.Frag} {B0 H0 B H B' H' : Hp} {f g fp : List Addr}
theorem Sit.stp (t : Sit B0 H0 B H f) (s : Stp B H B' H') (hf : ∀ a ∈ f, H a ≠ none) : Sit B0 H0 B' H' f := ⟨t.s.trans s, t.w.stp s hf, t.fr⟩
theorem Sit.add (t : Sit B0 H0 B H f) (s : Stp B H B' H') (hf : ∀ a ∈ f, H a ≠ none) (n : Frs H B' g) : Sit B0 H0 B' H' (g ++ f) :=
  ⟨t.s.trans s, (t.w.stp s hf).add n hf, fun a ha => (List.mem_append.mp ha).elim (fun z => t.s.h.none (n.new a z)) (t.fr a)⟩
theorem Sit.perm (t : Sit B0 H0 B H f) (p : f.Perm g) : Sit B0 H0 B H g := ⟨t.s, t.w.perm p, fun a ha => t.fr a (p.mem_iff.mpr ha)⟩
theorem Sit.right (t : Sit B0 H0 B H (f ++ g)) : Sit B0 H0 B H g := ⟨t.s, t.w.right, fun a ha => t.fr a (by simp [ha])⟩
theorem Sit.left (t : Sit B0 H0 B H (f ++ g)) : Sit B0 H0 B H f := ⟨t.s, t.w.left, fun a ha => t.fr a (by simp [ha])⟩
theorem Sit.sub (t : Sit B0 H0 B H f) (nd : g.Nodup) (h : ∀ a ∈ g, a ∈ f) : Sit B0 H0 B H g := ⟨t.s, ⟨t.w.bh, nd, fun a ha => t.w.out a (h a ha)⟩, fun a ha => t.fr a (h a ha)⟩
theorem Sit.frs (t : Sit B0 H0 B H (f ++ g)) : Frs H0 B f := ⟨t.left.w.nd, t.left.fr, t.left.w.out⟩
/-- an own thing is changed -/
theorem Sit.upd (t : Sit B0 H0 B H f) {a : Addr} (ha : a ∈ f) {u : HO} : Sit B0 H0 B (upd H a u) f :=
  ⟨⟨t.s.b, fun b o h => by
    rw [upd_ne (ne_of_none h (t.fr a ha))]
    exact t.s.h b o h, fun b o h => by
    rw [upd_ne (ne_of_none h (t.w.out a ha))]
    exact t.s.bh b o h, t.s.new⟩, ⟨fun b o h => by
    rw [upd_ne (ne_of_none h (t.w.out a ha))]
    exact t.w.bh b o h, t.w.nd, t.w.out⟩, t.fr⟩
theorem perm_ac (a b c : List Addr) : (a ++ (b ++ c)).Perm (b ++ (a ++ c)) := List.perm_append_comm_assoc a b c
/-- own things become shared -/
theorem Sit.share {vs : List V} {os : List O} {ps : List P} (t : Sit B0 H0 B H (f ++ fp)) (r : ROs K B H vs os f) (q : fzs os = some ps) : ∃ B2, Ext B B2 ∧ Sit B0 H0 B2 H fp ∧ RPs K B2 vs ps := by
  obtain ⟨e1, e2, nw⟩ := frz_ext t.w.bh t.left.w.out
  refine ⟨frz B H f, e1, ⟨⟨t.s.b.trans e1, t.s.h, e2, fun a h => ?_⟩, ⟨e2, t.right.w.nd, fun a ha => ?_⟩, t.right.fr⟩, r.fz e1 (fun a ha => frz_in ha) q⟩
  · rcases nw a h with z | z
    · exact t.s.new a z
    · exact .inr (t.left.fr a z)
  · rw [frz_out fun z => (List.nodup_append.mp t.w.nd).2.2 a z a ha rfl]
    exact t.right.w.out a ha
theorem Sit.share1 {v : V} {o : O} {p : P} (t : Sit B0 H0 B H (f ++ fp)) (r : RO K B H v o f) (q : fz o = some p) : ∃ B2, Ext B B2 ∧ Sit B0 H0 B2 H fp ∧ RP K B2 v p := by
  have r1 : ROs K B H [v] [o] (f ++ []) := .cons r .nil
  rw [List.append_nil] at r1
  obtain ⟨B2, e, t2, rp⟩ := t.share r1 (ps := [p]) (by rw [fzs, q]; rfl)
  cases rp with
  | cons h _ => exact ⟨B2, e, t2, h⟩
/-- a slot takes a thing -/
theorem put_fin {v : V} {o : O} {σ : L2.St} {env : Env} {i : Nat} (t : Sit B0 H0 B H (g ++ (f ++ fp))) (ro : RO K B H v o f) (re : REnv K B H σ env fp) : ∃ fp2, Sit B0 H0 B H (g ++ fp2) ∧ REnv K B H (σ.set i (some v)) (env.set i (some o)) fp2 := by
  by_cases hi : i < env.length
  · obtain ⟨g', r', f', h1, h2, h3⟩ := re.put hi ro
    refine ⟨f', ?_, h3⟩
    have p1 : (g ++ (f ++ fp)).Perm (g ++ (f ++ (g' ++ r'))) := List.Perm.append_left g (List.Perm.append_left f h1)
    have p2 : (g ++ (f ++ (g' ++ r'))).Perm (g' ++ (g ++ (f ++ r'))) := (List.Perm.append_left g (perm_ac f g' r')).trans (perm_ac g g' (f ++ r'))
    exact ((t.perm (p1.trans p2)).right).perm (List.Perm.append_left g h2.symm)
  · have hl := re.len
    rw [List.set_eq_of_length_le (by omega), List.set_eq_of_length_le (by omega)]
    exact ⟨fp, (t.perm (perm_ac g f fp)).right, re⟩
theorem putP_fin {v : V} {p : P} {σ : L2.St} {env : Env} {i : Nat} (t : Sit B0 H0 B H fp) (ro : RP K B v p) (re : REnv K B H σ env fp) : ∃ fp2, Sit B0 H0 B H fp2 ∧ REnv K B H (σ.set i (some v)) (env.set i (some (.pl p))) fp2 :=
  put_fin (g := []) (f := []) t (.pl ro) re
theorem puts_fin : ∀ {is : List Nat} {vs : List V} {os : List O} {σ : L2.St} {env : Env} {f fp : List Addr}, Sit B0 H0 B H (f ++ fp) → ROs K B H vs os f → REnv K B H σ env fp → is.length = os.length →
    ∃ fp2, Sit B0 H0 B H fp2 ∧ REnv K B H (G.sets is vs σ) ((is.zip os).foldl (fun e y => e.set y.1 (some y.2)) env) fp2
  | [], vs, [], σ, env, f, fp, t, r, re, _ => by
    cases r
    exact ⟨_, t, re⟩
  | i :: is, vs, o :: os, σ, env, f, fp, t, r, re, hl => by
    cases r with
    | @cons v vs' _ _ f1 f2 h r =>
      have t1 : Sit B0 H0 B H (f2 ++ (f1 ++ fp)) := t.perm (by rw [List.append_assoc]; exact perm_ac f1 f2 fp)
      obtain ⟨fp2, t2, re2⟩ := put_fin (i := i) t1 h re
      exact puts_fin (is := is) (vs := vs') (os := os) t2 r re2 (by simpa using hl)
  | [], _, _ :: _, _, _, _, _, _, _, _, h => by cases h
  | _ :: _, _, [], _, _, _, _, _, _, _, h => by cases h
/-- an own thing in a slot is changed -/
theorem mutate {σ : L2.St} {env : Env} {i : Nat} {o : O} (t : Sit B0 H0 B H fp) (re : REnv K B H σ env fp) (h : env[i]? = some (some o)) (ho : (∃ xs, o = .fl xs) ∨ ∃ kvs, o = .fd kvs) :
    ∃ a, σ[i]? = some (some (.ref a)) ∧ RO K B H (.ref a) o [a] ∧ a ∈ fp ∧ ∀ (u : HO) (o' : O), RO K B (upd H a u) (.ref a) o' [a] → Sit B0 H0 B (upd H a u) fp ∧ ∃ fp2, REnv K B (upd H a u) σ (env.set i (some o')) fp2 ∧ Sit B0 H0 B (upd H a u) fp2 := by
  obtain ⟨v, g, r', h1, h2, h3, h4⟩ := re.take h
  have key : ∃ a, v = .ref a ∧ g = [a] := by
    rcases ho with ⟨xs, rfl⟩ | ⟨kvs, rfl⟩
    · cases h2; exact ⟨_, rfl, rfl⟩
    · cases h2; exact ⟨_, rfl, rfl⟩
  obtain ⟨a, rfl, rfl⟩ := key
  have ha : a ∈ fp := h3.mem_iff.mpr (by simp)
  refine ⟨a, h1, h2, ha, fun u o' ro => ?_⟩
  have t' := t.upd ha (u := u)
  refine ⟨t', ?_⟩
  have nd : ([a] ++ r').Nodup := h3.nodup_iff.mp t.w.nd
  have na : a ∉ r' := (List.nodup_cons.mp nd).1
  have re' : REnv K B (upd H a u) σ (env.set i none) r' := h4.mono (.refl B) fun b hb w e => by
    rw [upd_ne (fun z => na (by rw [← z]; exact hb))]
    exact e
  obtain ⟨f', p1, re2⟩ := re'.putN (i := i) (v := .ref a) (o := o') (g := [a]) (by rw [List.getElem?_set_self (List.getElem?_eq_some_iff.mp h).1]) ro
  rw [List.set_set] at re2
  have es : σ.set i (some (.ref a)) = σ := by
    refine List.ext_getElem? fun j => ?_
    by_cases hj : i = j
    · subst hj
      rw [List.getElem?_set_self (List.getElem?_eq_some_iff.mp h1).1, h1]
    · rw [List.getElem?_set_ne hj]
  rw [es] at re2
  exact ⟨f', re2, t'.perm (h3.trans p1.symm)⟩
end
/-! ### values that may take a slot's thing along -/
def SndV (X : Cx) (env : Env) (ex : Expr) (o : O) (env1 : Env) : Prop := ∀ ⦃B0 H0 B H : Hp⦄ ⦃σ : L2.St⦄ ⦃fp g : List Addr⦄ ⦃Q : VK⦄, Sit B0 H0 B H (g ++ fp) → (∀ a ∈ g, H a ≠ none) → REnv X.K B H σ env fp →
  (∀ v B' H' f fp', Ext B B' → Ext H H' → Sit B0 H0 B' H' (g ++ (f ++ fp')) → RO X.K B' H' v o f → REnv X.K B' H' σ env1 fp' → Q v H') → wE X ex σ H Q
def SndWs (X : Cx) (env : Env) (es : List Expr) (os : List O) (env1 : Env) : Prop := ∀ ⦃B0 H0 B H : Hp⦄ ⦃σ : L2.St⦄ ⦃fp g : List Addr⦄ ⦃Q : List V → Hp → Prop⦄, Sit B0 H0 B H (g ++ fp) → (∀ a ∈ g, H a ≠ none) → REnv X.K B H σ env fp →
  (∀ vs B' H' f fp', Ext B B' → Ext H H' → Sit B0 H0 B' H' (g ++ (f ++ fp')) → ROs X.K B' H' vs os f → REnv X.K B' H' σ env1 fp' → Q vs H') → wA X es σ H Q
section
variable {X : Cx} {env env1 env2 : Env} {ex l : Expr} {o : O} {os : List O} {es : List Expr}
theorem mem_app {H : Hp} {f g : List Addr} (h1 : ∀ a ∈ f, H a ≠ none) (h2 : ∀ a ∈ g, H a ≠ none) : ∀ a ∈ f ++ g, H a ≠ none := fun a ha => (List.mem_append.mp ha).elim (h1 a) (h2 a)
theorem ext_has {H H' : Hp} (e : Ext H H') {f : List Addr} (h : ∀ a ∈ f, H a ≠ none) : ∀ a ∈ f, H' a ≠ none := fun a ha z => h a ha (e.none z)
theorem Snd.v (h : Snd X env ex o) : SndV X env ex o env := fun _ _ _ _ _ fp g _ t hg re q => h t.w.right re fun v B' H' f s ro n =>
  q v B' H' f fp s.b s.h ((t.add s (mem_app hg re.has) n).perm (perm_ac f g fp)) ro (re.stp s)
theorem sndv_mov {T : Tb} {c : Ct} {N : List Str} {sc so : Scope} {k : Nat} (hx : XOk T c N sc so k X) {i : Nat} {x : Str} {pos : Pos} (h : nameB N sc i x = true) (hs : slot env i = some o) : SndV X env (.Name x pos) o (env.set i none) := fun _ _ B H _ fp g _ t hg re q => by
  obtain ⟨v, g1, r', h1, h2, h3, h4⟩ := re.take (slot_some hs)
  exact ⟨_, name_ok hx h, v, h1, q v B H g1 r' (.refl B) (.refl H) (t.perm (List.Perm.append_left g h3)) h2 h4⟩
theorem sndw_nil : SndWs X env [] [] env := fun _ _ _ _ _ fp g _ t hg re q => ⟨_, pa_nil, q _ _ _ [] fp (.refl _) (.refl _) t .nil re⟩
theorem sndw_cons (hn : nst l = true) (h1 : SndV X env l o env1) (h2 : SndWs X env1 es os env2) : SndWs X env (l :: es) (o :: os) env2 := fun _ _ _ _ _ fp g _ t hg re q =>
  ⟨_, pa_cons wE_ok wA_ok (star_cons hn), h1 t hg re fun v B1 H1 f fp1 sb sh t1 r1 re1 => h2 (g := g ++ f) (by rw [List.append_assoc]; exact t1) (mem_app (ext_has sh hg) r1.has) re1 fun vs B2 H2 f2 fp2 sb2 sh2 t2 r2 re2 =>
    q _ _ _ (f ++ f2) fp2 (sb.trans sb2) (sh.trans sh2) (by rw [List.append_assoc] at t2; rw [List.append_assoc]; exact t2) (.cons (r1.mono sb2 fun a _ u z => sh2 a u z) r2) re2⟩
theorem sndv_tup {k : Nat} {pos : Pos} (h1 : SndWs X env es os env1) (h : mkT os = some o) : SndV X env (.Tuple es k pos) o env1 := fun _ _ _ _ _ fp g _ t hg re q =>
  ⟨_, pe_tup wA_ok, h1 t hg re fun vs B1 H1 f1 fp1 sb sh t1 r1 re1 => by
    unfold mkT at h
    split at h
    · rename_i c
      refine ⟨by rw [r1.len, line_eq]; omega, fun a ha => ?_⟩
      have s2 := Stp.layB (o := .tup vs) t1.s.bh ha
      have t2 := t1.stp s2 (mem_app (ext_has sh hg) (mem_app r1.has re1.has))
      cases z : plains os with
      | some ps =>
        rw [z] at h
        cases h
        obtain ⟨rp, rfl⟩ := plains_ok z r1
        exact q _ _ _ [] fp1 (sb.trans s2.b) (sh.trans s2.h) t2 (.pl (.tup (.of upd_same) (rp.stp s2))) (re1.stp s2)
      | none =>
        rw [z] at h
        cases h
        exact q _ _ _ f1 fp1 (sb.trans s2.b) (sh.trans s2.h) t2 (.tup upd_same (r1.stp s2)) (re1.stp s2)
    · cases h⟩
theorem sndv_lst {pos : Pos} (h1 : SndWs X env es os env1) (h : mkL os = some o) : SndV X env (.List es pos) o env1 := fun _ _ _ _ _ fp g _ t hg re q =>
  ⟨_, pe_lst wA_ok, h1 t hg re fun vs B1 H1 f1 fp1 sb sh t1 r1 re1 => by
    unfold mkL at h
    split at h
    · rename_i c
      refine ⟨by rw [r1.len, line_eq]; omega, fun a ha => ?_⟩
      have s2 := Stp.lay (o := .lst vs) t1.s.bh ha
      have hfs := mem_app (ext_has sh hg) (mem_app r1.has re1.has)
      have t2 : Sit _ _ B1 (upd H1 a (.lst vs)) ([a] ++ (g ++ (f1 ++ fp1))) := t1.add (g := [a]) s2 hfs ⟨by simp, by simpa using ha, by simpa using t1.w.bh.none ha⟩
      cases z : fzs os with
      | some ps =>
        rw [z] at h
        cases h
        have t3 : Sit _ _ B1 (upd H1 a (.lst vs)) (f1 ++ ([a] ++ (g ++ fp1))) := t2.perm (((List.Perm.append_left [a] (perm_ac g f1 fp1)).trans (perm_ac [a] f1 (g ++ fp1))))
        obtain ⟨B2, e2, t4, rp⟩ := t3.share (r1.stp s2) z
        exact q _ _ _ [a] fp1 (sb.trans e2) (sh.trans s2.h) (t4.perm (perm_ac [a] g fp1)) (.fl upd_same rp) ((re1.stp s2).mono e2 fun _ _ _ z => z)
      | none =>
        rw [z] at h
        cases h
        exact q _ _ _ (a :: f1) fp1 (sb.trans s2.b) (sh.trans s2.h) (t2.perm (perm_ac [a] g (f1 ++ fp1))) (.lst upd_same (r1.stp s2)) (re1.stp s2)
    · cases h⟩
end
end G

set_option maxRecDepth 100000
namespace G
open PySem L2
/-! ### places -/
/-- what stands at f stands -/
def Agr (f : List Addr) (H H' : Hp) : Prop := ∀ a ∈ f, ∀ u, H a = some u → H' a = some u
theorem Agr.refl {f : List Addr} {H : Hp} : Agr f H H := fun _ _ _ h => h
theorem Agr.trans {f : List Addr} {H H1 H2 : Hp} (a : Agr f H H1) (b : Agr f H1 H2) : Agr f H H2 := fun x hx u h => b x hx u (a x hx u h)
theorem Agr.sub {f g : List Addr} {H H' : Hp} (a : Agr f H H') (h : ∀ x ∈ g, x ∈ f) : Agr g H H' := fun x hx => a x (h x hx)
theorem Agr.ext {f : List Addr} {H H' : Hp} (e : Ext H H') : Agr f H H' := fun _ _ u h => e _ u h
theorem Agr.left {f g : List Addr} {H H' : Hp} (a : Agr (f ++ g) H H') : Agr f H H' := a.sub fun _ h => by simp [h]
theorem Agr.right {f g : List Addr} {H H' : Hp} (a : Agr (f ++ g) H H') : Agr g H H' := a.sub fun _ h => by simp [h]
/-- the value w at the place q within v -/
def RchV (H : Hp) : List Pt → V → V → Prop
  | [], v, w => w = v
  | .fld f :: ts, v, w => ∃ a C dx us, RchV H ts v (.ref a) ∧ H a = some (.ins C dx us) ∧ us.lookup f = some w
  | .ix p :: ts, v, w => ∃ a vs j, RchV H ts v (.ref a) ∧ (H a = some (.lst vs) ∨ H a = some (.tup vs)) ∧ p = .int j ∧ atI vs j = some w
theorem RchV.fn {H : Hp} : ∀ {q : List Pt} {v w w' : V}, RchV H q v w → RchV H q v w' → w = w'
  | [], _, _, _, h, h' => by
    have a : _ = _ := h
    have b : _ = _ := h'
    rw [a, b]
  | .fld f :: ts, _, _, _, ⟨a, C, dx, us, h1, h2, h3⟩, ⟨a', C', dx', us', k1, k2, k3⟩ => by
    have e := RchV.fn h1 k1
    cases e
    rw [h2] at k2
    cases k2
    rw [h3] at k3
    exact Option.some.inj k3
  | .ix p :: ts, _, _, _, ⟨a, vs, j, h1, h2, h3, h4⟩, ⟨a', vs', j', k1, k2, k3, k4⟩ => by
    have e := RchV.fn h1 k1
    cases e
    have ev : vs = vs' := by
      rcases h2 with h2 | h2 <;> rcases k2 with k2 | k2 <;> rw [h2] at k2 <;> cases k2 <;> rfl
    subst ev
    subst h3
    cases k3
    rw [h4] at k4
    exact Option.some.inj k4
theorem RchV.ext {H H' : Hp} (e : Ext H H') : ∀ {q : List Pt} {v w : V}, RchV H q v w → RchV H' q v w
  | [], _, _, h => h
  | .fld f :: ts, _, _, ⟨a, C, dx, us, h1, h2, h3⟩ => ⟨a, C, dx, us, h1.ext e, e _ _ h2, h3⟩
  | .ix p :: ts, _, _, ⟨a, vs, j, h1, h2, h3, h4⟩ => ⟨a, vs, j, h1.ext e, h2.imp (e _ _) (e _ _), h3, h4⟩
section
variable {K : PySem.W.Frag} {B H : Hp}
theorem ROf.foc {f : Str} {y : O} : ∀ {us : List (Str × V)} {kvs : List (Str × O)} {g : List Addr}, ROf K B H us kvs g → fldL f kvs = some y → ∃ w fy fr, us.lookup f = some w ∧ g.Perm (fy ++ fr) ∧ RO K B H w y fy ∧
    ∀ B' H' y' fy', Ext B B' → Agr fr H H' → RO K B' H' w y' fy' → ∃ g', g'.Perm (fy' ++ fr) ∧ ROf K B' H' us (putL f y' kvs) g'
  | _, _, _, .nil, h => by cases h
  | _, _, _, .cons (x := x) (v := v) (us := us) (o := o') (kvs := kvs) (f := f1) (g := g1) r rs, h => by
    unfold fldL at h
    split at h
    · rename_i e
      cases h
      have e : x = f := e
      subst e
      refine ⟨v, f1, g1, by rw [List.lookup_cons]; simp, .refl _, r, fun B' H' y' fy' e a r' => ⟨fy' ++ g1, .refl _, ?_⟩⟩
      unfold putL
      rw [if_pos rfl]
      exact .cons r' (rs.mono e a)
    · rename_i e
      have e : ¬ x = f := e
      obtain ⟨w, fy, fr, h1, h2, h3, h4⟩ := ROf.foc rs h
      refine ⟨w, fy, f1 ++ fr, ?_, ?_, h3, fun B' H' y' fy' e' a r' => ?_⟩
      · rw [List.lookup_cons]
        have : (f == x) = false := by
          rw [beq_eq_false_iff_ne]
          exact fun z => e z.symm
        rw [this]
        exact h1
      · exact (List.Perm.append_left f1 h2).trans (perm_ac f1 fy fr)
      · obtain ⟨g', p, r2⟩ := h4 B' H' y' fy' e' a.right r'
        refine ⟨f1 ++ g', (List.Perm.append_left f1 p).trans (perm_ac f1 fy' fr), ?_⟩
        unfold putL
        rw [if_neg e]
        exact .cons (r.mono e' a.left) r2
theorem ROs.foc {y : O} : ∀ {os : List O} {vs : List V} {g : List Addr} {n : Nat}, ROs K B H vs os g → os[n]? = some y → ∃ w fy fr, vs[n]? = some w ∧ g.Perm (fy ++ fr) ∧ RO K B H w y fy ∧
    ∀ B' H' y' fy', Ext B B' → Agr fr H H' → RO K B' H' w y' fy' → ∃ g', g'.Perm (fy' ++ fr) ∧ ROs K B' H' vs (os.set n y') g' := by
  intro os
  induction os with
  | nil => intro vs g n r h; simp at h
  | cons o' os ih =>
    intro vs g n r h
    cases r with
    | @cons v vs' _ _ f1 g1 r rs =>
      cases n with
      | zero =>
        simp at h
        subst h
        exact ⟨v, f1, g1, rfl, .refl _, r, fun B' H' y' fy' e a r' => ⟨fy' ++ g1, .refl _, .cons r' (rs.mono e a)⟩⟩
      | succ n =>
        obtain ⟨w, fy, fr, h1, h2, h3, h4⟩ := ih (n := n) rs (by simpa using h)
        refine ⟨w, fy, f1 ++ fr, by simpa using h1, (List.Perm.append_left f1 h2).trans (perm_ac f1 fy fr), h3, fun B' H' y' fy' e' a r' => ?_⟩
        obtain ⟨g', p, r2⟩ := h4 B' H' y' fy' e' a.right r'
        exact ⟨f1 ++ g', (List.Perm.append_left f1 p).trans (perm_ac f1 fy' fr), .cons (r.mono e' a.left) r2⟩
theorem putL_keys {f : Str} {y z : O} : ∀ {kvs : List (Str × O)}, fldL f kvs = some z → ∀ q ∈ putL f y kvs, ∃ q' ∈ kvs, q'.1 = q.1
  | [], h, _, _ => by cases h
  | x :: kvs, h, q, hq => by
    unfold fldL at h
    unfold putL at hq
    by_cases e : x.1 = f
    · rw [if_pos e] at hq
      rcases List.mem_cons.mp hq with z | z
      · subst z
        exact ⟨x, List.mem_cons_self, e⟩
      · exact ⟨q, List.mem_cons_of_mem _ z, rfl⟩
    · rw [if_neg e] at hq h
      rcases List.mem_cons.mp hq with z | z
      · exact ⟨x, List.mem_cons_self, by rw [z]⟩
      · obtain ⟨q', h1, h2⟩ := putL_keys h q z
        exact ⟨q', List.mem_cons_of_mem _ h1, h2⟩
theorem elO_some {u k y : O} (h : elO u k = some y) : ∃ xs j n, (u = .lst xs ∨ u = .tup xs) ∧ k = .pl (.int j) ∧ ixN xs.length j = some n ∧ xs[n]? = some y := by
  unfold elO at h
  split at h
  · obtain ⟨n, e1, e2⟩ := Option.bind_eq_some_iff.mp h
    exact ⟨_, _, n, .inl rfl, rfl, e1, e2⟩
  · obtain ⟨n, e1, e2⟩ := Option.bind_eq_some_iff.mp h
    exact ⟨_, _, n, .inr rfl, rfl, e1, e2⟩
  · cases h
theorem getQ_cons {t : Pt} {ts : List Pt} {o y : O} (h : getQ (t :: ts) o = some y) : ∃ u, getQ ts o = some u ∧ getT t u = some y := by
  unfold getQ at h
  exact o1_some h
theorem putQ_cons {t : Pt} {ts : List Pt} {o u y : O} (h : getQ ts o = some u) : putQ (t :: ts) y o = putQ ts (setT t y u) o := by
  rw [putQ, h]
  rfl
/-- a place within a thing, apart from the rest -/
theorem foc {v : V} {o : O} {g : List Addr} (r : RO K B H v o g) : ∀ {q : List Pt} {y : O}, getQ q o = some y → ∃ w fy fr, g.Perm (fy ++ fr) ∧ RO K B H w y fy ∧ (∀ H', Ext B H' → Agr fr H H' → RchV H' q v w) ∧
    ∀ B' H' y' fy', Ext B B' → Agr fr H H' → RO K B' H' w y' fy' → ∃ g', g'.Perm (fy' ++ fr) ∧ RO K B' H' v (putQ q y' o) g'
  | [], y, h => by
    cases h
    refine ⟨v, g, [], by simp, r, fun _ _ _ => rfl, fun B' H' y' fy' _ _ r' => ⟨fy', by simp, r'⟩⟩
  | t :: ts, y, h => by
    obtain ⟨u, h1, h2⟩ := getQ_cons h
    obtain ⟨wu, fu, fr0, p0, r0, rch0, put0⟩ := foc r h1
    cases t with
    | fld f =>
      obtain ⟨c, kvs, rfl, h3⟩ := fldO_some (show fldO f u = some y from h2)
      cases r0 with
      | @obj a dx C us _ _ ff k1 k2 k3 k4 k5 k6 =>
        obtain ⟨w, fy, fr1, e1, e2, e3, e4⟩ := k6.foc h3
        refine ⟨w, fy, a :: dx :: (fr1 ++ fr0), ?_, e3, fun H' eb ag => ?_, fun B' H' y' fy' e ag r' => ?_⟩
        · refine p0.trans ?_
          have z : (a :: dx :: ff).Perm (a :: dx :: (fy ++ fr1)) := (e2.cons dx).cons a
          refine (List.Perm.append_right fr0 z).trans ?_
          show (([a, dx] ++ (fy ++ fr1)) ++ fr0).Perm (fy ++ ([a, dx] ++ (fr1 ++ fr0)))
          rw [List.append_assoc, List.append_assoc]
          exact perm_ac [a, dx] fy (fr1 ++ fr0)
        · exact ⟨a, C, dx, us, rch0 H' eb (ag.sub fun x hx => by simp [hx]), ag a (by simp) _ k4, e1⟩
        · obtain ⟨ff', p1, r1⟩ := e4 B' H' y' fy' e (ag.sub fun x hx => by simp [hx]) r'
          have ro : RO K B' H' (.ref a) (.obj c (putL f y' kvs)) (a :: dx :: ff') := .obj k1 k2 (fun q hq => by
            obtain ⟨q', m1, m2⟩ := putL_keys h3 q hq
            rw [← m2]
            exact k3 q' m1) (ag a (by simp) _ k4) (ag dx (by simp) _ k5) r1
          obtain ⟨g', p2, r2⟩ := put0 B' H' _ _ e (ag.sub fun x hx => by simp [hx]) ro
          rw [putQ_cons h1]
          refine ⟨g', p2.trans ?_, r2⟩
          have z : (a :: dx :: ff').Perm (a :: dx :: (fy' ++ fr1)) := (p1.cons dx).cons a
          refine (List.Perm.append_right fr0 z).trans ?_
          show (([a, dx] ++ (fy' ++ fr1)) ++ fr0).Perm (fy' ++ ([a, dx] ++ (fr1 ++ fr0)))
          rw [List.append_assoc, List.append_assoc]
          exact perm_ac [a, dx] fy' (fr1 ++ fr0)
    | ix p =>
      obtain ⟨xs, j, n, eu, e0, e1, e2⟩ := elO_some (show elO u (.pl p) = some y from h2)
      cases e0
      rcases eu with rfl | rfl
      · cases r0 with
        | @lst a vs _ ff k1 k2 =>
          obtain ⟨w, fy, fr1, m1, m2, m3, m4⟩ := k2.foc e2
          refine ⟨w, fy, a :: (fr1 ++ fr0), ?_, m3, fun H' eb ag => ?_, fun B' H' y' fy' e ag r' => ?_⟩
          · refine p0.trans ?_
            refine (List.Perm.append_right fr0 (m2.cons a)).trans ?_
            show (([a] ++ (fy ++ fr1)) ++ fr0).Perm (fy ++ ([a] ++ (fr1 ++ fr0)))
            rw [List.append_assoc, List.append_assoc]
            exact perm_ac [a] fy (fr1 ++ fr0)
          · refine ⟨a, vs, j, rch0 H' eb (ag.sub fun x hx => by simp [hx]), .inl (ag a (by simp) _ k1), rfl, ?_⟩
            unfold atI
            rw [k2.len, e1]
            exact m1
          · obtain ⟨ff', p1, r1⟩ := m4 B' H' y' fy' e (ag.sub fun x hx => by simp [hx]) r'
            have ro : RO K B' H' (.ref a) (.lst (xs.set n y')) (a :: ff') := .lst (ag a (by simp) _ k1) r1
            obtain ⟨g', p2, r2⟩ := put0 B' H' _ _ e (ag.sub fun x hx => by simp [hx]) ro
            have es : setT (.ix (.int j)) y' (.lst xs) = .lst (xs.set n y') := by
              simp only [setT, e1]
            rw [putQ_cons h1, es]
            refine ⟨g', p2.trans ?_, r2⟩
            refine (List.Perm.append_right fr0 (p1.cons a)).trans ?_
            show (([a] ++ (fy' ++ fr1)) ++ fr0).Perm (fy' ++ ([a] ++ (fr1 ++ fr0)))
            rw [List.append_assoc, List.append_assoc]
            exact perm_ac [a] fy' (fr1 ++ fr0)
      · cases r0 with
        | @tup a vs _ ff k1 k2 =>
          obtain ⟨w, fy, fr1, m1, m2, m3, m4⟩ := k2.foc e2
          refine ⟨w, fy, fr1 ++ fr0, ?_, m3, fun H' eb ag => ?_, fun B' H' y' fy' e ag r' => ?_⟩
          · refine p0.trans ?_
            rw [← List.append_assoc]
            exact List.Perm.append_right fr0 m2
          · refine ⟨a, vs, j, rch0 H' eb (ag.sub fun x hx => by simp [hx]), .inr (eb a _ k1), rfl, ?_⟩
            unfold atI
            rw [k2.len, e1]
            exact m1
          · obtain ⟨ff', p1, r1⟩ := m4 B' H' y' fy' e (ag.sub fun x hx => by simp [hx]) r'
            have ro : RO K B' H' (.ref a) (.tup (xs.set n y')) ff' := .tup (e a _ k1) r1
            obtain ⟨g', p2, r2⟩ := put0 B' H' _ _ e (ag.sub fun x hx => by simp [hx]) ro
            have es : setT (.ix (.int j)) y' (.tup xs) = .tup (xs.set n y') := by
              simp only [setT, e1]
            rw [putQ_cons h1, es]
            refine ⟨g', p2.trans ?_, r2⟩
            rw [← List.append_assoc]
            exact List.Perm.append_right fr0 p1
theorem fldL_putL {f : Str} {y : O} : ∀ {kvs : List (Str × O)}, fldL f (putL f y kvs) = some y
  | [] => by
    unfold putL fldL
    rw [if_pos rfl]
  | x :: kvs => by
    unfold putL
    by_cases e : x.1 = f
    · rw [if_pos e]
      unfold fldL
      rw [if_pos rfl]
    · rw [if_neg e]
      unfold fldL
      rw [if_neg e]
      exact fldL_putL
theorem getT_setT {t : Pt} {u z y : O} (h : getT t u = some z) : getT t (setT t y u) = some y := by
  cases t with
  | fld f =>
    obtain ⟨c, kvs, rfl, h3⟩ := fldO_some (show fldO f u = some z from h)
    exact fldL_putL
  | ix p =>
    obtain ⟨xs, j, n, eu, e0, e1, e2⟩ := elO_some (show elO u (.pl p) = some z from h)
    cases e0
    have fin : atI (xs.set n y) j = some y := by
      unfold atI
      rw [List.length_set, e1]
      show (xs.set n y)[n]? = some y
      rw [List.getElem?_set_self (List.getElem?_eq_some_iff.mp e2).1]
    rcases eu with rfl | rfl
    · have es : setT (.ix (.int j)) y (.lst xs) = .lst (xs.set n y) := by
        simp only [setT, e1]
      rw [es]
      exact fin
    · have es : setT (.ix (.int j)) y (.tup xs) = .tup (xs.set n y) := by
        simp only [setT, e1]
      rw [es]
      exact fin
theorem getQ_putQ {o y : O} : ∀ {q : List Pt} {z : O}, getQ q o = some z → ∀ y, getQ q (putQ q y o) = some y
  | [], _, _, _ => rfl
  | t :: ts, z, h, y => by
    obtain ⟨u, h1, h2⟩ := getQ_cons h
    rw [putQ_cons h1, getQ, getQ_putQ (o := o) (y := y) h1]
    exact getT_setT h2
end
/-! ### a slot's place -/
theorem plcG_some {env : Env} {i : Nat} {q : List Pt} {y : O} (h : plcG env i (some q) = some y) : ∃ o, slot env i = some o ∧ getQ q o = some y := o1_some h
theorem plcS_some {env env' : Env} {i : Nat} {q : List Pt} {y : O} (h : plcS env i y (some q) = some env') : ∃ o z, slot env i = some o ∧ getQ q o = some z ∧ env' = env.set i (some (putQ q y o)) := by
  unfold plcS at h
  cases h1 : slot env i with
  | none => rw [h1] at h; cases h
  | some o =>
    rw [h1] at h
    have h : plcT env i y q o (getQ q o) = some env' := h
    cases h2 : getQ q o with
    | none => rw [h2] at h; cases h
    | some z =>
      rw [h2] at h
      cases h
      exact ⟨o, z, rfl, h2, rfl⟩
/-- the value at a slot's place -/
def RchE (H : Hp) (σ : L2.St) (i : Nat) (q : List Pt) (w : V) : Prop := ∃ v, σ[i]? = some (some v) ∧ RchV H q v w
theorem RchE.fn {H : Hp} {σ : L2.St} {i : Nat} {q : List Pt} {w w' : V} (h : RchE H σ i q w) (k : RchE H σ i q w') : w = w' := by
  obtain ⟨v, h1, h2⟩ := h
  obtain ⟨v', k1, k2⟩ := k
  rw [h1] at k1
  cases k1
  exact h2.fn k2
theorem RchE.ext {H H' : Hp} {σ : L2.St} {i : Nat} {q : List Pt} {w : V} (e : Ext H H') (h : RchE H σ i q w) : RchE H' σ i q w := let ⟨v, h1, h2⟩ := h; ⟨v, h1, h2.ext e⟩
section
variable {K : PySem.W.Frag} {B H : Hp} {σ : L2.St} {env : Env} {fp : List Addr} {i : Nat} {q : List Pt} {y : O}
theorem st_same {v : V} (h1 : σ[i]? = some (some v)) : σ.set i (some v) = σ := by
  refine List.ext_getElem? fun j => ?_
  by_cases hj : i = j
  · subst hj
    rw [List.getElem?_set_self (List.getElem?_eq_some_iff.mp h1).1, h1]
  · rw [List.getElem?_set_ne hj]
/-- a slot's place, apart from the rest of the frame -/
theorem REnv.foc (re : REnv K B H σ env fp) (h : plcG env i (some q) = some y) : ∃ w fy fr, fp.Perm (fy ++ fr) ∧ RO K B H w y fy ∧ (∀ H', Ext B H' → Agr fr H H' → RchE H' σ i q w) ∧
    ∀ B' H' y' fy' env', Ext B B' → Agr fr H H' → RO K B' H' w y' fy' → plcS env i y' (some q) = some env' → ∃ fp', fp'.Perm (fy' ++ fr) ∧ REnv K B' H' σ env' fp' := by
  obtain ⟨o, h1, h2⟩ := plcG_some h
  obtain ⟨v, g, r', k1, k2, k3, k4⟩ := re.take (slot_some h1)
  obtain ⟨w, fy, fr, p1, r1, rch, put⟩ := G.foc k2 h2
  refine ⟨w, fy, fr ++ r', ?_, r1, fun H' eb ag => ⟨v, k1, rch H' eb ag.left⟩, fun B' H' y' fy' env' e ag ro hs => ?_⟩
  · rw [← List.append_assoc]
    exact k3.trans (List.Perm.append_right r' p1)
  · obtain ⟨o', z, s1, s2, rfl⟩ := plcS_some hs
    rw [h1] at s1
    cases s1
    obtain ⟨g', p2, r2⟩ := put B' H' y' fy' e ag.left ro
    have hi := (List.getElem?_eq_some_iff.mp (slot_some h1)).1
    obtain ⟨f', p3, re2⟩ := (k4.mono e (H' := H') (fun a ha => ag.right a ha)).putN (i := i) (v := v) (o := putQ q y' o) (g := g') (by rw [List.getElem?_set_self hi]) r2
    rw [List.set_set, st_same k1] at re2
    refine ⟨f', p3.trans ?_, re2⟩
    rw [← List.append_assoc]
    exact List.Perm.append_right r' p2
end
/-! ### a call with things that are lent -/
section
variable {K : PySem.W.Frag} {B0 H0 B H B' H' : Hp} {f0 r n : List Addr}
theorem Sit.call (t : Sit B0 H0 B H (f0 ++ r)) (hr : ∀ a ∈ r, H a ≠ none) (s : Stp B (cut H f0) B' H') (f : Frs (cut H f0) B' n) : Sit B0 H0 B' H' (n ++ r) ∧ Agr r H H' := by
  have d : ∀ a ∈ r, a ∉ f0 := fun a ha hf => (List.nodup_append.mp t.w.nd).2.2 a hf a ha rfl
  have hc : ∀ a ∈ r, cut H f0 a = H a := fun a ha => cut_out (d a ha)
  have z : ∀ a, cut H f0 a = none → H0 a = none := fun a h => by
    by_cases ha : a ∈ f0
    · exact t.fr a (by simp [ha])
    · rw [cut_out ha] at h
      exact t.s.h.none h
  refine ⟨⟨⟨t.s.b.trans s.b, fun a o h => s.h a o ?_, s.bh, fun a h => ?_⟩, ⟨s.bh, ?_, fun a ha => ?_⟩, fun a ha => ?_⟩, fun a ha u h => s.h a u (by rw [hc a ha]; exact h)⟩
  · by_cases ha : a ∈ f0
    · rw [t.fr a (by simp [ha])] at h
      cases h
    · rw [cut_out ha]
      exact t.s.h a o h
  · rcases s.new a h with y | y
    · exact t.s.new a y
    · exact .inr (z a y)
  · refine List.nodup_append.mpr ⟨f.nd, t.right.w.nd, fun a ha b hb e => ?_⟩
    subst e
    have := f.new a ha
    rw [hc a hb] at this
    exact hr a hb this
  · rcases List.mem_append.mp ha with y | y
    · exact f.out a y
    · cases e : B' a with
      | none => rfl
      | some u =>
        rcases s.new a (by rw [e]; simp) with x | x
        · exact absurd (t.w.out a (by simp [y])) x
        · rw [hc a y] at x
          exact absurd x (hr a y)
  · rcases List.mem_append.mp ha with y | y
    · exact z a (f.new a y)
    · exact t.fr a (by simp [y])
end
end G

set_option maxRecDepth 100000
namespace G
open PySem L2
/-! ### places and expressions that change slots, against the given syntax -/
/-- a single step's name, to tell places apart -/
inductive Pk where
  | f (s : Str) | n (j : Nat)
deriving DecidableEq
def pkT : Pt → Option Pk
  | .fld f => some (.f f)
  | .ix (.int j) => if 0 ≤ j then some (.n j.toNat) else none
  | _ => none
def kyQ : List Pt → Option Pk
  | [t] => pkT t
  | _ => none
def kyS : List Ps → Option Pk
  | [.fld f] => some (.f f)
  | [.ix (.lit (.int j))] => if 0 ≤ j then some (.n j.toNat) else none
  | _ => none
abbrev Ky := Nat × Option Pk
def dkO : Option Pk → Option Pk → Bool
  | some x, some y => decide (x ≠ y)
  | _, _ => false
/-- places apart -/
def dk (a b : Ky) : Bool := decide (a.1 ≠ b.1) || dkO a.2 b.2
def djB : List Ky → Bool
  | [] => true
  | k :: ks => ks.all (dk k) && djB ks
def lnK : Fas → List Ky
  | .nil => []
  | .val _ as => lnK as
  | .own _ as => lnK as
  | .ln i ps as => (i, kyS ps) :: lnK as
def puB : Fx → Bool
  | .p _ => true
  | _ => false
def puA : Fas → Bool
  | .nil => true
  | .val e as => puB e && puA as
  | .own e as => puB e && puA as
  | .ln _ _ as => puA as
def lnE : Fas → Bool
  | .nil => true
  | .val _ as => lnE as
  | .own _ as => lnE as
  | .ln _ ps as => ps.isEmpty && lnE as
def lnB (as : Fas) : Bool := djB (lnK as) && (puA as || lnE as)
def puFs : Fxs → Bool
  | .nil => true
  | .cons e es => puB e && puFs es
variable (T : Tb) (N : List Str)
def chkPl (sc : Scope) (i : Nat) : List Ps → Expr → Bool
  | [], .Name x _ => nameB N sc i x
  | .fld f :: ps, .Attribute e m _ => decide (m = f) && baseB e && chkPl sc i ps e
  | .ix k :: ps, .Subscript e s _ => chk T N sc k s && chkPl sc i ps e
  | _, _ => false
/-- a display's keys: texts that stand there -/
def keysB (sc : Scope) : List Str → List (Option Expr) → List Expr → Bool
  | [], [], [] => true
  | s :: ss, some x :: xs, _ :: ls => chk T N sc (.lit (.str s)) x && keysB sc ss xs ls
  | _, _, _ => false
mutual
def chkF (sc : Scope) : Fx → Expr → Bool
  | .p e, x => chk T N sc e x
  | .mv i ps, x => chkPl T N sc i ps x
  | .fr i ps, x => chkPl T N sc i ps x
  | .call f as, .Call (.Name x _) args [] _ => gnB sc (T.fn f) x && lnB as && chkAs sc as args
  | .meth cl m f i ps as, .Call (.Attribute v m' ap) args [] cp => decide (m = m') && decide (T.me cl m = some f) && baseB v && (ap.endLine == cp.line) && decide (args.length < 30) && lnB (.ln i ps as) && chkPl T N sc i ps v && chkAs sc as args
  | .new cl f as, .Call (.Name x _) args [] _ => gnB sc (some cl) x && decide (T.ini cl = some f) && lnB as && chkAs sc as args
  | .bin op a b, .BinOp l o r _ => decide (op = o) && chkF sc a l && chkF sc b r
  | .sh a, .Call f args kws p => chkF sc a (.Call f args kws p)
  | .not a, .UnaryOp .Not e _ => chkF sc a e
  | .and a b, .BoolOp .And (x :: y :: r) p => chkF sc a x && (match r with
    | [] => chkF sc b y
    | z :: r => chkF sc b (.BoolOp .And (y :: z :: r) p))
  | .or a b, .BoolOp .Or (x :: y :: r) p => chkF sc a x && (match r with
    | [] => chkF sc b y
    | z :: r => chkF sc b (.BoolOp .Or (y :: z :: r) p))
  | .cmp op a b, .Compare l [o] [r] _ => noIn op && setB r && decide (op = o) && chkF sc a l && chkF sc b r
  | .ife t a b, .IfExp u l r _ => chkF sc t u && chkF sc a l && chkF sc b r
  | .lst es, .List l _ => chkFs sc es l
  | .dct ks es, .Dict keys l _ => decide (1 ≤ ks.length) && decide (ks.length ≤ 15) && keysB T N sc ks keys l && chkFs sc es l
  | .lsto es, .List l _ => chkFs sc es l
  | .tup es, .Tuple l _ _ => chkFs sc es l
  | .idx a i, .Subscript v s _ => chkF sc a v && chkF sc i s
  | .bi b es, .Call (.Name x _) (e :: l) [] _ => gnB sc (some (biN b)) x && chkFs sc es (e :: l)
  | .pop i ps es, .Call (.Attribute v m ap) args [] cp => decide (m = ("pop" : Str)) && baseB v && (ap.endLine == cp.line) && chkPl T N sc i ps v && chks T N sc es args
  | .lc own tg it cond e, .ListComp el [⟨t, i, ifs, 0⟩] scope _ => ownB N sc scope own && decide (own = tgIs tg) && chkTg (relS scope sc) scope N tg t && chkFi sc it t i && (match cond, ifs with
    | .none, [] => true
    | .some d, [f] => chk T N (relS scope sc) d f
    | _, _ => false) && chkF (relS scope sc) e el
  | _, _ => false
def chkFs (sc : Scope) : Fxs → List Expr → Bool
  | .nil, [] => true
  | .cons e es, x :: xs => chkF sc e x && chkFs sc es xs
  | _, _ => false
def chkAs (sc : Scope) : Fas → List Expr → Bool
  | .nil, [] => true
  | .val e as, x :: xs => chkF sc e x && chkAs sc as xs
  | .own e as, x :: xs => chkF sc e x && chkAs sc as xs
  | .ln i ps as, x :: xs => chkPl T N sc i ps x && chkAs sc as xs
  | _, _ => false
def chkFi (sc : Scope) : Fit → Expr → Expr → Bool
  | .pure it, t, x => chkI T N sc it t x
  | .seq e, _, x => setB x && chkF sc e x
  | .range1 e, _, .Call (.Name x _) [a] [] _ => gnB sc (some "range") x && chkF sc e a
  | .enum e, .Tuple _ _ _, .Call (.Name x _) [a] [] _ => gnB sc (some "enumerate") x && chkF sc e a
  | _, _, _ => false
end
section
variable {T : Tb} {N : List Str}
theorem chkPl_nst {sc : Scope} {i : Nat} {ps : List Ps} {x : Expr} (h : chkPl T N sc i ps x = true) : nst x = true := by
  unfold chkPl at h
  split at h <;> first | rfl | cases h
theorem chkPl_ix {sc : Scope} {i : Nat} {ps : List Ps} {x : Expr} (h : chkPl T N sc i ps x = true) : ∀ o i, subscripted x false o i = operate [o, i] (getItem o i) := by
  unfold chkPl at h
  split at h <;> first | (intro _ _; rfl) | cases h
theorem chkF_nst {sc : Scope} {e : Fx} {x : Expr} (h : chkF T N sc e x = true) : nst x = true := by
  unfold chkF at h
  split at h <;> first | rfl | exact chk_nst h | exact chkPl_nst h | cases h
theorem chkF_ix {sc : Scope} {e : Fx} {x : Expr} (h : chkF T N sc e x = true) : ∀ o i, subscripted x false o i = operate [o, i] (getItem o i) := by
  unfold chkF at h
  split at h <;> first | (intro _ _; rfl) | exact plainIx_ok h | exact chkPl_ix h | cases h
theorem chkFs_nst {sc : Scope} : ∀ {xs : List Expr} {es : Fxs}, chkFs T N sc es xs = true → xs.all nst = true := by
  intro xs
  induction xs with
  | nil => intro _ _; rfl
  | cons x xs ih =>
    intro es h
    cases es with
    | nil => unfold chkFs at h; cases h
    | cons e es =>
      unfold chkFs at h
      rw [Bool.and_eq_true] at h
      rw [List.all_cons, chkF_nst h.1, ih h.2]
      rfl
theorem chkAs_nst {sc : Scope} : ∀ {xs : List Expr} {as : Fas}, chkAs T N sc as xs = true → xs.all nst = true := by
  intro xs
  induction xs with
  | nil => intro _ _; rfl
  | cons x xs ih =>
    intro as h
    cases as with
    | nil => unfold chkAs at h; cases h
    | val e es =>
      unfold chkAs at h
      rw [Bool.and_eq_true] at h
      rw [List.all_cons, chkF_nst h.1, ih h.2]
      rfl
    | own e es =>
      unfold chkAs at h
      rw [Bool.and_eq_true] at h
      rw [List.all_cons, chkF_nst h.1, ih h.2]
      rfl
    | ln i ps es =>
      unfold chkAs at h
      rw [Bool.and_eq_true] at h
      rw [List.all_cons, chkPl_nst h.1, ih h.2]
      rfl
end
end G

set_option maxRecDepth 100000
/-! ### calls that may raise, with the slots in the wish -/
namespace G
open PySem PySem.Spec PyProof PyProof.Rows L2
section
variable {X : Cx} {CX : CXT} {k : Nat} {f C : Addr} {fd : FuncData} {ps : List Str} {sp : Sp} {E : L2.St → XK} {x m : Str} {p pos apos : Pos} {e o : Expr} {es : List Expr} {ta : TE} {t : TA}
theorem pe_callS0 (F : FnOk X.prog X.w X.K X.mg X.base CX k f fd ps sp) (hr : Room k X.A) (hg : Gl X x) (hm : X.mg x = some (.ref f)) (hk : PySem.W.keepIn X.K (.ref f) = true) (hb : Binds X.K fd ps []) (hx : ∀ σ, PassesAt CX X σ (E σ))
    (hdb : (x == ("__debug__" : Str)) = false := by decide) : PE X (.Call (.Name x p) [] [] pos) (tCallS sp E tNil) := by
  refine ⟨fun pins s σ H Q I h => ?_⟩
  refine wpAny_Call_Name_kw (ld_glob I hg hm ?_ hdb)
  exact PySem.W.callWith_K0 I.kIn hk (run_fnS (us := []) F hr hb (hx σ) I .nil h)
def tMethS (C : Addr) (m : Str) (sp : Sp) (E : L2.St → XK) (ta : TE) (t : TA) : TE := fun σ H Q => ta σ H fun x H1 => ∃ a dx fs, x = .ref a ∧ H1 a = some (.ins C dx fs) ∧ fs.lookup m = none ∧
  t σ H1 fun vs H2 => sp (x :: vs) H2 Q (E σ)
theorem pe_methS {pl : Sem Bool} (he : PE X o ta) (c : Cls X.K C) (hm : Meth X.K C m f) (F : FnOk X.prog X.w X.K X.mg X.base CX k f fd ps sp) (hr : Room k X.A) (hb : Binds X.K fd ps []) (hx : ∀ σ, PassesAt CX X σ (E σ)) (ha : PA X (e :: es) t)
    (hst : starEach (e :: es) X.env = (false, eval e X.env) :: starEach es X.env := by rfl) (hpl : (backTo pos (starEach es X.env)).any (·.1) = false := by rfl)
    (ht : eval (.Call (.Attribute o m apos) (e :: es) [] pos) X.env = (do
      let ov ← eval o X.env
      standAt apos.atName
      let (f, first) ← holding [ov] (getMethod ov m pl)
      callWith pos f first (backTo pos (starEach (e :: es) X.env)) (backToKw pos (keywordEach [] X.env))) := by rfl) :
    PE X (.Call (.Attribute o m apos) (e :: es) [] pos) (tMethS C m sp E ta t) := by
  refine ⟨fun pins s σ H Q I h => ?_⟩
  refine PySem.W.methodCall_KW (pl := pl) (thn (he.run pins s σ H _ I h) fun u s1 ⟨x, H1, I1, rx, a, dx, fs, ex, ea, l, q⟩ => ?_) ht
  subst ex
  obtain rfl : u = Value.ref a := rx
  refine getmeth_ok I1 ea c hm l ?_
  refine PySem.W.callWith_K (first := [.ref a]) (h₀ := X.base) I.ok.mod.kin hm.kp (thn (ha.run pos pins s1 σ H1 _ I1 q) fun us s2 ⟨vs, H2, I2, r, q2⟩ => ⟨I2.kIn, ?_⟩) hst hpl
  exact run_fnS (us := .ref a :: us) (vs := .ref a :: vs) F hr hb (hx σ) I2 (.cons rfl r) q2
theorem pe_methS0 {pl : Sem Bool} (he : PE X o ta) (c : Cls X.K C) (hm : Meth X.K C m f) (F : FnOk X.prog X.w X.K X.mg X.base CX k f fd ps sp) (hr : Room k X.A) (hb : Binds X.K fd ps []) (hx : ∀ σ, PassesAt CX X σ (E σ))
    (ht : eval (.Call (.Attribute o m apos) [] [] pos) X.env = (do
      let ov ← eval o X.env
      standAt apos.atName
      let (f, first) ← holding [ov] (getMethod ov m pl)
      callWith pos f first (backTo pos (starEach [] X.env)) (backToKw pos (keywordEach [] X.env))) := by rfl) :
    PE X (.Call (.Attribute o m apos) [] [] pos) (tMethS C m sp E ta tNil) := by
  refine ⟨fun pins s σ H Q I h => ?_⟩
  refine PySem.W.methodCall_KW (pl := pl) (thn (he.run pins s σ H _ I h) fun u s1 ⟨x, H1, I1, rx, a, dx, fs, ex, ea, l, q⟩ => ?_) ht
  subst ex
  obtain rfl : u = Value.ref a := rx
  refine getmeth_ok I1 ea c hm l ?_
  exact PySem.W.callWith_K0 (first := [.ref a]) I1.kIn hm.kp (run_fnS (us := [.ref a]) (vs := [.ref a]) F hr hb (hx σ) I1 (.cons rfl .nil) q)
end
/-! ### the judgement -/
def CF {α β : Type} (Rel : Hp → Hp → β → α → List Addr → Prop) (K : PySem.W.Frag) (W : WX) (B0 H0 : Hp) (g : List Addr) (B H : Hp) (σ : L2.St) (env1 : G.Env) (Q : β → Hp → Prop) : Rx α → Prop
  | .ok a => ∀ v B' H' f fp', Ext B B' → Agr g H H' → Sit B0 H0 B' H' (g ++ (f ++ fp')) → Rel B' H' v a f → REnv K B' H' σ env1 fp' → Q v H'
  | .ex c us => ∀ cls d B' H' f fp', Ext B B' → Agr g H H' → Sit B0 H0 B' H' (g ++ (f ++ fp')) → RX K B' H' cls d c us f → REnv K B' H' σ env1 fp' → W cls d σ H'
def relB : Hp → Hp → Bool → Bool → List Addr → Prop := fun _ _ b' b f => b' = b ∧ f = []
def SndF (X : Cx) (W : WX) (env : G.Env) (ex : Expr) (r : Rx O) (env1 : G.Env) : Prop := ∀ ⦃B0 H0 B H : Hp⦄ ⦃σ : L2.St⦄ ⦃fp g : List Addr⦄ ⦃Q : VK⦄, Sit B0 H0 B H (g ++ fp) → (∀ a ∈ g, H a ≠ none) → REnv X.K B H σ env fp →
  CF (RO X.K) X.K W B0 H0 g B H σ env1 Q r → wE X ex σ H Q
def SndFT (X : Cx) (W : WX) (env : G.Env) (ex : Expr) (r : Rx Bool) (env1 : G.Env) : Prop := ∀ ⦃B0 H0 B H : Hp⦄ ⦃σ : L2.St⦄ ⦃fp g : List Addr⦄ ⦃Q : Bool → Hp → Prop⦄, Sit B0 H0 B H (g ++ fp) → (∀ a ∈ g, H a ≠ none) → REnv X.K B H σ env fp →
  CF relB X.K W B0 H0 g B H σ env1 Q r → wT X ex σ H Q
def SndFW (X : Cx) (W : WX) (env : G.Env) (ex : Expr) (r : Rx Bool) (env1 : G.Env) : Prop := ∀ ⦃B0 H0 B H : Hp⦄ ⦃σ : L2.St⦄ ⦃fp g : List Addr⦄ ⦃Q : Bool → Hp → Prop⦄, Sit B0 H0 B H (g ++ fp) → (∀ a ∈ g, H a ≠ none) → REnv X.K B H σ env fp →
  CF relB X.K W B0 H0 g B H σ env1 Q r → wW X ex σ H Q
def SndFs (X : Cx) (W : WX) (env : G.Env) (es : List Expr) (r : Rx (List O)) (env1 : G.Env) : Prop := ∀ ⦃B0 H0 B H : Hp⦄ ⦃σ : L2.St⦄ ⦃fp g : List Addr⦄ ⦃Q : List V → Hp → Prop⦄, Sit B0 H0 B H (g ++ fp) → (∀ a ∈ g, H a ≠ none) → REnv X.K B H σ env fp →
  CF (ROs X.K) X.K W B0 H0 g B H σ env1 Q r → wA X es σ H Q
/-! arguments -/
inductive ARs (K : PySem.W.Frag) (σ : L2.St) (B H : Hp) : List V → List Arg → List Addr → Prop
  | nil : ARs K σ B H [] [] []
  | val {v : V} {p : P} {vs : List V} {as : List Arg} {f : List Addr} : RP K B v p → ARs K σ B H vs as f → ARs K σ B H (v :: vs) (.val p :: as) f
  | own {v : V} {o : O} {vs : List V} {as : List Arg} {f g : List Addr} : RO K B H v o f → ARs K σ B H vs as g → ARs K σ B H (v :: vs) (.own o :: as) (f ++ g)
  | plc {w : V} {i : Nat} {q : List Pt} {vs : List V} {as : List Arg} {f : List Addr} : RchE H σ i q w → ARs K σ B H vs as f → ARs K σ B H (w :: vs) (.plc i q :: as) f
def SndFA (X : Cx) (W : WX) (env : G.Env) (es : List Expr) (r : Rx (List Arg)) (env1 : G.Env) : Prop := ∀ ⦃B0 H0 B H : Hp⦄ ⦃σ : L2.St⦄ ⦃fp g : List Addr⦄ ⦃Q : List V → Hp → Prop⦄, Sit B0 H0 B H (g ++ fp) → (∀ a ∈ g, H a ≠ none) → REnv X.K B H σ env fp →
  CF (ARs X.K σ) X.K W B0 H0 g B H σ env1 Q r → wA X es σ H Q
section
variable {X : Cx} {W : WX} {env env1 env2 : G.Env} {l r m w : Expr} {o : O} {B0 H0 B H : Hp} {σ : L2.St} {fp g : List Addr} {K : PySem.W.Frag}
theorem ARs.has {B H : Hp} {vs : List V} {as : List Arg} {f : List Addr} (h : ARs K σ B H vs as f) : ∀ a ∈ f, H a ≠ none := by
  induction h with
  | nil => intro a ha; simp at ha
  | val _ _ ih => exact ih
  | plc _ _ ih => exact ih
  | own r _ ih =>
    intro a ha
    rcases List.mem_append.mp ha with z | z
    · exact r.has a z
    · exact ih a z
theorem ARs.len {B H : Hp} {vs : List V} {as : List Arg} {f : List Addr} (h : ARs K σ B H vs as f) : vs.length = as.length := by
  induction h with
  | nil => rfl
  | val _ _ ih => rw [List.length_cons, List.length_cons, ih]
  | plc _ _ ih => rw [List.length_cons, List.length_cons, ih]
  | own _ _ ih => rw [List.length_cons, List.length_cons, ih]
theorem Agr.has {f : List Addr} {H H' : Hp} (a : Agr f H H') (h : ∀ x ∈ f, H x ≠ none) : ∀ x ∈ f, H' x ≠ none := fun x hx z => by
  cases e : H x with
  | none => exact h x hx e
  | some u =>
    rw [a x hx u e] at z
    cases z
/-- temporaries are dropped -/
theorem Sit.drop {h : List Addr} (t : Sit B0 H0 B H (h ++ g)) : Sit B0 H0 B H g := t.right
theorem perm_mid (g f1 f fp : List Addr) : ((g ++ f1) ++ (f ++ fp)).Perm (f1 ++ (g ++ (f ++ fp))) := by
  rw [List.append_assoc]
  exact perm_ac g f1 (f ++ fp)
/-- an error goes on -/
theorem CF.up {α α' β β' : Type} {Rel : Hp → Hp → β → α → List Addr → Prop} {Rel' : Hp → Hp → β' → α' → List Addr → Prop} {Q : β → Hp → Prop} {Q' : β' → Hp → Prop} {c : Str} {us : List (Str × P)} {B1 H1 : Hp} {f1 : List Addr}
    (q : CF Rel K W B0 H0 g B H σ env1 Q (.ex c us)) (e : Ext B B1) (a : Agr g H H1) : CF Rel' K W B0 H0 (g ++ f1) B1 H1 σ env1 Q' (.ex c us) :=
  fun cls d B' H' f fp' e2 a2 t rx re => q cls d B' H' f fp' (e.trans e2) (a.trans a2.left) ((t.perm (perm_mid g f1 f fp')).right) rx re
theorem gv_of {Q : VK} {B2 H2 : Hp} {fp2 : List Addr} (q : CF (RO K) K W B0 H0 g B H σ env1 Q (.ok o)) (e : Ext B B2) (a : Agr g H H2) (t : Sit B0 H0 B2 H2 (g ++ fp2)) (hg : ∀ x ∈ g, H x ≠ none) (re : REnv K B2 H2 σ env1 fp2) : Gv K B2 H2 o Q := fun v B' H' f s ro n =>
  q v B' H' f fp2 (e.trans s.b) (a.trans (.ext s.h)) ((t.add s (mem_app (a.has hg) re.has) n).perm (perm_ac f g fp2)) ro (re.stp s)
theorem Snd.f (h : Snd X env l o) : SndF X W env l (.ok o) env := fun _ _ _ _ _ fp g _ t hg re q => h t.w.right re (gv_of q (.refl _) .refl t hg re)
theorem SndT.f {b : Bool} (h : SndT X env l b) : SndFT X W env l (.ok b) env := fun _ _ _ _ _ fp g _ t hg re q => h t.w.right re fun B' H' s => q b B' H' [] fp s.b (.ext s.h) (t.stp s (mem_app hg re.has)) ⟨rfl, rfl⟩ (re.stp s)
theorem SndW.f {b : Bool} (h : SndW X env l b) : SndFW X W env l (.ok b) env := fun _ _ _ _ _ fp g _ t hg re q => h t.w.right re fun B' H' s => q b B' H' [] fp s.b (.ext s.h) (t.stp s (mem_app hg re.has)) ⟨rfl, rfl⟩ (re.stp s)
theorem bnd_some {α β : Type} {z : Option (Rx α × G.Env)} {f : α → G.Env → Option (Rx β × G.Env)} {y : Rx β} {e : G.Env} (h : bnd z f = some (y, e)) : (∃ c us, z = some (.ex c us, e) ∧ y = .ex c us) ∨ ∃ a e1, z = some (.ok a, e1) ∧ f a e1 = some (y, e) := by
  unfold bnd at h
  split at h
  · exact .inr ⟨_, _, rfl, h⟩
  · cases h; exact .inl ⟨_, _, rfl, rfl⟩
  · cases h
theorem okE_some {α : Type} {z : Option α} {y : Rx α} {e e1 : G.Env} (h : okE e1 z = some (y, e)) : ∃ a, z = some a ∧ y = .ok a ∧ e = e1 := by
  cases z with
  | none => cases h
  | some a => cases h; exact ⟨a, rfl, rfl, rfl⟩
theorem okP_some {α : Type} {a : α} {z : Option G.Env} {y : Rx α} {e : G.Env} (h : okP a z = some (y, e)) : z = some e ∧ y = .ok a := by
  cases z with
  | none => cases h
  | some a => cases h; exact ⟨rfl, rfl⟩
/-- one part -/
theorem sndf_one {op : O → Option O} {R : V → Hp → VK → Prop} (T1 : ∀ σ H Q, wE X l σ H (fun v1 H1 => R v1 H1 Q) → wE X w σ H Q)
    (hR : ∀ {x o : O}, op x = some o → ∀ {B H : Hp} {v1 : V} {f1 : List Addr} {Q : VK}, Ext B H → RO X.K B H v1 x f1 → Gv X.K B H o Q → R v1 H Q)
    {fa : Rf O} (ha : ∀ r e, fa = some (r, e) → SndF X W env l r e) {res : Rx O} {e2 : G.Env} (h : (bnd fa fun x e1 => okE e1 (op x)) = some (res, e2)) : SndF X W env w res e2 := by
  rcases bnd_some h with ⟨c, us, h1, rfl⟩ | ⟨x, e1, h1, h2⟩
  · exact fun _ _ _ _ _ fp g _ t hg re q => T1 _ _ _ (ha _ _ h1 t hg re q)
  · obtain ⟨o, h3, rfl, rfl⟩ := okE_some h2
    exact fun _ _ _ _ _ fp g _ t hg re q => T1 _ _ _ (ha _ _ h1 t hg re fun v1 B1 H1 f1 fp1 eb ag t1 r1 re1 => hR h3 t1.w.bh r1 (gv_of q eb ag ((t1.perm (perm_ac g f1 fp1)).right) hg re1))
/-- two parts, one behind the other -/
theorem sndf_two {op : O → O → Option O} {R : V → V → Hp → VK → Prop} (T2 : ∀ σ H Q, wE X l σ H (fun v1 H1 => wE X r σ H1 fun v2 H2 => R v1 v2 H2 Q) → wE X w σ H Q)
    (hR : ∀ {x y o : O}, op x y = some o → ∀ {B H : Hp} {v1 v2 : V} {f1 f2 : List Addr} {Q : VK}, Ext B H → RO X.K B H v1 x f1 → RO X.K B H v2 y f2 → Gv X.K B H o Q → R v1 v2 H Q)
    {fa : Rf O} {fb : G.Env → Rf O} (ha : ∀ r e, fa = some (r, e) → SndF X W env l r e) (hb : ∀ e1 r' e, fb e1 = some (r', e) → SndF X W e1 r r' e) {res : Rx O} {e2 : G.Env}
    (h : (bnd fa fun x e1 => bnd (fb e1) fun y e2 => okE e2 (op x y)) = some (res, e2)) : SndF X W env w res e2 := by
  rcases bnd_some h with ⟨c, us, h1, rfl⟩ | ⟨x, e1, h1, h2⟩
  · exact fun _ _ _ _ _ fp g _ t hg re q => T2 _ _ _ (ha _ _ h1 t hg re q)
  · rcases bnd_some h2 with ⟨c, us, h3, rfl⟩ | ⟨y, e3, h3, h4⟩
    · exact fun _ _ _ _ _ fp g _ t hg re q => T2 _ _ _ (ha _ _ h1 t hg re fun v1 B1 H1 f1 fp1 eb ag t1 r1 re1 => hb _ _ _ h3 (g := g ++ f1) (by rw [List.append_assoc]; exact t1) (mem_app (ag.has hg) r1.has) re1 (q.up eb ag))
    · obtain ⟨o, h5, rfl, rfl⟩ := okE_some h4
      exact fun _ _ _ _ _ fp g _ t hg re q => T2 _ _ _ (ha _ _ h1 t hg re fun v1 B1 H1 f1 fp1 eb ag t1 r1 re1 => hb _ _ _ h3 (g := g ++ f1) (by rw [List.append_assoc]; exact t1) (mem_app (ag.has hg) r1.has) re1
        fun v2 B2 H2 f2 fp2 eb2 ag2 t2 r2 re2 => hR h5 t2.w.bh (r1.mono eb2 ag2.right) r2 (gv_of q (eb.trans eb2) (ag.trans ag2.left) (by
          have t3 := (t2.perm (perm_mid g f1 f2 fp2)).right
          exact (t3.perm (perm_ac g f2 fp2)).right) hg re2))
/-! sequences -/
theorem sndfs_nil : SndFs X W env [] (.ok []) env := fun _ _ _ _ _ fp g _ t hg re q => ⟨_, pa_nil, q _ _ _ [] fp (.refl _) .refl t .nil re⟩
theorem sndfs_cons {es : List Expr} {os : List O} (hn : nst l = true) {res : Rx (List O)} {fa : Rf O} {fb : G.Env → Rf (List O)} (ha : ∀ r e, fa = some (r, e) → SndF X W env l r e) (hb : ∀ e1 r' e, fb e1 = some (r', e) → SndFs X W e1 es r' e)
    (h : (bnd fa fun o e1 => bnd (fb e1) fun os e2 => some (.ok (o :: os), e2)) = some (res, env2)) : SndFs X W env (l :: es) res env2 := by
  rcases bnd_some h with ⟨c, us, h1, rfl⟩ | ⟨x, e1, h1, h2⟩
  · exact fun _ _ _ _ _ fp g _ t hg re q => ⟨_, pa_cons wE_ok wA_ok (star_cons hn), ha _ _ h1 t hg re q⟩
  · rcases bnd_some h2 with ⟨c, us, h3, rfl⟩ | ⟨y, e3, h3, h4⟩
    · exact fun _ _ _ _ _ fp g _ t hg re q => ⟨_, pa_cons wE_ok wA_ok (star_cons hn), ha _ _ h1 t hg re fun v1 B1 H1 f1 fp1 eb ag t1 r1 re1 => hb _ _ _ h3 (g := g ++ f1) (by rw [List.append_assoc]; exact t1) (mem_app (ag.has hg) r1.has) re1 (q.up eb ag)⟩
    · cases h4
      exact fun _ _ _ _ _ fp g _ t hg re q => ⟨_, pa_cons wE_ok wA_ok (star_cons hn), ha _ _ h1 t hg re fun v1 B1 H1 f1 fp1 eb ag t1 r1 re1 => hb _ _ _ h3 (g := g ++ f1) (by rw [List.append_assoc]; exact t1) (mem_app (ag.has hg) r1.has) re1
        fun v2 B2 H2 f2 fp2 eb2 ag2 t2 r2 re2 => q _ _ _ (f1 ++ f2) fp2 (eb.trans eb2) (ag.trans ag2.left) (by rw [List.append_assoc] at t2; rw [List.append_assoc]; exact t2) (.cons (r1.mono eb2 ag2.right) r2) re2⟩
theorem sndf_tup {es : List Expr} {k : Nat} {pos : Pos} {res : Rx O} {fa : Rf (List O)} (ha : ∀ r e, fa = some (r, e) → SndFs X W env es r e) (h : (bnd fa fun os e => okE e (mkT os)) = some (res, env2)) : SndF X W env (.Tuple es k pos) res env2 := by
  rcases bnd_some h with ⟨c, us, h1, rfl⟩ | ⟨os, e1, h1, h2⟩
  · exact fun _ _ _ _ _ fp g _ t hg re q => ⟨_, pe_tup wA_ok, ha _ _ h1 t hg re q⟩
  · obtain ⟨o, h3, rfl, rfl⟩ := okE_some h2
    exact fun _ _ _ _ _ fp g _ t hg re q => ⟨_, pe_tup wA_ok, ha _ _ h1 t hg re fun vs B1 H1 f1 fp1 sb ag t1 r1 re1 => by
      unfold mkT at h3
      split at h3
      · refine ⟨by rw [r1.len, line_eq]; omega, fun a hn => ?_⟩
        have s2 := Stp.layB (o := .tup vs) t1.s.bh hn
        have t2 := t1.stp s2 (mem_app (ag.has hg) (mem_app r1.has re1.has))
        cases z : plains os with
        | some ps =>
          rw [z] at h3
          cases h3
          obtain ⟨rp, rfl⟩ := plains_ok z r1
          exact q _ _ _ [] fp1 (sb.trans s2.b) (ag.trans (.ext s2.h)) t2 (.pl (.tup (.of upd_same) (rp.stp s2))) (re1.stp s2)
        | none =>
          rw [z] at h3
          cases h3
          exact q _ _ _ f1 fp1 (sb.trans s2.b) (ag.trans (.ext s2.h)) t2 (.tup upd_same (r1.stp s2)) (re1.stp s2)
      · cases h3⟩
theorem lay_own {a : Addr} {f1 fp1 : List Addr} {u : HO} (t1 : Sit B0 H0 B H (g ++ (f1 ++ fp1))) (hn : H a = none) (hh : ∀ x ∈ g ++ (f1 ++ fp1), H x ≠ none) : Stp B H B (upd H a u) ∧ Sit B0 H0 B (upd H a u) (g ++ ((a :: f1) ++ fp1)) := by
  have s2 := Stp.lay (o := u) t1.s.bh hn
  have t2 : Sit _ _ B (upd H a u) ([a] ++ (g ++ (f1 ++ fp1))) := t1.add (g := [a]) s2 hh ⟨by simp, by simpa using hn, by simpa using t1.w.bh.none hn⟩
  exact ⟨s2, t2.perm (perm_ac [a] g (f1 ++ fp1))⟩
theorem sndf_lst {es : List Expr} {pos : Pos} {res : Rx O} {fa : Rf (List O)} (ha : ∀ r e, fa = some (r, e) → SndFs X W env es r e) (h : (bnd fa fun os e => okE e (mkL os)) = some (res, env2)) : SndF X W env (.List es pos) res env2 := by
  rcases bnd_some h with ⟨c, us, h1, rfl⟩ | ⟨os, e1, h1, h2⟩
  · exact fun _ _ _ _ _ fp g _ t hg re q => ⟨_, pe_lst wA_ok, ha _ _ h1 t hg re q⟩
  · obtain ⟨o, h3, rfl, rfl⟩ := okE_some h2
    exact fun _ _ _ _ _ fp g _ t hg re q => ⟨_, pe_lst wA_ok, ha _ _ h1 t hg re fun vs B1 H1 f1 fp1 sb ag t1 r1 re1 => by
      unfold mkL at h3
      split at h3
      · refine ⟨by rw [r1.len, line_eq]; omega, fun a hn => ?_⟩
        obtain ⟨s2, t2⟩ := lay_own (u := .lst vs) t1 hn (mem_app (ag.has hg) (mem_app r1.has re1.has))
        cases z : fzs os with
        | some ps =>
          rw [z] at h3
          cases h3
          have t3 : Sit _ _ B1 (upd H1 a (.lst vs)) (f1 ++ (g ++ ([a] ++ fp1))) := t2.perm (by
            refine (List.Perm.append_left g (perm_ac [a] f1 fp1 : ([a] ++ (f1 ++ fp1)).Perm _)).trans ?_
            exact perm_ac g f1 ([a] ++ fp1))
          obtain ⟨B2, e2, t4, rp⟩ := t3.share (r1.stp s2) z
          exact q _ _ _ [a] fp1 (sb.trans e2) (ag.trans (.ext s2.h)) t4 (.fl upd_same rp) ((re1.stp s2).mono e2 fun _ _ _ z => z)
        | none =>
          rw [z] at h3
          cases h3
          exact q _ _ _ (a :: f1) fp1 sb (ag.trans (.ext s2.h)) t2 (.lst upd_same (r1.stp s2)) (re1.stp s2)
      · cases h3⟩
theorem sndf_lsto {es : List Expr} {pos : Pos} {res : Rx O} {fa : Rf (List O)} (ha : ∀ r e, fa = some (r, e) → SndFs X W env es r e) (h : (bnd fa fun os e => okE e (mkLo os)) = some (res, env2)) : SndF X W env (.List es pos) res env2 := by
  rcases bnd_some h with ⟨c, us, h1, rfl⟩ | ⟨os, e1, h1, h2⟩
  · exact fun _ _ _ _ _ fp g _ t hg re q => ⟨_, pe_lst wA_ok, ha _ _ h1 t hg re q⟩
  · obtain ⟨o, h3, rfl, rfl⟩ := okE_some h2
    exact fun _ _ _ _ _ fp g _ t hg re q => ⟨_, pe_lst wA_ok, ha _ _ h1 t hg re fun vs B1 H1 f1 fp1 sb ag t1 r1 re1 => by
      unfold mkLo at h3
      split at h3
      · cases h3
        refine ⟨by rw [r1.len, line_eq]; omega, fun a hn => ?_⟩
        obtain ⟨s2, t2⟩ := lay_own (u := .lst vs) t1 hn (mem_app (ag.has hg) (mem_app r1.has re1.has))
        exact q _ _ _ (a :: f1) fp1 sb (ag.trans (.ext s2.h)) t2 (.lst upd_same (r1.stp s2)) (re1.stp s2)
      · cases h3⟩
end
end G

set_option maxRecDepth 100000
namespace G
open PySem L2
section
variable {T : Tb} {N : List Str} {c : Ct} {X : Cx} {W : WX} {sc so : Scope} {k : Nat} {env env1 env2 : Env} {l w : Expr} {B0 H0 B H : Hp} {σ : L2.St} {fp g : List Addr} {K : PySem.W.Frag}
/-! ### a place's value -/
def SndPl (X : Cx) (env : Env) (ex : Expr) (i : Nat) (q : List Pt) : Prop := ∀ ⦃B H : Hp⦄ ⦃σ : L2.St⦄ ⦃fp : List Addr⦄ ⦃Q : VK⦄, Wld B H fp → REnv X.K B H σ env fp → (∀ v B' H', Stp B H B' H' → RchE H' σ i q v → Q v H') → wE X ex σ H Q
theorem chkPl_nil {i : Nat} {x : Expr} (h : chkPl T N sc i [] x = true) : ∃ n p, x = .Name n p ∧ nameB N sc i n = true := by
  cases x <;> first | exact ⟨_, _, rfl, h⟩ | cases h
theorem chkPl_fld {i : Nat} {f : Str} {ps : List Ps} {x : Expr} (h : chkPl T N sc i (.fld f :: ps) x = true) : ∃ e p, x = .Attribute e f p ∧ baseB e = true ∧ chkPl T N sc i ps e = true := by
  cases x
  case Attribute e m p =>
    have h : (decide (m = f) && baseB e && chkPl T N sc i ps e) = true := h
    simp only [Bool.and_eq_true, decide_eq_true_eq] at h
    obtain ⟨⟨rfl, hb⟩, hc⟩ := h
    exact ⟨_, _, rfl, hb, hc⟩
  all_goals cases h
theorem chkPl_el {i : Nat} {k0 : Ex} {ps : List Ps} {x : Expr} (h : chkPl T N sc i (.ix k0 :: ps) x = true) : ∃ e s p, x = .Subscript e s p ∧ chk T N sc k0 s = true ∧ chkPl T N sc i ps e = true := by
  cases x
  case Subscript e s p =>
    have h : (chk T N sc k0 s && chkPl T N sc i ps e) = true := h
    simp only [Bool.and_eq_true] at h
    exact ⟨_, _, _, rfl, h.1, h.2⟩
  all_goals cases h
theorem rsv_cons {p : Ps} {ps : List Ps} {q : List Pt} (h : rsv c env (p :: ps) = some q) : ∃ t ts, q = t :: ts ∧ rsv1 p (evR c env (psE p)) = some t ∧ rsv c env ps = some ts := by
  rw [rsv] at h
  obtain ⟨a, as, h1, h2, h3⟩ := consA_some h
  exact ⟨a, as, h3, h1, h2⟩
theorem snd_pl (hx : XOk T c N sc so k X) {i : Nat} : ∀ {ps : List Ps} {x : Expr} {q : List Pt} {y : O}, chkPl T N sc i ps x = true → rsv c env ps = some q → plcG env i (some q) = some y → SndPl X env x i q
  | [], x, q, y, hc, hq, hy => by
    rw [rsv] at hq
    cases hq
    obtain ⟨x, p, rfl, hc⟩ := chkPl_nil hc
    obtain ⟨o, h1, h2⟩ := plcG_some hy
    exact fun _ _ _ _ _ w re q => by
      obtain ⟨v, g, k1, k2, k3⟩ := re.get (slot_some h1)
      exact ⟨_, name_ok hx hc, v, k1, q v _ _ (.refl w.bh) ⟨v, k1, rfl⟩⟩
  | p :: ps, x, q, y, hc, hq, hy => by
    obtain ⟨t, ts, rfl, h1, h2⟩ := rsv_cons hq
    obtain ⟨o, h3, h4⟩ := plcG_some hy
    obtain ⟨u, h5, h6⟩ := getQ_cons h4
    have hu : plcG env i (some ts) = some u := by
      show o1 (getQ ts) (slot env i) = some u
      rw [h3]
      exact h5
    cases p with
    | fld m =>
      obtain ⟨e, pos, rfl, hb, hc⟩ := chkPl_fld hc
      have ih := snd_pl hx hc h2 hu
      have et : t = .fld m := by
        cases h1
        rfl
      subst et
      exact fun B H σ fp Q w re q => ⟨_, pe_fld wE_ok (base_ok hb), ih w re fun wu B1 H1 s1 hr => by
        obtain ⟨w', fy, fr, p1, r1, rch, _⟩ := (re.stp s1).foc hu
        have e := hr.fn (rch H1 (by first | assumption | exact Wld.bh (by assumption) | exact Stp.bh (by assumption) | exact (Sit.w (by assumption)).bh) .refl)
        subst e
        obtain ⟨a, C, dx, us, w2, g', rfl, m1, m2, m3, m4, m5⟩ := r1.fld (show fldO m u = some y from h6)
        obtain ⟨v0, z1, z2⟩ := hr
        exact ⟨a, C, dx, us, w2, rfl, m1, m2, m3, m4, q w2 B1 H1 s1 ⟨v0, z1, a, C, dx, us, z2, m1, m4⟩⟩⟩
    | ix ix =>
      obtain ⟨e, s, pos, rfl, hc1, hc2⟩ := chkPl_el hc
      have hc := And.intro hc1 hc2
      have ih := snd_pl hx hc.2 h2 hu
      have ek : ∃ pk, evR c env ix = some (.pl pk) ∧ t = .ix pk := by
        have h1' : rsv1 (.ix ix) (evR c env ix) = some t := h1
        cases z : evR c env ix with
        | none => rw [z] at h1'; cases h1'
        | some ok =>
          rw [z] at h1'
          cases ok <;> cases h1'
          exact ⟨_, rfl, rfl⟩
      obtain ⟨pk, ek, rfl⟩ := ek
      exact fun B H σ fp Q w re q => ⟨_, pe_ix wX_ok wE_ok wE_ok (plainIx_ok hc.1), ih w re fun wu B1 H1 s1 hr => (gE ix).r hx hc.1 ek (w.stp s1 re.has) (re.stp s1) fun vk B2 H2 f2 s2 rk _ => by
        have s12 := s1.trans s2
        obtain ⟨w', fy, fr, p1, r1, rch, _⟩ := (re.stp s12).foc hu
        have hr2 := hr.ext s2.h
        have e := hr2.fn (rch H2 (by first | assumption | exact Wld.bh (by assumption) | exact Stp.bh (by assumption) | exact (Sit.w (by assumption)).bh) .refl)
        subst e
        obtain ⟨a, vs, j, y', g', rfl, m1, rfl, m3, m4⟩ := r1.el rk (show elO u (.pl pk) = some y from h6)
        obtain ⟨v0, z1, z2⟩ := hr2
        have hp : pk = .int j := by
          cases rk.p
          rfl
        exact el_ix s12.bh m1 m3 (q y' B2 H2 s12 ⟨v0, z1, a, vs, j, z2, m1.imp id (s12.bh _ _), hp, m3⟩)⟩
theorem SndPl.at {i : Nat} {q : List Pt} (h : SndPl X env l i q) {Q : VK} (t : Sit B0 H0 B H (g ++ fp)) (hg : ∀ a ∈ g, H a ≠ none) (re : REnv X.K B H σ env fp)
    (k : ∀ v B' H', Ext B B' → Ext H H' → Sit B0 H0 B' H' (g ++ fp) → REnv X.K B' H' σ env fp → RchE H' σ i q v → Q v H') : wE X l σ H Q :=
  h t.w.right re fun v B' H' s hr => k v B' H' s.b s.h (t.stp s (mem_app hg re.has)) (re.stp s) hr
/-! ### arguments -/
theorem sndfa_nil : SndFA X W env [] (.ok []) env := fun _ _ _ _ _ fp g _ t hg re q => ⟨_, pa_nil, q _ _ _ [] fp (.refl _) .refl t .nil re⟩
/-- pure ones -/
def SndAp (X : Cx) (env : Env) (es : List Expr) (as : List Arg) : Prop := ∀ ⦃B H : Hp⦄ ⦃σ : L2.St⦄ ⦃fp : List Addr⦄ ⦃Q : List V → Hp → Prop⦄, Wld B H fp → REnv X.K B H σ env fp →
  (∀ vs B' H' f, Stp B H B' H' → ARs X.K σ B' H' vs as f → Frs H B' f → Q vs H') → wA X es σ H Q
theorem ARs.stp {B' H' : Hp} {vs : List V} {as : List Arg} {f : List Addr} (h : ARs K σ B H vs as f) (s : Stp B H B' H') : ARs K σ B' H' vs as f := by
  induction h with
  | nil => exact .nil
  | val r _ ih => exact .val (r.stp s) ih
  | own r _ ih => exact .own (r.stp s) ih
  | plc r _ ih => exact .plc (r.ext s.h) ih
theorem sndap_nil : SndAp X env [] [] := fun _ _ _ _ _ w re q => ⟨_, pa_nil, q _ _ _ [] (.refl w.bh) .nil .nil⟩
theorem sndap_val {es : List Expr} {as : List Arg} {o : O} {p : P} (hn : nst l = true) (h : Snd X env l o) (hp : fz o = some p) (hs : SndAp X env es as) : SndAp X env (l :: es) (.val p :: as) := fun _ _ _ fp _ w re q =>
  ⟨_, pa_cons wE_ok wA_ok (star_cons hn), h w re fun v B1 H1 f s ro n => by
    obtain ⟨B2, s2, e2, rp, nw⟩ := s.share ro hp n
    have w2 := w.stp s2 re.has
    exact hs w2 (re.stp s2) fun vs B3 H3 f3 s3 r3 n3 => q _ _ _ f3 (s2.trans s3) (.val (rp.stp s3) r3) (n3.back s2.h)⟩
theorem sndap_own {es : List Expr} {as : List Arg} {o : O} (hn : nst l = true) (h : Snd X env l o) (hs : SndAp X env es as) : SndAp X env (l :: es) (.own o :: as) := fun _ _ _ fp _ w re q =>
  ⟨_, pa_cons wE_ok wA_ok (star_cons hn), h w re fun v B1 H1 f s ro n => hs (w.stp s re.has) (re.stp s) fun vs B3 H3 f3 s3 r3 n3 => q _ _ _ (f ++ f3) (s.trans s3) (.own (ro.stp s3) r3) ((n.stp s3 ro.has).app s.h ro.has n3)⟩
theorem sndap_plc {es : List Expr} {as : List Arg} {i : Nat} {q0 : List Pt} (hn : nst l = true) (h : SndPl X env l i q0) (hs : SndAp X env es as) : SndAp X env (l :: es) (.plc i q0 :: as) := fun _ _ _ fp _ w re q =>
  ⟨_, pa_cons wE_ok wA_ok (star_cons hn), h w re fun v B1 H1 s hr => hs (w.stp s re.has) (re.stp s) fun vs B3 H3 f3 s3 r3 n3 => q _ _ _ f3 (s.trans s3) (.plc (hr.ext s3.h) r3) (n3.back s.h)⟩
theorem SndAp.f {es : List Expr} {as : List Arg} (h : SndAp X env es as) : SndFA X W env es (.ok as) env := fun _ _ _ _ _ fp g _ t hg re q => h t.w.right re fun vs B' H' f s ro n =>
  q vs B' H' f fp s.b (.ext s.h) ((t.add s (mem_app hg re.has) n).perm (perm_ac f g fp)) ro (re.stp s)
/-- any, the lent ones whole slots -/
theorem sndfa_val {es : List Expr} (hn : nst l = true) {res : Rx (List Arg)} {fa : Rf O} {fb : Env → Rf (List Arg)} (ha : ∀ r e, fa = some (r, e) → SndF X W env l r e) (hb : ∀ e1 r' e, fb e1 = some (r', e) → SndFA X W e1 es r' e)
    (h : (bnd fa fun o e1 => bnd (okE e1 (fz o)) fun p e2 => bnd (fb e2) fun ars e3 => some (.ok (.val p :: ars), e3)) = some (res, env2)) : SndFA X W env (l :: es) res env2 := by
  rcases bnd_some h with ⟨c, us, h1, rfl⟩ | ⟨x, e1, h1, h2⟩
  · exact fun _ _ _ _ _ fp g _ t hg re q => ⟨_, pa_cons wE_ok wA_ok (star_cons hn), ha _ _ h1 t hg re q⟩
  · rcases bnd_some h2 with ⟨c, us, h3, rfl⟩ | ⟨p, e3, h3, h4⟩
    · obtain ⟨_, _, z, _⟩ := okE_some h3
      cases z
    · obtain ⟨p', h5, z, rfl⟩ := okE_some h3
      cases z
      rcases bnd_some h4 with ⟨c, us, h6, rfl⟩ | ⟨y, e4, h6, h7⟩
      · exact fun _ _ _ _ _ fp g _ t hg re q => ⟨_, pa_cons wE_ok wA_ok (star_cons hn), ha _ _ h1 t hg re fun v1 B1 H1 f1 fp1 eb ag t1 r1 re1 => by
          obtain ⟨B2, e2, t2, rp⟩ := (t1.perm (perm_ac g f1 fp1)).share1 r1 h5
          exact hb _ _ _ h6 t2 (ag.has hg) (re1.mono e2 fun _ _ _ z => z) (fun cls d B' H' f fp' e3 a3 t3 rx re3 => q cls d B' H' f fp' (eb.trans (e2.trans e3)) (ag.trans a3) t3 rx re3)⟩
      · cases h7
        exact fun _ _ _ _ _ fp g _ t hg re q => ⟨_, pa_cons wE_ok wA_ok (star_cons hn), ha _ _ h1 t hg re fun v1 B1 H1 f1 fp1 eb ag t1 r1 re1 => by
          obtain ⟨B2, e2, t2, rp⟩ := (t1.perm (perm_ac g f1 fp1)).share1 r1 h5
          exact hb _ _ _ h6 t2 (ag.has hg) (re1.mono e2 fun _ _ _ z => z) (fun vs B' H' f fp' e3 a3 t3 r3 re3 => q _ B' H' f fp' (eb.trans (e2.trans e3)) (ag.trans a3) t3 (.val (rp.mono e3) r3) re3)⟩
theorem arA {vs : List V} {as : List Arg} {f : List Addr} {B' H' : Hp} (h : ARs K σ B H vs as f) (e : Ext B B') (a : Agr f H H') (hp : ∀ i q, Arg.plc i q ∈ as → q = []) : ARs K σ B' H' vs as f := by
  induction h with
  | nil => exact .nil
  | val r _ ih => exact .val (r.mono e) (ih a fun i q z => hp i q (by simp [z]))
  | own r _ ih => exact .own (r.mono e a.left) (ih a.right fun i q z => hp i q (by simp [z]))
  | plc r _ ih =>
    rename_i w i q vs as f _
    have e0 := hp i q (by simp)
    subst e0
    exact .plc r (ih a fun i q z => hp i q (by simp [z]))
theorem sndfa_own {es : List Expr} (hn : nst l = true) {res : Rx (List Arg)} {fa : Rf O} {fb : Env → Rf (List Arg)} (ha : ∀ r e, fa = some (r, e) → SndF X W env l r e) (hb : ∀ e1 r' e, fb e1 = some (r', e) → SndFA X W e1 es r' e)
    (h : (bnd fa fun o e1 => bnd (fb e1) fun ars e3 => some (.ok (.own o :: ars), e3)) = some (res, env2)) : SndFA X W env (l :: es) res env2 := by
  rcases bnd_some h with ⟨c, us, h1, rfl⟩ | ⟨x, e1, h1, h2⟩
  · exact fun _ _ _ _ _ fp g _ t hg re q => ⟨_, pa_cons wE_ok wA_ok (star_cons hn), ha _ _ h1 t hg re q⟩
  · rcases bnd_some h2 with ⟨c, us, h3, rfl⟩ | ⟨y, e3, h3, h4⟩
    · exact fun _ _ _ _ _ fp g _ t hg re q => ⟨_, pa_cons wE_ok wA_ok (star_cons hn), ha _ _ h1 t hg re fun v1 B1 H1 f1 fp1 eb ag t1 r1 re1 => hb _ _ _ h3 (g := g ++ f1) (by rw [List.append_assoc]; exact t1) (mem_app (ag.has hg) r1.has) re1 (q.up eb ag)⟩
    · cases h4
      exact fun _ _ _ _ _ fp g _ t hg re q => ⟨_, pa_cons wE_ok wA_ok (star_cons hn), ha _ _ h1 t hg re fun v1 B1 H1 f1 fp1 eb ag t1 r1 re1 => hb _ _ _ h3 (g := g ++ f1) (by rw [List.append_assoc]; exact t1) (mem_app (ag.has hg) r1.has) re1
        fun v2 B2 H2 f2 fp2 eb2 ag2 t2 r2 re2 => q _ _ _ (f1 ++ f2) fp2 (eb.trans eb2) (ag.trans ag2.left) (by rw [List.append_assoc] at t2; rw [List.append_assoc]; exact t2) (.own (r1.mono eb2 ag2.right) r2) re2⟩
theorem sndfa_slot {es : List Expr} {i : Nat} (hn : nst l = true) {res : Rx (List Arg)} {fb : Env → Rf (List Arg)} (ha : SndPl X env l i []) (hb : ∀ r' e, fb env = some (r', e) → SndFA X W env es r' e)
    (h : (bnd (fb env) fun ars e3 => some (.ok (Arg.plc i [] :: ars), e3)) = some (res, env2)) : SndFA X W env (l :: es) res env2 := by
  rcases bnd_some h with ⟨c, us, h1, rfl⟩ | ⟨x, e1, h1, h2⟩
  · exact fun _ _ _ _ _ fp g _ t hg re q => ⟨_, pa_cons wE_ok wA_ok (star_cons hn), ha.at t hg re fun v B' H' e1 e2 t' re' hr => hb _ _ h1 t' (fun a h z => hg a h (e2.none z)) re' fun cls d B2 H2 f fp' e3 a3 t3 rx re3 => q cls d B2 H2 f fp' (e1.trans e3) ((Agr.ext e2).trans a3) t3 rx re3⟩
  · cases h2
    exact fun _ _ _ _ _ fp g _ t hg re q => ⟨_, pa_cons wE_ok wA_ok (star_cons hn), ha.at t hg re fun v B' H' e1 e2 t' re' hr => hb _ _ h1 t' (fun a h z => hg a h (e2.none z)) re' fun vs B2 H2 f fp' e3 a3 t3 r3 re3 => q _ B2 H2 f fp' (e1.trans e3) ((Agr.ext e2).trans a3) t3 (.plc hr r3) re3⟩
/-! ### what is handed over, and given back -/
def plK : List Arg → List Ky
  | [] => []
  | .plc i q :: as => (i, kyQ q) :: plK as
  | _ :: as => plK as
theorem fldL_putLn {f g : Str} {y : O} (h : f ≠ g) : ∀ {kvs : List (Str × O)}, fldL f (putL g y kvs) = fldL f kvs
  | [] => by
    unfold putL fldL fldL
    rw [if_neg (fun e => h e.symm)]
  | q :: qs => by
    unfold putL
    split
    · rename_i e
      unfold fldL
      rw [if_neg (fun e2 => h e2.symm), if_neg (fun e2 => h (e2.symm.trans e))]
    · unfold fldL
      rw [fldL_putLn h]
theorem atI_setn {xs : List O} {j k : Int} {n : Nat} {y : O} (hj : 0 ≤ j) (hk : 0 ≤ k) (h : j.toNat ≠ k.toNat) (e : ixN xs.length k = some n) : atI (xs.set n y) j = atI xs j := by
  unfold ixN at e
  rw [if_pos hk] at e
  split at e
  · cases e
    unfold atI
    rw [List.length_set]
    unfold ixN
    rw [if_pos hj]
    split
    · show (xs.set _ y)[j.toNat]? = xs[j.toNat]?
      rw [List.getElem?_set_ne (fun z => h z.symm)]
    · rfl
  · cases e
theorem pkT_ix {p : P} {x : Pk} (h : pkT (.ix p) = some x) : ∃ j : Int, p = .int j ∧ 0 ≤ j ∧ x = .n j.toNat := by
  cases p with
  | int j =>
    have h : (if 0 ≤ j then some (Pk.n j.toNat) else none) = some x := h
    split at h
    · cases h
      exact ⟨j, rfl, by assumption, rfl⟩
    · cases h
  | _ => cases h
theorem getT_setT_ne {t u : Pt} {x z : Pk} (ht : pkT t = some x) (hu : pkT u = some z) (h : x ≠ z) (y : O) : ∀ o : O, getT t (setT u y o) = getT t o := by
  intro o
  cases t with
  | fld f =>
    cases ht
    cases u with
    | fld g =>
      cases hu
      have h : f ≠ g := fun e => h (by rw [e])
      cases o <;> first | rfl | exact fldL_putLn h
    | ix p =>
      obtain ⟨k, rfl, hk, rfl⟩ := pkT_ix hu
      cases o <;> first | rfl | (simp only [setT]; split <;> rfl)
  | ix p =>
    obtain ⟨j, rfl, hj, rfl⟩ := pkT_ix ht
    cases u with
      | fld g => cases o <;> rfl
      | ix p2 =>
        obtain ⟨k, rfl, hk, rfl⟩ := pkT_ix hu
        · have hne : j.toNat ≠ k.toNat := fun e => h (by rw [e])
          cases o with
          | lst xs =>
            simp only [setT]
            split
            · rename_i n hn
              exact atI_setn hj hk hne hn
            · rfl
          | tup xs =>
            simp only [setT]
            split
            · rename_i n hn
              exact atI_setn hj hk hne hn
            · rfl
          | _ => rfl
theorem getQ_putQ_ne {q r : List Pt} {x z : Pk} (hq : kyQ q = some x) (hr : kyQ r = some z) (h : x ≠ z) (y o : O) : getQ q (putQ r y o) = getQ q o := by
  unfold kyQ at hq hr
  split at hq <;> try cases hq
  split at hr <;> try cases hr
  exact getT_setT_ne hq hr h y o
theorem tkE_some {os : List O} {z : Option (List O × Env)} {r : List O × Env} (h : tkE os z = some r) : ∃ ps e, z = some (ps, e) ∧ r = (os ++ ps, e) := by
  cases z with
  | none => cases h
  | some y => obtain ⟨ps, e⟩ := y; cases h; exact ⟨ps, e, rfl, rfl⟩
theorem takeP_some {i : Nat} {q : List Pt} {as : List Arg} {r : List O × Env} (h : takeA (.plc i q :: as) env = some r) : ∃ y e1 ps e2, plcG env i (some q) = some y ∧ plcS env i .hole (some q) = some e1 ∧ isHole y = false ∧ takeA as e1 = some (ps, e2) ∧ r = (y :: ps, e2) := by
  rw [takeA] at h
  cases h1 : plcG env i (some q) with
  | none => rw [h1] at h; cases h
  | some y =>
    rw [h1] at h
    have h : tkS y (plcS env i .hole (some q)) (takeA as) = some r := h
    cases h2 : plcS env i .hole (some q) with
    | none => rw [h2] at h; cases h
    | some e1 =>
      rw [h2] at h
      have h : (if isHole y = true then none else tkE [y] (takeA as e1)) = some r := h
      split at h
      · cases h
      · rename_i hh
        obtain ⟨ps, e2, h3, rfl⟩ := tkE_some h
        exact ⟨y, e1, ps, e2, rfl, rfl, by simpa using hh, h3, rfl⟩
theorem slot_eq {e e' : Env} {i : Nat} (h : e[i]? = e'[i]?) : slot e i = slot e' i := by
  unfold slot
  rw [h]
theorem plcG_apart {env e1 : Env} {i j : Nat} {q r : List Pt} {y : O} (hd : dk (i, kyQ q) (j, kyQ r) = true) (h : plcS env j y (some r) = some e1) : plcG e1 i (some q) = plcG env i (some q) := by
  obtain ⟨o, z, s1, s2, rfl⟩ := plcS_some h
  unfold dk at hd
  rw [Bool.or_eq_true, decide_eq_true_eq] at hd
  by_cases hij : i = j
  · subst hij
    have hd : dkO (kyQ q) (kyQ r) = true := by
      rcases hd with z | z
      · exact absurd rfl z
      · exact z
    unfold dkO at hd
    split at hd
    · rename_i x x' h1 h2
      have hne := of_decide_eq_true hd
      show o1 (getQ q) (slot (env.set i (some (putQ r y o))) i) = o1 (getQ q) (slot env i)
      have e1 : slot (env.set i (some (putQ r y o))) i = some (putQ r y o) := by
        unfold slot
        rw [List.getElem?_set_self (List.getElem?_eq_some_iff.mp (slot_some s1)).1]
        rfl
      rw [e1, s1]
      exact getQ_putQ_ne h1 h2 hne y o
    · cases hd
  · show o1 (getQ q) (slot (env.set j _) i) = o1 (getQ q) (slot env i)
    have : slot (env.set j (some (putQ r y o))) i = slot env i := by
      unfold slot
      rw [List.getElem?_set_ne (fun z => hij z.symm)]
    rw [this]
theorem takeA_apart : ∀ {as : List Arg} {env : Env} {r : List O × Env} {i : Nat} {q : List Pt}, takeA as env = some r → (plK as).all (dk (i, kyQ q)) = true → plcG r.2 i (some q) = plcG env i (some q)
  | [], env, r, i, q, h, _ => by
    rw [takeA] at h
    cases h
    rfl
  | .val p :: as, env, r, i, q, h, hi => by
    rw [takeA] at h
    obtain ⟨ps, e, h1, rfl⟩ := tkE_some h
    exact takeA_apart (as := as) (r := (ps, e)) h1 hi
  | .own p :: as, env, r, i, q, h, hi => by
    rw [takeA] at h
    obtain ⟨ps, e, h1, rfl⟩ := tkE_some h
    exact takeA_apart (as := as) (r := (ps, e)) h1 hi
  | .plc j q2 :: as, env, r, i, q, h, hi => by
    obtain ⟨y, e1, ps, e2, h1, h2, h3, h4, rfl⟩ := takeP_some h
    have hi : ((j, kyQ q2) :: plK as).all (dk (i, kyQ q)) = true := hi
    rw [List.all_cons, Bool.and_eq_true] at hi
    exact (takeA_apart (r := (ps, e2)) h4 hi.2).trans (plcG_apart hi.1 h2)
/-- where the lent things belong, whatever else is changed -/
inductive Bck (σ : L2.St) (H' : Hp) : List V → List Arg → Prop
  | nil : Bck σ H' [] []
  | val {v : V} {p : P} {vs : List V} {as : List Arg} : Bck σ H' vs as → Bck σ H' (v :: vs) (.val p :: as)
  | own {v : V} {o : O} {vs : List V} {as : List Arg} : Bck σ H' vs as → Bck σ H' (v :: vs) (.own o :: as)
  | plc {v : V} {i : Nat} {q : List Pt} {vs : List V} {as : List Arg} : RchE H' σ i q v → Bck σ H' vs as → Bck σ H' (v :: vs) (.plc i q :: as)
theorem takeA_ok : ∀ {as : List Arg} {vs : List V} {env env2 : Env} {os : List O} {f fp : List Addr}, Ext B H → djB (plK as) = true → ARs K σ B H vs as f → REnv K B H σ env fp → takeA as env = some (os, env2) →
    ∃ f0 fp2, ROs K B H vs os f0 ∧ (f ++ fp).Perm (f0 ++ fp2) ∧ REnv K B H σ env2 fp2 ∧ ∀ H', Ext B H' → Agr fp2 H H' → Bck σ H' vs as
  | [], vs, env, env2, os, f, fp, eb, _, ha, re, h => by
    rw [takeA] at h
    cases h
    cases ha
    exact ⟨[], fp, .nil, .refl _, re, fun _ _ _ => .nil⟩
  | .val p :: as, vs, env, env2, os, f, fp, eb, nd, ha, re, h => by
    rw [takeA] at h
    obtain ⟨ps, e, h1, h2⟩ := tkE_some h
    cases h2
    cases ha with
    | val rp ha =>
      obtain ⟨f0, fp2, k1, k2, k3, k4⟩ := takeA_ok (as := as) eb nd ha re h1
      exact ⟨f0, fp2, (.cons (.pl rp) k1 : ROs K B H _ _ ([] ++ f0)), k2, k3, fun H' e a => .val (k4 H' e a)⟩
  | .own o :: as, vs, env, env2, os, f, fp, eb, nd, ha, re, h => by
    rw [takeA] at h
    obtain ⟨ps, e, h1, h2⟩ := tkE_some h
    cases h2
    cases ha with
    | @own _ _ _ _ f1 f2 ro ha =>
      obtain ⟨f0, fp2, k1, k2, k3, k4⟩ := takeA_ok (as := as) eb nd ha re h1
      refine ⟨f1 ++ f0, fp2, .cons ro k1, ?_, k3, fun H' e a => .own (k4 H' e a)⟩
      rw [List.append_assoc, List.append_assoc]
      exact List.Perm.append_left f1 k2
  | .plc i q :: as, vs, env, env2, os, f, fp, eb, nd, ha, re, h => by
    obtain ⟨y, e1, ps, e2, h1, h2, h3, h4, h5⟩ := takeP_some h
    cases h5
    have nd : djB ((i, kyQ q) :: plK as) = true := nd
    have nd' : (plK as).all (dk (i, kyQ q)) = true ∧ djB (plK as) = true := by
      rw [djB, Bool.and_eq_true] at nd
      exact nd
    cases ha with
    | @plc w0 _ _ vs' _ _ hr ha =>
      obtain ⟨w', fy, fr, p1, r1, rch, put⟩ := re.foc h1
      have e0 := hr.fn (rch H (by first | assumption | exact Wld.bh (by assumption) | exact Stp.bh (by assumption) | exact (Sit.w (by assumption)).bh) .refl)
      subst e0
      obtain ⟨fp1, p2, re1⟩ := put B H .hole [] e1 (.refl _) .refl .hole h2
      obtain ⟨f0, fp2, k1, k2, k3, k4⟩ := takeA_ok eb nd'.2 ha re1 h4
      refine ⟨fy ++ f0, fp2, .cons r1 k1, ?_, k3, fun H' e a => .plc ?_ (k4 H' e a)⟩
      · have q1 : (f ++ fp).Perm (f ++ (fy ++ fp1)) := List.Perm.append_left f (p1.trans (List.Perm.append_left fy (by simpa using p2.symm)))
        refine q1.trans ((perm_ac f fy fp1).trans ?_)
        rw [List.append_assoc]
        exact List.Perm.append_left fy k2
      · -- the slot's rest is untouched
        have hg : plcG env2 i (some q) = some .hole := by
          have := takeA_apart h4 nd'.1
          rw [this]
          obtain ⟨o, z, s1, s2, rfl⟩ := plcS_some h2
          show o1 (getQ q) (slot (env.set i (some (putQ q .hole o))) i) = _
          have : slot (env.set i (some (putQ q .hole o))) i = some (putQ q .hole o) := by
            unfold slot
            rw [List.getElem?_set_self (List.getElem?_eq_some_iff.mp (slot_some s1)).1]
            rfl
          rw [this]
          exact getQ_putQ (y := .hole) s2 .hole
        obtain ⟨w2, fy2, fr2, p3, r3, rch3, _⟩ := k3.foc hg
        have e4 := hr.fn (rch3 H eb .refl)
        rw [e4]
        exact rch3 H' e (a.sub fun x hx => p3.mem_iff.mpr (by simp [hx]))
theorem giveN_some {f : Env → Option Env} {z : Option Env} {e : Env} (h : giveN f z = some e) : ∃ e1, z = some e1 ∧ f e1 = some e := by
  cases z with
  | none => cases h
  | some e1 => exact ⟨e1, rfl, h⟩
theorem giveA_ok : ∀ {as : List Arg} {vs : List V} {env env3 : Env} {outs : List O} {f fp : List Addr}, Ext B H → Bck σ H vs as → ROs K B H (selV (as.map isIo) vs) outs f → REnv K B H σ env fp → giveA as outs env = some env3 →
    ∃ fp3 d, (f ++ fp).Perm (d ++ fp3) ∧ REnv K B H σ env3 fp3
  | [], vs, env, env3, outs, f, fp, eb, hb, ro, re, h => by
    cases outs with
    | cons => cases h
    | nil =>
      rw [giveA] at h
      cases h
      cases hb
      have : f = [] := by
        have ro : ROs K B H [] [] f := ro
        cases ro
        rfl
      subst this
      exact ⟨fp, [], .refl _, re⟩
  | .val p :: as, vs, env, env3, outs, f, fp, eb, hb, ro, re, h => by
    rw [giveA] at h
    cases hb with
    | val hb => exact giveA_ok (as := as) eb hb ro re h
  | .own o :: as, vs, env, env3, outs, f, fp, eb, hb, ro, re, h => by
    cases hb with
    | @own v _ vs' _ hb =>
      cases outs with
      | nil => cases h
      | cons y outs =>
        rw [giveA] at h
        have ro : ROs K B H (v :: selV (as.map isIo) vs') (y :: outs) f := ro
        cases ro with
        | @cons _ _ _ _ f1 f2 r rs =>
          obtain ⟨fp3, d, k1, k2⟩ := giveA_ok eb hb rs re h
          refine ⟨fp3, f1 ++ d, ?_, k2⟩
          rw [List.append_assoc, List.append_assoc]
          exact List.Perm.append_left f1 k1
  | .plc i q :: as, vs, env, env3, outs, f, fp, eb, hb, ro, re, h => by
    cases hb with
    | @plc v _ _ vs' _ hr hb =>
      cases outs with
      | nil => cases h
      | cons y outs =>
        rw [giveA] at h
        obtain ⟨e1, h1, h2⟩ := giveN_some h
        have ro : ROs K B H (v :: selV (as.map isIo) vs') (y :: outs) f := ro
        cases ro with
        | @cons _ _ _ _ f1 f2 r rs =>
          obtain ⟨o, z, s1, s2, s3⟩ := plcS_some h1
          have hg : plcG env i (some q) = some z := by
            show o1 (getQ q) (slot env i) = _
            rw [s1]
            exact s2
          obtain ⟨w', fy, fr, p1, r1, rch, put⟩ := re.foc hg
          have e0 := hr.fn (rch H (by first | assumption | exact Wld.bh (by assumption) | exact Stp.bh (by assumption) | exact (Sit.w (by assumption)).bh) .refl)
          subst e0
          obtain ⟨fp1, p2, re1⟩ := put B H y f1 e1 (.refl _) .refl r h1
          obtain ⟨fp3, d, k1, k2⟩ := giveA_ok eb hb rs re1 h2
          refine ⟨fp3, fy ++ d, ?_, k2⟩
          have q1 : ((f1 ++ f2) ++ fp).Perm (fy ++ (f2 ++ fp1)) := by
            have a1 : ((f1 ++ f2) ++ fp).Perm ((f1 ++ f2) ++ (fy ++ fr)) := List.Perm.append_left _ p1
            have a2 : ((f1 ++ f2) ++ (fy ++ fr)).Perm (fy ++ ((f1 ++ f2) ++ fr)) := perm_ac _ _ _
            refine a1.trans (a2.trans (List.Perm.append_left fy ?_))
            rw [List.append_assoc]
            exact (perm_ac f1 f2 fr).trans (List.Perm.append_left f2 p2.symm)
          refine q1.trans ?_
          rw [List.append_assoc]
          exact List.Perm.append_left fy k1
end
end G

set_option maxRecDepth 100000
namespace G
open PySem L2
section
variable {T : Tb} {N : List Str} {c : Ct} {X : Cx} {W : WX} {sc so : Scope} {k : Nat} {env env1 env2 : Env} {l w : Expr} {B0 H0 B H : Hp} {σ : L2.St} {fp g : List Addr} {K : PySem.W.Frag}
/-! ### calls -/
theorem giveR_some {ars : List Arg} {e e3 : Env} {z : Option (Rx O × List O)} {r : Rx O} (h : giveR ars e z = some (r, e3)) : ∃ outs, z = some (r, outs) ∧ giveA ars outs e = some e3 := by
  unfold giveR at h
  split at h
  · obtain ⟨h1, rfl⟩ := okP_some h
    exact ⟨_, rfl, h1⟩
  · split at h
    · cases h
      exact ⟨_, rfl, by assumption⟩
    · cases h
  · cases h
theorem callF_some {f : Nat} {ars : List Arg} {r : Rx O} {e3 : Env} (h : callF c f ars env = some (r, e3)) : ars.map isIo = c.io f ∧ ∃ os e2 outs, takeA ars env = some (os, e2) ∧ c.call f os = some (r, outs) ∧ giveA ars outs e2 = some e3 := by
  unfold callF at h
  split at h
  · rename_i hm
    cases z : takeA ars env with
    | none => rw [z] at h; cases h
    | some y =>
      obtain ⟨os, e2⟩ := y
      rw [z] at h
      obtain ⟨outs, h1, h2⟩ := giveR_some h
      exact ⟨hm, os, e2, outs, rfl, h1, h2⟩
  · cases h
/-- the callee's promise, from what the caller holds -/
theorem spM_of {F : List O → Option (Rx O × List O)} {ars : List Arg} {vs : List V} {f : List Addr} {os outs : List O} {r : Rx O} {e2 e3 : Env} {Q : VK} {io : List Bool} (t : Sit B0 H0 B H (g ++ (f ++ fp))) (hg : ∀ a ∈ g, H a ≠ none) (nd : djB (plK ars) = true) (ha : ARs K σ B H vs ars f) (re : REnv K B H σ env fp)
    (hio : ars.map isIo = io) (h1 : takeA ars env = some (os, e2)) (h2 : F os = some (r, outs)) (h3 : giveA ars outs e2 = some e3) (q : CF (RO K) K W B0 H0 g B H σ e3 Q r) : spM K io F vs H Q (WE W σ) := by
  subst hio
  obtain ⟨f0, fp2, k1, k2, k3, k4⟩ := takeA_ok t.w.bh nd ha re h1
  have p1 : (g ++ (f ++ fp)).Perm (f0 ++ (g ++ fp2)) := (List.Perm.append_left g k2).trans (perm_ac g f0 fp2)
  have t1 := t.perm p1
  have hr : ∀ a ∈ g ++ fp2, H a ≠ none := mem_app hg k3.has
  refine ⟨B, os, f0, (r, outs), t.w.bh, t1.left.w.nd, t1.left.w.out, k1, h2, ?_⟩
  have fin : ∀ {B' H' : Hp} {f1 g1 : List Addr}, Stp B (cut H f0) B' H' → ROs K B' H' (selV (ars.map isIo) vs) outs g1 → Frs (cut H f0) B' (f1 ++ g1) → ∃ fp3, Ext B B' ∧ Agr g H H' ∧ Sit B0 H0 B' H' (g ++ (f1 ++ fp3)) ∧ REnv K B' H' σ e3 fp3 := by
    intro B' H' f1 g1 s ro n
    obtain ⟨t2, a2⟩ := t1.call hr s n
    have re2 : REnv K B' H' σ e2 fp2 := k3.mono s.b a2.right
    obtain ⟨fp3, d, p3, re3⟩ := giveA_ok t2.w.bh (k4 H' (s.b.trans t2.w.bh) a2.right) ro re2 h3
    refine ⟨fp3, s.b, a2.left, ?_, re3⟩
    have p4 : ((f1 ++ g1) ++ (g ++ fp2)).Perm (d ++ (g ++ (f1 ++ fp3))) := by
      rw [List.append_assoc]
      have b1 : (g1 ++ (g ++ fp2)).Perm (g ++ (d ++ fp3)) := (perm_ac g1 g fp2).trans (List.Perm.append_left g p3)
      have b2 : (g ++ (d ++ fp3)).Perm (d ++ (g ++ fp3)) := perm_ac g d fp3
      have b3 : (f1 ++ (d ++ (g ++ fp3))).Perm (d ++ (f1 ++ (g ++ fp3))) := perm_ac f1 d (g ++ fp3)
      exact (List.Perm.append_left f1 (b1.trans b2)).trans (b3.trans (List.Perm.append_left d (perm_ac f1 g fp3)))
    exact (t2.perm p4).right
  cases r with
  | ok o =>
    exact fun v B' H' f1 g1 s ro rs n => by
      obtain ⟨fp3, e1, a1, t3, re3⟩ := fin s rs n
      exact q v B' H' f1 fp3 e1 a1 t3 ro re3
  | ex cn us =>
    exact fun cls d B' H' f1 g1 s rx rs n => by
      obtain ⟨fp3, e1, a1, t3, re3⟩ := fin s rs n
      exact q cls d B' H' f1 fp3 e1 a1 t3 rx re3
theorem sndf_call (hx : XOk T c N sc so k X) (tk : Takes X W) {f : Nat} {x : Str} {p pos : Pos} {e : Expr} {es : List Expr} {res : Rx O} {fa : Rf (List Arg)} (h : gnB sc (T.fn f) x = true) (hn : (e :: es).all nst = true) (ha : ∀ r e1, fa = some (r, e1) → SndFA X W env (e :: es) r e1) (hs : ∀ ars e, fa = some (.ok ars, e) → djB (plK ars) = true)
    (hr : (bnd fa fun ars e => callF c f ars e) = some (res, env2)) : SndF X W env (.Call (.Name x p) (e :: es) [] pos) res env2 := by
  obtain ⟨h1, h2, h3⟩ := gn_ok h
  obtain ⟨a, fd, pn, e1, e2, e3, F⟩ := hx.fns f x h1
  rw [List.all_cons, Bool.and_eq_true] at hn
  have P : PE X (.Call (.Name x p) (e :: es) [] pos) (tCallS (spM X.K (c.io f) (c.call f)) (WE W) (wA X (e :: es))) := pe_callS F hx.room (gl_ok hx h) e1 e2 e3 (passAt tk) wA_ok h3 (star_cons hn.1) (star_any hn.2)
  rcases bnd_some hr with ⟨cn, us, h4, rfl⟩ | ⟨ars, e4, h4, h5⟩
  · exact fun _ _ _ _ _ fp g _ t hg re q => ⟨_, P, ha _ _ h4 t hg re q⟩
  · obtain ⟨hm, os, e5, outs, h6, h7, h8⟩ := callF_some h5
    exact fun _ _ _ _ _ fp g _ t hg re q => ⟨_, P, ha _ _ h4 t hg re fun vs B1 H1 f1 fp1 eb ag t1 r1 re1 => spM_of t1 (ag.has hg) (hs _ _ h4) r1 re1 hm h6 h7 h8 (by
      cases res with
      | ok o => exact fun v B' H' f2 fp' e2 a2 t2 ro re2 => q v B' H' f2 fp' (eb.trans e2) (ag.trans a2) t2 ro re2
      | ex cn us => exact fun cls d B' H' f2 fp' e2 a2 t2 ro re2 => q cls d B' H' f2 fp' (eb.trans e2) (ag.trans a2) t2 ro re2)⟩
theorem sndf_call0 (hx : XOk T c N sc so k X) (tk : Takes X W) {f : Nat} {x : Str} {p pos : Pos} {res : Rx O} (h : gnB sc (T.fn f) x = true) (hr : callF c f [] env = some (res, env2)) : SndF X W env (.Call (.Name x p) [] [] pos) res env2 := by
  obtain ⟨h1, h2, h3⟩ := gn_ok h
  obtain ⟨a, fd, pn, e1, e2, e3, F⟩ := hx.fns f x h1
  obtain ⟨hm, os, e5, outs, h6, h7, h8⟩ := callF_some hr
  exact fun _ _ _ _ _ fp g _ t hg re q => ⟨_, pe_callS0 F hx.room (gl_ok hx h) e1 e2 e3 (passAt tk) h3, spM_of (f := []) t hg (by simp [plK, djB]) .nil re hm h6 h7 h8 q⟩
theorem meth_ht {o : Expr} {m : Str} {apos pos : Pos} {args : List Expr} {env : PySem.Env} (hb : baseB o = true) (hl : (apos.endLine == pos.line) = true) (hn : args.all nst = true) (hlen : args.length < 30) : eval (.Call (.Attribute o m apos) args [] pos) env = (do
      let ov ← eval o env
      standAt apos.atName
      let (f, first) ← holding [ov] (getMethod ov m (do return (← importBound o env).getD true))
      callWith pos f first (backTo pos (starEach args env)) (backToKw pos (keywordEach [] env))) := by
  have form : methodCallForm (args.length + ([] : List Keyword).length) (backTo pos (starEach args env)) (backToKw pos (keywordEach [] env)) = true := by
    unfold methodCallForm
    have h1 : (backTo pos (starEach args env)).all (fun x => !x.1) = true := by
      have := star_any (env := env) (pos := pos) hn
      rw [List.any_eq_false] at this
      rw [List.all_eq_true]
      intro x hx
      simpa using this x hx
    rw [h1]
    show (true && true && decide (args.length + 0 + 0 < 30)) = true
    simpa using hlen
  rw [arm_eval_Call, base_ok hb]
  unfold methodCall calleeOf methodCallPos
  rw [form]
  simp only [hl, if_true, Bool.not_true, Bool.or_true]
  rfl
theorem isObj_some {cl m : Str} {z : Option O} (h : isObj cl m z = true) : ∃ kvs, z = some (.obj cl kvs) ∧ fldL m kvs = none := by
  unfold isObj at h
  split at h
  · rw [Bool.and_eq_true, decide_eq_true_eq] at h
    obtain ⟨rfl, h2⟩ := h
    exact ⟨_, rfl, by simpa using h2⟩
  · cases h
theorem ROf.none {f : Str} : ∀ {us : List (Str × V)} {kvs : List (Str × O)} {g : List Addr}, ROf K B H us kvs g → fldL f kvs = none → us.lookup f = none
  | _, _, _, .nil, _ => rfl
  | _, _, _, .cons (x := x) r rs, h => by
    unfold fldL at h
    split at h
    · cases h
    · rename_i e
      have e : ¬ x = f := e
      rw [List.lookup_cons]
      have : (f == x) = false := by
        rw [beq_eq_false_iff_ne]
        exact fun z => e z.symm
      rw [this]
      exact ROf.none rs h
/-- o.m(..): the receiver is lent first of all -/
theorem sndf_meth (hx : XOk T c N sc so k X) (tk : Takes X W) {cl m : Str} {f i : Nat} {q0 : List Pt} {v : Expr} {ap pos : Pos} {es : List Expr} {res : Rx O} {ars : List Arg} {e1 : Env} (hm : T.me cl m = some f) (hb : baseB v = true) (hl : (ap.endLine == pos.line) = true) (hlen : es.length < 30) (hn : es.all nst = true) (hv : SndPl X env v i q0)
    (ho : ∃ kvs, plcG env i (some q0) = some (.obj cl kvs) ∧ fldL m kvs = none)
    (ha : es = [] ∧ ars = [] ∧ e1 = env ∨ (es ≠ [] ∧ SndFA X W env es (.ok ars) e1 ∧ (q0 = [] ∨ (e1 = env ∧ SndAp X env es ars)))) (hs : djB ((i, kyQ q0) :: plK ars) = true)
    (hr : callF c f (.plc i q0 :: ars) e1 = some (res, env2)) : SndF X W env (.Call (.Attribute v m ap) es [] pos) res env2 := by
  obtain ⟨C, a, fd, pn, z1, z2, z3, F⟩ := hx.mes cl m f hm
  obtain ⟨hio, os, e5, outs, h6, h7, h8⟩ := callF_some hr
  obtain ⟨kvs, ho1, ho2⟩ := ho
  have hobj : ∀ {B H : Hp} {σ : L2.St} {fp : List Addr} {w : V}, Ext B H → REnv X.K B H σ env fp → RchE H σ i q0 w → ∃ a dx us, w = .ref a ∧ H a = some (.ins C dx us) ∧ us.lookup m = none ∧ Cls X.K C := by
    intro B H σ fp w eb0 re hr
    obtain ⟨w', fy, fr, p1, r1, rch, _⟩ := re.foc ho1
    have e := hr.fn (rch H (by first | assumption | exact Wld.bh (by assumption) | exact Stp.bh (by assumption) | exact (Sit.w (by assumption)).bh) .refl)
    subst e
    cases r1 with
    | obj k1 k2 k3 k4 k5 k6 =>
      rw [z1] at k1
      cases k1
      exact ⟨_, _, _, rfl, k4, k6.none ho2, k2⟩
  have hcl : ∀ {B H : Hp} {σ : L2.St} {fp : List Addr}, REnv X.K B H σ env fp → Cls X.K C := fun re => by
    obtain ⟨w', fy, fr, p1, r1, rch, _⟩ := re.foc ho1
    cases r1 with
    | obj k1 k2 k3 k4 k5 k6 =>
      rw [z1] at k1
      cases k1
      exact k2
  have nd : djB (plK (.plc i q0 :: ars)) = true := hs
  rcases ha with ⟨rfl, rfl, rfl⟩ | ⟨hne, ha, hq⟩
  · exact fun _ _ _ _ _ fp g _ t hg re q => ⟨_, pe_methS0 wE_ok (hcl re) z2 F hx.room z3 (passAt tk) (meth_ht hb hl hn hlen), hv.at t hg re fun w B1 H1 b1 b2 t1 re1 hrc => by
      obtain ⟨a, dx, us, rfl, o1, o2, _⟩ := hobj t1.w.bh re1 hrc
      refine ⟨a, dx, us, rfl, o1, o2, ?_⟩
      exact spM_of (f := []) t1 (fun a h z => hg a h (b2.none z)) nd (.plc hrc .nil) re1 hio h6 h7 h8 (by
        cases res with
        | ok o => exact fun v B' H' f2 fp' e2 a2 t2 ro re2 => q v B' H' f2 fp' (b1.trans e2) ((Agr.ext b2).trans a2) t2 ro re2
        | ex cn us => exact fun cls d B' H' f2 fp' e2 a2 t2 ro re2 => q cls d B' H' f2 fp' (b1.trans e2) ((Agr.ext b2).trans a2) t2 ro re2)⟩
  · cases es with
    | nil => exact absurd rfl hne
    | cons e es =>
      have hn0 := hn
      rw [List.all_cons, Bool.and_eq_true] at hn
      rcases hq with rfl | ⟨rfl, hp⟩
      · exact fun _ _ _ _ _ fp g _ t hg re q => ⟨_, pe_methS wE_ok (hcl re) z2 F hx.room z3 (passAt tk) wA_ok (star_cons hn.1) (star_any hn.2) (meth_ht hb hl hn0 hlen), hv.at t hg re fun w B1 H1 b1 b2 t1 re1 hrc => by
          obtain ⟨a, dx, us, rfl, o1, o2, _⟩ := hobj t1.w.bh re1 hrc
          refine ⟨a, dx, us, rfl, o1, o2, ha t1 (fun a h z => hg a h (b2.none z)) re1 fun vs B2 H2 f1 fp1 eb ag t2 r2 re2 => ?_⟩
          have hrc2 : RchE H2 _ i [] (.ref a) := hrc
          exact spM_of t2 (ag.has fun a h z => hg a h (b2.none z)) nd (.plc hrc2 r2) re2 hio h6 h7 h8 (by
            cases res with
            | ok o => exact fun v B' H' f2 fp' e2 a2 t2 ro re2 => q v B' H' f2 fp' (b1.trans (eb.trans e2)) ((Agr.ext b2).trans (ag.trans a2)) t2 ro re2
            | ex cn us => exact fun cls d B' H' f2 fp' e2 a2 t2 ro re2 => q cls d B' H' f2 fp' (b1.trans (eb.trans e2)) ((Agr.ext b2).trans (ag.trans a2)) t2 ro re2)⟩
      · exact fun _ _ _ _ _ fp g _ t hg re q => ⟨_, pe_methS wE_ok (hcl re) z2 F hx.room z3 (passAt tk) wA_ok (star_cons hn.1) (star_any hn.2) (meth_ht hb hl hn0 hlen), hv.at t hg re fun w B1 H1 b1 b2 t1 re1 hrc => by
          obtain ⟨a, dx, us, rfl, o1, o2, _⟩ := hobj t1.w.bh re1 hrc
          have hg1 : ∀ a ∈ g, H1 a ≠ none := fun a h z => hg a h (b2.none z)
          refine ⟨a, dx, us, rfl, o1, o2, hp t1.w.right re1 fun vs B2 H2 f1 s2 r2 n2 => ?_⟩
          have t2 := (t1.add s2 (mem_app hg1 re1.has) n2).perm (perm_ac f1 g fp)
          exact spM_of t2 (fun a h z => hg1 a h (s2.h.none z)) nd (.plc (hrc.ext s2.h) r2) (re1.stp s2) hio h6 h7 h8 (by
            cases res with
            | ok o => exact fun v B' H' f2 fp' e2 a2 t2 ro re2 => q v B' H' f2 fp' (b1.trans (s2.b.trans e2)) ((Agr.ext b2).trans ((Agr.ext s2.h).trans a2)) t2 ro re2
            | ex cn us => exact fun cls d B' H' f2 fp' e2 a2 t2 ro re2 => q cls d B' H' f2 fp' (b1.trans (s2.b.trans e2)) ((Agr.ext b2).trans ((Agr.ext s2.h).trans a2)) t2 ro re2)⟩
/-- .. where an argument raises -/
theorem sndf_methX (hx : XOk T c N sc so k X) (tk : Takes X W) {cl m : Str} {f i : Nat} {q0 : List Pt} {v : Expr} {ap pos : Pos} {e : Expr} {es : List Expr} {cn : Str} {us : List (Str × P)} {e1 : Env} (hm : T.me cl m = some f) (hb : baseB v = true) (hl : (ap.endLine == pos.line) = true) (hlen : (e :: es).length < 30) (hn : (e :: es).all nst = true) (hv : SndPl X env v i q0)
    (ho : ∃ kvs, plcG env i (some q0) = some (.obj cl kvs) ∧ fldL m kvs = none) (ha : SndFA X W env (e :: es) (.ex cn us) e1) : SndF X W env (.Call (.Attribute v m ap) (e :: es) [] pos) (.ex cn us) e1 := by
  obtain ⟨C, a, fd, pn, z1, z2, z3, F⟩ := hx.mes cl m f hm
  obtain ⟨kvs, ho1, ho2⟩ := ho
  have hobj : ∀ {B H : Hp} {σ : L2.St} {fp : List Addr} {w : V}, Ext B H → REnv X.K B H σ env fp → RchE H σ i q0 w → ∃ a dx us, w = .ref a ∧ H a = some (.ins C dx us) ∧ us.lookup m = none ∧ Cls X.K C := by
    intro B H σ fp w eb0 re hr
    obtain ⟨w', fy, fr, p1, r1, rch, _⟩ := re.foc ho1
    have e := hr.fn (rch H (by first | assumption | exact Wld.bh (by assumption) | exact Stp.bh (by assumption) | exact (Sit.w (by assumption)).bh) .refl)
    subst e
    cases r1 with
    | obj k1 k2 k3 k4 k5 k6 =>
      rw [z1] at k1
      cases k1
      exact ⟨_, _, _, rfl, k4, k6.none ho2, k2⟩
  have hcl : ∀ {B H : Hp} {σ : L2.St} {fp : List Addr}, REnv X.K B H σ env fp → Cls X.K C := fun re => by
    obtain ⟨w', fy, fr, p1, r1, rch, _⟩ := re.foc ho1
    cases r1 with
    | obj k1 k2 k3 k4 k5 k6 =>
      rw [z1] at k1
      cases k1
      exact k2
  have hn0 := hn
  rw [List.all_cons, Bool.and_eq_true] at hn
  exact fun _ _ _ _ _ fp g _ t hg re q => ⟨_, pe_methS wE_ok (hcl re) z2 F hx.room z3 (passAt tk) wA_ok (star_cons hn.1) (star_any hn.2) (meth_ht hb hl hn0 hlen), hv.at t hg re fun w B1 H1 b1 b2 t1 re1 hrc => by
    obtain ⟨a, dx, us, rfl, o1, o2, _⟩ := hobj t1.w.bh re1 hrc
    exact ⟨a, dx, us, rfl, o1, o2, ha t1 (fun a h z => hg a h (b2.none z)) re1 fun cls d B' H' f2 fp' e2 a2 t2 rx re2 => q cls d B' H' f2 fp' (b1.trans e2) ((Agr.ext b2).trans a2) t2 rx re2⟩⟩
/-! a new object -/
theorem newF_some {cl : Str} {f : Nat} {ars : List Arg} {r : Rx O} {e3 : Env} (h : newF c cl f ars env = some (r, e3)) : true :: ars.map isIo = c.io f ∧ ∃ os e2 o outs, takeA ars env = some (os, e2) ∧ c.low f (.obj cl [] :: os) = some (.ok (.pl .none), o :: outs) ∧ giveA ars outs e2 = some e3 ∧ r = .ok o := by
  unfold newF at h
  split at h
  · rename_i hm
    cases z : takeA ars env with
    | none => rw [z] at h; cases h
    | some y =>
      obtain ⟨os, e2⟩ := y
      rw [z] at h
      have h : newR ars e2 (c.low f (.obj cl [] :: os)) = some (r, e3) := h
      unfold newR at h
      split at h
      · rename_i o outs h1
        obtain ⟨h2, rfl⟩ := okP_some h
        exact ⟨hm, os, e2, o, outs, rfl, h1, h2, rfl⟩
      · cases h
  · cases h
theorem new_core {C x dx : Addr} {cl : Str} {F : List O → Option (Rx O × List O)} {ars : List Arg} {vs : List V} {f : List Addr} {os outs : List O} {o : O} {e2 e3 : Env} {Q : VK} {io : List Bool} {E : XK} (hc : clsK K cl = some C) (hC : Cls K C)
    (t : Sit B0 H0 B H (g ++ (f ++ fp))) (hg : ∀ a ∈ g, H a ≠ none) (nd : djB (plK ars) = true) (ha : ARs K σ B H vs ars f) (re : REnv K B H σ env fp) (nx : H x = none) (ndx : H dx = none) (hne : dx ≠ x)
    (hio : true :: ars.map isIo = io) (h1 : takeA ars env = some (os, e2)) (h2 : F (.obj cl [] :: os) = some (.ok (.pl .none), o :: outs)) (h3 : giveA ars outs e2 = some e3) (q : CF (RO K) K W B0 H0 g B H σ e3 Q (.ok o)) :
    spM K io F (.ref x :: vs) (upd (upd H dx (.own x)) x (.ins C dx [])) (fun v H2 => v = .non ∧ Q (.ref x) H2) E := by
  subst hio
  generalize hH : upd (upd H dx (.own x)) x (.ins C dx []) = H1
  have hx : H1 x = some (.ins C dx []) := by rw [← hH]; exact upd_same
  have hdx : H1 dx = some (.own x) := by rw [← hH, upd_ne hne]; exact upd_same
  have s1 : Stp B H B H1 := by
    rw [← hH]
    have a := Stp.lay (o := .own x) t.w.bh ndx
    exact a.trans (Stp.lay a.bh (by rw [upd_ne hne.symm]; exact nx))
  have hh := mem_app hg (mem_app ha.has re.has)
  have t1 : Sit B0 H0 B H1 ([x, dx] ++ (g ++ (f ++ fp))) := t.add (g := [x, dx]) s1 hh ⟨by simp [hne.symm], by
    intro a h
    rcases List.mem_cons.mp h with z | z
    · rw [z]; exact nx
    · have z : a = dx := by simpa using z
      rw [z]; exact ndx, by
    intro a h
    rcases List.mem_cons.mp h with z | z
    · rw [z]; exact t.w.bh.none nx
    · have z : a = dx := by simpa using z
      rw [z]; exact t.w.bh.none ndx⟩
  have ro : RO K B H1 (.ref x) (.obj cl []) [x, dx] := .obj hc hC (by simp) hx hdx .nil
  have ha1 := ha.stp s1
  have re1 := re.stp s1
  obtain ⟨f0, fp2, k1, k2, k3, k4⟩ := takeA_ok s1.bh nd ha1 re1 h1
  have p1 : ([x, dx] ++ (g ++ (f ++ fp))).Perm (([x, dx] ++ f0) ++ (g ++ fp2)) := by
    rw [List.append_assoc]
    exact List.Perm.append_left [x, dx] ((List.Perm.append_left g k2).trans (perm_ac g f0 fp2))
  have t2 := t1.perm p1
  have hg1 : ∀ a ∈ g, H1 a ≠ none := fun a h z => hg a h (s1.h.none z)
  refine ⟨B, _, [x, dx] ++ f0, (.ok (.pl .none), o :: outs), s1.bh, t2.left.w.nd, t2.left.w.out, .cons ro k1, h2, ?_⟩
  intro v B' H' f1 g1 s rv rs n
  have ev : v = .non := by
    cases rv with
    | pl rp => cases rp; rfl
  obtain ⟨t3, a3⟩ := t2.call (mem_app hg1 k3.has) s n
  have re2 : REnv K B' H' σ e2 fp2 := k3.mono s.b a3.right
  have rs : ROs K B' H' (.ref x :: selV (ars.map isIo) vs) (o :: outs) g1 := rs
  cases rs with
  | @cons _ _ _ _ g2 g3 r2 r3 =>
    obtain ⟨fp3, d, p3, re3⟩ := giveA_ok t3.w.bh (k4 H' (s.b.trans t3.w.bh) a3.right) r3 re2 h3
    refine ⟨ev, q (.ref x) B' H' g2 fp3 s.b ((Agr.ext s1.h).trans a3.left) ?_ r2 re3⟩
    have p4 : ((f1 ++ (g2 ++ g3)) ++ (g ++ fp2)).Perm ((f1 ++ d) ++ (g ++ (g2 ++ fp3))) := by
      rw [List.append_assoc, List.append_assoc, List.append_assoc]
      refine List.Perm.append_left f1 ?_
      have b1 : (g3 ++ (g ++ fp2)).Perm (g ++ (d ++ fp3)) := (perm_ac g3 g fp2).trans (List.Perm.append_left g p3)
      have b2 : (g ++ (d ++ fp3)).Perm (d ++ (g ++ fp3)) := perm_ac g d fp3
      have b3 : (g2 ++ (d ++ (g ++ fp3))).Perm (d ++ (g2 ++ (g ++ fp3))) := perm_ac g2 d (g ++ fp3)
      exact (List.Perm.append_left g2 (b1.trans b2)).trans (b3.trans (List.Perm.append_left d (perm_ac g2 g fp3)))
    exact (t3.perm p4).right
theorem sndf_new (hx : XOk T c N sc so k X) {cl : Str} {f : Nat} {p pos : Pos} {e : Expr} {es : List Expr} {res : Rx O} {fa : Rf (List Arg)} (h : gnB sc (some cl) cl = true) (hi : T.ini cl = some f) (hn : (e :: es).all nst = true) (ha : ∀ r e1, fa = some (r, e1) → SndFA X W env (e :: es) r e1) (hs : ∀ ars e, fa = some (.ok ars, e) → djB (plK ars) = true)
    (hr : ∃ ars e1, fa = some (.ok ars, e1) ∧ newF c cl f ars e1 = some (res, env2)) : SndF X W env (.Call (.Name cl p) (e :: es) [] pos) res env2 := by
  obtain ⟨h1, h2, h3⟩ := gn_ok h
  obtain ⟨ars, e4, h4, h5⟩ := hr
  obtain ⟨hm, os, e5, o, outs, h6, h7, h8, rfl⟩ := newF_some h5
  rcases hx.inis cl f hi with z | ⟨C, a, fd, pn, j, ek, z1, z2, z3, z4, z5, F⟩
  · rw [z] at h7
    cases h7
  subst ek
  rw [List.all_cons, Bool.and_eq_true] at hn
  have P := pe_make (p := p) (pos := pos) z4 F hx.room (gl_ok hx h) z2 z5 .nil (passL (X := X)) (wA_ok (X := X) (e := e :: es)) h3 (star_cons hn.1) (star_any hn.2)
  exact fun _ _ _ _ _ fp g _ t hg re q => ⟨_, P, ha _ _ h4 t hg re fun vs B1 H1 f1 fp1 eb ag t1 r1 re1 x dx nx ndx hne => by
      rw [List.append_nil]
      exact new_core (W := W) z1 z3 t1 (ag.has hg) (hs _ _ h4) r1 re1 nx ndx hne hm h6 h7 h8 fun v B' H' f2 fp' e2 a2 t2 ro re2 => q v B' H' f2 fp' (eb.trans e2) (ag.trans a2) t2 ro re2⟩
theorem sndf_new0 (hx : XOk T c N sc so k X) {cl : Str} {f : Nat} {p pos : Pos} {res : Rx O} (h : gnB sc (some cl) cl = true) (hi : T.ini cl = some f) (hr : newF c cl f [] env = some (res, env2)) : SndF X W env (.Call (.Name cl p) [] [] pos) res env2 := by
  obtain ⟨h1, h2, h3⟩ := gn_ok h
  obtain ⟨hm, os, e5, o, outs, h6, h7, h8, rfl⟩ := newF_some hr
  rcases hx.inis cl f hi with z | ⟨C, a, fd, pn, j, ek, z1, z2, z3, z4, z5, F⟩
  · rw [z] at h7
    cases h7
  subst ek
  have P := pe_make0 (p := p) (pos := pos) z4 F hx.room (gl_ok hx h) z2 z5 .nil (passL (X := X)) h3
  exact fun _ _ _ _ _ fp g _ t hg re q => ⟨_, P, fun x dx nx ndx hne => new_core (W := W) (f := []) z1 z3 t hg (by simp [plK, djB]) .nil re nx ndx hne hm h6 h7 h8 q⟩
/-! places taken, shared, popped -/
theorem sndf_mv {i : Nat} {q0 : List Pt} {y : O} (hv : SndPl X env l i q0) (h1 : plcG env i (some q0) = some y) (h2 : plcS env i .hole (some q0) = some env2) : SndF X W env l (.ok y) env2 := fun _ _ _ _ _ fp g _ t hg re q =>
  hv.at t hg re fun w B1 H1 b1 b2 t1 re1 hrc => by
    obtain ⟨w', fy, fr, p1, r1, rch, put⟩ := re1.foc h1
    have e := hrc.fn (rch H1 (by first | assumption | exact Wld.bh (by assumption) | exact Stp.bh (by assumption) | exact (Sit.w (by assumption)).bh) .refl)
    subst e
    obtain ⟨fp', p2, re2⟩ := put B1 H1 .hole [] env2 (.refl _) .refl .hole h2
    exact q w B1 H1 fy fp' b1 (.ext b2) (t1.perm (List.Perm.append_left g (p1.trans (List.Perm.append_left fy (by simpa using p2.symm))))) r1 re2
theorem sndf_fr {i : Nat} {q0 : List Pt} {y : O} {p : P} (hv : SndPl X env l i q0) (h1 : plcG env i (some q0) = some y) (hp : fz y = some p) (h2 : plcS env i (.pl p) (some q0) = some env2) : SndF X W env l (.ok (.pl p)) env2 := fun _ _ _ _ _ fp g _ t hg re q =>
  hv.at t hg re fun w B1 H1 b1 b2 t1 re1 hrc => by
    obtain ⟨w', fy, fr, p1, r1, rch, put⟩ := re1.foc h1
    have e := hrc.fn (rch H1 (by first | assumption | exact Wld.bh (by assumption) | exact Stp.bh (by assumption) | exact (Sit.w (by assumption)).bh) .refl)
    subst e
    obtain ⟨B2, e2, t2, rp⟩ := (t1.perm ((List.Perm.append_left g p1).trans (perm_ac g fy fr))).share1 r1 hp
    obtain ⟨fp', p2, re2⟩ := put B2 H1 (.pl p) [] env2 e2 .refl (.pl rp) h2
    exact q w B2 H1 [] fp' (b1.trans e2) (.ext b2) (t2.perm (List.Perm.append_left g (by simpa using p2.symm))) (.pl rp) re2
end
end G

set_option maxRecDepth 100000
namespace G
open PySem L2
inductive TB : Rx O → Rx Bool → Prop
  | ok (b : Bool) : TB (.ok (.pl (.bool b))) (.ok b)
  | ex (c : Str) (us : List (Str × P)) : TB (.ex c us) (.ex c us)
section
variable {T : Tb} {N : List Str} {c : Ct} {X : Cx} {W : WX} {sc so : Scope} {k : Nat} {env env1 env2 : Env} {l r w : Expr} {B0 H0 B H : Hp} {σ : L2.St} {fp g : List Addr} {K : PySem.W.Frag} {pos : Pos}
theorem SndFW.t {rb : Rx Bool} (h : SndFW X W env l rb env1) : SndFT X W env l rb env1 := fun _ _ _ _ _ fp g _ t hg re q => ⟨_, wW_ok.pt, h t hg re q⟩
theorem sndft_val {res : Rx O} {rb : Rx Bool} (h : SndF X W env l res env1) (hb : TB res rb) (he : ∀ whole, isTrue l X.env whole = (do let v ← whole; standAt l.pos; holding [v] (truthy v))) : SndFT X W env l rb env1 := by
  cases hb with
  | ok b => exact fun _ _ _ _ _ fp g _ t hg re q => ⟨_, pt_val wE_ok he, h t hg re fun v B' H' f fp' e a t' ro re' => ⟨b, ro.b, q b B' H' [] fp' e a ((t'.perm (perm_ac g f fp')).right) ⟨rfl, rfl⟩ re'⟩⟩
  | ex cn us => exact fun _ _ _ _ _ fp g _ t hg re q => ⟨_, pt_val wE_ok he, h t hg re q⟩
theorem ifF_some {α : Type} {z : Rf O} {f h : Env → Rf α} {y : Rx α} {e : Env} (hh : ifF z f h = some (y, e)) : (∃ cn us, z = some (.ex cn us, e) ∧ y = .ex cn us) ∨ ∃ b e1, z = some (.ok (.pl (.bool b)), e1) ∧ (b = true → f e1 = some (y, e)) ∧ (b = false → h e1 = some (y, e)) := by
  unfold ifF at hh
  rcases bnd_some hh with h1 | ⟨o, e1, h1, h2⟩
  · exact .inl h1
  · split at h2
    · rename_i b
      refine .inr ⟨b, e1, h1, fun z => ?_, fun z => ?_⟩
      · subst z; rw [if_pos rfl] at h2; exact h2
      · subst z; rw [if_neg (by decide)] at h2; exact h2
    · cases h2
theorem CF.ok_next {α α' β : Type} {Rel : Hp → Hp → β → α → List Addr → Prop} {Q : β → Hp → Prop} {rs : Rx α} {B1 H1 : Hp} (q : CF Rel K W B0 H0 g B H σ env1 Q rs) (e : Ext B B1) (a : Agr g H H1) : CF Rel K W B0 H0 g B1 H1 σ env1 Q rs := by
  cases rs with
  | ok x => exact fun v B' H' f fp' e2 a2 t rx re => q v B' H' f fp' (e.trans e2) (a.trans a2) t rx re
  | ex cn us => exact fun cls d B' H' f fp' e2 a2 t rx re => q cls d B' H' f fp' (e.trans e2) (a.trans a2) t rx re
theorem CF.nx {α β : Type} {Rel : Hp → Hp → β → α → List Addr → Prop} {Q : β → Hp → Prop} {rs : Rx α} {B1 H1 : Hp} (q : CF Rel K W B0 H0 g B H σ env1 Q rs) (e : Ext B B1) (a : Agr g H H1) : CF Rel K W B0 H0 g B1 H1 σ env1 Q rs := q.ok_next (α' := Unit) e a
/-! and, or, not, comparisons, conditionals -/
theorem sndf_and {rest : List Expr} {res : Rx O} {fa : Rf O} {fb : Env → Rf O} (ha : ∀ rs e, fa = some (rs, e) → SndF X W env l rs e) (hb : ∀ e1 rs e, fb e1 = some (rs, e) → SndF X W e1 (.BoolOp .And (r :: rest) pos) rs e)
    (h : ifF fa fb (fun e => some (.ok (.pl (.bool false)), e)) = some (res, env2)) : SndF X W env (.BoolOp .And (l :: r :: rest) pos) res env2 := by
  rcases ifF_some h with ⟨cn, us, h1, rfl⟩ | ⟨b, e1, h1, h2, h3⟩
  · exact fun _ _ _ _ _ fp g _ t hg re q => ⟨_, pe_and wE_ok wE_ok, ha _ _ h1 t hg re q⟩
  · exact fun _ _ _ _ _ fp g _ t hg re q => ⟨_, pe_and wE_ok wE_ok, ha _ _ h1 t hg re fun v1 B1 H1 f1 fp1 eb ag t1 r1 re1 => ⟨b, r1.b, by
      have t2 := (t1.perm (perm_ac g f1 fp1)).right
      cases b with
      | true => exact iteT (hb _ _ _ (h2 rfl) t2 (ag.has hg) re1 (q.nx eb ag))
      | false =>
        have := h3 rfl
        cases this
        exact iteF (q (.bl false) B1 H1 [] fp1 eb ag t2 (.pl .bl) re1)⟩⟩
theorem sndf_or {rest : List Expr} {res : Rx O} {fa : Rf O} {fb : Env → Rf O} (ha : ∀ rs e, fa = some (rs, e) → SndF X W env l rs e) (hb : ∀ e1 rs e, fb e1 = some (rs, e) → SndF X W e1 (.BoolOp .Or (r :: rest) pos) rs e)
    (h : ifF fa (fun e => some (.ok (.pl (.bool true)), e)) fb = some (res, env2)) : SndF X W env (.BoolOp .Or (l :: r :: rest) pos) res env2 := by
  rcases ifF_some h with ⟨cn, us, h1, rfl⟩ | ⟨b, e1, h1, h2, h3⟩
  · exact fun _ _ _ _ _ fp g _ t hg re q => ⟨_, pe_or wE_ok wE_ok, ha _ _ h1 t hg re q⟩
  · exact fun _ _ _ _ _ fp g _ t hg re q => ⟨_, pe_or wE_ok wE_ok, ha _ _ h1 t hg re fun v1 B1 H1 f1 fp1 eb ag t1 r1 re1 => ⟨b, r1.b, by
      have t2 := (t1.perm (perm_ac g f1 fp1)).right
      cases b with
      | false => exact iteF (hb _ _ _ (h3 rfl) t2 (ag.has hg) re1 (q.nx eb ag))
      | true =>
        have := h2 rfl
        cases this
        exact iteT (q (.bl true) B1 H1 [] fp1 eb ag t2 (.pl .bl) re1)⟩⟩
theorem sndf_single {op : BoolOp} {res : Rx O} (h : SndF X W env l res env1) : SndF X W env (.BoolOp op [l] pos) res env1 := fun _ _ _ _ _ fp g _ t hg re q => ⟨_, pe_one wE_ok, h t hg re q⟩
theorem sndfw_and1 {rb : Rx Bool} (h : SndFT X W env l rb env1) : SndFW X W env (.BoolOp .And [l] pos) rb env1 := fun _ _ _ _ _ fp g _ t hg re q => ⟨_, pw_and1 wT_ok, h t hg re q⟩
theorem sndfw_or1 {rb : Rx Bool} (h : SndFT X W env l rb env1) : SndFW X W env (.BoolOp .Or [l] pos) rb env1 := fun _ _ _ _ _ fp g _ t hg re q => ⟨_, pw_or1 wT_ok, h t hg re q⟩
theorem sndfw_and {rest : List Expr} {res : Rx O} {rb : Rx Bool} {fa : Rf O} {fb : Env → Rf O} (ha : ∀ rs e rb, fa = some (rs, e) → TB rs rb → SndFT X W env l rb e) (hb : ∀ e1 rs e rb, fb e1 = some (rs, e) → TB rs rb → SndFW X W e1 (.BoolOp .And (r :: rest) pos) rb e)
    (h : ifF fa fb (fun e => some (.ok (.pl (.bool false)), e)) = some (res, env2)) (tb : TB res rb) : SndFW X W env (.BoolOp .And (l :: r :: rest) pos) rb env2 := by
  rcases ifF_some h with ⟨cn, us, h1, rfl⟩ | ⟨b, e1, h1, h2, h3⟩
  · cases tb
    exact fun _ _ _ _ _ fp g _ t hg re q => ⟨_, pw_and wT_ok wW_ok, ha _ _ _ h1 (.ex _ _) t hg re q⟩
  · exact fun _ _ _ _ _ fp g _ t hg re q => ⟨_, pw_and wT_ok wW_ok, ha _ _ _ h1 (.ok b) t hg re fun b1 B1 H1 f1 fp1 eb ag t1 ⟨r1, r2⟩ re1 => by
      subst r1
      subst r2
      cases b1 with
      | true => exact iteT (hb _ _ _ _ (h2 rfl) tb t1 (ag.has hg) re1 (q.nx eb ag))
      | false =>
        have := h3 rfl
        cases this
        cases tb
        exact iteF (q false B1 H1 [] fp1 eb ag t1 ⟨rfl, rfl⟩ re1)⟩
theorem sndfw_or {rest : List Expr} {res : Rx O} {rb : Rx Bool} {fa : Rf O} {fb : Env → Rf O} (ha : ∀ rs e rb, fa = some (rs, e) → TB rs rb → SndFT X W env l rb e) (hb : ∀ e1 rs e rb, fb e1 = some (rs, e) → TB rs rb → SndFW X W e1 (.BoolOp .Or (r :: rest) pos) rb e)
    (h : ifF fa (fun e => some (.ok (.pl (.bool true)), e)) fb = some (res, env2)) (tb : TB res rb) : SndFW X W env (.BoolOp .Or (l :: r :: rest) pos) rb env2 := by
  rcases ifF_some h with ⟨cn, us, h1, rfl⟩ | ⟨b, e1, h1, h2, h3⟩
  · cases tb
    exact fun _ _ _ _ _ fp g _ t hg re q => ⟨_, pw_or wT_ok wW_ok, ha _ _ _ h1 (.ex _ _) t hg re q⟩
  · exact fun _ _ _ _ _ fp g _ t hg re q => ⟨_, pw_or wT_ok wW_ok, ha _ _ _ h1 (.ok b) t hg re fun b1 B1 H1 f1 fp1 eb ag t1 ⟨r1, r2⟩ re1 => by
      subst r1
      subst r2
      cases b1 with
      | false => exact iteF (hb _ _ _ _ (h3 rfl) tb t1 (ag.has hg) re1 (q.nx eb ag))
      | true =>
        have := h2 rfl
        cases this
        cases tb
        exact iteT (q true B1 H1 [] fp1 eb ag t1 ⟨rfl, rfl⟩ re1)⟩
theorem sndf_ife {t0 : Expr} {res : Rx O} {ft : Rf O} {fa fb : Env → Rf O} (ht : ∀ rs e rb, ft = some (rs, e) → TB rs rb → SndFT X W env t0 rb e) (ha : ∀ e1 rs e, fa e1 = some (rs, e) → SndF X W e1 l rs e) (hb : ∀ e1 rs e, fb e1 = some (rs, e) → SndF X W e1 r rs e)
    (h : ifF ft fa fb = some (res, env2)) : SndF X W env (.IfExp t0 l r pos) res env2 := by
  rcases ifF_some h with ⟨cn, us, h1, rfl⟩ | ⟨b, e1, h1, h2, h3⟩
  · exact fun _ _ _ _ _ fp g _ t hg re q => ⟨_, pe_ifExp wT_ok wE_ok wE_ok, ht _ _ _ h1 (.ex _ _) t hg re q⟩
  · exact fun _ _ _ _ _ fp g _ t hg re q => ⟨_, pe_ifExp wT_ok wE_ok wE_ok, ht _ _ _ h1 (.ok b) t hg re fun b1 B1 H1 f1 fp1 eb ag t1 ⟨r1, r2⟩ re1 => by
      subst r1
      subst r2
      cases b1 with
      | true => exact iteT (ha _ _ _ (h2 rfl) t1 (ag.has hg) re1 (q.nx eb ag))
      | false => exact iteF (hb _ _ _ (h3 rfl) t1 (ag.has hg) re1 (q.nx eb ag))⟩
theorem sndft_ife {t0 : Expr} {res : Rx O} {rb : Rx Bool} {ft : Rf O} {fa fb : Env → Rf O} (ht : ∀ rs e rb, ft = some (rs, e) → TB rs rb → SndFT X W env t0 rb e) (ha : ∀ e1 rs e rb, fa e1 = some (rs, e) → TB rs rb → SndFT X W e1 l rb e) (hb : ∀ e1 rs e rb, fb e1 = some (rs, e) → TB rs rb → SndFT X W e1 r rb e)
    (h : ifF ft fa fb = some (res, env2)) (tb : TB res rb) : SndFT X W env (.IfExp t0 l r pos) rb env2 := by
  rcases ifF_some h with ⟨cn, us, h1, rfl⟩ | ⟨b, e1, h1, h2, h3⟩
  · cases tb
    exact fun _ _ _ _ _ fp g _ t hg re q => ⟨_, pt_ife wT_ok wT_ok wT_ok, ht _ _ _ h1 (.ex _ _) t hg re q⟩
  · exact fun _ _ _ _ _ fp g _ t hg re q => ⟨_, pt_ife wT_ok wT_ok wT_ok, ht _ _ _ h1 (.ok b) t hg re fun b1 B1 H1 f1 fp1 eb ag t1 ⟨r1, r2⟩ re1 => by
      subst r1
      subst r2
      cases b1 with
      | true => exact iteT (ha _ _ _ _ (h2 rfl) tb t1 (ag.has hg) re1 (q.nx eb ag))
      | false => exact iteF (hb _ _ _ _ (h3 rfl) tb t1 (ag.has hg) re1 (q.nx eb ag))⟩
theorem sndft_not {res : Rx O} {rb : Rx Bool} {fa : Rf O} (ha : ∀ rs e rb, fa = some (rs, e) → TB rs rb → SndFT X W env l rb e) (h : (bnd fa fun x e1 => okE e1 (notO x)) = some (res, env2)) (tb : TB res rb) : SndFT X W env (.UnaryOp .Not l pos) rb env2 := by
  rcases bnd_some h with ⟨cn, us, h1, rfl⟩ | ⟨x, e1, h1, h2⟩
  · cases tb
    exact fun _ _ _ _ _ fp g _ t hg re q => ⟨_, pt_not wT_ok, ha _ _ _ h1 (.ex _ _) t hg re q⟩
  · obtain ⟨o, h3, rfl, rfl⟩ := okE_some h2
    obtain ⟨b, rfl, rfl⟩ := notO_some h3
    cases tb
    exact fun _ _ _ _ _ fp g _ t hg re q => ⟨_, pt_not wT_ok, ha _ _ _ h1 (.ok b) t hg re fun b1 B1 H1 f1 fp1 eb ag t1 ⟨r1, r2⟩ re1 => by
      subst r1
      subst r2
      exact q _ B1 H1 [] fp1 eb ag t1 ⟨rfl, rfl⟩ re1⟩
theorem sndft_cmp (hu : X.A.units + 64 < cLine) {op : CmpOp} (hop : noIn op = true) (hs : setB r = true) {res : Rx O} {rb : Rx Bool} {fa : Rf O} {fb : Env → Rf O} (ha : ∀ rs e, fa = some (rs, e) → SndF X W env l rs e) (hb : ∀ e1 rs e, fb e1 = some (rs, e) → SndF X W e1 r rs e)
    (h : (bnd fa fun x e1 => bnd (fb e1) fun y e2 => okE e2 (cmpV op x y)) = some (res, env2)) (tb : TB res rb) : SndFT X W env (.Compare l [op] [r] pos) rb env2 := by
  rcases bnd_some h with ⟨cn, us, h1, rfl⟩ | ⟨x, e1, h1, h2⟩
  · cases tb
    exact fun _ _ _ _ _ fp g _ t hg re q => ⟨_, pt_cmpR wO_ok wE_ok wE_ok (behind_ok hs), ha _ _ h1 t hg re q⟩
  · rcases bnd_some h2 with ⟨cn, us, h3, rfl⟩ | ⟨y, e3, h3, h4⟩
    · cases tb
      exact fun _ _ _ _ _ fp g _ t hg re q => ⟨_, pt_cmpR wO_ok wE_ok wE_ok (behind_ok hs), ha _ _ h1 t hg re fun v1 B1 H1 f1 fp1 eb ag t1 r1 re1 => hb _ _ _ h3 (g := g ++ f1) (by rw [List.append_assoc]; exact t1) (mem_app (ag.has hg) r1.has) re1 (q.up eb ag)⟩
    · obtain ⟨o, h5, rfl, rfl⟩ := okE_some h4
      obtain ⟨b, h6, rfl⟩ := toB_some h5
      cases tb
      exact fun _ _ _ _ _ fp g _ t hg re q => ⟨_, pt_cmpR wO_ok wE_ok wE_ok (behind_ok hs), ha _ _ h1 t hg re fun v1 B1 H1 f1 fp1 eb ag t1 r1 re1 => hb _ _ _ h3 (g := g ++ f1) (by rw [List.append_assoc]; exact t1) (mem_app (ag.has hg) r1.has) re1
        fun v2 B2 H2 f2 fp2 eb2 ag2 t2 r2 re2 => cmp_okL hu t2.w.bh (r1.mono eb2 ag2.right) r2 h6 (noIn_ok hop y) ⟨b, rfl, q b B2 H2 [] fp2 (eb.trans eb2) (ag.trans ag2.left) (by
          have t3 := (t2.perm (perm_mid g f1 f2 fp2)).right
          exact (t3.perm (perm_ac g f2 fp2)).right) ⟨rfl, rfl⟩ re2⟩⟩
theorem sndf_cmp (hu : X.A.units + 64 < cLine) {op : CmpOp} (hop : noIn op = true) (hs : setB r = true) {res : Rx O} {fa : Rf O} {fb : Env → Rf O} (ha : ∀ rs e, fa = some (rs, e) → SndF X W env l rs e) (hb : ∀ e1 rs e, fb e1 = some (rs, e) → SndF X W e1 r rs e)
    (h : (bnd fa fun x e1 => bnd (fb e1) fun y e2 => okE e2 (cmpV op x y)) = some (res, env2)) : SndF X W env (.Compare l [op] [r] pos) res env2 :=
  sndf_two (R := wO X (compareOp op)) (fun _ _ _ z => ⟨_, pe_cmpR wO_ok wE_ok wE_ok (behind_ok hs), z⟩) (fun {x y o} ho {B H v1 v2 f1 f2 Q} e r1 r2 q => by
    obtain ⟨b, h6, rfl⟩ := toB_some ho
    exact cmp_okL hu e r1 r2 h6 (noIn_ok hop y) (q.pl e .bl)) ha hb h
theorem sndf_bin {op : Operator} {res : Rx O} {fa : Rf O} {fb : Env → Rf O} (ha : ∀ rs e, fa = some (rs, e) → SndF X W env l rs e) (hb : ∀ e1 rs e, fb e1 = some (rs, e) → SndF X W e1 r rs e)
    (h : (bnd fa fun x e1 => bnd (fb e1) fun y e2 => okE e2 (binO op x y)) = some (res, env2)) : SndF X W env (.BinOp l op r pos) res env2 :=
  sndf_two (R := wO X (binaryOp op)) (fun _ _ _ z => ⟨_, pe_op wO_ok wE_ok wE_ok, z⟩) (fun {x y o} ho {B H v1 v2 f1 f2 Q} e r1 r2 q => bin_ok e r1 r2 ho q) ha hb h
theorem sndf_not {res : Rx O} {fa : Rf O} (ha : ∀ rs e, fa = some (rs, e) → SndF X W env l rs e) (h : (bnd fa fun x e1 => okE e1 (notO x)) = some (res, env2)) : SndF X W env (.UnaryOp .Not l pos) res env2 :=
  sndf_one (R := fun v H Q => ∃ b, v = .bl b ∧ Q (.bl (!b)) H) (fun _ _ _ z => ⟨_, pe_not wE_ok, z⟩) (fun {x o} ho {B H v1 f1 Q} e r1 q => by
    obtain ⟨b, rfl, rfl⟩ := notO_some ho
    exact ⟨b, r1.b, q.pl e .bl⟩) ha h
theorem sndf_idx (hu : X.A.units + 64 < cLine) (hp : ∀ a b, subscripted r false a b = operate [a, b] (getItem a b)) {res : Rx O} {fa : Rf O} {fb : Env → Rf O} (ha : ∀ rs e, fa = some (rs, e) → SndF X W env l rs e) (hb : ∀ e1 rs e, fb e1 = some (rs, e) → SndF X W e1 r rs e)
    (h : (bnd fa fun x e1 => bnd (fb e1) fun y e2 => okE e2 (idxO x y)) = some (res, env2)) : SndF X W env (.Subscript l r pos) res env2 := by
  have hu1 : X.A.units + 1 < cLine := by omega
  rcases bnd_some h with ⟨cn, us, h1, rfl⟩ | ⟨x, e1, h1, h2⟩
  · exact fun _ _ _ _ _ fp g _ t hg re q => ⟨_, pe_ix wX_ok wE_ok wE_ok hp, ha _ _ h1 t hg re q⟩
  · rcases bnd_some h2 with ⟨cn, us, h3, rfl⟩ | ⟨y, e3, h3, h4⟩
    · exact fun _ _ _ _ _ fp g _ t hg re q => ⟨_, pe_ix wX_ok wE_ok wE_ok hp, ha _ _ h1 t hg re fun v1 B1 H1 f1 fp1 eb ag t1 r1 re1 => hb _ _ _ h3 (g := g ++ f1) (by rw [List.append_assoc]; exact t1) (mem_app (ag.has hg) r1.has) re1 (q.up eb ag)⟩
    · obtain ⟨o, h5, rfl, rfl⟩ := okE_some h4
      have fin : ∀ {B0 H0 B H : Hp} {σ : L2.St} {g : List Addr} {Q : VK} {B1 H1 : Hp} {f1 : List Addr} {B2 H2 : Hp} {f2 fp2 : List Addr}, (∀ a ∈ g, H a ≠ none) → CF (RO X.K) X.K W B0 H0 g B H σ env2 Q (.ok o) → Ext B B1 → Agr g H H1 → Ext B1 B2 → Agr (g ++ f1) H1 H2 → Sit B0 H0 B2 H2 ((g ++ f1) ++ (f2 ++ fp2)) → REnv X.K B2 H2 σ env2 fp2 → Gv X.K B2 H2 o Q := fun {_ _ _ _ _ g _ _ _ f1 _ _ f2 fp2} hg q eb ag eb2 ag2 t2 re2 => gv_of q (eb.trans eb2) (ag.trans ag2.left) (by
          have t3 := (t2.perm (perm_mid g f1 f2 fp2)).right
          exact (t3.perm (perm_ac g f2 fp2)).right) hg re2
      cases hd : (ditems x).isSome with
      | false => exact fun _ _ _ _ _ fp g _ t hg re q => ⟨_, pe_ix wX_ok wE_ok wE_ok hp, ha _ _ h1 t hg re fun v1 B1 H1 f1 fp1 eb ag t1 r1 re1 => hb _ _ _ h3 (g := g ++ f1) (by rw [List.append_assoc]; exact t1) (mem_app (ag.has hg) r1.has) re1
        fun v2 B2 H2 f2 fp2 eb2 ag2 t2 r2 re2 => idx_okL t2.w.bh (r1.mono eb2 ag2.right) r2 hd h5 (fin hg q eb ag eb2 ag2 t2 re2)⟩
      | true => exact fun _ _ _ _ _ fp g _ t hg re q => ⟨_, pe_dget hu1 wE_ok wE_ok hp, ha _ _ h1 t hg re fun v1 B1 H1 f1 fp1 eb ag t1 r1 re1 => hb _ _ _ h3 (g := g ++ f1) (by rw [List.append_assoc]; exact t1) (mem_app (ag.has hg) r1.has) re1
        fun v2 B2 H2 f2 fp2 eb2 ag2 t2 r2 re2 => idx_okD t2.w.bh (r1.mono eb2 ag2.right) r2 hd h5 (fin hg q eb ag eb2 ag2 t2 re2)⟩
theorem ROs.all_has {B H : Hp} {vs : List V} {os : List O} {f : List Addr} (r : ROs K B H vs os f) : ∀ a ∈ f, H a ≠ none := r.has
/-- a built-in called -/
theorem pe_bi (hx : XOk T c N sc so k X) {b : BI} {x : Str} {p : Pos} {e : Expr} {es : List Expr} (h : gnB sc (some (biN b)) x = true) (hn : (e :: es).all nst = true) : PE X (.Call (.Name x p) (e :: es) [] pos) (tCB (wC X (biV b)) (wA X (e :: es))) := by
  have hg := gl_ok hx h
  obtain ⟨h1, h2, h3⟩ := gn_ok h
  cases h1
  rw [List.all_cons, Bool.and_eq_true] at hn
  have hv := bi_boot b
  cases b
  case len => exact pe_callB wC_ok hg (hx.blt .len) hv wA_ok (bi_name .len) h3 (star_cons hn.1) (star_any hn.2)
  case abs => exact pe_callB wC_ok hg (hx.blt .abs) hv wA_ok (bi_name .abs) h3 (star_cons hn.1) (star_any hn.2)
  case int => exact pe_callTy wC_ok hg (hx.blt .int) hv wA_ok (bi_name .int) h3 (star_cons hn.1) (star_any hn.2)
  case str => exact pe_callTy wC_ok hg (hx.blt .str) hv wA_ok (bi_name .str) h3 (star_cons hn.1) (star_any hn.2)
  case list => exact pe_callTy wC_ok hg (hx.blt .list) hv wA_ok (bi_name .list) h3 (star_cons hn.1) (star_any hn.2)
  case tuple => exact pe_callTy wC_ok hg (hx.blt .tuple) hv wA_ok (bi_name .tuple) h3 (star_cons hn.1) (star_any hn.2)
  case max => exact pe_callB wC_ok hg (hx.blt .max) hv wA_ok (bi_name .max) h3 (star_cons hn.1) (star_any hn.2)
  case min => exact pe_callB wC_ok hg (hx.blt .min) hv wA_ok (bi_name .min) h3 (star_cons hn.1) (star_any hn.2)
  case sum => exact pe_callB wC_ok hg (hx.blt .sum) hv wA_ok (bi_name .sum) h3 (star_cons hn.1) (star_any hn.2)
  case all => exact pe_callB wC_ok hg (hx.blt .all) hv wA_ok (bi_name .all) h3 (star_cons hn.1) (star_any hn.2)
  case any => exact pe_callB wC_ok hg (hx.blt .any) hv wA_ok (bi_name .any) h3 (star_cons hn.1) (star_any hn.2)
  case sorted => exact pe_callB wC_ok hg (hx.blt .sorted) hv wA_ok (bi_name .sorted) h3 (star_cons hn.1) (star_any hn.2)
  case dict => exact pe_callTy wC_ok hg (hx.blt .dict) hv wA_ok (bi_name .dict) h3 (star_cons hn.1) (star_any hn.2)
theorem sndf_bi (hx : XOk T c N sc so k X) {b : BI} {x : Str} {p : Pos} {e : Expr} {es : List Expr} {res : Rx O} {fa : Rf (List O)} (h : gnB sc (some (biN b)) x = true) (hn : (e :: es).all nst = true) (ha : ∀ rs e1, fa = some (rs, e1) → SndFs X W env (e :: es) rs e1)
    (hr : (bnd fa fun os e1 => okE e1 (biO b os)) = some (res, env2)) : SndF X W env (.Call (.Name x p) (e :: es) [] pos) res env2 := by
  have P := pe_bi (p := p) (pos := pos) hx h hn
  rcases bnd_some hr with ⟨cn, us, h1, rfl⟩ | ⟨os, e1, h1, h2⟩
  · exact fun _ _ _ _ _ fp g _ t hg re q => ⟨_, P, ha _ _ h1 t hg re q⟩
  · obtain ⟨o, h3, rfl, rfl⟩ := okE_some h2
    exact fun _ _ _ _ _ fp g _ t hg re q => ⟨_, P, ha _ _ h1 t hg re fun vs B1 H1 f1 fp1 eb ag t1 r1 re1 => bi_ok hx.calm t1.w.bh r1 h3 (gv_of q eb ag ((t1.perm (perm_ac g f1 fp1)).right) hg re1)⟩
/-! xs.pop() at a place -/
theorem Sit.updAt {a : Addr} {u : HO} {fy fr : List Addr} (t : Sit B0 H0 B H (g ++ fp)) (p : fp.Perm (fy ++ fr)) (ha : a ∈ fy) : Sit B0 H0 B (L2.upd H a u) (g ++ fp) ∧ Agr fr H (L2.upd H a u) ∧ Agr g H (L2.upd H a u) := by
  have hm : a ∈ fp := p.mem_iff.mpr (by simp [ha])
  have nd := t.w.nd
  refine ⟨t.upd (by simp [hm]), fun x hx v hv => ?_, fun x hx v hv => ?_⟩
  · rw [upd_ne]
    · exact hv
    · intro e
      subst e
      have := p.nodup_iff.mp (List.nodup_append.mp nd).2.1
      exact (List.nodup_append.mp this).2.2 x ha x hx rfl
  · rw [upd_ne]
    · exact hv
    · intro e
      subst e
      exact (List.nodup_append.mp nd).2.2 x hx x hm rfl
/-- the last of a list's things, taken out -/
theorem ROs.pop {vs : List V} {os : List O} {f : List Addr} {y : O} (r : ROs K B H vs os f) (h : os[os.length - 1]? = some y) : ∃ w fy fr, vs[vs.length - 1]? = some w ∧ f.Perm (fy ++ fr) ∧ RO K B H w y fy ∧ ROs K B H vs.dropLast os.dropLast fr := by
  induction os generalizing vs f with
  | nil => simp at h
  | cons o' os ih =>
    cases r with
    | @cons v vs' _ _ f1 f2 r rs =>
      cases os with
      | nil =>
        have h : some o' = some y := by simpa using h
        cases h
        cases rs
        exact ⟨v, f1, [], rfl, .refl _, r, .nil⟩
      | cons o2 os =>
        have h' : (o2 :: os)[(o2 :: os).length - 1]? = some y := by simpa using h
        obtain ⟨w, fy, fr, h1, h2, h3, h4⟩ := ih rs h'
        cases rs with
        | @cons v2 vs2 _ _ _ _ r2 rs2 =>
          refine ⟨w, fy, f1 ++ fr, ?_, ?_, h3, .cons r h4⟩
          · simpa using h1
          · exact (List.Perm.append_left f1 h2).trans (perm_ac f1 fy fr)
theorem sndf_pop (hx : XOk T c N sc so k X) {i : Nat} {q0 : List Pt} {es : Exs} {args : List Expr} {v : Expr} {ap cp : Pos} {o u z : O} {os : List O} (hb : baseB v = true) (hl : (ap.endLine == cp.line) = true) (hc : chks T N sc es args = true)
    (hv : SndPl X env v i q0) (h1 : plcG env i (some q0) = some o) (h2 : evRs c env es = some os) (h3 : popO2 o os = some (u, z)) (h4 : plcS env i z (some q0) = some env2) : SndF X W env (.Call (.Attribute v "pop" ap) args [] cp) (.ok u) env2 := by
  have none_args : ∀ {es : Exs} {args : List Expr}, chks T N sc es args = true → evRs c env es = some [] → args = [] := by
    intro es args hc h
    cases es with
    | nil => exact chks_nil hc
    | cons e es =>
      rw [evRs] at h
      obtain ⟨_, _, _, _, h⟩ := consA_some h
      cases h
  cases o with
  | lst xs =>
    cases os with
    | cons => cases h3
    | nil =>
      have e4 : popRo xs xs.dropLast (xs[xs.length - 1]?) = some (u, z) := h3
      cases e5 : xs[xs.length - 1]? with
      | none => rw [e5] at e4; cases e4
      | some pv =>
        rw [e5] at e4
        cases e4
        have ha := none_args hc h2
        subst ha
        exact fun _ _ _ _ _ fp g _ t hg re q => ⟨_, pe_bm0 PySem.F.plainAttrs_list PySem.F.slot_list_pop PySem.F.type_list_pop mt_pop wE_ok (base_ok hb) hl, hv.at t hg re fun w B1 H1 b1 b2 t1 re1 hrc => by
          obtain ⟨w', fy, fr, p1, r1, rch, put⟩ := re1.foc h1
          have e := hrc.fn (rch H1 (by first | assumption | exact Wld.bh (by assumption) | exact Stp.bh (by assumption) | exact (Sit.w (by assumption)).bh) .refl)
          subst e
          cases r1 with
          | @lst a vs _ ff k1 k2 =>
            refine ⟨.inl ⟨rfl, vs, .inl (.of k1)⟩, ?_⟩
            obtain ⟨y, fe, fr1, m1, m2, m3, m4⟩ := k2.pop e5
            obtain ⟨t2, a2, a3⟩ := t1.updAt (u := .lst vs.dropLast) p1 (a := a) (by simp)
            have nd : (a :: ff).Nodup := (List.nodup_append.mp (p1.nodup_iff.mp (List.nodup_append.mp t1.w.nd).2.1)).1
            have na : a ∉ ff := (List.nodup_cons.mp nd).1
            have ag : Agr ff H1 (upd H1 a (.lst vs.dropLast)) := fun x hx v hv => by
              rw [upd_ne (fun e => na (by rw [← e]; exact hx))]
              exact hv
            have ro : RO X.K B1 (upd H1 a (.lst vs.dropLast)) (.ref a) (.lst xs.dropLast) (a :: fr1) := .lst upd_same (m4.mono (.refl _) (ag.sub fun x hx => m2.mem_iff.mpr (by simp [hx])))
            obtain ⟨fp', p2, re2⟩ := put B1 _ _ _ env2 (.refl _) a2 ro h4
            refine ⟨a, vs, y, rfl, rfl, k1, m1, q y B1 _ fe fp' b1 ((Agr.ext b2).trans a3) (t2.perm (List.Perm.append_left g ?_)) (m3.mono (.refl _) (ag.sub fun x hx => m2.mem_iff.mpr (by simp [hx]))) re2⟩
            have c1 : fp.Perm ((a :: (fe ++ fr1)) ++ fr) := p1.trans (List.Perm.append_right fr (m2.cons a))
            have c2 : ((a :: (fe ++ fr1)) ++ fr).Perm (fe ++ ((a :: fr1) ++ fr)) := by
              show (([a] ++ (fe ++ fr1)) ++ fr).Perm (fe ++ (([a] ++ fr1) ++ fr))
              rw [List.append_assoc, List.append_assoc, List.append_assoc]
              exact perm_ac [a] fe (fr1 ++ fr)
            exact c1.trans (c2.trans (List.Perm.append_left fe p2.symm))⟩
  | fl xs =>
    cases os with
    | nil =>
      have e4 : popR xs xs.dropLast (xs[xs.length - 1]?) = some (u, z) := h3
      cases e5 : xs[xs.length - 1]? with
      | none => rw [e5] at e4; cases e4
      | some pv =>
        rw [e5] at e4
        cases e4
        have ha := none_args hc h2
        subst ha
        exact fun _ _ _ _ _ fp g _ t hg re q => ⟨_, pe_bm0 PySem.F.plainAttrs_list PySem.F.slot_list_pop PySem.F.type_list_pop mt_pop wE_ok (base_ok hb) hl, hv.at t hg re fun w B1 H1 b1 b2 t1 re1 hrc => by
          obtain ⟨w', fy, fr, p1, r1, rch, put⟩ := re1.foc h1
          have e := hrc.fn (rch H1 (by first | assumption | exact Wld.bh (by assumption) | exact Stp.bh (by assumption) | exact (Sit.w (by assumption)).bh) .refl)
          subst e
          cases r1 with
          | @fl a vs _ k1 k2 =>
            refine ⟨.inl ⟨rfl, vs, .inl (.of k1)⟩, ?_⟩
            obtain ⟨y, y1, y2⟩ := k2.getE e5
            obtain ⟨t2, a2, a3⟩ := t1.updAt (u := .lst vs.dropLast) p1 (a := a) (by simp)
            have ro : RO X.K B1 (upd H1 a (.lst vs.dropLast)) (.ref a) (.fl xs.dropLast) [a] := .fl upd_same (by
              rw [List.dropLast_eq_take, List.dropLast_eq_take, k2.len]
              exact k2.take _)
            obtain ⟨fp', p2, re2⟩ := put B1 _ _ _ env2 (.refl _) a2 ro h4
            exact ⟨a, vs, y, rfl, rfl, k1, by rw [k2.len]; exact y1, q y B1 _ [] fp' b1 ((Agr.ext b2).trans a3) (t2.perm (List.Perm.append_left g (p1.trans p2.symm))) (.pl y2) re2⟩⟩
    | cons o1 os =>
      cases os with
      | cons _ _ =>
        exfalso
        cases o1 with
        | pl p1 => cases p1 <;> cases h3
        | _ => cases h3
      | nil =>
        cases o1 with
        | pl p1 =>
          cases p1 with
          | int j =>
            have e40 : (if okI j then popN xs (ixN xs.length j) else none) = some (u, z) := h3
            have e4' : okI j ∧ popN xs (ixN xs.length j) = some (u, z) := by
              by_cases hj : okI j
              · rw [if_pos hj] at e40; exact ⟨hj, e40⟩
              · rw [if_neg hj] at e40; cases e40
            obtain ⟨hj, e4⟩ := e4'
            cases e6 : ixN xs.length j with
            | none => rw [e6] at e4; cases e4
            | some n =>
              rw [e6] at e4
              have e5 : popR xs (xs.eraseIdx n) (xs[n]?) = some (u, z) := e4
              cases e7 : xs[n]? with
              | none => rw [e7] at e5; cases e5
              | some pv =>
                rw [e7] at e5
                cases e5
                have ha : ∃ x1 e, args = [x1] ∧ chk T N sc e x1 = true ∧ evR c env e = some (.pl (.int j)) := by
                  cases es with
                  | nil => rw [evRs] at h2; cases h2
                  | cons e es =>
                    obtain ⟨y, ys, rfl, h1, h5⟩ := chks_cons hc
                    rw [evRs] at h2
                    obtain ⟨a1, as1, f1, f2, f3⟩ := consA_some h2
                    cases f3
                    cases es with
                    | nil => cases chks_nil h5; exact ⟨y, e, rfl, h1, f1⟩
                    | cons e' es' =>
                      rw [evRs] at f2
                      obtain ⟨_, _, _, _, h⟩ := consA_some f2
                      cases h
                obtain ⟨x1, e, rfl, k1, k2⟩ := ha
                have hn1 := chk_nst k1
                exact fun _ _ _ _ _ fp g _ t hg re q => ⟨_, pe_bm PySem.F.plainAttrs_list PySem.F.slot_list_pop PySem.F.type_list_pop mt_popAt wE_ok wA_ok (base_ok hb) (by rw [star_cons hn1]; rfl) hl (star_cons hn1), hv.at t hg re fun w B1 H1 b1 b2 t1 re1 hrc => by
                  obtain ⟨w', fy, fr, p1, r1, rch, put⟩ := re1.foc h1
                  have e := hrc.fn (rch H1 (by first | assumption | exact Wld.bh (by assumption) | exact Stp.bh (by assumption) | exact (Sit.w (by assumption)).bh) .refl)
                  subst e
                  cases r1 with
                  | @fl a vs _ m1 m2 =>
                    refine ⟨.inl ⟨rfl, vs, .inl (.of m1)⟩, wA_one hn1 ((gE _).r hx k1 k2 t1.w.right re1 fun vi B2 H2 f s ro _ => ?_)⟩
                    have ei := ro.i
                    subst ei
                    have hg1 : ∀ a ∈ g, H1 a ≠ none := fun a h z => hg a h (b2.none z)
                    have t2 := t1.stp s (mem_app hg1 re1.has)
                    obtain ⟨w2, fy2, fr2, p2, r2, rch2, put2⟩ := (re1.stp s).foc h1
                    have e := (hrc.ext s.h).fn (rch2 H2 (by first | assumption | exact Wld.bh (by assumption) | exact Stp.bh (by assumption) | exact (Sit.w (by assumption)).bh) .refl)
                    subst e
                    cases r2 with
                    | @fl _ vs2 _ m3 m4 =>
                      obtain ⟨y, y1, y2⟩ := m4.getE e7
                      obtain ⟨t3, a2, a3⟩ := t2.updAt (u := .lst (vs2.eraseIdx n)) p2 (a := a) (by simp)
                      have ro : RO X.K B2 (upd H2 a (.lst (vs2.eraseIdx n))) (.ref a) (.fl (xs.eraseIdx n)) [a] := .fl upd_same (m4.erase n)
                      obtain ⟨fp', p3, re3⟩ := put2 B2 _ _ _ env2 (.refl _) a2 ro h4
                      obtain ⟨q1, q2, q3, q4⟩ := ixN_seq e6
                      exact ⟨a, vs2, j, n, y, rfl, rfl, m3, by have := hj.1; omega, by have := hj.2; omega, by rw [m4.len]; exact q1, y1, q y B2 _ [] fp' (b1.trans s.b) ((Agr.ext b2).trans ((Agr.ext s.h).trans a3)) (t3.perm (List.Perm.append_left g (p2.trans p3.symm))) (.pl y2) re3⟩⟩
          | _ => cases h3
        | _ => cases h3
  | _ => exfalso; cases os <;> cases h3
end
end G

set_option maxRecDepth 100000
/-! dicts: displays, taken over; a list stretched by one that is read -/
namespace G
open PySem L2
section
variable {K : PySem.W.Frag} {B : Hp}
theorem mrgS_ok : ∀ {ks : List Str} {vs : List V} {ps : List P} {us : List (Key × V)} {kvs : List (P × P)}, ks.length = ps.length → RPs K B vs ps → RPd K B us kvs → RPd K B (mergeK us ((ks.zip vs).map fun e => ((.inr e.1 : Key), e.2))) (mrgS kvs (ks.zip ps))
  | [], vs, ps, us, kvs, _, _, r => by
    rw [List.zip_nil_left, List.zip_nil_left, mrgS]
    exact r
  | s :: ks, vs, ps, us, kvs, hl, rp, r => by
    cases rp with
    | nil => simp at hl
    | @cons v vs p ps h1 h2 =>
      rw [List.zip_cons_cons, List.zip_cons_cons, mrgS, List.map_cons]
      exact mrgS_ok (by simpa using hl) h2 (r.put (k := .inr s) (q := .str s) rfl h1)
theorem mrgD_ok : ∀ {ls : List (P × P)} {ws us : List (Key × V)} {kvs z : List (P × P)}, RPd K B ws ls → RPd K B us kvs → mrgD kvs ls = some z → RPd K B (mergeK us ws) z
  | [], ws, us, kvs, z, t, r, h => by
    cases t
    cases h
    exact r
  | (q, p) :: ls, ws, us, kvs, z, t, r, h => by
    cases t with
    | @cons k v ws' _ _ _ hk hv t =>
      rw [mrgD] at h
      split at h
      · rename_i k2 hk2
        simp only at hk2
        rw [hk] at hk2
        cases hk2
        have h : mrgD (putP k q p kvs) ls = some z := h
        show RPd K B (mergeK (putK us k v) ws') z
        exact mrgD_ok (ls := ls) t (r.put hk hv) h
      · cases h
end
/-- d.update(e), two dicts -/
def rDUpd : V → List V → Hp → VK → Prop := fun x xs H Q => ∃ (a b : Addr) (ks ls : List (Key × V)), x = .ref a ∧ xs = [.ref b] ∧ a ≠ b ∧ H a = some (.dK ks) ∧ Rd H b (.dK ls) ∧ ks.length + ls.length ≤ sizeLine ∧ Q .non (upd H a (.dK (mergeK ks ls)))
theorem mtd_update {X : Cx} : MtR X "dict.update" rDUpd := by
  intro pins s σ H x xs v us Q I rx rv h
  obtain ⟨a, b, ks, ls, rfl, rfl, hab, e, e2, hsz, q⟩ := h
  obtain rfl : v = Value.ref a := rx
  obtain ⟨u, rfl, ru⟩ := rv.one
  obtain rfl : u = Value.ref b := ru
  obtain ⟨z, hd, vs, rel, dd⟩ := dk_of I.hok e
  obtain ⟨z2, hd2, vs2, rel2, dd2⟩ := dk_rd I.hok e2
  have hz : (mergeK ks ls).length ≤ sizeLine := Nat.le_trans (length_mergeK ls ks) hsz
  refine call_meetsIn PySem.F.slot_dict_update dd.typeIs PySem.F.entry_dict_update (PySem.F.args_dict_update_2 _ _) (meets_dict_update (mixKind X.prog X.w) a b hab hd2) ⟨vs, vs2, dd, dd2, by rw [← rel.length, ← rel2.length]; exact hsz, fun h' dd' _ hs => ?_⟩
  have he : ∃ q, h'.get? a = some q := let ⟨q, _, _, hq, _⟩ := dd'; ⟨q, hq⟩
  exact ⟨.non, _, d_write (t' := s.toks) I (by rw [e]; exact True.intro) hs he (dk_new hz hd (rel2.merge rel) dd'), rfl, q⟩
/-- l.extend(e), e a list that is read -/
def rExtR (K : PySem.W.Frag) : V → List V → Hp → VK → Prop := fun x vs H Q => ∃ l b xs zs, x = .ref l ∧ vs = [.ref b] ∧ H l = some (.lst xs) ∧ SL K H b zs ∧ xs.length + zs.length ≤ sizeLine ∧ Q .non (upd H l (.lst (xs ++ zs)))
theorem mt_extendR {X : Cx} : MtR X "list.extend" (rExtR X.K) := by
  intro pins s σ H x vs v us Q I rx rv h
  obtain ⟨l, b, xs, zs, rfl, rfl, hH, hB, hz, q⟩ := h
  cases rx
  obtain ⟨u, rfl, ru⟩ := rv.one
  cases ru
  obtain ⟨z, its, n, r, hl, e⟩ := I.lstM hH
  obtain ⟨its2, n2, r2, e2⟩ := hB.at I
  have hl2 := r2.length
  have hsz : its.toArray.size + its2.toArray.size ≤ sizeLine := by rw [List.size_toArray, List.size_toArray]; omega
  have hlong : ¬ (!its.toArray.isEmpty && Builtin.List.listTooLong (its.toArray.size + its2.toArray.size)) = true := by
    rw [notLongL hsz, Bool.and_false]
    exact Bool.false_ne_true
  refine call_meets PySem.F.slot_list_extend ⟨_, e, rfl⟩ PySem.F.entry_list_extend (PySem.F.args_list_extend_2 _ _)
    (AutoSeq1.list_extend_list_list_0 l its.toArray n b its2.toArray n2 hlong (by rw [List.size_toArray]; omega) (by omega)) ⟨e, e2, ?_⟩
  refine ⟨.non, _, I.lset (its' := its ++ its2) hH e (by simp) (r.append r2) ?_, rfl, q⟩
  rw [List.length_append]
  omega
/-! ### displays whose worths may change slots -/
def kyL (ks : List Str) (vs : List V) : List (V × V) := (ks.zip vs).map fun e => (V.str e.1, e.2)
def trL (X : Cx) (kes : List (Expr × Expr)) : List (TE × TE) := kes.map fun e => (wE X e.1, wE X e.2)
def SndFd (X : Cx) (W : WX) (env : Env) (kes : List (Expr × Expr)) (ks : List Str) (r : Rx (List O)) (env1 : Env) : Prop := ∀ ⦃B0 H0 B H : Hp⦄ ⦃σ : L2.St⦄ ⦃fp g : List Addr⦄ ⦃Q : List (V × V) → Hp → Prop⦄, Sit B0 H0 B H (g ++ fp) → (∀ a ∈ g, H a ≠ none) → REnv X.K B H σ env fp →
  CF (ROs X.K) X.K W B0 H0 g B H σ env1 (fun vs H' => Q (kyL ks vs) H') r → tPairs (trL X kes) σ H Q
section
variable {X : Cx} {W : WX} {env env1 env2 : Env} {B0 H0 B H : Hp} {σ : L2.St} {fp g : List Addr}
theorem CF.frm {α β : Type} {Rel : Hp → Hp → β → α → List Addr → Prop} {K : PySem.W.Frag} {Q : β → Hp → Prop} {r : Rx α} {B1 H1 : Hp} (q : CF Rel K W B0 H0 g B H σ env1 Q r) (e : Ext B B1) (a : Agr g H H1) : CF Rel K W B0 H0 g B1 H1 σ env1 Q r := by
  cases r with
  | ok x => exact fun v B' H' f fp' e2 a2 t rx re => q v B' H' f fp' (e.trans e2) (a.trans a2) t rx re
  | ex c us => exact fun cls d B' H' f fp' e2 a2 t rx re => q cls d B' H' f fp' (e.trans e2) (a.trans a2) t rx re
theorem sndfd_nil : SndFd X W env [] [] (.ok []) env := fun _ _ _ _ _ fp g _ t hg re q => q [] _ _ [] fp (.refl _) .refl t .nil re
theorem sndfd_cons {kx l : Expr} {s : Str} {kes : List (Expr × Expr)} {ks : List Str} {res : Rx (List O)} {fa : Rf O} {fb : Env → Rf (List O)} (hk : Snd X env kx (.pl (.str s))) (ha : ∀ r e, fa = some (r, e) → SndF X W env l r e) (hb : ∀ e1 r' e, fb e1 = some (r', e) → SndFd X W e1 kes ks r' e)
    (h : (bnd fa fun o e1 => bnd (fb e1) fun os e2 => some (.ok (o :: os), e2)) = some (res, env2)) : SndFd X W env ((kx, l) :: kes) (s :: ks) res env2 := fun _ _ _ _ _ fp g _ t hg re q => by
  refine (hk t.w.right re fun v B1 H1 f1 s1 r1 n1 => ?_ : wE X kx _ _ _)
  have hv : v = V.str s := r1.s
  subst hv
  have t1 := t.stp s1 (mem_app hg re.has)
  have re1 := re.stp s1
  have hg1 : ∀ a ∈ g, H1 a ≠ none := fun a h z => hg a h (s1.h.none z)
  have q := q.frm s1.b (.ext s1.h)
  rcases bnd_some h with ⟨c, us, h1, rfl⟩ | ⟨x, e1, h1, h2⟩
  · exact ha _ _ h1 t1 hg1 re1 q
  · rcases bnd_some h2 with ⟨c, us, h3, rfl⟩ | ⟨y, e3, h3, h4⟩
    · exact ha _ _ h1 t1 hg1 re1 fun v1 B2 H2 f2 fp1 eb ag t2 r2 re2 => hb _ _ _ h3 (g := g ++ f2) (by rw [List.append_assoc]; exact t2) (mem_app (ag.has hg1) r2.has) re2 (q.up eb ag)
    · cases h4
      exact ha _ _ h1 t1 hg1 re1 fun v1 B2 H2 f2 fp1 eb ag t2 r2 re2 => hb _ _ _ h3 (g := g ++ f2) (by rw [List.append_assoc]; exact t2) (mem_app (ag.has hg1) r2.has) re2
        fun v2 B3 H3 f3 fp2 eb2 ag2 t3 r3 re3 => q _ _ _ (f2 ++ f3) fp2 (eb.trans eb2) (ag.trans ag2.left) (by rw [List.append_assoc] at t3; rw [List.append_assoc]; exact t3) (.cons (r2.mono eb2 ag2.right) r3) re3
theorem pps_all {pos : Pos} : ∀ kes : List (Expr × Expr), PPs X pos (kes.map fun e => some e.1) (kes.map (·.2)) (trL X kes)
  | [] => pps_nil
  | _ :: kes => pps_cons wE_ok wE_ok (pps_all kes)
theorem sndf_dct {kes : List (Expr × Expr)} {ks : List Str} {pos : Pos} {res : Rx O} {fa : Rf (List O)} (hl : kes.length = ks.length) (hk1 : 1 ≤ ks.length) (hk2 : ks.length ≤ 15) (ha : ∀ r e, fa = some (r, e) → SndFd X W env kes ks r e)
    (h : (bnd fa fun os e => okE e (dctO ks os)) = some (res, env2)) : SndF X W env (.Dict (kes.map fun e => some e.1) (kes.map (·.2)) pos) res env2 := fun B0 H0 B H σ fp g Q t hg re q => by
  have P := pe_disp (pps_all (X := X) (pos := pos) kes) (by
    rw [List.all_map, List.all_eq_true]
    exact fun _ _ => rfl) (by rw [List.length_map, List.length_map]) (fun z => by
    have := congrArg List.length z
    rw [List.length_map, List.length_nil] at this
    omega) (by rw [List.length_map]; omega)
  refine ⟨_, P, fun p hp => ?_⟩
  rcases bnd_some h with ⟨c, us, h1, rfl⟩ | ⟨os, e1, h1, h2⟩
  · have s2 := Stp.lay (o := .dK []) t.s.bh hp
    have t2 := t.stp s2 (mem_app hg re.has)
    exact ha _ _ h1 t2 (fun a h z => hg a h (s2.h.none z)) (re.stp s2) (q.frm s2.b (.ext s2.h))
  · obtain ⟨o, h3, rfl, rfl⟩ := okE_some h2
    unfold dctO at h3
    rw [if_pos ⟨hk1, hk2⟩] at h3
    cases z : fzs os with
    | none => rw [z] at h3; cases h3
    | some ps =>
      rw [z] at h3
      have h3 : (if ks.length = ps.length then some (O.fd (mrgS [] (ks.zip ps))) else none) = some o := h3
      split at h3
      case isFalse => cases h3
      rename_i hlen
      cases h3
      have s2 := Stp.lay (o := .dK []) t.s.bh hp
      obtain ⟨_, t2⟩ := lay_own (f1 := []) (u := .dK []) t hp (mem_app hg re.has)
      have t2 : Sit B0 H0 B (upd H p (.dK [])) ((g ++ [p]) ++ fp) := by
        rw [List.append_assoc]
        exact t2
      have hg2 : ∀ a ∈ g ++ [p], upd H p (.dK []) a ≠ none := mem_app (fun a h z => hg a h (s2.h.none z)) (fun a h => by
        rw [List.mem_singleton.mp h, upd_same]
        exact fun z => by cases z)
      refine ha _ _ h1 t2 hg2 (re.stp s2) fun vs B1 H1 f1 fp1 eb ag t3 r3 re3 => ?_
      have hp1 : H1 p = some (.dK []) := ag p (by simp) _ upd_same
      refine ⟨hp1, (ks.zip vs).map fun e => ((.inr e.1 : Key), e.2), ?_, ?_, ?_⟩
      · unfold kyL
        rw [List.map_map]
        rfl
      · rw [List.length_map, List.length_zip]
        omega
      · obtain ⟨B2, e2, t4, rp⟩ := (t3.perm (perm_ac (g ++ [p]) f1 fp1)).share r3 z
        have rd := mrgS_ok (us := []) hlen rp .nil
        have t5 : Sit B0 H0 B2 H1 (g ++ ([p] ++ fp1)) := by
          rw [← List.append_assoc]
          exact t4
        obtain ⟨t6, a1, a2⟩ := t5.updAt (a := p) (u := .dK (mergeK [] ((ks.zip vs).map fun e => ((.inr e.1 : Key), e.2)))) (.refl _) (by simp)
        exact q (.ref p) B2 _ [p] fp1 (eb.trans e2) (((Agr.ext s2.h).trans ag.left).trans a2) t6 (.fd upd_same rd) (re3.mono e2 a1)
end
end G

set_option maxRecDepth 100000
namespace G
open PySem L2
section
variable {T : Tb} {N : List Str} {c : Ct} {X : Cx} {W : WX} {sc so : Scope} {k : Nat} {env env1 env2 : Env} {l r w : Expr} {B0 H0 B H : Hp} {σ : L2.St} {fp g : List Addr} {K : PySem.W.Frag} {pos : Pos}
/-! ### slots put back behind a comprehension -/
theorem wipeE_get (e : Env) : ∀ (vs : List Nat) (j : Nat), (wipeE e vs)[j]? = if j ∈ vs ∧ j < e.length then some none else e[j]?
  | [], j => by simp [wipeE]
  | v :: vs, j => by
    have hl : ∀ vs : List Nat, (wipeE e vs).length = e.length := by
      intro vs
      induction vs with
      | nil => rfl
      | cons v vs ih => rw [wipeE, List.length_set, ih]
    unfold wipeE
    by_cases h : v = j
    · subst h
      by_cases hl' : v < e.length
      · rw [List.getElem?_set_self (by rw [hl]; exact hl'), if_pos ⟨by simp, hl'⟩]
      · rw [List.getElem?_eq_none (by rw [List.length_set, hl]; omega), if_neg (fun z => hl' z.2), List.getElem?_eq_none (by omega)]
    · rw [List.getElem?_set_ne h, wipeE_get e vs j]
      by_cases hm : j ∈ vs ∧ j < e.length
      · rw [if_pos hm, if_pos ⟨by simp [hm.1], hm.2⟩]
      · rw [if_neg hm, if_neg (fun z => hm ⟨by
          rcases List.mem_cons.mp z.1 with e | e
          · exact absurd e.symm h
          · exact e, z.2⟩)]
theorem rstE_len (env : Env) : ∀ (is : List Nat) (e : Env), (rstE env is e).length = e.length
  | [], _ => rfl
  | i :: is, e => by rw [rstE, List.length_set, rstE_len]
theorem rstE_get (env : Env) : ∀ (is : List Nat) (e : Env) (j : Nat), (rstE env is e)[j]? = if j ∈ is ∧ j < e.length then some ((env[j]?).join) else e[j]?
  | [], e, j => by simp [rstE]
  | v :: vs, e, j => by
    unfold rstE
    by_cases h : v = j
    · subst h
      by_cases hl' : v < e.length
      · rw [List.getElem?_set_self (by rw [rstE_len]; exact hl'), if_pos ⟨by simp, hl'⟩]
      · rw [List.getElem?_eq_none (by rw [List.length_set, rstE_len]; omega), if_neg (fun z => hl' z.2), List.getElem?_eq_none (by omega)]
    · rw [List.getElem?_set_ne h, rstE_get env vs e j]
      by_cases hm : j ∈ vs ∧ j < e.length
      · rw [if_pos hm, if_pos ⟨by simp [hm.1], hm.2⟩]
      · rw [if_neg hm, if_neg (fun z => hm ⟨by
          rcases List.mem_cons.mp z.1 with e | e
          · exact absurd e.symm h
          · exact e, z.2⟩)]
/-- slots that are as they were, or hold shared things -/
theorem REnv.patch {σ' : L2.St} {e' : Env} {f : List Addr} (re : REnv K B H σ' e' f) : ∀ {σ : L2.St} {e : Env}, σ.length = σ'.length → e.length = e'.length →
    (∀ j < e'.length, (σ[j]? = σ'[j]? ∧ e[j]? = e'[j]?) ∨ (e'[j]? = some none ∧ (e[j]? = some none ∨ ∃ v p, σ[j]? = some (some v) ∧ e[j]? = some (some (.pl p)) ∧ RP K B v p))) → REnv K B H σ e f := by
  induction re with
  | nil =>
    intro σ e h1 h2 _
    have a : σ = [] := by simpa using h1
    have b : e = [] := by simpa using h2
    subst a b
    exact .nil
  | @non v0 σ' e' f re ih =>
    intro σ e h1 h2 h3
    cases σ with
    | nil => simp at h1
    | cons s σ =>
      cases e with
      | nil => simp at h2
      | cons x e =>
        have ih' := ih (σ := σ) (e := e) (by simpa using h1) (by simpa using h2) (fun j hj => by
          have := h3 (j + 1) (by simpa using hj)
          simpa using this)
        rcases h3 0 (by simp) with ⟨z1, z2⟩ | ⟨z1, z2 | ⟨v, p, z2, z3, z4⟩⟩
        · have z2 : x = none := by simpa using z2
          subst z2
          exact .non ih'
        · have z2 : x = none := by simpa using z2
          subst z2
          exact .non ih'
        · have z2 : s = some v := by simpa using z2
          have z3 : x = some (.pl p) := by simpa using z3
          subst z2 z3
          exact (.som (.pl z4) ih' : REnv K B H _ _ ([] ++ f))
  | @som v0 o0 σ' e' f1 f2 ro re ih =>
    intro σ e h1 h2 h3
    cases σ with
    | nil => simp at h1
    | cons s σ =>
      cases e with
      | nil => simp at h2
      | cons x e =>
        have ih' := ih (σ := σ) (e := e) (by simpa using h1) (by simpa using h2) (fun j hj => by
          have := h3 (j + 1) (by simpa using hj)
          simpa using this)
        rcases h3 0 (by simp) with ⟨z1, z2⟩ | ⟨z1, _⟩
        · have z1 : s = some v0 := by simpa using z1
          have z2 : x = some o0 := by simpa using z2
          subst z1 z2
          exact .som ro ih'
        · simp at z1
theorem REnv.restore {own : List Nat} {e : Env} {B' H' : Hp} {f : List Addr} (re0 : REnv K B H σ env fp) (hp : (own.all fun i => isPl env[i]?) = true) (r : REnv K B' H' (L2.wipe σ own) (wipeE e own) f) (eb : Ext B B') : REnv K B' H' σ (rstE env own e) f := by
  have hlw : ∀ vs : List Nat, (wipeE e vs).length = e.length := by
    intro vs
    induction vs with
    | nil => rfl
    | cons v vs ih => rw [wipeE, List.length_set, ih]
  have l1 := re0.len
  have l2 := r.len
  rw [wipe_length, hlw] at l2
  refine r.patch (by rw [wipe_length]) (by rw [rstE_len, hlw]) fun j hj => ?_
  rw [hlw] at hj
  rw [wipe_get, wipeE_get, rstE_get]
  by_cases hm : j ∈ own
  · rw [if_pos ⟨hm, by omega⟩, if_pos ⟨hm, hj⟩, if_pos ⟨hm, by omega⟩]
    refine .inr ⟨rfl, ?_⟩
    have z := List.all_eq_true.mp hp j hm
    cases y : env[j]? with
    | none =>
      rw [y] at z
      cases z
    | some x =>
      rw [y] at z
      cases x with
      | none => exact .inl rfl
      | some o =>
        cases o with
        | pl p =>
          obtain ⟨v, g, k1, k2, _⟩ := re0.get y
          exact .inr ⟨v, p, k1, rfl, k2.p.mono eb⟩
        | _ => cases z
  · rw [if_neg (fun z => hm z.1), if_neg (fun z => hm z.1), if_neg (fun z => hm z.1)]
    exact .inl ⟨rfl, rfl⟩
/-! ### what is walked -/
def SndMF (X : Cx) (W : WX) (env : Env) (tg ex : Expr) (rs : Rx (List P)) (env1 : Env) : Prop := ∀ ⦃B0 H0 B H : Hp⦄ ⦃σ : L2.St⦄ ⦃fp g : List Addr⦄ ⦃R : L2.It → Hp → Prop⦄, Sit B0 H0 B H (g ++ fp) → (∀ a ∈ g, H a ≠ none) → REnv X.K B H σ env fp →
  CF (fun B' H' J ps f => f = [] ∧ ItS X.K J ps (cond false B' H')) X.K W B0 H0 g B H σ env1 R rs → wI X tg ex σ H R
theorem SndM.f {ps : List P} {tg : Expr} (h : SndM false X env tg l ps) : SndMF X W env tg l (.ok ps) env := fun _ _ _ _ _ fp g _ t hg re q => h t.w.right re fun J B1 H1 s its =>
  q J B1 H1 [] fp s.b (.ext s.h) (t.stp s (mem_app hg re.has)) ⟨rfl, its⟩ (re.stp s)
/-- a value that is walked, shared at once -/
theorem sndmf_seq {tg : Expr} {rs : Rx (List P)} {fa : Rf O} (ha : ∀ r e, fa = some (r, e) → SndF X W env l r e) (h : (bnd fa fun o e1 => okE e1 (o1 seqAny (toP (fz o)))) = some (rs, env2)) : SndMF X W env tg l rs env2 := by
  rcases bnd_some h with ⟨cn, us, h1, rfl⟩ | ⟨o, e1, h1, h2⟩
  · exact fun _ _ _ _ _ fp g _ t hg re q => ⟨_, pi_list wE_ok, ha _ _ h1 t hg re q⟩
  · obtain ⟨ps, h3, rfl, rfl⟩ := okE_some h2
    obtain ⟨u, h4, h5⟩ := o1_some h3
    obtain ⟨p, h6, rfl⟩ := toP_some h4
    unfold seqAny at h5
    split at h5
    · rename_i xs e
      cases e
      cases h5
      exact fun _ _ _ _ _ fp g _ t hg re q => ⟨_, pi_list wE_ok, ha _ _ h1 t hg re fun v B1 H1 f fp1 eb ag t1 ro re1 => by
        obtain ⟨B2, e2, t2, rp⟩ := (t1.perm (perm_ac g f fp1)).share1 ro h6
        cases rp with
        | @lst a vs _ k1 k2 => exact ⟨a, rfl, ⟨vs, (t2.w.bh.sl k1).sq⟩, q _ B2 H1 [] fp1 (eb.trans e2) ag t2 ⟨rfl, its_list fun B H c e => ⟨(e.sl (c.1.sl k1)).sq, k2.mono c.1⟩⟩ (re1.mono e2 fun _ _ _ z => z)⟩⟩
    · rename_i e
      cases e
    · rename_i xs e
      cases e
      cases h5
      exact fun _ _ _ _ _ fp g _ t hg re q => ⟨_, pi_tup wE_ok, ha _ _ h1 t hg re fun v B1 H1 f fp1 eb ag t1 ro re1 => by
        obtain ⟨B2, e2, t2, rp⟩ := (t1.perm (perm_ac g f fp1)).share1 ro h6
        cases rp with
        | @tup a vs _ k1 k2 => exact ⟨a, rfl, ⟨vs, t2.w.bh.sqT k1⟩, q _ B2 H1 [] fp1 (eb.trans e2) ag t2 ⟨rfl, its_tup fun B H c e => ⟨e.sqT (c.1.sqT k1), k2.mono c.1⟩⟩ (re1.mono e2 fun _ _ _ z => z)⟩⟩
    · rename_i s e
      cases e
      cases h5
      exact fun _ _ _ _ _ fp g _ t hg re q => ⟨_, pi_str wE_ok, ha _ _ h1 t hg re fun v B1 H1 f fp1 eb ag t1 ro re1 => by
        obtain ⟨B2, e2, t2, rp⟩ := (t1.perm (perm_ac g f fp1)).share1 ro h6
        cases rp
        exact ⟨_, rfl, q _ B2 H1 [] fp1 (eb.trans e2) ag t2 ⟨rfl, its_str⟩ (re1.mono e2 fun _ _ _ z => z)⟩⟩
    · cases h5
theorem sndmf_rng {tg : Expr} {p1 : Pos} {rs : Rx (List P)} {fa : Rf O} (hg : Gl X "range") (hm : X.mg "range" = none) (hn : nst l = true) (ha : ∀ r e, fa = some (r, e) → SndF X W env l r e) (h : (bnd fa fun o e1 => okE e1 (rng1 o)) = some (rs, env2)) :
    SndMF X W env tg (.Call (.Name "range" p1) [l] [] pos) rs env2 := by
  rcases bnd_some h with ⟨cn, us, h1, rfl⟩ | ⟨o, e1, h1, h2⟩
  · exact fun _ _ _ _ _ fp g _ t hg' re q => ⟨_, pi_range1 hg hm wA_ok (star_cons hn), wA_one hn (ha _ _ h1 t hg' re q)⟩
  · obtain ⟨ps, h3, rfl, rfl⟩ := okE_some h2
    obtain ⟨i, rfl, hi, rfl⟩ := rng1_some h3
    exact fun _ _ _ _ _ fp g _ t hg' re q => ⟨_, pi_range1 hg hm wA_ok (star_cons hn), wA_one hn (ha _ _ h1 t hg' re fun v B1 H1 f fp1 eb ag t1 ro re1 => by
      exact ⟨i, by rw [ro.i], hi.1, hi.2, q _ B1 H1 [] fp1 eb ag ((t1.perm (perm_ac g f fp1)).right) ⟨rfl, its_rng⟩ re1⟩)⟩
theorem sndmf_enum {es : List Expr} {kk : Nat} {tp p1 : Pos} {rs : Rx (List P)} {fa : Rf O} (hg : Gl X "enumerate") (hm : X.mg "enumerate" = none) (hn : nst l = true) (ha : ∀ r e, fa = some (r, e) → SndF X W env l r e) (h : (bnd fa fun o e1 => okE e1 (o1 enmL (toP (fz o)))) = some (rs, env2)) :
    SndMF X W env (.Tuple es kk tp) (.Call (.Name "enumerate" p1) [l] [] pos) rs env2 := by
  rcases bnd_some h with ⟨cn, us, h1, rfl⟩ | ⟨o, e1, h1, h2⟩
  · exact fun _ _ _ _ _ fp g _ t hg' re q => ⟨_, pi_enum hg hm wA_ok (star_cons hn), wA_one hn (ha _ _ h1 t hg' re q)⟩
  · obtain ⟨ps, h3, rfl, rfl⟩ := okE_some h2
    obtain ⟨u, h4, h5⟩ := o1_some h3
    obtain ⟨p, h6, rfl⟩ := toP_some h4
    obtain ⟨xs, h7, rfl⟩ := mapI_some h5
    exact fun _ _ _ _ _ fp g _ t hg' re q => ⟨_, pi_enum hg hm wA_ok (star_cons hn), wA_one hn (ha _ _ h1 t hg' re fun v B1 H1 f fp1 eb ag t1 ro re1 => by
      obtain ⟨B2, e2, t2, rp⟩ := (t1.perm (perm_ac g f fp1)).share1 ro h6
      cases p with
      | list ys =>
        cases h7
        cases rp with
        | @lst a vs _ k1 k2 => exact ⟨a, vs, rfl, (t2.w.bh.sl k1).sq, q _ B2 H1 [] fp1 (eb.trans e2) ag t2 ⟨rfl, its_enum fun B H c e => ⟨(e.sl (c.1.sl k1)).sq, k2.mono c.1⟩⟩ (re1.mono e2 fun _ _ _ z => z)⟩
      | _ => cases h7)⟩
/-! ### a comprehension whose items change slots -/
/-- what is asked of the comprehension's parts -/
def LcF (X : Cx) (W : WX) (env : Env) (scope : Scope) (tgE iter elt : Expr) (ifs : List Expr) (rs : Rx O) (env1 : Env) : Prop := ∃ (own : List (Str × Nat)) (wi : TI) (gg : TG) (tt : TT) (te : TE), X.calm = true ∧ X.N.Nodup ∧ PI X tgE iter wi ∧ BlkOk X.N X.env.scope scope own ∧
  (∀ (s : Shared) (H : Hp) (C : Addr) (cl : List (Str × Addr)) (fp : List Addr), PG (X.blk s H scope (compEnvC scope cl C X.env) fp) tgE gg) ∧
  (∀ (s : Shared) (H : Hp) (C : Addr) (cl : List (Str × Addr)) (fp : List Addr), PTs (X.blk s H scope (compEnvC scope cl C X.env) fp) ifs tt) ∧
  (∀ (s : Shared) (H : Hp) (C : Addr) (cl : List (Str × Addr)) (fp : List Addr), PE (X.blk s H scope (compEnvC scope cl C X.env) fp) elt te) ∧ (∀ x, foldedSetIterable iter X.env x = pure x) ∧
  ∀ ⦃B0 H0 B H : Hp⦄ ⦃σ : L2.St⦄ ⦃fp g : List Addr⦄ ⦃Q : VK⦄, Sit B0 H0 B H (g ++ fp) → (∀ a ∈ g, H a ≠ none) → REnv X.K B H σ env fp → CF (RO X.K) X.K W B0 H0 g B H σ env1 Q rs → tLc wi gg tt te (own.map (·.2)) σ H Q
theorem lcS_some {acc : List O} {tst : Option O} {rr : Env → Rf O} {e : Env} {kk : List O → Env → Rf O} {o : O} {e3 : Env} (h : lcS acc tst rr e kk = some (.ok o, e3)) : ∃ b, tst = some (.pl (.bool b)) ∧ (b = false → kk acc e = some (.ok o, e3)) ∧ (b = true → ∃ x e2, rr e = some (.ok x, e2) ∧ kk (acc ++ [x]) e2 = some (.ok o, e3)) := by
  unfold lcS at h
  split at h
  · rename_i b
    refine ⟨b, rfl, fun z => ?_, fun z => ?_⟩
    · subst z; rw [if_neg (by decide)] at h; exact h
    · subst z
      rw [if_pos rfl] at h
      rcases bnd_some h with ⟨_, _, _, z⟩ | ⟨x, e2, h1, h2⟩
      · cases z
      · exact ⟨x, e2, h1, h2⟩
  · cases h
theorem lcGo_cons {tst : Env → Option O} {f : Env → Rf O} {own : List Nat} {tg : Tg} {p : P} {ps : List P} {acc : List O} {e e3 : Env} {o : O} (h : lcGo tst f own tg (p :: ps) acc e = some (.ok o, e3)) :
    ∃ e1 b, setTg (wipeE e own) tg p = some e1 ∧ tst e1 = some (.pl (.bool b)) ∧ (b = false → lcGo tst f own tg ps acc e1 = some (.ok o, e3)) ∧ (b = true → ∃ x e2, f e1 = some (.ok x, e2) ∧ lcGo tst f own tg ps (acc ++ [x]) e2 = some (.ok o, e3)) := by
  rw [lcGo] at h
  split at h
  · rename_i e1 h1
    obtain ⟨b, h2, h3, h4⟩ := lcS_some h
    exact ⟨e1, b, h1, h2, h3, h4⟩
  · cases h
theorem lcf_ok (hx : XOk T c N sc so k X) {scope : Scope} {own : List Nat} {tg : Tg} {cd : Ox} {e : Fx} {tgE iter elt : Expr} {ifs : List Expr} {fi : Rf (List P)} {res : Rx O}
    (ho : ownB N sc scope own = true) (hw : own = tgIs tg) (htg : chkTg (relS scope sc) scope N tg tgE = true) (hi : ∀ rs e1, fi = some (rs, e1) → SndMF X W env tgE iter rs e1) (hs : ∀ x, foldedSetIterable iter X.env x = pure x)
    (ht : ∀ X', XOk T c N (relS scope sc) scope k X' → ∀ env1 b, evC c env1 cd = some (.pl (.bool b)) → SndTs X' env1 ifs b) (he : ∀ X', XOk T c N (relS scope sc) scope k X' → ∀ env1 o env2, evF c e env1 = some (.ok o, env2) → SndF X' (fun _ _ _ _ => False) env1 elt (.ok o) env2)
    (h : lcF2 (fun e1 => evC c e1 cd) (evF c e) own tg fi = some (res, env2)) : LcF X W env scope tgE iter elt ifs res env2 := by
  unfold ownB at ho
  split at ho
  case h_2 => cases ho
  rename_i rr hr
  have hix := own_ix hr
  refine ⟨rr, wI X tgE iter, gOf X.K tg, fun σ H Q => ∀ X', BX X scope X' → wTs X' ifs σ H Q, fun σ H Q => ∀ X', BX X scope X' → wE X' elt σ H Q, hx.calm, by rw [hx.n]; exact hx.nd, wI_ok, by rw [hx.n, hx.sc]; exact blkOk_by ho,
    fun s H C cl fp => chk_Tg (blk_ok hx ⟨s, H, C, cl, fp, rfl⟩) htg, fun s H C cl fp => ⟨fun pins s' σ H' Q I z => wTs_ok.run pins s' σ H' Q I (z _ ⟨s, H, C, cl, fp, rfl⟩)⟩,
    fun s H C cl fp => ⟨fun pins s' σ H' Q I z => wE_ok.run pins s' σ H' Q I (z _ ⟨s, H, C, cl, fp, rfl⟩)⟩, hs, ?_⟩
  intro B0 H0 B H σ fp g Q t hg re q
  rcases bnd_some h with ⟨cn, us, h1, rfl⟩ | ⟨ps, e1, h1, h2⟩
  · exact hi _ _ h1 t hg re q
  split at h2
  case isFalse => cases h2
  rename_i hlen
  have hgo : ∃ o e9, res = .ok o ∧ env2 = rstE e1 own e9 ∧ lcGo (fun e1 => evC c e1 cd) (evF c e) own tg ps [] e1 = some (.ok o, e9) := by
    unfold lcEnd at h2
    split at h2
    · rename_i o e9 z
      cases h2
      exact ⟨o, e9, rfl, rfl, z⟩
    · cases h2
  obtain ⟨o, e9, rfl, rfl, hgo⟩ := hgo
  refine hi _ _ h1 t hg re fun J B1 H1 f0 fp1 eb ag t1 ⟨hf0, it⟩ re1 => ?_
  subst hf0
  intro D hD
  rw [hix]
  have t1' : Sit B0 H0 B1 H1 (g ++ fp1) := t1
  have hg1 := ag.has hg
  obtain ⟨fw, rw1, ww1, sw1⟩ := re1.wipe t1'.w.right own
  have hfw : ∀ a ∈ g ++ fw, H1 a ≠ none := mem_app hg1 rw1.has
  have ndw : (g ++ fw).Nodup := List.nodup_append.mpr ⟨t1'.left.w.nd, ww1.nd, fun a ha b hb z => (List.nodup_append.mp t1'.w.nd).2.2 a ha b (sw1 b hb) z⟩
  have tw : Sit B0 H0 B1 H1 (g ++ fw) := t1'.sub ndw fun a ha => by
    rcases List.mem_append.mp ha with z | z
    · simp [z]
    · simp [sw1 a z]
  obtain ⟨sD, tD⟩ := lay_own (u := .lst []) (f1 := []) tw hD hfw
  refine ⟨fun i m H' => m = ps.length - i ∧ i ≤ ps.length ∧ ∃ B' vs acc f ei fpi, Ext B1 B' ∧ Agr g H1 H' ∧ Sit B0 H0 B' H' (g ++ ((D :: f) ++ fpi)) ∧ H' D = some (.lst vs) ∧ ROs X.K B' H' vs acc f ∧ vs.length ≤ i ∧ REnv X.K B' H' (L2.wipe σ own) (wipeE ei own) fpi ∧ lcGo (fun e1 => evC c e1 cd) (evF c e) own tg (ps.drop i) acc ei = some (.ok o, e9),
    ⟨_, rfl, Nat.zero_le _, B1, [], [], [], e1, fw, .refl _, .ext sD.h, tD, upd_same, .nil, Nat.le_refl _, rw1.stp sD, hgo⟩, ?_⟩
  rintro i m H' ⟨rfl, hil, B', vs, acc, f, ei, fpi, e2, a2, t2, hD', rv, hvl, re2, hg2⟩
  have hB1 : ∀ {B5 H5 : Hp}, Ext B1 B5 → Ext B5 H5 → cond false B1 H1 B5 H5 := fun e _ => ⟨e, fun z => by cases z⟩
  by_cases hlt : i < ps.length
  · rw [List.drop_eq_getElem_cons hlt] at hg2
    obtain ⟨e3, b, s1, s2, s3, s4⟩ := lcGo_cons hg2
    refine .inr ⟨it.go i B' H' (hB1 e2 t2.w.bh) t2.w.bh hlt, fun H5 => i + 1 ≤ ps.length ∧ ∃ B' vs acc f ei fpi, Ext B1 B' ∧ Agr g H1 H5 ∧ Sit B0 H0 B' H5 (g ++ ((D :: f) ++ fpi)) ∧ H5 D = some (.lst vs) ∧ ROs X.K B' H5 vs acc f ∧ vs.length ≤ i + 1 ∧ REnv X.K B' H5 (L2.wipe σ own) (wipeE ei own) fpi ∧ lcGo (fun e1 => evC c e1 cd) (evF c e) own tg (ps.drop (i + 1)) acc ei = some (.ok o, e9),
      fun H5 h5 => ⟨_, by omega, rfl, h5⟩, fun x H2 hy => ?_⟩
    obtain ⟨B2, st, rp⟩ := it.yld i B' H' x H2 _ (hB1 e2 t2.w.bh) t2.w.bh (List.getElem?_eq_getElem hlt) hy
    have hgD : ∀ a ∈ g ++ (D :: f), H' a ≠ none := by
      refine mem_app (a2.has hg1) fun a ha => ?_
      rcases List.mem_cons.mp ha with z | z
      · rw [z, hD']; simp
      · exact rv.has a z
    have t3 : Sit B0 H0 B2 H2 ((g ++ (D :: f)) ++ fpi) := by
      have := t2.stp st (by
        rw [← List.append_assoc]
        exact mem_app hgD re2.has)
      rw [List.append_assoc]
      exact this
    refine tg_ok (re2.stp st) t3.right.w rp s1 fun σ1 f1 ⟨ws, hσ1⟩ r1 w2 sub => ⟨?_, ?_⟩
    · rw [hσ1, hw]
      exact wipe_sets σ (tgIs tg) ws
    · have hwp : L2.wipe σ1 own = L2.wipe σ own := by
        rw [hσ1, hw]
        exact wipe_sets σ (tgIs tg) ws
      intro X' hX'
      have hx' := blk_ok hx hX'
      have hK : X'.K = X.K := by
        obtain ⟨_, _, _, _, _, rfl⟩ := hX'
        rfl
      have t4 : Sit B0 H0 B2 H2 ((g ++ (D :: f)) ++ f1) := t3.sub (List.nodup_append.mpr ⟨t3.left.w.nd, w2.nd, fun a ha b hb z => (List.nodup_append.mp t3.w.nd).2.2 a ha b (sub b hb) z⟩) fun a ha => by
        rcases List.mem_append.mp ha with z | z
        · simp only [List.mem_append]; exact .inl (by simpa using z)
        · simp only [List.mem_append]; exact .inr (sub a z)
      have hgD2 : ∀ a ∈ g ++ (D :: f), H2 a ≠ none := fun a ha z => hgD a ha (st.h.none z)
      refine ht X' hx' e3 b s2 w2 (by rw [hK]; exact r1) fun B3 H3 s5 => ?_
      have t5 := t4.stp s5 (mem_app hgD2 r1.has)
      have hD3 : H3 D = some (.lst vs) := s5.h _ _ (st.h _ _ hD')
      have s15 := st.trans s5
      cases b with
      | false =>
        refine iteF ⟨hlt, ?_⟩
        have r3 : REnv X.K B3 H3 σ1 e3 f1 := r1.stp s5
        obtain ⟨fw2, rw2, ww2, sw2⟩ := r3.wipe t5.right.w own
        rw [hwp] at rw2
        refine ⟨B3, vs, acc, f, e3, fw2, e2.trans s15.b, a2.trans (.ext s15.h), ?_, hD3, rv.stp s15, by omega, rw2, s3 rfl⟩
        have t6 := t5.sub (g := (g ++ (D :: f)) ++ fw2) (List.nodup_append.mpr ⟨t5.left.w.nd, ww2.nd, fun a ha b hb z => (List.nodup_append.mp t5.w.nd).2.2 a ha b (sw2 b hb) z⟩) (fun a ha => by
          rcases List.mem_append.mp ha with z | z
          · exact List.mem_append_left _ z
          · exact List.mem_append_right _ (sw2 a z))
        rw [List.append_assoc] at t6
        exact t6
      | true =>
        obtain ⟨xo, e4, ev, hg4⟩ := s4 rfl
        refine iteT fun X'' hX'' => ?_
        have hx'' := blk_ok hx hX''
        have hK' : X''.K = X.K := by
          obtain ⟨_, _, _, _, _, rfl⟩ := hX''
          rfl
        refine he X'' hx'' e3 xo e4 ev t5 (mem_app (fun a ha z => hgD2 a (by simp [ha]) (s5.h.none z)) fun a ha z => hgD2 a (by simp only [List.mem_append]; exact .inr ha) (s5.h.none z)) (by rw [hK']; exact r1.stp s5) fun y B4 H4 f4 fp4 e5 a5 t7 r4 re4 => ?_
        rw [hK'] at r4 re4
        have hD4 : H4 D = some (.lst vs) := a5 D (by simp) _ hD3
        obtain ⟨fw2, rw2, ww2, sw2⟩ := re4.wipe (t7.right.w.right) own
        rw [hwp] at rw2
        have rv4 : ROs X.K B4 H4 vs acc f := (rv.stp s15).mono e5 fun a ha u z => a5 a (by simp [ha]) u z
        have nd7 := t7.w.nd
        have hm : ∀ a ∈ (g ++ (D :: f)) ++ (f4 ++ fw2), a ∈ (g ++ (D :: f)) ++ (f4 ++ fp4) := fun a ha => by
          rcases List.mem_append.mp ha with z | z
          · exact List.mem_append_left _ z
          · rcases List.mem_append.mp z with z | z
            · exact List.mem_append_right _ (List.mem_append_left _ z)
            · exact List.mem_append_right _ (List.mem_append_right _ (sw2 a z))
        have nd8 : ((g ++ (D :: f)) ++ (f4 ++ fw2)).Nodup := List.nodup_append.mpr ⟨t7.left.w.nd, List.nodup_append.mpr ⟨t7.right.left.w.nd, ww2.nd, fun a ha b hb z => (List.nodup_append.mp t7.right.w.nd).2.2 a ha b (sw2 b hb) z⟩, fun a ha b hb z => by
          rcases List.mem_append.mp hb with y | y
          · exact (List.nodup_append.mp nd7).2.2 a ha b (List.mem_append_left _ y) z
          · exact (List.nodup_append.mp nd7).2.2 a ha b (List.mem_append_right _ (sw2 b y)) z⟩
        have t8 := t7.sub nd8 hm
        have p8 : ((g ++ (D :: f)) ++ (f4 ++ fw2)).Perm (g ++ ((D :: (f ++ f4)) ++ fw2)) := by
          show ((g ++ ([D] ++ f)) ++ (f4 ++ fw2)).Perm (g ++ (([D] ++ (f ++ f4)) ++ fw2))
          simp only [List.append_assoc]
          exact .refl _
        have t9 := t8.perm p8
        have nD : D ∉ f ++ (f4 ++ fw2) ∧ D ∉ g := by
          have nd9 := t9.w.nd
          have n1 : ((D :: (f ++ f4)) ++ fw2).Nodup := (List.nodup_append.mp nd9).2.1
          have n2 : (D :: ((f ++ f4) ++ fw2)).Nodup := n1
          refine ⟨fun z => (List.nodup_cons.mp n2).1 (by rw [List.append_assoc]; exact z), fun z => (List.nodup_append.mp nd9).2.2 D z D (by simp) rfl⟩
        have agD : ∀ ff : List Addr, D ∉ ff → Agr ff H4 (upd H4 D (.lst (vs ++ [y]))) := fun ff hn x hx v hv => by
          rw [upd_ne (fun e => hn (by rw [← e]; exact hx))]
          exact hv
        have t10 := t9.upd (a := D) (u := .lst (vs ++ [y])) (by simp)
        refine ⟨vs, hD4, by rw [line_eq]; omega, hlt, B4, vs ++ [y], acc ++ [xo], f ++ f4, e4, fw2, (e2.trans s15.b).trans e5, (a2.trans (.ext s15.h)).trans (a5.left.trans (agD g nD.2)), t10, upd_same, ?_, by simp; omega, ?_, hg4⟩
        · have z : ROs X.K B4 (upd H4 D (.lst (vs ++ [y]))) [y] [xo] (f4 ++ []) := .cons (r4.mono (.refl _) (agD f4 fun z => nD.1 (by simp [z]))) .nil
          rw [List.append_nil] at z
          exact (rv4.mono (.refl _) (agD f fun z => nD.1 (by simp [z]))).app z
        · exact rw2.mono (.refl _) (agD fw2 fun z => nD.1 (by simp [z]))
  · have ei' : i = ps.length := by omega
    subst ei'
    refine .inl ⟨it.stop _ B' H' (hB1 e2 t2.w.bh) t2.w.bh rfl, ?_⟩
    rw [List.drop_length, lcGo] at hg2
    obtain ⟨oo, hk, z1, z2⟩ := okE_some hg2
    cases z1
    subst z2
    have re9 := re1.restore hlen.2 re2 e2
    unfold mkL at hk
    split at hk
    · cases z : fzs acc with
      | some qs =>
        rw [z] at hk
        cases hk
        have p1 : (g ++ ((D :: f) ++ fpi)).Perm (f ++ (g ++ ([D] ++ fpi))) := by
          show (g ++ (([D] ++ f) ++ fpi)).Perm (f ++ (g ++ ([D] ++ fpi)))
          rw [List.append_assoc]
          exact (List.Perm.append_left g (perm_ac [D] f fpi)).trans (perm_ac g f ([D] ++ fpi))
        obtain ⟨B2, e3, t4, rp⟩ := (t2.perm p1).share rv z
        exact q _ B2 H' [D] fpi (eb.trans (e2.trans e3)) (ag.trans a2) t4 (.fl hD' rp) (re9.mono e3 fun _ _ _ z => z)
      | none =>
        rw [z] at hk
        cases hk
        exact q _ B' H' (D :: f) fpi (eb.trans e2) (ag.trans a2) t2 (.lst hD' rv) re9
    · cases hk
theorem sndf_lc {scope : Scope} {tgE iter elt : Expr} {ifs : List Expr} {rs : Rx O} (h : LcF X W env scope tgE iter elt ifs rs env1) : SndF X W env (.ListComp elt [⟨tgE, iter, ifs, 0⟩] scope pos) rs env1 := by
  obtain ⟨own, wi, gg, tt, te, h1, h2, h3, h4, h5, h6, h7, h8, h9⟩ := h
  exact fun _ _ _ _ _ _ _ _ t hg re q => ⟨_, pe_lc h1 h2 h3 h4 h5 h6 h7 h8, h9 t hg re q⟩
end
end G

set_option maxRecDepth 100000
namespace G
open PySem L2
variable {T : Tb} {N : List Str} {c : Ct}
structure GF (T : Tb) (N : List Str) (c : Ct) (e : Fx) : Prop where
  r : ∀ {X : Cx} {W : WX} {sc so : Scope} {k : Nat} {env env1 : Env} {x : Expr} {rs : Rx O}, XOk T c N sc so k X → Takes X W → chkF T N sc e x = true → evF c e env = some (rs, env1) → SndF X W env x rs env1
  t : ∀ {X : Cx} {W : WX} {sc so : Scope} {k : Nat} {env env1 : Env} {x : Expr} {rs : Rx O} {rb : Rx Bool}, XOk T c N sc so k X → Takes X W → chkF T N sc e x = true → evF c e env = some (rs, env1) → TB rs rb → SndFT X W env x rb env1
  w : ∀ {X : Cx} {W : WX} {sc so : Scope} {k : Nat} {env env1 : Env} {op : BoolOp} {l : List Expr} {p : Pos} {rs : Rx O} {rb : Rx Bool}, XOk T c N sc so k X → Takes X W → chkF T N sc e (.BoolOp op l p) = true → evF c e env = some (rs, env1) → TB rs rb → SndFW X W env (.BoolOp op l p) rb env1
theorem gf_mk {e : Fx} (ht : ∀ {sc : Scope} {x : Expr}, chkF T N sc e x = true → tstB x = true) (r : ∀ {X : Cx} {W : WX} {sc so : Scope} {k : Nat} {env env1 : Env} {x : Expr} {rs : Rx O}, XOk T c N sc so k X → Takes X W → chkF T N sc e x = true → evF c e env = some (rs, env1) → SndF X W env x rs env1) : GF T N c e :=
  ⟨r, fun hx tk hc he hb => sndft_val (r hx tk hc he) hb (tst_ok (ht hc)), fun hx tk hc he hb => by cases ht hc⟩
structure GFs (T : Tb) (N : List Str) (c : Ct) (es : Fxs) : Prop where
  r : ∀ {X : Cx} {W : WX} {sc so : Scope} {k : Nat} {env env1 : Env} {xs : List Expr} {rs : Rx (List O)}, XOk T c N sc so k X → Takes X W → chkFs T N sc es xs = true → evFs c es env = some (rs, env1) → SndFs X W env xs rs env1
structure GFa (T : Tb) (N : List Str) (c : Ct) (as : Fas) : Prop where
  r : ∀ {X : Cx} {W : WX} {sc so : Scope} {k : Nat} {env env1 : Env} {xs : List Expr} {rs : Rx (List Arg)}, XOk T c N sc so k X → Takes X W → lnE as = true → chkAs T N sc as xs = true → evAs c as env = some (rs, env1) → SndFA X W env xs rs env1
structure GFi (T : Tb) (N : List Str) (c : Ct) (it : Fit) : Prop where
  r : ∀ {X : Cx} {W : WX} {sc so : Scope} {k : Nat} {env env1 : Env} {tg x : Expr} {rs : Rx (List P)}, XOk T c N sc so k X → Takes X W → chkFi T N sc it tg x = true → evFit c it env = some (rs, env1) → SndMF X W env tg x rs env1 ∧ setB x = true
/-! ### inversions -/
section
variable {sc : Scope} {x : Expr}
theorem cf_call {f : Nat} {as : Fas} (h : chkF T N sc (.call f as) x = true) : ∃ n p l q, x = .Call (.Name n p) l [] q ∧ gnB sc (T.fn f) n = true ∧ lnB as = true ∧ chkAs T N sc as l = true := by
  unfold chkF at h
  split at h <;> first | (rename_i e; cases e <;> (simp only [Bool.and_eq_true] at h; exact ⟨_, _, _, _, rfl, h.1.1, h.1.2, h.2⟩)) | cases h
theorem cf_meth {cl m : Str} {f i : Nat} {ps : List Ps} {as : Fas} (h : chkF T N sc (.meth cl m f i ps as) x = true) : ∃ v ap l q, x = .Call (.Attribute v m ap) l [] q ∧ T.me cl m = some f ∧ baseB v = true ∧ (ap.endLine == q.line) = true ∧ l.length < 30 ∧ lnB (.ln i ps as) = true ∧ chkPl T N sc i ps v = true ∧ chkAs T N sc as l = true := by
  unfold chkF at h
  split at h <;> first | (rename_i e; cases e <;> (simp only [Bool.and_eq_true, decide_eq_true_eq] at h; obtain ⟨⟨⟨⟨⟨⟨⟨rfl, h1⟩, h2⟩, h3⟩, h4⟩, h5⟩, h6⟩, h7⟩ := h; exact ⟨_, _, _, _, rfl, h1, h2, h3, h4, h5, h6, h7⟩)) | cases h
theorem cf_new {cl : Str} {f : Nat} {as : Fas} (h : chkF T N sc (.new cl f as) x = true) : ∃ p l q, x = .Call (.Name cl p) l [] q ∧ gnB sc (some cl) cl = true ∧ T.ini cl = some f ∧ lnB as = true ∧ chkAs T N sc as l = true := by
  unfold chkF at h
  split at h <;> first | (rename_i e; cases e <;> (simp only [Bool.and_eq_true, decide_eq_true_eq] at h; obtain ⟨⟨⟨h1, h2⟩, h3⟩, h4⟩ := h; have e1 := (gn_ok h1).1; cases e1; exact ⟨_, _, _, rfl, h1, h2, h3, h4⟩)) | cases h
theorem cf_bin {op : Operator} {a b : Fx} (h : chkF T N sc (.bin op a b) x = true) : ∃ l r p, x = .BinOp l op r p ∧ chkF T N sc a l = true ∧ chkF T N sc b r = true := by
  unfold chkF at h
  split at h <;> first | (rename_i e; cases e <;> (simp only [Bool.and_eq_true, decide_eq_true_eq] at h; obtain ⟨⟨rfl, h1⟩, h2⟩ := h; exact ⟨_, _, _, rfl, h1, h2⟩)) | cases h
theorem cf_sh {a : Fx} (h : chkF T N sc (.sh a) x = true) : ∃ f args kws p, x = .Call f args kws p ∧ chkF T N sc a (.Call f args kws p) = true := by
  unfold chkF at h
  split at h <;> first | (rename_i e; cases e <;> exact ⟨_, _, _, _, rfl, h⟩) | cases h
theorem cf_not {a : Fx} (h : chkF T N sc (.not a) x = true) : ∃ l p, x = .UnaryOp .Not l p ∧ chkF T N sc a l = true := by
  unfold chkF at h
  split at h <;> first | (rename_i e; cases e <;> exact ⟨_, _, rfl, h⟩) | cases h
theorem cf_and {a b : Fx} (h : chkF T N sc (.and a b) x = true) : ∃ l r s p, x = .BoolOp .And (l :: r :: s) p ∧ chkF T N sc a l = true ∧ ((s = [] ∧ chkF T N sc b r = true) ∨ chkF T N sc b (.BoolOp .And (r :: s) p) = true) := by
  unfold chkF at h
  split at h <;> first | (rename_i e; cases e <;> (rw [Bool.and_eq_true] at h; obtain ⟨h1, h2⟩ := h; refine ⟨_, _, _, _, rfl, h1, ?_⟩; split at h2 <;> first | exact .inl ⟨rfl, h2⟩ | exact .inr h2)) | cases h
theorem cf_or {a b : Fx} (h : chkF T N sc (.or a b) x = true) : ∃ l r s p, x = .BoolOp .Or (l :: r :: s) p ∧ chkF T N sc a l = true ∧ ((s = [] ∧ chkF T N sc b r = true) ∨ chkF T N sc b (.BoolOp .Or (r :: s) p) = true) := by
  unfold chkF at h
  split at h <;> first | (rename_i e; cases e <;> (rw [Bool.and_eq_true] at h; obtain ⟨h1, h2⟩ := h; refine ⟨_, _, _, _, rfl, h1, ?_⟩; split at h2 <;> first | exact .inl ⟨rfl, h2⟩ | exact .inr h2)) | cases h
theorem cf_cmp {op : CmpOp} {a b : Fx} (h : chkF T N sc (.cmp op a b) x = true) : ∃ l r p, x = .Compare l [op] [r] p ∧ noIn op = true ∧ setB r = true ∧ chkF T N sc a l = true ∧ chkF T N sc b r = true := by
  unfold chkF at h
  split at h <;> first | (rename_i e; cases e <;> (simp only [Bool.and_eq_true, decide_eq_true_eq] at h; obtain ⟨⟨⟨⟨h1, h2⟩, rfl⟩, h3⟩, h4⟩ := h; exact ⟨_, _, _, rfl, h1, h2, h3, h4⟩)) | cases h
theorem cf_ife {t a b : Fx} (h : chkF T N sc (.ife t a b) x = true) : ∃ u l r p, x = .IfExp u l r p ∧ chkF T N sc t u = true ∧ chkF T N sc a l = true ∧ chkF T N sc b r = true := by
  unfold chkF at h
  split at h <;> first | (rename_i e; cases e <;> (simp only [Bool.and_eq_true] at h; exact ⟨_, _, _, _, rfl, h.1.1, h.1.2, h.2⟩)) | cases h
theorem cf_lst {es : Fxs} (h : chkF T N sc (.lst es) x = true) : ∃ l p, x = .List l p ∧ chkFs T N sc es l = true := by
  unfold chkF at h
  split at h <;> first | (rename_i e; cases e <;> exact ⟨_, _, rfl, h⟩) | cases h
theorem cf_lsto {es : Fxs} (h : chkF T N sc (.lsto es) x = true) : ∃ l p, x = .List l p ∧ chkFs T N sc es l = true := by
  unfold chkF at h
  split at h <;> first | (rename_i e; cases e <;> exact ⟨_, _, rfl, h⟩) | cases h
theorem cf_tup {es : Fxs} (h : chkF T N sc (.tup es) x = true) : ∃ l k p, x = .Tuple l k p ∧ chkFs T N sc es l = true := by
  unfold chkF at h
  split at h <;> first | (rename_i e; cases e <;> exact ⟨_, _, _, rfl, h⟩) | cases h
theorem cf_idx {a i : Fx} (h : chkF T N sc (.idx a i) x = true) : ∃ l r p, x = .Subscript l r p ∧ chkF T N sc a l = true ∧ chkF T N sc i r = true := by
  unfold chkF at h
  split at h <;> first | (rename_i e; cases e <;> (simp only [Bool.and_eq_true] at h; exact ⟨_, _, _, rfl, h.1, h.2⟩)) | cases h
theorem cf_bi {b : BI} {es : Fxs} (h : chkF T N sc (.bi b es) x = true) : ∃ n p e l q, x = .Call (.Name n p) (e :: l) [] q ∧ gnB sc (some (biN b)) n = true ∧ chkFs T N sc es (e :: l) = true := by
  unfold chkF at h
  split at h <;> first | (rename_i e; cases e <;> (simp only [Bool.and_eq_true] at h; exact ⟨_, _, _, _, _, rfl, h.1, h.2⟩)) | cases h
theorem cf_pop {i : Nat} {ps : List Ps} {es : Exs} (h : chkF T N sc (.pop i ps es) x = true) : ∃ v ap l q, x = .Call (.Attribute v "pop" ap) l [] q ∧ baseB v = true ∧ (ap.endLine == q.line) = true ∧ chkPl T N sc i ps v = true ∧ chks T N sc es l = true := by
  unfold chkF at h
  split at h <;> first | (rename_i e; cases e <;> (simp only [Bool.and_eq_true, decide_eq_true_eq] at h; obtain ⟨⟨⟨⟨rfl, h1⟩, h2⟩, h3⟩, h4⟩ := h; exact ⟨_, _, _, _, rfl, h1, h2, h3, h4⟩)) | cases h
theorem cf_dct {ks : List Str} {es : Fxs} (h : chkF T N sc (.dct ks es) x = true) : ∃ keys l p, x = .Dict keys l p ∧ 1 ≤ ks.length ∧ ks.length ≤ 15 ∧ keysB T N sc ks keys l = true ∧ chkFs T N sc es l = true := by
  unfold chkF at h
  split at h <;> first | (rename_i e; cases e <;> (simp only [Bool.and_eq_true, decide_eq_true_eq] at h; exact ⟨_, _, _, rfl, h.1.1.1, h.1.1.2, h.1.2, h.2⟩)) | cases h
theorem cf_lc {own : List Nat} {tg : Tg} {it : Fit} {cd : Ox} {e : Fx} (h : chkF T N sc (.lc own tg it cd e) x = true) : ∃ el t i ifs scope p, x = .ListComp el [⟨t, i, ifs, 0⟩] scope p ∧ ownB N sc scope own = true ∧ own = tgIs tg ∧ chkTg (relS scope sc) scope N tg t = true ∧ chkFi T N sc it t i = true ∧ ((cd = .none ∧ ifs = []) ∨ ∃ d f, cd = .some d ∧ ifs = [f] ∧ chk T N (relS scope sc) d f = true) ∧ chkF T N (relS scope sc) e el = true := by
  unfold chkF at h
  split at h <;> first | (rename_i e; cases e <;> (simp only [Bool.and_eq_true, decide_eq_true_eq] at h; obtain ⟨⟨⟨⟨⟨h1, h2⟩, h3⟩, h4⟩, h5⟩, h6⟩ := h; refine ⟨_, _, _, _, _, _, rfl, h1, h2, h3, h4, ?_, h6⟩; split at h5 <;> first | exact .inl ⟨rfl, rfl⟩ | exact .inr ⟨_, _, rfl, rfl, h5⟩ | cases h5)) | cases h
end
/-! ### arguments -/
theorem lnQ_some {env : Env} {i : Nat} {z : Option (List Pt)} {q : List Pt} (h : lnQ env i z = some q) : z = some q ∧ ∃ y, plcG env i (some q) = some y := by
  unfold lnQ at h
  split at h
  · split at h
    · cases h
      exact ⟨rfl, _, by assumption⟩
    · cases h
  · cases h
/-- the names that were seen ahead are kept, or sharper -/
def kle (a b : Ky) : Prop := a.1 = b.1 ∧ ∀ x, b.2 = some x → a.2 = some x
inductive KLe : List Ky → List Ky → Prop
  | nil : KLe [] []
  | cons {a b : Ky} {as bs : List Ky} : kle a b → KLe as bs → KLe (a :: as) (b :: bs)
theorem dk_le {a a' b b' : Ky} (h : kle a a') (k : kle b b') (d : dk a' b' = true) : dk a b = true := by
  unfold dk at d ⊢
  rw [Bool.or_eq_true, decide_eq_true_eq] at d ⊢
  rcases d with z | z
  · left
    rw [h.1, k.1]
    exact z
  · right
    unfold dkO at z
    split at z
    · rename_i x y h1 h2
      rw [h.2 x h1, k.2 y h2]
      exact z
    · cases z
theorem all_le {a a' : Ky} (h : kle a a') : ∀ {bs bs' : List Ky}, KLe bs bs' → bs'.all (dk a') = true → bs.all (dk a) = true
  | _, _, .nil, _ => rfl
  | _, _, .cons k ks, d => by
    rw [List.all_cons, Bool.and_eq_true] at d ⊢
    exact ⟨dk_le h k d.1, all_le h ks d.2⟩
theorem djB_le : ∀ {bs bs' : List Ky}, KLe bs bs' → djB bs' = true → djB bs = true
  | _, _, .nil, _ => rfl
  | _, _, .cons k ks, d => by
    rw [djB, Bool.and_eq_true] at d ⊢
    exact ⟨all_le k ks d.1, djB_le ks d.2⟩
theorem rsv_ky {env : Env} {ps : List Ps} {q : List Pt} (h : rsv c env ps = some q) : ∀ x, kyS ps = some x → kyQ q = some x := by
  intro x hx
  unfold kyS at hx
  split at hx
  · cases hx
    cases h
    rfl
  · rename_i j
    split at hx
    · rename_i hj
      cases hx
      have h : consA (rsv1 (.ix (.lit (.int j))) (evR c env (.lit (.int j)))) (some []) = some q := h
      rw [show evR c env (.lit (.int j)) = some (.pl (.int j)) from rfl] at h
      cases h
      show (if 0 ≤ j then some (Pk.n j.toNat) else none) = _
      rw [if_pos hj]
    · cases hx
  · cases hx
theorem plK_le : ∀ {as : Fas} {env env1 : Env} {ars : List Arg}, evAs c as env = some (.ok ars, env1) → KLe (plK ars) (lnK as)
  | .nil, env, env1, ars, h => by
    rw [evAs] at h
    cases h
    exact .nil
  | .val e as, env, env1, ars, h => by
    rw [evAs] at h
    rcases bnd_some h with ⟨_, _, _, z⟩ | ⟨o, e1, h1, h2⟩
    · cases z
    · rcases bnd_some h2 with ⟨_, _, _, z⟩ | ⟨p, e2, h3, h4⟩
      · cases z
      · rcases bnd_some h4 with ⟨_, _, _, z⟩ | ⟨as2, e3, h5, h6⟩
        · cases z
        · cases h6
          show KLe (plK as2) (lnK as)
          exact plK_le h5
  | .own e as, env, env1, ars, h => by
    rw [evAs] at h
    rcases bnd_some h with ⟨_, _, _, z⟩ | ⟨o, e1, h1, h2⟩
    · cases z
    · rcases bnd_some h2 with ⟨_, _, _, z⟩ | ⟨as2, e3, h5, h6⟩
      · cases z
      · cases h6
        show KLe (plK as2) (lnK as)
        exact plK_le h5
  | .ln i ps as, env, env1, ars, h => by
    rw [evAs] at h
    rcases bnd_some h with ⟨_, _, _, z⟩ | ⟨q, e1, h1, h2⟩
    · cases z
    · rcases bnd_some h2 with ⟨_, _, _, z⟩ | ⟨as2, e3, h5, h6⟩
      · cases z
      · cases h6
        obtain ⟨q', h3', z, rfl⟩ := okE_some h1
        cases z
        have hq := (lnQ_some h3').1
        exact .cons ⟨rfl, rsv_ky hq⟩ (plK_le h5)
theorem puB_p {e : Fx} (h : puB e = true) : ∃ e0, e = .p e0 := by
  cases e <;> first | exact ⟨_, rfl⟩ | cases h
theorem evF_p {e : Ex} {env env1 : Env} {rs : Rx O} (h : evF c (.p e) env = some (rs, env1)) : ∃ o, evR c env e = some o ∧ rs = .ok o ∧ env1 = env := by
  rw [evF] at h
  exact okE_some h
/-- lent places are there -/
def Plcd (env : Env) : List Arg → Prop
  | [] => True
  | .plc i q :: as => (∃ y, plcG env i (some q) = some y) ∧ Plcd env as
  | _ :: as => Plcd env as
theorem gaP {X : Cx} {sc so : Scope} {k : Nat} (hx : XOk T c N sc so k X) : ∀ {as : Fas} {env env1 : Env} {xs : List Expr} {rs : Rx (List Arg)}, puA as = true → chkAs T N sc as xs = true → evAs c as env = some (rs, env1) → ∃ ars, rs = .ok ars ∧ env1 = env ∧ (Plcd env ars → SndAp X env xs ars)
  | .nil, env, env1, xs, rs, hp, hc, h => by
    rw [evAs] at h
    cases h
    cases xs with
    | nil => exact ⟨[], rfl, rfl, fun _ => sndap_nil⟩
    | cons => unfold chkAs at hc; cases hc
  | .val e as, env, env1, xs, rs, hp, hc, h => by
    have hp : (puB e && puA as) = true := hp
    rw [Bool.and_eq_true] at hp
    obtain ⟨e0, rfl⟩ := puB_p hp.1
    cases xs with
    | nil => unfold chkAs at hc; cases hc
    | cons x xs =>
      unfold chkAs at hc
      rw [Bool.and_eq_true] at hc
      rw [evAs] at h
      rcases bnd_some h with ⟨_, _, h1, _⟩ | ⟨o, e1, h1, h2⟩
      · obtain ⟨_, _, z, _⟩ := evF_p h1
        cases z
      · obtain ⟨o', h3, z, rfl⟩ := evF_p h1
        cases z
        rcases bnd_some h2 with ⟨_, _, h4, _⟩ | ⟨p, e2, h4, h5⟩
        · obtain ⟨_, _, z, _⟩ := okE_some h4
          cases z
        · obtain ⟨p', h6, z, rfl⟩ := okE_some h4
          cases z
          rcases bnd_some h5 with ⟨cn, us, h7, rfl⟩ | ⟨as2, e3, h7, h8⟩
          · obtain ⟨_, z, _⟩ := gaP hx hp.2 hc.2 h7
            cases z
          · obtain ⟨ars, z, rfl, hh⟩ := gaP hx hp.2 hc.2 h7
            cases z
            cases h8
            have hc1 : chk T N sc e0 x = true := by
              have := hc.1
              unfold chkF at this
              exact this
            exact ⟨_, rfl, rfl, fun pl => sndap_val (chk_nst hc1) ((gE e0).r hx hc1 h3) h6 (hh pl)⟩
  | .own e as, env, env1, xs, rs, hp, hc, h => by
    have hp : (puB e && puA as) = true := hp
    rw [Bool.and_eq_true] at hp
    obtain ⟨e0, rfl⟩ := puB_p hp.1
    cases xs with
    | nil => unfold chkAs at hc; cases hc
    | cons x xs =>
      unfold chkAs at hc
      rw [Bool.and_eq_true] at hc
      rw [evAs] at h
      rcases bnd_some h with ⟨_, _, h1, _⟩ | ⟨o, e1, h1, h2⟩
      · obtain ⟨_, _, z, _⟩ := evF_p h1
        cases z
      · obtain ⟨o', h3, z, rfl⟩ := evF_p h1
        cases z
        rcases bnd_some h2 with ⟨cn, us, h7, rfl⟩ | ⟨as2, e3, h7, h8⟩
        · obtain ⟨_, z, _⟩ := gaP hx hp.2 hc.2 h7
          cases z
        · obtain ⟨ars, z, rfl, hh⟩ := gaP hx hp.2 hc.2 h7
          cases z
          cases h8
          have hc1 : chk T N sc e0 x = true := by
            have := hc.1
            unfold chkF at this
            exact this
          exact ⟨_, rfl, rfl, fun pl => sndap_own (chk_nst hc1) ((gE e0).r hx hc1 h3) (hh pl)⟩
  | .ln i ps as, env, env1, xs, rs, hp, hc, h => by
    have hp : puA as = true := hp
    cases xs with
    | nil => unfold chkAs at hc; cases hc
    | cons x xs =>
      unfold chkAs at hc
      rw [Bool.and_eq_true] at hc
      rw [evAs] at h
      rcases bnd_some h with ⟨_, _, h1, _⟩ | ⟨q, e1, h1, h2⟩
      · obtain ⟨_, _, z, _⟩ := okE_some h1
        cases z
      · obtain ⟨q', h3', z, rfl⟩ := okE_some h1
        cases z
        obtain ⟨h3, y, hy⟩ := lnQ_some h3'
        rcases bnd_some h2 with ⟨cn, us, h7, rfl⟩ | ⟨as2, e3, h7, h8⟩
        · obtain ⟨_, z, _⟩ := gaP hx hp hc.2 h7
          cases z
        · obtain ⟨ars, z, rfl, hh⟩ := gaP hx hp hc.2 h7
          cases z
          cases h8
          refine ⟨_, rfl, rfl, fun pl => ?_⟩
          exact sndap_plc (chkPl_nst hc.1) (snd_pl hx hc.1 h3 hy) (hh pl.2)
theorem dk_sym {a b : Ky} (h : dk a b = true) : dk b a = true := by
  unfold dk at h ⊢
  rw [Bool.or_eq_true, decide_eq_true_eq] at h ⊢
  rcases h with z | z
  · exact .inl fun e => z e.symm
  · right
    unfold dkO at z
    split at z
    · rename_i x y h1 h2
      rw [h1, h2]
      have := of_decide_eq_true z
      exact decide_eq_true fun e => this e.symm
    · cases z
/-- what is taken was there -/
theorem takeA_plcd : ∀ {as : List Arg} {env : Env} {r : List O × Env}, djB (plK as) = true → takeA as env = some r → Plcd env as
  | [], _, _, _, _ => trivial
  | .val p :: as, env, r, nd, h => by
    rw [takeA] at h
    obtain ⟨ps, e, h1, rfl⟩ := tkE_some h
    exact takeA_plcd (as := as) nd h1
  | .own p :: as, env, r, nd, h => by
    rw [takeA] at h
    obtain ⟨ps, e, h1, rfl⟩ := tkE_some h
    exact takeA_plcd (as := as) nd h1
  | .plc i q :: as, env, r, nd, h => by
    obtain ⟨y, e1, ps, e2, h1, h2, h3, h4, rfl⟩ := takeP_some h
    have nd : djB ((i, kyQ q) :: plK as) = true := nd
    rw [djB, Bool.and_eq_true] at nd
    refine ⟨⟨y, h1⟩, ?_⟩
    have ih := takeA_plcd nd.2 h4
    have gen : ∀ {bs : List Arg}, (plK bs).all (dk (i, kyQ q)) = true → Plcd e1 bs → Plcd env bs := by
      intro bs
      induction bs with
      | nil => exact fun _ _ => trivial
      | cons b bs ihb =>
        intro hi hp
        cases b with
        | val p => exact ihb hi hp
        | own p => exact ihb hi hp
        | plc j q2 =>
          have hi : ((j, kyQ q2) :: plK bs).all (dk (i, kyQ q)) = true := hi
          rw [List.all_cons, Bool.and_eq_true] at hi
          obtain ⟨⟨y2, hy⟩, hp2⟩ := hp
          refine ⟨⟨y2, ?_⟩, ihb hi.2 hp2⟩
          rw [← plcG_apart (dk_sym hi.1) h2]
          exact hy
    exact gen nd.1 ih
end G

set_option maxRecDepth 100000
namespace G
open PySem L2
variable {T : Tb} {N : List Str} {c : Ct}
theorem chkAs_nil {sc : Scope} {as : Fas} (h : chkAs T N sc as [] = true) : as = .nil := by
  cases as with
  | nil => rfl
  | _ => unfold chkAs at h; cases h
theorem lnB_or {as : Fas} (h : lnB as = true) : djB (lnK as) = true ∧ (puA as = true ∨ lnE as = true) := by
  unfold lnB at h
  rw [Bool.and_eq_true, Bool.or_eq_true] at h
  exact h
theorem bndO_some {α β : Type} {z : Option (Rx α × G.Env)} {f : α → G.Env → Option (Rx β × G.Env)} {y : Rx β} {e : G.Env} (h : bndO z f = some (y, e)) : ∃ a e1, z = some (.ok a, e1) ∧ f a e1 = some (y, e) := by
  unfold bndO at h
  split at h
  · exact ⟨_, _, rfl, h⟩
  · cases h
theorem gf_p {e : Ex} : GF T N c (.p e) where
  r := fun hx tk hc he => by
    obtain ⟨o, h1, rfl, rfl⟩ := evF_p he
    unfold chkF at hc
    have z : Snd _ _ _ _ := (gE e).r hx hc h1
    exact z.f
  t := fun hx tk hc he hb => by
    obtain ⟨o, h1, rfl, rfl⟩ := evF_p he
    unfold chkF at hc
    cases hb
    have z : SndT _ _ _ _ := (gE e).t hx hc h1
    exact z.f
  w := fun hx tk hc he hb => by
    obtain ⟨o, h1, rfl, rfl⟩ := evF_p he
    unfold chkF at hc
    cases hb
    have z : SndW _ _ _ _ := (gE e).w hx hc h1
    exact z.f
theorem chkPl_tst {sc : Scope} {i : Nat} {ps : List Ps} {x : Expr} (h : chkPl T N sc i ps x = true) : tstB x = true := by
  cases ps with
  | nil => obtain ⟨_, _, rfl, _⟩ := chkPl_nil h; rfl
  | cons p ps =>
    cases p with
    | fld f => obtain ⟨_, _, rfl, _⟩ := chkPl_fld h; rfl
    | ix k => obtain ⟨_, _, _, rfl, _⟩ := chkPl_el h; rfl
theorem gf_mv {i : Nat} {ps : List Ps} : GF T N c (.mv i ps) := gf_mk (fun h => by unfold chkF at h; exact chkPl_tst h) fun {X W sc so k env env1 x rs} hx tk hc he => by
  unfold chkF at hc
  rw [evF] at he
  unfold mvF at he
  cases hq : rsv c env ps with
  | none => rw [hq] at he; cases he
  | some q =>
    rw [hq] at he
    cases hy : plcG env i (some q) with
    | none => rw [hy] at he; cases he
    | some y =>
      rw [hy] at he
      dsimp only at he
      split at he
      · cases he
      · obtain ⟨h1, rfl⟩ := okP_some he
        exact sndf_mv (snd_pl hx hc hq hy) hy h1
theorem gf_fr {i : Nat} {ps : List Ps} : GF T N c (.fr i ps) := gf_mk (fun h => by unfold chkF at h; exact chkPl_tst h) fun {X W sc so k env env1 x rs} hx tk hc he => by
  unfold chkF at hc
  rw [evF] at he
  unfold frF at he
  cases hq : rsv c env ps with
  | none => rw [hq] at he; cases he
  | some q =>
    rw [hq] at he
    split at he
    · rename_i p hp
      obtain ⟨y, hy, hz⟩ := o1_some hp
      obtain ⟨h1, rfl⟩ := okP_some he
      exact sndf_fr (snd_pl hx hc hq hy) hy hz h1
    · cases he
/-- what the arguments come to, where the call is done -/
theorem ga_ok {as : Fas} (ga : GFa T N c as) {X : Cx} {W : WX} {sc so : Scope} {k : Nat} {env e4 : Env} {xs : List Expr} {ars : List Arg} (hx : XOk T c N sc so k X) (tk : Takes X W) (hl : lnB as = true) (hc : chkAs T N sc as xs = true) (h : evAs c as env = some (.ok ars, e4)) (pl : Plcd e4 ars) : SndFA X W env xs (.ok ars) e4 := by
  rcases (lnB_or hl).2 with h1 | h1
  · obtain ⟨ars', z, rfl, hh⟩ := gaP hx h1 hc h
    cases z
    exact (hh pl).f
  · exact ga.r hx tk h1 hc h
theorem ga_ex {as : Fas} (ga : GFa T N c as) {X : Cx} {W : WX} {sc so : Scope} {k : Nat} {env e4 : Env} {xs : List Expr} {cn : Str} {us : List (Str × P)} (hx : XOk T c N sc so k X) (tk : Takes X W) (hl : lnB as = true) (hc : chkAs T N sc as xs = true) (h : evAs c as env = some (.ex cn us, e4)) : SndFA X W env xs (.ex cn us) e4 := by
  rcases (lnB_or hl).2 with h1 | h1
  · obtain ⟨ars', z, _⟩ := gaP hx h1 hc h
    cases z
  · exact ga.r hx tk h1 hc h
theorem gf_call {f : Nat} {as : Fas} (ga : GFa T N c as) : GF T N c (.call f as) := gf_mk (fun h => by obtain ⟨_, _, _, _, rfl, _⟩ := cf_call h; rfl) fun {X W sc so k env env1 x rs} hx tk hc he => by
  obtain ⟨n, p, l, q, rfl, h1, h2, h3⟩ := cf_call hc
  rw [evF] at he
  cases l with
  | nil =>
    have := chkAs_nil h3
    subst this
    rw [evAs] at he
    exact sndf_call0 hx tk h1 he
  | cons e es =>
    refine sndf_call hx tk h1 (chkAs_nst h3) (fun r e1 hr => ?_) (fun ars e1 hr => ?_) he
    · rcases bnd_some he with ⟨cn, us, h4, rfl⟩ | ⟨ars, e4, h4, h5⟩
      · rw [h4] at hr
        cases hr
        exact ga_ex ga hx tk h2 h3 h4
      · rw [h4] at hr
        cases hr
        obtain ⟨hm, os, e5, outs, h6, h7, h8⟩ := callF_some h5
        exact ga_ok ga hx tk h2 h3 h4 (takeA_plcd (djB_le (plK_le h4) (lnB_or h2).1) h6)
    · exact djB_le (plK_le hr) (lnB_or h2).1
theorem gf_new {cl : Str} {f : Nat} {as : Fas} (ga : GFa T N c as) : GF T N c (.new cl f as) := gf_mk (fun h => by obtain ⟨_, _, _, rfl, _⟩ := cf_new h; rfl) fun {X W sc so k env env1 x rs} hx tk hc he => by
  obtain ⟨p, l, q, rfl, h1, h2, h3, h4⟩ := cf_new hc
  rw [evF] at he
  obtain ⟨ars, e4, h5, h6⟩ := bndO_some he
  cases l with
  | nil =>
    have := chkAs_nil h4
    subst this
    rw [evAs] at h5
    cases h5
    exact sndf_new0 hx h1 h2 h6
  | cons e es =>
    refine sndf_new hx h1 h2 (chkAs_nst h4) (fun r e1 hr => ?_) (fun ars e1 hr => ?_) ⟨ars, e4, h5, h6⟩
    · rw [h5] at hr
      cases hr
      obtain ⟨hm, os, e5, o, outs, h7, h8, h9, rfl⟩ := newF_some h6
      exact ga_ok ga hx tk h3 h4 h5 (takeA_plcd (djB_le (plK_le h5) (lnB_or h3).1) h7)
    · exact djB_le (plK_le hr) (lnB_or h3).1
theorem gf_meth {cl m : Str} {f i : Nat} {ps : List Ps} {as : Fas} (ga : GFa T N c as) : GF T N c (.meth cl m f i ps as) := gf_mk (fun h => by obtain ⟨_, _, _, _, rfl, _⟩ := cf_meth h; rfl) fun {X W sc so k env env1 x rs} hx tk hc he => by
  obtain ⟨v, ap, l, q, rfl, h1, h2, h3, h4, h5, h6, h7⟩ := cf_meth hc
  rw [evF] at he
  cases hq : rsv c env ps with
  | none => rw [hq] at he; cases he
  | some q0 =>
    rw [hq] at he
    have he : (if isObj cl m (plcG env i (some q0)) = true then bnd (evAs c as env) fun ars e => callF c f (.plc i q0 :: ars) e else none) = some (rs, env1) := he
    split at he
    case isFalse => cases he
    rename_i ho
    obtain ⟨kvs, ho1, ho2⟩ := isObj_some ho
    have hv := snd_pl hx h6 hq ho1
    obtain ⟨nd, hor⟩ := lnB_or h5
    have ndA : djB (lnK as) = true := by
      have nd : djB ((i, kyS ps) :: lnK as) = true := nd
      rw [djB, Bool.and_eq_true] at nd
      exact nd.2
    have hlA : lnB as = true := by
      unfold lnB
      rw [Bool.and_eq_true, Bool.or_eq_true]
      refine ⟨ndA, ?_⟩
      rcases hor with z | z
      · exact .inl z
      · have z : (ps.isEmpty && lnE as) = true := z
        rw [Bool.and_eq_true] at z
        exact .inr z.2
    rcases bnd_some he with ⟨cn, us, h8, rfl⟩ | ⟨ars, e4, h8, h9⟩
    · cases l with
      | nil =>
        have := chkAs_nil h7
        subst this
        rw [evAs] at h8
        cases h8
      | cons e es => exact sndf_methX hx tk h1 h2 h3 h4 (chkAs_nst h7) hv ⟨kvs, ho1, ho2⟩ (ga_ex ga hx tk hlA h7 h8)
    · have hsl : djB ((i, kyQ q0) :: plK ars) = true := by
        have nd : djB ((i, kyS ps) :: lnK as) = true := nd
        exact djB_le (.cons (a := (i, kyQ q0)) (b := (i, kyS ps)) ⟨rfl, rsv_ky hq⟩ (plK_le h8)) nd
      obtain ⟨hm, os, e5, outs, h10, h11, h12⟩ := callF_some h9
      have pl := takeA_plcd (as := .plc i q0 :: ars) hsl h10
      refine sndf_meth hx tk h1 h2 h3 h4 (chkAs_nst h7) hv ⟨kvs, ho1, ho2⟩ ?_ hsl h9
      cases l with
      | nil =>
        have := chkAs_nil h7
        subst this
        rw [evAs] at h8
        cases h8
        exact .inl ⟨rfl, rfl, rfl⟩
      | cons e es =>
        refine .inr ⟨by simp, ga_ok ga hx tk hlA h7 h8 pl.2, ?_⟩
        rcases hor with z | z
        · obtain ⟨ars', z2, rfl, hh⟩ := gaP hx (show puA as = true from z) h7 h8
          cases z2
          exact .inr ⟨rfl, hh pl.2⟩
        · have z : (ps.isEmpty && lnE as) = true := z
          rw [Bool.and_eq_true] at z
          have : ps = [] := by simpa using z.1
          subst this
          rw [rsv] at hq
          cases hq
          exact .inl rfl
theorem gf_bin {op : Operator} {a b : Fx} (ga : GF T N c a) (gb : GF T N c b) : GF T N c (.bin op a b) := gf_mk (fun h => by obtain ⟨_, _, _, rfl, _⟩ := cf_bin h; rfl) fun {X W sc so k env env1 x rs} hx tk hc he => by
  obtain ⟨l, r, p, rfl, h1, h2⟩ := cf_bin hc
  rw [evF] at he
  exact sndf_bin (fun rs e h => ga.r hx tk h1 h) (fun e1 rs e h => gb.r hx tk h2 h) he
theorem gf_idx {a b : Fx} (ga : GF T N c a) (gb : GF T N c b) : GF T N c (.idx a b) := gf_mk (fun h => by obtain ⟨_, _, _, rfl, _⟩ := cf_idx h; rfl) fun {X W sc so k env env1 x rs} hx tk hc he => by
  obtain ⟨l, r, p, rfl, h1, h2⟩ := cf_idx hc
  rw [evF] at he
  exact sndf_idx hx.hu (chkF_ix h2) (fun rs e h => ga.r hx tk h1 h) (fun e1 rs e h => gb.r hx tk h2 h) he
theorem sndf_sh {X : Cx} {W : WX} {env env1 : Env} {x : Expr} {rs : Rx O} {fa : Rf O} (ha : ∀ r e, fa = some (r, e) → SndF X W env x r e) (h : (bnd fa fun o e1 => okE e1 (toP (fz o))) = some (rs, env1)) : SndF X W env x rs env1 := by
  rcases bnd_some h with ⟨c, us, h1, rfl⟩ | ⟨o, e1, h1, h2⟩
  · exact ha _ _ h1
  · obtain ⟨u, h5, rfl, rfl⟩ := okE_some h2
    obtain ⟨p, h6, rfl⟩ := toP_some h5
    exact fun _ _ _ _ _ fp g _ t hg re q => ha _ _ h1 t hg re fun v1 B1 H1 f1 fp1 eb ag t1 r1 re1 => by
      obtain ⟨B2, e2, t2, rp⟩ := (t1.perm (perm_ac g f1 fp1)).share1 r1 h6
      exact q v1 B2 H1 [] fp1 (eb.trans e2) ag t2 (.pl rp) (re1.mono e2 fun _ _ _ z => z)
theorem gf_sh {a : Fx} (ga : GF T N c a) : GF T N c (.sh a) := gf_mk (fun h => by obtain ⟨_, _, _, _, rfl, _⟩ := cf_sh h; rfl) fun {X W sc so k env env1 x rs} hx tk hc he => by
  obtain ⟨_, _, _, _, rfl, h1⟩ := cf_sh hc
  rw [evF] at he
  exact sndf_sh (fun rs e h => ga.r hx tk h1 h) he
theorem gf_not {a : Fx} (ga : GF T N c a) : GF T N c (.not a) where
  r := fun hx tk hc he => by
    obtain ⟨l, p, rfl, h1⟩ := cf_not hc
    rw [evF] at he
    exact sndf_not (fun rs e h => ga.r hx tk h1 h) he
  t := fun hx tk hc he hb => by
    obtain ⟨l, p, rfl, h1⟩ := cf_not hc
    rw [evF] at he
    exact sndft_not (fun rs e rb h tb => ga.t hx tk h1 h tb) he hb
  w := fun hx tk hc he hb => by obtain ⟨l, p, h, _⟩ := cf_not hc; cases h
theorem gf_and {a b : Fx} (ga : GF T N c a) (gb : GF T N c b) : GF T N c (.and a b) := by
  have Wd : ∀ {X : Cx} {W : WX} {sc so : Scope} {k : Nat} {env env1 : Env} {x : Expr} {rs : Rx O} {rb : Rx Bool}, XOk T c N sc so k X → Takes X W → chkF T N sc (.and a b) x = true → evF c (.and a b) env = some (rs, env1) → TB rs rb → SndFW X W env x rb env1 := fun {X W sc so k env env1 x rs rb} hx tk hc he hb => by
    obtain ⟨l, r, s, p, rfl, h1, h2⟩ := cf_and hc
    rw [evF] at he
    refine sndfw_and (fun rs e rb h tb => ga.t hx tk h1 h tb) (fun e1 rs e rb h tb => ?_) he hb
    rcases h2 with ⟨rfl, h2⟩ | h2
    · exact sndfw_and1 (gb.t hx tk h2 h tb)
    · exact gb.w hx tk h2 h tb
  refine ⟨fun {X W sc so k env env1 x rs} hx tk hc he => ?_, fun hx tk hc he hb => by
    have z := Wd hx tk hc he hb
    exact z.t, fun hx tk hc he hb => Wd hx tk hc he hb⟩
  obtain ⟨l, r, s, p, rfl, h1, h2⟩ := cf_and hc
  rw [evF] at he
  refine sndf_and (fun rs e h => ga.r hx tk h1 h) (fun e1 rs e h => ?_) he
  rcases h2 with ⟨rfl, h2⟩ | h2
  · exact sndf_single (gb.r hx tk h2 h)
  · exact gb.r hx tk h2 h
theorem gf_or {a b : Fx} (ga : GF T N c a) (gb : GF T N c b) : GF T N c (.or a b) := by
  have Wd : ∀ {X : Cx} {W : WX} {sc so : Scope} {k : Nat} {env env1 : Env} {x : Expr} {rs : Rx O} {rb : Rx Bool}, XOk T c N sc so k X → Takes X W → chkF T N sc (.or a b) x = true → evF c (.or a b) env = some (rs, env1) → TB rs rb → SndFW X W env x rb env1 := fun {X W sc so k env env1 x rs rb} hx tk hc he hb => by
    obtain ⟨l, r, s, p, rfl, h1, h2⟩ := cf_or hc
    rw [evF] at he
    refine sndfw_or (fun rs e rb h tb => ga.t hx tk h1 h tb) (fun e1 rs e rb h tb => ?_) he hb
    rcases h2 with ⟨rfl, h2⟩ | h2
    · exact sndfw_or1 (gb.t hx tk h2 h tb)
    · exact gb.w hx tk h2 h tb
  refine ⟨fun {X W sc so k env env1 x rs} hx tk hc he => ?_, fun hx tk hc he hb => by
    have z := Wd hx tk hc he hb
    exact z.t, fun hx tk hc he hb => Wd hx tk hc he hb⟩
  obtain ⟨l, r, s, p, rfl, h1, h2⟩ := cf_or hc
  rw [evF] at he
  refine sndf_or (fun rs e h => ga.r hx tk h1 h) (fun e1 rs e h => ?_) he
  rcases h2 with ⟨rfl, h2⟩ | h2
  · exact sndf_single (gb.r hx tk h2 h)
  · exact gb.r hx tk h2 h
theorem gf_cmp {op : CmpOp} {a b : Fx} (ga : GF T N c a) (gb : GF T N c b) : GF T N c (.cmp op a b) where
  r := fun hx tk hc he => by
    obtain ⟨l, r, p, rfl, h0, h1, h2, h3⟩ := cf_cmp hc
    rw [evF] at he
    exact sndf_cmp hx.hu h0 h1 (fun rs e h => ga.r hx tk h2 h) (fun e1 rs e h => gb.r hx tk h3 h) he
  t := fun hx tk hc he hb => by
    obtain ⟨l, r, p, rfl, h0, h1, h2, h3⟩ := cf_cmp hc
    rw [evF] at he
    exact sndft_cmp hx.hu h0 h1 (fun rs e h => ga.r hx tk h2 h) (fun e1 rs e h => gb.r hx tk h3 h) he hb
  w := fun hx tk hc he hb => by obtain ⟨l, r, p, h, _⟩ := cf_cmp hc; cases h
theorem gf_ife {t a b : Fx} (gt : GF T N c t) (ga : GF T N c a) (gb : GF T N c b) : GF T N c (.ife t a b) where
  r := fun hx tk hc he => by
    obtain ⟨u, l, r, p, rfl, h1, h2, h3⟩ := cf_ife hc
    rw [evF] at he
    exact sndf_ife (fun rs e rb h tb => gt.t hx tk h1 h tb) (fun e1 rs e h => ga.r hx tk h2 h) (fun e1 rs e h => gb.r hx tk h3 h) he
  t := fun hx tk hc he hb => by
    obtain ⟨u, l, r, p, rfl, h1, h2, h3⟩ := cf_ife hc
    rw [evF] at he
    exact sndft_ife (fun rs e rb h tb => gt.t hx tk h1 h tb) (fun e1 rs e rb h tb => ga.t hx tk h2 h tb) (fun e1 rs e rb h tb => gb.t hx tk h3 h tb) he hb
  w := fun hx tk hc he hb => by obtain ⟨u, l, r, p, h, _⟩ := cf_ife hc; cases h
theorem gf_tup {es : Fxs} (gs : GFs T N c es) : GF T N c (.tup es) := gf_mk (fun h => by obtain ⟨_, _, _, rfl, _⟩ := cf_tup h; rfl) fun {X W sc so k env env1 x rs} hx tk hc he => by
  obtain ⟨l, kk, p, rfl, h1⟩ := cf_tup hc
  rw [evF] at he
  exact sndf_tup (fun rs e h => gs.r hx tk h1 h) he
theorem gf_lst {es : Fxs} (gs : GFs T N c es) : GF T N c (.lst es) := gf_mk (fun h => by obtain ⟨_, _, rfl, _⟩ := cf_lst h; rfl) fun {X W sc so k env env1 x rs} hx tk hc he => by
  obtain ⟨l, p, rfl, h1⟩ := cf_lst hc
  rw [evF] at he
  exact sndf_lst (fun rs e h => gs.r hx tk h1 h) he
theorem gf_lsto {es : Fxs} (gs : GFs T N c es) : GF T N c (.lsto es) := gf_mk (fun h => by obtain ⟨_, _, rfl, _⟩ := cf_lsto h; rfl) fun {X W sc so k env env1 x rs} hx tk hc he => by
  obtain ⟨l, p, rfl, h1⟩ := cf_lsto hc
  rw [evF] at he
  exact sndf_lsto (fun rs e h => gs.r hx tk h1 h) he
theorem gf_bi {b : BI} {es : Fxs} (gs : GFs T N c es) : GF T N c (.bi b es) := gf_mk (fun h => by obtain ⟨_, _, _, _, _, rfl, _⟩ := cf_bi h; rfl) fun {X W sc so k env env1 x rs} hx tk hc he => by
  obtain ⟨n, p, e, l, q, rfl, h1, h2⟩ := cf_bi hc
  rw [evF] at he
  exact sndf_bi hx h1 (chkFs_nst h2) (fun rs e h => gs.r hx tk h2 h) he
theorem popF_some {env env1 : Env} {i : Nat} {q : Option (List Pt)} {z : Option (O × O)} {rs : Rx O} (h : popF env i q z = some (rs, env1)) : ∃ x y, z = some (x, y) ∧ plcS env i y q = some env1 ∧ rs = .ok x := by
  cases z with
  | none => cases h
  | some w =>
    obtain ⟨x, y⟩ := w
    obtain ⟨h1, rfl⟩ := okP_some h
    exact ⟨x, y, rfl, h1, rfl⟩
theorem gf_pop {i : Nat} {ps : List Ps} {es : Exs} : GF T N c (.pop i ps es) := gf_mk (fun h => by obtain ⟨_, _, _, _, rfl, _⟩ := cf_pop h; rfl) fun {X W sc so k env env1 x rs} hx tk hc he => by
  obtain ⟨v, ap, l, q, rfl, h1, h2, h3, h4⟩ := cf_pop hc
  rw [evF] at he
  obtain ⟨x, y, e1, e2, rfl⟩ := popF_some he
  obtain ⟨o, os, e3, e4, e5⟩ := o2_some e1
  cases hq : rsv c env ps with
  | none => rw [hq] at e3; cases e3
  | some q0 =>
    rw [hq] at e3 e2
    exact sndf_pop hx h1 h2 h4 (snd_pl hx h3 hq e3) e3 e4 e5 e2
theorem gf_lc {own : List Nat} {tg : Tg} {it : Fit} {cd : Ox} {e : Fx} (gi : GFi T N c it) (ge : GF T N c e) {X : Cx} {W : WX} {sc so : Scope} {k : Nat} {env env1 : Env} {x : Expr} {rs : Rx O} (hx : XOk T c N sc so k X) (tk : Takes X W) (hc : chkF T N sc (.lc own tg it cd e) x = true) (he : evF c (.lc own tg it cd e) env = some (rs, env1)) :
    ∃ el t i ifs scope p, x = .ListComp el [⟨t, i, ifs, 0⟩] scope p ∧ LcF X W env scope t i el ifs rs env1 := by
  obtain ⟨el, t, i, ifs, scope, p, rfl, h1, h2, h3, h4, h5, h6⟩ := cf_lc hc
  rw [evF] at he
  refine ⟨el, t, i, ifs, scope, p, rfl, ?_⟩
  have hsb : setB i = true := by
    unfold lcF2 at he
    rcases bnd_some he with ⟨cn, us, z, _⟩ | ⟨ps, e1, z, _⟩
    · exact (gi.r hx tk h4 z).2
    · exact (gi.r hx tk h4 z).2
  refine lcf_ok hx h1 h2 h3 (fun rs e1 h => (gi.r hx tk h4 h).1) (folded_ok hsb) (fun X' hx' env1 b hb => ?_) (fun X' hx' env1 o env2 ho => ge.r hx' takes0 h6 ho) he
  rcases h5 with ⟨rfl, rfl⟩ | ⟨d, f, rfl, rfl, hd⟩
  · rw [evC] at hb
    cases hb
    exact snts_nil
  · rw [evC] at hb
    exact snts_one ((gE d).t hx' hd hb)
/-- a display's pairs -/
def GFd (T : Tb) (N : List Str) (c : Ct) (es : Fxs) : Prop := ∀ {X : Cx} {W : WX} {sc so : Scope} {k : Nat} {env env1 : Env} {ks : List Str} {keys : List (Option Expr)} {xs : List Expr} {rs : Rx (List O)}, XOk T c N sc so k X → Takes X W → keysB T N sc ks keys xs = true → chkFs T N sc es xs = true → evFs c es env = some (rs, env1) →
  ∃ kes : List (Expr × Expr), keys = kes.map (fun e => some e.1) ∧ xs = kes.map (·.2) ∧ kes.length = ks.length ∧ SndFd X W env kes ks rs env1
theorem keysB_nil {sc : Scope} {ks : List Str} {keys : List (Option Expr)} (h : keysB T N sc ks keys [] = true) : ks = [] ∧ keys = [] := by
  unfold keysB at h
  split at h
  · exact ⟨rfl, rfl⟩
  · rename_i e
    cases e
  · cases h
theorem keysB_cons {sc : Scope} {ks : List Str} {keys : List (Option Expr)} {x : Expr} {xs : List Expr} (h : keysB T N sc ks keys (x :: xs) = true) : ∃ s ss kx kxs, ks = s :: ss ∧ keys = some kx :: kxs ∧ chk T N sc (.lit (.str s)) kx = true ∧ keysB T N sc ss kxs xs = true := by
  unfold keysB at h
  split at h
  · rename_i e
    cases e
  · rename_i e
    cases e
    rw [Bool.and_eq_true] at h
    exact ⟨_, _, _, _, rfl, rfl, h.1, h.2⟩
  · cases h
theorem kes_eq : ∀ {a b : List (Expr × Expr)}, a.map (fun e => some e.1) = b.map (fun e => some e.1) → a.map (·.2) = b.map (·.2) → a = b
  | [], [], _, _ => rfl
  | [], _ :: _, h, _ => by simp at h
  | _ :: _, [], h, _ => by simp at h
  | x :: a, y :: b, h, k => by
    rw [List.map_cons, List.map_cons] at h k
    injection h with h1 h2
    injection k with k1 k2
    injection h1 with h1
    rw [kes_eq h2 k2, show x = y from Prod.ext h1 k1]
theorem gfd_nil : GFd T N c .nil := fun {X W sc so k env env1 ks keys xs rs} hx tk hk hc he => by
  rw [evFs] at he
  cases he
  cases xs with
  | nil =>
    obtain ⟨rfl, rfl⟩ := keysB_nil hk
    exact ⟨[], rfl, rfl, rfl, sndfd_nil⟩
  | cons => unfold chkFs at hc; cases hc
/-- the pairs, whatever the worths come to -/
theorem keysB_zip {sc : Scope} : ∀ {ks : List Str} {keys : List (Option Expr)} {xs : List Expr}, keysB T N sc ks keys xs = true → ∃ kes : List (Expr × Expr), keys = kes.map (fun e => some e.1) ∧ xs = kes.map (·.2) ∧ kes.length = ks.length
  | ks, keys, [], h => by
    obtain ⟨rfl, rfl⟩ := keysB_nil h
    exact ⟨[], rfl, rfl, rfl⟩
  | ks, keys, x :: xs, h => by
    obtain ⟨s, ss, kx, kxs, rfl, rfl, _, h2⟩ := keysB_cons h
    obtain ⟨kes, rfl, rfl, h3⟩ := keysB_zip h2
    exact ⟨(kx, x) :: kes, rfl, rfl, by simp [h3]⟩
theorem gfd_cons {e : Fx} {es : Fxs} (g : GF T N c e) (gs : GFd T N c es) : GFd T N c (.cons e es) := fun {X W sc so k env env1 ks keys xs rs} hx tk hk hc he => by
  rw [evFs] at he
  cases xs with
  | nil => unfold chkFs at hc; cases hc
  | cons x xs =>
    unfold chkFs at hc
    rw [Bool.and_eq_true] at hc
    obtain ⟨s, ss, kx, kxs, rfl, rfl, hk1, hk2⟩ := keysB_cons hk
    obtain ⟨kes, rfl, rfl, hl⟩ := keysB_zip hk2
    refine ⟨(kx, x) :: kes, rfl, rfl, by simp [hl], ?_⟩
    have hs : Snd X env kx (.pl (.str s)) := (gE (.lit (.str s))).r hx hk1 rfl
    refine sndfd_cons hs (fun rs e h => g.r hx tk hc.1 h) (fun e1 rs e h => ?_) he
    obtain ⟨kes2, q1, q2, _, q4⟩ := gs hx tk hk2 hc.2 h
    have : kes2 = kes := kes_eq q1.symm q2.symm
    subst this
    exact q4
theorem gf_dct {ks : List Str} {es : Fxs} (gd : GFd T N c es) : GF T N c (.dct ks es) := gf_mk (fun h => by obtain ⟨_, _, _, rfl, _⟩ := cf_dct h; rfl) fun {X W sc so k env env1 x rs} hx tk hc he => by
  obtain ⟨keys, l, p, rfl, h1, h2, h3, h4⟩ := cf_dct hc
  obtain ⟨kes, rfl, rfl, hl⟩ := keysB_zip h3
  rw [evF] at he
  refine sndf_dct hl h1 h2 (fun rs e h => ?_) he
  obtain ⟨kes2, q1, q2, _, q4⟩ := gd hx tk h3 h4 h
  have : kes2 = kes := kes_eq q1.symm q2.symm
  subst this
  exact q4
theorem gfs_nil : GFs T N c .nil := ⟨fun {X W sc so k env env1 xs rs} hx tk hc he => by
  rw [evFs] at he
  cases he
  cases xs with
  | nil => exact sndfs_nil
  | cons => unfold chkFs at hc; cases hc⟩
theorem gfs_cons {e : Fx} {es : Fxs} (g : GF T N c e) (gs : GFs T N c es) : GFs T N c (.cons e es) := ⟨fun {X W sc so k env env1 xs rs} hx tk hc he => by
  rw [evFs] at he
  cases xs with
  | nil => unfold chkFs at hc; cases hc
  | cons x xs =>
    unfold chkFs at hc
    rw [Bool.and_eq_true] at hc
    exact sndfs_cons (os := []) (chkF_nst hc.1) (fun rs e h => g.r hx tk hc.1 h) (fun e1 rs e h => gs.r hx tk hc.2 h) he⟩
theorem gfa_nil : GFa T N c .nil := ⟨fun {X W sc so k env env1 xs rs} hx tk hl hc he => by
  rw [evAs] at he
  cases he
  cases xs with
  | nil => exact sndfa_nil
  | cons => unfold chkAs at hc; cases hc⟩
theorem gfa_val {e : Fx} {as : Fas} (g : GF T N c e) (gs : GFa T N c as) : GFa T N c (.val e as) := ⟨fun {X W sc so k env env1 xs rs} hx tk hl hc he => by
  rw [evAs] at he
  cases xs with
  | nil => unfold chkAs at hc; cases hc
  | cons x xs =>
    unfold chkAs at hc
    rw [Bool.and_eq_true] at hc
    exact sndfa_val (chkF_nst hc.1) (fun rs e h => g.r hx tk hc.1 h) (fun e1 rs e h => gs.r hx tk hl hc.2 h) he⟩
theorem gfa_own {e : Fx} {as : Fas} (g : GF T N c e) (gs : GFa T N c as) : GFa T N c (.own e as) := ⟨fun {X W sc so k env env1 xs rs} hx tk hl hc he => by
  rw [evAs] at he
  cases xs with
  | nil => unfold chkAs at hc; cases hc
  | cons x xs =>
    unfold chkAs at hc
    rw [Bool.and_eq_true] at hc
    exact sndfa_own (chkF_nst hc.1) (fun rs e h => g.r hx tk hc.1 h) (fun e1 rs e h => gs.r hx tk hl hc.2 h) he⟩
theorem gfa_ln {i : Nat} {ps : List Ps} {as : Fas} (gs : GFa T N c as) : GFa T N c (.ln i ps as) := ⟨fun {X W sc so k env env1 xs rs} hx tk hl hc he => by
  have hl : (ps.isEmpty && lnE as) = true := hl
  rw [Bool.and_eq_true] at hl
  have e0 : ps = [] := by simpa using hl.1
  subst e0
  cases xs with
  | nil => unfold chkAs at hc; cases hc
  | cons x xs =>
    unfold chkAs at hc
    rw [Bool.and_eq_true] at hc
    rw [evAs] at he
    rcases bnd_some he with ⟨_, _, h1, _⟩ | ⟨q, e1, h1, h2⟩
    · obtain ⟨_, _, z, _⟩ := okE_some h1
      cases z
    · obtain ⟨q', h3', z, rfl⟩ := okE_some h1
      cases z
      obtain ⟨h3, y, hy⟩ := lnQ_some h3'
      rw [rsv] at h3
      cases h3
      exact sndfa_slot (chkPl_nst hc.1) (snd_pl hx hc.1 (by rw [rsv]) hy) (fun rs e h => gs.r hx tk hl.2 hc.2 h) h2⟩
theorem gi_pure {it : It} : GFi T N c (.pure it) := ⟨fun {X W sc so k env env1 tg x rs} hx tk hc he => by
  rw [evFit] at he
  obtain ⟨ps, h1, rfl, rfl⟩ := okE_some he
  unfold chkFi at hc
  rw [evJ_eq] at h1
  obtain ⟨z1, z2⟩ := (gI it).i (m := false) hx hc h1
  exact ⟨z1.f, z2⟩⟩
theorem gfi_seq {e : Fx} (g : GF T N c e) : GFi T N c (.seq e) := ⟨fun {X W sc so k env env1 tg x rs} hx tk hc he => by
  rw [evFit] at he
  unfold chkFi at hc
  rw [Bool.and_eq_true] at hc
  exact ⟨sndmf_seq (fun rs e h => g.r hx tk hc.2 h) he, hc.1⟩⟩
theorem gfi_r1 {e : Fx} (g : GF T N c e) : GFi T N c (.range1 e) := ⟨fun {X W sc so k env env1 tg x rs} hx tk hc he => by
  rw [evFit] at he
  unfold chkFi at hc
  split at hc <;> first | (rename_i z; cases z) | cases hc
  rw [Bool.and_eq_true] at hc
  have hg := gl_ok hx hc.1
  obtain ⟨h1, h2, h3⟩ := gn_ok hc.1
  cases h1
  exact ⟨sndmf_rng hg hx.rng (chkF_nst hc.2) (fun rs e h => g.r hx tk hc.2 h) he, rfl⟩⟩
theorem gfi_enum {e : Fx} (g : GF T N c e) : GFi T N c (.enum e) := ⟨fun {X W sc so k env env1 tg x rs} hx tk hc he => by
  rw [evFit] at he
  unfold chkFi at hc
  split at hc <;> first | (rename_i z; cases z) | cases hc
  rw [Bool.and_eq_true] at hc
  have hg := gl_ok hx hc.1
  obtain ⟨h1, h2, h3⟩ := gn_ok hc.1
  cases h1
  exact ⟨sndmf_enum hg hx.enu (chkF_nst hc.2) (fun rs e h => g.r hx tk hc.2 h) he, rfl⟩⟩
mutual
theorem gF : ∀ e : Fx, GF T N c e
  | .p e => gf_p
  | .mv i ps => gf_mv
  | .fr i ps => gf_fr
  | .call f as => gf_call (gFa as)
  | .meth cl m f i ps as => gf_meth (gFa as)
  | .new cl f as => gf_new (gFa as)
  | .bin op a b => gf_bin (gF a) (gF b)
  | .not a => gf_not (gF a)
  | .sh a => gf_sh (gF a)
  | .dct ks es => gf_dct (gFd es)
  | .and a b => gf_and (gF a) (gF b)
  | .or a b => gf_or (gF a) (gF b)
  | .cmp op a b => gf_cmp (gF a) (gF b)
  | .ife t a b => gf_ife (gF t) (gF a) (gF b)
  | .tup es => gf_tup (gFs es)
  | .lst es => gf_lst (gFs es)
  | .lsto es => gf_lsto (gFs es)
  | .idx a i => gf_idx (gF a) (gF i)
  | .bi b es => gf_bi (gFs es)
  | .pop i ps es => gf_pop
  | .lc own tg it cd e => gf_mk (fun h => by obtain ⟨_, _, _, _, _, _, rfl, _⟩ := cf_lc h; rfl) fun hx tk hc he => by
    obtain ⟨el, t, i, ifs, scope, p, rfl, h⟩ := gf_lc (gFi it) (gF e) hx tk hc he
    exact sndf_lc h
theorem gFs : ∀ es : Fxs, GFs T N c es
  | .nil => gfs_nil
  | .cons e es => gfs_cons (gF e) (gFs es)
theorem gFd : ∀ es : Fxs, GFd T N c es
  | .nil => gfd_nil
  | .cons e es => gfd_cons (gF e) (gFd es)
theorem gFa : ∀ as : Fas, GFa T N c as
  | .nil => gfa_nil
  | .val e as => gfa_val (gF e) (gFa as)
  | .own e as => gfa_own (gF e) (gFa as)
  | .ln i ps as => gfa_ln (gFa as)
theorem gFi : ∀ it : Fit, GFi T N c it
  | .pure it => gi_pure
  | .seq e => gfi_seq (gF e)
  | .range1 e => gfi_r1 (gF e)
  | .enum e => gfi_enum (gF e)
end
end G

set_option maxRecDepth 100000
namespace G
open PySem L2
open PySem.Spec PyProof.Rows in
theorem iop_mulW {X : Cx} : OpR X (inplaceOp .Mult) (rI CMulW fun i j => .int (i * j)) := opI fun _ _ _ _ _ _ _ hc q => imul_int q hc.ok
variable {T : Tb} {N : List Str} {c : Ct}
/-! ### in place -/
theorem toI_some {x : Option Int} {o : O} (h : toI x = some o) : ∃ k, x = some k ∧ o = .pl (.int k) := by
  cases x with
  | none => cases h
  | some k => cases h; exact ⟨k, rfl, rfl⟩
section
variable {X : Cx} {B H : Hp} {x y : V} {ox oy o : O} {f g : List Addr}
theorem aug_ok {op : Operator} (r1 : RO X.K B H x ox f) (r2 : RO X.K B H y oy g) (h : augO op ox oy = some o) :
    (∃ p, o = .pl p ∧ ∀ Q : VK, (∀ v, RP X.K B v p → Q v H) → wO X (inplaceOp op) x y H Q) ∨ (op = .Add ∧ ∃ xs ys, ox = .fl xs ∧ oy = .fl ys ∧ o = .fl (xs ++ ys) ∧ xs.length + ys.length ≤ 16777216) := by
  have IO : ∀ {op : Operator}, op ≠ .Pow → intO op ox oy = some o → ∃ p, o = .pl p ∧ ∀ Q : VK, (∀ v, RP X.K B v p → Q v H) → wO X (inplaceOp op) x y H Q := by
    intro op np h
    unfold intO at h
    split at h
    · obtain ⟨k, hk, rfl⟩ := toI_some h
      rename_i i j
      have e1 := r1.i
      have e2 := r2.i
      subst e1 e2
      refine ⟨_, rfl, fun Q q => ?_⟩
      have z : Q (.int k) H := q _ .int
      cases op
      case Add => cases hk; exact ⟨_, iop_add, _, _, rfl, rfl, z⟩
      case Sub => cases hk; exact ⟨_, iop_sub, _, _, rfl, rfl, z⟩
      case BitAnd => cases hk; exact ⟨_, iop_and, _, _, rfl, rfl, z⟩
      case BitOr => cases hk; exact ⟨_, iop_or, _, _, rfl, rfl, z⟩
      case BitXor => cases hk; exact ⟨_, iop_xor, _, _, rfl, rfl, z⟩
      case Mult =>
        rw [iBin] at hk; split at hk <;> cases hk; rename_i c
        rcases c with c | c | c
        · exact ⟨_, iop_mul, _, _, rfl, rfl, .inl c, z⟩
        · exact ⟨_, iop_mul, _, _, rfl, rfl, .inr c, z⟩
        · exact ⟨_, iop_mulW, _, _, rfl, rfl, c, z⟩
      case Mod => rw [iBin] at hk; split at hk <;> cases hk; rename_i c; exact ⟨_, iop_mod, _, _, rfl, rfl, c, z⟩
      case Pow => exact absurd rfl np
      case LShift => rw [iBin] at hk; split at hk <;> cases hk; rename_i c; exact ⟨_, iop_shl, _, _, rfl, rfl, c, z⟩
      case RShift => rw [iBin] at hk; split at hk <;> cases hk; rename_i c; exact ⟨_, iop_shr, _, _, rfl, rfl, c, z⟩
      case FloorDiv =>
        rw [iBin] at hk; split at hk <;> cases hk; rename_i c
        obtain ⟨c0, c | c⟩ := c
        · exact ⟨_, iop_fdiv, _, _, rfl, rfl, ⟨c0, c⟩, z⟩
        · exact ⟨_, iop_fdivW, _, _, rfl, rfl, ⟨c0, c⟩, z⟩
      all_goals cases hk
    · cases h
  unfold augO at h
  split at h
  case h_1 =>
    unfold augA at h
    split at h
    · rename_i i j
      have e1 := r1.i
      have e2 := r2.i
      subst e1 e2
      cases h
      exact .inl ⟨_, rfl, fun Q q => ⟨_, iop_add, _, _, rfl, rfl, q _ .int⟩⟩
    · split at h
      · rename_i c
        have e1 := r1.s
        have e2 := r2.s
        subst e1 e2
        cases h
        exact .inl ⟨_, rfl, fun Q q => ⟨_, iop_add_str, _, _, rfl, rfl, by rw [line_eq]; omega, q _ .str⟩⟩
      · cases h
    · split at h
      · rename_i xs ys c
        cases h
        exact .inr ⟨rfl, _, _, rfl, rfl, rfl, c⟩
      · cases h
    · cases h
  all_goals first | exact .inl (IO (by decide) h) | cases h
end
/-! ### the statements' syntax -/
def notLc : Expr → Bool
  | .ListComp .. => false
  | .SetComp .. => false
  | .DictComp .. => false
  | _ => true
def notTp : Expr → Bool
  | .Tuple .. => false
  | .List .. => false
  | _ => true
def mmN : MM → Str
  | .append => "append"
  | .extend => "extend"
  | .insert => "insert"
  | .reverse => "reverse"
  | .clear => "clear"
  | .update => "update"
def mmA : MM → List Expr → Bool
  | .append, [_] => true
  | .extend, [_] => true
  | .update, [_] => true
  | .reverse, [] => true
  | .clear, [] => true
  | _, _ => false
def consts : List Expr → Bool
  | [] => true
  | .Constant .. :: es => consts es
  | _ => false
mutual
/-- the slots that a statement binds anew -/
def stoS : S → List Nat
  | .asg i _ => [i]
  | .asgF i _ => [i]
  | .asgP i _ => [i]
  | .aug i _ _ => [i]
  | .augF i _ _ => [i]
  | .asgT is _ => is
  | .asgTF is _ => is
  | .pop (some j) _ _ => [j]
  | .ife _ a b => stoSs a ++ stoSs b
  | .ifeF _ a b => stoSs a ++ stoSs b
  | .forr tg _ b => tgIs tg ++ stoSs b
  | .forW _ tg _ b => tgIs tg ++ stoSs b
  | .forF tg _ b => tgIs tg ++ stoSs b
  | .whl _ b => stoSs b
  | .whlF _ b => stoSs b
  | _ => []
def stoSs : Ss → List Nat
  | .nil => []
  | .cons s ss => stoS s ++ stoSs ss
end
variable (T : Tb) (N : List Str)
def chkO (sc : Scope) : It → Expr → Expr → Bool
  | .seq (.var i), _, .Name x p => chkPl T N sc i [] (.Name x p)
  | .enum (.var i), .Tuple _ _ _, .Call (.Name x _) [.Name y p] [] _ => gnB sc (some "enumerate") x && chkPl T N sc i [] (.Name y p)
  | .zip (.var a) (.var b), .Tuple _ _ _, .Call (.Name x _) [.Name y p, .Name z q] [] _ => gnB sc (some "zip") x && chkPl T N sc a [] (.Name y p) && chkPl T N sc b [] (.Name z q)
  | _, _, _ => false
def chkW1 (sc : Scope) : Ex → Expr → Bool
  | .mov i, x => match x with
    | .Name y _ => nameB N sc i y
    | _ => false
  | e, x => chk T N sc e x
def chkWs (sc : Scope) : Exs → List Expr → Bool
  | .nil, [] => true
  | .cons e es, x :: xs => nst x && chkW1 T N sc e x && chkWs sc es xs
  | _, _ => false
def chkW (sc : Scope) (e : Ex) (x : Expr) : Bool := match e with
  | .mov i => chkW1 T N sc (.mov i) x
  | .tup es => match x with
    | .Tuple l _ _ => chkWs T N sc es l
    | _ => false
  | .lst es => match x with
    | .List l _ => chkWs T N sc es l
    | _ => false
  | e => chk T N sc e x
def chkM (sc : Scope) : MM → Exs → List Expr → Bool
  | .append, .cons e .nil, [x] => nst x && chkW1 T N sc e x
  | .extend, .cons e .nil, [x] => nst x && chkW1 T N sc e x
  | .reverse, .nil, [] => true
  | .clear, .nil, [] => true
  | .insert, .cons e1 (.cons e2 .nil), [x1, x2] => nst x1 && nst x2 && chk T N sc e1 x1 && chk T N sc e2 x2
  | _, _, _ => false
def swB (sc : Scope) (y : Str) (py : Pos) : Expr → Bool
  | .ListComp _ _ s lp => decide (sc.names.lookup y = some .cell) || decide (sc.kind = .function) && decide (sc.names.lookup y = some .local) && (py.line == lp.line) && !(s.names.any fun (n, k) => n == y && (k == .local || k == .cell))
  | .SetComp .. => false
  | .DictComp .. => false
  | _ => true
mutual
def chkS (sc so : Scope) : S → Stmt → Bool
  | .asg i e, .Assign [.Name x p] v _ => tgE sc so N i (.Name x p) && swB sc x p v && chkW T N sc e v
  | .asgT is e, .Assign [.Tuple es k p] v _ => chkTg sc so N (.tp is) (.Tuple es k p) && notLc v && (notTp v || (match v with
    | .Tuple vs _ _ => consts vs
    | _ => false)) && chkW T N sc e v
  | .aug i op e, .AugAssign (.Name x p) o v _ => tgE sc so N i (.Name x p) && nameB N sc i x && decide (op = o) && chk T N sc e v
  | .setI i ix e, .Assign [.Subscript (.Name x p) ixe q] v _ => nameB N sc i x && notLc v && chk T N sc ix ixe && chkW T N sc e v
  | .exp e, .Expr v _ => notLc v && chk T N sc e v
  | .mut m i es, .Expr (.Call (.Attribute (.Name x _) mm ap) args [] cp) _ => nameB N sc i x && decide (mm = mmN m) && (ap.endLine == cp.line) && chkM T N sc m es args
  | .pop (some j) i es, .Assign [.Name y p] (.Call (.Attribute (.Name x _) mm ap) args [] cp) _ => tgE sc so N j (.Name y p) && nameB N sc i x && decide (mm = ("pop" : Str)) && (ap.endLine == cp.line) && chks T N sc es args
  | .pop none i es, .Expr (.Call (.Attribute (.Name x _) mm ap) args [] cp) _ => nameB N sc i x && decide (mm = ("pop" : Str)) && (ap.endLine == cp.line) && chks T N sc es args
  | .ife t a b, .If c x y _ => chk T N sc t c && chkSs sc so a x && chkSs sc so b y
  | .forr tg it b, .For t i body [] _ => chkTg sc so N tg t && chkI T N sc it t i && chkSs sc so b body
  | .appT e i, .Expr (.Call (.Attribute o mm ap) [a] [] cp) _ => decide (mm = "append") && baseB o && (ap.endLine == cp.line) && nst a && chkF T N sc e o && chk T N sc (.lit (.int i)) a
  | .forW j tg it b, .For t i body [] _ => chkTg sc so N tg t && chkO T N sc it t i && !(tgIs tg ++ stoSs b).contains j && chkSs sc so b body
  | .whl t b, .While c body [] _ => chk T N sc t c && chkSs sc so b body
  | .ret e, .Return (some v) _ => chkW T N sc e v
  | .retN, .Return none _ => true
  | .pass, .Pass _ => true
  | .pass, .Expr (.Constant (.str _) _ _) _ => true
  | .brk, .Break _ => true
  | .cont, .Continue _ => true
  | .fail, _ => true
  | .asgF i e, .Assign [.Name x p] v _ => tgE sc so N i (.Name x p) && swB sc x p v && chkF T N sc e v
  | .asgP i e, .Assign [.Name x p] v _ => tgE sc so N i (.Name x p) && swB sc x p v && chkF T N sc e v
  | .asgTF is e, .Assign [.Tuple es k p] v _ => chkTg sc so N (.tp is) (.Tuple es k p) && notLc v && (notTp v || (match v with
    | .Tuple vs _ _ => consts vs
    | _ => false)) && chkF T N sc e v
  | .augF i op e, .AugAssign (.Name x p) o v _ => tgE sc so N i (.Name x p) && nameB N sc i x && decide (op = o) && chkF T N sc e v
  | .expF e, .Expr v _ => notLc v && chkF T N sc e v
  | .retF e, .Return (some v) _ => chkF T N sc e v
  | .ifeF t a b, .If c x y _ => chkF T N sc t c && chkSs sc so a x && chkSs sc so b y
  | .whlF t b, .While c body [] _ => chkF T N sc t c && chkSs sc so b body
  | .forF tg it b, .For t i body [] _ => chkTg sc so N tg t && chkFi T N sc it t i && chkSs sc so b body
  | .setF cl i ps f e, .Assign [.Attribute o m _] v _ => decide (m = f) && T.fl cl f && chkPl T N sc i ps o && notLc v && chkF T N sc e v
  | .setX i ps ix e, .Assign [.Subscript o ixe _] v _ => chkPl T N sc i ps o && notLc v && chk T N sc ix ixe && chkF T N sc e v
  | .mutF m i ps es, .Expr (.Call (.Attribute o mm ap) args [] cp) _ => decide (mm = mmN m) && mmA m args && baseB o && (ap.endLine == cp.line) && chkPl T N sc i ps o && (ps.isEmpty || puFs es) && chkFs T N sc es args
  | _, _ => false
def chkSs (sc so : Scope) : Ss → List Stmt → Bool
  | .nil, [] => true
  | .cons (.frz _) ss, xs => chkSs sc so ss xs
  | .cons s ss, x :: xs => chkS sc so s x && chkSs sc so ss xs
  | _, _ => false
end
end G

set_option maxRecDepth 100000
namespace G
open PySem L2
variable {T : Tb} {N : List Str} {c : Ct}
theorem pairE_some {env env1 : Env} {r : Option O} {o : O} (h : pairE env r = some (o, env1)) : r = some o ∧ env1 = env := by
  cases r with
  | none => cases h
  | some x => cases h; exact ⟨rfl, rfl⟩
theorem movE_some {env env1 : Env} {i : Nat} {r : Option O} {o : O} (h : movE env i r = some (o, env1)) : r = some o ∧ env1 = env.set i none := by
  cases r with
  | none => cases h
  | some x => cases h; exact ⟨rfl, rfl⟩
section
variable {X : Cx} {sc so : Scope} {k : Nat} {env env1 : Env} {x : Expr} {o : O} {os : List O}
theorem gW1 {e : Ex} (hx : XOk T c N sc so k X) (hc : chkW1 T N sc e x = true) (he : evW1 c env e = some (o, env1)) : SndV X env x o env1 := by
  have gen : chk T N sc e x = true → pairE env (evR c env e) = some (o, env1) → SndV X env x o env1 := fun hc he => by
    obtain ⟨h1, rfl⟩ := pairE_some he
    have z : Snd X env1 x o := (gE e).r hx hc h1
    exact z.v
  cases e
  case mov i =>
    unfold chkW1 at hc
    dsimp only at hc
    cases x
    case Name y p =>
      obtain ⟨h1, rfl⟩ := movE_some he
      exact sndv_mov hx hc h1
    all_goals cases hc
  all_goals exact gen hc he
theorem keep1 {e : Ex} (he : evW1 c env e = some (o, env1)) {i : Nat} {u : O} (h : env1[i]? = some (some u)) : env[i]? = some (some u) := by
  have mv : ∀ {j : Nat}, env1 = env.set j none → env[i]? = some (some u) := fun {j} z => by
    subst z
    by_cases hj : j = i
    · subst hj
      by_cases hl : j < env.length
      · rw [List.getElem?_set_self hl] at h
        cases h
      · rw [List.set_eq_of_length_le (by omega)] at h
        exact h
    · rw [List.getElem?_set_ne hj] at h
      exact h
  have gen : pairE env (evR c env e) = some (o, env1) → env[i]? = some (some u) := fun he => by
    obtain ⟨_, rfl⟩ := pairE_some he
    exact h
  cases e
  case mov j => exact mv (movE_some he).2
  all_goals exact gen he
theorem evWs_none : ∀ {es : Exs}, evWs c es none = none
  | .nil => rfl
  | .cons e es => by rw [evWs]; exact evWs_none (es := es)
theorem gWs : ∀ {es : Exs} {xs : List Expr} {env env1 : Env} {acc os : List O}, XOk T c N sc so k X → chkWs T N sc es xs = true → evWs c es (some (acc, env)) = some (os, env1) →
    (∃ os', os = acc ++ os' ∧ SndWs X env xs os' env1) ∧ ∀ (i : Nat) (u : O), env1[i]? = some (some u) → env[i]? = some (some u)
  | .nil, xs, env, env1, acc, os, hx, hc, he => by
    cases xs with
    | nil =>
      rw [evWs] at he
      cases he
      exact ⟨⟨[], by simp, sndw_nil⟩, fun _ _ z => z⟩
    | cons => unfold chkWs at hc; cases hc
  | .cons e es, xs, env, env1, acc, os, hx, hc, he => by
    cases xs with
    | nil => unfold chkWs at hc; cases hc
    | cons x xs =>
      unfold chkWs at hc
      rw [Bool.and_eq_true, Bool.and_eq_true] at hc
      rw [evWs] at he
      cases z : evW1 c env e with
      | none =>
        have : pushW c e (some (acc, env)) = none := by
          show snocW acc (evW1 c env e) = none
          rw [z]
          rfl
        rw [this, evWs_none] at he
        cases he
      | some r =>
        obtain ⟨o, env2⟩ := r
        have : pushW c e (some (acc, env)) = some (acc ++ [o], env2) := by
          show snocW acc (evW1 c env e) = _
          rw [z]
          rfl
        rw [this] at he
        obtain ⟨⟨os', e1, e2⟩, kp⟩ := gWs hx hc.2 he
        exact ⟨⟨o :: os', by rw [e1]; simp, sndw_cons hc.1.1 (gW1 hx hc.1.2 z) e2⟩, fun i u y => keep1 z (kp i u y)⟩
theorem mkW_some {f : List O → Option O} {r : Option (List O × Env)} (h : mkW f r = some (o, env1)) : ∃ os, r = some (os, env1) ∧ f os = some o := by
  cases r with
  | none => cases h
  | some r =>
    obtain ⟨os, e⟩ := r
    obtain ⟨h1, rfl⟩ := pairE_some h
    exact ⟨os, rfl, h1⟩
theorem gW {e : Ex} (hx : XOk T c N sc so k X) (hc : chkW T N sc e x = true) (he : evW c env e = some (o, env1)) : SndV X env x o env1 := by
  have gen : chk T N sc e x = true → pairE env (evR c env e) = some (o, env1) → SndV X env x o env1 := fun hc he => by
    obtain ⟨h1, rfl⟩ := pairE_some he
    have z : Snd X env1 x o := (gE e).r hx hc h1
    exact z.v
  cases e
  case mov i => exact gW1 (e := .mov i) hx hc he
  case tup es =>
    unfold chkW at hc
    rw [evW] at he
    dsimp only at hc
    split at hc
    · obtain ⟨os, h1, h2⟩ := mkW_some he
      obtain ⟨⟨os', e1, e2⟩, _⟩ := gWs hx hc h1
      rw [List.nil_append] at e1
      subst e1
      exact sndv_tup e2 h2
    · cases hc
  case lst es =>
    unfold chkW at hc
    rw [evW] at he
    dsimp only at hc
    split at hc
    · obtain ⟨os, h1, h2⟩ := mkW_some he
      obtain ⟨⟨os', e1, e2⟩, _⟩ := gWs hx hc h1
      rw [List.nil_append] at e1
      subst e1
      exact sndv_lst e2 h2
    · cases hc
  all_goals exact gen hc he
end
/-! ### ends -/
/-- the slots of π are bound as at first -/
def Pin (π : List Nat) (σ0 σ : L2.St) : Prop := ∀ j ∈ π, σ[j]? = σ0[j]?
theorem Pin.set {π : List Nat} {σ0 σ : L2.St} {i : Nat} {v : Option V} (p : Pin π σ0 σ) (h : i ∉ π) : Pin π σ0 (σ.set i v) := fun j hj => by
  rw [List.getElem?_set_ne (fun e => h (by rw [e]; exact hj))]
  exact p j hj
theorem Pin.sets {π : List Nat} {σ0 σ : L2.St} {is : List Nat} {vs : List V} (p : Pin π σ0 σ) (h : ∀ i ∈ is, i ∉ π) : Pin π σ0 (G.sets is vs σ) := fun j hj => by
  rw [sets_out _ _ _ _ fun z => h j z hj]
  exact p j hj
def End (K : PySem.W.Frag) (W : WX) (π : List Nat) (σ0 : L2.St) (B0 H0 Bs : Hp) (D : Ends) : Fl × Env → Prop
  | (.nx, env) => ∀ B H σ fp, Ext Bs B → Sit B0 H0 B H fp → REnv K B H σ env fp → Pin π σ0 σ → D.nx σ H
  | (.bk, env) => ∀ B H σ fp, Ext Bs B → Sit B0 H0 B H fp → REnv K B H σ env fp → Pin π σ0 σ → D.bk σ H
  | (.ct, env) => ∀ B H σ fp, Ext Bs B → Sit B0 H0 B H fp → REnv K B H σ env fp → Pin π σ0 σ → D.ct σ H
  | (.rt o, env) => ∀ v B H σ f fp, Ext Bs B → Sit B0 H0 B H (f ++ fp) → RO K B H v o f → REnv K B H σ env fp → Pin π σ0 σ → D.rt v H
  | (.ex c us, env) => ∀ cls d B H σ f fp, Ext Bs B → Sit B0 H0 B H (f ++ fp) → RX K B H cls d c us f → REnv K B H σ env fp → Pin π σ0 σ → W cls d σ H
def SndSt (π : List Nat) (W : WX) (X : Cx) (env : Env) (st : Stmt) (r : Fl × Env) : Prop := ∀ ⦃B0 H0 B H : Hp⦄ ⦃σ0 σ : L2.St⦄ ⦃fp : List Addr⦄ ⦃D : Ends⦄, Sit B0 H0 B H fp → REnv X.K B H σ env fp → Pin π σ0 σ → End X.K W π σ0 B0 H0 B D r → wS X st D σ H
def SndSs (π : List Nat) (W : WX) (X : Cx) (env : Env) (sts : List Stmt) (r : Fl × Env) : Prop := ∀ ⦃B0 H0 B H : Hp⦄ ⦃σ0 σ : L2.St⦄ ⦃fp : List Addr⦄ ⦃D : Ends⦄, Sit B0 H0 B H fp → REnv X.K B H σ env fp → Pin π σ0 σ → End X.K W π σ0 B0 H0 B D r → wSs X sts D σ H
theorem End.ext {K : PySem.W.Frag} {W : WX} {π : List Nat} {σ0 : L2.St} {B0 H0 Bs Bt : Hp} {D : Ends} {r : Fl × Env} (e : Ext Bs Bt) (h : End K W π σ0 B0 H0 Bs D r) : End K W π σ0 B0 H0 Bt D r := by
  obtain ⟨f, env⟩ := r
  cases f with
  | nx => exact fun B H σ fp e2 => h B H σ fp (e.trans e2)
  | bk => exact fun B H σ fp e2 => h B H σ fp (e.trans e2)
  | ct => exact fun B H σ fp e2 => h B H σ fp (e.trans e2)
  | rt o => exact fun v B H σ f fp e2 => h v B H σ f fp (e.trans e2)
  | ex c us => exact fun cls d B H σ f fp e2 => h cls d B H σ f fp (e.trans e2)
section
variable {π : List Nat} {W : WX} {X : Cx} {sc so : Scope} {k : Nat} {env env1 : Env} {o : O} {pos : Pos}
theorem no_none : ∀ a ∈ ([] : List Addr), (fun _ => none : Hp) a ≠ none := fun a h => by simp at h
theorem st_pass : SndSt π W X env (.Pass pos) (.nx, env) := fun _ _ _ _ _ _ _ _ t re pn q => ⟨_, ps_pass, q _ _ _ _ (.refl _) t re pn⟩
theorem st_doc {x : Str} {j : Nat} {p : Pos} : SndSt π W X env (.Expr (.Constant (.str x) j p) pos) (.nx, env) := fun _ _ _ _ _ _ _ _ t re pn q => ⟨_, ps_doc, q _ _ _ _ (.refl _) t re pn⟩
theorem st_brk : SndSt π W X env (.Break pos) (.bk, env) := fun _ _ _ _ _ _ _ _ t re pn q => ⟨_, ps_break, q _ _ _ _ (.refl _) t re pn⟩
theorem st_cont : SndSt π W X env (.Continue pos) (.ct, env) := fun _ _ _ _ _ _ _ _ t re pn q => ⟨_, ps_continue, q _ _ _ _ (.refl _) t re pn⟩
theorem st_retN : SndSt π W X env (.Return none pos) (.rt (.pl .none), env) := fun _ _ _ _ _ _ _ _ t re pn q => ⟨_, ps_retN, q .non _ _ _ [] _ (.refl _) t (.pl .non) re pn⟩
theorem SndV.at {x : Expr} (h : SndV X env x o env1) {B0 H0 B H : Hp} {σ : L2.St} {fp : List Addr} {Q : VK} (t : Sit B0 H0 B H fp) (re : REnv X.K B H σ env fp)
    (q : ∀ v B' H' f fp', Ext B B' → Ext H H' → Sit B0 H0 B' H' (f ++ fp') → RO X.K B' H' v o f → REnv X.K B' H' σ env1 fp' → Q v H') : wE X x σ H Q :=
  h (g := []) t (by simp) re fun v B' H' f fp' e1 e2 t' ro re' => q v B' H' f fp' e1 e2 t' ro re'
theorem st_ret {x : Expr} (h : SndV X env x o env1) : SndSt π W X env (.Return (some x) pos) (.rt o, env1) := fun _ _ _ _ _ _ _ D t re pn q =>
  ⟨_, ps_ret wE_ok, h.at t re fun v B' H' f fp' e1 e2 t' ro re' => q v B' H' _ f fp' e1 t' ro re' pn⟩
theorem st_if {x : Expr} {a b : List Stmt} {d : Bool} {r : Fl × Env} (h : SndT X env x d) (h1 : d = true → SndSs π W X env a r) (h2 : d = false → SndSs π W X env b r) : SndSt π W X env (.If x a b pos) r := fun _ _ _ _ _ _ _ D t re pn q =>
  ⟨_, ps_if wT_ok wSs_ok wSs_ok, h t.w re fun B' H' s => by
    cases d with
    | true => exact iteT (h1 rfl (t.stp s re.has) (re.stp s) pn (q.ext s.b))
    | false => exact iteF (h2 rfl (t.stp s re.has) (re.stp s) pn (q.ext s.b))⟩
theorem st_exp {x : Expr} (h : Snd X env x o) (hs : swapsWith x none pos.line X.env = pure false) : SndSt π W X env (.Expr x pos) (.nx, env) := fun _ _ _ _ _ _ _ D t re pn q =>
  ⟨_, ps_expr wE_ok hs, h t.w re fun v B' H' f s ro n => q B' H' _ _ s.b (t.stp s re.has) (re.stp s) pn⟩
theorem st_asg {i : Nat} {x : Expr} {y : Str} {p : Pos} (hi : i ∉ π) (hx : XOk T c N sc so k X) (hy : tgE sc so N i (.Name y p) = true) (h : SndV X env x o env1) (hs : swapsWith x (some (.Name y p)) pos.line X.env = pure false) : SndSt π W X env (.Assign [.Name y p] x pos) (.nx, env1.set i (some o)) := by
  unfold tgE at hy
  rw [Bool.and_eq_true, Bool.and_eq_true, decide_eq_true_eq] at hy
  exact fun _ _ _ _ _ _ _ D t re pn q =>
  ⟨_, ps_set (by rw [hx.n]; exact hx.nd) (by rw [hx.n]; exact hy.1.1) (by rw [hx.sc]; exact loc_ok hy.1.2) wE_ok hs (hx.fn _ hy.2), h.at t re fun v B' H' f fp' e1 e2 t' ro re' => by
    obtain ⟨fp2, t2, re2⟩ := put_fin (g := []) (i := i) t' ro re'
    exact q B' H' _ fp2 e1 t2 re2 (pn.set hi)⟩
theorem st_asgLc {i : Nat} {y : Str} {p lp : Pos} {el tg it : Expr} {ifs : List Expr} {scope : Scope} (hi : i ∉ π) (hx : XOk T c N sc so k X) (hy : tgE sc so N i (.Name y p) = true) (h : LcOk X env scope tg it el ifs o) (hl : sc.names.lookup y = some .local)
    (hsw : swapsWith (.ListComp el [⟨tg, it, ifs, 0⟩] scope lp) (some (.Name y p)) pos.line X.env = pure true) : SndSt π W X env (.Assign [.Name y p] (.ListComp el [⟨tg, it, ifs, 0⟩] scope lp) pos) (.nx, env.set i (some o)) := by
  unfold tgE at hy
  rw [Bool.and_eq_true, Bool.and_eq_true, decide_eq_true_eq] at hy
  obtain ⟨own, wi, g, tt, te, h1, h2, h3, h4, h5, h6, h7, h8, h9⟩ := h
  exact fun _ _ _ _ _ _ fp D t re pn q =>
  ⟨_, ps_setLc h1 h2 (by rw [hx.n]; exact hy.1.1) (by rw [hx.sc]; exact hl) hsw h3 h4 h5 h6 h7 h8, h9 t.w re fun v B' H' f s ro n => by
    obtain ⟨fp2, t2, re2⟩ := put_fin (g := []) (i := i) (t.add s re.has n) ro (re.stp s)
    exact q B' H' _ fp2 s.b t2 re2 (pn.set hi)⟩
theorem st_asgT {is : List Nat} {x : Expr} {es : List Expr} {kk : Nat} {p : Pos} {r : Fl × Env} (hi : ∀ i ∈ is, i ∉ π) (hx : XOk T c N sc so k X) (hy : chkTg sc so N (.tp is) (.Tuple es kk p) = true) (h : SndV X env x o env1) (hr : unpS is (some (o, env1)) = some r)
    (hs : swapsWithSole [.Tuple es kk p] x pos.line X.env = pure false) (hw : swappedStores [.Tuple es kk p] x X.env = pure none) : SndSt π W X env (.Assign [.Tuple es kk p] x pos) r := fun _ _ _ _ _ _ _ D t re pn q =>
  ⟨_, ps_asg wE_ok (chk_Tg hx hy) hs hw, h.at t re fun v B' H' f fp' e1 e2 t' ro re' => by
    cases o with
    | pl pp =>
      have hr : nxE (setTg env1 (.tp is) pp) = some r := hr
      cases z : setTg env1 (.tp is) pp with
      | none => rw [z] at hr; cases hr
      | some e3 =>
        rw [z] at hr
        cases hr
        cases ro with
        | pl rp => exact tg_ok re' t'.right.w rp z fun σ1 f1 ⟨ws, hws⟩ r1 w1 sub => q B' H' σ1 f1 e1 (t'.right.sub w1.nd sub) r1 (by rw [hws]; exact pn.sets hi)
    | fl ps =>
      have hr : nxE (setTg env1 (.tp is) (.list ps)) = some r := hr
      cases z : setTg env1 (.tp is) (.list ps) with
      | none => rw [z] at hr; cases hr
      | some e3 =>
        rw [z] at hr
        cases hr
        cases ro with
        | @fl a vs _ h1 h2 =>
          unfold setTg at z
          dsimp only at z
          split at z
          · rename_i hl
            cases z
            obtain ⟨f2, r2, w2, s2⟩ := REnv.sets (env := env1) re' t'.right.w h2 hl
            have hv : is.length = vs.length := by rw [h2.len, hl]
            exact ⟨a, vs, rfl, .inr (SL.of h1).sq, hv.symm, gNames_ok (σ' := []) hv (q B' H' _ f2 e1 (t'.right.sub w2.nd s2) r2 (pn.sets hi))⟩
          · cases z
    | tup os =>
      unfold unpS at hr
      dsimp only at hr
      split at hr
      · rename_i hl
        cases hr
        cases ro with
        | @tup a vs _ _ h1 h2 =>
          obtain ⟨fp2, t2, re2⟩ := puts_fin t' h2 re' hl
          have hv : is.length = vs.length := by rw [h2.len, hl]
          exact ⟨a, vs, rfl, .inl (.of (t'.w.bh _ _ h1)), hv.symm, gNames_ok (σ' := []) hv (q B' H' _ fp2 e1 t2 re2 (pn.sets hi))⟩
      · cases hr
    | _ => cases hr⟩
theorem st_aug {i : Nat} {x : Expr} {y : Str} {p : Pos} {op : Operator} {ox oy : O} (hi : i ∉ π) (hx : XOk T c N sc so k X) (hy : tgE sc so N i (.Name y p) = true) (hox : slot env i = some ox) (h : Snd X env x oy) (hr : augO op ox oy = some o) : SndSt π W X env (.AugAssign (.Name y p) op x pos) (.nx, env.set i (some o)) := by
  unfold tgE at hy
  rw [Bool.and_eq_true, Bool.and_eq_true, decide_eq_true_eq] at hy
  intro B0 H0 B H σ0 σ fp D t re pn q
  have PA : ∀ {ti : TIp}, PIp X op ti → PS X (.AugAssign (.Name y p) op x pos) (tAug i (wE X x) ti) := fun hp => ps_aug (by rw [hx.n]; exact hx.nd) (by rw [hx.n]; exact hy.1.1) (by rw [hx.sc]; exact loc_ok hy.1.2) wE_ok hp (hx.fn _ hy.2)
  obtain ⟨v, g, h1, h2, h3⟩ := re.get (slot_some hox)
  by_cases hfl : op = .Add ∧ (∃ xs, ox = .fl xs) ∧ ∃ ys, oy = .fl ys
  · obtain ⟨rfl, ⟨xs, rfl⟩, ys, rfl⟩ := hfl
    have hr' : (if xs.length + ys.length ≤ 16777216 then some (O.fl (xs ++ ys)) else none) = some o := hr
    split at hr'
    · rename_i hlen
      cases hr'
      refine ⟨_, PA iop_ext, v, h1, h t.w re fun w B' H' f s ro n => ?_⟩
      have t' := t.stp s re.has
      have re' := re.stp s
      obtain ⟨a, a1, a2, a3, a4⟩ := mutate t' re' (slot_some hox) (.inl ⟨_, rfl⟩)
      rw [h1] at a1
      cases a1
      cases ro with
      | @fl b ws _ hb rb =>
        cases a2 with
        | @fl _ vs _ ha ra =>
          obtain ⟨_, fp2, re2, t2⟩ := a4 (.lst (vs ++ ws)) (.fl (xs ++ ys)) (.fl upd_same (ra.app rb))
          refine ⟨a, b, vs, ws, rfl, rfl, ha, hb, by rw [ra.len, rb.len, line_eq]; omega, ?_⟩
          have es : σ.set i (some (.ref a)) = σ := by
            refine List.ext_getElem? fun j => ?_
            by_cases hj : i = j
            · subst hj
              rw [List.getElem?_set_self (List.getElem?_eq_some_iff.mp h1).1, h1]
            · rw [List.getElem?_set_ne hj]
          show D.nx (σ.set i (some (.ref a))) _
          rw [es]
          exact q B' _ σ fp2 s.b t2 re2 pn
    · cases hr'
  · refine ⟨_, PA (wO_ok (X := X) (f := inplaceOp op)), v, h1, h t.w re fun w B' H' f s ro n => ?_⟩
    rcases aug_ok (X := X) (h2.stp s) ro hr with ⟨pp, rfl, z⟩ | ⟨z1, xs, ys, z2, z3, _⟩
    · refine z _ fun u ru => ?_
      obtain ⟨fp2, t2, re2⟩ := putP_fin (i := i) (t.stp s re.has) ru (re.stp s)
      exact q B' H' _ fp2 s.b t2 re2 (pn.set hi)
    · exact absurd ⟨z1, ⟨xs, z2⟩, ys, z3⟩ hfl
end
end G

set_option maxRecDepth 100000
namespace G
open PySem L2
variable {T : Tb} {N : List Str} {c : Ct}
section
variable {π : List Nat} {W : WX} {X : Cx} {sc so : Scope} {k : Nat} {env env1 : Env} {o : O} {pos : Pos}
/-! o[k] = y -/
theorem st_setI {i : Nat} {v ixe : Expr} {ix : Ex} {x : Str} {p q : Pos} {y : O} {r : Fl × Env} (hx : XOk T c N sc so k X) (hn : nameB N sc i x = true) (hix : chk T N sc ix ixe = true) (h : SndV X env v y env1) (hr : setS c i ix (some (y, env1)) = some r)
    (hl : notLc v = true) : SndSt π W X env (.Assign [.Subscript (.Name x p) ixe q] v pos) r := by
  intro B0 H0 B H σ0 σ fp D t re pn qe
  have hu : X.A.units + 1 < cLine := by have := hx.hu; omega
  have hs : swapsWithSole [.Subscript (.Name x p) ixe q] v pos.line X.env = pure false := by
    cases v <;> first | rfl | cases hl
  have hw : swappedStores [.Subscript (.Name x p) ixe q] v X.env = pure none := by
    cases v <;> rfl
  have hr' : putS env1 i (o2 (fun o k => setO o k y) (slot env1 i) (evR c env1 ix)) = some r := hr
  cases z : o2 (fun o k => setO o k y) (slot env1 i) (evR c env1 ix) with
  | none => rw [z] at hr'; cases hr'
  | some u =>
    rw [z] at hr'
    cases hr'
    obtain ⟨o, kx, e1, e2, e3⟩ := o2_some z
    have ha : ∀ w : Value, assign (.Subscript (.Name x p) ixe q) X.env w = (do
      let ov ← holding [w] (eval (.Name x p) X.env)
      let iv ← holding [w, ov] (eval ixe X.env)
      standAt q
      holding [w, ov, iv] (setItem ov iv w)
      release [w, ov, iv] []) := by
      intro w
      have := chk_nst hix
      have sl : ∀ l u p, ixe ≠ .Slice l u none p := fun l u p z => by
        subst z
        unfold chk at hix
        split at hix <;> first | contradiction | cases hix
      cases ixe <;> first | rfl | (rename_i l u s p; cases s <;> first | rfl | exact absurd rfl (sl _ _ _))
    have hn' := name_ok hx hn (pos := p)
    have main : ∀ {tset : TSet}, PSet X tset → (∀ B' H' (f fp' : List Addr) vy a vk fk, Ext B B' → Sit B0 H0 B' H' (f ++ fp') → RO X.K B' H' vy y f → REnv X.K B' H' σ env1 fp' → σ[i]? = some (some (.ref a)) → RO X.K B' H' vk kx fk → tset (.ref a) vk vy H' fun H3 => D.nx σ H3) → wS X (.Assign [.Subscript (.Name x p) ixe q] v pos) D σ H := by
      intro tset hp hq
      refine ⟨_, ps_asg wE_ok (pg_sub hn' wE_ok hp ha) hs hw, h.at t re fun vy B' H' f fp' b1 b2 t' ro re' => ?_⟩
      obtain ⟨va, g, g1, g2, g3⟩ := re'.get (slot_some e1)
      have hva : ∃ a, va = .ref a := by
        cases o with
        | fl xs => cases g2; exact ⟨_, rfl⟩
        | fd xs => cases g2; exact ⟨_, rfl⟩
        | _ => cases e3
      obtain ⟨a, rfl⟩ := hva
      refine ⟨_, g1, (gE ix).r hx hix e2 t'.right.w re' fun vk B2 H2 fk s rk _ => ?_⟩
      exact hq B2 H2 f fp' vy a vk fk (b1.trans s.b) (t'.stp s (mem_app ro.has re'.has)) (ro.stp s) (re'.stp s) g1 rk
    cases o with
    | fl xs =>
      refine main set_list fun B' H' f fp' vy a vk fk b1 t' ro re' ga rk => ?_
      cases kx with
      | pl kp =>
        cases kp with
        | int j =>
          have e3' : setIn xs (fz y) (ixN xs.length j) = some u := e3
          cases z1 : fz y with
          | none => rw [z1] at e3'; cases e3'
          | some pv =>
            cases z2 : ixN xs.length j with
            | none => rw [z1, z2] at e3'; cases e3'
            | some n =>
              rw [z1, z2] at e3'
              cases e3'
              obtain ⟨B2, b2, t2, rp⟩ := t'.share1 ro z1
              have re2 := re'.mono b2 (H' := H') fun _ _ _ z => z
              obtain ⟨a', m1, m2, m3, m4⟩ := mutate t2 re2 (slot_some e1) (.inl ⟨_, rfl⟩)
              rw [ga] at m1
              cases m1
              cases m2 with
              | @fl _ vs _ hv rv =>
                obtain ⟨_, fp2, re3, t3⟩ := m4 (.lst (vs.set n vy)) (.fl (xs.set n pv)) (.fl upd_same (rv.set rp n))
                have ek := rk.i
                subst ek
                exact ⟨a, vs, j, n, rfl, rfl, hv, by rw [rv.len]; exact z2, qe B2 _ σ fp2 (b1.trans b2) t3 re3 pn⟩
        | _ => cases e3
      | _ => cases e3
    | fd kvs =>
      refine main (set_dict hu) fun B' H' f fp' vy a vk fk b1 t' ro re' ga rk => ?_
      cases kx with
      | pl kp =>
        have e3' : setKn kvs kp (fz y) (keyP kp) = some u := e3
        cases z1 : fz y with
        | none => rw [z1] at e3'; cases e3'
        | some pv =>
          cases z2 : keyP kp with
          | none => rw [z1, z2] at e3'; cases e3'
          | some kk =>
            rw [z1, z2] at e3'
            have e4 : (if kvs.length < 16777216 then some (O.fd (putP kk kp pv kvs)) else none) = some u := e3'
            split at e4
            · rename_i hlen
              cases e4
              obtain ⟨B2, b2, t2, rp⟩ := t'.share1 ro z1
              have re2 := re'.mono b2 (H' := H') fun _ _ _ z => z
              obtain ⟨a', m1, m2, m3, m4⟩ := mutate t2 re2 (slot_some e1) (.inr ⟨_, rfl⟩)
              rw [ga] at m1
              cases m1
              cases m2 with
              | @fd _ us _ hv rv =>
                obtain ⟨_, fp2, re3, t3⟩ := m4 (.dK (putK us kk vy)) (.fd (putP kk kp pv kvs)) (.fd upd_same (rv.put z2 rp))
                have ek : vk = kV kk := by
                  unfold keyP at z2
                  split at z2
                  · cases z2; exact rk.i
                  · cases z2; exact rk.s
                  · cases z2
                subst ek
                exact ⟨a, _, rfl, .k hv (by rw [rv.len, line_eq]; omega), qe B2 _ σ fp2 (b1.trans b2) t3 re3 pn⟩
            · cases e4
      | _ => cases e3
    | _ => cases e3
/-! a method that changes a list -/
theorem bm0 {r : V → List V → Hp → VK → Prop} {name : Str} {id : String} {i : Nat} {x : Str} {p ap cp : Pos} {a : Addr} {vs : List V} {B H : Hp} {σ : L2.St} {Q : VK} (hx : XOk T c N sc so k X) (hn : nameB N sc i x = true) (hl : (ap.endLine == cp.line) = true)
    (slot : Slot "list" name id) (hty : typeOf (.builtin id) = pure (.type "method_descriptor")) (hm : MtR X id r) (h1 : σ[i]? = some (some (.ref a))) (h2 : H a = some (.lst vs)) (q : r (.ref a) [] H Q) : wE X (.Call (.Attribute (.Name x p) name ap) [] [] cp) σ H Q :=
  ⟨_, pe_bm0 PySem.F.plainAttrs_list slot hty hm (name_ok hx hn) rfl hl, _, h1, .inl ⟨rfl, vs, .inl (.of h2)⟩, q⟩
theorem bm1 {r : V → List V → Hp → VK → Prop} {name : Str} {id : String} {i : Nat} {x : Str} {e1 : Expr} {p ap cp : Pos} {a : Addr} {vs : List V} {B H : Hp} {σ : L2.St} {Q : VK} (hx : XOk T c N sc so k X) (hn : nameB N sc i x = true) (hl : (ap.endLine == cp.line) = true) (hs : nst e1 = true)
    (slot : Slot "list" name id) (hty : typeOf (.builtin id) = pure (.type "method_descriptor")) (hm : MtR X id r) (h1 : σ[i]? = some (some (.ref a))) (h2 : H a = some (.lst vs)) (q : wA X [e1] σ H fun us H2 => r (.ref a) us H2 Q) : wE X (.Call (.Attribute (.Name x p) name ap) [e1] [] cp) σ H Q :=
  ⟨_, pe_bm PySem.F.plainAttrs_list slot hty hm (name_ok hx hn) wA_ok rfl (by rw [star_cons hs]; rfl) hl (star_cons hs), _, h1, .inl ⟨rfl, vs, .inl (.of h2)⟩, q⟩
theorem putS_some {i : Nat} {x : Option O} {r : Fl × Env} (h : putS env i x = some r) : ∃ o, x = some o ∧ r = (.nx, env.set i (some o)) := by
  cases x with
  | none => cases h
  | some o => cases h; exact ⟨o, rfl, rfl⟩
theorem st_mut1 {m : MM} {i : Nat} {e : Ex} {x1 : Expr} {x : Str} {p ap cp : Pos} {r : Fl × Env} (hx : XOk T c N sc so k X) (hn : nameB N sc i x = true) (hl : (ap.endLine == cp.line) = true) (hs1 : nst x1 = true) (hc : chkW1 T N sc e x1 = true)
    (hr : mutS m i (evWs c (.cons e .nil) (some ([], env))) = some r) (hm : m = .append ∨ m = .extend) : SndSt π W X env (.Expr (.Call (.Attribute (.Name x p) (mmN m) ap) [x1] [] cp) pos) r := by
  intro B0 H0 B H σ0 σ fp D t re pn q
  have hr0 : mutS m i (snocW [] (evW1 c env e)) = some r := by
    rw [evWs, evWs] at hr
    exact hr
  cases z : evW1 c env e with
  | none => rw [z] at hr0; cases hr0
  | some w =>
    obtain ⟨y0, env1⟩ := w
    rw [z] at hr0
    have hr1 : putS env1 i (o1 (fun o => mutO m o [y0]) (slot env1 i)) = some r := hr0
    obtain ⟨u, hu, rfl⟩ := putS_some hr1
    obtain ⟨o, e1, e2⟩ := o1_some hu
    have s1 := slot_some e1
    have hv := gW1 hx hc z
    obtain ⟨va, g, g1, g2, g3⟩ := re.get (keep1 z s1)
    cases o with
    | fl xs =>
      cases g2 with
      | @fl a vs0 _ hv0 rv0 =>
        refine ⟨_, ps_expr wE_ok rfl, ?_⟩
        rcases hm with rfl | rfl
        · have e3 : appO xs (fz y0) = some u := e2
          cases z1 : fz y0 with
          | none => rw [z1] at e3; cases e3
          | some pv =>
            rw [z1] at e3
            have e4 : (if xs.length < 16777216 then some (O.fl (xs ++ [pv])) else none) = some u := e3
            split at e4
            · rename_i hlen
              cases e4
              refine bm1 (B := B) hx hn hl hs1 PySem.F.slot_list_append PySem.F.type_list_append mt_append g1 hv0 (wA_one hs1 (hv.at t re fun vy B' H' f fp' b1 b2 t' ro re' => ?_))
              obtain ⟨B2, b3, t2, rp⟩ := t'.share1 ro z1
              have re2 := re'.mono b3 (H' := H') fun _ _ _ z => z
              obtain ⟨a', m1, m2, m3, m4⟩ := mutate t2 re2 s1 (.inl ⟨_, rfl⟩)
              rw [g1] at m1
              cases m1
              cases m2 with
              | @fl _ vs _ hv rv =>
                obtain ⟨_, fp2, re3, t3⟩ := m4 (.lst (vs ++ [vy])) (.fl (xs ++ [pv])) (.fl upd_same (rv.app (.cons rp .nil)))
                exact ⟨a, vs, vy, rfl, rfl, hv, by rw [rv.len, line_eq]; omega, q B2 _ σ fp2 (b1.trans b3) t3 re3 pn⟩
            · cases e4
        · cases y0 with
          | fl ys =>
            have e4 : (if xs.length + ys.length ≤ 16777216 then some (O.fl (xs ++ ys)) else none) = some u := e2
            split at e4
            · rename_i hlen
              cases e4
              refine bm1 (B := B) hx hn hl hs1 PySem.F.slot_list_extend PySem.F.type_list_extend mt_extendR g1 hv0 (wA_one hs1 (hv.at t re fun vy B' H' f fp' b1 b2 t' ro re' => ?_))
              obtain ⟨a', m1, m2, m3, m4⟩ := mutate t'.right re' s1 (.inl ⟨_, rfl⟩)
              rw [g1] at m1
              cases m1
              cases m2 with
              | @fl _ vs _ hv rv =>
                cases ro with
                | @fl b ws _ hb rb =>
                  obtain ⟨_, fp2, re3, t3⟩ := m4 (.lst (vs ++ ws)) (.fl (xs ++ ys)) (.fl upd_same (rv.app rb))
                  exact ⟨a, b, vs, ws, rfl, rfl, hv, .of hb, by rw [rv.len, rb.len, line_eq]; omega, q B' _ σ fp2 b1 t3 re3 pn⟩
            · cases e4
          | pl p =>
            cases p with
            | list ys =>
              have e4 : (if xs.length + ys.length ≤ 16777216 then some (O.fl (xs ++ ys)) else none) = some u := e2
              split at e4
              · rename_i hlen
                cases e4
                refine bm1 (B := B) hx hn hl hs1 PySem.F.slot_list_extend PySem.F.type_list_extend mt_extendR g1 hv0 (wA_one hs1 (hv.at t re fun vy B' H' f fp' b1 b2 t' ro re' => ?_))
                obtain ⟨a', m1, m2, m3, m4⟩ := mutate t'.right re' s1 (.inl ⟨_, rfl⟩)
                rw [g1] at m1
                cases m1
                cases m2 with
                | @fl _ vs _ hv rv =>
                  cases ro with
                  | pl rp =>
                    cases rp with
                    | @lst b ws _ hb rb =>
                      obtain ⟨_, fp2, re3, t3⟩ := m4 (.lst (vs ++ ws)) (.fl (xs ++ ys)) (.fl upd_same (rv.app rb))
                      exact ⟨a, b, vs, ws, rfl, rfl, hv, hb.ext t'.w.bh, by rw [rv.len, rb.len, line_eq]; omega, q B' _ σ fp2 b1 t3 re3 pn⟩
              · cases e4
            | _ => cases e2
          | _ => cases e2
    | _ => rcases hm with rfl | rfl <;> cases e2
theorem ins_some {o y1 y2 u : O} (h : mutO .insert o [y1, y2] = some u) : ∃ xs i p, o = .fl xs ∧ y1 = .pl (.int i) ∧ fz y2 = some p ∧ xs.length < 16777216 ∧ 0 ≤ i ∧ i < 2 ^ 63 ∧ u = .fl (xs.take i.toNat ++ [p] ++ xs.drop i.toNat) := by
  unfold mutO at h
  split at h
  all_goals first | (rename_i e; injection e; done) | skip
  all_goals first | (cases h; done) | (exfalso; simp_all; done) | skip
  · rename_i xs i y e1 e2
    injection e2 with e3 e4
    injection e4 with e5 _
    subst e3
    subst e5
    unfold insO at h
    split at h
    · rename_i p hp
      split at h
      · rename_i c
        cases h
        exact ⟨xs, i, p, rfl, rfl, hp, c.1, c.2.1, c.2.2, rfl⟩
      · cases h
    · cases h
theorem bm2 {r : V → List V → Hp → VK → Prop} {name : Str} {id : String} {i : Nat} {x : Str} {e1 e2 : Expr} {p ap cp : Pos} {a : Addr} {vs : List V} {B H : Hp} {σ : L2.St} {Q : VK} (hx : XOk T c N sc so k X) (hn : nameB N sc i x = true) (hl : (ap.endLine == cp.line) = true) (hs : nst e1 = true) (hs2 : nst e2 = true)
    (slot : Slot "list" name id) (hty : typeOf (.builtin id) = pure (.type "method_descriptor")) (hm : MtR X id r) (h1 : σ[i]? = some (some (.ref a))) (h2 : H a = some (.lst vs)) (q : wA X [e1, e2] σ H fun us H2 => r (.ref a) us H2 Q) : wE X (.Call (.Attribute (.Name x p) name ap) [e1, e2] [] cp) σ H Q :=
  ⟨_, pe_bm PySem.F.plainAttrs_list slot hty hm (name_ok hx hn) wA_ok rfl (by rw [star_cons hs, star_cons hs2]; rfl) hl (star_cons hs) (star_any (by simp [hs2])), _, h1, .inl ⟨rfl, vs, .inl (.of h2)⟩, q⟩
theorem evW1_pure {e : Ex} {x1 : Expr} (h : chk T N sc e x1 = true) : evW1 c env e = pairE env (evR c env e) := by
  cases e <;> first | rfl | exact (chk_mov h).elim
theorem st_mut2 {i : Nat} {e1 e2 : Ex} {x1 x2 : Expr} {x : Str} {p ap cp : Pos} {r : Fl × Env} (hx : XOk T c N sc so k X) (hn : nameB N sc i x = true) (hl : (ap.endLine == cp.line) = true) (hs1 : nst x1 = true) (hs2 : nst x2 = true) (hc1 : chk T N sc e1 x1 = true) (hc2 : chk T N sc e2 x2 = true)
    (hr : mutS .insert i (evWs c (.cons e1 (.cons e2 .nil)) (some ([], env))) = some r) : SndSt π W X env (.Expr (.Call (.Attribute (.Name x p) "insert" ap) [x1, x2] [] cp) pos) r := by
  intro B0 H0 B H σ0 σ fp D t re pn q
  have hr0 : mutS .insert i (match evR c env e1 with
    | some o1 => match evR c env e2 with
      | some o2 => some ([o1, o2], env)
      | none => none
    | none => none) = some r := by
    rw [evWs, evWs, evWs] at hr
    have a1 : pushW c e1 (some ([], env)) = snocW [] (pairE env (evR c env e1)) := by
      show snocW [] (evW1 c env e1) = _
      rw [evW1_pure hc1]
    rw [a1] at hr
    cases z1 : evR c env e1 with
    | none => rw [z1] at hr; exact hr
    | some o1 =>
      rw [z1] at hr
      have a2 : pushW c e2 (snocW [] (pairE env (some o1))) = snocW [o1] (pairE env (evR c env e2)) := by
        show snocW [o1] (evW1 c env e2) = _
        rw [evW1_pure hc2]
      rw [a2] at hr
      cases z2 : evR c env e2 with
      | none => rw [z2] at hr; exact hr
      | some o2 => rw [z2] at hr; exact hr
  cases z1 : evR c env e1 with
  | none => rw [z1] at hr0; cases hr0
  | some y1 =>
    cases z2 : evR c env e2 with
    | none => rw [z1, z2] at hr0; cases hr0
    | some y2 =>
      rw [z1, z2] at hr0
      have hr1 : putS env i (o1 (fun o => mutO .insert o [y1, y2]) (slot env i)) = some r := hr0
      obtain ⟨u, hu, rfl⟩ := putS_some hr1
      obtain ⟨o, e1', e2'⟩ := o1_some hu
      have s1 := slot_some e1'
      have hv1 : SndV X env x1 y1 env := ((gE e1).r hx hc1 z1).v
      have hv2 : SndV X env x2 y2 env := ((gE e2).r hx hc2 z2).v
      obtain ⟨xs, ii, pv, rfl, rfl, z3, hlen, h0, h63, rfl⟩ := ins_some e2'
      refine ⟨_, ps_expr wE_ok rfl, ?_⟩
      obtain ⟨va, g, g1, g2, g3⟩ := re.get s1
      cases g2 with
      | @fl a vs0 _ hv0 rv0 =>
        refine bm2 (B := B) hx hn hl hs1 hs2 PySem.F.slot_list_insert PySem.F.type_list_insert mt_insert g1 hv0 (wA_two hs1 hs2 (hv1.at t re fun v1 B1 H1 f1 fp1 b1 c1 t1 ro1 re1 => hv2.at t1.right re1 fun vy B' H' f fp' b2 c2 t' ro re' => ?_))
        obtain ⟨B2, b3, t2, rp⟩ := t'.share1 ro z3
        have re2 := re'.mono b3 (H' := H') fun _ _ _ z => z
        obtain ⟨a', m1, m2, m3, m4⟩ := mutate t2 re2 s1 (.inl ⟨_, rfl⟩)
        rw [g1] at m1
        cases m1
        cases m2 with
        | @fl _ vs _ hv rv =>
          have hvi := ro1.i
          obtain ⟨_, fp2, re3, t3⟩ := m4 (.lst (vs.take ii.toNat ++ [vy] ++ vs.drop ii.toNat)) (.fl (xs.take ii.toNat ++ [pv] ++ xs.drop ii.toNat)) (.fl upd_same (((rv.take ii.toNat).app (.cons rp .nil)).app (rv.drop ii.toNat)))
          exact ⟨a, vs, ii, vy, rfl, by rw [hvi], hv, by rw [rv.len, line_eq]; omega, h0, h63, q B2 _ σ fp2 ((b1.trans b2).trans b3) t3 re3 pn⟩
theorem st_mut0 {m : MM} {i : Nat} {x : Str} {p ap cp : Pos} {r : Fl × Env} (hx : XOk T c N sc so k X) (hn : nameB N sc i x = true) (hl : (ap.endLine == cp.line) = true)
    (hr : mutS m i (evWs c .nil (some ([], env))) = some r) (hm : m = .reverse ∨ m = .clear) : SndSt π W X env (.Expr (.Call (.Attribute (.Name x p) (mmN m) ap) [] [] cp) pos) r := by
  intro B0 H0 B H σ0 σ fp D t re pn q
  have hr1 : putS env i (o1 (fun o => mutO m o []) (slot env i)) = some r := hr
  obtain ⟨u, hu, rfl⟩ := putS_some hr1
  obtain ⟨o, e1, e2⟩ := o1_some hu
  have s1 := slot_some e1
  cases o with
  | fl xs =>
    obtain ⟨a, m1, m2, m3, m4⟩ := mutate t re s1 (.inl ⟨_, rfl⟩)
    cases m2 with
    | @fl _ vs _ hv rv =>
      refine ⟨_, ps_expr wE_ok rfl, ?_⟩
      rcases hm with rfl | rfl
      · have e4 : some (O.fl xs.reverse) = some u := e2
        cases e4
        obtain ⟨_, fp2, re3, t3⟩ := m4 (.lst vs.reverse) (.fl xs.reverse) (.fl upd_same rv.rev)
        exact bm0 (B := B) hx hn hl PySem.F.slot_list_reverse PySem.F.type_list_reverse mt_reverse m1 hv ⟨a, vs, rfl, rfl, hv, q B _ σ fp2 (.refl B) t3 re3 pn⟩
      · have e4 : some (O.fl []) = some u := e2
        cases e4
        obtain ⟨_, fp2, re3, t3⟩ := m4 (.lst []) (.fl []) (.fl upd_same .nil)
        exact bm0 (B := B) hx hn hl PySem.F.slot_list_clear PySem.F.type_list_clear mt_clear m1 hv ⟨a, vs, rfl, rfl, hv, q B _ σ fp2 (.refl B) t3 re3 pn⟩
  | _ => rcases hm with rfl | rfl <;> cases e2
theorem seq_ix {n : Nat} {i : Int} {j : Nat} (h : ixN n i = some j) : seqIndex? i n = some j ∧ j < n ∧ -(n : Int) ≤ i ∧ i < n := ixN_seq h
/-- xs.pop() -/
theorem pop_ok {i : Nat} {es : Exs} {args : List Expr} {x : Str} {p ap cp : Pos} {u v : O} (hx : XOk T c N sc so k X) (hn : nameB N sc i x = true) (hl : (ap.endLine == cp.line) = true) (hc : chks T N sc es args = true)
    (hr : o2 popO (slot env i) (evRs c env es) = some (u, v)) {B0 H0 B H : Hp} {σ : L2.St} {fp : List Addr} {Q : VK} (t : Sit B0 H0 B H fp) (re : REnv X.K B H σ env fp)
    (q : ∀ w B' H' fp', Ext B B' → Sit B0 H0 B' H' fp' → REnv X.K B' H' σ (env.set i (some v)) fp' → (∃ pp, u = .pl pp ∧ RP X.K B' w pp) → Q w H') : wE X (.Call (.Attribute (.Name x p) "pop" ap) args [] cp) σ H Q := by
  obtain ⟨o, os, e1, e2, e3⟩ := o2_some hr
  have s1 := slot_some e1
  cases o with
  | fl xs =>
    cases os with
    | nil =>
      have e4 : popR xs xs.dropLast (xs[xs.length - 1]?) = some (u, v) := e3
      cases z : xs[xs.length - 1]? with
      | none => rw [z] at e4; cases e4
      | some pv =>
        rw [z] at e4
        cases e4
        have ha : args = [] := by
          cases es with
          | nil => exact chks_nil hc
          | cons e es =>
            rw [evRs] at e2
            obtain ⟨_, _, _, _, h⟩ := consA_some e2
            cases h
        subst ha
        obtain ⟨a, m1, m2, m3, m4⟩ := mutate t re s1 (.inl ⟨_, rfl⟩)
        cases m2 with
        | @fl _ vs _ hv rv =>
          obtain ⟨y, y1, y2⟩ := rv.getE z
          obtain ⟨_, fp2, re3, t3⟩ := m4 (.lst vs.dropLast) (.fl xs.dropLast) (.fl upd_same (by
            rw [List.dropLast_eq_take, List.dropLast_eq_take, rv.len]
            exact rv.take _))
          exact bm0 (B := B) hx hn hl PySem.F.slot_list_pop PySem.F.type_list_pop mt_pop m1 hv ⟨a, vs, y, rfl, rfl, hv, by rw [rv.len]; exact y1, q y B _ fp2 (.refl B) t3 re3 ⟨pv, rfl, y2⟩⟩
    | cons o1 os =>
      cases os with
      | cons _ _ =>
        exfalso
        cases o1 with
        | pl p1 => cases p1 <;> cases e3
        | _ => cases e3
      | nil =>
        cases o1 with
        | pl p1 =>
          cases p1 with
          | int j =>
            have e40 : (if okI j then popN xs (ixN xs.length j) else none) = some (u, v) := e3
            have e4' : okI j ∧ popN xs (ixN xs.length j) = some (u, v) := by
              by_cases hj : okI j
              · rw [if_pos hj] at e40; exact ⟨hj, e40⟩
              · rw [if_neg hj] at e40; cases e40
            obtain ⟨hj, e4⟩ := e4'
            cases z : ixN xs.length j with
            | none => rw [z] at e4; cases e4
            | some n =>
              rw [z] at e4
              have e5 : popR xs (xs.eraseIdx n) (xs[n]?) = some (u, v) := e4
              cases z2 : xs[n]? with
              | none => rw [z2] at e5; cases e5
              | some pv =>
                rw [z2] at e5
                cases e5
                have ha : ∃ x1 e, args = [x1] ∧ chk T N sc e x1 = true ∧ evR c env e = some (.pl (.int j)) := by
                  cases es with
                  | nil => rw [evRs] at e2; cases e2
                  | cons e es =>
                    obtain ⟨y, ys, rfl, h1, h2⟩ := chks_cons hc
                    rw [evRs] at e2
                    obtain ⟨a1, as1, f1, f2, f3⟩ := consA_some e2
                    cases f3
                    cases es with
                    | nil => cases chks_nil h2; exact ⟨y, e, rfl, h1, f1⟩
                    | cons e' es' =>
                      rw [evRs] at f2
                      obtain ⟨_, _, _, _, h⟩ := consA_some f2
                      cases h
                obtain ⟨x1, e, rfl, h1, h2⟩ := ha
                obtain ⟨va, g, g1, g2, g3⟩ := re.get s1
                cases g2 with
                | @fl a vs0 _ hv0 rv0 =>
                  refine bm1 (B := B) hx hn hl (chk_nst h1) PySem.F.slot_list_pop PySem.F.type_list_pop mt_popAt g1 hv0 (wA_one (chk_nst h1) ((gE e).r hx h1 h2 t.w re fun vi B' H' f s ro _ => ?_))
                  have ei := ro.i
                  subst ei
                  obtain ⟨a', m1, m2, m3, m4⟩ := mutate (t.stp s re.has) (re.stp s) s1 (.inl ⟨_, rfl⟩)
                  rw [g1] at m1
                  cases m1
                  cases m2 with
                  | @fl _ vs _ hv rv =>
                    obtain ⟨y, y1, y2⟩ := rv.getE z2
                    obtain ⟨_, fp2, re3, t3⟩ := m4 (.lst (vs.eraseIdx n)) (.fl (xs.eraseIdx n)) (.fl upd_same (rv.erase n))
                    obtain ⟨q1, q2, q3, q4⟩ := ixN_seq z
                    exact ⟨a, vs, j, n, y, rfl, rfl, hv, by have := hj.1; omega, by have := hj.2; omega, by rw [rv.len]; exact q1, y1, q y _ _ fp2 s.b t3 re3 ⟨pv, rfl, y2⟩⟩
          | _ => cases e3
        | _ => cases e3
  | _ => exfalso; cases os <;> cases e3
theorem popS_some {j : Nat} {i : Nat} {z : Option (O × O)} {r : Fl × Env} (h : popS env i (some j) z = some r) : ∃ u v, z = some (u, v) ∧ r = (.nx, (env.set i (some v)).set j (some u)) := by
  cases z with
  | none => cases h
  | some w => cases h; exact ⟨_, _, rfl, rfl⟩
theorem popS_some0 {i : Nat} {z : Option (O × O)} {r : Fl × Env} (h : popS env i none z = some r) : ∃ u v, z = some (u, v) ∧ r = (.nx, env.set i (some v)) := by
  cases z with
  | none => cases h
  | some w => cases h; exact ⟨_, _, rfl, rfl⟩
theorem st_pop0 {i : Nat} {es : Exs} {args : List Expr} {x : Str} {p ap cp : Pos} {r : Fl × Env} (hx : XOk T c N sc so k X) (hn : nameB N sc i x = true) (hl : (ap.endLine == cp.line) = true) (hc : chks T N sc es args = true)
    (hr : popS env i none (o2 popO (slot env i) (evRs c env es)) = some r) : SndSt π W X env (.Expr (.Call (.Attribute (.Name x p) "pop" ap) args [] cp) pos) r := by
  obtain ⟨u, v, e1, rfl⟩ := popS_some0 hr
  exact fun _ _ _ _ _ _ _ D t re pn q => ⟨_, ps_expr wE_ok rfl, pop_ok hx hn hl hc e1 t re fun w B' H' fp' e t' re' _ => q B' H' _ fp' e t' re' pn⟩
theorem st_pop1 {i j : Nat} {es : Exs} {args : List Expr} {x y : Str} {p p2 ap cp : Pos} {r : Fl × Env} (hj : j ∉ π) (hx : XOk T c N sc so k X) (hy : tgE sc so N j (.Name y p2) = true) (hn : nameB N sc i x = true) (hl : (ap.endLine == cp.line) = true) (hc : chks T N sc es args = true)
    (hr : popS env i (some j) (o2 popO (slot env i) (evRs c env es)) = some r) : SndSt π W X env (.Assign [.Name y p2] (.Call (.Attribute (.Name x p) "pop" ap) args [] cp) pos) r := by
  obtain ⟨u, v, e1, rfl⟩ := popS_some hr
  unfold tgE at hy
  rw [Bool.and_eq_true, Bool.and_eq_true, decide_eq_true_eq] at hy
  exact fun _ _ _ _ _ _ _ D t re pn q => ⟨_, ps_set (by rw [hx.n]; exact hx.nd) (by rw [hx.n]; exact hy.1.1) (by rw [hx.sc]; exact loc_ok hy.1.2) wE_ok rfl (hx.fn _ hy.2), pop_ok hx hn hl hc e1 t re fun w B' H' fp' e t' re' ⟨pp, hu, rp⟩ => by
    subst hu
    obtain ⟨fp2, t2, re2⟩ := putP_fin (i := j) t' rp re'
    exact q B' H' _ fp2 e t2 re2 (pn.set hj)⟩
/-! loops -/
theorem st_for {tg : Tg} {f : Env → P → Rs} {t it : Expr} {body : List Stmt} {ps : List P} {r : Fl × Env} {e0 : Env} (hp : ∀ i ∈ tgIs tg, i ∉ π) (hx : XOk T c N sc so k X) (htg : chkTg sc so N tg t = true) (hi : SndMF X W env t it (.ok ps) e0) (hs : setB it = true)
    (hf : ∀ env1 p r1, f env1 p = some r1 → ∃ env2, setTg env1 tg p = some env2 ∧ SndSs π W X env2 body r1) (hr : forGo f ps e0 = some r) : SndSt π W X env (.For t it body [] pos) r := by
  intro B0 H0 B H σ0 σ fp D tt re pn q
  refine ⟨_, ps_for hx.pss hx.calm wI_ok (chk_Tg hx htg) wSs_ok (folded_ok hs), ?_⟩
  refine hi (g := []) tt (by simp) re fun J B1 H1 f0 fp1 eb ag t1 ⟨hf0, its⟩ re1 => ?_
  subst hf0
  have t1 : Sit B0 H0 B1 H1 fp1 := t1
  refine ⟨fun i m σ' H' => m = ps.length - i ∧ i ≤ ps.length ∧ ∃ B' fp' env', Sit B0 H0 B' H' fp' ∧ REnv X.K B' H' σ' env' fp' ∧ Pin π σ0 σ' ∧ Ext B1 B' ∧ forGo f (ps.drop i) env' = some r, ⟨_, rfl, Nat.zero_le _, B1, fp1, e0, t1, re1, pn, .refl _, hr⟩, ?_⟩
  rintro i m σ' H' ⟨rfl, hil, B', fp', env', t', re', pn', e', hg⟩
  by_cases hlt : i < ps.length
  · refine .inr ⟨its.go i B' H' ⟨e', fun z => by cases z⟩ t'.w.bh hlt, fun σ2 H2 => ∃ m', m' < ps.length - i ∧ (m' = ps.length - (i + 1) ∧ i + 1 ≤ ps.length ∧ ∃ B' fp' env', Sit B0 H0 B' H2 fp' ∧ REnv X.K B' H2 σ2 env' fp' ∧ Pin π σ0 σ2 ∧ Ext B1 B' ∧ forGo f (ps.drop (i + 1)) env' = some r), fun _ _ z => z, fun x H2 hy => ?_⟩
    obtain ⟨B2, s2, rp⟩ := its.yld i B' H' x H2 _ ⟨e', fun z => by cases z⟩ t'.w.bh (List.getElem?_eq_getElem hlt) hy
    rw [List.drop_eq_getElem_cons hlt] at hg
    have hg' : (match f env' ps[i] with
      | some (.nx, e) => forGo f (ps.drop (i + 1)) e
      | some (.bk, e) => some (.nx, e)
      | some (.rt o, e) => some (.rt o, e)
      | some (.ct, e) => forGo f (ps.drop (i + 1)) e
      | some (.ex c us, e) => some (.ex c us, e)
      | none => none) = some r := hg
    cases hfe : f env' ps[i] with
    | none => rw [hfe] at hg'; cases hg'
    | some r1 =>
      obtain ⟨env2, h2, hsn⟩ := hf _ _ _ hfe
      rw [hfe] at hg'
      have t2 := t'.stp s2 re'.has
      refine tg_ok (re'.stp s2) t2.w rp h2 fun σ1 f1 ⟨ws, hws⟩ r2 w2 sub => ?_
      have t3 := t2.sub w2.nd sub
      refine hsn t3 r2 (by rw [hws]; exact pn'.sets hp) ?_
      obtain ⟨fl, e2⟩ := r1
      cases fl with
      | nx => exact fun B4 H4 σ4 fp4 e4 t4 r4 p4 => ⟨_, by omega, rfl, by omega, B4, fp4, e2, t4, r4, p4, (e'.trans s2.b).trans e4, hg'⟩
      | ct => exact fun B4 H4 σ4 fp4 e4 t4 r4 p4 => ⟨_, by omega, rfl, by omega, B4, fp4, e2, t4, r4, p4, (e'.trans s2.b).trans e4, hg'⟩
      | bk =>
        have hg'' : some (Fl.nx, e2) = some r := hg'
        cases hg''
        exact fun B4 H4 σ4 fp4 e4 t4 r4 p4 => q B4 H4 σ4 fp4 (((eb.trans e').trans s2.b).trans e4) t4 r4 p4
      | rt o =>
        have hg'' : some (Fl.rt o, e2) = some r := hg'
        cases hg''
        exact fun v B4 H4 σ4 f4 fp4 e4 t4 ro r4 p4 => q v B4 H4 σ4 f4 fp4 (((eb.trans e').trans s2.b).trans e4) t4 ro r4 p4
      | ex cn us =>
        have hg'' : some (Fl.ex cn us, e2) = some r := hg'
        cases hg''
        exact fun cls d B4 H4 σ4 f4 fp4 e4 t4 rx r4 p4 => q cls d B4 H4 σ4 f4 fp4 (((eb.trans e').trans s2.b).trans e4) t4 rx r4 p4
  · have ei : i = ps.length := by omega
    subst ei
    refine .inl ⟨its.stop _ B' H' ⟨e', fun z => by cases z⟩ t'.w.bh rfl, ?_⟩
    rw [List.drop_length] at hg
    have hg' : some (Fl.nx, env') = some r := hg
    cases hg'
    exact q B' H' σ' fp' (eb.trans e') t' re' pn'
theorem st_forX {tg : Tg} {t it : Expr} {body : List Stmt} {cn : Str} {us : List (Str × P)} {e0 : Env} (hx : XOk T c N sc so k X) (htg : chkTg sc so N tg t = true) (hi : SndMF X W env t it (.ex cn us) e0) (hs : setB it = true) : SndSt π W X env (.For t it body [] pos) (.ex cn us, e0) := by
  intro B0 H0 B H σ0 σ fp D tt re pn q
  refine ⟨_, ps_for hx.pss hx.calm wI_ok (chk_Tg hx htg) (wSs_ok (X := X)) (folded_ok hs), ?_⟩
  exact hi (g := []) tt (by simp) re fun cls d B' H' f fp' e a t' rx re' => q cls d B' H' σ f fp' e t' rx re' pn
theorem whl_turn {te : Env → Rf O} {f : Env → Rs} {m : Nat} {r : Fl × Env} (h : whlGoF te f (m + 1) env = some r) : (∃ cn us e, te env = some (.ex cn us, e) ∧ r = (.ex cn us, e)) ∨ ∃ b e1, te env = some (.ok (.pl (.bool b)), e1) ∧ (b = false → r = (.nx, e1)) ∧ (b = true → ∃ r1, f e1 = some r1 ∧ (match r1 with
    | (.nx, e) => whlGoF te f m e = some r
    | (.ct, e) => whlGoF te f m e = some r
    | (.bk, e) => r = (.nx, e)
    | (.rt o, e) => r = (.rt o, e)
    | (.ex c us, e) => r = (.ex c us, e))) := by
  rw [whlGoF] at h
  unfold bndS at h
  split at h
  · rename_i o e1 z
    obtain ⟨b, h1, h2, h3⟩ := ifB_some h
    cases h1
    refine .inr ⟨b, e1, z, fun y => by cases h3 y; rfl, fun y => ?_⟩
    have h4 := h2 y
    cases hf : f e1 with
    | none => rw [hf] at h4; cases h4
    | some r1 =>
      rw [hf] at h4
      refine ⟨r1, rfl, ?_⟩
      obtain ⟨fl, e2⟩ := r1
      cases fl with
      | nx => exact h4
      | ct => exact h4
      | bk => exact (Option.some.inj h4).symm
      | rt o => exact (Option.some.inj h4).symm
      | ex c us => exact (Option.some.inj h4).symm
  · rename_i cn us e1 z
    cases h
    exact .inl ⟨cn, us, e1, z, rfl⟩
  · cases h
theorem st_whlF {te : Env → Rf O} {f : Env → Rs} {x : Expr} {body : List Stmt} {n : Nat} {r : Fl × Env} (hx : XOk T c N sc so k X) (ht : ∀ env1 rs e rb, te env1 = some (rs, e) → TB rs rb → SndFT X W env1 x rb e) (hf : ∀ env1 r1, f env1 = some r1 → SndSs π W X env1 body r1) (hr : whlGoF te f n env = some r) :
    SndSt π W X env (.While x body [] pos) r := by
  intro B0 H0 B H σ0 σ fp D tt re pn q
  refine ⟨_, ps_while hx.pss wT_ok wSs_ok, ?_⟩
  refine ⟨fun m σ' H' => ∃ B' fp' env', Sit B0 H0 B' H' fp' ∧ REnv X.K B' H' σ' env' fp' ∧ Pin π σ0 σ' ∧ Ext B B' ∧ whlGoF te f m env' = some r, ⟨n, B, fp, env, tt, re, pn, .refl _, hr⟩, ?_⟩
  rintro m σ' H' ⟨B', fp', env', t', re', pn', e', hg⟩
  cases m with
  | zero => cases hg
  | succ m =>
    rcases whl_turn hg with ⟨cn, us, e1, h1, rfl⟩ | ⟨b, e1, h1, h2, h3⟩
    · exact ht _ _ _ _ h1 (.ex cn us) (g := []) t' (by simp) re' fun cls d B2 H2 f2 fp2 e2 a2 t2 rx r2 => q cls d B2 H2 σ' f2 fp2 (e'.trans e2) t2 rx r2 pn'
    · refine ht _ _ _ _ h1 (.ok b) (g := []) t' (by simp) re' fun b1 B2 H2 f2 fp2 e2 a2 t2 ⟨z1, z2⟩ r2 => ?_
      subst z1
      subst z2
      have t2 : Sit B0 H0 B2 H2 fp2 := t2
      cases b1 with
      | false =>
        have := h2 rfl
        subst this
        exact iteF (q B2 H2 σ' fp2 (e'.trans e2) t2 r2 pn')
      | true =>
        obtain ⟨r1, h4, h5⟩ := h3 rfl
        refine iteT ⟨fun σ2 H2 => ∃ m', m' < m + 1 ∧ ∃ B' fp' env', Sit B0 H0 B' H2 fp' ∧ REnv X.K B' H2 σ2 env' fp' ∧ Pin π σ0 σ2 ∧ Ext B B' ∧ whlGoF te f m' env' = some r, fun _ _ z => z, ?_⟩
        refine hf _ _ h4 t2 r2 pn' ?_
        obtain ⟨fl, e3⟩ := r1
        cases fl with
        | nx => exact fun B4 H4 σ4 fp4 e4 t4 r4 p4 => ⟨m, by omega, B4, fp4, e3, t4, r4, p4, (e'.trans e2).trans e4, h5⟩
        | ct => exact fun B4 H4 σ4 fp4 e4 t4 r4 p4 => ⟨m, by omega, B4, fp4, e3, t4, r4, p4, (e'.trans e2).trans e4, h5⟩
        | bk =>
          have h5 : r = (.nx, e3) := h5
          subst h5
          exact fun B4 H4 σ4 fp4 e4 t4 r4 p4 => q B4 H4 σ4 fp4 ((e'.trans e2).trans e4) t4 r4 p4
        | rt o =>
          have h5 : r = (.rt o, e3) := h5
          subst h5
          exact fun v B4 H4 σ4 f4 fp4 e4 t4 ro r4 p4 => q v B4 H4 σ4 f4 fp4 ((e'.trans e2).trans e4) t4 ro r4 p4
        | ex cn us =>
          have h5 : r = (.ex cn us, e3) := h5
          subst h5
          exact fun cls d B4 H4 σ4 f4 fp4 e4 t4 rx r4 p4 => q cls d B4 H4 σ4 f4 fp4 ((e'.trans e2).trans e4) t4 rx r4 p4
/-- .. whose test changes nothing -/
theorem whl_pure {te : Env → Option O} {f : Env → Rs} : ∀ {n : Nat} {env : Env} {r : Fl × Env}, whlGo te f n env = some r → whlGoF (fun e => okE e (te e)) f n env = some r
  | 0, _, _, h => by cases h
  | n + 1, env, r, h => by
    have h' : ifB (te env) (match f env with
      | some (.nx, e) => whlGo te f n e
      | some (.bk, e) => some (.nx, e)
      | some (.rt o, e) => some (.rt o, e)
      | some (.ct, e) => whlGo te f n e
      | some (.ex c us, e) => some (.ex c us, e)
      | none => none) (some (.nx, env)) = some r := h
    obtain ⟨b, h1, h2, h3⟩ := ifB_some h'
    rw [whlGoF, h1]
    show ifB (some (.pl (.bool b))) _ _ = some r
    cases b with
    | false => exact h3 rfl
    | true =>
      have h4 := h2 rfl
      show (match f env with
        | some (.nx, e) => whlGoF (fun e => okE e (te e)) f n e
        | some (.bk, e) => some (.nx, e)
        | some (.rt o, e) => some (.rt o, e)
        | some (.ct, e) => whlGoF (fun e => okE e (te e)) f n e
        | some (.ex c us, e) => some (.ex c us, e)
        | none => none) = some r
      cases hf : f env with
      | none => rw [hf] at h4; cases h4
      | some r1 =>
        rw [hf] at h4
        obtain ⟨fl, e2⟩ := r1
        cases fl with
        | nx => exact whl_pure h4
        | ct => exact whl_pure h4
        | bk => exact h4
        | rt o => exact h4
        | ex c us => exact h4
theorem st_whl {te : Env → Option O} {f : Env → Rs} {x : Expr} {body : List Stmt} {n : Nat} {r : Fl × Env} (hx : XOk T c N sc so k X) (ht : ∀ env1 b, te env1 = some (.pl (.bool b)) → SndT X env1 x b) (hf : ∀ env1 r1, f env1 = some r1 → SndSs π W X env1 body r1) (hr : whlGo te f n env = some r) :
    SndSt π W X env (.While x body [] pos) r := st_whlF hx (fun env1 rs e rb h tb => by
      obtain ⟨o, h1, rfl, rfl⟩ := okE_some h
      cases tb
      exact (ht _ _ h1).f) hf (whl_pure hr)
/-! sequences -/
theorem ss_nil : SndSs π W X env [] (.nx, env) := fun _ _ _ _ _ _ _ D t re pn q => ⟨_, pss_nil, q _ _ _ _ (.refl _) t re pn⟩
theorem ss_next {st : Stmt} {rest : List Stmt} {r : Fl × Env} (h1 : SndSt π W X env st (.nx, env1)) (h2 : SndSs π W X env1 rest r) : SndSs π W X env (st :: rest) r := fun _ _ B _ _ _ _ D t re pn q =>
  ⟨_, pss_cons wS_ok wSs_ok, h1 t re pn fun B' H' σ' fp' e t' re' pn' => h2 t' re' pn' (q.ext e)⟩
theorem ss_end {st : Stmt} {rest : List Stmt} {fl : Fl} (hf : fl ≠ .nx) (h1 : SndSt π W X env st (fl, env1)) : SndSs π W X env (st :: rest) (fl, env1) := fun _ _ B _ _ _ _ D t re pn q =>
  ⟨_, pss_cons wS_ok wSs_ok, h1 t re pn (by
    cases fl with
    | nx => exact absurd rfl hf
    | rt o => exact q
    | bk => exact q
    | ct => exact q
    | ex c us => exact q)⟩
/-- a slot's thing becomes shared -/
theorem ss_frz {i : Nat} {sts : List Stmt} {r : Fl × Env} {p : P} (hs : slot env i = some o) (hp : fz o = some p) (h : SndSs π W X (env.set i (some (.pl p))) sts r) : SndSs π W X env sts r := fun B0 H0 B H σ0 σ fp D t re pn q => by
  obtain ⟨v, g, r', h1, h2, h3, h4⟩ := re.take (slot_some hs)
  obtain ⟨B2, e2, t2, rp⟩ := (t.perm h3).share1 h2 hp
  have hi := (List.getElem?_eq_some_iff.mp (slot_some hs)).1
  obtain ⟨f', p1, re2⟩ := (h4.mono e2 (H' := H) fun _ _ _ z => z).putN (i := i) (v := v) (o := .pl p) (g := []) (by rw [List.getElem?_set_self hi]) (.pl rp)
  rw [List.set_set] at re2
  rw [st_same h1] at re2
  exact h (t2.perm (by simpa using p1.symm)) re2 pn (q.ext e2)
end
end G

set_option maxRecDepth 100000
namespace G
open PySem L2
variable {T : Tb} {N : List Str} {c : Ct}
section
variable {π : List Nat} {W : WX} {X : Cx} {sc so : Scope} {k : Nat} {env env1 : Env} {o : O} {pos : Pos} {rs : Rx O}
theorem bndS_some {α : Type} {z : Rf α} {f : α → Env → Rs} {r : Fl × Env} (h : bndS z f = some r) : (∃ cn us e, z = some (.ex cn us, e) ∧ r = (.ex cn us, e)) ∨ ∃ a e, z = some (.ok a, e) ∧ f a e = some r := by
  unfold bndS at h
  split at h
  · exact .inr ⟨_, _, rfl, h⟩
  · cases h; exact .inl ⟨_, _, _, rfl, rfl⟩
  · cases h
theorem SndF.at {x : Expr} (h : SndF X W env x rs env1) {B0 H0 B H : Hp} {σ : L2.St} {fp : List Addr} {Q : VK} (t : Sit B0 H0 B H fp) (re : REnv X.K B H σ env fp) (q : CF (RO X.K) X.K W B0 H0 [] B H σ env1 Q rs) : wE X x σ H Q := h (g := []) t (by simp) re q
/-- an error leaves -/
theorem exq {α β : Type} {Rel : Hp → Hp → β → α → List Addr → Prop} {B0 H0 B H : Hp} {σ0 σ : L2.St} {D : Ends} {cn : Str} {us : List (Str × P)} {Q : β → Hp → Prop} (pn : Pin π σ0 σ) (q : End X.K W π σ0 B0 H0 B D (.ex cn us, env1)) : CF Rel X.K W B0 H0 [] B H σ env1 Q (.ex cn us) :=
  fun cls d B' H' f fp' e a t' rx re' => q cls d B' H' σ f fp' e t' rx re' pn
theorem st_asgF {i : Nat} {x : Expr} {y : Str} {p : Pos} {r : Fl × Env} (hi : i ∉ π) (hx : XOk T c N sc so k X) (hy : tgE sc so N i (.Name y p) = true) (h : SndF X W env x rs env1) (hr : bndS (some (rs, env1)) (fun o e1 => some (.nx, e1.set i (some o))) = some r) (hs : swapsWith x (some (.Name y p)) pos.line X.env = pure false) : SndSt π W X env (.Assign [.Name y p] x pos) r := by
  unfold tgE at hy
  rw [Bool.and_eq_true, Bool.and_eq_true, decide_eq_true_eq] at hy
  have P := fun (D : Ends) => ps_set (X := X) (by rw [hx.n]; exact hx.nd) (by rw [hx.n]; exact hy.1.1) (by rw [hx.sc]; exact loc_ok hy.1.2) (wE_ok (X := X) (e := x)) hs (hx.fn _ hy.2)
  cases rs with
  | ok o =>
    cases hr
    exact fun _ _ _ _ _ _ _ D t re pn q => ⟨_, P D, h.at t re fun v B' H' f fp' e1 a t' ro re' => by
      obtain ⟨fp2, t2, re2⟩ := put_fin (g := []) (i := i) t' ro re'
      exact q B' H' _ fp2 e1 t2 re2 (pn.set hi)⟩
  | ex cn us =>
    cases hr
    exact fun _ _ _ _ _ _ _ D t re pn q => ⟨_, P D, h.at t re (exq pn q)⟩
theorem st_asgP {i : Nat} {x : Expr} {y : Str} {p : Pos} {r : Fl × Env} (hi : i ∉ π) (hx : XOk T c N sc so k X) (hy : tgE sc so N i (.Name y p) = true) (h : SndF X W env x rs env1) (hr : bndS (some (rs, env1)) (fun o e1 => putS e1 i (toP (fz o))) = some r) (hs : swapsWith x (some (.Name y p)) pos.line X.env = pure false) : SndSt π W X env (.Assign [.Name y p] x pos) r := by
  unfold tgE at hy
  rw [Bool.and_eq_true, Bool.and_eq_true, decide_eq_true_eq] at hy
  have P := fun (D : Ends) => ps_set (X := X) (by rw [hx.n]; exact hx.nd) (by rw [hx.n]; exact hy.1.1) (by rw [hx.sc]; exact loc_ok hy.1.2) (wE_ok (X := X) (e := x)) hs (hx.fn _ hy.2)
  cases rs with
  | ok o =>
    have hr : putS env1 i (toP (fz o)) = some r := hr
    obtain ⟨u, hu, rfl⟩ := putS_some hr
    obtain ⟨pp, hp, rfl⟩ := toP_some hu
    exact fun _ _ _ _ _ _ _ D t re pn q => ⟨_, P D, h.at t re fun v B' H' f fp' e1 a t' ro re' => by
      obtain ⟨B2, e2, t2, rp⟩ := Sit.share1 (f := f) (fp := fp') t' ro hp
      obtain ⟨fp2, t3, re2⟩ := putP_fin (i := i) t2 rp (re'.mono e2 fun _ _ _ z => z)
      exact q B2 H' _ fp2 (e1.trans e2) t3 re2 (pn.set hi)⟩
  | ex cn us =>
    cases hr
    exact fun _ _ _ _ _ _ _ D t re pn q => ⟨_, P D, h.at t re (exq pn q)⟩
theorem st_asgFLc {i : Nat} {y : Str} {p lp : Pos} {el tg it : Expr} {ifs : List Expr} {scope : Scope} {r : Fl × Env} (hi : i ∉ π) (hx : XOk T c N sc so k X) (hy : tgE sc so N i (.Name y p) = true) (h : LcF X W env scope tg it el ifs rs env1) (hl : sc.names.lookup y = some .local)
    (hsw : swapsWith (.ListComp el [⟨tg, it, ifs, 0⟩] scope lp) (some (.Name y p)) pos.line X.env = pure true) (hr : bndS (some (rs, env1)) (fun o e1 => some (.nx, e1.set i (some o))) = some r) : SndSt π W X env (.Assign [.Name y p] (.ListComp el [⟨tg, it, ifs, 0⟩] scope lp) pos) r := by
  unfold tgE at hy
  rw [Bool.and_eq_true, Bool.and_eq_true, decide_eq_true_eq] at hy
  obtain ⟨own, wi, gg, tt, te, h1, h2, h3, h4, h5, h6, h7, h8, h9⟩ := h
  have P := ps_setLc h1 h2 (by rw [hx.n]; exact hy.1.1) (by rw [hx.sc]; exact hl) hsw h3 h4 h5 h6 h7 h8
  cases rs with
  | ok o =>
    cases hr
    exact fun _ _ _ _ _ _ fp D t re pn q => ⟨_, P, h9 (g := []) t (by simp) re fun v B' H' f fp' e1 a t' ro re' => by
      obtain ⟨fp2, t2, re2⟩ := put_fin (g := []) (i := i) t' ro re'
      exact q B' H' _ fp2 e1 t2 re2 (pn.set hi)⟩
  | ex cn us =>
    cases hr
    exact fun _ _ _ _ _ _ _ D t re pn q => ⟨_, P, h9 (g := []) t (by simp) re (exq pn q)⟩
theorem st_asgPLc {i : Nat} {y : Str} {p lp : Pos} {el tg it : Expr} {ifs : List Expr} {scope : Scope} {r : Fl × Env} (hi : i ∉ π) (hx : XOk T c N sc so k X) (hy : tgE sc so N i (.Name y p) = true) (h : LcF X W env scope tg it el ifs rs env1) (hl : sc.names.lookup y = some .local)
    (hsw : swapsWith (.ListComp el [⟨tg, it, ifs, 0⟩] scope lp) (some (.Name y p)) pos.line X.env = pure true) (hr : bndS (some (rs, env1)) (fun o e1 => putS e1 i (toP (fz o))) = some r) : SndSt π W X env (.Assign [.Name y p] (.ListComp el [⟨tg, it, ifs, 0⟩] scope lp) pos) r := by
  unfold tgE at hy
  rw [Bool.and_eq_true, Bool.and_eq_true, decide_eq_true_eq] at hy
  obtain ⟨own, wi, gg, tt, te, h1, h2, h3, h4, h5, h6, h7, h8, h9⟩ := h
  have P := ps_setLc h1 h2 (by rw [hx.n]; exact hy.1.1) (by rw [hx.sc]; exact hl) hsw h3 h4 h5 h6 h7 h8
  cases rs with
  | ok o =>
    have hr : putS env1 i (toP (fz o)) = some r := hr
    obtain ⟨u, hu, rfl⟩ := putS_some hr
    obtain ⟨pp, hp, rfl⟩ := toP_some hu
    exact fun _ _ _ _ _ _ fp D t re pn q => ⟨_, P, h9 (g := []) t (by simp) re fun v B' H' f fp' e1 a t' ro re' => by
      obtain ⟨B2, e2, t2, rp⟩ := Sit.share1 (f := f) (fp := fp') t' ro hp
      obtain ⟨fp2, t3, re2⟩ := putP_fin (i := i) t2 rp (re'.mono e2 fun _ _ _ z => z)
      exact q B2 H' _ fp2 (e1.trans e2) t3 re2 (pn.set hi)⟩
  | ex cn us =>
    cases hr
    exact fun _ _ _ _ _ _ _ D t re pn q => ⟨_, P, h9 (g := []) t (by simp) re (exq pn q)⟩
theorem st_asgTF {is : List Nat} {x : Expr} {es : List Expr} {kk : Nat} {p : Pos} {r : Fl × Env} (hi : ∀ i ∈ is, i ∉ π) (hx : XOk T c N sc so k X) (hy : chkTg sc so N (.tp is) (.Tuple es kk p) = true) (h : SndF X W env x rs env1) (hr : bndS (some (rs, env1)) (fun o e1 => unpS is (some (o, e1))) = some r)
    (hs : swapsWithSole [.Tuple es kk p] x pos.line X.env = pure false) (hw : swappedStores [.Tuple es kk p] x X.env = pure none) : SndSt π W X env (.Assign [.Tuple es kk p] x pos) r := by
  cases rs with
  | ex cn us =>
    cases hr
    exact fun _ _ _ _ _ _ _ D t re pn q => ⟨_, ps_asg wE_ok (chk_Tg hx hy) hs hw, h.at t re (exq pn q)⟩
  | ok o =>
    have hr : unpS is (some (o, env1)) = some r := hr
    exact fun _ _ _ _ _ _ _ D t re pn q => ⟨_, ps_asg wE_ok (chk_Tg hx hy) hs hw, h.at t re fun v B' H' f fp' e1 a t' ro re' => by
      have t' : Sit _ _ B' H' (f ++ fp') := t'
      cases o with
      | pl pp =>
        have hr : nxE (setTg env1 (.tp is) pp) = some r := hr
        cases z : setTg env1 (.tp is) pp with
        | none => rw [z] at hr; cases hr
        | some e3 =>
          rw [z] at hr
          cases hr
          cases ro with
          | pl rp => exact tg_ok re' t'.right.w rp z fun σ1 f1 ⟨ws, hws⟩ r1 w1 sub => q B' H' σ1 f1 e1 (t'.right.sub w1.nd sub) r1 (by rw [hws]; exact pn.sets hi)
      | fl ps =>
        have hr : nxE (setTg env1 (.tp is) (.list ps)) = some r := hr
        cases z : setTg env1 (.tp is) (.list ps) with
        | none => rw [z] at hr; cases hr
        | some e3 =>
          rw [z] at hr
          cases hr
          cases ro with
          | @fl a vs _ h1 h2 =>
            unfold setTg at z
            dsimp only at z
            split at z
            · rename_i hl
              cases z
              obtain ⟨f2, r2, w2, s2⟩ := REnv.sets (env := env1) re' t'.right.w h2 hl
              have hv : is.length = vs.length := by rw [h2.len, hl]
              exact ⟨a, vs, rfl, .inr (SL.of h1).sq, hv.symm, gNames_ok (σ' := []) hv (q B' H' _ f2 e1 (t'.right.sub w2.nd s2) r2 (pn.sets hi))⟩
            · cases z
      | tup os =>
        unfold unpS at hr
        dsimp only at hr
        split at hr
        · rename_i hl
          cases hr
          cases ro with
          | @tup a vs _ _ h1 h2 =>
            obtain ⟨fp2, t2, re2⟩ := puts_fin t' h2 re' hl
            have hv : is.length = vs.length := by rw [h2.len, hl]
            exact ⟨a, vs, rfl, .inl (.of (t'.w.bh _ _ h1)), hv.symm, gNames_ok (σ' := []) hv (q B' H' _ fp2 e1 t2 re2 (pn.sets hi))⟩
        · cases hr
      | _ => cases hr⟩
theorem st_expF {x : Expr} {r : Fl × Env} (h : SndF X W env x rs env1) (hr : bndS (some (rs, env1)) (fun _ e1 => some (Fl.nx, e1)) = some r) (hs : swapsWith x none pos.line X.env = pure false) : SndSt π W X env (.Expr x pos) r := by
  cases rs with
  | ok o =>
    cases hr
    exact fun _ _ _ _ _ _ _ D t re pn q => ⟨_, ps_expr wE_ok hs, h.at t re fun v B' H' f fp' e1 a t' ro re' => q B' H' _ fp' e1 (Sit.right (f := f) t') re' pn⟩
  | ex cn us =>
    cases hr
    exact fun _ _ _ _ _ _ _ D t re pn q => ⟨_, ps_expr wE_ok hs, h.at t re (exq pn q)⟩
theorem st_retF {x : Expr} {r : Fl × Env} (h : SndF X W env x rs env1) (hr : bndS (some (rs, env1)) (fun o e1 => some (Fl.rt o, e1)) = some r) : SndSt π W X env (.Return (some x) pos) r := by
  cases rs with
  | ok o =>
    cases hr
    exact fun _ _ _ _ _ _ _ D t re pn q => ⟨_, ps_ret wE_ok, h.at t re fun v B' H' f fp' e1 a t' ro re' => q v B' H' _ f fp' e1 t' ro re' pn⟩
  | ex cn us =>
    cases hr
    exact fun _ _ _ _ _ _ _ D t re pn q => ⟨_, ps_ret wE_ok, h.at t re (exq pn q)⟩
theorem st_ifF {x : Expr} {a b : List Stmt} {r : Fl × Env} {rb : Rx Bool} (h : SndFT X W env x rb env1) (h1 : rb = .ok true → SndSs π W X env1 a r) (h2 : rb = .ok false → SndSs π W X env1 b r) (h3 : ∀ cn us, rb = .ex cn us → r = (.ex cn us, env1)) : SndSt π W X env (.If x a b pos) r := by
  cases rb with
  | ex cn us =>
    have := h3 _ _ rfl
    subst this
    exact fun _ _ _ _ _ _ _ D t re pn q => ⟨_, ps_if wT_ok (wSs_ok (X := X)) (wSs_ok (X := X)), h (g := []) t (by simp) re (exq pn q)⟩
  | ok d => exact fun _ _ _ _ _ _ _ D t re pn q => ⟨_, ps_if wT_ok wSs_ok wSs_ok, h (g := []) t (by simp) re fun b1 B' H' f fp' e1 a t' ⟨z1, z2⟩ re' => by
      subst z1
      subst z2
      have t' : Sit _ _ B' H' fp' := t'
      cases b1 with
      | true => exact iteT (h1 rfl t' re' pn (q.ext e1))
      | false => exact iteF (h2 rfl t' re' pn (q.ext e1))⟩
theorem st_augF {i : Nat} {x : Expr} {y : Str} {p : Pos} {op : Operator} {r : Fl × Env} (hi : i ∉ π) (hx : XOk T c N sc so k X) (hy : tgE sc so N i (.Name y p) = true) (h : SndF X W env x rs env1) (hr : bndS (some (rs, env1)) (fun o e1 => putS e1 i (o1 (fun x => augO op x o) (slot e1 i))) = some r) (hbound : ∃ u, slot env i = some u) : SndSt π W X env (.AugAssign (.Name y p) op x pos) r := by
  unfold tgE at hy
  rw [Bool.and_eq_true, Bool.and_eq_true, decide_eq_true_eq] at hy
  have PA : ∀ {ti : TIp}, PIp X op ti → PS X (.AugAssign (.Name y p) op x pos) (tAug i (wE X x) ti) := fun hp => ps_aug (by rw [hx.n]; exact hx.nd) (by rw [hx.n]; exact hy.1.1) (by rw [hx.sc]; exact loc_ok hy.1.2) wE_ok hp (hx.fn _ hy.2)
  obtain ⟨u0, hu0⟩ := hbound
  intro B0 H0 B H σ0 σ fp D t re pn q
  obtain ⟨v, g, k1, k2, k3⟩ := re.get (slot_some hu0)
  cases rs with
  | ex cn us =>
    cases hr
    exact ⟨_, PA (wO_ok (X := X) (f := inplaceOp op)), v, k1, h.at t re (exq pn q)⟩
  | ok oy =>
    have hr : putS env1 i (o1 (fun x => augO op x oy) (slot env1 i)) = some r := hr
    obtain ⟨o, hu, rfl⟩ := putS_some hr
    obtain ⟨ox, hox, ha⟩ := o1_some hu
    by_cases hfl : op = .Add ∧ (∃ xs, ox = .fl xs) ∧ ∃ ys, oy = .fl ys
    · obtain ⟨rfl, ⟨xs, rfl⟩, ys, rfl⟩ := hfl
      have hr' : (if xs.length + ys.length ≤ 16777216 then some (O.fl (xs ++ ys)) else none) = some o := ha
      split at hr'
      · rename_i hlen
        cases hr'
        refine ⟨_, PA iop_ext, v, k1, h.at t re fun w B' H' f fp' eb ag t' ro re' => ?_⟩
        have t' : Sit B0 H0 B' H' (f ++ fp') := t'
        obtain ⟨a, a1, a2, a3, a4⟩ := mutate t'.right re' (slot_some hox) (.inl ⟨_, rfl⟩)
        rw [k1] at a1
        cases a1
        cases ro with
        | @fl b ws _ hb rb =>
          cases a2 with
          | @fl _ vs _ hv rv =>
            obtain ⟨_, fp2, re2, t2⟩ := a4 (.lst (vs ++ ws)) (.fl (xs ++ ys)) (.fl upd_same (rv.app rb))
            refine ⟨a, b, vs, ws, rfl, rfl, hv, hb, by rw [rv.len, rb.len, line_eq]; omega, ?_⟩
            show D.nx (σ.set i (some (.ref a))) _
            rw [st_same k1]
            exact q B' _ σ fp2 eb t2 re2 pn
      · cases hr'
    · refine ⟨_, PA (wO_ok (X := X) (f := inplaceOp op)), v, k1, h.at t re fun w B' H' f fp' eb ag t' ro re' => ?_⟩
      have t' : Sit B0 H0 B' H' (f ++ fp') := t'
      obtain ⟨v', g', m1, m2, m3⟩ := re'.get (slot_some hox)
      rw [k1] at m1
      cases m1
      rcases aug_ok (X := X) m2 ro ha with ⟨pp, rfl, z⟩ | ⟨z1, xs, ys, z2, z3, _⟩
      · refine z _ fun u ru => ?_
        obtain ⟨fp2, t2, re2⟩ := putP_fin (i := i) t'.right ru re'
        exact q B' H' _ fp2 eb t2 re2 (pn.set hi)
      · exact absurd ⟨z1, ⟨xs, z2⟩, ys, z3⟩ hfl
/-! ### a field stored -/
section
variable {K : PySem.W.Frag} {B H : Hp}
theorem ROf.put {f : Str} {v : V} {y : O} {fy : List Addr} : ∀ {us : List (Str × V)} {kvs : List (Str × O)} {g : List Addr}, ROf K B H us kvs g → RO K B H v y fy → ∃ g0 d g', g.Perm (d ++ g0) ∧ g'.Perm (fy ++ g0) ∧ ROf K B H (putF f v us) (putL f y kvs) g'
  | _, _, _, .nil, ro => by
    refine ⟨[], [], fy ++ [], .refl _, by simp, ?_⟩
    unfold putL
    exact .cons ro .nil
  | _, _, _, .cons (x := x) (v := w) (us := us) (o := o') (kvs := kvs) (f := f1) (g := g1) r rs, ro => by
    by_cases e : x = f
    · refine ⟨g1, f1, fy ++ g1, .refl _, .refl _, ?_⟩
      subst e
      show ROf K B H (if x = x then (x, v) :: us else (x, w) :: putF x v us) (if x = x then (x, y) :: kvs else (x, o') :: putL x y kvs) (fy ++ g1)
      rw [if_pos rfl, if_pos rfl]
      exact .cons ro rs
    · obtain ⟨g0, d, g', p1, p2, r2⟩ := ROf.put (f := f) rs ro
      refine ⟨f1 ++ g0, d, f1 ++ g', (List.Perm.append_left f1 p1).trans (perm_ac f1 d g0), (List.Perm.append_left f1 p2).trans (perm_ac f1 fy g0), ?_⟩
      show ROf K B H (if x = f then (x, v) :: us else (x, w) :: putF f v us) (if x = f then (f, y) :: kvs else (x, o') :: putL f y kvs) (f1 ++ g')
      rw [if_neg e, if_neg e]
      exact .cons r r2
theorem ROf.len : ∀ {us : List (Str × V)} {kvs : List (Str × O)} {g : List Addr}, ROf K B H us kvs g → us.length = kvs.length
  | _, _, _, .nil => rfl
  | _, _, _, .cons r rs => by rw [List.length_cons, List.length_cons, ROf.len rs]
theorem putL_mem {f : Str} {y : O} : ∀ {kvs : List (Str × O)}, ∀ q ∈ putL f y kvs, q.1 = f ∨ ∃ q' ∈ kvs, q'.1 = q.1
  | [], q, hq => by
    unfold putL at hq
    have : q = (f, y) := by simpa using hq
    exact .inl (by rw [this])
  | x :: kvs, q, hq => by
    unfold putL at hq
    by_cases e : x.1 = f
    · rw [if_pos e] at hq
      rcases List.mem_cons.mp hq with z | z
      · exact .inl (by rw [z])
      · exact .inr ⟨q, List.mem_cons_of_mem _ z, rfl⟩
    · rw [if_neg e] at hq
      rcases List.mem_cons.mp hq with z | z
      · exact .inr ⟨x, List.mem_cons_self, by rw [z]⟩
      · rcases putL_mem q z with h | ⟨q', h1, h2⟩
        · exact .inl h
        · exact .inr ⟨q', List.mem_cons_of_mem _ h1, h2⟩
end
theorem plcN_some {i : Nat} {q : Option (List Pt)} {z : Option O} {r : Fl × Env} (h : plcN env i q z = some r) : ∃ y e, z = some y ∧ plcS env i y q = some e ∧ r = (.nx, e) := by
  cases z with
  | none => cases h
  | some y =>
    have h : nxE (plcS env i y q) = some r := h
    cases h1 : plcS env i y q with
    | none => rw [h1] at h; cases h
    | some e => rw [h1] at h; cases h; exact ⟨y, e, rfl, h1, rfl⟩
theorem st_setF {cl f : Str} {i : Nat} {ps : List Ps} {ob x : Expr} {ap : Pos} {r : Fl × Env} (hx : XOk T c N sc so k X) (hfl : T.fl cl f = true) (hpl : chkPl T N sc i ps ob = true) (h : SndF X W env x rs env1) (hl : notLc x = true)
    (hr : bndS (some (rs, env1)) (fun y e1 => setFS e1 i (rsv c e1 ps) cl f y) = some r) : SndSt π W X env (.Assign [.Attribute ob f ap] x pos) r := by
  have hs : swapsWith x (some (.Attribute ob f ap)) pos.line X.env = pure false := by
    cases x <;> first | rfl | cases hl
  have P := ps_fld (X := X) (o := ob) (value := x) (f := f) (pos' := ap) (pos := pos) wE_ok wE_ok hs
  cases rs with
  | ex cn us =>
    cases hr
    exact fun _ _ _ _ _ _ _ D t re pn q => ⟨_, P, h.at t re (exq pn q)⟩
  | ok y =>
    have hr : plcN env1 i (rsv c env1 ps) (o1 (setFO cl f y) (plcG env1 i (rsv c env1 ps))) = some r := hr
    obtain ⟨z, e2, h1, h2, rfl⟩ := plcN_some hr
    obtain ⟨u, h3, h4⟩ := o1_some h1
    cases hq : rsv c env1 ps with
    | none => rw [hq] at h3; cases h3
    | some q0 =>
      rw [hq] at h3 h2
      unfold setFO at h4
      split at h4
      · rename_i cn kvs
        split at h4
        · rename_i hc
          obtain ⟨rfl, hlen⟩ := hc
          cases h4
          obtain ⟨C, k1, k2⟩ := hx.fls cn f hfl
          exact fun B0 H0 B H σ0 σ fp D t re pn q => ⟨_, P, h.at t re fun v B1 H1 f1 fp1 eb ag t1 ro re1 => by
            have t1 : Sit B0 H0 B1 H1 (f1 ++ fp1) := t1
            refine (snd_pl hx hpl hq h3).at t1 ro.has re1 fun w B2 H2 b1 b2 t2 re2 hrc => ?_
            obtain ⟨w', fy, fr, p1, r1, rch, put⟩ := re2.foc h3
            have e := hrc.fn (rch H2 (by first | assumption | exact Wld.bh (by assumption) | exact Stp.bh (by assumption) | exact (Sit.w (by assumption)).bh) .refl)
            subst e
            have ro2 := ro.mono b1 (H' := H2) fun a ha u z => b2 a u z
            cases r1 with
            | @obj a dx C' us _ _ ff m1 m2 m3 m4 m5 m6 =>
              rw [k1] at m1
              cases m1
              refine ⟨a, C, dx, us, rfl, m4, m2, k2, by rw [m6.len]; omega, ?_⟩
              have p2 : (f1 ++ fp1).Perm ((a :: dx :: ff) ++ (f1 ++ fr)) := (List.Perm.append_left f1 p1).trans (perm_ac f1 _ fr)
              have nd := p2.nodup_iff.mp t2.w.nd
              have na : a ∉ dx :: (ff ++ (f1 ++ fr)) := by
                have : (a :: (dx :: (ff ++ (f1 ++ fr)))).Nodup := nd
                exact (List.nodup_cons.mp this).1
              have t3 := (t2.perm p2).upd (a := a) (u := .ins C dx (putF f v us)) (by simp)
              have agA : ∀ l : List Addr, a ∉ l → Agr l H2 (upd H2 a (.ins C dx (putF f v us))) := fun l hn x hx u z => by
                rw [upd_ne (fun e => hn (by rw [← e]; exact hx))]
                exact z
              have agd : Agr (ff ++ f1) H2 (upd H2 a (.ins C dx (putF f v us))) := agA _ fun z => na (by
                rcases List.mem_append.mp z with y | y
                · simp [y]
                · simp [y])
              have m6' := m6.mono (.refl B2) (H' := upd H2 a (.ins C dx (putF f v us))) agd.left
              have ro3 := ro2.mono (.refl B2) (H' := upd H2 a (.ins C dx (putF f v us))) agd.right
              obtain ⟨g0, d, g', q1, q2, q3⟩ := m6'.put (f := f) ro3
              have rob : RO X.K B2 (upd H2 a (.ins C dx (putF f v us))) (.ref a) (.obj cn (putL f y kvs)) (a :: dx :: g') := .obj k1 m2 (fun q hq => by
                rcases putL_mem q hq with z | ⟨q', z1, z2⟩
                · rw [z]; exact k2
                · rw [← z2]; exact m3 q' z1) upd_same (by
                rw [upd_ne (fun e => na (by rw [← e]; simp))]
                exact m5) q3
              obtain ⟨fp2, p3, re3⟩ := put B2 _ _ _ e2 (.refl _) (agA fr fun z => na (by simp [z])) rob h2
              refine q B2 _ σ fp2 (eb.trans b1) ?_ re3 pn
              have p4 : ((a :: dx :: ff) ++ (f1 ++ fr)).Perm (d ++ fp2) := by
                have c1 : (ff ++ (f1 ++ fr)).Perm (d ++ (g' ++ fr)) := by
                  have c2 : (ff ++ (f1 ++ fr)).Perm ((d ++ g0) ++ (f1 ++ fr)) := List.Perm.append_right _ q1
                  refine c2.trans ?_
                  rw [List.append_assoc]
                  refine List.Perm.append_left d ?_
                  refine (perm_ac g0 f1 fr).trans ?_
                  rw [← List.append_assoc]
                  exact List.Perm.append_right fr q2.symm
                have c3 : ((a :: dx :: ff) ++ (f1 ++ fr)).Perm ([a, dx] ++ (d ++ (g' ++ fr))) := List.Perm.append_left [a, dx] c1
                refine c3.trans ((perm_ac [a, dx] d (g' ++ fr)).trans (List.Perm.append_left d ?_))
                exact p3.symm
              exact (t3.perm p4).right⟩
        · cases h4
      · cases h4
end
end G

set_option maxRecDepth 100000
namespace G
open PySem L2
variable {T : Tb} {N : List Str} {c : Ct}
section
variable {π : List Nat} {W : WX} {X : Cx} {sc so : Scope} {k : Nat} {env env1 : Env} {o : O} {pos : Pos} {rs : Rx O}
/-- a container at a place takes another content, at once; more is dropped -/
theorem upd_fin {B0 H0 B H : Hp} {σ : L2.St} {fp f1 fy fr fy' d : List Addr} {i : Nat} {q0 : List Pt} {w : V} {a : Addr} {u : HO} {y' : O} {env2 : Env} {K : PySem.W.Frag} (t : Sit B0 H0 B H (f1 ++ fp)) (p : fp.Perm (fy ++ fr)) (ha : a ∈ fy)
    (put : ∀ B' H' y' fy' env', Ext B B' → Agr fr H H' → RO K B' H' w y' fy' → plcS env i y' (some q0) = some env' → ∃ fp', fp'.Perm (fy' ++ fr) ∧ REnv K B' H' σ env' fp') (ro : RO K B (upd H a u) w y' fy') (hd : (f1 ++ fy).Perm (d ++ fy')) (h : plcS env i y' (some q0) = some env2) :
    ∃ fp2, Sit B0 H0 B (upd H a u) fp2 ∧ REnv K B (upd H a u) σ env2 fp2 := by
  obtain ⟨t2, a2, a3⟩ := t.updAt (u := u) p ha
  obtain ⟨fp2, p2, re2⟩ := put B _ y' fy' env2 (.refl _) a2 ro h
  refine ⟨fp2, ?_, re2⟩
  have p3 : (f1 ++ fp).Perm (d ++ fp2) := by
    have c1 : (f1 ++ fp).Perm ((f1 ++ fy) ++ fr) := by
      rw [List.append_assoc]
      exact List.Perm.append_left f1 p
    have c2 : ((f1 ++ fy) ++ fr).Perm ((d ++ fy') ++ fr) := List.Perm.append_right fr hd
    have c3 : ((d ++ fy') ++ fr).Perm (d ++ fp2) := by
      rw [List.append_assoc]
      exact List.Perm.append_left d p2.symm
    exact c1.trans (c2.trans c3)
  exact (t2.perm p3).right
theorem ROs.setV {K : PySem.W.Frag} {B H : Hp} {v : V} {y : O} {f : List Addr} : ∀ {os : List O} {vs : List V} {g : List Addr} {n : Nat}, ROs K B H vs os g → n < os.length → RO K B H v y f → ∃ g0 d g', g.Perm (d ++ g0) ∧ g'.Perm (f ++ g0) ∧ ROs K B H (vs.set n v) (os.set n y) g' := by
  intro os
  induction os with
  | nil => intro vs g n r h; simp at h
  | cons o' os ih =>
    intro vs g n r h rr
    cases r with
    | @cons w vs' _ _ g1 g2 r rs =>
      cases n with
      | zero => exact ⟨g2, g1, f ++ g2, .refl _, .refl _, .cons rr rs⟩
      | succ n =>
        obtain ⟨g0, d, g', z1, z2, z3⟩ := ih rs (n := n) (by simpa using h) rr
        exact ⟨g1 ++ g0, d, g1 ++ g', (List.Perm.append_left g1 z1).trans (perm_ac g1 d g0), (List.Perm.append_left g1 z2).trans (perm_ac g1 f g0), .cons r z3⟩
theorem st_setX {i : Nat} {ps : List Ps} {ix : Ex} {ob ixe x : Expr} {ap : Pos} {r : Fl × Env} (hx : XOk T c N sc so k X) (hpl : chkPl T N sc i ps ob = true) (hix : chk T N sc ix ixe = true) (h : SndF X W env x rs env1) (hl : notLc x = true)
    (hr : bndS (some (rs, env1)) (fun y e1 => setXS e1 i (rsv c e1 ps) (evR c e1 ix) y) = some r) : SndSt π W X env (.Assign [.Subscript ob ixe ap] x pos) r := by
  have hu : X.A.units + 1 < cLine := by have := hx.hu; omega
  have hs : swapsWithSole [.Subscript ob ixe ap] x pos.line X.env = pure false := by
    cases x <;> first | rfl | cases hl
  have hw : swappedStores [.Subscript ob ixe ap] x X.env = pure none := by
    cases x <;> rfl
  have has : ∀ w : Value, assign (.Subscript ob ixe ap) X.env w = (do
      let ov ← holding [w] (eval ob X.env)
      let iv ← holding [w, ov] (eval ixe X.env)
      standAt ap
      holding [w, ov, iv] (setItem ov iv w)
      release [w, ov, iv] []) := by
    intro w
    have := chk_nst hix
    have sl : ∀ l u p, ixe ≠ .Slice l u none p := fun l u p z => by
      subst z
      unfold chk at hix
      split at hix <;> first | contradiction | cases hix
    cases ixe <;> first | rfl | (rename_i l u s p; cases s <;> first | rfl | exact absurd rfl (sl _ _ _))
  cases rs with
  | ex cn us =>
    cases hr
    exact fun _ _ _ _ _ _ _ D t re pn q => ⟨_, ps_asg wE_ok (pg_sub (X := X) (wE_ok (X := X)) (wE_ok (X := X)) set_list has) hs hw, h.at t re (exq pn q)⟩
  | ok y =>
    have hr : plcN env1 i (rsv c env1 ps) (o2 (fun o k => setO2 o k y) (plcG env1 i (rsv c env1 ps)) (evR c env1 ix)) = some r := hr
    obtain ⟨z, e2, h1, h2, rfl⟩ := plcN_some hr
    obtain ⟨u, kx, h3, h5, h4⟩ := o2_some h1
    cases hq : rsv c env1 ps with
    | none => rw [hq] at h3; cases h3
    | some q0 =>
      rw [hq] at h3 h2
      intro B0 H0 B H σ0 σ fp D t re pn q
      have main : ∀ {tset : TSet}, PSet X tset → (∀ B' H' (f fp' : List Addr) vy w vk fk, Ext B B' → Sit B0 H0 B' H' (f ++ fp') → RO X.K B' H' vy y f → REnv X.K B' H' σ env1 fp' → RchE H' σ i q0 w → RO X.K B' H' vk kx fk → tset w vk vy H' fun H3 => D.nx σ H3) → wS X (.Assign [.Subscript ob ixe ap] x pos) D σ H := by
        intro tset hp hq'
        refine ⟨_, ps_asg wE_ok (pg_sub wE_ok wE_ok hp has) hs hw, h.at t re fun vy B1 H1 f1 fp1 eb ag t1 ro re1 => ?_⟩
        have t1 : Sit B0 H0 B1 H1 (f1 ++ fp1) := t1
        refine (snd_pl hx hpl hq h3).at t1 ro.has re1 fun w B2 H2 b1 b2 t2 re2 hrc => ?_
        have ro2 := ro.mono b1 (H' := H2) fun a ha u z => b2 a u z
        refine (gE ix).r hx hix h5 t2.w.right re2 fun vk B3 H3 fk s rk _ => ?_
        exact hq' B3 H3 f1 fp1 vy w vk fk ((eb.trans b1).trans s.b) (t2.stp s (mem_app ro2.has re2.has)) (ro2.stp s) (re2.stp s) (hrc.ext s.h) rk
      cases u with
      | lst xs =>
        have hk : ∃ j n, kx = .pl (.int j) ∧ ixN xs.length j = some n ∧ z = .lst (xs.set n y) := by
          cases kx with
          | pl kp =>
            cases kp with
            | int j =>
              have h4 : setOo xs y (ixN xs.length j) = some z := h4
              cases e : ixN xs.length j with
              | none => rw [e] at h4; cases h4
              | some n => rw [e] at h4; cases h4; exact ⟨j, n, rfl, e, rfl⟩
            | _ => cases h4
          | _ => cases h4
        obtain ⟨j, n, rfl, hn, rfl⟩ := hk
        refine main set_list fun B' H' f fp' vy w vk fk b1 t' ro re' hrc rk => ?_
        obtain ⟨w', fy, fr, p1, r1, rch, put⟩ := re'.foc h3
        have e := hrc.fn (rch H' (by first | assumption | exact Wld.bh (by assumption) | exact Stp.bh (by assumption) | exact (Sit.w (by assumption)).bh) .refl)
        subst e
        have ek := rk.i
        subst ek
        cases r1 with
        | @lst a vs _ ff m1 m2 =>
          have hlt : n < xs.length := (ixN_seq hn).2.1
          have p2 : (f ++ fp').Perm ((a :: ff) ++ (f ++ fr)) := (List.Perm.append_left f p1).trans (perm_ac f _ fr)
          have nd := p2.nodup_iff.mp t'.w.nd
          have na : a ∉ ff ++ (f ++ fr) := (List.nodup_cons.mp (show (a :: (ff ++ (f ++ fr))).Nodup from nd)).1
          have agA : ∀ l : List Addr, a ∉ l → Agr l H' (upd H' a (.lst (vs.set n vy))) := fun l hn x hx u z => by
            rw [upd_ne (fun e => hn (by rw [← e]; exact hx))]
            exact z
          have ro' := ro.mono (.refl B') (H' := upd H' a (.lst (vs.set n vy))) (agA f fun z => na (by simp [z]))
          have m2' := m2.mono (.refl B') (H' := upd H' a (.lst (vs.set n vy))) (agA ff fun z => na (by simp [z]))
          obtain ⟨g0, d, g', q1, q2, q3⟩ := m2'.setV hlt ro'
          obtain ⟨fp2, t3, re3⟩ := upd_fin (f1 := f) (d := d) (u := .lst (vs.set n vy)) t' p1 (a := a) (by simp) put (.lst upd_same q3) (by
            have c1 : (f ++ (a :: ff)).Perm (a :: (f ++ ff)) := List.perm_middle
            have c2 : (f ++ ff).Perm (d ++ g') := (List.Perm.append_left f q1).trans ((perm_ac f d g0).trans (List.Perm.append_left d q2.symm))
            have c3 : (a :: (d ++ g')).Perm (d ++ (a :: g')) := List.perm_middle.symm
            exact c1.trans ((c2.cons a).trans c3)) h2
          exact ⟨a, vs, j, n, rfl, rfl, m1, by rw [m2.len]; exact hn, q B' _ σ fp2 b1 t3 re3 pn⟩
      | fl xs =>
        have hk : ∃ j n pv, kx = .pl (.int j) ∧ ixN xs.length j = some n ∧ fz y = some pv ∧ z = .fl (xs.set n pv) := by
          cases kx with
          | pl kp =>
            cases kp with
            | int j =>
              have h4 : setIn xs (fz y) (ixN xs.length j) = some z := h4
              cases e1 : fz y with
              | none => rw [e1] at h4; cases h4
              | some pv =>
                cases e : ixN xs.length j with
                | none => rw [e1, e] at h4; cases h4
                | some n => rw [e1, e] at h4; cases h4; exact ⟨j, n, pv, rfl, e, rfl, rfl⟩
            | _ => cases h4
          | _ => cases h4
        obtain ⟨j, n, pv, rfl, hn, hpv, rfl⟩ := hk
        refine main set_list fun B' H' f fp' vy w vk fk b1 t' ro re' hrc rk => ?_
        obtain ⟨B2, b2, t2, rp⟩ := t'.share1 ro hpv
        have re2 := re'.mono b2 (H' := H') fun _ _ _ z => z
        obtain ⟨w', fy, fr, p1, r1, rch, put⟩ := re2.foc h3
        have e := hrc.fn (rch H' (by first | assumption | exact Wld.bh (by assumption) | exact Stp.bh (by assumption) | exact (Sit.w (by assumption)).bh) .refl)
        subst e
        have ek := rk.i
        subst ek
        cases r1 with
        | @fl a vs _ m1 m2 =>
          obtain ⟨fp2, t3, re3⟩ := upd_fin (f1 := []) (d := []) (u := .lst (vs.set n vy)) t2 p1 (a := a) (by simp) put (.fl upd_same (m2.set rp n)) (.refl _) h2
          exact ⟨a, vs, j, n, rfl, rfl, m1, by rw [m2.len]; exact hn, q B2 _ σ fp2 (b1.trans b2) t3 re3 pn⟩
      | fd kvs =>
        have hk : ∃ kp kk pv, kx = .pl kp ∧ keyP kp = some kk ∧ fz y = some pv ∧ kvs.length < 16777216 ∧ z = .fd (putP kk kp pv kvs) := by
          cases kx with
          | pl kp =>
            have h4 : setKn kvs kp (fz y) (keyP kp) = some z := h4
            cases e1 : fz y with
            | none => rw [e1] at h4; cases h4
            | some pv =>
              cases e : keyP kp with
              | none => rw [e1, e] at h4; cases h4
              | some kk =>
                rw [e1, e] at h4
                have h4 : (if kvs.length < 16777216 then some (O.fd (putP kk kp pv kvs)) else none) = some z := h4
                split at h4
                · cases h4; exact ⟨kp, kk, pv, rfl, e, rfl, by assumption, rfl⟩
                · cases h4
          | _ => cases h4
        obtain ⟨kp, kk, pv, rfl, hkk, hpv, hlen, rfl⟩ := hk
        refine main (set_dict hu) fun B' H' f fp' vy w vk fk b1 t' ro re' hrc rk => ?_
        obtain ⟨B2, b2, t2, rp⟩ := t'.share1 ro hpv
        have re2 := re'.mono b2 (H' := H') fun _ _ _ z => z
        obtain ⟨w', fy, fr, p1, r1, rch, put⟩ := re2.foc h3
        have e := hrc.fn (rch H' (by first | assumption | exact Wld.bh (by assumption) | exact Stp.bh (by assumption) | exact (Sit.w (by assumption)).bh) .refl)
        subst e
        have ek : vk = kV kk := by
          unfold keyP at hkk
          split at hkk
          · cases hkk; exact rk.i
          · cases hkk; exact rk.s
          · cases hkk
        subst ek
        cases r1 with
        | @fd a us _ m1 m2 =>
          obtain ⟨fp2, t3, re3⟩ := upd_fin (f1 := []) (d := []) (u := .dK (putK us kk vy)) t2 p1 (a := a) (by simp) put (.fd upd_same (m2.put hkk rp)) (.refl _) h2
          exact ⟨a, _, rfl, .k m1 (by rw [m2.len, line_eq]; omega), q B2 _ σ fp2 (b1.trans b2) t3 re3 pn⟩
      | _ => exfalso; cases kx <;> first | cases h4 | (rename_i kp; cases kp <;> cases h4)
/-! ### a method that changes a list at a place -/
def SndFK (X : Cx) (W : WX) (env : Env) (ex : Expr) (rs : Rx O) (env1 : Env) (i : Nat) (q0 : List Pt) : Prop := ∀ ⦃B0 H0 B H : Hp⦄ ⦃σ : L2.St⦄ ⦃fp g : List Addr⦄ ⦃Q : VK⦄, Sit B0 H0 B H (g ++ fp) → (∀ a ∈ g, H a ≠ none) → REnv X.K B H σ env fp →
  (match rs with
    | .ok o => ∀ v B' H' f fp', Ext B B' → Agr g H H' → Sit B0 H0 B' H' (g ++ (f ++ fp')) → RO X.K B' H' v o f → REnv X.K B' H' σ env1 fp' → (∀ w, RchE H σ i q0 w → RchE H' σ i q0 w) → Q v H'
    | .ex c us => ∀ cls d B' H' f fp', Ext B B' → Agr g H H' → Sit B0 H0 B' H' (g ++ (f ++ fp')) → RX X.K B' H' cls d c us f → REnv X.K B' H' σ env1 fp' → W cls d σ H') → wE X ex σ H Q
theorem SndF.slot {i : Nat} {x : Expr} (h : SndF X W env x rs env1) : SndFK X W env x rs env1 i [] := fun _ _ _ _ _ _ _ _ t hg re q => h t hg re (by
  cases rs with
  | ok o => exact fun v B' H' f fp' e a t' ro re' => q v B' H' f fp' e a t' ro re' fun w z => z
  | ex cn us => exact q)
theorem Snd.fk {i : Nat} {x : Expr} {q0 : List Pt} (h : Snd X env x o) : SndFK X W env x (.ok o) env i q0 := fun _ _ _ _ _ fp g _ t hg re q => h t.w.right re fun v B' H' f s ro n =>
  q v B' H' f fp s.b (.ext s.h) ((t.add s (mem_app hg re.has) n).perm (perm_ac f g fp)) ro (re.stp s) fun w z => z.ext s.h
theorem lstB_some {z : Option O} (h : lstB z = true) : (∃ xs, z = some (.fl xs)) ∨ ∃ xs, z = some (.lst xs) := by
  unfold lstB at h
  split at h
  · exact .inl ⟨_, rfl⟩
  · exact .inr ⟨_, rfl⟩
  · cases h
theorem lstB_ty {i : Nat} {q0 : List Pt} {B H : Hp} {σ : L2.St} {fp : List Addr} {w : V} (eb0 : Ext B H) (h : lstB (plcG env i (some q0)) = true) (re : REnv X.K B H σ env fp) (hr : RchE H σ i q0 w) : tyV X.K "list" w H := by
  rcases lstB_some h with ⟨xs, e⟩ | ⟨xs, e⟩
  · obtain ⟨w', fy, fr, p1, r1, rch, _⟩ := re.foc e
    have e := hr.fn (rch H (by first | assumption | exact Wld.bh (by assumption) | exact Stp.bh (by assumption) | exact (Sit.w (by assumption)).bh) .refl)
    subst e
    cases r1 with
    | fl m1 m2 => exact .inl ⟨rfl, _, .inl (.of m1)⟩
  · obtain ⟨w', fy, fr, p1, r1, rch, _⟩ := re.foc e
    have e := hr.fn (rch H (by first | assumption | exact Wld.bh (by assumption) | exact Stp.bh (by assumption) | exact (Sit.w (by assumption)).bh) .refl)
    subst e
    cases r1 with
    | lst m1 m2 => exact .inl ⟨rfl, _, .inl (.of m1)⟩
theorem lstB_there {i : Nat} {q : Option (List Pt)} (h : lstB (plcG env i q) = true) : ∃ q0 y, q = some q0 ∧ plcG env i (some q0) = some y := by
  cases q with
  | none => cases h
  | some q0 =>
    cases z : plcG env i (some q0) with
    | none => rw [z] at h; cases h
    | some y => exact ⟨q0, y, rfl, z⟩
theorem st_mutF1 {m : MM} {i : Nat} {q0 : List Pt} {ob x1 : Expr} {ap cp : Pos} {r : Fl × Env} (hb : baseB ob = true) (hl : (ap.endLine == cp.line) = true) (hn : nst x1 = true) (hv : SndPl X env ob i q0) (hls : lstB (plcG env i (some q0)) = true) (h : SndFK X W env x1 rs env1 i q0)
    (hr : bndS (some (rs, env1)) (fun y e1 => mutFS m e1 i (some q0) [y]) = some r) (hm : m = .append ∨ m = .extend) : SndSt π W X env (.Expr (.Call (.Attribute ob (mmN m) ap) [x1] [] cp) pos) r := by
  have few : ((backTo cp (starEach (x1 :: []) X.env)).all (fun x => !x.1) && (backToKw cp (keywordEach [] X.env)).all (fun x => x.1.isSome) && decide ((x1 :: []).length + ([] : List Keyword).length + (if ([] : List Keyword).isEmpty then 0 else 1) < 30)) = true := by rw [star_cons hn]; rfl
  have PA := pe_bm (apos := ap) PySem.F.plainAttrs_list PySem.F.slot_list_append PySem.F.type_list_append (mt_append (X := X)) (wE_ok (X := X) (e := ob)) (wA_ok (X := X) (e := [x1])) (base_ok hb) few hl (star_cons hn)
  have PE' := pe_bm (apos := ap) PySem.F.plainAttrs_list PySem.F.slot_list_extend PySem.F.type_list_extend (mt_extendR (X := X)) (wE_ok (X := X) (e := ob)) (wA_ok (X := X) (e := [x1])) (base_ok hb) few hl (star_cons hn)
  cases rs with
  | ex cn us =>
    cases hr
    have key : ∀ {r0 : V → List V → Hp → VK → Prop} {D : Ends} {B0 H0 B H : Hp} {σ0 σ : L2.St} {fp : List Addr} {Q : VK}, Sit B0 H0 B H fp → REnv X.K B H σ env fp → Pin π σ0 σ → End X.K W π σ0 B0 H0 B D (.ex cn us, env1) → tBM X.K "list" r0 (wE X ob) (wA X [x1]) σ H Q := by
      intro r0 D B0 H0 B H σ0 σ fp Q t re pn q
      refine hv.at (g := []) t (by simp) re fun w B1 H1 b1 b2 t1 re1 hrc => ⟨lstB_ty t1.w.bh hls re1 hrc, wA_one hn (h (g := []) t1 (by simp) re1 fun cls d B' H' f fp' e a t' rx re' => q cls d B' H' σ f fp' (b1.trans e) t' rx re' pn)⟩
    rcases hm with rfl | rfl
    · exact fun _ _ _ _ _ _ _ D t re pn q => ⟨_, ps_expr wE_ok rfl, ⟨_, PA, key t re pn q⟩⟩
    · exact fun _ _ _ _ _ _ _ D t re pn q => ⟨_, ps_expr wE_ok rfl, ⟨_, PE', key t re pn q⟩⟩
  | ok y =>
    have hr : plcN env1 i (some q0) (o1 (fun o => mutO2 m o [y]) (plcG env1 i (some q0))) = some r := hr
    obtain ⟨z, e2, h1, h2, rfl⟩ := plcN_some hr
    obtain ⟨u, h3, h4⟩ := o1_some h1
    have key : ∀ {r0 : V → List V → Hp → VK → Prop} {B0 H0 B H : Hp} {σ : L2.St} {fp : List Addr} {Q : VK}, Sit B0 H0 B H fp → REnv X.K B H σ env fp → (∀ w v B' H' f fp', Ext B B' → Sit B0 H0 B' H' (f ++ fp') → RO X.K B' H' v y f → REnv X.K B' H' σ env1 fp' → RchE H' σ i q0 w → r0 w [v] H' Q) → tBM X.K "list" r0 (wE X ob) (wA X [x1]) σ H Q := by
      intro r0 B0 H0 B H σ fp Q t re q
      exact hv.at (g := []) t (by simp) re fun w B1 H1 b1 b2 t1 re1 hrc => ⟨lstB_ty t1.w.bh hls re1 hrc, wA_one hn (h (g := []) t1 (by simp) re1 fun v B' H' f fp' e a t' ro re' kp => q w v B' H' f fp' (b1.trans e) t' ro re' (kp w hrc))⟩
    rcases hm with rfl | rfl
    · cases u with
      | fl xs =>
        have h4 : appO xs (fz y) = some z := h4
        cases hp : fz y with
        | none => rw [hp] at h4; cases h4
        | some pv =>
          rw [hp] at h4
          have h4 : (if xs.length < 16777216 then some (O.fl (xs ++ [pv])) else none) = some z := h4
          split at h4
          · rename_i hlen
            cases h4
            exact fun _ _ _ _ _ σ _ D t re pn q => ⟨_, ps_expr wE_ok rfl, ⟨_, PA, key t re fun w v B' H' f fp' e t' ro re' hrc => by
              obtain ⟨B2, b2, t2, rp⟩ := t'.share1 ro hp
              have re2 := re'.mono b2 (H' := H') fun _ _ _ z => z
              obtain ⟨w', fy, fr, p1, r1, rch, put⟩ := re2.foc h3
              have ew := hrc.fn (rch H' (by first | assumption | exact Wld.bh (by assumption) | exact Stp.bh (by assumption) | exact (Sit.w (by assumption)).bh) .refl)
              subst ew
              cases r1 with
              | @fl a vs _ m1 m2 =>
                obtain ⟨fp2, t3, re3⟩ := upd_fin (f1 := []) (d := []) (u := .lst (vs ++ [v])) t2 p1 (a := a) (by simp) put (.fl upd_same (m2.app (.cons rp .nil))) (.refl _) h2
                exact ⟨a, vs, v, rfl, rfl, m1, by rw [m2.len, line_eq]; omega, q B2 _ σ fp2 (e.trans b2) t3 re3 pn⟩⟩⟩
          · cases h4
      | lst xs =>
        have h4 : (if xs.length < 16777216 then some (O.lst (xs ++ [y])) else none) = some z := h4
        split at h4
        · rename_i hlen
          cases h4
          exact fun _ _ _ _ _ σ _ D t re pn q => ⟨_, ps_expr wE_ok rfl, ⟨_, PA, key t re fun w v B' H' f fp' e t' ro re' hrc => by
            obtain ⟨w', fy, fr, p1, r1, rch, put⟩ := re'.foc h3
            have ew := hrc.fn (rch H' (by first | assumption | exact Wld.bh (by assumption) | exact Stp.bh (by assumption) | exact (Sit.w (by assumption)).bh) .refl)
            subst ew
            cases r1 with
            | @lst a vs _ ff m1 m2 =>
              have p2 : (f ++ fp').Perm ((a :: ff) ++ (f ++ fr)) := (List.Perm.append_left f p1).trans (perm_ac f _ fr)
              have nd := p2.nodup_iff.mp t'.w.nd
              have na : a ∉ ff ++ (f ++ fr) := (List.nodup_cons.mp (show (a :: (ff ++ (f ++ fr))).Nodup from nd)).1
              have agA : ∀ l : List Addr, a ∉ l → Agr l H' (upd H' a (.lst (vs ++ [v]))) := fun l hn x hx u z => by
                rw [upd_ne (fun e => hn (by rw [← e]; exact hx))]
                exact z
              have ro' := ro.mono (.refl B') (H' := upd H' a (.lst (vs ++ [v]))) (agA f fun z => na (by simp [z]))
              have m2' := m2.mono (.refl B') (H' := upd H' a (.lst (vs ++ [v]))) (agA ff fun z => na (by simp [z]))
              have one : ROs X.K B' (upd H' a (.lst (vs ++ [v]))) [v] [y] (f ++ []) := .cons ro' .nil
              rw [List.append_nil] at one
              obtain ⟨fp2, t3, re3⟩ := upd_fin (f1 := f) (d := []) (u := .lst (vs ++ [v])) t' p1 (a := a) (by simp) put (.lst upd_same (m2'.app one)) (by
                have c1 : (f ++ (a :: ff)).Perm (a :: (f ++ ff)) := List.perm_middle
                exact c1.trans (List.perm_append_comm.cons a)) h2
              exact ⟨a, vs, v, rfl, rfl, m1, by rw [m2.len, line_eq]; omega, q B' _ σ fp2 e t3 re3 pn⟩⟩⟩
        · cases h4
      | _ => cases h4
    · cases u with
      | fl xs =>
        cases y with
        | fl ys =>
          have h4 : (if xs.length + ys.length ≤ 16777216 then some (O.fl (xs ++ ys)) else none) = some z := h4
          split at h4
          · rename_i hlen
            cases h4
            exact fun _ _ _ _ _ σ _ D t re pn q => ⟨_, ps_expr wE_ok rfl, ⟨_, PE', key t re fun w v B' H' f fp' e t' ro re' hrc => by
              obtain ⟨w', fy, fr, p1, r1, rch, put⟩ := re'.foc h3
              have ew := hrc.fn (rch H' (by first | assumption | exact Wld.bh (by assumption) | exact Stp.bh (by assumption) | exact (Sit.w (by assumption)).bh) .refl)
              subst ew
              cases r1 with
              | @fl a vs _ m1 m2 =>
                cases ro with
                | @fl b ws _ n1 n2 =>
                  obtain ⟨fp2, t3, re3⟩ := upd_fin (f1 := []) (d := []) (u := .lst (vs ++ ws)) (Sit.right (f := [b]) t') p1 (a := a) (by simp) put (.fl upd_same (m2.app n2)) (.refl _) h2
                  exact ⟨a, b, vs, ws, rfl, rfl, m1, .of n1, by rw [m2.len, n2.len, line_eq]; omega, q B' _ σ fp2 e t3 re3 pn⟩⟩⟩
          · cases h4
        | pl p =>
          cases p with
          | list ys =>
            have h4 : (if xs.length + ys.length ≤ 16777216 then some (O.fl (xs ++ ys)) else none) = some z := h4
            split at h4
            · rename_i hlen
              cases h4
              exact fun _ _ _ _ _ σ _ D t re pn q => ⟨_, ps_expr wE_ok rfl, ⟨_, PE', key t re fun w v B' H' f fp' e t' ro re' hrc => by
                obtain ⟨w', fy, fr, p1, r1, rch, put⟩ := re'.foc h3
                have ew := hrc.fn (rch H' (by first | assumption | exact Wld.bh (by assumption) | exact Stp.bh (by assumption) | exact (Sit.w (by assumption)).bh) .refl)
                subst ew
                cases r1 with
                | @fl a vs _ m1 m2 =>
                  cases ro with
                  | pl rp =>
                    cases rp with
                    | @lst b ws _ n1 n2 =>
                      obtain ⟨fp2, t3, re3⟩ := upd_fin (f1 := []) (d := []) (u := .lst (vs ++ ws)) t' p1 (a := a) (by simp) put (.fl upd_same (m2.app n2)) (.refl _) h2
                      exact ⟨a, b, vs, ws, rfl, rfl, m1, n1.ext t'.w.bh, by rw [m2.len, n2.len, line_eq]; omega, q B' _ σ fp2 e t3 re3 pn⟩⟩⟩
            · cases h4
          | _ => cases h4
        | _ => cases h4
      | _ => cases h4
theorem fdB_some {o : Option O} (h : fdB o = true) : ∃ kvs, o = some (.fd kvs) := by
  unfold fdB at h
  split at h
  · exact ⟨_, rfl⟩
  · cases h
theorem fdB_ty {i : Nat} {q0 : List Pt} {B H : Hp} {σ : L2.St} {fp : List Addr} {w : V} (eb0 : Ext B H) (h : fdB (plcG env i (some q0)) = true) (re : REnv X.K B H σ env fp) (hr : RchE H σ i q0 w) : tyV X.K "dict" w H := by
  obtain ⟨kvs, e⟩ := fdB_some h
  obtain ⟨w', fy, fr, p1, r1, rch, _⟩ := re.foc e
  have e := hr.fn (rch H (by first | assumption | exact Wld.bh (by assumption) | exact Stp.bh (by assumption) | exact (Sit.w (by assumption)).bh) .refl)
  subst e
  cases r1 with
  | fd m1 m2 => exact .inr (.inr (.inl ⟨rfl, .inl ⟨_, m1⟩⟩))
theorem updD_some {kvs ls : List (P × P)} {z : O} (h : updD kvs ls = some z) : kvs.length + ls.length ≤ 16777216 ∧ ∃ ms, mrgD kvs ls = some ms ∧ z = .fd ms := by
  unfold updD at h
  split at h
  · rename_i c
    cases q : mrgD kvs ls with
    | none => rw [q] at h; cases h
    | some ms =>
      rw [q] at h
      cases h
      exact ⟨c, ms, rfl, rfl⟩
  · cases h
theorem st_mutFU {i : Nat} {q0 : List Pt} {ob x1 : Expr} {ap cp : Pos} {r : Fl × Env} (hb : baseB ob = true) (hl : (ap.endLine == cp.line) = true) (hn : nst x1 = true) (hv : SndPl X env ob i q0) (hls : fdB (plcG env i (some q0)) = true) (h : SndFK X W env x1 rs env1 i q0)
    (hr : bndS (some (rs, env1)) (fun y e1 => mutFS .update e1 i (some q0) [y]) = some r) : SndSt π W X env (.Expr (.Call (.Attribute ob (mmN .update) ap) [x1] [] cp) pos) r := by
  have few : ((backTo cp (starEach (x1 :: []) X.env)).all (fun x => !x.1) && (backToKw cp (keywordEach [] X.env)).all (fun x => x.1.isSome) && decide ((x1 :: []).length + ([] : List Keyword).length + (if ([] : List Keyword).isEmpty then 0 else 1) < 30)) = true := by rw [star_cons hn]; rfl
  have PU := pe_bm (apos := ap) PySem.F.plainAttrs_dict PySem.F.slot_dict_update PySem.F.type_dict_update (mtd_update (X := X)) (wE_ok (X := X) (e := ob)) (wA_ok (X := X) (e := [x1])) (base_ok hb) few hl (star_cons hn)
  cases rs with
  | ex cn us =>
    cases hr
    exact fun _ _ _ _ _ _ _ D t re pn q => ⟨_, ps_expr wE_ok rfl, ⟨_, PU, hv.at (g := []) t (by simp) re fun w B1 H1 b1 b2 t1 re1 hrc => ⟨fdB_ty t1.w.bh hls re1 hrc, wA_one hn (h (g := []) t1 (by simp) re1 fun cls d B' H' f fp' e a t' rx re' => q cls d B' H' _ f fp' (b1.trans e) t' rx re' pn)⟩⟩⟩
  | ok y =>
    have hr : plcN env1 i (some q0) (o1 (fun o => mutO2 .update o [y]) (plcG env1 i (some q0))) = some r := hr
    obtain ⟨z, e2, h1, h2, rfl⟩ := plcN_some hr
    obtain ⟨u, h3, h4⟩ := o1_some h1
    have key : ∀ {r0 : V → List V → Hp → VK → Prop} {B0 H0 B H : Hp} {σ : L2.St} {fp : List Addr} {Q : VK}, Sit B0 H0 B H fp → REnv X.K B H σ env fp → (∀ w v B' H' f fp', Ext B B' → Sit B0 H0 B' H' (f ++ fp') → RO X.K B' H' v y f → REnv X.K B' H' σ env1 fp' → RchE H' σ i q0 w → r0 w [v] H' Q) → tBM X.K "dict" r0 (wE X ob) (wA X [x1]) σ H Q := by
      intro r0 B0 H0 B H σ fp Q t re q
      exact hv.at (g := []) t (by simp) re fun w B1 H1 b1 b2 t1 re1 hrc => ⟨fdB_ty t1.w.bh hls re1 hrc, wA_one hn (h (g := []) t1 (by simp) re1 fun v B' H' f fp' e a t' ro re' kp => q w v B' H' f fp' (b1.trans e) t' ro re' (kp w hrc))⟩
    cases u with
    | fd kvs =>
      have dl : ∃ ls, ditems y = some ls ∧ updD kvs ls = some z := by
        cases y with
        | fd ls => exact ⟨ls, rfl, h4⟩
        | pl p =>
          cases p with
          | dict ls => exact ⟨ls, rfl, h4⟩
          | _ => cases h4
        | _ => cases h4
      obtain ⟨ls, hy, h5⟩ := dl
      obtain ⟨hlen, ms, hm, rfl⟩ := updD_some h5
      exact fun _ _ _ _ _ σ _ D t re pn q => ⟨_, ps_expr wE_ok rfl, ⟨_, PU, key t re fun w v B' H' f fp' e t' ro re' hrc => by
        obtain ⟨w', fy, fr, p1, r1, rch, put⟩ := re'.foc h3
        have ew := hrc.fn (rch H' (by first | assumption | exact Wld.bh (by assumption) | exact Stp.bh (by assumption) | exact (Sit.w (by assumption)).bh) .refl)
        subst ew
        cases r1 with
        | @fd a us _ m1 m2 =>
          have fin : ∀ {b : Addr} {ws : List (Key × V)} {t0 : List Addr}, v = .ref b → Rd H' b (.dK ws) → RPd X.K B' ws ls → a ≠ b → Sit _ _ B' H' fp' → rDUpd (.ref a) [v] H' (fun _ H2 => D.nx σ H2) := fun {b ws t0} hvb rd rw' hab tt => by
            subst hvb
            obtain ⟨fp2, t3, re3⟩ := upd_fin (f1 := []) (d := []) (u := .dK (mergeK us ws)) tt p1 (a := a) (by simp) put (.fd upd_same (mrgD_ok rw' m2 hm)) (.refl _) h2
            exact ⟨a, b, us, ws, rfl, rfl, hab, m1, rd, by rw [m2.len, rw'.len, line_eq]; omega, q B' _ σ fp2 e t3 re3 pn⟩
          cases ro with
          | @fd b ws _ n1 n2 =>
            cases hy
            have hab : a ≠ b := fun z => by
              have nd := t'.w.nd
              have : b ∈ fp' := p1.mem_iff.mpr (by simp [z])
              exact (List.nodup_cons.mp (show (b :: fp').Nodup from nd)).1 this
            exact fin (t0 := []) rfl (.of n1) n2 hab (Sit.right (f := [b]) t')
          | pl rp =>
            cases rp with
            | @dic b ws _ n1 n2 =>
              cases hy
              have hab : a ≠ b := fun z => by
                have : a ∈ fp' := p1.mem_iff.mpr (by simp)
                have h0 := t'.w.out a this
                rcases n1 with n1 | ⟨_, n1⟩ <;> (rw [← z, h0] at n1; cases n1)
              exact fin (t0 := []) rfl (t'.w.bh.rd n1) n2 hab t'
            | _ => cases hy
          | _ => cases hy⟩⟩
    | _ => cases h4
theorem st_mutF0 {m : MM} {i : Nat} {q0 : List Pt} {ob : Expr} {ap cp : Pos} {r : Fl × Env} (hb : baseB ob = true) (hl : (ap.endLine == cp.line) = true) (hv : SndPl X env ob i q0) (hls : lstB (plcG env i (some q0)) = true)
    (hr : mutFS m env i (some q0) [] = some r) (hm : m = .reverse ∨ m = .clear) : SndSt π W X env (.Expr (.Call (.Attribute ob (mmN m) ap) [] [] cp) pos) r := by
  have hr : plcN env i (some q0) (o1 (fun o => mutO2 m o []) (plcG env i (some q0))) = some r := hr
  obtain ⟨z, e2, h1, h2, rfl⟩ := plcN_some hr
  obtain ⟨u, h3, h4⟩ := o1_some h1
  cases u with
  | fl xs =>
    rcases hm with rfl | rfl
    · have h4 : some (O.fl xs.reverse) = some z := h4
      cases h4
      exact fun _ _ _ _ _ σ _ D t re pn q => ⟨_, ps_expr wE_ok rfl, ⟨_, pe_bm0 PySem.F.plainAttrs_list PySem.F.slot_list_reverse PySem.F.type_list_reverse mt_reverse wE_ok (base_ok hb) hl, hv.at (g := []) t (by simp) re fun w B1 H1 b1 b2 t1 re1 hrc => ⟨lstB_ty t1.w.bh hls re1 hrc, by
        obtain ⟨w', fy, fr, p1, r1, rch, put⟩ := re1.foc h3
        have ew := hrc.fn (rch H1 (by first | assumption | exact Wld.bh (by assumption) | exact Stp.bh (by assumption) | exact (Sit.w (by assumption)).bh) .refl)
        subst ew
        cases r1 with
        | @fl a vs _ m1 m2 =>
          obtain ⟨fp2, t3, re3⟩ := upd_fin (f1 := []) (d := []) (u := .lst vs.reverse) t1 p1 (a := a) (by simp) put (.fl upd_same m2.rev) (.refl _) h2
          exact ⟨a, vs, rfl, rfl, m1, q B1 _ σ fp2 b1 t3 re3 pn⟩⟩⟩⟩
    · have h4 : some (O.fl []) = some z := h4
      cases h4
      exact fun _ _ _ _ _ σ _ D t re pn q => ⟨_, ps_expr wE_ok rfl, ⟨_, pe_bm0 PySem.F.plainAttrs_list PySem.F.slot_list_clear PySem.F.type_list_clear mt_clear wE_ok (base_ok hb) hl, hv.at (g := []) t (by simp) re fun w B1 H1 b1 b2 t1 re1 hrc => ⟨lstB_ty t1.w.bh hls re1 hrc, by
        obtain ⟨w', fy, fr, p1, r1, rch, put⟩ := re1.foc h3
        have ew := hrc.fn (rch H1 (by first | assumption | exact Wld.bh (by assumption) | exact Stp.bh (by assumption) | exact (Sit.w (by assumption)).bh) .refl)
        subst ew
        cases r1 with
        | @fl a vs _ m1 m2 =>
          obtain ⟨fp2, t3, re3⟩ := upd_fin (f1 := []) (d := []) (u := .lst []) t1 p1 (a := a) (by simp) put (.fl upd_same .nil) (.refl _) h2
          exact ⟨a, vs, rfl, rfl, m1, q B1 _ σ fp2 b1 t3 re3 pn⟩⟩⟩⟩
  | _ => rcases hm with rfl | rfl <;> cases h4
end
end G

set_option maxRecDepth 100000
set_option maxHeartbeats 1000000
/-! a for over an own list that the block lets alone -/
namespace G
open PySem L2
section
variable {K : PySem.W.Frag} {B0 H0 B H B1 H1 B4 H4 : Hp} {fj fr g4 : List Addr}
def msk (f : List Addr) (H : Hp) : Hp := fun a => if a ∈ f then none else H a
theorem msk_in {f : List Addr} {H : Hp} {a : Addr} (h : a ∈ f) : msk f H a = none := if_pos h
theorem msk_out {f : List Addr} {H : Hp} {a : Addr} (h : a ∉ f) : msk f H a = H a := if_neg h
theorem msk_ext {f : List Addr} {H : Hp} : Ext (msk f H) H := fun a o h => by
  by_cases ha : a ∈ f
  · rw [msk_in ha] at h; cases h
  · rw [msk_out ha] at h; exact h
theorem Sit.low (tt : Sit B0 H0 B H (fj ++ fr)) (s1 : Stp B H B1 H1) (hfr : ∀ a ∈ fr, H a ≠ none) : Sit B1 (msk fr H1) B1 H1 fr :=
  ⟨⟨.refl B1, msk_ext, s1.bh, fun a h => .inl h⟩, tt.right.w.stp s1 hfr, fun a ha => msk_in ha⟩
theorem Sit.lift (tt : Sit B0 H0 B H (fj ++ fr)) (s1 : Stp B H B1 H1) (hfj : ∀ a ∈ fj, H a ≠ none) (t4 : Sit B1 (msk fr H1) B4 H4 g4) : Sit B0 H0 B4 H4 (fj ++ g4) ∧ Agr fj H1 H4 := by
  have h01 : ∀ a, H1 a = none → H0 a = none := fun a h => tt.s.h.none (s1.h.none h)
  have nd := List.nodup_append.mp tt.w.nd
  have hj1 : ∀ a ∈ fj, H1 a ≠ none := fun a ha z => hfj a ha (s1.h.none z)
  have hjr : ∀ a ∈ fj, a ∉ fr := fun a ha z => nd.2.2 a ha a z rfl
  have mj : ∀ a ∈ fj, msk fr H1 a = H1 a := fun a ha => msk_out (hjr a ha)
  have m0 : ∀ a, msk fr H1 a = none → H0 a = none := fun a h => by
    by_cases ha : a ∈ fr
    · exact tt.fr a (by simp [ha])
    · rw [msk_out ha] at h
      exact h01 a h
  have eH : Ext H0 H4 := fun a o h => by
    have ha : a ∉ fr := fun z => by rw [tt.fr a (by simp [z])] at h; cases h
    refine t4.s.h a o ?_
    rw [msk_out ha]
    exact s1.h a o (tt.s.h a o h)
  refine ⟨⟨⟨(tt.s.b.trans s1.b).trans t4.s.b, eH, t4.s.bh, fun a h => ?_⟩, ⟨t4.s.bh, ?_, fun a ha => ?_⟩, fun a ha => ?_⟩, fun a ha u h => t4.s.h a u (by rw [mj a ha]; exact h)⟩
  · rcases t4.s.new a h with z | z
    · rcases s1.new a z with y | y
      · exact tt.s.new a y
      · exact .inr (tt.s.h.none y)
    · exact .inr (m0 a z)
  · refine List.nodup_append.mpr ⟨nd.1, t4.w.nd, fun a ha b hb e => ?_⟩
    subst e
    exact hj1 a ha (by rw [← mj a ha]; exact t4.fr a hb)
  · rcases List.mem_append.mp ha with z | z
    · refine Classical.byContradiction fun hn => ?_
      rcases t4.s.new a hn with y | y
      · rcases s1.new a y with x | x
        · exact x (tt.w.out a (by simp [z]))
        · exact hfj a z x
      · exact hj1 a z (by rw [← mj a z]; exact y)
    · exact t4.w.out a z
  · rcases List.mem_append.mp ha with z | z
    · exact tt.fr a (by simp [z])
    · exact m0 a (t4.fr a z)
def condA (f : List Addr) (B1 H1 : Hp) : Hp → Hp → Prop := fun B H => Ext B1 B ∧ Agr f H1 H
theorem At.stpA {t : Bool} {f : List Addr} {B2 H2 : Hp} {v : V} {ps : List P} (s : Stp B1 H1 B2 H2) (h : At t K H1 (condA f B1 H1) v ps) : At t K H2 (condA f B2 H2) v ps := by
  obtain ⟨a, vs, e, h1, h2, h3⟩ := h
  exact ⟨a, vs, e, s.h.sq h1, h2.mono s.h, fun B H c e => h3 B H ⟨s.b.trans c.1, fun x hx u hu => c.2 x hx u (s.h x u hu)⟩ e⟩
end
section
variable {T : Tb} {N : List Str} {c : Ct} {X : Cx} {W : WX} {sc so : Scope} {k : Nat} {env env1 : Env} {B H : Hp} {σ : L2.St} {fp : List Addr} {pos : Pos} {π : List Nat}
/-- a name that is walked -/
theorem sat_name {j i : Nat} {l : Expr} {ps : List P} {y : O} {vj : V} {fj : List Addr} (hv : ∀ y', slot env i = some y' → SndPl X env l i []) (w : Wld B H fp) (re : REnv X.K B H σ env fp) (hy : slot env j = some y) (hσ : σ[j]? = some (some vj)) (ro : RO X.K B H vj y fj)
    (h : lstO env j i = some ps) {B1 H1 : Hp} (s : Stp B H B1 H1) {Q : VK} (q : ∀ v B2 H2, Stp B1 H1 B2 H2 → At false X.K H2 (condA fj B2 H2) v ps → Q v H2) : wE X l σ H1 Q := by
  unfold lstO at h
  by_cases e : i = j
  · subst e
    rw [if_pos rfl, hy] at h
    have h : flI y = some ps := h
    unfold flI at h
    split at h
    · cases h
      refine hv _ hy (w.stp s re.has) (re.stp s) fun v B2 H2 s2 hr => ?_
      obtain ⟨v0, e0, e1⟩ := hr
      rw [hσ] at e0
      cases e0
      have e1 : v = vj := e1
      subst e1
      cases ro with
      | @fl a vs _ h1 h2 =>
        exact q _ B2 H2 s2 ⟨a, vs, rfl, (Ext.sq (t := false) (s.h.trans s2.h) (.inl (.of h1))), h2.mono ((w.bh.trans s.h).trans s2.h), fun B3 H3 c3 e3 => ⟨.inl (.of (c3.2 a (by simp) _ (s2.h a _ (s.h a _ h1)))), h2.mono ((s.b.trans s2.b).trans c3.1)⟩⟩
    · cases h
      refine hv _ hy (w.stp s re.has) (re.stp s) fun v B2 H2 s2 hr => ?_
      obtain ⟨v0, e0, e1⟩ := hr
      rw [hσ] at e0
      cases e0
      have e1 : v = vj := e1
      subst e1
      have rp := ro.p
      cases rp with
      | @lst a vs _ h1 h2 =>
        exact q _ B2 H2 s2 ⟨a, vs, rfl, (((w.bh.trans s.h).trans s2.h).sl h1).sq, h2.mono ((w.bh.trans s.h).trans s2.h), fun B3 H3 c3 e3 => ⟨(e3.sl (c3.1.sl (s2.b.sl (s.b.sl h1)))).sq, h2.mono ((s.b.trans s2.b).trans c3.1)⟩⟩
    · cases h
  · rw [if_neg e] at h
    cases hs : slot env i with
    | none => rw [hs] at h; cases h
    | some o =>
      rw [hs] at h
      have h : plI o = some ps := h
      unfold plI at h
      split at h
      · cases h
        have he : env[i]? = some (some (.pl (.list ps))) := by
          unfold slot at hs
          cases z : env[i]? with
          | none => rw [z] at hs; cases hs
          | some u =>
            rw [z] at hs
            have hs : u = some (.pl (.list ps)) := hs
            rw [hs]
        obtain ⟨v', g, e1, r1, _⟩ := re.get he
        refine hv _ hs (w.stp s re.has) (re.stp s) fun v B2 H2 s2 hr => ?_
        obtain ⟨v0, e0, e2⟩ := hr
        rw [e1] at e0
        cases e0
        have e2 : v = v' := e2
        subst e2
        have rp := r1.p
        cases rp with
        | @lst a vs _ h1 h2 =>
          exact q _ B2 H2 s2 ⟨a, vs, rfl, (((w.bh.trans s.h).trans s2.h).sl h1).sq, h2.mono ((w.bh.trans s.h).trans s2.h), fun B3 H3 c3 e3 => ⟨(e3.sl (c3.1.sl (s2.b.sl (s.b.sl h1)))).sq, h2.mono ((s.b.trans s2.b).trans c3.1)⟩⟩
      · cases h
def MAt (X : Cx) (fj : List Addr) (tg ex : Expr) (ps : List P) (B H : Hp) (σ : L2.St) : Prop := ∀ R : L2.It → Hp → Prop, (∀ J B1 H1, Stp B H B1 H1 → ItS X.K J ps (condA fj B1 H1) → R J H1) → wI X tg ex σ H R
def SAt (X : Cx) (fj : List Addr) (ex : Expr) (ps : List P) (B H : Hp) (σ : L2.St) : Prop := ∀ {B1 H1 : Hp}, Stp B H B1 H1 → ∀ {Q : VK}, (∀ v B2 H2, Stp B1 H1 B2 H2 → At false X.K H2 (condA fj B2 H2) v ps → Q v H2) → wE X ex σ H1 Q
variable {fj : List Addr} {tg ex e1 e2 : Expr} {ps qs : List P} {p1 : Pos}
theorem mat_seq (hb : Ext B H) (h : SAt X fj ex ps B H σ) : MAt X fj tg ex ps B H σ := fun R q =>
  ⟨_, pi_list wE_ok, h (.refl hb) fun v B1 H1 s ⟨a, vs, e, h1, _, h2⟩ => ⟨a, e, ⟨vs, h1⟩, q _ B1 H1 s (its_list h2)⟩⟩
theorem mat_enum {es : List Expr} {k : Nat} {tp : Pos} (hb : Ext B H) (hg : Gl X "enumerate") (hm : X.mg "enumerate" = none) (hn : nst e1 = true) (h : SAt X fj e1 ps B H σ) : MAt X fj (.Tuple es k tp) (.Call (.Name "enumerate" p1) [e1] [] pos) (enumP ps) B H σ := fun R q =>
  ⟨_, pi_enum hg hm wA_ok (star_cons hn), wA_one hn (h (.refl hb) fun v B1 H1 s ⟨a, vs, e, h1, _, h2⟩ => ⟨a, vs, by rw [e], h1, q _ B1 H1 s (its_enum h2)⟩)⟩
theorem mat_zip {es : List Expr} {k : Nat} {tp : Pos} (hb : Ext B H) (hg : Gl X "zip") (hm : X.mg "zip" = none) (hn : nst e1 = true) (hn2 : nst e2 = true) (h : SAt X fj e1 ps B H σ) (h2 : SAt X fj e2 qs B H σ) :
    MAt X fj (.Tuple es k tp) (.Call (.Name "zip" p1) [e1, e2] [] pos) (zipP ps qs) B H σ := fun R q =>
  ⟨_, pi_zipM hg hm wA_ok (star_cons hn) (star_any (by simp [hn2])), wA_two hn hn2 (h (.refl hb) fun v B1 H1 s a1 => h2 s fun v2 B2 H2 s2 ⟨b, ws, eb, k1, _, k2⟩ => by
    obtain ⟨a, vs, ea, j1, _, j2⟩ := a1.stpA s2
    refine ⟨a, b, vs, ws, by rw [ea, eb], j1, k1, q _ B2 H2 (s.trans s2) (its_zipM (t := false) (u := false) (vs := vs) (ws := ws) fun B H c e => ?_)⟩
    obtain ⟨x1, x2⟩ := j2 B H c e
    obtain ⟨x3, x4⟩ := k2 B H c e
    exact ⟨x1, x2, x3, x4⟩)⟩
theorem set_same {α : Type} {xs : List α} {i : Nat} {x : α} (h : xs[i]? = some x) : xs.set i x = xs := by
  apply List.ext_getElem?
  intro j
  by_cases e : i = j
  · subst e
    have hi := (List.getElem?_eq_some_iff.mp h).1
    rw [List.getElem?_set_self hi, h]
  · rw [List.getElem?_set_ne e]
theorem st_forW {j : Nat} {y : O} {tg : Tg} {f : Env → P → Rs} {t it : Expr} {body : List Stmt} {ps : List P} {fl : Fl} {e : Env} (hp : ∀ i ∈ tgIs tg, i ∉ j :: π) (hx : XOk T c N sc so k X) (htg : chkTg sc so N tg t = true) (hs : setB it = true) (hy : env[j]? = some (some y))
    (hi : ∀ {B H : Hp} {σ : L2.St} {fp : List Addr} {vj : V} {fj : List Addr}, Wld B H fp → REnv X.K B H σ env fp → σ[j]? = some (some vj) → RO X.K B H vj y fj → MAt X fj t it ps B H σ)
    (hf : ∀ env1 p r1, f env1 p = some r1 → ∃ env2, setTg env1 tg p = some env2 ∧ SndSs (j :: π) W X env2 body r1) (hr : forGo f ps (env.set j none) = some (fl, e)) (he : e[j]? = some none) : SndSt π W X env (.For t it body [] pos) (fl, e.set j (some y)) := by
  intro B0 H0 B H σ0 σ fp D tt re pn q
  refine ⟨_, ps_for hx.pss hx.calm wI_ok (chk_Tg hx htg) wSs_ok (folded_ok hs), ?_⟩
  obtain ⟨vj, fj, fr, hσ, ro, pm, rr⟩ := re.take hy
  have tp : Sit B0 H0 B H (fj ++ fr) := tt.perm pm
  have hfj := ro.has
  have hfr := rr.has
  refine hi tt.w re hσ ro _ fun J B1 H1 s1 its => ?_
  -- what is asked behind the loop, with the own thing back
  have back : ∀ {B4 H4 : Hp} {σ4 : L2.St} {g fp4 : List Addr} {e4 : Env}, Ext B1 B4 → Sit B1 (msk fr H1) B4 H4 (g ++ fp4) → REnv X.K B4 H4 σ4 e4 fp4 → Pin (j :: π) σ σ4 → e4[j]? = some none →
      ∃ f', Sit B0 H0 B4 H4 (g ++ f') ∧ REnv X.K B4 H4 σ4 (e4.set j (some y)) f' ∧ Pin π σ0 σ4 := fun {B4 H4 σ4 g fp4 e4} e4' t4 r4 p4 hj4 => by
    obtain ⟨t5, ag⟩ := tp.lift s1 hfj t4
    have ro4 := ro.mono (s1.b.trans e4') (H' := H4) fun a ha u hu => ag a ha u (s1.h a u hu)
    obtain ⟨f', pf, r5⟩ := r4.putN hj4 ro4
    have hσ4 : σ4[j]? = some (some vj) := (p4 j (by simp)).trans hσ
    rw [set_same hσ4] at r5
    refine ⟨f', t5.perm ?_, r5, fun i hi => (p4 i (by simp [hi])).trans (pn i hi)⟩
    have c1 : (fj ++ (g ++ fp4)).Perm (g ++ (fj ++ fp4)) := perm_ac fj g fp4
    exact c1.trans (pf.symm.append_left g)
  refine ⟨fun i m σ' H' => m = ps.length - i ∧ i ≤ ps.length ∧ ∃ B' fp' env', Sit B1 (msk fr H1) B' H' fp' ∧ REnv X.K B' H' σ' env' fp' ∧ Pin (j :: π) σ σ' ∧ Ext B1 B' ∧ forGo f (ps.drop i) env' = some (fl, e), ⟨_, rfl, Nat.zero_le _, B1, fr, env.set j none, tp.low s1 hfr, rr.stp s1, fun _ _ => rfl, .refl _, hr⟩, ?_⟩
  rintro i m σ' H' ⟨rfl, hil, B', fp', env', t', re', pn', e', hg⟩
  have cA : condA fj B1 H1 B' H' := ⟨e', (tp.lift s1 hfj t').2⟩
  by_cases hlt : i < ps.length
  · refine .inr ⟨its.go i B' H' cA t'.w.bh hlt, fun σ2 H2 => ∃ m', m' < ps.length - i ∧ (m' = ps.length - (i + 1) ∧ i + 1 ≤ ps.length ∧ ∃ B' fp' env', Sit B1 (msk fr H1) B' H2 fp' ∧ REnv X.K B' H2 σ2 env' fp' ∧ Pin (j :: π) σ σ2 ∧ Ext B1 B' ∧ forGo f (ps.drop (i + 1)) env' = some (fl, e)), fun σ2 H2 h => h, fun x H2 hy => ?_⟩
    obtain ⟨B2, s2, rp⟩ := its.yld i B' H' x H2 _ cA t'.w.bh (List.getElem?_eq_getElem hlt) hy
    rw [List.drop_eq_getElem_cons hlt] at hg
    have hg' : (match f env' ps[i] with
      | some (.nx, e) => forGo f (ps.drop (i + 1)) e
      | some (.bk, e) => some (.nx, e)
      | some (.rt o, e) => some (.rt o, e)
      | some (.ct, e) => forGo f (ps.drop (i + 1)) e
      | some (.ex c us, e) => some (.ex c us, e)
      | none => none) = some (fl, e) := hg
    cases hfe : f env' ps[i] with
    | none => rw [hfe] at hg'; cases hg'
    | some r1 =>
      obtain ⟨env2, h2, hsn⟩ := hf _ _ _ hfe
      rw [hfe] at hg'
      have t2 := t'.stp s2 re'.has
      refine tg_ok (re'.stp s2) t2.w rp h2 fun σ1 f1 ⟨ws, hws⟩ r2 w2 sub => ?_
      have t3 := t2.sub w2.nd sub
      refine hsn t3 r2 (by rw [hws]; exact pn'.sets hp) ?_
      obtain ⟨fl1, e2⟩ := r1
      cases fl1 with
      | nx => exact fun B4 H4 σ4 fp4 e4 t4 r4 p4 => ⟨_, by omega, rfl, by omega, B4, fp4, e2, t4, r4, p4, (e'.trans s2.b).trans e4, hg'⟩
      | ct => exact fun B4 H4 σ4 fp4 e4 t4 r4 p4 => ⟨_, by omega, rfl, by omega, B4, fp4, e2, t4, r4, p4, (e'.trans s2.b).trans e4, hg'⟩
      | bk =>
        have hg'' : some (Fl.nx, e2) = some (fl, e) := hg'
        cases hg''
        exact fun B4 H4 σ4 fp4 e4 t4 r4 p4 => by
          obtain ⟨f', t5, r5, p5⟩ := back (g := []) ((e'.trans s2.b).trans e4) t4 r4 p4 he
          exact q B4 H4 σ4 f' (s1.b.trans ((e'.trans s2.b).trans e4)) t5 r5 p5
      | rt o =>
        have hg'' : some (Fl.rt o, e2) = some (fl, e) := hg'
        cases hg''
        exact fun v B4 H4 σ4 f4 fp4 e4 t4 ro r4 p4 => by
          obtain ⟨f', t5, r5, p5⟩ := back ((e'.trans s2.b).trans e4) t4 r4 p4 he
          exact q v B4 H4 σ4 f4 f' (s1.b.trans ((e'.trans s2.b).trans e4)) t5 ro r5 p5
      | ex cn us =>
        have hg'' : some (Fl.ex cn us, e2) = some (fl, e) := hg'
        cases hg''
        exact fun cls d B4 H4 σ4 f4 fp4 e4 t4 rx r4 p4 => by
          obtain ⟨f', t5, r5, p5⟩ := back ((e'.trans s2.b).trans e4) t4 r4 p4 he
          exact q cls d B4 H4 σ4 f4 f' (s1.b.trans ((e'.trans s2.b).trans e4)) t5 rx r5 p5
  · have ei : i = ps.length := by omega
    subst ei
    refine .inl ⟨its.stop _ B' H' cA t'.w.bh rfl, ?_⟩
    rw [List.drop_length] at hg
    have hg' : some (Fl.nx, env') = some (fl, e) := hg
    cases hg'
    obtain ⟨f', t5, r5, p5⟩ := back (g := []) e' t' re' pn' he
    exact q B' H' σ' f' (s1.b.trans e') t5 r5 p5
theorem st_appT {ob x1 : Expr} {ap cp : Pos} {rs : Rx O} {i : Int} {r : Fl × Env} (hb : baseB ob = true) (hl : (ap.endLine == cp.line) = true) (hn : nst x1 = true) (h : SndF X W env ob rs env1) (h1 : Snd X env1 x1 (.pl (.int i))) (hr : bndS (some (rs, env1)) appT = some r) :
    SndSt π W X env (.Expr (.Call (.Attribute ob "append" ap) [x1] [] cp) pos) r := by
  have few : ((backTo cp (starEach (x1 :: []) X.env)).all (fun x => !x.1) && (backToKw cp (keywordEach [] X.env)).all (fun x => x.1.isSome) && decide ((x1 :: []).length + ([] : List Keyword).length + (if ([] : List Keyword).isEmpty then 0 else 1) < 30)) = true := by rw [star_cons hn]; rfl
  have PA := pe_bm (apos := ap) PySem.F.plainAttrs_list PySem.F.slot_list_append PySem.F.type_list_append (mt_append (X := X)) (wE_ok (X := X) (e := ob)) (wA_ok (X := X) (e := [x1])) (base_ok hb) few hl (star_cons hn)
  cases rs with
  | ex cn us =>
    cases hr
    exact fun _ _ _ _ _ _ _ D t re pn q => ⟨_, ps_expr wE_ok rfl, ⟨_, PA, h.at t re (exq pn q)⟩⟩
  | ok o =>
    have hr : appT o env1 = some r := hr
    cases o with
    | fl xs =>
      have hr : (if xs.length < 16777216 then some (Fl.nx, env1) else none) = some r := hr
      split at hr
      · rename_i hsz
        cases hr
        refine fun _ _ _ _ _ σ _ D t re pn q => ⟨_, ps_expr wE_ok rfl, ⟨_, PA, h.at t re fun w B1 H1 f fp1 e1 ag t1 ro re1 => ?_⟩⟩
        cases ro with
        | @fl a vs _ m1 m2 =>
          have t1 : Sit _ _ B1 H1 ([a] ++ fp1) := t1
          refine ⟨.inl ⟨rfl, _, .inl (.of m1)⟩, wA_one hn (h1 (fp := fp1) t1.w.right re1 fun v B2 H2 f2 s2 ro2 n2 => ?_)⟩
          have hh : ∀ b ∈ [a] ++ fp1, H1 b ≠ none := fun b hb => by
            rcases List.mem_append.mp hb with z | z
            · rw [List.mem_singleton.mp z, m1]
              simp
            · exact re1.has b z
          have t2 : Sit _ _ B2 H2 ([a] ++ fp1) := Sit.stp t1 s2 hh
          have na : a ∉ fp1 := fun z => (List.nodup_cons.mp (show (a :: fp1).Nodup from t1.w.nd)).1 z
          have t3 := t2.upd (a := a) (by simp) (u := .lst (vs ++ [v]))
          exact ⟨a, vs, v, rfl, rfl, s2.h _ _ m1, by rw [m2.len, line_eq]; omega, q B2 _ σ fp1 (e1.trans s2.b) t3.right (re1.mono s2.b fun b hb u hu => by
            rw [upd_ne (fun e => na (by first | (rw [← e]; exact hb) | (rw [e]; exact hb)))]
            exact s2.h b u hu) pn⟩
      · cases hr
    | _ => cases hr
end
end G

set_option maxRecDepth 100000
namespace G
open PySem L2
variable {T : Tb} {N : List Str} {c : Ct}
def GS (T : Tb) (N : List Str) (c : Ct) (s : S) : Prop := ∀ {π : List Nat} {W : WX} {X : Cx} {sc so : Scope} {k : Nat} {env : Env} {st : Stmt} {r : Fl × Env}, (∀ i ∈ stoS s, i ∉ π) → XOk T c N sc so k X → Takes X W → chkS T N sc so s st = true → exec c env s = some r → SndSt π W X env st r
def GSs (T : Tb) (N : List Str) (c : Ct) (ss : Ss) : Prop := ∀ {π : List Nat} {W : WX} {X : Cx} {sc so : Scope} {k : Nat} {env : Env} {sts : List Stmt} {r : Fl × Env}, (∀ i ∈ stoSs ss, i ∉ π) → XOk T c N sc so k X → Takes X W → chkSs T N sc so ss sts = true → execs c ss (some (.nx, env)) = some r → SndSs π W X env sts r
theorem sw_cell {el : Expr} {gs : List Comprehension} {scope : Scope} {lp p : Pos} {y : Str} {l : Nat} {env : PySem.Env} (h : env.scope.names.lookup y = some .cell) : swapsWith (.ListComp el gs scope lp) (some (.Name y p)) l env = pure false := by
  unfold swapsWith
  have e : env.kindOf y = some .cell := h
  show (pure _ : Sem Bool) = pure false
  rw [e]
  congr 1
  simp
theorem notLc_sw {v : Expr} {t : Option Expr} {l : Nat} {env : PySem.Env} (h : notLc v = true) : swapsWith v t l env = pure false := by
  cases v <;> first | rfl | cases h
theorem asgS_some {i : Nat} {z : Option (O × Env)} {r : Fl × Env} (h : asgS i z = some r) : ∃ o e, z = some (o, e) ∧ r = (.nx, e.set i (some o)) := by
  cases z with
  | none => cases h
  | some w => obtain ⟨o, e⟩ := w; cases h; exact ⟨o, e, rfl, rfl⟩
theorem retS_some {z : Option (O × Env)} {r : Fl × Env} (h : retS z = some r) : ∃ o e, z = some (o, e) ∧ r = (.rt o, e) := by
  cases z with
  | none => cases h
  | some w => obtain ⟨o, e⟩ := w; cases h; exact ⟨o, e, rfl, rfl⟩
theorem expS_some {env : Env} {z : Option O} {r : Fl × Env} (h : expS env z = some r) : ∃ o, z = some o ∧ r = (.nx, env) := by
  cases z with
  | none => cases h
  | some w => cases h; exact ⟨w, rfl, rfl⟩
theorem evW_lc {env env1 : Env} {own : List Nat} {tg : Tg} {it : It} {cd : Ox} {e : Ex} {o : O} (h : evW c env (.lc own tg it cd e) = some (o, env1)) : evR c env (.lc own tg it cd e) = some o ∧ env1 = env := pairE_some h
theorem chkW_lc {X : Cx} {sc : Scope} {e : Ex} {el : Expr} {gs : List Comprehension} {scope : Scope} {p : Pos} (h : chkW T N sc e (.ListComp el gs scope p) = true) : ∃ own tg it cd e', e = .lc own tg it cd e' ∧ chk T N sc e (.ListComp el gs scope p) = true := by
  cases e
  case lc own tg it cd e' => exact ⟨_, _, _, _, _, rfl, h⟩
  all_goals
    exfalso
    first
    | (obtain ⟨_, _, _, z⟩ := chk_dct (T := T) (N := N) h; cases z)
    | (obtain ⟨_, _, _, _, z, _⟩ := chk_call (T := T) (N := N) h; cases z)
    | (rcases chk_meth (T := T) (N := N) h with ⟨_, _, _, _, _, _, _, z, _⟩ | ⟨_, _, _, _, _, _, _, _, _, z, _⟩ <;> cases z)
    | (unfold chkW at h; dsimp only at h; unfold chk at h; cases h)
    | (unfold chkW at h; dsimp only at h; cases h)
    | cases h
theorem lc_any {X : Cx} {sc so : Scope} {k : Nat} {env : Env} {x : Expr} {o : O} {own : List Nat} {tg : Tg} {it : It} {cd : Ox} {e : Ex} (hx : XOk T c N sc so k X) (hc : chk T N sc (.lc own tg it cd e) x = true) (he : evR c env (.lc own tg it cd e) = some o) :
    ∃ el t i ifs scope p, x = .ListComp el [⟨t, i, ifs, 0⟩] scope p ∧ LcOk X env scope t i el ifs o := lc_chk (gI it) (fun d _ => gE d) (gE e) hx hc he
theorem gs_asg {i : Nat} {e : Ex} : GS T N c (.asg i e) := fun {π W X sc so k env st r} hp hx tk hc he => by
  unfold chkS at hc
  split at hc <;> try cases hc
  all_goals rename_i q; cases q
  rename_i x p v pos
  simp only [Bool.and_eq_true] at hc
  obtain ⟨⟨h1, h2⟩, h3⟩ := hc
  rw [exec] at he
  obtain ⟨o, e1, z1, rfl⟩ := asgS_some he
  cases v
  case ListComp el gs scope lp =>
    obtain ⟨own, tg, it, cd, e', rfl, h4⟩ := chkW_lc (X := X) h3
    obtain ⟨z2, rfl⟩ := evW_lc z1
    obtain ⟨el', t, i', ifs, scope', p', hxx, hl⟩ := lc_any hx h4 z2
    cases hxx
    rw [swB, Bool.or_eq_true, decide_eq_true_eq] at h2
    by_cases hcl : sc.names.lookup x = some .cell
    · have h2 := hcl
      exact st_asg (hp _ (by simp [stoS])) hx h1 (gW hx h3 z1) (sw_cell (by rw [hx.sc]; exact h2))
    replace h2 := h2.resolve_left hcl
    simp only [Bool.and_eq_true, decide_eq_true_eq] at h2
    obtain ⟨⟨⟨k1, k2⟩, k3⟩, k4⟩ := h2
    exact st_asgLc (hp _ (by simp [stoS])) hx h1 hl k2 (sw_true (by rw [hx.sc]; exact k1) (by rw [hx.sc]; exact k2) k3 (by simpa using k4))
  all_goals first | exact st_asg (hp _ (by simp [stoS])) hx h1 (gW hx h3 z1) rfl | cases h2
theorem consts_ok : ∀ {vs : List Expr}, consts vs = true → vs.all (foldedForSure 8) = true
  | [], _ => rfl
  | v :: vs, h => by
    cases v
    case Constant a b c =>
      have h' : consts vs = true := h
      rw [List.all_cons, consts_ok h']
      rfl
    all_goals cases h
theorem sw_const {es : List Expr} {kk : Nat} {p : Pos} {v : Expr} {env : PySem.Env} (h : (notTp v || (match v with
    | .Tuple vs _ _ => consts vs
    | _ => false)) = true) : swappedStores [.Tuple es kk p] v env = pure none := by
  cases v
  case Tuple vs k2 p2 =>
    have hc : consts vs = true := by simpa [notTp] using h
    have hf := consts_ok hc
    unfold swappedStores
    simp only [hf]
    split
    · rfl
    · split
      · rfl
      · split <;> rfl
  all_goals rfl
theorem gs_asgT {is : List Nat} {e : Ex} : GS T N c (.asgT is e) := fun {π W X sc so k env st r} hp hx tk hc he => by
  unfold chkS at hc
  split at hc <;> try cases hc
  all_goals rename_i q; cases q
  rename_i es kk p v pos
  simp only [Bool.and_eq_true] at hc
  obtain ⟨⟨⟨h1, h2⟩, h3⟩, h4⟩ := hc
  rw [exec] at he
  cases z : evW c env e with
  | none => rw [z] at he; cases he
  | some w =>
    obtain ⟨o, e1⟩ := w
    rw [z] at he
    refine st_asgT (fun i hi => hp i (by simpa [stoS] using hi)) hx h1 (gW hx h4 z) he (by unfold swapsWithSole; exact notLc_sw h2) ?_
    exact sw_const h3
theorem gs_aug {i : Nat} {op : Operator} {e : Ex} : GS T N c (.aug i op e) := fun {π W X sc so k env st r} hp hx tk hc he => by
  unfold chkS at hc
  split at hc <;> try cases hc
  all_goals rename_i q; cases q
  simp only [Bool.and_eq_true, decide_eq_true_eq] at hc
  obtain ⟨⟨⟨h1, h2⟩, rfl⟩, h3⟩ := hc
  rw [exec] at he
  obtain ⟨o, z1, rfl⟩ := putS_some he
  obtain ⟨a, b, z2, z3, z4⟩ := o2_some z1
  exact st_aug (hp _ (by simp [stoS])) hx h1 z2 ((gE e).r hx h3 z3) z4
theorem gs_setI {i : Nat} {ix e : Ex} : GS T N c (.setI i ix e) := fun {π W X sc so k env st r} hp hx tk hc he => by
  unfold chkS at hc
  split at hc <;> try cases hc
  all_goals rename_i q; cases q
  simp only [Bool.and_eq_true] at hc
  obtain ⟨⟨⟨h1, h2⟩, h3⟩, h4⟩ := hc
  rw [exec] at he
  cases z : evW c env e with
  | none => rw [z] at he; cases he
  | some w =>
    obtain ⟨o, e1⟩ := w
    rw [z] at he
    exact st_setI hx h1 h3 (gW hx h4 z) he h2
theorem gs_exp {e : Ex} : GS T N c (.exp e) := fun {π W X sc so k env st r} hp hx tk hc he => by
  unfold chkS at hc
  split at hc <;> try cases hc
  all_goals rename_i q; cases q
  simp only [Bool.and_eq_true] at hc
  rw [exec] at he
  obtain ⟨o, z, rfl⟩ := expS_some he
  exact st_exp ((gE e).r hx hc.2 z) (notLc_sw hc.1)
theorem gs_mut {m : MM} {i : Nat} {es : Exs} : GS T N c (.mut m i es) := fun {π W X sc so k env st r} hp hx tk hc he => by
  unfold chkS at hc
  split at hc <;> try cases hc
  all_goals rename_i q; cases q
  simp only [Bool.and_eq_true, decide_eq_true_eq] at hc
  obtain ⟨⟨⟨h1, rfl⟩, h3⟩, h4⟩ := hc
  rw [exec] at he
  unfold chkM at h4
  split at h4 <;> try cases h4
  · rw [Bool.and_eq_true] at h4
    exact st_mut1 hx h1 h3 h4.1 h4.2 he (.inl rfl)
  · rw [Bool.and_eq_true] at h4
    exact st_mut1 hx h1 h3 h4.1 h4.2 he (.inr rfl)
  · exact st_mut0 hx h1 h3 he (.inl rfl)
  · exact st_mut0 hx h1 h3 he (.inr rfl)
  · simp only [Bool.and_eq_true] at h4
    obtain ⟨⟨⟨k1, k2⟩, k3⟩, k4⟩ := h4
    exact st_mut2 hx h1 h3 k1 k2 k3 k4 he
theorem gs_pop {j : Option Nat} {i : Nat} {es : Exs} : GS T N c (.pop j i es) := fun {π W X sc so k env st r} hp hx tk hc he => by
  unfold chkS at hc
  split at hc <;> try cases hc
  all_goals rename_i q; cases q
  · simp only [Bool.and_eq_true, decide_eq_true_eq] at hc
    obtain ⟨⟨⟨⟨h1, h2⟩, rfl⟩, h4⟩, h5⟩ := hc
    rw [exec] at he
    exact st_pop1 (hp _ (by simp [stoS])) hx h1 h2 h4 h5 he
  · simp only [Bool.and_eq_true, decide_eq_true_eq] at hc
    obtain ⟨⟨⟨h2, rfl⟩, h4⟩, h5⟩ := hc
    rw [exec] at he
    exact st_pop0 hx h2 h4 h5 he
theorem gs_ret {e : Ex} : GS T N c (.ret e) := fun {π W X sc so k env st r} hp hx tk hc he => by
  unfold chkS at hc
  split at hc <;> try cases hc
  all_goals rename_i q; cases q
  rw [exec] at he
  obtain ⟨o, e1, z, rfl⟩ := retS_some he
  exact st_ret (gW hx hc z)
theorem gs_retN : GS T N c .retN := fun {π W X sc so k env st r} hp hx tk hc he => by
  unfold chkS at hc
  split at hc <;> try cases hc
  all_goals rename_i q; cases q
  rw [exec] at he
  cases he
  exact st_retN
theorem gs_pass : GS T N c .pass := fun {π W X sc so k env st r} hp hx tk hc he => by
  unfold chkS at hc
  rw [exec] at he
  cases he
  split at hc <;> try cases hc
  all_goals rename_i q; cases q
  · exact st_pass
  · exact st_doc
theorem gs_brk : GS T N c .brk := fun {π W X sc so k env st r} hp hx tk hc he => by
  unfold chkS at hc
  split at hc <;> try cases hc
  all_goals rename_i q; cases q
  rw [exec] at he
  cases he
  exact st_brk
theorem gs_frz {i : Nat} : GS T N c (.frz i) := fun {π W X sc so k env st r} hp hx tk hc he => by
  unfold chkS at hc
  cases hc
theorem gs_ife {t : Ex} {a b : Ss} (ga : GSs T N c a) (gb : GSs T N c b) : GS T N c (.ife t a b) := fun {π W X sc so k env st r} hp hx tk hc he => by
  unfold chkS at hc
  split at hc <;> try cases hc
  all_goals rename_i q; cases q
  simp only [Bool.and_eq_true] at hc
  rw [exec] at he
  obtain ⟨d, h1, h2, h3⟩ := ifB_some he
  exact st_if ((gE t).t hx hc.1.1 h1) (fun z => ga (fun i hi => hp i (by simp [stoS, hi])) hx tk hc.1.2 (h2 z)) (fun z => gb (fun i hi => hp i (by simp [stoS, hi])) hx tk hc.2 (h3 z))
theorem nxE_some {e : Option Env} {r : Fl × Env} {f : Rs → Rs} (hf : f none = none) (h : f (nxE e) = some r) : ∃ e1, e = some e1 ∧ f (some (.nx, e1)) = some r := by
  cases e with
  | none => rw [show nxE none = none from rfl, hf] at h; cases h
  | some e1 => exact ⟨e1, rfl, h⟩
theorem execs_none : ∀ ss : Ss, execs c ss none = none
  | .nil => by rw [execs]
  | .cons s ss => by rw [execs, stepS]; exact execs_none ss; all_goals simp
theorem execs_end {fl : Fl} {env : Env} (h : fl ≠ .nx) : ∀ ss : Ss, execs c ss (some (fl, env)) = some (fl, env)
  | .nil => by rw [execs]
  | .cons s ss => by
    rw [execs]
    have : stepS c s (some (fl, env)) = some (fl, env) := by
      cases fl with
      | nx => exact absurd rfl h
      | _ => rw [stepS]; intro _ z; cases z
    rw [this]
    exact execs_end h ss
theorem forO_some {f : Env → P → Rs} {env : Env} {ps : Option (List P)} {r : Fl × Env} (h : forO f env ps = some r) : ∃ qs, ps = some qs ∧ forGo f qs env = some r := by
  cases ps with
  | none => cases h
  | some qs => exact ⟨qs, rfl, h⟩
theorem gs_forr {tg : Tg} {it : It} {b : Ss} (gb : GSs T N c b) : GS T N c (.forr tg it b) := fun {π W X sc so k env st r} hp hx tk hc he => by
  unfold chkS at hc
  split at hc <;> try cases hc
  all_goals rename_i q; cases q
  simp only [Bool.and_eq_true] at hc
  rw [exec_forr] at he
  obtain ⟨ps, h1, h2⟩ := forO_some he
  rw [evJ_eq] at h1
  obtain ⟨z1, z2⟩ := (gI it).i (m := false) hx hc.1.2 h1
  refine st_for (W := W) (fun i hi => hp i (by simp [stoS, hi])) hx hc.1.1 z1.f z2 (fun env1 p r1 hf => ?_) h2
  obtain ⟨e1, k1, k2⟩ := nxE_some (f := execs c b) (execs_none b) hf
  exact ⟨e1, k1, gb (fun i hi => hp i (by simp [stoS, hi])) hx tk hc.2 k2⟩
theorem zipE_some {a b : Option (List P)} {ps : List P} (h : zipE a b = some ps) : ∃ xs ys, a = some xs ∧ b = some ys ∧ ps = zipP xs ys := by
  unfold zipE at h
  split at h
  · cases h; exact ⟨_, _, rfl, rfl, rfl⟩
  · cases h
theorem mapE_some {a : Option (List P)} {ps : List P} (h : mapE a = some ps) : ∃ xs, a = some xs ∧ ps = enumP xs := by
  unfold mapE at h
  split at h
  · cases h; exact ⟨_, rfl, rfl⟩
  · cases h
theorem slot_get {env : Env} {j : Nat} {y : O} (h : slot env j = some y) : env[j]? = some (some y) := by
  unfold slot at h
  cases z : env[j]? with
  | none => rw [z] at h; cases h
  | some u =>
    rw [z] at h
    have h : u = some y := h
    rw [h]
theorem gs_forW {j : Nat} {tg : Tg} {it : It} {b : Ss} (gb : GSs T N c b) : GS T N c (.forW j tg it b) := fun {π W X sc so k env st r} hp hx tk hc he => by
  unfold chkS at hc
  split at hc <;> try cases hc
  all_goals rename_i q; cases q
  rename_i t i body _
  simp only [Bool.and_eq_true, Bool.not_eq_true', List.contains_eq_mem, decide_eq_false_iff_not, List.mem_append, not_or] at hc
  obtain ⟨⟨⟨h1, h2⟩, h3⟩, h4⟩ := hc
  cases hy : slot env j with
  | none =>
    rw [exec, hy] at he
    cases he
  | some y =>
    rw [exec_forW c env j y tg it b hy] at he
    cases hq : forO (bodyF c tg b) (env.set j none) (itO env j it) with
    | none => rw [hq] at he; cases he
    | some q =>
      obtain ⟨fl, e⟩ := q
      rw [hq] at he
      have he : thw1 j y fl e e[j]? = some r := he
      cases hj : e[j]? with
      | none => rw [hj] at he; cases he
      | some u =>
        cases u with
        | some z => rw [hj] at he; cases he
        | none =>
          rw [hj] at he
          cases he
          obtain ⟨ps, hps, hgo⟩ := forO_some hq
          have nm : ∀ {a : Nat} {l : Expr}, chkPl T N sc a [] l = true → ∀ y', slot env a = some y' → SndPl X env l a [] := fun hc y' hs => snd_pl hx hc (by rw [rsv]) (y := y') (by
            unfold plcG
            rw [hs]
            rfl)
          have key : setB i = true ∧ ∀ {B H : Hp} {σ : L2.St} {fp : List Addr} {vj : V} {fj : List Addr}, Wld B H fp → REnv X.K B H σ env fp → σ[j]? = some (some vj) → RO X.K B H vj y fj → MAt X fj t i ps B H σ := by
            unfold chkO at h2
            split at h2
            · refine ⟨rfl, fun w re hσ ro => mat_seq w.bh fun s _ q => sat_name (nm h2) w re hy hσ ro hps s q⟩
            · rw [Bool.and_eq_true] at h2
              obtain ⟨xs, e1, rfl⟩ := mapE_some hps
              have hg := gl_ok hx h2.1
              obtain ⟨z1, z2, z3⟩ := gn_ok h2.1
              cases z1
              exact ⟨rfl, fun w re hσ ro => mat_enum w.bh hg hx.enu rfl fun s _ q => sat_name (nm h2.2) w re hy hσ ro e1 s q⟩
            · rw [Bool.and_eq_true, Bool.and_eq_true] at h2
              obtain ⟨xs, ys, e1, e2, rfl⟩ := zipE_some hps
              have hg := gl_ok hx h2.1.1
              obtain ⟨z1, z2, z3⟩ := gn_ok h2.1.1
              cases z1
              exact ⟨rfl, fun w re hσ ro => mat_zip w.bh hg hx.zip rfl rfl (fun s _ q => sat_name (nm h2.1.2) w re hy hσ ro e1 s q) (fun s _ q => sat_name (nm h2.2) w re hy hσ ro e2 s q)⟩
            · cases h2
          refine st_forW (W := W) (fun i hi => ?_) hx h1 key.1 (slot_get hy) key.2 (fun env1 p r1 hf => ?_) hgo hj
          · rw [List.mem_cons, not_or]
            exact ⟨fun e => h3.1 (e ▸ hi), hp i (by simp [stoS, hi])⟩
          · obtain ⟨e1, k1, k2⟩ := nxE_some (f := execs c b) (execs_none b) hf
            exact ⟨e1, k1, gb (fun i hi => by
              rw [List.mem_cons, not_or]
              exact ⟨fun e => h3.2 (e ▸ hi), hp i (by simp [stoS, hi])⟩) hx tk h4 k2⟩
theorem gs_whl {t : Ex} {b : Ss} (gb : GSs T N c b) : GS T N c (.whl t b) := fun {π W X sc so k env st r} hp hx tk hc he => by
  unfold chkS at hc
  split at hc <;> try cases hc
  all_goals rename_i q; cases q
  simp only [Bool.and_eq_true] at hc
  rw [exec_whl] at he
  exact st_whl hx (fun env1 b h => (gE t).t hx hc.1 h) (fun env1 r1 h => gb (fun i hi => hp i (by simpa [stoS] using hi)) hx tk hc.2 h) he
/-! ### statements that change slots -/
theorem gs_cont : GS T N c .cont := fun {π W X sc so k env st r} hp hx tk hc he => by
  unfold chkS at hc
  split at hc <;> try cases hc
  all_goals rename_i q; cases q
  rw [exec] at he
  cases he
  exact st_cont
theorem chkF_lc {sc : Scope} {e : Fx} {el : Expr} {gs : List Comprehension} {scope : Scope} {p : Pos} (h : chkF T N sc e (.ListComp el gs scope p) = true) : (∃ e0, e = .p e0 ∧ chk T N sc e0 (.ListComp el gs scope p) = true) ∨ ∃ own tg it cd e', e = .lc own tg it cd e' := by
  cases e
  case p e0 => unfold chkF at h; exact .inl ⟨e0, rfl, h⟩
  case lc own tg it cd e' => exact .inr ⟨_, _, _, _, _, rfl⟩
  case mv i ps => unfold chkF at h; cases ps with
    | nil => obtain ⟨_, _, z, _⟩ := chkPl_nil h; cases z
    | cons q ps => cases q with
      | fld f => obtain ⟨_, _, z, _⟩ := chkPl_fld h; cases z
      | ix k => obtain ⟨_, _, _, z, _⟩ := chkPl_el h; cases z
  case fr i ps => unfold chkF at h; cases ps with
    | nil => obtain ⟨_, _, z, _⟩ := chkPl_nil h; cases z
    | cons q ps => cases q with
      | fld f => obtain ⟨_, _, z, _⟩ := chkPl_fld h; cases z
      | ix k => obtain ⟨_, _, _, z, _⟩ := chkPl_el h; cases z
  all_goals
    exfalso
    unfold chkF at h
    cases h
theorem lcF_any {X : Cx} {W : WX} {sc so : Scope} {k : Nat} {env env1 : Env} {e : Fx} {el : Expr} {gs : List Comprehension} {scope : Scope} {p : Pos} {rs : Rx O} (hx : XOk T c N sc so k X) (tk : Takes X W) (hc : chkF T N sc e (.ListComp el gs scope p) = true) (he : evF c e env = some (rs, env1)) :
    ∃ t i ifs, gs = [⟨t, i, ifs, 0⟩] ∧ LcF X W env scope t i el ifs rs env1 := by
  rcases chkF_lc hc with ⟨e0, rfl, h4⟩ | ⟨own, tg, it, cd, e', rfl⟩
  · obtain ⟨o, h1, rfl, rfl⟩ := evF_p he
    have key : ∀ {own : List Nat} {tg : Tg} {it : It} {cd : Ox} {e' : Ex}, e0 = .lc own tg it cd e' → ∃ t i ifs, gs = [⟨t, i, ifs, 0⟩] ∧ LcF X W env1 scope t i el ifs (.ok o) env1 := by
      intro own tg it cd e' z
      subst z
      obtain ⟨el', t, i, ifs, scope', p', hxx, hl⟩ := lc_any hx h4 h1
      cases hxx
      refine ⟨t, i, ifs, rfl, ?_⟩
      obtain ⟨own, wi, gg, tt, te, k1, k2, k3, k4, k5, k6, k7, k8, k9⟩ := hl
      exact ⟨own, wi, gg, tt, te, k1, k2, k3, k4, k5, k6, k7, k8, fun B0 H0 B H σ fp g Q t hg re q => k9 t.w.right re (gv_of q (.refl _) .refl t hg re)⟩
    have : chkW T N sc e0 (.ListComp el gs scope p) = true := by
      cases e0 <;> first | exact h4 | (unfold chk at h4; cases h4)
    obtain ⟨own, tg, it, cd, e', z, _⟩ := chkW_lc (X := X) this
    exact key z
  · obtain ⟨el', t, i, ifs, scope', p', hxx, hl⟩ := gf_lc (gFi it) (gF e') hx tk hc he
    cases hxx
    exact ⟨t, i, ifs, rfl, hl⟩
theorem bnd_of {α : Type} {z : Rf α} {f : α → Env → Rs} {r : Fl × Env} (h : bndS z f = some r) : ∃ rs e, z = some (rs, e) := by
  cases z with
  | none => cases h
  | some w => exact ⟨w.1, w.2, rfl⟩
theorem gs_appT {e : Fx} {i : Int} : GS T N c (.appT e i) := fun {π W X sc so k env st r} hp hx tk hc he => by
  unfold chkS at hc
  split at hc <;> try cases hc
  all_goals rename_i q; cases q
  rename_i o mm ap a cp pos
  simp only [Bool.and_eq_true, decide_eq_true_eq] at hc
  obtain ⟨⟨⟨⟨⟨rfl, h1⟩, h2⟩, h3⟩, h4⟩, h5⟩ := hc
  rw [exec] at he
  obtain ⟨rs, e1, z1⟩ := bnd_of he
  rw [z1] at he
  exact st_appT h1 h2 h3 ((gF e).r hx tk h4 z1) ((gE (.lit (.int i))).r hx h5 (by rw [evR])) he
theorem gs_asgF {i : Nat} {e : Fx} : GS T N c (.asgF i e) := fun {π W X sc so k env st r} hp hx tk hc he => by
  unfold chkS at hc
  split at hc <;> try cases hc
  all_goals rename_i q; cases q
  rename_i x p v pos
  simp only [Bool.and_eq_true] at hc
  obtain ⟨⟨h1, h2⟩, h3⟩ := hc
  rw [exec] at he
  obtain ⟨rs, e1, z1⟩ := bnd_of he
  rw [z1] at he
  have hi : i ∉ π := hp _ (by simp [stoS])
  cases v
  case ListComp el gs scope lp =>
    obtain ⟨t, i', ifs, rfl, hl⟩ := lcF_any hx tk h3 z1
    rw [swB, Bool.or_eq_true, decide_eq_true_eq] at h2
    by_cases hcl : sc.names.lookup x = some .cell
    · have h2 := hcl
      exact st_asgF hi hx h1 ((gF e).r hx tk h3 z1) he (sw_cell (by rw [hx.sc]; exact h2))
    replace h2 := h2.resolve_left hcl
    simp only [Bool.and_eq_true, decide_eq_true_eq] at h2
    obtain ⟨⟨⟨k1, k2⟩, k3⟩, k4⟩ := h2
    exact st_asgFLc hi hx h1 hl k2 (sw_true (by rw [hx.sc]; exact k1) (by rw [hx.sc]; exact k2) k3 (by simpa using k4)) he
  all_goals first | exact st_asgF hi hx h1 ((gF e).r hx tk h3 z1) he rfl | cases h2
theorem gs_asgP {i : Nat} {e : Fx} : GS T N c (.asgP i e) := fun {π W X sc so k env st r} hp hx tk hc he => by
  unfold chkS at hc
  split at hc <;> try cases hc
  all_goals rename_i q; cases q
  rename_i x p v pos
  simp only [Bool.and_eq_true] at hc
  obtain ⟨⟨h1, h2⟩, h3⟩ := hc
  rw [exec] at he
  obtain ⟨rs, e1, z1⟩ := bnd_of he
  rw [z1] at he
  have hi : i ∉ π := hp _ (by simp [stoS])
  cases v
  case ListComp el gs scope lp =>
    obtain ⟨t, i', ifs, rfl, hl⟩ := lcF_any hx tk h3 z1
    rw [swB, Bool.or_eq_true, decide_eq_true_eq] at h2
    by_cases hcl : sc.names.lookup x = some .cell
    · have h2 := hcl
      exact st_asgP hi hx h1 ((gF e).r hx tk h3 z1) he (sw_cell (by rw [hx.sc]; exact h2))
    replace h2 := h2.resolve_left hcl
    simp only [Bool.and_eq_true, decide_eq_true_eq] at h2
    obtain ⟨⟨⟨k1, k2⟩, k3⟩, k4⟩ := h2
    exact st_asgPLc hi hx h1 hl k2 (sw_true (by rw [hx.sc]; exact k1) (by rw [hx.sc]; exact k2) k3 (by simpa using k4)) he
  all_goals first | exact st_asgP hi hx h1 ((gF e).r hx tk h3 z1) he rfl | cases h2
theorem gs_asgTF {is : List Nat} {e : Fx} : GS T N c (.asgTF is e) := fun {π W X sc so k env st r} hp hx tk hc he => by
  unfold chkS at hc
  split at hc <;> try cases hc
  all_goals rename_i q; cases q
  rename_i es kk p v pos
  simp only [Bool.and_eq_true] at hc
  obtain ⟨⟨⟨h1, h2⟩, h3⟩, h4⟩ := hc
  rw [exec] at he
  obtain ⟨rs, e1, z1⟩ := bnd_of he
  rw [z1] at he
  refine st_asgTF (fun i hi => hp i (by simpa [stoS] using hi)) hx h1 ((gF e).r hx tk h4 z1) he (by unfold swapsWithSole; exact notLc_sw h2) ?_
  exact sw_const h3
theorem gs_augF {i : Nat} {op : Operator} {e : Fx} : GS T N c (.augF i op e) := fun {π W X sc so k env st r} hp hx tk hc he => by
  unfold chkS at hc
  split at hc <;> try cases hc
  all_goals rename_i q; cases q
  simp only [Bool.and_eq_true, decide_eq_true_eq] at hc
  obtain ⟨⟨⟨h1, h2⟩, rfl⟩, h3⟩ := hc
  rw [exec] at he
  split at he
  case isFalse => cases he
  rename_i hb
  obtain ⟨rs, e1, z1⟩ := bnd_of he
  rw [z1] at he
  exact st_augF (hp _ (by simp [stoS])) hx h1 ((gF e).r hx tk h3 z1) he (Option.isSome_iff_exists.mp hb)
theorem gs_expF {e : Fx} : GS T N c (.expF e) := fun {π W X sc so k env st r} hp hx tk hc he => by
  unfold chkS at hc
  split at hc <;> try cases hc
  all_goals rename_i q; cases q
  simp only [Bool.and_eq_true] at hc
  rw [exec] at he
  obtain ⟨rs, e1, z1⟩ := bnd_of he
  rw [z1] at he
  exact st_expF ((gF e).r hx tk hc.2 z1) he (notLc_sw hc.1)
theorem gs_retF {e : Fx} : GS T N c (.retF e) := fun {π W X sc so k env st r} hp hx tk hc he => by
  unfold chkS at hc
  split at hc <;> try cases hc
  all_goals rename_i q; cases q
  rw [exec] at he
  obtain ⟨rs, e1, z1⟩ := bnd_of he
  rw [z1] at he
  exact st_retF ((gF e).r hx tk hc z1) he
theorem gs_ifF {t : Fx} {a b : Ss} (ga : GSs T N c a) (gb : GSs T N c b) : GS T N c (.ifeF t a b) := fun {π W X sc so k env st r} hp hx tk hc he => by
  unfold chkS at hc
  split at hc <;> try cases hc
  all_goals rename_i q; cases q
  simp only [Bool.and_eq_true] at hc
  rw [exec] at he
  rcases bndS_some he with ⟨cn, us, e1, h1, rfl⟩ | ⟨o, e1, h1, h2⟩
  · exact st_ifF ((gF t).t hx tk hc.1.1 h1 (.ex cn us)) (fun z => by cases z) (fun z => by cases z) (fun cn' us' z => by cases z; rfl)
  · obtain ⟨d, k1, k2, k3⟩ := ifB_some h2
    cases k1
    refine st_ifF ((gF t).t hx tk hc.1.1 h1 (.ok d)) (fun z => ?_) (fun z => ?_) (fun cn' us' z => by cases z)
    · cases z
      exact ga (fun i hi => hp i (by simp [stoS, hi])) hx tk hc.1.2 (k2 rfl)
    · cases z
      exact gb (fun i hi => hp i (by simp [stoS, hi])) hx tk hc.2 (k3 rfl)
theorem gs_whlF {t : Fx} {b : Ss} (gb : GSs T N c b) : GS T N c (.whlF t b) := fun {π W X sc so k env st r} hp hx tk hc he => by
  unfold chkS at hc
  split at hc <;> try cases hc
  all_goals rename_i q; cases q
  simp only [Bool.and_eq_true] at hc
  rw [exec] at he
  exact st_whlF hx (fun env1 rs e rb h tb => (gF t).t hx tk hc.1 h tb) (fun env1 r1 h => gb (fun i hi => hp i (by simpa [stoS] using hi)) hx tk hc.2 h) he
theorem gs_forF {tg : Tg} {it : Fit} {b : Ss} (gb : GSs T N c b) : GS T N c (.forF tg it b) := fun {π W X sc so k env st r} hp hx tk hc he => by
  unfold chkS at hc
  split at hc <;> try cases hc
  all_goals rename_i q; cases q
  simp only [Bool.and_eq_true] at hc
  rw [exec] at he
  rcases bndS_some he with ⟨cn, us, e1, h1, rfl⟩ | ⟨ps, e1, h1, h2⟩
  · obtain ⟨z1, z2⟩ := (gFi it).r hx tk hc.1.2 h1
    exact st_forX hx hc.1.1 z1 z2
  · obtain ⟨z1, z2⟩ := (gFi it).r hx tk hc.1.2 h1
    refine st_for (fun i hi => hp i (by simp [stoS, hi])) hx hc.1.1 z1 z2 (fun env1 p r1 hf => ?_) h2
    obtain ⟨e2, k1, k2⟩ := nxE_some (f := execs c b) (execs_none b) hf
    exact ⟨e2, k1, gb (fun i hi => hp i (by simp [stoS, hi])) hx tk hc.2 k2⟩
theorem gs_setF {cl f : Str} {i : Nat} {ps : List Ps} {e : Fx} : GS T N c (.setF cl i ps f e) := fun {π W X sc so k env st r} hp hx tk hc he => by
  unfold chkS at hc
  split at hc <;> try cases hc
  all_goals rename_i q; cases q
  simp only [Bool.and_eq_true, decide_eq_true_eq] at hc
  obtain ⟨⟨⟨⟨rfl, h1⟩, h2⟩, h3⟩, h4⟩ := hc
  rw [exec] at he
  obtain ⟨rs, e1, z1⟩ := bnd_of he
  rw [z1] at he
  exact st_setF hx h1 h2 ((gF e).r hx tk h4 z1) h3 he
theorem gs_setX {i : Nat} {ps : List Ps} {ix : Ex} {e : Fx} : GS T N c (.setX i ps ix e) := fun {π W X sc so k env st r} hp hx tk hc he => by
  unfold chkS at hc
  split at hc <;> try cases hc
  all_goals rename_i q; cases q
  simp only [Bool.and_eq_true] at hc
  obtain ⟨⟨⟨h1, h2⟩, h3⟩, h4⟩ := hc
  rw [exec] at he
  obtain ⟨rs, e1, z1⟩ := bnd_of he
  rw [z1] at he
  exact st_setX hx h1 h3 ((gF e).r hx tk h4 z1) h2 he
theorem chkFs_nil' {sc : Scope} {es : Fxs} (h : chkFs T N sc es [] = true) : es = .nil := by
  cases es with
  | nil => rfl
  | cons => unfold chkFs at h; cases h
theorem rcvB_there {m : MM} {i : Nat} {env : Env} {q : Option (List Pt)} (h : rcvB m (plcG env i q) = true) : ∃ q0 y, q = some q0 ∧ plcG env i (some q0) = some y := by
  cases q with
  | none => cases m <;> cases h
  | some q0 =>
    cases z : plcG env i (some q0) with
    | none => rw [z] at h; cases m <;> cases h
    | some y => exact ⟨q0, y, rfl, z⟩
theorem gs_mutF {m : MM} {i : Nat} {ps : List Ps} {es : Fxs} : GS T N c (.mutF m i ps es) := fun {π W X sc so k env st r} hp hx tk hc he => by
  unfold chkS at hc
  split at hc <;> try cases hc
  all_goals rename_i q; cases q
  simp only [Bool.and_eq_true, decide_eq_true_eq, Bool.or_eq_true] at hc
  obtain ⟨⟨⟨⟨⟨⟨rfl, ha⟩, hb⟩, hl⟩, h1⟩, h2⟩, h3⟩ := hc
  rename_i ob ap args cp pos
  rw [exec] at he
  split at he
  case isFalse => cases he
  rename_i hls
  obtain ⟨q0, y0, hq, hy⟩ := rcvB_there hls
  rw [hq] at hls
  have hls2 : m ≠ .update → lstB (plcG env i (some q0)) = true := fun z => by
    unfold rcvB at hls
    split at hls
    · exact absurd rfl z
    · exact hls
  have hv := snd_pl hx h1 hq hy
  have zero : args = [] → (m = .reverse ∨ m = .clear) → SndSt π W X env (.Expr (.Call (.Attribute ob (mmN m) ap) args [] cp) pos) r := fun z hm => by
    subst z
    have := chkFs_nil' h3
    subst this
    rw [evFs] at he
    have he : mutFS m env i (rsv c env ps) [] = some r := he
    rw [hq] at he
    exact st_mutF0 hb hl hv (hls2 (by rcases hm with rfl | rfl <;> exact fun z => by cases z)) he hm
  have one : ∀ x1, args = [x1] → (m = .append ∨ m = .extend ∨ m = .update) → SndSt π W X env (.Expr (.Call (.Attribute ob (mmN m) ap) args [] cp) pos) r := fun x1 z hm => by
    subst z
    cases es with
    | nil => unfold chkFs at h3; cases h3
    | cons e es =>
      unfold chkFs at h3
      rw [Bool.and_eq_true] at h3
      have := chkFs_nil' h3.2
      subst this
      rw [evFs] at he
      have hn := chkF_nst h3.1
      -- the argument, the place kept
      have key : ∀ {rs : Rx O} {e1 : Env}, evF c e env = some (rs, e1) → SndFK X W env x1 rs e1 i q0 ∧ rsv c e1 ps = some q0 := by
        intro rs e1 z
        rcases h2 with h2 | h2
        · have h2 : ps = [] := by simpa using h2
          subst h2
          rw [rsv] at hq
          cases hq
          exact ⟨((gF e).r hx tk h3.1 z).slot, by rw [rsv]⟩
        · have h2 : (puB e && puFs .nil) = true := h2
          rw [Bool.and_eq_true] at h2
          obtain ⟨e0, rfl⟩ := puB_p h2.1
          obtain ⟨o, k1, rfl, rfl⟩ := evF_p z
          have hc1 := h3.1
          unfold chkF at hc1
          have sn : Snd X e1 x1 o := (gE e0).r hx hc1 k1
          exact ⟨sn.fk, hq⟩
      rcases bndS_some he with ⟨cn, us, e1, z, rfl⟩ | ⟨os, e1, z, hk⟩
      · rcases bnd_some z with ⟨cn', us', k1, k2⟩ | ⟨o, e2, k1, k2⟩
        · cases k2
          obtain ⟨kk1, kk2⟩ := key k1
          by_cases hu : m = .update
          · subst hu
            exact st_mutFU hb hl hn hv hls kk1 rfl
          · exact st_mutF1 hb hl hn hv (hls2 hu) kk1 rfl (by rcases hm with z | z | z <;> first | exact .inl z | exact .inr z | exact absurd z hu)
        · rw [evFs] at k2
          cases k2
      · rcases bnd_some z with ⟨cn', us', k1, k2⟩ | ⟨o, e2, k1, k2⟩
        · cases k2
        · rw [evFs] at k2
          cases k2
          obtain ⟨kk1, kk2⟩ := key k1
          rw [kk2] at hk
          by_cases hu : m = .update
          · subst hu
            exact st_mutFU (rs := .ok o) hb hl hn hv hls kk1 hk
          · exact st_mutF1 (rs := .ok o) hb hl hn hv (hls2 hu) kk1 hk (by rcases hm with z | z | z <;> first | exact .inl z | exact .inr z | exact absurd z hu)
  unfold mmA at ha
  split at ha
  · exact one _ rfl (.inl rfl)
  · exact one _ rfl (.inr (.inl rfl))
  · exact one _ rfl (.inr (.inr rfl))
  · exact zero rfl (.inl rfl)
  · exact zero rfl (.inr rfl)
  · cases ha
theorem gss_nil : GSs T N c .nil := fun {π W X sc so k env sts r} hp hx tk hc he => by
  rw [execs] at he
  cases he
  cases sts with
  | nil => exact ss_nil
  | cons => unfold chkSs at hc; cases hc
theorem gss_cons {s : S} {ss : Ss} (g : GS T N c s) (gs : GSs T N c ss) : GSs T N c (.cons s ss) := fun {π W X sc so k env sts r} hp hx tk hc he => by
  rw [execs, stepS] at he
  have hp1 : ∀ i ∈ stoS s, i ∉ π := fun i hi => hp i (by simp [stoSs, hi])
  have hp2 : ∀ i ∈ stoSs ss, i ∉ π := fun i hi => hp i (by simp [stoSs, hi])
  have gen : ∀ {x : Stmt} {xs : List Stmt}, sts = x :: xs → chkS T N sc so s x = true → chkSs T N sc so ss xs = true → SndSs π W X env sts r := fun {x xs} e h1 h2 => by
    subst e
    cases z : exec c env s with
    | none => rw [z, execs_none] at he; cases he
    | some r1 =>
      obtain ⟨fl, e1⟩ := r1
      rw [z] at he
      have a := g (π := π) (W := W) hp1 hx tk h1 z
      by_cases hf : fl = .nx
      · subst hf
        exact ss_next a (gs hp2 hx tk h2 he)
      · rw [execs_end hf] at he
        cases he
        exact ss_end hf a
  cases s
  case frz i0 =>
    unfold chkSs at hc
    rw [exec] at he
    cases z : toP (o1 fz (slot env i0)) with
    | none => rw [z, show putS env i0 none = none from rfl, execs_none] at he; cases he
    | some o =>
      obtain ⟨p, h1, rfl⟩ := toP_some z
      obtain ⟨o, h2, h3⟩ := o1_some h1
      rw [z] at he
      exact ss_frz h2 h3 (gs hp2 hx tk hc he)
  all_goals
    cases sts with
    | nil => unfold chkSs at hc; cases hc
    | cons x xs =>
      unfold chkSs at hc
      rw [Bool.and_eq_true] at hc
      exact gen rfl hc.1 hc.2
mutual
theorem gS : ∀ s : S, GS T N c s
  | .asg i e => gs_asg
  | .asgT is e => gs_asgT
  | .aug i op e => gs_aug
  | .setI i ix e => gs_setI
  | .augI i ix op e => fun hp hx tk hc he => by rw [exec] at he; cases he
  | .exp e => gs_exp
  | .mut m i es => gs_mut
  | .pop j i es => gs_pop
  | .ife t a b => gs_ife (gSs a) (gSs b)
  | .forr tg it b => gs_forr (gSs b)
  | .forW j tg it b => gs_forW (gSs b)
  | .whl t b => gs_whl (gSs b)
  | .ret e => gs_ret
  | .retN => gs_retN
  | .pass => gs_pass
  | .brk => gs_brk
  | .frz i => gs_frz
  | .asgF i e => gs_asgF
  | .asgP i e => gs_asgP
  | .asgTF is e => gs_asgTF
  | .augF i op e => gs_augF
  | .expF e => gs_expF
  | .retF e => gs_retF
  | .ifeF t a b => gs_ifF (gSs a) (gSs b)
  | .whlF t b => gs_whlF (gSs b)
  | .forF tg it b => gs_forF (gSs b)
  | .setF cl i ps f e => gs_setF
  | .setX i ps ix e => gs_setX
  | .mutF m i ps es => gs_mutF
  | .cont => gs_cont
  | .raise cl es => fun hp hx tk hc he => by unfold chkS at hc; cases hc
  | .fail => fun hp hx tk hc he => by rw [exec] at he; cases he
  | .appT e i => gs_appT
theorem gSs : ∀ ss : Ss, GSs T N c ss
  | .nil => gss_nil
  | .cons s ss => gss_cons (gS s) (gSs ss)
end
end G

set_option maxRecDepth 100000
namespace G
open PySem L2
/-! ### defs -/
def ioOf (ds : Nat → Option Df) (f : Nat) : List Bool := match ds f with
  | some d => d.io
  | none => []
/-- the callees' worths, by the depth of calls -/
def Ck (ds : Nat → Option Df) (gl : Nat → Option P) (fuel : Nat) : Nat → Ct
  | 0 => { call := fun _ _ => none, low := fun _ _ => none, gl := gl, fuel := fuel, io := ioOf ds, exf := fun _ _ => none }
  | k + 1 => { call := fun f os => match ds f with
    | some d => runD (Ck ds gl fuel k) d os
    | none => none, low := (Ck ds gl fuel k).call, gl := gl, fuel := fuel, io := ioOf ds, exf := fun _ _ => none }
theorem Ck_gl {ds : Nat → Option Df} {gl : Nat → Option P} {fuel : Nat} : ∀ k, (Ck ds gl fuel k).gl = gl
  | 0 => rfl
  | _ + 1 => rfl
theorem Ck_io {ds : Nat → Option Df} {gl : Nat → Option P} {fuel : Nat} : ∀ k, (Ck ds gl fuel k).io = ioOf ds
  | 0 => rfl
  | _ + 1 => rfl
theorem Ck_low {ds : Nat → Option Df} {gl : Nat → Option P} {fuel : Nat} (k : Nat) : (Ck ds gl fuel (k + 1)).low = (Ck ds gl fuel k).call := rfl
/-- what the names of the module stand for: nothing that the machine calls by its own name -/
structure Bare (mg : Str → Option Value) : Prop where
  blt : ∀ b, mg (biN b) = none
  isi : mg "isinstance" = none
  rng : mg "range" = none
  enu : mg "enumerate" = none
  zip : mg "zip" = none
  rev : mg "reversed" = none
  ty : ∀ t, mg (Str.ofString (tyN t)) = none
/-- no lent parameter is bound anew -/
def pinB (d : Df) : Bool := (stoSs d.body).all fun i => !((d.io[i]?).getD false)
structure DefC (K : PySem.W.Frag) (T : Tb) (d : Df) (a : Addr) (fd : FuncData) (ps : List Str) : Prop where
  ex : ∃ (st : Stmt) (N : List Str) (qual nm : Str), Fun K nm qual st a fd ∧ FnScope N ps (defScope st) ∧ chkSs T N (defScope st) (defScope st) d.body (defBody st) = true ∧ d.n = N.length
  bd : Binds K fd ps []
  np : d.ps = ps.length
  pin : pinB d = true
structure ProgOk (K : PySem.W.Frag) (mg : Str → Option Value) (T : Tb) (ds : Nat → Option Df) (gl : Nat → Option P) : Prop where
  fns : ∀ f x, T.fn f = some x → ∃ d a fd ps, ds f = some d ∧ mg x = some (.ref a) ∧ DefC K T d a fd ps
  mes : ∀ cl m f, T.me cl m = some f → ∃ C d a fd ps, ds f = some d ∧ clsK K cl = some C ∧ Meth K C m a ∧ DefC K T d a fd ps
  inis : ∀ cl f, T.ini cl = some f → ∃ C d a fd ps, ds f = some d ∧ clsK K cl = some C ∧ mg cl = some (.ref C) ∧ Cls K C ∧ Mk K C a ∧ DefC K T d a fd ps
  fls : ∀ cl f, T.fl cl f = true → ∃ C, clsK K cl = some C ∧ NoAttr K C f
  gls : ∀ g x p, T.gn g = some x → gl g = some p → ∃ u v, mg x = some u ∧ RelV v u ∧ (∀ B, RP K B v p) ∧ GTup K v p
  bare : Bare mg
theorem REnv.nones {K : PySem.W.Frag} {B H : Hp} : ∀ m : Nat, REnv K B H (List.replicate m none) (List.replicate m none) []
  | 0 => .nil
  | m + 1 => .non (REnv.nones m)
theorem ROs.env {K : PySem.W.Frag} {B H : Hp} : ∀ {vs : List V} {os : List O} {f : List Addr} (m : Nat), ROs K B H vs os f → REnv K B H (vs.map some ++ List.replicate m none) (os.map some ++ List.replicate m none) f := by
  intro vs os f m r
  induction os generalizing vs f with
  | nil =>
    cases r
    exact REnv.nones m
  | cons o os ih =>
    cases r with
    | cons h r => exact .som h (ih r)
theorem modeB_len : ∀ {io : List Bool} {os : List O}, modeB io os = true → io.length ≤ os.length
  | [], os, _ => by simp
  | _ :: _, [], h => by cases h
  | true :: bs, _ :: os, h => by
    have h : modeB bs os = true := h
    have := modeB_len h
    simp
    exact this
  | false :: bs, o :: os, h => by
    have h : (plB o && modeB bs os) = true := h
    rw [Bool.and_eq_true] at h
    have := modeB_len h.2
    simp
    exact this
/-- what the lent parameters hold, in the end -/
theorem outs_ok {K : PySem.W.Frag} {B H : Hp} : ∀ {io : List Bool} {σ : L2.St} {env : Env} {fp : List Addr} {vs : List V} {outs : List O}, io.length ≤ vs.length → REnv K B H σ env fp → (∀ j : Nat, io[j]? = some true → σ[j]? = (vs[j]?).map some) → outsD io env = some outs →
    ∃ g r', fp.Perm (g ++ r') ∧ ROs K B H (selV io vs) outs g
  | [], σ, env, fp, vs, outs, _, re, hp, h => by
    rw [outsD] at h
    cases h
    refine ⟨[], fp, .refl _, ?_⟩
    cases vs <;> exact .nil
  | b :: io, σ, env, fp, [], outs, hl, re, hp, h => by simp at hl
  | b :: io, σ, env, fp, v :: vs, outs, hl, re, hp, h => by
    have hl2 : io.length ≤ vs.length := by simpa using hl
    cases re with
    | nil => cases b <;> (rw [outsD] at h <;> first | cases h | (intros; simp_all))
    | @non s σ env f re =>
      have hp' : ∀ j, io[j]? = some true → σ[j]? = (vs[j]?).map some := fun j hj => by
        have := hp (j + 1) (by simpa using hj)
        simpa using this
      cases b with
      | false =>
        have h : outsD io env = some outs := by rw [outsD] at h; exact h
        exact outs_ok (io := io) hl2 re hp' h
      | true =>
        exfalso
        simp [outsD] at h
    | @som w o σ env f g ro re =>
      have hp' : ∀ j, io[j]? = some true → σ[j]? = (vs[j]?).map some := fun j hj => by
        have := hp (j + 1) (by simpa using hj)
        simpa using this
      cases b with
      | false =>
        have h : outsD io env = some outs := by rw [outsD] at h; exact h
        obtain ⟨g', r', h1, h2⟩ := outs_ok (io := io) hl2 re hp' h
        exact ⟨g', f ++ r', (List.Perm.append_left f h1).trans (perm_ac f g' r'), h2⟩
      | true =>
        have h : consA (some o) (outsD io env) = some outs := by rw [outsD] at h; exact h
        obtain ⟨a, as, h1, h2, rfl⟩ := consA_some h
        cases h1
        obtain ⟨g', r', h3, h4⟩ := outs_ok (io := io) hl2 re hp' h2
        have ew : w = v := by
          have := hp 0 (by simp)
          simpa using this
        subst ew
        refine ⟨f ++ g', r', ?_, .cons ro h4⟩
        rw [List.append_assoc]
        exact List.Perm.append_left f h3
theorem finD_some {io : List Bool} {z : Rs} {r : Rx O × List O} (h : finD io z = some r) : ∃ fl env outs, z = some (fl, env) ∧ outsD io env = some outs ∧ ((∃ o, fl = .rt o ∧ r = (.ok o, outs)) ∨ (fl = .nx ∧ r = (.ok (.pl .none), outs)) ∨ ∃ c us, fl = .ex c us ∧ r = (.ex c us, outs)) := by
  have fr : ∀ {x : Rx O} {z : Option (List O)} {r}, finR x z = some r → ∃ os, z = some os ∧ r = (x, os) := by
    intro x z r h
    cases z with
    | none => cases h
    | some os => cases h; exact ⟨os, rfl, rfl⟩
  unfold finD at h
  split at h
  · obtain ⟨os, h1, rfl⟩ := fr h
    exact ⟨_, _, os, rfl, h1, .inl ⟨_, rfl, rfl⟩⟩
  · obtain ⟨os, h1, rfl⟩ := fr h
    exact ⟨_, _, os, rfl, h1, .inr (.inl ⟨rfl, rfl⟩)⟩
  · obtain ⟨os, h1, rfl⟩ := fr h
    exact ⟨_, _, os, rfl, h1, .inr (.inr ⟨_, _, rfl, rfl⟩)⟩
  · cases h
def pinsOf (io : List Bool) : List Nat := (List.range io.length).filter fun j => (io[j]?).getD false
section
variable {K : PySem.W.Frag} {mg : Str → Option Value} {T : Tb} {ds : Nat → Option Df} {gl : Nat → Option P} {fuel : Nat} {Pr : Program} {w : World} {base : Heap}
theorem def_ok (p : ProgOk K mg T ds gl) {k : Nat} {d : Df} {a : Addr} {fd : FuncData} {ps : List Str} (D : DefC K T d a fd ps)
    (ih : ∀ f d a fd ps, ds f = some d → DefC K T d a fd ps → FnOk Pr w K mg base (L2.CX Pr w) k a fd ps (spM K d.io ((Ck ds gl fuel k).call f)))
    (ih2 : k = 0 ∨ ∃ j, k = j + 1 ∧ ∀ f d a fd ps, ds f = some d → DefC K T d a fd ps → FnOk Pr w K mg base (L2.CX Pr w) j a fd ps (spM K d.io ((Ck ds gl fuel j).call f))) :
    FnOk Pr w K mg base (L2.CX Pr w) (k + 1) a fd ps (spM K d.io (runD (Ck ds gl fuel k) d)) := by
  obtain ⟨st, N, qual, nm, F, S, hc, hn⟩ := D.ex
  have run : ∀ {os : List O} {r : Rx O × List O}, runD (Ck ds gl fuel k) d os = some r → os.length = d.ps ∧ modeB d.io os = true ∧ finD d.io (execs (Ck ds gl fuel k) d.body (some (.nx, startE d.n os))) = some r := by
    intro os r h
    unfold runD at h
    split at h
    · rename_i hh
      exact ⟨hh.1, hh.2, h⟩
    · cases h
  refine F.okX S (fun vs H Q E h => ?_) (fun cdv A outer s H vs Q E hr h => ?_)
  · obtain ⟨B, os, f0, r, _, _, _, ro, hr, _⟩ := h
    rw [ro.len, (run hr).1, D.np]
  · obtain ⟨B, os, f0, r, eB, nd, out, ro, hr', post⟩ := h
    obtain ⟨hl, hm, hf⟩ := run hr'
    obtain ⟨fl, env, outs, h1, h2, h3⟩ := finD_some hf
    generalize hX : cxOf (L2.CX Pr w) Pr w K mg base N qual (defScope st) a cdv A outer s H E = X
    have tk : Takes X (fun cls d _ H => E cls d H) := by
      subst hX
      exact takes_of rfl rfl rfl rfl
    have hio : ∀ f d, ds f = some d → (Ck ds gl fuel k).io f = d.io := fun f d h => by
      rw [Ck_io]
      unfold ioOf
      rw [h]
    have xok : XOk T (Ck ds gl fuel k) N (defScope st) (defScope st) k X := by
      subst hX
      refine ⟨rfl, rfl, S.nd, rfl, fun _ _ => .inl rfl, hr, fun f x hfx => ?_, fun cl m f hm => ?_, fun cl f hi => ?_, p.fls, fun g x p' h1 h2 => p.gls g x p' h1 (by rw [← Ck_gl (ds := ds) (gl := gl) (fuel := fuel) k]; exact h2), p.bare.blt, p.bare.isi, p.bare.rng, p.bare.enu, p.bare.zip, p.bare.rev, p.bare.ty, passes_of rfl⟩
      · obtain ⟨d', a', fd', ps', z1, z2, z3⟩ := p.fns f x hfx
        obtain ⟨_, _, _, _, F', _⟩ := id z3.ex
        refine ⟨a', fd', ps', z2, F'.kp, z3.bd, ?_⟩
        rw [hio f d' z1]
        exact ih f d' a' fd' ps' z1 z3
      · obtain ⟨C, d', a', fd', ps', z1, z2, z3, z4⟩ := p.mes cl m f hm
        refine ⟨C, a', fd', ps', z2, z3, z4.bd, ?_⟩
        rw [hio f d' z1]
        exact ih f d' a' fd' ps' z1 z4
      · obtain ⟨C, d', a', fd', ps', z1, z2, z3, z4, z5, z6⟩ := p.inis cl f hi
        rcases ih2 with rfl | ⟨j, rfl, ih2⟩
        · exact .inl fun os => rfl
        · refine .inr ⟨C, a', fd', ps', j, rfl, z2, z3, z4, z5, z6.bd, ?_⟩
          rw [hio f d' z1, Ck_low]
          exact ih2 f d' a' fd' ps' z1 z6
    have hK : X.K = K := by subst hX; rfl
    have pinS : ∀ i ∈ stoSs d.body, i ∉ pinsOf d.io := fun i hi hp => by
      have := List.all_eq_true.mp D.pin i hi
      unfold pinsOf at hp
      rw [List.mem_filter] at hp
      rw [hp.2] at this
      cases this
    have hsn := gSs d.body pinS xok tk hc h1
    have hlen : N.length = d.n := hn.symm
    have re : REnv X.K B H (L2.start N vs) (startE d.n os) f0 := by
      rw [hK]
      unfold L2.start startE
      rw [hlen, ro.len]
      exact ro.env _
    have st0 : Sit B (cut H f0) B H f0 := ⟨⟨.refl B, cut_ext, eB, fun _ h => .inl h⟩, ⟨eB, nd, out⟩, fun a ha => cut_in ha⟩
    have lio : d.io.length ≤ vs.length := by
      rw [ro.len]
      exact modeB_len hm
    have pins : ∀ {σ : L2.St}, Pin (pinsOf d.io) (L2.start N vs) σ → ∀ j : Nat, d.io[j]? = some true → σ[j]? = (vs[j]?).map some := by
      intro σ pn j hj
      have hlt : j < d.io.length := (List.getElem?_eq_some_iff.mp hj).1
      have hm' : j ∈ pinsOf d.io := by
        unfold pinsOf
        rw [List.mem_filter]
        exact ⟨List.mem_range.mpr hlt, by rw [hj]; rfl⟩
      rw [pn j hm']
      unfold L2.start
      rw [List.getElem?_append_left (by rw [List.length_map]; omega), List.getElem?_map]
    have fin := hsn (D := { nx := fun _ H' => Q .non H', rt := Q }) st0 re (fun _ _ => rfl) (by
      rw [hK]
      rcases h3 with ⟨o, rfl, rfl⟩ | ⟨rfl, rfl⟩ | ⟨cn, us, rfl, rfl⟩
      · exact fun v B' H' σ f fp e1 t ro1 re1 pn => by
          obtain ⟨g, r', p1, rs⟩ := outs_ok lio re1 (pins pn) h2
          have t1 : Sit B (cut H f0) B' H' ((f ++ g) ++ r') := t.perm (by
            rw [List.append_assoc]
            exact List.Perm.append_left f p1)
          exact post v B' H' f g t.s ro1 rs t1.frs
      · exact fun B' H' σ fp e1 t re1 pn => by
          obtain ⟨g, r', p1, rs⟩ := outs_ok lio re1 (pins pn) h2
          have t1 : Sit B (cut H f0) B' H' (g ++ r') := t.perm p1
          exact post .non B' H' [] g t.s (.pl .non) rs t1.frs
      · exact fun cls d' B' H' σ f fp e1 t rx re1 pn => by
          obtain ⟨g, r', p1, rs⟩ := outs_ok lio re1 (pins pn) h2
          have t1 : Sit B (cut H f0) B' H' ((f ++ g) ++ r') := t.perm (by
            rw [List.append_assoc]
            exact List.Perm.append_left f p1)
          exact post cls d' B' H' f g t.s rx rs t1.frs)
    exact fin
/-- every def, at every depth -/
theorem all_ok (p : ProgOk K mg T ds gl) : ∀ (k f : Nat) (d : Df) (a : Addr) (fd : FuncData) (ps : List Str), ds f = some d → DefC K T d a fd ps → FnOk Pr w K mg base (L2.CX Pr w) k a fd ps (spM K d.io ((Ck ds gl fuel k).call f))
  | 0, f, d, a, fd, ps, h, D => by
    refine ⟨fun vs H Q E z => ?_, fun A outer s H args us vs Q E _ _ _ _ z => ?_⟩
    · obtain ⟨_, _, _, _, _, _, _, _, z, _⟩ := z
      cases z
    · obtain ⟨_, _, _, _, _, _, _, _, z, _⟩ := z
      cases z
  | k + 1, f, d, a, fd, ps, h, D => by
    have e : (Ck ds gl fuel (k + 1)).call f = runD (Ck ds gl fuel k) d := by
      funext os
      show (match ds f with
        | some d => runD (Ck ds gl fuel k) d os
        | none => none) = _
      rw [h]
    rw [e]
    refine def_ok p D (all_ok p k) ?_
    cases k with
    | zero => exact .inl rfl
    | succ j => exact .inr ⟨j, rfl, all_ok p j⟩
end
end G

set_option maxRecDepth 100000
namespace G
open PySem L2
/-- the law's own promise: of a list of at most n ints it tells True -/
def spEnd (K : PySem.W.Frag) (n : Nat) : Sp := fun vs H Q _ => ∃ (a : Addr) (ns : List Int), vs = [.ref a] ∧ SL K H a (ns.map V.int) ∧ ns.length ≤ n ∧ ∀ H', Q (.bl true) H'
section
variable {K : PySem.W.Frag} {mg : Str → Option Value} {T : Tb} {ds : Nat → Option Df} {gl : Nat → Option P} {fuel : Nat} {Pr : Program} {w : World} {base : Heap}
theorem end_fn {k n : Nat} {d : Df} {a : Addr} {fd : FuncData} {ps : List Str} (p : ProgOk K mg T ds gl) (D : DefC K T d a fd ps) (hl : ∀ ns : List Int, ns.length ≤ n → runD (Ck ds gl fuel k) d [.pl (.list (ns.map .int))] = some (.ok (.pl (.bool true)), [])) :
    FnOk Pr w K mg base (L2.CX Pr w) (k + 1) a fd ps (spEnd K n) := by
  refine (def_ok (fuel := fuel) p D (all_ok p k) (by
    cases k with
    | zero => exact .inl rfl
    | succ j => exact .inr ⟨j, rfl, all_ok p j⟩)).imp ?_
  rintro vs H Q E ⟨b, ns, rfl, hS, hn, q⟩
  have ho := hl ns hn
  have rp : ∀ ns : List Int, RPs K H (ns.map V.int) (ns.map PyData.int) := fun ns => by
    induction ns with
    | nil => exact .nil
    | cons i ns ih => exact .cons .int ih
  exact spM_pl (ps := [.list (ns.map .int)]) (.refl H) (.cons (.lst hS (rp ns)) .nil) ho fun v B' H' f s r _ => by rw [r.b]; exact q H'
/-- a def as the top has made it -/
theorem mkC {h : Heap} {d : Df} {x qual : Str} {st : Stmt} {N ps : List Str} {f : Addr} {oc : Value} {od an : Option Addr} {osl : Array (Option Value)} {kV doc pm cdv ct : Value} (X : K.In h)
    (l : K.lookup f = some ⟨oc, od, .func (PySem.W.fnOf x qual (defArgs st) (defBody st) (defScope st) .none kV doc pm an cdv ct), osl⟩)
    (c : PySem.W.codeIn K cdv qual = true) (k : PySem.W.keepIn K (.ref f) = true) (S : FnScope N ps (defScope st)) (hc : chkSs T N (defScope st) (defScope st) d.body (defBody st) = true) (hn : d.n = N.length) (hp : d.ps = ps.length) (hpin : pinB d = true)
    (hb : ∀ (kV doc pm : Value) (an : Option Addr) (cdv ct : Value) (us : List Value), us.length = ps.length → bindArgs (PySem.W.fnOf x qual (defArgs st) (defBody st) (defScope st) .none kV doc pm an cdv ct) ⟨us, []⟩ = pure (ps.zip us)) :
    DefC K T d f (PySem.W.fnOf x qual (defArgs st) (defBody st) (defScope st) .none kV doc pm an cdv ct) ps :=
  have F := fun_mk (st := st) l c k
  ⟨⟨st, N, qual, x, F, S, hc, hn⟩, F.binds hb, hp, hpin⟩
theorem mkI {h : Heap} {x : Str} {i : Int} {t : Tok} (X : K.In h) (G : h.Ns mainGlobals mg) (a : PySem.W.nsIn K mainGlobals x = some (some (.int i t))) : ∃ u v, mg x = some u ∧ RelV v u ∧ (∀ B, RP K B v (.int i)) ∧ GTup K v (.int i) := ⟨_, .int i, PySem.W.mg_of X G a, ⟨_, rfl⟩, fun _ => .int, fun _ h => nomatch h⟩
theorem mkS {h : Heap} {x : Str} {i : Str} {t : Tok} (X : K.In h) (G : h.Ns mainGlobals mg) (a : PySem.W.nsIn K mainGlobals x = some (some (.str i t))) : ∃ u v, mg x = some u ∧ RelV v u ∧ (∀ B, RP K B v (.str i)) ∧ GTup K v (.str i) := ⟨_, .str i, PySem.W.mg_of X G a, ⟨_, rfl⟩, fun _ => .str, fun _ h => nomatch h⟩
theorem mkTu {h : Heap} {x : Str} {t : Addr} {its : Array Value} {n : Nat} {sl : Array (Option Value)} {vs : List V} {xs : List P} (X : K.In h) (G : h.Ns mainGlobals mg) (a : PySem.W.nsIn K mainGlobals x = some (some (.ref t)))
    (l : K.lookup t = some ⟨.type "tuple", none, .seq its n, sl⟩) (v : its.size ≤ sizeLine ∧ Vals vs its.toList) (r : ∀ B, RPs K B vs xs) : ∃ u v, mg x = some u ∧ RelV v u ∧ (∀ B, RP K B v (.tuple xs)) ∧ GTup K v (.tuple xs) :=
  ⟨_, .ref t, PySem.W.mg_of X G a, rfl, fun B => .tup (.inr ⟨_, its, n, l, rfl, rfl, v.1, v.2⟩) (r B), fun ys h => by cases h; exact ⟨t, _, rfl, l, rfl, rfl, vs, ⟨its, n, rfl, v.1, v.2⟩, r⟩⟩
end
open PyProof PyProof.Rows in
theorem walkG {l : PySem.W.OpenLaw} {n k : Nat} {q : Program} {loose : List Str} {XP : (Str → Option Value) → Heap → Prop} {YP : World → Heap → Prop} {d : DefRec} {K : Params → PySem.W.Frag} {x : Str}
    (hn : l.most = some n) (hn2 : n ≤ sizeLine) (hdf : d.params.defaults = []) (hr : Room k callerA) (hY : ∀ (w : World) (h : Heap), YP w h → (K w.params).In h)
    (F : ∀ (w : World) (mg : Str → Option Value) (fa : Addr) (h : Heap), (K w.params).In h → h.Ns mainGlobals mg → mg d.name = some (.ref fa) →
      ∃ fd : FuncData, (∀ (s : Shared) (u : Value), BindsTo s fd ⟨[u], []⟩ [(x, u)]) ∧ ∀ base : Heap, (K w.params).In base → base.Ns mainGlobals mg → FnOk l.prog w (K w.params) mg base (L2.CX l.prog w) k fa fd [x] (spEnd (K w.params) n)) :
    PySem.W.WalkO q loose XP YP l.row.toRowW d [] (fun f vs => PySem.call f vs) := by
  refine Att.attach_call hn hdf fun w s₀ s₁ mg mb fa o pm cd doc a vs ns G Y ho hd hcd hmg hobj hints hlen hg => ?_
  have KX := hY w _ Y
  obtain ⟨fd, hb, hF⟩ := F w mg fa _ KX G.T.g hmg
  refine law_call (CX := L2.CX _ w) KX G.T.g G.T.b G.T.builtins G.T.nolimit hg hobj hints (Nat.le_trans hlen hn2) hr hF hb (fun H hO hS => ⟨a, ns, rfl, ?_, hlen, fun _ => rfl⟩) fun H e s' z => by
      obtain ⟨_, _, _, _, _, _, _, _, _, _, _, _, z⟩ := z
      exact z.elim
  rcases hS with hS | ⟨o', its, m, k1, k2, k3, k4, k5, k6⟩
  · exact .inl hS
  · have e := KX _ _ k1
    rw [hobj] at e
    cases e
    cases k4
    exact .inr ⟨_, _, k1, k5, k6⟩
end G
namespace G
open PySem L2
def meOf (L : List (Str × Str × Nat)) (cl m : Str) : Option Nat := (L.find? fun q => decide (q.1 = cl) && decide (q.2.1 = m)).map (·.2.2)
theorem meOf_some {L : List (Str × Str × Nat)} {cl m : Str} {f : Nat} (h : meOf L cl m = some f) : (cl, m, f) ∈ L := by
  unfold meOf at h
  cases z : L.find? (fun q => decide (q.1 = cl) && decide (q.2.1 = m)) with
  | none => rw [z] at h; cases h
  | some q =>
    rw [z] at h
    obtain ⟨a, b, c⟩ := q
    cases h
    have h1 := List.find?_some z
    rw [Bool.and_eq_true, decide_eq_true_eq, decide_eq_true_eq] at h1
    obtain ⟨rfl, rfl⟩ := h1
    exact List.mem_of_find?_eq_some z
def iniOf (L : List (Str × Nat)) (cl : Str) : Option Nat := (L.find? fun q => decide (q.1 = cl)).map (·.2)
theorem iniOf_some {L : List (Str × Nat)} {cl : Str} {f : Nat} (h : iniOf L cl = some f) : (cl, f) ∈ L := by
  unfold iniOf at h
  cases z : L.find? (fun q => decide (q.1 = cl)) with
  | none => rw [z] at h; cases h
  | some q =>
    rw [z] at h
    obtain ⟨a, b⟩ := q
    cases h
    have h1 := List.find?_some z
    rw [decide_eq_true_eq] at h1
    obtain rfl := h1
    exact List.mem_of_find?_eq_some z
def flOf (L : List (Str × Str)) (cl f : Str) : Bool := L.any fun q => decide (q.1 = cl) && decide (q.2 = f)
theorem flOf_some {L : List (Str × Str)} {cl f : Str} (h : flOf L cl f = true) : (cl, f) ∈ L := by
  unfold flOf at h
  rw [List.any_eq_true] at h
  obtain ⟨⟨a, b⟩, h1, h2⟩ := h
  rw [Bool.and_eq_true, decide_eq_true_eq, decide_eq_true_eq] at h2
  obtain ⟨rfl, rfl⟩ := h2
  exact h1
theorem clsK_of {K : PySem.W.Frag} {c : Str} {C : Addr} (a : PySem.W.nsIn K mainGlobals c = some (some (.ref C))) : clsK K c = some C := by
  unfold clsK
  rw [a]
end G

set_option maxRecDepth 100000
namespace G
open PySem L2
@[simp] theorem iBin_1 : type_of% @iBin.eq_1 := @iBin.eq_1
@[simp] theorem iBin_2 : type_of% @iBin.eq_2 := @iBin.eq_2
@[simp] theorem iBin_3 : type_of% @iBin.eq_3 := @iBin.eq_3
@[simp] theorem iBin_4 : type_of% @iBin.eq_4 := @iBin.eq_4
@[simp] theorem iBin_5 : type_of% @iBin.eq_5 := @iBin.eq_5
@[simp] theorem iBin_6 : type_of% @iBin.eq_6 := @iBin.eq_6
@[simp] theorem iBin_7 : type_of% @iBin.eq_7 := @iBin.eq_7
@[simp] theorem iBin_8 : type_of% @iBin.eq_8 := @iBin.eq_8
@[simp] theorem iBin_9 : type_of% @iBin.eq_9 := @iBin.eq_9
@[simp] theorem iBin_10 : type_of% @iBin.eq_10 := @iBin.eq_10
@[simp] theorem iBin_11 : type_of% @iBin.eq_11 := @iBin.eq_11
@[simp] theorem iBin_12 : type_of% @iBin.eq_12 := @iBin.eq_12
@[simp] theorem toI_1 : type_of% @toI.eq_1 := @toI.eq_1
@[simp] theorem toI_2 : type_of% @toI.eq_2 := @toI.eq_2
@[simp] theorem toB_1 : type_of% @toB.eq_1 := @toB.eq_1
@[simp] theorem toB_2 : type_of% @toB.eq_2 := @toB.eq_2
@[simp] theorem toP_1 : type_of% @toP.eq_1 := @toP.eq_1
@[simp] theorem toP_2 : type_of% @toP.eq_2 := @toP.eq_2
@[simp] theorem o1_1 : type_of% @o1.eq_1 := @o1.eq_1
@[simp] theorem o1_2 : type_of% @o1.eq_2 := @o1.eq_2
@[simp] theorem o2_1 : type_of% @o2.eq_1 := @o2.eq_1
@[simp] theorem o2_2 : type_of% @o2.eq_2 := @o2.eq_2
@[simp] theorem o3_1 : type_of% @o3.eq_1 := @o3.eq_1
@[simp] theorem o3_2 : type_of% @o3.eq_2 := @o3.eq_2
@[simp] theorem litems_1 : type_of% @litems.eq_1 := @litems.eq_1
@[simp] theorem litems_2 : type_of% @litems.eq_2 := @litems.eq_2
@[simp] theorem litems_3 : type_of% @litems.eq_3 := @litems.eq_3
@[simp] theorem titems_1 : type_of% @titems.eq_1 := @titems.eq_1
@[simp] theorem titems_2 : type_of% @titems.eq_2 := @titems.eq_2
@[simp] theorem ditems_1 : type_of% @ditems.eq_1 := @ditems.eq_1
@[simp] theorem ditems_2 : type_of% @ditems.eq_2 := @ditems.eq_2
@[simp] theorem ditems_3 : type_of% @ditems.eq_3 := @ditems.eq_3
@[simp] theorem addL_1 : type_of% @addL.eq_1 := @addL.eq_1
@[simp] theorem addO_1 : type_of% @addO.eq_1 := @addO.eq_1
@[simp] theorem addO_2 : type_of% @addO.eq_2 := @addO.eq_2
@[simp] theorem addO_3 : type_of% @addO.eq_3 := @addO.eq_3
@[simp] theorem addO_4 : type_of% @addO.eq_4 := @addO.eq_4
@[simp] theorem addO_5 : type_of% @addO.eq_5 := @addO.eq_5
@[simp] theorem addO_6 : type_of% @addO.eq_6 := @addO.eq_6
@[simp] theorem addO_7 : type_of% @addO.eq_7 := @addO.eq_7
@[simp] theorem addO_8 : type_of% @addO.eq_8 := @addO.eq_8
@[simp] theorem intO_1 : type_of% @intO.eq_1 := @intO.eq_1
@[simp] theorem intO_2 : type_of% @intO.eq_2 := @intO.eq_2
@[simp] theorem mulL_1 : type_of% @mulL.eq_1 := @mulL.eq_1
@[simp] theorem mulO_1 : type_of% @mulO.eq_1 := @mulO.eq_1
@[simp] theorem mulO_2 : type_of% @mulO.eq_2 := @mulO.eq_2
@[simp] theorem mulO_3 : type_of% @mulO.eq_3 := @mulO.eq_3
@[simp] theorem mulO_4 : type_of% @mulO.eq_4 := @mulO.eq_4
@[simp] theorem mulO_5 : type_of% @mulO.eq_5 := @mulO.eq_5
@[simp] theorem binO_1 : type_of% @binO.eq_1 := @binO.eq_1
@[simp] theorem binO_2 : type_of% @binO.eq_2 := @binO.eq_2
@[simp] theorem binO_3 : type_of% @binO.eq_3 := @binO.eq_3
@[simp] theorem binO_4 : type_of% @binO.eq_4 := @binO.eq_4
@[simp] theorem binO_5 : type_of% @binO.eq_5 := @binO.eq_5
@[simp] theorem binO_6 : type_of% @binO.eq_6 := @binO.eq_6
@[simp] theorem binO_7 : type_of% @binO.eq_7 := @binO.eq_7
@[simp] theorem binO_8 : type_of% @binO.eq_8 := @binO.eq_8
@[simp] theorem binO_9 : type_of% @binO.eq_9 := @binO.eq_9
@[simp] theorem binO_10 : type_of% @binO.eq_10 := @binO.eq_10
@[simp] theorem binO_11 : type_of% @binO.eq_11 := @binO.eq_11
@[simp] theorem binO_12 : type_of% @binO.eq_12 := @binO.eq_12
@[simp] theorem negO_1 : type_of% @negO.eq_1 := @negO.eq_1
@[simp] theorem negO_2 : type_of% @negO.eq_2 := @negO.eq_2
@[simp] theorem notO_1 : type_of% @notO.eq_1 := @notO.eq_1
@[simp] theorem notO_2 : type_of% @notO.eq_2 := @notO.eq_2
@[simp] theorem ifB_1 : type_of% @ifB.eq_1 := @ifB.eq_1
@[simp] theorem ifB_2 : type_of% @ifB.eq_2 := @ifB.eq_2
@[simp] theorem eqO_1 : type_of% @eqO.eq_1 := @eqO.eq_1
@[simp] theorem eqO_2 : type_of% @eqO.eq_2 := @eqO.eq_2
@[simp] theorem eqO_3 : type_of% @eqO.eq_3 := @eqO.eq_3
@[simp] theorem eqQ_1 : type_of% @eqQ.eq_1 := @eqQ.eq_1
@[simp] theorem eqQ_2 : type_of% @eqQ.eq_2 := @eqQ.eq_2
@[simp] theorem flatP_1 : type_of% @flatP.eq_1 := @flatP.eq_1
@[simp] theorem flatP_2 : type_of% @flatP.eq_2 := @flatP.eq_2
@[simp] theorem flatP_3 : type_of% @flatP.eq_3 := @flatP.eq_3
@[simp] theorem flatP_4 : type_of% @flatP.eq_4 := @flatP.eq_4
@[simp] theorem flatP_5 : type_of% @flatP.eq_5 := @flatP.eq_5
@[simp] theorem seqI_1 : type_of% @seqI.eq_1 := @seqI.eq_1
@[simp] theorem seqI_2 : type_of% @seqI.eq_2 := @seqI.eq_2
@[simp] theorem seqI_3 : type_of% @seqI.eq_3 := @seqI.eq_3
@[simp] theorem seqI_4 : type_of% @seqI.eq_4 := @seqI.eq_4
@[simp] theorem inSq_1 : type_of% @inSq.eq_1 := @inSq.eq_1
@[simp] theorem hasK_1 : type_of% @hasK.eq_1 := @hasK.eq_1
@[simp] theorem inO_1 : type_of% @inO.eq_1 := @inO.eq_1
@[simp] theorem inO_2 : type_of% @inO.eq_2 := @inO.eq_2
@[simp] theorem inO_3 : type_of% @inO.eq_3 := @inO.eq_3
@[simp] theorem inO_4 : type_of% @inO.eq_4 := @inO.eq_4
@[simp] theorem inO_5 : type_of% @inO.eq_5 := @inO.eq_5
@[simp] theorem inO_6 : type_of% @inO.eq_6 := @inO.eq_6
@[simp] theorem inO_7 : type_of% @inO.eq_7 := @inO.eq_7
@[simp] theorem isNo_1 : type_of% @isNo.eq_1 := @isNo.eq_1
@[simp] theorem isNo_2 : type_of% @isNo.eq_2 := @isNo.eq_2
@[simp] theorem cmpI_1 : type_of% @cmpI.eq_1 := @cmpI.eq_1
@[simp] theorem cmpI_2 : type_of% @cmpI.eq_2 := @cmpI.eq_2
@[simp] theorem neg_1 : type_of% @neg.eq_1 := @neg.eq_1
@[simp] theorem neg_2 : type_of% @neg.eq_2 := @neg.eq_2
@[simp] theorem cmpO_1 : type_of% @cmpO.eq_1 := @cmpO.eq_1
@[simp] theorem cmpO_2 : type_of% @cmpO.eq_2 := @cmpO.eq_2
@[simp] theorem cmpO_3 : type_of% @cmpO.eq_3 := @cmpO.eq_3
@[simp] theorem cmpO_4 : type_of% @cmpO.eq_4 := @cmpO.eq_4
@[simp] theorem cmpO_5 : type_of% @cmpO.eq_5 := @cmpO.eq_5
@[simp] theorem cmpO_6 : type_of% @cmpO.eq_6 := @cmpO.eq_6
@[simp] theorem cmpO_7 : type_of% @cmpO.eq_7 := @cmpO.eq_7
@[simp] theorem cmpO_8 : type_of% @cmpO.eq_8 := @cmpO.eq_8
@[simp] theorem cmpO_9 : type_of% @cmpO.eq_9 := @cmpO.eq_9
@[simp] theorem cmpO_10 : type_of% @cmpO.eq_10 := @cmpO.eq_10
@[simp] theorem cmpV_1 : type_of% @cmpV.eq_1 := @cmpV.eq_1
@[simp] theorem chn1_1 : type_of% @chn1.eq_1 := @chn1.eq_1
@[simp] theorem chn1_2 : type_of% @chn1.eq_2 := @chn1.eq_2
@[simp] theorem chn_1 : type_of% @chn.eq_1 := @chn.eq_1
@[simp] theorem plC_1 : type_of% @plC.eq_1 := @plC.eq_1
@[simp] theorem plC_2 : type_of% @plC.eq_2 := @plC.eq_2
@[simp] theorem plains_1 : type_of% @plains.eq_1 := @plains.eq_1
@[simp] theorem plains_2 : type_of% @plains.eq_2 := @plains.eq_2
@[simp] theorem plains_3 : type_of% @plains.eq_3 := @plains.eq_3
@[simp] theorem mkL1_1 : type_of% @mkL1.eq_1 := @mkL1.eq_1
@[simp] theorem mkL1_2 : type_of% @mkL1.eq_2 := @mkL1.eq_2
@[simp] theorem mkL_1 : type_of% @mkL.eq_1 := @mkL.eq_1
@[simp] theorem mkT1_1 : type_of% @mkT1.eq_1 := @mkT1.eq_1
@[simp] theorem mkT1_2 : type_of% @mkT1.eq_2 := @mkT1.eq_2
@[simp] theorem mkT_1 : type_of% @mkT.eq_1 := @mkT.eq_1
@[simp] theorem toC_1 : type_of% @toC.eq_1 := @toC.eq_1
@[simp] theorem toC_2 : type_of% @toC.eq_2 := @toC.eq_2
@[simp] theorem idxS_1 : type_of% @idxS.eq_1 := @idxS.eq_1
@[simp] theorem idxO_1 : type_of% @idxO.eq_1 := @idxO.eq_1
@[simp] theorem idxO_2 : type_of% @idxO.eq_2 := @idxO.eq_2
@[simp] theorem idxO_3 : type_of% @idxO.eq_3 := @idxO.eq_3
@[simp] theorem idxO_4 : type_of% @idxO.eq_4 := @idxO.eq_4
@[simp] theorem idxO_5 : type_of% @idxO.eq_5 := @idxO.eq_5
@[simp] theorem idxO_6 : type_of% @idxO.eq_6 := @idxO.eq_6
@[simp] theorem idxO_7 : type_of% @idxO.eq_7 := @idxO.eq_7
@[simp] theorem idxO_8 : type_of% @idxO.eq_8 := @idxO.eq_8
@[simp] theorem idxO_9 : type_of% @idxO.eq_9 := @idxO.eq_9
@[simp] theorem slcO_1 : type_of% @slcO.eq_1 := @slcO.eq_1
@[simp] theorem slcO_2 : type_of% @slcO.eq_2 := @slcO.eq_2
@[simp] theorem slcO_3 : type_of% @slcO.eq_3 := @slcO.eq_3
@[simp] theorem slcO_4 : type_of% @slcO.eq_4 := @slcO.eq_4
@[simp] theorem slcO_5 : type_of% @slcO.eq_5 := @slcO.eq_5
@[simp] theorem seqAny_1 : type_of% @seqAny.eq_1 := @seqAny.eq_1
@[simp] theorem seqAny_2 : type_of% @seqAny.eq_2 := @seqAny.eq_2
@[simp] theorem seqAny_3 : type_of% @seqAny.eq_3 := @seqAny.eq_3
@[simp] theorem seqAny_4 : type_of% @seqAny.eq_4 := @seqAny.eq_4
@[simp] theorem seqAny_5 : type_of% @seqAny.eq_5 := @seqAny.eq_5
@[simp] theorem clnP_1 : type_of% @clnP.eq_1 := @clnP.eq_1
@[simp] theorem clnP_2 : type_of% @clnP.eq_2 := @clnP.eq_2
@[simp] theorem clnP_3 : type_of% @clnP.eq_3 := @clnP.eq_3
@[simp] theorem clnP_4 : type_of% @clnP.eq_4 := @clnP.eq_4
@[simp] theorem clnP_5 : type_of% @clnP.eq_5 := @clnP.eq_5
@[simp] theorem clnP_6 : type_of% @clnP.eq_6 := @clnP.eq_6
@[simp] theorem clnP_7 : type_of% @clnP.eq_7 := @clnP.eq_7
@[simp] theorem clnPs_1 : type_of% @clnPs.eq_1 := @clnPs.eq_1
@[simp] theorem clnPs_2 : type_of% @clnPs.eq_2 := @clnPs.eq_2
@[simp] theorem clnPd_1 : type_of% @clnPd.eq_1 := @clnPd.eq_1
@[simp] theorem clnPd_2 : type_of% @clnPd.eq_2 := @clnPd.eq_2
@[simp] theorem scalO_1 : type_of% @scalO.eq_1 := @scalO.eq_1
@[simp] theorem scalO_2 : type_of% @scalO.eq_2 := @scalO.eq_2
@[simp] theorem scalO_3 : type_of% @scalO.eq_3 := @scalO.eq_3
@[simp] theorem scalO_4 : type_of% @scalO.eq_4 := @scalO.eq_4
@[simp] theorem scalO_5 : type_of% @scalO.eq_5 := @scalO.eq_5
@[simp] theorem scalO_6 : type_of% @scalO.eq_6 := @scalO.eq_6
@[simp] theorem scalO_7 : type_of% @scalO.eq_7 := @scalO.eq_7
@[simp] theorem scalO_8 : type_of% @scalO.eq_8 := @scalO.eq_8
@[simp] theorem scalOs_1 : type_of% @scalOs.eq_1 := @scalOs.eq_1
@[simp] theorem scalOs_2 : type_of% @scalOs.eq_2 := @scalOs.eq_2
@[simp] theorem lenO_1 : type_of% @lenO.eq_1 := @lenO.eq_1
@[simp] theorem lenO_2 : type_of% @lenO.eq_2 := @lenO.eq_2
@[simp] theorem lenO_3 : type_of% @lenO.eq_3 := @lenO.eq_3
@[simp] theorem lenO_4 : type_of% @lenO.eq_4 := @lenO.eq_4
@[simp] theorem lenO_5 : type_of% @lenO.eq_5 := @lenO.eq_5
@[simp] theorem lenO_6 : type_of% @lenO.eq_6 := @lenO.eq_6
@[simp] theorem lenO_7 : type_of% @lenO.eq_7 := @lenO.eq_7
@[simp] theorem lenO_8 : type_of% @lenO.eq_8 := @lenO.eq_8
@[simp] theorem lenO_9 : type_of% @lenO.eq_9 := @lenO.eq_9
@[simp] theorem lenO_10 : type_of% @lenO.eq_10 := @lenO.eq_10
@[simp] theorem toN_1 : type_of% @toN.eq_1 := @toN.eq_1
@[simp] theorem toN_2 : type_of% @toN.eq_2 := @toN.eq_2
@[simp] theorem toF_1 : type_of% @toF.eq_1 := @toF.eq_1
@[simp] theorem toF_2 : type_of% @toF.eq_2 := @toF.eq_2
@[simp] theorem toT_1 : type_of% @toT.eq_1 := @toT.eq_1
@[simp] theorem toT_2 : type_of% @toT.eq_2 := @toT.eq_2
@[simp] theorem sumL_1 : type_of% @sumL.eq_1 := @sumL.eq_1
@[simp] theorem sumL_2 : type_of% @sumL.eq_2 := @sumL.eq_2
@[simp] theorem allL_1 : type_of% @allL.eq_1 := @allL.eq_1
@[simp] theorem allL_2 : type_of% @allL.eq_2 := @allL.eq_2
@[simp] theorem anyL_1 : type_of% @anyL.eq_1 := @anyL.eq_1
@[simp] theorem anyL_2 : type_of% @anyL.eq_2 := @anyL.eq_2
@[simp] theorem biO_1 : type_of% @biO.eq_1 := @biO.eq_1
@[simp] theorem biO_2 : type_of% @biO.eq_2 := @biO.eq_2
@[simp] theorem biO_3 : type_of% @biO.eq_3 := @biO.eq_3
@[simp] theorem biO_4 : type_of% @biO.eq_4 := @biO.eq_4
@[simp] theorem biO_5 : type_of% @biO.eq_5 := @biO.eq_5
@[simp] theorem biO_6 : type_of% @biO.eq_6 := @biO.eq_6
@[simp] theorem biO_7 : type_of% @biO.eq_7 := @biO.eq_7
@[simp] theorem biO_8 : type_of% @biO.eq_8 := @biO.eq_8
@[simp] theorem biO_9 : type_of% @biO.eq_9 := @biO.eq_9
@[simp] theorem biO_10 : type_of% @biO.eq_10 := @biO.eq_10
@[simp] theorem biO_11 : type_of% @biO.eq_11 := @biO.eq_11
@[simp] theorem biO_12 : type_of% @biO.eq_12 := @biO.eq_12
@[simp] theorem biO_13 : type_of% @biO.eq_13 := @biO.eq_13
@[simp] theorem biO_14 : type_of% @biO.eq_14 := @biO.eq_14
@[simp] theorem biO_15 : type_of% @biO.eq_15 := @biO.eq_15
@[simp] theorem tyP_1 : type_of% @tyP.eq_1 := @tyP.eq_1
@[simp] theorem tyP_2 : type_of% @tyP.eq_2 := @tyP.eq_2
@[simp] theorem tyP_3 : type_of% @tyP.eq_3 := @tyP.eq_3
@[simp] theorem tyP_4 : type_of% @tyP.eq_4 := @tyP.eq_4
@[simp] theorem tyP_5 : type_of% @tyP.eq_5 := @tyP.eq_5
@[simp] theorem tyP_6 : type_of% @tyP.eq_6 := @tyP.eq_6
@[simp] theorem tyP_7 : type_of% @tyP.eq_7 := @tyP.eq_7
@[simp] theorem isTy1_1 : type_of% @isTy1.eq_1 := @isTy1.eq_1
@[simp] theorem isTy1_2 : type_of% @isTy1.eq_2 := @isTy1.eq_2
@[simp] theorem isTy1_3 : type_of% @isTy1.eq_3 := @isTy1.eq_3
@[simp] theorem isiO_1 : type_of% @isiO.eq_1 := @isiO.eq_1
@[simp] theorem getP_1 : type_of% @getP.eq_1 := @getP.eq_1
@[simp] theorem getP_2 : type_of% @getP.eq_2 := @getP.eq_2
@[simp] theorem methO_1 : type_of% @methO.eq_1 := @methO.eq_1
@[simp] theorem methO_2 : type_of% @methO.eq_2 := @methO.eq_2
@[simp] theorem methO_3 : type_of% @methO.eq_3 := @methO.eq_3
@[simp] theorem slot_1 : type_of% @slot.eq_1 := @slot.eq_1
@[simp] theorem setTg_1 : type_of% @setTg.eq_1 := @setTg.eq_1
@[simp] theorem setTg_2 : type_of% @setTg.eq_2 := @setTg.eq_2
@[simp] theorem setTg_3 : type_of% @setTg.eq_3 := @setTg.eq_3
@[simp] theorem setTg_4 : type_of% @setTg.eq_4 := @setTg.eq_4
@[simp] theorem wipeE_1 : type_of% @wipeE.eq_1 := @wipeE.eq_1
@[simp] theorem wipeE_2 : type_of% @wipeE.eq_2 := @wipeE.eq_2
@[simp] theorem plO_1 : type_of% @plO.eq_1 := @plO.eq_1
@[simp] theorem plO_2 : type_of% @plO.eq_2 := @plO.eq_2
@[simp] theorem consA_1 : type_of% @consA.eq_1 := @consA.eq_1
@[simp] theorem consA_2 : type_of% @consA.eq_2 := @consA.eq_2
@[simp] theorem consB_1 : type_of% @consB.eq_1 := @consB.eq_1
@[simp] theorem consB_2 : type_of% @consB.eq_2 := @consB.eq_2
@[simp] theorem lendQ_1 : type_of% @lendQ.eq_1 := @lendQ.eq_1
@[simp] theorem lendQ_2 : type_of% @lendQ.eq_2 := @lendQ.eq_2
@[simp] theorem lendS_1 : type_of% @lendS.eq_1 := @lendS.eq_1
@[simp] theorem lendS_2 : type_of% @lendS.eq_2 := @lendS.eq_2
@[simp] theorem lendS_3 : type_of% @lendS.eq_3 := @lendS.eq_3
@[simp] theorem lendE_1 : type_of% @lendE.eq_1 := @lendE.eq_1
@[simp] theorem lendE_2 : type_of% @lendE.eq_2 := @lendE.eq_2
@[simp] theorem retC_1 : type_of% @retC.eq_1 := @retC.eq_1
@[simp] theorem retC_2 : type_of% @retC.eq_2 := @retC.eq_2
@[simp] theorem retC_3 : type_of% @retC.eq_3 := @retC.eq_3
@[simp] theorem callC_1 : type_of% @callC.eq_1 := @callC.eq_1
@[simp] theorem callC_2 : type_of% @callC.eq_2 := @callC.eq_2
@[simp] theorem oI_1 : type_of% @oI.eq_1 := @oI.eq_1
@[simp] theorem oI_2 : type_of% @oI.eq_2 := @oI.eq_2
@[simp] theorem rng1_1 : type_of% @rng1.eq_1 := @rng1.eq_1
@[simp] theorem rng1_2 : type_of% @rng1.eq_2 := @rng1.eq_2
@[simp] theorem rng2_1 : type_of% @rng2.eq_1 := @rng2.eq_1
@[simp] theorem rng2_2 : type_of% @rng2.eq_2 := @rng2.eq_2
@[simp] theorem mapI_1 : type_of% @mapI.eq_1 := @mapI.eq_1
@[simp] theorem mapI_2 : type_of% @mapI.eq_2 := @mapI.eq_2
@[simp] theorem enmO_1 : type_of% @enmO.eq_1 := @enmO.eq_1
@[simp] theorem enmL_1 : type_of% @enmL.eq_1 := @enmL.eq_1
@[simp] theorem zipQ_1 : type_of% @zipQ.eq_1 := @zipQ.eq_1
@[simp] theorem zipQ_2 : type_of% @zipQ.eq_2 := @zipQ.eq_2
@[simp] theorem itmQ_1 : type_of% @itmQ.eq_1 := @itmQ.eq_1
@[simp] theorem itmQ_2 : type_of% @itmQ.eq_2 := @itmQ.eq_2
@[simp] theorem itmO_1 : type_of% @itmO.eq_1 := @itmO.eq_1
@[simp] theorem revO_1 : type_of% @revO.eq_1 := @revO.eq_1
@[simp] theorem evR_1 : type_of% @evR.eq_1 := @evR.eq_1
@[simp] theorem evR_2 : type_of% @evR.eq_2 := @evR.eq_2
@[simp] theorem evR_3 : type_of% @evR.eq_3 := @evR.eq_3
@[simp] theorem evR_4 : type_of% @evR.eq_4 := @evR.eq_4
@[simp] theorem evR_5 : type_of% @evR.eq_5 := @evR.eq_5
@[simp] theorem evR_6 : type_of% @evR.eq_6 := @evR.eq_6
@[simp] theorem evR_7 : type_of% @evR.eq_7 := @evR.eq_7
@[simp] theorem evR_8 : type_of% @evR.eq_8 := @evR.eq_8
@[simp] theorem evR_9 : type_of% @evR.eq_9 := @evR.eq_9
@[simp] theorem evR_10 : type_of% @evR.eq_10 := @evR.eq_10
@[simp] theorem evR_11 : type_of% @evR.eq_11 := @evR.eq_11
@[simp] theorem evR_12 : type_of% @evR.eq_12 := @evR.eq_12
@[simp] theorem evR_13 : type_of% @evR.eq_13 := @evR.eq_13
@[simp] theorem evR_14 : type_of% @evR.eq_14 := @evR.eq_14
@[simp] theorem evR_15 : type_of% @evR.eq_15 := @evR.eq_15
@[simp] theorem evR_16 : type_of% @evR.eq_16 := @evR.eq_16
@[simp] theorem evR_17 : type_of% @evR.eq_17 := @evR.eq_17
@[simp] theorem evR_18 : type_of% @evR.eq_18 := @evR.eq_18
@[simp] theorem evR_19 : type_of% @evR.eq_19 := @evR.eq_19
@[simp] theorem evR_20 : type_of% @evR.eq_20 := @evR.eq_20
@[simp] theorem evR_21 : type_of% @evR.eq_21 := @evR.eq_21
@[simp] theorem evR_22 : type_of% @evR.eq_22 := @evR.eq_22
@[simp] theorem evR_lc_ : type_of% @evR_lc := @evR_lc
@[simp] theorem evRs_1 : type_of% @evRs.eq_1 := @evRs.eq_1
@[simp] theorem evRs_2 : type_of% @evRs.eq_2 := @evRs.eq_2
@[simp] theorem evVs_1 : type_of% @evVs.eq_1 := @evVs.eq_1
@[simp] theorem evVs_2 : type_of% @evVs.eq_2 := @evVs.eq_2
@[simp] theorem evLs_1 : type_of% @evLs.eq_1 := @evLs.eq_1
@[simp] theorem evLs_2 : type_of% @evLs.eq_2 := @evLs.eq_2
@[simp] theorem evX_1 : type_of% @evX.eq_1 := @evX.eq_1
@[simp] theorem evX_2 : type_of% @evX.eq_2 := @evX.eq_2
@[simp] theorem evC_1 : type_of% @evC.eq_1 := @evC.eq_1
@[simp] theorem evC_2 : type_of% @evC.eq_2 := @evC.eq_2
@[simp] theorem evI_1 : type_of% @evI.eq_1 := @evI.eq_1
@[simp] theorem evI_2 : type_of% @evI.eq_2 := @evI.eq_2
@[simp] theorem evI_3 : type_of% @evI.eq_3 := @evI.eq_3
@[simp] theorem evI_4 : type_of% @evI.eq_4 := @evI.eq_4
@[simp] theorem evI_5 : type_of% @evI.eq_5 := @evI.eq_5
@[simp] theorem evI_6 : type_of% @evI.eq_6 := @evI.eq_6
@[simp] theorem evI_7 : type_of% @evI.eq_7 := @evI.eq_7
@[simp] theorem evI_8 : type_of% @evI.eq_8 := @evI.eq_8
@[simp] theorem evI_9 : type_of% @evI.eq_9 := @evI.eq_9
@[simp] theorem zip3O_1 : type_of% @zip3O.eq_1 := @zip3O.eq_1
@[simp] theorem zip3Q_1 : type_of% @zip3Q.eq_1 := @zip3Q.eq_1
@[simp] theorem forO_1 : type_of% @forO.eq_1 := @forO.eq_1
@[simp] theorem forO_2 : type_of% @forO.eq_2 := @forO.eq_2
@[simp] theorem sh_1 : type_of% @sh.eq_1 := @sh.eq_1
@[simp] theorem evJ_1 : type_of% @evJ.eq_1 := @evJ.eq_1
@[simp] theorem evJ_2 : type_of% @evJ.eq_2 := @evJ.eq_2
@[simp] theorem evJ_3 : type_of% @evJ.eq_3 := @evJ.eq_3
@[simp] theorem evJ_4 : type_of% @evJ.eq_4 := @evJ.eq_4
@[simp] theorem evJ_5 : type_of% @evJ.eq_5 := @evJ.eq_5
@[simp] theorem evJ_6 : type_of% @evJ.eq_6 := @evJ.eq_6
@[simp] theorem evJ_7 : type_of% @evJ.eq_7 := @evJ.eq_7
@[simp] theorem evJ_8 : type_of% @evJ.eq_8 := @evJ.eq_8
@[simp] theorem evJ_9 : type_of% @evJ.eq_9 := @evJ.eq_9
@[simp] theorem pairE_1 : type_of% @pairE.eq_1 := @pairE.eq_1
@[simp] theorem pairE_2 : type_of% @pairE.eq_2 := @pairE.eq_2
@[simp] theorem movE_1 : type_of% @movE.eq_1 := @movE.eq_1
@[simp] theorem movE_2 : type_of% @movE.eq_2 := @movE.eq_2
@[simp] theorem mkW_1 : type_of% @mkW.eq_1 := @mkW.eq_1
@[simp] theorem mkW_2 : type_of% @mkW.eq_2 := @mkW.eq_2
@[simp] theorem evW1_1 : type_of% @evW1.eq_1 := @evW1.eq_1
@[simp] theorem evW1_2 : type_of% @evW1.eq_2 := @evW1.eq_2
@[simp] theorem snocW_1 : type_of% @snocW.eq_1 := @snocW.eq_1
@[simp] theorem snocW_2 : type_of% @snocW.eq_2 := @snocW.eq_2
@[simp] theorem pushW_1 : type_of% @pushW.eq_1 := @pushW.eq_1
@[simp] theorem pushW_2 : type_of% @pushW.eq_2 := @pushW.eq_2
@[simp] theorem evWs_1 : type_of% @evWs.eq_1 := @evWs.eq_1
@[simp] theorem evWs_2 : type_of% @evWs.eq_2 := @evWs.eq_2
@[simp] theorem evW_1 : type_of% @evW.eq_1 := @evW.eq_1
@[simp] theorem evW_2 : type_of% @evW.eq_2 := @evW.eq_2
@[simp] theorem evW_3 : type_of% @evW.eq_3 := @evW.eq_3
@[simp] theorem evW_4 : type_of% @evW.eq_4 := @evW.eq_4
@[simp] theorem popR_1 : type_of% @popR.eq_1 := @popR.eq_1
@[simp] theorem popR_2 : type_of% @popR.eq_2 := @popR.eq_2
@[simp] theorem popN_1 : type_of% @popN.eq_1 := @popN.eq_1
@[simp] theorem popN_2 : type_of% @popN.eq_2 := @popN.eq_2
@[simp] theorem popO_1 : type_of% @popO.eq_1 := @popO.eq_1
@[simp] theorem popO_2 : type_of% @popO.eq_2 := @popO.eq_2
@[simp] theorem popO_3 : type_of% @popO.eq_3 := @popO.eq_3
@[simp] theorem nxE_1 : type_of% @nxE.eq_1 := @nxE.eq_1
@[simp] theorem nxE_2 : type_of% @nxE.eq_2 := @nxE.eq_2
@[simp] theorem asgS_1 : type_of% @asgS.eq_1 := @asgS.eq_1
@[simp] theorem asgS_2 : type_of% @asgS.eq_2 := @asgS.eq_2
@[simp] theorem unpS_1 : type_of% @unpS.eq_1 := @unpS.eq_1
@[simp] theorem unpS_2 : type_of% @unpS.eq_2 := @unpS.eq_2
@[simp] theorem unpS_3 : type_of% @unpS.eq_3 := @unpS.eq_3
@[simp] theorem unpS_4 : type_of% @unpS.eq_4 := @unpS.eq_4
@[simp] theorem putS_1 : type_of% @putS.eq_1 := @putS.eq_1
@[simp] theorem putS_2 : type_of% @putS.eq_2 := @putS.eq_2
@[simp] theorem setS_1 : type_of% @setS.eq_1 := @setS.eq_1
@[simp] theorem setS_2 : type_of% @setS.eq_2 := @setS.eq_2
@[simp] theorem mutS_1 : type_of% @mutS.eq_1 := @mutS.eq_1
@[simp] theorem mutS_2 : type_of% @mutS.eq_2 := @mutS.eq_2
@[simp] theorem popS_1 : type_of% @popS.eq_1 := @popS.eq_1
@[simp] theorem popS_2 : type_of% @popS.eq_2 := @popS.eq_2
@[simp] theorem popS_3 : type_of% @popS.eq_3 := @popS.eq_3
@[simp] theorem retS_1 : type_of% @retS.eq_1 := @retS.eq_1
@[simp] theorem retS_2 : type_of% @retS.eq_2 := @retS.eq_2
@[simp] theorem expS_1 : type_of% @expS.eq_1 := @expS.eq_1
@[simp] theorem expS_2 : type_of% @expS.eq_2 := @expS.eq_2
@[simp] theorem exec_forr_ : type_of% @exec_forr := @exec_forr
@[simp] theorem exec_whl_ : type_of% @exec_whl := @exec_whl
@[simp] theorem stepS_1 : type_of% @stepS.eq_1 := @stepS.eq_1
@[simp] theorem stepS_2 : type_of% @stepS.eq_2 := @stepS.eq_2
@[simp] theorem execs_1 : type_of% @execs.eq_1 := @execs.eq_1
@[simp] theorem execs_2 : type_of% @execs.eq_2 := @execs.eq_2
@[simp] theorem keyP_1 : type_of% @keyP.eq_1 := @keyP.eq_1
@[simp] theorem keyP_2 : type_of% @keyP.eq_2 := @keyP.eq_2
@[simp] theorem keyP_3 : type_of% @keyP.eq_3 := @keyP.eq_3
@[simp] theorem fzs_1 : type_of% @fzs.eq_1 := @fzs.eq_1
@[simp] theorem fzs_2 : type_of% @fzs.eq_2 := @fzs.eq_2
@[simp] theorem fzd_1 : type_of% @fzd.eq_1 := @fzd.eq_1
@[simp] theorem fzd_2 : type_of% @fzd.eq_2 := @fzd.eq_2
@[simp] theorem fzq_1 : type_of% @fzq.eq_1 := @fzq.eq_1
@[simp] theorem zipO_1 : type_of% @zipO.eq_1 := @zipO.eq_1
@[simp] theorem setIn_1 : type_of% @setIn.eq_1 := @setIn.eq_1
@[simp] theorem setKn_1 : type_of% @setKn.eq_1 := @setKn.eq_1
@[simp] theorem appO_1 : type_of% @appO.eq_1 := @appO.eq_1
@[simp] theorem augA_1 : type_of% @augA.eq_1 := @augA.eq_1
@[simp] theorem augA_2 : type_of% @augA.eq_2 := @augA.eq_2
@[simp] theorem augA_3 : type_of% @augA.eq_3 := @augA.eq_3
@[simp] theorem augO_1 : type_of% @augO.eq_1 := @augO.eq_1
@[simp] theorem augO_2 : type_of% @augO.eq_2 := @augO.eq_2
@[simp] theorem augO_3 : type_of% @augO.eq_3 := @augO.eq_3
@[simp] theorem augO_4 : type_of% @augO.eq_4 := @augO.eq_4
@[simp] theorem augO_5 : type_of% @augO.eq_5 := @augO.eq_5
@[simp] theorem augO_6 : type_of% @augO.eq_6 := @augO.eq_6
@[simp] theorem augO_7 : type_of% @augO.eq_7 := @augO.eq_7
@[simp] theorem augO_8 : type_of% @augO.eq_8 := @augO.eq_8
@[simp] theorem augO_9 : type_of% @augO.eq_9 := @augO.eq_9
@[simp] theorem augO_10 : type_of% @augO.eq_10 := @augO.eq_10
@[simp] theorem setO_1 : type_of% @setO.eq_1 := @setO.eq_1
@[simp] theorem setO_2 : type_of% @setO.eq_2 := @setO.eq_2

@[simp] theorem evR_23 : type_of% @evR.eq_23 := @evR.eq_23
@[simp] theorem evR_24 : type_of% @evR.eq_24 := @evR.eq_24
@[simp] theorem exec_1 : type_of% @exec.eq_1 := @exec.eq_1
@[simp] theorem exec_2 : type_of% @exec.eq_2 := @exec.eq_2
@[simp] theorem exec_3 : type_of% @exec.eq_3 := @exec.eq_3
@[simp] theorem exec_4 : type_of% @exec.eq_4 := @exec.eq_4
@[simp] theorem exec_5 : type_of% @exec.eq_5 := @exec.eq_5
@[simp] theorem exec_6 : type_of% @exec.eq_6 := @exec.eq_6
@[simp] theorem exec_7 : type_of% @exec.eq_7 := @exec.eq_7
@[simp] theorem exec_8 : type_of% @exec.eq_8 := @exec.eq_8
@[simp] theorem exec_9 : type_of% @exec.eq_9 := @exec.eq_9
@[simp] theorem exec_12 : type_of% @exec.eq_12 := @exec.eq_12
@[simp] theorem exec_13 : type_of% @exec.eq_13 := @exec.eq_13
@[simp] theorem exec_14 : type_of% @exec.eq_14 := @exec.eq_14
@[simp] theorem exec_15 : type_of% @exec.eq_15 := @exec.eq_15
@[simp] theorem exec_16 : type_of% @exec.eq_16 := @exec.eq_16
@[simp] theorem exec_17 : type_of% @exec.eq_17 := @exec.eq_17
@[simp] theorem exec_18 : type_of% @exec.eq_18 := @exec.eq_18
@[simp] theorem exec_19 : type_of% @exec.eq_19 := @exec.eq_19
@[simp] theorem exec_20 : type_of% @exec.eq_20 := @exec.eq_20
@[simp] theorem exec_21 : type_of% @exec.eq_21 := @exec.eq_21
@[simp] theorem exec_22 : type_of% @exec.eq_22 := @exec.eq_22
@[simp] theorem exec_23 : type_of% @exec.eq_23 := @exec.eq_23
@[simp] theorem exec_24 : type_of% @exec.eq_24 := @exec.eq_24
@[simp] theorem exec_26 : type_of% @exec.eq_26 := @exec.eq_26
@[simp] theorem exec_27 : type_of% @exec.eq_27 := @exec.eq_27
@[simp] theorem exec_28 : type_of% @exec.eq_28 := @exec.eq_28
@[simp] theorem exec_29 : type_of% @exec.eq_29 := @exec.eq_29
@[simp] theorem exec_30 : type_of% @exec.eq_30 := @exec.eq_30
@[simp] theorem exec_31 : type_of% @exec.eq_31 := @exec.eq_31
@[simp] theorem opnd_1 : type_of% @opnd.eq_1 := @opnd.eq_1
@[simp] theorem opnd_2 : type_of% @opnd.eq_2 := @opnd.eq_2
@[simp] theorem opnd_3 : type_of% @opnd.eq_3 := @opnd.eq_3
@[simp] theorem opnd_4 : type_of% @opnd.eq_4 := @opnd.eq_4
@[simp] theorem elO_2 : type_of% @elO.eq_2 := @elO.eq_2
@[simp] theorem lend_1 : type_of% @lend.eq_1 := @lend.eq_1
@[simp] theorem lend_2 : type_of% @lend.eq_2 := @lend.eq_2
@[simp] theorem lend_3 : type_of% @lend.eq_3 := @lend.eq_3
@[simp] theorem lend_4 : type_of% @lend.eq_4 := @lend.eq_4
@[simp] theorem evR_el {c : Ct} {env : Env} {j : Nat} {n : Int} : evR c env (.el j n) = plO (o1 (fun u => elO u (.pl (.int n))) (slot env j)) := by rw [evR]
@[simp] theorem isO_1 : type_of% @isO.eq_1 := @isO.eq_1
@[simp] theorem isO_2 : type_of% @isO.eq_2 := @isO.eq_2
@[simp] theorem fz_1 : type_of% @fz.eq_1 := @fz.eq_1
@[simp] theorem fz_2 : type_of% @fz.eq_2 := @fz.eq_2
@[simp] theorem fz_3 : type_of% @fz.eq_3 := @fz.eq_3
@[simp] theorem fz_4 : type_of% @fz.eq_4 := @fz.eq_4
@[simp] theorem fz_5 : type_of% @fz.eq_5 := @fz.eq_5
@[simp] theorem fz_6 : type_of% @fz.eq_6 := @fz.eq_6
@[simp] theorem fz_7 : type_of% @fz.eq_7 := @fz.eq_7
@[simp] theorem fz_8 : type_of% @fz.eq_8 := @fz.eq_8
@[simp] theorem fldL_1 : type_of% @fldL.eq_1 := @fldL.eq_1
@[simp] theorem fldL_2 : type_of% @fldL.eq_2 := @fldL.eq_2
@[simp] theorem fldO_1 : type_of% @fldO.eq_1 := @fldO.eq_1
@[simp] theorem elO_1 : type_of% @elO.eq_1 := @elO.eq_1
@[simp] theorem putL_1 : type_of% @putL.eq_1 := @putL.eq_1
@[simp] theorem putL_2 : type_of% @putL.eq_2 := @putL.eq_2
@[simp] theorem getT_1 : type_of% @getT.eq_1 := @getT.eq_1
@[simp] theorem getT_2 : type_of% @getT.eq_2 := @getT.eq_2
@[simp] theorem setT_1 : type_of% @setT.eq_1 := @setT.eq_1
@[simp] theorem setT_2 : type_of% @setT.eq_2 := @setT.eq_2
@[simp] theorem getQ_1 : type_of% @getQ.eq_1 := @getQ.eq_1
@[simp] theorem getQ_2 : type_of% @getQ.eq_2 := @getQ.eq_2
@[simp] theorem putU_1 : type_of% @putU.eq_1 := @putU.eq_1
@[simp] theorem putU_2 : type_of% @putU.eq_2 := @putU.eq_2
@[simp] theorem putQ_1 : type_of% @putQ.eq_1 := @putQ.eq_1
@[simp] theorem putQ_2 : type_of% @putQ.eq_2 := @putQ.eq_2
@[simp] theorem rsv1_1 : type_of% @rsv1.eq_1 := @rsv1.eq_1
@[simp] theorem rsv1_2 : type_of% @rsv1.eq_2 := @rsv1.eq_2
@[simp] theorem psE_1 : type_of% @psE.eq_1 := @psE.eq_1
@[simp] theorem psE_2 : type_of% @psE.eq_2 := @psE.eq_2
@[simp] theorem rsv_1 : type_of% @rsv.eq_1 := @rsv.eq_1
@[simp] theorem rsv_2 : type_of% @rsv.eq_2 := @rsv.eq_2
@[simp] theorem plcG_1 : type_of% @plcG.eq_1 := @plcG.eq_1
@[simp] theorem plcG_2 : type_of% @plcG.eq_2 := @plcG.eq_2
@[simp] theorem plcT_1 : type_of% @plcT.eq_1 := @plcT.eq_1
@[simp] theorem plcT_2 : type_of% @plcT.eq_2 := @plcT.eq_2
@[simp] theorem plcS_1 : type_of% @plcS.eq_1 := @plcS.eq_1
@[simp] theorem plcS_2 : type_of% @plcS.eq_2 := @plcS.eq_2
@[simp] theorem bnd_1 : type_of% @bnd.eq_1 := @bnd.eq_1
@[simp] theorem bnd_2 : type_of% @bnd.eq_2 := @bnd.eq_2
@[simp] theorem bnd_3 : type_of% @bnd.eq_3 := @bnd.eq_3
@[simp] theorem bndO_1 : type_of% @bndO.eq_1 := @bndO.eq_1
@[simp] theorem okE_1 : type_of% @okE.eq_1 := @okE.eq_1
@[simp] theorem okE_2 : type_of% @okE.eq_2 := @okE.eq_2
@[simp] theorem okP_1 : type_of% @okP.eq_1 := @okP.eq_1
@[simp] theorem okP_2 : type_of% @okP.eq_2 := @okP.eq_2
@[simp] theorem isIo_1 : type_of% @isIo.eq_1 := @isIo.eq_1
@[simp] theorem isIo_2 : type_of% @isIo.eq_2 := @isIo.eq_2
@[simp] theorem isHole_1 : type_of% @isHole.eq_1 := @isHole.eq_1
@[simp] theorem isHole_2 : type_of% @isHole.eq_2 := @isHole.eq_2
@[simp] theorem lnQ_1 : type_of% @lnQ.eq_1 := @lnQ.eq_1
@[simp] theorem lnQ_2 : type_of% @lnQ.eq_2 := @lnQ.eq_2
@[simp] theorem tkE_1 : type_of% @tkE.eq_1 := @tkE.eq_1
@[simp] theorem tkE_2 : type_of% @tkE.eq_2 := @tkE.eq_2
@[simp] theorem tkS_1 : type_of% @tkS.eq_1 := @tkS.eq_1
@[simp] theorem tkP_1 : type_of% @tkP.eq_1 := @tkP.eq_1
@[simp] theorem tkP_2 : type_of% @tkP.eq_2 := @tkP.eq_2
@[simp] theorem takeA_1 : type_of% @takeA.eq_1 := @takeA.eq_1
@[simp] theorem takeA_2 : type_of% @takeA.eq_2 := @takeA.eq_2
@[simp] theorem takeA_3 : type_of% @takeA.eq_3 := @takeA.eq_3
@[simp] theorem takeA_4 : type_of% @takeA.eq_4 := @takeA.eq_4
@[simp] theorem giveN_1 : type_of% @giveN.eq_1 := @giveN.eq_1
@[simp] theorem giveN_2 : type_of% @giveN.eq_2 := @giveN.eq_2
@[simp] theorem giveA_1 : type_of% @giveA.eq_1 := @giveA.eq_1
@[simp] theorem giveA_2 : type_of% @giveA.eq_2 := @giveA.eq_2
@[simp] theorem giveA_3 : type_of% @giveA.eq_3 := @giveA.eq_3
@[simp] theorem giveA_4 : type_of% @giveA.eq_4 := @giveA.eq_4
@[simp] theorem giveR_1 : type_of% @giveR.eq_1 := @giveR.eq_1
@[simp] theorem giveR_2 : type_of% @giveR.eq_2 := @giveR.eq_2
@[simp] theorem giveR_3 : type_of% @giveR.eq_3 := @giveR.eq_3
@[simp] theorem callT_1 : type_of% @callT.eq_1 := @callT.eq_1
@[simp] theorem callT_2 : type_of% @callT.eq_2 := @callT.eq_2
@[simp] theorem callF_1 : type_of% @callF.eq_1 := @callF.eq_1
@[simp] theorem isObj_1 : type_of% @isObj.eq_1 := @isObj.eq_1
@[simp] theorem methF_1 : type_of% @methF.eq_1 := @methF.eq_1
@[simp] theorem methF_2 : type_of% @methF.eq_2 := @methF.eq_2
@[simp] theorem newR_1 : type_of% @newR.eq_1 := @newR.eq_1
@[simp] theorem newT_1 : type_of% @newT.eq_1 := @newT.eq_1
@[simp] theorem newT_2 : type_of% @newT.eq_2 := @newT.eq_2
@[simp] theorem newF_1 : type_of% @newF.eq_1 := @newF.eq_1
@[simp] theorem ifF_1 : type_of% @ifF.eq_1 := @ifF.eq_1
@[simp] theorem mvF_1 : type_of% @mvF.eq_1 := @mvF.eq_1
@[simp] theorem frF_1 : type_of% @frF.eq_1 := @frF.eq_1
@[simp] theorem mkLo_1 : type_of% @mkLo.eq_1 := @mkLo.eq_1
@[simp] theorem isPl_1 : type_of% @isPl.eq_1 := @isPl.eq_1
@[simp] theorem isPl_2 : type_of% @isPl.eq_2 := @isPl.eq_2
@[simp] theorem rstE_1 : type_of% @rstE.eq_1 := @rstE.eq_1
@[simp] theorem rstE_2 : type_of% @rstE.eq_2 := @rstE.eq_2
@[simp] theorem lcS_1 : type_of% @lcS.eq_1 := @lcS.eq_1
@[simp] theorem lcEnd_1 : type_of% @lcEnd.eq_1 := @lcEnd.eq_1
@[simp] theorem popF_1 : type_of% @popF.eq_1 := @popF.eq_1
@[simp] theorem popF_2 : type_of% @popF.eq_2 := @popF.eq_2
@[simp] theorem popRo_1 : type_of% @popRo.eq_1 := @popRo.eq_1
@[simp] theorem popRo_2 : type_of% @popRo.eq_2 := @popRo.eq_2
@[simp] theorem popO2_1 : type_of% @popO2.eq_1 := @popO2.eq_1
@[simp] theorem popO2_2 : type_of% @popO2.eq_2 := @popO2.eq_2
@[simp] theorem evF_1 : type_of% @evF.eq_1 := @evF.eq_1
@[simp] theorem evF_2 : type_of% @evF.eq_2 := @evF.eq_2
@[simp] theorem evF_3 : type_of% @evF.eq_3 := @evF.eq_3
@[simp] theorem evF_4 : type_of% @evF.eq_4 := @evF.eq_4
@[simp] theorem evF_5 : type_of% @evF.eq_5 := @evF.eq_5
@[simp] theorem evF_6 : type_of% @evF.eq_6 := @evF.eq_6
@[simp] theorem evF_7 : type_of% @evF.eq_7 := @evF.eq_7
@[simp] theorem evF_8 : type_of% @evF.eq_8 := @evF.eq_8
@[simp] theorem evF_9 : type_of% @evF.eq_9 := @evF.eq_9
@[simp] theorem evF_10 : type_of% @evF.eq_10 := @evF.eq_10
@[simp] theorem evF_11 : type_of% @evF.eq_11 := @evF.eq_11
@[simp] theorem evF_12 : type_of% @evF.eq_12 := @evF.eq_12
@[simp] theorem evF_13 : type_of% @evF.eq_13 := @evF.eq_13
@[simp] theorem evF_14 : type_of% @evF.eq_14 := @evF.eq_14
@[simp] theorem evF_15 : type_of% @evF.eq_15 := @evF.eq_15
@[simp] theorem evF_16 : type_of% @evF.eq_16 := @evF.eq_16
@[simp] theorem evF_17 : type_of% @evF.eq_17 := @evF.eq_17
@[simp] theorem evF_18 : type_of% @evF.eq_18 := @evF.eq_18
@[simp] theorem evF_19 : type_of% @evF.eq_19 := @evF.eq_19
@[simp] theorem evF_20 : type_of% @evF.eq_20 := @evF.eq_20
@[simp] theorem evF_21 : type_of% @evF.eq_21 := @evF.eq_21
@[simp] theorem evFs_1 : type_of% @evFs.eq_1 := @evFs.eq_1
@[simp] theorem evFs_2 : type_of% @evFs.eq_2 := @evFs.eq_2
@[simp] theorem evAs_1 : type_of% @evAs.eq_1 := @evAs.eq_1
@[simp] theorem evAs_2 : type_of% @evAs.eq_2 := @evAs.eq_2
@[simp] theorem evAs_3 : type_of% @evAs.eq_3 := @evAs.eq_3
@[simp] theorem evAs_4 : type_of% @evAs.eq_4 := @evAs.eq_4
@[simp] theorem evFit_1 : type_of% @evFit.eq_1 := @evFit.eq_1
@[simp] theorem evFit_2 : type_of% @evFit.eq_2 := @evFit.eq_2
@[simp] theorem evFit_3 : type_of% @evFit.eq_3 := @evFit.eq_3
@[simp] theorem evFit_4 : type_of% @evFit.eq_4 := @evFit.eq_4
@[simp] theorem bndS_1 : type_of% @bndS.eq_1 := @bndS.eq_1
@[simp] theorem bndS_2 : type_of% @bndS.eq_2 := @bndS.eq_2
@[simp] theorem bndS_3 : type_of% @bndS.eq_3 := @bndS.eq_3
@[simp] theorem plcN_1 : type_of% @plcN.eq_1 := @plcN.eq_1
@[simp] theorem plcN_2 : type_of% @plcN.eq_2 := @plcN.eq_2
@[simp] theorem setFO_1 : type_of% @setFO.eq_1 := @setFO.eq_1
@[simp] theorem setFS_1 : type_of% @setFS.eq_1 := @setFS.eq_1
@[simp] theorem setOo_1 : type_of% @setOo.eq_1 := @setOo.eq_1
@[simp] theorem setOo_2 : type_of% @setOo.eq_2 := @setOo.eq_2
@[simp] theorem setO2_1 : type_of% @setO2.eq_1 := @setO2.eq_1
@[simp] theorem setO2_2 : type_of% @setO2.eq_2 := @setO2.eq_2
@[simp] theorem setXS_1 : type_of% @setXS.eq_1 := @setXS.eq_1
@[simp] theorem lstB_1 : type_of% @lstB.eq_1 := @lstB.eq_1
@[simp] theorem lstB_2 : type_of% @lstB.eq_2 := @lstB.eq_2
@[simp] theorem mutO2_1 : type_of% @mutO2.eq_1 := @mutO2.eq_1
@[simp] theorem mutO2_2 : type_of% @mutO2.eq_2 := @mutO2.eq_2
@[simp] theorem mutFS_1 : type_of% @mutFS.eq_1 := @mutFS.eq_1
@[simp] theorem excS_1 : type_of% @excS.eq_1 := @excS.eq_1
@[simp] theorem excS_2 : type_of% @excS.eq_2 := @excS.eq_2
@[simp] theorem outsD_1 : type_of% @outsD.eq_1 := @outsD.eq_1
@[simp] theorem outsD_2 : type_of% @outsD.eq_2 := @outsD.eq_2
@[simp] theorem outsD_3 : type_of% @outsD.eq_3 := @outsD.eq_3
@[simp] theorem finR_1 : type_of% @finR.eq_1 := @finR.eq_1
@[simp] theorem finR_2 : type_of% @finR.eq_2 := @finR.eq_2
@[simp] theorem finD_1 : type_of% @finD.eq_1 := @finD.eq_1
@[simp] theorem finD_2 : type_of% @finD.eq_2 := @finD.eq_2
@[simp] theorem finD_3 : type_of% @finD.eq_3 := @finD.eq_3
@[simp] theorem plB_1 : type_of% @plB.eq_1 := @plB.eq_1
@[simp] theorem modeB_1 : type_of% @modeB.eq_1 := @modeB.eq_1
@[simp] theorem modeB_2 : type_of% @modeB.eq_2 := @modeB.eq_2
@[simp] theorem modeB_3 : type_of% @modeB.eq_3 := @modeB.eq_3
@[simp] theorem modeB_4 : type_of% @modeB.eq_4 := @modeB.eq_4
theorem exec_forF {c : Ct} {env : Env} {tg : Tg} {it : Fit} {b : Ss} : exec c env (.forF tg it b) = bndS (evFit c it env) fun ps e1 => forGo (bodyF c tg b) ps e1 := by
  rw [exec]
  rfl
theorem exec_whlF {c : Ct} {env : Env} {t : Fx} {b : Ss} : exec c env (.whlF t b) = whlGoF (evF c t) (blkF c b) c.fuel env := by
  rw [exec]
  rfl
@[simp] theorem exec_forF_ : type_of% @exec_forF := @exec_forF
@[simp] theorem exec_whlF_ : type_of% @exec_whlF := @exec_whlF
@[simp] theorem evR_lrg1 {c : Ct} {env : Env} {a : Ex} : evR c env (.lrg1 a) = o1 (lrgO (.pl (.int 0))) (evR c env a) := by rw [evR]
@[simp] theorem evR_lrg2 {c : Ct} {env : Env} {a b : Ex} : evR c env (.lrg2 a b) = o2 lrgO (evR c env a) (evR c env b) := by rw [evR]
@[simp] theorem evR_gix {c : Ct} {env : Env} {g : Nat} {e : Ex} : evR c env (.gix g e) = o1 (gixO (c.gl g)) (evR c env e) := by rw [evR]
@[simp] theorem lrgO_i (i j : Int) : lrgO (.pl (.int i)) (.pl (.int j)) = if 0 ≤ i ∧ i ≤ 16777216 ∧ 0 ≤ j ∧ j ≤ 16777216 then some (.fl (rangeP i (j - i))) else none := rfl
@[simp] theorem gixO_s (xs : List P) (s : Str) : gixO (some (.tuple xs)) (.pl (.str s)) = toN (o1 (plcS1 s) (strsP xs)) := rfl
@[simp] theorem methO_find (a b : Str) : methO .find (.pl (.str a)) [.pl (.str b)] = some (.pl (.int (Txt.find a b))) := rfl
@[simp] theorem methO_count (x y : O) : methO .count x [y] = cntM x y := rfl
@[simp] theorem cntM_1 (a b : Str) : cntM (.pl (.str a)) (.pl (.str b)) = some (.pl (.int (Txt.count a b))) := rfl
@[simp] theorem cntM_2 (xs : List P) (k : Int) : cntM (.fl xs) (.pl (.int k)) = cntI k (intsP xs) := rfl
@[simp] theorem cntM_3 (xs : List P) (k : Int) : cntM (.pl (.list xs)) (.pl (.int k)) = cntI k (intsP xs) := rfl
@[simp] theorem cntI_1 (k : Int) (ns : List Int) : cntI k (some ns) = some (.pl (.int (ns.count k : Nat))) := rfl
@[simp] theorem methO_join (a : Str) (x : O) : methO .join (.pl (.str a)) [x] = joinO a (o1 strsP (seqI x)) := rfl
@[simp] theorem isO_bl (a b : Bool) : isO (.pl (.bool a)) (.pl (.bool b)) = some (decide (a = b)) := rfl
@[simp] theorem mutO_ins (xs : List P) (i : Int) (y : O) : mutO .insert (.fl xs) [.pl (.int i), y] = insO xs i (fz y) := rfl
@[simp] theorem insO_some (xs : List P) (i : Int) (p : P) : insO xs i (some p) = if xs.length < 16777216 ∧ 0 ≤ i ∧ i < 2 ^ 63 then some (.fl (xs.take i.toNat ++ [p] ++ xs.drop i.toNat)) else none := rfl
@[simp] theorem evR_sh {c : Ct} {env : Env} {a : Ex} : evR c env (.sh a) = toP (o1 fz (evR c env a)) := by rw [evR]
@[simp] theorem evF_sh {c : Ct} {env : Env} {a : Fx} : evF c (.sh a) env = bnd (evF c a env) fun o e1 => okE e1 (toP (fz o)) := by rw [evF]
@[simp] theorem flI_1 : type_of% @flI.eq_1 := @flI.eq_1
@[simp] theorem flI_2 : type_of% @flI.eq_2 := @flI.eq_2
@[simp] theorem flI_3 : type_of% @flI.eq_3 := @flI.eq_3
@[simp] theorem plI_1 : type_of% @plI.eq_1 := @plI.eq_1
@[simp] theorem plI_2 : type_of% @plI.eq_2 := @plI.eq_2
@[simp] theorem mapE_1 : type_of% @mapE.eq_1 := @mapE.eq_1
@[simp] theorem mapE_2 : type_of% @mapE.eq_2 := @mapE.eq_2
@[simp] theorem zipE_1 : type_of% @zipE.eq_1 := @zipE.eq_1
@[simp] theorem zipE_2 : type_of% @zipE.eq_2 := @zipE.eq_2
@[simp] theorem itO_1 : type_of% @itO.eq_1 := @itO.eq_1
@[simp] theorem itO_2 : type_of% @itO.eq_2 := @itO.eq_2
@[simp] theorem itO_3 : type_of% @itO.eq_3 := @itO.eq_3
@[simp] theorem itO_4 : type_of% @itO.eq_4 := @itO.eq_4
@[simp] theorem thw1_1 : type_of% @thw1.eq_1 := @thw1.eq_1
@[simp] theorem thw1_2 : type_of% @thw1.eq_2 := @thw1.eq_2
@[simp] theorem thwS_1 : type_of% @thwS.eq_1 := @thwS.eq_1
@[simp] theorem thwS_2 : type_of% @thwS.eq_2 := @thwS.eq_2
@[simp] theorem lstO_same (env : Env) (j : Nat) : lstO env j j = o1 flI (slot env j) := if_pos rfl
@[simp] theorem lstO_other (env : Env) {i j : Nat} (h : i ≠ j) : lstO env j i = o1 plI (slot env i) := if_neg h
@[simp] theorem appT_fl (xs : List P) (e : Env) : appT (.fl xs) e = if xs.length < 16777216 then some (.nx, e) else none := rfl
@[simp] theorem mutO_a (xs : List P) (y : O) : mutO .append (.fl xs) [y] = appO xs (fz y) := rfl
@[simp] theorem mutO_e (xs ys : List P) : mutO .extend (.fl xs) [.fl ys] = if xs.length + ys.length ≤ 16777216 then some (.fl (xs ++ ys)) else none := rfl
@[simp] theorem mutO_f (xs ys : List P) : mutO .extend (.fl xs) [.pl (.list ys)] = if xs.length + ys.length ≤ 16777216 then some (.fl (xs ++ ys)) else none := rfl
@[simp] theorem mutO_u (kvs ls : List (P × P)) : mutO .update (.fd kvs) [.fd ls] = updD kvs ls := rfl
@[simp] theorem mutO_v (kvs ls : List (P × P)) : mutO .update (.fd kvs) [.pl (.dict ls)] = updD kvs ls := rfl
@[simp] theorem mutO_r (xs : List P) : mutO .reverse (.fl xs) [] = some (.fl xs.reverse) := rfl
@[simp] theorem mutO_c (xs : List P) : mutO .clear (.fl xs) [] = some (.fl []) := rfl
@[simp] theorem rcvB_u (o : Option O) : rcvB .update o = fdB o := rfl
@[simp] theorem rcvB_a (o : Option O) : rcvB .append o = lstB o := rfl
@[simp] theorem rcvB_e (o : Option O) : rcvB .extend o = lstB o := rfl
@[simp] theorem rcvB_i (o : Option O) : rcvB .insert o = lstB o := rfl
@[simp] theorem rcvB_r (o : Option O) : rcvB .reverse o = lstB o := rfl
@[simp] theorem rcvB_c (o : Option O) : rcvB .clear o = lstB o := rfl
@[simp] theorem fdB_1 (kvs : List (P × P)) : fdB (some (.fd kvs)) = true := rfl
@[simp] theorem toFd_1 (kvs : List (P × P)) : toFd (some kvs) = some (.fd kvs) := rfl
@[simp] theorem biO_dict (x : O) : biO .dict [x] = toFd (ditems x) := rfl
@[simp] theorem dctP_1 (ks : List Str) (ps : List P) : dctP ks (some ps) = if ks.length = ps.length then some (.fd (mrgS [] (ks.zip ps))) else none := rfl
@[simp] theorem updD_1 (kvs ls : List (P × P)) : updD kvs ls = if kvs.length + ls.length ≤ 16777216 then toFd (mrgD kvs ls) else none := rfl
end G

set_option maxRecDepth 100000
/-! plain helpers -/
namespace G
open PySem L2
def il (ns : List Int) : List P := ns.map .int
@[simp] theorem il_nil : il [] = [] := rfl
@[simp] theorem il_cons (n : Int) (ns : List Int) : il (n :: ns) = .int n :: il ns := rfl
@[simp] theorem il_app (ns ms : List Int) : il (ns ++ ms) = il ns ++ il ms := List.map_append ..
@[simp] theorem il_cln : ∀ ns : List Int, clnPs (il ns) = true
  | [] => by simp
  | n :: ns => by simp [il_cln ns]
@[simp] theorem il_len (ns : List Int) : (il ns).length = ns.length := List.length_map ..
theorem atI_nat {α : Type} (xs : List α) (k : Nat) : atI xs (k : Int) = xs[k]? := by
  unfold atI ixN
  by_cases h : k < xs.length
  · rw [if_pos (by omega), if_pos (by omega)]
    rfl
  · rw [if_pos (by omega), if_neg (by omega)]
    rw [List.getElem?_eq_none (by omega)]
    rfl
theorem atI_ints (ns : List Int) (k : Nat) (h : k < ns.length) : atI (il ns) (k : Int) = some (.int ns[k]) := by
  rw [atI_nat]
  unfold il
  rw [List.getElem?_map, List.getElem?_eq_getElem h]
  rfl
/-- an item of a list, by an index in reach -/
theorem atI_all {α : Type} (xs : List α) (i : Int) (h0 : 0 ≤ i) (h1 : i < xs.length) : ∃ x ∈ xs, atI xs i = some x := by
  obtain ⟨k, rfl⟩ := Int.eq_ofNat_of_zero_le h0
  refine ⟨xs[k]'(by omega), by simp, ?_⟩
  rw [atI_nat, List.getElem?_eq_getElem (by omega)]
/-- a for that never stops early: the invariant Pv by the turns made -/
theorem for_inv {f : Env → P → Rs} (Pv : Nat → Env → Prop) : ∀ (ps : List P) (k : Nat) (env : Env), Pv k env → (∀ i p env, ps[i]? = some p → Pv (k + i) env → ∃ env', f env p = some (.nx, env') ∧ Pv (k + i + 1) env') → ∃ env', forGo f ps env = some (.nx, env') ∧ Pv (k + ps.length) env'
  | [], k, env, h, _ => ⟨env, rfl, h⟩
  | p :: ps, k, env, h, st => by
    obtain ⟨e1, h1, h2⟩ := st 0 p env rfl h
    obtain ⟨e2, h3, h4⟩ := for_inv Pv ps (k + 1) e1 h2 fun i q env hq hp => by
      have := st (i + 1) q env hq (by rw [show k + (i + 1) = k + 1 + i by omega]; exact hp)
      rw [show k + (i + 1) = k + 1 + i by omega] at this
      exact this
    refine ⟨e2, ?_, by rw [List.length_cons, show k + (ps.length + 1) = k + 1 + ps.length by omega]; exact h4⟩
    rw [forGo, h1]
    exact h3
/-- all of a list by their places -/
theorem mapO_all {α β : Type} {f : α → Option β} {Q : Nat → β → Prop} : ∀ (xs : List α) (k : Nat), (∀ i x, xs[i]? = some x → ∃ y, f x = some y ∧ Q (k + i) y) → ∃ ys, mapO f xs = some ys ∧ ys.length = xs.length ∧ ∀ i y, ys[i]? = some y → Q (k + i) y
  | [], k, _ => ⟨[], rfl, rfl, fun i y h => by simp at h⟩
  | x :: xs, k, h => by
    obtain ⟨y, h1, h2⟩ := h 0 x rfl
    obtain ⟨ys, h3, h4, h5⟩ := mapO_all (Q := Q) xs (k + 1) fun i z hz => by
      have := h (i + 1) z hz
      rw [show k + (i + 1) = k + 1 + i by omega] at this
      exact this
    refine ⟨y :: ys, by rw [mapO, h1, h3], by rw [List.length_cons, List.length_cons, h4], fun i z hz => ?_⟩
    cases i with
    | zero =>
      simp at hz
      subst hz
      exact h2
    | succ i =>
      have := h5 i z (by simpa using hz)
      rw [show k + 1 + i = k + (i + 1) by omega] at this
      exact this
theorem rangeP_get {lo n : Int} {i : Nat} {p : P} (h : (rangeP lo n)[i]? = some p) : p = .int (lo + i) ∧ i < n.toNat := by
  unfold rangeP at h
  rw [List.getElem?_map] at h
  cases z : (List.range n.toNat)[i]? with
  | none => rw [z] at h; cases h
  | some k =>
    rw [z] at h
    cases h
    obtain ⟨h1, h2⟩ := List.getElem?_eq_some_iff.mp z
    rw [List.getElem_range] at h2
    subst h2
    rw [List.length_range] at h1
    exact ⟨rfl, h1⟩
theorem rangeP_len (lo n : Int) : (rangeP lo n).length = n.toNat := by
  unfold rangeP
  rw [List.length_map, List.length_range]
theorem fzs_ints : ∀ ns : List Int, fzs (ns.map fun n => .pl (.int n)) = some (il ns)
  | [] => rfl
  | n :: ns => by
    rw [List.map_cons, fzs, fzs_ints ns]
    rfl
/-- a list of il, each below its size -/
def Fits (ns ss : List Int) : Prop := ns.length = ss.length ∧ ∀ (i : Nat) (n s : Int), ns[i]? = some n → ss[i]? = some s → 0 ≤ n ∧ n < s

theorem il_set (ns : List Int) (i : Nat) (v : Int) : il (ns.set i v) = (il ns).set i (.int v) := List.map_set ..
theorem Fits.set {ns ss : List Int} (h : Fits ns ss) {i : Nat} {v : Int} (hv : ∀ s, ss[i]? = some s → 0 ≤ v ∧ v < s) : Fits (ns.set i v) ss := by
  refine ⟨by rw [List.length_set, h.1], fun j n s hn hs => ?_⟩
  by_cases hj : i = j
  · subst hj
    have := (List.getElem?_eq_some_iff.mp hn).1
    rw [List.length_set] at this
    rw [List.getElem?_set_self this] at hn
    cases hn
    exact hv s hs
  · rw [List.getElem?_set_ne hj] at hn
    exact h.2 j n s hn hs
theorem Fits.at {ns ss : List Int} (h : Fits ns ss) {i : Nat} {s : Int} (hs : ss[i]? = some s) : ∃ v, ns[i]? = some v ∧ 0 ≤ v ∧ v < s := by
  have hi := (List.getElem?_eq_some_iff.mp hs).1
  have hn : ns[i]? = some (ns[i]'(by rw [h.1]; exact hi)) := List.getElem?_eq_getElem _
  exact ⟨_, hn, h.2 i _ s hn hs⟩
theorem atI_il (ns : List Int) (i : Nat) (v : Int) (h : ns[i]? = some v) : atI (il ns) (i : Int) = some (.int v) := by
  obtain ⟨h1, h2⟩ := List.getElem?_eq_some_iff.mp h
  rw [atI_ints ns i h1, h2]
theorem atI_pick (xs : List Int) (i : Int) (h0 : 0 ≤ i) (h1 : i < xs.length) : ∃ v ∈ xs, atI (il xs) i = some (.int v) := by
  obtain ⟨k, rfl⟩ := Int.eq_ofNat_of_zero_le h0
  refine ⟨xs[k]'(by omega), by simp, atI_ints xs k (by omega)⟩
theorem opts_int {R : Nat → Int → Prop} : ∀ (ys : List (Option O)) (k : Nat), (∀ i y, ys[i]? = some y → ∃ x, y = some (.pl (.int x)) ∧ R (k + i) x) → ∃ ns : List Int, ys = ns.map (fun n => some (.pl (.int n))) ∧ ∀ i n, ns[i]? = some n → R (k + i) n
  | [], k, _ => ⟨[], rfl, fun i n h => by simp at h⟩
  | y :: ys, k, h => by
    obtain ⟨x, rfl, hx⟩ := h 0 y rfl
    obtain ⟨ns, rfl, hn⟩ := opts_int (R := R) ys (k + 1) fun i z hz => by
      obtain ⟨w, e, hw⟩ := h (i + 1) z hz
      exact ⟨w, e, by rw [show k + 1 + i = k + (i + 1) by omega]; exact hw⟩
    refine ⟨x :: ns, rfl, fun i n hi => ?_⟩
    cases i with
    | zero =>
      simp at hi
      subst hi
      exact hx
    | succ i =>
      have := hn i n (by simpa using hi)
      rw [show k + (i + 1) = k + 1 + i by omega]
      exact this
theorem filt_int (ns : List Int) : (ns.map fun n => some (O.pl (.int n))).filterMap id = ns.map fun n => O.pl (.int n) := by
  induction ns with
  | nil => rfl
  | cons n ns ih => rw [List.map_cons, List.filterMap_cons, ih]; rfl
/-- a comprehension of ints -/
theorem lc_ints {f : P → Option (Option O)} (R : Nat → Int → Prop) (ps : List P) (hl : ps.length ≤ 1000000) (h : ∀ i p, ps[i]? = some p → ∃ x, f p = some (some (.pl (.int x))) ∧ R i x) :
    ∃ ns : List Int, lcO f (some ps) = some (.fl (il ns)) ∧ ns.length = ps.length ∧ ∀ i n, ns[i]? = some n → R i n := by
  obtain ⟨ys, h1, h2, h3⟩ := mapO_all (f := f) (Q := fun i y => ∃ x, y = some (.pl (.int x)) ∧ R i x) ps 0 (fun i p hp => by
    obtain ⟨x, e, hx⟩ := h i p hp
    exact ⟨_, e, x, rfl, by rw [show 0 + i = i by omega]; exact hx⟩)
  obtain ⟨ns, rfl, hn⟩ := opts_int (R := R) ys 0 (fun i y hy => by
    have := h3 i y hy
    rw [show 0 + i = i by omega] at *
    exact this)
  rw [List.length_map] at h2
  refine ⟨ns, ?_, h2, fun i n hi => by have := hn i n hi; rw [show 0 + i = i by omega] at this; exact this⟩
  show (if ps.length ≤ 1000000 then lcM (mapO f ps) else none) = _
  rw [if_pos hl, h1]
  show mkL ((ns.map fun n => some (O.pl (.int n))).filterMap id) = _
  rw [filt_int]
  unfold mkL
  rw [List.length_map, h2, if_pos hl, fzs_ints]
  rfl
theorem execs_go (c : Ct) (s : S) (ss : Ss) (env : Env) : execs c (.cons s ss) (some (.nx, env)) = execs c ss (exec c env s) := by
  rw [execs, stepS]
theorem ife_J {c : Ct} {env : Env} {t : Ex} {a b : Ss} {d : Bool} {J : Env → Prop} (h : evR c env t = some (.pl (.bool d))) (h1 : d = true → ∃ e, execs c a (some (.nx, env)) = some (.nx, e) ∧ J e) (h2 : d = false → ∃ e, execs c b (some (.nx, env)) = some (.nx, e) ∧ J e) :
    ∃ e, exec c env (.ife t a b) = some (.nx, e) ∧ J e := by
  rw [exec, h]
  cases d with
  | true => exact h1 rfl
  | false => exact h2 rfl
theorem runD_go {c : Ct} {d : Df} {os : List O} (h : os.length = d.ps) (hm : modeB d.io os = true) : runD c d os = finD d.io (execs c d.body (some (.nx, startE d.n os))) := if_pos ⟨h, hm⟩
end G

set_option maxRecDepth 100000
/-! more plain helpers: equality of what has a shape; bits -/
namespace G
open PySem L2
theorem il_lay : ∀ ns : List Int, PyData.canLayAll0 (il ns) = true
  | [] => by rfl
  | n :: ns => by simp [PyData.canLayAll0, PyData.canLay0, il_lay ns]
theorem il_deep : ∀ ns : List Int, PyData.depthAll (il ns) = 0
  | [] => by rfl
  | n :: ns => by simp [PyData.depthAll, PyData.depth, il_deep ns]
theorem eqP_self {p : P} (h1 : p.canLay0 = true) (h2 : p.depth ≤ 64) : eqP p p = some true := by
  have h : SeqAt.shaped p = true := by
    unfold SeqAt.shaped
    simp [h1, h2]
  unfold eqP
  rw [if_pos ⟨h, h⟩, SeqAt.eqv_refl p h1]
/-- bits -/
theorem and_nat (x y : Nat) : Builtin.bitAnd (x : Int) (y : Int) = ((x &&& y : Nat) : Int) := by
  unfold Builtin.bitAnd
  simp
theorem or_nat (x y : Nat) : Builtin.bitOr (x : Int) (y : Int) = ((x ||| y : Nat) : Int) := by
  have n1 : Builtin.bitNot (x : Int) < 0 := by unfold Builtin.bitNot; omega
  have n2 : Builtin.bitNot (y : Int) < 0 := by unfold Builtin.bitNot; omega
  have b1 : Builtin.bitNot (Builtin.bitNot (x : Int)) = (x : Int) := by unfold Builtin.bitNot; omega
  have b2 : Builtin.bitNot (Builtin.bitNot (y : Int)) = (y : Int) := by unfold Builtin.bitNot; omega
  have h1 : decide ((0 : Int) ≤ Builtin.bitNot (x : Int)) = false := by simp; omega
  have h2 : decide ((0 : Int) ≤ Builtin.bitNot (y : Int)) = false := by simp; omega
  unfold Builtin.bitOr Builtin.bitAnd
  rw [h1, h2]
  simp only []
  rw [b1, b2]
  unfold Builtin.bitNot
  simp
  omega
theorem or_ones {w y : Nat} (h : y < 2 ^ w) : (2 ^ w - 1) ||| y = 2 ^ w - 1 := by
  apply Nat.eq_of_testBit_eq
  intro i
  rw [Nat.testBit_or, Nat.testBit_two_pow_sub_one]
  by_cases hi : i < w
  · simp [hi]
  · have : y.testBit i = false := Nat.testBit_lt_two_pow (Nat.lt_of_lt_of_le h (Nat.pow_le_pow_right (by omega) (by omega)))
    simp [hi, this]
theorem and_ones {w y : Nat} (h : y < 2 ^ w) : (2 ^ w - 1) &&& y = y := by
  rw [Nat.and_comm, Nat.and_two_pow_sub_one_eq_mod, Nat.mod_eq_of_lt h]
theorem xor_ones {w y : Nat} (h : y < 2 ^ w) : Builtin.bitXor ((2 ^ w - 1 : Nat) : Int) (y : Int) = ((2 ^ w - 1 - y : Nat) : Int) := by
  unfold Builtin.bitXor
  rw [or_nat, and_nat, or_ones h, and_ones h]
  omega
/-- a figure of a number -/
def bt2 (v k : Nat) : Nat := v / 2 ^ k % 2
theorem bt2_lt (v k : Nat) : bt2 v k < 2 := Nat.mod_lt _ (by omega)
theorem bt2_t (v k : Nat) : bt2 v k = (v.testBit k).toNat := (Nat.toNat_testBit v k).symm
theorem bt2_nand {w a b k : Nat} (ha : a < 2 ^ w) (hk : k < w) : bt2 (2 ^ w - 1 - (a &&& b)) k = 1 - bt2 a k * bt2 b k := by
  have hm : (a &&& b) < 2 ^ w := Nat.lt_of_le_of_lt Nat.and_le_left ha
  rw [bt2_t, bt2_t, bt2_t, show 2 ^ w - 1 - (a &&& b) = 2 ^ w - ((a &&& b) + 1) by omega, Nat.testBit_two_pow_sub_succ hm, Nat.testBit_and]
  cases a.testBit k <;> cases b.testBit k <;> simp [hk]
theorem bt2_ones {w k : Nat} (hk : k < w) : bt2 (2 ^ w - 1) k = 1 := by
  rw [bt2_t, Nat.testBit_two_pow_sub_one]
  simp [hk]
/-- a number out of its figures -/
def ofB (f : Nat → Nat) : Nat → Nat
  | 0 => 0
  | n + 1 => ofB f n + f n * 2 ^ n
theorem ofB_bt (v : Nat) : ∀ n, ofB (bt2 v) n = v % 2 ^ n
  | 0 => by simp [ofB, Nat.mod_one]
  | n + 1 => by
    rw [ofB, ofB_bt v n]
    have h : v % 2 ^ (n + 1) = v % 2 ^ n + 2 ^ n * (v / 2 ^ n % 2) := Nat.mod_pow_succ
    rw [h, Nat.mul_comm]
    rfl
theorem ofB_all {v w : Nat} (h : v < 2 ^ w) : ofB (bt2 v) w = v := by rw [ofB_bt, Nat.mod_eq_of_lt h]
end G

set_option maxRecDepth 100000
/-! what is asked of an end, statement by statement -/
namespace G
open PySem L2
def Post (Q : Rs → Prop) (r : Rs) : Prop := Q r
theorem Post.mono {Q R : Rs → Prop} {r : Rs} (h : Post Q r) (k : ∀ r, Q r → R r) : Post R r := k r h
theorem Post.run {c : Ct} {d : Df} {os : List O} {φ : Rx O × List O → Prop} (hl : os.length = d.ps) (hm : modeB d.io os = true) (h : Post (fun r => ∃ ro, finD d.io r = some ro ∧ φ ro) (execs c d.body (some (.nx, startE d.n os)))) : ∃ ro, runD c d os = some ro ∧ φ ro := by
  obtain ⟨ro, h1, h2⟩ := h
  exact ⟨ro, by rw [runD_go hl hm]; exact h1, h2⟩
theorem Post.eq {c : Ct} {d : Df} {os : List O} {ro : Rx O × List O} (hl : os.length = d.ps) (hm : modeB d.io os = true) (h : Post (fun r => finD d.io r = some ro) (execs c d.body (some (.nx, startE d.n os)))) : runD c d os = some ro := by
  rw [runD_go hl hm]
  exact h
/-- a value of some kind -/
theorem Post.val {c : Ct} {d : Df} {os : List O} {φ : O → Prop} (hl : os.length = d.ps) (hm : modeB d.io os = true) (h : Post (fun r => ∃ o, finD d.io r = some (.ok o, []) ∧ φ o) (execs c d.body (some (.nx, startE d.n os)))) : ∃ o, runD c d os = some (.ok o, []) ∧ φ o := by
  rw [runD_go hl hm]
  exact h
theorem Post.nil {c : Ct} {Q : Rs → Prop} {r : Rs} (h : Q r) : Post Q (execs c .nil r) := by
  rw [execs]
  exact h
theorem Post.go {c : Ct} {Q : Rs → Prop} {s : S} {ss : Ss} {env : Env} (h : Post Q (execs c ss (exec c env s))) : Post Q (execs c (.cons s ss) (some (.nx, env))) := by
  rw [execs_go]
  exact h
theorem Post.seq {c : Ct} {Q : Rs → Prop} {ss : Ss} {r : Rs} (h : Post (fun r => Post Q (execs c ss r)) r) : Post Q (execs c ss r) := h
theorem execs_rt (c : Ct) : ∀ (ss : Ss) (o : O) (e : Env), execs c ss (some (.rt o, e)) = some (.rt o, e)
  | .nil, o, e => by rw [execs]
  | .cons s ss, o, e => by
    rw [execs, stepS]
    · exact execs_rt c ss o e
    · intro e2 h
      cases h
theorem execs_bk (c : Ct) : ∀ (ss : Ss) (e : Env), execs c ss (some (.bk, e)) = some (.bk, e)
  | .nil, e => by rw [execs]
  | .cons s ss, e => by
    rw [execs, stepS]
    · exact execs_bk c ss e
    · intro e2 h
      cases h
/-- a for whose turns all go on, or end the def -/
theorem forGo_wp {f : Env → P → Rs} {Q : Rs → Prop} (Pv : Nat → Env → Prop) : ∀ (ps : List P) (k : Nat) (env : Env), Pv k env → (∀ i p e, ps[i]? = some p → Pv (k + i) e → Post (fun r => (∃ e', r = some (.nx, e') ∧ Pv (k + i + 1) e') ∨ (∃ o e', r = some (.rt o, e') ∧ Q (some (.rt o, e')))) (f e p)) → (∀ e, Pv (k + ps.length) e → Q (some (.nx, e))) → Q (forGo f ps env)
  | [], k, env, h, _, hq => by
    rw [forGo]
    exact hq env h
  | p :: ps, k, env, h, st, hq => by
    rcases st 0 p env rfl h with ⟨e', h1, h2⟩ | ⟨o, e', h1, h2⟩
    · rw [forGo, h1]
      refine forGo_wp Pv ps (k + 1) e' h2 (fun i q e hi hp => ?_) (fun e hp => hq e (by rw [List.length_cons, show k + (ps.length + 1) = k + 1 + ps.length by omega]; exact hp))
      have := st (i + 1) q e hi (by rw [show k + (i + 1) = k + 1 + i by omega]; exact hp)
      rw [show k + (i + 1) = k + 1 + i by omega] at this
      exact this
    · rw [forGo, h1]
      exact h2
theorem Post.forr {c : Ct} {Q : Rs → Prop} {tg : Tg} {it : It} {b ss : Ss} {env : Env} (ps : List P) (Pv : Nat → Env → Prop) (hit : evJ c env it = some ps) (h0 : Pv 0 env)
    (st : ∀ i p e, ps[i]? = some p → Pv i e → Post (fun r => (∃ e', r = some (.nx, e') ∧ Pv (i + 1) e') ∨ (∃ o e', r = some (.rt o, e') ∧ Q (some (.rt o, e')))) (bodyF c tg b e p))
    (hk : ∀ e, Pv ps.length e → Post Q (execs c ss (some (.nx, e)))) : Post Q (execs c (.cons (.forr tg it b) ss) (some (.nx, env))) := by
  rw [execs_go, exec_forr, hit]
  show Q (execs c ss (forGo _ ps env))
  refine forGo_wp (Q := fun r => Q (execs c ss r)) Pv ps 0 env h0 (fun i p e hi hp => ?_) (fun e hp => hk e (by simpa using hp))
  rw [show 0 + i = i by omega] at *
  rcases st i p e hi hp with h | ⟨o, e', h1, h2⟩
  · exact .inl h
  · exact .inr ⟨o, e', h1, by rw [execs_rt]; exact h2⟩
theorem Post.forF {c : Ct} {Q : Rs → Prop} {tg : Tg} {it : Fit} {b ss : Ss} {env e1 : Env} (ps : List P) (Pv : Nat → Env → Prop) (hit : evFit c it env = some (.ok ps, e1)) (h0 : Pv 0 e1)
    (st : ∀ i p e, ps[i]? = some p → Pv i e → Post (fun r => (∃ e', r = some (.nx, e') ∧ Pv (i + 1) e') ∨ (∃ o e', r = some (.rt o, e') ∧ Q (some (.rt o, e')))) (bodyF c tg b e p))
    (hk : ∀ e, Pv ps.length e → Post Q (execs c ss (some (.nx, e)))) : Post Q (execs c (.cons (.forF tg it b) ss) (some (.nx, env))) := by
  rw [execs_go, exec_forF, hit]
  show Q (execs c ss (forGo _ ps e1))
  refine forGo_wp (Q := fun r => Q (execs c ss r)) Pv ps 0 e1 h0 (fun i p e hi hp => ?_) (fun e hp => hk e (by simpa using hp))
  rw [show 0 + i = i by omega] at *
  rcases st i p e hi hp with h | ⟨o, e', h1, h2⟩
  · exact .inl h
  · exact .inr ⟨o, e', h1, by rw [execs_rt]; exact h2⟩
/-- a while: m turns are left at most -/
theorem whlGo_wp {t : Env → Option O} {f : Env → Rs} {Q : Rs → Prop} (Pv : Nat → Env → Prop) (st : ∀ m e, Pv m e → (t e = some (.pl (.bool false)) ∧ Q (some (.nx, e))) ∨ (t e = some (.pl (.bool true)) ∧ Post (fun r => (∃ e' m', r = some (.nx, e') ∧ m' < m ∧ Pv m' e') ∨ (∃ o e', r = some (.rt o, e') ∧ Q (some (.rt o, e')))) (f e))) : ∀ (n m : Nat) (env : Env), Pv m env → m < n → Q (whlGo t f n env)
  | 0, m, env, h, hn => by omega
  | n + 1, m, env, h, hn => by
    rcases st m env h with ⟨h1, h2⟩ | ⟨h1, h2⟩
    · rw [whlGo, h1]
      exact h2
    · rcases h2 with ⟨e', m', h2, h3, h4⟩ | ⟨o, e', h2, h3⟩
      · rw [whlGo, h1, h2]
        exact whlGo_wp Pv st n m' e' h4 (by omega)
      · rw [whlGo, h1, h2]
        exact h3
theorem Post.whl {c : Ct} {Q : Rs → Prop} {t : Ex} {b ss : Ss} {env : Env} (m : Nat) (Pv : Nat → Env → Prop) (h0 : Pv m env) (hm : m < c.fuel)
    (st : ∀ m e, Pv m e → (evR c e t = some (.pl (.bool false)) ∧ Post Q (execs c ss (some (.nx, e)))) ∨ (evR c e t = some (.pl (.bool true)) ∧ Post (fun r => (∃ e' m', r = some (.nx, e') ∧ m' < m ∧ Pv m' e') ∨ (∃ o e', r = some (.rt o, e') ∧ Q (some (.rt o, e')))) (execs c b (some (.nx, e))))) : Post Q (execs c (.cons (.whl t b) ss) (some (.nx, env))) := by
  rw [execs_go, exec_whl]
  refine whlGo_wp (Q := fun r => Q (execs c ss r)) Pv (fun m e hp => ?_) c.fuel m env h0 hm
  rcases st m e hp with h | ⟨h1, h2⟩
  · exact .inl h
  · refine .inr ⟨h1, ?_⟩
    rcases h2 with h | ⟨o, e', h3, h4⟩
    · exact .inl h
    · exact .inr ⟨o, e', h3, by rw [execs_rt]; exact h4⟩
/-- one choice: what is asked holds behind either block -/
theorem Post.ife {c : Ct} {Q : Rs → Prop} {t : Ex} {a b ss : Ss} {env : Env} (d : Bool) (h : evR c env t = some (.pl (.bool d))) (h1 : d = true → Post (fun r => Post Q (execs c ss r)) (execs c a (some (.nx, env)))) (h2 : d = false → Post (fun r => Post Q (execs c ss r)) (execs c b (some (.nx, env)))) : Post Q (execs c (.cons (.ife t a b) ss) (some (.nx, env))) := by
  rw [execs_go, exec, h]
  cases d with
  | true => exact h1 rfl
  | false => exact h2 rfl
/-! comprehensions -/
theorem mapO_map {α : Type} {f : P → Option (Option O)} (enc : α → P) (g : α → O) : ∀ xs : List α, (∀ x ∈ xs, f (enc x) = some (some (g x))) → mapO f (xs.map enc) = some (xs.map fun x => some (g x))
  | [], _ => rfl
  | x :: xs, h => by
    rw [List.map_cons, mapO, h x (by simp), mapO_map enc g xs fun y hy => h y (by simp [hy])]
    rfl
theorem filt_map {α : Type} (g : α → O) : ∀ xs : List α, (xs.map fun x => some (g x)).filterMap id = xs.map g
  | [] => rfl
  | x :: xs => by
    rw [List.map_cons, List.filterMap_cons, filt_map g xs]
    rfl
theorem fzs_map {α : Type} (g : α → O) (q : α → P) : ∀ xs : List α, (∀ x ∈ xs, fz (g x) = some (q x)) → fzs (xs.map g) = some (xs.map q)
  | [], _ => by rw [List.map_nil, fzs]; rfl
  | x :: xs, h => by
    rw [List.map_cons, fzs, h x (by simp), fzs_map g q xs fun y hy => h y (by simp [hy])]
    rfl
theorem lc_own {α : Type} {f : P → Option (Option O)} (enc : α → P) (g : α → O) (xs : List α) (hl : xs.length ≤ 1000000) (h : ∀ x ∈ xs, f (enc x) = some (some (g x))) : lcO f (some (xs.map enc)) = mkL (xs.map g) := by
  show (if (xs.map enc).length ≤ 1000000 then lcM (mapO f (xs.map enc)) else none) = _
  rw [List.length_map, if_pos hl, mapO_map enc g xs h]
  show mkL _ = _
  rw [filt_map]
theorem mkL_map {α : Type} (g : α → O) (q : α → P) (xs : List α) (hl : xs.length ≤ 1000000) (h : ∀ x ∈ xs, fz (g x) = some (q x)) : mkL (xs.map g) = some (.fl (xs.map q)) := by
  unfold mkL
  rw [List.length_map, if_pos hl, fzs_map g q xs h]
  rfl
theorem lc_map {α : Type} {f : P → Option (Option O)} (enc g : α → P) (xs : List α) (hl : xs.length ≤ 1000000) (h : ∀ x ∈ xs, f (enc x) = some (some (.pl (g x)))) : lcO f (some (xs.map enc)) = some (.fl (xs.map g)) := by
  rw [lc_own enc (fun x => .pl (g x)) xs hl h]
  exact mkL_map _ g xs hl fun x _ => by rw [fz]
theorem mapO_if {α : Type} {f : P → Option (Option O)} (enc : α → P) (b : α → Bool) (g : α → O) : ∀ xs : List α, (∀ x ∈ xs, f (enc x) = some (if b x = true then some (g x) else none)) → mapO f (xs.map enc) = some (xs.map fun x => if b x = true then some (g x) else none)
  | [], _ => rfl
  | x :: xs, h => by
    rw [List.map_cons, mapO, h x (by simp), mapO_if enc b g xs fun y hy => h y (by simp [hy])]
    rfl
theorem filt_if {α : Type} (b : α → Bool) (g : α → O) : ∀ xs : List α, (xs.map fun x => if b x = true then some (g x) else none).filterMap id = (xs.filter b).map g
  | [] => rfl
  | x :: xs => by
    rw [List.map_cons, List.filterMap_cons, filt_if b g xs, List.filter_cons]
    by_cases h : b x = true
    · rw [if_pos h, if_pos h]
      rfl
    · rw [if_neg h, if_neg h]
      rfl
theorem lc_if {α : Type} {f : P → Option (Option O)} (enc : α → P) (b : α → Bool) (g : α → P) (xs : List α) (hl : xs.length ≤ 1000000) (h : ∀ x ∈ xs, f (enc x) = some (if b x = true then some (.pl (g x)) else none)) : lcO f (some (xs.map enc)) = some (.fl ((xs.filter b).map g)) := by
  show (if (xs.map enc).length ≤ 1000000 then lcM (mapO f (xs.map enc)) else none) = _
  rw [List.length_map, if_pos hl, mapO_if enc b (fun x => .pl (g x)) xs h]
  show mkL _ = _
  rw [filt_if]
  exact mkL_map _ g _ (Nat.le_trans (List.length_filter_le ..) hl) fun x _ => by rw [fz]
theorem rangeP_nat (n : Nat) : rangeP 0 (n : Int) = (List.range n).map fun (k : Nat) => .int (k : Int) := by
  unfold rangeP
  rw [Int.toNat_natCast]
  apply List.map_congr_left
  intro k _
  rw [Int.zero_add]
theorem zipP_map {α : Type} (f g : α → P) : ∀ xs : List α, zipP (xs.map f) (xs.map g) = xs.map fun x => .tuple [f x, g x]
  | [] => rfl
  | x :: xs => by
    have := zipP_map f g xs
    unfold zipP at *
    rw [List.map_cons, List.map_cons, List.zipWith_cons_cons, this]
    rfl
theorem zipP_zip {α β : Type} (f : α → P) (g : β → P) : ∀ (xs : List α) (ys : List β), zipP (xs.map f) (ys.map g) = (xs.zip ys).map fun x => .tuple [f x.1, g x.2]
  | [], ys => by simp [zipP]
  | x :: xs, [] => by simp [zipP]
  | x :: xs, y :: ys => by
    have := zipP_zip f g xs ys
    unfold zipP at *
    rw [List.map_cons, List.map_cons, List.zipWith_cons_cons, this]
    rfl
theorem cut_drop' (ys : List P) (m : Nat) : cutP ys (some (m : Int)) none = ys.drop m := by
  unfold cutP
  rw [HT.sIx_nat, HT.sIx_none]
  by_cases h : m ≤ ys.length
  · rw [Nat.min_eq_left h, List.take_of_length_le (by rw [List.length_drop]; omega)]
  · rw [Nat.min_eq_right (by omega), Nat.sub_self, List.take_zero, List.drop_of_length_le (by omega)]
theorem cut_take' (ys : List P) (m : Nat) : cutP ys none (some (m : Int)) = ys.take m := by
  unfold cutP
  rw [HT.sIx_nat, HT.sIx_none, List.drop_zero, Nat.sub_zero]
  by_cases h : m ≤ ys.length
  · rw [Nat.min_eq_left h]
  · rw [Nat.min_eq_right (by omega), List.take_of_length_le (Nat.le_refl _), List.take_of_length_le (by omega)]
theorem cut_both (ys : List P) (m n : Nat) : cutP ys (some (m : Int)) (some (n : Int)) = (ys.take n).drop m := by
  unfold cutP
  rw [HT.sIx_nat, HT.sIx_nat]
  rw [List.drop_take]
  by_cases h : m ≤ ys.length
  · rw [Nat.min_eq_left h]
    by_cases h2 : n ≤ ys.length
    · rw [Nat.min_eq_left h2]
    · rw [Nat.min_eq_right (by omega), List.take_of_length_le (by rw [List.length_drop]; omega), List.take_of_length_le (by rw [List.length_drop]; omega)]
  · rw [Nat.min_eq_right (show ys.length ≤ m by omega), List.drop_of_length_le (Nat.le_refl _), List.drop_of_length_le (show ys.length ≤ m by omega), List.take_nil, List.take_nil]
theorem Post.step {c : Ct} {Q : Rs → Prop} {s : S} {r : Rs} (h : Post (fun r => Post Q (stepS c s r)) r) : Post Q (stepS c s r) := h
theorem stepS_rt (c : Ct) (s : S) (o : O) (e : Env) : stepS c s (some (.rt o, e)) = some (.rt o, e) := by
  rw [stepS]
  intro e2 h
  cases h
theorem Post.for {c : Ct} {Q : Rs → Prop} {tg : Tg} {it : It} {b : Ss} {env : Env} (ps : List P) (Pv : Nat → Env → Prop) (hit : evJ c env it = some ps) (h0 : Pv 0 env)
    (st : ∀ i p e, ps[i]? = some p → Pv i e → Post (fun r => (∃ e', r = some (.nx, e') ∧ Pv (i + 1) e') ∨ (∃ o e', r = some (.rt o, e') ∧ Q (some (.rt o, e')))) (bodyF c tg b e p))
    (hk : ∀ e, Pv ps.length e → Q (some (.nx, e))) : Post Q (exec c env (.forr tg it b)) := by
  rw [exec_forr, hit]
  show Q (forGo _ ps env)
  refine forGo_wp Pv ps 0 env h0 (fun i p e hi hp => ?_) (fun e hp => hk e (by simpa using hp))
  rw [show 0 + i = i by omega] at *
  exact st i p e hi hp
theorem Post.forFx {c : Ct} {Q : Rs → Prop} {tg : Tg} {it : Fit} {b : Ss} {env e1 : Env} (ps : List P) (Pv : Nat → Env → Prop) (hit : evFit c it env = some (.ok ps, e1)) (h0 : Pv 0 e1)
    (st : ∀ i p e, ps[i]? = some p → Pv i e → Post (fun r => (∃ e', r = some (.nx, e') ∧ Pv (i + 1) e') ∨ (∃ o e', r = some (.rt o, e') ∧ Q (some (.rt o, e')))) (bodyF c tg b e p))
    (hk : ∀ e, Pv ps.length e → Q (some (.nx, e))) : Post Q (exec c env (.forF tg it b)) := by
  rw [exec_forF, hit]
  show Q (forGo _ ps e1)
  refine forGo_wp Pv ps 0 e1 h0 (fun i p e hi hp => ?_) (fun e hp => hk e (by simpa using hp))
  rw [show 0 + i = i by omega] at *
  exact st i p e hi hp
theorem Post.forW {c : Ct} {Q : Rs → Prop} {j : Nat} {y : O} {tg : Tg} {it : It} {b : Ss} {env : Env} (ps : List P) (Pv : Nat → Env → Prop) (hy : slot env j = some y) (hit : itO env j it = some ps) (h0 : Pv 0 (env.set j none))
    (st : ∀ i p e, ps[i]? = some p → Pv i e → Post (fun r => (∃ e', r = some (.nx, e') ∧ Pv (i + 1) e') ∨ (∃ o e', r = some (.rt o, e') ∧ Q (thwS j y (some (.rt o, e'))))) (bodyF c tg b e p))
    (hk : ∀ e, Pv ps.length e → Q (thwS j y (some (.nx, e)))) : Post Q (exec c env (.forW j tg it b)) := by
  rw [exec_forW c env j y tg it b hy, hit]
  show Q (thwS j y (forGo _ ps (env.set j none)))
  refine forGo_wp (Q := fun r => Q (thwS j y r)) Pv ps 0 (env.set j none) h0 (fun i p e hi hp => ?_) (fun e hp => hk e (by simpa using hp))
  rw [show 0 + i = i by omega] at *
  exact st i p e hi hp
theorem Post.whlx {c : Ct} {Q : Rs → Prop} {t : Ex} {b : Ss} {env : Env} (m : Nat) (Pv : Nat → Env → Prop) (h0 : Pv m env) (hm : m < c.fuel)
    (st : ∀ m e, Pv m e → (evR c e t = some (.pl (.bool false)) ∧ Q (some (.nx, e))) ∨ (evR c e t = some (.pl (.bool true)) ∧ Post (fun r => (∃ e' m', r = some (.nx, e') ∧ m' < m ∧ Pv m' e') ∨ (∃ o e', r = some (.rt o, e') ∧ Q (some (.rt o, e')))) (execs c b (some (.nx, e))))) : Post Q (exec c env (.whl t b)) := by
  rw [exec_whl]
  refine whlGo_wp Pv (fun m e hp => ?_) c.fuel m env h0 hm
  exact st m e hp
/-- a turn that goes on -/
theorem Post.nxt {Q : Rs → Prop} {R : Env → Prop} {r : Rs} (h : ∃ e', r = some (.nx, e') ∧ R e') : Post (fun r => (∃ e', r = some (.nx, e') ∧ R e') ∨ (∃ o e', r = some (.rt o, e') ∧ Q (some (.rt o, e')))) r := .inl h
theorem eqP_bl (a b : Bool) : eqP (.bool a) (.bool b) = some (decide (a = b)) := by
  cases a <;> cases b <;> decide +kernel
theorem eqP_int (a b : Int) : eqP (.int a) (.int b) = some (decide (a = b)) := by
  unfold eqP
  rw [if_pos ⟨rfl, rfl⟩]
  rfl
theorem strsP_map : ∀ ys : List Str, strsP (ys.map PyData.str) = some ys
  | [] => rfl
  | y :: ys => by rw [List.map_cons, strsP, strsP_map ys]; rfl
theorem boolsP_true : ∀ n : Nat, boolsP (List.replicate n (.bool true)) = some (List.replicate n true)
  | 0 => rfl
  | n + 1 => by rw [List.replicate_succ, boolsP, boolsP_true n]; rfl
@[simp] theorem at_0 {α : Type} (a : α) (xs : List α) : atI (a :: xs) 0 = some a := by
  have := atI_nat (a :: xs) 0
  simpa using this
@[simp] theorem at_1 {α : Type} (a b : α) (xs : List α) : atI (a :: b :: xs) 1 = some b := by
  have := atI_nat (a :: b :: xs) 1
  simpa using this
@[simp] theorem at_2 {α : Type} (a b d : α) (xs : List α) : atI (a :: b :: d :: xs) 2 = some d := by
  have := atI_nat (a :: b :: d :: xs) 2
  simpa using this
@[simp] theorem at_3 {α : Type} (a b d e : α) (xs : List α) : atI (a :: b :: d :: e :: xs) 3 = some e := by
  have := atI_nat (a :: b :: d :: e :: xs) 3
  simpa using this
@[simp] theorem at_4 {α : Type} (a b d e f : α) (xs : List α) : atI (a :: b :: d :: e :: f :: xs) 4 = some f := by
  have := atI_nat (a :: b :: d :: e :: f :: xs) 4
  simpa using this
/-- the list's item i of some encoded ones -/
theorem map_get {α : Type} {enc : α → P} {xs : List α} {i : Nat} {p : P} (h : (xs.map enc)[i]? = some p) : ∃ x, xs[i]? = some x ∧ p = enc x := by
  rw [List.getElem?_map] at h
  cases z : xs[i]? with
  | none => rw [z] at h; cases h
  | some x => rw [z] at h; cases h; exact ⟨x, rfl, rfl⟩
theorem enumP_get {xs : List P} {i : Nat} {p : P} (h : (enumP xs)[i]? = some p) : ∃ x, xs[i]? = some x ∧ p = .tuple [.int (i : Int), x] := by
  unfold enumP at h
  rw [List.getElem?_map, List.getElem?_zipIdx] at h
  cases z : xs[i]? with
  | none => rw [z] at h; cases h
  | some x => rw [z] at h; cases h; exact ⟨x, rfl, by simp⟩
theorem enumP_len (xs : List P) : (enumP xs).length = xs.length := by
  unfold enumP
  simp
@[simp] theorem ty_int_int : (Ty.int == Ty.int) = true := rfl
@[simp] theorem ty_int_bool : (Ty.int == Ty.bool) = false := rfl
@[simp] theorem ty_int_str : (Ty.int == Ty.str) = false := rfl
@[simp] theorem ty_int_list : (Ty.int == Ty.list) = false := rfl
@[simp] theorem ty_int_tuple : (Ty.int == Ty.tuple) = false := rfl
@[simp] theorem ty_int_dict : (Ty.int == Ty.dict) = false := rfl
@[simp] theorem ty_bool_int : (Ty.bool == Ty.int) = false := rfl
@[simp] theorem ty_bool_bool : (Ty.bool == Ty.bool) = true := rfl
@[simp] theorem ty_bool_str : (Ty.bool == Ty.str) = false := rfl
@[simp] theorem ty_bool_list : (Ty.bool == Ty.list) = false := rfl
@[simp] theorem ty_bool_tuple : (Ty.bool == Ty.tuple) = false := rfl
@[simp] theorem ty_bool_dict : (Ty.bool == Ty.dict) = false := rfl
@[simp] theorem ty_str_int : (Ty.str == Ty.int) = false := rfl
@[simp] theorem ty_str_bool : (Ty.str == Ty.bool) = false := rfl
@[simp] theorem ty_str_str : (Ty.str == Ty.str) = true := rfl
@[simp] theorem ty_str_list : (Ty.str == Ty.list) = false := rfl
@[simp] theorem ty_str_tuple : (Ty.str == Ty.tuple) = false := rfl
@[simp] theorem ty_str_dict : (Ty.str == Ty.dict) = false := rfl
@[simp] theorem ty_list_int : (Ty.list == Ty.int) = false := rfl
@[simp] theorem ty_list_bool : (Ty.list == Ty.bool) = false := rfl
@[simp] theorem ty_list_str : (Ty.list == Ty.str) = false := rfl
@[simp] theorem ty_list_list : (Ty.list == Ty.list) = true := rfl
@[simp] theorem ty_list_tuple : (Ty.list == Ty.tuple) = false := rfl
@[simp] theorem ty_list_dict : (Ty.list == Ty.dict) = false := rfl
@[simp] theorem ty_tuple_int : (Ty.tuple == Ty.int) = false := rfl
@[simp] theorem ty_tuple_bool : (Ty.tuple == Ty.bool) = false := rfl
@[simp] theorem ty_tuple_str : (Ty.tuple == Ty.str) = false := rfl
@[simp] theorem ty_tuple_list : (Ty.tuple == Ty.list) = false := rfl
@[simp] theorem ty_tuple_tuple : (Ty.tuple == Ty.tuple) = true := rfl
@[simp] theorem ty_tuple_dict : (Ty.tuple == Ty.dict) = false := rfl
@[simp] theorem ty_dict_int : (Ty.dict == Ty.int) = false := rfl
@[simp] theorem ty_dict_bool : (Ty.dict == Ty.bool) = false := rfl
@[simp] theorem ty_dict_str : (Ty.dict == Ty.str) = false := rfl
@[simp] theorem ty_dict_list : (Ty.dict == Ty.list) = false := rfl
@[simp] theorem ty_dict_tuple : (Ty.dict == Ty.tuple) = false := rfl
@[simp] theorem ty_dict_dict : (Ty.dict == Ty.dict) = true := rfl
end G
namespace G
theorem Post.pop {Q : Rs → Prop} {r : Rs} (h : Q r) : Post Q r := h
theorem Post.start {io : List Bool} {v : Option (Rx O × List O)} {r : Rs} (h : Post (fun r => finD io r = v) r) : finD io r = v := h
end G
namespace G
open PySem L2
theorem toNat_inj : ∀ {a b : List Char}, a.map Char.toNat = b.map Char.toNat → a = b
  | [], [], _ => rfl
  | a :: as, b :: bs, h => by
    rw [List.map_cons, List.map_cons] at h
    injection h with h1 h2
    have : a = b := Char.ext (UInt32.toNat_inj.mp h1)
    rw [this, toNat_inj h2]
  | [], _ :: _, h => by cases h
  | _ :: _, [], h => by cases h
@[simp] theorem ofS_inj (a b : String) : (Str.ofString a = Str.ofString b) = (a = b) := by
  apply propext
  constructor
  · intro h
    rw [Str.ofString_eq_byList] at h
    unfold Str.ofStringByList at h
    injection h with h1
    have h2 := congrArg Array.toList h1
    exact String.toList_inj.mp (toNat_inj (by simpa using h2))
  · rintro rfl
    rfl
end G
namespace G
/-- a comprehension whose items change slots -/
theorem lcGo_inv {tst : Env → Option O} {f : Env → Rf O} {own : List Nat} {tg : Tg} (Pv : Nat → List O → Env → Prop) : ∀ (ps : List P) (k : Nat) (acc : List O) (e : Env), Pv k acc e →
    (∀ i p acc e, ps[i]? = some p → Pv (k + i) acc e → ∃ e1 o e2, setTg (wipeE e own) tg p = some e1 ∧ tst e1 = some (.pl (.bool true)) ∧ f e1 = some (.ok o, e2) ∧ Pv (k + i + 1) (acc ++ [o]) e2) →
    ∃ acc' e', lcGo tst f own tg ps acc e = okE e' (mkL acc') ∧ Pv (k + ps.length) acc' e'
  | [], k, acc, e, h, _ => ⟨acc, e, by rw [lcGo], h⟩
  | p :: ps, k, acc, e, h, st => by
    obtain ⟨e1, o, e2, h1, h2, h3, h4⟩ := st 0 p acc e rfl h
    obtain ⟨acc', e', h5, h6⟩ := lcGo_inv Pv ps (k + 1) (acc ++ [o]) e2 h4 fun i q acc e hi hp => by
      have := st (i + 1) q acc e hi (by rw [show k + (i + 1) = k + 1 + i by omega]; exact hp)
      rw [show k + (i + 1) = k + 1 + i by omega] at this
      exact this
    refine ⟨acc', e', ?_, by rw [List.length_cons, show k + (ps.length + 1) = k + 1 + ps.length by omega]; exact h6⟩
    rw [lcGo, h1]
    show lcS acc (tst e1) f e1 _ = _
    rw [h2]
    show bnd (f e1) _ = _
    rw [h3]
    exact h5
theorem evF_lc_ok {c : Ct} {own : List Nat} {tg : Tg} {it : Fit} {e : Fx} {env e0 : Env} {ps : List P} (hit : evFit c it env = some (.ok ps, e0)) (hl : ps.length ≤ 1000000) (ho : (own.all fun i => isPl e0[i]?) = true) (Pv : Nat → List O → Env → Prop) (h0 : Pv 0 [] e0)
    (st : ∀ i p acc e1, ps[i]? = some p → Pv i acc e1 → ∃ e2 o e3, setTg (wipeE e1 own) tg p = some e2 ∧ evF c e e2 = some (.ok o, e3) ∧ Pv (i + 1) (acc ++ [o]) e3) :
    ∃ acc e', (∀ o, mkL acc = some o → evF c (.lc own tg it .none e) env = some (.ok o, rstE e0 own e')) ∧ Pv ps.length acc e' := by
  obtain ⟨acc, e', h1, h2⟩ := lcGo_inv (tst := fun e1 => evC c e1 .none) (f := evF c e) (own := own) (tg := tg) Pv ps 0 [] e0 h0 fun i p acc e1 hi hp => by
    rw [show 0 + i = i by omega] at *
    obtain ⟨e2, o, e3, k1, k2, k3⟩ := st i p acc e1 hi hp
    exact ⟨e2, o, e3, k1, by rw [evC], k2, k3⟩
  refine ⟨acc, e', fun o ho2 => ?_, by simpa using h2⟩
  rw [evF, hit]
  show (if ps.length ≤ 1000000 ∧ (own.all fun i => isPl e0[i]?) = true then lcEnd e0 own (lcGo _ _ own tg ps [] e0) else none) = _
  rw [if_pos ⟨hl, ho⟩, h1, ho2]
  rfl
end G

set_option maxRecDepth 100000
namespace Kx
open PySem L2 G
def top (i : Nat) : Stmt := PySem.Challenge.pw_gatetown_k81_signs.main.body.getD i (.Pass ⟨0, 0, 0, 0⟩)
abbrev s0 : Stmt := top 3
def N0 : List Str := ["text", "words", "sign", "number"]
def P0 : List Str := ["text"]
/-- 0 words_of_text(text); slots 0:text 1:words 2:sign 3:number; own words -/
def b_words_of_text_0 : S := (.asg 1 (.lst .nil))
def b_words_of_text_1b_0 : S := (.asg 3 (.bin .Add (.meth .find (.glob 0) (.cons (.var 2) .nil)) (.lit (.int 1))))
def b_words_of_text_1b_1 : S := (.ife (.and (.cmp .Eq (.var 3) (.lit (.int 0))) (.cmp .NotEq (.var 2) (.lit (.str "\n")))) (.cons (.ret (.lit .none)) .nil) .nil)
def b_words_of_text_1b_2 : S := (.mut .append 1 (.cons (.var 3) .nil))
def b_words_of_text_1b : Ss := (.cons b_words_of_text_1b_0 (.cons b_words_of_text_1b_1 (.cons b_words_of_text_1b_2 .nil)))
def b_words_of_text_1 : S := (.forr (.nm 2) (.seq (.var 0)) b_words_of_text_1b)
def b_words_of_text_2 : S := (.ret (.mov 1))
def b_words_of_text : Ss := (.cons b_words_of_text_0 (.cons b_words_of_text_1 (.cons b_words_of_text_2 .nil)))
def d_words_of_text : Df := { ps := 1, n := 4, body := b_words_of_text }
abbrev s1 : Stmt := top 4
def N1 : List Str := ["words", "signs", "row", "word"]
def P1 : List Str := ["words"]
/-- 1 text_of_words(words); slots 0:words 1:signs 2:row 3:word; own signs -/
def b_text_of_words_0 : S := (.asg 1 (.lst .nil))
def b_text_of_words_1 : S := (.asg 2 (.lit (.int 0)))
def b_text_of_words_2b_0 : S := (.ife (.cmp .Eq (.var 3) (.glob 1)) (.cons (.mut .append 1 (.cons (.lit (.str "\n")) .nil)) (.cons (.aug 2 .Add (.lit (.int 1))) .nil)) (.cons (.ife (.cmp .LtE (.var 3) (.bi .len (.cons (.glob 0) .nil))) (.cons (.mut .append 1 (.cons (.idx (.glob 0) (.bin .Sub (.var 3) (.lit (.int 1)))) .nil)) .nil) (.cons (.ret (.tup (.cons (.lit .none) (.cons (.var 2) .nil)))) .nil)) .nil))
def b_text_of_words_2b : Ss := (.cons b_text_of_words_2b_0 .nil)
def b_text_of_words_2 : S := (.forr (.nm 3) (.seq (.var 0)) b_text_of_words_2b)
def b_text_of_words_3 : S := (.ret (.tup (.cons (.meth .join (.lit (.str "")) (.cons (.var 1) .nil)) (.cons (.lit .none) .nil))))
def b_text_of_words : Ss := (.cons b_text_of_words_0 (.cons b_text_of_words_1 (.cons b_text_of_words_2 (.cons b_text_of_words_3 .nil))))
def d_text_of_words : Df := { ps := 1, n := 4, body := b_text_of_words }
abbrev s2 : Stmt := top 6
def N2 : List Str := ["_law_number", "_law_k", "_law_once", "_law_twice"]
def P2 : List Str := ["_law_number", "_law_k"]
/-- 2 _law_mixed(_law_number, _law_k); slots 0:_law_number 1:_law_k 2:_law_once 3:_law_twice; own  -/
def b__law_mixed_0 : S := (.asg 2 (.bin .Mod (.bin .Mult (.bin .Add (.bin .Add (.bin .Mod (.var 0) (.lit (.int 1000000007))) (.bin .Mult (.lit (.int 7)) (.var 1))) (.lit (.int 1))) (.lit (.int 48271))) (.lit (.int 2147483647))))
def b__law_mixed_1 : S := (.asg 3 (.bin .Mod (.bin .Mult (.var 2) (.bin .Add (.bin .Add (.bin .Mod (.var 2) (.lit (.int 1009))) (.var 1)) (.lit (.int 3)))) (.lit (.int 998244353))))
def b__law_mixed_2 : S := (.ret (.bin .Mod (.bin .Add (.bin .Mult (.var 3) (.lit (.int 69621))) (.var 2)) (.lit (.int 2147483629))))
def b__law_mixed : Ss := (.cons b__law_mixed_0 (.cons b__law_mixed_1 (.cons b__law_mixed_2 .nil)))
def d__law_mixed : Df := { ps := 2, n := 4, body := b__law_mixed }
abbrev s3 : Stmt := top 7
def N3 : List Str := ["_law_cell", "_law_found", "_law_rest", "_law_k"]
def P3 : List Str := ["_law_cell"]
/-- 3 _law_digits(_law_cell); slots 0:_law_cell 1:_law_found 2:_law_rest 3:_law_k; own _law_found -/
def b__law_digits_0 : S := (.asg 1 (.lst .nil))
def b__law_digits_1 : S := (.asg 2 (.var 0))
def b__law_digits_2b_0 : S := (.ife (.cmp .GtE (.var 0) (.bin .Pow (.lit (.int 10)) (.lit (.int 18)))) (.cons (.mut .append 1 (.cons (.bin .Mod (.var 2) (.lit (.int 840))) .nil)) (.cons (.asg 2 (.bin .FloorDiv (.var 2) (.lit (.int 840)))) .nil)) (.cons (.mut .append 1 (.cons (.bin .Mod (.call 2 (.cons (.var 0) (.cons (.bin .Add (.var 3) (.lit (.int 11))) .nil))) (.lit (.int 840))) .nil)) .nil))
def b__law_digits_2b : Ss := (.cons b__law_digits_2b_0 .nil)
def b__law_digits_2 : S := (.forr (.nm 3) (.range1 (.lit (.int 60))) b__law_digits_2b)
def b__law_digits_3 : S := (.ret (.mov 1))
def b__law_digits : Ss := (.cons b__law_digits_0 (.cons b__law_digits_1 (.cons b__law_digits_2 (.cons b__law_digits_3 .nil))))
def d__law_digits : Df := { ps := 1, n := 4, body := b__law_digits }
abbrev s4 : Stmt := top 8
def N4 : List Str := []
def P4 : List Str := []
/-- 4 _law_signs(); slots ; own  -/
def b__law_signs_0 : S := (.ret (.lit (.str " abcdefghijklmnopqrstuvwxyz0123456789[]()+-&<=")))
def b__law_signs : Ss := (.cons b__law_signs_0 .nil)
def d__law_signs : Df := { ps := 0, n := 0, body := b__law_signs }
abbrev s5 : Stmt := top 9
def N5 : List Str := ["_law_found"]
def P5 : List Str := ["_law_found"]
/-- 5 _law_whole(_law_found); slots 0:_law_found; own  -/
def b__law_whole_0 : S := (.ret (.and (.isi (.var 0) [.int]) (.not (.isi (.var 0) [.bool]))))
def b__law_whole : Ss := (.cons b__law_whole_0 .nil)
def d__law_whole : Df := { ps := 1, n := 1, body := b__law_whole }
abbrev s6 : Stmt := top 10
def N6 : List Str := ["_law_some", "_law_digits_here", "_law_strange", "_law_at"]
def P6 : List Str := ["_law_some", "_law_digits_here", "_law_strange"]
/-- 6 _law_spoilt(_law_some, _law_digits_here, _law_strange); slots 0:_law_some 1:_law_digits_here 2:_law_strange 3:_law_at; own  -/
def b__law_spoilt_0 : S := (.ife (.cmp .Eq (.bin .Mod (.idx (.var 1) (.lit (.int 58))) (.lit (.int 2))) (.lit (.int 0))) (.cons (.ret (.var 0)) .nil) .nil)
def b__law_spoilt_1 : S := (.asg 3 (.bin .Mod (.idx (.var 1) (.lit (.int 59))) (.bin .Add (.bi .len (.cons (.var 0) .nil)) (.lit (.int 1)))))
def b__law_spoilt_2 : S := (.ret (.bin .Add (.bin .Add (.slc (.var 0) .none (.some (.var 3))) (.lst (.cons (.idx (.var 2) (.bin .Mod (.idx (.var 1) (.lit (.int 57))) (.bi .len (.cons (.var 2) .nil)))) .nil))) (.slc (.var 0) (.some (.var 3)) .none)))
def b__law_spoilt : Ss := (.cons b__law_spoilt_0 (.cons b__law_spoilt_1 (.cons b__law_spoilt_2 .nil)))
def d__law_spoilt : Df := { ps := 3, n := 4, body := b__law_spoilt }
abbrev s7 : Stmt := top 11
def N7 : List Str := ["_law_text_here", "_law_found", "_law_sign"]
def P7 : List Str := ["_law_text_here"]
/-- 7 _law_numbers(_law_text_here); slots 0:_law_text_here 1:_law_found 2:_law_sign; own _law_found -/
def b__law_numbers_0 : S := (.asg 1 (.lst .nil))
def b__law_numbers_1b_0 : S := (.ife (.and (.cmp .NotEq (.var 2) (.lit (.str "\n"))) (.cmp .NotIn (.var 2) (.call 4 .nil))) (.cons (.ret (.lit .none)) .nil) .nil)
def b__law_numbers_1b_1 : S := (.mut .append 1 (.cons (.idx (.lst (.cons (.lit (.int 0)) (.cons (.bin .Add (.meth .find (.call 4 .nil) (.cons (.var 2) .nil)) (.lit (.int 1))) .nil))) (.bi .int (.cons (.cmp .NotEq (.var 2) (.lit (.str "\n"))) .nil))) .nil))
def b__law_numbers_1b : Ss := (.cons b__law_numbers_1b_0 (.cons b__law_numbers_1b_1 .nil))
def b__law_numbers_1 : S := (.forr (.nm 2) (.seq (.var 0)) b__law_numbers_1b)
def b__law_numbers_2 : S := (.ret (.mov 1))
def b__law_numbers : Ss := (.cons b__law_numbers_0 (.cons b__law_numbers_1 (.cons b__law_numbers_2 .nil)))
def d__law_numbers : Df := { ps := 1, n := 3, body := b__law_numbers }
abbrev s8 : Stmt := top 12
def N8 : List Str := ["_law_words", "_law_text_here", "_law_k", "_law_word"]
def P8 : List Str := ["_law_words"]
/-- 8 _law_text(_law_words); slots 0:_law_words 1:_law_text_here 2:_law_k 3:_law_word; own  -/
def b__law_text_0 : S := (.asg 1 (.lit (.str "")))
def b__law_text_1b_0 : S := (.ife (.cmp .Gt (.var 3) (.lit (.int 46))) (.cons (.ret (.tup (.cons (.lit .none) (.cons (.meth .count (.slc (.var 0) .none (.some (.var 2))) (.cons (.lit (.int 0)) .nil)) .nil)))) .nil) .nil)
def b__law_text_1b_1 : S := (.asg 1 (.bin .Add (.var 1) (.idx (.bin .Add (.lit (.str "\n")) (.call 4 .nil)) (.var 3))))
def b__law_text_1b : Ss := (.cons b__law_text_1b_0 (.cons b__law_text_1b_1 .nil))
def b__law_text_1 : S := (.forr (.tp [2, 3]) (.enum (.var 0)) b__law_text_1b)
def b__law_text_2 : S := (.ret (.tup (.cons (.var 1) (.cons (.lit .none) .nil))))
def b__law_text : Ss := (.cons b__law_text_0 (.cons b__law_text_1 (.cons b__law_text_2 .nil)))
def d__law_text : Df := { ps := 1, n := 4, body := b__law_text }
abbrev s9 : Stmt := top 13
def N9 : List Str := ["_law_found", "_law_due", "_law_word"]
def P9 : List Str := ["_law_found", "_law_due"]
/-- 9 _law_is_words(_law_found, _law_due); slots 0:_law_found 1:_law_due 2:_law_word; own  -/
def b__law_is_words_0 : S := (.ife (.cmp .Is (.var 1) (.lit .none)) (.cons (.ret (.cmp .Is (.var 0) (.lit .none))) .nil) .nil)
def b__law_is_words_1 : S := (.ret (.and (.isi (.var 0) [.list]) (.and (.cmp .Eq (.var 0) (.var 1)) (.bi .all (.cons (.lc [2] (.nm 2) (.seq (.var 0)) .none (.call 5 (.cons (.var 2) .nil))) .nil)))))
def b__law_is_words : Ss := (.cons b__law_is_words_0 (.cons b__law_is_words_1 .nil))
def d__law_is_words : Df := { ps := 2, n := 3, body := b__law_is_words }
abbrev s10 : Stmt := top 14
def N10 : List Str := ["_law_found", "_law_due"]
def P10 : List Str := ["_law_found", "_law_due"]
/-- 10 _law_is_told(_law_found, _law_due); slots 0:_law_found 1:_law_due; own  -/
def b__law_is_told_0 : S := (.ife (.or (.not (.isi (.var 0) [.tuple])) (.or (.cmp .NotEq (.bi .len (.cons (.var 0) .nil)) (.lit (.int 2))) (.cmp .NotEq (.var 0) (.var 1)))) (.cons (.ret (.lit (.bool false))) .nil) .nil)
def b__law_is_told_1 : S := (.ife (.cmp .Is (.idx (.var 1) (.lit (.int 0))) (.lit .none)) (.cons (.ret (.and (.cmp .Is (.idx (.var 0) (.lit (.int 0))) (.lit .none)) (.call 5 (.cons (.idx (.var 0) (.lit (.int 1))) .nil)))) .nil) .nil)
def b__law_is_told_2 : S := (.ret (.and (.isi (.idx (.var 0) (.lit (.int 0))) [.str]) (.cmp .Is (.idx (.var 0) (.lit (.int 1))) (.lit .none))))
def b__law_is_told : Ss := (.cons b__law_is_told_0 (.cons b__law_is_told_1 (.cons b__law_is_told_2 .nil)))
def d__law_is_told : Df := { ps := 2, n := 2, body := b__law_is_told }
abbrev s11 : Stmt := top 15
def N11 : List Str := ["_law_script", "_law_cell", "_law_digits_here", "_law_many", "_law_signs_here", "_law_text_here", "_law_due", "_law_found", "_law_words", "_law_handed", "_law_digit"]
def P11 : List Str := ["_law_script"]
/-- 11 law(_law_script); slots 0:_law_script 1:_law_cell 2:_law_digits_here 3:_law_many 4:_law_signs_here 5:_law_text_here 6:_law_due 7:_law_found 8:_law_words 9:_law_handed 10:_law_digit; own _law_found -/
def b_law_0b_0 : S := (.asgP 2 (.p (.call 3 (.cons (.var 1) .nil))))
def b_law_0b_1 : S := (.asg 3 (.bin .Mod (.idx (.var 2) (.lit (.int 56))) (.lit (.int 41))))
def b_law_0b_2 : S := (.asgP 4 (.p (.lc [10] (.nm 10) (.seq (.slc (.var 2) .none (.some (.var 3)))) .none (.idx (.bin .Add (.call 4 .nil) (.lit (.str "\n"))) (.bin .Mod (.var 10) (.lit (.int 47)))))))
def b_law_0b_3 : S := (.asg 5 (.meth .join (.lit (.str "")) (.cons (.call 6 (.cons (.var 4) (.cons (.var 2) (.cons (.lst (.cons (.lit (.str ".")) (.cons (.lit (.str "A")) (.cons (.lit (.str "*")) (.cons (.lit (.str "_")) (.cons (.lit (.str "~")) (.cons (.lit (.str ":")) (.cons (.lit (.str ">")) (.cons (.lit (.str "|")) .nil))))))))) .nil)))) .nil)))
def b_law_0b_4 : S := (.asgP 6 (.p (.call 7 (.cons (.var 5) .nil))))
def b_law_0b_5 : S := (.asg 7 (.call 0 (.cons (.var 5) .nil)))
def b_law_0b_6 : S := (.ife (.not (.call 9 (.cons (.var 7) (.cons (.var 6) .nil)))) (.cons (.ret (.lit (.bool false))) .nil) .nil)
def b_law_0b_7 : S := (.ife (.and (.cmp .IsNot (.var 6) (.lit .none)) (.or (.not (.call 10 (.cons (.call 1 (.cons (.var 7) .nil)) (.cons (.tup (.cons (.var 5) (.cons (.lit .none) .nil))) .nil)))) (.cmp .NotEq (.var 7) (.var 6)))) (.cons (.ret (.lit (.bool false))) .nil) .nil)
def b_law_0b_8 : S := (.asgP 8 (.p (.call 6 (.cons (.lc [10] (.nm 10) (.seq (.slc (.var 2) (.some (.lit (.int 10))) (.some (.bin .Add (.lit (.int 10)) (.var 3))))) .none (.bin .Mod (.var 10) (.lit (.int 47)))) (.cons (.var 2) (.cons (.lst (.cons (.lit (.int 47)) (.cons (.lit (.int 48)) (.cons (.lit (.int 100)) (.cons (.lit (.int 4095)) (.cons (.lit (.int 65535)) .nil)))))) .nil))))))
def b_law_0b_9 : S := (.asgP 9 (.p (.bi .list (.cons (.var 8) .nil))))
def b_law_0b_10 : S := (.ife (.or (.not (.call 10 (.cons (.call 1 (.cons (.var 9) .nil)) (.cons (.call 8 (.cons (.var 8) .nil)) .nil)))) (.cmp .NotEq (.var 9) (.var 8))) (.cons (.ret (.lit (.bool false))) .nil) .nil)
def b_law_0b_11 : S := (.ife (.cmp .IsNot (.var 7) (.lit .none)) (.cons (.mut .append 7 (.cons (.lit (.int 1)) .nil)) (.cons (.ife (.not (.call 9 (.cons (.call 0 (.cons (.var 5) .nil)) (.cons (.var 6) .nil)))) (.cons (.ret (.lit (.bool false))) .nil) .nil) .nil)) .nil)
def b_law_0b : Ss := (.cons b_law_0b_0 (.cons b_law_0b_1 (.cons b_law_0b_2 (.cons b_law_0b_3 (.cons b_law_0b_4 (.cons b_law_0b_5 (.cons b_law_0b_6 (.cons b_law_0b_7 (.cons b_law_0b_8 (.cons b_law_0b_9 (.cons b_law_0b_10 (.cons b_law_0b_11 .nil))))))))))))
def b_law_0 : S := (.forr (.nm 1) (.seq (.bin .Add (.slc (.var 0) .none (.some (.lit (.int 30)))) (.lst (.cons (.bi .len (.cons (.var 0) .nil)) .nil)))) b_law_0b)
def b_law_1 : S := (.ret (.lit (.bool true)))
def b_law : Ss := (.cons b_law_0 (.cons b_law_1 .nil))
def d_law : Df := { ps := 1, n := 11, body := b_law }
theorem go_words_of_text (c : Ct) (os : List O) (h : os.length = 1) (hm : modeB [] os = true) : runD c d_words_of_text os = finD [] (execs c b_words_of_text (some (.nx, startE 4 os))) := runD_go h hm
theorem post_words_of_text {c : Ct} {os : List O} {φ : O → Prop} (h : os.length = 1) (hm : modeB [] os = true) (q : Post (fun r => ∃ o, finD [] r = some (.ok o, []) ∧ φ o) (execs c b_words_of_text (some (.nx, startE 4 os)))) : ∃ o, runD c d_words_of_text os = some (.ok o, []) ∧ φ o := Post.val h hm q
theorem go_text_of_words (c : Ct) (os : List O) (h : os.length = 1) (hm : modeB [] os = true) : runD c d_text_of_words os = finD [] (execs c b_text_of_words (some (.nx, startE 4 os))) := runD_go h hm
theorem post_text_of_words {c : Ct} {os : List O} {φ : O → Prop} (h : os.length = 1) (hm : modeB [] os = true) (q : Post (fun r => ∃ o, finD [] r = some (.ok o, []) ∧ φ o) (execs c b_text_of_words (some (.nx, startE 4 os)))) : ∃ o, runD c d_text_of_words os = some (.ok o, []) ∧ φ o := Post.val h hm q
theorem go__law_mixed (c : Ct) (os : List O) (h : os.length = 2) (hm : modeB [] os = true) : runD c d__law_mixed os = finD [] (execs c b__law_mixed (some (.nx, startE 4 os))) := runD_go h hm
theorem post__law_mixed {c : Ct} {os : List O} {φ : O → Prop} (h : os.length = 2) (hm : modeB [] os = true) (q : Post (fun r => ∃ o, finD [] r = some (.ok o, []) ∧ φ o) (execs c b__law_mixed (some (.nx, startE 4 os)))) : ∃ o, runD c d__law_mixed os = some (.ok o, []) ∧ φ o := Post.val h hm q
theorem go__law_digits (c : Ct) (os : List O) (h : os.length = 1) (hm : modeB [] os = true) : runD c d__law_digits os = finD [] (execs c b__law_digits (some (.nx, startE 4 os))) := runD_go h hm
theorem post__law_digits {c : Ct} {os : List O} {φ : O → Prop} (h : os.length = 1) (hm : modeB [] os = true) (q : Post (fun r => ∃ o, finD [] r = some (.ok o, []) ∧ φ o) (execs c b__law_digits (some (.nx, startE 4 os)))) : ∃ o, runD c d__law_digits os = some (.ok o, []) ∧ φ o := Post.val h hm q
theorem go__law_signs (c : Ct) (os : List O) (h : os.length = 0) (hm : modeB [] os = true) : runD c d__law_signs os = finD [] (execs c b__law_signs (some (.nx, startE 0 os))) := runD_go h hm
theorem post__law_signs {c : Ct} {os : List O} {φ : O → Prop} (h : os.length = 0) (hm : modeB [] os = true) (q : Post (fun r => ∃ o, finD [] r = some (.ok o, []) ∧ φ o) (execs c b__law_signs (some (.nx, startE 0 os)))) : ∃ o, runD c d__law_signs os = some (.ok o, []) ∧ φ o := Post.val h hm q
theorem go__law_whole (c : Ct) (os : List O) (h : os.length = 1) (hm : modeB [] os = true) : runD c d__law_whole os = finD [] (execs c b__law_whole (some (.nx, startE 1 os))) := runD_go h hm
theorem post__law_whole {c : Ct} {os : List O} {φ : O → Prop} (h : os.length = 1) (hm : modeB [] os = true) (q : Post (fun r => ∃ o, finD [] r = some (.ok o, []) ∧ φ o) (execs c b__law_whole (some (.nx, startE 1 os)))) : ∃ o, runD c d__law_whole os = some (.ok o, []) ∧ φ o := Post.val h hm q
theorem go__law_spoilt (c : Ct) (os : List O) (h : os.length = 3) (hm : modeB [] os = true) : runD c d__law_spoilt os = finD [] (execs c b__law_spoilt (some (.nx, startE 4 os))) := runD_go h hm
theorem post__law_spoilt {c : Ct} {os : List O} {φ : O → Prop} (h : os.length = 3) (hm : modeB [] os = true) (q : Post (fun r => ∃ o, finD [] r = some (.ok o, []) ∧ φ o) (execs c b__law_spoilt (some (.nx, startE 4 os)))) : ∃ o, runD c d__law_spoilt os = some (.ok o, []) ∧ φ o := Post.val h hm q
theorem go__law_numbers (c : Ct) (os : List O) (h : os.length = 1) (hm : modeB [] os = true) : runD c d__law_numbers os = finD [] (execs c b__law_numbers (some (.nx, startE 3 os))) := runD_go h hm
theorem post__law_numbers {c : Ct} {os : List O} {φ : O → Prop} (h : os.length = 1) (hm : modeB [] os = true) (q : Post (fun r => ∃ o, finD [] r = some (.ok o, []) ∧ φ o) (execs c b__law_numbers (some (.nx, startE 3 os)))) : ∃ o, runD c d__law_numbers os = some (.ok o, []) ∧ φ o := Post.val h hm q
theorem go__law_text (c : Ct) (os : List O) (h : os.length = 1) (hm : modeB [] os = true) : runD c d__law_text os = finD [] (execs c b__law_text (some (.nx, startE 4 os))) := runD_go h hm
theorem post__law_text {c : Ct} {os : List O} {φ : O → Prop} (h : os.length = 1) (hm : modeB [] os = true) (q : Post (fun r => ∃ o, finD [] r = some (.ok o, []) ∧ φ o) (execs c b__law_text (some (.nx, startE 4 os)))) : ∃ o, runD c d__law_text os = some (.ok o, []) ∧ φ o := Post.val h hm q
theorem go__law_is_words (c : Ct) (os : List O) (h : os.length = 2) (hm : modeB [] os = true) : runD c d__law_is_words os = finD [] (execs c b__law_is_words (some (.nx, startE 3 os))) := runD_go h hm
theorem post__law_is_words {c : Ct} {os : List O} {φ : O → Prop} (h : os.length = 2) (hm : modeB [] os = true) (q : Post (fun r => ∃ o, finD [] r = some (.ok o, []) ∧ φ o) (execs c b__law_is_words (some (.nx, startE 3 os)))) : ∃ o, runD c d__law_is_words os = some (.ok o, []) ∧ φ o := Post.val h hm q
theorem go__law_is_told (c : Ct) (os : List O) (h : os.length = 2) (hm : modeB [] os = true) : runD c d__law_is_told os = finD [] (execs c b__law_is_told (some (.nx, startE 2 os))) := runD_go h hm
theorem post__law_is_told {c : Ct} {os : List O} {φ : O → Prop} (h : os.length = 2) (hm : modeB [] os = true) (q : Post (fun r => ∃ o, finD [] r = some (.ok o, []) ∧ φ o) (execs c b__law_is_told (some (.nx, startE 2 os)))) : ∃ o, runD c d__law_is_told os = some (.ok o, []) ∧ φ o := Post.val h hm q
theorem go_law (c : Ct) (os : List O) (h : os.length = 1) (hm : modeB [] os = true) : runD c d_law os = finD [] (execs c b_law (some (.nx, startE 11 os))) := runD_go h hm
theorem post_law {c : Ct} {os : List O} {φ : O → Prop} (h : os.length = 1) (hm : modeB [] os = true) (q : Post (fun r => ∃ o, finD [] r = some (.ok o, []) ∧ φ o) (execs c b_law (some (.nx, startE 11 os)))) : ∃ o, runD c d_law os = some (.ok o, []) ∧ φ o := Post.val h hm q
def fnT : Nat → Option Str
  | 0 => some "words_of_text"
  | 1 => some "text_of_words"
  | 2 => some "_law_mixed"
  | 3 => some "_law_digits"
  | 4 => some "_law_signs"
  | 5 => some "_law_whole"
  | 6 => some "_law_spoilt"
  | 7 => some "_law_numbers"
  | 8 => some "_law_text"
  | 9 => some "_law_is_words"
  | 10 => some "_law_is_told"
  | 11 => some "law"
  | _ => none
def ds : Nat → Option Df
  | 0 => some d_words_of_text
  | 1 => some d_text_of_words
  | 2 => some d__law_mixed
  | 3 => some d__law_digits
  | 4 => some d__law_signs
  | 5 => some d__law_whole
  | 6 => some d__law_spoilt
  | 7 => some d__law_numbers
  | 8 => some d__law_text
  | 9 => some d__law_is_words
  | 10 => some d__law_is_told
  | 11 => some d_law
  | _ => none
def gnT : Nat → Option Str
  | 0 => some "SIGNS"
  | 1 => some "NEW_ROW"
  | _ => none
def gl : Nat → Option P
  | 0 => some (.str " abcdefghijklmnopqrstuvwxyz0123456789[]()+-&<=")
  | 1 => some (.int (0))
  | _ => none
def T : Tb := { fn := fnT, gn := gnT }
@[simp] theorem call_words_of_text (k : Nat) (os : List O) : (Ck ds gl 200 (k + 1)).call 0 os = runD (Ck ds gl 200 k) d_words_of_text os := rfl
@[simp] theorem call_text_of_words (k : Nat) (os : List O) : (Ck ds gl 200 (k + 1)).call 1 os = runD (Ck ds gl 200 k) d_text_of_words os := rfl
@[simp] theorem call__law_mixed (k : Nat) (os : List O) : (Ck ds gl 200 (k + 1)).call 2 os = runD (Ck ds gl 200 k) d__law_mixed os := rfl
@[simp] theorem call__law_digits (k : Nat) (os : List O) : (Ck ds gl 200 (k + 1)).call 3 os = runD (Ck ds gl 200 k) d__law_digits os := rfl
@[simp] theorem call__law_signs (k : Nat) (os : List O) : (Ck ds gl 200 (k + 1)).call 4 os = runD (Ck ds gl 200 k) d__law_signs os := rfl
@[simp] theorem call__law_whole (k : Nat) (os : List O) : (Ck ds gl 200 (k + 1)).call 5 os = runD (Ck ds gl 200 k) d__law_whole os := rfl
@[simp] theorem call__law_spoilt (k : Nat) (os : List O) : (Ck ds gl 200 (k + 1)).call 6 os = runD (Ck ds gl 200 k) d__law_spoilt os := rfl
@[simp] theorem call__law_numbers (k : Nat) (os : List O) : (Ck ds gl 200 (k + 1)).call 7 os = runD (Ck ds gl 200 k) d__law_numbers os := rfl
@[simp] theorem call__law_text (k : Nat) (os : List O) : (Ck ds gl 200 (k + 1)).call 8 os = runD (Ck ds gl 200 k) d__law_text os := rfl
@[simp] theorem call__law_is_words (k : Nat) (os : List O) : (Ck ds gl 200 (k + 1)).call 9 os = runD (Ck ds gl 200 k) d__law_is_words os := rfl
@[simp] theorem call__law_is_told (k : Nat) (os : List O) : (Ck ds gl 200 (k + 1)).call 10 os = runD (Ck ds gl 200 k) d__law_is_told os := rfl
@[simp] theorem call_law (k : Nat) (os : List O) : (Ck ds gl 200 (k + 1)).call 11 os = runD (Ck ds gl 200 k) d_law os := rfl
@[simp] theorem low_words_of_text (k : Nat) (os : List O) : (Ck ds gl 200 (k + 2)).low 0 os = runD (Ck ds gl 200 k) d_words_of_text os := rfl
@[simp] theorem low_text_of_words (k : Nat) (os : List O) : (Ck ds gl 200 (k + 2)).low 1 os = runD (Ck ds gl 200 k) d_text_of_words os := rfl
@[simp] theorem low__law_mixed (k : Nat) (os : List O) : (Ck ds gl 200 (k + 2)).low 2 os = runD (Ck ds gl 200 k) d__law_mixed os := rfl
@[simp] theorem low__law_digits (k : Nat) (os : List O) : (Ck ds gl 200 (k + 2)).low 3 os = runD (Ck ds gl 200 k) d__law_digits os := rfl
@[simp] theorem low__law_signs (k : Nat) (os : List O) : (Ck ds gl 200 (k + 2)).low 4 os = runD (Ck ds gl 200 k) d__law_signs os := rfl
@[simp] theorem low__law_whole (k : Nat) (os : List O) : (Ck ds gl 200 (k + 2)).low 5 os = runD (Ck ds gl 200 k) d__law_whole os := rfl
@[simp] theorem low__law_spoilt (k : Nat) (os : List O) : (Ck ds gl 200 (k + 2)).low 6 os = runD (Ck ds gl 200 k) d__law_spoilt os := rfl
@[simp] theorem low__law_numbers (k : Nat) (os : List O) : (Ck ds gl 200 (k + 2)).low 7 os = runD (Ck ds gl 200 k) d__law_numbers os := rfl
@[simp] theorem low__law_text (k : Nat) (os : List O) : (Ck ds gl 200 (k + 2)).low 8 os = runD (Ck ds gl 200 k) d__law_text os := rfl
@[simp] theorem low__law_is_words (k : Nat) (os : List O) : (Ck ds gl 200 (k + 2)).low 9 os = runD (Ck ds gl 200 k) d__law_is_words os := rfl
@[simp] theorem low__law_is_told (k : Nat) (os : List O) : (Ck ds gl 200 (k + 2)).low 10 os = runD (Ck ds gl 200 k) d__law_is_told os := rfl
@[simp] theorem low_law (k : Nat) (os : List O) : (Ck ds gl 200 (k + 2)).low 11 os = runD (Ck ds gl 200 k) d_law os := rfl
@[simp] theorem gl_k (k : Nat) : (Ck ds gl 200 k).gl = gl := Ck_gl k
@[simp] theorem io_k (k : Nat) : (Ck ds gl 200 k).io = ioOf ds := Ck_io k
@[simp] theorem io_words_of_text : ioOf ds 0 = [] := rfl
@[simp] theorem io_text_of_words : ioOf ds 1 = [] := rfl
@[simp] theorem io__law_mixed : ioOf ds 2 = [] := rfl
@[simp] theorem io__law_digits : ioOf ds 3 = [] := rfl
@[simp] theorem io__law_signs : ioOf ds 4 = [] := rfl
@[simp] theorem io__law_whole : ioOf ds 5 = [] := rfl
@[simp] theorem io__law_spoilt : ioOf ds 6 = [] := rfl
@[simp] theorem io__law_numbers : ioOf ds 7 = [] := rfl
@[simp] theorem io__law_text : ioOf ds 8 = [] := rfl
@[simp] theorem io__law_is_words : ioOf ds 9 = [] := rfl
@[simp] theorem io__law_is_told : ioOf ds 10 = [] := rfl
@[simp] theorem io_law : ioOf ds 11 = [] := rfl
--CHECKS
theorem Sc0 : FnScope N0 P0 (defScope s0) := ⟨rfl, rfl, rfl, by decide +kernel, rfl, by decide +kernel, by decide +kernel⟩
theorem c0 : chkSs T N0 (defScope s0) (defScope s0) d_words_of_text.body (defBody s0) = true := by decide +kernel
theorem Sc1 : FnScope N1 P1 (defScope s1) := ⟨rfl, rfl, rfl, by decide +kernel, rfl, by decide +kernel, by decide +kernel⟩
theorem c1 : chkSs T N1 (defScope s1) (defScope s1) d_text_of_words.body (defBody s1) = true := by decide +kernel
theorem Sc2 : FnScope N2 P2 (defScope s2) := ⟨rfl, rfl, rfl, by decide +kernel, rfl, by decide +kernel, by decide +kernel⟩
theorem c2 : chkSs T N2 (defScope s2) (defScope s2) d__law_mixed.body (defBody s2) = true := by decide +kernel
theorem Sc3 : FnScope N3 P3 (defScope s3) := ⟨rfl, rfl, rfl, by decide +kernel, rfl, by decide +kernel, by decide +kernel⟩
theorem c3 : chkSs T N3 (defScope s3) (defScope s3) d__law_digits.body (defBody s3) = true := by decide +kernel
theorem Sc4 : FnScope N4 P4 (defScope s4) := ⟨rfl, rfl, rfl, by decide +kernel, rfl, by decide +kernel, by decide +kernel⟩
theorem c4 : chkSs T N4 (defScope s4) (defScope s4) d__law_signs.body (defBody s4) = true := by decide +kernel
theorem Sc5 : FnScope N5 P5 (defScope s5) := ⟨rfl, rfl, rfl, by decide +kernel, rfl, by decide +kernel, by decide +kernel⟩
theorem c5 : chkSs T N5 (defScope s5) (defScope s5) d__law_whole.body (defBody s5) = true := by decide +kernel
theorem Sc6 : FnScope N6 P6 (defScope s6) := ⟨rfl, rfl, rfl, by decide +kernel, rfl, by decide +kernel, by decide +kernel⟩
theorem c6 : chkSs T N6 (defScope s6) (defScope s6) d__law_spoilt.body (defBody s6) = true := by decide +kernel
theorem Sc7 : FnScope N7 P7 (defScope s7) := ⟨rfl, rfl, rfl, by decide +kernel, rfl, by decide +kernel, by decide +kernel⟩
theorem c7 : chkSs T N7 (defScope s7) (defScope s7) d__law_numbers.body (defBody s7) = true := by decide +kernel
theorem Sc8 : FnScope N8 P8 (defScope s8) := ⟨rfl, rfl, rfl, by decide +kernel, rfl, by decide +kernel, by decide +kernel⟩
theorem c8 : chkSs T N8 (defScope s8) (defScope s8) d__law_text.body (defBody s8) = true := by decide +kernel
theorem Sc9 : FnScope N9 P9 (defScope s9) := ⟨rfl, rfl, rfl, by decide +kernel, rfl, by decide +kernel, by decide +kernel⟩
theorem c9 : chkSs T N9 (defScope s9) (defScope s9) d__law_is_words.body (defBody s9) = true := by decide +kernel
theorem Sc10 : FnScope N10 P10 (defScope s10) := ⟨rfl, rfl, rfl, by decide +kernel, rfl, by decide +kernel, by decide +kernel⟩
theorem c10 : chkSs T N10 (defScope s10) (defScope s10) d__law_is_told.body (defBody s10) = true := by decide +kernel
theorem Sc11 : FnScope N11 P11 (defScope s11) := ⟨rfl, rfl, rfl, by decide +kernel, rfl, by decide +kernel, by decide +kernel⟩
theorem c11 : chkSs T N11 (defScope s11) (defScope s11) d_law.body (defBody s11) = true := by decide +kernel
set_option maxHeartbeats 0 in
theorem all_mk {w : World} {K : PySem.W.Frag} {h : Heap} {mg : Str → Option Value} (X : K.In h) (G : h.Ns mainGlobals mg)
    {f0 f1 f2 f3 f4 f5 f6 f7 f8 f9 f10 f11 : Addr} {od0 an0 od1 an1 od2 an2 od3 an3 od4 an4 od5 an5 od6 an6 od7 an7 od8 an8 od9 an9 od10 an10 od11 an11 : Option Addr} {sl0 sl1 sl2 sl3 sl4 sl5 sl6 sl7 sl8 sl9 sl10 sl11 : Array (Option Value)} {oc0 kV0 dc0 pm0 cd0 ct0 oc1 kV1 dc1 pm1 cd1 ct1 oc2 kV2 dc2 pm2 cd2 ct2 oc3 kV3 dc3 pm3 cd3 ct3 oc4 kV4 dc4 pm4 cd4 ct4 oc5 kV5 dc5 pm5 cd5 ct5 oc6 kV6 dc6 pm6 cd6 ct6 oc7 kV7 dc7 pm7 cd7 ct7 oc8 kV8 dc8 pm8 cd8 ct8 oc9 kV9 dc9 pm9 cd9 ct9 oc10 kV10 dc10 pm10 cd10 ct10 oc11 kV11 dc11 pm11 cd11 ct11 : Value} {t0 t1 : Tok}
    (a0 : PySem.W.nsIn K mainGlobals "words_of_text" = some (some (.ref f0))) (l0 : K.lookup f0 = some ⟨oc0, od0, .func (PySem.W.fnOf "words_of_text" "words_of_text" (defArgs s0) (defBody s0) (defScope s0) .none kV0 dc0 pm0 an0 cd0 ct0), sl0⟩) (c0 : PySem.W.codeIn K cd0 "words_of_text" = true) (k0 : PySem.W.keepIn K (.ref f0) = true)
    (a1 : PySem.W.nsIn K mainGlobals "text_of_words" = some (some (.ref f1))) (l1 : K.lookup f1 = some ⟨oc1, od1, .func (PySem.W.fnOf "text_of_words" "text_of_words" (defArgs s1) (defBody s1) (defScope s1) .none kV1 dc1 pm1 an1 cd1 ct1), sl1⟩) (c1 : PySem.W.codeIn K cd1 "text_of_words" = true) (k1 : PySem.W.keepIn K (.ref f1) = true)
    (a2 : PySem.W.nsIn K mainGlobals "_law_mixed" = some (some (.ref f2))) (l2 : K.lookup f2 = some ⟨oc2, od2, .func (PySem.W.fnOf "_law_mixed" "_law_mixed" (defArgs s2) (defBody s2) (defScope s2) .none kV2 dc2 pm2 an2 cd2 ct2), sl2⟩) (c2 : PySem.W.codeIn K cd2 "_law_mixed" = true) (k2 : PySem.W.keepIn K (.ref f2) = true)
    (a3 : PySem.W.nsIn K mainGlobals "_law_digits" = some (some (.ref f3))) (l3 : K.lookup f3 = some ⟨oc3, od3, .func (PySem.W.fnOf "_law_digits" "_law_digits" (defArgs s3) (defBody s3) (defScope s3) .none kV3 dc3 pm3 an3 cd3 ct3), sl3⟩) (c3 : PySem.W.codeIn K cd3 "_law_digits" = true) (k3 : PySem.W.keepIn K (.ref f3) = true)
    (a4 : PySem.W.nsIn K mainGlobals "_law_signs" = some (some (.ref f4))) (l4 : K.lookup f4 = some ⟨oc4, od4, .func (PySem.W.fnOf "_law_signs" "_law_signs" (defArgs s4) (defBody s4) (defScope s4) .none kV4 dc4 pm4 an4 cd4 ct4), sl4⟩) (c4 : PySem.W.codeIn K cd4 "_law_signs" = true) (k4 : PySem.W.keepIn K (.ref f4) = true)
    (a5 : PySem.W.nsIn K mainGlobals "_law_whole" = some (some (.ref f5))) (l5 : K.lookup f5 = some ⟨oc5, od5, .func (PySem.W.fnOf "_law_whole" "_law_whole" (defArgs s5) (defBody s5) (defScope s5) .none kV5 dc5 pm5 an5 cd5 ct5), sl5⟩) (c5 : PySem.W.codeIn K cd5 "_law_whole" = true) (k5 : PySem.W.keepIn K (.ref f5) = true)
    (a6 : PySem.W.nsIn K mainGlobals "_law_spoilt" = some (some (.ref f6))) (l6 : K.lookup f6 = some ⟨oc6, od6, .func (PySem.W.fnOf "_law_spoilt" "_law_spoilt" (defArgs s6) (defBody s6) (defScope s6) .none kV6 dc6 pm6 an6 cd6 ct6), sl6⟩) (c6 : PySem.W.codeIn K cd6 "_law_spoilt" = true) (k6 : PySem.W.keepIn K (.ref f6) = true)
    (a7 : PySem.W.nsIn K mainGlobals "_law_numbers" = some (some (.ref f7))) (l7 : K.lookup f7 = some ⟨oc7, od7, .func (PySem.W.fnOf "_law_numbers" "_law_numbers" (defArgs s7) (defBody s7) (defScope s7) .none kV7 dc7 pm7 an7 cd7 ct7), sl7⟩) (c7 : PySem.W.codeIn K cd7 "_law_numbers" = true) (k7 : PySem.W.keepIn K (.ref f7) = true)
    (a8 : PySem.W.nsIn K mainGlobals "_law_text" = some (some (.ref f8))) (l8 : K.lookup f8 = some ⟨oc8, od8, .func (PySem.W.fnOf "_law_text" "_law_text" (defArgs s8) (defBody s8) (defScope s8) .none kV8 dc8 pm8 an8 cd8 ct8), sl8⟩) (c8 : PySem.W.codeIn K cd8 "_law_text" = true) (k8 : PySem.W.keepIn K (.ref f8) = true)
    (a9 : PySem.W.nsIn K mainGlobals "_law_is_words" = some (some (.ref f9))) (l9 : K.lookup f9 = some ⟨oc9, od9, .func (PySem.W.fnOf "_law_is_words" "_law_is_words" (defArgs s9) (defBody s9) (defScope s9) .none kV9 dc9 pm9 an9 cd9 ct9), sl9⟩) (c9 : PySem.W.codeIn K cd9 "_law_is_words" = true) (k9 : PySem.W.keepIn K (.ref f9) = true)
    (a10 : PySem.W.nsIn K mainGlobals "_law_is_told" = some (some (.ref f10))) (l10 : K.lookup f10 = some ⟨oc10, od10, .func (PySem.W.fnOf "_law_is_told" "_law_is_told" (defArgs s10) (defBody s10) (defScope s10) .none kV10 dc10 pm10 an10 cd10 ct10), sl10⟩) (c10 : PySem.W.codeIn K cd10 "_law_is_told" = true) (k10 : PySem.W.keepIn K (.ref f10) = true)
    (a11 : PySem.W.nsIn K mainGlobals "law" = some (some (.ref f11))) (l11 : K.lookup f11 = some ⟨oc11, od11, .func (PySem.W.fnOf "law" "law" (defArgs s11) (defBody s11) (defScope s11) .none kV11 dc11 pm11 an11 cd11 ct11), sl11⟩) (c11 : PySem.W.codeIn K cd11 "law" = true) (k11 : PySem.W.keepIn K (.ref f11) = true)
    (g0 : PySem.W.nsIn K mainGlobals "SIGNS" = some (some (.str " abcdefghijklmnopqrstuvwxyz0123456789[]()+-&<=" t0)))
    (g1 : PySem.W.nsIn K mainGlobals "NEW_ROW" = some (some (.int (0) t1)))
    (z_len : PySem.W.nsIn K mainGlobals "len" = some none)
    (z_abs : PySem.W.nsIn K mainGlobals "abs" = some none)
    (z_int : PySem.W.nsIn K mainGlobals "int" = some none)
    (z_str : PySem.W.nsIn K mainGlobals "str" = some none)
    (z_list : PySem.W.nsIn K mainGlobals "list" = some none)
    (z_tuple : PySem.W.nsIn K mainGlobals "tuple" = some none)
    (z_max : PySem.W.nsIn K mainGlobals "max" = some none)
    (z_min : PySem.W.nsIn K mainGlobals "min" = some none)
    (z_sum : PySem.W.nsIn K mainGlobals "sum" = some none)
    (z_all : PySem.W.nsIn K mainGlobals "all" = some none)
    (z_any : PySem.W.nsIn K mainGlobals "any" = some none)
    (z_sorted : PySem.W.nsIn K mainGlobals "sorted" = some none)
    (z_isinstance : PySem.W.nsIn K mainGlobals "isinstance" = some none)
    (z_range : PySem.W.nsIn K mainGlobals "range" = some none)
    (z_enumerate : PySem.W.nsIn K mainGlobals "enumerate" = some none)
    (z_zip : PySem.W.nsIn K mainGlobals "zip" = some none)
    (z_reversed : PySem.W.nsIn K mainGlobals "reversed" = some none)
    (z_bool : PySem.W.nsIn K mainGlobals "bool" = some none)
    (z_dict : PySem.W.nsIn K mainGlobals "dict" = some none)
    : ProgOk K mg T ds gl ∧ (mg "law" = some (.ref f11) ∧ DefC K T d_law f11 (PySem.W.fnOf "law" "law" (defArgs s11) (defBody s11) (defScope s11) .none kV11 dc11 pm11 an11 cd11 ct11) P11) := by
  have D0 := mkC (x := "words_of_text") (qual := "words_of_text") (d := d_words_of_text) (T := T) X l0 c0 k0 Sc0 Kx.c0 rfl rfl (by decide +kernel) (fun _ _ _ _ _ _ us hl => match us, hl with | [_], _ => rfl)
  have D1 := mkC (x := "text_of_words") (qual := "text_of_words") (d := d_text_of_words) (T := T) X l1 c1 k1 Sc1 Kx.c1 rfl rfl (by decide +kernel) (fun _ _ _ _ _ _ us hl => match us, hl with | [_], _ => rfl)
  have D2 := mkC (x := "_law_mixed") (qual := "_law_mixed") (d := d__law_mixed) (T := T) X l2 c2 k2 Sc2 Kx.c2 rfl rfl (by decide +kernel) (fun _ _ _ _ _ _ us hl => match us, hl with | [_, _], _ => rfl)
  have D3 := mkC (x := "_law_digits") (qual := "_law_digits") (d := d__law_digits) (T := T) X l3 c3 k3 Sc3 Kx.c3 rfl rfl (by decide +kernel) (fun _ _ _ _ _ _ us hl => match us, hl with | [_], _ => rfl)
  have D4 := mkC (x := "_law_signs") (qual := "_law_signs") (d := d__law_signs) (T := T) X l4 c4 k4 Sc4 Kx.c4 rfl rfl (by decide +kernel) (fun _ _ _ _ _ _ us hl => match us, hl with | [], _ => rfl)
  have D5 := mkC (x := "_law_whole") (qual := "_law_whole") (d := d__law_whole) (T := T) X l5 c5 k5 Sc5 Kx.c5 rfl rfl (by decide +kernel) (fun _ _ _ _ _ _ us hl => match us, hl with | [_], _ => rfl)
  have D6 := mkC (x := "_law_spoilt") (qual := "_law_spoilt") (d := d__law_spoilt) (T := T) X l6 c6 k6 Sc6 Kx.c6 rfl rfl (by decide +kernel) (fun _ _ _ _ _ _ us hl => match us, hl with | [_, _, _], _ => rfl)
  have D7 := mkC (x := "_law_numbers") (qual := "_law_numbers") (d := d__law_numbers) (T := T) X l7 c7 k7 Sc7 Kx.c7 rfl rfl (by decide +kernel) (fun _ _ _ _ _ _ us hl => match us, hl with | [_], _ => rfl)
  have D8 := mkC (x := "_law_text") (qual := "_law_text") (d := d__law_text) (T := T) X l8 c8 k8 Sc8 Kx.c8 rfl rfl (by decide +kernel) (fun _ _ _ _ _ _ us hl => match us, hl with | [_], _ => rfl)
  have D9 := mkC (x := "_law_is_words") (qual := "_law_is_words") (d := d__law_is_words) (T := T) X l9 c9 k9 Sc9 Kx.c9 rfl rfl (by decide +kernel) (fun _ _ _ _ _ _ us hl => match us, hl with | [_, _], _ => rfl)
  have D10 := mkC (x := "_law_is_told") (qual := "_law_is_told") (d := d__law_is_told) (T := T) X l10 c10 k10 Sc10 Kx.c10 rfl rfl (by decide +kernel) (fun _ _ _ _ _ _ us hl => match us, hl with | [_, _], _ => rfl)
  have D11 := mkC (x := "law") (qual := "law") (d := d_law) (T := T) X l11 c11 k11 Sc11 Kx.c11 rfl rfl (by decide +kernel) (fun _ _ _ _ _ _ us hl => match us, hl with | [_], _ => rfl)
  refine ⟨⟨fun f x h => ?_, fun cl m f h => (by cases h), fun cl f h => (by cases h), fun cl f h => (by cases h), fun g x p h1 h2 => ?_, ⟨fun b => ?_, PySem.W.mg_none_of X G z_isinstance, PySem.W.mg_none_of X G z_range, PySem.W.mg_none_of X G z_enumerate, PySem.W.mg_none_of X G z_zip, PySem.W.mg_none_of X G z_reversed, fun t => ?_⟩⟩, PySem.W.mg_of X G a11, D11⟩
  · match f, h with
    | 0, h => cases h; exact ⟨_, _, _, _, rfl, PySem.W.mg_of X G a0, D0⟩
    | 1, h => cases h; exact ⟨_, _, _, _, rfl, PySem.W.mg_of X G a1, D1⟩
    | 2, h => cases h; exact ⟨_, _, _, _, rfl, PySem.W.mg_of X G a2, D2⟩
    | 3, h => cases h; exact ⟨_, _, _, _, rfl, PySem.W.mg_of X G a3, D3⟩
    | 4, h => cases h; exact ⟨_, _, _, _, rfl, PySem.W.mg_of X G a4, D4⟩
    | 5, h => cases h; exact ⟨_, _, _, _, rfl, PySem.W.mg_of X G a5, D5⟩
    | 6, h => cases h; exact ⟨_, _, _, _, rfl, PySem.W.mg_of X G a6, D6⟩
    | 7, h => cases h; exact ⟨_, _, _, _, rfl, PySem.W.mg_of X G a7, D7⟩
    | 8, h => cases h; exact ⟨_, _, _, _, rfl, PySem.W.mg_of X G a8, D8⟩
    | 9, h => cases h; exact ⟨_, _, _, _, rfl, PySem.W.mg_of X G a9, D9⟩
    | 10, h => cases h; exact ⟨_, _, _, _, rfl, PySem.W.mg_of X G a10, D10⟩
    | 11, h => cases h; exact ⟨_, _, _, _, rfl, PySem.W.mg_of X G a11, D11⟩
    | n + 12, h => cases h
  · match g, h1, h2 with
    | 0, h1, h2 => cases h1; cases h2; exact mkS X G g0
    | 1, h1, h2 => cases h1; cases h2; exact mkI X G g1
    | n + 2, h1, h2 => cases h1
  · cases b
    · exact PySem.W.mg_none_of X G z_len
    · exact PySem.W.mg_none_of X G z_abs
    · exact PySem.W.mg_none_of X G z_int
    · exact PySem.W.mg_none_of X G z_str
    · exact PySem.W.mg_none_of X G z_list
    · exact PySem.W.mg_none_of X G z_tuple
    · exact PySem.W.mg_none_of X G z_max
    · exact PySem.W.mg_none_of X G z_min
    · exact PySem.W.mg_none_of X G z_sum
    · exact PySem.W.mg_none_of X G z_all
    · exact PySem.W.mg_none_of X G z_any
    · exact PySem.W.mg_none_of X G z_sorted
    · exact PySem.W.mg_none_of X G z_dict
  · cases t
    · exact PySem.W.mg_none_of X G z_int
    · exact PySem.W.mg_none_of X G z_bool
    · exact PySem.W.mg_none_of X G z_str
    · exact PySem.W.mg_none_of X G z_list
    · exact PySem.W.mg_none_of X G z_tuple
    · exact PySem.W.mg_none_of X G z_dict
end Kx
set_option maxRecDepth 100000
/-! nets of nand gates, all worlds at once and one by one -/
namespace G
open PySem L2
def nl (ns : List Nat) : List P := ns.map fun (n : Nat) => .int (n : Int)
@[simp] theorem nl_nil : nl [] = [] := rfl
@[simp] theorem nl_cons (n : Nat) (ns : List Nat) : nl (n :: ns) = .int n :: nl ns := rfl
@[simp] theorem nl_len (ns : List Nat) : (nl ns).length = ns.length := List.length_map ..
theorem nl_app (a b : List Nat) : nl (a ++ b) = nl a ++ nl b := List.map_append ..
theorem nl_il (ns : List Nat) : nl ns = il (ns.map Int.ofNat) := by
  unfold nl il
  rw [List.map_map]
  rfl
theorem nl_at (ns : List Nat) (i : Nat) (h : i < ns.length) : atI (nl ns) (i : Int) = some (.int (ns.getD i 0 : Nat)) := by
  rw [atI_nat]
  unfold nl
  rw [List.getElem?_map, List.getElem?_eq_getElem h, List.getD_eq_getElem?_getD, List.getElem?_eq_getElem h]
  rfl
theorem nl_lay (ns : List Nat) : PyData.canLayAll0 (nl ns) = true := by
  rw [nl_il]
  exact il_lay _
theorem nl_deep (ns : List Nat) : PyData.depthAll (nl ns) = 0 := by
  rw [nl_il]
  exact il_deep _
theorem nl_cln (ns : List Nat) : clnPs (nl ns) = true := by
  rw [nl_il]
  exact il_cln _
abbrev Gs := List (Nat × Nat)
def gsP (gs : Gs) : List P := gs.map fun g => .tuple [.int (g.1 : Int), .int (g.2 : Int)]
theorem gsP_lay : ∀ gs : Gs, PyData.canLayAll0 (gsP gs) = true
  | [] => rfl
  | g :: gs => by
    have ih := gsP_lay gs
    unfold gsP at *
    simp [PyData.canLayAll0, PyData.canLay0, ih]
theorem gsP_deep : ∀ gs : Gs, PyData.depthAll (gsP gs) ≤ 1
  | [] => by simp [gsP, PyData.depthAll]
  | g :: gs => by
    have ih := gsP_deep gs
    unfold gsP at *
    simp [PyData.depthAll, PyData.depth]
    omega
/-- each gate stands behind what it is made of -/
def okG : Nat → Gs → Prop
  | _, [] => True
  | n, g :: gs => g.1 < n ∧ g.2 < n ∧ okG (n + 1) gs
def bigW (w : Nat) : Gs → List Nat → List Nat
  | [], ws => ws
  | g :: gs, ws => bigW w gs (ws ++ [2 ^ w - 1 - (ws.getD g.1 0 &&& ws.getD g.2 0)])
def oneW : Gs → List Nat → List Nat
  | [], ws => ws
  | g :: gs, ws => oneW gs (ws ++ [1 - ws.getD g.1 0 * ws.getD g.2 0])
theorem bigW_len (w : Nat) : ∀ (gs : Gs) (ws : List Nat), (bigW w gs ws).length = ws.length + gs.length
  | [], ws => rfl
  | g :: gs, ws => by
    rw [bigW, bigW_len w gs, List.length_append, List.length_cons, List.length_cons, List.length_nil]
    omega
theorem oneW_len : ∀ (gs : Gs) (ws : List Nat), (oneW gs ws).length = ws.length + gs.length
  | [], ws => rfl
  | g :: gs, ws => by
    rw [oneW, oneW_len gs, List.length_append, List.length_cons, List.length_cons, List.length_nil]
    omega
theorem getD_lt {w : Nat} {ws : List Nat} (h : ∀ v ∈ ws, v < 2 ^ w) (i : Nat) : ws.getD i 0 < 2 ^ w := by
  rw [List.getD_eq_getElem?_getD]
  cases z : ws[i]? with
  | none => exact Nat.two_pow_pos w
  | some v => exact h v (List.mem_of_getElem? z)
theorem bigW_lt (w : Nat) : ∀ (gs : Gs) (ws : List Nat), (∀ v ∈ ws, v < 2 ^ w) → ∀ v ∈ bigW w gs ws, v < 2 ^ w
  | [], ws, h => h
  | g :: gs, ws, h => by
    rw [bigW]
    refine bigW_lt w gs _ fun v hv => ?_
    rcases List.mem_append.mp hv with z | z
    · exact h v z
    · have := Nat.two_pow_pos w
      simp at z
      omega
theorem getD_bt (ws : List Nat) (k i : Nat) : (ws.map fun v => bt2 v k).getD i 0 = bt2 (ws.getD i 0) k := by
  rw [List.getD_eq_getElem?_getD, List.getD_eq_getElem?_getD, List.getElem?_map]
  cases ws[i]? with
  | none => simp [bt2]
  | some v => rfl
/-- one world of all -/
theorem one_of_big {w k : Nat} (hk : k < w) : ∀ (gs : Gs) (ws : List Nat), (∀ v ∈ ws, v < 2 ^ w) → oneW gs (ws.map fun v => bt2 v k) = (bigW w gs ws).map fun v => bt2 v k
  | [], ws, h => rfl
  | g :: gs, ws, h => by
    rw [oneW, bigW, getD_bt, getD_bt, ← bt2_nand (getD_lt h g.1) hk]
    have e : (ws.map fun v => bt2 v k) ++ [bt2 (2 ^ w - 1 - (ws.getD g.1 0 &&& ws.getD g.2 0)) k] = (ws ++ [2 ^ w - 1 - (ws.getD g.1 0 &&& ws.getD g.2 0)]).map fun v => bt2 v k := by
      rw [List.map_append]
      rfl
    rw [e]
    refine one_of_big hk gs _ fun v hv => ?_
    rcases List.mem_append.mp hv with z | z
    · exact h v z
    · have := Nat.two_pow_pos w
      simp at z
      omega
end G

set_option maxRecDepth 100000
/-! worlds put into another order -/
namespace G
open PySem L2
theorem or_xor_and : ∀ (a b : Nat), a ||| b = (a ^^^ b) + (a &&& b) := by
  intro a
  induction a using Nat.strongRecOn with
  | _ a ih =>
    intro b
    by_cases h0 : a = 0
    · subst h0
      simp
    · have h := ih (a / 2) (by omega) (b / 2)
      have e1 : (a ||| b) / 2 = a / 2 ||| b / 2 := Nat.or_div_two
      have e2 : (a &&& b) / 2 = a / 2 &&& b / 2 := Nat.and_div_two
      have e3 : (a ^^^ b) / 2 = a / 2 ^^^ b / 2 := Nat.xor_div_two
      have m1 : (a ||| b) % 2 = (a % 2 ||| b % 2) := Nat.or_mod_two_pow (n := 1)
      have m2 : (a &&& b) % 2 = (a % 2 &&& b % 2) := Nat.and_mod_two_pow (n := 1)
      have m3 : (a ^^^ b) % 2 = (a % 2 ^^^ b % 2) := Nat.xor_mod_two_pow (n := 1)
      have ka : a % 2 = 0 ∨ a % 2 = 1 := by omega
      have kb : b % 2 = 0 ∨ b % 2 = 1 := by omega
      rcases ka with ka | ka <;> rcases kb with kb | kb <;> (rw [ka, kb] at m1 m2 m3; simp only [Nat.reduceOr, Nat.reduceAnd, Nat.reduceXor, Nat.or_self, Nat.and_self, Nat.xor_self, Nat.zero_or, Nat.or_zero, Nat.zero_and, Nat.and_zero, Nat.zero_xor, Nat.xor_zero] at m1 m2 m3; omega)
theorem xor_nat (x y : Nat) : Builtin.bitXor (x : Int) (y : Int) = ((x ^^^ y : Nat) : Int) := by
  unfold Builtin.bitXor
  rw [or_nat, and_nat, or_xor_and]
  omega
theorem bt2_xor (x y k : Nat) : bt2 (x ^^^ y) k = (bt2 x k + bt2 y k) % 2 := by
  rw [bt2_t, bt2_t, bt2_t, Nat.testBit_xor]
  cases x.testBit k <;> cases y.testBit k <;> rfl
theorem bt2_pow (a k : Nat) : bt2 (2 ^ a) k = if a = k then 1 else 0 := by
  rw [bt2_t, Nat.testBit_two_pow]
  by_cases h : a = k <;> simp [h]
theorem eq_of_bt2 {w x y : Nat} (hx : x < 2 ^ w) (hy : y < 2 ^ w) (h : ∀ k, k < w → bt2 x k = bt2 y k) : x = y := by
  rw [← ofB_all hx, ← ofB_all hy]
  have : ∀ n, n ≤ w → ofB (bt2 x) n = ofB (bt2 y) n := by
    intro n
    induction n with
    | zero => intro _; rfl
    | succ n ih =>
      intro hn
      rw [ofB, ofB, ih (by omega), h n (by omega)]
  exact this w (Nat.le_refl w)
theorem ofB_lt {f : Nat → Nat} (h : ∀ k, f k < 2) : ∀ n, ofB f n < 2 ^ n
  | 0 => by simp [ofB]
  | n + 1 => by
    have := ofB_lt h n
    have := h n
    rw [ofB, Nat.pow_succ]
    have : f n = 0 ∨ f n = 1 := by omega
    rcases this with e | e <;> rw [e] <;> omega
theorem bt2_ofB {f : Nat → Nat} (h : ∀ k, f k < 2) : ∀ (n k : Nat), k < n → bt2 (ofB f n) k = f k
  | 0, k, hk => by omega
  | n + 1, k, hk => by
    have hl := ofB_lt h n
    rw [ofB]
    by_cases e : k = n
    · subst e
      unfold bt2
      rw [Nat.add_mul_div_right _ _ (Nat.two_pow_pos k), Nat.div_eq_of_lt hl]
      have := h k
      omega
    · have hk' : k < n := by omega
      have ih := bt2_ofB h n k hk'
      rw [← ih]
      unfold bt2
      have hp : 2 ^ n = 2 ^ k * (2 * 2 ^ (n - k - 1)) := by
        rw [← Nat.pow_succ', ← Nat.pow_add]
        congr 1
        omega
      have hq : f n * 2 ^ n = 2 ^ k * (2 * (2 ^ (n - k - 1) * f n)) := by
        rw [hp, Nat.mul_comm (f n), Nat.mul_assoc, Nat.mul_assoc]
      rw [hq, Nat.add_mul_div_left _ _ (Nat.two_pow_pos k), Nat.add_mul_mod_self_left]
/-- the worlds of order, one behind the other -/
def pick (order : List Nat) (v : Nat) : Nat := ofB (fun k => bt2 v (order.getD k 0)) order.length
theorem pick_lt (order : List Nat) (v : Nat) : pick order v < 2 ^ order.length := ofB_lt (fun k => bt2_lt _ _) _
theorem bt2_pick (order : List Nat) (v k : Nat) (h : k < order.length) : bt2 (pick order v) k = bt2 v (order.getD k 0) := bt2_ofB (fun k => bt2_lt _ _) _ _ h
theorem oneW_bt (gs : Gs) (ws : List Nat) (h : ∀ v ∈ ws, v < 2) : ∀ v ∈ oneW gs ws, v < 2 := by
  induction gs generalizing ws with
  | nil => exact h
  | cons g gs ih =>
    rw [oneW]
    refine ih _ fun v hv => ?_
    rcases List.mem_append.mp hv with z | z
    · exact h v z
    · simp at z
      omega
/-- all wires of a net in the worlds of order -/
theorem bigW_pick {w : Nat} (gs : Gs) (ws : List Nat) (hw : ∀ v ∈ ws, v < 2 ^ w) (order : List Nat) (ho : ∀ k ∈ order, k < w) (ws' : List Nat) (hl : ws'.length = ws.length) (hw' : ∀ v ∈ ws', v < 2 ^ order.length)
    (h : ∀ k, k < order.length → (ws'.map fun v => bt2 v k) = ws.map fun v => bt2 v (order.getD k 0)) (n : Nat) : (bigW order.length gs ws').getD n 0 = pick order ((bigW w gs ws).getD n 0) := by
  refine eq_of_bt2 (getD_lt (bigW_lt _ gs ws' hw') n) (pick_lt _ _) fun k hk => ?_
  have hok : order.getD k 0 < w := by
    rw [List.getD_eq_getElem?_getD, List.getElem?_eq_getElem hk]
    exact ho _ (List.getElem_mem hk)
  rw [bt2_pick _ _ _ hk, ← getD_bt, ← getD_bt, ← one_of_big hk gs ws' hw', ← one_of_big hok gs ws hw, h k hk]
theorem ofB_ext {f g : Nat → Nat} : ∀ n, (∀ k, k < n → f k = g k) → ofB f n = ofB g n
  | 0, _ => rfl
  | n + 1, h => by
    rw [ofB, ofB, ofB_ext n fun k hk => h k (by omega), h n (by omega)]
/-- two numbers alike in all worlds but one -/
theorem xor_one {w a x y : Nat} (hx : x < 2 ^ w) (hy : y < 2 ^ w) (ha : a < w) (h : ∀ k, k < w → k ≠ a → bt2 x k = bt2 y k) : x ^^^ y = 0 ∨ x ^^^ y = 2 ^ a := by
  have hlt : x ^^^ y < 2 ^ w := Nat.xor_lt_two_pow hx hy
  have hp : 2 ^ a < 2 ^ w := Nat.pow_lt_pow_right (by omega) ha
  have b1 := bt2_lt x a
  have b2 := bt2_lt y a
  by_cases e : bt2 x a = bt2 y a
  · left
    refine eq_of_bt2 hlt (Nat.two_pow_pos w) fun k hk => ?_
    rw [bt2_xor]
    have z : bt2 0 k = 0 := by simp [bt2]
    rw [z]
    by_cases hka : k = a
    · subst hka
      omega
    · have := h k hk hka
      omega
  · right
    refine eq_of_bt2 hlt hp fun k hk => ?_
    rw [bt2_xor, bt2_pow]
    by_cases hka : a = k
    · subst hka
      rw [if_pos rfl]
      omega
    · have := h k hk (fun z => hka z.symm)
      rw [if_neg hka]
      omega
end G

set_option maxRecDepth 100000
/-! what a maker's gates make of wires -/
namespace G
open PySem L2
def nd (w a b : Nat) : Nat := 2 ^ w - 1 - (a &&& b)
theorem nd_lt (w a b : Nat) : nd w a b < 2 ^ w := by
  have := Nat.two_pow_pos w
  unfold nd
  omega
theorem nd_bit {w a b k : Nat} (ha : a < 2 ^ w) : (nd w a b).testBit k = (decide (k < w) && !(a.testBit k && b.testBit k)) := by
  have hm : (a &&& b) < 2 ^ w := Nat.lt_of_le_of_lt Nat.and_le_left ha
  unfold nd
  rw [show 2 ^ w - 1 - (a &&& b) = 2 ^ w - ((a &&& b) + 1) by omega, Nat.testBit_two_pow_sub_succ hm, Nat.testBit_and]
theorem bit_hi {w a k : Nat} (ha : a < 2 ^ w) (hk : ¬ k < w) : a.testBit k = false := Nat.testBit_lt_two_pow (Nat.lt_of_lt_of_le ha (Nat.pow_le_pow_right (by omega) (by omega)))
theorem nd_and {w a b : Nat} (ha : a < 2 ^ w) (hb : b < 2 ^ w) : nd w (nd w a b) (nd w a b) = a &&& b := by
  apply Nat.eq_of_testBit_eq
  intro k
  rw [nd_bit (nd_lt ..), nd_bit ha, Nat.testBit_and]
  by_cases hk : k < w
  · cases a.testBit k <;> cases b.testBit k <;> simp [hk]
  · rw [bit_hi ha hk]
    simp [hk]
theorem nd_or {w a b : Nat} (ha : a < 2 ^ w) (hb : b < 2 ^ w) : nd w (nd w a a) (nd w b b) = a ||| b := by
  apply Nat.eq_of_testBit_eq
  intro k
  rw [nd_bit (nd_lt ..), nd_bit ha, nd_bit hb, Nat.testBit_or]
  by_cases hk : k < w
  · cases a.testBit k <;> cases b.testBit k <;> simp [hk]
  · rw [bit_hi ha hk, bit_hi hb hk]
    simp [hk]
theorem nd_xor {w a b : Nat} (ha : a < 2 ^ w) (hb : b < 2 ^ w) : nd w (nd w a (nd w a b)) (nd w b (nd w a b)) = a ^^^ b := by
  apply Nat.eq_of_testBit_eq
  intro k
  rw [nd_bit (nd_lt ..), nd_bit ha, nd_bit hb, nd_bit ha, Nat.testBit_xor]
  by_cases hk : k < w
  · cases a.testBit k <;> cases b.testBit k <;> simp [hk]
  · rw [bit_hi ha hk, bit_hi hb hk]
    simp [hk]
theorem nd_chosen {w c a b : Nat} (hc : c < 2 ^ w) (ha : a < 2 ^ w) (hb : b < 2 ^ w) : nd w (nd w c a) (nd w (nd w c c) b) = (c &&& a) ||| (((2 ^ w - 1) ^^^ c) &&& b) := by
  apply Nat.eq_of_testBit_eq
  intro k
  rw [nd_bit (nd_lt ..), nd_bit hc, nd_bit (nd_lt ..), nd_bit hc, Nat.testBit_or, Nat.testBit_and, Nat.testBit_and, Nat.testBit_xor, Nat.testBit_two_pow_sub_one]
  by_cases hk : k < w
  · cases a.testBit k <;> cases b.testBit k <;> cases c.testBit k <;> simp [hk]
  · rw [bit_hi ha hk, bit_hi hb hk, bit_hi hc hk]
    simp [hk]
theorem nd_ones {w a : Nat} (ha : a < 2 ^ w) (b : Nat) : (2 ^ w - 1) ^^^ (a &&& b) = nd w a b := by
  apply Nat.eq_of_testBit_eq
  intro k
  rw [nd_bit ha, Nat.testBit_xor, Nat.testBit_and, Nat.testBit_two_pow_sub_one]
  by_cases hk : k < w
  · simp [hk]
  · rw [bit_hi ha hk]
    simp [hk]
theorem nd_other {w a : Nat} (ha : a < 2 ^ w) : (2 ^ w - 1) ^^^ a = nd w a a := by
  have := nd_ones ha a
  rw [Nat.and_self] at this
  exact this
/-- a wire's value -/
def wv (w : Nat) (gs : Gs) (ws : List Nat) (n : Nat) : Nat := (bigW w gs ws).getD n 0
theorem bigW_app (w : Nat) : ∀ (gs hs : Gs) (ws : List Nat), bigW w (gs ++ hs) ws = bigW w hs (bigW w gs ws)
  | [], hs, ws => rfl
  | g :: gs, hs, ws => by rw [List.cons_append, bigW, bigW_app w gs hs, bigW]
theorem wv_old {w : Nat} {gs : Gs} {ws : List Nat} {g : Nat × Nat} {n : Nat} (h : n < ws.length + gs.length) : wv w (gs ++ [g]) ws n = wv w gs ws n := by
  unfold wv
  rw [bigW_app, bigW, bigW, List.getD_eq_getElem?_getD, List.getD_eq_getElem?_getD, List.getElem?_append_left (by rw [bigW_len]; exact h)]
  rfl
theorem wv_new {w : Nat} {gs : Gs} {ws : List Nat} {g : Nat × Nat} : wv w (gs ++ [g]) ws (ws.length + gs.length) = nd w (wv w gs ws g.1) (wv w gs ws g.2) := by
  have e : (bigW w gs ws).length = ws.length + gs.length := bigW_len w gs ws
  unfold wv
  rw [bigW_app, bigW, bigW, List.getD_eq_getElem?_getD, ← e, List.getElem?_append_right (Nat.le_refl _), Nat.sub_self]
  rfl
theorem wv_lt {w : Nat} {gs : Gs} {ws : List Nat} (h : ∀ v ∈ ws, v < 2 ^ w) (n : Nat) : wv w gs ws n < 2 ^ w := getD_lt (bigW_lt w gs ws h) n
theorem okG_app' : ∀ (n : Nat) (gs : Gs) (g : Nat × Nat), okG n gs → g.1 < n + gs.length → g.2 < n + gs.length → okG n (gs ++ [g])
  | n, [], g, _, h1, h2 => ⟨by simpa using h1, by simpa using h2, trivial⟩
  | n, x :: gs, g, h, h1, h2 => ⟨h.1, h.2.1, okG_app' (n + 1) gs g h.2.2 (by rw [List.length_cons] at h1; omega) (by rw [List.length_cons] at h2; omega)⟩
theorem okG_at : ∀ {n : Nat} {gs : Gs} {j : Nat} {g : Nat × Nat}, okG n gs → gs[j]? = some g → g.1 < n + j ∧ g.2 < n + j
  | n, [], j, g, _, h => by simp at h
  | n, x :: gs, 0, g, h, e => by
    simp at e
    subst e
    exact ⟨by have := h.1; omega, by have := h.2.1; omega⟩
  | n, x :: gs, j + 1, g, h, e => by
    have := okG_at (n := n + 1) h.2.2 (by simpa using e)
    omega
/-- the maker's deeds: the gates then, and the wire -/
abbrev Mr := Gs × Nat
def nandM (l : Nat) (gs : Gs) (a b : Nat) : Mr := (gs ++ [(a, b)], l + gs.length)
def otherM (l : Nat) (gs : Gs) (a : Nat) : Mr := nandM l gs a a
def bothM (l : Nat) (gs : Gs) (a b : Nat) : Mr := otherM l (nandM l gs a b).1 (nandM l gs a b).2
def eitherM (l : Nat) (gs : Gs) (a b : Nat) : Mr := nandM l (otherM l (otherM l gs a).1 b).1 (otherM l gs a).2 (otherM l (otherM l gs a).1 b).2
def unlikeM (l : Nat) (gs : Gs) (a b : Nat) : Mr :=
  nandM l (nandM l (nandM l (nandM l gs a b).1 a (nandM l gs a b).2).1 b (nandM l gs a b).2).1 (nandM l (nandM l gs a b).1 a (nandM l gs a b).2).2 (nandM l (nandM l (nandM l gs a b).1 a (nandM l gs a b).2).1 b (nandM l gs a b).2).2
def chosenM (l : Nat) (gs : Gs) (c a b : Nat) : Mr :=
  nandM l (nandM l (otherM l (nandM l gs c a).1 c).1 (otherM l (nandM l gs c a).1 c).2 b).1 (nandM l gs c a).2 (nandM l (otherM l (nandM l gs c a).1 c).1 (otherM l (nandM l gs c a).1 c).2 b).2
/-- r has come of gs by at most m gates, and its wire is worth v -/
def Mks (w : Nat) (ws : List Nat) (gs : Gs) (r : Mr) (v m : Nat) : Prop := okG ws.length r.1 ∧ (∀ n, n < ws.length + gs.length → wv w r.1 ws n = wv w gs ws n) ∧ gs.length ≤ r.1.length ∧ r.1.length ≤ gs.length + m ∧ r.2 < ws.length + r.1.length ∧ wv w r.1 ws r.2 = v
section
variable {w : Nat} {ws : List Nat} {gs : Gs} {a b c : Nat}
theorem nand_mk (ok : okG ws.length gs) (ha : a < ws.length + gs.length) (hb : b < ws.length + gs.length) : Mks w ws gs (nandM ws.length gs a b) (nd w (wv w gs ws a) (wv w gs ws b)) 1 :=
  ⟨okG_app' _ gs (a, b) ok ha hb, fun n hn => wv_old hn, by simp [nandM], by simp [nandM], by simp [nandM], wv_new⟩
theorem other_mk (ok : okG ws.length gs) (ha : a < ws.length + gs.length) : Mks w ws gs (otherM ws.length gs a) (nd w (wv w gs ws a) (wv w gs ws a)) 1 := nand_mk ok ha ha
theorem both_mk (hw : ∀ v ∈ ws, v < 2 ^ w) (ok : okG ws.length gs) (ha : a < ws.length + gs.length) (hb : b < ws.length + gs.length) : Mks w ws gs (bothM ws.length gs a b) (wv w gs ws a &&& wv w gs ws b) 2 := by
  unfold bothM
  obtain ⟨o1, p1, l1, m1, n1, v1⟩ := nand_mk (w := w) ok ha hb
  obtain ⟨o2, p2, l2, m2, n2, v2⟩ := other_mk (w := w) o1 n1
  exact ⟨o2, fun n hn => (p2 n (by omega)).trans (p1 n hn), by omega, by omega, n2, by rw [v2, v1, nd_and (wv_lt hw _) (wv_lt hw _)]⟩
theorem either_mk (hw : ∀ v ∈ ws, v < 2 ^ w) (ok : okG ws.length gs) (ha : a < ws.length + gs.length) (hb : b < ws.length + gs.length) : Mks w ws gs (eitherM ws.length gs a b) (wv w gs ws a ||| wv w gs ws b) 3 := by
  unfold eitherM
  obtain ⟨o1, p1, l1, m1, n1, v1⟩ := other_mk (w := w) ok ha
  obtain ⟨o2, p2, l2, m2, n2, v2⟩ := other_mk (w := w) (a := b) o1 (by omega)
  obtain ⟨o3, p3, l3, m3, n3, v3⟩ := nand_mk (w := w) (a := (otherM ws.length gs a).2) o2 (by omega) n2
  exact ⟨o3, fun n hn => ((p3 n (by omega)).trans (p2 n (by omega))).trans (p1 n hn), by omega, by omega, n3, by rw [v3, v2, p2 _ n1, v1, p1 _ hb, nd_or (wv_lt hw _) (wv_lt hw _)]⟩
theorem unlike_mk (hw : ∀ v ∈ ws, v < 2 ^ w) (ok : okG ws.length gs) (ha : a < ws.length + gs.length) (hb : b < ws.length + gs.length) : Mks w ws gs (unlikeM ws.length gs a b) (wv w gs ws a ^^^ wv w gs ws b) 4 := by
  unfold unlikeM
  obtain ⟨o1, p1, l1, m1, n1, v1⟩ := nand_mk (w := w) ok ha hb
  obtain ⟨o2, p2, l2, m2, n2, v2⟩ := nand_mk (w := w) (a := a) o1 (by omega) n1
  obtain ⟨o3, p3, l3, m3, n3, v3⟩ := nand_mk (w := w) (a := b) (b := (nandM ws.length gs a b).2) o2 (by omega) (by omega)
  obtain ⟨o4, p4, l4, m4, n4, v4⟩ := nand_mk (w := w) (a := (nandM ws.length (nandM ws.length gs a b).1 a (nandM ws.length gs a b).2).2) o3 (by omega) n3
  exact ⟨o4, fun n hn => (((p4 n (by omega)).trans (p3 n (by omega))).trans (p2 n (by omega))).trans (p1 n hn), by omega, by omega, n4, by
    rw [v4, v3, p3 _ n2, v2, p2 _ n1, p2 _ (by omega), p1 _ ha, p1 _ hb, v1, nd_xor (wv_lt hw _) (wv_lt hw _)]⟩
theorem chosen_mk (hw : ∀ v ∈ ws, v < 2 ^ w) (ok : okG ws.length gs) (hc : c < ws.length + gs.length) (ha : a < ws.length + gs.length) (hb : b < ws.length + gs.length) : Mks w ws gs (chosenM ws.length gs c a b) ((wv w gs ws c &&& wv w gs ws a) ||| (((2 ^ w - 1) ^^^ wv w gs ws c) &&& wv w gs ws b)) 4 := by
  unfold chosenM
  obtain ⟨o1, p1, l1, m1, n1, v1⟩ := nand_mk (w := w) ok hc ha
  obtain ⟨o2, p2, l2, m2, n2, v2⟩ := other_mk (w := w) (a := c) o1 (by omega)
  obtain ⟨o3, p3, l3, m3, n3, v3⟩ := nand_mk (w := w) (b := b) o2 n2 (by omega)
  obtain ⟨o4, p4, l4, m4, n4, v4⟩ := nand_mk (w := w) (a := (nandM ws.length gs c a).2) o3 (by omega) n3
  exact ⟨o4, fun n hn => (((p4 n (by omega)).trans (p3 n (by omega))).trans (p2 n (by omega))).trans (p1 n hn), by omega, by omega, n4, by
    rw [v4, v3, p3 _ (by omega), p2 _ n1, v1, v2, p2 _ (by omega), p1 _ hc, p1 _ hb, nd_chosen (wv_lt hw _) (wv_lt hw _) (wv_lt hw _)]⟩
end
end G

set_option maxRecDepth 100000
/-! what picked makes of wires -/
namespace G
open PySem L2
theorem nd_orand {w a b c : Nat} (ha : a < 2 ^ w) (hb : b < 2 ^ w) : nd w (nd w a a) (nd w b c) = a ||| (b &&& c) := by
  apply Nat.eq_of_testBit_eq
  intro k
  rw [nd_bit (nd_lt ..), nd_bit ha, nd_bit hb, Nat.testBit_or, Nat.testBit_and]
  by_cases hk : k < w
  · cases a.testBit k <;> cases b.testBit k <;> cases c.testBit k <;> simp [hk]
  · rw [bit_hi ha hk, bit_hi hb hk]
    simp [hk]
def pickM (l : Nat) (gs : Gs) (which a b : Nat) : Mr := nandM l (nandM l (otherM l gs a).1 which b).1 (otherM l gs a).2 (nandM l (otherM l gs a).1 which b).2
theorem pick_mk {w : Nat} {ws : List Nat} {gs : Gs} {which a b : Nat} (hw : ∀ v ∈ ws, v < 2 ^ w) (ok : okG ws.length gs) (hc : which < ws.length + gs.length) (ha : a < ws.length + gs.length) (hb : b < ws.length + gs.length) : Mks w ws gs (pickM ws.length gs which a b) (wv w gs ws a ||| (wv w gs ws which &&& wv w gs ws b)) 3 := by
  unfold pickM
  obtain ⟨o1, p1, l1, m1, n1, v1⟩ := other_mk (w := w) ok ha
  obtain ⟨o2, p2, l2, m2, n2, v2⟩ := nand_mk (w := w) (a := which) (b := b) o1 (by omega) (by omega)
  obtain ⟨o3, p3, l3, m3, n3, v3⟩ := nand_mk (w := w) (a := (otherM ws.length gs a).2) o2 (by omega) n2
  exact ⟨o3, fun n hn => ((p3 n (by omega)).trans (p2 n (by omega))).trans (p1 n hn), by omega, by omega, n3, by rw [v3, p2 _ n1, v1, v2, p1 _ hc, p1 _ hb, nd_orand (wv_lt hw _) (wv_lt hw _)]⟩
theorem okG_any {l : Nat} {gs : Gs} : ∃ ws : List Nat, ws.length = l ∧ ∀ v ∈ ws, v < 2 ^ 0 := ⟨List.replicate l 0, by simp, fun v hv => by have := List.eq_of_mem_replicate hv; omega⟩
/-- one pair more -/
def pickF (t : Nat → Nat) (acc : List Nat) (p : Nat × List Nat) : List Nat := List.zipWith (fun a b => a ||| (t p.1 &&& b)) acc (p.2.map t)
theorem pickF_len (t : Nat → Nat) (acc : List Nat) (p : Nat × List Nat) (h : p.2.length = acc.length) : (pickF t acc p).length = acc.length := by
  unfold pickF
  rw [List.length_zipWith, List.length_map, h, Nat.min_self]
theorem fold_at (t : Nat → Nat) (m k : Nat) (hk : k < m) : ∀ (ps : List (Nat × List Nat)) (acc : List Nat), acc.length = m → (∀ p ∈ ps, p.2.length = m) → (ps.foldl (pickF t) acc).getD k 0 = ps.foldl (fun a p => a ||| (t p.1 &&& t (p.2.getD k 0))) (acc.getD k 0)
  | [], acc, _, _ => rfl
  | p :: ps, acc, h, hp => by
    have hm := hp p (by simp)
    rw [List.foldl_cons, List.foldl_cons, fold_at t m k hk ps _ (by rw [pickF_len t acc p (by omega)]; exact h) (fun q hq => hp q (by simp [hq]))]
    congr 1
    unfold pickF
    have k1 : k < acc.length := by omega
    have k2 : k < p.2.length := by omega
    rw [List.getD_eq_getElem?_getD, List.getD_eq_getElem?_getD, List.getD_eq_getElem?_getD, List.getElem?_zipWith, List.getElem?_map, List.getElem?_eq_getElem k1, List.getElem?_eq_getElem k2]
    rfl
end G

set_option maxRecDepth 100000
/-! what makers make, whatever the worlds -/
namespace G
open PySem L2
/-- wires' values: 0, all worlds, the inputs -/
structure Wd (w : Nat) (ws : List Nat) (l : Nat) : Prop where
  len : ws.length = l
  lt : ∀ v ∈ ws, v < 2 ^ w
  z : ws.getD 0 0 = 0
  o : ws.getD 1 0 = 2 ^ w - 1
/-- gs' has come of gs by at most m gates -/
structure Grw (l : Nat) (gs gs' : Gs) (m : Nat) : Prop where
  ok : okG l gs'
  le : gs.length ≤ gs'.length
  up : gs'.length ≤ gs.length + m
  old : ∀ w ws, Wd w ws l → ∀ n, n < l + gs.length → wv w gs' ws n = wv w gs ws n
theorem Grw.refl {l : Nat} {gs : Gs} (h : okG l gs) : Grw l gs gs 0 := ⟨h, Nat.le_refl _, Nat.le_refl _, fun _ _ _ _ _ => rfl⟩
theorem Grw.trans {l : Nat} {a b c : Gs} {m n : Nat} (h : Grw l a b m) (k : Grw l b c n) : Grw l a c (m + n) :=
  ⟨k.ok, Nat.le_trans h.le k.le, by have := h.up; have := k.up; omega, fun w ws W i hi => (k.old w ws W i (by have := h.le; omega)).trans (h.old w ws W i hi)⟩
theorem Grw.mono {l : Nat} {a b : Gs} {m n : Nat} (h : Grw l a b m) (k : m ≤ n) : Grw l a b n := ⟨h.ok, h.le, by have := h.up; omega, h.old⟩
/-- one wire more: its worth by those of the old ones -/
structure Opr (l : Nat) (gs : Gs) (r : Mr) (m : Nat) (F : Nat → (Nat → Nat) → Nat) : Prop where
  g : Grw l gs r.1 m
  lt : r.2 < l + r.1.length
  v : ∀ w ws, Wd w ws l → wv w r.1 ws r.2 = F w (wv w gs ws)
theorem wd_any (l : Nat) (h : 2 ≤ l) : ∃ ws, Wd 0 ws l := ⟨List.replicate l 0, by simp, fun v hv => by have := List.eq_of_mem_replicate hv; omega, by
  rw [List.getD_eq_getElem?_getD, List.getElem?_replicate]
  split <;> rfl, by
  rw [List.getD_eq_getElem?_getD, List.getElem?_replicate]
  split <;> rfl⟩
theorem Opr.of {l : Nat} {gs : Gs} {r : Mr} {m : Nat} {F : Nat → (Nat → Nat) → Nat} (hl : 2 ≤ l) (h : ∀ w ws, Wd w ws l → Mks w ws gs r (F w (wv w gs ws)) m) : Opr l gs r m F := by
  obtain ⟨ws, W⟩ := wd_any l hl
  obtain ⟨o, _, l1, m1, n1, _⟩ := h 0 ws W
  rw [W.len] at o n1
  exact ⟨⟨o, l1, m1, fun w ws W n hn => (h w ws W).2.1 n (by rw [W.len]; exact hn)⟩, n1, fun w ws W => (h w ws W).2.2.2.2.2⟩
section
variable {l : Nat} {gs : Gs} {a b c : Nat}
theorem nand_op (hl : 2 ≤ l) (ok : okG l gs) (ha : a < l + gs.length) (hb : b < l + gs.length) : Opr l gs (nandM l gs a b) 1 (fun w t => nd w (t a) (t b)) := .of hl fun w ws W => by
  have := W.len
  subst this
  exact nand_mk ok ha hb
theorem other_op (hl : 2 ≤ l) (ok : okG l gs) (ha : a < l + gs.length) : Opr l gs (otherM l gs a) 1 (fun w t => nd w (t a) (t a)) := nand_op hl ok ha ha
theorem either_op (hl : 2 ≤ l) (ok : okG l gs) (ha : a < l + gs.length) (hb : b < l + gs.length) : Opr l gs (eitherM l gs a b) 3 (fun _ t => t a ||| t b) := .of hl fun w ws W => by
  have := W.len
  subst this
  exact either_mk W.lt ok ha hb
theorem unlike_op (hl : 2 ≤ l) (ok : okG l gs) (ha : a < l + gs.length) (hb : b < l + gs.length) : Opr l gs (unlikeM l gs a b) 4 (fun _ t => t a ^^^ t b) := .of hl fun w ws W => by
  have := W.len
  subst this
  exact unlike_mk W.lt ok ha hb
theorem chosen_op (hl : 2 ≤ l) (ok : okG l gs) (hc : c < l + gs.length) (ha : a < l + gs.length) (hb : b < l + gs.length) : Opr l gs (chosenM l gs c a b) 4 (fun w t => (t c &&& t a) ||| (((2 ^ w - 1) ^^^ t c) &&& t b)) := .of hl fun w ws W => by
  have := W.len
  subst this
  exact chosen_mk W.lt ok hc ha hb
end
/-! one figure of a sum -/
def cyN (w a b c : Nat) : Nat := nd w (nd w a b) (nd w (a ^^^ b) c)
def afM (l : Nat) (gs : Gs) (a b c : Nat) : Gs × Nat × Nat :=
  let r1 := unlikeM l gs a b
  let r2 := unlikeM l r1.1 r1.2 c
  let r3 := nandM l r2.1 a b
  let r4 := nandM l r3.1 r1.2 c
  let r5 := nandM l r4.1 r3.2 r4.2
  (r5.1, r2.2, r5.2)
theorem af_op {l : Nat} {gs : Gs} {a b c : Nat} (hl : 2 ≤ l) (ok : okG l gs) (ha : a < l + gs.length) (hb : b < l + gs.length) (hc : c < l + gs.length) :
    Grw l gs (afM l gs a b c).1 11 ∧ (afM l gs a b c).2.1 < l + (afM l gs a b c).1.length ∧ (afM l gs a b c).2.2 < l + (afM l gs a b c).1.length ∧
    ∀ w ws, Wd w ws l → wv w (afM l gs a b c).1 ws (afM l gs a b c).2.1 = (wv w gs ws a ^^^ wv w gs ws b) ^^^ wv w gs ws c ∧ wv w (afM l gs a b c).1 ws (afM l gs a b c).2.2 = cyN w (wv w gs ws a) (wv w gs ws b) (wv w gs ws c) := by
  have r1 := unlike_op hl ok ha hb
  have l1 := r1.g.le
  generalize e1 : unlikeM l gs a b = R1 at *
  have r2 := unlike_op (b := c) hl r1.g.ok r1.lt (by omega)
  have l2 := r2.g.le
  generalize e2 : unlikeM l R1.1 R1.2 c = R2 at *
  have r3 := nand_op (a := a) (b := b) hl r2.g.ok (by omega) (by omega)
  have l3 := r3.g.le
  generalize e3 : nandM l R2.1 a b = R3 at *
  have r4 := nand_op (a := R1.2) (b := c) hl r3.g.ok (by have := r1.lt; omega) (by omega)
  have l4 := r4.g.le
  generalize e4 : nandM l R3.1 R1.2 c = R4 at *
  have r5 := nand_op (a := R3.2) (b := R4.2) hl r4.g.ok (by have := r3.lt; omega) r4.lt
  have l5 := r5.g.le
  generalize e5 : nandM l R4.1 R3.2 R4.2 = R5 at *
  have e : afM l gs a b c = (R5.1, R2.2, R5.2) := by simp only [afM, e1, e2, e3, e4, e5]
  rw [e]
  have g12 := r1.g.trans r2.g
  have g13 := g12.trans r3.g
  have g14 := g13.trans r4.g
  refine ⟨(g14.trans r5.g).mono (by omega), ?_, r5.lt, fun w ws W => ⟨?_, ?_⟩⟩
  · have := r2.lt
    show R2.2 < l + R5.1.length
    omega
  · show wv w R5.1 ws R2.2 = _
    rw [r5.g.old w ws W _ (by have := r2.lt; omega), r4.g.old w ws W _ (by have := r2.lt; omega), r3.g.old w ws W _ r2.lt, r2.v w ws W, r1.v w ws W, r1.g.old w ws W c hc]
  · show wv w R5.1 ws R5.2 = _
    rw [r5.v w ws W, r4.g.old w ws W _ r3.lt, r3.v w ws W, r4.v w ws W, r3.g.old w ws W _ (by have := r1.lt; omega), r3.g.old w ws W c (by omega), r2.g.old w ws W _ r1.lt, r2.g.old w ws W c (by omega), r1.v w ws W, r1.g.old w ws W c hc, g12.old w ws W a ha, g12.old w ws W b hb]
    rfl
/-! numbers of one world -/
def numB (t : Nat) : List Nat → Nat
  | [] => 0
  | x :: xs => bt2 x t + 2 * numB t xs
theorem numB_app (t : Nat) : ∀ (xs ys : List Nat), numB t (xs ++ ys) = numB t xs + 2 ^ xs.length * numB t ys
  | [], ys => by simp [numB]
  | x :: xs, ys => by
    rw [List.cons_append, numB, numB, numB_app t xs ys, List.length_cons, Nat.pow_succ]
    rw [Nat.mul_add, ← Nat.mul_assoc, Nat.mul_comm 2 (2 ^ xs.length)]
    omega
theorem numB_lt (t : Nat) : ∀ xs : List Nat, numB t xs < 2 ^ xs.length
  | [] => by simp [numB]
  | x :: xs => by
    have := numB_lt t xs
    have := bt2_lt x t
    rw [numB, List.length_cons, Nat.pow_succ]
    omega
def addS (w : Nat) (q : List Nat × Nat) (p : Nat × Nat) : List Nat × Nat := (q.1 ++ [(p.1 ^^^ p.2) ^^^ q.2], cyN w p.1 p.2 q.2)
def addV (w : Nat) (ps : List (Nat × Nat)) (c : Nat) : List Nat × Nat := ps.foldl (addS w) ([], c)
theorem bt2_b (x k : Nat) : bt2 x k = if x.testBit k = true then 1 else 0 := by
  rw [bt2_t]
  cases x.testBit k <;> rfl
theorem fig_sum {w a b c t : Nat} (ht : t < w) (ha : a < 2 ^ w) (hb : b < 2 ^ w) : bt2 ((a ^^^ b) ^^^ c) t + 2 * bt2 (cyN w a b c) t = bt2 a t + bt2 b t + bt2 c t := by
  have hx : a ^^^ b < 2 ^ w := Nat.xor_lt_two_pow ha hb
  unfold cyN
  rw [bt2_b, bt2_b, bt2_b, bt2_b, bt2_b, nd_bit (nd_lt ..), nd_bit ha, nd_bit hx, Nat.testBit_xor, Nat.testBit_xor]
  cases a.testBit t <;> cases b.testBit t <;> cases c.testBit t <;> simp [ht]
theorem cyN_lt (w a b c : Nat) : cyN w a b c < 2 ^ w := nd_lt ..
theorem add_sum {w t : Nat} (ht : t < w) : ∀ (ps : List (Nat × Nat)) (q : List Nat × Nat), (∀ p ∈ ps, p.1 < 2 ^ w ∧ p.2 < 2 ^ w) → (ps.foldl (addS w) q).1.length = q.1.length + ps.length ∧
    numB t (ps.foldl (addS w) q).1 + 2 ^ (q.1.length + ps.length) * bt2 (ps.foldl (addS w) q).2 t = numB t q.1 + 2 ^ q.1.length * (numB t (ps.map (·.1)) + numB t (ps.map (·.2)) + bt2 q.2 t)
  | [], q, _ => ⟨rfl, by simp [numB]⟩
  | p :: ps, q, h => by
    obtain ⟨h1, h2⟩ := add_sum ht ps (addS w q p) fun x hx => h x (by simp [hx])
    have hp := h p (by simp)
    have hs := fig_sum (c := q.2) ht hp.1 hp.2
    rw [List.foldl_cons]
    have e1 : (addS w q p).1.length = q.1.length + 1 := by simp [addS]
    rw [e1] at h1 h2
    refine ⟨by rw [h1, List.length_cons]; omega, ?_⟩
    rw [List.length_cons, show q.1.length + (ps.length + 1) = q.1.length + 1 + ps.length by omega, h2]
    have e2 : numB t (addS w q p).1 = numB t q.1 + 2 ^ q.1.length * bt2 ((p.1 ^^^ p.2) ^^^ q.2) t := by
      show numB t (q.1 ++ [_]) = _
      rw [numB_app, numB, numB, Nat.mul_zero, Nat.add_zero]
    rw [e2, List.map_cons, List.map_cons, numB, numB, Nat.pow_succ]
    show _ + 2 ^ q.1.length * 2 * (_ + _ + bt2 (cyN w p.1 p.2 q.2) t) = _
    rw [Nat.mul_assoc, Nat.add_assoc, ← Nat.mul_add]
    congr 2
    omega
theorem addV_sum {w t : Nat} (ht : t < w) (ps : List (Nat × Nat)) (c : Nat) (h : ∀ p ∈ ps, p.1 < 2 ^ w ∧ p.2 < 2 ^ w) : (addV w ps c).1.length = ps.length ∧
    numB t (addV w ps c).1 + 2 ^ ps.length * bt2 (addV w ps c).2 t = numB t (ps.map (·.1)) + numB t (ps.map (·.2)) + bt2 c t := by
  have := add_sum ht ps ([], c) h
  simpa [numB, addV] using this
theorem nd_self_bt {w a t : Nat} (ht : t < w) (ha : a < 2 ^ w) : bt2 (nd w a a) t + bt2 a t = 1 := by
  rw [bt2_b, bt2_b, nd_bit ha]
  cases a.testBit t <;> simp [ht]
theorem num_others {w t : Nat} (ht : t < w) : ∀ xs : List Nat, (∀ x ∈ xs, x < 2 ^ w) → numB t (xs.map fun a => nd w a a) + numB t xs + 1 = 2 ^ xs.length
  | [], _ => by simp [numB]
  | x :: xs, h => by
    have := num_others ht xs fun y hy => h y (by simp [hy])
    have := nd_self_bt ht (h x (by simp))
    rw [List.map_cons, numB, numB, List.length_cons, Nat.pow_succ]
    omega
theorem orAll_bt {t : Nat} : ∀ (xs : List Nat) (a : Nat), bt2 (xs.foldl (· ||| ·) a) t = 0 ↔ bt2 a t = 0 ∧ numB t xs = 0
  | [], a => by simp [numB]
  | x :: xs, a => by
    rw [List.foldl_cons, orAll_bt xs (a ||| x), numB]
    have : bt2 (a ||| x) t = 0 ↔ bt2 a t = 0 ∧ bt2 x t = 0 := by
      rw [bt2_b, bt2_b, bt2_b, Nat.testBit_or]
      cases a.testBit t <;> cases x.testBit t <;> simp
    rw [this]
    omega
theorem bt2_one {w t : Nat} (ht : t < w) : bt2 (2 ^ w - 1) t = 1 := by
  rw [bt2_b, Nat.testBit_two_pow_sub_one]
  simp [ht]
theorem chosen_bt {w t c a b : Nat} (ht : t < w) : bt2 ((c &&& a) ||| (((2 ^ w - 1) ^^^ c) &&& b)) t = if bt2 c t = 1 then bt2 a t else bt2 b t := by
  rw [bt2_b, bt2_b, bt2_b, bt2_b, Nat.testBit_or, Nat.testBit_and, Nat.testBit_and, Nat.testBit_xor, Nat.testBit_two_pow_sub_one]
  cases c.testBit t <;> cases a.testBit t <;> cases b.testBit t <;> simp [ht]
theorem num_chosen {w t c : Nat} (ht : t < w) : ∀ (ps : List (Nat × Nat)), numB t (ps.map fun p => (c &&& p.1) ||| (((2 ^ w - 1) ^^^ c) &&& p.2)) = if bt2 c t = 1 then numB t (ps.map (·.1)) else numB t (ps.map (·.2))
  | [] => by simp [numB]
  | p :: ps => by
    rw [List.map_cons, List.map_cons, List.map_cons, numB, numB, numB, num_chosen ht ps, chosen_bt ht]
    by_cases h : bt2 c t = 1
    · rw [if_pos h, if_pos h, if_pos h]
    · rw [if_neg h, if_neg h, if_neg h]
end G

set_option maxRecDepth 100000
/-! sums of figures; the last one -/
namespace G
open PySem L2
def numF {α : Type} (f : α → Nat) : List α → Nat
  | [] => 0
  | x :: xs => f x + 2 * numF f xs
theorem numB_F {α : Type} (V : α → Nat) (t : Nat) : ∀ xs : List α, numB t (xs.map V) = numF (fun x => bt2 (V x) t) xs
  | [] => rfl
  | x :: xs => by rw [List.map_cons, numB, numF, numB_F V t xs]
theorem numF_map {α β : Type} (f : β → Nat) (g : α → β) : ∀ xs : List α, numF f (xs.map g) = numF (fun x => f (g x)) xs
  | [] => rfl
  | x :: xs => by rw [List.map_cons, numF, numF, numF_map f g xs]
theorem sum_z {α : Type} (f : α → Nat) : ∀ (xs : List α) (s : Nat), ((xs.zipIdx s).map fun e => f e.1 * 2 ^ e.2).sum = 2 ^ s * numF f xs
  | [], s => by simp [numF]
  | x :: xs, s => by
    rw [List.zipIdx_cons, List.map_cons, List.sum_cons, sum_z f xs (s + 1), numF, Nat.pow_succ, Nat.mul_add, ← Nat.mul_assoc, Nat.mul_comm (f x)]
theorem sum_cast {α : Type} (f : α → Nat) : ∀ xs : List α, (xs.map fun x => ((f x : Nat) : Int)).sum = (((xs.map f).sum : Nat) : Int)
  | [] => rfl
  | x :: xs => by
    rw [List.map_cons, List.map_cons, List.sum_cons, List.sum_cons, sum_cast f xs]
    omega
theorem intsP_map {α : Type} (f : α → Int) : ∀ xs : List α, intsP (xs.map fun x => .int (f x)) = some (xs.map f)
  | [] => rfl
  | x :: xs => by
    rw [List.map_cons, intsP, intsP_map f xs]
    rfl
theorem enumP_map {α : Type} (f : α → P) (xs : List α) : enumP (xs.map f) = xs.zipIdx.map fun e => .tuple [.int (e.2 : Nat), f e.1] := by
  unfold enumP
  rw [List.zipIdx_map, List.map_map]
  rfl
theorem mem_zi {α : Type} {xs : List α} {e : α × Nat} (h : e ∈ xs.zipIdx) : e.1 ∈ xs ∧ e.2 < xs.length := by
  obtain ⟨x, i⟩ := e
  have := List.mem_zipIdx h
  simp at this
  obtain ⟨h1, h2⟩ := this
  refine ⟨?_, by simpa using h1⟩
  show x ∈ xs
  rw [h2]
  exact List.getElem_mem _
theorem sum_range (f : Nat → Nat) : ∀ n, ((List.range n).map fun t => f t * 2 ^ t).sum = ofB f n
  | 0 => rfl
  | n + 1 => by
    rw [List.range_succ, List.map_append, List.sum_append, sum_range f n, ofB]
    simp
theorem at_last (xs : List Nat) (h : 0 < xs.length) : atI (nl xs) (-1) = some (.int (xs.getD (xs.length - 1) 0 : Nat)) := by
  have e : ixN (nl xs).length (-1) = some (xs.length - 1) := by
    unfold ixN
    rw [nl_len, if_neg (by omega), if_pos (by omega)]
    congr 1
    omega
  have := nl_at xs (xs.length - 1) (by omega)
  rw [G.atI_nat] at this
  unfold atI
  rw [e]
  exact this
theorem cut_last (xs : List Nat) (h : 0 < xs.length) : cutP (nl xs) (some (-1)) none = nl [xs.getD (xs.length - 1) 0] := by
  unfold cutP
  have e : HT.sIx (nl xs).length 0 (some (-1)) = xs.length - 1 := by
    show (if (-1 : Int) < 0 then ((-1 : Int) + ((nl xs).length : Int)).toNat else min (-1 : Int).toNat (nl xs).length) = _
    rw [if_pos (by omega), nl_len]
    omega
  rw [e, HT.sIx_none, nl_len]
  unfold nl
  rw [← List.map_drop, List.drop_eq_getElem_cons (show xs.length - 1 < xs.length by omega), show xs.length - 1 + 1 = xs.length by omega, List.drop_length, List.getD_eq_getElem?_getD, List.getElem?_eq_getElem (show xs.length - 1 < xs.length by omega)]
  rw [show xs.length - (xs.length - 1) = 1 by omega]
  rfl
theorem getD_mem' {xs : List Nat} {n : Nat} (h : n < xs.length) : xs.getD n 0 ∈ xs := by
  rw [List.getD_eq_getElem?_getD, List.getElem?_eq_getElem h]
  exact List.getElem_mem h
end G

set_option maxRecDepth 100000
set_option maxHeartbeats 4000000
namespace Kx
open PySem L2 G
@[simp] theorem strM2_s (g : Str → Str → P) (a b : Str) : strM2 g (.pl (.str a)) (.pl (.str b)) = some (.pl (g a b)) := rfl
/-- the signs, the line feed, and strange ones -/
def CH : List Nat := (" abcdefghijklmnopqrstuvwxyz0123456789[]()+-&<=\n.A*_~:>|" : Str).cps.toList
def ch (k : Nat) : Nat := CH.getD k 0
def cs1 (k : Nat) : Str := ⟨#[ch k]⟩
def sT (ks : List Nat) : Str := ⟨(ks.map ch).toArray⟩
def SG : Str := " abcdefghijklmnopqrstuvwxyz0123456789[]()+-&<="
theorem fnd : ∀ k, k < 55 → Txt.find SG (cs1 k) = if k < 46 then (k : Int) else -1 := by decide +kernel
theorem ins : ∀ k, k < 55 → (Builtin.Str.occurrences SG (cs1 k) 0 SG.length 1).isEmpty = decide (46 ≤ k) := by decide +kernel
theorem is10 : ∀ k, k < 55 → decide (cs1 k = ("\n" : Str)) = decide (k = 46) := by decide +kernel
theorem at1 : ∀ k : Nat, k < 46 → atI SG.cps.toList (k : Int) = some (ch k) := by decide +kernel
theorem at2 : ∀ k : Nat, k < 47 → atI (SG ++ ("\n" : Str)).cps.toList (k : Int) = some (ch k) := by decide +kernel
def un (w : Nat) : Nat := if w = 0 then 46 else w - 1
theorem at3 : ∀ k : Nat, k < 47 → atI (("\n" : Str) ++ SG).cps.toList (k : Int) = some (ch (un k)) := by decide +kernel
def num (k : Nat) : Nat := if k = 46 then 0 else k + 1
theorem items_sT (ks : List Nat) : strItems (sT ks) = ks.map fun k => .str (cs1 k) := by
  unfold strItems sT
  rw [List.map_map]
  rfl
theorem sT_app (ks : List Nat) (k : Nat) : sT ks ++ cs1 k = sT (ks ++ [k]) := by
  show (⟨(ks.map ch).toArray ++ #[ch k]⟩ : Str) = ⟨((ks ++ [k]).map ch).toArray⟩
  rw [List.map_append]
  simp
theorem sT_len (ks : List Nat) : (sT ks).length = ks.length := by
  show ((ks.map ch).toArray).size = _
  simp
theorem g0 : gl 0 = some (.str SG) := rfl
theorem g1 : gl 1 = some (.int 0) := rfl
/-- what the signs' numbers are -/
def nmO (ks : List Nat) : O := if ks.all (· < 47) = true then .fl (nl (ks.map num)) else .pl .none
theorem words_go (n : Nat) (T : P) : ∀ (ks acc : List Nat) (o2 o3 : Option O), (∀ k ∈ ks, k < 55) → acc.length + ks.length ≤ 1000 →
    ∃ r, forGo (bodyF (Ck ds gl 200 n) (.nm 2) b_words_of_text_1b) (ks.map fun k => .str (cs1 k)) [some (.pl T), some (.fl (nl acc)), o2, o3] = some r ∧
      (if ks.all (· < 47) = true then ∃ p2 p3, r = (.nx, [some (.pl T), some (.fl (nl (acc ++ ks.map num))), p2, p3]) else ∃ e, r = (.rt (.pl .none), e))
  | [], acc, o2, o3, _, _ => ⟨_, rfl, by
    rw [if_pos (show ([] : List Nat).all (· < 47) = true from rfl)]
    exact ⟨o2, o3, by rw [List.map_nil, List.append_nil]⟩⟩
  | k :: ks, acc, o2, o3, h, hl => by
    have hk := h k (by simp)
    have f := fnd k hk
    have i10 := is10 k hk
    have sz : acc.length < 16777216 := by omega
    rw [List.length_cons] at hl
    by_cases h47 : k < 47
    · have e1 : Txt.find SG (cs1 k) + 1 = (num k : Int) := by
        rw [f]
        unfold num
        by_cases h46 : k = 46
        · subst h46
          rfl
        · rw [if_pos (by omega), if_neg h46]
          rfl
      have st : bodyF (Ck ds gl 200 n) (.nm 2) b_words_of_text_1b [some (.pl T), some (.fl (nl acc)), o2, o3] (.str (cs1 k)) = some (.nx, [some (.pl T), some (.fl (nl (acc ++ [num k]))), some (.pl (.str (cs1 k))), some (.pl (.int (num k : Int)))]) := by
        have na : nl (acc ++ [num k]) = nl acc ++ [.int (num k : Int)] := List.map_append ..
        rw [na]
        by_cases h46 : k = 46
        · have hc : cs1 k = ("\n" : Str) := of_decide_eq_true (i10.trans (decide_eq_true h46))
          generalize num k = nk at *
          generalize cs1 k = ck at *
          subst hc
          simp [bodyF, b_words_of_text_1b, b_words_of_text_1b_0, b_words_of_text_1b_1, b_words_of_text_1b_2, g0, e1, fz, sz]
        · have hn : num k ≠ 0 := by unfold num; rw [if_neg h46]; omega
          generalize num k = nk at *
          generalize cs1 k = ck at *
          simp [bodyF, b_words_of_text_1b, b_words_of_text_1b_0, b_words_of_text_1b_1, b_words_of_text_1b_2, g0, e1, fz, sz, hn]
      obtain ⟨r, r1, r2⟩ := words_go n T ks (acc ++ [num k]) (some (.pl (.str (cs1 k)))) (some (.pl (.int (num k : Int)))) (fun x hx => h x (by simp [hx])) (by simp; omega)
      refine ⟨r, ?_, ?_⟩
      · rw [List.map_cons, forGo, st]
        exact r1
      · have ea : (k :: ks).all (· < 47) = ks.all (· < 47) := by simp [h47]
        rw [ea, List.map_cons]
        rw [List.append_assoc] at r2
        exact r2
    · have e1 : Txt.find SG (cs1 k) + 1 = 0 := by
        rw [f, if_neg (by omega)]
        rfl
      have hc : ¬ cs1 k = ("\n" : Str) := of_decide_eq_false (i10.trans (decide_eq_false (by omega)))
      refine ⟨(.rt (.pl .none), [some (.pl T), some (.fl (nl acc)), some (.pl (.str (cs1 k))), some (.pl (.int 0))]), ?_, ?_⟩
      · rw [List.map_cons, forGo]
        have st : bodyF (Ck ds gl 200 n) (.nm 2) b_words_of_text_1b [some (.pl T), some (.fl (nl acc)), o2, o3] (.str (cs1 k)) = some (.rt (.pl .none), [some (.pl T), some (.fl (nl acc)), some (.pl (.str (cs1 k))), some (.pl (.int 0))]) := by
          generalize cs1 k = ck at *
          simp [bodyF, b_words_of_text_1b, b_words_of_text_1b_0, b_words_of_text_1b_1, b_words_of_text_1b_2, g0, e1, hc]
        rw [st]
      · have ea : (k :: ks).all (· < 47) = false := by simp [h47]
        rw [ea, if_neg (by simp)]
        exact ⟨_, rfl⟩
theorem words_ev (n : Nat) (ks : List Nat) (h : ∀ k ∈ ks, k < 55) (hl : ks.length ≤ 1000) : runD (Ck ds gl 200 n) d_words_of_text [.pl (.str (sT ks))] = some (.ok (nmO ks), []) := by
  obtain ⟨r, r1, r2⟩ := words_go n (.str (sT ks)) ks [] none none h (by simpa using hl)
  have r1 : forGo (bodyF (Ck ds gl 200 n) (.nm 2) b_words_of_text_1b) (ks.map fun k => .str (cs1 k)) [some (.pl (.str (sT ks))), some (.fl []), none, none] = some r := r1
  have it := items_sT ks
  rw [go_words_of_text _ _ rfl rfl]
  unfold nmO
  by_cases ha : ks.all (· < 47) = true
  · rw [if_pos ha] at r2 ⊢
    obtain ⟨p2, p3, rfl⟩ := r2
    rw [List.nil_append] at r1
    simp [b_words_of_text, b_words_of_text_0, startE, mkL, fzs, b_words_of_text_1, exec_forr, evJ, sh, fz, it, r1, b_words_of_text_2]
  · rw [if_neg ha] at r2 ⊢
    obtain ⟨e, rfl⟩ := r2
    simp [b_words_of_text, b_words_of_text_0, startE, mkL, fzs, b_words_of_text_1, exec_forr, evJ, sh, fz, it, r1, b_words_of_text_2]
end Kx

set_option maxRecDepth 100000
set_option maxHeartbeats 4000000
namespace Kx
open PySem L2 G
theorem signs_ev (n : Nat) : runD (Ck ds gl 200 n) d__law_signs [] = some (.ok (.pl (.str SG)), []) := by
  rw [go__law_signs _ _ rfl rfl]
  simp [b__law_signs, b__law_signs_0, startE]
  rfl
theorem numbers_go (n : Nat) (T : P) : ∀ (ks acc : List Nat) (o2 : Option O), (∀ k ∈ ks, k < 55) → acc.length + ks.length ≤ 1000 →
    ∃ r, forGo (bodyF (Ck ds gl 200 (n + 1)) (.nm 2) b__law_numbers_1b) (ks.map fun k => .str (cs1 k)) [some (.pl T), some (.fl (nl acc)), o2] = some r ∧
      (if ks.all (· < 47) = true then ∃ p2, r = (.nx, [some (.pl T), some (.fl (nl (acc ++ ks.map num))), p2]) else ∃ e, r = (.rt (.pl .none), e))
  | [], acc, o2, _, _ => ⟨_, rfl, by
    rw [if_pos (show ([] : List Nat).all (· < 47) = true from rfl)]
    exact ⟨o2, by rw [List.map_nil, List.append_nil]⟩⟩
  | k :: ks, acc, o2, h, hl => by
    have hk := h k (by simp)
    have f := fnd k hk
    have i10 := is10 k hk
    have inn := ins k hk
    have sg := signs_ev n
    have sz : acc.length < 16777216 := by omega
    rw [List.length_cons] at hl
    by_cases h47 : k < 47
    · have st : bodyF (Ck ds gl 200 (n + 1)) (.nm 2) b__law_numbers_1b [some (.pl T), some (.fl (nl acc)), o2] (.str (cs1 k)) = some (.nx, [some (.pl T), some (.fl (nl (acc ++ [num k]))), some (.pl (.str (cs1 k)))]) := by
        have na : nl (acc ++ [num k]) = nl acc ++ [.int (num k : Int)] := List.map_append ..
        rw [na]
        by_cases h46 : k = 46
        · have hc : cs1 k = ("\n" : Str) := of_decide_eq_true (i10.trans (decide_eq_true h46))
          have e0 : num k = 0 := by unfold num; rw [if_pos h46]
          rw [if_neg (by omega)] at f
          rw [e0]
          generalize cs1 k = ck at *
          subst hc
          simp [bodyF, b__law_numbers_1b, b__law_numbers_1b_0, b__law_numbers_1b_1, sg, f, fz, sz, mkL, fzs]
        · have hc : ¬ cs1 k = ("\n" : Str) := of_decide_eq_false (i10.trans (decide_eq_false h46))
          have e0 : num k = k + 1 := by unfold num; rw [if_neg h46]
          rw [if_pos (by omega)] at f
          have inn : (Builtin.Str.occurrences SG (cs1 k) 0 SG.length 1).isEmpty = false := inn.trans (decide_eq_false (by omega))
          rw [e0]
          generalize cs1 k = ck at *
          simp [bodyF, b__law_numbers_1b, b__law_numbers_1b_0, b__law_numbers_1b_1, sg, f, fz, sz, mkL, fzs, hc, inn]
      obtain ⟨r, r1, r2⟩ := numbers_go n T ks (acc ++ [num k]) (some (.pl (.str (cs1 k)))) (fun x hx => h x (by simp [hx])) (by simp; omega)
      refine ⟨r, ?_, ?_⟩
      · rw [List.map_cons, forGo, st]
        exact r1
      · have ea : (k :: ks).all (· < 47) = ks.all (· < 47) := by simp [h47]
        rw [ea, List.map_cons]
        rw [List.append_assoc] at r2
        exact r2
    · have hc : ¬ cs1 k = ("\n" : Str) := of_decide_eq_false (i10.trans (decide_eq_false (by omega)))
      have inn : (Builtin.Str.occurrences SG (cs1 k) 0 SG.length 1).isEmpty = true := inn.trans (decide_eq_true (by omega))
      refine ⟨(.rt (.pl .none), [some (.pl T), some (.fl (nl acc)), some (.pl (.str (cs1 k)))]), ?_, ?_⟩
      · rw [List.map_cons, forGo]
        have st : bodyF (Ck ds gl 200 (n + 1)) (.nm 2) b__law_numbers_1b [some (.pl T), some (.fl (nl acc)), o2] (.str (cs1 k)) = some (.rt (.pl .none), [some (.pl T), some (.fl (nl acc)), some (.pl (.str (cs1 k)))]) := by
          generalize cs1 k = ck at *
          simp [bodyF, b__law_numbers_1b, b__law_numbers_1b_0, b__law_numbers_1b_1, sg, hc, inn]
        rw [st]
      · have ea : (k :: ks).all (· < 47) = false := by simp [h47]
        rw [ea, if_neg (by simp)]
        exact ⟨_, rfl⟩
theorem numbers_ev (n : Nat) (ks : List Nat) (h : ∀ k ∈ ks, k < 55) (hl : ks.length ≤ 1000) : runD (Ck ds gl 200 (n + 1)) d__law_numbers [.pl (.str (sT ks))] = some (.ok (nmO ks), []) := by
  obtain ⟨r, r1, r2⟩ := numbers_go n (.str (sT ks)) ks [] none h (by simpa using hl)
  have r1 : forGo (bodyF (Ck ds gl 200 (n + 1)) (.nm 2) b__law_numbers_1b) (ks.map fun k => .str (cs1 k)) [some (.pl (.str (sT ks))), some (.fl []), none] = some r := r1
  have it := items_sT ks
  rw [go__law_numbers _ _ rfl rfl]
  unfold nmO
  by_cases ha : ks.all (· < 47) = true
  · rw [if_pos ha] at r2 ⊢
    obtain ⟨p2, rfl⟩ := r2
    rw [List.nil_append] at r1
    simp [b__law_numbers, b__law_numbers_0, startE, mkL, fzs, b__law_numbers_1, exec_forr, evJ, sh, fz, it, r1, b__law_numbers_2]
  · rw [if_neg ha] at r2 ⊢
    obtain ⟨e, rfl⟩ := r2
    simp [b__law_numbers, b__law_numbers_0, startE, mkL, fzs, b__law_numbers_1, exec_forr, evJ, sh, fz, it, r1, b__law_numbers_2]
/-! the text that words write -/
/-- the row and the signs so far -/
def tw : List Nat → Nat → List Nat → Option (List Nat) × Nat
  | [], r, acc => (some acc, r)
  | w :: ws, r, acc => if 46 < w then (none, r) else tw ws (if w = 0 then r + 1 else r) (acc ++ [un w])
def twO (x : Option (List Nat) × Nat) : P := match x.1 with
  | some acc => .tuple [.str (sT acc), .none]
  | none => .tuple [.none, .int (x.2 : Int)]
theorem un_lt {w : Nat} (h : ¬ 46 < w) : un w < 47 := by
  unfold un
  split <;> omega
theorem text_go (n : Nat) (T : P) : ∀ (ws acc : List Nat) (r : Nat) (o3 : Option O), acc.length + ws.length ≤ 1000 →
    ∃ q, forGo (bodyF (Ck ds gl 200 n) (.nm 3) b_text_of_words_2b) (nl ws) [some (.pl T), some (.fl (acc.map fun k => .str (cs1 k))), some (.pl (.int (r : Int))), o3] = some q ∧
      ((∃ as' r' p3, tw ws r acc = (some as', r') ∧ as'.length = acc.length + ws.length ∧ q = (.nx, [some (.pl T), some (.fl (as'.map fun k => .str (cs1 k))), some (.pl (.int (r' : Int))), p3])) ∨ ∃ r' e, tw ws r acc = (none, r') ∧ q = (.rt (.pl (.tuple [.none, .int (r' : Int)])), e))
  | [], acc, r, o3, _ => ⟨_, rfl, .inl ⟨acc, r, o3, rfl, rfl, rfl⟩⟩
  | w :: ws, acc, r, o3, hl => by
    rw [List.length_cons] at hl
    have sz : acc.length < 16777216 := by omega
    have sgl : SG.length = 46 := rfl
    by_cases h46 : 46 < w
    · refine ⟨(.rt (.pl (.tuple [.none, .int (r : Int)])), [some (.pl T), some (.fl (acc.map fun k => .str (cs1 k))), some (.pl (.int (r : Int))), some (.pl (.int (w : Int)))]), ?_, .inr ⟨r, _, by rw [tw, if_pos h46], rfl⟩⟩
      have w0 : ¬ w = 0 := by omega
      have w1 : ¬ (w : Int) ≤ 46 := by omega
      have w2 : ¬ w ≤ 46 := by omega
      rw [nl_cons, forGo]
      have st : bodyF (Ck ds gl 200 n) (.nm 3) b_text_of_words_2b [some (.pl T), some (.fl (acc.map fun k => .str (cs1 k))), some (.pl (.int (r : Int))), o3] (.int (w : Int)) = some (.rt (.pl (.tuple [.none, .int (r : Int)])), [some (.pl T), some (.fl (acc.map fun k => .str (cs1 k))), some (.pl (.int (r : Int))), some (.pl (.int (w : Int)))]) := by
        simp [bodyF, b_text_of_words_2b, b_text_of_words_2b_0, g0, g1, w0, w1, w2, sgl, mkT, plains]
      rw [st]
    · have hm : (acc ++ [un w]).map (fun k => PyData.str (cs1 k)) = acc.map (fun k => PyData.str (cs1 k)) ++ [.str (cs1 (un w))] := List.map_append ..
      have st : bodyF (Ck ds gl 200 n) (.nm 3) b_text_of_words_2b [some (.pl T), some (.fl (acc.map fun k => .str (cs1 k))), some (.pl (.int (r : Int))), o3] (.int (w : Int)) = some (.nx, [some (.pl T), some (.fl ((acc ++ [un w]).map fun k => .str (cs1 k))), some (.pl (.int ((if w = 0 then r + 1 else r : Nat) : Int))), some (.pl (.int (w : Int)))]) := by
        rw [hm]
        by_cases h0 : w = 0
        · subst h0
          have hc : cs1 (un 0) = ("\n" : Str) := rfl
          rw [hc]
          simp [bodyF, b_text_of_words_2b, b_text_of_words_2b_0, g0, g1, fz, sz]
        · have w1 : (w : Int) ≤ 46 := by omega
          have w2 : w ≤ 46 := by omega
          have a := at1 (w - 1) (by omega)
          have ew : ((w - 1 : Nat) : Int) = (w : Int) - 1 := by omega
          rw [ew] at a
          have hu : un w = w - 1 := by unfold un; rw [if_neg h0]
          have hc : cs1 (un w) = ⟨#[ch (w - 1)]⟩ := by rw [hu]; rfl
          rw [hc]
          simp [bodyF, b_text_of_words_2b, b_text_of_words_2b_0, g0, g1, h0, w1, w2, sgl, fz, sz, idxS, a]
      obtain ⟨q, q1, q2⟩ := text_go n T ws (acc ++ [un w]) (if w = 0 then r + 1 else r) (some (.pl (.int (w : Int)))) (by simp; omega)
      refine ⟨q, ?_, ?_⟩
      · rw [nl_cons, forGo, st]
        exact q1
      · rw [tw, if_neg h46]
        rcases q2 with ⟨as', r', p3, e1, e2, e3⟩ | q2
        · exact .inl ⟨as', r', p3, e1, by rw [e2]; simp; omega, e3⟩
        · exact .inr q2
theorem sT_cons (k : Nat) (ks : List Nat) : cs1 k ++ (("" : Str)) ++ sT ks = sT (k :: ks) := by
  show (⟨(#[ch k] ++ #[]) ++ (ks.map ch).toArray⟩ : Str) = ⟨((k :: ks).map ch).toArray⟩
  simp
theorem join_s : ∀ ks : List Nat, Str.join "" (ks.map cs1) = sT ks
  | [] => rfl
  | [k] => rfl
  | k :: j :: ks => by
    have ih := join_s (j :: ks)
    rw [List.map_cons, List.map_cons, Str.join, ← List.map_cons, ih, sT_cons]
    exact fun z => by cases z
theorem join_sT (ks : List Nat) : Txt.join "" (ks.map cs1) = sT ks := by
  rw [← join_s ks]
  exact PySem.StrLaws.glued_eq_join "" (ks.map cs1)
theorem strs_c1 : ∀ ks : List Nat, strsP (ks.map fun k => .str (cs1 k)) = some (ks.map cs1)
  | [] => rfl
  | k :: ks => by
    rw [List.map_cons, strsP, strs_c1 ks]
    rfl
theorem sum_c1 : ∀ ks : List Nat, ((ks.map cs1).map (·.length)).sum = ks.length
  | [] => rfl
  | k :: ks => by
    rw [List.map_cons, List.map_cons, List.sum_cons, sum_c1 ks]
    show 1 + _ = _
    simp
    omega
theorem text_ev (n : Nat) (ws : List Nat) (hl : ws.length ≤ 1000) : runD (Ck ds gl 200 n) d_text_of_words [.pl (.list (nl ws))] = some (.ok (.pl (twO (tw ws 0 []))), []) := by
  obtain ⟨q, q1, q2⟩ := text_go n (.list (nl ws)) ws [] 0 none (by simpa using hl)
  have q1 : forGo (bodyF (Ck ds gl 200 n) (.nm 3) b_text_of_words_2b) (nl ws) [some (.pl (.list (nl ws))), some (.fl []), some (.pl (.int 0)), none] = some q := q1
  rw [go_text_of_words _ _ rfl rfl]
  rcases q2 with ⟨as', r', p3, e1, e2, rfl⟩ | ⟨r', e, e1, rfl⟩
  · rw [e1]
    have j := join_sT as'
    have s1 := strs_c1 as'
    have s2 := sum_c1 as'
    have s3 : as'.length ≤ 16777216 := by rw [e2]; simp; omega
    have sl : (("" : Str)).length = 0 := rfl
    simp [b_text_of_words, b_text_of_words_0, b_text_of_words_1, startE, mkL, fzs, b_text_of_words_2, exec_forr, evJ, sh, fz, q1, b_text_of_words_3]
    have hj : joinO (Str.ofString "") (some (as'.map cs1)) = some (.pl (.str (sT as'))) := by
      show (if ((as'.map cs1).map (·.length)).sum + (as'.map cs1).length * (Str.ofString "").length ≤ 16777216 then some (O.pl (.str (Txt.join "" (as'.map cs1)))) else none) = _
      rw [s2, j, if_pos (by
        have : (Str.ofString "").length = 0 := rfl
        rw [this]
        omega)]
    rw [s1, hj]
    simp [twO, mkT, plains]
  · rw [e1]
    simp [b_text_of_words, b_text_of_words_0, b_text_of_words_1, startE, mkL, fzs, b_text_of_words_2, exec_forr, evJ, sh, fz, q1, b_text_of_words_3, twO]
theorem cnt0 : ∀ pre : List Nat, (pre.map fun (x : Nat) => (x : Int)).count 0 = pre.count 0
  | [] => rfl
  | x :: xs => by
    rw [List.map_cons, List.count_cons, List.count_cons, cnt0 xs]
    by_cases hx : x = 0
    · subst hx; rfl
    · have : ¬ (x : Int) = 0 := by omega
      simp [hx, this]
theorem ltext_go (n : Nat) (pre0 : List Nat) : ∀ (ws pre acc : List Nat) (r : Nat) (o2 o3 : Option O), pre0 = pre ++ ws → pre0.length ≤ 1000 → r = pre.count 0 → acc.length = pre.length →
    ∃ q, forGo (bodyF (Ck ds gl 200 (n + 1)) (.tp [2, 3]) b__law_text_1b) ((ws.zipIdx pre.length).map fun e => .tuple [.int (e.2 : Nat), .int (e.1 : Nat)]) [some (.pl (.list (nl pre0))), some (.pl (.str (sT acc))), o2, o3] = some q ∧
      ((∃ as' r' p2 p3, tw ws r acc = (some as', r') ∧ q = (.nx, [some (.pl (.list (nl pre0))), some (.pl (.str (sT as'))), p2, p3])) ∨ ∃ r' e, tw ws r acc = (none, r') ∧ q = (.rt (.pl (.tuple [.none, .int (r' : Int)])), e))
  | [], pre, acc, r, o2, o3, _, _, _, _ => ⟨_, rfl, .inl ⟨acc, r, o2, o3, rfl, rfl⟩⟩
  | w :: ws, pre, acc, r, o2, o3, hp, hl, hr, ha => by
    have hlen : pre.length + (ws.length + 1) ≤ 1000 := by
      rw [hp, List.length_append, List.length_cons] at hl
      exact hl
    have sg := signs_ev n
    have ct := cut_take' (nl pre0) pre.length
    have htk : (nl pre0).take pre.length = nl pre := by
      unfold nl
      rw [← List.map_take, hp, List.take_left' rfl]
    rw [htk] at ct
    by_cases h46 : 46 < w
    · have hi : intsP (nl pre) = some (pre.map fun (x : Nat) => (x : Int)) := intsP_map (fun (x : Nat) => (x : Int)) pre
      have hcn : (pre.map fun (x : Nat) => (x : Int)).count 0 = r := by
        rw [hr]
        exact cnt0 pre
      refine ⟨(.rt (.pl (.tuple [.none, .int (r : Int)])), [some (.pl (.list (nl pre0))), some (.pl (.str (sT acc))), some (.pl (.int (pre.length : Int))), some (.pl (.int (w : Int)))]), ?_, .inr ⟨r, _, by rw [tw, if_pos h46], rfl⟩⟩
      rw [List.zipIdx_cons, List.map_cons, forGo]
      have st : bodyF (Ck ds gl 200 (n + 1)) (.tp [2, 3]) b__law_text_1b [some (.pl (.list (nl pre0))), some (.pl (.str (sT acc))), o2, o3] (.tuple [.int (pre.length : Int), .int (w : Int)]) = some (.rt (.pl (.tuple [.none, .int (r : Int)])), [some (.pl (.list (nl pre0))), some (.pl (.str (sT acc))), some (.pl (.int (pre.length : Int))), some (.pl (.int (w : Int)))]) := by
        have w1 : (46 : Int) < (w : Int) := by omega
        simp [bodyF, b__law_text_1b, b__law_text_1b_0, h46, w1, ct, hi, hcn, mkT, plains]
      rw [st]
    · have a3 := at3 w (by omega)
      have sl : (("\n" : Str) ++ SG).length = 47 := rfl
      have hc : (⟨#[ch (un w)]⟩ : Str) = cs1 (un w) := rfl
      have ap := sT_app acc (un w)
      have l1 := sT_len acc
      have st : bodyF (Ck ds gl 200 (n + 1)) (.tp [2, 3]) b__law_text_1b [some (.pl (.list (nl pre0))), some (.pl (.str (sT acc))), o2, o3] (.tuple [.int (pre.length : Int), .int (w : Int)]) = some (.nx, [some (.pl (.list (nl pre0))), some (.pl (.str (sT (acc ++ [un w])))), some (.pl (.int (pre.length : Int))), some (.pl (.int (w : Int)))]) := by
        have w1 : ¬ (46 : Int) < (w : Int) := by omega
        have l2 : (cs1 (un w)).length = 1 := rfl
        have s1 : acc.length + 1 ≤ 16777216 := by omega
        have l0 : (Str.ofString "\n").length = 1 := rfl
        have l9 : SG.length = 46 := rfl
        rw [← ap]
        generalize cs1 (un w) = C at *
        simp [bodyF, b__law_text_1b, b__law_text_1b_0, b__law_text_1b_1, h46, w1, sg, idxS, sl, a3, hc, l0, l1, l2, l9, s1]
      obtain ⟨q, q1, q2⟩ := ltext_go n pre0 ws (pre ++ [w]) (acc ++ [un w]) (if w = 0 then r + 1 else r) (some (.pl (.int (pre.length : Int)))) (some (.pl (.int (w : Int)))) (by rw [hp, List.append_assoc]; rfl) hl (by
        rw [List.count_append, hr]
        by_cases h0 : w = 0
        · subst h0
          simp
        · rw [if_neg h0]
          have : ¬ 0 = w := fun z => h0 z.symm
          simp [h0]) (by simp [ha])
      refine ⟨q, ?_, ?_⟩
      · rw [List.zipIdx_cons, List.map_cons, forGo, st]
        have : (pre ++ [w]).length = pre.length + 1 := by simp
        rw [this] at q1
        exact q1
      · rw [tw, if_neg h46]
        exact q2
theorem ltext_ev (n : Nat) (ws : List Nat) (hl : ws.length ≤ 1000) : runD (Ck ds gl 200 (n + 1)) d__law_text [.pl (.list (nl ws))] = some (.ok (.pl (twO (tw ws 0 []))), []) := by
  obtain ⟨q, q1, q2⟩ := ltext_go n ws ws [] [] 0 none none rfl hl rfl rfl
  have e1 : enumP (nl ws) = ws.zipIdx.map fun e => .tuple [.int (e.2 : Nat), .int (e.1 : Nat)] := enumP_map _ ws
  have q1 : forGo (bodyF (Ck ds gl 200 (n + 1)) (.tp [2, 3]) b__law_text_1b) (ws.zipIdx.map fun e => .tuple [.int (e.2 : Nat), .int (e.1 : Nat)]) [some (.pl (.list (nl ws))), some (.pl (.str (Str.ofString ""))), none, none] = some q := q1
  rw [← e1] at q1
  rw [go__law_text _ _ rfl rfl]
  rcases q2 with ⟨as', r', p2, p3, e2, rfl⟩ | ⟨r', e, e2, rfl⟩
  · rw [e2]
    simp [b__law_text, b__law_text_0, startE, b__law_text_1, exec_forr, evJ, sh, fz, enmO, seqI, q1, b__law_text_2, twO, mkT, plains]
  · rw [e2]
    simp [b__law_text, b__law_text_0, startE, b__law_text_1, exec_forr, evJ, sh, fz, enmO, seqI, q1, b__law_text_2, twO]
end Kx

set_option maxRecDepth 100000
set_option maxHeartbeats 4000000
namespace Kx
open PySem L2 G
theorem un_num {k : Nat} (h : k < 47) : un (num k) = k ∧ ¬ 46 < num k := by
  unfold num un
  by_cases h46 : k = 46
  · subst h46
    exact ⟨rfl, by decide⟩
  · rw [if_neg h46, if_neg (by omega)]
    omega
theorem tw_num : ∀ (ks acc : List Nat) (r : Nat), (∀ k ∈ ks, k < 47) → ∃ r', tw (ks.map num) r acc = (some (acc ++ ks), r')
  | [], acc, r, _ => ⟨r, by rw [List.append_nil]; rfl⟩
  | k :: ks, acc, r, h => by
    obtain ⟨h1, h2⟩ := un_num (h k (by simp))
    obtain ⟨r', e⟩ := tw_num ks (acc ++ [un (num k)]) (if num k = 0 then r + 1 else r) fun x hx => h x (by simp [hx])
    refine ⟨r', ?_⟩
    rw [List.map_cons, tw, if_neg h2, e, h1, List.append_assoc]
    rfl
theorem boolsP_map {α : Type} : ∀ xs : List α, boolsP (xs.map fun _ => .bool true) = some (xs.map fun _ => true)
  | [] => rfl
  | x :: xs => by rw [List.map_cons, boolsP, boolsP_map xs]; rfl
@[simp] theorem isO_nn : isO (.pl .none) (.pl .none) = some true := rfl
@[simp] theorem isO_ns (s : Str) : isO (.pl (.str s)) (.pl .none) = some false := rfl
@[simp] theorem isO_nl (xs : List P) : isO (.pl (.list xs)) (.pl .none) = some false := rfl
@[simp] theorem isO_nf (xs : List P) : isO (.fl xs) (.pl .none) = some false := rfl
@[simp] theorem isO_ni (k : Int) : isO (.pl (.int k)) (.pl .none) = some false := rfl
theorem whole_ev (c : Ct) (k : Int) : runD c d__law_whole [.pl (.int k)] = some (.ok (.pl (.bool true)), []) := by
  rw [go__law_whole _ _ rfl rfl]
  simp [b__law_whole, b__law_whole_0, startE]
theorem eqP_nl (xs : List Nat) : eqP (.list (nl xs)) (.list (nl xs)) = some true := eqP_self (by rw [PyData.canLay0]; exact nl_lay xs) (by rw [PyData.depth, nl_deep]; omega)
theorem isw_none (n : Nat) : runD (Ck ds gl 200 (n + 1)) d__law_is_words [.pl .none, .pl .none] = some (.ok (.pl (.bool true)), []) := by
  rw [go__law_is_words _ _ rfl rfl]
  simp [b__law_is_words, b__law_is_words_0, b__law_is_words_1, startE]
theorem isw_list (n : Nat) (xs : List Nat) (hl : xs.length ≤ 1000) : runD (Ck ds gl 200 (n + 1)) d__law_is_words [.pl (.list (nl xs)), .pl (.list (nl xs))] = some (.ok (.pl (.bool true)), []) := by
  have e := eqP_nl xs
  have lc := lc_map (f := lcB (Ck ds gl 200 (n + 1)) [some (.pl (.list (nl xs))), some (.pl (.list (nl xs))), none] [2] (.nm 2) .none (.call 5 (.cons (.var 2) .nil))) (fun k : Nat => .int (k : Int)) (fun _ : Nat => .bool true) xs (by omega) fun k _ => by
    have w := whole_ev (Ck ds gl 200 n) (k : Int)
    simp [lcB, lcF, setTg, wipeE, w]
  have lc : lcO (lcB (Ck ds gl 200 (n + 1)) [some (.pl (.list (nl xs))), some (.pl (.list (nl xs))), none] [2] (.nm 2) .none (.call 5 (.cons (.var 2) .nil))) (some (nl xs)) = some (.fl (xs.map fun _ => .bool true)) := lc
  rw [go__law_is_words _ _ rfl rfl]
  have b := boolsP_map xs
  simp [b__law_is_words, b__law_is_words_0, b__law_is_words_1, startE, evI, e, lc, b, fz]
theorem ch_ok : ∀ k, ch k < 55296 := fun k => by
  have h : ∀ c ∈ CH, c < 55296 := by decide +kernel
  unfold ch
  rw [List.getD_eq_getElem?_getD]
  cases z : CH[k]? with
  | none => exact by decide
  | some c => exact h c (List.mem_of_getElem? z)
theorem strOk_sT (ks : List Nat) : PyData.strOk (sT ks) = true := by
  unfold PyData.strOk sT
  simp only [List.all_toArray, List.all_map, List.all_eq_true]
  intro k _
  have := ch_ok k
  simp
  omega
theorem told_eq (x : Option (List Nat) × Nat) : eqP (twO x) (twO x) = some true := by
  unfold twO
  cases x.1 with
  | none => exact eqP_self (by simp [PyData.canLay0, PyData.canLayAll0]) (by simp [PyData.depth, PyData.depthAll])
  | some as' => exact eqP_self (by simp [PyData.canLay0, PyData.canLayAll0, strOk_sT]) (by simp [PyData.depth, PyData.depthAll])
theorem told_ev (n : Nat) (x : Option (List Nat) × Nat) : runD (Ck ds gl 200 (n + 1)) d__law_is_told [.pl (twO x), .pl (twO x)] = some (.ok (.pl (.bool true)), []) := by
  have e := told_eq x
  obtain ⟨a, r⟩ := x
  rw [go__law_is_told _ _ rfl rfl]
  cases a with
  | none =>
    have w := whole_ev (Ck ds gl 200 n) (r : Int)
    simp only [twO] at e ⊢
    simp [b__law_is_told, b__law_is_told_0, b__law_is_told_1, b__law_is_told_2, startE, e, w]
  | some as' =>
    simp only [twO] at e ⊢
    simp [b__law_is_told, b__law_is_told_0, b__law_is_told_1, b__law_is_told_2, startE, e]
theorem mixed_ev (c : Ct) (n i : Int) (hi : 0 ≤ i ∧ i ≤ 1000000) : ∃ r : Int, runD c d__law_mixed [.pl (.int n), .pl (.int i)] = some (.ok (.pl (.int r)), []) := by
  have m0 : mulOk 7 i := .inl (by omega)
  have m1 : mulOk (n % 1000000007 + 7 * i + 1) 48271 := .inl (by omega)
  have m2 : ∀ x y : Int, mulOk (x % 2147483647) y := fun x y => .inl (by omega)
  have m3 : ∀ x y : Int, mulOk (x % 998244353) y := fun x y => .inl (by omega)
  exact ⟨_, by rw [go__law_mixed _ _ rfl rfl]; simp [b__law_mixed, b__law_mixed_0, b__law_mixed_1, b__law_mixed_2, startE, m0, m1, m2, m3]; rfl⟩
theorem digits_ev (n : Nat) (cell : Int) : ∃ ds' : List Nat, runD (Ck ds gl 200 (n + 1)) d__law_digits [.pl (.int cell)] = some (.ok (.fl (nl ds')), []) ∧ ds'.length = 60 ∧ ∀ d ∈ ds', d < 840 := by
  obtain ⟨env', k1, xs, r, o3, rfl, q1, q2⟩ := for_inv (f := bodyF (Ck ds gl 200 (n + 1)) (.nm 3) b__law_digits_2b)
    (fun j e => ∃ (xs : List Nat) (r : Int) (o3 : Option O), e = [some (.pl (.int cell)), some (.fl (nl xs)), some (.pl (.int r)), o3] ∧ xs.length = j ∧ ∀ d ∈ xs, d < 840)
    (rangeP 0 60) 0 [some (.pl (.int cell)), some (.fl (nl [])), some (.pl (.int cell)), none]
    ⟨[], cell, none, rfl, rfl, fun d h => (by cases h)⟩ (by
      rintro j p e hp ⟨xs, r, o3, rfl, q1, q2⟩
      obtain ⟨rfl, hj⟩ := rangeP_get hp
      have hj : j < 60 := by simpa using hj
      have sz : xs.length < 16777216 := by omega
      have grow : ∀ v : Nat, v < 840 → ∀ d ∈ xs ++ [v], d < 840 := fun v hv d hd => by
        rcases List.mem_append.mp hd with z | z
        · exact q2 d z
        · rw [List.mem_singleton.mp z]
          exact hv
      have na : ∀ v : Nat, nl (xs ++ [v]) = nl xs ++ [.int (v : Int)] := fun v => List.map_append ..
      have hc : (1000000000000000000 : Int) ≤ cell ∨ ¬ (1000000000000000000 : Int) ≤ cell := by omega
      rcases hc with hc | hc
      · obtain ⟨v, hv, hv2⟩ : ∃ v : Nat, r % 840 = (v : Int) ∧ v < 840 := ⟨(r % 840).toNat, by omega, by omega⟩
        refine ⟨[some (.pl (.int cell)), some (.fl (nl (xs ++ [v]))), some (.pl (.int (r / 840))), some (.pl (.int (0 + (j : Int))))], ?_, xs ++ [v], _, _, rfl, by simp; omega, grow v hv2⟩
        rw [na]
        simp [bodyF, b__law_digits_2b, b__law_digits_2b_0, hc, hv, fz, sz]
      · obtain ⟨m, hm⟩ := mixed_ev (Ck ds gl 200 n) cell ((j : Int) + 11) (by omega)
        obtain ⟨v, hv, hv2⟩ : ∃ v : Nat, m % 840 = (v : Int) ∧ v < 840 := ⟨(m % 840).toNat, by omega, by omega⟩
        refine ⟨[some (.pl (.int cell)), some (.fl (nl (xs ++ [v]))), some (.pl (.int r)), some (.pl (.int (0 + (j : Int))))], ?_, xs ++ [v], _, _, rfl, by simp; omega, grow v hv2⟩
        rw [na]
        simp [bodyF, b__law_digits_2b, b__law_digits_2b_0, hc, hm, hv, fz, sz])
  have hok : okI (60 : Int) := by decide
  have z : 0 + (rangeP 0 60).length = 60 := rfl
  rw [z] at q1
  refine ⟨xs, ?_, q1, q2⟩
  have k1 : forGo (bodyF (Ck ds gl 200 (n + 1)) (.nm 3) b__law_digits_2b) (rangeP 0 60) [some (.pl (.int cell)), some (.fl []), some (.pl (.int cell)), none] = _ := k1
  rw [go__law_digits _ _ rfl rfl]
  simp [b__law_digits, b__law_digits_0, b__law_digits_1, startE, mkL, fzs, b__law_digits_2, exec_forr, evJ, hok, k1, b__law_digits_3]
theorem spoilt_ev (c : Ct) (xs ss : List P) (ds' : List Nat) (h60 : ds'.length = 60) (hl : xs.length ≤ 1000) (hs : 0 < ss.length) (hs2 : ss.length ≤ 1000) : ∃ o, runD c d__law_spoilt [.pl (.list xs), .pl (.list (nl ds')), .pl (.list ss)] = some (.ok o, []) ∧
    (o = .pl (.list xs) ∨ ∃ a s, a ≤ xs.length ∧ s ∈ ss ∧ o = .fl ((xs.take a ++ [s]) ++ xs.drop a)) := by
  have a58 := nl_at ds' 58 (by omega)
  have a59 := nl_at ds' 59 (by omega)
  have a57 := nl_at ds' 57 (by omega)
  have a58 : atI (nl ds') 58 = _ := a58
  have a59 : atI (nl ds') 59 = _ := a59
  have a57 : atI (nl ds') 57 = _ := a57
  generalize ds'.getD 58 0 = d58 at *
  generalize ds'.getD 59 0 = d59 at *
  generalize ds'.getD 57 0 = d57 at *
  have hm : (d58 : Int) % 2 = 0 ∨ ¬ (d58 : Int) % 2 = 0 := by omega
  rw [go__law_spoilt _ _ rfl rfl]
  rcases hm with hm | hm
  · exact ⟨.pl (.list xs), by simp [b__law_spoilt, b__law_spoilt_0, startE, a58, hm], .inl rfl⟩
  · have e1 : (d59 : Int) % ((xs.length : Int) + 1) = ((d59 % (xs.length + 1) : Nat) : Int) := (Int.natCast_emod ..).symm
    have e2 : (d57 : Int) % (ss.length : Int) = ((d57 % ss.length : Nat) : Int) := (Int.natCast_emod ..).symm
    have l1 := Nat.mod_lt d59 (show 0 < xs.length + 1 by omega)
    have l2 := Nat.mod_lt d57 hs
    generalize d59 % (xs.length + 1) = a at *
    generalize d57 % ss.length = q at *
    have as1 : atI ss (q : Int) = some ss[q] := by
      rw [G.atI_nat]
      exact List.getElem?_eq_getElem l2
    have ct := cut_take' xs a
    have cd := cut_drop' xs a
    have p1 : (0 : Int) < (xs.length : Int) + 1 := by omega
    have p2 : (0 : Int) < (ss.length : Int) := by omega
    have s0 : min a xs.length = a := by omega
    have s1 : a ≤ 16777215 := by omega
    have s2 : a + 1 + (xs.length - a) ≤ 16777216 := by omega
    have s3 : a + (xs.length - a + 1) ≤ 16777216 := by omega
    refine ⟨.fl ((xs.take a ++ [ss[q]]) ++ xs.drop a), ?_, .inr ⟨a, ss[q], by omega, List.getElem_mem l2, rfl⟩⟩
    generalize ss[q] = s at *
    simp [b__law_spoilt, b__law_spoilt_0, b__law_spoilt_1, b__law_spoilt_2, startE, a58, hm, a59, a57, e1, e2, p1, p2, hs, as1, ct, cd, mkL, fzs, fz, addL, s0, s1, s2, s3]
end Kx

set_option maxRecDepth 100000
set_option maxHeartbeats 8000000
namespace Kx
open PySem L2 G
def sL (ks : List Nat) : List P := ks.map fun k => .str (cs1 k)
theorem str8 : [PyData.str ".", PyData.str "A", PyData.str "*", PyData.str "_", PyData.str "~", PyData.str ":", PyData.str ">", PyData.str "|"] = sL [47, 48, 49, 50, 51, 52, 53, 54] := rfl
theorem spoilt_s (c : Ct) (ks : List Nat) (ds' : List Nat) (h60 : ds'.length = 60) (hl : ks.length ≤ 40) (hk : ∀ k ∈ ks, k < 47) : ∃ o ks', runD c d__law_spoilt [.pl (.list (sL ks)), .pl (.list (nl ds')), .pl (.list (sL [47, 48, 49, 50, 51, 52, 53, 54]))] = some (.ok o, []) ∧
    seqI o = some (sL ks') ∧ (∀ k ∈ ks', k < 55) ∧ ks'.length ≤ 41 := by
  have l1 : (sL ks).length = ks.length := List.length_map ..
  obtain ⟨o, h, hq⟩ := spoilt_ev c (sL ks) (sL [47, 48, 49, 50, 51, 52, 53, 54]) ds' h60 (by omega) (by decide) (by decide)
  rcases hq with rfl | ⟨a, s, ha, hs, rfl⟩
  · exact ⟨_, ks, h, rfl, fun k hk' => by have := hk k hk'; omega, by omega⟩
  · obtain ⟨k0, hk0, rfl⟩ := List.mem_map.mp hs
    refine ⟨_, (ks.take a ++ [k0]) ++ ks.drop a, h, ?_, ?_, ?_⟩
    · show some _ = some _
      congr 1
      unfold sL
      rw [List.map_append, List.map_append, List.map_take, List.map_drop]
      rfl
    · intro k hk'
      rcases List.mem_append.mp hk' with z | z
      · rcases List.mem_append.mp z with z | z
        · have := hk k (List.mem_of_mem_take z)
          omega
        · rw [List.mem_singleton.mp z]
          simp only [List.mem_cons, List.not_mem_nil, or_false] at hk0
          omega
      · have := hk k (List.mem_of_mem_drop z)
        omega
    · rw [List.length_append, List.length_append, List.length_take, List.length_drop]
      simp
      omega
theorem spoilt_w (c : Ct) (ws ss : List Nat) (ds' : List Nat) (h60 : ds'.length = 60) (hl : ws.length ≤ 40) (hs0 : 0 < ss.length) (hs2 : ss.length ≤ 1000) : ∃ o ws', runD c d__law_spoilt [.pl (.list (nl ws)), .pl (.list (nl ds')), .pl (.list (nl ss))] = some (.ok o, []) ∧
    fz o = some (.list (nl ws')) ∧ ws'.length ≤ 41 := by
  have l1 := nl_len ws
  have l2 := nl_len ss
  obtain ⟨o, h, hq⟩ := spoilt_ev c (nl ws) (nl ss) ds' h60 (by omega) (by omega) (by omega)
  rcases hq with rfl | ⟨a, s, ha, hs, rfl⟩
  · exact ⟨_, ws, h, by rw [fz], by omega⟩
  · obtain ⟨k0, hk0, rfl⟩ := List.mem_map.mp hs
    refine ⟨_, (ws.take a ++ [k0]) ++ ws.drop a, h, ?_, ?_⟩
    · rw [fz]
      congr 2
      unfold nl
      rw [List.map_append, List.map_append, List.map_take, List.map_drop]
      rfl
    · rw [List.length_append, List.length_append, List.length_take, List.length_drop]
      simp
      omega
theorem strs_sL (ks : List Nat) : strsP (sL ks) = some (ks.map cs1) := strs_c1 ks
theorem joinO_sL (ks : List Nat) (hl : ks.length ≤ 1000) : joinO (Str.ofString "") (some (ks.map cs1)) = some (.pl (.str (sT ks))) := by
  have s2 := sum_c1 ks
  have j := join_sT ks
  show (if ((ks.map cs1).map (·.length)).sum + (ks.map cs1).length * (Str.ofString "").length ≤ 16777216 then some (O.pl (.str (Txt.join "" (ks.map cs1)))) else none) = _
  rw [s2, j, if_pos (by
    have : (Str.ofString "").length = 0 := rfl
    rw [this]
    omega)]
theorem law_true : ∀ ns : List Int, ns.length ≤ 63 → runD (Ck ds gl 200 6) d_law [.pl (.list (ns.map .int))] = some (.ok (.pl (.bool true)), []) := by
  intro ns hl
  obtain ⟨cs, hcs⟩ : ∃ cs, ns.take 30 ++ [(ns.length : Int)] = cs := ⟨_, rfl⟩
  have hcl : cs.length ≤ 31 := by rw [← hcs]; simp; omega
  have hit : il (ns.take 30) ++ [.int (ns.length : Int)] = il cs := by
    rw [← hcs]
    have h : il (ns.take 30 ++ [(ns.length : Int)]) = il (ns.take 30) ++ [.int (ns.length : Int)] := List.map_append ..
    exact h.symm
  have ct : cutP (il ns) none (some 30) = il (ns.take 30) := by
    have := cut_take' (il ns) 30
    unfold il at this ⊢
    rw [List.map_take]
    exact this
  have ll : (il (ns.take 30)).length ≤ 30 := by unfold il; simp; omega
  have iln : (il ns).length = ns.length := List.length_map ..
  refine Post.eq rfl rfl ?_
  show Post (fun r => finD [] r = _) (execs _ b_law (some (.nx, [some (.pl (.list (il ns))), none, none, none, none, none, none, none, none, none, none])))
  rw [b_law]
  refine Post.go ?_
  rw [G.execs, G.execs]
  refine Post.step ?_
  refine Post.for (il cs) (fun j e => ∃ o1 o2 o3 o4 o5 o6 o7 o8 o9 : Option O, e = [some (.pl (.list (il ns))), o1, o2, o3, o4, o5, o6, o7, o8, o9, none]) ?_ ⟨none, none, none, none, none, none, none, none, none, rfl⟩ ?_ ?_
  · generalize il (ns.take 30) = A at *
    have s1 : A.length + 1 ≤ 16777216 := by omega
    have s2 : A.length ≤ 16777215 := by omega
    simp [evJ, sh, fz, fzs, mkL, addL, ct, iln, s1, s2, hit]
  · rintro j p e hp ⟨o1, o2, o3, o4, o5, o6, o7, o8, o9, rfl⟩
    obtain ⟨cell, hcell, rfl⟩ := map_get hp
    clear hp hit
    obtain ⟨ds', hd, h60, bd⟩ := digits_ev 4 cell
    have a56 := nl_at ds' 56 (by omega)
    have a56 : atI (nl ds') 56 = _ := a56
    obtain ⟨m, hm, hm2⟩ : ∃ m : Nat, (ds'.getD 56 0 : Int) % 41 = (m : Int) ∧ m ≤ 40 := ⟨ds'.getD 56 0 % 41, by omega, by omega⟩
    generalize ds'.getD 56 0 = d56 at *
    have sg := signs_ev 5
    have ct1 := cut_take' (nl ds') m
    have ct1 : cutP (nl ds') none (some (m : Int)) = nl (ds'.take m) := by
      rw [ct1]
      unfold nl
      rw [List.map_take]
    obtain ⟨ks, hks⟩ : ∃ ks, (ds'.take m).map (fun d => d % 47) = ks := ⟨_, rfl⟩
    have lks : ks.length ≤ 40 := by rw [← hks, List.length_map, List.length_take]; omega
    have bks : ∀ k ∈ ks, k < 47 := fun k hk => by
      rw [← hks] at hk
      obtain ⟨d, _, rfl⟩ := List.mem_map.mp hk
      omega
    have sl : (SG ++ ("\n" : Str)).length = 47 := rfl
    have l9 : SG.length = 46 := rfl
    have l0 : (Str.ofString "\n").length = 1 := rfl
    have lc1 := lc_map (f := lcB (Ck ds gl 200 6) [some (.pl (.list (il ns))), some (.pl (.int cell)), some (.pl (.list (nl ds'))), some (.pl (.int (m : Int))), o4, o5, o6, o7, o8, o9, none] [10] (.nm 10) .none (.idx (.bin .Add (.call 4 .nil) (.lit (.str "\n"))) (.bin .Mod (.var 10) (.lit (.int 47)))))
      (fun d : Nat => .int (d : Int)) (fun d : Nat => .str (cs1 (d % 47))) (ds'.take m) (by rw [List.length_take]; omega) fun d _ => by
      have a2 := at2 (d % 47) (by omega)
      have ed : (d : Int) % 47 = ((d % 47 : Nat) : Int) := by omega
      have hc : (⟨#[ch (d % 47)]⟩ : Str) = cs1 (d % 47) := rfl
      generalize d % 47 = k at *
      generalize ((k : Nat) : Int) = K at *
      simp [lcB, lcF, setTg, wipeE, sg, ed, idxS, sl, l9, l0, a2, hc]
    have lc1 : lcO (lcB (Ck ds gl 200 6) [some (.pl (.list (il ns))), some (.pl (.int cell)), some (.pl (.list (nl ds'))), some (.pl (.int (m : Int))), o4, o5, o6, o7, o8, o9, none] [10] (.nm 10) .none (.idx (.bin .Add (.call 4 .nil) (.lit (.str "\n"))) (.bin .Mod (.var 10) (.lit (.int 47))))) (some (nl (ds'.take m))) = some (.fl (sL ks)) := by
      rw [← hks]
      unfold sL
      rw [List.map_map]
      exact lc1
    obtain ⟨osp, ts, hsp, hsq, bts, lts⟩ := spoilt_s (Ck ds gl 200 5) ks ds' h60 lks bks
    have st1 := strs_sL ts
    have jn := joinO_sL ts (by omega)
    have nev := numbers_ev 4 ts bts (by omega)
    have wev := words_ev 5 ts bts (by omega)
    obtain ⟨vs, hvs⟩ : ∃ vs, ((ds'.take (10 + m)).drop 10).map (fun d => d % 47) = vs := ⟨_, rfl⟩
    have lvs : vs.length ≤ 40 := by rw [← hvs, List.length_map, List.length_drop, List.length_take]; omega
    have ct2 := cut_both (nl ds') 10 (10 + m)
    have ct2 : cutP (nl ds') (some 10) (some ((10 : Int) + (m : Int))) = nl ((ds'.take (10 + m)).drop 10) := by
      have e : ((10 + m : Nat) : Int) = (10 : Int) + (m : Int) := by omega
      rw [e] at ct2
      have ct2 : cutP (nl ds') (some 10) (some ((10 : Int) + (m : Int))) = _ := ct2
      rw [ct2]
      unfold nl
      rw [List.map_drop, List.map_take]
    obtain ⟨ow, ws, hw, hwz, lws⟩ := spoilt_w (Ck ds gl 200 5) vs [47, 48, 100, 4095, 65535] ds' h60 lvs (by decide) (by decide)
    have hw : runD (Ck ds gl 200 5) d__law_spoilt [.pl (.list (nl vs)), .pl (.list (nl ds')), .pl (.list [.int 47, .int 48, .int 100, .int 4095, .int 65535])] = some (.ok ow, []) := hw
    have tev := text_ev 5 ws (by omega)
    have lev := ltext_ev 4 ws (by omega)
    have tld := told_ev 4 (tw ws 0 [])
    have ews := eqP_nl ws
    have s8 := str8
    simp only [bodyF, b_law_0b, setTg]
    simp [b_law_0b_0, hd, fz]
    simp [b_law_0b_1, a56, hm]
    simp [b_law_0b_2, evI, ct1, lc1, fz]
    simp [b_law_0b_3, mkL, fzs, fz, s8, hsp, hsq, st1, jn]
    have lc2 := fun (p6 p7 : Option O) => lc_map (f := lcB (Ck ds gl 200 6) [some (.pl (.list (il ns))), some (.pl (.int cell)), some (.pl (.list (nl ds'))), some (.pl (.int (m : Int))), some (.pl (.list (sL ks))), some (.pl (.str (sT ts))), p6, p7, o8, o9, none] [10] (.nm 10) .none (.bin .Mod (.var 10) (.lit (.int 47))))
      (fun d : Nat => .int (d : Int)) (fun d : Nat => .int ((d % 47 : Nat) : Int)) ((ds'.take (10 + m)).drop 10) (by rw [List.length_drop, List.length_take]; omega) fun d _ => by
      simp [lcB, lcF, setTg, wipeE]
    have nvs : ((ds'.take (10 + m)).drop 10).map (fun d : Nat => PyData.int ((d % 47 : Nat) : Int)) = nl vs := by
      rw [← hvs]
      unfold nl
      rw [List.map_map]
      rfl
    have lc2 : ∀ p6 p7 : Option O, lcO (lcB (Ck ds gl 200 6) [some (.pl (.list (il ns))), some (.pl (.int cell)), some (.pl (.list (nl ds'))), some (.pl (.int (m : Int))), some (.pl (.list (sL ks))), some (.pl (.str (sT ts))), p6, p7, o8, o9, none] [10] (.nm 10) .none (.bin .Mod (.var 10) (.lit (.int 47)))) (some (nl ((ds'.take (10 + m)).drop 10))) = some (.fl (nl vs)) := fun p6 p7 => by
      rw [← nvs]
      exact lc2 p6 p7
    generalize hTW : twO (tw ws 0 []) = TW at *
    by_cases ha : ts.all (· < 47) = true
    · have bts2 : ∀ k ∈ ts, k < 47 := fun k hk => by simpa using List.all_eq_true.mp ha k hk
      have hn : nmO ts = .fl (nl (ts.map num)) := by unfold nmO; rw [if_pos ha]
      rw [hn] at nev wev
      obtain ⟨r', htw⟩ := tw_num ts [] 0 bts2
      rw [List.nil_append] at htw
      have tev2 := text_ev 5 (ts.map num) (by rw [List.length_map]; omega)
      rw [htw] at tev2
      have tld2 := told_ev 4 (some ts, r')
      have hto : twO (some ts, r') = .tuple [.str (sT ts), .none] := rfl
      rw [hto] at tev2 tld2
      have isw := isw_list 4 (ts.map num) (by rw [List.length_map]; omega)
      have enu := eqP_nl (ts.map num)
      have lnu : (ts.map num).length < 16777216 := by rw [List.length_map]; omega
      generalize ts.map num = NU at *
      simp [b_law_0b_4, nev, fz]
      simp [b_law_0b_5, wev]
      simp [b_law_0b_6, isw, fz]
      simp [b_law_0b_7, tev2, tld2, enu, fz, mkT, plains]
      simp [b_law_0b_8, evI, ct2, lc2, hw, hwz, mkL, fzs, fz]
      simp [b_law_0b_9, fz]
      simp [b_law_0b_10, tev, lev, tld, ews, fz]
      simp [b_law_0b_11, wev, isw, lnu, fz]
      exact Or.inl ⟨_, rfl, _, _, _, _, _, _, _, _, _, rfl⟩
    · have hn : nmO ts = .pl .none := by unfold nmO; rw [if_neg ha]
      rw [hn] at nev wev
      have isn := isw_none 4
      simp [b_law_0b_4, nev, fz]
      simp [b_law_0b_5, wev]
      simp [b_law_0b_6, isn, fz]
      simp [b_law_0b_7]
      simp [b_law_0b_8, evI, ct2, lc2, hw, hwz, mkL, fzs, fz]
      simp [b_law_0b_9, fz]
      simp [b_law_0b_10, tev, lev, tld, ews, fz]
      simp [b_law_0b_11]
      exact Or.inl ⟨_, rfl, _, _, _, _, _, _, _, _, _, rfl⟩
  · rintro e ⟨o1, o2, o3, o4, o5, o6, o7, o8, o9, rfl⟩
    simp [Post, b_law_1]
end Kx

namespace Kx
open PySem L2 G
theorem fin {w : World} {K : PySem.W.Frag} {h : Heap} {mg : Str → Option Value} {fa f : Addr} {Pr : Program} {kV dc pm cd ct : Value} {an : Option Addr} (X : K.In h) (G : h.Ns mainGlobals mg) (hmg : mg "law" = some (.ref fa)) (A : ProgOk K mg T ds gl ∧ (mg "law" = some (.ref f) ∧ DefC K T d_law f (PySem.W.fnOf "law" "law" (defArgs s11) (defBody s11) (defScope s11) .none kV dc pm an cd ct) P11)) :
    ∃ fd : FuncData, (∀ (s : Shared) (u : Value), BindsTo s fd ⟨[u], []⟩ [("_law_script", u)]) ∧ ∀ base : Heap, K.In base → base.Ns mainGlobals mg → FnOk Pr w K mg base (L2.CX Pr w) 7 fa fd ["_law_script"] (spEnd K 63) := by
  have e := hmg.symm.trans A.2.1
  cases e
  exact ⟨_, fun s v => .of_eq rfl, fun base _ _ => end_fn (fuel := 200) (k := 6) (n := 63) A.1 A.2.2 law_true⟩
end Kx
open PySem PySem.W PyProof.Rows L2 G in
set_option maxRecDepth 100000 in
set_option maxHeartbeats 0 in
theorem PySem.Challenge.cw_gatetown_k81_signs_holds : PySem.Challenge.rw_gatetown_k81_signs.Holds := by
  w_on; o_law; k_head; (case hw => w_witness2)
  k_fill
  refine G.walkG (l := PySem.Challenge.rw_gatetown_k81_signs) (n := 63) (k := 7) (x := "_law_script") rfl (by decide) rfl ⟨rfl, by decide, by decide⟩ (fun w h Y => PySem.W.kIn_of Y) ?F
  case F =>
    intro w mg fa h KX G hmg
    refine' Kx.fin KX G hmg (Kx.all_mk (w := w) KX G ?ka0 ?kl0 ?kc0 ?kk0 ?ka1 ?kl1 ?kc1 ?kk1 ?ka2 ?kl2 ?kc2 ?kk2 ?ka3 ?kl3 ?kc3 ?kk3 ?ka4 ?kl4 ?kc4 ?kk4 ?ka5 ?kl5 ?kc5 ?kk5 ?ka6 ?kl6 ?kc6 ?kk6 ?ka7 ?kl7 ?kc7 ?kk7 ?ka8 ?kl8 ?kc8 ?kk8 ?ka9 ?kl9 ?kc9 ?kk9 ?ka10 ?kl10 ?kc10 ?kk10 ?ka11 ?kl11 ?kc11 ?kk11 ?kg0 ?kg1 ?z_len ?z_abs ?z_int ?z_str ?z_list ?z_tuple ?z_max ?z_min ?z_sum ?z_all ?z_any ?z_sorted ?z_isinstance ?z_range ?z_enumerate ?z_zip ?z_reversed ?z_bool ?z_dict)
    (case ka0 => k_is); (case kl0 => k_is); (case kc0 => k_is); (case kk0 => k_is); (case ka1 => k_is); (case kl1 => k_is); (case kc1 => k_is); (case kk1 => k_is); (case ka2 => k_is); (case kl2 => k_is); (case kc2 => k_is); (case kk2 => k_is); (case ka3 => k_is); (case kl3 => k_is); (case kc3 => k_is); (case kk3 => k_is); (case ka4 => k_is); (case kl4 => k_is); (case kc4 => k_is); (case kk4 => k_is); (case ka5 => k_is); (case kl5 => k_is); (case kc5 => k_is); (case kk5 => k_is); (case ka6 => k_is); (case kl6 => k_is); (case kc6 => k_is); (case kk6 => k_is); (case ka7 => k_is); (case kl7 => k_is); (case kc7 => k_is); (case kk7 => k_is); (case ka8 => k_is); (case kl8 => k_is); (case kc8 => k_is); (case kk8 => k_is); (case ka9 => k_is); (case kl9 => k_is); (case kc9 => k_is); (case kk9 => k_is); (case ka10 => k_is); (case kl10 => k_is); (case kc10 => k_is); (case kk10 => k_is); (case ka11 => k_is); (case kl11 => k_is); (case kc11 => k_is); (case kk11 => k_is); (case kg0 => k_is); (case kg1 => k_is); (case z_len => k_is); (case z_abs => k_is); (case z_int => k_is); (case z_str => k_is); (case z_list => k_is); (case z_tuple => k_is); (case z_max => k_is); (case z_min => k_is); (case z_sum => k_is); (case z_all => k_is); (case z_any => k_is); (case z_sorted => k_is); (case z_isinstance => k_is); (case z_range => k_is); (case z_enumerate => k_is); (case z_zip => k_is); (case z_reversed => k_is); (case z_bool => k_is); (case z_dict => k_is)

