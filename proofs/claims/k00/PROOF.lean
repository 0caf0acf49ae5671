import PyProof.Rows.All
import Wide.All
import OpenK.AllK
import Wide.FinOn
import HandS.ForMost
import HandS.ForExc
import HandS.More
import HandS.IsInst
import HandS.Walk
import HandS.Zip
import HandS.Deep
import HandS.Conv
import HandS.Wide
import HandS.TupAny
import HandS.CallSlots
import KE.DataCmp
import KE.SortData
import KE.DatumOrd
import HandS.WordsExc
import HandS.Defaults
import HandS.Style
import HandS.SetFor
import HandS.Strs
import HandS.Dict
import HandS.Text
import PyProof.ReprRoads
import HandS.Head0
import HandS.Head1
import HandS.Head2
import HandS.HeadEnd
import HandS.HeadHook1
import HandS.HeadHook2
import PySem.Challenge.RW_setchooser_k00_integers_names_and_sets
set_option Elab.async false
set_option linter.all false
set_option maxRecDepth 100000
set_option maxHeartbeats 0
set_option autoImplicit false
/-! E1: values, store, what stands in the heap, the judgement of an expression. -/
namespace Eg
open PySem PySem.Spec PyProof.Rows L2

inductive PV where
  | non | bl (b : Bool) | int (i : Int) | str (x : List Nat)
  | tup (xs : List PV) | lst (xs : List PV) | set (xs : List PV)
  | dct (kvs : List (PV × PV))
  | obj (c : Nat) (fs : List (Nat × PV))
  | loc (l : Nat)
  | ty (n : String)
  | scr (ns : List Int)
instance : Inhabited PV := ⟨.non⟩
abbrev s2 (x : List Nat) : Str := ⟨x.toArray⟩
theorem s2_len (x : List Nat) : (s2 x).length = x.length := rfl
theorem s2_of (x : Str) : x = s2 x.cps.toList := by cases x; simp

inductive Cell where
  | lst (xs : List PV) | set (xs : List PV) | dct (kvs : List (PV × PV)) | obj (c : Nat) (fs : List (Nat × PV)) | frz (x : PV)
def Cell.view : Cell → PV
  | .lst xs => .lst xs
  | .set xs => .set xs
  | .dct kvs => .dct kvs
  | .obj c fs => .obj c fs
  | .frz x => x

/-! ### the store -/
inductive Tr where
  | e | n (l : Tr) (v : Option Cell) (r : Tr)
def Tr.get : Tr → Nat → Option Cell
  | .e, _ => none
  | .n l v r, i => match i with
    | 0 => v
    | i + 1 => if i % 2 = 0 then l.get (i / 2) else r.get (i / 2)
def Tr.put : Nat → Tr → Nat → Cell → Tr
  | 0, t, _, _ => t
  | f + 1, t, i, c =>
    let l := match t with | .e => Tr.e | .n l _ _ => l
    let v := match t with | .e => none | .n _ v _ => v
    let r := match t with | .e => Tr.e | .n _ _ r => r
    match i with
    | 0 => .n l (some c) r
    | i + 1 => if i % 2 = 0 then .n (Tr.put f l (i / 2) c) v r else .n l v (Tr.put f r (i / 2) c)
theorem Tr.get_put (c : Cell) : ∀ (f : Nat) (t : Tr) (i j : Nat), i < f → (Tr.put f t i c).get j = if j = i then some c else t.get j
  | 0, _, _, _, h => by omega
  | f + 1, t, 0, j, _ => by
    cases t with
    | e => cases j <;> simp [Tr.put, Tr.get]
    | n l v r => cases j <;> simp [Tr.put, Tr.get]
  | f + 1, t, i + 1, j, h => by
    have ih := Tr.get_put c f
    by_cases hi : i % 2 = 0
    · cases t with
      | e =>
        cases j with
        | zero => simp [Tr.put, Tr.get, hi]
        | succ j =>
          by_cases hj : j % 2 = 0
          · simp only [Tr.put, Tr.get, hi, hj, if_true]
            rw [ih _ _ _ (by omega)]
            by_cases e : j = i
            · subst e; simp
            · rw [if_neg (by omega), if_neg (by omega)]; rfl
          · simp only [Tr.put, Tr.get, hi, hj, if_true, if_false]
            rw [if_neg (by omega)]
      | n l v r =>
        cases j with
        | zero => simp [Tr.put, Tr.get, hi]
        | succ j =>
          by_cases hj : j % 2 = 0
          · simp only [Tr.put, Tr.get, hi, hj, if_true]
            rw [ih _ _ _ (by omega)]
            by_cases e : j = i
            · subst e; simp
            · rw [if_neg (by omega), if_neg (by omega)]
          · simp only [Tr.put, Tr.get, hi, hj, if_true, if_false]
            rw [if_neg (by omega)]
    · cases t with
      | e =>
        cases j with
        | zero => simp [Tr.put, Tr.get, hi]
        | succ j =>
          by_cases hj : j % 2 = 0
          · simp only [Tr.put, Tr.get, hi, hj, if_true, if_false]
            rw [if_neg (by omega)]
          · simp only [Tr.put, Tr.get, hi, hj, if_false]
            rw [ih _ _ _ (by omega)]
            by_cases e : j = i
            · subst e; simp
            · rw [if_neg (by omega), if_neg (by omega)]; rfl
      | n l v r =>
        cases j with
        | zero => simp [Tr.put, Tr.get, hi]
        | succ j =>
          by_cases hj : j % 2 = 0
          · simp only [Tr.put, Tr.get, hi, hj, if_true, if_false]
            rw [if_neg (by omega)]
          · simp only [Tr.put, Tr.get, hi, hj, if_false]
            rw [ih _ _ _ (by omega)]
            by_cases e : j = i
            · subst e; simp
            · rw [if_neg (by omega), if_neg (by omega)]
structure Store where
  tr : Tr
  next : Nat
def Store.get (s : Store) (i : Nat) : Option Cell := s.tr.get i
def Store.put (s : Store) (i : Nat) (c : Cell) : Store := ⟨s.tr.put (i + 1) i c, s.next⟩
def Store.new (s : Store) (c : Cell) : Store := ⟨s.tr.put (s.next + 1) s.next c, s.next + 1⟩
def Store.empty : Store := ⟨.e, 0⟩
theorem Store.get_put (s : Store) (i j : Nat) (c : Cell) : (s.put i c).get j = if j = i then some c else s.get j := Tr.get_put c _ _ _ _ (by omega)
theorem Store.get_new (s : Store) (j : Nat) (c : Cell) : (s.new c).get j = if j = s.next then some c else s.get j := Tr.get_put c _ _ _ _ (by omega)
theorem Store.put_next (s : Store) (i : Nat) (c : Cell) : (s.put i c).next = s.next := rfl
theorem Store.new_next (s : Store) (c : Cell) : (s.new c).next = s.next + 1 := rfl

/-! ### what a computation comes to -/
/-- an exception: its class (by number), its fields -/
structure Exn where
  cls : Nat
  fs : List (Nat × PV)
inductive R (α : Type) where
  | ok (a : α) (st : Store) | exc (e : Exn) (st : Store) | bad
abbrev M (α : Type) := Store → R α
def M.pure {α : Type} (a : α) : M α := fun st => .ok a st
def M.bind {α β : Type} (m : M α) (f : α → M β) : M β := fun st => match m st with
  | .ok a st' => f a st'
  | .exc e st' => .exc e st'
  | .bad => .bad
instance : Monad M where
  pure := M.pure
  bind := M.bind
theorem M.bind_ok {α β : Type} {m : M α} {f : α → M β} {st st' : Store} {a : α} (h : m st = .ok a st') : (m >>= f) st = f a st' := by
  show M.bind m f st = _
  unfold M.bind; rw [h]
theorem M.bind_exc {α β : Type} {m : M α} {f : α → M β} {st st' : Store} {e : Exn} (h : m st = .exc e st') : (m >>= f) st = .exc e st' := by
  show M.bind m f st = _
  unfold M.bind; rw [h]
theorem M.bind_bad {α β : Type} {m : M α} {f : α → M β} {st : Store} (h : m st = .bad) : (m >>= f) st = .bad := by
  show M.bind m f st = _
  unfold M.bind; rw [h]
def M.bad {α : Type} : M α := fun _ => .bad
/-- an answer without a change of the store -/
def M.of {α : Type} : Option α → M α
  | some a => fun st => .ok a st
  | none => fun _ => .bad
/-- an exception inside is not served -/
def M.noexc {α : Type} (m : M α) : M α := fun st => match m st with
  | .ok a st' => .ok a st'
  | _ => .bad
/-- what a value reads as now -/
def view (st : Store) : PV → Option PV
  | .loc l => (st.get l).map Cell.view
  | x => some x

/-! ### the tables of a law -/
structure Tabs where
  /-- names of attributes -/
  nm : Nat → Str
  /-- own classes -/
  cls : Nat → Addr
  /-- classes of exceptions -/
  xcl : Nat → Value
structure Cfg where
  K : PySem.W.Frag
  P : Program
  w : World
  T : Tabs

/-! ### hashes of keys, equality of keys -/
mutual
def hsh (w : World) : PV → Int
  | .int i => hashInt i
  | .bl b => hashInt (if b then 1 else 0)
  | .str x => hashStr w (s2 x)
  | .tup xs => reduceHash (Builtin.Tuple.tupleHashOf (hshs w xs))
  | _ => 0
def hshs (w : World) : List PV → List Int
  | [] => []
  | x :: xs => hsh w x :: hshs w xs
end
mutual
/-- == of data -/
def peq : PV → PV → Bool
  | .non, .non => true
  | .bl a, .bl b => a == b
  | .bl a, .int j => (if a then 1 else 0) == j
  | .int i, .bl b => i == (if b then 1 else 0)
  | .int i, .int j => i == j
  | .str x, .str y => x == y
  | .tup xs, .tup ys => peqs xs ys
  | .lst xs, .lst ys => peqs xs ys
  | _, _ => false
def peqs : List PV → List PV → Bool
  | [], [] => true
  | x :: xs, y :: ys => peq x y && peqs xs ys
  | _, _ => false
end
def dlook (k : PV) : List (PV × PV) → Option PV
  | [] => none
  | (k', v) :: r => if peq k' k then some v else dlook k r
def dput (k v : PV) : List (PV × PV) → List (PV × PV)
  | [] => [(k, v)]
  | (k', v') :: r => if peq k' k then (k', v) :: r else (k', v') :: dput k v r
def ddel (k : PV) : List (PV × PV) → List (PV × PV)
  | [] => []
  | (k', v') :: r => if peq k' k then r else (k', v') :: ddel k r
/-- no two keys are equal -/
def dnd : List (PV × PV) → Bool
  | [] => true
  | (k, _) :: r => (dlook k r).isNone && dnd r

/-! ### the world -/
structure Wo where
  /-- what may change -/
  D : Addr → Prop
  /-- where a location lies -/
  η : Nat → Option Addr
def lockable : HO → Bool
  | .ext _ => true
  | _ => false
/-- at a stands o, maybe locked -/
def Ob (H : Hp) (a : Addr) (o : HO) : Prop := H a = some o ∨ (lockable o = true ∧ ∃ b, H a = some (.frz b o))
theorem Ob.ne {H : Hp} {a : Addr} {o : HO} (h : Ob H a o) : H a ≠ none := by
  rcases h with h | ⟨_, _, h⟩ <;> rw [h] <;> intro z <;> cases z
theorem Ob.pl {H : Hp} {a : Addr} {o : HO} (h : Ob H a o) (l : lockable o = false) : H a = some o := by
  rcases h with h | ⟨z, _⟩
  · exact h
  · rw [l] at z; cases z
/-- a dict's object -/
def DctO (a : Addr) (es : List DictEntry) : HO := .ext fun h => (a == sysModules) = false ∧ es.length ≤ sizeLine ∧ ∃ o ep, h.get? a = some o ∧ o.ExactDict ∧ o.data = .dict es.toArray ep
/-- a list, a tuple that never changes: in the heap, or of the module -/
def FzT (K : PySem.W.Frag) (w : Wo) (H : Hp) (a : Addr) (vs : List V) : Prop :=
  (¬ w.D a ∧ (H a = some (.tup vs) ∨ ∃ o, H a = some (.frz o (.tup vs)))) ∨ ∃ (o : Obj) (its : Array Value) (n : Nat), K.lookup a = some o ∧ o.cls = .type "tuple" ∧ o.data = .seq its n ∧ its.size ≤ sizeLine ∧ Vals vs its.toList
def FzL (K : PySem.W.Frag) (w : Wo) (H : Hp) (a : Addr) (vs : List V) : Prop :=
  (¬ w.D a ∧ (H a = some (.lst vs) ∨ ∃ o, H a = some (.frz o (.lst vs)))) ∨ ∃ (o : Obj) (its : Array Value) (n : Nat), K.lookup a = some o ∧ o.cls = .type "list" ∧ o.dict = none ∧ o.data = .seq its n ∧ its.size ≤ sizeLine ∧ Vals vs its.toList
theorem FzT.sq {K : PySem.W.Frag} {w : Wo} {H : Hp} {a : Addr} {vs : List V} (h : FzT K w H a vs) : SqT K H a vs := by
  rcases h with ⟨_, h⟩ | h
  · exact .inl h
  · exact .inr h
theorem FzL.sq {K : PySem.W.Frag} {w : Wo} {H : Hp} {a : Addr} {vs : List V} (h : FzL K w H a vs) : SqL K H a vs := by
  rcases h with ⟨_, h⟩ | h
  · exact .inl h
  · exact .inr h

section
variable (G : Cfg) (w : Wo) (H : Hp)
mutual
/-- the value v, in the heap, is the pure value -/
inductive Rep : V → PV → Prop
  | non : Rep .non .non
  | bl (b : Bool) : Rep (.bl b) (.bl b)
  | int (i : Int) : Rep (.int i) (.int i)
  | str (x : List Nat) : x.all (fun c => decide (c < 1114112)) = true → Rep (.str (s2 x)) (.str x)
  | tup {a : Addr} {vs : List V} {xs : List PV} : FzT G.K w H a vs → RepL vs xs → Rep (.ref a) (.tup xs)
  | lst {a : Addr} {vs : List V} {xs : List PV} : ¬ w.D a → H a = some (.lst vs) → RepL vs xs → Rep (.ref a) (.lst xs)
  | dct {a : Addr} {es : List DictEntry} {kvs : List (PV × PV)} : ¬ w.D a → Ob H a (DctO a es) → RepD es kvs → dnd kvs = true → Rep (.ref a) (.dct kvs)
  | obj {a dx : Addr} {c : Nat} {vs : List (Str × V)} {fs : List (Nat × PV)} : ¬ w.D a → H a = some (.ins (G.T.cls c) dx vs) → RepF vs fs → Rep (.ref a) (.obj c fs)
  | loc {a : Addr} {l : Nat} : w.η l = some a → Rep (.ref a) (.loc l)
  | ty (n : String) : Rep (.ty n) (.ty n)
  | scr {a : Addr} {ns : List Int} : FzL G.K w H a (ns.map V.int) → Rep (.ref a) (.scr ns)
inductive RepL : List V → List PV → Prop
  | nil : RepL [] []
  | cons {v : V} {vs : List V} {x : PV} {xs : List PV} : Rep v x → RepL vs xs → RepL (v :: vs) (x :: xs)
inductive RepF : List (Str × V) → List (Nat × PV) → Prop
  | nil : RepF [] []
  | cons {v : V} {vs : List (Str × V)} {x : PV} {n : Nat} {xs : List (Nat × PV)} : Rep v x → RepF vs xs → RepF ((G.T.nm n, v) :: vs) ((n, x) :: xs)
inductive RepD : List DictEntry → List (PV × PV) → Prop
  | nil : RepD [] []
  | cons {e : DictEntry} {es : List DictEntry} {kv vv : V} {k x : PV} {xs : List (PV × PV)} : RelV kv e.key → Rep kv k → e.hash = hsh G.w k → RelV vv e.val → Rep vv x → RepD es xs → RepD (e :: es) ((k, x) :: xs)
end
end

/-- from one world to a later one: locations stay, what does not change stays -/
structure Le (w : Wo) (H : Hp) (w' : Wo) (H' : Hp) : Prop where
  loc : ∀ l a, w.η l = some a → w'.η l = some a
  ran : ∀ l a, w'.η l = some a → w.η l = some a ∨ H a = none
  fix : ∀ a, ¬ w.D a → H a ≠ none → ¬ w'.D a
  keep : ∀ a o, (¬ w.D a ∨ ∀ l, w.η l ≠ some a) → Ob H a o → Ob H' a o
  dom : ∀ a, H a ≠ none → H' a ≠ none
  hid : ∀ a, w.D a → H a ≠ none → (∀ l, w.η l ≠ some a) → w'.D a
theorem Le.refl (w : Wo) (H : Hp) : Le w H w H := ⟨fun _ _ h => h, fun _ _ h => .inl h, fun _ h _ => h, fun _ _ _ h => h, fun _ h => h, fun _ h _ _ => h⟩
theorem Le.trans {w w1 w2 : Wo} {H H1 H2 : Hp} (a : Le w H w1 H1) (b : Le w1 H1 w2 H2) : Le w H w2 H2 where
  loc l x h := b.loc l x (a.loc l x h)
  ran l x h := by
    rcases b.ran l x h with h | h
    · exact a.ran l x h
    · refine .inr (Classical.byContradiction fun z => a.dom x z h)
  fix x h n := b.fix x (a.fix x h n) (a.dom x n)
  keep x o h k := by
    refine b.keep x o ?_ (a.keep x o h k)
    rcases h with h | h
    · exact .inl (a.fix x h k.ne)
    · refine .inr fun l z => ?_
      rcases a.ran l x z with z | z
      · exact h l z
      · exact k.ne z
  dom x h := b.dom x (a.dom x h)
  hid x h n k := b.hid x (a.hid x h n k) (a.dom x n) fun l z => by
    rcases a.ran l x z with z | z
    · exact k l z
    · exact n z
theorem Le.exact {w w' : Wo} {H H' : Hp} (e : Le w H w' H') {a : Addr} {o : HO} (d : ¬ w.D a) (h : H a = some o) (n : lockable o = false) : H' a = some o := (e.keep a o (.inl d) (.inl h)).pl n
/-- new things beside the old ones -/
theorem Le.same {w : Wo} {H H' : Hp} (s : Same H H') : Le w H w H' where
  loc _ _ h := h
  ran _ _ h := .inl h
  fix _ h _ := h
  keep a o _ h := by
    rcases h with h | ⟨l, b, h⟩
    · exact .inl (s _ _ h)
    · exact .inr ⟨l, b, s _ _ h⟩
  dom a h n := by
    cases q : H a with
    | none => exact h q
    | some o => rw [s a o q] at n; cases n
  hid _ h _ _ := h
/-- what readings lean on -/
structure LeR (w : Wo) (H : Hp) (w' : Wo) (H' : Hp) : Prop where
  loc : ∀ l a, w.η l = some a → w'.η l = some a
  fix : ∀ a, ¬ w.D a → H a ≠ none → ¬ w'.D a
  keep : ∀ a o, ¬ w.D a → Ob H a o → Ob H' a o
theorem Le.r {w w' : Wo} {H H' : Hp} (e : Le w H w' H') : LeR w H w' H' := ⟨e.loc, e.fix, fun a o d => e.keep a o (.inl d)⟩
theorem LeR.exact {w w' : Wo} {H H' : Hp} (e : LeR w H w' H') {a : Addr} {o : HO} (d : ¬ w.D a) (h : H a = some o) (n : lockable o = false) : H' a = some o := (e.keep a o d (.inl h)).pl n

section
variable {G : Cfg} {w w' : Wo} {H H' : Hp}
theorem FzT.mr (e : LeR w H w' H') {a : Addr} {vs : List V} (h : FzT G.K w H a vs) : FzT G.K w' H' a vs := by
  rcases h with ⟨d, h | ⟨o, h⟩⟩ | h
  · exact .inl ⟨e.fix a d (by rw [h]; simp), .inl (e.exact d h rfl)⟩
  · exact .inl ⟨e.fix a d (by rw [h]; simp), .inr ⟨o, e.exact d h rfl⟩⟩
  · exact .inr h
theorem FzL.mr (e : LeR w H w' H') {a : Addr} {vs : List V} (h : FzL G.K w H a vs) : FzL G.K w' H' a vs := by
  rcases h with ⟨d, h | ⟨o, h⟩⟩ | h
  · exact .inl ⟨e.fix a d (by rw [h]; simp), .inl (e.exact d h rfl)⟩
  · exact .inl ⟨e.fix a d (by rw [h]; simp), .inr ⟨o, e.exact d h rfl⟩⟩
  · exact .inr h
mutual
theorem Rep.mr (e : LeR w H w' H') : ∀ {v : V} {x : PV}, Rep G w H v x → Rep G w' H' v x
  | _, _, .non => .non
  | _, _, .bl b => .bl b
  | _, _, .int i => .int i
  | _, _, .str x h => .str x h
  | _, _, .tup h r => .tup (h.mr (G := G) e) (RepL.mr e r)
  | _, _, .lst d h r => .lst (e.fix _ d (by rw [h]; simp)) (e.exact d h rfl) (RepL.mr e r)
  | _, _, .dct d h r n => .dct (e.fix _ d h.ne) (e.keep _ _ d h) (RepD.mr e r) n
  | _, _, .obj d h r => .obj (e.fix _ d (by rw [h]; simp)) (e.exact d h rfl) (RepF.mr e r)
  | _, _, .loc h => .loc (e.loc _ _ h)
  | _, _, .ty n => .ty n
  | _, _, .scr h => .scr (h.mr (G := G) e)
theorem RepL.mr (e : LeR w H w' H') : ∀ {v : List V} {x : List PV}, RepL G w H v x → RepL G w' H' v x
  | _, _, .nil => .nil
  | _, _, .cons a b => .cons (Rep.mr e a) (RepL.mr e b)
theorem RepF.mr (e : LeR w H w' H') : ∀ {v : List (Str × V)} {x : List (Nat × PV)}, RepF G w H v x → RepF G w' H' v x
  | _, _, .nil => .nil
  | _, _, .cons a b => .cons (Rep.mr e a) (RepF.mr e b)
theorem RepD.mr (e : LeR w H w' H') : ∀ {v : List DictEntry} {x : List (PV × PV)}, RepD G w H v x → RepD G w' H' v x
  | _, _, .nil => .nil
  | _, _, .cons a b c d f g => .cons a (Rep.mr e b) c d (Rep.mr e f) (RepD.mr e g)
end
theorem FzT.mono (e : Le w H w' H') {a : Addr} {vs : List V} (h : FzT G.K w H a vs) : FzT G.K w' H' a vs := FzT.mr (G := G) e.r h
theorem FzL.mono (e : Le w H w' H') {a : Addr} {vs : List V} (h : FzL G.K w H a vs) : FzL G.K w' H' a vs := FzL.mr (G := G) e.r h
theorem Rep.mono (e : Le w H w' H') {v : V} {x : PV} (h : Rep G w H v x) : Rep G w' H' v x := Rep.mr e.r h
theorem RepL.mono (e : Le w H w' H') {v : List V} {x : List PV} (h : RepL G w H v x) : RepL G w' H' v x := RepL.mr e.r h
theorem RepF.mono (e : Le w H w' H') {v : List (Str × V)} {x : List (Nat × PV)} (h : RepF G w H v x) : RepF G w' H' v x := RepF.mr e.r h
theorem RepD.mono (e : Le w H w' H') {v : List DictEntry} {x : List (PV × PV)} (h : RepD G w H v x) : RepD G w' H' v x := RepD.mr e.r h
theorem RepL.length : ∀ {vs : List V} {xs : List PV}, RepL G w H vs xs → vs.length = xs.length
  | _, _, .nil => rfl
  | _, _, .cons _ b => congrArg (· + 1) (RepL.length b)
theorem RepL.get : ∀ {vs : List V} {xs : List PV} (i : Nat) {x : PV}, RepL G w H vs xs → xs[i]? = some x → ∃ v, vs[i]? = some v ∧ Rep G w H v x
  | _, _, _, _, .nil, h => by simp at h
  | _, _, 0, _, .cons a _, h => by simp at h; subst h; exact ⟨_, rfl, a⟩
  | _, _, i + 1, x, .cons _ b, h => by
    obtain ⟨v, h1, h2⟩ := RepL.get i b (by simpa using h)
    exact ⟨v, by simpa using h1, h2⟩
theorem RepL.get' : ∀ {vs : List V} {xs : List PV} (i : Nat) {v : V}, RepL G w H vs xs → vs[i]? = some v → ∃ x, xs[i]? = some x ∧ Rep G w H v x
  | _, _, _, _, .nil, h => by simp at h
  | _, _, 0, _, .cons a _, h => by simp at h; subst h; exact ⟨_, rfl, a⟩
  | _, _, i + 1, x, .cons _ b, h => by
    obtain ⟨v, h1, h2⟩ := RepL.get' i b (by simpa using h)
    exact ⟨v, by simpa using h1, h2⟩
theorem RepL.append : ∀ {vs ws : List V} {xs ys : List PV}, RepL G w H vs xs → RepL G w H ws ys → RepL G w H (vs ++ ws) (xs ++ ys)
  | _, _, _, _, .nil, h => h
  | _, _, _, _, .cons a b, h => .cons a (RepL.append b h)
theorem RepL.one {v : V} {x : PV} (a : Rep G w H v x) : RepL G w H [v] [x] := .cons a .nil
theorem RepL.take : ∀ {vs : List V} {xs : List PV} (n : Nat), RepL G w H vs xs → RepL G w H (vs.take n) (xs.take n)
  | _, _, 0, _ => by simp; exact .nil
  | _, _, _ + 1, .nil => .nil
  | _, _, n + 1, .cons a b => .cons a (RepL.take n b)
theorem RepL.drop : ∀ {vs : List V} {xs : List PV} (n : Nat), RepL G w H vs xs → RepL G w H (vs.drop n) (xs.drop n)
  | _, _, 0, h => h
  | _, _, _ + 1, .nil => .nil
  | _, _, n + 1, .cons _ b => RepL.drop n b
theorem RepL.reverse : ∀ {vs : List V} {xs : List PV}, RepL G w H vs xs → RepL G w H vs.reverse xs.reverse
  | _, _, .nil => .nil
  | _, _, .cons a b => by
    rw [List.reverse_cons, List.reverse_cons]
    exact (RepL.reverse b).append (.one a)
theorem RepL.set {v : V} {x : PV} (r : Rep G w H v x) : ∀ {vs : List V} {xs : List PV} (i : Nat), RepL G w H vs xs → RepL G w H (vs.set i v) (xs.set i x)
  | _, _, _, .nil => .nil
  | _, _, 0, .cons _ b => .cons r b
  | _, _, i + 1, .cons a b => .cons a (RepL.set r i b)
theorem RepL.ints : ∀ (ns : List Int), RepL G w H (ns.map V.int) (ns.map PV.int)
  | [] => .nil
  | n :: ns => .cons (.int n) (RepL.ints ns)
end

/-! ### the store in the heap -/
def CellR (G : Cfg) (w : Wo) (H : Hp) (a : Addr) : Cell → Prop
  | .lst xs => w.D a ∧ ∃ vs, H a = some (.lst vs) ∧ RepL G w H vs xs
  | .set _ => False
  | .dct kvs => w.D a ∧ ∃ es, H a = some (DctO a es) ∧ RepD G w H es kvs ∧ dnd kvs = true
  | .obj c fs => w.D a ∧ ∃ dx vs, H a = some (.ins (G.T.cls c) dx vs) ∧ RepF G w H vs fs
  | .frz x => ¬ w.D a ∧ Rep G w H (.ref a) x
structure Wr (G : Cfg) (w : Wo) (st : Store) (H : Hp) : Prop where
  cell : ∀ l c, st.get l = some c → ∃ a, w.η l = some a ∧ CellR G w H a c
  inj : ∀ l l' a, w.η l = some a → w.η l' = some a → l = l'
  trk : ∀ a, w.D a → H a ≠ none
  ran : ∀ l a, w.η l = some a → H a ≠ none ∧ l < st.next
section
variable {G : Cfg} {w w' : Wo} {H H' : Hp} {st : Store}
theorem Wr.fresh (h : Wr G w st H) {p : Addr} (n : H p = none) : ¬ w.D p := fun d => h.trk p d n
theorem Wr.nloc (h : Wr G w st H) {p : Addr} (n : H p = none) (l : Nat) : w.η l ≠ some p := fun d => (h.ran l p d).1 n
theorem ne_some {H : Hp} {a : Addr} {o : HO} (h : H a = some o) : H a ≠ none := by rw [h]; simp
/-- new things beside the old ones -/
theorem CellR.mr (e : LeR w H w' H') {a : Addr} {c : Cell} (hn : H a ≠ none) (hD : w.D a → w'.D a) (hH : w.D a → H' a = H a) (h : CellR G w H a c) : CellR G w' H' a c := by
  cases c with
  | lst xs => obtain ⟨d, vs, h1, h2⟩ := h; exact ⟨hD d, vs, by rw [hH d]; exact h1, h2.mr e⟩
  | set xs => exact h
  | dct xs => obtain ⟨d, vs, h1, h2, h3⟩ := h; exact ⟨hD d, vs, by rw [hH d]; exact h1, h2.mr e, h3⟩
  | obj c fs => obtain ⟨d, dx, vs, h1, h2⟩ := h; exact ⟨hD d, dx, vs, by rw [hH d]; exact h1, h2.mr e⟩
  | frz x => obtain ⟨d, r⟩ := h; exact ⟨e.fix a d hn, r.mr e⟩
theorem CellR.mono (e : Le w H w' H') {a : Addr} {c : Cell} (hn : H a ≠ none) (hD : w.D a → w'.D a) (hH : w.D a → H' a = H a) (h : CellR G w H a c) : CellR G w' H' a c := CellR.mr e.r hn hD hH h
/-- the heap grows -/
theorem Wr.same (h : Wr G w st H) (s : Same H H') : Wr G w st H' where
  cell l c e := by
    obtain ⟨a, h1, h2⟩ := h.cell l c e
    refine ⟨a, h1, h2.mono (Le.same s) (h.ran l a h1).1 (fun d => d) fun d => ?_⟩
    cases q : H a with
    | none => exact absurd q (h.ran l a h1).1
    | some o => exact s a o q
  inj := h.inj
  trk a d := (Le.same (w := w) s).dom a (h.trk a d)
  ran l a e := ⟨(Le.same (w := w) s).dom a (h.ran l a e).1, (h.ran l a e).2⟩
theorem same_new {H : Hp} {p : Addr} {o : HO} (h : H p = none) : Same H (upd H p o) := fun b x e => by
  rw [upd_ne (ne_of_none e h)]
  exact e
end

/-! ### slots -/
abbrev Fr := List (Option PV)
structure FrR (G : Cfg) (w : Wo) (H : Hp) (σ : L2.St) (ρ : Fr) : Prop where
  len : ρ.length = σ.length
  slot : ∀ (i : Nat) (x : PV), ρ[i]? = some (some x) → ∃ v, σ[i]? = some (some v) ∧ Rep G w H v x
theorem FrR.mono {G : Cfg} {w w' : Wo} {H H' : Hp} {σ : L2.St} {ρ : Fr} (h : FrR G w H σ ρ) (e : Le w H w' H') : FrR G w' H' σ ρ :=
  ⟨h.len, fun i x q => let ⟨v, h1, h2⟩ := h.slot i x q; ⟨v, h1, h2.mono e⟩⟩
theorem FrR.set {G : Cfg} {w : Wo} {H : Hp} {σ : L2.St} {ρ : Fr} (h : FrR G w H σ ρ) {v : V} {x : PV} (r : Rep G w H v x) (i : Nat) : FrR G w H (σ.set i (some v)) (ρ.set i (some x)) := by
  refine ⟨by simp [h.len], fun j y q => ?_⟩
  by_cases e : j = i
  · subst e
    by_cases hl : j < ρ.length
    · rw [List.getElem?_set_self hl] at q
      cases q
      exact ⟨v, by rw [List.getElem?_set_self (by rw [← h.len]; exact hl)], r⟩
    · rw [List.getElem?_eq_none (by simpa using hl)] at q
      cases q
  · rw [List.getElem?_set_ne (Ne.symm e)] at q
    rw [List.getElem?_set_ne (Ne.symm e)]
    exact h.slot j y q
theorem FrR.wipe1 {G : Cfg} {w : Wo} {H : Hp} {σ : L2.St} {ρ : Fr} (h : FrR G w H σ ρ) (i : Nat) : FrR G w H (σ.set i none) (ρ.set i none) := by
  refine ⟨by simp [h.len], fun j y q => ?_⟩
  by_cases e : j = i
  · subst e
    by_cases hl : j < ρ.length
    · rw [List.getElem?_set_self hl] at q
      cases q
    · rw [List.getElem?_eq_none (by simpa using hl)] at q
      cases q
  · rw [List.getElem?_set_ne (Ne.symm e)] at q
    rw [List.getElem?_set_ne (Ne.symm e)]
    exact h.slot j y q
/-- an exception of a class, with its fields -/
def ExR (G : Cfg) (w : Wo) (H : Hp) (cls : Value) (d : Option Addr) (e : Exn) : Prop :=
  cls = G.T.xcl e.cls ∧ (e.fs = [] ∨ ∃ a vs, d = some a ∧ ¬ w.D a ∧ H a = some (.xd vs) ∧ RepF G w H vs e.fs)

/-! ### the judgements -/
abbrev Cx.g (X : Cx) (T : Tabs) : Cfg := ⟨X.K, X.prog, X.w, T⟩
section
variable (X : Cx) (T : Tabs) (W : WX)
/-- what is asked behind an expression -/
def PostE (w : Wo) (σ : L2.St) (H : Hp) (Q : VK) : R PV → Prop
  | .ok x st => ∀ w' v H', Le w H w' H' → Wr (Cx.g X T) w' st H' → Rep (Cx.g X T) w' H' v x → Q v H'
  | .exc e st => ∀ w' cls d H', Le w H w' H' → Wr (Cx.g X T) w' st H' → ExR (Cx.g X T) w' H' cls d e → W cls d σ H'
  | .bad => False
structure RunE (f : Fr → M PV) (w : Wo) (st : Store) (ρ : Fr) (σ : L2.St) (H : Hp) (Q : VK) : Prop where
  wr : Wr (Cx.g X T) w st H
  fr : FrR (Cx.g X T) w H σ ρ
  post : PostE X T W w σ H Q (f ρ st)
def tE (f : Fr → M PV) : TE := fun σ H Q => ∃ w st ρ, RunE X T W f w st ρ σ H Q
/-- an expression is worth f -/
def PP (e : Expr) (f : Fr → M PV) : Prop := PE X e (tE X T W f)
def PostB (w : Wo) (σ : L2.St) (H : Hp) (Q : Bool → Hp → Prop) : R Bool → Prop
  | .ok x st => ∀ w' H', Le w H w' H' → Wr (Cx.g X T) w' st H' → Q x H'
  | .exc e st => ∀ w' cls d H', Le w H w' H' → Wr (Cx.g X T) w' st H' → ExR (Cx.g X T) w' H' cls d e → W cls d σ H'
  | .bad => False
structure RunB (f : Fr → M Bool) (w : Wo) (st : Store) (ρ : Fr) (σ : L2.St) (H : Hp) (Q : Bool → Hp → Prop) : Prop where
  wr : Wr (Cx.g X T) w st H
  fr : FrR (Cx.g X T) w H σ ρ
  post : PostB X T W w σ H Q (f ρ st)
def tT (f : Fr → M Bool) : TT := fun σ H Q => ∃ w st ρ, RunB X T W f w st ρ σ H Q
def PPT (e : Expr) (f : Fr → M Bool) : Prop := PT X e (tT X T W f)
def PPW (e : Expr) (f : Fr → M Bool) : Prop := PW X e (tT X T W f)
def PostA (w : Wo) (σ : L2.St) (H : Hp) (Q : List V → Hp → Prop) : R (List PV) → Prop
  | .ok x st => ∀ w' v H', Le w H w' H' → Wr (Cx.g X T) w' st H' → RepL (Cx.g X T) w' H' v x → Q v H'
  | .exc e st => ∀ w' cls d H', Le w H w' H' → Wr (Cx.g X T) w' st H' → ExR (Cx.g X T) w' H' cls d e → W cls d σ H'
  | .bad => False
structure RunA (f : Fr → M (List PV)) (w : Wo) (st : Store) (ρ : Fr) (σ : L2.St) (H : Hp) (Q : List V → Hp → Prop) : Prop where
  wr : Wr (Cx.g X T) w st H
  fr : FrR (Cx.g X T) w H σ ρ
  post : PostA X T W w σ H Q (f ρ st)
def tA (f : Fr → M (List PV)) : TA := fun σ H Q => ∃ w st ρ, RunA X T W f w st ρ σ H Q
def PPA (es : List Expr) (f : Fr → M (List PV)) : Prop := PA X es (tA X T W f)
end
section
variable {X : Cx} {T : Tabs} {W : WX} {w w' : Wo} {H H' : Hp} {σ : L2.St} {st : Store} {ρ : Fr}
theorem PostE.mono (e : Le w H w' H') {Q : VK} {r : R PV} (h : PostE X T W w σ H Q r) : PostE X T W w' σ H' Q r := by
  cases r with
  | ok x st => exact fun w2 v H2 l => h w2 v H2 (e.trans l)
  | exc x st => exact fun w2 c d H2 l => h w2 c d H2 (e.trans l)
  | bad => exact h
theorem PostB.mono (e : Le w H w' H') {Q : Bool → Hp → Prop} {r : R Bool} (h : PostB X T W w σ H Q r) : PostB X T W w' σ H' Q r := by
  cases r with
  | ok x st => exact fun w2 H2 l => h w2 H2 (e.trans l)
  | exc x st => exact fun w2 c d H2 l => h w2 c d H2 (e.trans l)
  | bad => exact h
theorem PostA.mono (e : Le w H w' H') {Q : List V → Hp → Prop} {r : R (List PV)} (h : PostA X T W w σ H Q r) : PostA X T W w' σ H' Q r := by
  cases r with
  | ok x st => exact fun w2 v H2 l => h w2 v H2 (e.trans l)
  | exc x st => exact fun w2 c d H2 l => h w2 c d H2 (e.trans l)
  | bad => exact h
/-- behind a first expression: expression, test, list -/
theorem RunE.eE {f : Fr → M PV} {k : PV → Fr → M PV} {Q : VK} {Q' : VK} (h : RunE X T W (fun ρ => f ρ >>= fun x => k x ρ) w st ρ σ H Q)
    (step : ∀ w1 st1 x v H1, Le w H w1 H1 → Rep (Cx.g X T) w1 H1 v x → RunE X T W (k x) w1 st1 ρ σ H1 Q → Q' v H1) : tE X T W f σ H Q' := by
  refine ⟨w, st, ρ, h.wr, h.fr, ?_⟩
  have p := h.post
  cases e : f ρ st with
  | ok x st1 => rw [M.bind_ok e] at p; exact fun w1 v H1 l wr r => step w1 st1 x v H1 l r ⟨wr, h.fr.mono l, p.mono l⟩
  | exc x st1 => rw [M.bind_exc e] at p; exact p
  | bad => rw [M.bind_bad e] at p; exact p
theorem RunE.bE {f : Fr → M Bool} {k : Bool → Fr → M PV} {Q : VK} {Q' : Bool → Hp → Prop} (h : RunE X T W (fun ρ => f ρ >>= fun x => k x ρ) w st ρ σ H Q)
    (step : ∀ w1 st1 x H1, Le w H w1 H1 → RunE X T W (k x) w1 st1 ρ σ H1 Q → Q' x H1) : tT X T W f σ H Q' := by
  refine ⟨w, st, ρ, h.wr, h.fr, ?_⟩
  have p := h.post
  cases e : f ρ st with
  | ok x st1 => rw [M.bind_ok e] at p; exact fun w1 H1 l wr => step w1 st1 x H1 l ⟨wr, h.fr.mono l, p.mono l⟩
  | exc x st1 => rw [M.bind_exc e] at p; exact p
  | bad => rw [M.bind_bad e] at p; exact p
theorem RunE.aE {f : Fr → M (List PV)} {k : List PV → Fr → M PV} {Q : VK} {Q' : List V → Hp → Prop} (h : RunE X T W (fun ρ => f ρ >>= fun x => k x ρ) w st ρ σ H Q)
    (step : ∀ w1 st1 x v H1, Le w H w1 H1 → RepL (Cx.g X T) w1 H1 v x → RunE X T W (k x) w1 st1 ρ σ H1 Q → Q' v H1) : tA X T W f σ H Q' := by
  refine ⟨w, st, ρ, h.wr, h.fr, ?_⟩
  have p := h.post
  cases e : f ρ st with
  | ok x st1 => rw [M.bind_ok e] at p; exact fun w1 v H1 l wr r => step w1 st1 x v H1 l r ⟨wr, h.fr.mono l, p.mono l⟩
  | exc x st1 => rw [M.bind_exc e] at p; exact p
  | bad => rw [M.bind_bad e] at p; exact p
theorem RunB.eE {f : Fr → M PV} {k : PV → Fr → M Bool} {Q : Bool → Hp → Prop} {Q' : VK} (h : RunB X T W (fun ρ => f ρ >>= fun x => k x ρ) w st ρ σ H Q)
    (step : ∀ w1 st1 x v H1, Le w H w1 H1 → Rep (Cx.g X T) w1 H1 v x → RunB X T W (k x) w1 st1 ρ σ H1 Q → Q' v H1) : tE X T W f σ H Q' := by
  refine ⟨w, st, ρ, h.wr, h.fr, ?_⟩
  have p := h.post
  cases e : f ρ st with
  | ok x st1 => rw [M.bind_ok e] at p; exact fun w1 v H1 l wr r => step w1 st1 x v H1 l r ⟨wr, h.fr.mono l, p.mono l⟩
  | exc x st1 => rw [M.bind_exc e] at p; exact p
  | bad => rw [M.bind_bad e] at p; exact p
theorem RunB.bE {f : Fr → M Bool} {k : Bool → Fr → M Bool} {Q : Bool → Hp → Prop} {Q' : Bool → Hp → Prop} (h : RunB X T W (fun ρ => f ρ >>= fun x => k x ρ) w st ρ σ H Q)
    (step : ∀ w1 st1 x H1, Le w H w1 H1 → RunB X T W (k x) w1 st1 ρ σ H1 Q → Q' x H1) : tT X T W f σ H Q' := by
  refine ⟨w, st, ρ, h.wr, h.fr, ?_⟩
  have p := h.post
  cases e : f ρ st with
  | ok x st1 => rw [M.bind_ok e] at p; exact fun w1 H1 l wr => step w1 st1 x H1 l ⟨wr, h.fr.mono l, p.mono l⟩
  | exc x st1 => rw [M.bind_exc e] at p; exact p
  | bad => rw [M.bind_bad e] at p; exact p
theorem RunA.eE {f : Fr → M PV} {k : PV → Fr → M (List PV)} {Q : List V → Hp → Prop} {Q' : VK} (h : RunA X T W (fun ρ => f ρ >>= fun x => k x ρ) w st ρ σ H Q)
    (step : ∀ w1 st1 x v H1, Le w H w1 H1 → Rep (Cx.g X T) w1 H1 v x → RunA X T W (k x) w1 st1 ρ σ H1 Q → Q' v H1) : tE X T W f σ H Q' := by
  refine ⟨w, st, ρ, h.wr, h.fr, ?_⟩
  have p := h.post
  cases e : f ρ st with
  | ok x st1 => rw [M.bind_ok e] at p; exact fun w1 v H1 l wr r => step w1 st1 x v H1 l r ⟨wr, h.fr.mono l, p.mono l⟩
  | exc x st1 => rw [M.bind_exc e] at p; exact p
  | bad => rw [M.bind_bad e] at p; exact p
theorem RunA.aE {f : Fr → M (List PV)} {k : List PV → Fr → M (List PV)} {Q : List V → Hp → Prop} {Q' : List V → Hp → Prop} (h : RunA X T W (fun ρ => f ρ >>= fun x => k x ρ) w st ρ σ H Q)
    (step : ∀ w1 st1 x v H1, Le w H w1 H1 → RepL (Cx.g X T) w1 H1 v x → RunA X T W (k x) w1 st1 ρ σ H1 Q → Q' v H1) : tA X T W f σ H Q' := by
  refine ⟨w, st, ρ, h.wr, h.fr, ?_⟩
  have p := h.post
  cases e : f ρ st with
  | ok x st1 => rw [M.bind_ok e] at p; exact fun w1 v H1 l wr r => step w1 st1 x v H1 l r ⟨wr, h.fr.mono l, p.mono l⟩
  | exc x st1 => rw [M.bind_exc e] at p; exact p
  | bad => rw [M.bind_bad e] at p; exact p
/-- at its end -/
theorem RunE.ret {f : Fr → M PV} {Q : VK} (h : RunE X T W f w st ρ σ H Q) {x : PV} {st' : Store} (e : f ρ st = .ok x st') {w' : Wo} {v : V} (l : Le w H w' H') (wr : Wr (Cx.g X T) w' st' H') (r : Rep (Cx.g X T) w' H' v x) : Q v H' := by
  have p := h.post
  rw [e] at p
  exact p w' v H' l wr r
theorem RunE.no {f : Fr → M PV} {Q : VK} (h : RunE X T W f w st ρ σ H Q) (e : f ρ st = .bad) : False := by
  have p := h.post
  rw [e] at p
  exact p
theorem RunB.ret {f : Fr → M Bool} {Q : Bool → Hp → Prop} (h : RunB X T W f w st ρ σ H Q) {x : Bool} {st' : Store} (e : f ρ st = .ok x st') {w' : Wo} (l : Le w H w' H') (wr : Wr (Cx.g X T) w' st' H') : Q x H' := by
  have p := h.post
  rw [e] at p
  exact p w' H' l wr
theorem RunB.no {f : Fr → M Bool} {Q : Bool → Hp → Prop} (h : RunB X T W f w st ρ σ H Q) (e : f ρ st = .bad) : False := by
  have p := h.post
  rw [e] at p
  exact p
theorem RunA.ret {f : Fr → M (List PV)} {Q : List V → Hp → Prop} (h : RunA X T W f w st ρ σ H Q) {x : List PV} {st' : Store} (e : f ρ st = .ok x st') {w' : Wo} {v : List V} (l : Le w H w' H') (wr : Wr (Cx.g X T) w' st' H') (r : RepL (Cx.g X T) w' H' v x) : Q v H' := by
  have p := h.post
  rw [e] at p
  exact p w' v H' l wr r
end
end Eg

/-! E2: views, data, names, operators, comparisons. -/
namespace Eg
open PySem PySem.Spec PyProof.Rows L2

/-- what v reads as, now -/
inductive Vw (G : Cfg) (w : Wo) (H : Hp) : V → PV → Prop
  | non : Vw G w H .non .non
  | bl (b : Bool) : Vw G w H (.bl b) (.bl b)
  | int (i : Int) : Vw G w H (.int i) (.int i)
  | str (x : List Nat) : x.all (fun c => decide (c < 1114112)) = true → Vw G w H (.str (s2 x)) (.str x)
  | tup {a : Addr} {vs : List V} {xs : List PV} : FzT G.K w H a vs → RepL G w H vs xs → Vw G w H (.ref a) (.tup xs)
  | lst {a : Addr} {vs : List V} {xs : List PV} : H a = some (.lst vs) → RepL G w H vs xs → Vw G w H (.ref a) (.lst xs)
  | dct {a : Addr} {es : List DictEntry} {kvs : List (PV × PV)} : Ob H a (DctO a es) → RepD G w H es kvs → dnd kvs = true → Vw G w H (.ref a) (.dct kvs)
  | obj {a dx : Addr} {c : Nat} {vs : List (Str × V)} {fs : List (Nat × PV)} : H a = some (.ins (G.T.cls c) dx vs) → RepF G w H vs fs → Vw G w H (.ref a) (.obj c fs)
  | ty (n : String) : Vw G w H (.ty n) (.ty n)
  | scr {a : Addr} {ns : List Int} : FzL G.K w H a (ns.map V.int) → Vw G w H (.ref a) (.scr ns)
def noLoc : PV → Bool
  | .loc _ => false
  | _ => true
theorem Rep.vw {G : Cfg} {w : Wo} {H : Hp} {v : V} {x : PV} (r : Rep G w H v x) (h : noLoc x = true) : Vw G w H v x := by
  cases r with
  | non => exact .non
  | bl b => exact .bl b
  | int i => exact .int i
  | str x k => exact .str x k
  | tup a b => exact .tup a b
  | lst _ a b => exact .lst a b
  | dct a b c d => exact .dct b c d
  | obj a b c => exact .obj b c
  | loc _ => cases h
  | ty n => exact .ty n
  | scr k => exact .scr k
theorem Wr.view {G : Cfg} {w : Wo} {H : Hp} {st : Store} (wr : Wr G w st H) {v : V} {x y : PV} (r : Rep G w H v x) (h : view st x = some y) : noLoc y = true → Vw G w H v y := by
  intro hn
  by_cases hx : noLoc x = true
  · have e : y = x := by
      cases x <;> first | (cases hx; done) | (cases h; rfl)
    subst e
    exact r.vw hx
  · cases r with
    | loc hl =>
      rename_i a l
      change (st.get l).map Cell.view = some y at h
      cases q : st.get l with
      | none => rw [q] at h; cases h
      | some c =>
        rw [q] at h
        obtain ⟨b, h1, h2⟩ := wr.cell l c q
        rw [hl] at h1; cases h1
        cases h
        cases c with
        | lst xs => obtain ⟨_, vs, h3, h4⟩ := h2; exact .lst h3 h4
        | set xs => exact h2.elim
        | dct xs => obtain ⟨_, vs, h3, h4, h5⟩ := h2; exact .dct (.inl h3) h4 h5
        | obj c fs => obtain ⟨_, dx, vs, h3, h4⟩ := h2; exact .obj h3 h4
        | frz x => exact h2.2.vw hn
    | _ => exact absurd rfl hx
theorem Vw.mono {G : Cfg} {w w' : Wo} {H H' : Hp} (s : Same H H') {v : V} {x : PV} (h : Vw G w H v x) : Vw G w H' v x := by
  have e : Le w H w H' := Le.same s
  cases h with
  | non => exact .non
  | bl b => exact .bl b
  | int i => exact .int i
  | str x k => exact .str x k
  | tup a b => exact .tup (a.mono (G := G) e) (b.mono e)
  | lst a b => exact .lst (s _ _ a) (b.mono e)
  | dct a b c =>
    refine .dct ?_ (b.mono e) c
    rcases a with a | ⟨l, o, a⟩
    · exact .inl (s _ _ a)
    · exact .inr ⟨l, o, s _ _ a⟩
  | obj a b => exact .obj (s _ _ a) (b.mono e)
  | ty n => exact .ty n
  | scr h => exact .scr (h.mono (G := G) e)
/-- the reading of one, of two values -/
def rd (x : PV) : M PV := fun st => match view st x with
  | some y => if noLoc y then .ok y st else .bad
  | none => .bad
theorem rd_ok {x y : PV} {st st' : Store} (h : rd x st = .ok y st') : st' = st ∧ view st x = some y ∧ noLoc y = true := by
  unfold rd at h
  cases e : view st x with
  | none => rw [e] at h; cases h
  | some z =>
    rw [e] at h
    dsimp only at h
    by_cases hn : noLoc z = true
    · rw [if_pos hn] at h; cases h; exact ⟨rfl, rfl, hn⟩
    · rw [if_neg hn] at h; cases h
theorem rd_noexc {x : PV} {st st' : Store} {e : Exn} (h : rd x st = .exc e st') : False := by
  unfold rd at h
  cases q : view st x with
  | none => rw [q] at h; cases h
  | some z =>
    rw [q] at h
    dsimp only at h
    by_cases hn : noLoc z = true
    · rw [if_pos hn] at h; cases h
    · rw [if_neg hn] at h; cases h
def g1 (g : PV → Option PV) (x : PV) : M PV := fun st => match rd x st with
  | .ok x' _ => match g x' with
    | some z => .ok z st
    | none => .bad
  | _ => .bad
def g2 (g : PV → PV → Option PV) (x y : PV) : M PV := fun st => match rd x st, rd y st with
  | .ok x' _, .ok y' _ => match g x' y' with
    | some z => .ok z st
    | none => .bad
  | _, _ => .bad
theorem g1_ok {g : PV → Option PV} {x : PV} {st : Store} : (∃ z x', view st x = some x' ∧ noLoc x' = true ∧ g x' = some z ∧ g1 g x st = .ok z st) ∨ g1 g x st = .bad := by
  unfold g1
  cases e : rd x st with
  | ok x' s1 =>
    obtain ⟨_, h1, h2⟩ := rd_ok e
    cases q : g x' with
    | some z => exact .inl ⟨z, x', h1, h2, q, by simp [q]⟩
    | none => exact .inr (by simp [q])
  | exc _ _ => exact .inr rfl
  | bad => exact .inr rfl
theorem g2_ok {g : PV → PV → Option PV} {x y : PV} {st : Store} : (∃ z x' y', view st x = some x' ∧ noLoc x' = true ∧ view st y = some y' ∧ noLoc y' = true ∧ g x' y' = some z ∧ g2 g x y st = .ok z st) ∨ g2 g x y st = .bad := by
  unfold g2
  cases e : rd x st with
  | ok x' s1 =>
    obtain ⟨_, h1, h2⟩ := rd_ok e
    cases e2 : rd y st with
    | ok y' s2 =>
      obtain ⟨_, h3, h4⟩ := rd_ok e2
      cases q : g x' y' with
      | some z => exact .inl ⟨z, x', y', h1, h2, h3, h4, q, by simp [q]⟩
      | none => exact .inr (by simp [q])
    | exc _ _ => exact .inr rfl
    | bad => exact .inr rfl
  | exc _ _ => exact .inr rfl
  | bad => exact .inr rfl

section
variable {X : Cx} {T : Tabs} {W : WX}
/-! ### names, constants -/
def eVar (i : Nat) : Fr → M PV := fun ρ => match ρ[i]? with
  | some (some x) => M.pure x
  | _ => M.bad
theorem pp_var (i : Nat) {x : Str} {pos : Pos} (hN : X.N[i]? = some x) (hv : Vis X.env.scope x) (hd : (x == ("__debug__" : Str)) = false) (hcd : (x == ("__classdict__" : Str)) = false) : PP X T W (.Name x pos) (eVar i) := by
  refine ⟨fun pins s σ H Q I h => ?_⟩
  obtain ⟨w, st, ρ, wr, fr, p⟩ := h
  refine (pe_var hN hv hd hcd).run pins s σ H Q I ?_
  unfold eVar at p
  cases e : ρ[i]? with
  | none => rw [e] at p; exact p.elim
  | some o =>
    rw [e] at p
    cases o with
    | none => exact p.elim
    | some y =>
      obtain ⟨v, h1, h2⟩ := fr.slot i y e
      exact ⟨v, h1, p w v H (Le.refl w H) wr h2⟩
def eC (x : PV) : Fr → M PV := fun _ => M.pure x
theorem pp_c {e : Expr} {v : V} {x : PV} (h : PE X e (tC v)) (r : ∀ w H, Rep (Cx.g X T) w H v x) : PP X T W e (eC x) :=
  ⟨fun pins s σ H Q I ⟨w, _, _, wr, _, p⟩ => h.run pins s σ H Q I (p w v H (Le.refl w H) wr (r w H))⟩
theorem pp_int {i : Int} {j : Nat} {pos : Pos} : PP X T W (.Constant (.int i) j pos) (eC (.int i)) := pp_c pe_int fun _ _ => .int i
theorem pp_bl {b : Bool} {j : Nat} {pos : Pos} : PP X T W (.Constant (.bool b) j pos) (eC (.bl b)) := pp_c pe_bl fun _ _ => .bl b
theorem pp_non {j : Nat} {pos : Pos} : PP X T W (.Constant .none j pos) (eC .non) := pp_c pe_non fun _ _ => .non
theorem pp_str {x : Str} {y : List Nat} {j : Nat} {pos : Pos} (e : x = s2 y) (h : y.all (fun c => decide (c < 1114112)) = true) : PP X T W (.Constant (.str x) j pos) (eC (.str y)) := by
  subst e
  exact pp_c pe_str fun _ _ => .str y h
theorem pp_gInt {x : Str} {i : Int} {pos : Pos} (hg : Gl X x) (hm : ∃ t, X.mg x = some (.int i t)) (hd : (x == ("__debug__" : Str)) = false) : PP X T W (.Name x pos) (eC (.int i)) := by
  obtain ⟨t, hm⟩ := hm
  exact pp_c (v := .int i) (pe_glob hg hm ⟨t, rfl⟩ hd) fun _ _ => .int i
theorem pp_gStr {x : Str} {y : List Nat} {pos : Pos} (hg : Gl X x) (hm : ∃ t, X.mg x = some (.str (s2 y) t)) (hd : (x == ("__debug__" : Str)) = false) (h : y.all (fun c => decide (c < 1114112)) = true) : PP X T W (.Name x pos) (eC (.str y)) := by
  obtain ⟨t, hm⟩ := hm
  exact pp_c (v := .str (s2 y)) (pe_glob hg hm ⟨t, rfl⟩ hd) fun _ _ => .str y h

/-! ### operators by values -/
/-- what is wanted behind an operation that changes nothing -/
def Aft (X : Cx) (T : Tabs) (w : Wo) (st : Store) (H : Hp) (z : PV) (Q : VK) : Prop := ∀ w' v H', Le w H w' H' → Wr (Cx.g X T) w' st H' → Rep (Cx.g X T) w' H' v z → Q v H'
theorem Aft.here {w : Wo} {st : Store} {H : Hp} {z : PV} {Q : VK} {v : V} (h : Aft X T w st H z Q) (wr : Wr (Cx.g X T) w st H) (r : Rep (Cx.g X T) w H v z) : Q v H := h w v H (Le.refl w H) wr r
theorem Aft.new {w : Wo} {st : Store} {H : Hp} {z : PV} {Q : VK} {p : Addr} {o : HO} (h : Aft X T w st H z Q) (wr : Wr (Cx.g X T) w st H) (hp : H p = none) (r : Rep (Cx.g X T) w (upd H p o) (.ref p) z) : Q (.ref p) (upd H p o) :=
  h w _ _ (Le.same (same_new hp)) (wr.same (same_new hp)) r
theorem Rep.newT {G : Cfg} {w : Wo} {st : Store} {H : Hp} {p : Addr} {vs : List V} {xs : List PV} (wr : Wr G w st H) (hp : H p = none) (r : RepL G w H vs xs) : Rep G w (upd H p (.tup vs)) (.ref p) (.tup xs) :=
  .tup (.inl ⟨wr.fresh hp, .inl upd_same⟩) (r.mono (Le.same (same_new hp)))
theorem Rep.newL {G : Cfg} {w : Wo} {st : Store} {H : Hp} {p : Addr} {vs : List V} {xs : List PV} (wr : Wr G w st H) (hp : H p = none) (r : RepL G w H vs xs) : Rep G w (upd H p (.lst vs)) (.ref p) (.lst xs) :=
  .lst (wr.fresh hp) upd_same (r.mono (Le.same (same_new hp)))
def Op2 (X : Cx) (T : Tabs) (r : R2) (g : PV → PV → Option PV) : Prop :=
  ∀ (w : Wo) (st : Store) (H : Hp) (v u : V) (x y z : PV) (Q : VK), Wr (Cx.g X T) w st H → Vw (Cx.g X T) w H v x → Vw (Cx.g X T) w H u y → g x y = some z → Aft X T w st H z Q → r v u H Q
def Op1 (X : Cx) (T : Tabs) (r : V → Hp → VK → Prop) (g : PV → Option PV) : Prop :=
  ∀ (w : Wo) (st : Store) (H : Hp) (v : V) (x z : PV) (Q : VK), Wr (Cx.g X T) w st H → Vw (Cx.g X T) w H v x → g x = some z → Aft X T w st H z Q → r v H Q
def e1 (g : PV → Option PV) (fa : Fr → M PV) : Fr → M PV := fun ρ => fa ρ >>= fun x => g1 g x
def e2 (g : PV → PV → Option PV) (fa fb : Fr → M PV) : Fr → M PV := fun ρ => fa ρ >>= fun x => fb ρ >>= fun y => g2 g x y
theorem RunE.fin1 {r : V → Hp → VK → Prop} {g : PV → Option PV} (hr : Op1 X T r g) {w : Wo} {st : Store} {ρ : Fr} {σ : L2.St} {H : Hp} {Q : VK} {x : PV} {v : V} (h : RunE X T W (fun _ => g1 g x) w st ρ σ H Q) (rx : Rep (Cx.g X T) w H v x) : r v H Q := by
  rcases g1_ok (g := g) (x := x) (st := st) with ⟨z, x', e1, e2, e3, e4⟩ | e
  · refine hr w st H v x' z Q h.wr (h.wr.view rx e1 e2) e3 fun w' v' H' l wr r => ?_
    exact h.ret e4 l wr r
  · exact (h.no e).elim
theorem RunE.fin2 {r : R2} {g : PV → PV → Option PV} (hr : Op2 X T r g) {w : Wo} {st : Store} {ρ : Fr} {σ : L2.St} {H : Hp} {Q : VK} {x y : PV} {v u : V} (h : RunE X T W (fun _ => g2 g x y) w st ρ σ H Q) (rx : Rep (Cx.g X T) w H v x) (ry : Rep (Cx.g X T) w H u y) : r v u H Q := by
  rcases g2_ok (g := g) (x := x) (y := y) (st := st) with ⟨z, x', y', e1, e2, e3, e4, e5, e6⟩ | e
  · refine hr w st H v u x' y' z Q h.wr (h.wr.view rx e1 e2) (h.wr.view ry e3 e4) e5 fun w' v' H' l wr r => ?_
    exact h.ret e6 l wr r
  · exact (h.no e).elim
variable {a b c : Expr} {fa fb fc : Fr → M PV} {pos : Pos}
theorem t1 {r : V → Hp → VK → Prop} {g : PV → Option PV} (hr : Op1 X T r g) {σ : L2.St} {H : Hp} {Q : VK} (h : tE X T W (e1 g fa) σ H Q) : tUn r (tE X T W fa) σ H Q := by
  obtain ⟨w, st, ρ, h⟩ := h
  exact h.eE fun w1 st1 x v H1 l1 rx h1 => h1.fin1 hr rx
theorem t2 {r : R2} {g : PV → PV → Option PV} (hr : Op2 X T r g) {σ : L2.St} {H : Hp} {Q : VK} (h : tE X T W (e2 g fa fb) σ H Q) : tOp r (tE X T W fa) (tE X T W fb) σ H Q := by
  obtain ⟨w, st, ρ, h⟩ := h
  exact h.eE fun w1 st1 x v H1 l1 rx h1 => h1.eE fun w2 st2 y u H2 l2 ry h2 => h2.fin2 hr (rx.mono l2) ry
theorem pp_op {op : Operator} {r : R2} {g : PV → PV → Option PV} (ho : OpR X (binaryOp op) r) (hr : Op2 X T r g) (ha : PP X T W a fa) (hb : PP X T W b fb) : PP X T W (.BinOp a op b pos) (e2 g fa fb) :=
  ⟨fun pins s σ H Q I h => (pe_op ho ha hb).run pins s σ H Q I (t2 hr h)⟩
theorem pp_un {op : UnaryOp} {r : V → Hp → VK → Prop} {g : PV → Option PV} (ho : UnR X (unaryOp op) r) (hr : Op1 X T r g) (ha : PP X T W a fa) : PP X T W (.UnaryOp op a pos) (e1 g fa) :=
  ⟨fun pins s σ H Q I h => (pe_un ho ha).run pins s σ H Q I (t1 hr h)⟩
theorem pp_cmp {op : CmpOp} {r : R2} {g : PV → PV → Option PV} (ho : OpR X (compareOp op) r) (hr : Op2 X T r g) (ha : PP X T W a fa) (hb : PP X T W b fb) (hm : behindInMarks op b = false) : PP X T W (.Compare a [op] [b] pos) (e2 g fa fb) :=
  ⟨fun pins s σ H Q I h => (pe_cmpR ho ha hb hm).run pins s σ H Q I (t2 hr h)⟩
end
end Eg

/-! E3: data; arithmetic; comparisons. -/
namespace Eg
open PySem PySem.Spec PyProof.Rows L2

mutual
def isD : PV → Bool
  | .non => true
  | .bl _ => true
  | .int _ => true
  | .str _ => true
  | .tup xs => isDs xs
  | .lst xs => isDs xs
  | _ => false
def isDs : List PV → Bool
  | [] => true
  | x :: xs => isD x && isDs xs
end
mutual
def toD : PV → PyData
  | .bl b => .bool b
  | .int i => .int i
  | .str x => .str (s2 x)
  | .tup xs => .tuple (toDs xs)
  | .lst xs => .list (toDs xs)
  | _ => .none
def toDs : List PV → List PyData
  | [] => []
  | x :: xs => toD x :: toDs xs
end
mutual
def pdep : PV → Nat
  | .tup xs => pdeps xs + 1
  | .lst xs => pdeps xs + 1
  | _ => 0
def pdeps : List PV → Nat
  | [] => 0
  | x :: xs => max (pdep x) (pdeps xs)
end
mutual
theorem depth_toD : ∀ x : PV, (toD x).depth = pdep x
  | .non => rfl
  | .bl _ => rfl
  | .int _ => rfl
  | .str _ => rfl
  | .tup xs => by simp only [toD, pdep, PyData.depth, depths_toD xs]
  | .lst xs => by simp only [toD, pdep, PyData.depth, depths_toD xs]
  | .set _ => rfl
  | .dct _ => rfl
  | .obj _ _ => rfl
  | .loc _ => rfl
  | .ty _ => rfl
  | .scr _ => rfl
theorem depths_toD : ∀ xs : List PV, PyData.depthAll (toDs xs) = pdeps xs
  | [] => rfl
  | x :: xs => by simp only [toDs, pdeps, PyData.depthAll, depth_toD x, depths_toD xs]
end
theorem s2_inj {x y : List Nat} (h : s2 x = s2 y) : x = y := by
  have := congrArg (fun s : Str => s.cps.toList) h
  simpa using this
theorem s2_beq (x y : List Nat) : (s2 x == s2 y) = (x == y) := by
  rw [Bool.eq_iff_iff]
  simp only [beq_iff_eq]
  exact ⟨s2_inj, fun h => by rw [h]⟩
mutual
theorem eqv_toD : ∀ x y : PV, isD x = true → isD y = true → PyData.eqv (toD x) (toD y) = peq x y
  | .non, y, _, hy => by cases y <;> first | (cases hy; done) | simp [toD, peq, PyData.eqv]
  | .bl _, y, _, hy => by cases y <;> first | (cases hy; done) | simp [toD, peq, PyData.eqv]
  | .int _, y, _, hy => by cases y <;> first | (cases hy; done) | simp [toD, peq, PyData.eqv]
  | .str _, y, _, hy => by cases y <;> first | (cases hy; done) | simp [toD, peq, PyData.eqv, s2_beq]
  | .tup xs, y, hx, hy => by
    cases y with
    | tup ys => simp only [toD, peq, PyData.eqv]; exact eqvs_toD xs ys (by simpa [isD] using hx) (by simpa [isD] using hy)
    | _ => first | (cases hy; done) | simp [toD, peq, PyData.eqv]
  | .lst xs, y, hx, hy => by
    cases y with
    | lst ys => simp only [toD, peq, PyData.eqv]; exact eqvs_toD xs ys (by simpa [isD] using hx) (by simpa [isD] using hy)
    | _ => first | (cases hy; done) | simp [toD, peq, PyData.eqv]
  | .set _, _, hx, _ => by cases hx
  | .dct _, _, hx, _ => by cases hx
  | .obj _ _, _, hx, _ => by cases hx
  | .loc _, _, hx, _ => by cases hx
  | .ty _, _, hx, _ => by cases hx
  | .scr _, _, hx, _ => by cases hx
theorem eqvs_toD : ∀ xs ys : List PV, isDs xs = true → isDs ys = true → PyData.eqvAll (toDs xs) (toDs ys) = peqs xs ys
  | [], [], _, _ => by simp [toDs, peqs, PyData.eqvAll]
  | [], _ :: _, _, _ => by simp [toDs, peqs, PyData.eqvAll]
  | _ :: _, [], _, _ => by simp [toDs, peqs, PyData.eqvAll]
  | x :: xs, y :: ys, hx, hy => by
    simp only [isDs, Bool.and_eq_true] at hx hy
    simp only [toDs, peqs, PyData.eqvAll, eqv_toD x y hx.1 hy.1, eqvs_toD xs ys hx.2 hy.2]
end
mutual
def palk : PV → PV → Bool
  | .non, .non => true
  | .bl _, .bl _ => true
  | .int _, .int _ => true
  | .str _, .str _ => true
  | .tup xs, .tup ys => palks xs ys
  | .lst xs, .lst ys => palks xs ys
  | _, _ => false
def palks : List PV → List PV → Bool
  | x :: xs, y :: ys => palk x y && palks xs ys
  | _, _ => true
end
mutual
def plt : PV → PV → Bool
  | .bl a, .bl b => !a && b
  | .int i, .int j => decide (i < j)
  | .str x, .str y => decide (x < y)
  | .tup xs, .tup ys => plts xs ys
  | .lst xs, .lst ys => plts xs ys
  | _, _ => false
def plts : List PV → List PV → Bool
  | [], [] => false
  | [], _ :: _ => true
  | _ :: _, [] => false
  | x :: xs, y :: ys => if peq x y then plts xs ys else plt x y
end
mutual
theorem alk_toD : ∀ x y : PV, isD x = true → isD y = true → PySem.W.alike (toD x) (toD y) = palk x y
  | .non, y, _, hy => by cases y <;> first | (cases hy; done) | simp [toD, palk, PySem.W.alike]
  | .bl _, y, _, hy => by cases y <;> first | (cases hy; done) | simp [toD, palk, PySem.W.alike]
  | .int _, y, _, hy => by cases y <;> first | (cases hy; done) | simp [toD, palk, PySem.W.alike]
  | .str _, y, _, hy => by cases y <;> first | (cases hy; done) | simp [toD, palk, PySem.W.alike]
  | .tup xs, y, hx, hy => by
    cases y with
    | tup ys => simp only [toD, palk, PySem.W.alike]; exact alks_toD xs ys (by simpa [isD] using hx) (by simpa [isD] using hy)
    | _ => first | (cases hy; done) | simp [toD, palk, PySem.W.alike]
  | .lst xs, y, hx, hy => by
    cases y with
    | lst ys => simp only [toD, palk, PySem.W.alike]; exact alks_toD xs ys (by simpa [isD] using hx) (by simpa [isD] using hy)
    | _ => first | (cases hy; done) | simp [toD, palk, PySem.W.alike]
  | .set _, _, hx, _ => by cases hx
  | .dct _, _, hx, _ => by cases hx
  | .obj _ _, _, hx, _ => by cases hx
  | .loc _, _, hx, _ => by cases hx
  | .ty _, _, hx, _ => by cases hx
  | .scr _, _, hx, _ => by cases hx
theorem alks_toD : ∀ xs ys : List PV, isDs xs = true → isDs ys = true → PySem.W.alikeAll (toDs xs) (toDs ys) = palks xs ys
  | [], [], _, _ => by simp [toDs, palks, PySem.W.alikeAll]
  | [], _ :: _, _, _ => by simp [toDs, palks, PySem.W.alikeAll]
  | _ :: _, [], _, _ => by simp [toDs, palks, PySem.W.alikeAll]
  | x :: xs, y :: ys, hx, hy => by
    simp only [isDs, Bool.and_eq_true] at hx hy
    simp only [toDs, palks, PySem.W.alikeAll, alk_toD x y hx.1 hy.1, alks_toD xs ys hx.2 hy.2]
end
theorem lt_nil_cons (y : PyData) (ys : List PyData) : lexLt PyProof.Rows.itemOrd (PySem.W.keyToksAll []) (PySem.W.keyToksAll (y :: ys)) = true := by
  rw [PySem.W.keyToksAll, PySem.W.toks_all_cons, lex_diff (by simp)]
  rfl
theorem lt_cons_nil (y : PyData) (ys : List PyData) : lexLt PyProof.Rows.itemOrd (PySem.W.keyToksAll (y :: ys)) (PySem.W.keyToksAll []) = false := by
  rw [PySem.W.keyToksAll, PySem.W.toks_all_cons, lex_diff (by simp)]
  rfl
mutual
theorem lt_toD : ∀ x y : PV, isD x = true → isD y = true → palk x y = true → PySem.W.dataLt (toD x) (toD y) = plt x y
  | .non, y, _, hy, ha => by
    cases y <;> first | (cases ha; done) | skip
    simp only [toD, plt]; exact PySem.W.dataLt_self _
  | .bl a, y, _, hy, ha => by
    cases y <;> first | (cases ha; done) | skip
    rename_i b
    simp only [toD, plt, PySem.W.dataLt_bool]
    cases a <;> cases b <;> decide
  | .int _, y, _, hy, ha => by
    cases y <;> first | (cases ha; done) | skip
    simp only [toD, plt, PySem.W.dataLt_int]
  | .str _, y, _, hy, ha => by
    cases y <;> first | (cases ha; done) | skip
    simp only [toD, plt, PySem.W.dataLt_str]
  | .tup xs, y, hx, hy, ha => by
    cases y with
    | tup ys => simp only [toD, plt, PySem.W.dataLt_tuple]; exact lts_toD xs ys (by simpa [isD] using hx) (by simpa [isD] using hy) (by simpa [palk] using ha)
    | _ => cases ha
  | .lst xs, y, hx, hy, ha => by
    cases y with
    | lst ys => simp only [toD, plt, PySem.W.dataLt_list]; exact lts_toD xs ys (by simpa [isD] using hx) (by simpa [isD] using hy) (by simpa [palk] using ha)
    | _ => cases ha
  | .set _, _, hx, _, _ => by cases hx
  | .dct _, _, hx, _, _ => by cases hx
  | .obj _ _, _, hx, _, _ => by cases hx
  | .loc _, _, hx, _, _ => by cases hx
  | .ty _, _, hx, _, _ => by cases hx
  | .scr _, _, hx, _, _ => by cases hx
theorem lts_toD : ∀ xs ys : List PV, isDs xs = true → isDs ys = true → palks xs ys = true → lexLt PyProof.Rows.itemOrd (PySem.W.keyToksAll (toDs xs)) (PySem.W.keyToksAll (toDs ys)) = plts xs ys
  | [], [], _, _, _ => by simp only [toDs, plts]; exact lex_irrefl _
  | [], y :: ys, _, _, _ => by simp only [toDs, plts]; exact lt_nil_cons _ _
  | y :: ys, [], _, _, _ => by simp only [toDs, plts]; exact lt_cons_nil _ _
  | x :: xs, y :: ys, hx, hy, ha => by
    simp only [isDs, Bool.and_eq_true] at hx hy
    simp only [palks, Bool.and_eq_true] at ha
    simp only [toDs, plts]
    rw [PySem.W.dataLt_cons (by rw [alk_toD x y hx.1 hy.1]; exact ha.1), eqv_toD x y hx.1 hy.1, lt_toD x y hx.1 hy.1 ha.1, lts_toD xs ys hx.2 hy.2 ha.2]
end
section
variable {G : Cfg} {w : Wo} {H : Hp}
mutual
theorem Rep.dp : ∀ {v : V} {x : PV}, Rep G w H v x → isD x = true → Dp G.K H v (toD x)
  | _, _, .non, _ => .non
  | _, _, .bl b, _ => .bl b
  | _, _, .int i, _ => .int i
  | _, _, .str x _, _ => .str _
  | _, .tup xs, .tup h r, e => by simp only [toD]; exact .tup h.sq (RepL.dp r (by simpa [isD] using e))
  | _, .lst xs, .lst _ h r, e => by simp only [toD]; exact .lst (.inl (.inl h)) (RepL.dp r (by simpa [isD] using e))
  | _, _, .dct _ _ _ _, e => by cases e
  | _, _, .obj _ _ _, e => by cases e
  | _, _, .loc _, e => by cases e
  | _, _, .ty _, e => by cases e
  | _, _, .scr _, e => by cases e
theorem RepL.dp : ∀ {vs : List V} {xs : List PV}, RepL G w H vs xs → isDs xs = true → DpAll G.K H vs (toDs xs)
  | _, _, .nil, _ => .nil
  | _, x :: xs, .cons a b, e => by
    simp only [isDs, Bool.and_eq_true] at e
    simp only [toDs]
    exact .cons (Rep.dp a e.1) (RepL.dp b e.2)
end
mutual
theorem Rep.lay : ∀ {v : V} {x : PV}, Rep G w H v x → isD x = true → (toD x).canLay0 = true
  | _, _, .non, _ => rfl
  | _, _, .bl b, _ => rfl
  | _, _, .int i, _ => rfl
  | _, _, .str x h, _ => by
    simp only [toD, PyData.canLay0, PyData.strOk]
    rw [← Array.all_toList]
    exact h
  | _, .tup xs, .tup h r, e => by simp only [toD, PyData.canLay0]; exact (RepL.lay r (by simpa [isD] using e))
  | _, .lst xs, .lst _ h r, e => by simp only [toD, PyData.canLay0]; exact (RepL.lay r (by simpa [isD] using e))
  | _, _, .dct _ _ _ _, e => by cases e
  | _, _, .obj _ _ _, e => by cases e
  | _, _, .loc _, e => by cases e
  | _, _, .ty _, e => by cases e
  | _, _, .scr _, e => by cases e
theorem RepL.lay : ∀ {vs : List V} {xs : List PV}, RepL G w H vs xs → isDs xs = true → PyData.canLayAll0 (toDs xs) = true
  | _, _, .nil, _ => rfl
  | _, x :: xs, .cons a b, e => by
    simp only [isDs, Bool.and_eq_true] at e
    simp only [toDs, PyData.canLayAll0, Rep.lay a e.1, RepL.lay b e.2, Bool.and_self]
end
theorem Vw.dp {v : V} {x : PV} (h : Vw G w H v x) (e : isD x = true) : Dp G.K H v (toD x) := by
  cases h with
  | non => exact .non
  | bl b => exact .bl b
  | int i => exact .int i
  | str x k => exact .str _
  | tup h r => simp only [toD]; exact .tup h.sq (RepL.dp r (by simpa [isD] using e))
  | lst h r => simp only [toD]; exact .lst (.inl (.inl h)) (RepL.dp r (by simpa [isD] using e))
  | _ => cases e
theorem Vw.lay {v : V} {x : PV} (h : Vw G w H v x) (e : isD x = true) : (toD x).canLay0 = true := by
  cases h with
  | non => rfl
  | bl b => rfl
  | int i => rfl
  | str x k => exact (Rep.lay (G := G) (w := w) (H := H) (.str x k) e)
  | tup h r => simp only [toD, PyData.canLay0]; exact (RepL.lay r (by simpa [isD] using e))
  | lst h r => simp only [toD, PyData.canLay0]; exact (RepL.lay r (by simpa [isD] using e))
  | _ => cases e
end

/-! ### arithmetic -/
def gSub : PV → PV → Option PV
  | .int i, .int j => some (.int (i - j))
  | _, _ => none
def gMul : PV → PV → Option PV
  | .int i, .int j => if i.natAbs.log2 + j.natAbs.log2 < 1000000 then some (.int (i * j)) else none
  | _, _ => none
def gMod : PV → PV → Option PV
  | .int i, .int j => if 0 < j then some (.int (i % j)) else none
  | _, _ => none
def gDiv : PV → PV → Option PV
  | .int i, .int j => if 0 < j ∧ j.natAbs.log2 < 9000 then some (.int (i / j)) else none
  | _, _ => none
def gPow : PV → PV → Option PV
  | .int i, .int j => if 0 ≤ j ∧ (Builtin.Int.intBits i : Int) * j ≤ 134217728 then some (.int (i ^ j.toNat)) else none
  | _, _ => none
def gAdd : PV → PV → Option PV
  | .int i, .int j => some (.int (i + j))
  | .str x, .str y => if x.length + y.length ≤ sizeLine then some (.str (x ++ y)) else none
  | .tup xs, .tup ys => if xs.length + ys.length ≤ sizeLine then some (.tup (xs ++ ys)) else none
  | .lst xs, .lst ys => if xs.length + ys.length ≤ sizeLine then some (.lst (xs ++ ys)) else none
  | _, _ => none
def gNeg : PV → Option PV
  | .int i => some (.int (-i))
  | _ => none
section
variable {X : Cx} {T : Tabs} {W : WX}
theorem o2_sub : Op2 X T (rI0 fun i j => .int (i - j)) gSub := by
  intro w st H v u x y z Q wr rx ry e q
  unfold gSub at e
  split at e
  · cases rx; cases ry; cases e
    exact ⟨_, _, rfl, rfl, q.here wr (.int _)⟩
  · cases e
theorem o2_mul : Op2 X T (rI CMulW fun i j => .int (i * j)) gMul := by
  intro w st H v u x y z Q wr rx ry e q
  unfold gMul at e
  split at e
  · split at e
    · rename_i hc
      cases rx; cases ry; cases e
      exact ⟨_, _, rfl, rfl, hc, q.here wr (.int _)⟩
    · cases e
  · cases e
theorem o2_mod : Op2 X T (rI (fun _ j => 0 < j) fun i j => .int (i % j)) gMod := by
  intro w st H v u x y z Q wr rx ry e q
  unfold gMod at e
  split at e
  · split at e
    · rename_i hc
      cases rx; cases ry; cases e
      exact ⟨_, _, rfl, rfl, hc, q.here wr (.int _)⟩
    · cases e
  · cases e
theorem o2_div : Op2 X T (rI CDivW fun i j => .int (i / j)) gDiv := by
  intro w st H v u x y z Q wr rx ry e q
  unfold gDiv at e
  split at e
  · split at e
    · rename_i hc
      cases rx; cases ry; cases e
      exact ⟨_, _, rfl, rfl, hc, q.here wr (.int _)⟩
    · cases e
  · cases e
def CPowW (i j : Int) : Prop := 0 ≤ j ∧ (Builtin.Int.intBits i : Int) * j ≤ 2 ^ 27
theorem op_powW : OpR X (binaryOp .Pow) (rI CPowW fun i j => .int (i ^ j.toNat)) := opI fun _ _ _ _ _ _ _ hc q => pow_int hc.1 hc.2 q
theorem o2_pow : Op2 X T (rI CPowW fun i j => .int (i ^ j.toNat)) gPow := by
  intro w st H v u x y z Q wr rx ry e q
  unfold gPow at e
  split at e
  · split at e
    · rename_i hc
      cases rx; cases ry; cases e
      exact ⟨_, _, rfl, rfl, ⟨hc.1, hc.2⟩, q.here wr (.int _)⟩
    · cases e
  · cases e
theorem o1_neg : Op1 X T (rU fun i => .int (-i)) gNeg := by
  intro w st H v x z Q wr rx e q
  unfold gNeg at e
  split at e
  · cases rx; cases e
    exact ⟨_, rfl, q.here wr (.int _)⟩
  · cases e
def rAddP (K : PySem.W.Frag) : R2 := fun x y H Q => rI0 (fun i j => .int (i + j)) x y H Q ∨ (∃ i j, x = .str i ∧ y = .str j ∧ i.length + j.length ≤ sizeLine ∧ Q (.str (i ++ j)) H) ∨ rCatA K x y H Q ∨ rCat x y H Q
theorem op_addP : OpR X (binaryOp .Add) (rAddP X.K) := op_add.or (op_add_str.or (op_catA.or op_cat))
theorem s2_app (x y : List Nat) : s2 x ++ s2 y = s2 (x ++ y) := by
  show Str.append _ _ = _
  simp [Str.append, s2]
theorem all_app {x y : List Nat} {p : Nat → Bool} (h : x.all p = true) (k : y.all p = true) : (x ++ y).all p = true := by
  rw [List.all_append, h, k]; rfl
theorem o2_add : Op2 X T (rAddP X.K) gAdd := by
  intro w st H v u x y z Q wr rx ry e q
  unfold gAdd at e
  split at e
  · cases rx; cases ry; cases e
    exact .inl ⟨_, _, rfl, rfl, q.here wr (.int _)⟩
  · split at e
    · rename_i hc
      cases e
      cases rx with | str _ k1 =>
      cases ry with | str _ k2 =>
      exact .inr (.inl ⟨_, _, rfl, rfl, hc, by rw [s2_app]; exact q.here wr (.str _ (all_app k1 k2))⟩)
    · cases e
  · split at e
    · rename_i hc
      cases e
      cases rx with | tup s1 r1 =>
      cases ry with | tup s2 r2 =>
      refine .inr (.inr (.inl ⟨_, _, _, _, rfl, rfl, s1.sq, s2.sq, by rw [r1.length, r2.length]; exact hc, ?_⟩))
      refine ⟨fun h0 => ?_, fun _ h0 => ?_, fun _ _ p hp => ?_⟩
      · subst h0
        cases r1
        exact q.here wr (.tup s2 r2)
      · subst h0
        cases r2
        rw [List.append_nil] at q
        exact q.here wr (.tup s1 r1)
      · exact q.new wr hp (Rep.newT wr hp (r1.append r2))
    · cases e
  · split at e
    · rename_i hc
      cases e
      cases rx with | lst s1 r1 =>
      cases ry with | lst s2 r2 =>
      refine .inr (.inr (.inr ⟨_, _, _, _, rfl, rfl, s1, s2, by rw [r1.length, r2.length]; exact hc, fun p hp => ?_⟩))
      exact q.new wr hp (Rep.newL wr hp (r1.append r2))
    · cases e
  · cases e
variable {a b c : Expr} {fa fb fc : Fr → M PV} {pos : Pos}
theorem pp_add (ha : PP X T W a fa) (hb : PP X T W b fb) : PP X T W (.BinOp a .Add b pos) (e2 gAdd fa fb) := pp_op op_addP o2_add ha hb
theorem pp_sub (ha : PP X T W a fa) (hb : PP X T W b fb) : PP X T W (.BinOp a .Sub b pos) (e2 gSub fa fb) := pp_op op_sub o2_sub ha hb
theorem pp_mul (ha : PP X T W a fa) (hb : PP X T W b fb) : PP X T W (.BinOp a .Mult b pos) (e2 gMul fa fb) := pp_op op_mulW o2_mul ha hb
theorem pp_mod (ha : PP X T W a fa) (hb : PP X T W b fb) : PP X T W (.BinOp a .Mod b pos) (e2 gMod fa fb) := pp_op op_mod o2_mod ha hb
theorem pp_div (ha : PP X T W a fa) (hb : PP X T W b fb) : PP X T W (.BinOp a .FloorDiv b pos) (e2 gDiv fa fb) := pp_op op_fdivW o2_div ha hb
theorem pp_pow (ha : PP X T W a fa) (hb : PP X T W b fb) : PP X T W (.BinOp a .Pow b pos) (e2 gPow fa fb) := pp_op op_powW o2_pow ha hb
theorem pp_neg (ha : PP X T W a fa) : PP X T W (.UnaryOp .USub a pos) (e1 gNeg fa) := pp_un un_neg o1_neg ha

/-! ### comparisons of data -/
def okE (x y : PV) : Bool := isD x && (isD y && (decide (pdep x ≤ 64) && decide (pdep y ≤ 64)))
def okL (x y : PV) : Bool := okE x y && (palk x y && noNon x)
where noNon : PV → Bool
  | .non => false
  | _ => true
def gEq (x y : PV) : Option PV := if okE x y then some (.bl (peq x y)) else none
def gNe (x y : PV) : Option PV := if okE x y then some (.bl (!peq x y)) else none
def gLt (x y : PV) : Option PV := if okL x y then some (.bl (plt x y)) else none
def gGt (x y : PV) : Option PV := if okL x y then some (.bl (plt y x)) else none
def gLe (x y : PV) : Option PV := if okL x y then some (.bl (!plt y x)) else none
def gGe (x y : PV) : Option PV := if okL x y then some (.bl (!plt x y)) else none
theorem okE_iff {x y : PV} (h : okE x y = true) : isD x = true ∧ isD y = true ∧ pdep x ≤ 64 ∧ pdep y ≤ 64 := by
  simp only [okE, Bool.and_eq_true, decide_eq_true_eq] at h
  exact ⟨h.1, h.2.1, h.2.2.1, h.2.2.2⟩
theorem okL_iff {x y : PV} (h : okL x y = true) : okE x y = true ∧ palk x y = true ∧ toD x ≠ .none := by
  simp only [okL, Bool.and_eq_true] at h
  refine ⟨h.1, h.2.1, fun z => ?_⟩
  have k := (okE_iff h.1).1
  cases x <;> first | (cases k; done) | (cases z; done) | (exact absurd h.2.2 (by simp [okL.noNon]))
def rD (K : PySem.W.Frag) (ok2 : PyData → PyData → Prop) (g : PyData → PyData → Bool) : R2 := fun x y H Q => ∃ d e, Dp K H x d ∧ Dp K H y e ∧ ok2 d e ∧ Q (.bl (g d e)) H
def kEq (d e : PyData) : Prop := d.canLay0 = true ∧ e.canLay0 = true ∧ d.depth ≤ 64 ∧ e.depth ≤ 64
def kLt (d e : PyData) : Prop := PySem.W.alike d e = true ∧ d ≠ .none ∧ d.depth ≤ 64
theorem op_eqP (hu : X.A.units + 64 < cLine) : OpR X (compareOp .Eq) (rD X.K kEq PyData.eqv) := fun pins s σ H x y v u Q I rx ry ⟨d, e, h1, h2, h3, q⟩ =>
  op_eqD hu pins s σ H x y v u Q I rx ry ⟨d, e, h1, h2, by simp [SeqAt.shaped, h3.1, h3.2.2.1], by simp [SeqAt.shaped, h3.2.1, h3.2.2.2], q⟩
theorem op_neP (hu : X.A.units + 64 < cLine) : OpR X (compareOp .NotEq) (rD X.K kEq fun d e => !PyData.eqv d e) := fun pins s σ H x y v u Q I rx ry ⟨d, e, h1, h2, h3, q⟩ =>
  op_neD hu pins s σ H x y v u Q I rx ry ⟨d, e, h1, h2, by simp [SeqAt.shaped, h3.1, h3.2.2.1], by simp [SeqAt.shaped, h3.2.1, h3.2.2.2], q⟩
theorem op_ltP (hu : X.A.units + 64 < cLine) : OpR X (compareOp .Lt) (rD X.K kLt PySem.W.dataLt) := fun pins s σ H x y v u Q I rx ry ⟨d, e, h1, h2, h3, q⟩ => by
  obtain ⟨as, r1⟩ := Dp.reads I d x v h1 rx
  obtain ⟨bs, r2⟩ := Dp.reads I e y u h2 ry
  exact PySem.W.lt_data r1 r2 h3.1 h3.2.1 (by have := h3.2.2; omega) ⟨.bl _, H, I, rfl, q⟩
theorem op_gtP (hu : X.A.units + 64 < cLine) : OpR X (compareOp .Gt) (rD X.K kLt fun d e => PySem.W.dataLt e d) := fun pins s σ H x y v u Q I rx ry ⟨d, e, h1, h2, h3, q⟩ => by
  obtain ⟨as, r1⟩ := Dp.reads I d x v h1 rx
  obtain ⟨bs, r2⟩ := Dp.reads I e y u h2 ry
  exact PySem.W.gt_data r1 r2 h3.1 h3.2.1 (by have := h3.2.2; omega) ⟨.bl _, H, I, rfl, q⟩
theorem op_leP (hu : X.A.units + 64 < cLine) : OpR X (compareOp .LtE) (rD X.K kLt fun d e => !PySem.W.dataLt e d) := fun pins s σ H x y v u Q I rx ry ⟨d, e, h1, h2, h3, q⟩ => by
  obtain ⟨as, r1⟩ := Dp.reads I d x v h1 rx
  obtain ⟨bs, r2⟩ := Dp.reads I e y u h2 ry
  exact PySem.W.le_data r1 r2 h3.1 h3.2.1 (by have := h3.2.2; omega) ⟨.bl _, H, I, rfl, q⟩
theorem op_geP (hu : X.A.units + 64 < cLine) : OpR X (compareOp .GtE) (rD X.K kLt fun d e => !PySem.W.dataLt d e) := fun pins s σ H x y v u Q I rx ry ⟨d, e, h1, h2, h3, q⟩ => by
  obtain ⟨as, r1⟩ := Dp.reads I d x v h1 rx
  obtain ⟨bs, r2⟩ := Dp.reads I e y u h2 ry
  exact PySem.W.ge_data r1 r2 h3.1 h3.2.1 (by have := h3.2.2; omega) ⟨.bl _, H, I, rfl, q⟩
mutual
theorem palk_comm : ∀ x y : PV, palk x y = palk y x
  | .tup xs, .tup ys => by simp only [palk]; exact palks_comm xs ys
  | .lst xs, .lst ys => by simp only [palk]; exact palks_comm xs ys
  | .non, y => by cases y <;> rfl
  | .bl _, y => by cases y <;> rfl
  | .int _, y => by cases y <;> rfl
  | .str _, y => by cases y <;> rfl
  | .set _, y => by cases y <;> rfl
  | .dct _, y => by cases y <;> rfl
  | .obj _ _, y => by cases y <;> rfl
  | .loc _, y => by cases y <;> rfl
  | .ty _, y => by cases y <;> rfl
  | .scr _, y => by cases y <;> rfl
  | .tup _, .non => rfl
  | .tup _, .bl _ => rfl
  | .tup _, .int _ => rfl
  | .tup _, .str _ => rfl
  | .tup _, .lst _ => rfl
  | .tup _, .set _ => rfl
  | .tup _, .dct _ => rfl
  | .tup _, .obj _ _ => rfl
  | .tup _, .loc _ => rfl
  | .tup _, .ty _ => rfl
  | .tup _, .scr _ => rfl
  | .lst _, .non => rfl
  | .lst _, .bl _ => rfl
  | .lst _, .int _ => rfl
  | .lst _, .str _ => rfl
  | .lst _, .tup _ => rfl
  | .lst _, .set _ => rfl
  | .lst _, .dct _ => rfl
  | .lst _, .obj _ _ => rfl
  | .lst _, .loc _ => rfl
  | .lst _, .ty _ => rfl
  | .lst _, .scr _ => rfl
theorem palks_comm : ∀ xs ys : List PV, palks xs ys = palks ys xs
  | [], [] => rfl
  | [], _ :: _ => rfl
  | _ :: _, [] => rfl
  | x :: xs, y :: ys => by simp only [palks, palk_comm x y, palks_comm xs ys]
end
section
variable {w : Wo} {st : Store} {H : Hp} {v u : V} {x y z : PV} {Q : VK}
theorem o2_eq : Op2 X T (rD X.K kEq PyData.eqv) gEq := by
  intro w st H v u x y z Q wr rx ry e q
  unfold gEq at e
  split at e
  · rename_i h
    cases e
    obtain ⟨h1, h2, h3, h4⟩ := okE_iff h
    refine ⟨toD x, toD y, rx.dp h1, ry.dp h2, ⟨rx.lay h1, ry.lay h2, by rw [depth_toD]; exact h3, by rw [depth_toD]; exact h4⟩, ?_⟩
    rw [eqv_toD x y h1 h2]
    exact q.here wr (.bl _)
  · cases e
theorem o2_ne : Op2 X T (rD X.K kEq fun d e => !PyData.eqv d e) gNe := by
  intro w st H v u x y z Q wr rx ry e q
  unfold gNe at e
  split at e
  · rename_i h
    cases e
    obtain ⟨h1, h2, h3, h4⟩ := okE_iff h
    refine ⟨toD x, toD y, rx.dp h1, ry.dp h2, ⟨rx.lay h1, ry.lay h2, by rw [depth_toD]; exact h3, by rw [depth_toD]; exact h4⟩, ?_⟩
    dsimp only
    rw [eqv_toD x y h1 h2]
    exact q.here wr (.bl _)
  · cases e
theorem kLt_of (h : okL x y = true) : kLt (toD x) (toD y) := by
  obtain ⟨h0, h5, h6⟩ := okL_iff h
  obtain ⟨h1, h2, h3, h4⟩ := okE_iff h0
  exact ⟨by rw [alk_toD x y h1 h2]; exact h5, h6, by rw [depth_toD]; exact h3⟩
theorem o2_lt : Op2 X T (rD X.K kLt PySem.W.dataLt) gLt := by
  intro w st H v u x y z Q wr rx ry e q
  unfold gLt at e
  split at e
  · rename_i h
    cases e
    obtain ⟨h0, h5, h6⟩ := okL_iff h
    obtain ⟨h1, h2, h3, h4⟩ := okE_iff h0
    refine ⟨toD x, toD y, rx.dp h1, ry.dp h2, kLt_of h, ?_⟩
    rw [lt_toD x y h1 h2 h5]
    exact q.here wr (.bl _)
  · cases e
theorem o2_gt : Op2 X T (rD X.K kLt fun d e => PySem.W.dataLt e d) gGt := by
  intro w st H v u x y z Q wr rx ry e q
  unfold gGt at e
  split at e
  · rename_i h
    cases e
    obtain ⟨h0, h5, h6⟩ := okL_iff h
    obtain ⟨h1, h2, h3, h4⟩ := okE_iff h0
    refine ⟨toD x, toD y, rx.dp h1, ry.dp h2, kLt_of h, ?_⟩
    dsimp only
    rw [lt_toD y x h2 h1 (by rw [palk_comm]; exact h5)]
    exact q.here wr (.bl _)
  · cases e
theorem o2_le : Op2 X T (rD X.K kLt fun d e => !PySem.W.dataLt e d) gLe := by
  intro w st H v u x y z Q wr rx ry e q
  unfold gLe at e
  split at e
  · rename_i h
    cases e
    obtain ⟨h0, h5, h6⟩ := okL_iff h
    obtain ⟨h1, h2, h3, h4⟩ := okE_iff h0
    refine ⟨toD x, toD y, rx.dp h1, ry.dp h2, kLt_of h, ?_⟩
    dsimp only
    rw [lt_toD y x h2 h1 (by rw [palk_comm]; exact h5)]
    exact q.here wr (.bl _)
  · cases e
theorem o2_ge : Op2 X T (rD X.K kLt fun d e => !PySem.W.dataLt d e) gGe := by
  intro w st H v u x y z Q wr rx ry e q
  unfold gGe at e
  split at e
  · rename_i h
    cases e
    obtain ⟨h0, h5, h6⟩ := okL_iff h
    obtain ⟨h1, h2, h3, h4⟩ := okE_iff h0
    refine ⟨toD x, toD y, rx.dp h1, ry.dp h2, kLt_of h, ?_⟩
    dsimp only
    rw [lt_toD x y h1 h2 h5]
    exact q.here wr (.bl _)
  · cases e
end
end
end Eg

/-! E4: bools, tests, conditional expressions, chains, argument lists, displays. -/
namespace Eg
open PySem PySem.Spec PyProof.Rows L2
def asB : PV → M Bool
  | .bl b => M.pure b
  | _ => M.bad
section
variable {X : Cx} {T : Tabs} {W : WX} {a b c e : Expr} {es rest : List Expr} {fa fb fc : Fr → M PV} {ga gb : Fr → M Bool} {pos p : Pos}
def eAnd (fa fb : Fr → M PV) : Fr → M PV := fun ρ => fa ρ >>= fun x => asB x >>= fun c => if c = true then fb ρ else M.pure (.bl false)
def eOr (fa fb : Fr → M PV) : Fr → M PV := fun ρ => fa ρ >>= fun x => asB x >>= fun c => if c = true then M.pure (.bl true) else fb ρ
def eNot (fa : Fr → M PV) : Fr → M PV := fun ρ => fa ρ >>= fun x => asB x >>= fun c => M.pure (.bl (!c))
theorem RunE.asB {k : Bool → Fr → M PV} {w : Wo} {st : Store} {ρ : Fr} {σ : L2.St} {H : Hp} {Q : VK} {x : PV} {v : V} (h : RunE X T W (fun ρ => Eg.asB x >>= fun c => k c ρ) w st ρ σ H Q) (r : Rep (Cx.g X T) w H v x) : ∃ c, v = .bl c ∧ RunE X T W (k c) w st ρ σ H Q := by
  cases r with
  | bl c => exact ⟨c, rfl, h.wr, h.fr, h.post⟩
  | _ => exact (h.no rfl).elim
theorem RunB.asB {k : Bool → Fr → M Bool} {w : Wo} {st : Store} {ρ : Fr} {σ : L2.St} {H : Hp} {Q : Bool → Hp → Prop} {x : PV} {v : V} (h : RunB X T W (fun ρ => Eg.asB x >>= fun c => k c ρ) w st ρ σ H Q) (r : Rep (Cx.g X T) w H v x) : ∃ c, v = .bl c ∧ RunB X T W (k c) w st ρ σ H Q := by
  cases r with
  | bl c => exact ⟨c, rfl, h.wr, h.fr, h.post⟩
  | _ => exact (h.no rfl).elim
theorem RunE.pure {x : PV} {w : Wo} {st : Store} {ρ : Fr} {σ : L2.St} {H : Hp} {Q : VK} {v : V} (h : RunE X T W (fun _ => M.pure x) w st ρ σ H Q) (r : Rep (Cx.g X T) w H v x) : Q v H := h.ret rfl (Le.refl w H) h.wr r
theorem RunB.pure {x : Bool} {w : Wo} {st : Store} {ρ : Fr} {σ : L2.St} {H : Hp} {Q : Bool → Hp → Prop} (h : RunB X T W (fun _ => M.pure x) w st ρ σ H Q) : Q x H := h.ret rfl (Le.refl w H) h.wr
theorem pp_one {op : BoolOp} (h : PP X T W a fa) : PP X T W (.BoolOp op [a] pos) fa := pe_one h
theorem pp_and (ha : PP X T W a fa) (hb : PP X T W (.BoolOp .And (b :: rest) pos) fb) : PP X T W (.BoolOp .And (a :: b :: rest) pos) (eAnd fa fb) := by
  refine ⟨fun pins s σ H Q I ⟨w, st, ρ, h⟩ => (pe_and ha hb).run pins s σ H Q I ?_⟩
  refine RunE.eE h fun w1 st1 x v H1 l r h1 => ?_
  obtain ⟨c, rfl, h2⟩ := h1.asB r
  refine ⟨c, rfl, ?_⟩
  cases c with
  | true => exact iteT ⟨w1, st1, ρ, h2⟩
  | false => exact iteF (h2.pure (.bl false))
theorem pp_or (ha : PP X T W a fa) (hb : PP X T W (.BoolOp .Or (b :: rest) pos) fb) : PP X T W (.BoolOp .Or (a :: b :: rest) pos) (eOr fa fb) := by
  refine ⟨fun pins s σ H Q I ⟨w, st, ρ, h⟩ => (pe_or ha hb).run pins s σ H Q I ?_⟩
  refine RunE.eE h fun w1 st1 x v H1 l r h1 => ?_
  obtain ⟨c, rfl, h2⟩ := h1.asB r
  refine ⟨c, rfl, ?_⟩
  cases c with
  | true => exact iteT (h2.pure (.bl true))
  | false => exact iteF ⟨w1, st1, ρ, h2⟩
theorem pp_not (ha : PP X T W a fa) : PP X T W (.UnaryOp .Not a pos) (eNot fa) := by
  refine ⟨fun pins s σ H Q I ⟨w, st, ρ, h⟩ => (pe_not ha).run pins s σ H Q I ?_⟩
  refine RunE.eE h fun w1 st1 x v H1 l r h1 => ?_
  obtain ⟨c, rfl, h2⟩ := h1.asB r
  exact ⟨c, rfl, h2.pure (.bl _)⟩
/-! ### is None -/
def isNon : PV → Bool
  | .non => true
  | _ => false
theorem Rep.isNon {G : Cfg} {w : Wo} {H : Hp} {v : V} {x : PV} (r : Rep G w H v x) : decide (v = .non) = Eg.isNon x := by
  cases r <;> rfl
def eIsN (k : Bool) (fa : Fr → M PV) : Fr → M PV := fun ρ => fa ρ >>= fun x => M.pure (.bl (xor k (isNon x)))
theorem pp_isN {j : Nat} {pos' : Pos} (ha : PP X T W a fa) : PP X T W (.Compare a [.Is] [.Constant .none j pos'] pos) (eIsN false fa) := by
  refine ⟨fun pins s σ H Q I ⟨w, st, ρ, h⟩ => (pe_cmp (pc_isN ha)).run pins s σ H Q I ?_⟩
  refine RunE.eE h fun w1 st1 x v H1 l r h1 => ?_
  rw [r.isNon]
  exact h1.pure (by rw [Bool.false_xor]; exact .bl _)
theorem pp_notN {j : Nat} {pos' : Pos} (ha : PP X T W a fa) : PP X T W (.Compare a [.IsNot] [.Constant .none j pos'] pos) (eIsN true fa) := by
  refine ⟨fun pins s σ H Q I ⟨w, st, ρ, h⟩ => (pe_cmp (pc_notN ha)).run pins s σ H Q I ?_⟩
  refine RunE.eE h fun w1 st1 x v H1 l r h1 => ?_
  rw [r.isNon]
  exact h1.pure (by rw [Bool.true_xor]; exact .bl _)
/-! ### tests -/
def eT (fa : Fr → M PV) : Fr → M Bool := fun ρ => fa ρ >>= asB
theorem tT_test {σ : L2.St} {H : Hp} {Q : Bool → Hp → Prop} (h : tT X T W (eT fa) σ H Q) : tE X T W fa σ H fun x H' => ∃ k, x = .bl k ∧ Q k H' := by
  obtain ⟨w, st, ρ, h⟩ := h
  refine RunB.eE (k := fun x _ => asB x) h fun w1 st1 x v H1 l r h1 => ?_
  cases r with
  | bl c => exact ⟨c, rfl, h1.ret rfl (Le.refl _ _) h1.wr⟩
  | _ => exact (h1.no rfl).elim
theorem ppt_val (h : PP X T W a fa) (he : ∀ whole, isTrue a X.env whole = (do let v ← whole; standAt a.pos; holding [v] (truthy v)) := by intro _; rfl) : PPT X T W a (eT fa) :=
  ⟨fun pins s σ H Q I q => (pt_val h he).run pins s σ H Q I (tT_test q)⟩
theorem ppt_cmp {op : CmpOp} {r : R2} {g : PV → PV → Option PV} (ho : OpR X (compareOp op) r) (hr : Op2 X T r g) (ha : PP X T W a fa) (hb : PP X T W b fb) (hm : behindInMarks op b = false) : PPT X T W (.Compare a [op] [b] pos) (eT (e2 g fa fb)) :=
  ⟨fun pins s σ H Q I q => (pt_cmpR ho ha hb hm).run pins s σ H Q I (t2 hr (tT_test q))⟩
theorem ppt_isN {j : Nat} {pos' : Pos} (ha : PP X T W a fa) : PPT X T W (.Compare a [.Is] [.Constant .none j pos'] pos) (eT (eIsN false fa)) :=
  ⟨fun pins s σ H Q I q => (pt_cmp (pc_isN ha)).run pins s σ H Q I (by
    obtain ⟨w, st, ρ, h⟩ := tT_test q
    refine RunE.eE h fun w1 st1 x v H1 l r h1 => ?_
    rw [r.isNon]
    exact h1.pure (by rw [Bool.false_xor]; exact .bl _))⟩
theorem ppt_notN {j : Nat} {pos' : Pos} (ha : PP X T W a fa) : PPT X T W (.Compare a [.IsNot] [.Constant .none j pos'] pos) (eT (eIsN true fa)) :=
  ⟨fun pins s σ H Q I q => (pt_cmp (pc_notN ha)).run pins s σ H Q I (by
    obtain ⟨w, st, ρ, h⟩ := tT_test q
    refine RunE.eE h fun w1 st1 x v H1 l r h1 => ?_
    rw [r.isNon]
    exact h1.pure (by rw [Bool.true_xor]; exact .bl _))⟩
def bAnd (ga gb : Fr → M Bool) : Fr → M Bool := fun ρ => ga ρ >>= fun c => if c = true then gb ρ else M.pure false
def bOr (ga gb : Fr → M Bool) : Fr → M Bool := fun ρ => ga ρ >>= fun c => if c = true then M.pure true else gb ρ
def bNot (ga : Fr → M Bool) : Fr → M Bool := fun ρ => ga ρ >>= fun c => M.pure (!c)
theorem ppw_one {op : BoolOp} (h : PPT X T W a ga) : PPW X T W (.BoolOp op [a] pos) ga := by
  cases op
  · exact pw_and1 h
  · exact pw_or1 h
theorem ppw_and (ha : PPT X T W a ga) (hb : PPW X T W (.BoolOp .And (b :: rest) pos) gb) : PPW X T W (.BoolOp .And (a :: b :: rest) pos) (bAnd ga gb) := by
  refine ⟨fun wh pins s σ H Q I ⟨w, st, ρ, h⟩ => (pw_and ha hb).run wh pins s σ H Q I ?_⟩
  refine RunB.bE h fun w1 st1 c H1 l h1 => ?_
  cases c with
  | true => exact iteT ⟨w1, st1, ρ, h1⟩
  | false => exact iteF h1.pure
theorem ppw_or (ha : PPT X T W a ga) (hb : PPW X T W (.BoolOp .Or (b :: rest) pos) gb) : PPW X T W (.BoolOp .Or (a :: b :: rest) pos) (bOr ga gb) := by
  refine ⟨fun wh pins s σ H Q I ⟨w, st, ρ, h⟩ => (pw_or ha hb).run wh pins s σ H Q I ?_⟩
  refine RunB.bE h fun w1 st1 c H1 l h1 => ?_
  cases c with
  | true => exact iteT h1.pure
  | false => exact iteF ⟨w1, st1, ρ, h1⟩
theorem ppt_w (h : PPW X T W a ga) : PPT X T W a ga := PW.pt h
theorem ppt_not (ha : PPT X T W a ga) : PPT X T W (.UnaryOp .Not a pos) (bNot ga) := by
  refine ⟨fun pins s σ H Q I ⟨w, st, ρ, h⟩ => (pt_not ha).run pins s σ H Q I ?_⟩
  exact RunB.bE h fun w1 st1 c H1 l h1 => h1.pure
def eIf (gc : Fr → M Bool) (fa fb : Fr → M PV) : Fr → M PV := fun ρ => gc ρ >>= fun c => if c = true then fa ρ else fb ρ
theorem pp_ifExp (hc : PPT X T W c ga) (ha : PP X T W a fa) (hb : PP X T W b fb) : PP X T W (.IfExp c a b pos) (eIf ga fa fb) := by
  refine ⟨fun pins s σ H Q I ⟨w, st, ρ, h⟩ => (pe_ifExp hc ha hb).run pins s σ H Q I ?_⟩
  refine RunE.bE h fun w1 st1 c H1 l h1 => ?_
  cases c with
  | true => exact iteT ⟨w1, st1, ρ, h1⟩
  | false => exact iteF ⟨w1, st1, ρ, h1⟩
/-! ### a op b op' c -/
def e3 (g g' : PV → PV → Option PV) (fa fb fc : Fr → M PV) : Fr → M PV := fun ρ => fa ρ >>= fun x => fb ρ >>= fun y => g2 g x y >>= fun z => asB z >>= fun k => if k = true then fc ρ >>= fun u => g2 g' y u else M.pure (.bl false)
theorem t3 {r r' : R2} {g g' : PV → PV → Option PV} (hr : Op2 X T r g) (hr' : Op2 X T r' g') {σ : L2.St} {H : Hp} {Q : VK} (h : tE X T W (e3 g g' fa fb fc) σ H Q) : tChain r r' (tE X T W fa) (tE X T W fb) (tE X T W fc) σ H Q := by
  obtain ⟨w, st, ρ, h⟩ := h
  refine RunE.eE h fun w1 st1 x v H1 l1 rx h1 => ?_
  refine RunE.eE h1 fun w2 st2 y u H2 l2 ry h2 => ?_
  have rx2 := rx.mono l2
  rcases g2_ok (g := g) (x := x) (y := y) (st := st2) with ⟨z, x', y', q1, q2, q3, q4, q5, q6⟩ | q
  · refine hr w2 st2 H2 v u x' y' z _ h2.wr (h2.wr.view rx2 q1 q2) (h2.wr.view ry q3 q4) q5 fun w3 z' H3 l3 wr3 r3 => ?_
    have h3 : RunE X T W (fun ρ => asB z >>= fun k => if k = true then fc ρ >>= fun u => g2 g' y u else M.pure (.bl false)) w3 st2 ρ σ H3 Q := by
      refine ⟨wr3, h2.fr.mono l3, ?_⟩
      have p := h2.post
      rw [M.bind_ok q6] at p
      exact p.mono l3
    obtain ⟨k, rfl, h4⟩ := h3.asB r3
    refine ⟨k, rfl, ?_⟩
    cases k with
    | false => exact iteF (h4.pure (.bl false))
    | true =>
      refine iteT ?_
      have h5 : RunE X T W (fun ρ => fc ρ >>= fun u => g2 g' y u) w3 st2 ρ σ H3 Q := h4
      exact RunE.eE (k := fun u _ => g2 g' y u) h5 fun w4 st4 t o H4 l4 rt h6 => h6.fin2 hr' ((ry.mono l3).mono l4) rt
  · exact (h2.no (M.bind_bad q)).elim
theorem pp_chain {op op' : CmpOp} {r r' : R2} {g g' : PV → PV → Option PV} (ho : OpR X (compareOp op) r) (ho' : OpR X (compareOp op') r') (hr : Op2 X T r g) (hr' : Op2 X T r' g')
    (ha : PP X T W a fa) (hb : PP X T W b fb) (hc : PP X T W c fc) (hm : lastMarks [op, op'] [b, c] = false := by with_unfolding_all rfl) : PP X T W (.Compare a [op, op'] [b, c] pos) (e3 g g' fa fb fc) :=
  ⟨fun pins s σ H Q I h => (pe_chain ho ho' ha hb hc hm).run pins s σ H Q I (t3 hr hr' h)⟩
theorem ppt_chain {op op' : CmpOp} {r r' : R2} {g g' : PV → PV → Option PV} (ho : OpR X (compareOp op) r) (ho' : OpR X (compareOp op') r') (hr : Op2 X T r g) (hr' : Op2 X T r' g')
    (ha : PP X T W a fa) (hb : PP X T W b fb) (hc : PP X T W c fc) (hm : lastMarks [op, op'] [b, c] = false := by with_unfolding_all rfl) : PPT X T W (.Compare a [op, op'] [b, c] pos) (eT (e3 g g' fa fb fc)) :=
  ⟨fun pins s σ H Q I h => (pt_chain ho ho' ha hb hc hm).run pins s σ H Q I (t3 hr hr' (tT_test h))⟩
/-! ### argument lists, displays -/
variable {fr : Fr → M (List PV)}
def aNil : Fr → M (List PV) := fun _ => M.pure []
def aCons (fa : Fr → M PV) (fr : Fr → M (List PV)) : Fr → M (List PV) := fun ρ => fa ρ >>= fun x => fr ρ >>= fun xs => M.pure (x :: xs)
theorem ppa_nil : PPA X T W [] aNil := ⟨fun pos pins s σ H Q I ⟨w, st, ρ, h⟩ => pa_nil.run pos pins s σ H Q I (h.ret rfl (Le.refl _ _) h.wr .nil)⟩
theorem ppa_cons (ha : PP X T W e fa) (hr : PPA X T W es fr) (hs : starEach (e :: es) X.env = (false, eval e X.env) :: starEach es X.env := by rfl) : PPA X T W (e :: es) (aCons fa fr) := by
  refine ⟨fun pos pins s σ H Q I ⟨w, st, ρ, h⟩ => (pa_cons ha hr hs).run pos pins s σ H Q I ?_⟩
  refine RunA.eE h fun w1 st1 x v H1 l1 rx h1 => ?_
  exact RunA.aE (k := fun xs _ => M.pure (x :: xs)) h1 fun w2 st2 xs vs H2 l2 rs h2 => h2.ret rfl (Le.refl _ _) h2.wr (.cons (rx.mono l2) rs)
/-! ### new objects: by value, or at a new location -/
def nw (k : Bool) (c : Cell) : M PV := if k = true then fun st => .ok (.loc st.next) (st.new c) else M.pure c.view
def Wo.add (w : Wo) (l : Nat) (p : Addr) : Wo := ⟨fun a => w.D a ∨ a = p, fun j => if j = l then some p else w.η j⟩
theorem Le.add {G : Cfg} {w : Wo} {st : Store} {H : Hp} {p : Addr} {o : HO} (wr : Wr G w st H) (hp : H p = none) : Le w H (w.add st.next p) (upd H p o) where
  loc l a h := by
    show (if l = st.next then some p else w.η l) = some a
    rw [if_neg (fun z => absurd (wr.ran l a h).2 (by omega))]
    exact h
  ran l a h := by
    change (if l = st.next then some p else w.η l) = some a at h
    split at h
    · cases h; exact .inr hp
    · exact .inl h
  fix a h n z := by
    rcases z with z | z
    · exact h z
    · subst z; exact n hp
  keep a q _ h := by
    have ne : a ≠ p := fun z => h.ne (z ▸ hp)
    rcases h with h | ⟨k, b, h⟩
    · exact .inl (by rw [upd_ne ne]; exact h)
    · exact .inr ⟨k, b, by rw [upd_ne ne]; exact h⟩
  dom a h z := by
    have ne : a ≠ p := fun y => h (y ▸ hp)
    rw [upd_ne ne] at z
    exact h z
  hid a h _ _ := .inl h
theorem Wr.add {G : Cfg} {w : Wo} {st : Store} {H : Hp} {p : Addr} {o : HO} {c : Cell} (wr : Wr G w st H) (hp : H p = none) (hc : CellR G (w.add st.next p) (upd H p o) p c) : Wr G (w.add st.next p) (st.new c) (upd H p o) where
  cell l d h := by
    rw [Store.get_new] at h
    by_cases e : l = st.next
    · subst e
      rw [if_pos rfl] at h
      cases h
      exact ⟨p, if_pos rfl, hc⟩
    · rw [if_neg e] at h
      obtain ⟨a, h1, h2⟩ := wr.cell l d h
      refine ⟨a, (if_neg e).trans h1, h2.mono (Le.add wr hp) (wr.ran l a h1).1 (fun z => .inl z) fun _ => ?_⟩
      exact upd_ne fun z => (wr.ran l a h1).1 (z ▸ hp)
  inj l l' a h h' := by
    change (if l = st.next then some p else w.η l) = some a at h
    change (if l' = st.next then some p else w.η l') = some a at h'
    split at h
    · rename_i e
      cases h
      split at h'
      · rename_i e'; rw [e, e']
      · exact absurd h' (wr.nloc hp l')
    · split at h'
      · cases h'; exact absurd h (wr.nloc hp l)
      · exact wr.inj l l' a h h'
  trk a h := by
    rcases h with h | h
    · exact (Le.add (o := o) wr hp).dom a (wr.trk a h)
    · subst h; rw [upd_same]; simp
  ran l a h := by
    change (if l = st.next then some p else w.η l) = some a at h
    split at h
    · rename_i e
      cases h
      exact ⟨by rw [upd_same]; simp, by rw [e, Store.new_next]; omega⟩
    · exact ⟨(Le.add (o := o) wr hp).dom a (wr.ran l a h).1, by rw [Store.new_next]; have := (wr.ran l a h).2; omega⟩
theorem RunE.mkL {k : Bool} {w : Wo} {st : Store} {ρ : Fr} {σ : L2.St} {H : Hp} {Q : VK} {xs : List PV} {vs : List V} {p : Addr} (h : RunE X T W (fun _ => nw k (.lst xs)) w st ρ σ H Q) (r : RepL (Cx.g X T) w H vs xs) (hp : H p = none) : Q (.ref p) (upd H p (.lst vs)) := by
  cases k with
  | false => exact h.ret rfl (Le.same (same_new hp)) (h.wr.same (same_new hp)) (Rep.newL h.wr hp r)
  | true =>
    refine h.ret (x := .loc st.next) (st' := st.new (.lst xs)) rfl (Le.add h.wr hp) (Wr.add h.wr hp ?_) (.loc (if_pos rfl))
    exact ⟨.inr rfl, vs, upd_same, r.mono (Le.add h.wr hp)⟩
def eTup (fr : Fr → M (List PV)) : Fr → M PV := fun ρ => fr ρ >>= fun xs => if xs.length ≤ sizeLine then M.pure (.tup xs) else M.bad
def eLst (k : Bool) (fr : Fr → M (List PV)) : Fr → M PV := fun ρ => fr ρ >>= fun xs => if xs.length ≤ sizeLine then nw k (.lst xs) else M.bad
theorem pp_tup {x1 : Nat} (h : PPA X T W es fr) : PP X T W (.Tuple es x1 pos) (eTup fr) := by
  refine ⟨fun pins s σ H Q I ⟨w, st, ρ, q⟩ => (pe_tup h).run pins s σ H Q I ?_⟩
  refine RunE.aE (k := fun xs _ => if xs.length ≤ sizeLine then M.pure (.tup xs) else M.bad) q fun w1 st1 xs vs H1 l r h1 => ?_
  by_cases hl : xs.length ≤ sizeLine
  · simp only [if_pos hl] at h1
    exact ⟨by rw [r.length]; exact hl, fun p hp => h1.ret rfl (Le.same (same_new hp)) (h1.wr.same (same_new hp)) (Rep.newT h1.wr hp r)⟩
  · simp only [if_neg hl] at h1
    exact (h1.no rfl).elim
theorem pp_lst (k : Bool) (h : PPA X T W es fr) : PP X T W (.List es pos) (eLst k fr) := by
  refine ⟨fun pins s σ H Q I ⟨w, st, ρ, q⟩ => (pe_lst h).run pins s σ H Q I ?_⟩
  refine RunE.aE (k := fun xs _ => if xs.length ≤ sizeLine then nw k (.lst xs) else M.bad) q fun w1 st1 xs vs H1 l r h1 => ?_
  by_cases hl : xs.length ≤ sizeLine
  · simp only [if_pos hl] at h1
    exact ⟨by rw [r.length]; exact hl, fun p hp => h1.mkL r hp⟩
  · simp only [if_neg hl] at h1
    exact (h1.no rfl).elim
end
end Eg

/-! E5: statements, targets, loops. -/
namespace Eg
open PySem PySem.Spec PyProof.Rows L2
inductive RS where
  | nx (ρ : Fr) (st : Store) | rt (x : PV) (st : Store) | bk (ρ : Fr) (st : Store) | ct (ρ : Fr) (st : Store) | exc (e : Exn) (ρ : Fr) (st : Store) | bad
abbrev S := Fr → Store → RS
section
variable (X : Cx) (T : Tabs) (W : WX)
def PostS (w : Wo) (H : Hp) (D : Ends) : RS → Prop
  | .nx ρ st => ∀ w' σ' H', Le w H w' H' → Wr (Cx.g X T) w' st H' → FrR (Cx.g X T) w' H' σ' ρ → D.nx σ' H'
  | .rt x st => ∀ w' v H', Le w H w' H' → Wr (Cx.g X T) w' st H' → Rep (Cx.g X T) w' H' v x → D.rt v H'
  | .bk ρ st => ∀ w' σ' H', Le w H w' H' → Wr (Cx.g X T) w' st H' → FrR (Cx.g X T) w' H' σ' ρ → D.bk σ' H'
  | .ct ρ st => ∀ w' σ' H', Le w H w' H' → Wr (Cx.g X T) w' st H' → FrR (Cx.g X T) w' H' σ' ρ → D.ct σ' H'
  | .exc e ρ st => ∀ w' cls d σ' H', Le w H w' H' → Wr (Cx.g X T) w' st H' → FrR (Cx.g X T) w' H' σ' ρ → ExR (Cx.g X T) w' H' cls d e → W cls d σ' H'
  | .bad => False
structure RunS (f : S) (w : Wo) (st : Store) (ρ : Fr) (σ : L2.St) (H : Hp) (D : Ends) : Prop where
  wr : Wr (Cx.g X T) w st H
  fr : FrR (Cx.g X T) w H σ ρ
  post : PostS X T W w H D (f ρ st)
def tS (f : S) : TS := fun D σ H => ∃ w st ρ, RunS X T W f w st ρ σ H D
def PPS (s : Stmt) (f : S) : Prop := PS X s (tS X T W f)
def PPSs (s : List Stmt) (f : S) : Prop := PSs X s (tS X T W f)
end
section
variable {X : Cx} {T : Tabs} {W : WX} {w w' : Wo} {H H' : Hp} {σ : L2.St} {st : Store} {ρ : Fr} {D : Ends}
theorem PostS.mono (e : Le w H w' H') {r : RS} (h : PostS X T W w H D r) : PostS X T W w' H' D r := by
  cases r with
  | nx ρ st => exact fun w2 v H2 l => h w2 v H2 (e.trans l)
  | rt x st => exact fun w2 v H2 l => h w2 v H2 (e.trans l)
  | bk ρ st => exact fun w2 v H2 l => h w2 v H2 (e.trans l)
  | ct ρ st => exact fun w2 v H2 l => h w2 v H2 (e.trans l)
  | exc x ρ st => exact fun w2 c d v H2 l => h w2 c d v H2 (e.trans l)
  | bad => exact h
/-- behind an expression -/
def sE {α : Type} (m : M α) (ρ : Fr) (k : α → Store → RS) : Store → RS := fun st => match m st with
  | .ok a st' => k a st'
  | .exc e st' => .exc e ρ st'
  | .bad => .bad
theorem RunS.eE {f : Fr → M PV} {k : PV → S} {Q' : VK} (h : RunS X T W (fun ρ => sE (f ρ) ρ fun x => k x ρ) w st ρ σ H D)
    (step : ∀ w1 st1 x v H1, Le w H w1 H1 → Rep (Cx.g X T) w1 H1 v x → RunS X T W (k x) w1 st1 ρ σ H1 D → Q' v H1) : tE X T W f σ H Q' := by
  refine ⟨w, st, ρ, h.wr, h.fr, ?_⟩
  have p := h.post
  unfold sE at p
  cases e : f ρ st with
  | ok x st1 => rw [e] at p; exact fun w1 v H1 l wr r => step w1 st1 x v H1 l r ⟨wr, h.fr.mono l, p.mono l⟩
  | exc x st1 => rw [e] at p; exact fun w1 c d H1 l wr r => p w1 c d σ H1 l wr (h.fr.mono l) r
  | bad => rw [e] at p; exact p
theorem RunS.bE {f : Fr → M Bool} {k : Bool → S} {Q' : Bool → Hp → Prop} (h : RunS X T W (fun ρ => sE (f ρ) ρ fun x => k x ρ) w st ρ σ H D)
    (step : ∀ w1 st1 x H1, Le w H w1 H1 → RunS X T W (k x) w1 st1 ρ σ H1 D → Q' x H1) : tT X T W f σ H Q' := by
  refine ⟨w, st, ρ, h.wr, h.fr, ?_⟩
  have p := h.post
  unfold sE at p
  cases e : f ρ st with
  | ok x st1 => rw [e] at p; exact fun w1 H1 l wr => step w1 st1 x H1 l ⟨wr, h.fr.mono l, p.mono l⟩
  | exc x st1 => rw [e] at p; exact fun w1 c d H1 l wr r => p w1 c d σ H1 l wr (h.fr.mono l) r
  | bad => rw [e] at p; exact p
theorem RunS.aE {f : Fr → M (List PV)} {k : List PV → S} {Q' : List V → Hp → Prop} (h : RunS X T W (fun ρ => sE (f ρ) ρ fun x => k x ρ) w st ρ σ H D)
    (step : ∀ w1 st1 x v H1, Le w H w1 H1 → RepL (Cx.g X T) w1 H1 v x → RunS X T W (k x) w1 st1 ρ σ H1 D → Q' v H1) : tA X T W f σ H Q' := by
  refine ⟨w, st, ρ, h.wr, h.fr, ?_⟩
  have p := h.post
  unfold sE at p
  cases e : f ρ st with
  | ok x st1 => rw [e] at p; exact fun w1 v H1 l wr r => step w1 st1 x v H1 l r ⟨wr, h.fr.mono l, p.mono l⟩
  | exc x st1 => rw [e] at p; exact fun w1 c d H1 l wr r => p w1 c d σ H1 l wr (h.fr.mono l) r
  | bad => rw [e] at p; exact p
theorem RunS.no {f : S} (h : RunS X T W f w st ρ σ H D) (e : f ρ st = .bad) : False := by
  have p := h.post
  rw [e] at p
  exact p
variable {s : Stmt} {ss : List Stmt} {e : Expr} {fe : Fr → M PV} {f g : S} {pos : Pos}
def sNx : S := fun ρ st => .nx ρ st
theorem ppss_nil : PPSs X T W [] sNx := ⟨fun pins s σ H D I ⟨w, st, ρ, h⟩ => pss_nil.run pins s σ H D I (h.post w σ H (Le.refl _ _) h.wr h.fr)⟩
def sSeq (f g : S) : S := fun ρ st => match f ρ st with
  | .nx ρ' st' => g ρ' st'
  | r => r
theorem ppss_cons (h1 : PPS X T W s f) (h2 : PPSs X T W ss g) : PPSs X T W (s :: ss) (sSeq f g) := by
  refine ⟨fun pins sh σ H D I ⟨w, st, ρ, h⟩ => (pss_cons h1 h2).run pins sh σ H D I ⟨w, st, ρ, h.wr, h.fr, ?_⟩⟩
  have p := h.post
  unfold sSeq at p
  cases q : f ρ st with
  | nx ρ' st' => rw [q] at p; exact fun w1 σ1 H1 l wr fr => ⟨w1, st', ρ', wr, fr, p.mono l⟩
  | rt x st' => rw [q] at p; exact p
  | bk x st' => rw [q] at p; exact p
  | ct x st' => rw [q] at p; exact p
  | exc x y st' => rw [q] at p; exact p
  | bad => rw [q] at p; exact p
theorem ppss_one (h1 : PPS X T W s f) : PPSs X T W [s] f := pss_one h1
theorem pps_pass : PPS X T W (.Pass pos) sNx := ⟨fun pins s σ H D I ⟨w, st, ρ, h⟩ => ps_pass.run pins s σ H D I (h.post w σ H (Le.refl _ _) h.wr h.fr)⟩
def sBrk : S := fun ρ st => .bk ρ st
theorem pps_break : PPS X T W (.Break pos) sBrk := ⟨fun pins s σ H D I ⟨w, st, ρ, h⟩ => ps_break.run pins s σ H D I (h.post w σ H (Le.refl _ _) h.wr h.fr)⟩
def sExpr (fe : Fr → M PV) : S := fun ρ => sE (fe ρ) ρ fun _ st => .nx ρ st
theorem pps_expr (he : PP X T W e fe) (hs : swapsWith e none pos.line X.env = pure false := by rfl) : PPS X T W (.Expr e pos) (sExpr fe) := by
  refine ⟨fun pins s σ H D I ⟨w, st, ρ, h⟩ => (ps_expr he hs).run pins s σ H D I ?_⟩
  exact RunS.eE (k := fun _ ρ st => .nx ρ st) h fun w1 st1 x v H1 l r h1 => h1.post w1 σ H1 (Le.refl _ _) h1.wr h1.fr
def sRet (fe : Fr → M PV) : S := fun ρ => sE (fe ρ) ρ fun x st => .rt x st
theorem pps_ret (he : PP X T W e fe) : PPS X T W (.Return (some e) pos) (sRet fe) := by
  refine ⟨fun pins s σ H D I ⟨w, st, ρ, h⟩ => (ps_ret he).run pins s σ H D I ?_⟩
  exact RunS.eE (k := fun x ρ st => .rt x st) h fun w1 st1 x v H1 l r h1 => h1.post w1 v H1 (Le.refl _ _) h1.wr r
def sRetN : S := fun _ st => .rt .non st
theorem pps_retN : PPS X T W (.Return none pos) sRetN := ⟨fun pins s σ H D I ⟨w, st, ρ, h⟩ => ps_retN.run pins s σ H D I (h.post w .non H (Le.refl _ _) h.wr .non)⟩
def sIf (gc : Fr → M Bool) (f g : S) : S := fun ρ => sE (gc ρ) ρ fun c st => if c = true then f ρ st else g ρ st
theorem pps_if {c : Expr} {a b : List Stmt} {gc : Fr → M Bool} (hc : PPT X T W c gc) (ha : PPSs X T W a f) (hb : PPSs X T W b g) : PPS X T W (.If c a b pos) (sIf gc f g) := by
  refine ⟨fun pins s σ H D I ⟨w, st, ρ, h⟩ => (ps_if hc ha hb).run pins s σ H D I ?_⟩
  refine RunS.bE (k := fun c ρ st => if c = true then f ρ st else g ρ st) h fun w1 st1 c H1 l h1 => ?_
  cases c with
  | true => exact iteT ⟨w1, st1, ρ, h1⟩
  | false => exact iteF ⟨w1, st1, ρ, h1⟩
/-! ### targets -/
/-- the slots outside of is are as they were -/
def Agr (is : List Nat) (σ σ' : L2.St) : Prop := σ'.length = σ.length ∧ ∀ j : Nat, j ∉ is → σ'[j]? = σ[j]?
theorem Agr.refl (is : List Nat) (σ : L2.St) : Agr is σ σ := ⟨rfl, fun _ _ => rfl⟩
theorem Agr.trans {is js : List Nat} {σ σ1 σ2 : L2.St} (a : Agr is σ σ1) (b : Agr js σ1 σ2) : Agr (is ++ js) σ σ2 :=
  ⟨b.1.trans a.1, fun j h => (b.2 j fun z => h (List.mem_append_right _ z)).trans (a.2 j fun z => h (List.mem_append_left _ z))⟩
theorem wipe_get (σ : L2.St) : ∀ (vs : List Nat) (j : Nat), (wipe σ vs)[j]? = if j ∈ vs ∧ j < σ.length then some none else σ[j]?
  | [], j => by simp [wipe]
  | v :: vs, j => by
    unfold wipe
    by_cases e : j = v
    · subst e
      by_cases hl : j < σ.length
      · rw [List.getElem?_set_self (by rw [wipe_length]; exact hl), if_pos ⟨by simp, hl⟩]
      · rw [List.getElem?_eq_none (by rw [List.length_set, wipe_length]; omega), if_neg (fun z => hl z.2), List.getElem?_eq_none (by omega)]
    · rw [List.getElem?_set_ne (Ne.symm e), wipe_get σ vs j]
      simp [e]
theorem Agr.wipe {is vs : List Nat} {σ σ' : L2.St} (a : Agr is σ σ') (h : ∀ i ∈ is, i ∈ vs) : wipe σ' vs = wipe σ vs := by
  refine List.ext_getElem? fun j => ?_
  rw [wipe_get, wipe_get, a.1]
  by_cases hj : j ∈ vs ∧ j < σ.length
  · rw [if_pos hj, if_pos hj]
  · rw [if_neg hj, if_neg hj]
    by_cases hv : j ∈ is
    · have hl : ¬ j < σ.length := fun z => hj ⟨h j hv, z⟩
      rw [List.getElem?_eq_none (by rw [a.1]; omega), List.getElem?_eq_none (by omega)]
    · exact a.2 j hv
def tG (X : Cx) (T : Tabs) (is : List Nat) (g : PV → Fr → M Fr) : TG := fun v σ H Q => ∃ w st ρ x, Wr (Cx.g X T) w st H ∧ FrR (Cx.g X T) w H σ ρ ∧ Rep (Cx.g X T) w H v x ∧ ∃ ρ' st', g x ρ st = .ok ρ' st' ∧
  ∀ w' σ' H', Le w H w' H' → Wr (Cx.g X T) w' st' H' → FrR (Cx.g X T) w' H' σ' ρ' → Agr is σ σ' → Q σ' H'
def PPG (X : Cx) (T : Tabs) (tg : Expr) (is : List Nat) (g : PV → Fr → M Fr) : Prop := PG X tg (tG X T is g)
def gN (i : Nat) : PV → Fr → M Fr := fun x ρ => M.pure (ρ.set i (some x))
theorem ppg_name {i : Nat} {x : Str} (hN : X.N.Nodup) (hi : X.N[i]? = some x) (hx : Loc X.env.scope x) (hf : X.fn x = true ∨ X.env.scope.names.lookup x = some .local) : PPG X T (.Name x pos) [i] (gN i) := by
  refine ⟨fun pins s σ H v u Q I r ⟨w, st, ρ, y, wr, fr, ry, ρ', st', e, q⟩ => (pg_name hN hi hx hf).run pins s σ H v u Q I r ?_⟩
  cases e
  exact q w _ H (Le.refl _ _) wr (fr.set ry i) ⟨by simp, fun j hj => List.getElem?_set_ne (fun z => hj (by simp [z]))⟩
def tGs (X : Cx) (T : Tabs) (is : List Nat) (g : List PV → Fr → M Fr) : TGs := fun v σ H Q => ∃ w st ρ x, Wr (Cx.g X T) w st H ∧ FrR (Cx.g X T) w H σ ρ ∧ RepL (Cx.g X T) w H v x ∧ ∃ ρ' st', g x ρ st = .ok ρ' st' ∧
  ∀ w' σ' H', Le w H w' H' → Wr (Cx.g X T) w' st' H' → FrR (Cx.g X T) w' H' σ' ρ' → Agr is σ σ' → Q σ' H'
def PPGs (X : Cx) (T : Tabs) (tgs : List Expr) (is : List Nat) (g : List PV → Fr → M Fr) : Prop := PGs X tgs (tGs X T is g)
def gN0 : List PV → Fr → M Fr
  | [], ρ => M.pure ρ
  | _, _ => M.bad
def gNC (g : PV → Fr → M Fr) (gs : List PV → Fr → M Fr) : List PV → Fr → M Fr
  | x :: xs, ρ => g x ρ >>= fun ρ' => gs xs ρ'
  | [], _ => M.bad
theorem ppgs_nil : PPGs X T [] [] gN0 := by
  refine ⟨fun pins s σ H vs us Q I r ⟨w, st, ρ, y, wr, fr, ry, ρ', st', e, q⟩ => pgs_nil.run pins s σ H vs us Q I r ?_⟩
  cases ry with
  | nil => cases e; exact ⟨rfl, q w σ H (Le.refl _ _) wr fr (Agr.refl _ _)⟩
  | cons _ _ => cases e
theorem ppgs_cons {t : Expr} {ts : List Expr} {is js : List Nat} {g : PV → Fr → M Fr} {gs : List PV → Fr → M Fr} (h : PPG X T t is g) (hs : PPGs X T ts js gs) (hst : (assignEach (t :: ts) X.env).map (·.2) = assign t X.env :: (assignEach ts X.env).map (·.2) := by rfl) : PPGs X T (t :: ts) (is ++ js) (gNC g gs) := by
  refine ⟨fun pins s σ H vs us Q I r ⟨w, st, ρ, y, wr, fr, ry, ρ', st', e, q⟩ => (pgs_cons h hs hst).run pins s σ H vs us Q I r ?_⟩
  cases ry with
  | nil => cases e
  | @cons v vs x xs r1 r2 =>
    refine ⟨v, vs, rfl, w, st, ρ, x, wr, fr, r1, ?_⟩
    change (g x ρ >>= fun ρ' => gs xs ρ') st = _ at e
    cases q1 : g x ρ st with
    | ok ρ1 st1 =>
      rw [M.bind_ok q1] at e
      exact ⟨ρ1, st1, rfl, fun w1 σ1 H1 l wr1 fr1 ag => ⟨w1, st1, ρ1, xs, wr1, fr1, r2.mono l, ρ', st', e, fun w2 σ2 H2 l2 wr2 fr2 ag2 => q w2 σ2 H2 (l.trans l2) wr2 fr2 (ag.trans ag2)⟩⟩
    | exc _ _ => rw [M.bind_exc q1] at e; cases e
    | bad => rw [M.bind_bad q1] at e; cases e
def gTp (n : Nat) (gs : List PV → Fr → M Fr) : PV → Fr → M Fr
  | .tup xs, ρ => if xs.length = n then gs xs ρ else M.bad
  | _, _ => M.bad
theorem ppg_tup {es : List Expr} {k : Nat} {is : List Nat} {gs : List PV → Fr → M Fr} {n : Nat} (hc : X.calm = true) (h : PPGs X T es is gs)
    (hn : (assignEach es X.env).length = n := by rfl) (hst : (assignEach es X.env).findIdx? (·.1) = none := by rfl) : PPG X T (.Tuple es k pos) is (gTp n gs) := by
  refine ⟨fun pins s σ H v u Q I r ⟨w, st, ρ, y, wr, fr, ry, ρ', st', e, q⟩ => (pg_tup hc h hn hst).run pins s σ H v u Q I r ?_⟩
  cases ry with
  | @tup a vs xs h1 h2 =>
    change (if xs.length = n then gs xs ρ else M.bad) st = _ at e
    by_cases hl : xs.length = n
    · rw [if_pos hl] at e
      exact ⟨a, vs, rfl, h1.sq, by rw [h2.length]; exact hl, w, st, ρ, xs, wr, fr, h2, ρ', st', e, q⟩
    · rw [if_neg hl] at e; cases e
  | _ => cases e
def sAsg (fe : Fr → M PV) (g : PV → Fr → M Fr) : S := fun ρ => sE (fe ρ) ρ fun x st => match g x ρ st with
  | .ok ρ' st' => .nx ρ' st'
  | _ => .bad
theorem pps_asg {tg : Expr} {is : List Nat} {g : PV → Fr → M Fr} (he : PP X T W e fe) (hg : PPG X T tg is g) (hs : swapsWithSole [tg] e pos.line X.env = pure false := by rfl) (hw : swappedStores [tg] e X.env = pure none := by rfl)
    (h1 : (assignEach [tg] X.env).map (·.2) = [assign tg X.env] := by rfl) : PPS X T W (.Assign [tg] e pos) (sAsg fe g) := by
  refine ⟨fun pins s σ H D I ⟨w, st, ρ, h⟩ => (ps_asg he hg hs hw h1).run pins s σ H D I ?_⟩
  refine RunS.eE (k := fun x ρ st => match g x ρ st with | .ok ρ' st' => .nx ρ' st' | _ => .bad) h fun w1 st1 x v H1 l r h1 => ?_
  refine ⟨w1, st1, ρ, x, h1.wr, h1.fr, r, ?_⟩
  have p := h1.post
  cases q : g x ρ st1 with
  | ok ρ' st' => simp only [q] at p; exact ⟨ρ', st', rfl, fun w2 σ2 H2 l2 wr2 fr2 _ => p w2 σ2 H2 l2 wr2 fr2⟩
  | exc _ _ => simp only [q] at p; exact p.elim
  | bad => simp only [q] at p; exact p.elim
theorem pps_set {i : Nat} {x : Str} {pos' : Pos} (hN : X.N.Nodup) (hi : X.N[i]? = some x) (hx : Loc X.env.scope x) (he : PP X T W e fe) (hf : X.fn x = true ∨ X.env.scope.names.lookup x = some .local) (hs : swapsWith e (some (.Name x pos')) pos.line X.env = pure false := by rfl) :
    PPS X T W (.Assign [.Name x pos'] e pos) (sAsg fe (gN i)) := by
  refine ⟨fun pins s σ H D I ⟨w, st, ρ, h⟩ => (ps_set hN hi hx he hs hf).run pins s σ H D I ?_⟩
  refine RunS.eE (k := fun x ρ st => match gN i x ρ st with | .ok ρ' st' => .nx ρ' st' | _ => .bad) h fun w1 st1 x v H1 l r h1 => ?_
  exact h1.post w1 _ H1 (Le.refl _ _) h1.wr (h1.fr.set r i)
/-- a, b = x, y -/
def sPar (i j : Nat) (fr : Fr → M (List PV)) : S := fun ρ => sE (fr ρ) ρ fun xs st => match xs with
  | [x, y] => .nx ((ρ.set i (some x)).set j (some y)) st
  | _ => .bad
theorem pps_par {i j : Nat} {x y : Str} {a b : Expr} {ta : Fr → M (List PV)} {px py pt : Pos} {kt k2 : Nat} {pt2 : Pos} (hc : X.calm = true) (hN : X.N.Nodup) (hi : X.N[i]? = some x) (hj : X.N[j]? = some y) (hij : i ≠ j)
    (hx : X.env.scope.names.lookup x = some .local) (hy : X.env.scope.names.lookup y = some .local) (ha : PPA X T W [a, b] ta)
    (hw : swappedStores [.Tuple [.Name x px, .Name y py] kt pt] (.Tuple [a, b] k2 pt2) X.env = pure (some [x, y]))
    (hs : swapsWithSole [.Tuple [.Name x px, .Name y py] kt pt] (.Tuple [a, b] k2 pt2) pos.line X.env = pure false := by rfl) :
    PPS X T W (.Assign [.Tuple [.Name x px, .Name y py] kt pt] (.Tuple [a, b] k2 pt2) pos) (sPar i j ta) := by
  refine ⟨fun pins s σ H D I ⟨w, st, ρ, h⟩ => (ps_par hc hN hi hj hij hx hy ha hw hs).run pins s σ H D I ?_⟩
  refine RunS.aE (k := fun xs ρ st => match xs with | [x, y] => .nx ((ρ.set i (some x)).set j (some y)) st | _ => .bad) h fun w1 st1 xs vs H1 l r h1 => ?_
  cases r with
  | nil => exact (h1.no rfl).elim
  | cons r1 r =>
    cases r with
    | nil => exact (h1.no rfl).elim
    | cons r2 r =>
      cases r with
      | nil => exact ⟨_, _, rfl, h1.post w1 _ H1 (Le.refl _ _) h1.wr ((h1.fr.set r1 i).set r2 j)⟩
      | cons _ _ => exact (h1.no rfl).elim
end
end Eg

/-! E6: what is walked; for, while, list comprehensions. -/
namespace Eg
open PySem PySem.Spec PyProof.Rows L2
/-- what a loop walks -/
structure Src where
  get : Store → Nat → Option PV
  len : Nat
  fin : Store → Bool
def Src.fz (xs : List PV) : Src := ⟨fun _ i => xs[i]?, xs.length, fun _ => true⟩
def Src.lc (l n : Nat) : Src := ⟨fun st i => match st.get l with | some (.lst ys) => ys[i]? | _ => none, n, fun st => match st.get l with | some (.lst ys) => ys.length == n | _ => false⟩
section
variable (X : Cx) (T : Tabs) (W : WX)
def Wk (w : Wo) (H : Hp) (J : It) (s : Src) : Prop := ∀ w1 H1 st1, Le w H w1 H1 → Wr (Cx.g X T) w1 st1 H1 →
  (∀ i x, i < s.len → s.get st1 i = some x → J.go i H1 ∧ ∀ v H2, J.yld i H1 v H2 → Same H1 H2 ∧ Rep (Cx.g X T) w1 H2 v x) ∧ (s.fin st1 = true → J.stop s.len H1)
def PostI (w : Wo) (σ : L2.St) (H : Hp) (R : It → Hp → Prop) : Eg.R Src → Prop
  | .ok s st => ∀ w' J H', Le w H w' H' → Wr (Cx.g X T) w' st H' → Wk X T w' H' J s → R J H'
  | .exc e st => ∀ w' cls d H', Le w H w' H' → Wr (Cx.g X T) w' st H' → ExR (Cx.g X T) w' H' cls d e → W cls d σ H'
  | .bad => False
structure RunI (f : Fr → M Src) (w : Wo) (st : Store) (ρ : Fr) (σ : L2.St) (H : Hp) (R : It → Hp → Prop) : Prop where
  wr : Wr (Cx.g X T) w st H
  fr : FrR (Cx.g X T) w H σ ρ
  post : PostI X T W w σ H R (f ρ st)
def tI (f : Fr → M Src) : TI := fun σ H R => ∃ w st ρ, RunI X T W f w st ρ σ H R
def PPI (tg e : Expr) (f : Fr → M Src) : Prop := PI X tg e (tI X T W f)
end
section
variable {X : Cx} {T : Tabs} {W : WX} {w w' : Wo} {H H' : Hp} {σ : L2.St} {st : Store} {ρ : Fr} {D : Ends}
theorem PostI.mono (e : Le w H w' H') {R : It → Hp → Prop} {r : Eg.R Src} (h : PostI X T W w σ H R r) : PostI X T W w' σ H' R r := by
  cases r with
  | ok x st => exact fun w2 v H2 l => h w2 v H2 (e.trans l)
  | exc x st => exact fun w2 c d H2 l => h w2 c d H2 (e.trans l)
  | bad => exact h
theorem RunI.eE {f : Fr → M PV} {k : PV → Fr → M Src} {R : It → Hp → Prop} {Q' : VK} (h : RunI X T W (fun ρ => f ρ >>= fun x => k x ρ) w st ρ σ H R)
    (step : ∀ w1 st1 x v H1, Le w H w1 H1 → Rep (Cx.g X T) w1 H1 v x → RunI X T W (k x) w1 st1 ρ σ H1 R → Q' v H1) : tE X T W f σ H Q' := by
  refine ⟨w, st, ρ, h.wr, h.fr, ?_⟩
  have p := h.post
  cases e : f ρ st with
  | ok x st1 => rw [M.bind_ok e] at p; exact fun w1 v H1 l wr r => step w1 st1 x v H1 l r ⟨wr, h.fr.mono l, p.mono l⟩
  | exc x st1 => rw [M.bind_exc e] at p; exact p
  | bad => rw [M.bind_bad e] at p; exact p
theorem RunI.aE {f : Fr → M (List PV)} {k : List PV → Fr → M Src} {R : It → Hp → Prop} {Q' : List V → Hp → Prop} (h : RunI X T W (fun ρ => f ρ >>= fun x => k x ρ) w st ρ σ H R)
    (step : ∀ w1 st1 x v H1, Le w H w1 H1 → RepL (Cx.g X T) w1 H1 v x → RunI X T W (k x) w1 st1 ρ σ H1 R → Q' v H1) : tA X T W f σ H Q' := by
  refine ⟨w, st, ρ, h.wr, h.fr, ?_⟩
  have p := h.post
  cases e : f ρ st with
  | ok x st1 => rw [M.bind_ok e] at p; exact fun w1 v H1 l wr r => step w1 st1 x v H1 l r ⟨wr, h.fr.mono l, p.mono l⟩
  | exc x st1 => rw [M.bind_exc e] at p; exact p
  | bad => rw [M.bind_bad e] at p; exact p
theorem RunI.ret {f : Fr → M Src} {R : It → Hp → Prop} (h : RunI X T W f w st ρ σ H R) {x : Src} (e : f ρ st = .ok x st) {J : It} (k : Wk X T w H J x) : R J H := by
  have p := h.post
  rw [e] at p
  exact p w J H (Le.refl _ _) h.wr k
theorem RunI.no {f : Fr → M Src} {R : It → Hp → Prop} (h : RunI X T W f w st ρ σ H R) (e : f ρ st = .bad) : False := by
  have p := h.post
  rw [e] at p
  exact p

/-! ### for -/
def forGo (g : PV → Fr → M Fr) (body : S) (s : Src) : Nat → Nat → Fr → Store → RS
  | 0, _, ρ, st => if s.fin st = true then .nx ρ st else .bad
  | k + 1, i, ρ, st => match s.get st i with
    | some x => match g x ρ st with
      | .ok ρ1 st1 => match body ρ1 st1 with
        | .nx ρ2 st2 => forGo g body s k (i + 1) ρ2 st2
        | .ct ρ2 st2 => forGo g body s k (i + 1) ρ2 st2
        | .bk ρ2 st2 => .nx ρ2 st2
        | r => r
      | _ => .bad
    | none => .bad
def sFor (fi : Fr → M Src) (g : PV → Fr → M Fr) (body : S) : S := fun ρ => sE (fi ρ) ρ fun s st => forGo g body s s.len 0 ρ st
theorem pps_for {tg iter : Expr} {body : List Stmt} {fi : Fr → M Src} {is : List Nat} {g : PV → Fr → M Fr} {fb : S} {pos : Pos} (hp : PassesOwn (model X.prog X.w) X.A X.env X.xe) (hc : X.calm = true) (hi : PPI X T W tg iter fi) (hg : PPG X T tg is g) (hb : PPSs X T W body fb)
    (hs : ∀ x, foldedSetIterable iter X.env x = pure x := by intro _; rfl) : PPS X T W (.For tg iter body [] pos) (sFor fi g fb) := by
  refine ⟨fun pins sh σ H D I ⟨w, st, ρ, h⟩ => (ps_for hp hc hi hg hb hs).run pins sh σ H D I ⟨w, st, ρ, h.wr, h.fr, ?_⟩⟩
  have p := h.post
  unfold sFor sE at p
  cases e : fi ρ st with
  | exc x st1 => rw [e] at p; exact fun w1 c d H1 l wr r => p w1 c d σ H1 l wr (h.fr.mono l) r
  | bad => rw [e] at p; exact p
  | ok s st1 =>
    rw [e] at p
    intro w0 J H0 l0 wr0 wk
    refine ⟨fun i m σ H => i + m = s.len ∧ ∃ w st ρ, Le w0 H0 w H ∧ Wr (Cx.g X T) w st H ∧ FrR (Cx.g X T) w H σ ρ ∧ PostS X T W w H D (forGo g fb s m i ρ st), ⟨s.len, by omega, w0, st1, ρ, Le.refl _ _, wr0, h.fr.mono l0, p.mono l0⟩, ?_⟩
    rintro i m σ H ⟨him, w, st, ρ, l, wr, fr, p⟩
    obtain ⟨k1, k2⟩ := wk w H st l wr
    cases m with
    | zero =>
      have ei : i = s.len := by omega
      subst ei
      unfold forGo at p
      by_cases hf : s.fin st = true
      · rw [if_pos hf] at p
        exact .inl ⟨k2 hf, p w σ H (Le.refl _ _) wr fr⟩
      · rw [if_neg hf] at p; exact p.elim
    | succ m =>
      unfold forGo at p
      cases q : s.get st i with
      | none => rw [q] at p; exact p.elim
      | some x =>
        rw [q] at p
        dsimp only at p
        obtain ⟨go, yl⟩ := k1 i x (by omega) q
        refine .inr ⟨go, fun σ' H' => (i + 1) + m = s.len ∧ ∃ w st ρ, Le w0 H0 w H' ∧ Wr (Cx.g X T) w st H' ∧ FrR (Cx.g X T) w H' σ' ρ ∧ PostS X T W w H' D (forGo g fb s m (i + 1) ρ st), fun σ' H' z => ⟨m, by omega, z⟩, fun v H2 y => ?_⟩
        obtain ⟨sm, rv⟩ := yl v H2 y
        cases q2 : g x ρ st with
        | exc _ _ => rw [q2] at p; exact p.elim
        | bad => rw [q2] at p; exact p.elim
        | ok ρ1 st1 =>
          rw [q2] at p
          dsimp only at p
          have l2 : Le w H w H2 := Le.same sm
          refine ⟨w, st, ρ, x, wr.same sm, fr.mono l2, rv, ρ1, st1, q2, fun w3 σ3 H3 l3 wr3 fr3 _ => ⟨w3, st1, ρ1, wr3, fr3, ?_⟩⟩
          have l23 := l2.trans l3
          cases q3 : fb ρ1 st1 with
          | nx ρ2 st2 =>
            rw [q3] at p
            exact fun w4 σ4 H4 l4 wr4 fr4 => ⟨by omega, w4, st2, ρ2, (l.trans l23).trans l4, wr4, fr4, (p.mono l23).mono l4⟩
          | ct ρ2 st2 =>
            rw [q3] at p
            exact fun w4 σ4 H4 l4 wr4 fr4 => ⟨by omega, w4, st2, ρ2, (l.trans l23).trans l4, wr4, fr4, (p.mono l23).mono l4⟩
          | bk ρ2 st2 => rw [q3] at p; exact fun w4 σ4 H4 l4 wr4 fr4 => p w4 σ4 H4 (l23.trans l4) wr4 fr4
          | rt y st2 => rw [q3] at p; exact p.mono l23
          | exc y ρ2 st2 => rw [q3] at p; exact p.mono l23
          | bad => rw [q3] at p; exact p

/-! ### while, by fuel -/
def whGo (gc : Fr → M Bool) (body : S) : Nat → Fr → Store → RS
  | 0, _, _ => .bad
  | k + 1, ρ, st => match gc ρ st with
    | .ok true st1 => match body ρ st1 with
      | .nx ρ2 st2 => whGo gc body k ρ2 st2
      | .ct ρ2 st2 => whGo gc body k ρ2 st2
      | .bk ρ2 st2 => .nx ρ2 st2
      | r => r
    | .ok false st1 => .nx ρ st1
    | .exc e st1 => .exc e ρ st1
    | .bad => .bad
def sWhile (n : Nat) (gc : Fr → M Bool) (body : S) : S := fun ρ st => whGo gc body n ρ st
theorem pps_while (n : Nat) {c : Expr} {body : List Stmt} {gc : Fr → M Bool} {fb : S} {pos : Pos} (hp : PassesOwn (model X.prog X.w) X.A X.env X.xe) (hc : PPT X T W c gc) (hb : PPSs X T W body fb) : PPS X T W (.While c body [] pos) (sWhile n gc fb) := by
  refine ⟨fun pins sh σ H D I ⟨w, st, ρ, h⟩ => (ps_while hp hc hb).run pins sh σ H D I ?_⟩
  refine ⟨fun m σ H => ∃ w st ρ, Wr (Cx.g X T) w st H ∧ FrR (Cx.g X T) w H σ ρ ∧ PostS X T W w H D (whGo gc fb m ρ st), ⟨n, w, st, ρ, h.wr, h.fr, h.post⟩, ?_⟩
  rintro m σ H ⟨w, st, ρ, wr, fr, p⟩
  cases m with
  | zero => exact p.elim
  | succ m =>
    unfold whGo at p
    refine ⟨w, st, ρ, wr, fr, ?_⟩
    cases q : gc ρ st with
    | exc x st1 => rw [q] at p; exact fun w1 c d H1 l wr r => p w1 c d σ H1 l wr (fr.mono l) r
    | bad => rw [q] at p; exact p
    | ok b st1 =>
      rw [q] at p
      intro w1 H1 l1 wr1
      cases b with
      | false => exact iteF (p w1 σ H1 l1 wr1 (fr.mono l1))
      | true =>
        refine iteT ⟨fun σ' H' => ∃ w st ρ, Wr (Cx.g X T) w st H' ∧ FrR (Cx.g X T) w H' σ' ρ ∧ PostS X T W w H' D (whGo gc fb m ρ st), fun σ' H' z => ⟨m, by omega, z⟩, w1, st1, ρ, wr1, fr.mono l1, ?_⟩
        dsimp only at p
        cases q3 : fb ρ st1 with
        | nx ρ2 st2 => rw [q3] at p; exact fun w4 σ4 H4 l4 wr4 fr4 => ⟨w4, st2, ρ2, wr4, fr4, p.mono (l1.trans l4)⟩
        | ct ρ2 st2 => rw [q3] at p; exact fun w4 σ4 H4 l4 wr4 fr4 => ⟨w4, st2, ρ2, wr4, fr4, p.mono (l1.trans l4)⟩
        | bk ρ2 st2 => rw [q3] at p; exact fun w4 σ4 H4 l4 wr4 fr4 => p w4 σ4 H4 (l1.trans l4) wr4 fr4
        | rt y st2 => rw [q3] at p; exact p.mono l1
        | exc y ρ2 st2 => rw [q3] at p; exact p.mono l1
        | bad => rw [q3] at p; exact p
end
end Eg

/-! E7: list comprehensions; sources of loops. -/
namespace Eg
open PySem PySem.Spec PyProof.Rows L2
/-- in a comprehension's block nothing is raised -/
abbrev W0 : WX := fun _ _ _ _ => False
def wipeF (ρ : Fr) : List Nat → Fr
  | [] => ρ
  | v :: vs => (wipeF ρ vs).set v none
theorem FrR.wipe {G : Cfg} {w : Wo} {H : Hp} {σ : L2.St} {ρ : Fr} (h : FrR G w H σ ρ) : ∀ vs : List Nat, FrR G w H (L2.wipe σ vs) (wipeF ρ vs)
  | [] => h
  | v :: vs => (FrR.wipe h vs).wipe1 v
def lcGo (g : PV → Fr → M Fr) (ft : Fr → M Bool) (fe : Fr → M PV) (s : Src) (ρ : Fr) : Nat → Nat → Store → R (List PV)
  | 0, _, st => if s.fin st = true then .ok [] st else .bad
  | k + 1, i, st => match s.get st i with
    | some x => match g x ρ st with
      | .ok ρ1 st1 => match ft ρ1 st1 with
        | .ok true st2 => match fe ρ1 st2 with
          | .ok y st3 => match lcGo g ft fe s ρ k (i + 1) st3 with
            | .ok ys st4 => .ok (y :: ys) st4
            | _ => .bad
          | _ => .bad
        | .ok false st2 => lcGo g ft fe s ρ k (i + 1) st2
        | _ => .bad
      | _ => .bad
    | none => .bad
theorem lcGo_noexc {g : PV → Fr → M Fr} {ft : Fr → M Bool} {fe : Fr → M PV} {s : Src} {ρ : Fr} {e : Exn} {st' : Store} : ∀ (k i : Nat) {st : Store}, lcGo g ft fe s ρ k i st ≠ .exc e st'
  | 0, i, st => by unfold lcGo; split <;> intro h <;> cases h
  | k + 1, i, st => by
    unfold lcGo
    split
    · split
      · split
        · split
          · split <;> intro h <;> cases h
          · intro h; cases h
        · exact lcGo_noexc k (i + 1)
        · intro h; cases h
      · intro h; cases h
    · intro h; cases h
def eLc (k : Bool) (vs : List Nat) (fi : Fr → M Src) (g : PV → Fr → M Fr) (ft : Fr → M Bool) (fe : Fr → M PV) : Fr → M PV := fun ρ => fi ρ >>= fun s =>
  if s.len ≤ sizeLine then (fun st => lcGo g ft fe s (wipeF ρ vs) s.len 0 st) >>= fun ys => nw k (.lst ys) else M.bad
def Wo.hide (w : Wo) (p : Addr) : Wo := ⟨fun a => w.D a ∨ a = p, w.η⟩
def Wo.show (w : Wo) (p : Addr) : Wo := ⟨fun a => w.D a ∧ a ≠ p, w.η⟩
section
variable {X : Cx} {T : Tabs} {W : WX}
/-- the state within a comprehension's block: the list at P so far -/
structure InB (X : Cx) (T : Tabs) (w0 : Wo) (H0 : Hp) (P : Addr) (w : Wo) (st : Store) (H : Hp) (acc : List PV) : Prop where
  le : Le w0 H0 w H
  wr : Wr (Cx.g X T) w st H
  hid : w.D P
  nl : ∀ l, w.η l ≠ some P
  at_ : ∃ vs, H P = some (.lst vs) ∧ RepL (Cx.g X T) w H vs acc
theorem InB.step {w0 : Wo} {H0 : Hp} {P : Addr} {w w' : Wo} {st st' : Store} {H H' : Hp} {acc : List PV} (h : InB X T w0 H0 P w st H acc) (l : Le w H w' H') (wr : Wr (Cx.g X T) w' st' H') : InB X T w0 H0 P w' st' H' acc := by
  obtain ⟨vs, h1, h2⟩ := h.at_
  have k := (l.keep P _ (.inr h.nl) (.inl h1)).pl rfl
  refine ⟨h.le.trans l, wr, l.hid P h.hid (ne_some h1) h.nl, fun j z => ?_, vs, k, h2.mono l⟩
  rcases l.ran j P z with z | z
  · exact h.nl j z
  · rw [h1] at z; cases z
/-- the hidden list changes: all else stays -/
theorem LeR.hidden {w : Wo} {H : Hp} {P : Addr} {o' : HO} (hd : w.D P) : LeR w H w (upd H P o') where
  loc _ _ h := h
  fix _ h _ := h
  keep a o d k := by
    have e : a ≠ P := fun z => d (z ▸ hd)
    rcases k with k | ⟨l, b, k⟩
    · exact .inl (by rw [upd_ne e]; exact k)
    · exact .inr ⟨l, b, by rw [upd_ne e]; exact k⟩
theorem Wr.hidden {G : Cfg} {w : Wo} {st : Store} {H : Hp} {P : Addr} {o' : HO} (wr : Wr G w st H) (hd : w.D P) (nl : ∀ l, w.η l ≠ some P) : Wr G w st (upd H P o') where
  cell l c h := by
    obtain ⟨a, h1, h2⟩ := wr.cell l c h
    exact ⟨a, h1, h2.mr (LeR.hidden hd) (wr.ran l a h1).1 (fun z => z) fun _ => upd_ne fun z => nl l (z ▸ h1)⟩
  inj := wr.inj
  trk a h := by
    by_cases e : a = P
    · subst e; rw [upd_same]; simp
    · rw [upd_ne e]; exact wr.trk a h
  ran l a h := by
    refine ⟨?_, (wr.ran l a h).2⟩
    have e : a ≠ P := fun z => nl l (by rw [← z]; exact h)
    rw [upd_ne e]
    exact (wr.ran l a h).1
theorem InB.push {w0 : Wo} {H0 : Hp} {P : Addr} {w : Wo} {st : Store} {H : Hp} {acc : List PV} {vs : List V} {v : V} {x : PV} (h : InB X T w0 H0 P w st H acc) (h0 : H0 P = none) (hv : H P = some (.lst vs)) (r : Rep (Cx.g X T) w H v x) : InB X T w0 H0 P w st (upd H P (.lst (vs ++ [v]))) (acc ++ [x]) := by
  obtain ⟨vs', h1, h2⟩ := h.at_
  rw [hv] at h1; cases h1
  refine ⟨⟨h.le.loc, h.le.ran, h.le.fix, fun a o d k => ?_, fun a n => ?_, h.le.hid⟩, h.wr.hidden h.hid h.nl, h.hid, h.nl, _, upd_same, ?_⟩
  · have e : a ≠ P := fun z => k.ne (z ▸ h0)
    rcases h.le.keep a o d k with k | ⟨l, b, k⟩
    · exact .inl (by rw [upd_ne e]; exact k)
    · exact .inr ⟨l, b, by rw [upd_ne e]; exact k⟩
  · have e : a ≠ P := fun z => n (z ▸ h0)
    rw [upd_ne e]
    exact h.le.dom a n
  · exact (h2.mr (LeR.hidden h.hid)).append (.one (r.mr (LeR.hidden h.hid)))
theorem InB.start {w0 : Wo} {st : Store} {H0 : Hp} {P : Addr} (wr : Wr (Cx.g X T) w0 st H0) (h0 : H0 P = none) : InB X T w0 H0 P (w0.hide P) st (upd H0 P (.lst [])) [] := by
  have le : Le w0 H0 (w0.hide P) (upd H0 P (.lst [])) := ⟨fun _ _ h => h, fun _ _ h => .inl h, fun a d n z => z.elim d fun z => n (z ▸ h0), fun a o d k => (Le.same (w := w0) (same_new h0)).keep a o d k, fun a n => (Le.same (w := w0) (same_new h0)).dom a n, fun _ d _ _ => .inl d⟩
  refine ⟨le, ⟨fun l c h => ?_, wr.inj, fun a h => ?_, fun l a h => ⟨le.dom a (wr.ran l a h).1, (wr.ran l a h).2⟩⟩, .inr rfl, wr.nloc h0, [], upd_same, .nil⟩
  · obtain ⟨a, h1, h2⟩ := wr.cell l c h
    exact ⟨a, h1, h2.mono le (wr.ran l a h1).1 (fun z => .inl z) fun _ => upd_ne fun z => wr.nloc h0 l (z ▸ h1)⟩
  · rcases h with h | h
    · exact le.dom a (wr.trk a h)
    · subst h; rw [upd_same]; simp
/-- the list comes out, as a value -/
theorem InB.out {w0 : Wo} {H0 : Hp} {P : Addr} {w : Wo} {st : Store} {H : Hp} {acc : List PV} (h : InB X T w0 H0 P w st H acc) (h0 : H0 P = none) : Le w0 H0 (w.show P) H ∧ Wr (Cx.g X T) (w.show P) st H ∧ Rep (Cx.g X T) (w.show P) H (.ref P) (.lst acc) := by
  obtain ⟨vs, h1, h2⟩ := h.at_
  have lr : LeR w H (w.show P) H := ⟨fun _ _ h => h, fun a d _ z => d z.1, fun _ _ _ h => h⟩
  refine ⟨⟨h.le.loc, h.le.ran, fun a d n z => h.le.fix a d n z.1, h.le.keep, h.le.dom, fun a d n k => ⟨h.le.hid a d n k, fun z => n (z ▸ h0)⟩⟩, ⟨fun l c e => ?_, h.wr.inj, fun a d => h.wr.trk a d.1, h.wr.ran⟩, .lst (fun z => z.2 rfl) h1 (h2.mr lr)⟩
  obtain ⟨a, k1, k2⟩ := h.wr.cell l c e
  exact ⟨a, k1, k2.mr lr (h.wr.ran l a k1).1 (fun d => ⟨d, fun z => h.nl l (z ▸ k1)⟩) fun _ => rfl⟩
/-- the list comes out, at a new location -/
def Wo.put (w : Wo) (l : Nat) (p : Addr) : Wo := ⟨w.D, fun j => if j = l then some p else w.η j⟩
theorem InB.outL {w0 : Wo} {H0 : Hp} {P : Addr} {w : Wo} {st : Store} {H : Hp} {acc : List PV} (h : InB X T w0 H0 P w st H acc) (h0 : H0 P = none) : Le w0 H0 (w.put st.next P) H ∧ Wr (Cx.g X T) (w.put st.next P) (st.new (.lst acc)) H ∧ Rep (Cx.g X T) (w.put st.next P) H (.ref P) (.loc st.next) := by
  obtain ⟨vs, h1, h2⟩ := h.at_
  have pl : ∀ l a, w.η l = some a → (w.put st.next P).η l = some a := fun l a k => by
    show (if l = st.next then some P else w.η l) = some a
    rw [if_neg (fun z => absurd (h.wr.ran l a k).2 (by omega))]
    exact k
  have pr : ∀ l a, (w.put st.next P).η l = some a → (w.η l = some a ∧ l ≠ st.next) ∨ (a = P ∧ l = st.next) := fun l a k => by
    change (if l = st.next then some P else w.η l) = some a at k
    split at k
    · rename_i e; cases k; exact .inr ⟨rfl, e⟩
    · rename_i e; exact .inl ⟨k, e⟩
  have lr : LeR w H (w.put st.next P) H := ⟨pl, fun a d _ z => d z, fun _ _ _ h => h⟩
  refine ⟨⟨fun l a k => pl l a (h.le.loc l a k), fun l a k => ?_, h.le.fix, h.le.keep, h.le.dom, h.le.hid⟩, ⟨fun l c e => ?_, fun l l' a k k' => ?_, h.wr.trk, fun l a k => ?_⟩, .loc (if_pos rfl)⟩
  · rcases pr l a k with ⟨k, _⟩ | ⟨k, _⟩
    · exact h.le.ran l a k
    · subst k; exact .inr h0
  · rw [Store.get_new] at e
    by_cases z : l = st.next
    · subst z
      rw [if_pos rfl] at e
      cases e
      exact ⟨P, if_pos rfl, h.hid, vs, h1, h2.mr lr⟩
    · rw [if_neg z] at e
      obtain ⟨a, k1, k2⟩ := h.wr.cell l c e
      exact ⟨a, pl l a k1, k2.mr lr (h.wr.ran l a k1).1 (fun d => d) fun _ => rfl⟩
  · rcases pr l a k with ⟨k, _⟩ | ⟨k, e⟩
    · rcases pr l' a k' with ⟨k', _⟩ | ⟨z, _⟩
      · exact h.wr.inj l l' a k k'
      · rw [z] at k; exact absurd k (h.nl l)
    · rcases pr l' a k' with ⟨k', _⟩ | ⟨_, e'⟩
      · rw [k] at k'; exact absurd k' (h.nl l')
      · rw [e, e']
  · rcases pr l a k with ⟨k, _⟩ | ⟨k, e⟩
    · exact ⟨(h.wr.ran l a k).1, by rw [Store.new_next]; have := (h.wr.ran l a k).2; omega⟩
    · subst k; exact ⟨ne_some h1, by rw [Store.new_next]; omega⟩
variable {elt tg iter : Expr} {ifs : List Expr} {scope : Scope} {own : List (Str × Nat)} {pos : Pos}
def PPTs (X : Cx) (T : Tabs) (W : WX) (ifs : List Expr) (f : Fr → M Bool) : Prop := PTs X ifs (tT X T W f)
def fYes : Fr → M Bool := fun _ => M.pure true
theorem ppts_nil : PPTs X T W [] fYes := ⟨fun pins s σ H Q I ⟨w, st, ρ, h⟩ => pts_nil.run pins s σ H Q I (h.ret rfl (Le.refl _ _) h.wr)⟩
theorem ppts_one {c : Expr} {f : Fr → M Bool} (h : PPT X T W c f) : PPTs X T W [c] f := pts_one h
theorem pp_lc (k : Bool) {fi : Fr → M Src} {is : List Nat} {g : PV → Fr → M Fr} {ft : Fr → M Bool} {fe : Fr → M PV} (hc : X.calm = true) (hN : X.N.Nodup) (hi : PPI X T W tg iter fi) (ok : BlkOk X.N X.env.scope scope own) (his : ∀ i ∈ is, i ∈ own.map (·.2))
    (hg : ∀ (s : Shared) (H : Hp) (C : Addr) (cl : List (Str × Addr)) (fp : List Addr), PPG (X.blk s H scope (compEnvC scope cl C X.env) fp) T tg is g) (ht : ∀ (s : Shared) (H : Hp) (C : Addr) (cl : List (Str × Addr)) (fp : List Addr), PPTs (X.blk s H scope (compEnvC scope cl C X.env) fp) T W0 ifs ft)
    (he : ∀ (s : Shared) (H : Hp) (C : Addr) (cl : List (Str × Addr)) (fp : List Addr), PP (X.blk s H scope (compEnvC scope cl C X.env) fp) T W0 elt fe) (hs : ∀ x, foldedSetIterable iter X.env x = pure x := by intro _; rfl) :
    PP X T W (.ListComp elt [⟨tg, iter, ifs, 0⟩] scope pos) (eLc k (own.map (·.2)) fi g ft fe) := by
  have ht' : ∀ (s : Shared) (H : Hp) (C : Addr) (cl : List (Str × Addr)) (fp : List Addr), PTs (X.blk s H scope (compEnvC scope cl C X.env) fp) ifs (tT X T W0 ft) := fun s H C cl fp =>
    ⟨fun pins s1 σ H1 Q I ⟨w, st, ρ, h⟩ => (ht s H C cl fp).run pins s1 σ H1 Q I ⟨w, st, ρ, h.wr, h.fr, h.post⟩⟩
  have he' : ∀ (s : Shared) (H : Hp) (C : Addr) (cl : List (Str × Addr)) (fp : List Addr), PE (X.blk s H scope (compEnvC scope cl C X.env) fp) elt (tE X T W0 fe) := fun s H C cl fp =>
    ⟨fun pins s1 σ H1 Q I ⟨w, st, ρ, h⟩ => (he s H C cl fp).run pins s1 σ H1 Q I ⟨w, st, ρ, h.wr, h.fr, h.post⟩⟩
  refine ⟨fun pins sh σ H Q I ⟨w, st, ρ, h⟩ => (pe_lc (g := tG X T is g) (tt := tT X T W0 ft) (te := tE X T W0 fe) hc hN hi ok hg ht' he' hs).run pins sh σ H Q I ⟨w, st, ρ, h.wr, h.fr, ?_⟩⟩
  have p := h.post
  unfold eLc at p
  cases e : fi ρ st with
  | exc x st1 => rw [M.bind_exc e] at p; exact p
  | bad => rw [M.bind_bad e] at p; exact p
  | ok s st1 =>
    rw [M.bind_ok e] at p
    intro w0 J H0 l0 wr0 wk P hP
    replace p := p.mono l0
    have fr0 := h.fr.mono l0
    by_cases hl : s.len ≤ sizeLine
    · rw [if_pos hl] at p
      -- what is left to be done, with the list so far
      let Fin : List PV → Wo → Hp → R (List PV) → Prop := fun acc w H r => match r with
        | .ok ys st2 => ∀ w2 H2, InB X T w0 H0 P w2 st2 H2 (acc ++ ys) → Q (.ref P) H2
        | _ => False
      have start : Fin [] w0 H0 (lcGo g ft fe s (wipeF ρ (own.map (·.2))) s.len 0 st1) := by
        cases q : lcGo g ft fe s (wipeF ρ (own.map (·.2))) s.len 0 st1 with
        | ok ys st2 =>
          have q' : (fun st => lcGo g ft fe s (wipeF ρ (own.map (·.2))) s.len 0 st) st1 = .ok ys st2 := q
          rw [M.bind_ok q'] at p
          intro w2 H2 b
          cases k with
          | false =>
            obtain ⟨o1, o2, o3⟩ := b.out hP
            exact p _ _ _ o1 o2 o3
          | true =>
            obtain ⟨o1, o2, o3⟩ := b.outL hP
            exact p _ _ _ o1 o2 o3
        | exc _ _ =>
          exact absurd q (lcGo_noexc _ _)
        | bad =>
          have q' : (fun st => lcGo g ft fe s (wipeF ρ (own.map (·.2))) s.len 0 st) st1 = .bad := q
          rw [M.bind_bad q'] at p
          exact p
      refine ⟨fun i m H => i + m = s.len ∧ ∃ w st acc, acc.length ≤ i ∧ InB X T w0 H0 P w st H acc ∧ Fin acc w H (lcGo g ft fe s (wipeF ρ (own.map (·.2))) m i st), ⟨s.len, by omega, _, st1, [], Nat.le_refl _, InB.start wr0 hP, start⟩, ?_⟩
      rintro i m H ⟨him, w, st, acc, hac, b, f⟩
      obtain ⟨k1, k2⟩ := wk w H st b.le b.wr
      cases m with
      | zero =>
        have ei : i = s.len := by omega
        subst ei
        unfold lcGo at f
        by_cases hf : s.fin st = true
        · rw [if_pos hf] at f
          refine .inl ⟨k2 hf, ?_⟩
          have z := f w H (by rw [List.append_nil]; exact b)
          exact z
        · rw [if_neg hf] at f; exact f.elim
      | succ m =>
        unfold lcGo at f
        cases q : s.get st i with
        | none => rw [q] at f; exact f.elim
        | some x =>
          rw [q] at f
          dsimp only at f
          obtain ⟨go, yl⟩ := k1 i x (by omega) q
          refine .inr ⟨go, fun H' => (i + 1) + m = s.len ∧ ∃ w st acc, acc.length ≤ i + 1 ∧ InB X T w0 H0 P w st H' acc ∧ Fin acc w H' (lcGo g ft fe s (wipeF ρ (own.map (·.2))) m (i + 1) st), fun H' z => ⟨m, by omega, z⟩, fun v H2 y => ?_⟩
          obtain ⟨sm, rv⟩ := yl v H2 y
          cases q2 : g x (wipeF ρ (own.map (·.2))) st with
          | exc _ _ => rw [q2] at f; exact f.elim
          | bad => rw [q2] at f; exact f.elim
          | ok ρ1 st1 =>
            rw [q2] at f
            dsimp only at f
            have l2 : Le w H w H2 := Le.same sm
            have b2 : InB X T w0 H0 P w st H2 acc := b.step l2 (b.wr.same sm)
            refine ⟨w, st, _, x, b2.wr, (fr0.wipe _).mono b2.le, rv, ρ1, st1, q2, fun w3 σ3 H3 l3 wr3 fr3 ag => ⟨ag.wipe his |>.trans ?_, ?_⟩⟩
            · -- wiped twice
              refine List.ext_getElem? fun j => ?_
              rw [wipe_get (L2.wipe σ _), L2.wipe_length, wipe_get]
              by_cases hj : j ∈ own.map (·.2) ∧ j < σ.length
              · simp only [if_pos hj]
              · simp only [if_neg hj]
            · have b3 := b2.step l3 wr3
              cases q3 : ft ρ1 st1 with
              | exc _ _ => rw [q3] at f; exact f.elim
              | bad => rw [q3] at f; exact f.elim
              | ok c st2 =>
                rw [q3] at f
                refine ⟨w3, st1, ρ1, wr3, fr3, ?_⟩
                show PostB _ _ _ _ _ _ _ (ft ρ1 st1)
                rw [q3]
                intro w4 H4 l4 wr4
                have b4 := b3.step l4 wr4
                cases c with
                | false =>
                  refine iteF ⟨by omega, w4, st2, acc, by omega, b4, f⟩
                | true =>
                  dsimp only at f
                  refine iteT ?_
                  cases q5 : fe ρ1 st2 with
                  | exc _ _ => rw [q5] at f; exact f.elim
                  | bad => rw [q5] at f; exact f.elim
                  | ok y st3 =>
                    rw [q5] at f
                    dsimp only at f
                    refine ⟨w4, st2, ρ1, wr4, fr3.mono l4, ?_⟩
                    show PostE _ _ _ _ _ _ _ (fe ρ1 st2)
                    rw [q5]
                    intro w5 u H5 l5 wr5 ru
                    have b5 := b4.step l5 wr5
                    obtain ⟨vs5, hv5, rl5⟩ := b5.at_
                    refine ⟨vs5, hv5, by rw [rl5.length]; omega, by omega, w5, st3, acc ++ [y], by simp; omega, b5.push hP hv5 ru, ?_⟩
                    cases q6 : lcGo g ft fe s (wipeF ρ (own.map (·.2))) m (i + 1) st3 with
                    | ok ys st4 =>
                      rw [q6] at f
                      intro w6 H6 b6
                      exact f w6 H6 (by simpa using b6)
                    | exc _ _ => rw [q6] at f; exact f.elim
                    | bad => rw [q6] at f; exact f.elim
    · rw [if_neg hl] at p
      exact p.elim
end
end Eg

/-! E8: sources of loops: values, ranges, zip. -/
namespace Eg
open PySem PySem.Spec PyProof.Rows L2
section
variable {X : Cx} {T : Tabs} {W : WX} {tg e e' : Expr} {fe fe' : Fr → M PV} {fr : Fr → M (List PV)} {p pos : Pos}
/-- what is walked by iter(v) -/
def ItR (X : Cx) (tg : Expr) (r : V → Hp → (It → Hp → Prop) → Prop) : Prop :=
  ∀ (pins : List (Addr × Obj)) (s : Shared) (σ : L2.St) (H : Hp) (x : V) (v : Value) (R : It → Hp → Prop), L2.Inv X pins σ H s → RelV x v → r x H R → wpAny (model X.prog X.w) X.A (pyIter v) (PIE X pins σ tg R) X.xe s
theorem itr_list : ItR X tg (fun x H R => ∃ a xs, x = .ref a ∧ SqL X.K H a xs ∧ R (Itl X.K a) H) := by
  intro pins s σ H x v R I rx h
  obtain ⟨a, xs, rfl, hq, q⟩ := h
  cases rx
  obtain ⟨its, rv, p, hz⟩ := I.list hq
  exact wpAny_pyIter_list p.isList (pi_one (tk := s.toks) I _ (turn_list a _) ⟨_, Heap.get?_push_size _ rfl, rfl, rfl⟩ q)
theorem itr_tup : ItR X tg (fun x H R => ∃ a xs, x = .ref a ∧ SqT X.K H a xs ∧ R (Itt X.K a) H) := by
  intro pins s σ H x v R I rx h
  obtain ⟨a, xs, rfl, hq, q⟩ := h
  cases rx
  obtain ⟨its, rv, p, hz⟩ := I.tuple hq
  exact wpAny_pyIter_tuple (show s.heap.IsTuple a its.toArray from p) (pi_one (tk := s.toks) I _ (turn_tuple a _) ⟨_, Heap.get?_push_size _ rfl, rfl, rfl⟩ q)
theorem itr_str : ItR X tg (fun x H R => ∃ z, x = .str z ∧ R (Its z) H) := by
  intro pins s σ H x v R I rx h
  obtain ⟨z, rfl, q⟩ := h
  obtain ⟨t, rfl⟩ := rx
  cases ha : z.cps.all (· < 128)
  · exact wpAny_pyIter_wide ha (pi_one (tk := s.toks) I _ (turn_str _ z t "str_iterator" (.inr rfl)) ⟨_, Heap.get?_push_size _ rfl, rfl, rfl⟩ q)
  · exact wpAny_pyIter_ascii ha (pi_one (tk := s.toks) I _ (turn_str _ z t "str_ascii_iterator" (.inl rfl)) ⟨_, Heap.get?_push_size _ rfl, rfl, rfl⟩ q)
/-- the source that a value is -/
def srcOf (x : PV) : M Src := fun st => match x with
  | .lst xs => .ok (.fz xs) st
  | .tup xs => .ok (.fz xs) st
  | .str z => .ok (.fz (z.map fun c => .str [c])) st
  | .scr ns => .ok (.fz (ns.map .int)) st
  | .loc l => match st.get l with
    | some (.lst ys) => .ok (.lc l ys.length) st
    | _ => .bad
  | _ => .bad
def iVal (fe : Fr → M PV) : Fr → M Src := fun ρ => fe ρ >>= fun x => srcOf x
theorem wk_list {w : Wo} {H : Hp} {a : Addr} {vs : List V} {xs : List PV} (d : ¬ w.D a) (h : H a = some (.lst vs)) (r : RepL (Cx.g X T) w H vs xs) : Wk X T w H (Itl X.K a) (.fz xs) := by
  intro w1 H1 st1 l wr
  have h1 : SqL X.K H1 a vs := .inl (.inl (l.exact d h rfl))
  have r1 := r.mono l
  refine ⟨fun i x hi e => ?_, fun _ => ⟨vs, h1, by rw [r.length]; exact Nat.le_refl _⟩⟩
  obtain ⟨v, e1, e2⟩ := r1.get i e
  refine ⟨⟨vs, v, h1, e1⟩, fun u H2 y => ?_⟩
  obtain ⟨rfl, y⟩ := y
  have := y vs h1
  rw [e1] at this; cases this
  exact ⟨Same.refl _, e2⟩
theorem wk_scr {w : Wo} {H : Hp} {a : Addr} {ns : List Int} (h : FzL X.K w H a (ns.map V.int)) : Wk X T w H (Itl X.K a) (.fz (ns.map .int)) := by
  intro w1 H1 st1 l wr
  have h1 : SqL X.K H1 a (ns.map V.int) := (FzL.mono (G := Cx.g X T) l h).sq
  have r1 : RepL (Cx.g X T) w1 H1 (ns.map V.int) (ns.map .int) := .ints ns
  refine ⟨fun i x hi e => ?_, fun _ => ⟨_, h1, by simp [Src.fz]⟩⟩
  obtain ⟨v, e1, e2⟩ := r1.get i e
  refine ⟨⟨_, v, h1, e1⟩, fun u H2 y => ?_⟩
  obtain ⟨rfl, y⟩ := y
  have := y _ h1
  rw [e1] at this; cases this
  exact ⟨Same.refl _, e2⟩
theorem wk_tup {w : Wo} {H : Hp} {a : Addr} {vs : List V} {xs : List PV} (h : FzT X.K w H a vs) (r : RepL (Cx.g X T) w H vs xs) : Wk X T w H (Itt X.K a) (.fz xs) := by
  intro w1 H1 st1 l wr
  have h1 : SqT X.K H1 a vs := (FzT.mono (G := Cx.g X T) l h).sq
  have r1 := r.mono l
  refine ⟨fun i x hi e => ?_, fun _ => ⟨vs, h1, by rw [r.length]; exact Nat.le_refl _⟩⟩
  obtain ⟨v, e1, e2⟩ := r1.get i e
  refine ⟨⟨vs, v, h1, e1⟩, fun u H2 y => ?_⟩
  obtain ⟨rfl, y⟩ := y
  have := y vs h1
  rw [e1] at this; cases this
  exact ⟨Same.refl _, e2⟩
theorem wk_str {w : Wo} {H : Hp} {z : List Nat} (hz : z.all (fun c => decide (c < 1114112)) = true) : Wk X T w H (Its (s2 z)) (.fz (z.map fun c => .str [c])) := by
  intro w1 H1 st1 l wr
  refine ⟨fun i x hi e => ?_, fun _ => by show (s2 z).cps.size ≤ _; simp [Src.fz]⟩
  have hi' : i < z.length := by simpa [Src.fz] using hi
  refine ⟨by show i < (s2 z).cps.size; simpa using hi', fun u H2 y => ?_⟩
  obtain ⟨rfl, c, y1, rfl⟩ := y
  have y2 : z[i]? = some c := by simpa using y1
  have e' : (z.map fun c => PV.str [c])[i]? = some x := e
  rw [List.getElem?_map, y2] at e'
  cases e'
  have hc : decide (c < 1114112) = true := List.all_eq_true.mp hz c (List.mem_of_getElem? y2)
  exact ⟨Same.refl _, .str [c] (by simpa using hc)⟩
theorem wk_loc {w : Wo} {H : Hp} {a : Addr} {l n : Nat} (h : w.η l = some a) : Wk X T w H (Itl X.K a) (.lc l n) := by
  intro w1 H1 st1 le wr
  have h1 := le.loc l a h
  constructor
  · intro i x hi e
    change (match st1.get l with | some (.lst ys) => ys[i]? | _ => none) = some x at e
    cases q : st1.get l with
    | none => rw [q] at e; cases e
    | some c =>
      rw [q] at e
      cases c with
      | lst ys =>
        obtain ⟨b, k1, k2⟩ := wr.cell l _ q
        rw [h1] at k1; cases k1
        obtain ⟨_, vs, k3, k4⟩ := k2
        have hs : SqL X.K H1 a vs := .inl (.inl k3)
        obtain ⟨v, e1, e2⟩ := k4.get i e
        refine ⟨⟨vs, v, hs, e1⟩, fun u H2 y => ?_⟩
        obtain ⟨rfl, y⟩ := y
        have := y vs hs
        rw [e1] at this; cases this
        exact ⟨Same.refl _, e2⟩
      | _ => cases e
  · intro e
    change (match st1.get l with | some (.lst ys) => ys.length == n | _ => false) = true at e
    cases q : st1.get l with
    | none => rw [q] at e; cases e
    | some c =>
      rw [q] at e
      cases c with
      | lst ys =>
        obtain ⟨b, k1, k2⟩ := wr.cell l _ q
        rw [h1] at k1; cases k1
        obtain ⟨_, vs, k3, k4⟩ := k2
        exact ⟨vs, .inl (.inl k3), by rw [k4.length]; have := eq_of_beq e; show _ ≤ n; omega⟩
      | _ => cases e
theorem ppi_val (he : PP X T W e fe) : PPI X T W tg e (iVal fe) := by
  refine ⟨fun pins s σ H R I ⟨w, st, ρ, h⟩ => ?_⟩
  refine thn (he.run pins s σ H _ I (RunI.eE (k := fun x _ => srcOf x) (Q' := fun v H1 => ∃ w st x, Rep (Cx.g X T) w H1 v x ∧ RunI X T W (fun _ => srcOf x) w st ρ σ H1 R) h fun w1 st1 x v H1 l r h1 => ⟨w1, st1, x, r, h1⟩)) fun v s1 ⟨x, H1, I1, r1, w1, st1, y, ry, h1⟩ => ?_
  cases ry with
  | lst d k r => exact itr_list pins s1 σ H1 _ v R I1 r1 ⟨_, _, rfl, .inl (.inl k), h1.ret rfl (wk_list d k r)⟩
  | scr k => exact itr_list pins s1 σ H1 _ v R I1 r1 ⟨_, _, rfl, k.sq, h1.ret rfl (wk_scr k)⟩
  | tup k r => exact itr_tup pins s1 σ H1 _ v R I1 r1 ⟨_, _, rfl, k.sq, h1.ret rfl (wk_tup k r)⟩
  | str z hz => exact itr_str pins s1 σ H1 _ v R I1 r1 ⟨_, rfl, h1.ret rfl (wk_str hz)⟩
  | @loc a l k =>
    cases q : st1.get l with
    | none => exact (h1.no (by show srcOf (.loc l) st1 = _; simp [srcOf, q])).elim
    | some c =>
      cases c with
      | lst ys =>
        obtain ⟨b, k1, k2⟩ := h1.wr.cell l _ q
        rw [k] at k1; cases k1
        obtain ⟨_, vs, k3, k4⟩ := k2
        exact itr_list pins s1 σ H1 _ v R I1 r1 ⟨_, _, rfl, .inl (.inl k3), h1.ret (x := .lc l ys.length) (by show srcOf (.loc l) st1 = _; simp [srcOf, q]) (wk_loc k)⟩
      | _ => exact (h1.no (by show srcOf (.loc l) st1 = _; simp [srcOf, q])).elim
  | _ => exact (h1.no rfl).elim
/-! ### range -/
def rgL (lo : Int) (n : Nat) : List PV := (List.range n).map fun (i : Nat) => .int (lo + (i : Int))
def srcRg1 : List PV → M Src
  | [.int j] => if -(2 ^ 62) ≤ j ∧ j < 2 ^ 62 then M.pure (.fz (rgL 0 j.toNat)) else M.bad
  | _ => M.bad
def srcRg2 : List PV → M Src
  | [.int i, .int j] => if -(2 ^ 62) ≤ i ∧ i < 2 ^ 62 ∧ -(2 ^ 62) ≤ j ∧ j < 2 ^ 62 then M.pure (.fz (rgL i (j - i).toNat)) else M.bad
  | _ => M.bad
def iRg1 (fr : Fr → M (List PV)) : Fr → M Src := fun ρ => fr ρ >>= fun xs => srcRg1 xs
def iRg2 (fr : Fr → M (List PV)) : Fr → M Src := fun ρ => fr ρ >>= fun xs => srcRg2 xs
theorem wk_rg {w : Wo} {H : Hp} {lo : Int} {n : Nat} : Wk X T w H (Itr lo n) (.fz (rgL lo n)) := by
  intro w1 H1 st1 l wr
  refine ⟨fun i x hi e => ?_, fun _ => by show n ≤ (rgL lo n).length; simp [rgL]⟩
  have hi' : i < n := by simpa [Src.fz, rgL] using hi
  refine ⟨hi', fun u H2 y => ?_⟩
  obtain ⟨rfl, rfl⟩ := y
  have e' : (rgL lo n)[i]? = some x := e
  simp only [rgL, List.getElem?_map, List.getElem?_range hi', Option.map_some] at e'
  cases e'
  exact ⟨Same.refl _, .int _⟩
theorem RepL.one_inv {G : Cfg} {w : Wo} {H : Hp} {vs : List V} {x : PV} (r : RepL G w H vs [x]) : ∃ v, vs = [v] ∧ Rep G w H v x := by
  cases r with | cons a b => cases b; exact ⟨_, rfl, a⟩
theorem RepL.two_inv {G : Cfg} {w : Wo} {H : Hp} {vs : List V} {x y : PV} (r : RepL G w H vs [x, y]) : ∃ v u, vs = [v, u] ∧ Rep G w H v x ∧ Rep G w H u y := by
  cases r with | cons a b => cases b with | cons b c => cases c; exact ⟨_, _, rfl, a, b⟩
theorem ppi_range1 (hg : Gl X "range") (hm : X.mg "range" = none) (ha : PPA X T W [e] fr) (hs : starEach [e] X.env = [(false, eval e X.env)] := by rfl) : PPI X T W tg (.Call (.Name "range" p) [e] [] pos) (iRg1 fr) := by
  refine ⟨fun pins s σ H R I ⟨w, st, ρ, h⟩ => (pi_range1 hg hm ha hs).run pins s σ H R I ?_⟩
  refine RunI.aE (k := fun xs _ => srcRg1 xs) h fun w1 st1 xs vs H1 l r h1 => ?_
  unfold srcRg1 at h1
  split at h1
  · rename_i j
    obtain ⟨v, rfl, rv⟩ := r.one_inv
    cases rv
    by_cases hj : -(2 ^ 62) ≤ j ∧ j < 2 ^ 62
    · simp only [if_pos hj] at h1
      exact ⟨j, rfl, hj.1, hj.2, h1.ret rfl wk_rg⟩
    · simp only [if_neg hj] at h1
      exact (h1.no rfl).elim
  · exact (h1.no rfl).elim
theorem ppi_range2 (hg : Gl X "range") (hm : X.mg "range" = none) (ha : PPA X T W [e, e'] fr) (hs : starEach [e, e'] X.env = [(false, eval e X.env), (false, eval e' X.env)] := by rfl) (hs2 : starEach [e'] X.env = [(false, eval e' X.env)] := by rfl) : PPI X T W tg (.Call (.Name "range" p) [e, e'] [] pos) (iRg2 fr) := by
  refine ⟨fun pins s σ H R I ⟨w, st, ρ, h⟩ => (pi_range2 hg hm ha hs hs2).run pins s σ H R I ?_⟩
  refine RunI.aE (k := fun xs _ => srcRg2 xs) h fun w1 st1 xs vs H1 l r h1 => ?_
  unfold srcRg2 at h1
  split at h1
  · rename_i i j
    obtain ⟨v, u, rfl, rv, ru⟩ := r.two_inv
    cases rv
    cases ru
    by_cases hj : -(2 ^ 62) ≤ i ∧ i < 2 ^ 62 ∧ -(2 ^ 62) ≤ j ∧ j < 2 ^ 62
    · simp only [if_pos hj] at h1
      exact ⟨i, j, rfl, hj, h1.ret rfl wk_rg⟩
    · simp only [if_neg hj] at h1
      exact (h1.no rfl).elim
  · exact (h1.no rfl).elim
/-! ### zip of two lists, of two tuples -/
def zipP : List PV → List PV → List PV
  | x :: xs, y :: ys => .tup [x, y] :: zipP xs ys
  | _, _ => []
theorem zipP_len : ∀ xs ys : List PV, (zipP xs ys).length = min xs.length ys.length
  | [], _ => by simp [zipP]
  | _ :: _, [] => by simp [zipP]
  | x :: xs, y :: ys => by simp only [zipP, List.length_cons, zipP_len xs ys]; omega
theorem zipP_get : ∀ (xs ys : List PV) (i : Nat) (z : PV), (zipP xs ys)[i]? = some z → ∃ x y, xs[i]? = some x ∧ ys[i]? = some y ∧ z = .tup [x, y]
  | [], _, _, _, h => by simp [zipP] at h
  | _ :: _, [], _, _, h => by simp [zipP] at h
  | x :: xs, y :: ys, 0, z, h => by simp [zipP] at h; exact ⟨x, y, rfl, rfl, h.symm⟩
  | x :: xs, y :: ys, i + 1, z, h => by
    simp only [zipP, List.getElem?_cons_succ] at h
    obtain ⟨a, b, h1, h2, h3⟩ := zipP_get xs ys i z h
    exact ⟨a, b, by simpa using h1, by simpa using h2, h3⟩
def srcZip : List PV → M Src
  | [.lst xs, .lst ys] => M.pure (.fz (zipP xs ys))
  | [.tup xs, .tup ys] => M.pure (.fz (zipP xs ys))
  | _ => M.bad
def iZip (fr : Fr → M (List PV)) : Fr → M Src := fun ρ => fr ρ >>= fun xs => srcZip xs
theorem ppi_zip {elts : List Expr} {kk : Nat} {tpos : Pos} (hg : Gl X "zip") (hm : X.mg "zip" = none) (ha : PPA X T W [e, e'] fr)
    (hs : starEach [e, e'] X.env = (false, eval e X.env) :: starEach [e'] X.env := by rfl) (hpl : (backTo pos (starEach [e'] X.env)).any (·.1) = false := by rfl) :
    PPI X T W (.Tuple elts kk tpos) (.Call (.Name "zip" p) [e, e'] [] pos) (iZip fr) := by
  refine ⟨fun pins s σ H R I ⟨w, st, ρ, h⟩ => (RZ.pi_zipA hg hm ha hs hpl).run pins s σ H R I ?_⟩
  refine RunI.aE (k := fun xs _ => srcZip xs) h fun w1 st1 xs vs H1 l r h1 => ?_
  unfold srcZip at h1
  split at h1
  · rename_i xs ys
    obtain ⟨v, u, rfl, rv, ru⟩ := r.two_inv
    cases rv with | @lst a vs _ d k q =>
    cases ru with | @lst b us _ d' k' q' =>
    refine ⟨a, b, vs, us, rfl, .inl ⟨.inl (.inl k), .inl (.inl k'), h1.ret rfl ?_⟩⟩
    intro w2 H2 st2 l2 wr2
    have s1 : SqL X.K H2 a vs := .inl (.inl (l2.exact d k rfl))
    have s2 : SqL X.K H2 b us := .inl (.inl (l2.exact d' k' rfl))
    refine ⟨fun i x hi e => ?_, fun _ => ⟨vs, us, s1, s2, ?_⟩⟩
    · obtain ⟨x', y', e1, e2, rfl⟩ := zipP_get _ _ _ _ e
      obtain ⟨v', f1, g1⟩ := (q.mono l2).get i e1
      obtain ⟨u', f2, g2⟩ := (q'.mono l2).get i e2
      refine ⟨⟨vs, us, v', u', s1, s2, f1, f2⟩, fun t H3 y => ?_⟩
      obtain ⟨T', t1, t2, rfl, n, rfl, y1, y2⟩ := y
      have z1 := y1 vs s1
      have z2 := y2 us s2
      rw [f1] at z1; cases z1
      rw [f2] at z2; cases z2
      exact ⟨same_new n, Rep.newT wr2 n (.cons g1 (.cons g2 .nil))⟩
    · have := q.length
      have := q'.length
      show _ ≤ (zipP xs ys).length ∨ _ ≤ (zipP xs ys).length
      rw [zipP_len]; omega
  · rename_i xs ys
    obtain ⟨v, u, rfl, rv, ru⟩ := r.two_inv
    cases rv with | @tup a vs _ k q =>
    cases ru with | @tup b us _ k' q' =>
    refine ⟨a, b, vs, us, rfl, .inr ⟨k.sq, k'.sq, h1.ret rfl ?_⟩⟩
    intro w2 H2 st2 l2 wr2
    have s1 : SqT X.K H2 a vs := (FzT.mono (G := Cx.g X T) l2 k).sq
    have s2 : SqT X.K H2 b us := (FzT.mono (G := Cx.g X T) l2 k').sq
    refine ⟨fun i x hi e => ?_, fun _ => ⟨vs, us, s1, s2, ?_⟩⟩
    · obtain ⟨x', y', e1, e2, rfl⟩ := zipP_get _ _ _ _ e
      obtain ⟨v', f1, g1⟩ := (q.mono l2).get i e1
      obtain ⟨u', f2, g2⟩ := (q'.mono l2).get i e2
      refine ⟨⟨vs, us, v', u', s1, s2, f1, f2⟩, fun t H3 y => ?_⟩
      obtain ⟨T', t1, t2, rfl, n, rfl, y1, y2⟩ := y
      have z1 := y1 vs s1
      have z2 := y2 us s2
      rw [f1] at z1; cases z1
      rw [f2] at z2; cases z2
      exact ⟨same_new n, Rep.newT wr2 n (.cons g1 (.cons g2 .nil))⟩
    · have := q.length
      have := q'.length
      show _ ≤ (zipP xs ys).length ∨ _ ≤ (zipP xs ys).length
      rw [zipP_len]; omega
  · exact (h1.no rfl).elim
end
end Eg

/-! E9: defs and their calls; calls of built-ins. -/
namespace Eg
open PySem PySem.Spec PyProof.Rows L2
abbrev Fn := List PV → M PV
def PostC (G : Cfg) (w : Wo) (H : Hp) (Q : VK) (E : XK) : R PV → Prop
  | .ok x st => ∀ w' v H', Le w H w' H' → Wr G w' st H' → Rep G w' H' v x → Q v H'
  | .exc e st => ∀ w' cls d H', Le w H w' H' → Wr G w' st H' → ExR G w' H' cls d e → E cls d H'
  | .bad => False
/-- the promise of a def that is worth F -/
def spF (G : Cfg) (n : Nat) (F : Fn) : Sp := fun vs H Q E => ∃ w st xs, xs.length = n ∧ Wr G w st H ∧ RepL G w H vs xs ∧ PostC G w H Q E (F xs st)
/-- as FnOk, where no repr is under way -/
structure FnG (P : Program) (w : World) (K : PySem.W.Frag) (mg : Str → Option Value) (base : Heap) (k : Nat) (f : Addr) (fd : FuncData) (ps : List Str) (sp : Sp) : Prop where
  len : ∀ vs H Q E, sp vs H Q E → vs.length = ps.length
  run : ∀ (A : Around) (outer : List Env) (s : Shared) (H : Hp) (args : Args) (us : List Value) (vs : List V) (Q : VK) (E : XK), Room k A → A.guards = some [] → Env0 P w K mg base A outer s H →
    BindsTo s fd args (ps.zip us) → Vals vs us → sp vs H Q E → codeAny (model P w) A (.call (.ref f) args) (CR (L2.CX P w) outer P w H s Q E) s
structure CalW (P : Program) (w : World) (K : PySem.W.Frag) (mg : Str → Option Value) (base : Heap) (T : Tabs) (x : Str) (n : Nat) (F : Fn) (k : Nat) : Prop where
  ex : ∃ f fd ps, FnG P w K mg base k f fd ps (spF ⟨K, P, w, T⟩ n F) ∧ mg x = some (.ref f) ∧ PySem.W.keepIn K (.ref f) = true ∧ Binds K fd ps []
/-- a body run as a def -/
def fnB (m : Nat) (f : S) : Fn := fun xs st => match f (xs.map some ++ List.replicate (m - xs.length) none) st with
  | .rt x st' => .ok x st'
  | .nx _ st' => .ok .non st'
  | .exc e _ st' => .exc e st'
  | _ => .bad
theorem FrR.start {G : Cfg} {w : Wo} {H : Hp} {vs : List V} {xs : List PV} {N : List Str} (r : RepL G w H vs xs) : FrR G w H (L2.start N vs) (xs.map some ++ List.replicate (N.length - xs.length) none) := by
  refine ⟨by simp [L2.start, r.length], fun i x h => ?_⟩
  by_cases hi : i < xs.length
  · rw [List.getElem?_append_left (by simpa using hi), List.getElem?_map] at h
    cases q : xs[i]? with
    | none => rw [q] at h; cases h
    | some y =>
      rw [q] at h
      cases h
      obtain ⟨v, h1, h2⟩ := r.get i q
      refine ⟨v, ?_, h2⟩
      unfold L2.start
      rw [List.getElem?_append_left (by simp [r.length]; exact hi), List.getElem?_map, h1]
      rfl
  · rw [List.getElem?_append_right (by simpa using hi), List.getElem?_replicate] at h
    split at h <;> cases h
/-- what stands around a body -/
structure Bd (X : Cx) (W : WX) (k : Nat) : Prop where
  calm : X.calm = true
  nd : X.N.Nodup
  room : Room k X.A
  own : PassesOwn (model X.prog X.w) X.A X.env X.xe
  tk : Takes X W
  gd : X.A.guards = some []
theorem Bd.hu {X : Cx} {W : WX} {k : Nat} (b : Bd X W k) : X.A.units + 64 < cLine := b.room.units
section
variable {P : Program} {w : World} {K : PySem.W.Frag} {mg : Str → Option Value} {base : Heap} {T : Tabs}
theorem fng_of {f : Addr} {x qual : Str} {params : Arguments} {body : List Stmt} {scope : Scope} {fd : FuncData} {dvs : List V} {kws : List (Str × V)} {N ps : List Str} {k : Nat} {sp : Sp} (FD : FunD K x qual params body scope dvs kws f fd) (sc : FnScope N ps scope)
    (len : ∀ vs H Q E, sp vs H Q E → vs.length = ps.length)
    (hbody : ∀ (cdv : Value) (A : Around) (outer : List Env) (s : Shared) (H : Hp) (vs : List V) (Q : VK) (E : XK), Bd (cxOf (L2.CX P w) P w K mg base N qual scope f cdv A outer s H E) (fun cls d _ H' => E cls d H') k → sp vs H Q E →
      ∃ t, PSs (cxOf (L2.CX P w) P w K mg base N qual scope f cdv A outer s H E) body t ∧ t { nx := fun _ H' => Q .non H', rt := Q } (L2.start N vs) H) : FnG P w K mg base (k + 1) f fd ps sp := by
  obtain ⟨oc, od, dV, kV, doc, pm, an, cdv, ct, osl, rfl, lk, hcd, _, _⟩ := FD.ex
  refine ⟨len, fun A outer s H args us vs Q E hr hgd e0 hb rv hsp => ?_⟩
  have kx : K.In s.heap := e0.mod.kin.keeps fun b o e => (e0.bs b o e).1
  have nl : s.heap.NoLimit := e0.mod.nolimit.keeps fun b o e => (e0.bs b o e).1
  refine codeAny_call_function hr.depth (kx _ _ lk) rfl sc.co sc.gen rfl (PySem.W.codeRec_of kx hcd) (hb _ _ _ _ (wpAny_newFunctionEnv_cells sc.kind (fun ⟨m, v⟩ hy => ?_) fun env he s1 y => ?_))
  · rcases sc.par m (List.of_mem_zip hy).1 with q | q
    · exact Or.inl q
    · exact Or.inr ⟨q, PySem.W.cellsFrom_some _ _ _ (Or.inl q)⟩
  · subst he
    obtain ⟨t, ht, hq⟩ := hbody cdv A outer s H vs Q E ⟨rfl, sc.nd, hr.deeper _, passes_of rfl, takes_of rfl rfl rfl rfl, hgd⟩ hsp
    have J := inv_start (CX := L2.CX P w) (mg := mg) (base := base) (E := E) sc hr.hd e0 (len _ _ _ _ hsp) rv y
    refine ⟨nl.keeps y.toInCall.keep, codeAny_func (wpAny_mono (ht.run [] s1 (L2.start N vs) H _ J hq) (fun fl s' hs => ?_) fun _ _ z => z)⟩
    cases fl with
    | ret u => obtain ⟨v, σ', H', J', r', q'⟩ := hs; exact ⟨v, H', J'.os, J'.bare, J'.base, J'.hok, r', q'⟩
    | next => obtain ⟨σ', H', J', q'⟩ := hs; exact ⟨.non, H', J'.os, J'.bare, J'.base, J'.hok, rfl, q'⟩
    | brk => obtain ⟨_, _, _, z⟩ := hs; exact z.elim
    | cont => obtain ⟨_, _, _, z⟩ := hs; exact z.elim
theorem cal_of {x qual : Str} {params : Arguments} {body : List Stmt} {scope : Scope} {f : Addr} {fd : FuncData} {N ps : List Str} {n k : Nat} {F : S} (FD : FunD K x qual params body scope [] [] f fd) (sc : FnScope N ps scope) (hn : ps.length = n) (hm : mg x = some (.ref f)) (hb : Binds K fd ps [])
    (hbody : ∀ (cdv : Value) (A : Around) (outer : List Env) (s : Shared) (H : Hp) (E : XK), Bd (cxOf (L2.CX P w) P w K mg base N qual scope f cdv A outer s H E) (fun cls d _ H' => E cls d H') k →
      PPSs (cxOf (L2.CX P w) P w K mg base N qual scope f cdv A outer s H E) T (fun cls d _ H' => E cls d H') body F) : CalW P w K mg base T x n (fnB N.length F) (k + 1) := by
  refine ⟨f, fd, ps, fng_of FD sc (fun vs H Q E ⟨_, _, xs, hl, _, r, _⟩ => by rw [r.length, hl, hn]) (fun cdv A outer s H vs Q E hB ⟨w0, st, xs, hl, wr, r, p⟩ => ?_), hm, FD.kp, hb⟩
  refine ⟨_, hbody cdv A outer s H E hB, w0, st, _, wr, FrR.start r, ?_⟩
  unfold fnB at p
  cases q : F (xs.map some ++ List.replicate (N.length - xs.length) none) st with
  | nx ρ st' => rw [q] at p; exact fun w1 σ1 H1 l wr1 _ => p w1 .non H1 l wr1 .non
  | rt y st' => rw [q] at p; exact p
  | bk _ _ => rw [q] at p; exact p.elim
  | ct _ _ => rw [q] at p; exact p.elim
  | exc e _ st' => rw [q] at p; exact fun w1 c d σ1 H1 l wr1 _ r1 => p w1 c d H1 l wr1 r1
  | bad => rw [q] at p; exact p
theorem cal_zero {x : Str} {n : Nat} {F : Fn} {f : Addr} {fd : FuncData} {params : Arguments} {body : List Stmt} {scope : Scope} {qual : Str} {ps : List Str} (FD : FunD K x qual params body scope [] [] f fd) (hm : mg x = some (.ref f)) (hb : Binds K fd ps []) (hF : ∀ xs st, F xs st = .bad) : CalW P w K mg base T x n F 0 := by
  refine ⟨f, fd, ps, ⟨fun vs H Q E ⟨_, _, xs, _, _, _, p⟩ => ?_, fun A outer s H args us vs Q E _ _ _ _ _ ⟨_, _, xs, _, _, _, p⟩ => ?_⟩, hm, FD.kp, hb⟩
  · rw [hF] at p; exact p.elim
  · rw [hF] at p; exact p.elim
theorem FnG.mono {j k : Nat} {f : Addr} {fd : FuncData} {ps : List Str} {sp : Sp} (F : FnG P w K mg base j f fd ps sp) (h : j ≤ k) : FnG P w K mg base k f fd ps sp :=
  ⟨F.len, fun A outer s H args us vs Q E hr => F.run A outer s H args us vs Q E (hr.mono h)⟩
theorem CalW.mono {x : Str} {n : Nat} {F : Fn} {k j : Nat} (c : CalW P w K mg base T x n F k) (h : k ≤ j) : CalW P w K mg base T x n F j := by
  obtain ⟨f, fd, ps, h1, h2⟩ := c.ex
  exact ⟨f, fd, ps, h1.mono h, h2⟩
end
section
variable {X : Cx} {T : Tabs} {W : WX} {a b e : Expr} {es : List Expr} {fa fb : Fr → M PV} {fr : Fr → M (List PV)} {pos p : Pos}
def eCall (n : Nat) (F : Fn) (fr : Fr → M (List PV)) : Fr → M PV := fun ρ => fr ρ >>= fun xs => if xs.length = n then F xs else M.bad
/-- the callee runs -/
theorem run_fng {k : Nat} {f : Addr} {fd : FuncData} {ps : List Str} {sp : Sp} {pins : List (Addr × Obj)} {σ : L2.St} {H : Hp} {s : Shared} {Q : VK} {us : List Value} {vs : List V} (F : FnG X.prog X.w X.K X.mg X.base k f fd ps sp) (hr : Room k X.A) (hgd : X.A.guards = some []) (hb : Binds X.K fd ps [])
    (tk : Takes X W) (I : L2.Inv X pins σ H s) (r : Vals vs us) (h : sp vs H Q (WE W σ)) : wpAny (model X.prog X.w) X.A (call (.ref f) us) (EP X pins σ Q) X.xe s := by
  have hl : us.length = ps.length := by rw [← r.length]; exact F.len _ _ _ _ h
  have hb' : BindsTo s fd ⟨us, []⟩ (ps.zip us) := by
    have z := hb s us I.kIn (by rw [List.append_nil]; exact hl)
    rw [List.append_nil] at z
    exact z
  refine wpAny_call (codeAny_mono (F.run X.A X.stack s H ⟨us, []⟩ us vs Q _ hr hgd I.env0 hb' r h) fun r s' hq => ?_)
  cases r with
  | error e => exact passAt tk σ pins H s e s' I hq
  | ok fl =>
    cases fl with
    | ret u => exact I.after hq
    | next => exact hq.elim
    | brk => exact hq.elim
    | cont => exact hq.elim
theorem pp_call {x : Str} {n k : Nat} {F : Fn} (c : CalW X.prog X.w X.K X.mg X.base T x n F k) (hr : Room k X.A) (hgd : X.A.guards = some []) (tk : Takes X W) (hg : Gl X x) (hdb : (x == ("__debug__" : Str)) = false) (ha : PPA X T W (e :: es) fr)
    (he : starEach (e :: es) X.env = (false, eval e X.env) :: starEach es X.env := by rfl) (hpl : (backTo pos (starEach es X.env)).any (·.1) = false := by rfl) : PP X T W (.Call (.Name x p) (e :: es) [] pos) (eCall n F fr) := by
  obtain ⟨f, fd, ps, h1, hm, hk, hb⟩ := c.ex
  refine ⟨fun pins s σ H Q I ⟨w, st, ρ, h⟩ => ?_⟩
  refine wpAny_Call_Name_kw (ld_glob I hg hm ?_ hdb)
  have ta : tA X T W fr σ H fun vs H1 => spF (Cx.g X T) n F vs H1 Q (WE W σ) := by
    refine RunE.aE (k := fun xs _ => if xs.length = n then F xs else M.bad) h fun w1 st1 xs vs H1 l r h1 => ?_
    by_cases hl : xs.length = n
    · simp only [if_pos hl] at h1
      exact ⟨w1, st1, xs, hl, h1.wr, r, h1.post⟩
    · simp only [if_neg hl] at h1
      exact (h1.no rfl).elim
  exact PySem.W.callWith_K (h₀ := X.base) I.ok.mod.kin hk (thn (ha.run pos pins s σ H _ I ta) fun us s1 ⟨vs, H1, I1, r, q⟩ => ⟨I1.kIn, run_fng h1 hr hgd hb tk I1 r q⟩) he hpl
theorem pp_call0 {x : Str} {k : Nat} {F : Fn} (c : CalW X.prog X.w X.K X.mg X.base T x 0 F k) (hr : Room k X.A) (hgd : X.A.guards = some []) (tk : Takes X W) (hg : Gl X x) (hdb : (x == ("__debug__" : Str)) = false) : PP X T W (.Call (.Name x p) [] [] pos) (eCall 0 F aNil) := by
  obtain ⟨f, fd, ps, h1, hm, hk, hb⟩ := c.ex
  refine ⟨fun pins s σ H Q I ⟨w, st, ρ, h⟩ => ?_⟩
  refine wpAny_Call_Name_kw (ld_glob I hg hm ?_ hdb)
  exact PySem.W.callWith_K0 I.kIn hk (run_fng (us := []) h1 hr hgd hb tk I .nil ⟨w, st, [], rfl, h.wr, .nil, h.post⟩)
/-! ### built-ins by name -/
def Call1 (X : Cx) (T : Tabs) (r : List V → Hp → VK → Prop) (g : List PV → Option PV) : Prop :=
  ∀ (w : Wo) (st : Store) (H : Hp) (vs : List V) (xs : List PV) (z : PV) (Q : VK), Wr (Cx.g X T) w st H → VwL (Cx.g X T) w H vs xs → g xs = some z → Aft X T w st H z Q → r vs H Q
where VwL (G : Cfg) (w : Wo) (H : Hp) : List V → List PV → Prop
  | [], [] => True
  | v :: vs, x :: xs => Vw G w H v x ∧ VwL G w H vs xs
  | _, _ => False
def rds : List PV → M (List PV)
  | [] => M.pure []
  | x :: xs => rd x >>= fun y => rds xs >>= fun ys => M.pure (y :: ys)
theorem rds_ok : ∀ {xs ys : List PV} {st st' : Store}, rds xs st = .ok ys st' → st' = st ∧ ∀ {G : Cfg} {w : Wo} {H : Hp} {vs : List V}, Wr G w st H → RepL G w H vs xs → Call1.VwL G w H vs ys
  | [], ys, st, st', h => by cases h; exact ⟨rfl, fun _ r => by cases r; trivial⟩
  | x :: xs, ys, st, st', h => by
    unfold rds at h
    cases q : rd x st with
    | ok y s1 =>
      rw [M.bind_ok q] at h
      obtain ⟨rfl, h1, h2⟩ := rd_ok q
      cases q2 : rds xs s1 with
      | ok zs s2 =>
        rw [M.bind_ok q2] at h
        obtain ⟨rfl, h3⟩ := rds_ok q2
        cases h
        exact ⟨rfl, fun wr r => by cases r with | cons a b => exact ⟨wr.view a h1 h2, h3 wr b⟩⟩
      | exc _ _ => rw [M.bind_exc q2] at h; cases h
      | bad => rw [M.bind_bad q2] at h; cases h
    | exc _ _ => rw [M.bind_exc q] at h; cases h
    | bad => rw [M.bind_bad q] at h; cases h
def gN1 (g : List PV → Option PV) (xs : List PV) : M PV := fun st => match rds xs st with
  | .ok ys _ => match g ys with
    | some z => .ok z st
    | none => .bad
  | _ => .bad
theorem gN1_ok {g : List PV → Option PV} {xs : List PV} {st : Store} : (∃ z ys, rds xs st = .ok ys st ∧ g ys = some z ∧ gN1 g xs st = .ok z st) ∨ gN1 g xs st = .bad := by
  unfold gN1
  cases e : rds xs st with
  | ok ys s1 =>
    obtain ⟨rfl, _⟩ := rds_ok e
    cases q : g ys with
    | some z => exact .inl ⟨z, ys, rfl, q, by simp [q]⟩
    | none => exact .inr (by simp [q])
  | exc _ _ => exact .inr rfl
  | bad => exact .inr rfl
def eB (g : List PV → Option PV) (fr : Fr → M (List PV)) : Fr → M PV := fun ρ => fr ρ >>= fun xs => gN1 g xs
theorem tB_of {r : List V → Hp → VK → Prop} {g : List PV → Option PV} (hr : Call1 X T r g) {σ : L2.St} {H : Hp} {Q : VK} (h : tE X T W (eB g fr) σ H Q) : tA X T W fr σ H fun vs H1 => r vs H1 Q := by
  obtain ⟨w, st, ρ, h⟩ := h
  refine RunE.aE (k := fun xs _ => gN1 g xs) h fun w1 st1 xs vs H1 l r1 h1 => ?_
  rcases gN1_ok (g := g) (xs := xs) (st := st1) with ⟨z, ys, q1, q2, q3⟩ | q
  · exact hr w1 st1 H1 vs ys z Q h1.wr ((rds_ok q1).2 h1.wr r1) q2 fun w' v' H' l wr r => h1.ret q3 l wr r
  · exact (h1.no q).elim
theorem pp_callB {id : String} {x : Str} {r : List V → Hp → VK → Prop} {g : List PV → Option PV} (hc : CallR X (.builtin id) r) (hr : Call1 X T r g) (hgl : Gl X x) (hm : X.mg x = none) (hv : bootBuiltins x = some (.builtin id)) (ha : PPA X T W (e :: es) fr)
    (hn : x ≠ "__name__") (hdb : (x == ("__debug__" : Str)) = false)
    (he : starEach (e :: es) X.env = (false, eval e X.env) :: starEach es X.env := by rfl) (hpl : (backTo pos (starEach es X.env)).any (·.1) = false := by rfl) : PP X T W (.Call (.Name x p) (e :: es) [] pos) (eB g fr) :=
  ⟨fun pins s σ H Q I q => (pe_callB hc hgl hm hv ha hn hdb he hpl).run pins s σ H Q I (tB_of hr q)⟩
theorem pp_callTy {Ty : String} {x : Str} {r : List V → Hp → VK → Prop} {g : List PV → Option PV} (hc : CallR X (.type Ty) r) (hr : Call1 X T r g) (hgl : Gl X x) (hm : X.mg x = none) (hv : bootBuiltins x = some (.type Ty)) (ha : PPA X T W (e :: es) fr)
    (hn : x ≠ "__name__") (hdb : (x == ("__debug__" : Str)) = false)
    (he : starEach (e :: es) X.env = (false, eval e X.env) :: starEach es X.env := by rfl) (hpl : (backTo pos (starEach es X.env)).any (·.1) = false := by rfl) : PP X T W (.Call (.Name x p) (e :: es) [] pos) (eB g fr) :=
  ⟨fun pins s σ H Q I q => (pe_callTy hc hgl hm hv ha hn hdb he hpl).run pins s σ H Q I (tB_of hr q)⟩
end
end Eg

/-! E10: len, abs, int, max, min, all, any, isinstance, list, tuple, items, slices. -/
namespace Eg
open PySem PySem.Spec PyProof.Rows L2
section
variable {X : Cx} {T : Tabs} {W : WX} {a b c e : Expr} {es : List Expr} {fa fb fc : Fr → M PV} {fr : Fr → M (List PV)} {pos p : Pos}
theorem CallR.or {f : Value} {r r' : List V → Hp → VK → Prop} (h : CallR X f r) (h' : CallR X f r') : CallR X f (fun xs H Q => r xs H Q ∨ r' xs H Q) := by
  intro pins s σ H xs us Q I rx q
  rcases q with q | q
  · exact h pins s σ H xs us Q I rx q
  · exact h' pins s σ H xs us Q I rx q
theorem VwL1 {G : Cfg} {w : Wo} {H : Hp} {vs : List V} {x : PV} (h : Call1.VwL G w H vs [x]) : ∃ v, vs = [v] ∧ Vw G w H v x := by
  match vs, h with
  | [v], h => exact ⟨v, rfl, h.1⟩
  | [], h => exact h.elim
  | _ :: _ :: _, h => exact h.2.elim
theorem VwL2 {G : Cfg} {w : Wo} {H : Hp} {vs : List V} {x y : PV} (h : Call1.VwL G w H vs [x, y]) : ∃ v u, vs = [v, u] ∧ Vw G w H v x ∧ Vw G w H u y := by
  match vs, h with
  | [v, u], h => exact ⟨v, u, rfl, h.1, h.2.1⟩
  | [], h => exact h.elim
  | [_], h => exact h.2.elim
  | _ :: _ :: _ :: _, h => exact h.2.2.elim
def gLen : List PV → Option PV
  | [.tup xs] => some (.int xs.length)
  | [.lst xs] => some (.int xs.length)
  | [.scr ns] => some (.int ns.length)
  | [.str z] => if z.length ≤ sizeLine then some (.int z.length) else none
  | _ => none
def rLenP (K : PySem.W.Frag) : List V → Hp → VK → Prop := fun xs H Q => (∃ p ys, xs = [.ref p] ∧ (SqL K H p ys ∨ SqT K H p ys) ∧ Q (.int ys.length) H) ∨ (∃ z, xs = [.str z] ∧ z.length ≤ sizeLine ∧ Q (.int z.length) H)
theorem call_lenP : CallR X (.builtin "len") (rLenP X.K) := CallR.or call_len_seq call_len_str
theorem c1_len : Call1 X T (rLenP X.K) gLen := by
  intro w st H vs xs z Q wr r e q
  unfold gLen at e
  split at e
  · cases e
    obtain ⟨v, rfl, rv⟩ := VwL1 r
    cases rv with | tup s r => exact .inl ⟨_, _, rfl, .inr s.sq, by rw [r.length]; exact q.here wr (.int _)⟩
  · cases e
    obtain ⟨v, rfl, rv⟩ := VwL1 r
    cases rv with | lst s r => exact .inl ⟨_, _, rfl, .inl (.inl (.inl s)), by rw [r.length]; exact q.here wr (.int _)⟩
  · cases e
    obtain ⟨v, rfl, rv⟩ := VwL1 r
    cases rv with | scr s => exact .inl ⟨_, _, rfl, .inl s.sq, by rw [List.length_map]; exact q.here wr (.int _)⟩
  · split at e
    · rename_i hc
      cases e
      obtain ⟨v, rfl, rv⟩ := VwL1 r
      cases rv
      exact .inr ⟨_, rfl, hc, q.here wr (.int _)⟩
    · cases e
  · cases e
def gAbs : List PV → Option PV
  | [.int i] => some (.int (if i < 0 then -i else i))
  | _ => none
theorem c1_abs : Call1 X T (fun xs H Q => ∃ i, xs = [.int i] ∧ Q (.int (if i < 0 then -i else i)) H) gAbs := by
  intro w st H vs xs z Q wr r e q
  unfold gAbs at e
  split at e
  · cases e
    obtain ⟨v, rfl, rv⟩ := VwL1 r
    cases rv
    exact ⟨_, rfl, q.here wr (.int _)⟩
  · cases e
def gInt : List PV → Option PV
  | [.int i] => some (.int i)
  | [.bl k] => some (.int (if k then 1 else 0))
  | _ => none
theorem c1_int : Call1 X T (fun xs H Q => (∃ i, xs = [.int i] ∧ Q (.int i) H) ∨ ∃ k, xs = [.bl k] ∧ Q (.int (if k then 1 else 0)) H) gInt := by
  intro w st H vs xs z Q wr r e q
  unfold gInt at e
  split at e
  · cases e
    obtain ⟨v, rfl, rv⟩ := VwL1 r
    cases rv
    exact .inl ⟨_, rfl, q.here wr (.int _)⟩
  · cases e
    obtain ⟨v, rfl, rv⟩ := VwL1 r
    cases rv
    exact .inr ⟨_, rfl, q.here wr (.int _)⟩
  · cases e
def gMax2 : List PV → Option PV
  | [.int i, .int j] => some (.int (if j > i then j else i))
  | _ => none
def gMin2 : List PV → Option PV
  | [.int i, .int j] => some (.int (if j < i then j else i))
  | _ => none
theorem c1_max2 : Call1 X T (fun xs H Q => ∃ i j, xs = [.int i, .int j] ∧ Q (.int (if j > i then j else i)) H) gMax2 := by
  intro w st H vs xs z Q wr r e q
  unfold gMax2 at e
  split at e
  · cases e
    obtain ⟨v, u, rfl, r1, r2⟩ := VwL2 r
    cases r1
    cases r2
    exact ⟨_, _, rfl, q.here wr (.int _)⟩
  · cases e
theorem c1_min2 : Call1 X T (fun xs H Q => ∃ i j, xs = [.int i, .int j] ∧ Q (.int (if j < i then j else i)) H) gMin2 := by
  intro w st H vs xs z Q wr r e q
  unfold gMin2 at e
  split at e
  · cases e
    obtain ⟨v, u, rfl, r1, r2⟩ := VwL2 r
    cases r1
    cases r2
    exact ⟨_, _, rfl, q.here wr (.int _)⟩
  · cases e
/-! ### all, any of a list of bools -/
def bls : List PV → Option (List Bool)
  | [] => some []
  | .bl b :: xs => (bls xs).map (b :: ·)
  | _ => none
theorem bls_ok : ∀ {xs : List PV} {bs : List Bool}, bls xs = some bs → xs = bs.map PV.bl
  | [], bs, h => by cases h; rfl
  | x :: xs, bs, h => by
    cases x with
    | bl b =>
      simp only [bls] at h
      cases q : bls xs with
      | none => rw [q] at h; cases h
      | some cs => rw [q] at h; cases h; rw [bls_ok q]; rfl
    | _ => cases h
theorem RepL.bls {G : Cfg} {w : Wo} {H : Hp} : ∀ {bs : List Bool} {vs : List V}, RepL G w H vs (bs.map PV.bl) → vs = bs.map V.bl
  | [], _, r => by cases r; rfl
  | b :: bs, _, r => by
    cases r with | cons a c =>
    cases a
    rw [RepL.bls c]
    rfl
def gAll : List PV → Option PV
  | [.lst xs] => (bls xs).map fun bs => .bl (bs.all id)
  | _ => none
def gAny : List PV → Option PV
  | [.lst xs] => (bls xs).map fun bs => .bl (bs.any id)
  | _ => none
theorem c1_all : Call1 X T (rAll X.K) gAll := by
  intro w st H vs xs z Q wr r e q
  unfold gAll at e
  split at e
  · rename_i xs
    obtain ⟨v, rfl, rv⟩ := VwL1 r
    cases k : Eg.bls xs with
    | none => rw [k] at e; cases e
    | some bs =>
      rw [k] at e; cases e
      have k' := bls_ok k
      subst k'
      cases rv with | lst s r =>
      have k2 := r.bls
      subst k2
      exact ⟨_, bs, rfl, .inl (.inl s), q.here wr (.bl _)⟩
  · cases e
theorem c1_any : Call1 X T (rAny X.K) gAny := by
  intro w st H vs xs z Q wr r e q
  unfold gAny at e
  split at e
  · rename_i xs
    obtain ⟨v, rfl, rv⟩ := VwL1 r
    cases k : Eg.bls xs with
    | none => rw [k] at e; cases e
    | some bs =>
      rw [k] at e; cases e
      have k' := bls_ok k
      subst k'
      cases rv with | lst s r =>
      have k2 := r.bls
      subst k2
      exact ⟨_, bs, rfl, .inl (.inl s), q.here wr (.bl _)⟩
  · cases e
/-! ### isinstance with a built-in class -/
inductive Ty where
  | non | bl | int | str | tup | lst | dct
  deriving DecidableEq
def Ty.nm : Ty → String
  | .non => "NoneType"
  | .bl => "bool"
  | .int => "int"
  | .str => "str"
  | .tup => "tuple"
  | .lst => "list"
  | .dct => "dict"
def tyN : PV → Option Ty
  | .non => some .non
  | .bl _ => some .bl
  | .int _ => some .int
  | .str _ => some .str
  | .tup _ => some .tup
  | .lst _ => some .lst
  | .scr _ => some .lst
  | .dct _ => some .dct
  | _ => none
def isiB : Ty → Ty → Bool
  | .non, .non => true
  | .bl, .bl => true
  | .int, .int => true
  | .str, .str => true
  | .tup, .tup => true
  | .lst, .lst => true
  | .dct, .dct => true
  | .bl, .int => true
  | _, _ => false
theorem isi_kit : ∀ a b : Ty, b ≠ .non → kitB a.nm b.nm = some (isiB a b) := by
  intro a b hb
  cases a <;> cases b <;> first | exact absurd rfl hb | (decide +kernel)
theorem DctO.ty {P : Program} {w : World} {H : Hp} {h : Heap} {a : Addr} {es : List DictEntry} (hok : HOk P w H h) (ho : Ob H a (DctO a es)) : ∃ o, h.get? a = some o ∧ o.cls = .type "dict" := by
  rcases ho with ho | ⟨_, b, ho⟩
  · obtain ⟨⟨_, _, o, ep, h1, h2, _⟩, _⟩ := hok a _ ho
    exact ⟨o, h1, h2.1⟩
  · obtain ⟨_, ⟨_, _, o, ep, h1, h2, _⟩, _⟩ := hok a _ ho
    exact ⟨o, h1, h2.1⟩
theorem Vw.kit {pins : List (Addr × Obj)} {σ : L2.St} {H : Hp} {s : Shared} {w : Wo} {v : V} {u : Value} {x : PV} {t : Ty} (I : L2.Inv X pins σ H s) (rx : RelV v u) (r : Vw (Cx.g X T) w H v x) (e : tyN x = some t) : ∃ P : Heap → Prop, PySem.W.KitX X.K u (.type t.nm) P ∧ P s.heap ∧ u ≠ .builtin "__main__.__loader__#opaque" := by
  cases r with
  | non => cases e; exact kit_of I rx (.base .non)
  | bl b => cases e; exact kit_of I rx (.base (.bl b))
  | int b => cases e; exact kit_of I rx (.base (.int b))
  | str b _ => cases e; exact kit_of I rx (.base (.str _))
  | tup k _ =>
    cases e
    rcases k with ⟨_, k | ⟨o, k⟩⟩ | ⟨o, its, n, h1, h2, _⟩
    · exact kit_of I rx (.base (.tup k))
    · exact kit_of I rx (.fTuple k)
    · exact kit_of I rx (.kTuple h1 h2)
  | lst k _ => cases e; exact kit_of I rx (.base (.lst k))
  | scr k =>
    cases e
    rcases k with ⟨_, k | ⟨o, k⟩⟩ | ⟨o, its, n, h1, h2, _⟩
    · exact kit_of I rx (.base (.lst k))
    · exact kit_of I rx (.base (.frz k))
    · exact kit_of I rx (.kList h1 h2)
  | @dct a es kvs k _ _ =>
    cases e
    cases (show u = Value.ref a from rx)
    obtain ⟨o, h1, h2⟩ := DctO.ty I.hok k
    exact ⟨_, PySem.W.kitx_dict, ⟨o, h1, h2⟩, fun z => nomatch z⟩
  | obj _ _ => cases e
  | ty _ => cases e
def gIsi (t : Ty) (x : PV) : Option PV := match tyN x with
  | some n => some (.bl (isiB n t))
  | none => none
theorem pp_isi (t : Ty) {x : Str} {p2 : Pos} (hg1 : Gl X "isinstance") (hm1 : X.mg "isinstance" = none) (hg2 : Gl X x) (hm2 : X.mg x = none) (hv2 : bootBuiltins x = some (.type t.nm)) (ht : t ≠ .non) (ha : PP X T W a fa) (hn : x ≠ "__name__") (hd : (x == ("__debug__" : Str)) = false)
    (hs : starEach [a, .Name x p2] X.env = (false, eval a X.env) :: starEach [.Name x p2] X.env := by rfl) (hs2 : starEach [.Name x p2] X.env = (false, eval (.Name x p2) X.env) :: starEach [] X.env := by rfl) (hpl : (backTo pos (starEach [.Name x p2] X.env)).any (·.1) = false := by rfl)
    (hb : bootBuiltins "isinstance" = some (.builtin "isinstance") := by decide +kernel) : PP X T W (.Call (.Name "isinstance" p) [a, .Name x p2] [] pos) (e1 (gIsi t) fa) := by
  have hc : CallR X (.builtin "isinstance") (fun xs H Q => ∃ v w st y z, xs = [v, .ty t.nm] ∧ Wr (Cx.g X T) w st H ∧ Rep (Cx.g X T) w H v y ∧ view st y = some z ∧ noLoc z = true ∧ ∃ n, tyN z = some n ∧ Q (.bl (isiB n t)) H) := by
    intro pins s σ H xs us Q I rx ⟨v, w, st, y, z, exs, wr, ry, e1, e2, n, e3, q⟩
    subst exs
    cases rx with | cons r1 r2 =>
    cases r2 with | cons r2 r3 =>
    cases r3
    cases (show _ = Value.type t.nm from r2)
    obtain ⟨P, Z, p, hx⟩ := (wr.view ry e1 e2).kit I r1 e3
    exact PySem.W.kia_one Z I.kIn p (kit_ty (isi_kit n t ht)) hx fun tk => ⟨.bl _, H, I.tok tk, rfl, q⟩
  refine ⟨fun pins s σ H Q I ⟨w, st, ρ, h⟩ => (pe_callB hc hg1 hm1 hb (pa_cons ha (pa_cons (pe_bltn (v := .ty t.nm) hg2 hm2 hv2 rfl hn hd) pa_nil hs2) hs) (by decide) (by decide) hs hpl).run pins s σ H Q I ?_⟩
  refine RunE.eE (k := fun x _ => g1 (gIsi t) x) h fun w1 st1 y v H1 l r h1 => ?_
  rcases g1_ok (g := gIsi t) (x := y) (st := st1) with ⟨o, z, q1, q2, q3, q4⟩ | q
  · unfold gIsi at q3
    cases q5 : tyN z with
    | none => rw [q5] at q3; cases q3
    | some n =>
      rw [q5] at q3
      cases q3
      exact ⟨v, w1, st1, y, z, rfl, h1.wr, r, q1, q2, n, q5, h1.ret q4 (Le.refl _ _) h1.wr (.bl _)⟩
  · exact (h1.no q).elim
/-! ### list(x), tuple(x) -/
def gSeqs : PV → Option (List PV)
  | .tup xs => some xs
  | .lst xs => some xs
  | _ => none
/-- a call that makes a new list of what g says -/
def eBL (k : Bool) (g : List PV → Option (List PV)) (fr : Fr → M (List PV)) : Fr → M PV := fun ρ => fr ρ >>= fun xs => rds xs >>= fun ys => M.of (g ys) >>= fun zs => nw k (.lst zs)
theorem rds_noexc : ∀ (xs : List PV) {st s1 : Store} {x : Exn}, rds xs st ≠ .exc x s1
  | [], _, _, _, h => by cases h
  | y :: ys, st, s1, x, h => by
    unfold rds at h
    cases q : rd y st with
    | ok z s2 =>
      rw [M.bind_ok q] at h
      cases q2 : rds ys s2 with
      | ok zs s3 => rw [M.bind_ok q2] at h; cases h
      | exc u s3 => exact rds_noexc ys q2
      | bad => rw [M.bind_bad q2] at h; cases h
    | exc u s2 => exact rd_noexc q
    | bad => rw [M.bind_bad q] at h; cases h
theorem RunE.rds {k : List PV → M PV} {w : Wo} {st : Store} {ρ : Fr} {σ : L2.St} {H : Hp} {Q : VK} {xs : List PV} {vs : List V} (h : RunE X T W (fun _ => Eg.rds xs >>= k) w st ρ σ H Q) (r : RepL (Cx.g X T) w H vs xs) : ∃ ys, Call1.VwL (Cx.g X T) w H vs ys ∧ RunE X T W (fun _ => k ys) w st ρ σ H Q := by
  cases e : Eg.rds xs st with
  | ok ys s1 =>
    obtain ⟨rfl, h2⟩ := rds_ok e
    have p := h.post
    rw [M.bind_ok e] at p
    exact ⟨ys, h2 h.wr r, h.wr, h.fr, p⟩
  | exc x s1 => exact absurd e (rds_noexc xs)
  | bad => exact (h.no (M.bind_bad e)).elim
theorem RunE.of {α : Type} {o : Option α} {k : α → M PV} {w : Wo} {st : Store} {ρ : Fr} {σ : L2.St} {H : Hp} {Q : VK} (h : RunE X T W (fun _ => M.of o >>= k) w st ρ σ H Q) : ∃ a, o = some a ∧ RunE X T W (fun _ => k a) w st ρ σ H Q := by
  cases o with
  | none => exact (h.no rfl).elim
  | some a => exact ⟨a, rfl, h.wr, h.fr, h.post⟩
def gList : List PV → Option (List PV)
  | [.tup xs] => some xs
  | [.lst xs] => some xs
  | _ => none
theorem pp_list (k : Bool) (hg : Gl X "list") (hm : X.mg "list" = none) (ha : PPA X T W [a] fr)
    (he : starEach [a] X.env = (false, eval a X.env) :: starEach [] X.env := by rfl) (hpl : (backTo pos (starEach [] X.env)).any (·.1) = false := by rfl) (hv : bootBuiltins "list" = some (.type "list") := by decide +kernel) : PP X T W (.Call (.Name "list" p) [a] [] pos) (eBL k gList fr) := by
  refine ⟨fun pins s σ H Q I ⟨w, st, ρ, h⟩ => (pe_callTy call_list_of hg hm hv ha (by decide +kernel) (by decide +kernel) he hpl).run pins s σ H Q I ?_⟩
  refine RunE.aE (k := fun xs _ => rds xs >>= fun ys => M.of (gList ys) >>= fun zs => nw k (.lst zs)) h fun w1 st1 xs vs H1 l r h1 => ?_
  obtain ⟨ys, vw, h2⟩ := h1.rds r
  obtain ⟨zs, e, h3⟩ := h2.of
  unfold gList at e
  split at e
  · cases e
    obtain ⟨v, rfl, vv⟩ := VwL1 vw
    cases vv with | tup s r => exact ⟨_, _, rfl, .inr s.sq, fun q hq => h3.mkL r hq⟩
  · cases e
    obtain ⟨v, rfl, vv⟩ := VwL1 vw
    cases vv with | lst s r => exact ⟨_, _, rfl, .inl (.inl (.inl s)), fun q hq => h3.mkL r hq⟩
  · cases e
def gTuple : List PV → Option PV
  | [.tup xs] => some (.tup xs)
  | [.lst xs] => some (.tup xs)
  | _ => none
theorem c1_tuple : Call1 X T (fun xs H Q => ∃ p ys, xs = [.ref p] ∧ ((SqL X.K H p ys ∧ ∀ l, H l = none → Q (.ref l) (upd H l (.tup ys))) ∨ (SqT X.K H p ys ∧ Q (.ref p) H))) gTuple := by
  intro w st H vs xs z Q wr r e q
  unfold gTuple at e
  split at e
  · cases e
    obtain ⟨v, rfl, vv⟩ := VwL1 r
    cases vv with | tup s r => exact ⟨_, _, rfl, .inr ⟨s.sq, q.here wr (.tup s r)⟩⟩
  · cases e
    obtain ⟨v, rfl, vv⟩ := VwL1 r
    cases vv with | lst s r => exact ⟨_, _, rfl, .inl ⟨.inl (.inl s), fun l hl => q.new wr hl (Rep.newT wr hl r)⟩⟩
  · cases e
end
end Eg

/-! E11: items, slices, texts, stores into lists. -/
namespace Eg
open PySem PySem.Spec PyProof.Rows L2
section
variable {X : Cx} {T : Tabs} {W : WX} {a b c e : Expr} {es : List Expr} {fa fb fc : Fr → M PV} {fr : Fr → M (List PV)} {pos p : Pos}
theorem RepL.atI {G : Cfg} {w : Wo} {H : Hp} {vs : List V} {xs : List PV} {i : Int} {x : PV} (r : RepL G w H vs xs) (h : L2.atI xs i = some x) : ∃ v, L2.atI vs i = some v ∧ Rep G w H v x := by
  unfold L2.atI at h ⊢
  rw [r.length]
  cases q : ixN xs.length i with
  | none => rw [q] at h; cases h
  | some j => rw [q] at h; exact r.get j h
def gIx : PV → PV → Option PV
  | .lst xs, .int i => L2.atI xs i
  | .tup xs, .int i => L2.atI xs i
  | .str z, .int i => if z.length ≤ sizeLine then (L2.atI z i).map fun c => .str [c] else none
  | .scr ns, .int i => (L2.atI ns i).map .int
  | _, _ => none
theorem atI_map {α β : Type} (f : α → β) (xs : List α) (i : Int) : L2.atI (xs.map f) i = (L2.atI xs i).map f := by
  unfold L2.atI
  rw [List.length_map]
  cases ixN xs.length i with
  | none => rfl
  | some j => simp
theorem atI_mem {α : Type} {xs : List α} {i : Int} {x : α} (h : L2.atI xs i = some x) : x ∈ xs := by
  unfold L2.atI at h
  cases q : ixN xs.length i with
  | none => rw [q] at h; cases h
  | some j => rw [q] at h; exact List.mem_of_getElem? h
theorem o2_ix : Op2 X T (rIx X.K) gIx := by
  intro w st H v u x y z Q wr rx ry e q
  unfold gIx at e
  split at e
  · cases rx with | lst s r =>
    cases ry
    obtain ⟨t, h1, h2⟩ := r.atI e
    exact .inl ⟨_, _, _, t, rfl, rfl, .inl (.inl s), h1, q.here wr h2⟩
  · cases rx with | tup s r =>
    cases ry
    obtain ⟨t, h1, h2⟩ := r.atI e
    exact .inr (.inl ⟨_, _, _, t, rfl, rfl, s.sq, h1, q.here wr h2⟩)
  · rename_i z i
    split at e
    · rename_i hl
      cases rx with | str _ hz =>
      cases ry
      cases k : L2.atI z i with
      | none => rw [k] at e; cases e
      | some c =>
        rw [k] at e; cases e
        have hc : decide (c < 1114112) = true := List.all_eq_true.mp hz c (atI_mem k)
        exact .inr (.inr ⟨_, _, c, rfl, rfl, hl, k, q.here wr (.str [c] (by simpa using hc))⟩)
    · cases e
  · rename_i ns i
    cases rx with | scr s =>
    cases ry
    cases k : L2.atI ns i with
    | none => rw [k] at e; cases e
    | some c =>
      rw [k] at e; cases e
      exact .inl ⟨_, _, _, .int c, rfl, rfl, s.sq, by rw [atI_map, k]; rfl, q.here wr (.int c)⟩
  · cases e
theorem pp_ix (ha : PP X T W a fa) (hb : PP X T W b fb) (hs : PlainIx b := by intro _ _; rfl) : PP X T W (.Subscript a b pos) (e2 gIx fa fb) :=
  ⟨fun pins s σ H Q I h => (pe_ix ix_seq ha hb hs).run pins s σ H Q I (t2 o2_ix h)⟩
/-! ### slices -/
def cutP {α : Type} (xs : List α) (lo hi : Option Int) : List α := (xs.drop (HT.sIx xs.length 0 lo)).take (HT.sIx xs.length xs.length hi - HT.sIx xs.length 0 lo)
def gSl : PV → Option Int → Option Int → Option PV
  | .tup xs, lo, hi => some (.tup (cutP xs lo hi))
  | .lst xs, lo, hi => some (.lst (cutP xs lo hi))
  | .str z, lo, hi => if z.length ≤ sizeLine then some (.str (cutP z lo hi)) else none
  | _, _, _ => none
def asI : PV → M Int
  | .int i => M.pure i
  | _ => M.bad
def oP : Option (Fr → M PV) → Fr → M (Option Int)
  | none, _ => M.pure none
  | some f, ρ => f ρ >>= fun x => asI x >>= fun i => M.pure (some i)
def eSl (fa : Fr → M PV) (fl fh : Option (Fr → M PV)) : Fr → M PV := fun ρ => fa ρ >>= fun x => oP fl ρ >>= fun l => oP fh ρ >>= fun h => g1 (fun y => gSl y l h) x
def rSlP (K : PySem.W.Frag) : V → Option Int → Option Int → Hp → VK → Prop := fun x lo hi H Q => rSlA K x lo hi H Q ∨ rSlL K x lo hi H Q ∨ rSlS x lo hi H Q
theorem sl_P : SlR X (rSlP X.K) := sl_tupA.or (sl_list.or sl_str)
/-- a part of a slice -/
def PPO (X : Cx) (T : Tabs) (W : WX) (e : Option Expr) (f : Option (Fr → M PV)) : Prop := match e, f with
  | none, none => True
  | some e, some f => PP X T W e f
  | _, _ => False
def tO (X : Cx) (T : Tabs) (W : WX) : Option (Fr → M PV) → TO
  | none => tNoPart
  | some f => tPart (tE X T W f)
theorem PPO.po {e : Option Expr} {f : Option (Fr → M PV)} (h : PPO X T W e f) : PO X e (tO X T W f) := by
  cases e with
  | none =>
    cases f with
    | none => exact po_none
    | some _ => exact h.elim
  | some e =>
    cases f with
    | none => exact h.elim
    | some f => exact po_some h
theorem ppo_none : PPO X T W none none := trivial
theorem ppo_some (h : PP X T W a fa) : PPO X T W (some a) (some fa) := h
theorem RunE.oE {f : Option (Fr → M PV)} {k : Option Int → Fr → M PV} {w : Wo} {st : Store} {ρ : Fr} {σ : L2.St} {H : Hp} {Q : VK} {Q' : Option Int → Hp → Prop} (h : RunE X T W (fun ρ => oP f ρ >>= fun x => k x ρ) w st ρ σ H Q)
    (step : ∀ w1 st1 o H1, Le w H w1 H1 → RunE X T W (k o) w1 st1 ρ σ H1 Q → Q' o H1) : tO X T W f σ H Q' := by
  cases f with
  | none => exact step w st none H (Le.refl _ _) ⟨h.wr, h.fr, h.post⟩
  | some f =>
    have h' : RunE X T W (fun ρ => f ρ >>= fun x => (fun ρ => asI x >>= fun i => k (some i) ρ) ρ) w st ρ σ H Q := by
      refine ⟨h.wr, h.fr, ?_⟩
      have p := h.post
      have e : ((oP (some f) ρ >>= fun x => k x ρ) st) = ((f ρ >>= fun x => (fun ρ => asI x >>= fun i => k (some i) ρ) ρ) st) := by
        show M.bind (M.bind (f ρ) _) _ st = M.bind (f ρ) _ st
        unfold M.bind
        cases f ρ st with
        | ok x s1 => cases x <;> rfl
        | exc _ _ => rfl
        | bad => rfl
      rw [e] at p
      exact p
    refine RunE.eE (k := fun x ρ => asI x >>= fun i => k (some i) ρ) h' fun w1 st1 x v H1 l r h1 => ?_
    cases r with
    | int i => exact ⟨i, rfl, step w1 st1 (some i) H1 l ⟨h1.wr, h1.fr, h1.post⟩⟩
    | _ => exact (h1.no rfl).elim
theorem RepL.cut {G : Cfg} {w : Wo} {H : Hp} {vs : List V} {xs : List PV} (r : RepL G w H vs xs) (lo hi : Option Int) : RepL G w H (cutV vs lo hi) (cutP xs lo hi) := by
  unfold cutV cutP
  rw [r.length]
  exact (r.drop _).take _
theorem all_take {x : List Nat} {p : Nat → Bool} (h : x.all p = true) (n : Nat) : (x.take n).all p = true := List.all_eq_true.mpr fun c hc => List.all_eq_true.mp h c (List.mem_of_mem_take hc)
theorem all_drop {x : List Nat} {p : Nat → Bool} (h : x.all p = true) (n : Nat) : (x.drop n).all p = true := List.all_eq_true.mpr fun c hc => List.all_eq_true.mp h c (List.mem_of_mem_drop hc)
theorem cut_whole {α : Type} {xs : List α} {lo hi : Option Int} (h : HT.sIx xs.length 0 lo = 0 ∧ HT.sIx xs.length xs.length hi = xs.length) : cutP xs lo hi = xs := by
  unfold cutP
  rw [h.1, h.2]
  simp
theorem pp_slice {lo hi : Option Expr} {fl fh : Option (Fr → M PV)} {p2 : Pos} (he : PP X T W a fa) (hl : PPO X T W lo fl) (hh : PPO X T W hi fh) : PP X T W (.Subscript a (.Slice lo hi none p2) pos) (eSl fa fl fh) := by
  refine ⟨fun pins s σ H Q I ⟨w, st, ρ, h⟩ => (pe_slice sl_P he hl.po hh.po).run pins s σ H Q I ?_⟩
  refine RunE.eE h fun w1 st1 x v H1 l1 rx h1 => ?_
  refine RunE.oE h1 fun w2 st2 lo H2 l2 h2 => ?_
  refine RunE.oE (k := fun o _ => g1 (fun y => gSl y lo o) x) h2 fun w3 st3 hi H3 l3 h3 => ?_
  have rx3 := (rx.mono l2).mono l3
  rcases g1_ok (g := fun y => gSl y lo hi) (x := x) (st := st3) with ⟨z, y, q1, q2, q3, q4⟩ | q
  · have vw := h3.wr.view rx3 q1 q2
    have fin : Aft X T w3 st3 H3 z Q := fun w' v' H' l wr r => h3.ret q4 l wr r
    unfold gSl at q3
    split at q3
    · cases q3
      cases vw with | tup s r =>
      refine .inl ⟨_, _, rfl, s.sq, fun hw => ?_, fun hw p hp => fin.new h3.wr hp (Rep.newT h3.wr hp (r.cut lo hi))⟩
      rw [r.length] at hw
      rw [cut_whole hw] at fin
      exact fin.here h3.wr (.tup s r)
    · cases q3
      cases vw with | lst s r =>
      exact .inr (.inl ⟨_, _, rfl, .inl (.inl s), fun p hp => fin.new h3.wr hp (Rep.newL h3.wr hp (r.cut lo hi))⟩)
    · split at q3
      · rename_i hl
        cases q3
        cases vw with | str _ hz =>
        exact .inr (.inr ⟨_, rfl, hl, fin.here h3.wr (.str _ (all_take (all_drop hz _) _))⟩)
      · cases q3
    · cases q3
  · exact (h3.no q).elim
/-! ### [::-1] -/
theorem rev_pick (xs : Array Value) : ((List.range xs.size).filterMap fun (k : Nat) => xs[((xs.size : Int) - 1 + (k : Int) * (-1)).toNat]?) = xs.toList.reverse := by
  have e : (fun (k : Nat) => xs[((xs.size : Int) - 1 + (k : Int) * (-1)).toNat]?) = (fun j : Nat => xs[j]?) ∘ (fun (k : Nat) => ((xs.size : Int) - 1 + (k : Int) * (-1)).toNat) := rfl
  rw [e, ← List.filterMap_map]
  have e2 : (List.range xs.size).map (fun (k : Nat) => ((xs.size : Int) - 1 + (k : Int) * (-1)).toNat) = (List.range xs.size).map fun k => xs.size - 1 - k :=
    List.map_congr_left fun k hk => by have := List.mem_range.mp hk; omega
  rw [e2, PySem.W.krv_range, List.filterMap_reverse, PySem.W.krv_all]
theorem slice_back {prog : Program} {w : World} {A : Around} {E : Value → Shared → Prop} {s : Shared} {sl : Addr} {vs : Value} {n : Nat} {Q : Int × Int × Nat → Shared → Prop} (hs : s.heap.IsSliceOf sl .none .none vs) (ps : IsPart vs (some (-1))) (h : Q ((n : Int) - 1, -1, n) s) :
    wpAny (model prog w) A (Builtin.Slice.sliceApplied (.ref sl) (pure (n : Int))) Q E s := by
  obtain ⟨os, hos, hcs, hds⟩ := id hs
  unfold Builtin.Slice.sliceApplied Builtin.Slice.sliceFields
  refine wpAny_bind (wpAny_bind (wpAny_field hos hds (x := .none) rfl (wpAny_bind (wpAny_field hos hds (x := .none) rfl (wpAny_bind (wpAny_field hos hds (x := vs) rfl (wpAny_pure ?_)))))))
  refine wpAny_bind (HT.slicePart_ ps ?_)
  show wpAny _ _ (if ((-1 : Int) == 0) = true then _ else _) _ _ s
  rw [if_neg (by decide)]
  refine wpAny_bind (HT.slicePart_ .none (wpAny_bind (HT.slicePart_ .none (wpAny_bind (wpAny_pure ?_)))))
  have e1 : Builtin.Slice.sliceAdjust none none (-1) (n : Int) = ((n : Int) - 1, -1) := rfl
  have e2 : Builtin.Slice.slicePlaces ((n : Int) - 1) (-1) (-1) = n := by
    unfold Builtin.Slice.slicePlaces
    have h1 : ¬ ((-1 : Int) > 0) := by decide
    simp only [h1, if_false]
    by_cases h2 : (n : Int) - 1 > -1
    · rw [if_pos h2]; show (((n : Int) - 1 - -1 - 1) / (- -1) + 1).toNat = n
      rw [show (- -1 : Int) = 1 from rfl, Int.ediv_one]; omega
    · rw [if_neg h2]; omega
  show wpAny _ _ (match Builtin.Slice.sliceAdjust none none (-1) (n : Int) with | (lo, hi) => pure (lo, (-1 : Int), Builtin.Slice.slicePlaces lo hi (-1))) _ _ s
  rw [e1]
  show wpAny _ _ (pure ((n : Int) - 1, (-1 : Int), Builtin.Slice.slicePlaces ((n : Int) - 1) (-1) (-1))) _ _ s
  rw [e2]
  exact wpAny_pure h
theorem getItem_tuple_rev {prog : Program} {w : World} {A : Around} {E : Value → Shared → Prop} {s : Shared} {t sl : Addr} {items : Array Value} {vs : Value} {Q : Value → Shared → Prop} (ht : IsTup s.heap t items) (hs : s.heap.IsSliceOf sl .none .none vs) (ps : IsPart vs (some (-1)))
    (h : Q (.ref s.heap.objs.size) { s with heap := s.heap.push { cls := .type "tuple", data := .seq items.toList.reverse.toArray } }) (hsz : items.size ≤ sizeLine) : wpAny (model prog w) A (getItem (.ref t) (.ref sl)) Q E s := by
  have hok : sizeOk (.seq items.toList.reverse.toArray) := by
    show items.toList.reverse.toArray.size ≤ sizeLine
    simpa using hsz
  obtain ⟨os, hos, hcs, hds⟩ := id hs
  have hTs : s.TypeIs (.ref sl) "slice" := ⟨os, hos, hcs⟩
  unfold getItem
  try with_reducible refine wpAny_holding ?_
  first | refine wpAny_bind (wpAny_pure ?_) | skip
  refine wpAny_bind (wpAny_sequenceKey ht.typeIs (by decide) (wpAny_bind (wpAny_callSpecial?_slot (name := Str.ofString "__getitem__") ht.typeIs PyProof.Rows.slot_tuple_getitem
    (wpAny_call_entry PyProof.Rows.slot_tuple_getitem ht.typeIs PyProof.Rows.entry_tuple_getitem ?_ (PyProof.Rows.args_tuple_getitem _ _)))))
  show wpAny _ _ (Builtin.Tuple.tupleItemsOf (.ref t) >>= _) _ _ s
  refine wpAny_bind (PyProof.Rows.tupleItemsOf_ ht (wpAny_bind (wpAny_typeOf hTs ?_)))
  rw [if_pos (by decide)]
  refine wpAny_bind (slice_back (n := items.size) hs ps ?_)
  have hno : ¬ ((((items.size : Int) - 1) == 0 && (-1 : Int) == 1 && items.size == items.size) = true) := by simp
  show wpAny _ _ (if (((items.size : Int) - 1) == 0 && (-1 : Int) == 1 && items.size == items.size) = true then _ else _) _ _ s
  rw [if_neg hno, rev_pick]
  first
    | exact wpAny_bind (m := Builtin.Tuple.tupleExact _) (wpAny_newObj_type (wpAny_pure ⟨_, rfl, wpAny_pure h⟩) hok)
    | exact wpAny_bind (m := Builtin.Tuple.tupleExact _) (wpAny_newObj_type (wpAny_bind (wpAny_pure (wpAny_pure ⟨_, rfl, wpAny_pure h⟩))) hok)
    | exact wpAny_bind (wpAny_bind (m := Builtin.Tuple.tupleExact _) (wpAny_newObj_type (wpAny_pure (wpAny_pure ⟨_, rfl, wpAny_pure h⟩)) hok))
    | exact wpAny_bind (wpAny_bind (m := Builtin.Tuple.tupleExact _) (wpAny_newObj_type (wpAny_pure ⟨_, rfl, wpAny_pure h⟩) hok))
def gRev : PV → Option PV
  | .tup xs => some (.tup xs.reverse)
  | .lst xs => some (.lst xs.reverse)
  | _ => none
theorem pp_rev {k : Nat} {p1 p2 p3 : Pos} (he : PP X T W a fa) : PP X T W (.Subscript a (.Slice none none (some (.UnaryOp .USub (.Constant (.int 1) k p1) p2)) p3) pos) (e1 gRev fa) := by
  refine ⟨fun pins s σ H Q I ⟨w, st, ρ, h⟩ => ?_⟩
  have hst : PO X (some (.UnaryOp .USub (.Constant (.int 1) k p1) p2)) (tPart (tUn (rU fun i => .int (-i)) (tC (.int 1)))) := po_some (pe_un un_neg pe_int)
  refine Subscript_ (thn (he.run pins s σ H _ I (RunE.eE (k := fun x _ => g1 gRev x) (Q' := fun v H1 => ∃ w1 st1 x, Rep (Cx.g X T) w1 H1 v x ∧ RunE X T W (fun _ => g1 gRev x) w1 st1 ρ σ H1 Q) h fun w1 st1 x v H1 l r h1 => ⟨w1, st1, x, r, h1⟩)) fun v s1 ⟨y, H1, I1, r1, w1, st1, x, rx, h1⟩ => ?_)
  refine wpAny_Slice (thn (po_none.run pins s1 σ H1 (fun o H2 => o = none ∧ H2 = H1) I1 ⟨rfl, rfl⟩) fun vl s2 ⟨l, H2, I2, pl, el, e2⟩ => ?_)
  subst el e2
  refine thn (po_none.run pins s2 σ H2 (fun o H3 => o = none ∧ H3 = H2) I2 ⟨rfl, rfl⟩) fun vu s3 ⟨u, H3, I3, pu, eu, e3⟩ => ?_
  subst eu e3
  refine thn (hst.run pins s3 σ H3 (fun o H4 => o = some (-1) ∧ H4 = H3) I3 ⟨1, rfl, -1, rfl, rfl, rfl⟩) fun vs s4 ⟨o, H4, I4, ps, eo, e4⟩ => ?_
  subst eo e4
  have J : L2.Inv X pins σ H4 { s4 with heap := s4.heap.push { cls := .type "slice", data := .fields #[vl, vu, vs] } } := I4.kept (t' := s4.toks) fun b ob q => Heap.get?_push_of_some _ q
  rcases g1_ok (g := gRev) (x := x) (st := st1) with ⟨z, y', q1, q2, q3, q4⟩ | q
  · have vw := h1.wr.view rx q1 q2
    have fin : Aft X T w1 st1 H4 z Q := fun w' v' H' l wr r => h1.ret q4 l wr r
    unfold gRev at q3
    split at q3
    · cases q3
      cases vw with | @tup t vs' xs s r =>
      cases (show v = Value.ref t from r1)
      obtain ⟨its, rv, ht, hz⟩ := J.tuple s.sq
      cases pl
      cases pu
      refine tail_any (ops := [.ref t, .ref s4.heap.objs.size]) ht.typeIs PyProof.Rows.slot_tuple_getitem.lookup ?_ (by with_unfolding_all rfl)
      refine getItem_tuple_rev ht (Heap.IsSliceOf.new _ .none .none vs) ps ?_ (by rw [List.size_toArray, ← rv.length]; exact hz)
      have hp : H4 (s4.heap.push { cls := .type "slice", data := .fields #[.none, .none, vs] }).objs.size = none := J.hok.fresh (Nat.le_refl _)
      refine ⟨.ref _, upd H4 _ (.tup vs'.reverse), J.laid (t' := s4.toks) (fun b ob q => Heap.get?_push_of_some _ q) (Nat.le_refl _) ?_, rfl, fin.new h1.wr hp (Rep.newT h1.wr hp r.reverse)⟩
      exact ⟨by rw [List.length_reverse]; exact hz, _, rv.reverse, _, Heap.get?_push_size _ rfl, rfl, _, rfl⟩
    · cases q3
      cases vw with | @lst t vs' xs s r =>
      cases (show v = Value.ref t from r1)
      obtain ⟨its, rv, ht, hz⟩ := J.list (.inl (.inl s))
      refine tail_any (ops := [.ref t, .ref s4.heap.objs.size]) ht.isList.typeIs PySem.slot_list_getitem.lookup ?_ (by with_unfolding_all rfl)
      refine wpAny_getItem_list_slice ht.isList (Heap.IsSliceOf.new _ vl vu vs) pl pu ps (by decide) ?_ (by rw [List.size_toArray, ← rv.length]; exact hz)
      rw [PySem.W.krv_pick]
      have hp : H4 (s4.heap.push { cls := .type "slice", data := .fields #[vl, vu, vs] }).objs.size = none := J.hok.fresh (Nat.le_refl _)
      refine ⟨.ref _, upd H4 _ (.lst vs'.reverse), J.laid (t' := s4.toks) (fun b ob q => Heap.get?_push_of_some _ q) (Nat.le_refl _) ?_, rfl, fin.new h1.wr hp (Rep.newL h1.wr hp r.reverse)⟩
      exact ⟨by rw [List.length_reverse]; exact hz, _, 0, rv.reverse, Heap.get?_push_size _ rfl⟩
    · cases q3
  · exact (h1.no q).elim
/-! ### one text in another; join -/
def gInS : PV → PV → Option PV
  | .str x, .str y => some (.bl (!(Builtin.Str.occurrences (s2 y) (s2 x) 0 (s2 y).length 1).isEmpty))
  | _, _ => none
def gNotInS : PV → PV → Option PV
  | .str x, .str y => some (.bl (!(!(Builtin.Str.occurrences (s2 y) (s2 x) 0 (s2 y).length 1).isEmpty)))
  | _, _ => none
theorem o2_inS : Op2 X T (fun x y H Q => ∃ i j, x = .str i ∧ y = .str j ∧ Q (.bl (!(Builtin.Str.occurrences j i 0 j.length 1).isEmpty)) H) gInS := by
  intro w st H v u x y z Q wr rx ry e q
  unfold gInS at e
  split at e
  · cases rx; cases ry; cases e
    exact ⟨_, _, rfl, rfl, q.here wr (.bl _)⟩
  · cases e
theorem o2_notInS : Op2 X T (fun x y H Q => ∃ i j, x = .str i ∧ y = .str j ∧ Q (.bl (!(!(Builtin.Str.occurrences j i 0 j.length 1).isEmpty))) H) gNotInS := by
  intro w st H v u x y z Q wr rx ry e q
  unfold gNotInS at e
  split at e
  · cases rx; cases ry; cases e
    exact ⟨_, _, rfl, rfl, q.here wr (.bl _)⟩
  · cases e
/-! ### xs[i] = v -/
def lset (l : Nat) (i : Int) (x : PV) : M Unit := fun st => match st.get l with
  | some (.lst ys) => match ixN ys.length i with
    | some j => .ok () (st.put l (.lst (ys.set j x)))
    | none => .bad
  | _ => .bad
/-- the change of one location -/
theorem Wr.put {G : Cfg} {w : Wo} {st : Store} {H : Hp} {l : Nat} {a : Addr} {c c' : Cell} {o : HO} (wr : Wr G w st H) (hl : w.η l = some a) (hc : st.get l = some c) (hd : w.D a) (hn : ∀ {w'} , LeR w H w' (upd H a o) → (w'.D a) → w' = w → CellR G w (upd H a o) a c') :
    Le w H w (upd H a o) ∧ Wr G w (st.put l c') (upd H a o) := by
  have ha := (wr.ran l a hl).1
  have le : Le w H w (upd H a o) := ⟨fun _ _ h => h, fun _ _ h => .inl h, fun _ h _ => h, fun b q h k => by
      have ne : b ≠ a := by
        rintro rfl
        rcases h with h | h
        · exact h hd
        · exact h l hl
      rcases k with k | ⟨k1, k2, k⟩
      · exact .inl (by rw [upd_ne ne]; exact k)
      · exact .inr ⟨k1, k2, by rw [upd_ne ne]; exact k⟩, fun b h => by
      by_cases e : b = a
      · subst e; rw [upd_same]; simp
      · rw [upd_ne e]; exact h, fun _ h _ _ => h⟩
  refine ⟨le, ⟨fun m d e => ?_, wr.inj, fun b h => le.dom b (wr.trk b h), fun m b h => ⟨le.dom b (wr.ran m b h).1, (wr.ran m b h).2⟩⟩⟩
  rw [Store.get_put] at e
  by_cases em : m = l
  · subst em
    rw [if_pos rfl] at e
    cases e
    exact ⟨a, hl, hn le.r hd rfl⟩
  · rw [if_neg em] at e
    obtain ⟨b, h1, h2⟩ := wr.cell m d e
    have ne : b ≠ a := by
      rintro rfl
      exact em (wr.inj m l b h1 hl)
    exact ⟨b, h1, h2.mono le (wr.ran m b h1).1 (fun z => z) fun _ => upd_ne ne⟩
def gSubL (fo fi : Fr → M PV) : PV → Fr → M Fr := fun x ρ => fo ρ >>= fun o => fi ρ >>= fun i => match o, i with
  | .loc l, .int k => lset l k x >>= fun _ => M.pure ρ
  | _, _ => M.bad
theorem ppg_subL {o i : Expr} {fo fi : Fr → M PV} (ho : PP X T W0 o fo) (hi : PP X T W0 i fi)
    (ha : ∀ v, assign (.Subscript o i pos) X.env v = (do
      let ov ← holding [v] (eval o X.env)
      let iv ← holding [v, ov] (eval i X.env)
      standAt pos
      holding [v, ov, iv] (setItem ov iv v)
      release [v, ov, iv] []) := by intro _; rfl) : PPG X T (.Subscript o i pos) [] (gSubL fo fi) := by
  refine ⟨fun pins s σ H v u Q I r ⟨w, st, ρ, x, wr, fr, rx, ρ', st', e, q⟩ => (pg_sub ho hi set_list ha).run pins s σ H v u Q I r ?_⟩
  unfold gSubL at e
  refine ⟨w, st, ρ, wr, fr, ?_⟩
  cases q1 : fo ρ st with
  | exc _ _ => rw [M.bind_exc q1] at e; cases e
  | bad => rw [M.bind_bad q1] at e; cases e
  | ok o1 st1 =>
    rw [M.bind_ok q1] at e
    intro w1 v1 H1 l1 wr1 r1
    refine ⟨w1, st1, ρ, wr1, fr.mono l1, ?_⟩
    cases q2 : fi ρ st1 with
    | exc _ _ => rw [M.bind_exc q2] at e; cases e
    | bad => rw [M.bind_bad q2] at e; cases e
    | ok i1 st2 =>
      rw [M.bind_ok q2] at e
      intro w2 v2 H2 l2 wr2 r2
      have r1' := r1.mono l2
      have rx' := (rx.mono l1).mono l2
      cases r1' with
      | @loc a l hl =>
        cases r2 with
        | int k =>
          change (lset l k x >>= fun _ => M.pure ρ) st2 = _ at e
          unfold lset at e
          cases q3 : st2.get l with
          | none => rw [M.bind_bad (by simp [q3])] at e; cases e
          | some c =>
            cases c with
            | lst ys =>
              cases q4 : ixN ys.length k with
              | none => rw [M.bind_bad (by simp [q3, q4])] at e; cases e
              | some j =>
                rw [M.bind_ok (a := ()) (st' := st2.put l (.lst (ys.set j x))) (by simp [q3, q4])] at e
                cases e
                obtain ⟨b, k1, k2⟩ := wr2.cell l _ q3
                rw [hl] at k1; cases k1
                obtain ⟨hd, vs, k3, k4⟩ := k2
                obtain ⟨le, wr3⟩ := wr2.put (c' := .lst (ys.set j x)) (o := .lst (vs.set j v)) hl q3 hd fun {w'} lr d' ew => by
                  subst ew
                  exact ⟨hd, _, upd_same, (k4.set rx' j).mr lr⟩
                refine ⟨a, vs, k, j, rfl, rfl, k3, by rw [k4.length]; exact q4, q w2 σ _ ((l1.trans l2).trans le) wr3 (((fr.mono l1).mono l2).mono le) (Agr.refl _ _)⟩
            | _ => rw [M.bind_bad (by simp [q3])] at e; cases e
        | _ => cases e
      | _ => first | (cases e; done) | (cases r2 <;> cases e)
end
end Eg

/-! E12: sorted of data; sorted(set(..)) of ints. -/
namespace Eg
open PySem PySem.Spec PyProof.Rows L2
/-! ### insertion sort -/
def insL (le : PV → PV → Bool) (x : PV) : List PV → List PV
  | [] => [x]
  | y :: ys => if le x y then x :: y :: ys else y :: insL le x ys
def srtL (le : PV → PV → Bool) : List PV → List PV
  | [] => []
  | x :: xs => insL le x (srtL le xs)
section
variable {le : PV → PV → Bool}
theorem insL_mem (x : PV) : ∀ (ys : List PV) (z : PV), z ∈ insL le x ys ↔ z = x ∨ z ∈ ys
  | [], z => by simp [insL]
  | y :: ys, z => by
    unfold insL
    split
    · simp
    · simp only [List.mem_cons, insL_mem x ys z]
      constructor
      · rintro (h | h | h)
        · exact .inr (.inl h)
        · exact .inl h
        · exact .inr (.inr h)
      · rintro (h | h | h)
        · exact .inr (.inl h)
        · exact .inl h
        · exact .inr (.inr h)
theorem srtL_mem : ∀ (xs : List PV) (z : PV), z ∈ srtL le xs ↔ z ∈ xs
  | [], z => by simp [srtL]
  | x :: xs, z => by unfold srtL; rw [insL_mem, srtL_mem xs z]; simp
theorem insL_pw (h : PySem.W.TotalLe le) (x : PV) : ∀ ys : List PV, ys.Pairwise (fun a b => le a b = true) → (insL le x ys).Pairwise (fun a b => le a b = true)
  | [], _ => by simp [insL]
  | y :: ys, hp => by
    have ⟨h1, h2⟩ := List.pairwise_cons.mp hp
    unfold insL
    split
    · rename_i e
      refine List.pairwise_cons.mpr ⟨fun z hz => ?_, hp⟩
      rcases List.mem_cons.mp hz with rfl | hz
      · exact e
      · exact h.trans _ _ _ e (h1 z hz)
    · rename_i e
      refine List.pairwise_cons.mpr ⟨fun z hz => ?_, insL_pw h x ys h2⟩
      rcases (insL_mem x ys z).mp hz with rfl | hz
      · rcases h.total z y with t | t
        · exact absurd t e
        · exact t
      · exact h1 z hz
theorem srtL_pw (h : PySem.W.TotalLe le) : ∀ xs : List PV, (srtL le xs).Pairwise (fun a b => le a b = true)
  | [] => .nil
  | x :: xs => insL_pw h x _ (srtL_pw h xs)
theorem insL_filter (h : PySem.W.TotalLe le) (c x : PV) : ∀ ys : List PV, ys.Pairwise (fun a b => le a b = true) → (insL le x ys).filter (PySem.W.sameRank le c) = (x :: ys).filter (PySem.W.sameRank le c)
  | [], _ => rfl
  | y :: ys, hp => by
    have ⟨h1, h2⟩ := List.pairwise_cons.mp hp
    unfold insL
    split
    · rfl
    · rename_i e
      rw [List.filter_cons, insL_filter h c x ys h2]
      rw [List.filter_cons, List.filter_cons, List.filter_cons]
      by_cases hy : PySem.W.sameRank le c y = true
      · by_cases hx : PySem.W.sameRank le c x = true
        · exfalso
          simp only [PySem.W.sameRank, Bool.and_eq_true] at hx hy
          exact e (h.trans _ _ _ hx.2 hy.1)
        · simp [hx, hy]
      · simp [hy]
theorem srtL_merge (h : PySem.W.TotalLe le) (xs : List PV) : srtL le xs = xs.mergeSort le := by
  refine PySem.W.sort_unique h (srtL_pw h xs) fun c => ?_
  induction xs with
  | nil => rfl
  | cons x xs ih =>
    unfold srtL
    rw [insL_filter h c x _ (srtL_pw h xs), List.filter_cons, ih, List.filter_cons]
theorem insL_congr {le' : PV → PV → Bool} (x : PV) : ∀ ys : List PV, (∀ y ∈ ys, le x y = le' x y) → insL le x ys = insL le' x ys
  | [], _ => rfl
  | y :: ys, h => by
    unfold insL
    rw [h y (by simp), insL_congr x ys fun z hz => h z (by simp [hz])]
theorem srtL_congr {le' : PV → PV → Bool} : ∀ xs : List PV, (∀ x ∈ xs, ∀ y ∈ xs, le x y = le' x y) → srtL le xs = srtL le' xs
  | [], _ => rfl
  | x :: xs, h => by
    unfold srtL
    rw [srtL_congr xs fun a ha b hb => h a (by simp [ha]) b (by simp [hb])]
    exact insL_congr x _ fun y hy => h x (by simp) y (by simp [(srtL_mem xs y).mp hy])
theorem insL_len (x : PV) : ∀ ys : List PV, (insL le x ys).length = ys.length + 1
  | [] => rfl
  | y :: ys => by unfold insL; split <;> simp [insL_len x ys]
theorem srtL_len : ∀ xs : List PV, (srtL le xs).length = xs.length
  | [] => rfl
  | x :: xs => by unfold srtL; rw [insL_len, srtL_len xs]; rfl
end
/-- what sorted gives: data that are alike, tuples with an item at least -/
def ple (x y : PV) : Bool := !plt y x
def okSrt1 : PV → Bool
  | .non => false
  | .tup _ => false
  | _ => true
def isT1 : PV → Bool
  | .tup (_ :: _) => true
  | _ => false
def okSrt (xs : List PV) : Bool := xs.all (fun x => isD x && decide (pdep x ≤ 60)) && xs.all (fun x => xs.all fun y => palk x y) && (xs.all isT1 || xs.all okSrt1)
def psort (xs : List PV) : Option (List PV) := if okSrt xs && decide (xs.length ≤ sizeLine) then some (srtL ple xs) else none
theorem psort_ok {xs ys : List PV} (h : psort xs = some ys) : xs.length ≤ sizeLine ∧ (∀ x ∈ xs, isD x = true ∧ pdep x ≤ 60) ∧ (∀ x ∈ xs, ∀ y ∈ xs, palk x y = true) ∧ ((∀ x ∈ xs, isT1 x = true) ∨ ∀ x ∈ xs, okSrt1 x = true) ∧ ys = srtL ple xs := by
  unfold psort at h
  split at h
  · rename_i k
    cases h
    simp only [okSrt, Bool.and_eq_true, Bool.or_eq_true, List.all_eq_true, decide_eq_true_eq] at k
    exact ⟨k.2, k.1.1.1, k.1.1.2, k.1.2, rfl⟩
  · cases h
theorem ple_data {xs : List PV} (h1 : ∀ x ∈ xs, isD x = true ∧ pdep x ≤ 60) (h2 : ∀ x ∈ xs, ∀ y ∈ xs, palk x y = true) : ∀ x ∈ xs, ∀ y ∈ xs, ple x y = PySem.W.dataLe false toD x y := fun x hx y hy => by
  rw [PySem.W.dataLe_eq]
  show (!plt y x) = !PySem.W.dataLt (toD y) (toD x)
  rw [lt_toD y x (h1 y hy).1 (h1 x hx).1 (h2 y hy x hx)]
theorem psort_merge {xs : List PV} (h1 : ∀ x ∈ xs, isD x = true ∧ pdep x ≤ 60) (h2 : ∀ x ∈ xs, ∀ y ∈ xs, palk x y = true) : srtL ple xs = xs.mergeSort (PySem.W.dataLe false toD) := by
  rw [srtL_congr xs (ple_data h1 h2)]
  exact srtL_merge (PySem.W.sortLe_total _ _ _) xs
mutual
theorem reads_lt {h : Heap} : ∀ {d : PyData} {v : Value} {as : List Addr}, Reads h v d as → ∀ b ∈ as, b < h.objs.size
  | _, _, _, .none, b, hb => by simp at hb
  | _, _, _, .bool _, b, hb => by simp at hb
  | _, _, _, .int _ _, b, hb => by simp at hb
  | _, _, _, .str _ _, b, hb => by simp at hb
  | .list xs, _, _, .list ho _ _ r, b, hb => by
    rcases List.mem_cons.mp hb with rfl | hb
    · exact Heap.lt_size ho
    · exact readsAll_lt r b hb
  | .tuple xs, _, _, .tuple _ _ _ r, b, hb => readsAll_lt r b hb
  | .dict kvs, _, _, .dict ho _ _ r1 r2, b, hb => by
    rcases List.mem_append.mp hb with hb | hb
    · rcases List.mem_cons.mp hb with rfl | hb
      · exact Heap.lt_size ho
      · exact readsAll_lt r1 b hb
    · exact readsAll_lt r2 b hb
theorem readsAll_lt {h : Heap} : ∀ {ds : List PyData} {vs : List Value} {as : List Addr}, ReadsAll h vs ds as → ∀ b ∈ as, b < h.objs.size
  | _, _, _, .nil, b, hb => by simp at hb
  | _, _, _, .cons r1 r2, b, hb => by
    rcases List.mem_append.mp hb with hb | hb
    · exact reads_lt r1 b hb
    · exact readsAll_lt r2 b hb
end
section
variable {X : Cx} {T : Tabs} {W : WX} {a b c e : Expr} {es : List Expr} {fa fb fc : Fr → M PV} {fr : Fr → M (List PV)} {pos p : Pos}
/-- each value, with what it reads as -/
def Zp (ps : List (V × PV)) (us : List Value) : Prop := PySem.W.EachIs (fun u (q : V × PV) => RelV q.1 u) us ps
theorem zp_of : ∀ {vs : List V} {us : List Value} {xs : List PV}, Vals vs us → vs.length = xs.length → Zp (vs.zip xs) us
  | [], _, [], .nil, _ => .nil
  | _ :: _, _, x :: xs, .cons r t, h => .cons r (zp_of t (by simpa using h))
theorem zp_vals : ∀ {ps : List (V × PV)} {us : List Value}, Zp ps us → Vals (ps.map (·.1)) us
  | _, _, .nil => .nil
  | _, _, .cons r t => .cons r (zp_vals t)
theorem zp_reads {pins : List (Addr × Obj)} {σ : L2.St} {H : Hp} {s : Shared} {w : Wo} (I : L2.Inv X pins σ H s) : ∀ {ps : List (V × PV)} {us : List Value}, Zp ps us → (∀ q ∈ ps, Rep (Cx.g X T) w H q.1 q.2 ∧ isD q.2 = true) → PySem.W.EachIs (fun u (q : V × PV) => ∃ as, Reads s.heap u (toD q.2) as) us ps
  | _, _, .nil, _ => .nil
  | _, _, .cons r t, h => .cons (Dp.reads I _ _ _ ((h _ (by simp)).1.dp (h _ (by simp)).2) r) (zp_reads I t fun q hq => h q (by simp [hq]))
theorem repl_zip {G : Cfg} {w : Wo} {H : Hp} : ∀ {vs : List V} {xs : List PV}, RepL G w H vs xs → ∀ q ∈ vs.zip xs, Rep G w H q.1 q.2
  | _, _, .nil, q, hq => by simp at hq
  | _, _, .cons a b, q, hq => by
    rcases List.mem_cons.mp hq with rfl | hq
    · exact a
    · exact repl_zip b q hq
theorem repl_unzip {G : Cfg} {w : Wo} {H : Hp} : ∀ {ps : List (V × PV)}, (∀ q ∈ ps, Rep G w H q.1 q.2) → RepL G w H (ps.map (·.1)) (ps.map (·.2))
  | [], _ => .nil
  | q :: ps, h => .cons (h q (by simp)) (repl_unzip fun r hr => h r (by simp [hr]))
theorem zip_snd {vs : List V} {xs : List PV} (h : vs.length = xs.length) : (vs.zip xs).map (·.2) = xs := by
  rw [← List.unzip_snd, List.unzip_zip_right (by omega)]
/-- sorted(x) of a list or a tuple of data -/
def rSrt (X : Cx) (T : Tabs) : List V → Hp → VK → Prop := fun xs H Q => ∃ (a : Addr) (vs : List V) (ys zs : List PV) (w : Wo) (st : Store), xs = [.ref a] ∧ (SqL X.K H a vs ∨ SqT X.K H a vs) ∧ Wr (Cx.g X T) w st H ∧ RepL (Cx.g X T) w H vs ys ∧ psort ys = some zs ∧
  ∀ p us, H p = none → RepL (Cx.g X T) w H us zs → Q (.ref p) (upd H p (.lst us))
theorem cr_srt (hu : X.A.units + 64 < cLine) : CallR X (.builtin "sorted") (rSrt X T) := by
  intro pins s σ H xs us Q I rx ⟨a, vs, ys, zs, w, st, exs, hq, wr, r, hs, q⟩
  subst exs
  cases rx with | cons r1 r2 =>
  cases r2
  cases (show _ = Value.ref a from r1)
  obtain ⟨hL, h1, h2, h3, rfl⟩ := psort_ok hs
  have hlen := r.length
  obtain ⟨its, o, n, T', hT, ho, hc, hd, rv⟩ : ∃ (its : List Value) (o : Obj) (n : Nat) (T' : String), (T' = "list" ∨ T' = "tuple") ∧ s.heap.get? a = some o ∧ o.cls = .type T' ∧ o.data = .seq its.toArray n ∧ Vals vs its := by
    rcases hq with hq | hq
    · obtain ⟨its, rv, ⟨o, n, k1, k2, _, k3⟩, _⟩ := I.list hq
      exact ⟨its, o, n, "list", .inl rfl, k1, k2, k3, rv⟩
    · obtain ⟨its, rv, ⟨o, k1, k2, n, k3⟩, _⟩ := I.tuple hq
      exact ⟨its, o, n, "tuple", .inr rfl, k1, k2, k3, rv⟩
  have hli : its.length = ys.length := by rw [← rv.length]; exact hlen
  refine Calls.call_function_entry kind_sorted plain_sorted entry_sorted (args_sorted1 _) ?_
  unfold Builtin.«sorted»
  refine wpAny_bind (m := checkCount "sorted" 1 1 _) (wpAny_pure (wpAny_bind (wpAny_collect_seq a hT ho hc hd (fun h' keep => ?_) (by rw [List.size_toArray, hli]; exact hL))))
  refine wpAny_bind (wpAny_newList ?_ (by simpa [hli] using hL))
  have I1 : L2.Inv X pins σ H { s with heap := h' } := I.kept (t' := s.toks) keep
  have I2 : L2.Inv X pins σ H { s with heap := h'.push { cls := .type "list", data := .seq its.toArray } } := I1.kept (t' := s.toks) fun b o e => Heap.get?_push_of_some _ e
  have hfr : H h'.objs.size = none := I1.hok.fresh (Nat.le_refl _)
  have eo : (h'.push { cls := .type "list", data := .seq its.toArray }).get? h'.objs.size = some (seqObj "list" its.toArray 0) := Heap.get?_push_size _ rfl
  have hz := zp_of rv hlen
  have hrep := repl_zip r
  have er := zp_reads I2 hz fun q hq => ⟨hrep q hq, (h1 q.2 (List.of_mem_zip hq).2).1⟩
  have er2 : PySem.W.EachIs (fun u (q : V × PV) => ∃ as, Reads (h'.push { cls := .type "list", data := .seq its.toArray }) u (toD q.2) as ∧ h'.objs.size ∉ as) its (vs.zip ys) := by
    have er1 := zp_reads I1 hz fun q hq => ⟨hrep q hq, (h1 q.2 (List.of_mem_zip hq).2).1⟩
    refine er1.mono fun u q ⟨as, k⟩ => ⟨as, PyProof.Rows.Reads.keeps (fun _ _ e => Heap.get?_push_of_some _ e) k, fun hm => ?_⟩
    exact absurd (reads_lt k _ hm) (Nat.lt_irrefl _)
  have hal : PySem.W.AllAlike ((vs.zip ys).map fun q => toD q.2) := by
    intro d hd d' hd'
    obtain ⟨q, hq, rfl⟩ := List.mem_map.mp hd
    obtain ⟨q', hq', rfl⟩ := List.mem_map.mp hd'
    have m := (List.of_mem_zip hq).2
    have m' := (List.of_mem_zip hq').2
    rw [alk_toD _ _ (h1 _ m).1 (h1 _ m').1]
    exact h2 _ m _ m'
  have hsrt : PySem.W.Sortable ((vs.zip ys).map fun q => toD q.2) := by
    rcases h3 with h3 | h3
    · refine .inl fun d hd => ?_
      obtain ⟨q, hq, rfl⟩ := List.mem_map.mp hd
      have m := h3 _ (List.of_mem_zip hq).2
      cases e : q.2 with
      | tup zs => rw [e] at m; cases zs with
        | nil => cases m
        | cons z zs => exact ⟨toD z, toDs zs, by simp only [toD, toDs]⟩
      | _ => rw [e] at m; cases m
    · refine .inr fun d hd => ?_
      obtain ⟨q, hq, rfl⟩ := List.mem_map.mp hd
      have m := h3 _ (List.of_mem_zip hq).2
      have k := (h1 _ (List.of_mem_zip hq).2).1
      cases e : q.2 <;> rw [e] at m k <;> first | (cases m; done) | (cases k; done) | (refine ⟨?_, ?_⟩ <;> simp [toD])
  refine wpAny_bind (wpAny_holding (PySem.W.list_sort_data (R := fun u (q : V × PV) => RelV q.1 u) (enc := fun q => toD q.2) eo hz er2 hal hsrt (by simp [hlen]; omega) (fun b hb => ?_) fun out ho2 hout => ?_))
  · have := (h1 _ (List.of_mem_zip hb).2).2
    rw [depth_toD]
    show X.A.units + 1 + 1 + pdep b.2 < cLine
    omega
  · have hmap : ((vs.zip ys).mergeSort (PySem.W.dataLe false fun q : V × PV => toD q.2)).map (·.2) = srtL ple ys := by
      have e := PySem.W.sort_maps (l := vs.zip ys) (r := PySem.W.dataLe false fun q : V × PV => toD q.2) (s := PySem.W.dataLe false toD) (fun q : V × PV => q.2) fun _ _ _ _ => rfl
      rw [zip_snd hlen, ← psort_merge h1 h2] at e
      exact e
    have hmem : ∀ q ∈ (vs.zip ys).mergeSort (PySem.W.dataLe false fun q : V × PV => toD q.2), Rep (Cx.g X T) w H q.1 q.2 := fun q hq => hrep q ((List.mergeSort_perm _ _).mem_iff.mp hq)
    have rfin : RepL (Cx.g X T) w H (((vs.zip ys).mergeSort (PySem.W.dataLe false fun q : V × PV => toD q.2)).map (·.1)) (srtL ple ys) := by
      rw [← hmap]
      exact repl_unzip hmem
    obtain ⟨ne, hsat⟩ := sortedHeap_at (out := out.toArray) eo
    refine wpAny_pure ⟨_, rfl, .ref h'.objs.size, _, I1.laid (t' := s.toks) (o := .lst (((vs.zip ys).mergeSort (PySem.W.dataLe false fun q : V × PV => toD q.2)).map (·.1))) (fun b o e => ?_) (Nat.le_refl _) ?_, rfl, q _ _ hfr rfin⟩
    · have hb := Heap.lt_size e
      rw [sortedHeap_old (Nat.ne_of_lt hb) (by rw [Heap.size_push]; exact Nat.lt_succ_of_lt hb)]
      exact Heap.get?_push_of_some _ e
    · exact ⟨by rw [rfin.length, srtL_len]; exact hL, out, ne, zp_vals hout, hsat⟩
end
end Eg

/-! E13: set(x) of a list of ints. -/
namespace Eg
open PySem PySem.Spec PyProof.Rows L2
section
variable {P : Program} {w : World} {A : Around} {E : Value → Shared → Prop} {s : Shared}
/-- a new empty set's object -/
abbrev set0 (w : World) : Obj := { cls := .type "set", dict := none, data := .set #[] 0 (.fresh 0 0 (!w.params.followText "set-order")) }
theorem set_of_listI {l : Addr} {its : Array Value} (ns : List Int) {Q : Value → Shared → Prop} (hh : A.handled = none) (hl : s.heap.IsList l its) (hi : IntsAre its.toList ns) (hb : ns.length + 1 < scanBound)
    (fin : ∀ (h' : Heap) (tk c : Nat), SetR w h' s.heap.objs.size (fun j => decide (j ∈ ns)) c → c ≤ ns.length → (∀ b o, s.heap.get? b = some o → h'.get? b = some o) → Q (.ref s.heap.objs.size) { s with heap := h', toks := tk }) :
    wpAny (model P w) A (call (.type "set") [.ref l]) Q E s := by
  have hsz : its.size = ns.length := by rw [← Array.length_toList]; exact IntsAre.length hi
  obtain ⟨cm, tm, hmro⟩ := F.called_set.mro
  have g1 := F.called_set.made; have g2 := F.called_set.sub; have g3 := F.called_set.notType; have g4 := F.called_set.canCreate; have g5 := F.typeCall_set_1 (.ref l)
  refine wpAny_call (codeAny_of_tree (show wpAny _ _ (callAny (.type "set") _) _ _ _ from wpAny_pure ⟨Code.quiet_builtin _ (by decide +kernel), codeAny_builtin F.entry_type_call ?_⟩))
  rw [Around.under_plain (weight_type_call_type "set" [.ref l] []) rfl]
  repeat (any_goals (first | assumption | wp_step))
  refine codeAny_mono (code_set_led1 (.ref l) (E := E) (Q₁ := fun ob s1 => ob = .ref s.heap.objs.size ∧ s1 = { s with heap := s.heap.push (set0 w) }) ⟨rfl, rfl⟩) fun r s1 hr => ?_
  cases r with
  | error e => exact hr
  | ok fl =>
    cases fl with
    | next => exact hr.elim
    | brk => exact hr.elim
    | cont => exact hr.elim
    | ret ob =>
      obtain ⟨rfl, rfl⟩ := hr
      have hS : (s.heap.push (set0 w)).get? s.heap.objs.size = some (set0 w) := Heap.get?_push_size _ rfl
      have hT : Shared.TypeIs { s with heap := s.heap.push (set0 w) } (.ref s.heap.objs.size) "set" := ⟨_, hS, rfl⟩
      have g6 := F.called_set.init.lookup; have g7 := F.called_set.init.bind (.ref s.heap.objs.size)
      repeat (any_goals (first | assumption | wp_step))
      refine codeAny_mono (codeAny_call_builtin (R := wants (fun r s2 => r = .none ∧ ∃ h' tk c, s2 = { s with heap := h', toks := tk } ∧ SetR w h' s.heap.objs.size (fun j => decide (j ∈ ns)) c ∧ c ≤ ns.length ∧ ∀ b o, s.heap.get? b = some o → h'.get? b = some o) E)
        F.called_set.init.plain F.entry_set_init (check_set_init_1 hT ?_)) fun r2 s2 hr2 => ?_
      · obtain ⟨ol, hol, hcl, nl, hdl⟩ := hl
        obtain ⟨ocls, odict, odata, oslots⟩ := ol
        simp only at hcl hdl
        subst hcl; subst hdl
        have k1 : (s.heap.push (set0 w)).get? l = some { cls := .type "list", dict := odict, data := .seq its nl, slots := oslots } := Heap.get?_push_of_some _ hol
        have k2 := F.sub_list_set; have k3 := F.sub_list_frozenset
        have k4 : (Value.type "list" == Value.type "dict") = false := by decide
        have k5 : (s.heap.push (set0 w)).IsList l its := ⟨_, k1, rfl, nl, rfl⟩
        unfold Builtin.«set.__init__» noKeywords Builtin.Frozenset.updateFrom
        generalize hPI : pyIter = PI
        wp_walk
        subst hPI
        refine wpAny_pyIter_list k5 (wpAny_bind (wpAny_runValue ?_))
        have lt := Heap.lt_size hol
        have z1 : (s.heap.push (set0 w)).objs.size = s.heap.objs.size + 1 := Heap.size_push ..
        have n1 : l ≠ (s.heap.push (set0 w)).objs.size := by rw [z1]; exact Nat.ne_of_lt (Nat.lt_succ_of_lt lt)
        have n2 : s.heap.objs.size ∉ [(s.heap.push (set0 w)).objs.size, l] := by rw [z1]; simp only [List.mem_cons, List.not_mem_nil, or_false, not_or]; exact ⟨Nat.ne_of_lt (Nat.lt_succ_self _), Nat.ne_of_gt lt⟩
        have vals : ∀ (i : Nat) (v : Value), its[i]? = some v → ∃ k t, ns[i]? = some k ∧ v = .int k t := fun i v hv => by
          have hi' : i < ns.length := by rw [← hsz]; exact (Array.getElem?_eq_some_iff.mp hv).1
          obtain ⟨t, e⟩ := PyProof.Rows.IntsAre.int_at hi i v (by rw [Array.getElem?_toList]; exact hv)
          exact ⟨ns[i], t, List.getElem?_eq_getElem hi', by rw [e, List.getD_eq_getElem?_getD, List.getElem?_eq_getElem hi'] <;> rfl⟩
        refine set_update_ints ((Walks.list (show A.in1.in1.in1.handled = none by simp [hh]) _ l n1 its).toS) s.heap.objs.size n2 ns hsz hb vals (its.size - 0) 0 _ (by omega) (Nat.zero_le _)
          ⟨⟨_, Heap.get?_push_size _ rfl, rfl, rfl⟩, (k5.push _)⟩ ⟨0, Nat.le_refl 0, setR_new_at (Heap.get?_push_of_some _ hS)⟩ fun s3 c3 hm hc3 hS3 => ?_
        obtain ⟨h3, g3', d3, t3, o3⟩ := s3
        have e1 : g3' = s.gens := hm.gens; have e2 : d3 = s.drawn := hm.drawn; have e3 : o3 = s.os := hm.os
        subst e1; subst e2; subst e3
        show wpAny _ _ _ _ _ _
        refine wpAny_pure (show wpAny _ _ (ret Value.none) _ _ _ from ?_)
        rw [hsz] at hc3
        refine wpAny_pure ⟨rfl, h3, t3, c3, rfl, hS3, hc3, fun b o e => ?_⟩
        have lb := Heap.lt_size e
        refine hm.heap b o ?_ (Heap.get?_push_of_some _ (Heap.get?_push_of_some _ e))
        simp only [List.mem_cons, List.not_mem_nil, or_false, not_or]
        exact ⟨Nat.ne_of_lt lb, by rw [z1]; exact Nat.ne_of_lt (Nat.lt_succ_of_lt lb)⟩
      · cases r2 with
        | error e => exact hr2
        | ok f2 =>
          cases f2 with
          | next => exact hr2.elim
          | brk => exact hr2.elim
          | cont => exact hr2.elim
          | ret r =>
            obtain ⟨rfl, h', tk, c, rfl, hS', hc', keep⟩ := hr2
            repeat (any_goals (first | assumption | wp_step))
            exact fin _ _ _ hS' hc' keep
end
end Eg

/-! E14: sorted(x), sorted(set(x)). -/
namespace Eg
open PySem PySem.Spec PyProof.Rows L2
section
variable {X : Cx} {T : Tabs} {W : WX} {a b c e : Expr} {es : List Expr} {fa fb fc : Fr → M PV} {fr : Fr → M (List PV)} {pos p : Pos}
def gSorted : List PV → Option (List PV)
  | [.lst xs] => psort xs
  | [.tup xs] => psort xs
  | _ => none
theorem pp_sorted (k : Bool) (hu : X.A.units + 64 < cLine) (hg : Gl X "sorted") (hm : X.mg "sorted" = none) (ha : PPA X T W [a] fr)
    (he : starEach [a] X.env = (false, eval a X.env) :: starEach [] X.env := by rfl) (hpl : (backTo pos (starEach [] X.env)).any (·.1) = false := by rfl) (hv : bootBuiltins "sorted" = some (.builtin "sorted") := by decide +kernel) : PP X T W (.Call (.Name "sorted" p) [a] [] pos) (eBL k gSorted fr) := by
  refine ⟨fun pins s σ H Q I ⟨w, st, ρ, h⟩ => (pe_callB (cr_srt (T := T) hu) hg hm hv ha (by decide +kernel) (by decide +kernel) he hpl).run pins s σ H Q I ?_⟩
  refine RunE.aE (k := fun xs _ => rds xs >>= fun ys => M.of (gSorted ys) >>= fun zs => nw k (.lst zs)) h fun w1 st1 xs vs H1 l r h1 => ?_
  obtain ⟨ys, vw, h2⟩ := h1.rds r
  obtain ⟨zs, e, h3⟩ := h2.of
  unfold gSorted at e
  split at e
  · obtain ⟨v, rfl, vv⟩ := VwL1 vw
    cases vv with | lst s r => exact ⟨_, _, _, zs, w1, st1, rfl, .inl (.inl (.inl s)), h1.wr, r, e, fun q us hq ru => h3.mkL ru hq⟩
  · obtain ⟨v, rfl, vv⟩ := VwL1 vw
    cases vv with | tup s r => exact ⟨_, _, _, zs, w1, st1, rfl, .inr s.sq, h1.wr, r, e, fun q us hq ru => h3.mkL ru hq⟩
  · cases e
/-! ### sorted(set(x)) of intsP -/
def intsP : List PV → Option (List Int)
  | [] => some []
  | .int i :: xs => (intsP xs).map (i :: ·)
  | _ => none
theorem ints_ok : ∀ {xs : List PV} {ns : List Int}, intsP xs = some ns → xs = ns.map PV.int
  | [], ns, h => by cases h; rfl
  | x :: xs, ns, h => by
    cases x with
    | int b =>
      simp only [intsP] at h
      cases q : intsP xs with
      | none => rw [q] at h; cases h
      | some cs => rw [q] at h; cases h; rw [ints_ok q]; rfl
    | _ => cases h
theorem RepL.intsV {G : Cfg} {w : Wo} {H : Hp} : ∀ {ns : List Int} {vs : List V}, RepL G w H vs (ns.map PV.int) → vs = ns.map V.int
  | [], _, r => by cases r; rfl
  | b :: bs, _, r => by
    cases r with | cons a c =>
    cases a
    rw [RepL.intsV c]
    rfl
/-- the strictly ascending list of the members -/
def insI (x : Int) : List Int → List Int
  | [] => [x]
  | y :: ys => if x < y then x :: y :: ys else if x = y then y :: ys else y :: insI x ys
def setI : List Int → List Int
  | [] => []
  | x :: xs => insI x (setI xs)
theorem insI_mem (x : Int) : ∀ (ys : List Int) (z : Int), z ∈ insI x ys ↔ z = x ∨ z ∈ ys
  | [], z => by simp [insI]
  | y :: ys, z => by
    unfold insI
    split
    · simp
    · split
      · rename_i h; subst h; simp
      · simp only [List.mem_cons, insI_mem x ys z]
        constructor
        · rintro (h | h | h)
          · exact .inr (.inl h)
          · exact .inl h
          · exact .inr (.inr h)
        · rintro (h | h | h)
          · exact .inr (.inl h)
          · exact .inl h
          · exact .inr (.inr h)
theorem insI_pw (x : Int) : ∀ ys : List Int, ys.Pairwise (· < ·) → (insI x ys).Pairwise (· < ·)
  | [], _ => by simp [insI]
  | y :: ys, hp => by
    have ⟨h1, h2⟩ := List.pairwise_cons.mp hp
    unfold insI
    split
    · rename_i h
      refine List.pairwise_cons.mpr ⟨fun z hz => ?_, hp⟩
      rcases List.mem_cons.mp hz with rfl | hz
      · exact h
      · have := h1 z hz; omega
    · split
      · exact hp
      · rename_i h h'
        refine List.pairwise_cons.mpr ⟨fun z hz => ?_, insI_pw x ys h2⟩
        rcases (insI_mem x ys z).mp hz with rfl | hz
        · omega
        · exact h1 z hz
theorem setI_mem : ∀ (xs : List Int) (z : Int), z ∈ setI xs ↔ z ∈ xs
  | [], z => by simp [setI]
  | x :: xs, z => by unfold setI; rw [insI_mem, setI_mem xs z]; simp
theorem setI_pw : ∀ xs : List Int, (setI xs).Pairwise (· < ·)
  | [] => .nil
  | x :: xs => insI_pw x _ (setI_pw xs)
theorem pw_unique : ∀ {xs ys : List Int}, xs.Pairwise (· < ·) → ys.Pairwise (· < ·) → (∀ z, z ∈ xs ↔ z ∈ ys) → xs = ys
  | [], [], _, _, _ => rfl
  | [], y :: ys, _, _, h => by have := (h y).mpr (by simp); simp at this
  | x :: xs, [], _, _, h => by have := (h x).mp (by simp); simp at this
  | x :: xs, y :: ys, h1, h2, h => by
    have ⟨a1, a2⟩ := List.pairwise_cons.mp h1
    have ⟨b1, b2⟩ := List.pairwise_cons.mp h2
    have e : x = y := by
      have hx := (h x).mp (by simp)
      have hy := (h y).mpr (by simp)
      rcases List.mem_cons.mp hx with e | hx
      · exact e
      · rcases List.mem_cons.mp hy with e | hy
        · exact e.symm
        · have := a1 y hy; have := b1 x hx; omega
    subst e
    congr 1
    refine pw_unique a2 b2 fun z => ⟨fun hz => ?_, fun hz => ?_⟩
    · rcases List.mem_cons.mp ((h z).mp (by simp [hz])) with e | k
      · have := a1 z hz; omega
      · exact k
    · rcases List.mem_cons.mp ((h z).mpr (by simp [hz])) with e | k
      · have := b1 z hz; omega
      · exact k
def rSetSeq (K : PySem.W.Frag) (w : World) : List V → Hp → VK → Prop := fun xs H Q => ∃ (l : Addr) (ns : List Int), xs = [.ref l] ∧ (SqL K H l (ns.map V.int) ∨ SqT K H l (ns.map V.int)) ∧ ns.length < 64 ∧
  ∀ p c, H p = none → c ≤ ns.length → Q (.ref p) (upd H p (SetO w p (fun j => decide (j ∈ ns)) c))
theorem ints_vals : ∀ {ns : List Int} {us : List Value}, Vals (ns.map V.int) us → IntsAre us ns
  | [], _, .nil => .nil
  | _ :: _, _, .cons ⟨t, e⟩ r => by subst e; exact .cons _ _ (ints_vals r)
theorem cr_setSeq (hc : X.calm = true) : CallR X (.type "set") (rSetSeq X.K X.w) := by
  intro pins s σ H xs us Q I rx ⟨l, ns, exs, hq, hl, q⟩
  subst exs
  cases rx with | cons r1 r2 =>
  cases r2
  cases (show _ = Value.ref l from r1)
  have hb : ns.length + 1 < scanBound := by unfold scanBound; omega
  have done : ∀ (h' : Heap) (tk c : Nat), SetR X.w h' s.heap.objs.size (fun j => decide (j ∈ ns)) c → c ≤ ns.length → (∀ b o, s.heap.get? b = some o → h'.get? b = some o) → EP X pins σ Q (.ref s.heap.objs.size) { s with heap := h', toks := tk } := fun h' tk c hS hc' keep =>
    ⟨.ref s.heap.objs.size, _, I.laid (t' := tk) keep (Nat.le_refl _) (setO_new hS), rfl, q _ c (I.hok.fresh (Nat.le_refl _)) hc'⟩
  rcases hq with hq | hq
  · obtain ⟨its, rv, hp, _⟩ := I.list hq
    exact set_of_listI ns (I.ok.hd hc) hp.isList (by simpa using ints_vals rv) hb done
  · obtain ⟨its, rv, hp, _⟩ := I.tuple hq
    exact call_set_tupI ns (I.ok.hd hc) (show s.heap.IsTuple l its.toArray from hp) (by simpa using ints_vals rv) hb done
def gSortSet : PV → Option (List PV)
  | .lst xs => (intsP xs).bind fun ns => if ns.length < 64 then some ((setI ns).map .int) else none
  | .tup xs => (intsP xs).bind fun ns => if ns.length < 64 then some ((setI ns).map .int) else none
  | _ => none
def eSS (k : Bool) (fa : Fr → M PV) : Fr → M PV := fun ρ => fa ρ >>= fun x => rd x >>= fun y => M.of (gSortSet y) >>= fun zs => nw k (.lst zs)
theorem RunE.rd1 {k : PV → M PV} {w : Wo} {st : Store} {ρ : Fr} {σ : L2.St} {H : Hp} {Q : VK} {x : PV} {v : V} (h : RunE X T W (fun _ => rd x >>= k) w st ρ σ H Q) (r : Rep (Cx.g X T) w H v x) : ∃ y, Vw (Cx.g X T) w H v y ∧ RunE X T W (fun _ => k y) w st ρ σ H Q := by
  cases e : rd x st with
  | ok y s1 =>
    obtain ⟨rfl, h1, h2⟩ := rd_ok e
    have p := h.post
    rw [M.bind_ok e] at p
    exact ⟨y, h.wr.view r h1 h2, h.wr, h.fr, p⟩
  | exc x s1 => exact (rd_noexc e).elim
  | bad => exact (h.no (M.bind_bad e)).elim
theorem pp_sortedSet (k : Bool) {p2 pos2 : Pos} (hc : X.calm = true) (hg : Gl X "sorted") (hm : X.mg "sorted" = none) (hg2 : Gl X "set") (hm2 : X.mg "set" = none) (ha : PP X T W a fa)
    (he : starEach [.Call (.Name "set" p2) [a] [] pos2] X.env = (false, eval (.Call (.Name "set" p2) [a] [] pos2) X.env) :: starEach [] X.env := by rfl) (hpl : (backTo pos (starEach [] X.env)).any (·.1) = false := by rfl)
    (he2 : starEach [a] X.env = (false, eval a X.env) :: starEach [] X.env := by rfl) (hpl2 : (backTo pos2 (starEach [] X.env)).any (·.1) = false := by rfl)
    (hv : bootBuiltins "sorted" = some (.builtin "sorted") := by decide +kernel) (hv2 : bootBuiltins "set" = some (.type "set") := by decide +kernel) : PP X T W (.Call (.Name "sorted" p) [.Call (.Name "set" p2) [a] [] pos2] [] pos) (eSS k fa) := by
  refine ⟨fun pins s σ H Q I ⟨w, st, ρ, h⟩ => (pe_callB (cr_sortedSet hc) hg hm hv (pa_cons (pe_callTy (cr_setSeq hc) hg2 hm2 hv2 (pa_cons ha pa_nil he2) (by decide +kernel) (by decide +kernel) he2 hpl2) pa_nil he) (by decide +kernel) (by decide +kernel) he hpl).run pins s σ H Q I ?_⟩
  refine RunE.eE (k := fun x _ => rd x >>= fun y => M.of (gSortSet y) >>= fun zs => nw k (.lst zs)) h fun w1 st1 x v H1 l r h1 => ?_
  obtain ⟨y, vw, h2⟩ := h1.rd1 r
  obtain ⟨zs, e, h3⟩ := h2.of
  have core : ∀ (b : Addr) (vs : List V) (xs : List PV), v = .ref b → (SqL X.K H1 b vs ∨ SqT X.K H1 b vs) → RepL (Cx.g X T) w1 H1 vs xs → ((intsP xs).bind fun ns => if ns.length < 64 then some ((setI ns).map PV.int) else none) = some zs →
      rSetSeq X.K X.w [v] H1 fun u H2 => rSortedSet X.w [u] H2 Q := fun b vs xs ev hq rl e => by
    cases q1 : intsP xs with
    | none => rw [q1] at e; cases e
    | some ns =>
      rw [q1] at e
      have e' : (if ns.length < 64 then some ((setI ns).map PV.int) else none) = some zs := e
      split at e'
      · rename_i hl
        cases e'
        have q2 := ints_ok q1
        subst q2
        have q3 := rl.intsV
        subst q3
        refine ⟨b, ns, by rw [ev], hq, hl, fun q c hq' hc' => ⟨q, _, c, rfl, upd_same, by omega, fun ns' p' hp' hm' hl' hn' => ?_⟩⟩
        have es : ns' = setI ns := pw_unique hp' (setI_pw ns) fun z => by rw [hm' z, setI_mem]; simp
        subst es
        -- the set stands between
        have sm : Same H1 (upd H1 q (SetO X.w q (fun j => decide (j ∈ ns)) c)) := same_new hq'
        have h4 : RunE X T W (fun _ => nw k (.lst ((setI ns).map .int))) w1 st1 ρ σ (upd H1 q (SetO X.w q (fun j => decide (j ∈ ns)) c)) Q := ⟨h3.wr.same sm, h3.fr.mono (Le.same sm), h3.post.mono (Le.same sm)⟩
        exact h4.mkL (.ints _) hn'
      · cases e'
  unfold gSortSet at e
  split at e
  · cases vw with | @lst b vs _ s r => exact core b vs _ rfl (.inl (.inl (.inl s))) r e
  · cases vw with | @tup b vs _ s r => exact core b vs _ rfl (.inr s.sq) r e
  · cases e
end
end Eg

/-! E15: repr of data, join, small dict displays. -/
namespace Eg
open PySem PySem.Spec PyProof.Rows L2
section
variable {X : Cx} {T : Tabs} {W : WX} {a b c e : Expr} {es : List Expr} {fa fb fc : Fr → M PV} {fr : Fr → M (List PV)} {pos p : Pos}
/-! ### repr -/
def okS (x : List Nat) : Bool := x.all (fun c => decide (c < 1114112))
def isSeqP : PV → Bool
  | .tup _ => true
  | .lst _ => true
  | _ => false
def gRepr : List PV → Option PV
  | [x] => if isSeqP x && (isD x && ((toD x).showable && (decide (pdep x ≤ 60) && (decide ((toD x).shown.length ≤ sizeLine) && okS (toD x).shown.cps.toList)))) then some (.str (toD x).shown.cps.toList) else none
  | _ => none
theorem cr_repr (hu : X.A.units + 64 < cLine) (hgd : X.A.guards = some []) : CallR X (.builtin "repr") (fun xs H Q => ∃ (l : Addr) (d : PyData), xs = [.ref l] ∧ Dp X.K H (.ref l) d ∧ d.showable = true ∧ d.canLay0 = true ∧ d.depth ≤ 60 ∧ d.shown.length ≤ sizeLine ∧ Q (.str d.shown) H) := by
  intro pins s σ H xs us Q I rx ⟨l, d, exs, hd, h1, h2, h3, h4, q⟩
  subst exs
  cases rx with | cons r1 r2 =>
  cases r2
  obtain ⟨as, rd⟩ := Dp.reads I d _ _ hd r1
  cases (show _ = Value.ref l from r1)
  refine repr_of_reads' rd h1 (fun z => by rw [PyData.hasDict_of_canLay d h2] at z; cases z) hgd (by omega) (fun _ _ z => z) (fun h' u tk k => ⟨.str d.shown, H, I.kept k, ⟨u, rfl⟩, q⟩) h4
theorem c1_repr : Call1 X T (fun xs H Q => ∃ (l : Addr) (d : PyData), xs = [.ref l] ∧ Dp X.K H (.ref l) d ∧ d.showable = true ∧ d.canLay0 = true ∧ d.depth ≤ 60 ∧ d.shown.length ≤ sizeLine ∧ Q (.str d.shown) H) gRepr := by
  intro w st H vs xs z Q wr vw e af
  unfold gRepr at e
  split at e
  · rename_i x
    split at e
    · rename_i hx
      simp only [Bool.and_eq_true, decide_eq_true_eq] at hx
      obtain ⟨h0, h1, h2, h3, h4, h5⟩ := hx
      cases e
      obtain ⟨v, rfl, vv⟩ := VwL1 vw
      have hl : ∃ l, v = .ref l := by cases vv <;> first | (cases h0; done) | exact ⟨_, rfl⟩
      obtain ⟨l, rfl⟩ := hl
      refine ⟨l, toD x, rfl, vv.dp h1, h2, vv.lay h1, by rw [depth_toD]; exact h3, h4, ?_⟩
      have hs := s2_of (toD x).shown
      rw [hs]
      exact af.here wr (.str _ h5)
    · cases e
  · cases e
theorem pp_repr (hu : X.A.units + 64 < cLine) (hgd : X.A.guards = some []) (hg : Gl X "repr") (hm : X.mg "repr" = none) (ha : PPA X T W (e :: es) fr)
    (he : starEach (e :: es) X.env = (false, eval e X.env) :: starEach es X.env := by rfl) (hpl : (backTo pos (starEach es X.env)).any (·.1) = false := by rfl) (hv : bootBuiltins "repr" = some (.builtin "repr") := by decide +kernel) : PP X T W (.Call (.Name "repr" p) (e :: es) [] pos) (eB gRepr fr) :=
  pp_callB (cr_repr hu hgd) c1_repr hg hm hv ha (by decide +kernel) (by decide +kernel) he hpl
/-! ### join -/
def strsP : List PV → Option (List (List Nat))
  | [] => some []
  | .str x :: xs => (strsP xs).map (x :: ·)
  | _ => none
theorem strsP_ok {G : Cfg} {w : Wo} {H : Hp} : ∀ {xs : List PV} {ys : List (List Nat)} {vs : List V}, strsP xs = some ys → RepL G w H vs xs → vs = (ys.map s2).map V.str ∧ ∀ y ∈ ys, okS y = true
  | [], _, _, h, .nil => by cases h; exact ⟨rfl, by simp⟩
  | x :: xs, ys, _, h, .cons r rs => by
    cases x with
    | str y =>
      simp only [strsP] at h
      cases q : strsP xs with
      | none => rw [q] at h; cases h
      | some zs =>
        rw [q] at h; cases h
        obtain ⟨e1, e2⟩ := strsP_ok q rs
        cases r with | str _ k => exact ⟨by rw [e1]; rfl, by simpa using ⟨k, e2⟩⟩
    | _ => cases h
/-- the texts one behind another -/
def gJoin0 : PV → PV → Option PV
  | .str [], .lst xs => (strsP xs).bind fun ys => if (ys.map (·.length)).sum ≤ 16777216 then some (.str ys.flatten) else none
  | _, _ => none
theorem join_flat : ∀ ys : List (List Nat), TL.joinL [] ys = ys.flatten
  | [] => rfl
  | [p] => by simp [TL.joinL]
  | p :: q :: r => by rw [TL.joinL, join_flat (q :: r)]; simp
theorem pp_join0 {o : Expr} {apos : Pos} (ho : PP X T W o fa) (he : PP X T W e fb) (hs : starEach [e] X.env = [(false, eval e X.env)] := by rfl) (hbase : attributeBase o "join" X.env (eval o X.env) = eval o X.env := by rfl) (hline : (apos.endLine == pos.line) = true := by rfl) :
    PP X T W (.Call (.Attribute o "join" apos) [e] [] pos) (fun ρ => fa ρ >>= fun x => (M.of (match x with | .str [] => some () | _ => none)) >>= fun _ => fb ρ >>= fun y => g2 gJoin0 x y) := by
  refine ⟨fun pins s σ H Q I ⟨w, st, ρ, h⟩ => (pe_join ho he hs hbase hline).run pins s σ H Q I ?_⟩
  refine RunE.eE (k := fun x ρ => (M.of (match x with | .str [] => some () | _ => none)) >>= fun _ => fb ρ >>= fun y => g2 gJoin0 x y) h fun w1 st1 x v H1 l1 rx h1 => ?_
  have hx : x = .str [] := by
    have p := h1.post
    revert p
    cases x with
    | str y => cases y with
      | nil => intro _; rfl
      | cons _ _ => intro p; exact p.elim
    | _ => intro p; exact p.elim
  subst hx
  cases rx
  refine ⟨⟨_, rfl⟩, ?_⟩
  have h2 : RunE X T W (fun ρ => fb ρ >>= fun y => g2 gJoin0 (.str []) y) w1 st1 ρ σ H1 Q := ⟨h1.wr, h1.fr, h1.post⟩
  refine RunE.eE (k := fun y _ => g2 gJoin0 (.str []) y) h2 fun w2 st2 y u H2 l2 ry h3 => ?_
  rcases g2_ok (g := gJoin0) (x := .str []) (y := y) (st := st2) with ⟨z, x', y', q1, q2, q3, q4, q5, q6⟩ | q
  · cases q1
    have vw := h3.wr.view ry q3 q4
    cases vw with
    | @lst b vs xs hl rl =>
      simp only [gJoin0] at q5
      cases q7 : strsP xs with
      | none => rw [q7] at q5; cases q5
      | some ys =>
        rw [q7] at q5
        have q5' : (if (ys.map (·.length)).sum ≤ 16777216 then some (PV.str ys.flatten) else none) = some z := q5
        split at q5'
        · rename_i hsum
          cases q5'
          obtain ⟨e1, e2⟩ := strsP_ok q7 rl
          subst e1
          refine ⟨s2 [], b, ys.map s2, rfl, rfl, .inl (.inl (.inl hl)), ?_, ?_⟩
          · have e3 : ((ys.map s2).map (·.length)) = ys.map (·.length) := by rw [List.map_map]; rfl
            rw [e3]
            have : (s2 []).length = 0 := rfl
            rw [this]; omega
          · have e4 : Txt.join (s2 []) (ys.map s2) = s2 ys.flatten := by
              have h5 := TL.tl_join (s2 []) (ys.map s2)
              rw [← TL.join_eq] at h5
              have e6 : (ys.map s2).map TL.tl = ys := by
                rw [List.map_map]
                conv => rhs; rw [← List.map_id ys]
                exact List.map_congr_left fun y _ => by simp [TL.tl, s2]
              rw [e6] at h5
              have e7 : TL.tl (s2 []) = [] := rfl
              rw [e7, join_flat] at h5
              have e8 := s2_of (Txt.join (s2 []) (ys.map s2))
              rw [e8]
              exact congrArg s2 h5
            rw [e4]
            refine h3.ret q6 (Le.refl _ _) h3.wr (.str _ ?_)
            rw [List.all_eq_true]
            intro c hc
            obtain ⟨y, hy, hyc⟩ := List.mem_flatten.mp hc
            exact List.all_eq_true.mp (e2 y hy) c hyc
        · cases q5'
    | _ => cases q5
  · exact (h3.no q).elim
/-! ### {} and {k: v} -/
theorem dctO_new {w : World} {P : Program} {H : Hp} {h : Heap} {a : Addr} {es : List DictEntry} (z : (a == sysModules) = false) (hl : es.length ≤ sizeLine) {o : Obj} {ep : Nat} (ho : h.get? a = some o) (hx : o.ExactDict) (hd : o.data = .dict es.toArray ep) : ObjOk P w H h a (DctO a es) :=
  ⟨⟨z, hl, o, ep, ho, hx, hd⟩, ⟨o, ho⟩, fun h1 h2 ⟨z', hl', o', ep', g1, g2, g3⟩ k => ⟨z', hl', o', ep', k _ g1, g2, g3⟩⟩
theorem Rep.newD {G : Cfg} {w : Wo} {st : Store} {H : Hp} {p : Addr} {es : List DictEntry} {kvs : List (PV × PV)} (wr : Wr G w st H) (hp : H p = none) (r : RepD G w H es kvs) (hd : dnd kvs = true) : Rep G w (upd H p (DctO p es)) (.ref p) (.dct kvs) :=
  .dct (wr.fresh hp) (.inl upd_same) (r.mono (Le.same (same_new hp))) hd
theorem pp_dict0 : PP X T W (.Dict [] [] pos) (eC (.dct [])) := by
  refine ⟨fun pins s σ H Q I ⟨w, st, ρ, h⟩ => ?_⟩
  refine wpAny_Dict_empty ⟨.ref s.heap.objs.size, _, I.laid (a := s.heap.objs.size) (o := DctO s.heap.objs.size []) (t' := s.toks) (fun _ _ q => Heap.get?_push_of_some _ q) (Nat.le_refl _) ?_, rfl, ?_⟩
  · exact dctO_new (beq_eq_false_iff_ne.mpr (Ne.symm (Nat.ne_of_lt I.big))) (Nat.zero_le _) (Heap.get?_push_size _ rfl) ⟨rfl, rfl, rfl⟩ rfl
  · have hp := I.hok.fresh (Nat.le_refl s.heap.objs.size)
    exact h.ret rfl (Le.same (same_new hp)) (h.wr.same (same_new hp)) (Rep.newD h.wr hp .nil rfl)
/-- a key that stands by itself -/
def keyP : Key → PV
  | .inl i => .int i
  | .inr x => .str x.cps.toList
theorem pe_dict1 {k : Key} {v : V} {ke ve : Expr} (hk : PE X ke (tC (kV k))) (hv : PE X ve (tC v)) : PE X (.Dict [some ke] [ve] pos) (fun σ H Q => ∀ (p : Addr) (e : DictEntry), H p = none → RelV (kV k) e.key → e.hash = keyH X.w k → RelV v e.val → Q (.ref p) (upd H p (DctO p [e]))) := by
  refine ⟨fun pins s σ H Q I q => ?_⟩
  have hn := I.hok.fresh (Nat.le_refl s.heap.objs.size)
  have hz : (s.heap.objs.size == sysModules) = false := beq_eq_false_iff_ne.mpr (Ne.symm (Nat.ne_of_lt I.big))
  have I1 := I.laid (a := s.heap.objs.size) (o := .dK []) (h' := s.heap.push { cls := .type "dict", data := .dict #[] }) (t' := s.toks) (fun _ _ q => Heap.get?_push_of_some _ q) (Nat.le_refl _) (dk_empty s.heap I.big)
  refine wpAny_Dict_walk (knd := mixKind X.prog X.w) rfl rfl (by simp) (by simp) (thn ((L2.pps_cons hk hv L2.pps_nil).run pins _ σ _ (fun ps H2 => ps = [(kV k, v)] ∧ H2 = upd H s.heap.objs.size (.dK [])) I1 ⟨rfl, rfl⟩) fun ws s2 ⟨ps, H2, I2, rel, e1, e2⟩ => ?_)
  subst e1 e2
  obtain ⟨rs, c, rk⟩ := carries_of (P := X.prog) (w := X.w) (kvs := [(k, v)]) rel
  obtain ⟨z, hd, vs0, r0, dd⟩ := dk_of I2.hok upd_same
  cases r0
  refine ⟨rs, c, dd, fun h' dd' hs => ?_⟩
  cases rk with | @cons _ q0 _ _ hq rt =>
  cases rt
  obtain ⟨k', v'⟩ := q0
  obtain ⟨hq1, hq2⟩ := hq
  dsimp only at hq1 hq2
  subst hq1
  obtain ⟨o, es, ep, g1, g2, g3, g4, g5, g6⟩ := dd'
  have g5' : Pairs (mixKind X.prog X.w) es.toList [(k, v')] := g5
  cases hes : es.toList with
  | nil => rw [hes] at g5'; cases g5'
  | cons e1 rest =>
    rw [hes] at g5'
    cases g5' with | cons p1 p2 p3 =>
    cases p3
    have ees : es = [e1].toArray := by rw [← hes]
    have hmem : e1 ∈ es := by rw [ees]; simp
    obtain ⟨k2, m1, m2⟩ := g4 e1 hmem
    have ek : k2 = k := (mixKind X.prog X.w).inj _ _ _ m1 p1
    subst ek
    have hkey : RelV (kV k2) e1.key := by
      rcases keyIs_shape p1 with ⟨i, t, q1, q2⟩ | ⟨i, t, q1, q2⟩
      · cases q1; exact ⟨t, q2⟩
      · cases q1; exact ⟨t, q2⟩
    have hq := q s.heap.objs.size e1 hn hkey m2 (by rw [p2]; exact hq2)
    have eu : upd (upd H s.heap.objs.size (.dK [])) s.heap.objs.size (DctO s.heap.objs.size [e1]) = upd H s.heap.objs.size (DctO s.heap.objs.size [e1]) := by
      funext b
      unfold upd
      by_cases hb : b = s.heap.objs.size <;> simp [hb]
    refine ⟨.ref s.heap.objs.size, _, ?_, rfl, hq⟩
    rw [← eu]
    exact d_write I2 (by rw [upd_same]; exact True.intro) hs ⟨o, g1⟩ (dctO_new hz (by rw [sizeLine_eq]; simp) g1 g2 (by rw [g3, ees]))
theorem pp_dict1I {i : Int} {x : PV} {v : V} {ve : Expr} {j : Nat} {pos' : Pos} (hv : PE X ve (tC v)) (r : ∀ w H, Rep (Cx.g X T) w H v x) : PP X T W (.Dict [some (.Constant (.int i) j pos')] [ve] pos) (eC (.dct [(.int i, x)])) := by
  refine ⟨fun pins s σ H Q I ⟨w, st, ρ, h⟩ => (pe_dict1 (k := .inl i) pe_int hv).run pins s σ H Q I fun p e hp h1 h2 h3 => ?_⟩
  exact h.ret rfl (Le.same (same_new hp)) (h.wr.same (same_new hp)) (Rep.newD h.wr hp (.cons h1 (.int i) h2 h3 (r w H) .nil) rfl)
theorem pp_dict1S {y : Str} {z : List Nat} {x : PV} {v : V} {ve : Expr} {j : Nat} {pos' : Pos} (ey : y = s2 z) (hz : okS z = true) (hv : PE X ve (tC v)) (r : ∀ w H, Rep (Cx.g X T) w H v x) : PP X T W (.Dict [some (.Constant (.str y) j pos')] [ve] pos) (eC (.dct [(.str z, x)])) := by
  subst ey
  refine ⟨fun pins s σ H Q I ⟨w, st, ρ, h⟩ => (pe_dict1 (k := .inr (s2 z)) pe_str hv).run pins s σ H Q I fun p e hp h1 h2 h3 => ?_⟩
  exact h.ret rfl (Le.same (same_new hp)) (h.wr.same (same_new hp)) (Rep.newD h.wr hp (.cons h1 (.str z hz) h2 h3 (r w H) .nil) rfl)
end
end Eg

/-! E16: the end: from the promise of the law's def to the walk that the head wants. -/
namespace Eg
open PySem PySem.Spec PyProof.Rows L2
section
variable {P : Program} {w : World} {K : PySem.W.Frag} {mg mb : Str → Option Value}
/-- the shape of what the caller wants -/
def EndQ (s1 : Shared) : Except Value Flow → Shared → Prop := fun r s' => r = .ok (.ret (.bool true)) ∧ OldK s1.heap s'.heap ∧ s'.os = s1.os ∧ AllBare s'.gens
theorem sq_fz {H : Hp} {a : Addr} {vs : List V} (h : SqL K H a vs) : FzL K ⟨fun _ => False, fun _ => none⟩ H a vs := by
  rcases h with h | h
  · exact .inl ⟨fun z => z, h⟩
  · exact .inr h
theorem wr0 {G : Cfg} {H : Hp} : Wr G ⟨fun _ => False, fun _ => none⟩ Store.empty H where
  cell l c e := by
    have : Store.empty.get l = none := rfl
    rw [this] at e; cases e
  inj l l' a e := by cases e
  trk a d := d.elim
  ran l a e := by cases e
theorem sp_start {T : Tabs} {F : Fn} {st' : Store} {H : Hp} {a : Addr} {ns : List Int} (hs : SqL K H a (ns.map V.int)) (e : F [.scr ns] Store.empty = .ok (.bl true) st') : spF ⟨K, P, w, T⟩ 1 F [.ref a] H (fun v _ => v = .bl true) (fun _ _ _ => False) := by
  refine ⟨⟨fun _ => False, fun _ => none⟩, Store.empty, [.scr ns], rfl, wr0, .cons (.scr (sq_fz hs)) .nil, ?_⟩
  rw [e]
  intro w' v H' _ _ r
  cases r
  rfl
theorem end_one {k : Nat} {f a : Addr} {fd : FuncData} {x : Str} {sp : Sp} {s1 : Shared} {us : List Value} {ns : List Int} {H : Hp} (kin : K.In s1.heap) (gN : s1.heap.Ns mainGlobals mg) (bN : s1.heap.Ns builtinsNs mb) (bB : ∀ y : Str, y ≠ "__name__" → mb y = bootBuiltins y)
    (lim : s1.heap.NoLimit) (g0 : s1.gens = #[]) (ob : s1.heap.get? a = some { cls := .type "list", data := .seq us.toArray }) (room : Room k callerA) (F : ∀ base : Heap, K.In base → base.Ns mainGlobals mg → FnG P w K mg base k f fd [x] sp)
    (bnd : ∀ (s : Shared) (u : Value), BindsTo s fd ⟨[u], []⟩ [(x, u)]) (only : L2.Only H) (hok : HOk P w H s1.heap) (alone : ∀ b, H b ≠ none → b = a) (kno : H a ≠ none → K.lookup a = none)
    (h : sp [.ref a] H (fun v _ => v = .bl true) (fun _ _ _ => False)) : codeAny (model P w) callerA (.call (.ref f) ⟨[.ref a], []⟩) (EndQ s1) s1 := by
  have isNone : ∀ {b : Addr} {o : Obj} {es : Array DictEntry} {ep : Nat}, s1.heap.get? b = some o → o.data = .dict es ep → H b = none := by
    intro b o es ep e d
    refine Classical.byContradiction fun z => ?_
    have eb := alone b z
    subst eb
    rw [ob] at e
    cases e
    cases d
  have ns1 : ∀ {b : Addr} {m : Str → Option Value}, s1.heap.Ns b m → (hidT s1.heap H).Ns b m := by
    rintro b m ⟨o, es, ep, e, d, r⟩
    exact ⟨o, es, ep, hidT_get e (isNone e d), d, r⟩
  have kin1 : K.In (hidT s1.heap H) := by
    intro b o e
    refine hidT_get (kin b o e) (Classical.byContradiction fun z => ?_)
    have eb := alone b z
    subst eb
    rw [kno z] at e
    cases e
  obtain ⟨mc, l1, l2⟩ := lim
  have md : Mod K mg (hidT s1.heap H) := ⟨kin1, ns1 gN, ⟨mb, ns1 bN, bB⟩, ⟨mc, ns1 l1, l2⟩⟩
  have env : Env0 P w K mg (hidT s1.heap H) callerA [] s1 H := by
    refine ⟨rfl, md, fun b o e => of_hidT e, Nat.le_of_eq (hidT_size _ _), trivial, fun b hb => ?_, hok, .of_eq g0⟩
    exact absurd (show b ∈ ([] : List Addr) from hb) (by simp)
  have run := (F _ kin1 (ns1 gN)).run callerA [] s1 H ⟨[.ref a], []⟩ [.ref a] [.ref a] _ _ room rfl env (bnd s1 (.ref a)) (.cons rfl .nil) h
  refine codeAny_mono run fun r s' q => ?_
  cases r with
  | error e =>
    exact (False.elim (by
      revert q
      unfold CR L2.CX
      simp))
  | ok fl =>
    cases fl with
    | ret u =>
      obtain ⟨v, H', os, bare, un, hok', r', qv⟩ := q
      cases (show v = .bl true from qv)
      cases (show u = Value.bool true from r')
      refine ⟨rfl, OldK.of_keep fun b o e => ?_, os, bare⟩
      cases hb : H b with
      | none => exact un.keep b o e hb (by intro z; exact absurd (show b ∈ ([] : List Addr) from z) (by simp)) (by simp)
      | some t =>
        rcases only b with z | ⟨o2, xs, z⟩
        · rw [hb] at z; cases z
        · have e1 := (hok b _ z).1
          have e2 := (hok' b _ (un.frzs b o2 _ z)).1
          rw [e] at e1
          cases e1
          exact e2
    | next => exact q.elim
    | brk => exact q.elim
    | cont => exact q.elim
theorem end_call {k : Nat} {f a : Addr} {fd : FuncData} {x : Str} {sp : Sp} {s1 : Shared} {us : List Value} {ns : List Int} (kin : K.In s1.heap) (gN : s1.heap.Ns mainGlobals mg) (bN : s1.heap.Ns builtinsNs mb) (bB : ∀ y : Str, y ≠ "__name__" → mb y = bootBuiltins y)
    (lim : s1.heap.NoLimit) (g0 : s1.gens = #[]) (ob : s1.heap.get? a = some { cls := .type "list", data := .seq us.toArray }) (hi : IntsAre us ns) (hl : ns.length ≤ sizeLine) (room : Room k callerA) (F : ∀ base : Heap, K.In base → base.Ns mainGlobals mg → FnG P w K mg base k f fd [x] sp)
    (bnd : ∀ (s : Shared) (u : Value), BindsTo s fd ⟨[u], []⟩ [(x, u)]) (h : ∀ H : Hp, SqL K H a (ns.map V.int) → sp [.ref a] H (fun v _ => v = .bl true) (fun _ _ _ => False)) : codeAny (model P w) callerA (.call (.ref f) ⟨[.ref a], []⟩) (EndQ s1) s1 := by
  have rv := vals_ints hi
  have lv := hi.length
  cases hk : K.lookup a with
  | some o =>
    have e := kin a o hk
    rw [ob] at e
    cases e
    have sq : SqL K (fun _ => none) a (ns.map V.int) := .inr ⟨_, us.toArray, _, hk, rfl, rfl, rfl, by rw [List.size_toArray, lv]; exact hl, by simpa using rv⟩
    exact end_one (H := fun _ => none) (ns := ns) kin gN bN bB lim g0 ob room F bnd (fun _ => .inl rfl) (fun b u z => nomatch z) (fun b z => absurd rfl z) (fun z => absurd rfl z) (h _ sq)
  | none =>
    let H0 : Hp := fun b => if b = a then some (.frz { cls := .type "list", data := .seq us.toArray } (.lst (ns.map V.int))) else none
    have ha : H0 a = some (.frz { cls := .type "list", data := .seq us.toArray } (.lst (ns.map V.int))) := if_pos rfl
    have hne : ∀ b, b ≠ a → H0 b = none := fun b hb => if_neg hb
    refine end_one (H := H0) (ns := ns) kin gN bN bB lim g0 ob room F bnd (fun b => ?_) (fun b u z => ?_) (fun b z => ?_) (fun _ => hk) (h _ (.inl (.inr ⟨_, ha⟩)))
    · by_cases hb : b = a
      · subst hb; exact .inr ⟨_, _, ha⟩
      · exact .inl (hne b hb)
    · by_cases hb : b = a
      · subst hb
        rw [ha] at z
        cases z
        exact ⟨ob, by rw [List.length_map]; exact hl, us, _, rv, ob⟩
      · rw [hne b hb] at z; cases z
    · exact Classical.byContradiction fun hb => z (hne b hb)
end
theorem walk_end {l : PySem.W.OpenLaw} {n k : Nat} {q : Program} {loose : List Str} {XP : (Str → Option Value) → Heap → Prop} {YP : World → Heap → Prop} {d : DefRec} {x : Str} {T : Tabs} {F : Fn}
    (hn : l.most = some n) (hn2 : n ≤ sizeLine) (hdf : d.params.defaults = []) (hr : Room k callerA)
    (hF : ∀ ns : List Int, ns.length ≤ n → ∃ st', F [.scr ns] Store.empty = .ok (.bl true) st')
    (prom : ∀ (w : World) (mg : Str → Option Value) (fa : Addr) (h : Heap), YP w h → h.Ns mainGlobals mg → mg d.name = some (.ref fa) →
      ∃ (K : PySem.W.Frag) (fd : FuncData), K.In h ∧ (∀ (s : Shared) (u : Value), BindsTo s fd ⟨[u], []⟩ [(x, u)]) ∧ ∀ base : Heap, K.In base → base.Ns mainGlobals mg → FnG l.prog w K mg base k fa fd [x] (spF ⟨K, l.prog, w, T⟩ 1 F)) :
    PySem.W.WalkO q loose XP YP l.row.toRowW d [] (fun f vs => PySem.call f vs) := by
  refine Att.attach_call hn hdf fun w s0 s1 mg mb fa o pm cd doc a us ns G Y ho hd hcd hmg hob hin hle hgen => ?_
  obtain ⟨K, fd, kin, bnd, f⟩ := prom w mg fa _ Y G.T.g hmg
  obtain ⟨st', e⟩ := hF ns hle
  exact end_call kin G.T.g G.T.b G.T.builtins G.T.nolimit hgen hob hin (Nat.le_trans hle hn2) hr f bnd fun H sq => sp_start sq e
end Eg

/-! E17: short forms for the printed proofs. -/
namespace Eg
open PySem PySem.Spec PyProof.Rows L2
def visB (sc : Scope) (x : Str) : Bool := match sc.names.lookup x with
  | some .local => true
  | some .cell => true
  | some .free => true
  | _ => false
theorem vis_of {sc : Scope} {x : Str} (h : visB sc x = true) : Vis sc x := by
  unfold visB at h
  split at h
  · rename_i e; exact .inl e
  · rename_i e; exact .inr (.inl e)
  · rename_i e; exact .inr (.inr e)
  · cases h
def locB (sc : Scope) (x : Str) : Bool := match sc.names.lookup x with
  | some .local => true
  | some .cell => true
  | _ => false
theorem loc_of {sc : Scope} {x : Str} (h : locB sc x = true) : Loc sc x := by
  unfold locB at h
  split at h
  · rename_i e; exact .inl e
  · rename_i e; exact .inr e
  · cases h
def glB (sc : Scope) (x : Str) : Bool := match sc.names.lookup x with
  | some .globalImplicit => true
  | _ => false
def eqS (o : Option Str) (x : Str) : Bool := match o with
  | some y => y == x
  | none => false
theorem eqS_ok {o : Option Str} {x : Str} (h : eqS o x = true) : o = some x := by
  unfold eqS at h
  split at h
  · rw [eq_of_beq h]
  · cases h
def isLoc : Option NameKind → Bool
  | some .local => true
  | _ => false
theorem isLoc_ok {o : Option NameKind} (h : isLoc o = true) : o = some .local := by
  unfold isLoc at h
  split at h
  · rfl
  · cases h
/-- a name that is read -/
def okV (N : List Str) (sc : Scope) (i : Nat) (x : Str) : Bool := eqS N[i]? x && (visB sc x && (!(x == ("__debug__" : Str)) && !(x == ("__classdict__" : Str))))
/-- a name that is written -/
def okW (N : List Str) (sc : Scope) (fn : Str → Bool) (i : Nat) (x : Str) : Bool := eqS N[i]? x && (locB sc x && (fn x || isLoc (sc.names.lookup x)))
section
variable {X : Cx} {T : Tabs} {W : WX} {a b c e : Expr} {es : List Expr} {fa fb fc : Fr → M PV} {fr : Fr → M (List PV)} {pos p : Pos}
theorem pv (i : Nat) {x : Str} (h : okV X.N X.env.scope i x = true := by kernel_rfl) : PP X T W (.Name x pos) (eVar i) := by
  unfold okV at h
  simp only [Bool.and_eq_true, Bool.not_eq_true'] at h
  exact pp_var i (eqS_ok h.1) (vis_of h.2.1) h.2.2.1 h.2.2.2
theorem pgn (i : Nat) {x : Str} (hN : X.N.Nodup) (h : okW X.N X.env.scope X.fn i x = true := by kernel_rfl) : PPG X T (.Name x pos) [i] (gN i) := by
  unfold okW at h
  simp only [Bool.and_eq_true, Bool.or_eq_true] at h
  exact ppg_name hN (eqS_ok h.1) (loc_of h.2.1) (h.2.2.imp id isLoc_ok)
theorem pst (i : Nat) {x : Str} {pos' : Pos} (hN : X.N.Nodup) (he : PP X T W e fa) (h : okW X.N X.env.scope X.fn i x = true := by kernel_rfl) (hs : swapsWith e (some (.Name x pos')) pos.line X.env = pure false := by rfl) : PPS X T W (.Assign [.Name x pos'] e pos) (sAsg fa (gN i)) := by
  unfold okW at h
  simp only [Bool.and_eq_true, Bool.or_eq_true] at h
  exact pps_set hN (eqS_ok h.1) (loc_of h.2.1) he (h.2.2.imp id isLoc_ok) hs
theorem ppar (i j : Nat) {x y : Str} {ta : Fr → M (List PV)} {px py pt : Pos} {kt k2 : Nat} {pt2 : Pos} (hc : X.calm = true) (hN : X.N.Nodup) (ha : PPA X T W [a, b] ta)
    (h : (eqS X.N[i]? x && (eqS X.N[j]? y && (!(i == j) && (isLoc (X.env.scope.names.lookup x) && isLoc (X.env.scope.names.lookup y))))) = true := by kernel_rfl)
    (hw : swappedStores [.Tuple [.Name x px, .Name y py] kt pt] (.Tuple [a, b] k2 pt2) X.env = pure (some [x, y]) := by rfl)
    (hs : swapsWithSole [.Tuple [.Name x px, .Name y py] kt pt] (.Tuple [a, b] k2 pt2) pos.line X.env = pure false := by rfl) :
    PPS X T W (.Assign [.Tuple [.Name x px, .Name y py] kt pt] (.Tuple [a, b] k2 pt2) pos) (sPar i j ta) := by
  simp only [Bool.and_eq_true, Bool.not_eq_true', beq_eq_false_iff_ne] at h
  exact pps_par hc hN (eqS_ok h.1) (eqS_ok h.2.1) h.2.2.1 (isLoc_ok h.2.2.2.1) (isLoc_ok h.2.2.2.2) ha hw hs
def okG (sc : Scope) (x : Str) : Bool := glB sc x && !(x == ("__debug__" : Str))
theorem gl_of {x : Str} (h : glB X.env.scope x = true) : Gl X x := by
  unfold glB at h
  show X.env.scope.names.lookup x = some .globalImplicit
  split at h
  · rename_i e; exact e
  · cases h
theorem gl {x : Str} (h : glB X.env.scope x = true := by kernel_rfl) : Gl X x := gl_of h
theorem pgI {x : Str} {i : Int} (hm : ∃ t, X.mg x = some (.int i t)) (h : okG X.env.scope x = true := by kernel_rfl) : PP X T W (.Name x pos) (eC (.int i)) := by
  unfold okG at h
  simp only [Bool.and_eq_true, Bool.not_eq_true'] at h
  exact pp_gInt (gl_of h.1) hm h.2
theorem psS {x : Str} (y : List Nat) {j : Nat} (h : (x.cps.toList == y && okS y) = true := by kernel_rfl) : PP X T W (.Constant (.str x) j pos) (eC (.str y)) := by
  simp only [Bool.and_eq_true] at h
  refine pp_str ?_ h.2
  rw [← eq_of_beq h.1]
/-! comparisons -/
variable (hu : X.A.units + 64 < cLine) (ha : PP X T W a fa) (hb : PP X T W b fb) (hc : PP X T W c fc)
include hu ha hb
theorem c_eq : PP X T W (.Compare a [.Eq] [b] pos) (e2 gEq fa fb) := pp_cmp (op_eqP hu) o2_eq ha hb (nobehind _ (by decide) (by decide))
theorem c_ne : PP X T W (.Compare a [.NotEq] [b] pos) (e2 gNe fa fb) := pp_cmp (op_neP hu) o2_ne ha hb (nobehind _ (by decide) (by decide))
theorem c_lt : PP X T W (.Compare a [.Lt] [b] pos) (e2 gLt fa fb) := pp_cmp (op_ltP hu) o2_lt ha hb (nobehind _ (by decide) (by decide))
theorem c_gt : PP X T W (.Compare a [.Gt] [b] pos) (e2 gGt fa fb) := pp_cmp (op_gtP hu) o2_gt ha hb (nobehind _ (by decide) (by decide))
theorem c_le : PP X T W (.Compare a [.LtE] [b] pos) (e2 gLe fa fb) := pp_cmp (op_leP hu) o2_le ha hb (nobehind _ (by decide) (by decide))
theorem c_ge : PP X T W (.Compare a [.GtE] [b] pos) (e2 gGe fa fb) := pp_cmp (op_geP hu) o2_ge ha hb (nobehind _ (by decide) (by decide))
theorem t_eq : PPT X T W (.Compare a [.Eq] [b] pos) (eT (e2 gEq fa fb)) := ppt_cmp (op_eqP hu) o2_eq ha hb (nobehind _ (by decide) (by decide))
theorem t_ne : PPT X T W (.Compare a [.NotEq] [b] pos) (eT (e2 gNe fa fb)) := ppt_cmp (op_neP hu) o2_ne ha hb (nobehind _ (by decide) (by decide))
theorem t_lt : PPT X T W (.Compare a [.Lt] [b] pos) (eT (e2 gLt fa fb)) := ppt_cmp (op_ltP hu) o2_lt ha hb (nobehind _ (by decide) (by decide))
theorem t_gt : PPT X T W (.Compare a [.Gt] [b] pos) (eT (e2 gGt fa fb)) := ppt_cmp (op_gtP hu) o2_gt ha hb (nobehind _ (by decide) (by decide))
theorem t_le : PPT X T W (.Compare a [.LtE] [b] pos) (eT (e2 gLe fa fb)) := ppt_cmp (op_leP hu) o2_le ha hb (nobehind _ (by decide) (by decide))
theorem t_ge : PPT X T W (.Compare a [.GtE] [b] pos) (eT (e2 gGe fa fb)) := ppt_cmp (op_geP hu) o2_ge ha hb (nobehind _ (by decide) (by decide))
include hc
theorem c_lele (hm : lastMarks [.LtE, .LtE] [b, c] = false := by with_unfolding_all rfl) : PP X T W (.Compare a [.LtE, .LtE] [b, c] pos) (e3 gLe gLe fa fb fc) := pp_chain (op_leP hu) (op_leP hu) o2_le o2_le ha hb hc hm
theorem t_lele (hm : lastMarks [.LtE, .LtE] [b, c] = false := by with_unfolding_all rfl) : PPT X T W (.Compare a [.LtE, .LtE] [b, c] pos) (eT (e3 gLe gLe fa fb fc)) := ppt_chain (op_leP hu) (op_leP hu) o2_le o2_le ha hb hc hm
omit hu hc
theorem c_ins (hm : behindInMarks .In b = false := by rfl) : PP X T W (.Compare a [.In] [b] pos) (e2 gInS fa fb) := pp_cmp op_in_str o2_inS ha hb hm
theorem c_nins (hm : behindInMarks .NotIn b = false := by rfl) : PP X T W (.Compare a [.NotIn] [b] pos) (e2 gNotInS fa fb) := pp_cmp op_notin_str o2_notInS ha hb hm
theorem t_ins (hm : behindInMarks .In b = false := by rfl) : PPT X T W (.Compare a [.In] [b] pos) (eT (e2 gInS fa fb)) := ppt_cmp op_in_str o2_inS ha hb hm
theorem t_nins (hm : behindInMarks .NotIn b = false := by rfl) : PPT X T W (.Compare a [.NotIn] [b] pos) (eT (e2 gNotInS fa fb)) := ppt_cmp op_notin_str o2_notInS ha hb hm
end
section
variable {X : Cx} {T : Tabs} {W : WX} {a b c e : Expr} {es : List Expr} {fa fb fc : Fr → M PV} {fr : Fr → M (List PV)} {pos p : Pos}
/-! calls -/
theorem k_def {x : Str} {n k j : Nat} {F : Fn} (cl : CalW X.prog X.w X.K X.mg X.base T x n F k) (hr : Room j X.A) (hkj : k ≤ j) (hgd : X.A.guards = some []) (tk : Takes X W) (ha : PPA X T W (e :: es) fr) (h : okG X.env.scope x = true := by kernel_rfl)
    (he : starEach (e :: es) X.env = (false, eval e X.env) :: starEach es X.env := by rfl) (hpl : (backTo pos (starEach es X.env)).any (·.1) = false := by rfl) : PP X T W (.Call (.Name x p) (e :: es) [] pos) (eCall n F fr) := by
  unfold okG at h
  simp only [Bool.and_eq_true, Bool.not_eq_true'] at h
  exact pp_call cl (hr.mono hkj) hgd tk (gl_of h.1) h.2 ha he hpl
variable (ha : PPA X T W (e :: es) fr)
include ha
theorem k_len (hm : X.mg "len" = none) (hg : glB X.env.scope "len" = true := by kernel_rfl) (he : starEach (e :: es) X.env = (false, eval e X.env) :: starEach es X.env := by rfl) (hpl : (backTo pos (starEach es X.env)).any (·.1) = false := by rfl) : PP X T W (.Call (.Name "len" p) (e :: es) [] pos) (eB gLen fr) :=
  pp_callB call_lenP c1_len (gl_of hg) hm (by decide +kernel) ha (by decide +kernel) (by decide +kernel) he hpl
theorem k_abs (hm : X.mg "abs" = none) (hg : glB X.env.scope "abs" = true := by kernel_rfl) (he : starEach (e :: es) X.env = (false, eval e X.env) :: starEach es X.env := by rfl) (hpl : (backTo pos (starEach es X.env)).any (·.1) = false := by rfl) : PP X T W (.Call (.Name "abs" p) (e :: es) [] pos) (eB gAbs fr) :=
  pp_callB call_abs c1_abs (gl_of hg) hm (by decide +kernel) ha (by decide +kernel) (by decide +kernel) he hpl
theorem k_int (hm : X.mg "int" = none) (hg : glB X.env.scope "int" = true := by kernel_rfl) (he : starEach (e :: es) X.env = (false, eval e X.env) :: starEach es X.env := by rfl) (hpl : (backTo pos (starEach es X.env)).any (·.1) = false := by rfl) : PP X T W (.Call (.Name "int" p) (e :: es) [] pos) (eB gInt fr) :=
  pp_callTy call_int1 c1_int (gl_of hg) hm (by decide +kernel) ha (by decide +kernel) (by decide +kernel) he hpl
theorem k_max (hc : X.calm = true) (hm : X.mg "max" = none) (hg : glB X.env.scope "max" = true := by kernel_rfl) (he : starEach (e :: es) X.env = (false, eval e X.env) :: starEach es X.env := by rfl) (hpl : (backTo pos (starEach es X.env)).any (·.1) = false := by rfl) : PP X T W (.Call (.Name "max" p) (e :: es) [] pos) (eB gMax2 fr) :=
  pp_callB (call_max2 hc) c1_max2 (gl_of hg) hm (by decide +kernel) ha (by decide +kernel) (by decide +kernel) he hpl
theorem k_min (hc : X.calm = true) (hm : X.mg "min" = none) (hg : glB X.env.scope "min" = true := by kernel_rfl) (he : starEach (e :: es) X.env = (false, eval e X.env) :: starEach es X.env := by rfl) (hpl : (backTo pos (starEach es X.env)).any (·.1) = false := by rfl) : PP X T W (.Call (.Name "min" p) (e :: es) [] pos) (eB gMin2 fr) :=
  pp_callB (call_min2 hc) c1_min2 (gl_of hg) hm (by decide +kernel) ha (by decide +kernel) (by decide +kernel) he hpl
theorem k_all (hc : X.calm = true) (hm : X.mg "all" = none) (hg : glB X.env.scope "all" = true := by kernel_rfl) (he : starEach (e :: es) X.env = (false, eval e X.env) :: starEach es X.env := by rfl) (hpl : (backTo pos (starEach es X.env)).any (·.1) = false := by rfl) : PP X T W (.Call (.Name "all" p) (e :: es) [] pos) (eB gAll fr) :=
  pp_callB (cr_all hc) c1_all (gl_of hg) hm (by decide +kernel) ha (by decide +kernel) (by decide +kernel) he hpl
theorem k_any (hc : X.calm = true) (hm : X.mg "any" = none) (hg : glB X.env.scope "any" = true := by kernel_rfl) (he : starEach (e :: es) X.env = (false, eval e X.env) :: starEach es X.env := by rfl) (hpl : (backTo pos (starEach es X.env)).any (·.1) = false := by rfl) : PP X T W (.Call (.Name "any" p) (e :: es) [] pos) (eB gAny fr) :=
  pp_callB (cr_any hc) c1_any (gl_of hg) hm (by decide +kernel) ha (by decide +kernel) (by decide +kernel) he hpl
theorem k_tuple (hm : X.mg "tuple" = none) (hg : glB X.env.scope "tuple" = true := by kernel_rfl) (he : starEach (e :: es) X.env = (false, eval e X.env) :: starEach es X.env := by rfl) (hpl : (backTo pos (starEach es X.env)).any (·.1) = false := by rfl) : PP X T W (.Call (.Name "tuple" p) (e :: es) [] pos) (eB gTuple fr) :=
  pp_callTy call_tuple_of c1_tuple (gl_of hg) hm (by decide +kernel) ha (by decide +kernel) (by decide +kernel) he hpl
theorem k_repr (hu : X.A.units + 64 < cLine) (hgd : X.A.guards = some []) (hm : X.mg "repr" = none) (hg : glB X.env.scope "repr" = true := by kernel_rfl) (he : starEach (e :: es) X.env = (false, eval e X.env) :: starEach es X.env := by rfl) (hpl : (backTo pos (starEach es X.env)).any (·.1) = false := by rfl) : PP X T W (.Call (.Name "repr" p) (e :: es) [] pos) (eB gRepr fr) :=
  pp_repr hu hgd (gl_of hg) hm ha he hpl
omit ha
theorem k_isi (t : Ty) {x : Str} {p2 : Pos} (hm1 : X.mg "isinstance" = none) (hm2 : X.mg x = none) (ht : t ≠ .non) (ha : PP X T W a fa) (h1 : glB X.env.scope "isinstance" = true := by kernel_rfl) (h2 : (okG X.env.scope x && !(x == ("__name__" : Str))) = true := by kernel_rfl) (hv2 : bootBuiltins x = some (.type t.nm) := by decide +kernel)
    (hs : starEach [a, .Name x p2] X.env = (false, eval a X.env) :: starEach [.Name x p2] X.env := by rfl) (hs2 : starEach [.Name x p2] X.env = (false, eval (.Name x p2) X.env) :: starEach [] X.env := by rfl) (hpl : (backTo pos (starEach [.Name x p2] X.env)).any (·.1) = false := by rfl) : PP X T W (.Call (.Name "isinstance" p) [a, .Name x p2] [] pos) (e1 (gIsi t) fa) := by
  unfold okG at h2
  simp only [Bool.and_eq_true, Bool.not_eq_true', beq_eq_false_iff_ne] at h2
  exact pp_isi t (gl_of h1) hm1 (gl_of h2.1.1) hm2 hv2 ht ha h2.2 (by rw [beq_eq_false_iff_ne]; exact h2.1.2) hs hs2 hpl
end
end Eg
namespace Eg
open PySem PySem.Spec PyProof.Rows L2
def eJoin0 (fa fb : Fr → M PV) : Fr → M PV := fun ρ => fa ρ >>= fun x => (M.of (match x with | .str [] => some () | _ => none)) >>= fun _ => fb ρ >>= fun y => g2 gJoin0 x y
end Eg
namespace Eg
open PySem PySem.Spec PyProof.Rows L2
theorem fng_cal {P : Program} {w : World} {K : PySem.W.Frag} {mg : Str → Option Value} {base : Heap} {T : Tabs} {x qual : Str} {params : Arguments} {body : List Stmt} {scope : Scope} {f : Addr} {fd : FuncData} {N ps : List Str} {n k : Nat} {F : S} (FD : FunD K x qual params body scope [] [] f fd) (sc : FnScope N ps scope) (hn : ps.length = n)
    (hbody : ∀ (cdv : Value) (A : Around) (outer : List Env) (s : Shared) (H : Hp) (E : XK), Bd (cxOf (L2.CX P w) P w K mg base N qual scope f cdv A outer s H E) (fun cls d _ H' => E cls d H') k →
      PPSs (cxOf (L2.CX P w) P w K mg base N qual scope f cdv A outer s H E) T (fun cls d _ H' => E cls d H') body F) : FnG P w K mg base (k + 1) f fd ps (spF ⟨K, P, w, T⟩ n (fnB N.length F)) := by
  refine fng_of FD sc (fun vs H Q E ⟨_, _, xs, hl, _, r, _⟩ => by rw [r.length, hl, hn]) (fun cdv A outer s H vs Q E hB ⟨w0, st, xs, hl, wr, r, p⟩ => ?_)
  refine ⟨_, hbody cdv A outer s H E hB, w0, st, _, wr, FrR.start r, ?_⟩
  unfold fnB at p
  cases q : F (xs.map some ++ List.replicate (N.length - xs.length) none) st with
  | nx ρ st' => rw [q] at p; exact fun w1 σ1 H1 l wr1 _ => p w1 .non H1 l wr1 .non
  | rt y st' => rw [q] at p; exact p
  | bk _ _ => rw [q] at p; exact p.elim
  | ct _ _ => rw [q] at p; exact p.elim
  | exc e _ st' => rw [q] at p; exact fun w1 c d σ1 H1 l wr1 _ r1 => p w1 c d H1 l wr1 r1
  | bad => rw [q] at p; exact p
end Eg

namespace Pf
open PySem PySem.Spec PyProof.Rows L2 Eg

def topS (i : Nat) : Stmt := PySem.Challenge.pw_setchooser_k00_integers_names_and_sets.main.body.getD i (.Pass ⟨0, 0, 0, 0⟩)
abbrev st_is_integer : Stmt := topS 3
def d_is_integer : He.DefD := ⟨("is_integer", none), "is_integer", "is_integer", defArgs st_is_integer, defBody st_is_integer, defScope st_is_integer, [], []⟩
abbrev st_is_count : Stmt := topS 4
def d_is_count : He.DefD := ⟨("is_count", none), "is_count", "is_count", defArgs st_is_count, defBody st_is_count, defScope st_is_count, [], []⟩
abbrev st_is_name : Stmt := topS 5
def d_is_name : He.DefD := ⟨("is_name", none), "is_name", "is_name", defArgs st_is_name, defBody st_is_name, defScope st_is_name, [], []⟩
abbrev st_are_ascending : Stmt := topS 6
def d_are_ascending : He.DefD := ⟨("are_ascending", none), "are_ascending", "are_ascending", defArgs st_are_ascending, defBody st_are_ascending, defScope st_are_ascending, [], []⟩
abbrev st_is_set : Stmt := topS 7
def d_is_set : He.DefD := ⟨("is_set", none), "is_set", "is_set", defArgs st_is_set, defBody st_is_set, defScope st_is_set, [], []⟩
abbrev st__law_sack : Stmt := topS 9
def d__law_sack : He.DefD := ⟨("_law_sack", none), "_law_sack", "_law_sack", defArgs st__law_sack, defBody st__law_sack, defScope st__law_sack, [], []⟩
abbrev st__law_grab : Stmt := topS 10
def d__law_grab : He.DefD := ⟨("_law_grab", none), "_law_grab", "_law_grab", defArgs st__law_grab, defBody st__law_grab, defScope st__law_grab, [], []⟩
abbrev st__law_one_of : Stmt := topS 11
def d__law_one_of : He.DefD := ⟨("_law_one_of", none), "_law_one_of", "_law_one_of", defArgs st__law_one_of, defBody st__law_one_of, defScope st__law_one_of, [], []⟩
abbrev st__law_letter : Stmt := topS 12
def d__law_letter : He.DefD := ⟨("_law_letter", none), "_law_letter", "_law_letter", defArgs st__law_letter, defBody st__law_letter, defScope st__law_letter, [], []⟩
abbrev st__law_is_name : Stmt := topS 13
def d__law_is_name : He.DefD := ⟨("_law_is_name", none), "_law_is_name", "_law_is_name", defArgs st__law_is_name, defBody st__law_is_name, defScope st__law_is_name, [], []⟩
abbrev st__law_is_short : Stmt := topS 14
def d__law_is_short : He.DefD := ⟨("_law_is_short", none), "_law_is_short", "_law_is_short", defArgs st__law_is_short, defBody st__law_is_short, defScope st__law_is_short, [], []⟩
abbrev st__law_numbers : Stmt := topS 15
def d__law_numbers : He.DefD := ⟨("_law_numbers", none), "_law_numbers", "_law_numbers", defArgs st__law_numbers, defBody st__law_numbers, defScope st__law_numbers, [], []⟩
abbrev st__law_texts : Stmt := topS 16
def d__law_texts : He.DefD := ⟨("_law_texts", none), "_law_texts", "_law_texts", defArgs st__law_texts, defBody st__law_texts, defScope st__law_texts, [], []⟩
abbrev st__law_is_number_set : Stmt := topS 17
def d__law_is_number_set : He.DefD := ⟨("_law_is_number_set", none), "_law_is_number_set", "_law_is_number_set", defArgs st__law_is_number_set, defBody st__law_is_number_set, defScope st__law_is_number_set, [], []⟩
abbrev st__law_tuples : Stmt := topS 18
def d__law_tuples : He.DefD := ⟨("_law_tuples", none), "_law_tuples", "_law_tuples", defArgs st__law_tuples, defBody st__law_tuples, defScope st__law_tuples, [], []⟩
abbrev st__law_cell_right : Stmt := topS 19
def d__law_cell_right : He.DefD := ⟨("_law_cell_right", none), "_law_cell_right", "_law_cell_right", defArgs st__law_cell_right, defBody st__law_cell_right, defScope st__law_cell_right, [], []⟩
abbrev st_law : Stmt := topS 20
def d_law : He.DefD := ⟨("law", none), "law", "law", defArgs st_law, defBody st_law, defScope st_law, [], []⟩
def fn0 : List He.DefD := [d_is_integer, d_is_count, d_is_name, d_are_ascending, d_is_set, d__law_sack, d__law_grab, d__law_one_of, d__law_letter, d__law_is_name, d__law_is_short, d__law_numbers, d__law_texts, d__law_is_number_set, d__law_tuples, d__law_cell_right, d_law]
def fn : List He.DefD := fn0
def fa0 : List He.Fa := [.glo "is_integer", .glo "is_count", .glo "is_name", .glo "are_ascending", .glo "is_set", .glo "_law_sack", .glo "_law_grab", .glo "_law_one_of", .glo "_law_letter", .glo "_law_is_name", .glo "_law_is_short", .glo "_law_numbers", .glo "_law_texts", .glo "_law_is_number_set", .glo "_law_tuples", .glo "_law_cell_right", .glo "law", .free "abs", .free "all", .free "bool", .free "int", .free "isinstance", .free "len", .free "list", .free "max", .free "min", .free "range", .free "repr", .free "set", .free "sorted"]
def fa1 : List He.Fa := [.free "str", .free "tuple", .free "zip", .int "MAX_LETTERS" (8), .int "GREATEST" (999999999999999999999999999999999999999999999999999999999999)]
def fa : List He.Fa := fa0 ++ fa1
def loose0 : List Str := ["MAX_LETTERS", "GREATEST", "is_integer", "is_count", "is_name", "are_ascending", "is_set", "_law_sack", "_law_grab", "_law_one_of", "_law_letter", "_law_is_name", "_law_is_short", "_law_numbers", "_law_texts", "_law_is_number_set", "_law_tuples", "_law_cell_right"]
def loose : List Str := loose0
abbrev R : PySem.W.OpenRow := PySem.W.OpenLaw.row PySem.Challenge.rw_setchooser_k00_integers_names_and_sets
abbrev hk : PySem.W.Hook := He.hookD 6 fa fn
def ob (s : PySem.W.SharedT) : He.AlD := He.obsDG 6 fa fn (HandSHeadRun.getT s)
theorem ob_eq (s : PySem.W.SharedT) : ob s = hk.obs s.abs := He.obsDG_eq (HandSHeadRun.getT_eq s)
theorem run (w : World) : HandSHeadRun.RunEq R (PySem.W.view R.prog [20]) hk ob 1000 loose w := by
  intro os
  kernel_rfl

def b__law_sack : S := (sSeq (sAsg (eIf (eT (e2 gLt (eVar 1) (eB gLen (aCons (eVar 0) aNil)))) (e2 gIx (eVar 0) (eVar 1)) (e2 gAdd (e2 gMul (eC (.int (67))) (eVar 1)) (eC (.int (37))))) (gN 2)) (sSeq (sAsg (e2 gMod (eB gInt (aCons (eB gAbs (aCons (eVar 2) aNil)) aNil)) (e2 gPow (e2 gPow (eC (.int (10))) (eC (.int (47)))) (eC (.int (13))))) (gN 3)) (sSeq (sAsg (e2 gAdd (e2 gAdd (e2 gAdd (e2 gMul (e2 gMod (eB gInt (aCons (eVar 3) aNil)) (eC (.int (2147483237)))) (eC (.int (96293)))) (e2 gMul (eC (.int (8123))) (eVar 1))) (e2 gMul (eC (.int (47))) (eB gInt (aCons (e2 gLt (eVar 2) (eC (.int (0)))) aNil)))) (eC (.int (73)))) (gN 4)) (sRet (eLst true (aCons (eB gMax2 (aCons (eC (.int (0))) (aCons (e2 gSub (eVar 3) (e2 gPow (eC (.int (10))) (eC (.int (18))))) aNil))) (aCons (e2 gMod (eB gInt (aCons (eVar 4) aNil)) (eC (.int (2305843009213693907)))) (aCons (eC (.int (0))) aNil))))))))
def F__law_sack : Fn := fnB 5 b__law_sack
def b__law_grab : S := (sSeq (sIf (eT (e2 gGt (e2 gIx (eVar 0) (eC (.int (0)))) (eC (.int (0))))) (sSeq (sAsg (e2 gMod (eB gInt (aCons (e2 gIx (eVar 0) (eC (.int (0)))) aNil)) (eVar 1)) (gN 4)) (sSeq (sAsg (e2 gDiv (e2 gIx (eVar 0) (eC (.int (0)))) (eVar 1)) (gSubL (eVar 0) (eC (.int (0))))) (sRet (eVar 4)))) sNx) (sSeq (sAsg (e2 gAdd (e2 gIx (eVar 0) (eC (.int (2)))) (eC (.int (1)))) (gSubL (eVar 0) (eC (.int (2))))) (sSeq (sAsg (e2 gMod (eB gInt (aCons (e2 gAdd (e2 gIx (eVar 0) (eC (.int (1)))) (e2 gMul (eC (.int (1000427))) (e2 gIx (eVar 0) (eC (.int (2)))))) aNil)) (eC (.int (2305843009213693951)))) (gN 2)) (sSeq (sAsg (e2 gAdd (e2 gMul (e2 gMod (eB gInt (aCons (e2 gMul (eVar 2) (eVar 2)) aNil)) (eC (.int (2305843009213693921)))) (eVar 2)) (e2 gMul (eC (.int (9103))) (e2 gIx (eVar 0) (eC (.int (2)))))) (gN 3)) (sRet (e2 gMod (eB gInt (aCons (e2 gDiv (e2 gMod (eB gInt (aCons (eVar 3) aNil)) (eC (.int (2305843009213693907)))) (eC (.int (16384)))) aNil)) (eVar 1)))))))
def F__law_grab : Fn := fnB 5 b__law_grab
def b__law_one_of : S := (sRet (e2 gIx (eVar 1) (eCall 2 F__law_grab (aCons (eVar 0) (aCons (eB gLen (aCons (eVar 1) aNil)) aNil)))))
def F__law_one_of : Fn := fnB 2 b__law_one_of
def b__law_tuples : S := (sSeq (sAsg (eB gTuple (aCons (eSS false (eLc false [5] (iRg1 (aCons (eCall 2 F__law_grab (aCons (eVar 0) (aCons (eC (.int (15))) aNil))) aNil)) (gN 5) fYes (eCall 2 F__law_grab (aCons (eVar 0) (aCons (eCall 2 F__law_one_of (aCons (eVar 0) (aCons (eLst false (aCons (eC (.int (3))) (aCons (eC (.int (20))) (aCons (e2 gPow (eC (.int (10))) (eC (.int (18)))) aNil)))) aNil))) aNil))))) aNil)) (gN 1)) (sSeq (sPar 3 4 (aCons (eCall 2 F__law_grab (aCons (eVar 0) (aCons (e2 gAdd (eB gLen (aCons (eVar 1) aNil)) (eC (.int (1)))) aNil))) (aCons (eCall 2 F__law_one_of (aCons (eVar 0) (aCons (eLst false (aCons (e2 gSub (eC (.int (0))) (eC (.int (1)))) (aCons (eC (.bl true)) (aCons (eC .non) (aCons (eC (.str [48])) (aCons (e2 gPow (eC (.int (10))) (eC (.int (60)))) (aCons (eTup (aCons (eC (.int (0))) aNil)) (aCons (eC (.int (0))) (aCons (e2 gSub (e2 gPow (eC (.int (10))) (eC (.int (60)))) (eC (.int (1)))) aNil))))))))) aNil))) aNil))) (sSeq (sAsg (eLst false (aCons (eVar 1) (aCons (e1 gRev (eVar 1)) (aCons (e2 gAdd (eVar 1) (eSl (eVar 1) none (some (eC (.int (1)))))) (aCons (e2 gAdd (eSl (eVar 1) none (some (eVar 3))) (eSl (eVar 1) (some (e2 gAdd (eVar 3) (eC (.int (1))))) none)) (aCons (e2 gAdd (e2 gAdd (eSl (eVar 1) none (some (eVar 3))) (eTup (aCons (eVar 4) aNil))) (eSl (eVar 1) (some (eVar 3)) none)) (aCons (eBL false gList (aCons (eVar 1) aNil)) (aCons (eTup (aCons (eVar 4) aNil)) (aCons (eTup aNil) aNil))))))))) (gN 2)) (sSeq (sAsg (e2 gAdd (eVar 2) (eLst false (aCons (eB gTuple (aCons (eBL false gSorted (aCons (e2 gAdd (eVar 1) (eSl (eVar 1) none (some (eC (.int (2)))))) aNil)) aNil)) (aCons (e2 gAdd (eVar 1) (eTup (aCons (e2 gSub (e2 gPow (eC (.int (10))) (eC (.int (60)))) (eC (.int (1)))) aNil))) (aCons (e2 gAdd (eVar 1) (eTup (aCons (e2 gPow (eC (.int (10))) (eC (.int (60)))) aNil))) (aCons (e2 gAdd (eTup (aCons (e2 gSub (eC (.int (0))) (eC (.int (1)))) aNil)) (eVar 1)) (aCons (eC (.dct [(.int (0), .int (1))])) (aCons (eC (.str [48, 49])) aNil)))))))) (gN 2)) (sRet (e2 gAdd (eVar 2) (eLst false (aCons (eC .non) (aCons (eC (.int (0))) (aCons (eLst false aNil) (aCons (eTup (aCons (eTup (aCons (eC (.int (0))) aNil)) aNil)) (aCons (eTup (aCons (eC (.int (0))) (aCons (eC (.int (1))) (aCons (eC (.int (2))) (aCons (eC (.int (3))) aNil))))) (aCons (eTup (aCons (eC (.int (0))) (aCons (eC (.int (0))) aNil))) (aCons (eTup (aCons (eC (.int (1))) (aCons (eC (.int (0))) aNil))) (aCons (eTup (aCons (eC (.bl false)) (aCons (eC (.int (1))) aNil))) aNil)))))))))))))))
def F__law_tuples : Fn := fnB 6 b__law_tuples
def b__law_numbers : S := (sSeq (sPar 2 3 (aCons (e2 gMod (eB gInt (aCons (eVar 1) aNil)) (e2 gMul (e2 gPow (eC (.int (10))) (eC (.int (60)))) (e2 gPow (eC (.int (10))) (eC (.int (30)))))) (aCons (e2 gSub (e2 gAdd (e2 gPow (eC (.int (10))) (eC (.int (60)))) (eCall 2 F__law_grab (aCons (eVar 0) (aCons (eC (.int (5))) aNil)))) (eC (.int (2)))) aNil))) (sRet (eLst false (aCons (eVar 2) (aCons (e2 gSub (eC (.int (0))) (eVar 2)) (aCons (eVar 3) (aCons (e2 gSub (eC (.int (0))) (eVar 3)) (aCons (e2 gPow (eC (.int (10))) (eC (.int (60)))) (aCons (e2 gSub (eC (.int (0))) (e2 gPow (eC (.int (10))) (eC (.int (60))))) (aCons (e2 gSub (e2 gPow (eC (.int (10))) (eC (.int (60)))) (eC (.int (1)))) (aCons (e2 gSub (eC (.int (1))) (e2 gPow (eC (.int (10))) (eC (.int (60))))) (aCons (eC (.int (0))) (aCons (e2 gSub (eC (.int (0))) (eC (.int (1)))) aNil)))))))))))))
def F__law_numbers : Fn := fnB 4 b__law_numbers
def b__law_letter : S := (sRet (e2 gIx (eC (.str [97, 98, 99, 100, 101, 102, 103, 104, 105, 106, 107, 108, 109, 110, 111, 112, 113, 114, 115, 116, 117, 118, 119, 120, 121, 122])) (eCall 2 F__law_grab (aCons (eVar 0) (aCons (eC (.int (26))) aNil)))))
def F__law_letter : Fn := fnB 1 b__law_letter
def b__law_texts : S := (sSeq (sAsg (eLst false aNil) (gN 1)) (sSeq (sFor (iRg1 (aCons (eC (.int (4))) aNil)) (gN 2) (sSeq (sAsg (eJoin0 (eC (.str [])) (eLc false [6] (iRg1 (aCons (eCall 2 F__law_grab (aCons (eVar 0) (aCons (eC (.int (11))) aNil))) aNil)) (gN 6) fYes (eCall 1 F__law_letter (aCons (eVar 0) aNil)))) (gN 3)) (sSeq (sAsg (eCall 2 F__law_grab (aCons (eVar 0) (aCons (e2 gAdd (eB gLen (aCons (eVar 3) aNil)) (eC (.int (1)))) aNil))) (gN 4)) (sSeq (sAsg (eCall 2 F__law_one_of (aCons (eVar 0) (aCons (eLst false (aCons (eC (.str [65])) (aCons (eC (.str [90])) (aCons (eC (.str [55])) (aCons (eC (.str [32])) (aCons (eC (.str [95])) (aCons (eC (.str [10])) (aCons (eC (.str [64])) (aCons (eC (.str [63])) (aCons (eC (.str [96])) (aCons (eC (.str [123])) (aCons (eC (.str [46])) (aCons (eC (.str [42])) aNil))))))))))))) aNil))) (gN 5)) (sAsg (e2 gAdd (eVar 1) (eLst false (aCons (eVar 3) (aCons (e2 gAdd (e2 gAdd (eSl (eVar 3) none (some (eVar 4))) (eVar 5)) (eSl (eVar 3) (some (eVar 4)) none)) (aCons (e2 gAdd (e2 gAdd (eSl (eVar 3) none (some (eVar 4))) (eVar 5)) (eSl (eVar 3) (some (e2 gAdd (eVar 4) (eC (.int (1))))) none)) aNil))))) (gN 1)))))) (sRet (eVar 1))))
def F__law_texts : Fn := fnB 7 b__law_texts
def b_is_integer : S := (sRet (eAnd (e1 (gIsi .int) (eVar 0)) (eAnd (eNot (e1 (gIsi .bl) (eVar 0))) (e3 gLe gLe (e1 gNeg (eC (.int (999999999999999999999999999999999999999999999999999999999999)))) (eVar 0) (eC (.int (999999999999999999999999999999999999999999999999999999999999)))))))
def F_is_integer : Fn := fnB 1 b_is_integer
def b_is_name : S := (sSeq (sIf (bOr (bNot (eT (e1 (gIsi .str) (eVar 0)))) (bNot (eT (e3 gLe gLe (eC (.int (1))) (eB gLen (aCons (eVar 0) aNil)) (eC (.int (8))))))) (sRet (eC (.bl false))) sNx) (sRet (eB gAll (aCons (eLc false [1] (iVal (eVar 0)) (gN 1) fYes (e3 gLe gLe (eC (.str [97])) (eVar 1) (eC (.str [122])))) aNil))))
def F_is_name : Fn := fnB 2 b_is_name
def b_are_ascending : S := (sRet (eB gAll (aCons (eLc false [1, 2] (iZip (aCons (eVar 0) (aCons (eSl (eVar 0) (some (eC (.int (1)))) none) aNil))) (gTp 2 (gNC (gN 1) (gNC (gN 2) gN0))) fYes (e2 gLt (eVar 1) (eVar 2))) aNil)))
def F_are_ascending : Fn := fnB 3 b_are_ascending
def b_is_count : S := (sRet (eAnd (eCall 1 F_is_integer (aCons (eVar 0) aNil)) (e2 gGe (eVar 0) (eC (.int (0))))))
def F_is_count : Fn := fnB 1 b_is_count
def b_is_set : S := (sRet (eAnd (e1 (gIsi .tup) (eVar 0)) (eAnd (eB gAll (aCons (eLc false [1] (iVal (eVar 0)) (gN 1) fYes (eCall 1 F_is_count (aCons (eVar 1) aNil))) aNil)) (eCall 1 F_are_ascending (aCons (eVar 0) aNil)))))
def F_is_set : Fn := fnB 2 b_is_set
def b__law_is_short : S := (sRet (eAnd (e1 (gIsi .int) (eVar 0)) (eAnd (eNot (e1 (gIsi .bl) (eVar 0))) (eAnd (e2 gLt (e2 gSub (eC (.int (0))) (e2 gPow (eC (.int (10))) (eC (.int (60))))) (eVar 0)) (e2 gLt (eVar 0) (e2 gPow (eC (.int (10))) (eC (.int (60)))))))))
def F__law_is_short : Fn := fnB 1 b__law_is_short
def b__law_is_name : S := (sSeq (sIf (bOr (bNot (eT (e1 (gIsi .str) (eVar 0)))) (bOr (eT (e2 gEq (eB gLen (aCons (eVar 0) aNil)) (eC (.int (0))))) (eT (e2 gGt (eB gLen (aCons (eVar 0) aNil)) (eC (.int (8))))))) (sRet (eC (.bl false))) sNx) (sRet (e2 gEq (eLc false [1] (iVal (eVar 0)) (gN 1) (eT (e2 gNotInS (eVar 1) (eC (.str [97, 98, 99, 100, 101, 102, 103, 104, 105, 106, 107, 108, 109, 110, 111, 112, 113, 114, 115, 116, 117, 118, 119, 120, 121, 122])))) (eVar 1)) (eLst false aNil))))
def F__law_is_name : Fn := fnB 2 b__law_is_name
def b__law_is_number_set : S := (sSeq (sIf (bOr (bNot (eT (e1 (gIsi .tup) (eVar 0)))) (eT (e2 gNe (eLc false [1] (iVal (eVar 0)) (gN 1) (bOr (bNot (eT (eCall 1 F__law_is_short (aCons (eVar 1) aNil)))) (eT (e2 gLt (eVar 1) (eC (.int (0)))))) (eVar 1)) (eLst false aNil)))) (sRet (eC (.bl false))) sNx) (sRet (e2 gEq (eBL false gList (aCons (eVar 0) aNil)) (eSS false (eVar 0)))))
def F__law_is_number_set : Fn := fnB 2 b__law_is_number_set
def b__law_cell_right : S := (sSeq (sPar 4 5 (aCons (eCall 2 F__law_sack (aCons (eVar 0) (aCons (eVar 1) aNil))) (aCons (e2 gAdd (e2 gMul (eC (.int (41))) (eVar 1)) (eC (.int (7)))) aNil))) (sSeq (sIf (eT (e2 gLt (eVar 1) (eB gLen (aCons (eVar 0) aNil)))) (sAsg (e2 gIx (eVar 0) (eVar 1)) (gN 5)) sNx) (sSeq (sAsg (e2 gAdd (e2 gAdd (eCall 2 F__law_numbers (aCons (eVar 4) (aCons (eVar 5) aNil))) (eCall 1 F__law_texts (aCons (eVar 4) aNil))) (eCall 1 F__law_tuples (aCons (eVar 4) aNil))) (gN 2)) (sSeq (sAsg (e2 gAdd (eVar 2) (eLst false (aCons (eC (.bl true)) (aCons (eC (.bl false)) (aCons (eC .non) (aCons (eC (.str [49])) (aCons (eLst false aNil) (aCons (eC (.dct [])) (aCons (eTup (aCons (eLst false aNil) aNil)) (aCons (eTup (aCons (eC (.int (0))) aNil)) (aCons (eTup (aCons (eC .non) aNil)) (aCons (eLst false (aCons (eC (.int (1))) aNil)) (aCons (eC (.dct [(.str [97], .int (1))])) (aCons (eC (.str [97, 98, 99, 100, 101, 102, 103, 104])) (aCons (eC (.str [97, 98, 99, 100, 101, 102, 103, 104, 105])) aNil))))))))))))))) (gN 2)) (sSeq (sFor (iRg1 (aCons (eC (.int (2))) aNil)) (gN 3) (sFor (iVal (eVar 2)) (gN 6) (sSeq (sAsg (eLst false (aCons (eCall 1 F_is_integer (aCons (eVar 6) aNil)) (aCons (eCall 1 F_is_name (aCons (eVar 6) aNil)) (aCons (eCall 1 F_is_set (aCons (eVar 6) aNil)) aNil)))) (gN 7)) (sSeq (sAsg (eLst false (aCons (eCall 1 F__law_is_short (aCons (eVar 6) aNil)) (aCons (eCall 1 F__law_is_name (aCons (eVar 6) aNil)) (aCons (eCall 1 F__law_is_number_set (aCons (eVar 6) aNil)) aNil)))) (gN 8)) (sIf (eT (e2 gNe (eB gRepr (aCons (eVar 7) aNil)) (eB gRepr (aCons (eVar 8) aNil)))) (sRet (eC (.bl false))) sNx))))) (sRet (eC (.bl true))))))))
def F__law_cell_right : Fn := fnB 9 b__law_cell_right
def b_law : S := (sSeq (sIf (eT (e2 gNe (eC (.int (8))) (eC (.int (8))))) (sRet (eC (.bl false))) sNx) (sSeq (sFor (iRg1 (aCons (eB gMax2 (aCons (eC (.int (1))) (aCons (eB gMin2 (aCons (eC (.int (8))) (aCons (eB gLen (aCons (eVar 0) aNil)) aNil))) aNil))) aNil)) (gN 1) (sIf (bNot (eT (eCall 2 F__law_cell_right (aCons (eVar 0) (aCons (eVar 1) aNil))))) (sRet (eC (.bl false))) sNx)) (sRet (eC (.bl true)))))
def F_law : Fn := fnB 2 b_law
structure Hs (K : PySem.W.Frag) (mg : Str → Option Value) : Prop where
  d__law_sack : ∃ f fd, FunD K "_law_sack" "_law_sack" (defArgs st__law_sack) (defBody st__law_sack) (defScope st__law_sack) [] [] f fd ∧ mg "_law_sack" = some (.ref f)
  d__law_grab : ∃ f fd, FunD K "_law_grab" "_law_grab" (defArgs st__law_grab) (defBody st__law_grab) (defScope st__law_grab) [] [] f fd ∧ mg "_law_grab" = some (.ref f)
  d__law_one_of : ∃ f fd, FunD K "_law_one_of" "_law_one_of" (defArgs st__law_one_of) (defBody st__law_one_of) (defScope st__law_one_of) [] [] f fd ∧ mg "_law_one_of" = some (.ref f)
  d__law_tuples : ∃ f fd, FunD K "_law_tuples" "_law_tuples" (defArgs st__law_tuples) (defBody st__law_tuples) (defScope st__law_tuples) [] [] f fd ∧ mg "_law_tuples" = some (.ref f)
  d__law_numbers : ∃ f fd, FunD K "_law_numbers" "_law_numbers" (defArgs st__law_numbers) (defBody st__law_numbers) (defScope st__law_numbers) [] [] f fd ∧ mg "_law_numbers" = some (.ref f)
  d__law_letter : ∃ f fd, FunD K "_law_letter" "_law_letter" (defArgs st__law_letter) (defBody st__law_letter) (defScope st__law_letter) [] [] f fd ∧ mg "_law_letter" = some (.ref f)
  d__law_texts : ∃ f fd, FunD K "_law_texts" "_law_texts" (defArgs st__law_texts) (defBody st__law_texts) (defScope st__law_texts) [] [] f fd ∧ mg "_law_texts" = some (.ref f)
  d_is_integer : ∃ f fd, FunD K "is_integer" "is_integer" (defArgs st_is_integer) (defBody st_is_integer) (defScope st_is_integer) [] [] f fd ∧ mg "is_integer" = some (.ref f)
  d_is_name : ∃ f fd, FunD K "is_name" "is_name" (defArgs st_is_name) (defBody st_is_name) (defScope st_is_name) [] [] f fd ∧ mg "is_name" = some (.ref f)
  d_are_ascending : ∃ f fd, FunD K "are_ascending" "are_ascending" (defArgs st_are_ascending) (defBody st_are_ascending) (defScope st_are_ascending) [] [] f fd ∧ mg "are_ascending" = some (.ref f)
  d_is_count : ∃ f fd, FunD K "is_count" "is_count" (defArgs st_is_count) (defBody st_is_count) (defScope st_is_count) [] [] f fd ∧ mg "is_count" = some (.ref f)
  d_is_set : ∃ f fd, FunD K "is_set" "is_set" (defArgs st_is_set) (defBody st_is_set) (defScope st_is_set) [] [] f fd ∧ mg "is_set" = some (.ref f)
  d__law_is_short : ∃ f fd, FunD K "_law_is_short" "_law_is_short" (defArgs st__law_is_short) (defBody st__law_is_short) (defScope st__law_is_short) [] [] f fd ∧ mg "_law_is_short" = some (.ref f)
  d__law_is_name : ∃ f fd, FunD K "_law_is_name" "_law_is_name" (defArgs st__law_is_name) (defBody st__law_is_name) (defScope st__law_is_name) [] [] f fd ∧ mg "_law_is_name" = some (.ref f)
  d__law_is_number_set : ∃ f fd, FunD K "_law_is_number_set" "_law_is_number_set" (defArgs st__law_is_number_set) (defBody st__law_is_number_set) (defScope st__law_is_number_set) [] [] f fd ∧ mg "_law_is_number_set" = some (.ref f)
  d__law_cell_right : ∃ f fd, FunD K "_law_cell_right" "_law_cell_right" (defArgs st__law_cell_right) (defBody st__law_cell_right) (defScope st__law_cell_right) [] [] f fd ∧ mg "_law_cell_right" = some (.ref f)
  d_law : ∃ f fd, FunD K "law" "law" (defArgs st_law) (defBody st_law) (defScope st_law) [] [] f fd ∧ mg "law" = some (.ref f)
  m_abs : mg "abs" = none
  m_all : mg "all" = none
  m_bool : mg "bool" = none
  m_int : mg "int" = none
  m_isinstance : mg "isinstance" = none
  m_len : mg "len" = none
  m_list : mg "list" = none
  m_max : mg "max" = none
  m_min : mg "min" = none
  m_range : mg "range" = none
  m_repr : mg "repr" = none
  m_set : mg "set" = none
  m_sorted : mg "sorted" = none
  m_str : mg "str" = none
  m_tuple : mg "tuple" = none
  m_zip : mg "zip" = none
  c_MAX_LETTERS : ∃ t, mg "MAX_LETTERS" = some (.int (8) t)
  c_GREATEST : ∃ t, mg "GREATEST" = some (.int (999999999999999999999999999999999999999999999999999999999999) t)
def T0 : Tabs := ⟨fun _ => "", fun _ => 0, fun _ => .none⟩
theorem sc__law_sack : FnScope ["_law_script", "_law_at", "_law_cell", "_law_great", "_law_mixed"] ["_law_script", "_law_at"] (defScope st__law_sack) := ⟨rfl, rfl, rfl, by decide +kernel, rfl, by decide +kernel, by decide +kernel⟩
theorem bd__law_sack {K : PySem.W.Frag} {f : Addr} {fd : FuncData} (FD : FunD K "_law_sack" "_law_sack" (defArgs st__law_sack) (defBody st__law_sack) (defScope st__law_sack) [] [] f fd) : Binds K fd ["_law_script", "_law_at"] [] := FD.bindsN fun _ _ _ _ _ _ us hl => match us, hl with | [_, _], _ => rfl
theorem cal__law_sack {P : Program} {w : World} {K : PySem.W.Frag} {mg : Str → Option Value} {base : Heap} (hs : Hs K mg) : CalW P w K mg base T0 "_law_sack" 2 F__law_sack 1 := by
  obtain ⟨f, fd, FD, hm⟩ := hs.d__law_sack
  refine cal_of FD sc__law_sack rfl hm (bd__law_sack FD) fun cdv A outer s H E B => ?_
  exact (ppss_cons (pst 2 B.nd (pp_ifExp (t_lt B.hu (pv 1) (k_len (ppa_cons (pv 0) ppa_nil) hs.m_len)) (pp_ix (pv 0) (pv 1)) (pp_add (pp_mul pp_int (pv 1)) pp_int))) (ppss_cons (pst 3 B.nd (pp_mod (k_int (ppa_cons (k_abs (ppa_cons (pv 2) ppa_nil) hs.m_abs) ppa_nil) hs.m_int) (pp_pow (pp_pow pp_int pp_int) pp_int))) (ppss_cons (pst 4 B.nd (pp_add (pp_add (pp_add (pp_mul (pp_mod (k_int (ppa_cons (pv 3) ppa_nil) hs.m_int) pp_int) pp_int) (pp_mul pp_int (pv 1))) (pp_mul pp_int (k_int (ppa_cons (c_lt B.hu (pv 2) pp_int) ppa_nil) hs.m_int))) pp_int)) (ppss_one (pps_ret (pp_lst true (ppa_cons (k_max (ppa_cons pp_int (ppa_cons (pp_sub (pv 3) (pp_pow pp_int pp_int)) ppa_nil)) B.calm hs.m_max) (ppa_cons (pp_mod (k_int (ppa_cons (pv 4) ppa_nil) hs.m_int) pp_int) (ppa_cons pp_int ppa_nil)))))))))
theorem sc__law_grab : FnScope ["_law_sack_here", "_law_total", "_law_one", "_law_two", "_law_found"] ["_law_sack_here", "_law_total"] (defScope st__law_grab) := ⟨rfl, rfl, rfl, by decide +kernel, rfl, by decide +kernel, by decide +kernel⟩
theorem bd__law_grab {K : PySem.W.Frag} {f : Addr} {fd : FuncData} (FD : FunD K "_law_grab" "_law_grab" (defArgs st__law_grab) (defBody st__law_grab) (defScope st__law_grab) [] [] f fd) : Binds K fd ["_law_sack_here", "_law_total"] [] := FD.bindsN fun _ _ _ _ _ _ us hl => match us, hl with | [_, _], _ => rfl
theorem cal__law_grab {P : Program} {w : World} {K : PySem.W.Frag} {mg : Str → Option Value} {base : Heap} (hs : Hs K mg) : CalW P w K mg base T0 "_law_grab" 2 F__law_grab 1 := by
  obtain ⟨f, fd, FD, hm⟩ := hs.d__law_grab
  refine cal_of FD sc__law_grab rfl hm (bd__law_grab FD) fun cdv A outer s H E B => ?_
  exact (ppss_cons (pps_if (t_gt B.hu (pp_ix (pv 0) pp_int) pp_int) (ppss_cons (pst 4 B.nd (pp_mod (k_int (ppa_cons (pp_ix (pv 0) pp_int) ppa_nil) hs.m_int) (pv 1))) (ppss_cons (pps_asg (pp_div (pp_ix (pv 0) pp_int) (pv 1)) (ppg_subL (pv 0) pp_int)) (ppss_one (pps_ret (pv 4))))) ppss_nil) (ppss_cons (pps_asg (pp_add (pp_ix (pv 0) pp_int) pp_int) (ppg_subL (pv 0) pp_int)) (ppss_cons (pst 2 B.nd (pp_mod (k_int (ppa_cons (pp_add (pp_ix (pv 0) pp_int) (pp_mul pp_int (pp_ix (pv 0) pp_int))) ppa_nil) hs.m_int) pp_int)) (ppss_cons (pst 3 B.nd (pp_add (pp_mul (pp_mod (k_int (ppa_cons (pp_mul (pv 2) (pv 2)) ppa_nil) hs.m_int) pp_int) (pv 2)) (pp_mul pp_int (pp_ix (pv 0) pp_int)))) (ppss_one (pps_ret (pp_mod (k_int (ppa_cons (pp_div (pp_mod (k_int (ppa_cons (pv 3) ppa_nil) hs.m_int) pp_int) pp_int) ppa_nil) hs.m_int) (pv 1))))))))
theorem sc__law_one_of : FnScope ["_law_sack_here", "_law_items"] ["_law_sack_here", "_law_items"] (defScope st__law_one_of) := ⟨rfl, rfl, rfl, by decide +kernel, rfl, by decide +kernel, by decide +kernel⟩
theorem bd__law_one_of {K : PySem.W.Frag} {f : Addr} {fd : FuncData} (FD : FunD K "_law_one_of" "_law_one_of" (defArgs st__law_one_of) (defBody st__law_one_of) (defScope st__law_one_of) [] [] f fd) : Binds K fd ["_law_sack_here", "_law_items"] [] := FD.bindsN fun _ _ _ _ _ _ us hl => match us, hl with | [_, _], _ => rfl
theorem cal__law_one_of {P : Program} {w : World} {K : PySem.W.Frag} {mg : Str → Option Value} {base : Heap} (hs : Hs K mg) : CalW P w K mg base T0 "_law_one_of" 2 F__law_one_of 2 := by
  obtain ⟨f, fd, FD, hm⟩ := hs.d__law_one_of
  refine cal_of FD sc__law_one_of rfl hm (bd__law_one_of FD) fun cdv A outer s H E B => ?_
  exact (ppss_one (pps_ret (pp_ix (pv 1) (k_def (cal__law_grab hs) B.room (by decide) B.gd B.tk (ppa_cons (pv 0) (ppa_cons (k_len (ppa_cons (pv 1) ppa_nil) hs.m_len) ppa_nil))))))
theorem sc__law_tuples : FnScope ["_law_sack_here", "_law_row", "_law_found", "_law_at", "_law_odd", "_law_turn"] ["_law_sack_here"] (defScope st__law_tuples) := ⟨rfl, rfl, rfl, by decide +kernel, rfl, by decide +kernel, by decide +kernel⟩
theorem bd__law_tuples {K : PySem.W.Frag} {f : Addr} {fd : FuncData} (FD : FunD K "_law_tuples" "_law_tuples" (defArgs st__law_tuples) (defBody st__law_tuples) (defScope st__law_tuples) [] [] f fd) : Binds K fd ["_law_sack_here"] [] := FD.bindsN fun _ _ _ _ _ _ us hl => match us, hl with | [_], _ => rfl
theorem cal__law_tuples {P : Program} {w : World} {K : PySem.W.Frag} {mg : Str → Option Value} {base : Heap} (hs : Hs K mg) : CalW P w K mg base T0 "_law_tuples" 1 F__law_tuples 3 := by
  obtain ⟨f, fd, FD, hm⟩ := hs.d__law_tuples
  refine cal_of FD sc__law_tuples rfl hm (bd__law_tuples FD) fun cdv A outer s H E B => ?_
  exact (ppss_cons (pst 1 B.nd (k_tuple (ppa_cons (pp_sortedSet false B.calm gl hs.m_sorted gl hs.m_set (pp_lc false (own := [("_law_turn", 5)]) B.calm B.nd (ppi_range1 gl hs.m_range (ppa_cons (k_def (cal__law_grab hs) B.room (by decide) B.gd B.tk (ppa_cons (pv 0) (ppa_cons pp_int ppa_nil))) ppa_nil)) (blkOk_by (by kernel_rfl)) (by decide) (fun _ _ _ _ _ => (pgn 5 B.nd)) (fun _ _ _ _ _ => ppts_nil) (fun _ _ _ _ _ => (k_def (cal__law_grab hs) B.room (by decide) B.gd takes0 (ppa_cons (pv 0) (ppa_cons (k_def (cal__law_one_of hs) B.room (by decide) B.gd takes0 (ppa_cons (pv 0) (ppa_cons (pp_lst false (ppa_cons pp_int (ppa_cons pp_int (ppa_cons (pp_pow pp_int pp_int) ppa_nil)))) ppa_nil))) ppa_nil)))))) ppa_nil) hs.m_tuple)) (ppss_cons (ppar 3 4 B.calm B.nd (ppa_cons (k_def (cal__law_grab hs) B.room (by decide) B.gd B.tk (ppa_cons (pv 0) (ppa_cons (pp_add (k_len (ppa_cons (pv 1) ppa_nil) hs.m_len) pp_int) ppa_nil))) (ppa_cons (k_def (cal__law_one_of hs) B.room (by decide) B.gd B.tk (ppa_cons (pv 0) (ppa_cons (pp_lst false (ppa_cons (pp_sub pp_int pp_int) (ppa_cons pp_bl (ppa_cons pp_non (ppa_cons (psS [48]) (ppa_cons (pp_pow pp_int pp_int) (ppa_cons (pp_tup (ppa_cons pp_int ppa_nil)) (ppa_cons pp_int (ppa_cons (pp_sub (pp_pow pp_int pp_int) pp_int) ppa_nil))))))))) ppa_nil))) ppa_nil))) (ppss_cons (pst 2 B.nd (pp_lst false (ppa_cons (pv 1) (ppa_cons (pp_rev (pv 1)) (ppa_cons (pp_add (pv 1) (pp_slice (pv 1) ppo_none (ppo_some pp_int))) (ppa_cons (pp_add (pp_slice (pv 1) ppo_none (ppo_some (pv 3))) (pp_slice (pv 1) (ppo_some (pp_add (pv 3) pp_int)) ppo_none)) (ppa_cons (pp_add (pp_add (pp_slice (pv 1) ppo_none (ppo_some (pv 3))) (pp_tup (ppa_cons (pv 4) ppa_nil))) (pp_slice (pv 1) (ppo_some (pv 3)) ppo_none)) (ppa_cons (pp_list false gl hs.m_list (ppa_cons (pv 1) ppa_nil)) (ppa_cons (pp_tup (ppa_cons (pv 4) ppa_nil)) (ppa_cons (pp_tup ppa_nil) ppa_nil)))))))))) (ppss_cons (pst 2 B.nd (pp_add (pv 2) (pp_lst false (ppa_cons (k_tuple (ppa_cons (pp_sorted false B.hu gl hs.m_sorted (ppa_cons (pp_add (pv 1) (pp_slice (pv 1) ppo_none (ppo_some pp_int))) ppa_nil)) ppa_nil) hs.m_tuple) (ppa_cons (pp_add (pv 1) (pp_tup (ppa_cons (pp_sub (pp_pow pp_int pp_int) pp_int) ppa_nil))) (ppa_cons (pp_add (pv 1) (pp_tup (ppa_cons (pp_pow pp_int pp_int) ppa_nil))) (ppa_cons (pp_add (pp_tup (ppa_cons (pp_sub pp_int pp_int) ppa_nil)) (pv 1)) (ppa_cons (pp_dict1I (v := .int 1) pe_int (fun _ _ => .int 1)) (ppa_cons (psS [48, 49]) ppa_nil))))))))) (ppss_one (pps_ret (pp_add (pv 2) (pp_lst false (ppa_cons pp_non (ppa_cons pp_int (ppa_cons (pp_lst false ppa_nil) (ppa_cons (pp_tup (ppa_cons (pp_tup (ppa_cons pp_int ppa_nil)) ppa_nil)) (ppa_cons (pp_tup (ppa_cons pp_int (ppa_cons pp_int (ppa_cons pp_int (ppa_cons pp_int ppa_nil))))) (ppa_cons (pp_tup (ppa_cons pp_int (ppa_cons pp_int ppa_nil))) (ppa_cons (pp_tup (ppa_cons pp_int (ppa_cons pp_int ppa_nil))) (ppa_cons (pp_tup (ppa_cons pp_bl (ppa_cons pp_int ppa_nil))) ppa_nil))))))))))))))))
theorem sc__law_numbers : FnScope ["_law_sack_here", "_law_cell", "_law_great", "_law_near"] ["_law_sack_here", "_law_cell"] (defScope st__law_numbers) := ⟨rfl, rfl, rfl, by decide +kernel, rfl, by decide +kernel, by decide +kernel⟩
theorem bd__law_numbers {K : PySem.W.Frag} {f : Addr} {fd : FuncData} (FD : FunD K "_law_numbers" "_law_numbers" (defArgs st__law_numbers) (defBody st__law_numbers) (defScope st__law_numbers) [] [] f fd) : Binds K fd ["_law_sack_here", "_law_cell"] [] := FD.bindsN fun _ _ _ _ _ _ us hl => match us, hl with | [_, _], _ => rfl
theorem cal__law_numbers {P : Program} {w : World} {K : PySem.W.Frag} {mg : Str → Option Value} {base : Heap} (hs : Hs K mg) : CalW P w K mg base T0 "_law_numbers" 2 F__law_numbers 2 := by
  obtain ⟨f, fd, FD, hm⟩ := hs.d__law_numbers
  refine cal_of FD sc__law_numbers rfl hm (bd__law_numbers FD) fun cdv A outer s H E B => ?_
  exact (ppss_cons (ppar 2 3 B.calm B.nd (ppa_cons (pp_mod (k_int (ppa_cons (pv 1) ppa_nil) hs.m_int) (pp_mul (pp_pow pp_int pp_int) (pp_pow pp_int pp_int))) (ppa_cons (pp_sub (pp_add (pp_pow pp_int pp_int) (k_def (cal__law_grab hs) B.room (by decide) B.gd B.tk (ppa_cons (pv 0) (ppa_cons pp_int ppa_nil)))) pp_int) ppa_nil))) (ppss_one (pps_ret (pp_lst false (ppa_cons (pv 2) (ppa_cons (pp_sub pp_int (pv 2)) (ppa_cons (pv 3) (ppa_cons (pp_sub pp_int (pv 3)) (ppa_cons (pp_pow pp_int pp_int) (ppa_cons (pp_sub pp_int (pp_pow pp_int pp_int)) (ppa_cons (pp_sub (pp_pow pp_int pp_int) pp_int) (ppa_cons (pp_sub pp_int (pp_pow pp_int pp_int)) (ppa_cons pp_int (ppa_cons (pp_sub pp_int pp_int) ppa_nil))))))))))))))
theorem sc__law_letter : FnScope ["_law_sack_here"] ["_law_sack_here"] (defScope st__law_letter) := ⟨rfl, rfl, rfl, by decide +kernel, rfl, by decide +kernel, by decide +kernel⟩
theorem bd__law_letter {K : PySem.W.Frag} {f : Addr} {fd : FuncData} (FD : FunD K "_law_letter" "_law_letter" (defArgs st__law_letter) (defBody st__law_letter) (defScope st__law_letter) [] [] f fd) : Binds K fd ["_law_sack_here"] [] := FD.bindsN fun _ _ _ _ _ _ us hl => match us, hl with | [_], _ => rfl
theorem cal__law_letter {P : Program} {w : World} {K : PySem.W.Frag} {mg : Str → Option Value} {base : Heap} (hs : Hs K mg) : CalW P w K mg base T0 "_law_letter" 1 F__law_letter 2 := by
  obtain ⟨f, fd, FD, hm⟩ := hs.d__law_letter
  refine cal_of FD sc__law_letter rfl hm (bd__law_letter FD) fun cdv A outer s H E B => ?_
  exact (ppss_one (pps_ret (pp_ix (psS [97, 98, 99, 100, 101, 102, 103, 104, 105, 106, 107, 108, 109, 110, 111, 112, 113, 114, 115, 116, 117, 118, 119, 120, 121, 122]) (k_def (cal__law_grab hs) B.room (by decide) B.gd B.tk (ppa_cons (pv 0) (ppa_cons pp_int ppa_nil))))))
theorem sc__law_texts : FnScope ["_law_sack_here", "_law_found", "_law_turn", "_law_text", "_law_spot", "_law_odd", "_law_at"] ["_law_sack_here"] (defScope st__law_texts) := ⟨rfl, rfl, rfl, by decide +kernel, rfl, by decide +kernel, by decide +kernel⟩
theorem bd__law_texts {K : PySem.W.Frag} {f : Addr} {fd : FuncData} (FD : FunD K "_law_texts" "_law_texts" (defArgs st__law_texts) (defBody st__law_texts) (defScope st__law_texts) [] [] f fd) : Binds K fd ["_law_sack_here"] [] := FD.bindsN fun _ _ _ _ _ _ us hl => match us, hl with | [_], _ => rfl
theorem cal__law_texts {P : Program} {w : World} {K : PySem.W.Frag} {mg : Str → Option Value} {base : Heap} (hs : Hs K mg) : CalW P w K mg base T0 "_law_texts" 1 F__law_texts 3 := by
  obtain ⟨f, fd, FD, hm⟩ := hs.d__law_texts
  refine cal_of FD sc__law_texts rfl hm (bd__law_texts FD) fun cdv A outer s H E B => ?_
  exact (ppss_cons (pst 1 B.nd (pp_lst false ppa_nil)) (ppss_cons (pps_for B.own B.calm (ppi_range1 gl hs.m_range (ppa_cons pp_int ppa_nil)) (pgn 2 B.nd) (ppss_cons (pst 3 B.nd (pp_join0 (psS []) (pp_lc false (own := [("_law_at", 6)]) B.calm B.nd (ppi_range1 gl hs.m_range (ppa_cons (k_def (cal__law_grab hs) B.room (by decide) B.gd B.tk (ppa_cons (pv 0) (ppa_cons pp_int ppa_nil))) ppa_nil)) (blkOk_by (by kernel_rfl)) (by decide) (fun _ _ _ _ _ => (pgn 6 B.nd)) (fun _ _ _ _ _ => ppts_nil) (fun _ _ _ _ _ => (k_def (cal__law_letter hs) B.room (by decide) B.gd takes0 (ppa_cons (pv 0) ppa_nil)))))) (ppss_cons (pst 4 B.nd (k_def (cal__law_grab hs) B.room (by decide) B.gd B.tk (ppa_cons (pv 0) (ppa_cons (pp_add (k_len (ppa_cons (pv 3) ppa_nil) hs.m_len) pp_int) ppa_nil)))) (ppss_cons (pst 5 B.nd (k_def (cal__law_one_of hs) B.room (by decide) B.gd B.tk (ppa_cons (pv 0) (ppa_cons (pp_lst false (ppa_cons (psS [65]) (ppa_cons (psS [90]) (ppa_cons (psS [55]) (ppa_cons (psS [32]) (ppa_cons (psS [95]) (ppa_cons (psS [10]) (ppa_cons (psS [64]) (ppa_cons (psS [63]) (ppa_cons (psS [96]) (ppa_cons (psS [123]) (ppa_cons (psS [46]) (ppa_cons (psS [42]) ppa_nil))))))))))))) ppa_nil)))) (ppss_one (pst 1 B.nd (pp_add (pv 1) (pp_lst false (ppa_cons (pv 3) (ppa_cons (pp_add (pp_add (pp_slice (pv 3) ppo_none (ppo_some (pv 4))) (pv 5)) (pp_slice (pv 3) (ppo_some (pv 4)) ppo_none)) (ppa_cons (pp_add (pp_add (pp_slice (pv 3) ppo_none (ppo_some (pv 4))) (pv 5)) (pp_slice (pv 3) (ppo_some (pp_add (pv 4) pp_int)) ppo_none)) ppa_nil))))))))))) (ppss_one (pps_ret (pv 1)))))
theorem sc_is_integer : FnScope ["value"] ["value"] (defScope st_is_integer) := ⟨rfl, rfl, rfl, by decide +kernel, rfl, by decide +kernel, by decide +kernel⟩
theorem bd_is_integer {K : PySem.W.Frag} {f : Addr} {fd : FuncData} (FD : FunD K "is_integer" "is_integer" (defArgs st_is_integer) (defBody st_is_integer) (defScope st_is_integer) [] [] f fd) : Binds K fd ["value"] [] := FD.bindsN fun _ _ _ _ _ _ us hl => match us, hl with | [_], _ => rfl
theorem cal_is_integer {P : Program} {w : World} {K : PySem.W.Frag} {mg : Str → Option Value} {base : Heap} (hs : Hs K mg) : CalW P w K mg base T0 "is_integer" 1 F_is_integer 1 := by
  obtain ⟨f, fd, FD, hm⟩ := hs.d_is_integer
  refine cal_of FD sc_is_integer rfl hm (bd_is_integer FD) fun cdv A outer s H E B => ?_
  exact (ppss_one (pps_ret (pp_and (k_isi .int hs.m_isinstance hs.m_int (by decide) (pv 0)) (pp_and (pp_not (k_isi .bl hs.m_isinstance hs.m_bool (by decide) (pv 0))) (pp_one (c_lele B.hu (pp_neg (pgI hs.c_GREATEST)) (pv 0) (pgI hs.c_GREATEST)))))))
theorem sc_is_name : FnScope ["value", "letter"] ["value"] (defScope st_is_name) := ⟨rfl, rfl, rfl, by decide +kernel, rfl, by decide +kernel, by decide +kernel⟩
theorem bd_is_name {K : PySem.W.Frag} {f : Addr} {fd : FuncData} (FD : FunD K "is_name" "is_name" (defArgs st_is_name) (defBody st_is_name) (defScope st_is_name) [] [] f fd) : Binds K fd ["value"] [] := FD.bindsN fun _ _ _ _ _ _ us hl => match us, hl with | [_], _ => rfl
theorem cal_is_name {P : Program} {w : World} {K : PySem.W.Frag} {mg : Str → Option Value} {base : Heap} (hs : Hs K mg) : CalW P w K mg base T0 "is_name" 1 F_is_name 1 := by
  obtain ⟨f, fd, FD, hm⟩ := hs.d_is_name
  refine cal_of FD sc_is_name rfl hm (bd_is_name FD) fun cdv A outer s H E B => ?_
  exact (ppss_cons (pps_if (ppt_w (ppw_or (ppt_not (ppt_val (k_isi .str hs.m_isinstance hs.m_str (by decide) (pv 0)))) (ppw_one (ppt_not (t_lele B.hu pp_int (k_len (ppa_cons (pv 0) ppa_nil) hs.m_len) (pgI hs.c_MAX_LETTERS)))))) (ppss_one (pps_ret pp_bl)) ppss_nil) (ppss_one (pps_ret (k_all (ppa_cons (pp_lc false (own := [("letter", 1)]) B.calm B.nd (ppi_val (pv 0)) (blkOk_by (by kernel_rfl)) (by decide) (fun _ _ _ _ _ => (pgn 1 B.nd)) (fun _ _ _ _ _ => ppts_nil) (fun _ _ _ _ _ => (c_lele B.hu (psS [97]) (pv 1) (psS [122])))) ppa_nil) B.calm hs.m_all))))
theorem sc_are_ascending : FnScope ["values", "one", "other"] ["values"] (defScope st_are_ascending) := ⟨rfl, rfl, rfl, by decide +kernel, rfl, by decide +kernel, by decide +kernel⟩
theorem bd_are_ascending {K : PySem.W.Frag} {f : Addr} {fd : FuncData} (FD : FunD K "are_ascending" "are_ascending" (defArgs st_are_ascending) (defBody st_are_ascending) (defScope st_are_ascending) [] [] f fd) : Binds K fd ["values"] [] := FD.bindsN fun _ _ _ _ _ _ us hl => match us, hl with | [_], _ => rfl
theorem cal_are_ascending {P : Program} {w : World} {K : PySem.W.Frag} {mg : Str → Option Value} {base : Heap} (hs : Hs K mg) : CalW P w K mg base T0 "are_ascending" 1 F_are_ascending 1 := by
  obtain ⟨f, fd, FD, hm⟩ := hs.d_are_ascending
  refine cal_of FD sc_are_ascending rfl hm (bd_are_ascending FD) fun cdv A outer s H E B => ?_
  exact (ppss_one (pps_ret (k_all (ppa_cons (pp_lc false (own := [("one", 1), ("other", 2)]) B.calm B.nd (ppi_zip gl hs.m_zip (ppa_cons (pv 0) (ppa_cons (pp_slice (pv 0) (ppo_some pp_int) ppo_none) ppa_nil))) (blkOk_by (by kernel_rfl)) (by decide) (fun _ _ _ _ _ => (ppg_tup B.calm (ppgs_cons (pgn 1 B.nd) (ppgs_cons (pgn 2 B.nd) ppgs_nil)))) (fun _ _ _ _ _ => ppts_nil) (fun _ _ _ _ _ => (c_lt B.hu (pv 1) (pv 2)))) ppa_nil) B.calm hs.m_all)))
theorem sc_is_count : FnScope ["value"] ["value"] (defScope st_is_count) := ⟨rfl, rfl, rfl, by decide +kernel, rfl, by decide +kernel, by decide +kernel⟩
theorem bd_is_count {K : PySem.W.Frag} {f : Addr} {fd : FuncData} (FD : FunD K "is_count" "is_count" (defArgs st_is_count) (defBody st_is_count) (defScope st_is_count) [] [] f fd) : Binds K fd ["value"] [] := FD.bindsN fun _ _ _ _ _ _ us hl => match us, hl with | [_], _ => rfl
theorem cal_is_count {P : Program} {w : World} {K : PySem.W.Frag} {mg : Str → Option Value} {base : Heap} (hs : Hs K mg) : CalW P w K mg base T0 "is_count" 1 F_is_count 2 := by
  obtain ⟨f, fd, FD, hm⟩ := hs.d_is_count
  refine cal_of FD sc_is_count rfl hm (bd_is_count FD) fun cdv A outer s H E B => ?_
  exact (ppss_one (pps_ret (pp_and (k_def (cal_is_integer hs) B.room (by decide) B.gd B.tk (ppa_cons (pv 0) ppa_nil)) (pp_one (c_ge B.hu (pv 0) pp_int)))))
theorem sc_is_set : FnScope ["value", "number"] ["value"] (defScope st_is_set) := ⟨rfl, rfl, rfl, by decide +kernel, rfl, by decide +kernel, by decide +kernel⟩
theorem bd_is_set {K : PySem.W.Frag} {f : Addr} {fd : FuncData} (FD : FunD K "is_set" "is_set" (defArgs st_is_set) (defBody st_is_set) (defScope st_is_set) [] [] f fd) : Binds K fd ["value"] [] := FD.bindsN fun _ _ _ _ _ _ us hl => match us, hl with | [_], _ => rfl
theorem cal_is_set {P : Program} {w : World} {K : PySem.W.Frag} {mg : Str → Option Value} {base : Heap} (hs : Hs K mg) : CalW P w K mg base T0 "is_set" 1 F_is_set 3 := by
  obtain ⟨f, fd, FD, hm⟩ := hs.d_is_set
  refine cal_of FD sc_is_set rfl hm (bd_is_set FD) fun cdv A outer s H E B => ?_
  exact (ppss_one (pps_ret (pp_and (k_isi .tup hs.m_isinstance hs.m_tuple (by decide) (pv 0)) (pp_and (k_all (ppa_cons (pp_lc false (own := [("number", 1)]) B.calm B.nd (ppi_val (pv 0)) (blkOk_by (by kernel_rfl)) (by decide) (fun _ _ _ _ _ => (pgn 1 B.nd)) (fun _ _ _ _ _ => ppts_nil) (fun _ _ _ _ _ => (k_def (cal_is_count hs) B.room (by decide) B.gd takes0 (ppa_cons (pv 1) ppa_nil)))) ppa_nil) B.calm hs.m_all) (pp_one (k_def (cal_are_ascending hs) B.room (by decide) B.gd B.tk (ppa_cons (pv 0) ppa_nil)))))))
theorem sc__law_is_short : FnScope ["_law_value"] ["_law_value"] (defScope st__law_is_short) := ⟨rfl, rfl, rfl, by decide +kernel, rfl, by decide +kernel, by decide +kernel⟩
theorem bd__law_is_short {K : PySem.W.Frag} {f : Addr} {fd : FuncData} (FD : FunD K "_law_is_short" "_law_is_short" (defArgs st__law_is_short) (defBody st__law_is_short) (defScope st__law_is_short) [] [] f fd) : Binds K fd ["_law_value"] [] := FD.bindsN fun _ _ _ _ _ _ us hl => match us, hl with | [_], _ => rfl
theorem cal__law_is_short {P : Program} {w : World} {K : PySem.W.Frag} {mg : Str → Option Value} {base : Heap} (hs : Hs K mg) : CalW P w K mg base T0 "_law_is_short" 1 F__law_is_short 1 := by
  obtain ⟨f, fd, FD, hm⟩ := hs.d__law_is_short
  refine cal_of FD sc__law_is_short rfl hm (bd__law_is_short FD) fun cdv A outer s H E B => ?_
  exact (ppss_one (pps_ret (pp_and (k_isi .int hs.m_isinstance hs.m_int (by decide) (pv 0)) (pp_and (pp_not (k_isi .bl hs.m_isinstance hs.m_bool (by decide) (pv 0))) (pp_and (c_lt B.hu (pp_sub pp_int (pp_pow pp_int pp_int)) (pv 0)) (pp_one (c_lt B.hu (pv 0) (pp_pow pp_int pp_int))))))))
theorem sc__law_is_name : FnScope ["_law_value", "_law_sign"] ["_law_value"] (defScope st__law_is_name) := ⟨rfl, rfl, rfl, by decide +kernel, rfl, by decide +kernel, by decide +kernel⟩
theorem bd__law_is_name {K : PySem.W.Frag} {f : Addr} {fd : FuncData} (FD : FunD K "_law_is_name" "_law_is_name" (defArgs st__law_is_name) (defBody st__law_is_name) (defScope st__law_is_name) [] [] f fd) : Binds K fd ["_law_value"] [] := FD.bindsN fun _ _ _ _ _ _ us hl => match us, hl with | [_], _ => rfl
theorem cal__law_is_name {P : Program} {w : World} {K : PySem.W.Frag} {mg : Str → Option Value} {base : Heap} (hs : Hs K mg) : CalW P w K mg base T0 "_law_is_name" 1 F__law_is_name 1 := by
  obtain ⟨f, fd, FD, hm⟩ := hs.d__law_is_name
  refine cal_of FD sc__law_is_name rfl hm (bd__law_is_name FD) fun cdv A outer s H E B => ?_
  exact (ppss_cons (pps_if (ppt_w (ppw_or (ppt_not (ppt_val (k_isi .str hs.m_isinstance hs.m_str (by decide) (pv 0)))) (ppw_or (t_eq B.hu (k_len (ppa_cons (pv 0) ppa_nil) hs.m_len) pp_int) (ppw_one (t_gt B.hu (k_len (ppa_cons (pv 0) ppa_nil) hs.m_len) pp_int))))) (ppss_one (pps_ret pp_bl)) ppss_nil) (ppss_one (pps_ret (c_eq B.hu (pp_lc false (own := [("_law_sign", 1)]) B.calm B.nd (ppi_val (pv 0)) (blkOk_by (by kernel_rfl)) (by decide) (fun _ _ _ _ _ => (pgn 1 B.nd)) (fun _ _ _ _ _ => (ppts_one (t_nins (pv 1) (psS [97, 98, 99, 100, 101, 102, 103, 104, 105, 106, 107, 108, 109, 110, 111, 112, 113, 114, 115, 116, 117, 118, 119, 120, 121, 122])))) (fun _ _ _ _ _ => (pv 1))) (pp_lst false ppa_nil)))))
theorem sc__law_is_number_set : FnScope ["_law_value", "_law_one"] ["_law_value"] (defScope st__law_is_number_set) := ⟨rfl, rfl, rfl, by decide +kernel, rfl, by decide +kernel, by decide +kernel⟩
theorem bd__law_is_number_set {K : PySem.W.Frag} {f : Addr} {fd : FuncData} (FD : FunD K "_law_is_number_set" "_law_is_number_set" (defArgs st__law_is_number_set) (defBody st__law_is_number_set) (defScope st__law_is_number_set) [] [] f fd) : Binds K fd ["_law_value"] [] := FD.bindsN fun _ _ _ _ _ _ us hl => match us, hl with | [_], _ => rfl
theorem cal__law_is_number_set {P : Program} {w : World} {K : PySem.W.Frag} {mg : Str → Option Value} {base : Heap} (hs : Hs K mg) : CalW P w K mg base T0 "_law_is_number_set" 1 F__law_is_number_set 2 := by
  obtain ⟨f, fd, FD, hm⟩ := hs.d__law_is_number_set
  refine cal_of FD sc__law_is_number_set rfl hm (bd__law_is_number_set FD) fun cdv A outer s H E B => ?_
  exact (ppss_cons (pps_if (ppt_w (ppw_or (ppt_not (ppt_val (k_isi .tup hs.m_isinstance hs.m_tuple (by decide) (pv 0)))) (ppw_one (t_ne B.hu (pp_lc false (own := [("_law_one", 1)]) B.calm B.nd (ppi_val (pv 0)) (blkOk_by (by kernel_rfl)) (by decide) (fun _ _ _ _ _ => (pgn 1 B.nd)) (fun _ _ _ _ _ => (ppts_one (ppt_w (ppw_or (ppt_not (ppt_val (k_def (cal__law_is_short hs) B.room (by decide) B.gd takes0 (ppa_cons (pv 1) ppa_nil)))) (ppw_one (t_lt B.hu (pv 1) pp_int)))))) (fun _ _ _ _ _ => (pv 1))) (pp_lst false ppa_nil))))) (ppss_one (pps_ret pp_bl)) ppss_nil) (ppss_one (pps_ret (c_eq B.hu (pp_list false gl hs.m_list (ppa_cons (pv 0) ppa_nil)) (pp_sortedSet false B.calm gl hs.m_sorted gl hs.m_set (pv 0))))))
theorem sc__law_cell_right : FnScope ["_law_script", "_law_at", "_law_values", "_law_turn", "_law_sack_here", "_law_cell", "_law_value", "_law_found", "_law_due"] ["_law_script", "_law_at"] (defScope st__law_cell_right) := ⟨rfl, rfl, rfl, by decide +kernel, rfl, by decide +kernel, by decide +kernel⟩
theorem bd__law_cell_right {K : PySem.W.Frag} {f : Addr} {fd : FuncData} (FD : FunD K "_law_cell_right" "_law_cell_right" (defArgs st__law_cell_right) (defBody st__law_cell_right) (defScope st__law_cell_right) [] [] f fd) : Binds K fd ["_law_script", "_law_at"] [] := FD.bindsN fun _ _ _ _ _ _ us hl => match us, hl with | [_, _], _ => rfl
theorem cal__law_cell_right {P : Program} {w : World} {K : PySem.W.Frag} {mg : Str → Option Value} {base : Heap} (hs : Hs K mg) : CalW P w K mg base T0 "_law_cell_right" 2 F__law_cell_right 4 := by
  obtain ⟨f, fd, FD, hm⟩ := hs.d__law_cell_right
  refine cal_of FD sc__law_cell_right rfl hm (bd__law_cell_right FD) fun cdv A outer s H E B => ?_
  exact (ppss_cons (ppar 4 5 B.calm B.nd (ppa_cons (k_def (cal__law_sack hs) B.room (by decide) B.gd B.tk (ppa_cons (pv 0) (ppa_cons (pv 1) ppa_nil))) (ppa_cons (pp_add (pp_mul pp_int (pv 1)) pp_int) ppa_nil))) (ppss_cons (pps_if (t_lt B.hu (pv 1) (k_len (ppa_cons (pv 0) ppa_nil) hs.m_len)) (ppss_one (pst 5 B.nd (pp_ix (pv 0) (pv 1)))) ppss_nil) (ppss_cons (pst 2 B.nd (pp_add (pp_add (k_def (cal__law_numbers hs) B.room (by decide) B.gd B.tk (ppa_cons (pv 4) (ppa_cons (pv 5) ppa_nil))) (k_def (cal__law_texts hs) B.room (by decide) B.gd B.tk (ppa_cons (pv 4) ppa_nil))) (k_def (cal__law_tuples hs) B.room (by decide) B.gd B.tk (ppa_cons (pv 4) ppa_nil)))) (ppss_cons (pst 2 B.nd (pp_add (pv 2) (pp_lst false (ppa_cons pp_bl (ppa_cons pp_bl (ppa_cons pp_non (ppa_cons (psS [49]) (ppa_cons (pp_lst false ppa_nil) (ppa_cons pp_dict0 (ppa_cons (pp_tup (ppa_cons (pp_lst false ppa_nil) ppa_nil)) (ppa_cons (pp_tup (ppa_cons pp_int ppa_nil)) (ppa_cons (pp_tup (ppa_cons pp_non ppa_nil)) (ppa_cons (pp_lst false (ppa_cons pp_int ppa_nil)) (ppa_cons (pp_dict1S (z := [97]) (v := .int 1) (by kernel_rfl) (by kernel_rfl) pe_int (fun _ _ => .int 1)) (ppa_cons (psS [97, 98, 99, 100, 101, 102, 103, 104]) (ppa_cons (psS [97, 98, 99, 100, 101, 102, 103, 104, 105]) ppa_nil)))))))))))))))) (ppss_cons (pps_for B.own B.calm (ppi_range1 gl hs.m_range (ppa_cons pp_int ppa_nil)) (pgn 3 B.nd) (ppss_one (pps_for B.own B.calm (ppi_val (pv 2)) (pgn 6 B.nd) (ppss_cons (pst 7 B.nd (pp_lst false (ppa_cons (k_def (cal_is_integer hs) B.room (by decide) B.gd B.tk (ppa_cons (pv 6) ppa_nil)) (ppa_cons (k_def (cal_is_name hs) B.room (by decide) B.gd B.tk (ppa_cons (pv 6) ppa_nil)) (ppa_cons (k_def (cal_is_set hs) B.room (by decide) B.gd B.tk (ppa_cons (pv 6) ppa_nil)) ppa_nil))))) (ppss_cons (pst 8 B.nd (pp_lst false (ppa_cons (k_def (cal__law_is_short hs) B.room (by decide) B.gd B.tk (ppa_cons (pv 6) ppa_nil)) (ppa_cons (k_def (cal__law_is_name hs) B.room (by decide) B.gd B.tk (ppa_cons (pv 6) ppa_nil)) (ppa_cons (k_def (cal__law_is_number_set hs) B.room (by decide) B.gd B.tk (ppa_cons (pv 6) ppa_nil)) ppa_nil))))) (ppss_one (pps_if (t_ne B.hu (k_repr (ppa_cons (pv 7) ppa_nil) B.hu B.gd hs.m_repr) (k_repr (ppa_cons (pv 8) ppa_nil) B.hu B.gd hs.m_repr)) (ppss_one (pps_ret pp_bl)) ppss_nil))))))) (ppss_one (pps_ret pp_bl)))))))
theorem sc_law : FnScope ["_law_script", "_law_at"] ["_law_script"] (defScope st_law) := ⟨rfl, rfl, rfl, by decide +kernel, rfl, by decide +kernel, by decide +kernel⟩
theorem bd_law {K : PySem.W.Frag} {f : Addr} {fd : FuncData} (FD : FunD K "law" "law" (defArgs st_law) (defBody st_law) (defScope st_law) [] [] f fd) : Binds K fd ["_law_script"] [] := FD.bindsN fun _ _ _ _ _ _ us hl => match us, hl with | [_], _ => rfl
theorem fng_law {P : Program} {w : World} {K : PySem.W.Frag} {mg : Str → Option Value} {base : Heap} {f : Addr} {fd : FuncData} (hs : Hs K mg) (FD : FunD K "law" "law" (defArgs st_law) (defBody st_law) (defScope st_law) [] [] f fd) : FnG P w K mg base 5 f fd ["_law_script"] (spF ⟨K, P, w, T0⟩ 1 F_law) := by
  refine fng_cal FD sc_law rfl fun cdv A outer s H E B => ?_
  exact (ppss_cons (pps_if (t_ne B.hu (pgI hs.c_MAX_LETTERS) pp_int) (ppss_one (pps_ret pp_bl)) ppss_nil) (ppss_cons (pps_for B.own B.calm (ppi_range1 gl hs.m_range (ppa_cons (k_max (ppa_cons pp_int (ppa_cons (k_min (ppa_cons pp_int (ppa_cons (k_len (ppa_cons (pv 0) ppa_nil) hs.m_len) ppa_nil)) B.calm hs.m_min) ppa_nil)) B.calm hs.m_max) ppa_nil)) (pgn 1 B.nd) (ppss_one (pps_if (ppt_not (ppt_val (k_def (cal__law_cell_right hs) B.room (by decide) B.gd B.tk (ppa_cons (pv 0) (ppa_cons (pv 1) ppa_nil))))) (ppss_one (pps_ret pp_bl)) ppss_nil))) (ppss_one (pps_ret pp_bl))))
theorem hs_of {K : PySem.W.Frag} {h : Heap} {mg : Str → Option Value} (X : K.In h) (G : h.Ns mainGlobals mg) (c : He.SaysD fa fn K) : Hs K mg where
  d__law_sack := by
    obtain ⟨fd, F⟩ := c.def_ 5 (d := d__law_sack) rfl
    exact ⟨_, fd, F, He.glo_ok X G (c.fact 5 (f := .glo "_law_sack") rfl)⟩
  d__law_grab := by
    obtain ⟨fd, F⟩ := c.def_ 6 (d := d__law_grab) rfl
    exact ⟨_, fd, F, He.glo_ok X G (c.fact 6 (f := .glo "_law_grab") rfl)⟩
  d__law_one_of := by
    obtain ⟨fd, F⟩ := c.def_ 7 (d := d__law_one_of) rfl
    exact ⟨_, fd, F, He.glo_ok X G (c.fact 7 (f := .glo "_law_one_of") rfl)⟩
  d__law_tuples := by
    obtain ⟨fd, F⟩ := c.def_ 14 (d := d__law_tuples) rfl
    exact ⟨_, fd, F, He.glo_ok X G (c.fact 14 (f := .glo "_law_tuples") rfl)⟩
  d__law_numbers := by
    obtain ⟨fd, F⟩ := c.def_ 11 (d := d__law_numbers) rfl
    exact ⟨_, fd, F, He.glo_ok X G (c.fact 11 (f := .glo "_law_numbers") rfl)⟩
  d__law_letter := by
    obtain ⟨fd, F⟩ := c.def_ 8 (d := d__law_letter) rfl
    exact ⟨_, fd, F, He.glo_ok X G (c.fact 8 (f := .glo "_law_letter") rfl)⟩
  d__law_texts := by
    obtain ⟨fd, F⟩ := c.def_ 12 (d := d__law_texts) rfl
    exact ⟨_, fd, F, He.glo_ok X G (c.fact 12 (f := .glo "_law_texts") rfl)⟩
  d_is_integer := by
    obtain ⟨fd, F⟩ := c.def_ 0 (d := d_is_integer) rfl
    exact ⟨_, fd, F, He.glo_ok X G (c.fact 0 (f := .glo "is_integer") rfl)⟩
  d_is_name := by
    obtain ⟨fd, F⟩ := c.def_ 2 (d := d_is_name) rfl
    exact ⟨_, fd, F, He.glo_ok X G (c.fact 2 (f := .glo "is_name") rfl)⟩
  d_are_ascending := by
    obtain ⟨fd, F⟩ := c.def_ 3 (d := d_are_ascending) rfl
    exact ⟨_, fd, F, He.glo_ok X G (c.fact 3 (f := .glo "are_ascending") rfl)⟩
  d_is_count := by
    obtain ⟨fd, F⟩ := c.def_ 1 (d := d_is_count) rfl
    exact ⟨_, fd, F, He.glo_ok X G (c.fact 1 (f := .glo "is_count") rfl)⟩
  d_is_set := by
    obtain ⟨fd, F⟩ := c.def_ 4 (d := d_is_set) rfl
    exact ⟨_, fd, F, He.glo_ok X G (c.fact 4 (f := .glo "is_set") rfl)⟩
  d__law_is_short := by
    obtain ⟨fd, F⟩ := c.def_ 10 (d := d__law_is_short) rfl
    exact ⟨_, fd, F, He.glo_ok X G (c.fact 10 (f := .glo "_law_is_short") rfl)⟩
  d__law_is_name := by
    obtain ⟨fd, F⟩ := c.def_ 9 (d := d__law_is_name) rfl
    exact ⟨_, fd, F, He.glo_ok X G (c.fact 9 (f := .glo "_law_is_name") rfl)⟩
  d__law_is_number_set := by
    obtain ⟨fd, F⟩ := c.def_ 13 (d := d__law_is_number_set) rfl
    exact ⟨_, fd, F, He.glo_ok X G (c.fact 13 (f := .glo "_law_is_number_set") rfl)⟩
  d__law_cell_right := by
    obtain ⟨fd, F⟩ := c.def_ 15 (d := d__law_cell_right) rfl
    exact ⟨_, fd, F, He.glo_ok X G (c.fact 15 (f := .glo "_law_cell_right") rfl)⟩
  d_law := by
    obtain ⟨fd, F⟩ := c.def_ 16 (d := d_law) rfl
    exact ⟨_, fd, F, He.glo_ok X G (c.fact 16 (f := .glo "law") rfl)⟩
  m_abs := He.free_ok X G (c.fact 17 (f := .free "abs") rfl)
  m_all := He.free_ok X G (c.fact 18 (f := .free "all") rfl)
  m_bool := He.free_ok X G (c.fact 19 (f := .free "bool") rfl)
  m_int := He.free_ok X G (c.fact 20 (f := .free "int") rfl)
  m_isinstance := He.free_ok X G (c.fact 21 (f := .free "isinstance") rfl)
  m_len := He.free_ok X G (c.fact 22 (f := .free "len") rfl)
  m_list := He.free_ok X G (c.fact 23 (f := .free "list") rfl)
  m_max := He.free_ok X G (c.fact 24 (f := .free "max") rfl)
  m_min := He.free_ok X G (c.fact 25 (f := .free "min") rfl)
  m_range := He.free_ok X G (c.fact 26 (f := .free "range") rfl)
  m_repr := He.free_ok X G (c.fact 27 (f := .free "repr") rfl)
  m_set := He.free_ok X G (c.fact 28 (f := .free "set") rfl)
  m_sorted := He.free_ok X G (c.fact 29 (f := .free "sorted") rfl)
  m_str := He.free_ok X G (c.fact 30 (f := .free "str") rfl)
  m_tuple := He.free_ok X G (c.fact 31 (f := .free "tuple") rfl)
  m_zip := He.free_ok X G (c.fact 32 (f := .free "zip") rfl)
  c_MAX_LETTERS := He.int_ok X G (c.fact 33 (f := .int "MAX_LETTERS" (8)) rfl)
  c_GREATEST := He.int_ok X G (c.fact 34 (f := .int "GREATEST" (999999999999999999999999999999999999999999999999999999999999)) rfl)
end Pf

namespace Pf
open PySem PySem.Spec PyProof.Rows L2 Eg
/-! what the defs come to -/
theorem bindE {α β : Type} (m : M α) (f : α → M β) (st : Store) : (m >>= f) st = (match m st with | .ok a s => f a s | .exc e s => .exc e s | .bad => .bad) := rfl
theorem pureE {α : Type} (a : α) (st : Store) : M.pure a st = .ok a st := rfl
theorem iteE {α : Type} (c : Prop) [Decidable c] (f g : M α) (s : Store) : (if c then f else g) s = if c then f s else g s := by split <;> rfl
theorem szT (n : Nat) (h : n ≤ 100) : (n ≤ sizeLine) = True := eq_true (by rw [sizeLine_eq]; omega)
theorem asI_int (i : Int) (st : Store) : asI (.int i) st = .ok i st := rfl
theorem asB_bl (b : Bool) (st : Store) : asB (.bl b) st = .ok b st := rfl
theorem rdI (i : Int) (st : Store) : rd (.int i) st = .ok (.int i) st := rfl
theorem rdB (i : Bool) (st : Store) : rd (.bl i) st = .ok (.bl i) st := rfl
theorem rdN (st : Store) : rd .non st = .ok .non st := rfl
theorem rdS (i : List Nat) (st : Store) : rd (.str i) st = .ok (.str i) st := rfl
theorem rdT (i : List PV) (st : Store) : rd (.tup i) st = .ok (.tup i) st := rfl
theorem rdL (i : List PV) (st : Store) : rd (.lst i) st = .ok (.lst i) st := rfl
theorem rdD (i : List (PV × PV)) (st : Store) : rd (.dct i) st = .ok (.dct i) st := rfl
theorem rdC (i : List Int) (st : Store) : rd (.scr i) st = .ok (.scr i) st := rfl
theorem rdP {l : Nat} {xs : List PV} {st : Store} (h : st.get l = some (.lst xs)) : rd (.loc l) st = .ok (.lst xs) st := by
  have e : view st (.loc l) = some (.lst xs) := by show (st.get l).map Cell.view = _; rw [h]; rfl
  unfold rd
  rw [e]
  rfl
theorem g1E (g : PV → Option PV) (x : PV) (st : Store) : g1 g x st = (match rd x st with | .ok x' _ => (match g x' with | some z => .ok z st | none => .bad) | _ => .bad) := rfl
theorem g2E (g : PV → PV → Option PV) (x y : PV) (st : Store) : g2 g x y st = (match rd x st, rd y st with | .ok x' _, .ok y' _ => (match g x' y' with | some z => .ok z st | none => .bad) | _, _ => .bad) := rfl
theorem gN1E (g : List PV → Option PV) (xs : List PV) (st : Store) : gN1 g xs st = (match rds xs st with | .ok ys _ => (match g ys with | some z => .ok z st | none => .bad) | _ => .bad) := rfl
theorem ltI (i j : Int) : gLt (.int i) (.int j) = some (.bl (decide (i < j))) := by simp [gLt, okL, okE, isD, pdep, palk, okL.noNon, plt]
theorem leI (i j : Int) : gLe (.int i) (.int j) = some (.bl (decide (i ≤ j))) := by
  simp [gLe, okL, okE, isD, pdep, palk, okL.noNon, plt]
  rw [Bool.eq_iff_iff]; simp
theorem geI (i j : Int) : gGe (.int i) (.int j) = some (.bl (decide (j ≤ i))) := by
  simp [gGe, okL, okE, isD, pdep, palk, okL.noNon, plt]
  rw [Bool.eq_iff_iff]; simp
theorem gtI (i j : Int) : gGt (.int i) (.int j) = some (.bl (decide (j < i))) := by simp [gGt, okL, okE, isD, pdep, palk, okL.noNon, plt]
theorem eqI (i j : Int) : gEq (.int i) (.int j) = some (.bl (i == j)) := by simp [gEq, okE, isD, pdep, peq]
theorem neI (i j : Int) : gNe (.int i) (.int j) = some (.bl (!(i == j))) := by simp [gNe, okE, isD, pdep, peq]
theorem pow60 : gPow (.int 10) (.int 60) = some (.int (10 ^ 60)) := by
  have h : (Builtin.Int.intBits 10 : Int) * 60 ≤ 134217728 := by decide +kernel
  simp only [gPow, h]; rfl
/-! is_integer -/
def shortB : PV → Bool
  | .int i => decide (0 - 10 ^ 60 < i) && decide (i < 10 ^ 60)
  | _ => false
theorem ev_short (x : PV) (st : Store) (h : (tyN x).isSome = true) : F__law_is_short [x] st = .ok (.bl (shortB x)) st := by
  cases x with
  | int i =>
    by_cases h1 : -1000000000000000000000000000000000000000000000000000000000000 < i <;> by_cases h2 : i < 1000000000000000000000000000000000000000000000000000000000000 <;> simp [F__law_is_short, b__law_is_short, bindE, pureE, asI_int, szT, Nat.reduceLeDiff, Nat.zero_le, Cell.view, fnB, sSeq, sIf, sE, sRet, sNx, sAsg, sPar, sExpr, eT, bNot, bAnd, bOr, asB_bl, eVar, eC, Eg.e1, Eg.e2, Eg.e3, eAnd, eOr, eNot, eIf, aNil, aCons, eCall, eB, eLst, eTup, nw, g1E, g2E, rdI, rdB, rdN, rdS, rdT, rdL, rdD, gN, M.of, M.bad, List.map_cons, List.map_nil, List.length_cons, List.length_nil, List.replicate, List.nil_append, List.cons_append, List.getElem?_cons_zero, List.getElem?_cons_succ, List.set_cons_zero, List.set_cons_succ, Nat.sub_zero, Nat.reduceSub, Nat.reduceAdd, gN1E, rds, if_true, if_false, iteE, Bool.not_true, Bool.not_false, Bool.false_eq_true, reduceIte, ite_true, ite_false, gIsi, tyN, isiB, Eg.gSub, pow60, ltI, shortB, h1, h2]
  | _ => first | (cases h; done) | (simp [F__law_is_short, b__law_is_short, bindE, pureE, asI_int, szT, Nat.reduceLeDiff, Nat.zero_le, Cell.view, fnB, sSeq, sIf, sE, sRet, sNx, sAsg, sPar, sExpr, eT, bNot, bAnd, bOr, asB_bl, eVar, eC, Eg.e1, Eg.e2, Eg.e3, eAnd, eOr, eNot, eIf, aNil, aCons, eCall, eB, eLst, eTup, nw, g1E, g2E, rdI, rdB, rdN, rdS, rdT, rdL, rdD, gN, M.of, M.bad, List.map_cons, List.map_nil, List.length_cons, List.length_nil, List.replicate, List.nil_append, List.cons_append, List.getElem?_cons_zero, List.getElem?_cons_succ, List.set_cons_zero, List.set_cons_succ, Nat.sub_zero, Nat.reduceSub, Nat.reduceAdd, gN1E, rds, if_true, if_false, iteE, Bool.not_true, Bool.not_false, Bool.false_eq_true, reduceIte, ite_true, ite_false, rdC, gIsi, tyN, isiB, shortB])
theorem ev_integer (x : PV) (st : Store) (h : (tyN x).isSome = true) : F_is_integer [x] st = .ok (.bl (shortB x)) st := by
  cases x with
  | int i =>
    by_cases h1 : -999999999999999999999999999999999999999999999999999999999999 ≤ i <;> by_cases h2 : i ≤ 999999999999999999999999999999999999999999999999999999999999 <;> simp [F_is_integer, b_is_integer, bindE, pureE, asI_int, szT, Nat.reduceLeDiff, Nat.zero_le, Cell.view, fnB, sSeq, sIf, sE, sRet, sNx, sAsg, sPar, sExpr, eT, bNot, bAnd, bOr, asB_bl, eVar, eC, Eg.e1, Eg.e2, Eg.e3, eAnd, eOr, eNot, eIf, aNil, aCons, eCall, eB, eLst, eTup, nw, g1E, g2E, rdI, rdB, rdN, rdS, rdT, rdL, rdD, gN, M.of, M.bad, List.map_cons, List.map_nil, List.length_cons, List.length_nil, List.replicate, List.nil_append, List.cons_append, List.getElem?_cons_zero, List.getElem?_cons_succ, List.set_cons_zero, List.set_cons_succ, Nat.sub_zero, Nat.reduceSub, Nat.reduceAdd, gN1E, rds, if_true, if_false, iteE, Bool.not_true, Bool.not_false, Bool.false_eq_true, reduceIte, ite_true, ite_false, gIsi, tyN, isiB, gNeg, leI, shortB, h1, h2] <;> omega
  | _ => first | (cases h; done) | (simp [F_is_integer, b_is_integer, bindE, pureE, asI_int, szT, Nat.reduceLeDiff, Nat.zero_le, Cell.view, fnB, sSeq, sIf, sE, sRet, sNx, sAsg, sPar, sExpr, eT, bNot, bAnd, bOr, asB_bl, eVar, eC, Eg.e1, Eg.e2, Eg.e3, eAnd, eOr, eNot, eIf, aNil, aCons, eCall, eB, eLst, eTup, nw, g1E, g2E, rdI, rdB, rdN, rdS, rdT, rdL, rdD, gN, M.of, M.bad, List.map_cons, List.map_nil, List.length_cons, List.length_nil, List.replicate, List.nil_append, List.cons_append, List.getElem?_cons_zero, List.getElem?_cons_succ, List.set_cons_zero, List.set_cons_succ, Nat.sub_zero, Nat.reduceSub, Nat.reduceAdd, gN1E, rds, if_true, if_false, iteE, Bool.not_true, Bool.not_false, Bool.false_eq_true, reduceIte, ite_true, ite_false, rdC, gIsi, tyN, isiB, shortB])
/-! comprehensions -/
theorem lc_pure {g : PV → Eg.Fr → M Eg.Fr} {ft : Eg.Fr → M Bool} {fe : Eg.Fr → M PV} {ρ : Eg.Fr} {st : Store} (p : PV → Bool) (f : PV → PV) (r : PV → Eg.Fr) (xs : List PV)
    (h : ∀ x ∈ xs, g x ρ st = .ok (r x) st ∧ ft (r x) st = .ok (p x) st ∧ (p x = true → fe (r x) st = .ok (f x) st)) : ∀ (k i : Nat), i + k = xs.length → lcGo g ft fe (.fz xs) ρ k i st = .ok (((xs.drop i).filter p).map f) st
  | 0, i, e => by
    have : xs.drop i = [] := by rw [List.drop_eq_nil_iff]; omega
    rw [this]
    unfold lcGo
    rfl
  | k + 1, i, e => by
    have hi : i < xs.length := by omega
    have ih := lc_pure p f r xs h k (i + 1) (by omega)
    obtain ⟨h1, h2, h3⟩ := h xs[i] (List.getElem_mem hi)
    have e1 : (Src.fz xs).get st i = some xs[i] := by show xs[i]? = _; rw [List.getElem?_eq_getElem hi]
    have e2 : xs.drop i = xs[i] :: xs.drop (i + 1) := List.drop_eq_getElem_cons hi
    unfold lcGo
    rw [e1]
    dsimp only
    rw [h1]
    dsimp only
    rw [h2, e2]
    cases q : p xs[i] with
    | true => dsimp only; rw [h3 q]; dsimp only; rw [ih, List.filter_cons, if_pos q]; rfl
    | false => dsimp only; rw [ih, List.filter_cons, if_neg (by rw [q]; simp)]
theorem lc_inv {g : PV → Eg.Fr → M Eg.Fr} {fe : Eg.Fr → M PV} {ρ : Eg.Fr} (I : Nat → Store → Prop) (Z : PV → Prop) (xs : List PV)
    (h : ∀ i x st, i < xs.length → I i st → ∃ ρ1 y st', g x ρ st = .ok ρ1 st ∧ fe ρ1 st = .ok y st' ∧ I (i + 1) st' ∧ Z y) : ∀ (k i : Nat) (st : Store), i + k = xs.length → I i st → ∃ ys st', lcGo g fYes fe (.fz xs) ρ k i st = .ok ys st' ∧ I xs.length st' ∧ ys.length = k ∧ ∀ y ∈ ys, Z y
  | 0, i, st, e, hi => by
    refine ⟨[], st, ?_, by rw [show xs.length = i by omega]; exact hi, rfl, by simp⟩
    unfold lcGo
    rfl
  | k + 1, i, st, e, hI => by
    have hi : i < xs.length := by omega
    have e1 : (Src.fz xs).get st i = some xs[i] := by show xs[i]? = _; rw [List.getElem?_eq_getElem hi]
    obtain ⟨ρ1, y, st1, h1, h2, h3, h4⟩ := h i xs[i] st hi hI
    obtain ⟨ys, st2, k1, k2, k3, k4⟩ := lc_inv I Z xs h k (i + 1) st1 (by omega) h3
    refine ⟨y :: ys, st2, ?_, k2, by simp [k3], by simpa using ⟨h4, k4⟩⟩
    unfold lcGo
    rw [e1]
    dsimp only
    rw [h1]
    dsimp only
    have e3 : fYes ρ1 st = .ok true st := rfl
    rw [e3]
    dsimp only
    rw [h2]
    dsimp only
    rw [k1]
theorem elc_pure {own : List Nat} {fi : Eg.Fr → M Src} {g : PV → Eg.Fr → M Eg.Fr} {ft : Eg.Fr → M Bool} {fe : Eg.Fr → M PV} {ρ : Eg.Fr} {st : Store} {xs : List PV} (hfi : fi ρ st = .ok (.fz xs) st) (hl : xs.length ≤ sizeLine) (p : PV → Bool) (f : PV → PV) (r : PV → Eg.Fr)
    (h : ∀ x ∈ xs, g x (wipeF ρ own) st = .ok (r x) st ∧ ft (r x) st = .ok (p x) st ∧ (p x = true → fe (r x) st = .ok (f x) st)) : eLc false own fi g ft fe ρ st = .ok (.lst ((xs.filter p).map f)) st := by
  have e := lc_pure (g := g) (ft := ft) (fe := fe) (ρ := wipeF ρ own) (st := st) p f r xs h xs.length 0 (by omega)
  unfold eLc
  rw [M.bind_ok hfi, if_pos (show (Src.fz xs).len ≤ sizeLine from hl)]
  have e' : (fun st => lcGo g ft fe (Src.fz xs) (wipeF ρ own) (Src.fz xs).len 0 st) st = .ok ((xs.filter p).map f) st := by
    show lcGo g ft fe (Src.fz xs) (wipeF ρ own) xs.length 0 st = _
    rw [e]; rfl
  rw [M.bind_ok e']
  rfl
theorem elc_inv {own : List Nat} {fi : Eg.Fr → M Src} {g : PV → Eg.Fr → M Eg.Fr} {fe : Eg.Fr → M PV} {ρ : Eg.Fr} {st st0 : Store} {xs : List PV} (hfi : fi ρ st0 = .ok (.fz xs) st) (hl : xs.length ≤ sizeLine) (I : Nat → Store → Prop) (Z : PV → Prop) (h0 : I 0 st)
    (h : ∀ i x st, i < xs.length → I i st → ∃ ρ1 y st', g x (wipeF ρ own) st = .ok ρ1 st ∧ fe ρ1 st = .ok y st' ∧ I (i + 1) st' ∧ Z y) : ∃ ys st', eLc false own fi g fYes fe ρ st0 = .ok (.lst ys) st' ∧ I xs.length st' ∧ ys.length = xs.length ∧ ∀ y ∈ ys, Z y := by
  obtain ⟨ys, st', e, e1, e2, e3⟩ := lc_inv (g := g) (fe := fe) (ρ := wipeF ρ own) I Z xs h xs.length 0 st (by omega) h0
  refine ⟨ys, st', ?_, e1, e2, e3⟩
  unfold eLc
  rw [M.bind_ok hfi, if_pos (show (Src.fz xs).len ≤ sizeLine from hl)]
  have e' : (fun st => lcGo g fYes fe (Src.fz xs) (wipeF ρ own) (Src.fz xs).len 0 st) st = .ok ys st' := e
  rw [M.bind_ok e']
  rfl
/-! is_name -/
def okC (c : Nat) : Bool := decide (97 ≤ c) && decide (c ≤ 122)
def nameB : PV → Bool
  | .str z => decide (1 ≤ z.length) && decide (z.length ≤ 8) && z.all okC
  | _ => false
theorem leS (x y : List Nat) : gLe (.str x) (.str y) = some (.bl (!plt (.str y) (.str x))) := by simp [gLe, okL, okE, isD, pdep, palk, okL.noNon]
theorem le1 (a b : Nat) : gLe (.str [a]) (.str [b]) = some (.bl (decide (a ≤ b))) := by
  rw [leS]
  have h : ([b] < [a]) ↔ b < a := by
    constructor
    · intro h
      cases h with
      | rel h => exact h
      | cons h => cases h
    · intro h; exact .rel h
  have : plt (.str [b]) (.str [a]) = decide (b < a) := by
    show decide ([b] < [a]) = _
    rw [decide_eq_decide]; exact h
  rw [this]
  congr 2
  rw [Bool.eq_iff_iff]
  simp
theorem bls_map (l : List Nat) (f : Nat → Bool) : bls (l.map fun c => PV.bl (f c)) = some (l.map f) := by
  induction l with
  | nil => rfl
  | cons a l ih => simp [bls, ih]
theorem ev_name (x : PV) (st : Store) (h : (tyN x).isSome = true) (hz : ∀ z, x = .str z → z.length ≤ 1000) : F_is_name [x] st = .ok (.bl (nameB x)) st := by
  cases x with
  | str z =>
    have hl := hz z rfl
    have hl' : z.length ≤ sizeLine := by rw [sizeLine_eq]; omega
    have hlc : (eLc false [1] (iVal (eVar 0)) (gN 1) fYes (e3 gLe gLe (eC (.str [97])) (eVar 1) (eC (.str [122])))) [some (.str z), none] st = .ok (.lst (z.map fun c => PV.bl (okC c))) st := by
      have e0 : (z.map fun c => PV.str [c]).length ≤ sizeLine := by simpa using hl'
      have e1 := elc_pure (own := [1]) (fi := iVal (eVar 0)) (g := gN 1) (ft := fYes) (fe := e3 gLe gLe (eC (.str [97])) (eVar 1) (eC (.str [122]))) (ρ := [some (.str z), none]) (st := st) (xs := z.map fun c => PV.str [c]) rfl e0 (fun _ => true) (fun x => match x with | .str [c] => PV.bl (okC c) | _ => .non) (fun x => [some (.str z), some x]) (by
        intro x hx
        obtain ⟨c, _, rfl⟩ := List.mem_map.mp hx
        refine ⟨rfl, rfl, fun _ => ?_⟩
        by_cases h1 : 97 ≤ c <;> simp [bindE, pureE, asI_int, szT, Nat.reduceLeDiff, Nat.zero_le, Cell.view, fnB, sSeq, sIf, sE, sRet, sNx, sAsg, sPar, sExpr, eT, bNot, bAnd, bOr, asB_bl, eVar, eC, Eg.e1, Eg.e2, Eg.e3, eAnd, eOr, eNot, eIf, aNil, aCons, eCall, eB, eLst, eTup, nw, g1E, g2E, rdI, rdB, rdN, rdS, rdT, rdL, rdD, gN, M.of, M.bad, List.map_cons, List.map_nil, List.length_cons, List.length_nil, List.replicate, List.nil_append, List.cons_append, List.getElem?_cons_zero, List.getElem?_cons_succ, List.set_cons_zero, List.set_cons_succ, Nat.sub_zero, Nat.reduceSub, Nat.reduceAdd, gN1E, rds, if_true, if_false, iteE, Bool.not_true, Bool.not_false, Bool.false_eq_true, reduceIte, ite_true, ite_false, le1, okC, h1])
      rw [e1, List.filter_eq_self.mpr (fun _ _ => rfl), List.map_map]
      rfl
    by_cases h1 : (1 : Int) ≤ (z.length : Int)
    · by_cases h2 : (z.length : Int) ≤ 8
      · simp [F_is_name, b_is_name, bindE, pureE, asI_int, szT, Nat.reduceLeDiff, Nat.zero_le, Cell.view, fnB, sSeq, sIf, sE, sRet, sNx, sAsg, sPar, sExpr, eT, bNot, bAnd, bOr, asB_bl, eVar, eC, Eg.e1, Eg.e2, Eg.e3, eAnd, eOr, eNot, eIf, aNil, aCons, eCall, eB, eLst, eTup, nw, g1E, g2E, rdI, rdB, rdN, rdS, rdT, rdL, rdD, gN, M.of, M.bad, List.map_cons, List.map_nil, List.length_cons, List.length_nil, List.replicate, List.nil_append, List.cons_append, List.getElem?_cons_zero, List.getElem?_cons_succ, List.set_cons_zero, List.set_cons_succ, Nat.sub_zero, Nat.reduceSub, Nat.reduceAdd, gN1E, rds, if_true, if_false, iteE, Bool.not_true, Bool.not_false, Bool.false_eq_true, reduceIte, ite_true, ite_false, gIsi, tyN, isiB, gLen, hl', leI, h1, h2, hlc, gAll, bls_map, nameB]
        have h1' : 1 ≤ z.length := by omega
        have h2' : z.length ≤ 8 := by omega
        simp [h1', h2', List.all_map, Function.comp_def]
      · have h2' : ¬ z.length ≤ 8 := by omega
        simp [F_is_name, b_is_name, bindE, pureE, asI_int, szT, Nat.reduceLeDiff, Nat.zero_le, Cell.view, fnB, sSeq, sIf, sE, sRet, sNx, sAsg, sPar, sExpr, eT, bNot, bAnd, bOr, asB_bl, eVar, eC, Eg.e1, Eg.e2, Eg.e3, eAnd, eOr, eNot, eIf, aNil, aCons, eCall, eB, eLst, eTup, nw, g1E, g2E, rdI, rdB, rdN, rdS, rdT, rdL, rdD, gN, M.of, M.bad, List.map_cons, List.map_nil, List.length_cons, List.length_nil, List.replicate, List.nil_append, List.cons_append, List.getElem?_cons_zero, List.getElem?_cons_succ, List.set_cons_zero, List.set_cons_succ, Nat.sub_zero, Nat.reduceSub, Nat.reduceAdd, gN1E, rds, if_true, if_false, iteE, Bool.not_true, Bool.not_false, Bool.false_eq_true, reduceIte, ite_true, ite_false, gIsi, tyN, isiB, gLen, hl', leI, h1, h2, nameB, h2']
    · have h1' : ¬ 1 ≤ z.length := by omega
      simp [F_is_name, b_is_name, bindE, pureE, asI_int, szT, Nat.reduceLeDiff, Nat.zero_le, Cell.view, fnB, sSeq, sIf, sE, sRet, sNx, sAsg, sPar, sExpr, eT, bNot, bAnd, bOr, asB_bl, eVar, eC, Eg.e1, Eg.e2, Eg.e3, eAnd, eOr, eNot, eIf, aNil, aCons, eCall, eB, eLst, eTup, nw, g1E, g2E, rdI, rdB, rdN, rdS, rdT, rdL, rdD, gN, M.of, M.bad, List.map_cons, List.map_nil, List.length_cons, List.length_nil, List.replicate, List.nil_append, List.cons_append, List.getElem?_cons_zero, List.getElem?_cons_succ, List.set_cons_zero, List.set_cons_succ, Nat.sub_zero, Nat.reduceSub, Nat.reduceAdd, gN1E, rds, if_true, if_false, iteE, Bool.not_true, Bool.not_false, Bool.false_eq_true, reduceIte, ite_true, ite_false, gIsi, tyN, isiB, gLen, hl', leI, h1, nameB, h1']
  | _ => first | (cases h; done) | (simp [F_is_name, b_is_name, bindE, pureE, asI_int, szT, Nat.reduceLeDiff, Nat.zero_le, Cell.view, fnB, sSeq, sIf, sE, sRet, sNx, sAsg, sPar, sExpr, eT, bNot, bAnd, bOr, asB_bl, eVar, eC, Eg.e1, Eg.e2, Eg.e3, eAnd, eOr, eNot, eIf, aNil, aCons, eCall, eB, eLst, eTup, nw, g1E, g2E, rdI, rdB, rdN, rdS, rdT, rdL, rdD, gN, M.of, M.bad, List.map_cons, List.map_nil, List.length_cons, List.length_nil, List.replicate, List.nil_append, List.cons_append, List.getElem?_cons_zero, List.getElem?_cons_succ, List.set_cons_zero, List.set_cons_succ, Nat.sub_zero, Nat.reduceSub, Nat.reduceAdd, gN1E, rds, if_true, if_false, iteE, Bool.not_true, Bool.not_false, Bool.false_eq_true, reduceIte, ite_true, ite_false, rdC, gIsi, tyN, isiB, nameB])
end Pf

namespace Pf
open PySem PySem.Spec PyProof.Rows L2 Eg
/-! the law's own is_name -/
abbrev abc : List Nat := [97, 98, 99, 100, 101, 102, 103, 104, 105, 106, 107, 108, 109, 110, 111, 112, 113, 114, 115, 116, 117, 118, 119, 120, 121, 122]
theorem abc_mem (c : Nat) : (c ∈ abc) ↔ okC c = true := by
  simp [okC]
  constructor
  · intro h; omega
  · intro h; omega
theorem nin1 (c : Nat) : gNotInS (.str [c]) (.str abc) = some (.bl (!okC c)) := by
  have h := StrLaws.found_one (s2 abc) c
  show some (PV.bl (!(!(Builtin.Str.occurrences (s2 abc) (s2 [c]) 0 (s2 abc).length 1).isEmpty))) = _
  have e : (!(Builtin.Str.occurrences (s2 abc) (s2 [c]) 0 (s2 abc).length 1).isEmpty) = okC c := by
    refine Eq.trans h ?_
    rw [Bool.eq_iff_iff, decide_eq_true_eq]
    exact abc_mem c
  rw [e]
theorem eqNil (xs : List PV) (h : isDs xs = true) (hp : pdeps xs ≤ 60) : gEq (.lst xs) (.lst []) = some (.bl xs.isEmpty) := by
  have : okE (.lst xs) (.lst []) = true := by
    simp [okE, isD, pdep, h, isDs, pdeps]; omega
  unfold gEq
  rw [if_pos this]
  cases xs <;> rfl
theorem neNil (xs : List PV) (h : isDs xs = true) (hp : pdeps xs ≤ 60) : gNe (.lst xs) (.lst []) = some (.bl (!xs.isEmpty)) := by
  have : okE (.lst xs) (.lst []) = true := by
    simp [okE, isD, pdep, h, isDs, pdeps]; omega
  unfold gNe
  rw [if_pos this]
  cases xs <;> rfl
theorem isDs_all : ∀ {xs : List PV}, (∀ y ∈ xs, isD y = true) → isDs xs = true
  | [], _ => rfl
  | x :: xs, h => by
    simp only [isDs, Bool.and_eq_true]
    exact ⟨h x (by simp), isDs_all fun y hy => h y (by simp [hy])⟩
theorem pdeps_all : ∀ {xs : List PV} {n : Nat}, (∀ y ∈ xs, pdep y ≤ n) → pdeps xs ≤ n
  | [], _, _ => Nat.zero_le _
  | x :: xs, n, h => by
    simp only [pdeps]
    exact Nat.max_le.mpr ⟨h x (by simp), pdeps_all fun y hy => h y (by simp [hy])⟩
theorem ev_lname (x : PV) (st : Store) (h : (tyN x).isSome = true) (hz : ∀ z, x = .str z → z.length ≤ 1000) : F__law_is_name [x] st = .ok (.bl (nameB x)) st := by
  cases x with
  | str z =>
    have hl := hz z rfl
    have hl' : z.length ≤ sizeLine := by rw [sizeLine_eq]; omega
    have e0 : (z.map fun c => PV.str [c]).length ≤ sizeLine := by simpa using hl'
    have e1 := elc_pure (own := [1]) (fi := iVal (eVar 0)) (g := gN 1) (ft := eT (e2 gNotInS (eVar 1) (eC (.str abc)))) (fe := eVar 1) (ρ := [some (.str z), none]) (st := st) (xs := z.map fun c => PV.str [c]) rfl e0 (fun x => match x with | .str [c] => !okC c | _ => true) (fun x => x) (fun x => [some (.str z), some x]) (by
      intro x hx
      obtain ⟨c, _, rfl⟩ := List.mem_map.mp hx
      refine ⟨rfl, ?_, fun _ => rfl⟩
      simp [bindE, pureE, asI_int, szT, Nat.reduceLeDiff, Nat.zero_le, Cell.view, fnB, sSeq, sIf, sE, sRet, sNx, sAsg, sPar, sExpr, eT, bNot, bAnd, bOr, asB_bl, eVar, eC, Eg.e1, Eg.e2, Eg.e3, eAnd, eOr, eNot, eIf, aNil, aCons, eCall, eB, eLst, eTup, nw, g1E, g2E, rdI, rdB, rdN, rdS, rdT, rdL, rdD, gN, M.of, M.bad, List.map_cons, List.map_nil, List.length_cons, List.length_nil, List.replicate, List.nil_append, List.cons_append, List.getElem?_cons_zero, List.getElem?_cons_succ, List.set_cons_zero, List.set_cons_succ, Nat.sub_zero, Nat.reduceSub, Nat.reduceAdd, gN1E, rds, if_true, if_false, iteE, Bool.not_true, Bool.not_false, Bool.false_eq_true, reduceIte, ite_true, ite_false, nin1])
    have hd : ∀ y ∈ ((z.map fun c => PV.str [c]).filter (fun x => match x with | .str [c] => !okC c | _ => true)).map (fun x => x), isD y = true ∧ pdep y ≤ 1 := by
      intro y hy
      rw [List.map_id'] at hy
      obtain ⟨c, _, rfl⟩ := List.mem_map.mp (List.mem_filter.mp hy).1
      exact ⟨rfl, by simp [pdep]⟩
    have e2 := eqNil _ (isDs_all fun y hy => (hd y hy).1) (Nat.le_trans (pdeps_all fun y hy => (hd y hy).2) (by omega))
    have e3 : (((z.map fun c => PV.str [c]).filter (fun x => match x with | .str [c] => !okC c | _ => true)).map (fun x => x)).isEmpty = z.all okC := by
      clear e1 hd e2 e0 hl hl' hz h
      induction z with
      | nil => rfl
      | cons c z ih =>
        rw [List.map_cons, List.filter_cons]
        cases hc : okC c with
        | true => simp [hc] at ih ⊢; exact ih
        | false => simp [hc]
    rw [e3] at e2
    by_cases h0 : (z.length : Int) = 0
    · have h0' : z = [] := by cases z with | nil => rfl | cons _ _ => simp at h0; omega
      subst h0'
      simp [F__law_is_name, b__law_is_name, bindE, pureE, asI_int, szT, Nat.reduceLeDiff, Nat.zero_le, Cell.view, fnB, sSeq, sIf, sE, sRet, sNx, sAsg, sPar, sExpr, eT, bNot, bAnd, bOr, asB_bl, eVar, eC, Eg.e1, Eg.e2, Eg.e3, eAnd, eOr, eNot, eIf, aNil, aCons, eCall, eB, eLst, eTup, nw, g1E, g2E, rdI, rdB, rdN, rdS, rdT, rdL, rdD, gN, M.of, M.bad, List.map_cons, List.map_nil, List.length_cons, List.length_nil, List.replicate, List.nil_append, List.cons_append, List.getElem?_cons_zero, List.getElem?_cons_succ, List.set_cons_zero, List.set_cons_succ, Nat.sub_zero, Nat.reduceSub, Nat.reduceAdd, gN1E, rds, if_true, if_false, iteE, Bool.not_true, Bool.not_false, Bool.false_eq_true, reduceIte, ite_true, ite_false, gIsi, tyN, isiB, gLen, eqI, nameB, sizeLine_eq]

    · have h1 : 1 ≤ z.length := by omega
      by_cases h8 : (8 : Int) < (z.length : Int)
      · have h8' : ¬ z.length ≤ 8 := by omega
        simp [F__law_is_name, b__law_is_name, bindE, pureE, asI_int, szT, Nat.reduceLeDiff, Nat.zero_le, Cell.view, fnB, sSeq, sIf, sE, sRet, sNx, sAsg, sPar, sExpr, eT, bNot, bAnd, bOr, asB_bl, eVar, eC, Eg.e1, Eg.e2, Eg.e3, eAnd, eOr, eNot, eIf, aNil, aCons, eCall, eB, eLst, eTup, nw, g1E, g2E, rdI, rdB, rdN, rdS, rdT, rdL, rdD, gN, M.of, M.bad, List.map_cons, List.map_nil, List.length_cons, List.length_nil, List.replicate, List.nil_append, List.cons_append, List.getElem?_cons_zero, List.getElem?_cons_succ, List.set_cons_zero, List.set_cons_succ, Nat.sub_zero, Nat.reduceSub, Nat.reduceAdd, gN1E, rds, if_true, if_false, iteE, Bool.not_true, Bool.not_false, Bool.false_eq_true, reduceIte, ite_true, ite_false, gIsi, tyN, isiB, gLen, hl', eqI, gtI, h0, h8, nameB, h8']
      · have h8' : z.length ≤ 8 := by omega
        have hne : ¬ z = [] := by intro e; subst e; simp at h0
        simp [F__law_is_name, b__law_is_name, bindE, pureE, asI_int, szT, Nat.reduceLeDiff, Nat.zero_le, Cell.view, fnB, sSeq, sIf, sE, sRet, sNx, sAsg, sPar, sExpr, eT, bNot, bAnd, bOr, asB_bl, eVar, eC, Eg.e1, Eg.e2, Eg.e3, eAnd, eOr, eNot, eIf, aNil, aCons, eCall, eB, eLst, eTup, nw, g1E, g2E, rdI, rdB, rdN, rdS, rdT, rdL, rdD, gN, M.of, M.bad, List.map_cons, List.map_nil, List.length_cons, List.length_nil, List.replicate, List.nil_append, List.cons_append, List.getElem?_cons_zero, List.getElem?_cons_succ, List.set_cons_zero, List.set_cons_succ, Nat.sub_zero, Nat.reduceSub, Nat.reduceAdd, gN1E, rds, if_true, if_false, iteE, Bool.not_true, Bool.not_false, Bool.false_eq_true, reduceIte, ite_true, ite_false, gIsi, tyN, isiB, gLen, hl', eqI, gtI, h0, h8, nameB, h8', h1, hne]
        rw [e1]
        simp [bindE, pureE, asI_int, szT, Nat.reduceLeDiff, Nat.zero_le, Cell.view, fnB, sSeq, sIf, sE, sRet, sNx, sAsg, sPar, sExpr, eT, bNot, bAnd, bOr, asB_bl, eVar, eC, Eg.e1, Eg.e2, Eg.e3, eAnd, eOr, eNot, eIf, aNil, aCons, eCall, eB, eLst, eTup, nw, g1E, g2E, rdI, rdB, rdN, rdS, rdT, rdL, rdD, gN, M.of, M.bad, List.map_cons, List.map_nil, List.length_cons, List.length_nil, List.replicate, List.nil_append, List.cons_append, List.getElem?_cons_zero, List.getElem?_cons_succ, List.set_cons_zero, List.set_cons_succ, Nat.sub_zero, Nat.reduceSub, Nat.reduceAdd, gN1E, rds, if_true, if_false, iteE, Bool.not_true, Bool.not_false, Bool.false_eq_true, reduceIte, ite_true, ite_false]
        simp at e2
        rw [e2]
  | _ => first | (cases h; done) | (simp [F__law_is_name, b__law_is_name, bindE, pureE, asI_int, szT, Nat.reduceLeDiff, Nat.zero_le, Cell.view, fnB, sSeq, sIf, sE, sRet, sNx, sAsg, sPar, sExpr, eT, bNot, bAnd, bOr, asB_bl, eVar, eC, Eg.e1, Eg.e2, Eg.e3, eAnd, eOr, eNot, eIf, aNil, aCons, eCall, eB, eLst, eTup, nw, g1E, g2E, rdI, rdB, rdN, rdS, rdT, rdL, rdD, gN, M.of, M.bad, List.map_cons, List.map_nil, List.length_cons, List.length_nil, List.replicate, List.nil_append, List.cons_append, List.getElem?_cons_zero, List.getElem?_cons_succ, List.set_cons_zero, List.set_cons_succ, Nat.sub_zero, Nat.reduceSub, Nat.reduceAdd, gN1E, rds, if_true, if_false, iteE, Bool.not_true, Bool.not_false, Bool.false_eq_true, reduceIte, ite_true, ite_false, rdC, gIsi, tyN, isiB, nameB])
end Pf

namespace Pf
open PySem PySem.Spec PyProof.Rows L2 Eg
/-! sets -/
def cntB : PV → Bool
  | .int i => decide (0 ≤ i) && decide (i < 10 ^ 60)
  | _ => false
theorem ev_count (x : PV) (st : Store) (h : (tyN x).isSome = true) : F_is_count [x] st = .ok (.bl (cntB x)) st := by
  have hi := ev_integer x st h
  cases x with
  | int i =>
    by_cases h1 : -1000000000000000000000000000000000000000000000000000000000000 < i <;> by_cases h2 : i < 1000000000000000000000000000000000000000000000000000000000000 <;> by_cases h3 : 0 ≤ i <;> simp [F_is_count, b_is_count, bindE, pureE, asI_int, szT, Nat.reduceLeDiff, Nat.zero_le, Cell.view, fnB, sSeq, sIf, sE, sRet, sNx, sAsg, sPar, sExpr, eT, bNot, bAnd, bOr, asB_bl, eVar, eC, Eg.e1, Eg.e2, Eg.e3, eAnd, eOr, eNot, eIf, aNil, aCons, eCall, eB, eLst, eTup, nw, g1E, g2E, rdI, rdB, rdN, rdS, rdT, rdL, rdD, gN, M.of, M.bad, List.map_cons, List.map_nil, List.length_cons, List.length_nil, List.replicate, List.nil_append, List.cons_append, List.getElem?_cons_zero, List.getElem?_cons_succ, List.set_cons_zero, List.set_cons_succ, Nat.sub_zero, Nat.reduceSub, Nat.reduceAdd, gN1E, rds, if_true, if_false, iteE, Bool.not_true, Bool.not_false, Bool.false_eq_true, reduceIte, ite_true, ite_false, hi, geI, shortB, cntB, h1, h2, h3] <;> omega
  | _ => first | (cases h; done) | (simp [F_is_count, b_is_count, bindE, pureE, asI_int, szT, Nat.reduceLeDiff, Nat.zero_le, Cell.view, fnB, sSeq, sIf, sE, sRet, sNx, sAsg, sPar, sExpr, eT, bNot, bAnd, bOr, asB_bl, eVar, eC, Eg.e1, Eg.e2, Eg.e3, eAnd, eOr, eNot, eIf, aNil, aCons, eCall, eB, eLst, eTup, nw, g1E, g2E, rdI, rdB, rdN, rdS, rdT, rdL, rdD, gN, M.of, M.bad, List.map_cons, List.map_nil, List.length_cons, List.length_nil, List.replicate, List.nil_append, List.cons_append, List.getElem?_cons_zero, List.getElem?_cons_succ, List.set_cons_zero, List.set_cons_succ, Nat.sub_zero, Nat.reduceSub, Nat.reduceAdd, gN1E, rds, if_true, if_false, iteE, Bool.not_true, Bool.not_false, Bool.false_eq_true, reduceIte, ite_true, ite_false, hi, shortB, cntB])
def ascI : List Int → Bool
  | [] => true
  | [_] => true
  | a :: b :: r => decide (a < b) && ascI (b :: r)
def adj : List Int → List Bool
  | [] => []
  | [_] => []
  | a :: b :: r => decide (a < b) :: adj (b :: r)
theorem adj_all : ∀ ns : List Int, (adj ns).all id = ascI ns
  | [] => rfl
  | [_] => rfl
  | a :: b :: r => by simp only [adj, ascI, List.all_cons, adj_all (b :: r), id]
theorem cut1 (xs : List PV) : cutP xs (some 1) none = xs.drop 1 := by
  unfold cutP
  cases xs with
  | nil => simp
  | cons x xs => simp [HT.sIx]
def ltP : PV → PV
  | .tup [.int a, .int b] => .bl (decide (a < b))
  | _ => .non
theorem zip_adj : ∀ ns : List Int, bls ((zipP (ns.map PV.int) ((ns.map PV.int).drop 1)).map ltP) = some (adj ns)
  | [] => rfl
  | [_] => rfl
  | a :: b :: r => by
    have ih := zip_adj (b :: r)
    simp only [List.map_cons, List.drop_succ_cons, List.drop_zero, zipP, adj, ltP, bls] at ih ⊢
    rw [ih]
    rfl
theorem zip_mem : ∀ (ns ms : List Int) (x : PV), x ∈ zipP (ns.map PV.int) (ms.map PV.int) → ∃ a b, x = .tup [.int a, .int b]
  | [], _, x, h => by simp [zipP] at h
  | _ :: _, [], x, h => by simp [zipP] at h
  | a :: ns, b :: ms, x, h => by
    simp only [List.map_cons, zipP, List.mem_cons] at h
    rcases h with h | h
    · exact ⟨a, b, h⟩
    · exact zip_mem ns ms x h
theorem ev_asc (ns : List Int) (st : Store) (hl : ns.length < 64) : F_are_ascending [.tup (ns.map .int)] st = .ok (.bl (ascI ns)) st := by
  have hfi : (iZip (aCons (eVar 0) (aCons (eSl (eVar 0) (some (eC (.int (1)))) none) aNil))) [some (.tup (ns.map .int)), none, none] st = .ok (.fz (zipP (ns.map .int) ((ns.map .int).drop 1))) st := by
    simp only [Eg.iZip, bindE, pureE, asI_int, szT, Nat.reduceLeDiff, Nat.zero_le, Cell.view, fnB, sSeq, sIf, sE, sRet, sNx, sAsg, sPar, sExpr, eT, bNot, bAnd, bOr, asB_bl, eVar, eC, Eg.e1, Eg.e2, Eg.e3, eAnd, eOr, eNot, eIf, aNil, aCons, eCall, eB, eLst, eTup, nw, g1E, g2E, rdI, rdB, rdN, rdS, rdT, rdL, rdD, gN, M.of, M.bad, List.map_cons, List.map_nil, List.length_cons, List.length_nil, List.replicate, List.nil_append, List.cons_append, List.getElem?_cons_zero, List.getElem?_cons_succ, List.set_cons_zero, List.set_cons_succ, Nat.sub_zero, Nat.reduceSub, Nat.reduceAdd, gN1E, rds, if_true, if_false, iteE, Bool.not_true, Bool.not_false, Bool.false_eq_true, reduceIte, ite_true, ite_false, eSl, oP, gSl, cut1, srcZip]
  have hz : (zipP (ns.map PV.int) ((ns.map PV.int).drop 1)).length ≤ sizeLine := by
    rw [zipP_len, sizeLine_eq]; simp; omega
  have q := elc_pure (own := [1, 2]) (g := gTp 2 (gNC (gN 1) (gNC (gN 2) gN0))) (ft := fYes) (fe := Eg.e2 gLt (eVar 1) (eVar 2)) hfi hz (fun _ => true) ltP (fun x => match x with | .tup [a, b] => [some (.tup (ns.map .int)), some a, some b] | _ => []) (by
    intro x hx
    have hx' : x ∈ zipP (ns.map PV.int) ((ns.drop 1).map PV.int) := by rw [List.map_drop]; exact hx
    obtain ⟨a, b, rfl⟩ := zip_mem _ _ x hx'
    refine ⟨by simp [gTp, gNC, gN0, bindE, pureE, asI_int, szT, Nat.reduceLeDiff, Nat.zero_le, Cell.view, fnB, sSeq, sIf, sE, sRet, sNx, sAsg, sPar, sExpr, eT, bNot, bAnd, bOr, asB_bl, eVar, eC, Eg.e1, Eg.e2, Eg.e3, eAnd, eOr, eNot, eIf, aNil, aCons, eCall, eB, eLst, eTup, nw, g1E, g2E, rdI, rdB, rdN, rdS, rdT, rdL, rdD, gN, M.of, M.bad, List.map_cons, List.map_nil, List.length_cons, List.length_nil, List.replicate, List.nil_append, List.cons_append, List.getElem?_cons_zero, List.getElem?_cons_succ, List.set_cons_zero, List.set_cons_succ, Nat.sub_zero, Nat.reduceSub, Nat.reduceAdd, gN1E, rds, if_true, if_false, iteE, Bool.not_true, Bool.not_false, Bool.false_eq_true, reduceIte, ite_true, ite_false, wipeF], rfl, fun _ => ?_⟩
    simp [bindE, pureE, asI_int, szT, Nat.reduceLeDiff, Nat.zero_le, Cell.view, fnB, sSeq, sIf, sE, sRet, sNx, sAsg, sPar, sExpr, eT, bNot, bAnd, bOr, asB_bl, eVar, eC, Eg.e1, Eg.e2, Eg.e3, eAnd, eOr, eNot, eIf, aNil, aCons, eCall, eB, eLst, eTup, nw, g1E, g2E, rdI, rdB, rdN, rdS, rdT, rdL, rdD, gN, M.of, M.bad, List.map_cons, List.map_nil, List.length_cons, List.length_nil, List.replicate, List.nil_append, List.cons_append, List.getElem?_cons_zero, List.getElem?_cons_succ, List.set_cons_zero, List.set_cons_succ, Nat.sub_zero, Nat.reduceSub, Nat.reduceAdd, gN1E, rds, if_true, if_false, iteE, Bool.not_true, Bool.not_false, Bool.false_eq_true, reduceIte, ite_true, ite_false, ltI, ltP])
  rw [List.filter_eq_self.mpr (fun _ _ => rfl)] at q
  simp only [F_are_ascending, b_are_ascending, bindE, pureE, asI_int, szT, Nat.reduceLeDiff, Nat.zero_le, Cell.view, fnB, sSeq, sIf, sE, sRet, sNx, sAsg, sPar, sExpr, eT, bNot, bAnd, bOr, asB_bl, eVar, eC, Eg.e1, Eg.e2, Eg.e3, eAnd, eOr, eNot, eIf, aNil, aCons, eCall, eB, eLst, eTup, nw, g1E, g2E, rdI, rdB, rdN, rdS, rdT, rdL, rdD, gN, M.of, M.bad, List.map_cons, List.map_nil, List.length_cons, List.length_nil, List.replicate, List.nil_append, List.cons_append, List.getElem?_cons_zero, List.getElem?_cons_succ, List.set_cons_zero, List.set_cons_succ, Nat.sub_zero, Nat.reduceSub, Nat.reduceAdd, gN1E, rds, if_true, if_false, iteE, Bool.not_true, Bool.not_false, Bool.false_eq_true, reduceIte, ite_true, ite_false, q, gAll, zip_adj, adj_all, Option.map_some]
theorem ints_of : ∀ xs : List PV, xs.all cntB = true → ∃ ns : List Int, xs = ns.map .int
  | [], _ => ⟨[], rfl⟩
  | x :: xs, h => by
    simp only [List.all_cons, Bool.and_eq_true] at h
    obtain ⟨ns, rfl⟩ := ints_of xs h.2
    cases x with
    | int i => exact ⟨i :: ns, rfl⟩
    | _ => cases h.1
def setB : PV → Bool
  | .tup xs => xs.all cntB && (match intsP xs with | some ns => ascI ns | none => false)
  | _ => false
theorem intsP_map : ∀ ns : List Int, intsP (ns.map PV.int) = some ns
  | [] => rfl
  | n :: ns => by simp [intsP, intsP_map ns]
/-- what is asked of a value that is judged -/
def Good : PV → Prop
  | .str z => z.length ≤ 1000
  | .tup xs => xs.length < 64 ∧ ∀ y ∈ xs, isD y = true ∧ pdep y ≤ 8
  | .lst _ => True
  | .dct _ => True
  | .non => True
  | .bl _ => True
  | .int _ => True
  | _ => False
theorem Good.ty {x : PV} (h : Good x) : (tyN x).isSome = true := by cases x <;> first | rfl | exact h.elim
theorem isD_ty {x : PV} (h : isD x = true) : (tyN x).isSome = true := by cases x <;> first | rfl | (cases h; done)
theorem bls_cnt (xs : List PV) : bls (xs.map fun y => PV.bl (cntB y)) = some (xs.map cntB) := by
  induction xs with
  | nil => rfl
  | cons a l ih => simp [bls, ih]
theorem ev_set (x : PV) (st : Store) (h : Good x) : F_is_set [x] st = .ok (.bl (setB x)) st := by
  have ht := h.ty
  cases x with
  | tup xs =>
    obtain ⟨hl, hx⟩ := h
    have hl' : xs.length ≤ sizeLine := by rw [sizeLine_eq]; omega
    have q := elc_pure (own := [1]) (fi := iVal (eVar 0)) (g := gN 1) (ft := fYes) (fe := eCall 1 F_is_count (aCons (eVar 1) aNil)) (ρ := [some (.tup xs), none]) (st := st) (xs := xs) rfl hl' (fun _ => true) (fun y => PV.bl (cntB y)) (fun y => [some (.tup xs), some y]) (by
      intro y hy
      refine ⟨rfl, rfl, fun _ => ?_⟩
      simp [bindE, pureE, asI_int, szT, Nat.reduceLeDiff, Nat.zero_le, Cell.view, fnB, sSeq, sIf, sE, sRet, sNx, sAsg, sPar, sExpr, eT, bNot, bAnd, bOr, asB_bl, eVar, eC, Eg.e1, Eg.e2, Eg.e3, eAnd, eOr, eNot, eIf, aNil, aCons, eCall, eB, eLst, eTup, nw, g1E, g2E, rdI, rdB, rdN, rdS, rdT, rdL, rdD, gN, M.of, M.bad, List.map_cons, List.map_nil, List.length_cons, List.length_nil, List.replicate, List.nil_append, List.cons_append, List.getElem?_cons_zero, List.getElem?_cons_succ, List.set_cons_zero, List.set_cons_succ, Nat.sub_zero, Nat.reduceSub, Nat.reduceAdd, gN1E, rds, if_true, if_false, iteE, Bool.not_true, Bool.not_false, Bool.false_eq_true, reduceIte, ite_true, ite_false, ev_count y st (isD_ty (hx y hy).1)])
    rw [List.filter_eq_self.mpr (fun _ _ => rfl)] at q
    cases hc : xs.all cntB with
    | false =>
      have hc' : (xs.map cntB).all id = false := by rw [List.all_map]; exact hc
      simp [F_is_set, b_is_set, bindE, pureE, asI_int, szT, Nat.reduceLeDiff, Nat.zero_le, Cell.view, fnB, sSeq, sIf, sE, sRet, sNx, sAsg, sPar, sExpr, eT, bNot, bAnd, bOr, asB_bl, eVar, eC, Eg.e1, Eg.e2, Eg.e3, eAnd, eOr, eNot, eIf, aNil, aCons, eCall, eB, eLst, eTup, nw, g1E, g2E, rdI, rdB, rdN, rdS, rdT, rdL, rdD, gN, M.of, M.bad, List.map_cons, List.map_nil, List.length_cons, List.length_nil, List.replicate, List.nil_append, List.cons_append, List.getElem?_cons_zero, List.getElem?_cons_succ, List.set_cons_zero, List.set_cons_succ, Nat.sub_zero, Nat.reduceSub, Nat.reduceAdd, gN1E, rds, if_true, if_false, iteE, Bool.not_true, Bool.not_false, Bool.false_eq_true, reduceIte, ite_true, ite_false, gIsi, tyN, isiB, q, gAll, bls_cnt, setB, hc, hc']
    | true =>
      obtain ⟨ns, rfl⟩ := ints_of xs hc
      have hc' : ((ns.map PV.int).map cntB).all id = true := by rw [List.all_map]; exact hc
      have ha := ev_asc ns st (by simpa using hl)
      simp only [F_is_set, b_is_set, bindE, pureE, asI_int, szT, Nat.reduceLeDiff, Nat.zero_le, Cell.view, fnB, sSeq, sIf, sE, sRet, sNx, sAsg, sPar, sExpr, eT, bNot, bAnd, bOr, asB_bl, eVar, eC, Eg.e1, Eg.e2, Eg.e3, eAnd, eOr, eNot, eIf, aNil, aCons, eCall, eB, eLst, eTup, nw, g1E, g2E, rdI, rdB, rdN, rdS, rdT, rdL, rdD, gN, M.of, M.bad, List.map_cons, List.map_nil, List.length_cons, List.length_nil, List.replicate, List.nil_append, List.cons_append, List.getElem?_cons_zero, List.getElem?_cons_succ, List.set_cons_zero, List.set_cons_succ, Nat.sub_zero, Nat.reduceSub, Nat.reduceAdd, gN1E, rds, if_true, if_false, iteE, Bool.not_true, Bool.not_false, Bool.false_eq_true, reduceIte, ite_true, ite_false, gIsi, tyN, isiB, q, gAll, bls_cnt, Option.map_some, hc', setB, hc, ha, intsP_map, Bool.true_and]
  | _ => first | (cases ht; done) | (simp [F_is_set, b_is_set, bindE, pureE, asI_int, szT, Nat.reduceLeDiff, Nat.zero_le, Cell.view, fnB, sSeq, sIf, sE, sRet, sNx, sAsg, sPar, sExpr, eT, bNot, bAnd, bOr, asB_bl, eVar, eC, Eg.e1, Eg.e2, Eg.e3, eAnd, eOr, eNot, eIf, aNil, aCons, eCall, eB, eLst, eTup, nw, g1E, g2E, rdI, rdB, rdN, rdS, rdT, rdL, rdD, gN, M.of, M.bad, List.map_cons, List.map_nil, List.length_cons, List.length_nil, List.replicate, List.nil_append, List.cons_append, List.getElem?_cons_zero, List.getElem?_cons_succ, List.set_cons_zero, List.set_cons_succ, Nat.sub_zero, Nat.reduceSub, Nat.reduceAdd, gN1E, rds, if_true, if_false, iteE, Bool.not_true, Bool.not_false, Bool.false_eq_true, reduceIte, ite_true, ite_false, rdC, gIsi, tyN, isiB, setB])
/-! the law's own look at sets -/
theorem asc_pw : ∀ ns : List Int, ascI ns = true ↔ ns.Pairwise (· < ·)
  | [] => by simp [ascI]
  | [_] => by simp [ascI]
  | a :: b :: r => by
    have ih := asc_pw (b :: r)
    rw [ascI, Bool.and_eq_true, ih, decide_eq_true_eq]
    constructor
    · intro ⟨h1, h2⟩
      refine List.pairwise_cons.mpr ⟨fun z hz => ?_, h2⟩
      rcases List.mem_cons.mp hz with rfl | hz
      · exact h1
      · have := (List.pairwise_cons.mp h2).1 z hz; omega
    · intro h
      have ⟨h1, h2⟩ := List.pairwise_cons.mp h
      exact ⟨h1 b (by simp), h2⟩
theorem peqs_int : ∀ ns ms : List Int, peqs (ns.map PV.int) (ms.map PV.int) = decide (ns = ms)
  | [], [] => by simp [peqs]
  | [], _ :: _ => by simp [peqs]
  | _ :: _, [] => by simp [peqs]
  | n :: ns, m :: ms => by
    simp only [List.map_cons, peqs, peq, peqs_int ns ms]
    rw [Bool.eq_iff_iff]
    simp
theorem set_asc (ns : List Int) : decide (ns = setI ns) = ascI ns := by
  rw [Bool.eq_iff_iff, decide_eq_true_eq, asc_pw]
  constructor
  · intro h; rw [h]; exact setI_pw ns
  · intro h; exact pw_unique h (setI_pw ns) fun z => (setI_mem ns z).symm
theorem isDs_ints (ns : List Int) : isDs (ns.map PV.int) = true := isDs_all fun y hy => by
  obtain ⟨n, _, rfl⟩ := List.mem_map.mp hy; rfl
theorem pdeps_ints (ns : List Int) : pdeps (ns.map PV.int) ≤ 0 := pdeps_all fun y hy => by
  obtain ⟨n, _, rfl⟩ := List.mem_map.mp hy; exact Nat.le_refl _
theorem eq_ints (ns ms : List Int) : gEq (.lst (ns.map .int)) (.lst (ms.map .int)) = some (.bl (decide (ns = ms))) := by
  have h1 := pdeps_ints ns
  have h2 := pdeps_ints ms
  have : okE (.lst (ns.map PV.int)) (.lst (ms.map PV.int)) = true := by
    have k1 : pdep (.lst (ns.map PV.int)) ≤ 64 := by show pdeps _ + 1 ≤ 64; omega
    have k2 : pdep (.lst (ms.map PV.int)) ≤ 64 := by show pdeps _ + 1 ≤ 64; omega
    simp only [okE, isD, isDs_ints, Bool.and_eq_true, decide_eq_true_eq, true_and]
    exact ⟨k1, k2⟩
  unfold gEq
  rw [if_pos this]
  show some (PV.bl (peqs _ _)) = _
  rw [peqs_int]
theorem ev_nset (x : PV) (st : Store) (h : Good x) : F__law_is_number_set [x] st = .ok (.bl (setB x)) st := by
  have ht := h.ty
  cases x with
  | tup xs =>
    obtain ⟨hl, hx⟩ := h
    have hl' : xs.length ≤ sizeLine := by rw [sizeLine_eq]; omega
    have q := elc_pure (own := [1]) (fi := iVal (eVar 0)) (g := gN 1) (ft := bOr (bNot (eT (eCall 1 F__law_is_short (aCons (eVar 1) aNil)))) (eT (Eg.e2 gLt (eVar 1) (eC (.int (0)))))) (fe := eVar 1) (ρ := [some (.tup xs), none]) (st := st) (xs := xs) rfl hl' (fun y => !cntB y) (fun y => y) (fun y => [some (.tup xs), some y]) (by
      intro y hy
      refine ⟨rfl, ?_, fun _ => rfl⟩
      have hs := ev_short y st (isD_ty (hx y hy).1)
      cases y with
      | int i =>
        by_cases h1 : -1000000000000000000000000000000000000000000000000000000000000 < i <;> by_cases h2 : i < 1000000000000000000000000000000000000000000000000000000000000 <;> by_cases h3 : i < 0 <;> simp [bindE, pureE, asI_int, szT, Nat.reduceLeDiff, Nat.zero_le, Cell.view, fnB, sSeq, sIf, sE, sRet, sNx, sAsg, sPar, sExpr, eT, bNot, bAnd, bOr, asB_bl, eVar, eC, Eg.e1, Eg.e2, Eg.e3, eAnd, eOr, eNot, eIf, aNil, aCons, eCall, eB, eLst, eTup, nw, g1E, g2E, rdI, rdB, rdN, rdS, rdT, rdL, rdD, gN, M.of, M.bad, List.map_cons, List.map_nil, List.length_cons, List.length_nil, List.replicate, List.nil_append, List.cons_append, List.getElem?_cons_zero, List.getElem?_cons_succ, List.set_cons_zero, List.set_cons_succ, Nat.sub_zero, Nat.reduceSub, Nat.reduceAdd, gN1E, rds, if_true, if_false, iteE, Bool.not_true, Bool.not_false, Bool.false_eq_true, reduceIte, ite_true, ite_false, hs, shortB, cntB, ltI, h1, h2, h3] <;> omega
      | _ => simp [bindE, pureE, asI_int, szT, Nat.reduceLeDiff, Nat.zero_le, Cell.view, fnB, sSeq, sIf, sE, sRet, sNx, sAsg, sPar, sExpr, eT, bNot, bAnd, bOr, asB_bl, eVar, eC, Eg.e1, Eg.e2, Eg.e3, eAnd, eOr, eNot, eIf, aNil, aCons, eCall, eB, eLst, eTup, nw, g1E, g2E, rdI, rdB, rdN, rdS, rdT, rdL, rdD, gN, M.of, M.bad, List.map_cons, List.map_nil, List.length_cons, List.length_nil, List.replicate, List.nil_append, List.cons_append, List.getElem?_cons_zero, List.getElem?_cons_succ, List.set_cons_zero, List.set_cons_succ, Nat.sub_zero, Nat.reduceSub, Nat.reduceAdd, gN1E, rds, if_true, if_false, iteE, Bool.not_true, Bool.not_false, Bool.false_eq_true, reduceIte, ite_true, ite_false, hs, shortB, cntB])
    have hd : ∀ y ∈ (xs.filter fun y => !cntB y).map (fun y => y), isD y = true ∧ pdep y ≤ 8 := by
      intro y hy
      rw [List.map_id'] at hy
      exact hx y (List.mem_filter.mp hy).1
    have q2 := neNil _ (isDs_all fun y hy => (hd y hy).1) (Nat.le_trans (pdeps_all fun y hy => (hd y hy).2) (by omega))
    cases hc : xs.all cntB with
    | false =>
      have he : ((xs.filter fun y => !cntB y).map (fun y => y)).isEmpty = false := by
        rw [List.map_id']
        cases hf : (xs.filter fun y => !cntB y) with
        | nil =>
          rw [List.filter_eq_nil_iff] at hf
          have : xs.all cntB = true := by
            rw [List.all_eq_true]
            intro y hy
            have := hf y hy
            simpa using this
          rw [this] at hc; cases hc
        | cons _ _ => rfl
      rw [he] at q2
      simp only [F__law_is_number_set, b__law_is_number_set, bindE, pureE, asI_int, szT, Nat.reduceLeDiff, Nat.zero_le, Cell.view, fnB, sSeq, sIf, sE, sRet, sNx, sAsg, sPar, sExpr, eT, bNot, bAnd, bOr, asB_bl, eVar, eC, Eg.e1, Eg.e2, Eg.e3, eAnd, eOr, eNot, eIf, aNil, aCons, eCall, eB, eLst, eTup, nw, g1E, g2E, rdI, rdB, rdN, rdS, rdT, rdL, rdD, gN, M.of, M.bad, List.map_cons, List.map_nil, List.length_cons, List.length_nil, List.replicate, List.nil_append, List.cons_append, List.getElem?_cons_zero, List.getElem?_cons_succ, List.set_cons_zero, List.set_cons_succ, Nat.sub_zero, Nat.reduceSub, Nat.reduceAdd, gN1E, rds, if_true, if_false, iteE, Bool.not_true, Bool.not_false, Bool.false_eq_true, reduceIte, ite_true, ite_false, gIsi, tyN, isiB, q, q2, setB, hc, Bool.false_and]
    | true =>
      obtain ⟨ns, rfl⟩ := ints_of xs hc
      have he : (((ns.map PV.int).filter fun y => !cntB y).map (fun y => y)).isEmpty = true := by
        rw [List.map_id', List.isEmpty_iff, List.filter_eq_nil_iff]
        intro y hy
        have := List.all_eq_true.mp hc y hy
        simp [this]
      rw [he] at q2
      have hs : gSortSet (.tup (ns.map PV.int)) = some ((setI ns).map .int) := by
        have hl2 : ns.length < 64 := by simpa using hl
        show ((intsP (ns.map PV.int)).bind fun ns => if ns.length < 64 then some ((setI ns).map PV.int) else none) = _
        rw [intsP_map]
        show (if ns.length < 64 then some ((setI ns).map PV.int) else none) = _
        rw [if_pos hl2]
      simp only [F__law_is_number_set, b__law_is_number_set, bindE, pureE, asI_int, szT, Nat.reduceLeDiff, Nat.zero_le, Cell.view, fnB, sSeq, sIf, sE, sRet, sNx, sAsg, sPar, sExpr, eT, bNot, bAnd, bOr, asB_bl, eVar, eC, Eg.e1, Eg.e2, Eg.e3, eAnd, eOr, eNot, eIf, aNil, aCons, eCall, eB, eLst, eTup, nw, g1E, g2E, rdI, rdB, rdN, rdS, rdT, rdL, rdD, gN, M.of, M.bad, List.map_cons, List.map_nil, List.length_cons, List.length_nil, List.replicate, List.nil_append, List.cons_append, List.getElem?_cons_zero, List.getElem?_cons_succ, List.set_cons_zero, List.set_cons_succ, Nat.sub_zero, Nat.reduceSub, Nat.reduceAdd, gN1E, rds, if_true, if_false, iteE, Bool.not_true, Bool.not_false, Bool.false_eq_true, reduceIte, ite_true, ite_false, gIsi, tyN, isiB, q, q2, setB, hc, Bool.true_and, intsP_map, eBL, gList, eSS, hs, eq_ints, set_asc]
  | _ => first | (cases ht; done) | (simp [F__law_is_number_set, b__law_is_number_set, bindE, pureE, asI_int, szT, Nat.reduceLeDiff, Nat.zero_le, Cell.view, fnB, sSeq, sIf, sE, sRet, sNx, sAsg, sPar, sExpr, eT, bNot, bAnd, bOr, asB_bl, eVar, eC, Eg.e1, Eg.e2, Eg.e3, eAnd, eOr, eNot, eIf, aNil, aCons, eCall, eB, eLst, eTup, nw, g1E, g2E, rdI, rdB, rdN, rdS, rdT, rdL, rdD, gN, M.of, M.bad, List.map_cons, List.map_nil, List.length_cons, List.length_nil, List.replicate, List.nil_append, List.cons_append, List.getElem?_cons_zero, List.getElem?_cons_succ, List.set_cons_zero, List.set_cons_succ, Nat.sub_zero, Nat.reduceSub, Nat.reduceAdd, gN1E, rds, if_true, if_false, iteE, Bool.not_true, Bool.not_false, Bool.false_eq_true, reduceIte, ite_true, ite_false, rdC, gIsi, tyN, isiB, setB])
end Pf

namespace Pf
open PySem PySem.Spec PyProof.Rows L2 Eg
/-! draws -/
def Sk (l : Nat) (st : Store) (n : Nat) : Prop := ∃ a b c : Int, st.get l = some (.lst [.int a, .int b, .int c]) ∧ 0 ≤ a ∧ 0 ≤ c ∧ c ≤ n ∧ 0 ≤ b ∧ b < 2305843009213693952
theorem Sk.mono {l : Nat} {st : Store} {n m : Nat} (h : Sk l st n) (k : n ≤ m) : Sk l st m := by
  obtain ⟨a, b, c, h1, h2, h3, h4, h5⟩ := h
  exact ⟨a, b, c, h1, h2, h3, by omega, h5⟩
theorem ix0 (x y z : PV) : gIx (.lst [x, y, z]) (.int 0) = some x := rfl
theorem ix1 (x y z : PV) : gIx (.lst [x, y, z]) (.int 1) = some y := rfl
theorem ix2 (x y z : PV) : gIx (.lst [x, y, z]) (.int 2) = some z := rfl
theorem lset0 {l : Nat} {st : Store} {x y z v : PV} (h : st.get l = some (.lst [x, y, z])) : lset l 0 v st = .ok () (st.put l (.lst [v, y, z])) := by
  unfold lset; rw [h]; rfl
theorem lset2 {l : Nat} {st : Store} {x y z v : PV} (h : st.get l = some (.lst [x, y, z])) : lset l 2 v st = .ok () (st.put l (.lst [x, y, v])) := by
  unfold lset; rw [h]; rfl
theorem put_self (l : Nat) (st : Store) (c : Cell) : (st.put l c).get l = some c := by rw [Store.get_put, if_pos rfl]
theorem lg {n : Nat} (h : n < 18446744073709551616) : n.log2 < 64 := by
  by_cases e : n = 0
  · subst e; decide
  · rw [Nat.log2_lt e]; exact h
theorem mulI {i j : Int} (hi : i.natAbs < 18446744073709551616) (hj : j.natAbs < 18446744073709551616) : gMul (.int i) (.int j) = some (.int (i * j)) := by
  have h1 := lg hi
  have h2 := lg hj
  show (if i.natAbs.log2 + j.natAbs.log2 < 1000000 then some (PV.int (i * j)) else none) = _
  rw [if_pos (by omega)]
theorem modI {i j : Int} (hj : 0 < j) : gMod (.int i) (.int j) = some (.int (i % j)) := if_pos hj
theorem divI {i j : Int} (hj : 0 < j) (h : j.natAbs < 18446744073709551616) : gDiv (.int i) (.int j) = some (.int (i / j)) := if_pos ⟨hj, by have := lg h; omega⟩
theorem ev_grab {l n : Nat} {st : Store} {t : Int} (h : Sk l st n) (hn : n ≤ 10000) (h0 : 0 < t) (ht : t < 4611686018427387904) : ∃ r st', F__law_grab [.loc l, .int t] st = .ok (.int r) st' ∧ 0 ≤ r ∧ r < t ∧ Sk l st' (n + 1) := by
  obtain ⟨a, b, c, hg, ha, hc, hcn, hb0, hb⟩ := h
  have hr := rdP hg
  by_cases ha1 : 0 < a
  · have hm := modI (i := a) h0
    have hd := divI (i := a) h0 (by omega)
    refine ⟨a % t, st.put l (.lst [.int (a / t), .int b, .int c]), ?_, Int.emod_nonneg _ (by omega), Int.emod_lt_of_pos _ h0, a / t, b, c, put_self _ _ _, Int.ediv_nonneg ha (by omega), hc, by omega, hb0, hb⟩
    simp only [F__law_grab, b__law_grab, bindE, pureE, asI_int, szT, Nat.reduceLeDiff, Nat.zero_le, Cell.view, fnB, sSeq, sIf, sE, sRet, sNx, sAsg, sPar, sExpr, eT, bNot, bAnd, bOr, asB_bl, eVar, eC, Eg.e1, Eg.e2, Eg.e3, eAnd, eOr, eNot, eIf, aNil, aCons, eCall, eB, eLst, eTup, nw, g1E, g2E, rdI, rdB, rdN, rdS, rdT, rdL, rdD, gN, M.of, M.bad, List.map_cons, List.map_nil, List.length_cons, List.length_nil, List.replicate, List.nil_append, List.cons_append, List.getElem?_cons_zero, List.getElem?_cons_succ, List.set_cons_zero, List.set_cons_succ, Nat.sub_zero, Nat.reduceSub, Nat.reduceAdd, gN1E, rds, if_true, if_false, iteE, Bool.not_true, Bool.not_false, Bool.false_eq_true, reduceIte, ite_true, ite_false, hr, ix0, gtI, ha1, decide_true, gInt, hm, hd, gSubL, lset0 hg]
  · obtain ⟨st1, hst1⟩ : ∃ st1, st1 = st.put l (.lst [.int a, .int b, .int (c + 1)]) := ⟨_, rfl⟩
    have hg1 : st1.get l = some (.lst [.int a, .int b, .int (c + 1)]) := by rw [hst1]; exact put_self _ _ _
    have hr1 := rdP hg1
    have hl2 := lset2 (v := .int (c + 1)) hg
    rw [← hst1] at hl2
    obtain ⟨one, hone⟩ : ∃ one, one = (b + 1000427 * (c + 1)) % 2305843009213693951 := ⟨_, rfl⟩
    have o1 : 0 ≤ one := by rw [hone]; exact Int.emod_nonneg _ (by omega)
    have o2 : one < 2305843009213693951 := by rw [hone]; exact Int.emod_lt_of_pos _ (by omega)
    have m1 := mulI (i := 1000427) (j := c + 1) (by decide) (by omega)
    have m2 := mulI (i := one) (j := one) (by omega) (by omega)
    have m3 := mulI (i := one * one % 2305843009213693921) (j := one) (by
      have := Int.emod_nonneg (one * one) (show (2305843009213693921 : Int) ≠ 0 by omega)
      have := Int.emod_lt_of_pos (one * one) (show (0 : Int) < 2305843009213693921 by omega)
      omega) (by omega)
    have m4 := mulI (i := 9103) (j := c + 1) (by decide) (by omega)
    have d1 := fun i => modI (i := i) (j := 2305843009213693951) (by omega)
    have d2 := fun i => modI (i := i) (j := 2305843009213693921) (by omega)
    have d3 := fun i => modI (i := i) (j := 2305843009213693907) (by omega)
    have d4 := fun i => modI (i := i) (j := t) h0
    have d5 := fun i => divI (i := i) (j := 16384) (by omega) (by decide)
    refine ⟨((one * one % 2305843009213693921 * one + 9103 * (c + 1)) % 2305843009213693907 / 16384) % t, st1, ?_, Int.emod_nonneg _ (by omega), Int.emod_lt_of_pos _ h0, a, b, c + 1, hg1, ha, by omega, by omega, hb0, hb⟩
    simp only [F__law_grab, b__law_grab, bindE, pureE, asI_int, szT, Nat.reduceLeDiff, Nat.zero_le, Cell.view, fnB, sSeq, sIf, sE, sRet, sNx, sAsg, sPar, sExpr, eT, bNot, bAnd, bOr, asB_bl, eVar, eC, Eg.e1, Eg.e2, Eg.e3, eAnd, eOr, eNot, eIf, aNil, aCons, eCall, eB, eLst, eTup, nw, g1E, g2E, rdI, rdB, rdN, rdS, rdT, rdL, rdD, gN, M.of, M.bad, List.map_cons, List.map_nil, List.length_cons, List.length_nil, List.replicate, List.nil_append, List.cons_append, List.getElem?_cons_zero, List.getElem?_cons_succ, List.set_cons_zero, List.set_cons_succ, Nat.sub_zero, Nat.reduceSub, Nat.reduceAdd, gN1E, rds, if_true, if_false, iteE, Bool.not_true, Bool.not_false, Bool.false_eq_true, reduceIte, ite_true, ite_false, hr, ix0, ix1, ix2, gtI, ha1, decide_false, gInt, gAdd, gSubL, hl2, hr1, m1, d1, ← hone, m2, d2, m3, m4, d3, d5, d4]
end Pf

namespace Pf
open PySem PySem.Spec PyProof.Rows L2 Eg
theorem at_mem {α : Type} {xs : List α} {r : Int} (h0 : 0 ≤ r) (h1 : r < xs.length) : ∃ x, L2.atI xs r = some x ∧ x ∈ xs := by
  obtain ⟨j, rfl⟩ := Int.eq_ofNat_of_zero_le h0
  have hj : j < xs.length := by omega
  exact ⟨xs[j], L2.atI_nat (List.getElem?_eq_getElem hj), List.getElem_mem hj⟩
theorem ev_one_of {l n : Nat} {st : Store} {xs : List PV} (h : Sk l st n) (hn : n ≤ 10000) (h0 : 0 < xs.length) (hx : xs.length < 1000) : ∃ x st', F__law_one_of [.loc l, .lst xs] st = .ok x st' ∧ x ∈ xs ∧ Sk l st' (n + 1) := by
  obtain ⟨r, st', e, r0, r1, k⟩ := ev_grab (t := (xs.length : Int)) h hn (by omega) (by omega)
  obtain ⟨x, e2, hm⟩ := at_mem r0 r1
  refine ⟨x, st', ?_, hm, k⟩
  simp only [F__law_one_of, b__law_one_of, bindE, pureE, asI_int, szT, Nat.reduceLeDiff, Nat.zero_le, Cell.view, fnB, sSeq, sIf, sE, sRet, sNx, sAsg, sPar, sExpr, eT, bNot, bAnd, bOr, asB_bl, eVar, eC, Eg.e1, Eg.e2, Eg.e3, eAnd, eOr, eNot, eIf, aNil, aCons, eCall, eB, eLst, eTup, nw, g1E, g2E, rdI, rdB, rdN, rdS, rdT, rdL, rdD, gN, M.of, M.bad, List.map_cons, List.map_nil, List.length_cons, List.length_nil, List.replicate, List.nil_append, List.cons_append, List.getElem?_cons_zero, List.getElem?_cons_succ, List.set_cons_zero, List.set_cons_succ, Nat.sub_zero, Nat.reduceSub, Nat.reduceAdd, gN1E, rds, if_true, if_false, iteE, Bool.not_true, Bool.not_false, Bool.false_eq_true, reduceIte, ite_true, ite_false, gLen, e, gIx, e2]
theorem ev_letter {l n : Nat} {st : Store} (h : Sk l st n) (hn : n ≤ 10000) : ∃ c st', F__law_letter [.loc l] st = .ok (.str [c]) st' ∧ Sk l st' (n + 1) := by
  obtain ⟨r, st', e, r0, r1, k⟩ := ev_grab (t := 26) h hn (by omega) (by omega)
  obtain ⟨c, q, hm⟩ := at_mem (xs := abc) r0 (by simpa using r1)
  refine ⟨c, st', ?_, k⟩
  simp only [F__law_letter, b__law_letter, bindE, pureE, asI_int, szT, Nat.reduceLeDiff, Nat.zero_le, Cell.view, fnB, sSeq, sIf, sE, sRet, sNx, sAsg, sPar, sExpr, eT, bNot, bAnd, bOr, asB_bl, eVar, eC, Eg.e1, Eg.e2, Eg.e3, eAnd, eOr, eNot, eIf, aNil, aCons, eCall, eB, eLst, eTup, nw, g1E, g2E, rdI, rdB, rdN, rdS, rdT, rdL, rdD, gN, M.of, M.bad, List.map_cons, List.map_nil, List.length_cons, List.length_nil, List.replicate, List.nil_append, List.cons_append, List.getElem?_cons_zero, List.getElem?_cons_succ, List.set_cons_zero, List.set_cons_succ, Nat.sub_zero, Nat.reduceSub, Nat.reduceAdd, gN1E, rds, if_true, if_false, iteE, Bool.not_true, Bool.not_false, Bool.false_eq_true, reduceIte, ite_true, ite_false, e, gIx, q, Option.map_some]
theorem pow18 : gPow (.int 10) (.int 18) = some (.int 1000000000000000000) := by
  have h : (Builtin.Int.intBits 10 : Int) * 18 ≤ 134217728 := by decide +kernel
  simp only [gPow, h]; rfl
theorem pow30 : gPow (.int 10) (.int 30) = some (.int (10 ^ 30)) := by
  have h : (Builtin.Int.intBits 10 : Int) * 30 ≤ 134217728 := by decide +kernel
  simp only [gPow, h]; rfl
theorem pow47 : gPow (.int 10) (.int 47) = some (.int (10 ^ 47)) := by
  have h : (Builtin.Int.intBits 10 : Int) * 47 ≤ 134217728 := by decide +kernel
  simp only [gPow, h]; rfl
theorem pow13 : ∃ m : Int, 0 < m ∧ gPow (.int (10 ^ 47)) (.int 13) = some (.int m) := by
  have h : (Builtin.Int.intBits (10 ^ 47) : Int) * 13 ≤ 134217728 := by decide +kernel
  refine ⟨(10 ^ 47) ^ 13, by decide +kernel, ?_⟩
  have h2 : (0 : Int) ≤ 13 ∧ (Builtin.Int.intBits (10 ^ 47) : Int) * 13 ≤ 134217728 := ⟨by decide, h⟩
  unfold gPow
  exact if_pos h2
theorem seqE {f g : S} {ρ ρ' : Eg.Fr} {st st' : Store} (h : f ρ st = .nx ρ' st') : sSeq f g ρ st = g ρ' st' := by
  unfold sSeq
  rw [h]
theorem fn_rt {m : Nat} {f : S} {xs : List PV} {ρ : Eg.Fr} {st st' : Store} {x : PV} (hρ : xs.map some ++ List.replicate (m - xs.length) none = ρ) (h : f ρ st = .rt x st') : fnB m f xs st = .ok x st' := by
  unfold fnB
  rw [hρ, h]
theorem new_self (st : Store) (c : Cell) : (st.new c).get st.next = some c := by rw [Store.get_new, if_pos rfl]
theorem ev_sack {ns : List Int} {t : Int} {st : Store} (h0 : 0 ≤ t) (h1 : t < 100) : ∃ st', F__law_sack [.scr ns, .int t] st = .ok (.loc st.next) st' ∧ Sk st.next st' 0 := by
  obtain ⟨m, hm0, hm⟩ := pow13
  have m1 := mulI (i := 67) (j := t) (by decide) (by omega)
  have m2 := mulI (i := 8123) (j := t) (by decide) (by omega)
  have d1 := fun i => modI (i := i) (j := m) hm0
  have d2 := fun i => modI (i := i) (j := 2147483237) (by omega)
  have d3 := fun i => modI (i := i) (j := 2305843009213693907) (by omega)
  have m3 := fun i : Int => mulI (i := i % 2147483237) (j := 96293) (by
    have := Int.emod_nonneg i (show (2147483237 : Int) ≠ 0 by omega)
    have := Int.emod_lt_of_pos i (show (0 : Int) < 2147483237 by omega)
    omega) (by decide)
  have m4 := fun b : Bool => mulI (i := 47) (j := if b then 1 else 0) (by decide) (by cases b <;> decide)
  have core : ∀ cell : Int, ∃ st', sSeq (sAsg (Eg.e2 gMod (eB gInt (aCons (eB gAbs (aCons (eVar 2) aNil)) aNil)) (Eg.e2 gPow (Eg.e2 gPow (eC (.int (10))) (eC (.int (47)))) (eC (.int (13))))) (gN 3)) (sSeq (sAsg (Eg.e2 gAdd (Eg.e2 gAdd (Eg.e2 gAdd (Eg.e2 gMul (Eg.e2 gMod (eB gInt (aCons (eVar 3) aNil)) (eC (.int (2147483237)))) (eC (.int (96293)))) (Eg.e2 gMul (eC (.int (8123))) (eVar 1))) (Eg.e2 gMul (eC (.int (47))) (eB gInt (aCons (Eg.e2 gLt (eVar 2) (eC (.int (0)))) aNil)))) (eC (.int (73)))) (gN 4)) (sRet (eLst true (aCons (eB gMax2 (aCons (eC (.int (0))) (aCons (Eg.e2 gSub (eVar 3) (Eg.e2 gPow (eC (.int (10))) (eC (.int (18))))) aNil))) (aCons (Eg.e2 gMod (eB gInt (aCons (eVar 4) aNil)) (eC (.int (2305843009213693907)))) (aCons (eC (.int (0))) aNil)))))) [some (.scr ns), some (.int t), some (.int cell), none, none] st = .rt (.loc st.next) st' ∧ Sk st.next st' 0 := by
    intro cell
    obtain ⟨gr, hgr⟩ : ∃ gr, gr = (if cell < 0 then -cell else cell) % m := ⟨_, rfl⟩
    refine ⟨st.new (.lst [.int (if gr - 1000000000000000000 > 0 then gr - 1000000000000000000 else 0), .int ((gr % 2147483237 * 96293 + 8123 * t + 47 * (if decide (cell < 0) = true then 1 else 0) + 73) % 2305843009213693907), .int 0]), ?_, ?_⟩
    · simp only [bindE, pureE, asI_int, szT, Nat.reduceLeDiff, Nat.zero_le, Cell.view, fnB, sSeq, sIf, sE, sRet, sNx, sAsg, sPar, sExpr, eT, bNot, bAnd, bOr, asB_bl, eVar, eC, Eg.e1, Eg.e2, Eg.e3, eAnd, eOr, eNot, eIf, aNil, aCons, eCall, eB, eLst, eTup, nw, g1E, g2E, rdI, rdB, rdN, rdS, rdT, rdL, rdD, gN, M.of, M.bad, List.map_cons, List.map_nil, List.length_cons, List.length_nil, List.replicate, List.nil_append, List.cons_append, List.getElem?_cons_zero, List.getElem?_cons_succ, List.set_cons_zero, List.set_cons_succ, Nat.sub_zero, Nat.reduceSub, Nat.reduceAdd, gN1E, rds, if_true, if_false, iteE, Bool.not_true, Bool.not_false, Bool.false_eq_true, reduceIte, ite_true, ite_false, gAbs, gInt, pow47, hm, d1, ← hgr, d2, m3, m2, ltI, m4, gAdd, Eg.gSub, pow18, gMax2, d3]
    · refine ⟨_, _, _, new_self _ _, ?_, by omega, by omega, Int.emod_nonneg _ (by omega), ?_⟩
      · split <;> omega
      · have := Int.emod_lt_of_pos (gr % 2147483237 * 96293 + 8123 * t + 47 * (if decide (cell < 0) = true then 1 else 0) + 73) (show (0 : Int) < 2305843009213693907 by omega)
        omega
  obtain ⟨cell, hc⟩ : ∃ cell : Int, sAsg (eIf (eT (Eg.e2 gLt (eVar 1) (eB gLen (aCons (eVar 0) aNil)))) (Eg.e2 gIx (eVar 0) (eVar 1)) (Eg.e2 gAdd (Eg.e2 gMul (eC (.int (67))) (eVar 1)) (eC (.int (37))))) (gN 2) [some (.scr ns), some (.int t), none, none, none] st = .nx [some (.scr ns), some (.int t), some (.int cell), none, none] st := by
    by_cases hl : t < (ns.length : Int)
    · obtain ⟨cell, hq, _⟩ := at_mem h0 hl
      exact ⟨cell, by simp only [bindE, pureE, asI_int, szT, Nat.reduceLeDiff, Nat.zero_le, Cell.view, fnB, sSeq, sIf, sE, sRet, sNx, sAsg, sPar, sExpr, eT, bNot, bAnd, bOr, asB_bl, eVar, eC, Eg.e1, Eg.e2, Eg.e3, eAnd, eOr, eNot, eIf, aNil, aCons, eCall, eB, eLst, eTup, nw, g1E, g2E, rdI, rdB, rdN, rdS, rdT, rdL, rdD, gN, M.of, M.bad, List.map_cons, List.map_nil, List.length_cons, List.length_nil, List.replicate, List.nil_append, List.cons_append, List.getElem?_cons_zero, List.getElem?_cons_succ, List.set_cons_zero, List.set_cons_succ, Nat.sub_zero, Nat.reduceSub, Nat.reduceAdd, gN1E, rds, if_true, if_false, iteE, Bool.not_true, Bool.not_false, Bool.false_eq_true, reduceIte, ite_true, ite_false, rdC, gLen, ltI, hl, decide_true, gIx, hq, Option.map_some]⟩
    · exact ⟨67 * t + 37, by simp only [bindE, pureE, asI_int, szT, Nat.reduceLeDiff, Nat.zero_le, Cell.view, fnB, sSeq, sIf, sE, sRet, sNx, sAsg, sPar, sExpr, eT, bNot, bAnd, bOr, asB_bl, eVar, eC, Eg.e1, Eg.e2, Eg.e3, eAnd, eOr, eNot, eIf, aNil, aCons, eCall, eB, eLst, eTup, nw, g1E, g2E, rdI, rdB, rdN, rdS, rdT, rdL, rdD, gN, M.of, M.bad, List.map_cons, List.map_nil, List.length_cons, List.length_nil, List.replicate, List.nil_append, List.cons_append, List.getElem?_cons_zero, List.getElem?_cons_succ, List.set_cons_zero, List.set_cons_succ, Nat.sub_zero, Nat.reduceSub, Nat.reduceAdd, gN1E, rds, if_true, if_false, iteE, Bool.not_true, Bool.not_false, Bool.false_eq_true, reduceIte, ite_true, ite_false, rdC, gLen, ltI, hl, decide_false, m1, gAdd]⟩
  obtain ⟨st', e, k⟩ := core cell
  refine ⟨st', ?_, k⟩
  exact fn_rt (m := 5) (f := b__law_sack) rfl ((seqE hc).trans e)
end Pf

namespace Pf
open PySem PySem.Spec PyProof.Rows L2 Eg
theorem mul90 : gMul (.int (10 ^ 60)) (.int (10 ^ 30)) = some (.int (10 ^ 60 * 10 ^ 30)) := by
  have h : ((10 : Int) ^ 60).natAbs.log2 + ((10 : Int) ^ 30).natAbs.log2 < 1000000 := by decide +kernel
  show (if ((10 : Int) ^ 60).natAbs.log2 + ((10 : Int) ^ 30).natAbs.log2 < 1000000 then some (PV.int (10 ^ 60 * 10 ^ 30)) else none) = _
  rw [if_pos h]
theorem ev_numbers {l n : Nat} {st : Store} {cell : Int} (h : Sk l st n) (hn : n ≤ 10000) : ∃ ys st', F__law_numbers [.loc l, .int cell] st = .ok (.lst ys) st' ∧ ys.length = 10 ∧ (∀ y ∈ ys, Good y) ∧ Sk l st' (n + 1) := by
  obtain ⟨r, st', e, r0, r1, k⟩ := ev_grab (t := 5) h hn (by omega) (by omega)
  have d1 := modI (i := cell) (j := 10 ^ 60 * 10 ^ 30) (by decide +kernel)
  obtain ⟨a, ha⟩ : ∃ a : Int, a = cell % (10 ^ 60 * 10 ^ 30) := ⟨_, rfl⟩
  rw [← ha] at d1
  refine ⟨[.int a, .int (0 - a), .int (10 ^ 60 + r - 2), .int (0 - (10 ^ 60 + r - 2)), .int (10 ^ 60), .int (0 - 10 ^ 60), .int (10 ^ 60 - 1), .int (1 - 10 ^ 60), .int 0, .int (0 - 1)], st', ?_, rfl, ?_, k⟩
  · simp only [F__law_numbers, b__law_numbers, bindE, pureE, asI_int, szT, Nat.reduceLeDiff, Nat.zero_le, Cell.view, fnB, sSeq, sIf, sE, sRet, sNx, sAsg, sPar, sExpr, eT, bNot, bAnd, bOr, asB_bl, eVar, eC, Eg.e1, Eg.e2, Eg.e3, eAnd, eOr, eNot, eIf, aNil, aCons, eCall, eB, eLst, eTup, nw, g1E, g2E, rdI, rdB, rdN, rdS, rdT, rdL, rdD, gN, M.of, M.bad, List.map_cons, List.map_nil, List.length_cons, List.length_nil, List.replicate, List.nil_append, List.cons_append, List.getElem?_cons_zero, List.getElem?_cons_succ, List.set_cons_zero, List.set_cons_succ, Nat.sub_zero, Nat.reduceSub, Nat.reduceAdd, gN1E, rds, if_true, if_false, iteE, Bool.not_true, Bool.not_false, Bool.false_eq_true, reduceIte, ite_true, ite_false, gInt, pow60, pow30, mul90, d1, e, gAdd, Eg.gSub]
  · intro y hy
    simp only [List.mem_cons, List.not_mem_nil, or_false] at hy
    rcases hy with rfl | rfl | rfl | rfl | rfl | rfl | rfl | rfl | rfl | rfl <;> trivial
/-! for -/
theorem for_inv {g : PV → Eg.Fr → M Eg.Fr} {body : S} {xs : List PV} (I : Nat → Eg.Fr → Store → Prop)
    (h : ∀ i x ρ st, xs[i]? = some x → I i ρ st → ∃ ρ1 st1 ρ2 st2, g x ρ st = .ok ρ1 st1 ∧ body ρ1 st1 = .nx ρ2 st2 ∧ I (i + 1) ρ2 st2) : ∀ (k i : Nat) (ρ : Eg.Fr) (st : Store), i + k = xs.length → I i ρ st → ∃ ρ' st', forGo g body (.fz xs) k i ρ st = .nx ρ' st' ∧ I xs.length ρ' st'
  | 0, i, ρ, st, e, hI => ⟨ρ, st, by unfold forGo; rfl, by rw [show xs.length = i by omega]; exact hI⟩
  | k + 1, i, ρ, st, e, hI => by
    have hi : i < xs.length := by omega
    have e1 : xs[i]? = some xs[i] := List.getElem?_eq_getElem hi
    obtain ⟨ρ1, st1, ρ2, st2, h1, h2, h3⟩ := h i xs[i] ρ st e1 hI
    obtain ⟨ρ', st', q1, q2⟩ := for_inv I h k (i + 1) ρ2 st2 (by omega) h3
    refine ⟨ρ', st', ?_, q2⟩
    have e2 : (Src.fz xs).get st i = some xs[i] := e1
    unfold forGo
    rw [e2]
    dsimp only
    rw [h1]
    dsimp only
    rw [h2]
    exact q1
theorem sfor_inv {fi : Eg.Fr → M Src} {g : PV → Eg.Fr → M Eg.Fr} {body : S} {xs : List PV} {ρ : Eg.Fr} {st st0 : Store} (hfi : fi ρ st0 = .ok (.fz xs) st) (I : Nat → Eg.Fr → Store → Prop) (h0 : I 0 ρ st)
    (h : ∀ i x ρ st, xs[i]? = some x → I i ρ st → ∃ ρ1 st1 ρ2 st2, g x ρ st = .ok ρ1 st1 ∧ body ρ1 st1 = .nx ρ2 st2 ∧ I (i + 1) ρ2 st2) : ∃ ρ' st', sFor fi g body ρ st0 = .nx ρ' st' ∧ I xs.length ρ' st' := by
  obtain ⟨ρ', st', q1, q2⟩ := for_inv (g := g) (body := body) I h xs.length 0 ρ st (by omega) h0
  refine ⟨ρ', st', ?_, q2⟩
  unfold sFor sE
  rw [hfi]
  exact q1
theorem rg_len (lo : Int) (n : Nat) : (rgL lo n).length = n := by simp [rgL]
theorem rg1 {r : Int} {st : Store} (h0 : 0 ≤ r) (h1 : r < 1000) : srcRg1 [.int r] st = .ok (.fz (rgL 0 r.toNat)) st := by
  show (if -(2 ^ 62) ≤ r ∧ r < 2 ^ 62 then M.pure (Src.fz (rgL 0 r.toNat)) else M.bad) st = _
  rw [if_pos (by omega)]
  rfl
/-! texts -/
theorem strs1 : ∀ ys : List PV, (∀ y ∈ ys, ∃ c : Nat, y = .str [c]) → ∃ z : List Nat, z.length = ys.length ∧ strsP ys = some (z.map fun c => [c])
  | [], _ => ⟨[], rfl, rfl⟩
  | y :: ys, h => by
    obtain ⟨c, rfl⟩ := h y (by simp)
    obtain ⟨z, h1, h2⟩ := strs1 ys fun y hy => h y (by simp [hy])
    exact ⟨c :: z, by simp [h1], by simp [strsP, h2]⟩
theorem join1 {ys : List PV} {z : List Nat} (h : strsP ys = some (z.map fun c => [c])) (hl : z.length ≤ 1000) : gJoin0 (.str []) (.lst ys) = some (.str z) := by
  show ((strsP ys).bind fun ys => if (ys.map (·.length)).sum ≤ 16777216 then some (PV.str ys.flatten) else none) = _
  rw [h]
  have e1 : ∀ z : List Nat, ((z.map fun c => [c]).map (·.length)).sum = z.length := by
    intro z
    induction z with
    | nil => rfl
    | cons c z ih => simp at ih ⊢; omega
  have e2 : ∀ z : List Nat, (z.map fun c => [c]).flatten = z := by
    intro z
    induction z with
    | nil => rfl
    | cons c z ih => simp [ih]
  show (if ((z.map fun c => [c]).map (·.length)).sum ≤ 16777216 then some (PV.str (z.map fun c => [c]).flatten) else none) = _
  rw [e1, e2, if_pos (by omega)]
theorem cut_len {α : Type} (xs : List α) (lo hi : Option Int) : (cutP xs lo hi).length ≤ xs.length := by
  unfold cutP
  simp
  omega
theorem addS {x y : List Nat} (h : x.length + y.length ≤ 100000) : gAdd (.str x) (.str y) = some (.str (x ++ y)) := by
  show (if x.length + y.length ≤ sizeLine then some (PV.str (x ++ y)) else none) = _
  rw [if_pos (by rw [sizeLine_eq]; omega)]
theorem addL {x y : List PV} (h : x.length + y.length ≤ 100000) : gAdd (.lst x) (.lst y) = some (.lst (x ++ y)) := by
  show (if x.length + y.length ≤ sizeLine then some (PV.lst (x ++ y)) else none) = _
  rw [if_pos (by rw [sizeLine_eq]; omega)]
theorem addT {x y : List PV} (h : x.length + y.length ≤ 100000) : gAdd (.tup x) (.tup y) = some (.tup (x ++ y)) := by
  show (if x.length + y.length ≤ sizeLine then some (PV.tup (x ++ y)) else none) = _
  rw [if_pos (by rw [sizeLine_eq]; omega)]
theorem slS {z : List Nat} (h : z.length ≤ 1000) (lo hi : Option Int) : gSl (.str z) lo hi = some (.str (cutP z lo hi)) := by
  show (if z.length ≤ sizeLine then some (PV.str (cutP z lo hi)) else none) = _
  rw [if_pos (by rw [sizeLine_eq]; omega)]
theorem lenS {z : List Nat} (h : z.length ≤ 1000) : gLen [.str z] = some (.int z.length) := by
  show (if z.length ≤ sizeLine then some (PV.int z.length) else none) = _
  rw [if_pos (by rw [sizeLine_eq]; omega)]
theorem ev_texts {l n : Nat} {st : Store} (h : Sk l st n) (hn : n ≤ 5000) : ∃ ys st', F__law_texts [.loc l] st = .ok (.lst ys) st' ∧ ys.length = 12 ∧ (∀ y ∈ ys, Good y) ∧ Sk l st' (n + 52) := by
  let I : Nat → Eg.Fr → Store → Prop := fun i ρ st => ∃ ys a b c d e, ρ = [some (.loc l), some (.lst ys), a, b, c, d, e] ∧ ys.length = 3 * i ∧ (∀ y ∈ ys, Good y) ∧ Sk l st (n + 13 * i)
  have hfi : iRg1 (aCons (eC (.int (4))) aNil) [some (.loc l), some (.lst []), none, none, none, none, none] st = .ok (.fz (rgL 0 4)) st := by
    simp only [iRg1, bindE, pureE, asI_int, szT, Nat.reduceLeDiff, Nat.zero_le, Cell.view, fnB, sSeq, sIf, sE, sRet, sNx, sAsg, sPar, sExpr, eT, bNot, bAnd, bOr, asB_bl, eVar, eC, Eg.e1, Eg.e2, Eg.e3, eAnd, eOr, eNot, eIf, aNil, aCons, eCall, eB, eLst, eTup, nw, g1E, g2E, rdI, rdB, rdN, rdS, rdT, rdL, rdD, gN, M.of, M.bad, List.map_cons, List.map_nil, List.length_cons, List.length_nil, List.replicate, List.nil_append, List.cons_append, List.getElem?_cons_zero, List.getElem?_cons_succ, List.set_cons_zero, List.set_cons_succ, Nat.sub_zero, Nat.reduceSub, Nat.reduceAdd, gN1E, rds, if_true, if_false, iteE, Bool.not_true, Bool.not_false, Bool.false_eq_true, reduceIte, ite_true, ite_false, rg1 (show (0 : Int) ≤ 4 by omega) (by omega)]
    rfl
  obtain ⟨ρ', st', q1, q2⟩ := sfor_inv (g := gN 2) (body := (sSeq (sAsg (eJoin0 (eC (.str [])) (eLc false [6] (iRg1 (aCons (eCall 2 F__law_grab (aCons (eVar 0) (aCons (eC (.int (11))) aNil))) aNil)) (gN 6) fYes (eCall 1 F__law_letter (aCons (eVar 0) aNil)))) (gN 3)) (sSeq (sAsg (eCall 2 F__law_grab (aCons (eVar 0) (aCons (Eg.e2 gAdd (eB gLen (aCons (eVar 3) aNil)) (eC (.int (1)))) aNil))) (gN 4)) (sSeq (sAsg (eCall 2 F__law_one_of (aCons (eVar 0) (aCons (eLst false (aCons (eC (.str [65])) (aCons (eC (.str [90])) (aCons (eC (.str [55])) (aCons (eC (.str [32])) (aCons (eC (.str [95])) (aCons (eC (.str [10])) (aCons (eC (.str [64])) (aCons (eC (.str [63])) (aCons (eC (.str [96])) (aCons (eC (.str [123])) (aCons (eC (.str [46])) (aCons (eC (.str [42])) aNil))))))))))))) aNil))) (gN 5)) (sAsg (Eg.e2 gAdd (eVar 1) (eLst false (aCons (eVar 3) (aCons (Eg.e2 gAdd (Eg.e2 gAdd (eSl (eVar 3) none (some (eVar 4))) (eVar 5)) (eSl (eVar 3) (some (eVar 4)) none)) (aCons (Eg.e2 gAdd (Eg.e2 gAdd (eSl (eVar 3) none (some (eVar 4))) (eVar 5)) (eSl (eVar 3) (some (Eg.e2 gAdd (eVar 4) (eC (.int (1))))) none)) aNil))))) (gN 1)))))) hfi I ⟨[], none, none, none, none, none, rfl, rfl, by simp, h.mono (by omega)⟩ (by
    rintro i x ρ st hi ⟨ys, a, b, c, d, e, rfl, hy, hg, hs⟩
    have hi4 : i < 4 := by
      have := (List.getElem?_eq_some_iff.mp hi).1
      rw [rg_len] at this; exact this
    obtain ⟨r, st1, e1, r0, r1, k1⟩ := ev_grab (t := 11) hs (by omega) (by omega) (by omega)
    have hf2 : iRg1 (aCons (eCall 2 F__law_grab (aCons (eVar 0) (aCons (eC (.int (11))) aNil))) aNil) [some (.loc l), some (.lst ys), some x, b, c, d, e] st = .ok (.fz (rgL 0 r.toNat)) st1 := by
      simp only [iRg1, bindE, pureE, asI_int, szT, Nat.reduceLeDiff, Nat.zero_le, Cell.view, fnB, sSeq, sIf, sE, sRet, sNx, sAsg, sPar, sExpr, eT, bNot, bAnd, bOr, asB_bl, eVar, eC, Eg.e1, Eg.e2, Eg.e3, eAnd, eOr, eNot, eIf, aNil, aCons, eCall, eB, eLst, eTup, nw, g1E, g2E, rdI, rdB, rdN, rdS, rdT, rdL, rdD, gN, M.of, M.bad, List.map_cons, List.map_nil, List.length_cons, List.length_nil, List.replicate, List.nil_append, List.cons_append, List.getElem?_cons_zero, List.getElem?_cons_succ, List.set_cons_zero, List.set_cons_succ, Nat.sub_zero, Nat.reduceSub, Nat.reduceAdd, gN1E, rds, if_true, if_false, iteE, Bool.not_true, Bool.not_false, Bool.false_eq_true, reduceIte, ite_true, ite_false, e1, rg1 r0 (by omega)]
    obtain ⟨zs, st2, f1, f2, f3, f4⟩ := elc_inv (own := [6]) (g := gN 6) (fe := eCall 1 F__law_letter (aCons (eVar 0) aNil)) hf2 (by rw [rg_len, sizeLine_eq]; omega) (fun j st => Sk l st (n + 13 * i + 1 + j)) (fun y => ∃ c : Nat, y = .str [c]) k1 (by
      intro j y st hj hk
      rw [rg_len] at hj
      obtain ⟨c1, st', e2, k2⟩ := ev_letter hk (by omega)
      refine ⟨_, _, st', rfl, ?_, k2, c1, rfl⟩
      simp only [wipeF, bindE, pureE, asI_int, szT, Nat.reduceLeDiff, Nat.zero_le, Cell.view, fnB, sSeq, sIf, sE, sRet, sNx, sAsg, sPar, sExpr, eT, bNot, bAnd, bOr, asB_bl, eVar, eC, Eg.e1, Eg.e2, Eg.e3, eAnd, eOr, eNot, eIf, aNil, aCons, eCall, eB, eLst, eTup, nw, g1E, g2E, rdI, rdB, rdN, rdS, rdT, rdL, rdD, gN, M.of, M.bad, List.map_cons, List.map_nil, List.length_cons, List.length_nil, List.replicate, List.nil_append, List.cons_append, List.getElem?_cons_zero, List.getElem?_cons_succ, List.set_cons_zero, List.set_cons_succ, Nat.sub_zero, Nat.reduceSub, Nat.reduceAdd, gN1E, rds, if_true, if_false, iteE, Bool.not_true, Bool.not_false, Bool.false_eq_true, reduceIte, ite_true, ite_false, e2])
    rw [rg_len] at f2 f3
    obtain ⟨z, z1, z2⟩ := strs1 zs f4
    have z3 : z.length ≤ 10 := by omega
    have hj := join1 z2 (by omega)
    have s1 : sAsg (eJoin0 (eC (.str [])) (eLc false [6] (iRg1 (aCons (eCall 2 F__law_grab (aCons (eVar 0) (aCons (eC (.int (11))) aNil))) aNil)) (gN 6) fYes (eCall 1 F__law_letter (aCons (eVar 0) aNil)))) (gN 3) [some (.loc l), some (.lst ys), some x, b, c, d, e] st = .nx [some (.loc l), some (.lst ys), some x, some (.str z), c, d, e] st2 := by
      simp only [eJoin0, bindE, pureE, asI_int, szT, Nat.reduceLeDiff, Nat.zero_le, Cell.view, fnB, sSeq, sIf, sE, sRet, sNx, sAsg, sPar, sExpr, eT, bNot, bAnd, bOr, asB_bl, eVar, eC, Eg.e1, Eg.e2, Eg.e3, eAnd, eOr, eNot, eIf, aNil, aCons, eCall, eB, eLst, eTup, nw, g1E, g2E, rdI, rdB, rdN, rdS, rdT, rdL, rdD, gN, M.of, M.bad, List.map_cons, List.map_nil, List.length_cons, List.length_nil, List.replicate, List.nil_append, List.cons_append, List.getElem?_cons_zero, List.getElem?_cons_succ, List.set_cons_zero, List.set_cons_succ, Nat.sub_zero, Nat.reduceSub, Nat.reduceAdd, gN1E, rds, if_true, if_false, iteE, Bool.not_true, Bool.not_false, Bool.false_eq_true, reduceIte, ite_true, ite_false, f1, hj]
    obtain ⟨sp, st3, e3, sp0, sp1, k3⟩ := ev_grab (t := (z.length : Int) + 1) f2 (by omega) (by omega) (by omega)
    have s2 : sAsg (eCall 2 F__law_grab (aCons (eVar 0) (aCons (Eg.e2 gAdd (eB gLen (aCons (eVar 3) aNil)) (eC (.int (1)))) aNil))) (gN 4) [some (.loc l), some (.lst ys), some x, some (.str z), c, d, e] st2 = .nx [some (.loc l), some (.lst ys), some x, some (.str z), some (.int sp), d, e] st3 := by
      simp only [bindE, pureE, asI_int, szT, Nat.reduceLeDiff, Nat.zero_le, Cell.view, fnB, sSeq, sIf, sE, sRet, sNx, sAsg, sPar, sExpr, eT, bNot, bAnd, bOr, asB_bl, eVar, eC, Eg.e1, Eg.e2, Eg.e3, eAnd, eOr, eNot, eIf, aNil, aCons, eCall, eB, eLst, eTup, nw, g1E, g2E, rdI, rdB, rdN, rdS, rdT, rdL, rdD, gN, M.of, M.bad, List.map_cons, List.map_nil, List.length_cons, List.length_nil, List.replicate, List.nil_append, List.cons_append, List.getElem?_cons_zero, List.getElem?_cons_succ, List.set_cons_zero, List.set_cons_succ, Nat.sub_zero, Nat.reduceSub, Nat.reduceAdd, gN1E, rds, if_true, if_false, iteE, Bool.not_true, Bool.not_false, Bool.false_eq_true, reduceIte, ite_true, ite_false, lenS (show z.length ≤ 1000 by omega), gAdd, e3]
    obtain ⟨od, st4, e4, om, k4⟩ := ev_one_of (xs := [.str [65], .str [90], .str [55], .str [32], .str [95], .str [10], .str [64], .str [63], .str [96], .str [123], .str [46], .str [42]]) k3 (by omega) (by simp) (by simp)
    obtain ⟨o, rfl⟩ : ∃ o : Nat, od = .str [o] := by
      simp only [List.mem_cons, List.not_mem_nil, or_false] at om
      rcases om with rfl | rfl | rfl | rfl | rfl | rfl | rfl | rfl | rfl | rfl | rfl | rfl <;> exact ⟨_, rfl⟩
    have s3 : sAsg (eCall 2 F__law_one_of (aCons (eVar 0) (aCons (eLst false (aCons (eC (.str [65])) (aCons (eC (.str [90])) (aCons (eC (.str [55])) (aCons (eC (.str [32])) (aCons (eC (.str [95])) (aCons (eC (.str [10])) (aCons (eC (.str [64])) (aCons (eC (.str [63])) (aCons (eC (.str [96])) (aCons (eC (.str [123])) (aCons (eC (.str [46])) (aCons (eC (.str [42])) aNil))))))))))))) aNil))) (gN 5) [some (.loc l), some (.lst ys), some x, some (.str z), some (.int sp), d, e] st3 = .nx [some (.loc l), some (.lst ys), some x, some (.str z), some (.int sp), some (.str [o]), e] st4 := by
      simp only [bindE, pureE, asI_int, szT, Nat.reduceLeDiff, Nat.zero_le, Cell.view, fnB, sSeq, sIf, sE, sRet, sNx, sAsg, sPar, sExpr, eT, bNot, bAnd, bOr, asB_bl, eVar, eC, Eg.e1, Eg.e2, Eg.e3, eAnd, eOr, eNot, eIf, aNil, aCons, eCall, eB, eLst, eTup, nw, g1E, g2E, rdI, rdB, rdN, rdS, rdT, rdL, rdD, gN, M.of, M.bad, List.map_cons, List.map_nil, List.length_cons, List.length_nil, List.replicate, List.nil_append, List.cons_append, List.getElem?_cons_zero, List.getElem?_cons_succ, List.set_cons_zero, List.set_cons_succ, Nat.sub_zero, Nat.reduceSub, Nat.reduceAdd, gN1E, rds, if_true, if_false, iteE, Bool.not_true, Bool.not_false, Bool.false_eq_true, reduceIte, ite_true, ite_false, e4]
    have c1 := cut_len z none (some sp)
    have c2 := cut_len z (some sp) none
    have c3 := cut_len z (some (sp + 1)) none
    have a1 := addS (x := cutP z none (some sp)) (y := [o]) (by simp only [List.length_cons, List.length_nil]; omega)
    have a2 := addS (x := cutP z none (some sp) ++ [o]) (y := cutP z (some sp) none) (by simp only [List.length_append, List.length_cons, List.length_nil]; omega)
    have a3 := addS (x := cutP z none (some sp) ++ [o]) (y := cutP z (some (sp + 1)) none) (by simp only [List.length_append, List.length_cons, List.length_nil]; omega)
    have a5 : gAdd (.int sp) (.int 1) = some (.int (sp + 1)) := rfl
    have sl := slS (show z.length ≤ 1000 by omega)
    obtain ⟨t2, ht2⟩ : ∃ t2, t2 = cutP z none (some sp) ++ [o] ++ cutP z (some sp) none := ⟨_, rfl⟩
    obtain ⟨t3, ht3⟩ : ∃ t3, t3 = cutP z none (some sp) ++ [o] ++ cutP z (some (sp + 1)) none := ⟨_, rfl⟩
    have l2 : t2.length ≤ 100 := by rw [ht2]; simp only [List.length_append, List.length_cons, List.length_nil]; omega
    have l3 : t3.length ≤ 100 := by rw [ht3]; simp only [List.length_append, List.length_cons, List.length_nil]; omega
    rw [← ht2] at a2
    rw [← ht3] at a3
    have a4 := addL (x := ys) (y := [.str z, .str t2, .str t3]) (by simp only [List.length_cons, List.length_nil]; omega)
    have s4 : sAsg (Eg.e2 gAdd (eVar 1) (eLst false (aCons (eVar 3) (aCons (Eg.e2 gAdd (Eg.e2 gAdd (eSl (eVar 3) none (some (eVar 4))) (eVar 5)) (eSl (eVar 3) (some (eVar 4)) none)) (aCons (Eg.e2 gAdd (Eg.e2 gAdd (eSl (eVar 3) none (some (eVar 4))) (eVar 5)) (eSl (eVar 3) (some (Eg.e2 gAdd (eVar 4) (eC (.int (1))))) none)) aNil))))) (gN 1) [some (.loc l), some (.lst ys), some x, some (.str z), some (.int sp), some (.str [o]), e] st4 = .nx [some (.loc l), some (.lst (ys ++ [.str z, .str t2, .str t3])), some x, some (.str z), some (.int sp), some (.str [o]), e] st4 := by
      simp only [bindE, pureE, asI_int, szT, Nat.reduceLeDiff, Nat.zero_le, Cell.view, fnB, sSeq, sIf, sE, sRet, sNx, sAsg, sPar, sExpr, eT, bNot, bAnd, bOr, asB_bl, eVar, eC, Eg.e1, Eg.e2, Eg.e3, eAnd, eOr, eNot, eIf, aNil, aCons, eCall, eB, eLst, eTup, nw, g1E, g2E, rdI, rdB, rdN, rdS, rdT, rdL, rdD, gN, M.of, M.bad, List.map_cons, List.map_nil, List.length_cons, List.length_nil, List.replicate, List.nil_append, List.cons_append, List.getElem?_cons_zero, List.getElem?_cons_succ, List.set_cons_zero, List.set_cons_succ, Nat.sub_zero, Nat.reduceSub, Nat.reduceAdd, gN1E, rds, if_true, if_false, iteE, Bool.not_true, Bool.not_false, Bool.false_eq_true, reduceIte, ite_true, ite_false, eSl, oP, sl, a1, a2, a3, a5, a4]
    refine ⟨[some (.loc l), some (.lst ys), some x, b, c, d, e], st, [some (.loc l), some (.lst (ys ++ [.str z, .str t2, .str t3])), some x, some (.str z), some (.int sp), some (.str [o]), e], st4, rfl, ?_, ⟨_, _, _, _, _, _, rfl, by simp only [List.length_append, List.length_cons, List.length_nil]; omega, ?_, k4.mono (by omega)⟩⟩
    · rw [seqE s1, seqE s2, seqE s3]
      exact s4
    · intro y hy
      rcases List.mem_append.mp hy with hy | hy
      · exact hg y hy
      · simp only [List.mem_cons, List.not_mem_nil, or_false] at hy
        rcases hy with rfl | rfl | rfl
        · show z.length ≤ 1000; omega
        · show t2.length ≤ 1000; omega
        · show t3.length ≤ 1000; omega)
  obtain ⟨ys, a, b, c, d, e, rfl, hy, hg, hs⟩ := q2
  rw [rg_len] at hy hs
  refine ⟨ys, st', fn_rt (m := 7) (f := b__law_texts) rfl ?_, hy, hg, hs⟩
  have s0 : sAsg (eLst false aNil) (gN 1) [some (.loc l), none, none, none, none, none, none] st = .nx [some (.loc l), some (.lst []), none, none, none, none, none] st := by
    simp only [bindE, pureE, asI_int, szT, Nat.reduceLeDiff, Nat.zero_le, Cell.view, fnB, sSeq, sIf, sE, sRet, sNx, sAsg, sPar, sExpr, eT, bNot, bAnd, bOr, asB_bl, eVar, eC, Eg.e1, Eg.e2, Eg.e3, eAnd, eOr, eNot, eIf, aNil, aCons, eCall, eB, eLst, eTup, nw, g1E, g2E, rdI, rdB, rdN, rdS, rdT, rdL, rdD, gN, M.of, M.bad, List.map_cons, List.map_nil, List.length_cons, List.length_nil, List.replicate, List.nil_append, List.cons_append, List.getElem?_cons_zero, List.getElem?_cons_succ, List.set_cons_zero, List.set_cons_succ, Nat.sub_zero, Nat.reduceSub, Nat.reduceAdd, gN1E, rds, if_true, if_false, iteE, Bool.not_true, Bool.not_false, Bool.false_eq_true, reduceIte, ite_true, ite_false]
  unfold b__law_texts
  show sSeq _ _ [some (.loc l), none, none, none, none, none, none] st = _
  rw [seqE s0, seqE q1]
  simp only [bindE, pureE, asI_int, szT, Nat.reduceLeDiff, Nat.zero_le, Cell.view, fnB, sSeq, sIf, sE, sRet, sNx, sAsg, sPar, sExpr, eT, bNot, bAnd, bOr, asB_bl, eVar, eC, Eg.e1, Eg.e2, Eg.e3, eAnd, eOr, eNot, eIf, aNil, aCons, eCall, eB, eLst, eTup, nw, g1E, g2E, rdI, rdB, rdN, rdS, rdT, rdL, rdD, gN, M.of, M.bad, List.map_cons, List.map_nil, List.length_cons, List.length_nil, List.replicate, List.nil_append, List.cons_append, List.getElem?_cons_zero, List.getElem?_cons_succ, List.set_cons_zero, List.set_cons_succ, Nat.sub_zero, Nat.reduceSub, Nat.reduceAdd, gN1E, rds, if_true, if_false, iteE, Bool.not_true, Bool.not_false, Bool.false_eq_true, reduceIte, ite_true, ite_false]
end Pf

namespace Pf
open PySem PySem.Spec PyProof.Rows L2 Eg
/-! tuples -/
def It (y : PV) : Prop := isD y = true ∧ pdep y ≤ 8
def Tq (n : Nat) (xs : List PV) : Prop := xs.length ≤ n ∧ ∀ y ∈ xs, It y
theorem Tq.app {n m : Nat} {xs ys : List PV} (a : Tq n xs) (b : Tq m ys) : Tq (n + m) (xs ++ ys) := by
  refine ⟨by have := a.1; have := b.1; simp only [List.length_append]; omega, fun y hy => ?_⟩
  rcases List.mem_append.mp hy with h | h
  · exact a.2 y h
  · exact b.2 y h
theorem cut_mem {α : Type} {xs : List α} {lo hi : Option Int} {y : α} (h : y ∈ cutP xs lo hi) : y ∈ xs := List.mem_of_mem_drop (List.mem_of_mem_take h)
theorem Tq.cut {n : Nat} {xs : List PV} (a : Tq n xs) (lo hi : Option Int) : Tq n (cutP xs lo hi) := ⟨Nat.le_trans (cut_len xs lo hi) a.1, fun y hy => a.2 y (cut_mem hy)⟩
theorem Tq.rev {n : Nat} {xs : List PV} (a : Tq n xs) : Tq n xs.reverse := ⟨by rw [List.length_reverse]; exact a.1, fun y hy => a.2 y (List.mem_reverse.mp hy)⟩
theorem Tq.one {y : PV} (h : It y) : Tq 1 [y] := ⟨Nat.le_refl _, fun z hz => by simp at hz; subst hz; exact h⟩
theorem Tq.good {n : Nat} {xs : List PV} (a : Tq n xs) (h : n < 64) : Good (.tup xs) := ⟨Nat.lt_of_le_of_lt a.1 h, a.2⟩
theorem Tq.add {n m : Nat} {xs ys : List PV} (a : Tq n xs) (b : Tq m ys) (h : n + m ≤ 100) : gAdd (.tup xs) (.tup ys) = some (.tup (xs ++ ys)) := addT (by have := a.1; have := b.1; omega)
theorem it_int (i : Int) : It (.int i) := ⟨rfl, by simp [pdep]⟩
def isI (y : PV) : Prop := ∃ i, y = .int i
theorem psort_ints {xs : List PV} (h : ∀ y ∈ xs, isI y) (hl : xs.length ≤ 1000) : ∃ zs, psort xs = some zs ∧ zs.length = xs.length ∧ ∀ z ∈ zs, z ∈ xs := by
  have h1 : ∀ x ∈ xs, isD x = true ∧ pdep x ≤ 60 := fun x hx => by obtain ⟨i, rfl⟩ := h x hx; exact ⟨rfl, by simp [pdep]⟩
  have h2 : ∀ x ∈ xs, ∀ y ∈ xs, palk x y = true := fun x hx y hy => by obtain ⟨i, rfl⟩ := h x hx; obtain ⟨j, rfl⟩ := h y hy; rfl
  have h3 : okSrt xs = true := by
    simp only [okSrt, Bool.and_eq_true, Bool.or_eq_true, List.all_eq_true, decide_eq_true_eq]
    exact ⟨⟨h1, h2⟩, .inr fun x hx => by obtain ⟨i, rfl⟩ := h x hx; rfl⟩
  refine ⟨srtL ple xs, ?_, srtL_len xs, fun z hz => ?_⟩
  · unfold psort
    rw [h3, if_pos]
    simp only [Bool.true_and, decide_eq_true_eq]
    rw [sizeLine_eq]; omega
  · rw [psort_merge h1 h2] at hz
    exact List.mem_mergeSort.mp hz
theorem insI_len (x : Int) : ∀ ys : List Int, (insI x ys).length ≤ ys.length + 1
  | [] => by simp [insI]
  | y :: ys => by
    unfold insI
    have := insI_len x ys
    split
    · simp
    · split
      · simp
      · simp; omega
theorem setI_len : ∀ xs : List Int, (setI xs).length ≤ xs.length
  | [] => Nat.le_refl _
  | x :: xs => by
    have := insI_len x (setI xs)
    have := setI_len xs
    unfold setI
    simp; omega
theorem ints_all : ∀ ys : List PV, (∀ y ∈ ys, isI y) → ∃ ns : List Int, ys = ns.map .int
  | [], _ => ⟨[], rfl⟩
  | y :: ys, h => by
    obtain ⟨i, rfl⟩ := h y (by simp)
    obtain ⟨ns, rfl⟩ := ints_all ys fun z hz => h z (by simp [hz])
    exact ⟨i :: ns, rfl⟩
theorem ev_tuples {l n : Nat} {st : Store} (h : Sk l st n) (hn : n ≤ 5000) : ∃ ys st', F__law_tuples [.loc l] st = .ok (.lst ys) st' ∧ ys.length = 22 ∧ (∀ y ∈ ys, Good y) := by
  obtain ⟨r, st1, e1, r0, r1, k1⟩ := ev_grab (t := 15) h (by omega) (by omega) (by omega)
  have hf : iRg1 (aCons (eCall 2 F__law_grab (aCons (eVar 0) (aCons (eC (.int (15))) aNil))) aNil) [some (.loc l), none, none, none, none, none] st = .ok (.fz (rgL 0 r.toNat)) st1 := by
    simp only [iRg1, bindE, pureE, asI_int, szT, Nat.reduceLeDiff, Nat.zero_le, Cell.view, fnB, sSeq, sIf, sE, sRet, sNx, sAsg, sPar, sExpr, eT, bNot, bAnd, bOr, asB_bl, eVar, eC, Eg.e1, Eg.e2, Eg.e3, eAnd, eOr, eNot, eIf, aNil, aCons, eCall, eB, eLst, eTup, nw, g1E, g2E, rdI, rdB, rdN, rdS, rdT, rdL, rdD, gN, M.of, M.bad, List.map_cons, List.map_nil, List.length_cons, List.length_nil, List.replicate, List.nil_append, List.cons_append, List.getElem?_cons_zero, List.getElem?_cons_succ, List.set_cons_zero, List.set_cons_succ, Nat.sub_zero, Nat.reduceSub, Nat.reduceAdd, gN1E, rds, if_true, if_false, iteE, Bool.not_true, Bool.not_false, Bool.false_eq_true, reduceIte, ite_true, ite_false, e1, rg1 r0 (by omega)]
  obtain ⟨zs, st2, f1, f2, f3, f4⟩ := elc_inv (own := [5]) (g := gN 5) (fe := eCall 2 F__law_grab (aCons (eVar 0) (aCons (eCall 2 F__law_one_of (aCons (eVar 0) (aCons (eLst false (aCons (eC (.int (3))) (aCons (eC (.int (20))) (aCons (Eg.e2 gPow (eC (.int (10))) (eC (.int (18)))) aNil)))) aNil))) aNil))) hf (by rw [rg_len, sizeLine_eq]; omega) (fun j st => Sk l st (n + 1 + 2 * j)) isI k1 (by
    intro j y st hj hk
    rw [rg_len] at hj
    obtain ⟨x, st', e2, xm, k2⟩ := ev_one_of (xs := [.int 3, .int 20, .int 1000000000000000000]) hk (by omega) (by simp) (by simp)
    obtain ⟨t, rfl, t0, t1⟩ : ∃ t : Int, x = .int t ∧ 0 < t ∧ t < 4611686018427387904 := by
      simp only [List.mem_cons, List.not_mem_nil, or_false] at xm
      rcases xm with rfl | rfl | rfl
      · exact ⟨_, rfl, by omega, by omega⟩
      · exact ⟨_, rfl, by omega, by omega⟩
      · exact ⟨_, rfl, by omega, by omega⟩
    obtain ⟨v, st'', e3, v0, v1, k3⟩ := ev_grab (t := t) k2 (by omega) t0 t1
    refine ⟨_, _, st'', rfl, ?_, k3.mono (by omega), v, rfl⟩
    simp only [wipeF, bindE, pureE, asI_int, szT, Nat.reduceLeDiff, Nat.zero_le, Cell.view, fnB, sSeq, sIf, sE, sRet, sNx, sAsg, sPar, sExpr, eT, bNot, bAnd, bOr, asB_bl, eVar, eC, Eg.e1, Eg.e2, Eg.e3, eAnd, eOr, eNot, eIf, aNil, aCons, eCall, eB, eLst, eTup, nw, g1E, g2E, rdI, rdB, rdN, rdS, rdT, rdL, rdD, gN, M.of, M.bad, List.map_cons, List.map_nil, List.length_cons, List.length_nil, List.replicate, List.nil_append, List.cons_append, List.getElem?_cons_zero, List.getElem?_cons_succ, List.set_cons_zero, List.set_cons_succ, Nat.sub_zero, Nat.reduceSub, Nat.reduceAdd, gN1E, rds, if_true, if_false, iteE, Bool.not_true, Bool.not_false, Bool.false_eq_true, reduceIte, ite_true, ite_false, pow18, e2, e3])
  rw [rg_len] at f2 f3
  obtain ⟨ns, rfl⟩ := ints_all zs f4
  have hnl : ns.length ≤ 14 := by simp at f3; omega
  obtain ⟨row, hrow⟩ : ∃ row : List PV, row = (setI ns).map .int := ⟨_, rfl⟩
  have rI : ∀ y ∈ row, isI y := fun y hy => by rw [hrow] at hy; obtain ⟨i, _, rfl⟩ := List.mem_map.mp hy; exact ⟨i, rfl⟩
  have rl : row.length ≤ 14 := by rw [hrow, List.length_map]; exact Nat.le_trans (setI_len ns) hnl
  have rt : Tq 14 row := ⟨rl, fun y hy => by obtain ⟨i, rfl⟩ := rI y hy; exact it_int i⟩
  have hss : gSortSet (.lst (ns.map PV.int)) = some row := by
    show ((intsP (ns.map PV.int)).bind fun ns => if ns.length < 64 then some ((setI ns).map PV.int) else none) = _
    rw [intsP_map]
    show (if ns.length < 64 then some ((setI ns).map PV.int) else none) = _
    rw [if_pos (by omega), hrow]
  have s1 : (sAsg (eB gTuple (aCons (eSS false (eLc false [5] (iRg1 (aCons (eCall 2 F__law_grab (aCons (eVar 0) (aCons (eC (.int (15))) aNil))) aNil)) (gN 5) fYes (eCall 2 F__law_grab (aCons (eVar 0) (aCons (eCall 2 F__law_one_of (aCons (eVar 0) (aCons (eLst false (aCons (eC (.int (3))) (aCons (eC (.int (20))) (aCons (Eg.e2 gPow (eC (.int (10))) (eC (.int (18)))) aNil)))) aNil))) aNil))))) aNil)) (gN 1)) [some (.loc l), none, none, none, none, none] st = .nx [some (.loc l), some (.tup row), none, none, none, none] st2 := by
    simp only [bindE, pureE, asI_int, szT, Nat.reduceLeDiff, Nat.zero_le, Cell.view, fnB, sSeq, sIf, sE, sRet, sNx, sAsg, sPar, sExpr, eT, bNot, bAnd, bOr, asB_bl, eVar, eC, Eg.e1, Eg.e2, Eg.e3, eAnd, eOr, eNot, eIf, aNil, aCons, eCall, eB, eLst, eTup, nw, g1E, g2E, rdI, rdB, rdN, rdS, rdT, rdL, rdD, gN, M.of, M.bad, List.map_cons, List.map_nil, List.length_cons, List.length_nil, List.replicate, List.nil_append, List.cons_append, List.getElem?_cons_zero, List.getElem?_cons_succ, List.set_cons_zero, List.set_cons_succ, Nat.sub_zero, Nat.reduceSub, Nat.reduceAdd, gN1E, rds, if_true, if_false, iteE, Bool.not_true, Bool.not_false, Bool.false_eq_true, reduceIte, ite_true, ite_false, eSS, f1, hss, gTuple]
  obtain ⟨at_, st3, e3, at0, at1, k3⟩ := ev_grab (t := (row.length : Int) + 1) f2 (by omega) (by omega) (by omega)
  obtain ⟨od, st4, e4, om, k4⟩ := ev_one_of (xs := [.int (0 - 1), .bl true, .non, .str [48], .int (10 ^ 60), .tup [.int 0], .int 0, .int (10 ^ 60 - 1)]) k3 (by omega) (by simp) (by simp)
  have oi : It od := by
    simp only [List.mem_cons, List.not_mem_nil, or_false] at om
    rcases om with rfl | rfl | rfl | rfl | rfl | rfl | rfl | rfl <;> exact ⟨rfl, by simp [pdep, pdeps]⟩
  have s2 : (sPar 3 4 (aCons (eCall 2 F__law_grab (aCons (eVar 0) (aCons (Eg.e2 gAdd (eB gLen (aCons (eVar 1) aNil)) (eC (.int (1)))) aNil))) (aCons (eCall 2 F__law_one_of (aCons (eVar 0) (aCons (eLst false (aCons (Eg.e2 gSub (eC (.int (0))) (eC (.int (1)))) (aCons (eC (.bl true)) (aCons (eC .non) (aCons (eC (.str [48])) (aCons (Eg.e2 gPow (eC (.int (10))) (eC (.int (60)))) (aCons (eTup (aCons (eC (.int (0))) aNil)) (aCons (eC (.int (0))) (aCons (Eg.e2 gSub (Eg.e2 gPow (eC (.int (10))) (eC (.int (60)))) (eC (.int (1)))) aNil))))))))) aNil))) aNil))) [some (.loc l), some (.tup row), none, none, none, none] st2 = .nx [some (.loc l), some (.tup row), none, some (.int at_), some od, none] st4 := by
    simp only [bindE, pureE, asI_int, szT, Nat.reduceLeDiff, Nat.zero_le, Cell.view, fnB, sSeq, sIf, sE, sRet, sNx, sAsg, sPar, sExpr, eT, bNot, bAnd, bOr, asB_bl, eVar, eC, Eg.e1, Eg.e2, Eg.e3, eAnd, eOr, eNot, eIf, aNil, aCons, eCall, eB, eLst, eTup, nw, g1E, g2E, rdI, rdB, rdN, rdS, rdT, rdL, rdD, gN, M.of, M.bad, List.map_cons, List.map_nil, List.length_cons, List.length_nil, List.replicate, List.nil_append, List.cons_append, List.getElem?_cons_zero, List.getElem?_cons_succ, List.set_cons_zero, List.set_cons_succ, Nat.sub_zero, Nat.reduceSub, Nat.reduceAdd, gN1E, rds, if_true, if_false, iteE, Bool.not_true, Bool.not_false, Bool.false_eq_true, reduceIte, ite_true, ite_false, gLen, gAdd, e3, Eg.gSub, pow60, e4]
  have slT : ∀ (xs : List PV) (lo hi : Option Int), gSl (.tup xs) lo hi = some (.tup (cutP xs lo hi)) := fun _ _ _ => rfl
  have a0 : gAdd (.int at_) (.int 1) = some (.int (at_ + 1)) := rfl
  have a1 := rt.add (rt.cut none (some 1)) (by omega)
  have a2 := (rt.cut none (some at_)).add (rt.cut (some (at_ + 1)) none) (by omega)
  have a3 := (rt.cut none (some at_)).add (Tq.one oi) (by omega)
  have a4 := ((rt.cut none (some at_)).app (Tq.one oi)).add (rt.cut (some at_) none) (by omega)
  have s3 : (sAsg (eLst false (aCons (eVar 1) (aCons (Eg.e1 gRev (eVar 1)) (aCons (Eg.e2 gAdd (eVar 1) (eSl (eVar 1) none (some (eC (.int (1)))))) (aCons (Eg.e2 gAdd (eSl (eVar 1) none (some (eVar 3))) (eSl (eVar 1) (some (Eg.e2 gAdd (eVar 3) (eC (.int (1))))) none)) (aCons (Eg.e2 gAdd (Eg.e2 gAdd (eSl (eVar 1) none (some (eVar 3))) (eTup (aCons (eVar 4) aNil))) (eSl (eVar 1) (some (eVar 3)) none)) (aCons (eBL false gList (aCons (eVar 1) aNil)) (aCons (eTup (aCons (eVar 4) aNil)) (aCons (eTup aNil) aNil))))))))) (gN 2)) [some (.loc l), some (.tup row), none, some (.int at_), some od, none] st4 = .nx [some (.loc l), some (.tup row), some (.lst [.tup row, .tup row.reverse, .tup (row ++ cutP row none (some 1)), .tup (cutP row none (some at_) ++ cutP row (some (at_ + 1)) none), .tup (cutP row none (some at_) ++ [od] ++ cutP row (some at_) none), .lst row, .tup [od], .tup []]), some (.int at_), some od, none] st4 := by
    simp only [bindE, pureE, asI_int, szT, Nat.reduceLeDiff, Nat.zero_le, Cell.view, fnB, sSeq, sIf, sE, sRet, sNx, sAsg, sPar, sExpr, eT, bNot, bAnd, bOr, asB_bl, eVar, eC, Eg.e1, Eg.e2, Eg.e3, eAnd, eOr, eNot, eIf, aNil, aCons, eCall, eB, eLst, eTup, nw, g1E, g2E, rdI, rdB, rdN, rdS, rdT, rdL, rdD, gN, M.of, M.bad, List.map_cons, List.map_nil, List.length_cons, List.length_nil, List.replicate, List.nil_append, List.cons_append, List.getElem?_cons_zero, List.getElem?_cons_succ, List.set_cons_zero, List.set_cons_succ, Nat.sub_zero, Nat.reduceSub, Nat.reduceAdd, gN1E, rds, if_true, if_false, iteE, Bool.not_true, Bool.not_false, Bool.false_eq_true, reduceIte, ite_true, ite_false, gRev, eSl, oP, slT, a0, a1, a2, a3, a4, eBL, gList]
  have b1 := rt.add (rt.cut none (some 2)) (by omega)
  obtain ⟨sr, p1, p2, p3⟩ := psort_ints (xs := row ++ cutP row none (some 2)) (fun y hy => by
    rcases List.mem_append.mp hy with z | z
    · exact rI y z
    · exact rI y (cut_mem z)) (by have := cut_len row none (some 2); simp only [List.length_append]; omega)
  have pt : Tq 28 sr := ⟨by have := cut_len row none (some 2); rw [p2]; simp only [List.length_append]; omega, fun y hy => (rt.app (rt.cut none (some 2))).2 y (p3 y hy)⟩
  have b2 := rt.add (Tq.one (it_int (10 ^ 60 - 1))) (by omega)
  have b3 := rt.add (Tq.one (it_int (10 ^ 60))) (by omega)
  have b4 := (Tq.one (it_int (0 - 1))).add rt (by omega)
  have gs : gSorted [.tup (row ++ cutP row none (some 2))] = some sr := p1
  have s4 : (sAsg (Eg.e2 gAdd (eVar 2) (eLst false (aCons (eB gTuple (aCons (eBL false gSorted (aCons (Eg.e2 gAdd (eVar 1) (eSl (eVar 1) none (some (eC (.int (2)))))) aNil)) aNil)) (aCons (Eg.e2 gAdd (eVar 1) (eTup (aCons (Eg.e2 gSub (Eg.e2 gPow (eC (.int (10))) (eC (.int (60)))) (eC (.int (1)))) aNil))) (aCons (Eg.e2 gAdd (eVar 1) (eTup (aCons (Eg.e2 gPow (eC (.int (10))) (eC (.int (60)))) aNil))) (aCons (Eg.e2 gAdd (eTup (aCons (Eg.e2 gSub (eC (.int (0))) (eC (.int (1)))) aNil)) (eVar 1)) (aCons (eC (.dct [(.int (0), .int (1))])) (aCons (eC (.str [48, 49])) aNil)))))))) (gN 2)) [some (.loc l), some (.tup row), some (.lst [.tup row, .tup row.reverse, .tup (row ++ cutP row none (some 1)), .tup (cutP row none (some at_) ++ cutP row (some (at_ + 1)) none), .tup (cutP row none (some at_) ++ [od] ++ cutP row (some at_) none), .lst row, .tup [od], .tup []]), some (.int at_), some od, none] st4 = .nx [some (.loc l), some (.tup row), some (.lst ([.tup row, .tup row.reverse, .tup (row ++ cutP row none (some 1)), .tup (cutP row none (some at_) ++ cutP row (some (at_ + 1)) none), .tup (cutP row none (some at_) ++ [od] ++ cutP row (some at_) none), .lst row, .tup [od], .tup []] ++ [.tup sr, .tup (row ++ [.int (10 ^ 60 - 1)]), .tup (row ++ [.int (10 ^ 60)]), .tup ([.int (0 - 1)] ++ row), .dct [(.int 0, .int 1)], .str [48, 49]])), some (.int at_), some od, none] st4 := by
    have c1 := addL (x := [.tup row, .tup row.reverse, .tup (row ++ cutP row none (some 1)), .tup (cutP row none (some at_) ++ cutP row (some (at_ + 1)) none), .tup (cutP row none (some at_) ++ [od] ++ cutP row (some at_) none), .lst row, .tup [od], .tup []]) (y := [.tup sr, .tup (row ++ [.int (10 ^ 60 - 1)]), .tup (row ++ [.int (10 ^ 60)]), .tup (.int (0 - 1) :: row), .dct [(.int 0, .int 1)], .str [48, 49]]) (by simp)
    simp only [bindE, pureE, asI_int, szT, Nat.reduceLeDiff, Nat.zero_le, Cell.view, fnB, sSeq, sIf, sE, sRet, sNx, sAsg, sPar, sExpr, eT, bNot, bAnd, bOr, asB_bl, eVar, eC, Eg.e1, Eg.e2, Eg.e3, eAnd, eOr, eNot, eIf, aNil, aCons, eCall, eB, eLst, eTup, nw, g1E, g2E, rdI, rdB, rdN, rdS, rdT, rdL, rdD, gN, M.of, M.bad, List.map_cons, List.map_nil, List.length_cons, List.length_nil, List.replicate, List.nil_append, List.cons_append, List.getElem?_cons_zero, List.getElem?_cons_succ, List.set_cons_zero, List.set_cons_succ, Nat.sub_zero, Nat.reduceSub, Nat.reduceAdd, gN1E, rds, if_true, if_false, iteE, Bool.not_true, Bool.not_false, Bool.false_eq_true, reduceIte, ite_true, ite_false, eSl, oP, slT, eBL, b1, gs, gTuple, pow60, Eg.gSub, b2, b3, b4, c1]
  obtain ⟨fs, hfs⟩ : ∃ fs : List PV, fs = [.tup row, .tup row.reverse, .tup (row ++ cutP row none (some 1)), .tup (cutP row none (some at_) ++ cutP row (some (at_ + 1)) none), .tup (cutP row none (some at_) ++ [od] ++ cutP row (some at_) none), .lst row, .tup [od], .tup []] ++ [.tup sr, .tup (row ++ [.int (10 ^ 60 - 1)]), .tup (row ++ [.int (10 ^ 60)]), .tup ([.int (0 - 1)] ++ row), .dct [(.int 0, .int 1)], .str [48, 49]] := ⟨_, rfl⟩
  rw [← hfs] at s4
  have fl : fs.length = 14 := by rw [hfs]; rfl
  have fg : ∀ y ∈ fs, Good y := by
    intro y hy
    rw [hfs] at hy
    simp only [List.cons_append, List.nil_append, List.mem_cons, List.not_mem_nil, or_false] at hy
    rcases hy with rfl | rfl | rfl | rfl | rfl | rfl | rfl | rfl | rfl | rfl | rfl | rfl | rfl | rfl
    · exact rt.good (by omega)
    · exact rt.rev.good (by omega)
    · exact (rt.app (rt.cut _ _)).good (by omega)
    · exact ((rt.cut _ _).app (rt.cut _ _)).good (by omega)
    · exact (((rt.cut _ _).app (Tq.one oi)).app (rt.cut _ _)).good (by omega)
    · trivial
    · exact (Tq.one oi).good (by omega)
    · exact ⟨by simp, by simp⟩
    · exact pt.good (by omega)
    · exact (rt.app (Tq.one (it_int _))).good (by omega)
    · exact (rt.app (Tq.one (it_int _))).good (by omega)
    · exact ((Tq.one (it_int _)).app rt).good (by omega)
    · trivial
    · show 2 ≤ 1000; omega
  have c2 := addL (x := fs) (y := [.non, .int 0, .lst [], .tup [.tup [.int 0]], .tup [.int 0, .int 1, .int 2, .int 3], .tup [.int 0, .int 0], .tup [.int 1, .int 0], .tup [.bl false, .int 1]]) (by rw [fl]; simp)
  refine ⟨fs ++ [.non, .int 0, .lst [], .tup [.tup [.int 0]], .tup [.int 0, .int 1, .int 2, .int 3], .tup [.int 0, .int 0], .tup [.int 1, .int 0], .tup [.bl false, .int 1]], st4, fn_rt (m := 6) (f := b__law_tuples) rfl ?_, by rw [List.length_append, fl]; rfl, ?_⟩
  · unfold b__law_tuples
    show sSeq _ _ [some (.loc l), none, none, none, none, none] st = _
    rw [seqE s1, seqE s2, seqE s3, seqE s4]
    simp only [bindE, pureE, asI_int, szT, Nat.reduceLeDiff, Nat.zero_le, Cell.view, fnB, sSeq, sIf, sE, sRet, sNx, sAsg, sPar, sExpr, eT, bNot, bAnd, bOr, asB_bl, eVar, eC, Eg.e1, Eg.e2, Eg.e3, eAnd, eOr, eNot, eIf, aNil, aCons, eCall, eB, eLst, eTup, nw, g1E, g2E, rdI, rdB, rdN, rdS, rdT, rdL, rdD, gN, M.of, M.bad, List.map_cons, List.map_nil, List.length_cons, List.length_nil, List.replicate, List.nil_append, List.cons_append, List.getElem?_cons_zero, List.getElem?_cons_succ, List.set_cons_zero, List.set_cons_succ, Nat.sub_zero, Nat.reduceSub, Nat.reduceAdd, gN1E, rds, if_true, if_false, iteE, Bool.not_true, Bool.not_false, Bool.false_eq_true, reduceIte, ite_true, ite_false, c2]
  · intro y hy
    rcases List.mem_append.mp hy with z | z
    · exact fg y z
    · simp only [List.mem_cons, List.not_mem_nil, or_false] at z
      rcases z with rfl | rfl | rfl | rfl | rfl | rfl | rfl | rfl
      · trivial
      · trivial
      · trivial
      · exact ⟨by simp, by simp [isD, isDs, pdep, pdeps]⟩
      · exact ⟨by simp, by simp [isD, isDs, pdep, pdeps]⟩
      · exact ⟨by simp, by simp [isD, isDs, pdep, pdeps]⟩
      · exact ⟨by simp, by simp [isD, isDs, pdep, pdeps]⟩
      · exact ⟨by simp, by simp [isD, isDs, pdep, pdeps]⟩
end Pf

namespace Pf
open PySem PySem.Spec PyProof.Rows L2 Eg
theorem repr3 (a b c : Bool) : ∃ t, gRepr [.lst [.bl a, .bl b, .bl c]] = some (.str t) := by
  have h : (isSeqP (.lst [.bl a, .bl b, .bl c]) && (isD (.lst [.bl a, .bl b, .bl c]) && ((toD (.lst [.bl a, .bl b, .bl c])).showable && (decide (pdep (.lst [.bl a, .bl b, .bl c]) ≤ 60) && (decide ((toD (.lst [.bl a, .bl b, .bl c])).shown.length ≤ sizeLine) && okS (toD (.lst [.bl a, .bl b, .bl c])).shown.cps.toList))))) = true := by
    cases a <;> cases b <;> cases c <;> decide +kernel
  exact ⟨_, if_pos h⟩
theorem neSS (t : List Nat) : gNe (.str t) (.str t) = some (.bl false) := by simp [gNe, okE, isD, pdep, peq]
theorem Good.str {x : PV} (h : Good x) : ∀ z, x = .str z → z.length ≤ 1000 := fun z e => by subst e; exact h
theorem rg_get {lo : Int} {n i : Nat} {x : PV} (h : (rgL lo n)[i]? = some x) : i < n ∧ x = .int (lo + i) := by
  have h1 := (List.getElem?_eq_some_iff.mp h).1
  rw [rg_len] at h1
  refine ⟨h1, ?_⟩
  simp [rgL, h1] at h
  exact h.symm
theorem ev_cell {ns : List Int} {t : Int} {st : Store} (h0 : 0 ≤ t) (h1 : t < 100) : ∃ st', F__law_cell_right [.scr ns, .int t] st = .ok (.bl true) st' := by
  obtain ⟨st1, e1, k1⟩ := ev_sack (ns := ns) (st := st) h0 h1
  have m1 := mulI (i := 41) (j := t) (by decide) (by omega)
  have s0 : (sPar 4 5 (aCons (eCall 2 F__law_sack (aCons (eVar 0) (aCons (eVar 1) aNil))) (aCons (Eg.e2 gAdd (Eg.e2 gMul (eC (.int (41))) (eVar 1)) (eC (.int (7)))) aNil))) [some (.scr ns), some (.int t), none, none, none, none, none, none, none] st = .nx [some (.scr ns), some (.int t), none, none, some (.loc st.next), some (.int (41 * t + 7)), none, none, none] st1 := by
    simp only [bindE, pureE, asI_int, szT, Nat.reduceLeDiff, Nat.zero_le, Cell.view, fnB, sSeq, sIf, sE, sRet, sNx, sAsg, sPar, sExpr, eT, bNot, bAnd, bOr, asB_bl, eVar, eC, Eg.e1, Eg.e2, Eg.e3, eAnd, eOr, eNot, eIf, aNil, aCons, eCall, eB, eLst, eTup, nw, g1E, g2E, rdI, rdB, rdN, rdS, rdT, rdL, rdD, gN, M.of, M.bad, List.map_cons, List.map_nil, List.length_cons, List.length_nil, List.replicate, List.nil_append, List.cons_append, List.getElem?_cons_zero, List.getElem?_cons_succ, List.set_cons_zero, List.set_cons_succ, Nat.sub_zero, Nat.reduceSub, Nat.reduceAdd, gN1E, rds, if_true, if_false, iteE, Bool.not_true, Bool.not_false, Bool.false_eq_true, reduceIte, ite_true, ite_false, e1, m1, gAdd]
  obtain ⟨cell, s1⟩ : ∃ cell : Int, (sIf (eT (Eg.e2 gLt (eVar 1) (eB gLen (aCons (eVar 0) aNil)))) (sAsg (Eg.e2 gIx (eVar 0) (eVar 1)) (gN 5)) sNx) [some (.scr ns), some (.int t), none, none, some (.loc st.next), some (.int (41 * t + 7)), none, none, none] st1 = .nx [some (.scr ns), some (.int t), none, none, some (.loc st.next), some (.int cell), none, none, none] st1 := by
    by_cases hl : t < (ns.length : Int)
    · obtain ⟨cell, hq, _⟩ := at_mem h0 hl
      exact ⟨cell, by simp only [bindE, pureE, asI_int, szT, Nat.reduceLeDiff, Nat.zero_le, Cell.view, fnB, sSeq, sIf, sE, sRet, sNx, sAsg, sPar, sExpr, eT, bNot, bAnd, bOr, asB_bl, eVar, eC, Eg.e1, Eg.e2, Eg.e3, eAnd, eOr, eNot, eIf, aNil, aCons, eCall, eB, eLst, eTup, nw, g1E, g2E, rdI, rdB, rdN, rdS, rdT, rdL, rdD, gN, M.of, M.bad, List.map_cons, List.map_nil, List.length_cons, List.length_nil, List.replicate, List.nil_append, List.cons_append, List.getElem?_cons_zero, List.getElem?_cons_succ, List.set_cons_zero, List.set_cons_succ, Nat.sub_zero, Nat.reduceSub, Nat.reduceAdd, gN1E, rds, if_true, if_false, iteE, Bool.not_true, Bool.not_false, Bool.false_eq_true, reduceIte, ite_true, ite_false, rdC, gLen, ltI, hl, decide_true, gIx, hq, Option.map_some]⟩
    · exact ⟨41 * t + 7, by simp only [bindE, pureE, asI_int, szT, Nat.reduceLeDiff, Nat.zero_le, Cell.view, fnB, sSeq, sIf, sE, sRet, sNx, sAsg, sPar, sExpr, eT, bNot, bAnd, bOr, asB_bl, eVar, eC, Eg.e1, Eg.e2, Eg.e3, eAnd, eOr, eNot, eIf, aNil, aCons, eCall, eB, eLst, eTup, nw, g1E, g2E, rdI, rdB, rdN, rdS, rdT, rdL, rdD, gN, M.of, M.bad, List.map_cons, List.map_nil, List.length_cons, List.length_nil, List.replicate, List.nil_append, List.cons_append, List.getElem?_cons_zero, List.getElem?_cons_succ, List.set_cons_zero, List.set_cons_succ, Nat.sub_zero, Nat.reduceSub, Nat.reduceAdd, gN1E, rds, if_true, if_false, iteE, Bool.not_true, Bool.not_false, Bool.false_eq_true, reduceIte, ite_true, ite_false, rdC, gLen, ltI, hl, decide_false]⟩
  obtain ⟨ys1, st2, e2, l2, g2, k2⟩ := ev_numbers (cell := cell) k1 (by omega)
  obtain ⟨ys2, st3, e3, l3, g3, k3⟩ := ev_texts k2 (by omega)
  obtain ⟨ys3, st4, e4, l4, g4⟩ := ev_tuples k3 (by omega)
  have a1 := addL (x := ys1) (y := ys2) (by omega)
  have a2 := addL (x := ys1 ++ ys2) (y := ys3) (by rw [List.length_append]; omega)
  have s2 : (sAsg (Eg.e2 gAdd (Eg.e2 gAdd (eCall 2 F__law_numbers (aCons (eVar 4) (aCons (eVar 5) aNil))) (eCall 1 F__law_texts (aCons (eVar 4) aNil))) (eCall 1 F__law_tuples (aCons (eVar 4) aNil))) (gN 2)) [some (.scr ns), some (.int t), none, none, some (.loc st.next), some (.int cell), none, none, none] st1 = .nx [some (.scr ns), some (.int t), some (.lst (ys1 ++ ys2 ++ ys3)), none, some (.loc st.next), some (.int cell), none, none, none] st4 := by
    simp only [bindE, pureE, asI_int, szT, Nat.reduceLeDiff, Nat.zero_le, Cell.view, fnB, sSeq, sIf, sE, sRet, sNx, sAsg, sPar, sExpr, eT, bNot, bAnd, bOr, asB_bl, eVar, eC, Eg.e1, Eg.e2, Eg.e3, eAnd, eOr, eNot, eIf, aNil, aCons, eCall, eB, eLst, eTup, nw, g1E, g2E, rdI, rdB, rdN, rdS, rdT, rdL, rdD, gN, M.of, M.bad, List.map_cons, List.map_nil, List.length_cons, List.length_nil, List.replicate, List.nil_append, List.cons_append, List.getElem?_cons_zero, List.getElem?_cons_succ, List.set_cons_zero, List.set_cons_succ, Nat.sub_zero, Nat.reduceSub, Nat.reduceAdd, gN1E, rds, if_true, if_false, iteE, Bool.not_true, Bool.not_false, Bool.false_eq_true, reduceIte, ite_true, ite_false, e2, e3, e4, a1, a2]
  have a3 := addL (x := ys1 ++ ys2 ++ ys3) (y := [.bl true, .bl false, .non, .str [49], .lst [], .dct [], .tup [.lst []], .tup [.int 0], .tup [.non], .lst [.int 1], .dct [(.str [97], .int 1)], .str [97, 98, 99, 100, 101, 102, 103, 104], .str [97, 98, 99, 100, 101, 102, 103, 104, 105]]) (by simp only [List.length_append, List.length_cons, List.length_nil]; omega)
  obtain ⟨vs, hvs⟩ : ∃ vs : List PV, vs = ys1 ++ ys2 ++ ys3 ++ [.bl true, .bl false, .non, .str [49], .lst [], .dct [], .tup [.lst []], .tup [.int 0], .tup [.non], .lst [.int 1], .dct [(.str [97], .int 1)], .str [97, 98, 99, 100, 101, 102, 103, 104], .str [97, 98, 99, 100, 101, 102, 103, 104, 105]] := ⟨_, rfl⟩
  rw [← hvs] at a3
  have gv : ∀ y ∈ vs, Good y := by
    intro y hy
    rw [hvs] at hy
    rcases List.mem_append.mp hy with z | z
    · rcases List.mem_append.mp z with z | z
      · rcases List.mem_append.mp z with z | z
        · exact g2 y z
        · exact g3 y z
      · exact g4 y z
    · simp only [List.mem_cons, List.not_mem_nil, or_false] at z
      rcases z with rfl | rfl | rfl | rfl | rfl | rfl | rfl | rfl | rfl | rfl | rfl | rfl | rfl <;> first | trivial | (simp [Good, isD, isDs, pdep, pdeps])
  have s3 : (sAsg (Eg.e2 gAdd (eVar 2) (eLst false (aCons (eC (.bl true)) (aCons (eC (.bl false)) (aCons (eC .non) (aCons (eC (.str [49])) (aCons (eLst false aNil) (aCons (eC (.dct [])) (aCons (eTup (aCons (eLst false aNil) aNil)) (aCons (eTup (aCons (eC (.int (0))) aNil)) (aCons (eTup (aCons (eC .non) aNil)) (aCons (eLst false (aCons (eC (.int (1))) aNil)) (aCons (eC (.dct [(.str [97], .int (1))])) (aCons (eC (.str [97, 98, 99, 100, 101, 102, 103, 104])) (aCons (eC (.str [97, 98, 99, 100, 101, 102, 103, 104, 105])) aNil))))))))))))))) (gN 2)) [some (.scr ns), some (.int t), some (.lst (ys1 ++ ys2 ++ ys3)), none, some (.loc st.next), some (.int cell), none, none, none] st4 = .nx [some (.scr ns), some (.int t), some (.lst vs), none, some (.loc st.next), some (.int cell), none, none, none] st4 := by
    simp only [bindE, pureE, asI_int, szT, Nat.reduceLeDiff, Nat.zero_le, Cell.view, fnB, sSeq, sIf, sE, sRet, sNx, sAsg, sPar, sExpr, eT, bNot, bAnd, bOr, asB_bl, eVar, eC, Eg.e1, Eg.e2, Eg.e3, eAnd, eOr, eNot, eIf, aNil, aCons, eCall, eB, eLst, eTup, nw, g1E, g2E, rdI, rdB, rdN, rdS, rdT, rdL, rdD, gN, M.of, M.bad, List.map_cons, List.map_nil, List.length_cons, List.length_nil, List.replicate, List.nil_append, List.cons_append, List.getElem?_cons_zero, List.getElem?_cons_succ, List.set_cons_zero, List.set_cons_succ, Nat.sub_zero, Nat.reduceSub, Nat.reduceAdd, gN1E, rds, if_true, if_false, iteE, Bool.not_true, Bool.not_false, Bool.false_eq_true, reduceIte, ite_true, ite_false, a3]
  let I : Nat → Eg.Fr → Store → Prop := fun _ ρ _ => ∃ a b c d e f, ρ = [some (.scr ns), some (.int t), some (.lst vs), a, b, c, d, e, f]
  have inner : ∀ (ρ : Eg.Fr) (s : Store), I 0 ρ s → ∃ ρ' s', (sFor (iVal (eVar 2)) (gN 6) (sSeq (sAsg (eLst false (aCons (eCall 1 F_is_integer (aCons (eVar 6) aNil)) (aCons (eCall 1 F_is_name (aCons (eVar 6) aNil)) (aCons (eCall 1 F_is_set (aCons (eVar 6) aNil)) aNil)))) (gN 7)) (sSeq (sAsg (eLst false (aCons (eCall 1 F__law_is_short (aCons (eVar 6) aNil)) (aCons (eCall 1 F__law_is_name (aCons (eVar 6) aNil)) (aCons (eCall 1 F__law_is_number_set (aCons (eVar 6) aNil)) aNil)))) (gN 8)) (sIf (eT (Eg.e2 gNe (eB gRepr (aCons (eVar 7) aNil)) (eB gRepr (aCons (eVar 8) aNil)))) (sRet (eC (.bl false))) sNx)))) ρ s = .nx ρ' s' ∧ I 0 ρ' s' := by
    rintro ρ s ⟨a, b, c, d, e, f, rfl⟩
    obtain ⟨ρ', s', q1, q2⟩ := sfor_inv (fi := iVal (eVar 2)) (g := gN 6) (body := (sSeq (sAsg (eLst false (aCons (eCall 1 F_is_integer (aCons (eVar 6) aNil)) (aCons (eCall 1 F_is_name (aCons (eVar 6) aNil)) (aCons (eCall 1 F_is_set (aCons (eVar 6) aNil)) aNil)))) (gN 7)) (sSeq (sAsg (eLst false (aCons (eCall 1 F__law_is_short (aCons (eVar 6) aNil)) (aCons (eCall 1 F__law_is_name (aCons (eVar 6) aNil)) (aCons (eCall 1 F__law_is_number_set (aCons (eVar 6) aNil)) aNil)))) (gN 8)) (sIf (eT (Eg.e2 gNe (eB gRepr (aCons (eVar 7) aNil)) (eB gRepr (aCons (eVar 8) aNil)))) (sRet (eC (.bl false))) sNx)))) (xs := vs) (ρ := [some (.scr ns), some (.int t), some (.lst vs), a, b, c, d, e, f]) (st0 := s) (st := s) rfl I ⟨a, b, c, d, e, f, rfl⟩ (by
      rintro i x ρ s hi ⟨a, b, c, d, e, f, rfl⟩
      have hx : Good x := gv x (List.mem_of_getElem? hi)
      obtain ⟨tx, ht⟩ := repr3 (shortB x) (nameB x) (setB x)
      refine ⟨[some (.scr ns), some (.int t), some (.lst vs), a, b, c, some x, e, f], s, [some (.scr ns), some (.int t), some (.lst vs), a, b, c, some x, some (.lst [.bl (shortB x), .bl (nameB x), .bl (setB x)]), some (.lst [.bl (shortB x), .bl (nameB x), .bl (setB x)])], s, rfl, ?_, ⟨_, _, _, _, _, _, rfl⟩⟩
      have u0 : (sAsg (eLst false (aCons (eCall 1 F_is_integer (aCons (eVar 6) aNil)) (aCons (eCall 1 F_is_name (aCons (eVar 6) aNil)) (aCons (eCall 1 F_is_set (aCons (eVar 6) aNil)) aNil)))) (gN 7)) [some (.scr ns), some (.int t), some (.lst vs), a, b, c, some x, e, f] s = .nx [some (.scr ns), some (.int t), some (.lst vs), a, b, c, some x, some (.lst [.bl (shortB x), .bl (nameB x), .bl (setB x)]), f] s := by
        simp only [bindE, pureE, asI_int, szT, Nat.reduceLeDiff, Nat.zero_le, Cell.view, fnB, sSeq, sIf, sE, sRet, sNx, sAsg, sPar, sExpr, eT, bNot, bAnd, bOr, asB_bl, eVar, eC, Eg.e1, Eg.e2, Eg.e3, eAnd, eOr, eNot, eIf, aNil, aCons, eCall, eB, eLst, eTup, nw, g1E, g2E, rdI, rdB, rdN, rdS, rdT, rdL, rdD, gN, M.of, M.bad, List.map_cons, List.map_nil, List.length_cons, List.length_nil, List.replicate, List.nil_append, List.cons_append, List.getElem?_cons_zero, List.getElem?_cons_succ, List.set_cons_zero, List.set_cons_succ, Nat.sub_zero, Nat.reduceSub, Nat.reduceAdd, gN1E, rds, if_true, if_false, iteE, Bool.not_true, Bool.not_false, Bool.false_eq_true, reduceIte, ite_true, ite_false, ev_integer x s hx.ty, ev_name x s hx.ty hx.str, ev_set x s hx]
      have u1 : (sAsg (eLst false (aCons (eCall 1 F__law_is_short (aCons (eVar 6) aNil)) (aCons (eCall 1 F__law_is_name (aCons (eVar 6) aNil)) (aCons (eCall 1 F__law_is_number_set (aCons (eVar 6) aNil)) aNil)))) (gN 8)) [some (.scr ns), some (.int t), some (.lst vs), a, b, c, some x, some (.lst [.bl (shortB x), .bl (nameB x), .bl (setB x)]), f] s = .nx [some (.scr ns), some (.int t), some (.lst vs), a, b, c, some x, some (.lst [.bl (shortB x), .bl (nameB x), .bl (setB x)]), some (.lst [.bl (shortB x), .bl (nameB x), .bl (setB x)])] s := by
        simp only [bindE, pureE, asI_int, szT, Nat.reduceLeDiff, Nat.zero_le, Cell.view, fnB, sSeq, sIf, sE, sRet, sNx, sAsg, sPar, sExpr, eT, bNot, bAnd, bOr, asB_bl, eVar, eC, Eg.e1, Eg.e2, Eg.e3, eAnd, eOr, eNot, eIf, aNil, aCons, eCall, eB, eLst, eTup, nw, g1E, g2E, rdI, rdB, rdN, rdS, rdT, rdL, rdD, gN, M.of, M.bad, List.map_cons, List.map_nil, List.length_cons, List.length_nil, List.replicate, List.nil_append, List.cons_append, List.getElem?_cons_zero, List.getElem?_cons_succ, List.set_cons_zero, List.set_cons_succ, Nat.sub_zero, Nat.reduceSub, Nat.reduceAdd, gN1E, rds, if_true, if_false, iteE, Bool.not_true, Bool.not_false, Bool.false_eq_true, reduceIte, ite_true, ite_false, ev_short x s hx.ty, ev_lname x s hx.ty hx.str, ev_nset x s hx]
      rw [seqE u0, seqE u1]
      simp only [bindE, pureE, asI_int, szT, Nat.reduceLeDiff, Nat.zero_le, Cell.view, fnB, sSeq, sIf, sE, sRet, sNx, sAsg, sPar, sExpr, eT, bNot, bAnd, bOr, asB_bl, eVar, eC, Eg.e1, Eg.e2, Eg.e3, eAnd, eOr, eNot, eIf, aNil, aCons, eCall, eB, eLst, eTup, nw, g1E, g2E, rdI, rdB, rdN, rdS, rdT, rdL, rdD, gN, M.of, M.bad, List.map_cons, List.map_nil, List.length_cons, List.length_nil, List.replicate, List.nil_append, List.cons_append, List.getElem?_cons_zero, List.getElem?_cons_succ, List.set_cons_zero, List.set_cons_succ, Nat.sub_zero, Nat.reduceSub, Nat.reduceAdd, gN1E, rds, if_true, if_false, iteE, Bool.not_true, Bool.not_false, Bool.false_eq_true, reduceIte, ite_true, ite_false, ht, neSS])
    exact ⟨ρ', s', q1, q2⟩
  have hfi : iRg1 (aCons (eC (.int (2))) aNil) [some (.scr ns), some (.int t), some (.lst vs), none, some (.loc st.next), some (.int cell), none, none, none] st4 = .ok (.fz (rgL 0 2)) st4 := by
    simp only [iRg1, bindE, pureE, asI_int, szT, Nat.reduceLeDiff, Nat.zero_le, Cell.view, fnB, sSeq, sIf, sE, sRet, sNx, sAsg, sPar, sExpr, eT, bNot, bAnd, bOr, asB_bl, eVar, eC, Eg.e1, Eg.e2, Eg.e3, eAnd, eOr, eNot, eIf, aNil, aCons, eCall, eB, eLst, eTup, nw, g1E, g2E, rdI, rdB, rdN, rdS, rdT, rdL, rdD, gN, M.of, M.bad, List.map_cons, List.map_nil, List.length_cons, List.length_nil, List.replicate, List.nil_append, List.cons_append, List.getElem?_cons_zero, List.getElem?_cons_succ, List.set_cons_zero, List.set_cons_succ, Nat.sub_zero, Nat.reduceSub, Nat.reduceAdd, gN1E, rds, if_true, if_false, iteE, Bool.not_true, Bool.not_false, Bool.false_eq_true, reduceIte, ite_true, ite_false, rg1 (show (0 : Int) ≤ 2 by omega) (by omega)]
    rfl
  obtain ⟨ρ', st5, q1, a, b, c, d, e, f, rfl⟩ := sfor_inv (g := gN 3) (body := (sFor (iVal (eVar 2)) (gN 6) (sSeq (sAsg (eLst false (aCons (eCall 1 F_is_integer (aCons (eVar 6) aNil)) (aCons (eCall 1 F_is_name (aCons (eVar 6) aNil)) (aCons (eCall 1 F_is_set (aCons (eVar 6) aNil)) aNil)))) (gN 7)) (sSeq (sAsg (eLst false (aCons (eCall 1 F__law_is_short (aCons (eVar 6) aNil)) (aCons (eCall 1 F__law_is_name (aCons (eVar 6) aNil)) (aCons (eCall 1 F__law_is_number_set (aCons (eVar 6) aNil)) aNil)))) (gN 8)) (sIf (eT (Eg.e2 gNe (eB gRepr (aCons (eVar 7) aNil)) (eB gRepr (aCons (eVar 8) aNil)))) (sRet (eC (.bl false))) sNx))))) hfi I ⟨_, _, _, _, _, _, rfl⟩ (by
    rintro i x ρ s hi ⟨a, b, c, d, e, f, rfl⟩
    obtain ⟨ρ', s', w1, w2⟩ := inner [some (.scr ns), some (.int t), some (.lst vs), some x, b, c, d, e, f] s ⟨_, _, _, _, _, _, rfl⟩
    exact ⟨_, s, ρ', s', rfl, w1, w2⟩)
  refine ⟨st5, fn_rt (m := 9) (f := b__law_cell_right) rfl ?_⟩
  unfold b__law_cell_right
  show sSeq _ _ [some (.scr ns), some (.int t), none, none, none, none, none, none, none] st = _
  rw [seqE s0, seqE s1, seqE s2, seqE s3, seqE q1]
  simp only [bindE, pureE, asI_int, szT, Nat.reduceLeDiff, Nat.zero_le, Cell.view, fnB, sSeq, sIf, sE, sRet, sNx, sAsg, sPar, sExpr, eT, bNot, bAnd, bOr, asB_bl, eVar, eC, Eg.e1, Eg.e2, Eg.e3, eAnd, eOr, eNot, eIf, aNil, aCons, eCall, eB, eLst, eTup, nw, g1E, g2E, rdI, rdB, rdN, rdS, rdT, rdL, rdD, gN, M.of, M.bad, List.map_cons, List.map_nil, List.length_cons, List.length_nil, List.replicate, List.nil_append, List.cons_append, List.getElem?_cons_zero, List.getElem?_cons_succ, List.set_cons_zero, List.set_cons_succ, Nat.sub_zero, Nat.reduceSub, Nat.reduceAdd, gN1E, rds, if_true, if_false, iteE, Bool.not_true, Bool.not_false, Bool.false_eq_true, reduceIte, ite_true, ite_false]
theorem acons1 {fa : Eg.Fr → M PV} {ρ : Eg.Fr} {st st' : Store} {x : PV} (h : fa ρ st = .ok x st') : aCons fa aNil ρ st = .ok [x] st' := by
  unfold aCons
  rw [M.bind_ok h]
  rfl
theorem ev_law (ns : List Int) (st : Store) : ∃ st', F_law [.scr ns] st = .ok (.bl true) st' := by
  have s0 : (sIf (eT (Eg.e2 gNe (eC (.int (8))) (eC (.int (8))))) (sRet (eC (.bl false))) sNx) [some (.scr ns), none] st = .nx [some (.scr ns), none] st := by
    simp only [bindE, pureE, asI_int, szT, Nat.reduceLeDiff, Nat.zero_le, Cell.view, fnB, sSeq, sIf, sE, sRet, sNx, sAsg, sPar, sExpr, eT, bNot, bAnd, bOr, asB_bl, eVar, eC, Eg.e1, Eg.e2, Eg.e3, eAnd, eOr, eNot, eIf, aNil, aCons, eCall, eB, eLst, eTup, nw, g1E, g2E, rdI, rdB, rdN, rdS, rdT, rdL, rdD, gN, M.of, M.bad, List.map_cons, List.map_nil, List.length_cons, List.length_nil, List.replicate, List.nil_append, List.cons_append, List.getElem?_cons_zero, List.getElem?_cons_succ, List.set_cons_zero, List.set_cons_succ, Nat.sub_zero, Nat.reduceSub, Nat.reduceAdd, gN1E, rds, if_true, if_false, iteE, Bool.not_true, Bool.not_false, Bool.false_eq_true, reduceIte, ite_true, ite_false, neI]
    rfl
  obtain ⟨r, hr, r0, r1⟩ : ∃ r : Int, (eB gMax2 (aCons (eC (.int (1))) (aCons (eB gMin2 (aCons (eC (.int (8))) (aCons (eB gLen (aCons (eVar 0) aNil)) aNil))) aNil))) [some (.scr ns), none] st = .ok (.int r) st ∧ 0 ≤ r ∧ r ≤ 8 := by
    refine ⟨if (if (ns.length : Int) < 8 then (ns.length : Int) else 8) > 1 then (if (ns.length : Int) < 8 then (ns.length : Int) else 8) else 1, ?_, ?_, ?_⟩
    · simp only [bindE, pureE, asI_int, szT, Nat.reduceLeDiff, Nat.zero_le, Cell.view, fnB, sSeq, sIf, sE, sRet, sNx, sAsg, sPar, sExpr, eT, bNot, bAnd, bOr, asB_bl, eVar, eC, Eg.e1, Eg.e2, Eg.e3, eAnd, eOr, eNot, eIf, aNil, aCons, eCall, eB, eLst, eTup, nw, g1E, g2E, rdI, rdB, rdN, rdS, rdT, rdL, rdD, gN, M.of, M.bad, List.map_cons, List.map_nil, List.length_cons, List.length_nil, List.replicate, List.nil_append, List.cons_append, List.getElem?_cons_zero, List.getElem?_cons_succ, List.set_cons_zero, List.set_cons_succ, Nat.sub_zero, Nat.reduceSub, Nat.reduceAdd, gN1E, rds, if_true, if_false, iteE, Bool.not_true, Bool.not_false, Bool.false_eq_true, reduceIte, ite_true, ite_false, rdC, gLen, gMin2, gMax2]
    · split <;> split <;> omega
    · split <;> split <;> omega
  have hfi : iRg1 (aCons (eB gMax2 (aCons (eC (.int (1))) (aCons (eB gMin2 (aCons (eC (.int (8))) (aCons (eB gLen (aCons (eVar 0) aNil)) aNil))) aNil))) aNil) [some (.scr ns), none] st = .ok (.fz (rgL 0 r.toNat)) st := by
    unfold iRg1
    have := acons1 hr
    rw [M.bind_ok this]
    exact rg1 r0 (by omega)
  obtain ⟨ρ', st', q1, a, rfl⟩ := sfor_inv (g := gN 1) (body := (sIf (bNot (eT (eCall 2 F__law_cell_right (aCons (eVar 0) (aCons (eVar 1) aNil))))) (sRet (eC (.bl false))) sNx)) hfi (fun _ ρ _ => ∃ a, ρ = [some (.scr ns), a]) ⟨_, rfl⟩ (by
    rintro i x ρ s hi ⟨a, rfl⟩
    obtain ⟨i1, rfl⟩ := rg_get hi
    obtain ⟨s', e⟩ := ev_cell (ns := ns) (t := 0 + (i : Int)) (st := s) (by omega) (by omega)
    refine ⟨_, s, [some (.scr ns), some (.int (0 + (i : Int)))], s', rfl, ?_, _, rfl⟩
    simp only [bindE, pureE, asI_int, szT, Nat.reduceLeDiff, Nat.zero_le, Cell.view, fnB, sSeq, sIf, sE, sRet, sNx, sAsg, sPar, sExpr, eT, bNot, bAnd, bOr, asB_bl, eVar, eC, Eg.e1, Eg.e2, Eg.e3, eAnd, eOr, eNot, eIf, aNil, aCons, eCall, eB, eLst, eTup, nw, g1E, g2E, rdI, rdB, rdN, rdS, rdT, rdL, rdD, gN, M.of, M.bad, List.map_cons, List.map_nil, List.length_cons, List.length_nil, List.replicate, List.nil_append, List.cons_append, List.getElem?_cons_zero, List.getElem?_cons_succ, List.set_cons_zero, List.set_cons_succ, Nat.sub_zero, Nat.reduceSub, Nat.reduceAdd, gN1E, rds, if_true, if_false, iteE, Bool.not_true, Bool.not_false, Bool.false_eq_true, reduceIte, ite_true, ite_false, e])
  refine ⟨st', fn_rt (m := 2) (f := b_law) rfl ?_⟩
  unfold b_law
  show sSeq _ _ [some (.scr ns), none] st = _
  rw [seqE s0, seqE q1]
  simp only [bindE, pureE, asI_int, szT, Nat.reduceLeDiff, Nat.zero_le, Cell.view, fnB, sSeq, sIf, sE, sRet, sNx, sAsg, sPar, sExpr, eT, bNot, bAnd, bOr, asB_bl, eVar, eC, Eg.e1, Eg.e2, Eg.e3, eAnd, eOr, eNot, eIf, aNil, aCons, eCall, eB, eLst, eTup, nw, g1E, g2E, rdI, rdB, rdN, rdS, rdT, rdL, rdD, gN, M.of, M.bad, List.map_cons, List.map_nil, List.length_cons, List.length_nil, List.replicate, List.nil_append, List.cons_append, List.getElem?_cons_zero, List.getElem?_cons_succ, List.set_cons_zero, List.set_cons_succ, Nat.sub_zero, Nat.reduceSub, Nat.reduceAdd, gN1E, rds, if_true, if_false, iteE, Bool.not_true, Bool.not_false, Bool.false_eq_true, reduceIte, ite_true, ite_false]
end Pf
open PySem PySem.W PySem.Calls PyProof.Rows
theorem PySem.Challenge.cw_setchooser_k00_integers_names_and_sets_holds : PySem.Challenge.rw_setchooser_k00_integers_names_and_sets.Holds := by
  w_on; o_law
  refine HandSHeadRun.head_any (r := Pf.R) (q := view Pf.R.prog [20]) (H := Pf.hk) (ob := Pf.ob) (M := 1000) (loose := Pf.loose) (d := HandSHeadRun.topDef Pf.R.prog 20) (kwd := []) Pf.ob_eq
    (by kernel_rfl) (fun s => by kernel_rfl) Pf.run (by kernel_rfl) (by kernel_rfl) (by kernel_rfl) (by rfl) (by first | assumption | decide +kernel) (by decide +kernel) ⟨rfl, rfl, rfl, rfl, rfl, by decide +kernel⟩ ?hw ?hc
  case hw => w_witness2
  case hc =>
    refine Eg.walk_end (n := 63) (k := 5) (x := "_law_script") (T := Pf.T0) (F := Pf.F_law) rfl (by decide) (by kernel_rfl) ⟨rfl, by decide, by decide⟩ (fun ns _ => Pf.ev_law ns _) ?F
    intro w mg fa h Y G hmg0
    obtain ⟨K, KX, c⟩ := Y
    have hs := Pf.hs_of KX G c
    have hmg : mg ("law" : PySem.Str) = some (.ref fa) := by
      have e : (HandSHeadRun.topDef Pf.R.prog 20).name = ("law" : PySem.Str) := by kernel_rfl
      rw [← e]
      exact hmg0
    obtain ⟨f, fd, FD, hm⟩ := hs.d_law
    rw [hmg] at hm
    cases hm
    refine ⟨K, fd, KX, ?_, fun base hK hG => ?_⟩
    · have b := L2.FunD.bindsA (ps := ["_law_script"]) FD fun _ _ _ _ _ _ us hl => match us, hl with | [_], _ => rfl
      exact fun s v => b s [v] rfl
    · exact Pf.fng_law hs FD
