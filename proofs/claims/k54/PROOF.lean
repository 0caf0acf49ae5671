import PyProof.Rows.All
import Wide.All
import OpenK.AllK
import Wide.FinOn
import HandS.ForMost
import HandS.ForExc
import HandS.More
import HandS.IsInst
import HandS.Walk
import HandS.Zip
import HandS.Deep
import HandS.Conv
import HandS.Wide
import HandS.TupAny
import HandS.CallSlots
import KE.DataCmp
import HandS.Lambda
import HandS.TryMany
import KE.KeyNested
import KE.KDictKeyed
import KE.SortData
import KE.DatumOrd
import HandS.WordsExc
import HandS.Defaults
import HandS.Dict
import HandS.Style
import HandS.SetFor
import HandS.Strs
import HandS.Text
import PyProof.ReprRoads
import HandS.Head0
import HandS.Head1
import HandS.Head2
import HandS.HeadEnd
import HandS.HeadHook1
import HandS.HeadHook2
import HandS.Property
import HandS.Small
import HandS.Iter
import HandS.Star
import KE.GoesEnum
import HandS.DictComp
import HandS.ExcOwn
import KE.DataMinMax
import KE.KDictList
import PyProof.SeqIndex
import PyProof.P3Eq
import KE.KIndexOf
import HandS.HeadHook4
import HandS.EndTab
import PyProof.ExcBaseAll.ValueError
import KE.KExcSuper
import KE.KExcInit
import PyProof.ExcBaseAll.IndexError
import PyProof.ExcBaseAll.OverflowError
import PyProof.ExcBaseAll.LookupError
import PyProof.ExcBaseAll.ArithmeticError
import HandS.ExcField
import HandS.RaiseMore
import KE.KDictWalk
import KE.KDictDisplayH
import HandS.TupLen
import PySem.Challenge.RW_setchooser_k54_errors_of_products
set_option Elab.async false
set_option linter.all false
set_option maxRecDepth 100000
set_option maxHeartbeats 0
set_option autoImplicit false
/-! E1: values, store, what stands in the heap, the judgement of an expression. -/
namespace Eg
open PySem PySem.Spec PyProof.Rows L2

inductive PV where
  | non | bl (b : Bool) | int (i : Int) | str (x : List Nat)
  | tup (xs : List PV) | lst (xs : List PV) | set (xs : List PV)
  | dct (kvs : List (PV × PV))
  | obj (c : Nat) (fs : List (Nat × PV))
  | loc (l : Nat)
  | ty (n : String)
  | scr (ns : List Int)
instance : Inhabited PV := ⟨.non⟩
abbrev s2 (x : List Nat) : Str := ⟨x.toArray⟩
theorem s2_len (x : List Nat) : (s2 x).length = x.length := rfl
theorem s2_of (x : Str) : x = s2 x.cps.toList := by cases x; simp

inductive Cell where
  | lst (xs : List PV) | set (xs : List PV) | dct (kvs : List (PV × PV)) | obj (c : Nat) (fs : List (Nat × PV)) | frz (x : PV)
def Cell.view : Cell → PV
  | .lst xs => .lst xs
  | .set xs => .set xs
  | .dct kvs => .dct kvs
  | .obj c fs => .obj c fs
  | .frz x => x

/-! ### the store -/
inductive Tr where
  | e | n (l : Tr) (v : Option Cell) (r : Tr)
def Tr.get : Tr → Nat → Option Cell
  | .e, _ => none
  | .n l v r, i => match i with
    | 0 => v
    | i + 1 => if i % 2 = 0 then l.get (i / 2) else r.get (i / 2)
def Tr.put : Nat → Tr → Nat → Cell → Tr
  | 0, t, _, _ => t
  | f + 1, t, i, c =>
    let l := match t with | .e => Tr.e | .n l _ _ => l
    let v := match t with | .e => none | .n _ v _ => v
    let r := match t with | .e => Tr.e | .n _ _ r => r
    match i with
    | 0 => .n l (some c) r
    | i + 1 => if i % 2 = 0 then .n (Tr.put f l (i / 2) c) v r else .n l v (Tr.put f r (i / 2) c)
theorem Tr.get_put (c : Cell) : ∀ (f : Nat) (t : Tr) (i j : Nat), i < f → (Tr.put f t i c).get j = if j = i then some c else t.get j
  | 0, _, _, _, h => by omega
  | f + 1, t, 0, j, _ => by
    cases t with
    | e => cases j <;> simp [Tr.put, Tr.get]
    | n l v r => cases j <;> simp [Tr.put, Tr.get]
  | f + 1, t, i + 1, j, h => by
    have ih := Tr.get_put c f
    by_cases hi : i % 2 = 0
    · cases t with
      | e =>
        cases j with
        | zero => simp [Tr.put, Tr.get, hi]
        | succ j =>
          by_cases hj : j % 2 = 0
          · simp only [Tr.put, Tr.get, hi, hj, if_true]
            rw [ih _ _ _ (by omega)]
            by_cases e : j = i
            · subst e; simp
            · rw [if_neg (by omega), if_neg (by omega)]; rfl
          · simp only [Tr.put, Tr.get, hi, hj, if_true, if_false]
            rw [if_neg (by omega)]
      | n l v r =>
        cases j with
        | zero => simp [Tr.put, Tr.get, hi]
        | succ j =>
          by_cases hj : j % 2 = 0
          · simp only [Tr.put, Tr.get, hi, hj, if_true]
            rw [ih _ _ _ (by omega)]
            by_cases e : j = i
            · subst e; simp
            · rw [if_neg (by omega), if_neg (by omega)]
          · simp only [Tr.put, Tr.get, hi, hj, if_true, if_false]
            rw [if_neg (by omega)]
    · cases t with
      | e =>
        cases j with
        | zero => simp [Tr.put, Tr.get, hi]
        | succ j =>
          by_cases hj : j % 2 = 0
          · simp only [Tr.put, Tr.get, hi, hj, if_true, if_false]
            rw [if_neg (by omega)]
          · simp only [Tr.put, Tr.get, hi, hj, if_false]
            rw [ih _ _ _ (by omega)]
            by_cases e : j = i
            · subst e; simp
            · rw [if_neg (by omega), if_neg (by omega)]; rfl
      | n l v r =>
        cases j with
        | zero => simp [Tr.put, Tr.get, hi]
        | succ j =>
          by_cases hj : j % 2 = 0
          · simp only [Tr.put, Tr.get, hi, hj, if_true, if_false]
            rw [if_neg (by omega)]
          · simp only [Tr.put, Tr.get, hi, hj, if_false]
            rw [ih _ _ _ (by omega)]
            by_cases e : j = i
            · subst e; simp
            · rw [if_neg (by omega), if_neg (by omega)]
structure Store where
  tr : Tr
  next : Nat
def Store.get (s : Store) (i : Nat) : Option Cell := s.tr.get i
def Store.put (s : Store) (i : Nat) (c : Cell) : Store := ⟨s.tr.put (i + 1) i c, s.next⟩
def Store.new (s : Store) (c : Cell) : Store := ⟨s.tr.put (s.next + 1) s.next c, s.next + 1⟩
def Store.empty : Store := ⟨.e, 0⟩
theorem Store.get_put (s : Store) (i j : Nat) (c : Cell) : (s.put i c).get j = if j = i then some c else s.get j := Tr.get_put c _ _ _ _ (by omega)
theorem Store.get_new (s : Store) (j : Nat) (c : Cell) : (s.new c).get j = if j = s.next then some c else s.get j := Tr.get_put c _ _ _ _ (by omega)
theorem Store.put_next (s : Store) (i : Nat) (c : Cell) : (s.put i c).next = s.next := rfl
theorem Store.new_next (s : Store) (c : Cell) : (s.new c).next = s.next + 1 := rfl

/-! ### what a computation comes to -/
/-- an exception: its class (by number), its fields -/
structure Exn where
  cls : Nat
  fs : List (Nat × PV)
inductive R (α : Type) where
  | ok (a : α) (st : Store) | exc (e : Exn) (st : Store) | bad
abbrev M (α : Type) := Store → R α
def M.pure {α : Type} (a : α) : M α := fun st => .ok a st
def M.bind {α β : Type} (m : M α) (f : α → M β) : M β := fun st => match m st with
  | .ok a st' => f a st'
  | .exc e st' => .exc e st'
  | .bad => .bad
instance : Monad M where
  pure := M.pure
  bind := M.bind
theorem M.bind_ok {α β : Type} {m : M α} {f : α → M β} {st st' : Store} {a : α} (h : m st = .ok a st') : (m >>= f) st = f a st' := by
  show M.bind m f st = _
  unfold M.bind; rw [h]
theorem M.bind_exc {α β : Type} {m : M α} {f : α → M β} {st st' : Store} {e : Exn} (h : m st = .exc e st') : (m >>= f) st = .exc e st' := by
  show M.bind m f st = _
  unfold M.bind; rw [h]
theorem M.bind_bad {α β : Type} {m : M α} {f : α → M β} {st : Store} (h : m st = .bad) : (m >>= f) st = .bad := by
  show M.bind m f st = _
  unfold M.bind; rw [h]
def M.bad {α : Type} : M α := fun _ => .bad
/-- an answer without a change of the store -/
def M.of {α : Type} : Option α → M α
  | some a => fun st => .ok a st
  | none => fun _ => .bad
/-- an exception inside is not served -/
def M.noexc {α : Type} (m : M α) : M α := fun st => match m st with
  | .ok a st' => .ok a st'
  | _ => .bad
/-- what a value reads as now -/
def view (st : Store) : PV → Option PV
  | .loc l => (st.get l).map Cell.view
  | x => some x

/-! ### the tables of a law -/
structure Tabs where
  /-- names of attributes -/
  nm : Nat → Str
  /-- own classes -/
  cls : Nat → Addr
  /-- classes of exceptions -/
  xcl : Nat → Value
  /-- tables of code objects (lambdas) -/
  tb : List (Addr × Str)
structure Cfg where
  K : PySem.W.Frag
  P : Program
  w : World
  T : Tabs

/-! ### hashes of keys, equality of keys -/
mutual
def hsh (w : World) : PV → Int
  | .int i => hashInt i
  | .bl b => hashInt (if b then 1 else 0)
  | .str x => hashStr w (s2 x)
  | .tup xs => reduceHash (Builtin.Tuple.tupleHashOf (hshs w xs))
  | _ => 0
def hshs (w : World) : List PV → List Int
  | [] => []
  | x :: xs => hsh w x :: hshs w xs
end
mutual
/-- == of data -/
def peq : PV → PV → Bool
  | .non, .non => true
  | .bl a, .bl b => a == b
  | .bl a, .int j => (if a then 1 else 0) == j
  | .int i, .bl b => i == (if b then 1 else 0)
  | .int i, .int j => i == j
  | .str x, .str y => x == y
  | .tup xs, .tup ys => peqs xs ys
  | .lst xs, .lst ys => peqs xs ys
  | _, _ => false
def peqs : List PV → List PV → Bool
  | [], [] => true
  | x :: xs, y :: ys => peq x y && peqs xs ys
  | _, _ => false
end
def dlook (k : PV) : List (PV × PV) → Option PV
  | [] => none
  | (k', v) :: r => if peq k' k then some v else dlook k r
def dput (k v : PV) : List (PV × PV) → List (PV × PV)
  | [] => [(k, v)]
  | (k', v') :: r => if peq k' k then (k', v) :: r else (k', v') :: dput k v r
def ddel (k : PV) : List (PV × PV) → List (PV × PV)
  | [] => []
  | (k', v') :: r => if peq k' k then r else (k', v') :: ddel k r
/-- no two keys are equal -/
def dnd : List (PV × PV) → Bool
  | [] => true
  | (k, _) :: r => (dlook k r).isNone && dnd r

/-! ### the world -/
structure Wo where
  /-- what may change -/
  D : Addr → Prop
  /-- where a location lies -/
  η : Nat → Option Addr
def lockable : HO → Bool
  | .dK _ => true
  | .dT _ => true
  | _ => false
/-- at a stands o, maybe locked -/
def isTbl : HO → Bool
  | .tbl _ => true
  | _ => false
/-- what may be changed is of these kinds -/
def nice : HO → Bool
  | .tbl _ => false
  | _ => true
def plainO (o : HO) : Bool := !lockable o && !isTbl o
def Ob (H : Hp) (a : Addr) (o : HO) : Prop := H a = some o ∨ (lockable o = true ∧ ∃ b, H a = some (.frz b o)) ∨ (isTbl o = true ∧ ∃ qs, H a = some (.tbl qs))
theorem Ob.ne {H : Hp} {a : Addr} {o : HO} (h : Ob H a o) : H a ≠ none := by
  rcases h with h | ⟨_, _, h⟩ | ⟨_, _, h⟩ <;> rw [h] <;> intro z <;> cases z
theorem Ob.rd {H : Hp} {a : Addr} {o : HO} (h : Ob H a o) (l : isTbl o = false) : Rd H a o := by
  rcases h with h | ⟨_, b, h⟩ | ⟨z, _⟩
  · exact .inl h
  · exact .inr ⟨b, h⟩
  · rw [l] at z; cases z
theorem Ob.pl {H : Hp} {a : Addr} {o : HO} (h : Ob H a o) (l : plainO o = true) : H a = some o := by
  unfold plainO at l
  simp only [Bool.and_eq_true, Bool.not_eq_true'] at l
  rcases h with h | ⟨z, _⟩ | ⟨z, _⟩
  · exact h
  · rw [l.1] at z; cases z
  · rw [l.2] at z; cases z
theorem Ob.imp {H H' : Hp} {a b : Addr} {o : HO} (h : Ob H a o) (f : ∀ u, H a = some u → H' b = some u) : Ob H' b o := by
  rcases h with h | ⟨l, c, h⟩ | ⟨l, c, h⟩
  · exact .inl (f _ h)
  · exact .inr (.inl ⟨l, c, f _ h⟩)
  · exact .inr (.inr ⟨l, c, f _ h⟩)
/-- a dict: as it is, or locked -/
theorem Ob.two {H : Hp} {a : Addr} {o : HO} (h : Ob H a o) (l : isTbl o = false) : H a = some o ∨ (lockable o = true ∧ ∃ b, H a = some (.frz b o)) := by
  rcases h with h | h | ⟨z, _⟩
  · exact .inl h
  · exact .inr h
  · rw [l] at z; cases z
/-- a list, a tuple that never changes: in the heap, or of the module -/

def FzT (K : PySem.W.Frag) (w : Wo) (H : Hp) (a : Addr) (vs : List V) : Prop := ¬ w.D a ∧ ∃ o : Obj, o.dict = none ∧ H a = some (.frz o (.tup vs))
def FzL (K : PySem.W.Frag) (w : Wo) (H : Hp) (a : Addr) (vs : List V) : Prop :=
  (¬ w.D a ∧ (H a = some (.lst vs) ∨ ∃ o, H a = some (.frz o (.lst vs)))) ∨ ∃ (o : Obj) (its : Array Value) (n : Nat), K.lookup a = some o ∧ o.cls = .type "list" ∧ o.dict = none ∧ o.data = .seq its n ∧ its.size ≤ sizeLine ∧ Vals vs its.toList
theorem FzT.sq {K : PySem.W.Frag} {w : Wo} {H : Hp} {a : Addr} {vs : List V} (h : FzT K w H a vs) : SqT K H a vs := let ⟨_, o, _, e⟩ := h; .inl (.inr ⟨o, e⟩)
theorem FzL.sq {K : PySem.W.Frag} {w : Wo} {H : Hp} {a : Addr} {vs : List V} (h : FzL K w H a vs) : SqL K H a vs := by
  rcases h with ⟨_, h⟩ | h
  · exact .inl h
  · exact .inr h

/-- keys by value -/
def keyP : Key → PV
  | .inl i => .int i
  | .inr x => .str x.cps.toList
def kOk : Key → Bool
  | .inl _ => true
  | .inr x => x.cps.toList.all (fun c => decide (c < 1114112))
/-- keys that are tuples, of any depth -/
abbrev NKV := NestedKey × Addr × V
mutual
def nkOf : PV → Option NestedKey
  | .int i => some (.num i)
  | .str x => some (.text (s2 x))
  | .tup xs => match nkAll xs with
    | some ks => some (.tup ks)
    | none => none
  | _ => none
def nkAll : List PV → Option (List NestedKey)
  | [] => some []
  | x :: xs => match nkOf x, nkAll xs with
    | some k, some ks => some (k :: ks)
    | _, _ => none
end
def isTupP : PV → Bool
  | .tup _ => true
  | _ => false
/-- a dict whose keys are tuples: key, where it stands, value -/
def dN (P : Program) (w : World) (a : Addr) (ks : List NKV) : HO := .ext fun h => ks.length ≤ sizeLine ∧ (a == sysModules) = false ∧ ∃ ys : List (NestedKey × Addr × Value),
  Paired (fun (p : NKV) (q : NestedKey × Addr × Value) => p.1 = q.1 ∧ p.2.1 = q.2.1 ∧ RelV p.2.2 q.2.2) ks ys ∧ ∃ o es ep, h.get? a = some o ∧ o.ExactDict ∧ o.data = .dict es ep ∧ es.toList = ys.map (entryOfKey (nestedKind P w)) ∧ (ys.map (·.1)).Nodup
section
variable (G : Cfg) (w : Wo) (H : Hp)
mutual
/-- the value v, in the heap, is the pure value -/
inductive Rep : V → PV → Prop
  | non : Rep .non .non
  | bl (b : Bool) : Rep (.bl b) (.bl b)
  | int (i : Int) : Rep (.int i) (.int i)
  | str (x : List Nat) : x.all (fun c => decide (c < 1114112)) = true → Rep (.str (s2 x)) (.str x)
  | tup {a : Addr} {vs : List V} {xs : List PV} : FzT G.K w H a vs → RepL vs xs → Rep (.ref a) (.tup xs)
  | lst {a : Addr} {vs : List V} {xs : List PV} : ¬ w.D a → H a = some (.lst vs) → RepL vs xs → Rep (.ref a) (.lst xs)
  | pr {a : Addr} {vs : List V} {xs : List PV} : ¬ w.D a → H a = some (.tup vs) → RepL vs xs → Rep (.ref a) (.set xs)
  | dcK {a : Addr} {ks : List (Key × V)} {kvs : List (PV × PV)} : ¬ w.D a → Ob H a (.dK ks) → RepK ks kvs → Rep (.ref a) (.dct kvs)
  | dcT {a : Addr} {o : Obj} {ks : List NKV} {kvs : List (PV × PV)} : ¬ w.D a → H a = some (.frz o (dN G.P G.w a ks)) → ks ≠ [] → RepT ks kvs → Rep (.ref a) (.dct kvs)
  | obj {a dx : Addr} {c : Nat} {vs : List (Str × V)} {fs : List (Nat × PV)} : ¬ w.D a → H a = some (.ins (G.T.cls c) dx vs) → RepF vs fs → Rep (.ref a) (.obj c fs)
  | loc {a : Addr} {l : Nat} : w.η l = some a → Rep (.ref a) (.loc l)
  | ty (n : String) : Rep (.ty n) (.ty n)
  | scr {a : Addr} {ns : List Int} : FzL G.K w H a (ns.map V.int) → Rep (.ref a) (.scr ns)
inductive RepL : List V → List PV → Prop
  | nil : RepL [] []
  | cons {v : V} {vs : List V} {x : PV} {xs : List PV} : Rep v x → RepL vs xs → RepL (v :: vs) (x :: xs)
inductive RepF : List (Str × V) → List (Nat × PV) → Prop
  | nil : RepF [] []
  | cons {v : V} {vs : List (Str × V)} {x : PV} {n : Nat} {xs : List (Nat × PV)} : Rep v x → RepF vs xs → RepF ((G.T.nm n, v) :: vs) ((n, x) :: xs)
inductive RepK : List (Key × V) → List (PV × PV) → Prop
  | nil : RepK [] []
  | cons {k : Key} {v : V} {x : PV} {ks : List (Key × V)} {kvs : List (PV × PV)} : kOk k = true → Rep v x → RepK ks kvs → RepK ((k, v) :: ks) ((keyP k, x) :: kvs)
inductive RepT : List NKV → List (PV × PV) → Prop
  | nil : RepT [] []
  | cons {k : NestedKey} {q : Addr} {v : V} {pk x : PV} {ks : List NKV} {kvs : List (PV × PV)} : isTupP pk = true → nkOf pk = some k → Rep (.ref q) pk → Rep v x → RepT ks kvs → RepT ((k, q, v) :: ks) ((pk, x) :: kvs)
end
end

/-- from one world to a later one: locations stay, what does not change stays -/
structure Le (w : Wo) (H : Hp) (w' : Wo) (H' : Hp) : Prop where
  loc : ∀ l a, w.η l = some a → w'.η l = some a
  ran : ∀ l a, w'.η l = some a → w.η l = some a ∨ H a = none
  fix : ∀ a, ¬ w.D a → H a ≠ none → ¬ w'.D a
  keep : ∀ a o, (¬ w.D a ∨ ∀ l, w.η l ≠ some a) → Ob H a o → Ob H' a o
  dom : ∀ a, H a ≠ none → H' a ≠ none
  hid : ∀ a, w.D a → H a ≠ none → (∀ l, w.η l ≠ some a) → w'.D a
  ex : ∀ a o, w.D a → (∀ l, w.η l ≠ some a) → H a = some o → H' a = some o
theorem Le.refl (w : Wo) (H : Hp) : Le w H w H := ⟨fun _ _ h => h, fun _ _ h => .inl h, fun _ h _ => h, fun _ _ _ h => h, fun _ h => h, fun _ h _ _ => h, fun _ _ _ _ h => h⟩
theorem Le.trans {w w1 w2 : Wo} {H H1 H2 : Hp} (a : Le w H w1 H1) (b : Le w1 H1 w2 H2) : Le w H w2 H2 where
  loc l x h := b.loc l x (a.loc l x h)
  ran l x h := by
    rcases b.ran l x h with h | h
    · exact a.ran l x h
    · refine .inr (Classical.byContradiction fun z => a.dom x z h)
  fix x h n := b.fix x (a.fix x h n) (a.dom x n)
  keep x o h k := by
    refine b.keep x o ?_ (a.keep x o h k)
    rcases h with h | h
    · exact .inl (a.fix x h k.ne)
    · refine .inr fun l z => ?_
      rcases a.ran l x z with z | z
      · exact h l z
      · exact k.ne z
  dom x h := b.dom x (a.dom x h)
  hid x h n k := b.hid x (a.hid x h n k) (a.dom x n) fun l z => by
    rcases a.ran l x z with z | z
    · exact k l z
    · exact n z
  ex x o h k e := by
    have n : H x ≠ none := by rw [e]; simp
    refine b.ex x o (a.hid x h n k) (fun l z => ?_) (a.ex x o h k e)
    rcases a.ran l x z with z | z
    · exact k l z
    · exact n z
theorem Le.exact {w w' : Wo} {H H' : Hp} (e : Le w H w' H') {a : Addr} {o : HO} (d : ¬ w.D a) (h : H a = some o) (n : plainO o = true) : H' a = some o := (e.keep a o (.inl d) (.inl h)).pl n
/-- new things beside the old ones -/
theorem Le.same {w : Wo} {H H' : Hp} (s : Same H H') : Le w H w H' where
  loc _ _ h := h
  ran _ _ h := .inl h
  fix _ h _ := h
  keep a o _ h := h.imp fun u q => s _ _ q
  dom a h n := by
    cases q : H a with
    | none => exact h q
    | some o => rw [s a o q] at n; cases n
  hid _ h _ _ := h
  ex a o _ _ e := s a o e
/-- what readings lean on -/
structure LeR (w : Wo) (H : Hp) (w' : Wo) (H' : Hp) : Prop where
  loc : ∀ l a, w.η l = some a → w'.η l = some a
  fix : ∀ a, ¬ w.D a → H a ≠ none → ¬ w'.D a
  keep : ∀ a o, ¬ w.D a → Ob H a o → Ob H' a o
theorem Le.r {w w' : Wo} {H H' : Hp} (e : Le w H w' H') : LeR w H w' H' := ⟨e.loc, e.fix, fun a o d => e.keep a o (.inl d)⟩
theorem LeR.trans {w w1 w2 : Wo} {H H1 H2 : Hp} (a : LeR w H w1 H1) (b : LeR w1 H1 w2 H2) : LeR w H w2 H2 := by
  have ne : ∀ x, ¬ w.D x → H x ≠ none → H1 x ≠ none := fun x d n => by
    cases q : H x with
    | none => exact absurd q n
    | some o => exact (a.keep x o d (.inl q)).ne
  refine ⟨fun l x h => b.loc l x (a.loc l x h), fun x d n => b.fix x (a.fix x d n) (ne x d n), fun x o d k => b.keep x o (a.fix x d k.ne) (a.keep x o d k)⟩
theorem LeR.refl (w : Wo) (H : Hp) : LeR w H w H := ⟨fun _ _ h => h, fun _ h _ => h, fun _ _ _ h => h⟩
theorem LeR.exact {w w' : Wo} {H H' : Hp} (e : LeR w H w' H') {a : Addr} {o : HO} (d : ¬ w.D a) (h : H a = some o) (n : plainO o = true) : H' a = some o := (e.keep a o d (.inl h)).pl n

section
variable {G : Cfg} {w w' : Wo} {H H' : Hp}
theorem FzT.mr (e : LeR w H w' H') {a : Addr} {vs : List V} (h : FzT G.K w H a vs) : FzT G.K w' H' a vs := let ⟨d, o, h1, h2⟩ := h; ⟨e.fix a d (by rw [h2]; simp), o, h1, e.exact d h2 rfl⟩
theorem FzL.mr (e : LeR w H w' H') {a : Addr} {vs : List V} (h : FzL G.K w H a vs) : FzL G.K w' H' a vs := by
  rcases h with ⟨d, h | ⟨o, h⟩⟩ | h
  · exact .inl ⟨e.fix a d (by rw [h]; simp), .inl (e.exact d h rfl)⟩
  · exact .inl ⟨e.fix a d (by rw [h]; simp), .inr ⟨o, e.exact d h rfl⟩⟩
  · exact .inr h
mutual
theorem Rep.mr (e : LeR w H w' H') : ∀ {v : V} {x : PV}, Rep G w H v x → Rep G w' H' v x
  | _, _, .non => .non
  | _, _, .bl b => .bl b
  | _, _, .int i => .int i
  | _, _, .str x h => .str x h
  | _, _, .tup h r => .tup (h.mr (G := G) e) (RepL.mr e r)
  | _, _, .lst d h r => .lst (e.fix _ d (by rw [h]; simp)) (e.exact d h rfl) (RepL.mr e r)
  | _, _, .pr d h r => .pr (e.fix _ d (by rw [h]; simp)) (e.exact d h rfl) (RepL.mr e r)
  | _, _, .dcK d h r => .dcK (e.fix _ d h.ne) (e.keep _ _ d h) (RepK.mr e r)
  | _, _, .dcT d h n r => .dcT (e.fix _ d (by rw [h]; simp)) (e.exact d h rfl) n (RepT.mr e r)
  | _, _, .obj d h r => .obj (e.fix _ d (by rw [h]; simp)) (e.exact d h rfl) (RepF.mr e r)
  | _, _, .loc h => .loc (e.loc _ _ h)
  | _, _, .ty n => .ty n
  | _, _, .scr h => .scr (h.mr (G := G) e)
theorem RepL.mr (e : LeR w H w' H') : ∀ {v : List V} {x : List PV}, RepL G w H v x → RepL G w' H' v x
  | _, _, .nil => .nil
  | _, _, .cons a b => .cons (Rep.mr e a) (RepL.mr e b)
theorem RepF.mr (e : LeR w H w' H') : ∀ {v : List (Str × V)} {x : List (Nat × PV)}, RepF G w H v x → RepF G w' H' v x
  | _, _, .nil => .nil
  | _, _, .cons a b => .cons (Rep.mr e a) (RepF.mr e b)
theorem RepK.mr (e : LeR w H w' H') : ∀ {v : List (Key × V)} {x : List (PV × PV)}, RepK G w H v x → RepK G w' H' v x
  | _, _, .nil => .nil
  | _, _, .cons k a b => .cons k (Rep.mr e a) (RepK.mr e b)
theorem RepT.mr (e : LeR w H w' H') : ∀ {v : List NKV} {x : List (PV × PV)}, RepT G w H v x → RepT G w' H' v x
  | _, _, .nil => .nil
  | _, _, .cons t k q a b => .cons t k (Rep.mr e q) (Rep.mr e a) (RepT.mr e b)
end
theorem FzT.mono (e : Le w H w' H') {a : Addr} {vs : List V} (h : FzT G.K w H a vs) : FzT G.K w' H' a vs := FzT.mr (G := G) e.r h
theorem FzL.mono (e : Le w H w' H') {a : Addr} {vs : List V} (h : FzL G.K w H a vs) : FzL G.K w' H' a vs := FzL.mr (G := G) e.r h
theorem Rep.mono (e : Le w H w' H') {v : V} {x : PV} (h : Rep G w H v x) : Rep G w' H' v x := Rep.mr e.r h
theorem RepL.mono (e : Le w H w' H') {v : List V} {x : List PV} (h : RepL G w H v x) : RepL G w' H' v x := RepL.mr e.r h
theorem RepF.mono (e : Le w H w' H') {v : List (Str × V)} {x : List (Nat × PV)} (h : RepF G w H v x) : RepF G w' H' v x := RepF.mr e.r h
theorem RepK.mono (e : Le w H w' H') {v : List (Key × V)} {x : List (PV × PV)} (h : RepK G w H v x) : RepK G w' H' v x := RepK.mr e.r h
theorem RepT.mono (e : Le w H w' H') {v : List NKV} {x : List (PV × PV)} (h : RepT G w H v x) : RepT G w' H' v x := RepT.mr e.r h
theorem RepL.length : ∀ {vs : List V} {xs : List PV}, RepL G w H vs xs → vs.length = xs.length
  | _, _, .nil => rfl
  | _, _, .cons _ b => congrArg (· + 1) (RepL.length b)
theorem RepL.get : ∀ {vs : List V} {xs : List PV} (i : Nat) {x : PV}, RepL G w H vs xs → xs[i]? = some x → ∃ v, vs[i]? = some v ∧ Rep G w H v x
  | _, _, _, _, .nil, h => by simp at h
  | _, _, 0, _, .cons a _, h => by simp at h; subst h; exact ⟨_, rfl, a⟩
  | _, _, i + 1, x, .cons _ b, h => by
    obtain ⟨v, h1, h2⟩ := RepL.get i b (by simpa using h)
    exact ⟨v, by simpa using h1, h2⟩
theorem RepL.get' : ∀ {vs : List V} {xs : List PV} (i : Nat) {v : V}, RepL G w H vs xs → vs[i]? = some v → ∃ x, xs[i]? = some x ∧ Rep G w H v x
  | _, _, _, _, .nil, h => by simp at h
  | _, _, 0, _, .cons a _, h => by simp at h; subst h; exact ⟨_, rfl, a⟩
  | _, _, i + 1, x, .cons _ b, h => by
    obtain ⟨v, h1, h2⟩ := RepL.get' i b (by simpa using h)
    exact ⟨v, by simpa using h1, h2⟩
theorem RepL.append : ∀ {vs ws : List V} {xs ys : List PV}, RepL G w H vs xs → RepL G w H ws ys → RepL G w H (vs ++ ws) (xs ++ ys)
  | _, _, _, _, .nil, h => h
  | _, _, _, _, .cons a b, h => .cons a (RepL.append b h)
theorem RepL.one {v : V} {x : PV} (a : Rep G w H v x) : RepL G w H [v] [x] := .cons a .nil
theorem RepL.take : ∀ {vs : List V} {xs : List PV} (n : Nat), RepL G w H vs xs → RepL G w H (vs.take n) (xs.take n)
  | _, _, 0, _ => by simp; exact .nil
  | _, _, _ + 1, .nil => .nil
  | _, _, n + 1, .cons a b => .cons a (RepL.take n b)
theorem RepL.drop : ∀ {vs : List V} {xs : List PV} (n : Nat), RepL G w H vs xs → RepL G w H (vs.drop n) (xs.drop n)
  | _, _, 0, h => h
  | _, _, _ + 1, .nil => .nil
  | _, _, n + 1, .cons _ b => RepL.drop n b
theorem RepL.reverse : ∀ {vs : List V} {xs : List PV}, RepL G w H vs xs → RepL G w H vs.reverse xs.reverse
  | _, _, .nil => .nil
  | _, _, .cons a b => by
    rw [List.reverse_cons, List.reverse_cons]
    exact (RepL.reverse b).append (.one a)
theorem RepL.set {v : V} {x : PV} (r : Rep G w H v x) : ∀ {vs : List V} {xs : List PV} (i : Nat), RepL G w H vs xs → RepL G w H (vs.set i v) (xs.set i x)
  | _, _, _, .nil => .nil
  | _, _, 0, .cons _ b => .cons r b
  | _, _, i + 1, .cons a b => .cons a (RepL.set r i b)
theorem RepL.ints : ∀ (ns : List Int), RepL G w H (ns.map V.int) (ns.map PV.int)
  | [] => .nil
  | n :: ns => .cons (.int n) (RepL.ints ns)
end

/-! ### the store in the heap -/
def CellR (G : Cfg) (w : Wo) (H : Hp) (a : Addr) : Cell → Prop
  | .lst xs => w.D a ∧ ∃ vs, H a = some (.lst vs) ∧ RepL G w H vs xs
  | .set _ => False
  | .dct kvs => w.D a ∧ ((∃ ks, H a = some (.dK ks) ∧ RepK G w H ks kvs) ∨ ∃ ks, H a = some (dN G.P G.w a ks) ∧ ks ≠ [] ∧ RepT G w H ks kvs)
  | .obj c fs => w.D a ∧ ∃ dx vs, H a = some (.ins (G.T.cls c) dx vs) ∧ RepF G w H vs fs
  | .frz x => ¬ w.D a ∧ Rep G w H (.ref a) x
/-- the tables of code objects: none of them may be changed by the law, each code object bears its name -/
def TabW (tb : List (Addr × Str)) (w : Wo) (H : Hp) : Prop := ∀ p ∈ tb, ¬ w.D p.1 ∧ ∃ ps : Array Value, H p.1 = some (.tbl ps) ∧ TriplesOk ps.toList ∧ ∀ (pos : Pos) (cv : Value), codeAmong pos ps.toList = some cv → ∃ c, cv = .ref c ∧ ¬ w.D c ∧ H c = some (LamX.CodeO c p.2)
theorem TabW.mr {tb : List (Addr × Str)} {w w' : Wo} {H H' : Hp} (h : TabW tb w H) (e : LeR w H w' H') (f : ∀ a ps, ¬ w.D a → H a = some (.tbl ps) → H' a = some (.tbl ps)) : TabW tb w' H' := fun p hp => by
  obtain ⟨d, ps, h1, h2, h3⟩ := h p hp
  refine ⟨e.fix _ d (by rw [h1]; simp), ps, f _ _ d h1, h2, fun pos cv hc => ?_⟩
  obtain ⟨c, k1, k2, k3⟩ := h3 pos cv hc
  exact ⟨c, k1, e.fix _ k2 (by rw [k3]; simp), e.exact k2 k3 rfl⟩
theorem TabW.same {tb : List (Addr × Str)} {w : Wo} {H H' : Hp} (h : TabW tb w H) (s : Same H H') : TabW tb w H' := h.mr (Le.same s).r fun a ps _ q => s _ _ q
structure Wr (G : Cfg) (w : Wo) (st : Store) (H : Hp) : Prop where
  cell : ∀ l c, st.get l = some c → ∃ a, w.η l = some a ∧ CellR G w H a c
  inj : ∀ l l' a, w.η l = some a → w.η l' = some a → l = l'
  trk : ∀ a, w.D a → H a ≠ none
  ran : ∀ l a, w.η l = some a → H a ≠ none ∧ l < st.next
  tab : TabW G.T.tb w H
  nic : ∀ a o, w.D a → H a = some o → nice o = true
section
variable {G : Cfg} {w w' : Wo} {H H' : Hp} {st : Store}
theorem Wr.fresh (h : Wr G w st H) {p : Addr} (n : H p = none) : ¬ w.D p := fun d => h.trk p d n
theorem Wr.nloc (h : Wr G w st H) {p : Addr} (n : H p = none) (l : Nat) : w.η l ≠ some p := fun d => (h.ran l p d).1 n
theorem ne_some {H : Hp} {a : Addr} {o : HO} (h : H a = some o) : H a ≠ none := by rw [h]; simp
/-- new things beside the old ones -/
theorem CellR.mr (e : LeR w H w' H') {a : Addr} {c : Cell} (hn : H a ≠ none) (hD : w.D a → w'.D a) (hH : w.D a → H' a = H a) (h : CellR G w H a c) : CellR G w' H' a c := by
  cases c with
  | lst xs => obtain ⟨d, vs, h1, h2⟩ := h; exact ⟨hD d, vs, by rw [hH d]; exact h1, h2.mr e⟩
  | set xs => exact h
  | dct xs =>
    obtain ⟨d, h⟩ := h
    refine ⟨hD d, ?_⟩
    rw [hH d]
    rcases h with ⟨ks, h1, h2⟩ | ⟨ks, h1, n, h2⟩
    · exact .inl ⟨ks, h1, h2.mr e⟩
    · exact .inr ⟨ks, h1, n, h2.mr e⟩
  | obj c fs => obtain ⟨d, dx, vs, h1, h2⟩ := h; exact ⟨hD d, dx, vs, by rw [hH d]; exact h1, h2.mr e⟩
  | frz x => obtain ⟨d, r⟩ := h; exact ⟨e.fix a d hn, r.mr e⟩
theorem CellR.mono (e : Le w H w' H') {a : Addr} {c : Cell} (hn : H a ≠ none) (hD : w.D a → w'.D a) (hH : w.D a → H' a = H a) (h : CellR G w H a c) : CellR G w' H' a c := CellR.mr e.r hn hD hH h
/-- the heap grows -/
theorem Wr.same (h : Wr G w st H) (s : Same H H') : Wr G w st H' where
  cell l c e := by
    obtain ⟨a, h1, h2⟩ := h.cell l c e
    refine ⟨a, h1, h2.mono (Le.same s) (h.ran l a h1).1 (fun d => d) fun d => ?_⟩
    cases q : H a with
    | none => exact absurd q (h.ran l a h1).1
    | some o => exact s a o q
  inj := h.inj
  trk a d := (Le.same (w := w) s).dom a (h.trk a d)
  ran l a e := ⟨(Le.same (w := w) s).dom a (h.ran l a e).1, (h.ran l a e).2⟩
  tab := h.tab.same s
  nic a o d e := by
    cases q : H a with
    | none => exact absurd q (h.trk a d)
    | some u => rw [s a u q] at e; cases e; exact h.nic a _ d q
theorem same_new {H : Hp} {p : Addr} {o : HO} (h : H p = none) : Same H (upd H p o) := fun b x e => by
  rw [upd_ne (ne_of_none e h)]
  exact e
end

/-! ### slots -/
abbrev Fr := List (Option PV)
structure FrR (G : Cfg) (w : Wo) (H : Hp) (σ : L2.St) (ρ : Fr) : Prop where
  len : ρ.length = σ.length
  slot : ∀ (i : Nat) (x : PV), ρ[i]? = some (some x) → ∃ v, σ[i]? = some (some v) ∧ Rep G w H v x
theorem FrR.mono {G : Cfg} {w w' : Wo} {H H' : Hp} {σ : L2.St} {ρ : Fr} (h : FrR G w H σ ρ) (e : Le w H w' H') : FrR G w' H' σ ρ :=
  ⟨h.len, fun i x q => let ⟨v, h1, h2⟩ := h.slot i x q; ⟨v, h1, h2.mono e⟩⟩
theorem FrR.mr {G : Cfg} {w w' : Wo} {H H' : Hp} {σ : L2.St} {ρ : Fr} (h : FrR G w H σ ρ) (e : LeR w H w' H') : FrR G w' H' σ ρ :=
  ⟨h.len, fun i x q => let ⟨v, h1, h2⟩ := h.slot i x q; ⟨v, h1, h2.mr e⟩⟩
theorem FrR.set {G : Cfg} {w : Wo} {H : Hp} {σ : L2.St} {ρ : Fr} (h : FrR G w H σ ρ) {v : V} {x : PV} (r : Rep G w H v x) (i : Nat) : FrR G w H (σ.set i (some v)) (ρ.set i (some x)) := by
  refine ⟨by simp [h.len], fun j y q => ?_⟩
  by_cases e : j = i
  · subst e
    by_cases hl : j < ρ.length
    · rw [List.getElem?_set_self hl] at q
      cases q
      exact ⟨v, by rw [List.getElem?_set_self (by rw [← h.len]; exact hl)], r⟩
    · rw [List.getElem?_eq_none (by simpa using hl)] at q
      cases q
  · rw [List.getElem?_set_ne (Ne.symm e)] at q
    rw [List.getElem?_set_ne (Ne.symm e)]
    exact h.slot j y q
theorem FrR.wipe1 {G : Cfg} {w : Wo} {H : Hp} {σ : L2.St} {ρ : Fr} (h : FrR G w H σ ρ) (i : Nat) : FrR G w H (σ.set i none) (ρ.set i none) := by
  refine ⟨by simp [h.len], fun j y q => ?_⟩
  by_cases e : j = i
  · subst e
    by_cases hl : j < ρ.length
    · rw [List.getElem?_set_self hl] at q
      cases q
    · rw [List.getElem?_eq_none (by simpa using hl)] at q
      cases q
  · rw [List.getElem?_set_ne (Ne.symm e)] at q
    rw [List.getElem?_set_ne (Ne.symm e)]
    exact h.slot j y q
/-- an exception of a class, with its fields -/
def ExR (G : Cfg) (w : Wo) (H : Hp) (cls : Value) (d : Option Addr) (e : Exn) : Prop :=
  cls = G.T.xcl e.cls ∧ (e.fs = [] ∨ ∃ a vs, d = some a ∧ ¬ w.D a ∧ H a = some (.xd vs) ∧ RepF G w H vs e.fs)

/-! ### the judgements -/
abbrev Cx.g (X : Cx) (T : Tabs) : Cfg := ⟨X.K, X.prog, X.w, T⟩
section
variable (X : Cx) (T : Tabs) (W : WX)
/-- what is asked behind an expression -/
def PostE (w : Wo) (σ : L2.St) (H : Hp) (Q : VK) : R PV → Prop
  | .ok x st => ∀ w' v H', Le w H w' H' → Wr (Cx.g X T) w' st H' → Rep (Cx.g X T) w' H' v x → Q v H'
  | .exc e st => ∀ w' cls d H', Le w H w' H' → Wr (Cx.g X T) w' st H' → ExR (Cx.g X T) w' H' cls d e → W cls d σ H'
  | .bad => False
structure RunE (f : Fr → M PV) (w : Wo) (st : Store) (ρ : Fr) (σ : L2.St) (H : Hp) (Q : VK) : Prop where
  wr : Wr (Cx.g X T) w st H
  fr : FrR (Cx.g X T) w H σ ρ
  post : PostE X T W w σ H Q (f ρ st)
def tE (f : Fr → M PV) : TE := fun σ H Q => ∃ w st ρ, RunE X T W f w st ρ σ H Q
/-- an expression is worth f -/
def PP (e : Expr) (f : Fr → M PV) : Prop := PE X e (tE X T W f)
def PostB (w : Wo) (σ : L2.St) (H : Hp) (Q : Bool → Hp → Prop) : R Bool → Prop
  | .ok x st => ∀ w' H', Le w H w' H' → Wr (Cx.g X T) w' st H' → Q x H'
  | .exc e st => ∀ w' cls d H', Le w H w' H' → Wr (Cx.g X T) w' st H' → ExR (Cx.g X T) w' H' cls d e → W cls d σ H'
  | .bad => False
structure RunB (f : Fr → M Bool) (w : Wo) (st : Store) (ρ : Fr) (σ : L2.St) (H : Hp) (Q : Bool → Hp → Prop) : Prop where
  wr : Wr (Cx.g X T) w st H
  fr : FrR (Cx.g X T) w H σ ρ
  post : PostB X T W w σ H Q (f ρ st)
def tT (f : Fr → M Bool) : TT := fun σ H Q => ∃ w st ρ, RunB X T W f w st ρ σ H Q
def PPT (e : Expr) (f : Fr → M Bool) : Prop := PT X e (tT X T W f)
def PPW (e : Expr) (f : Fr → M Bool) : Prop := PW X e (tT X T W f)
def PostA (w : Wo) (σ : L2.St) (H : Hp) (Q : List V → Hp → Prop) : R (List PV) → Prop
  | .ok x st => ∀ w' v H', Le w H w' H' → Wr (Cx.g X T) w' st H' → RepL (Cx.g X T) w' H' v x → Q v H'
  | .exc e st => ∀ w' cls d H', Le w H w' H' → Wr (Cx.g X T) w' st H' → ExR (Cx.g X T) w' H' cls d e → W cls d σ H'
  | .bad => False
structure RunA (f : Fr → M (List PV)) (w : Wo) (st : Store) (ρ : Fr) (σ : L2.St) (H : Hp) (Q : List V → Hp → Prop) : Prop where
  wr : Wr (Cx.g X T) w st H
  fr : FrR (Cx.g X T) w H σ ρ
  post : PostA X T W w σ H Q (f ρ st)
def tA (f : Fr → M (List PV)) : TA := fun σ H Q => ∃ w st ρ, RunA X T W f w st ρ σ H Q
def PPA (es : List Expr) (f : Fr → M (List PV)) : Prop := PA X es (tA X T W f)
end
section
variable {X : Cx} {T : Tabs} {W : WX} {w w' : Wo} {H H' : Hp} {σ : L2.St} {st : Store} {ρ : Fr}
theorem PostE.mono (e : Le w H w' H') {Q : VK} {r : R PV} (h : PostE X T W w σ H Q r) : PostE X T W w' σ H' Q r := by
  cases r with
  | ok x st => exact fun w2 v H2 l => h w2 v H2 (e.trans l)
  | exc x st => exact fun w2 c d H2 l => h w2 c d H2 (e.trans l)
  | bad => exact h
theorem PostB.mono (e : Le w H w' H') {Q : Bool → Hp → Prop} {r : R Bool} (h : PostB X T W w σ H Q r) : PostB X T W w' σ H' Q r := by
  cases r with
  | ok x st => exact fun w2 H2 l => h w2 H2 (e.trans l)
  | exc x st => exact fun w2 c d H2 l => h w2 c d H2 (e.trans l)
  | bad => exact h
theorem PostA.mono (e : Le w H w' H') {Q : List V → Hp → Prop} {r : R (List PV)} (h : PostA X T W w σ H Q r) : PostA X T W w' σ H' Q r := by
  cases r with
  | ok x st => exact fun w2 v H2 l => h w2 v H2 (e.trans l)
  | exc x st => exact fun w2 c d H2 l => h w2 c d H2 (e.trans l)
  | bad => exact h
/-- behind a first expression: expression, test, list -/
theorem RunE.eE {f : Fr → M PV} {k : PV → Fr → M PV} {Q : VK} {Q' : VK} (h : RunE X T W (fun ρ => f ρ >>= fun x => k x ρ) w st ρ σ H Q)
    (step : ∀ w1 st1 x v H1, Le w H w1 H1 → Rep (Cx.g X T) w1 H1 v x → RunE X T W (k x) w1 st1 ρ σ H1 Q → Q' v H1) : tE X T W f σ H Q' := by
  refine ⟨w, st, ρ, h.wr, h.fr, ?_⟩
  have p := h.post
  cases e : f ρ st with
  | ok x st1 => rw [M.bind_ok e] at p; exact fun w1 v H1 l wr r => step w1 st1 x v H1 l r ⟨wr, h.fr.mono l, p.mono l⟩
  | exc x st1 => rw [M.bind_exc e] at p; exact p
  | bad => rw [M.bind_bad e] at p; exact p
theorem RunE.bE {f : Fr → M Bool} {k : Bool → Fr → M PV} {Q : VK} {Q' : Bool → Hp → Prop} (h : RunE X T W (fun ρ => f ρ >>= fun x => k x ρ) w st ρ σ H Q)
    (step : ∀ w1 st1 x H1, Le w H w1 H1 → RunE X T W (k x) w1 st1 ρ σ H1 Q → Q' x H1) : tT X T W f σ H Q' := by
  refine ⟨w, st, ρ, h.wr, h.fr, ?_⟩
  have p := h.post
  cases e : f ρ st with
  | ok x st1 => rw [M.bind_ok e] at p; exact fun w1 H1 l wr => step w1 st1 x H1 l ⟨wr, h.fr.mono l, p.mono l⟩
  | exc x st1 => rw [M.bind_exc e] at p; exact p
  | bad => rw [M.bind_bad e] at p; exact p
theorem RunE.aE {f : Fr → M (List PV)} {k : List PV → Fr → M PV} {Q : VK} {Q' : List V → Hp → Prop} (h : RunE X T W (fun ρ => f ρ >>= fun x => k x ρ) w st ρ σ H Q)
    (step : ∀ w1 st1 x v H1, Le w H w1 H1 → RepL (Cx.g X T) w1 H1 v x → RunE X T W (k x) w1 st1 ρ σ H1 Q → Q' v H1) : tA X T W f σ H Q' := by
  refine ⟨w, st, ρ, h.wr, h.fr, ?_⟩
  have p := h.post
  cases e : f ρ st with
  | ok x st1 => rw [M.bind_ok e] at p; exact fun w1 v H1 l wr r => step w1 st1 x v H1 l r ⟨wr, h.fr.mono l, p.mono l⟩
  | exc x st1 => rw [M.bind_exc e] at p; exact p
  | bad => rw [M.bind_bad e] at p; exact p
theorem RunB.eE {f : Fr → M PV} {k : PV → Fr → M Bool} {Q : Bool → Hp → Prop} {Q' : VK} (h : RunB X T W (fun ρ => f ρ >>= fun x => k x ρ) w st ρ σ H Q)
    (step : ∀ w1 st1 x v H1, Le w H w1 H1 → Rep (Cx.g X T) w1 H1 v x → RunB X T W (k x) w1 st1 ρ σ H1 Q → Q' v H1) : tE X T W f σ H Q' := by
  refine ⟨w, st, ρ, h.wr, h.fr, ?_⟩
  have p := h.post
  cases e : f ρ st with
  | ok x st1 => rw [M.bind_ok e] at p; exact fun w1 v H1 l wr r => step w1 st1 x v H1 l r ⟨wr, h.fr.mono l, p.mono l⟩
  | exc x st1 => rw [M.bind_exc e] at p; exact p
  | bad => rw [M.bind_bad e] at p; exact p
theorem RunB.bE {f : Fr → M Bool} {k : Bool → Fr → M Bool} {Q : Bool → Hp → Prop} {Q' : Bool → Hp → Prop} (h : RunB X T W (fun ρ => f ρ >>= fun x => k x ρ) w st ρ σ H Q)
    (step : ∀ w1 st1 x H1, Le w H w1 H1 → RunB X T W (k x) w1 st1 ρ σ H1 Q → Q' x H1) : tT X T W f σ H Q' := by
  refine ⟨w, st, ρ, h.wr, h.fr, ?_⟩
  have p := h.post
  cases e : f ρ st with
  | ok x st1 => rw [M.bind_ok e] at p; exact fun w1 H1 l wr => step w1 st1 x H1 l ⟨wr, h.fr.mono l, p.mono l⟩
  | exc x st1 => rw [M.bind_exc e] at p; exact p
  | bad => rw [M.bind_bad e] at p; exact p
theorem RunA.eE {f : Fr → M PV} {k : PV → Fr → M (List PV)} {Q : List V → Hp → Prop} {Q' : VK} (h : RunA X T W (fun ρ => f ρ >>= fun x => k x ρ) w st ρ σ H Q)
    (step : ∀ w1 st1 x v H1, Le w H w1 H1 → Rep (Cx.g X T) w1 H1 v x → RunA X T W (k x) w1 st1 ρ σ H1 Q → Q' v H1) : tE X T W f σ H Q' := by
  refine ⟨w, st, ρ, h.wr, h.fr, ?_⟩
  have p := h.post
  cases e : f ρ st with
  | ok x st1 => rw [M.bind_ok e] at p; exact fun w1 v H1 l wr r => step w1 st1 x v H1 l r ⟨wr, h.fr.mono l, p.mono l⟩
  | exc x st1 => rw [M.bind_exc e] at p; exact p
  | bad => rw [M.bind_bad e] at p; exact p
theorem RunA.aE {f : Fr → M (List PV)} {k : List PV → Fr → M (List PV)} {Q : List V → Hp → Prop} {Q' : List V → Hp → Prop} (h : RunA X T W (fun ρ => f ρ >>= fun x => k x ρ) w st ρ σ H Q)
    (step : ∀ w1 st1 x v H1, Le w H w1 H1 → RepL (Cx.g X T) w1 H1 v x → RunA X T W (k x) w1 st1 ρ σ H1 Q → Q' v H1) : tA X T W f σ H Q' := by
  refine ⟨w, st, ρ, h.wr, h.fr, ?_⟩
  have p := h.post
  cases e : f ρ st with
  | ok x st1 => rw [M.bind_ok e] at p; exact fun w1 v H1 l wr r => step w1 st1 x v H1 l r ⟨wr, h.fr.mono l, p.mono l⟩
  | exc x st1 => rw [M.bind_exc e] at p; exact p
  | bad => rw [M.bind_bad e] at p; exact p
/-- at its end -/
theorem RunE.ret {f : Fr → M PV} {Q : VK} (h : RunE X T W f w st ρ σ H Q) {x : PV} {st' : Store} (e : f ρ st = .ok x st') {w' : Wo} {v : V} (l : Le w H w' H') (wr : Wr (Cx.g X T) w' st' H') (r : Rep (Cx.g X T) w' H' v x) : Q v H' := by
  have p := h.post
  rw [e] at p
  exact p w' v H' l wr r
theorem RunE.no {f : Fr → M PV} {Q : VK} (h : RunE X T W f w st ρ σ H Q) (e : f ρ st = .bad) : False := by
  have p := h.post
  rw [e] at p
  exact p
theorem RunB.ret {f : Fr → M Bool} {Q : Bool → Hp → Prop} (h : RunB X T W f w st ρ σ H Q) {x : Bool} {st' : Store} (e : f ρ st = .ok x st') {w' : Wo} (l : Le w H w' H') (wr : Wr (Cx.g X T) w' st' H') : Q x H' := by
  have p := h.post
  rw [e] at p
  exact p w' H' l wr
theorem RunB.no {f : Fr → M Bool} {Q : Bool → Hp → Prop} (h : RunB X T W f w st ρ σ H Q) (e : f ρ st = .bad) : False := by
  have p := h.post
  rw [e] at p
  exact p
theorem RunA.ret {f : Fr → M (List PV)} {Q : List V → Hp → Prop} (h : RunA X T W f w st ρ σ H Q) {x : List PV} {st' : Store} (e : f ρ st = .ok x st') {w' : Wo} {v : List V} (l : Le w H w' H') (wr : Wr (Cx.g X T) w' st' H') (r : RepL (Cx.g X T) w' H' v x) : Q v H' := by
  have p := h.post
  rw [e] at p
  exact p w' v H' l wr r
end
end Eg

/-! E2: views, data, names, operators, comparisons. -/
namespace Eg
open PySem PySem.Spec PyProof.Rows L2

/-- such a dict, read -/
theorem dN_rd {P : Program} {w : World} {H : Hp} {h : Heap} {a : Addr} {ks : List NKV} (ok : HOk P w H h) (e : Rd H a (dN P w a ks)) : ks.length ≤ sizeLine ∧ (a == sysModules) = false ∧ ∃ ys : List (NestedKey × Addr × Value),
    Paired (fun (p : NKV) (q : NestedKey × Addr × Value) => p.1 = q.1 ∧ p.2.1 = q.2.1 ∧ RelV p.2.2 q.2.2) ks ys ∧ ∃ o es ep, h.get? a = some o ∧ o.ExactDict ∧ o.data = .dict es ep ∧ es.toList = ys.map (entryOfKey (nestedKind P w)) ∧ (ys.map (·.1)).Nodup := (rd_of ok e).1
/-- what v reads as, now -/
inductive Vw (G : Cfg) (w : Wo) (H : Hp) : V → PV → Prop
  | non : Vw G w H .non .non
  | bl (b : Bool) : Vw G w H (.bl b) (.bl b)
  | int (i : Int) : Vw G w H (.int i) (.int i)
  | str (x : List Nat) : x.all (fun c => decide (c < 1114112)) = true → Vw G w H (.str (s2 x)) (.str x)
  | tup {a : Addr} {vs : List V} {xs : List PV} : FzT G.K w H a vs → RepL G w H vs xs → Vw G w H (.ref a) (.tup xs)
  | lst {a : Addr} {vs : List V} {xs : List PV} : H a = some (.lst vs) → RepL G w H vs xs → Vw G w H (.ref a) (.lst xs)
  | dcK {a : Addr} {ks : List (Key × V)} {kvs : List (PV × PV)} : Ob H a (.dK ks) → RepK G w H ks kvs → Vw G w H (.ref a) (.dct kvs)
  | dcT {a : Addr} {ks : List NKV} {kvs : List (PV × PV)} : Rd H a (dN G.P G.w a ks) → ks ≠ [] → RepT G w H ks kvs → Vw G w H (.ref a) (.dct kvs)
  | obj {a dx : Addr} {c : Nat} {vs : List (Str × V)} {fs : List (Nat × PV)} : H a = some (.ins (G.T.cls c) dx vs) → RepF G w H vs fs → Vw G w H (.ref a) (.obj c fs)
  | ty (n : String) : Vw G w H (.ty n) (.ty n)
  | scr {a : Addr} {ns : List Int} : FzL G.K w H a (ns.map V.int) → Vw G w H (.ref a) (.scr ns)
def noLoc : PV → Bool
  | .loc _ => false
  | .set _ => false
  | _ => true
theorem Rep.vw {G : Cfg} {w : Wo} {H : Hp} {v : V} {x : PV} (r : Rep G w H v x) (h : noLoc x = true) : Vw G w H v x := by
  cases r with
  | non => exact .non
  | bl b => exact .bl b
  | int i => exact .int i
  | str x k => exact .str x k
  | tup a b => exact .tup a b
  | lst _ a b => exact .lst a b
  | dcK a b c => exact .dcK b c
  | dcT a b n c => exact .dcT (.inr ⟨_, b⟩) n c
  | obj a b c => exact .obj b c
  | loc _ => cases h
  | pr _ _ _ => cases h
  | ty n => exact .ty n
  | scr k => exact .scr k
theorem Wr.view {G : Cfg} {w : Wo} {H : Hp} {st : Store} (wr : Wr G w st H) {v : V} {x y : PV} (r : Rep G w H v x) (h : view st x = some y) : noLoc y = true → Vw G w H v y := by
  intro hn
  by_cases hx : noLoc x = true
  · have e : y = x := by
      cases x <;> first | (cases hx; done) | (cases h; rfl)
    subst e
    exact r.vw hx
  · cases r with
    | loc hl =>
      rename_i a l
      change (st.get l).map Cell.view = some y at h
      cases q : st.get l with
      | none => rw [q] at h; cases h
      | some c =>
        rw [q] at h
        obtain ⟨b, h1, h2⟩ := wr.cell l c q
        rw [hl] at h1; cases h1
        cases h
        cases c with
        | lst xs => obtain ⟨_, vs, h3, h4⟩ := h2; exact .lst h3 h4
        | set xs => exact h2.elim
        | dct xs =>
          obtain ⟨_, h2⟩ := h2
          rcases h2 with ⟨ks, h3, h4⟩ | ⟨ks, h3, n, h4⟩
          · exact .dcK (.inl h3) h4
          · exact .dcT (.inl h3) n h4
        | obj c fs => obtain ⟨_, dx, vs, h3, h4⟩ := h2; exact .obj h3 h4
        | frz x => exact h2.2.vw hn
    | pr _ _ _ => cases h; cases hn
    | _ => exact absurd rfl hx
theorem Vw.mono {G : Cfg} {w w' : Wo} {H H' : Hp} (s : Same H H') {v : V} {x : PV} (h : Vw G w H v x) : Vw G w H' v x := by
  have e : Le w H w H' := Le.same s
  cases h with
  | non => exact .non
  | bl b => exact .bl b
  | int i => exact .int i
  | str x k => exact .str x k
  | tup a b => exact .tup (a.mono (G := G) e) (b.mono e)
  | lst a b => exact .lst (s _ _ a) (b.mono e)
  | dcK a b =>
    exact .dcK (a.imp fun u q => s _ _ q) (b.mono e)
  | dcT a n b =>
    refine .dcT ?_ n (b.mono e)
    rcases a with a | ⟨o, a⟩
    · exact .inl (s _ _ a)
    · exact .inr ⟨o, s _ _ a⟩
  | obj a b => exact .obj (s _ _ a) (b.mono e)
  | ty n => exact .ty n
  | scr h => exact .scr (h.mono (G := G) e)
/-- the reading of one, of two values -/
def rd (x : PV) : M PV := fun st => match view st x with
  | some y => if noLoc y then .ok y st else .bad
  | none => .bad
theorem rd_ok {x y : PV} {st st' : Store} (h : rd x st = .ok y st') : st' = st ∧ view st x = some y ∧ noLoc y = true := by
  unfold rd at h
  cases e : view st x with
  | none => rw [e] at h; cases h
  | some z =>
    rw [e] at h
    dsimp only at h
    by_cases hn : noLoc z = true
    · rw [if_pos hn] at h; cases h; exact ⟨rfl, rfl, hn⟩
    · rw [if_neg hn] at h; cases h
theorem rd_noexc {x : PV} {st st' : Store} {e : Exn} (h : rd x st = .exc e st') : False := by
  unfold rd at h
  cases q : view st x with
  | none => rw [q] at h; cases h
  | some z =>
    rw [q] at h
    dsimp only at h
    by_cases hn : noLoc z = true
    · rw [if_pos hn] at h; cases h
    · rw [if_neg hn] at h; cases h
def g1 (g : PV → Option PV) (x : PV) : M PV := fun st => match rd x st with
  | .ok x' _ => match g x' with
    | some z => .ok z st
    | none => .bad
  | _ => .bad
def g2 (g : PV → PV → Option PV) (x y : PV) : M PV := fun st => match rd x st, rd y st with
  | .ok x' _, .ok y' _ => match g x' y' with
    | some z => .ok z st
    | none => .bad
  | _, _ => .bad
theorem g1_ok {g : PV → Option PV} {x : PV} {st : Store} : (∃ z x', view st x = some x' ∧ noLoc x' = true ∧ g x' = some z ∧ g1 g x st = .ok z st) ∨ g1 g x st = .bad := by
  unfold g1
  cases e : rd x st with
  | ok x' s1 =>
    obtain ⟨_, h1, h2⟩ := rd_ok e
    cases q : g x' with
    | some z => exact .inl ⟨z, x', h1, h2, q, by simp [q]⟩
    | none => exact .inr (by simp [q])
  | exc _ _ => exact .inr rfl
  | bad => exact .inr rfl
theorem g2_ok {g : PV → PV → Option PV} {x y : PV} {st : Store} : (∃ z x' y', view st x = some x' ∧ noLoc x' = true ∧ view st y = some y' ∧ noLoc y' = true ∧ g x' y' = some z ∧ g2 g x y st = .ok z st) ∨ g2 g x y st = .bad := by
  unfold g2
  cases e : rd x st with
  | ok x' s1 =>
    obtain ⟨_, h1, h2⟩ := rd_ok e
    cases e2 : rd y st with
    | ok y' s2 =>
      obtain ⟨_, h3, h4⟩ := rd_ok e2
      cases q : g x' y' with
      | some z => exact .inl ⟨z, x', y', h1, h2, h3, h4, q, by simp [q]⟩
      | none => exact .inr (by simp [q])
    | exc _ _ => exact .inr rfl
    | bad => exact .inr rfl
  | exc _ _ => exact .inr rfl
  | bad => exact .inr rfl

section
variable {X : Cx} {T : Tabs} {W : WX}
/-! ### names, constants -/
def eVar (i : Nat) : Fr → M PV := fun ρ => match ρ[i]? with
  | some (some x) => M.pure x
  | _ => M.bad
theorem pp_var (i : Nat) {x : Str} {pos : Pos} (hN : X.N[i]? = some x) (hv : Vis X.env.scope x) (hd : (x == ("__debug__" : Str)) = false) (hcd : (x == ("__classdict__" : Str)) = false) : PP X T W (.Name x pos) (eVar i) := by
  refine ⟨fun pins s σ H Q I h => ?_⟩
  obtain ⟨w, st, ρ, wr, fr, p⟩ := h
  refine (pe_var hN hv hd hcd).run pins s σ H Q I ?_
  unfold eVar at p
  cases e : ρ[i]? with
  | none => rw [e] at p; exact p.elim
  | some o =>
    rw [e] at p
    cases o with
    | none => exact p.elim
    | some y =>
      obtain ⟨v, h1, h2⟩ := fr.slot i y e
      exact ⟨v, h1, p w v H (Le.refl w H) wr h2⟩
def eC (x : PV) : Fr → M PV := fun _ => M.pure x
theorem pp_c {e : Expr} {v : V} {x : PV} (h : PE X e (tC v)) (r : ∀ w H, Rep (Cx.g X T) w H v x) : PP X T W e (eC x) :=
  ⟨fun pins s σ H Q I ⟨w, _, _, wr, _, p⟩ => h.run pins s σ H Q I (p w v H (Le.refl w H) wr (r w H))⟩
theorem pp_int {i : Int} {j : Nat} {pos : Pos} : PP X T W (.Constant (.int i) j pos) (eC (.int i)) := pp_c pe_int fun _ _ => .int i
theorem pp_bl {b : Bool} {j : Nat} {pos : Pos} : PP X T W (.Constant (.bool b) j pos) (eC (.bl b)) := pp_c pe_bl fun _ _ => .bl b
theorem pp_non {j : Nat} {pos : Pos} : PP X T W (.Constant .none j pos) (eC .non) := pp_c pe_non fun _ _ => .non
theorem pp_str {x : Str} {y : List Nat} {j : Nat} {pos : Pos} (e : x = s2 y) (h : y.all (fun c => decide (c < 1114112)) = true) : PP X T W (.Constant (.str x) j pos) (eC (.str y)) := by
  subst e
  exact pp_c pe_str fun _ _ => .str y h
theorem pp_gInt {x : Str} {i : Int} {pos : Pos} (hg : Gl X x) (hm : ∃ t, X.mg x = some (.int i t)) (hd : (x == ("__debug__" : Str)) = false) : PP X T W (.Name x pos) (eC (.int i)) := by
  obtain ⟨t, hm⟩ := hm
  exact pp_c (v := .int i) (pe_glob hg hm ⟨t, rfl⟩ hd) fun _ _ => .int i
theorem pp_gStr {x : Str} {y : List Nat} {pos : Pos} (hg : Gl X x) (hm : ∃ t, X.mg x = some (.str (s2 y) t)) (hd : (x == ("__debug__" : Str)) = false) (h : y.all (fun c => decide (c < 1114112)) = true) : PP X T W (.Name x pos) (eC (.str y)) := by
  obtain ⟨t, hm⟩ := hm
  exact pp_c (v := .str (s2 y)) (pe_glob hg hm ⟨t, rfl⟩ hd) fun _ _ => .str y h

/-! ### operators by values -/
/-- what is wanted behind an operation that changes nothing -/
def Aft (X : Cx) (T : Tabs) (w : Wo) (st : Store) (H : Hp) (z : PV) (Q : VK) : Prop := ∀ w' v H', Le w H w' H' → Wr (Cx.g X T) w' st H' → Rep (Cx.g X T) w' H' v z → Q v H'
theorem Aft.here {w : Wo} {st : Store} {H : Hp} {z : PV} {Q : VK} {v : V} (h : Aft X T w st H z Q) (wr : Wr (Cx.g X T) w st H) (r : Rep (Cx.g X T) w H v z) : Q v H := h w v H (Le.refl w H) wr r
theorem Aft.new {w : Wo} {st : Store} {H : Hp} {z : PV} {Q : VK} {p : Addr} {o : HO} (h : Aft X T w st H z Q) (wr : Wr (Cx.g X T) w st H) (hp : H p = none) (r : Rep (Cx.g X T) w (upd H p o) (.ref p) z) : Q (.ref p) (upd H p o) :=
  h w _ _ (Le.same (same_new hp)) (wr.same (same_new hp)) r
theorem Rep.newT {G : Cfg} {w : Wo} {st : Store} {H : Hp} {p : Addr} {o : Obj} {vs : List V} {xs : List PV} (wr : Wr G w st H) (hp : H p = none) (ho : o.dict = none) (r : RepL G w H vs xs) : Rep G w (upd H p (.frz o (.tup vs))) (.ref p) (.tup xs) :=
  .tup ⟨wr.fresh hp, o, ho, upd_same⟩ (r.mono (Le.same (same_new hp)))
/-- a pair that a walk hands out -/
theorem Rep.newP {G : Cfg} {w : Wo} {st : Store} {H : Hp} {p : Addr} {vs : List V} {xs : List PV} (wr : Wr G w st H) (hp : H p = none) (r : RepL G w H vs xs) : Rep G w (upd H p (.tup vs)) (.ref p) (.set xs) :=
  .pr (wr.fresh hp) upd_same (r.mono (Le.same (same_new hp)))
/-! ### new tuples, their object known -/
def tupO (us : List Value) : Obj := { cls := .type "tuple", data := .seq us.toArray }
theorem inv_tup {X : Cx} {pins : List (Addr × Obj)} {σ : L2.St} {H : Hp} {s : Shared} {vs : List V} {us : List Value} (tk : Nat) (J : L2.Inv X pins σ H s) (r : Vals vs us) (hz : vs.length ≤ sizeLine) : L2.Inv X pins σ (upd H s.heap.objs.size (.frz (tupO us) (.tup vs))) { s with heap := s.heap.push (tupO us), toks := tk } :=
  J.laid (t' := tk) (fun b o z => Heap.get?_push_of_some _ z) (Nat.le_refl _) ⟨Heap.get?_push_size _ rfl, hz, us, r, ⟨_, Heap.get?_push_size _ rfl, rfl, _, rfl⟩⟩
/-- wanted of a new tuple of vs -/
def NewTup (H : Hp) (vs : List V) (Q : VK) : Prop := ∀ (p : Addr) (o : Obj), H p = none → o.dict = none → Q (.ref p) (upd H p (.frz o (.tup vs)))
theorem ep_tup {X : Cx} {pins : List (Addr × Obj)} {σ : L2.St} {H : Hp} {s : Shared} {vs : List V} {us : List Value} {Q : VK} (tk : Nat) (J : L2.Inv X pins σ H s) (r : Vals vs us) (hz : vs.length ≤ sizeLine) (q : NewTup H vs Q) : EP X pins σ Q (.ref s.heap.objs.size) { s with heap := s.heap.push (tupO us), toks := tk } :=
  ⟨.ref s.heap.objs.size, _, inv_tup tk J r hz, rfl, q _ _ (J.hok.fresh (Nat.le_refl _)) rfl⟩
theorem pe_tupK {X : Cx} {es : List Expr} {t : TA} {pos : Pos} {x1 : Nat} (h : PA X es t) : PE X (.Tuple es x1 pos) (fun σ H Q => t σ H fun xs H1 => xs.length ≤ sizeLine ∧ NewTup H1 xs Q) := by
  refine ⟨fun pins s σ H Q I hq => ?_⟩
  refine wpAny_Tuple_spliced (thn (h.run pos pins s σ H _ I hq) fun us s1 ⟨xs, H1, I1, r, z, q⟩ => ⟨by rw [← r.length]; exact z, ep_tup s1.toks I1 r z q⟩)
def rCatK (K : PySem.W.Frag) : R2 := fun x y H Q => ∃ a b xs ys, x = .ref a ∧ y = .ref b ∧ SqT K H a xs ∧ SqT K H b ys ∧ xs.length + ys.length ≤ sizeLine ∧ (xs = [] → Q (.ref b) H) ∧ (xs ≠ [] → ys = [] → Q (.ref a) H) ∧ (xs ≠ [] → ys ≠ [] → NewTup H (xs ++ ys) Q)
theorem op_catK {X : Cx} : OpR X (binaryOp .Add) (rCatK X.K) := by
  intro pins s σ H x y v u Q I rx ry ⟨a, b, xs, ys, e1, e2, ha, hb, hz, q0, q1, q2⟩
  subst e1 e2
  cases rx
  cases ry
  obtain ⟨its, r1, p1, _⟩ := I.tuple ha
  obtain ⟨its2, r2, p2, _⟩ := I.tuple hb
  by_cases hx : xs = []
  · subst hx
    cases r1
    exact cat_tup0 p1 p2 ⟨.ref b, H, I, rfl, q0 rfl⟩
  · have hx' : its ≠ [] := fun z => hx (r1.nil_iff.mp z)
    refine HT.cat_tup p1 p2 hx' (fun z => ⟨.ref a, H, I, rfl, q1 hx (r2.nil_iff.mp z)⟩) (fun z => ?_) (by rw [← r1.length, ← r2.length]; exact hz)
    exact ep_tup s.toks I (r1.append r2) (by rw [List.length_append]; exact hz) (q2 hx fun w => z (r2.nil_iff.mpr w))
def rSlK (K : PySem.W.Frag) : V → Option Int → Option Int → Hp → VK → Prop := fun x lo hi H Q => ∃ a xs, x = .ref a ∧ SqT K H a xs ∧
  (HT.sIx xs.length 0 lo = 0 ∧ HT.sIx xs.length xs.length hi = xs.length → Q (.ref a) H) ∧ (¬ (HT.sIx xs.length 0 lo = 0 ∧ HT.sIx xs.length xs.length hi = xs.length) → NewTup H (cutV xs lo hi) Q)
theorem sl_tupK {X : Cx} : SlR X (rSlK X.K) := by
  intro pins s σ H x v vl vu lo hi sl Q I rx hs pl pu ⟨a, xs, e1, hx, q1, q2⟩
  subst e1
  cases rx
  obtain ⟨its, r, ht, hz⟩ := I.tuple hx
  have hl : its.toArray.size = xs.length := by rw [List.size_toArray, r.length]
  refine ⟨"tuple", _, PyProof.Rows.slot_tuple_getitem.lookup, ht.typeIs, ?_⟩
  by_cases hw : HT.sIx xs.length 0 lo = 0 ∧ HT.sIx xs.length xs.length hi = xs.length
  · exact getItem_tuple_whole ht hs pl pu (by rw [hl]; exact hw) ⟨.ref a, H, I, rfl, q1 hw⟩
  · refine HT.getItem_tuple_cut ht hs pl pu (by rw [hl]; exact hw) ?_ (by rw [hl]; exact hz)
    rw [hl]
    exact ep_tup s.toks I ((r.drop (HT.sIx xs.length 0 lo)).take (HT.sIx xs.length xs.length hi - HT.sIx xs.length 0 lo)) (Nat.le_trans (cutV_length xs lo hi) hz) (q2 hw)
def rTupK (K : PySem.W.Frag) : List V → Hp → VK → Prop := fun xs H Q => ∃ p ys, xs = [.ref p] ∧ ((SqL K H p ys ∧ NewTup H ys Q) ∨ (SqT K H p ys ∧ Q (.ref p) H))
theorem call_tupK {X : Cx} : CallR X (.type "tuple") (rTupK X.K) := by
  intro pins s σ H xs us Q I r ⟨p, ys, e1, h⟩
  subst e1
  obtain ⟨u, rfl, rx⟩ := vals1 r
  cases rx
  rcases h with ⟨hq, q⟩ | ⟨hq, q⟩
  · obtain ⟨its, r', pl, hz⟩ := I.list hq
    have hl := r'.length
    refine call_tuple_list pl.isList (fun h' kp => ?_) (by simp only [List.size_toArray] <;> omega)
    have I1 : L2.Inv X pins σ H { s with heap := h' } := I.kept (t' := s.toks) kp
    exact ep_tup s.toks I1 r' hz q
  · obtain ⟨its, r', pl, hz⟩ := I.tuple hq
    exact call_tuple_same pl ⟨.ref p, H, I, rfl, q⟩
theorem Rep.newL {G : Cfg} {w : Wo} {st : Store} {H : Hp} {p : Addr} {vs : List V} {xs : List PV} (wr : Wr G w st H) (hp : H p = none) (r : RepL G w H vs xs) : Rep G w (upd H p (.lst vs)) (.ref p) (.lst xs) :=
  .lst (wr.fresh hp) upd_same (r.mono (Le.same (same_new hp)))
def Op2 (X : Cx) (T : Tabs) (r : R2) (g : PV → PV → Option PV) : Prop :=
  ∀ (w : Wo) (st : Store) (H : Hp) (v u : V) (x y z : PV) (Q : VK), Wr (Cx.g X T) w st H → Vw (Cx.g X T) w H v x → Vw (Cx.g X T) w H u y → g x y = some z → Aft X T w st H z Q → r v u H Q
def Op1 (X : Cx) (T : Tabs) (r : V → Hp → VK → Prop) (g : PV → Option PV) : Prop :=
  ∀ (w : Wo) (st : Store) (H : Hp) (v : V) (x z : PV) (Q : VK), Wr (Cx.g X T) w st H → Vw (Cx.g X T) w H v x → g x = some z → Aft X T w st H z Q → r v H Q
def e1 (g : PV → Option PV) (fa : Fr → M PV) : Fr → M PV := fun ρ => fa ρ >>= fun x => g1 g x
def e2 (g : PV → PV → Option PV) (fa fb : Fr → M PV) : Fr → M PV := fun ρ => fa ρ >>= fun x => fb ρ >>= fun y => g2 g x y
theorem RunE.fin1 {r : V → Hp → VK → Prop} {g : PV → Option PV} (hr : Op1 X T r g) {w : Wo} {st : Store} {ρ : Fr} {σ : L2.St} {H : Hp} {Q : VK} {x : PV} {v : V} (h : RunE X T W (fun _ => g1 g x) w st ρ σ H Q) (rx : Rep (Cx.g X T) w H v x) : r v H Q := by
  rcases g1_ok (g := g) (x := x) (st := st) with ⟨z, x', e1, e2, e3, e4⟩ | e
  · refine hr w st H v x' z Q h.wr (h.wr.view rx e1 e2) e3 fun w' v' H' l wr r => ?_
    exact h.ret e4 l wr r
  · exact (h.no e).elim
theorem RunE.fin2 {r : R2} {g : PV → PV → Option PV} (hr : Op2 X T r g) {w : Wo} {st : Store} {ρ : Fr} {σ : L2.St} {H : Hp} {Q : VK} {x y : PV} {v u : V} (h : RunE X T W (fun _ => g2 g x y) w st ρ σ H Q) (rx : Rep (Cx.g X T) w H v x) (ry : Rep (Cx.g X T) w H u y) : r v u H Q := by
  rcases g2_ok (g := g) (x := x) (y := y) (st := st) with ⟨z, x', y', e1, e2, e3, e4, e5, e6⟩ | e
  · refine hr w st H v u x' y' z Q h.wr (h.wr.view rx e1 e2) (h.wr.view ry e3 e4) e5 fun w' v' H' l wr r => ?_
    exact h.ret e6 l wr r
  · exact (h.no e).elim
variable {a b c : Expr} {fa fb fc : Fr → M PV} {pos : Pos}
theorem t1 {r : V → Hp → VK → Prop} {g : PV → Option PV} (hr : Op1 X T r g) {σ : L2.St} {H : Hp} {Q : VK} (h : tE X T W (e1 g fa) σ H Q) : tUn r (tE X T W fa) σ H Q := by
  obtain ⟨w, st, ρ, h⟩ := h
  exact h.eE fun w1 st1 x v H1 l1 rx h1 => h1.fin1 hr rx
theorem t2 {r : R2} {g : PV → PV → Option PV} (hr : Op2 X T r g) {σ : L2.St} {H : Hp} {Q : VK} (h : tE X T W (e2 g fa fb) σ H Q) : tOp r (tE X T W fa) (tE X T W fb) σ H Q := by
  obtain ⟨w, st, ρ, h⟩ := h
  exact h.eE fun w1 st1 x v H1 l1 rx h1 => h1.eE fun w2 st2 y u H2 l2 ry h2 => h2.fin2 hr (rx.mono l2) ry
theorem pp_op {op : Operator} {r : R2} {g : PV → PV → Option PV} (ho : OpR X (binaryOp op) r) (hr : Op2 X T r g) (ha : PP X T W a fa) (hb : PP X T W b fb) : PP X T W (.BinOp a op b pos) (e2 g fa fb) :=
  ⟨fun pins s σ H Q I h => (pe_op ho ha hb).run pins s σ H Q I (t2 hr h)⟩
theorem pp_un {op : UnaryOp} {r : V → Hp → VK → Prop} {g : PV → Option PV} (ho : UnR X (unaryOp op) r) (hr : Op1 X T r g) (ha : PP X T W a fa) : PP X T W (.UnaryOp op a pos) (e1 g fa) :=
  ⟨fun pins s σ H Q I h => (pe_un ho ha).run pins s σ H Q I (t1 hr h)⟩
theorem pp_cmp {op : CmpOp} {r : R2} {g : PV → PV → Option PV} (ho : OpR X (compareOp op) r) (hr : Op2 X T r g) (ha : PP X T W a fa) (hb : PP X T W b fb) (hm : behindInMarks op b = false) : PP X T W (.Compare a [op] [b] pos) (e2 g fa fb) :=
  ⟨fun pins s σ H Q I h => (pe_cmpR ho ha hb hm).run pins s σ H Q I (t2 hr h)⟩
end
end Eg

/-! E3: data; arithmetic; comparisons. -/
namespace Eg
open PySem PySem.Spec PyProof.Rows L2

mutual
def isD : PV → Bool
  | .non => true
  | .bl _ => true
  | .int _ => true
  | .str _ => true
  | .tup xs => isDs xs
  | .lst xs => isDs xs
  | _ => false
def isDs : List PV → Bool
  | [] => true
  | x :: xs => isD x && isDs xs
end
mutual
def toD : PV → PyData
  | .bl b => .bool b
  | .int i => .int i
  | .str x => .str (s2 x)
  | .tup xs => .tuple (toDs xs)
  | .lst xs => .list (toDs xs)
  | _ => .none
def toDs : List PV → List PyData
  | [] => []
  | x :: xs => toD x :: toDs xs
end
mutual
def pdep : PV → Nat
  | .tup xs => pdeps xs + 1
  | .lst xs => pdeps xs + 1
  | _ => 0
def pdeps : List PV → Nat
  | [] => 0
  | x :: xs => max (pdep x) (pdeps xs)
end
mutual
theorem depth_toD : ∀ x : PV, (toD x).depth = pdep x
  | .non => rfl
  | .bl _ => rfl
  | .int _ => rfl
  | .str _ => rfl
  | .tup xs => by simp only [toD, pdep, PyData.depth, depths_toD xs]
  | .lst xs => by simp only [toD, pdep, PyData.depth, depths_toD xs]
  | .set _ => rfl
  | .dct _ => rfl
  | .obj _ _ => rfl
  | .loc _ => rfl
  | .ty _ => rfl
  | .scr _ => rfl
theorem depths_toD : ∀ xs : List PV, PyData.depthAll (toDs xs) = pdeps xs
  | [] => rfl
  | x :: xs => by simp only [toDs, pdeps, PyData.depthAll, depth_toD x, depths_toD xs]
end
theorem s2_inj {x y : List Nat} (h : s2 x = s2 y) : x = y := by
  have := congrArg (fun s : Str => s.cps.toList) h
  simpa using this
theorem s2_beq (x y : List Nat) : (s2 x == s2 y) = (x == y) := by
  rw [Bool.eq_iff_iff]
  simp only [beq_iff_eq]
  exact ⟨s2_inj, fun h => by rw [h]⟩
mutual
theorem eqv_toD : ∀ x y : PV, isD x = true → isD y = true → PyData.eqv (toD x) (toD y) = peq x y
  | .non, y, _, hy => by cases y <;> first | (cases hy; done) | simp [toD, peq, PyData.eqv]
  | .bl _, y, _, hy => by cases y <;> first | (cases hy; done) | simp [toD, peq, PyData.eqv]
  | .int _, y, _, hy => by cases y <;> first | (cases hy; done) | simp [toD, peq, PyData.eqv]
  | .str _, y, _, hy => by cases y <;> first | (cases hy; done) | simp [toD, peq, PyData.eqv, s2_beq]
  | .tup xs, y, hx, hy => by
    cases y with
    | tup ys => simp only [toD, peq, PyData.eqv]; exact eqvs_toD xs ys (by simpa [isD] using hx) (by simpa [isD] using hy)
    | _ => first | (cases hy; done) | simp [toD, peq, PyData.eqv]
  | .lst xs, y, hx, hy => by
    cases y with
    | lst ys => simp only [toD, peq, PyData.eqv]; exact eqvs_toD xs ys (by simpa [isD] using hx) (by simpa [isD] using hy)
    | _ => first | (cases hy; done) | simp [toD, peq, PyData.eqv]
  | .set _, _, hx, _ => by cases hx
  | .dct _, _, hx, _ => by cases hx
  | .obj _ _, _, hx, _ => by cases hx
  | .loc _, _, hx, _ => by cases hx
  | .ty _, _, hx, _ => by cases hx
  | .scr _, _, hx, _ => by cases hx
theorem eqvs_toD : ∀ xs ys : List PV, isDs xs = true → isDs ys = true → PyData.eqvAll (toDs xs) (toDs ys) = peqs xs ys
  | [], [], _, _ => by simp [toDs, peqs, PyData.eqvAll]
  | [], _ :: _, _, _ => by simp [toDs, peqs, PyData.eqvAll]
  | _ :: _, [], _, _ => by simp [toDs, peqs, PyData.eqvAll]
  | x :: xs, y :: ys, hx, hy => by
    simp only [isDs, Bool.and_eq_true] at hx hy
    simp only [toDs, peqs, PyData.eqvAll, eqv_toD x y hx.1 hy.1, eqvs_toD xs ys hx.2 hy.2]
end
mutual
def palk : PV → PV → Bool
  | .non, .non => true
  | .bl _, .bl _ => true
  | .int _, .int _ => true
  | .str _, .str _ => true
  | .tup xs, .tup ys => palks xs ys
  | .lst xs, .lst ys => palks xs ys
  | _, _ => false
def palks : List PV → List PV → Bool
  | x :: xs, y :: ys => palk x y && palks xs ys
  | _, _ => true
end
mutual
def plt : PV → PV → Bool
  | .bl a, .bl b => !a && b
  | .int i, .int j => decide (i < j)
  | .str x, .str y => decide (x < y)
  | .tup xs, .tup ys => plts xs ys
  | .lst xs, .lst ys => plts xs ys
  | _, _ => false
def plts : List PV → List PV → Bool
  | [], [] => false
  | [], _ :: _ => true
  | _ :: _, [] => false
  | x :: xs, y :: ys => if peq x y then plts xs ys else plt x y
end
mutual
theorem alk_toD : ∀ x y : PV, isD x = true → isD y = true → PySem.W.alike (toD x) (toD y) = palk x y
  | .non, y, _, hy => by cases y <;> first | (cases hy; done) | simp [toD, palk, PySem.W.alike]
  | .bl _, y, _, hy => by cases y <;> first | (cases hy; done) | simp [toD, palk, PySem.W.alike]
  | .int _, y, _, hy => by cases y <;> first | (cases hy; done) | simp [toD, palk, PySem.W.alike]
  | .str _, y, _, hy => by cases y <;> first | (cases hy; done) | simp [toD, palk, PySem.W.alike]
  | .tup xs, y, hx, hy => by
    cases y with
    | tup ys => simp only [toD, palk, PySem.W.alike]; exact alks_toD xs ys (by simpa [isD] using hx) (by simpa [isD] using hy)
    | _ => first | (cases hy; done) | simp [toD, palk, PySem.W.alike]
  | .lst xs, y, hx, hy => by
    cases y with
    | lst ys => simp only [toD, palk, PySem.W.alike]; exact alks_toD xs ys (by simpa [isD] using hx) (by simpa [isD] using hy)
    | _ => first | (cases hy; done) | simp [toD, palk, PySem.W.alike]
  | .set _, _, hx, _ => by cases hx
  | .dct _, _, hx, _ => by cases hx
  | .obj _ _, _, hx, _ => by cases hx
  | .loc _, _, hx, _ => by cases hx
  | .ty _, _, hx, _ => by cases hx
  | .scr _, _, hx, _ => by cases hx
theorem alks_toD : ∀ xs ys : List PV, isDs xs = true → isDs ys = true → PySem.W.alikeAll (toDs xs) (toDs ys) = palks xs ys
  | [], [], _, _ => by simp [toDs, palks, PySem.W.alikeAll]
  | [], _ :: _, _, _ => by simp [toDs, palks, PySem.W.alikeAll]
  | _ :: _, [], _, _ => by simp [toDs, palks, PySem.W.alikeAll]
  | x :: xs, y :: ys, hx, hy => by
    simp only [isDs, Bool.and_eq_true] at hx hy
    simp only [toDs, palks, PySem.W.alikeAll, alk_toD x y hx.1 hy.1, alks_toD xs ys hx.2 hy.2]
end
theorem lt_nil_cons (y : PyData) (ys : List PyData) : lexLt PyProof.Rows.itemOrd (PySem.W.keyToksAll []) (PySem.W.keyToksAll (y :: ys)) = true := by
  rw [PySem.W.keyToksAll, PySem.W.toks_all_cons, lex_diff (by simp)]
  rfl
theorem lt_cons_nil (y : PyData) (ys : List PyData) : lexLt PyProof.Rows.itemOrd (PySem.W.keyToksAll (y :: ys)) (PySem.W.keyToksAll []) = false := by
  rw [PySem.W.keyToksAll, PySem.W.toks_all_cons, lex_diff (by simp)]
  rfl
mutual
theorem lt_toD : ∀ x y : PV, isD x = true → isD y = true → palk x y = true → PySem.W.dataLt (toD x) (toD y) = plt x y
  | .non, y, _, hy, ha => by
    cases y <;> first | (cases ha; done) | skip
    simp only [toD, plt]; exact PySem.W.dataLt_self _
  | .bl a, y, _, hy, ha => by
    cases y <;> first | (cases ha; done) | skip
    rename_i b
    simp only [toD, plt, PySem.W.dataLt_bool]
    cases a <;> cases b <;> decide
  | .int _, y, _, hy, ha => by
    cases y <;> first | (cases ha; done) | skip
    simp only [toD, plt, PySem.W.dataLt_int]
  | .str _, y, _, hy, ha => by
    cases y <;> first | (cases ha; done) | skip
    simp only [toD, plt, PySem.W.dataLt_str]
  | .tup xs, y, hx, hy, ha => by
    cases y with
    | tup ys => simp only [toD, plt, PySem.W.dataLt_tuple]; exact lts_toD xs ys (by simpa [isD] using hx) (by simpa [isD] using hy) (by simpa [palk] using ha)
    | _ => cases ha
  | .lst xs, y, hx, hy, ha => by
    cases y with
    | lst ys => simp only [toD, plt, PySem.W.dataLt_list]; exact lts_toD xs ys (by simpa [isD] using hx) (by simpa [isD] using hy) (by simpa [palk] using ha)
    | _ => cases ha
  | .set _, _, hx, _, _ => by cases hx
  | .dct _, _, hx, _, _ => by cases hx
  | .obj _ _, _, hx, _, _ => by cases hx
  | .loc _, _, hx, _, _ => by cases hx
  | .ty _, _, hx, _, _ => by cases hx
  | .scr _, _, hx, _, _ => by cases hx
theorem lts_toD : ∀ xs ys : List PV, isDs xs = true → isDs ys = true → palks xs ys = true → lexLt PyProof.Rows.itemOrd (PySem.W.keyToksAll (toDs xs)) (PySem.W.keyToksAll (toDs ys)) = plts xs ys
  | [], [], _, _, _ => by simp only [toDs, plts]; exact lex_irrefl _
  | [], y :: ys, _, _, _ => by simp only [toDs, plts]; exact lt_nil_cons _ _
  | y :: ys, [], _, _, _ => by simp only [toDs, plts]; exact lt_cons_nil _ _
  | x :: xs, y :: ys, hx, hy, ha => by
    simp only [isDs, Bool.and_eq_true] at hx hy
    simp only [palks, Bool.and_eq_true] at ha
    simp only [toDs, plts]
    rw [PySem.W.dataLt_cons (by rw [alk_toD x y hx.1 hy.1]; exact ha.1), eqv_toD x y hx.1 hy.1, lt_toD x y hx.1 hy.1 ha.1, lts_toD xs ys hx.2 hy.2 ha.2]
end
section
variable {G : Cfg} {w : Wo} {H : Hp}
mutual
theorem Rep.dp : ∀ {v : V} {x : PV}, Rep G w H v x → isD x = true → Dp G.K H v (toD x)
  | _, _, .non, _ => .non
  | _, _, .bl b, _ => .bl b
  | _, _, .int i, _ => .int i
  | _, _, .str x _, _ => .str _
  | _, .tup xs, .tup h r, e => by simp only [toD]; exact .tup h.sq (RepL.dp r (by simpa [isD] using e))
  | _, .lst xs, .lst _ h r, e => by simp only [toD]; exact .lst (.inl (.inl h)) (RepL.dp r (by simpa [isD] using e))
  | _, _, .pr _ _ _, e => by cases e
  | _, _, .dcK _ _ _, e => by cases e
  | _, _, .dcT _ _ _ _, e => by cases e
  | _, _, .obj _ _ _, e => by cases e
  | _, _, .loc _, e => by cases e
  | _, _, .ty _, e => by cases e
  | _, _, .scr _, e => by cases e
theorem RepL.dp : ∀ {vs : List V} {xs : List PV}, RepL G w H vs xs → isDs xs = true → DpAll G.K H vs (toDs xs)
  | _, _, .nil, _ => .nil
  | _, x :: xs, .cons a b, e => by
    simp only [isDs, Bool.and_eq_true] at e
    simp only [toDs]
    exact .cons (Rep.dp a e.1) (RepL.dp b e.2)
end
mutual
theorem Rep.lay : ∀ {v : V} {x : PV}, Rep G w H v x → isD x = true → (toD x).canLay0 = true
  | _, _, .non, _ => rfl
  | _, _, .bl b, _ => rfl
  | _, _, .int i, _ => rfl
  | _, _, .str x h, _ => by
    simp only [toD, PyData.canLay0, PyData.strOk]
    rw [← Array.all_toList]
    exact h
  | _, .tup xs, .tup h r, e => by simp only [toD, PyData.canLay0]; exact (RepL.lay r (by simpa [isD] using e))
  | _, .lst xs, .lst _ h r, e => by simp only [toD, PyData.canLay0]; exact (RepL.lay r (by simpa [isD] using e))
  | _, _, .pr _ _ _, e => by cases e
  | _, _, .dcK _ _ _, e => by cases e
  | _, _, .dcT _ _ _ _, e => by cases e
  | _, _, .obj _ _ _, e => by cases e
  | _, _, .loc _, e => by cases e
  | _, _, .ty _, e => by cases e
  | _, _, .scr _, e => by cases e
theorem RepL.lay : ∀ {vs : List V} {xs : List PV}, RepL G w H vs xs → isDs xs = true → PyData.canLayAll0 (toDs xs) = true
  | _, _, .nil, _ => rfl
  | _, x :: xs, .cons a b, e => by
    simp only [isDs, Bool.and_eq_true] at e
    simp only [toDs, PyData.canLayAll0, Rep.lay a e.1, RepL.lay b e.2, Bool.and_self]
end
theorem Vw.dp {v : V} {x : PV} (h : Vw G w H v x) (e : isD x = true) : Dp G.K H v (toD x) := by
  cases h with
  | non => exact .non
  | bl b => exact .bl b
  | int i => exact .int i
  | str x k => exact .str _
  | tup h r => simp only [toD]; exact .tup h.sq (RepL.dp r (by simpa [isD] using e))
  | lst h r => simp only [toD]; exact .lst (.inl (.inl h)) (RepL.dp r (by simpa [isD] using e))
  | _ => cases e
theorem Vw.lay {v : V} {x : PV} (h : Vw G w H v x) (e : isD x = true) : (toD x).canLay0 = true := by
  cases h with
  | non => rfl
  | bl b => rfl
  | int i => rfl
  | str x k => exact (Rep.lay (G := G) (w := w) (H := H) (.str x k) e)
  | tup h r => simp only [toD, PyData.canLay0]; exact (RepL.lay r (by simpa [isD] using e))
  | lst h r => simp only [toD, PyData.canLay0]; exact (RepL.lay r (by simpa [isD] using e))
  | _ => cases e
end

/-! ### arithmetic -/
def gSub : PV → PV → Option PV
  | .int i, .int j => some (.int (i - j))
  | _, _ => none
def gMul : PV → PV → Option PV
  | .int i, .int j => if i.natAbs.log2 + j.natAbs.log2 < 1000000 then some (.int (i * j)) else none
  | _, _ => none
def gMod : PV → PV → Option PV
  | .int i, .int j => if 0 < j then some (.int (i % j)) else none
  | _, _ => none
def gDiv : PV → PV → Option PV
  | .int i, .int j => if 0 < j ∧ j.natAbs.log2 < 9000 then some (.int (i / j)) else none
  | _, _ => none
def gPow : PV → PV → Option PV
  | .int i, .int j => if 0 ≤ j ∧ (Builtin.Int.intBits i : Int) * j ≤ 134217728 then some (.int (i ^ j.toNat)) else none
  | _, _ => none
def gAdd : PV → PV → Option PV
  | .int i, .int j => some (.int (i + j))
  | .str x, .str y => if x.length + y.length ≤ sizeLine then some (.str (x ++ y)) else none
  | .tup xs, .tup ys => if xs.length + ys.length ≤ sizeLine then some (.tup (xs ++ ys)) else none
  | .lst xs, .lst ys => if xs.length + ys.length ≤ sizeLine then some (.lst (xs ++ ys)) else none
  | _, _ => none
def gNeg : PV → Option PV
  | .int i => some (.int (-i))
  | _ => none
section
variable {X : Cx} {T : Tabs} {W : WX}
theorem o2_sub : Op2 X T (rI0 fun i j => .int (i - j)) gSub := by
  intro w st H v u x y z Q wr rx ry e q
  unfold gSub at e
  split at e
  · cases rx; cases ry; cases e
    exact ⟨_, _, rfl, rfl, q.here wr (.int _)⟩
  · cases e
theorem o2_mul : Op2 X T (rI CMulW fun i j => .int (i * j)) gMul := by
  intro w st H v u x y z Q wr rx ry e q
  unfold gMul at e
  split at e
  · split at e
    · rename_i hc
      cases rx; cases ry; cases e
      exact ⟨_, _, rfl, rfl, hc, q.here wr (.int _)⟩
    · cases e
  · cases e
theorem o2_mod : Op2 X T (rI (fun _ j => 0 < j) fun i j => .int (i % j)) gMod := by
  intro w st H v u x y z Q wr rx ry e q
  unfold gMod at e
  split at e
  · split at e
    · rename_i hc
      cases rx; cases ry; cases e
      exact ⟨_, _, rfl, rfl, hc, q.here wr (.int _)⟩
    · cases e
  · cases e
theorem o2_div : Op2 X T (rI CDivW fun i j => .int (i / j)) gDiv := by
  intro w st H v u x y z Q wr rx ry e q
  unfold gDiv at e
  split at e
  · split at e
    · rename_i hc
      cases rx; cases ry; cases e
      exact ⟨_, _, rfl, rfl, hc, q.here wr (.int _)⟩
    · cases e
  · cases e
def CPowW (i j : Int) : Prop := 0 ≤ j ∧ (Builtin.Int.intBits i : Int) * j ≤ 2 ^ 27
theorem op_powW : OpR X (binaryOp .Pow) (rI CPowW fun i j => .int (i ^ j.toNat)) := opI fun _ _ _ _ _ _ _ hc q => pow_int hc.1 hc.2 q
theorem o2_pow : Op2 X T (rI CPowW fun i j => .int (i ^ j.toNat)) gPow := by
  intro w st H v u x y z Q wr rx ry e q
  unfold gPow at e
  split at e
  · split at e
    · rename_i hc
      cases rx; cases ry; cases e
      exact ⟨_, _, rfl, rfl, ⟨hc.1, hc.2⟩, q.here wr (.int _)⟩
    · cases e
  · cases e
theorem o1_neg : Op1 X T (rU fun i => .int (-i)) gNeg := by
  intro w st H v x z Q wr rx e q
  unfold gNeg at e
  split at e
  · cases rx; cases e
    exact ⟨_, rfl, q.here wr (.int _)⟩
  · cases e
def rAddP (K : PySem.W.Frag) : R2 := fun x y H Q => rI0 (fun i j => .int (i + j)) x y H Q ∨ (∃ i j, x = .str i ∧ y = .str j ∧ i.length + j.length ≤ sizeLine ∧ Q (.str (i ++ j)) H) ∨ rCatK K x y H Q ∨ rCat x y H Q
theorem op_addP : OpR X (binaryOp .Add) (rAddP X.K) := op_add.or (op_add_str.or (op_catK.or op_cat))
theorem s2_app (x y : List Nat) : s2 x ++ s2 y = s2 (x ++ y) := by
  show Str.append _ _ = _
  simp [Str.append, s2]
theorem all_app {x y : List Nat} {p : Nat → Bool} (h : x.all p = true) (k : y.all p = true) : (x ++ y).all p = true := by
  rw [List.all_append, h, k]; rfl
theorem o2_add : Op2 X T (rAddP X.K) gAdd := by
  intro w st H v u x y z Q wr rx ry e q
  unfold gAdd at e
  split at e
  · cases rx; cases ry; cases e
    exact .inl ⟨_, _, rfl, rfl, q.here wr (.int _)⟩
  · split at e
    · rename_i hc
      cases e
      cases rx with | str _ k1 =>
      cases ry with | str _ k2 =>
      exact .inr (.inl ⟨_, _, rfl, rfl, hc, by rw [s2_app]; exact q.here wr (.str _ (all_app k1 k2))⟩)
    · cases e
  · split at e
    · rename_i hc
      cases e
      cases rx with | tup s1 r1 =>
      cases ry with | tup s2 r2 =>
      refine .inr (.inr (.inl ⟨_, _, _, _, rfl, rfl, s1.sq, s2.sq, by rw [r1.length, r2.length]; exact hc, ?_⟩))
      refine ⟨fun h0 => ?_, fun _ h0 => ?_, fun _ _ p o hp ho => ?_⟩
      · subst h0
        cases r1
        exact q.here wr (.tup s2 r2)
      · subst h0
        cases r2
        rw [List.append_nil] at q
        exact q.here wr (.tup s1 r1)
      · exact q.new wr hp (Rep.newT wr hp ho (r1.append r2))
    · cases e
  · split at e
    · rename_i hc
      cases e
      cases rx with | lst s1 r1 =>
      cases ry with | lst s2 r2 =>
      refine .inr (.inr (.inr ⟨_, _, _, _, rfl, rfl, s1, s2, by rw [r1.length, r2.length]; exact hc, fun p hp => ?_⟩))
      exact q.new wr hp (Rep.newL wr hp (r1.append r2))
    · cases e
  · cases e
variable {a b c : Expr} {fa fb fc : Fr → M PV} {pos : Pos}
theorem pp_add (ha : PP X T W a fa) (hb : PP X T W b fb) : PP X T W (.BinOp a .Add b pos) (e2 gAdd fa fb) := pp_op op_addP o2_add ha hb
theorem pp_sub (ha : PP X T W a fa) (hb : PP X T W b fb) : PP X T W (.BinOp a .Sub b pos) (e2 gSub fa fb) := pp_op op_sub o2_sub ha hb
theorem pp_mul (ha : PP X T W a fa) (hb : PP X T W b fb) : PP X T W (.BinOp a .Mult b pos) (e2 gMul fa fb) := pp_op op_mulW o2_mul ha hb
theorem pp_mod (ha : PP X T W a fa) (hb : PP X T W b fb) : PP X T W (.BinOp a .Mod b pos) (e2 gMod fa fb) := pp_op op_mod o2_mod ha hb
theorem pp_div (ha : PP X T W a fa) (hb : PP X T W b fb) : PP X T W (.BinOp a .FloorDiv b pos) (e2 gDiv fa fb) := pp_op op_fdivW o2_div ha hb
theorem pp_pow (ha : PP X T W a fa) (hb : PP X T W b fb) : PP X T W (.BinOp a .Pow b pos) (e2 gPow fa fb) := pp_op op_powW o2_pow ha hb
theorem pp_neg (ha : PP X T W a fa) : PP X T W (.UnaryOp .USub a pos) (e1 gNeg fa) := pp_un un_neg o1_neg ha

/-! ### comparisons of data -/
def okE (x y : PV) : Bool := isD x && (isD y && (decide (pdep x ≤ 64) && decide (pdep y ≤ 64)))
def okL (x y : PV) : Bool := okE x y && (palk x y && noNon x)
where noNon : PV → Bool
  | .non => false
  | _ => true
def gEq (x y : PV) : Option PV := if okE x y then some (.bl (peq x y)) else none
def gNe (x y : PV) : Option PV := if okE x y then some (.bl (!peq x y)) else none
def gLt (x y : PV) : Option PV := if okL x y then some (.bl (plt x y)) else none
def gGt (x y : PV) : Option PV := if okL x y then some (.bl (plt y x)) else none
def gLe (x y : PV) : Option PV := if okL x y then some (.bl (!plt y x)) else none
def gGe (x y : PV) : Option PV := if okL x y then some (.bl (!plt x y)) else none
theorem okE_iff {x y : PV} (h : okE x y = true) : isD x = true ∧ isD y = true ∧ pdep x ≤ 64 ∧ pdep y ≤ 64 := by
  simp only [okE, Bool.and_eq_true, decide_eq_true_eq] at h
  exact ⟨h.1, h.2.1, h.2.2.1, h.2.2.2⟩
theorem okL_iff {x y : PV} (h : okL x y = true) : okE x y = true ∧ palk x y = true ∧ toD x ≠ .none := by
  simp only [okL, Bool.and_eq_true] at h
  refine ⟨h.1, h.2.1, fun z => ?_⟩
  have k := (okE_iff h.1).1
  cases x <;> first | (cases k; done) | (cases z; done) | (exact absurd h.2.2 (by simp [okL.noNon]))
def rD (K : PySem.W.Frag) (ok2 : PyData → PyData → Prop) (g : PyData → PyData → Bool) : R2 := fun x y H Q => ∃ d e, Dp K H x d ∧ Dp K H y e ∧ ok2 d e ∧ Q (.bl (g d e)) H
def kEq (d e : PyData) : Prop := d.canLay0 = true ∧ e.canLay0 = true ∧ d.depth ≤ 64 ∧ e.depth ≤ 64
def kLt (d e : PyData) : Prop := PySem.W.alike d e = true ∧ d ≠ .none ∧ d.depth ≤ 64
theorem op_eqP (hu : X.A.units + 64 < cLine) : OpR X (compareOp .Eq) (rD X.K kEq PyData.eqv) := fun pins s σ H x y v u Q I rx ry ⟨d, e, h1, h2, h3, q⟩ =>
  op_eqD hu pins s σ H x y v u Q I rx ry ⟨d, e, h1, h2, by simp [SeqAt.shaped, h3.1, h3.2.2.1], by simp [SeqAt.shaped, h3.2.1, h3.2.2.2], q⟩
theorem op_neP (hu : X.A.units + 64 < cLine) : OpR X (compareOp .NotEq) (rD X.K kEq fun d e => !PyData.eqv d e) := fun pins s σ H x y v u Q I rx ry ⟨d, e, h1, h2, h3, q⟩ =>
  op_neD hu pins s σ H x y v u Q I rx ry ⟨d, e, h1, h2, by simp [SeqAt.shaped, h3.1, h3.2.2.1], by simp [SeqAt.shaped, h3.2.1, h3.2.2.2], q⟩
theorem op_ltP (hu : X.A.units + 64 < cLine) : OpR X (compareOp .Lt) (rD X.K kLt PySem.W.dataLt) := fun pins s σ H x y v u Q I rx ry ⟨d, e, h1, h2, h3, q⟩ => by
  obtain ⟨as, r1⟩ := Dp.reads I d x v h1 rx
  obtain ⟨bs, r2⟩ := Dp.reads I e y u h2 ry
  exact PySem.W.lt_data r1 r2 h3.1 h3.2.1 (by have := h3.2.2; omega) ⟨.bl _, H, I, rfl, q⟩
theorem op_gtP (hu : X.A.units + 64 < cLine) : OpR X (compareOp .Gt) (rD X.K kLt fun d e => PySem.W.dataLt e d) := fun pins s σ H x y v u Q I rx ry ⟨d, e, h1, h2, h3, q⟩ => by
  obtain ⟨as, r1⟩ := Dp.reads I d x v h1 rx
  obtain ⟨bs, r2⟩ := Dp.reads I e y u h2 ry
  exact PySem.W.gt_data r1 r2 h3.1 h3.2.1 (by have := h3.2.2; omega) ⟨.bl _, H, I, rfl, q⟩
theorem op_leP (hu : X.A.units + 64 < cLine) : OpR X (compareOp .LtE) (rD X.K kLt fun d e => !PySem.W.dataLt e d) := fun pins s σ H x y v u Q I rx ry ⟨d, e, h1, h2, h3, q⟩ => by
  obtain ⟨as, r1⟩ := Dp.reads I d x v h1 rx
  obtain ⟨bs, r2⟩ := Dp.reads I e y u h2 ry
  exact PySem.W.le_data r1 r2 h3.1 h3.2.1 (by have := h3.2.2; omega) ⟨.bl _, H, I, rfl, q⟩
theorem op_geP (hu : X.A.units + 64 < cLine) : OpR X (compareOp .GtE) (rD X.K kLt fun d e => !PySem.W.dataLt d e) := fun pins s σ H x y v u Q I rx ry ⟨d, e, h1, h2, h3, q⟩ => by
  obtain ⟨as, r1⟩ := Dp.reads I d x v h1 rx
  obtain ⟨bs, r2⟩ := Dp.reads I e y u h2 ry
  exact PySem.W.ge_data r1 r2 h3.1 h3.2.1 (by have := h3.2.2; omega) ⟨.bl _, H, I, rfl, q⟩
mutual
theorem palk_comm : ∀ x y : PV, palk x y = palk y x
  | .tup xs, .tup ys => by simp only [palk]; exact palks_comm xs ys
  | .lst xs, .lst ys => by simp only [palk]; exact palks_comm xs ys
  | .non, y => by cases y <;> rfl
  | .bl _, y => by cases y <;> rfl
  | .int _, y => by cases y <;> rfl
  | .str _, y => by cases y <;> rfl
  | .set _, y => by cases y <;> rfl
  | .dct _, y => by cases y <;> rfl
  | .obj _ _, y => by cases y <;> rfl
  | .loc _, y => by cases y <;> rfl
  | .ty _, y => by cases y <;> rfl
  | .scr _, y => by cases y <;> rfl
  | .tup _, .non => rfl
  | .tup _, .bl _ => rfl
  | .tup _, .int _ => rfl
  | .tup _, .str _ => rfl
  | .tup _, .lst _ => rfl
  | .tup _, .set _ => rfl
  | .tup _, .dct _ => rfl
  | .tup _, .obj _ _ => rfl
  | .tup _, .loc _ => rfl
  | .tup _, .ty _ => rfl
  | .tup _, .scr _ => rfl
  | .lst _, .non => rfl
  | .lst _, .bl _ => rfl
  | .lst _, .int _ => rfl
  | .lst _, .str _ => rfl
  | .lst _, .tup _ => rfl
  | .lst _, .set _ => rfl
  | .lst _, .dct _ => rfl
  | .lst _, .obj _ _ => rfl
  | .lst _, .loc _ => rfl
  | .lst _, .ty _ => rfl
  | .lst _, .scr _ => rfl
theorem palks_comm : ∀ xs ys : List PV, palks xs ys = palks ys xs
  | [], [] => rfl
  | [], _ :: _ => rfl
  | _ :: _, [] => rfl
  | x :: xs, y :: ys => by simp only [palks, palk_comm x y, palks_comm xs ys]
end
section
variable {w : Wo} {st : Store} {H : Hp} {v u : V} {x y z : PV} {Q : VK}
theorem o2_eq : Op2 X T (rD X.K kEq PyData.eqv) gEq := by
  intro w st H v u x y z Q wr rx ry e q
  unfold gEq at e
  split at e
  · rename_i h
    cases e
    obtain ⟨h1, h2, h3, h4⟩ := okE_iff h
    refine ⟨toD x, toD y, rx.dp h1, ry.dp h2, ⟨rx.lay h1, ry.lay h2, by rw [depth_toD]; exact h3, by rw [depth_toD]; exact h4⟩, ?_⟩
    rw [eqv_toD x y h1 h2]
    exact q.here wr (.bl _)
  · cases e
theorem o2_ne : Op2 X T (rD X.K kEq fun d e => !PyData.eqv d e) gNe := by
  intro w st H v u x y z Q wr rx ry e q
  unfold gNe at e
  split at e
  · rename_i h
    cases e
    obtain ⟨h1, h2, h3, h4⟩ := okE_iff h
    refine ⟨toD x, toD y, rx.dp h1, ry.dp h2, ⟨rx.lay h1, ry.lay h2, by rw [depth_toD]; exact h3, by rw [depth_toD]; exact h4⟩, ?_⟩
    dsimp only
    rw [eqv_toD x y h1 h2]
    exact q.here wr (.bl _)
  · cases e
theorem kLt_of (h : okL x y = true) : kLt (toD x) (toD y) := by
  obtain ⟨h0, h5, h6⟩ := okL_iff h
  obtain ⟨h1, h2, h3, h4⟩ := okE_iff h0
  exact ⟨by rw [alk_toD x y h1 h2]; exact h5, h6, by rw [depth_toD]; exact h3⟩
theorem o2_lt : Op2 X T (rD X.K kLt PySem.W.dataLt) gLt := by
  intro w st H v u x y z Q wr rx ry e q
  unfold gLt at e
  split at e
  · rename_i h
    cases e
    obtain ⟨h0, h5, h6⟩ := okL_iff h
    obtain ⟨h1, h2, h3, h4⟩ := okE_iff h0
    refine ⟨toD x, toD y, rx.dp h1, ry.dp h2, kLt_of h, ?_⟩
    rw [lt_toD x y h1 h2 h5]
    exact q.here wr (.bl _)
  · cases e
theorem o2_gt : Op2 X T (rD X.K kLt fun d e => PySem.W.dataLt e d) gGt := by
  intro w st H v u x y z Q wr rx ry e q
  unfold gGt at e
  split at e
  · rename_i h
    cases e
    obtain ⟨h0, h5, h6⟩ := okL_iff h
    obtain ⟨h1, h2, h3, h4⟩ := okE_iff h0
    refine ⟨toD x, toD y, rx.dp h1, ry.dp h2, kLt_of h, ?_⟩
    dsimp only
    rw [lt_toD y x h2 h1 (by rw [palk_comm]; exact h5)]
    exact q.here wr (.bl _)
  · cases e
theorem o2_le : Op2 X T (rD X.K kLt fun d e => !PySem.W.dataLt e d) gLe := by
  intro w st H v u x y z Q wr rx ry e q
  unfold gLe at e
  split at e
  · rename_i h
    cases e
    obtain ⟨h0, h5, h6⟩ := okL_iff h
    obtain ⟨h1, h2, h3, h4⟩ := okE_iff h0
    refine ⟨toD x, toD y, rx.dp h1, ry.dp h2, kLt_of h, ?_⟩
    dsimp only
    rw [lt_toD y x h2 h1 (by rw [palk_comm]; exact h5)]
    exact q.here wr (.bl _)
  · cases e
theorem o2_ge : Op2 X T (rD X.K kLt fun d e => !PySem.W.dataLt d e) gGe := by
  intro w st H v u x y z Q wr rx ry e q
  unfold gGe at e
  split at e
  · rename_i h
    cases e
    obtain ⟨h0, h5, h6⟩ := okL_iff h
    obtain ⟨h1, h2, h3, h4⟩ := okE_iff h0
    refine ⟨toD x, toD y, rx.dp h1, ry.dp h2, kLt_of h, ?_⟩
    dsimp only
    rw [lt_toD x y h1 h2 h5]
    exact q.here wr (.bl _)
  · cases e
end
end
end Eg

/-! E4: bools, tests, conditional expressions, chains, argument lists, displays. -/
namespace Eg
open PySem PySem.Spec PyProof.Rows L2
def asB : PV → M Bool
  | .bl b => M.pure b
  | _ => M.bad
section
variable {X : Cx} {T : Tabs} {W : WX} {a b c e : Expr} {es rest : List Expr} {fa fb fc : Fr → M PV} {ga gb : Fr → M Bool} {pos p : Pos}
def eAnd (fa fb : Fr → M PV) : Fr → M PV := fun ρ => fa ρ >>= fun x => asB x >>= fun c => if c = true then fb ρ else M.pure (.bl false)
def eOr (fa fb : Fr → M PV) : Fr → M PV := fun ρ => fa ρ >>= fun x => asB x >>= fun c => if c = true then M.pure (.bl true) else fb ρ
def eNot (fa : Fr → M PV) : Fr → M PV := fun ρ => fa ρ >>= fun x => asB x >>= fun c => M.pure (.bl (!c))
theorem RunE.asB {k : Bool → Fr → M PV} {w : Wo} {st : Store} {ρ : Fr} {σ : L2.St} {H : Hp} {Q : VK} {x : PV} {v : V} (h : RunE X T W (fun ρ => Eg.asB x >>= fun c => k c ρ) w st ρ σ H Q) (r : Rep (Cx.g X T) w H v x) : ∃ c, v = .bl c ∧ RunE X T W (k c) w st ρ σ H Q := by
  cases r with
  | bl c => exact ⟨c, rfl, h.wr, h.fr, h.post⟩
  | _ => exact (h.no rfl).elim
theorem RunB.asB {k : Bool → Fr → M Bool} {w : Wo} {st : Store} {ρ : Fr} {σ : L2.St} {H : Hp} {Q : Bool → Hp → Prop} {x : PV} {v : V} (h : RunB X T W (fun ρ => Eg.asB x >>= fun c => k c ρ) w st ρ σ H Q) (r : Rep (Cx.g X T) w H v x) : ∃ c, v = .bl c ∧ RunB X T W (k c) w st ρ σ H Q := by
  cases r with
  | bl c => exact ⟨c, rfl, h.wr, h.fr, h.post⟩
  | _ => exact (h.no rfl).elim
theorem RunE.pure {x : PV} {w : Wo} {st : Store} {ρ : Fr} {σ : L2.St} {H : Hp} {Q : VK} {v : V} (h : RunE X T W (fun _ => M.pure x) w st ρ σ H Q) (r : Rep (Cx.g X T) w H v x) : Q v H := h.ret rfl (Le.refl w H) h.wr r
theorem RunB.pure {x : Bool} {w : Wo} {st : Store} {ρ : Fr} {σ : L2.St} {H : Hp} {Q : Bool → Hp → Prop} (h : RunB X T W (fun _ => M.pure x) w st ρ σ H Q) : Q x H := h.ret rfl (Le.refl w H) h.wr
theorem pp_one {op : BoolOp} (h : PP X T W a fa) : PP X T W (.BoolOp op [a] pos) fa := pe_one h
theorem pp_and (ha : PP X T W a fa) (hb : PP X T W (.BoolOp .And (b :: rest) pos) fb) : PP X T W (.BoolOp .And (a :: b :: rest) pos) (eAnd fa fb) := by
  refine ⟨fun pins s σ H Q I ⟨w, st, ρ, h⟩ => (pe_and ha hb).run pins s σ H Q I ?_⟩
  refine RunE.eE h fun w1 st1 x v H1 l r h1 => ?_
  obtain ⟨c, rfl, h2⟩ := h1.asB r
  refine ⟨c, rfl, ?_⟩
  cases c with
  | true => exact iteT ⟨w1, st1, ρ, h2⟩
  | false => exact iteF (h2.pure (.bl false))
theorem pp_or (ha : PP X T W a fa) (hb : PP X T W (.BoolOp .Or (b :: rest) pos) fb) : PP X T W (.BoolOp .Or (a :: b :: rest) pos) (eOr fa fb) := by
  refine ⟨fun pins s σ H Q I ⟨w, st, ρ, h⟩ => (pe_or ha hb).run pins s σ H Q I ?_⟩
  refine RunE.eE h fun w1 st1 x v H1 l r h1 => ?_
  obtain ⟨c, rfl, h2⟩ := h1.asB r
  refine ⟨c, rfl, ?_⟩
  cases c with
  | true => exact iteT (h2.pure (.bl true))
  | false => exact iteF ⟨w1, st1, ρ, h2⟩
theorem pp_not (ha : PP X T W a fa) : PP X T W (.UnaryOp .Not a pos) (eNot fa) := by
  refine ⟨fun pins s σ H Q I ⟨w, st, ρ, h⟩ => (pe_not ha).run pins s σ H Q I ?_⟩
  refine RunE.eE h fun w1 st1 x v H1 l r h1 => ?_
  obtain ⟨c, rfl, h2⟩ := h1.asB r
  exact ⟨c, rfl, h2.pure (.bl _)⟩
/-! ### is None -/
def isNon : PV → Bool
  | .non => true
  | _ => false
theorem Rep.isNon {G : Cfg} {w : Wo} {H : Hp} {v : V} {x : PV} (r : Rep G w H v x) : decide (v = .non) = Eg.isNon x := by
  cases r <;> rfl
def eIsN (k : Bool) (fa : Fr → M PV) : Fr → M PV := fun ρ => fa ρ >>= fun x => M.pure (.bl (xor k (isNon x)))
theorem pp_isN {j : Nat} {pos' : Pos} (ha : PP X T W a fa) : PP X T W (.Compare a [.Is] [.Constant .none j pos'] pos) (eIsN false fa) := by
  refine ⟨fun pins s σ H Q I ⟨w, st, ρ, h⟩ => (pe_cmp (pc_isN ha)).run pins s σ H Q I ?_⟩
  refine RunE.eE h fun w1 st1 x v H1 l r h1 => ?_
  rw [r.isNon]
  exact h1.pure (by rw [Bool.false_xor]; exact .bl _)
theorem pp_notN {j : Nat} {pos' : Pos} (ha : PP X T W a fa) : PP X T W (.Compare a [.IsNot] [.Constant .none j pos'] pos) (eIsN true fa) := by
  refine ⟨fun pins s σ H Q I ⟨w, st, ρ, h⟩ => (pe_cmp (pc_notN ha)).run pins s σ H Q I ?_⟩
  refine RunE.eE h fun w1 st1 x v H1 l r h1 => ?_
  rw [r.isNon]
  exact h1.pure (by rw [Bool.true_xor]; exact .bl _)
/-! ### tests -/
def eT (fa : Fr → M PV) : Fr → M Bool := fun ρ => fa ρ >>= asB
theorem tT_test {σ : L2.St} {H : Hp} {Q : Bool → Hp → Prop} (h : tT X T W (eT fa) σ H Q) : tE X T W fa σ H fun x H' => ∃ k, x = .bl k ∧ Q k H' := by
  obtain ⟨w, st, ρ, h⟩ := h
  refine RunB.eE (k := fun x _ => asB x) h fun w1 st1 x v H1 l r h1 => ?_
  cases r with
  | bl c => exact ⟨c, rfl, h1.ret rfl (Le.refl _ _) h1.wr⟩
  | _ => exact (h1.no rfl).elim
theorem ppt_val (h : PP X T W a fa) (he : ∀ whole, isTrue a X.env whole = (do let v ← whole; standAt a.pos; holding [v] (truthy v)) := by intro _; rfl) : PPT X T W a (eT fa) :=
  ⟨fun pins s σ H Q I q => (pt_val h he).run pins s σ H Q I (tT_test q)⟩
theorem ppt_cmp {op : CmpOp} {r : R2} {g : PV → PV → Option PV} (ho : OpR X (compareOp op) r) (hr : Op2 X T r g) (ha : PP X T W a fa) (hb : PP X T W b fb) (hm : behindInMarks op b = false) : PPT X T W (.Compare a [op] [b] pos) (eT (e2 g fa fb)) :=
  ⟨fun pins s σ H Q I q => (pt_cmpR ho ha hb hm).run pins s σ H Q I (t2 hr (tT_test q))⟩
theorem ppt_isN {j : Nat} {pos' : Pos} (ha : PP X T W a fa) : PPT X T W (.Compare a [.Is] [.Constant .none j pos'] pos) (eT (eIsN false fa)) :=
  ⟨fun pins s σ H Q I q => (pt_cmp (pc_isN ha)).run pins s σ H Q I (by
    obtain ⟨w, st, ρ, h⟩ := tT_test q
    refine RunE.eE h fun w1 st1 x v H1 l r h1 => ?_
    rw [r.isNon]
    exact h1.pure (by rw [Bool.false_xor]; exact .bl _))⟩
theorem ppt_notN {j : Nat} {pos' : Pos} (ha : PP X T W a fa) : PPT X T W (.Compare a [.IsNot] [.Constant .none j pos'] pos) (eT (eIsN true fa)) :=
  ⟨fun pins s σ H Q I q => (pt_cmp (pc_notN ha)).run pins s σ H Q I (by
    obtain ⟨w, st, ρ, h⟩ := tT_test q
    refine RunE.eE h fun w1 st1 x v H1 l r h1 => ?_
    rw [r.isNon]
    exact h1.pure (by rw [Bool.true_xor]; exact .bl _))⟩
def bAnd (ga gb : Fr → M Bool) : Fr → M Bool := fun ρ => ga ρ >>= fun c => if c = true then gb ρ else M.pure false
def bOr (ga gb : Fr → M Bool) : Fr → M Bool := fun ρ => ga ρ >>= fun c => if c = true then M.pure true else gb ρ
def bNot (ga : Fr → M Bool) : Fr → M Bool := fun ρ => ga ρ >>= fun c => M.pure (!c)
theorem ppw_one {op : BoolOp} (h : PPT X T W a ga) : PPW X T W (.BoolOp op [a] pos) ga := by
  cases op
  · exact pw_and1 h
  · exact pw_or1 h
theorem ppw_and (ha : PPT X T W a ga) (hb : PPW X T W (.BoolOp .And (b :: rest) pos) gb) : PPW X T W (.BoolOp .And (a :: b :: rest) pos) (bAnd ga gb) := by
  refine ⟨fun wh pins s σ H Q I ⟨w, st, ρ, h⟩ => (pw_and ha hb).run wh pins s σ H Q I ?_⟩
  refine RunB.bE h fun w1 st1 c H1 l h1 => ?_
  cases c with
  | true => exact iteT ⟨w1, st1, ρ, h1⟩
  | false => exact iteF h1.pure
theorem ppw_or (ha : PPT X T W a ga) (hb : PPW X T W (.BoolOp .Or (b :: rest) pos) gb) : PPW X T W (.BoolOp .Or (a :: b :: rest) pos) (bOr ga gb) := by
  refine ⟨fun wh pins s σ H Q I ⟨w, st, ρ, h⟩ => (pw_or ha hb).run wh pins s σ H Q I ?_⟩
  refine RunB.bE h fun w1 st1 c H1 l h1 => ?_
  cases c with
  | true => exact iteT h1.pure
  | false => exact iteF ⟨w1, st1, ρ, h1⟩
theorem ppt_w (h : PPW X T W a ga) : PPT X T W a ga := PW.pt h
theorem ppt_not (ha : PPT X T W a ga) : PPT X T W (.UnaryOp .Not a pos) (bNot ga) := by
  refine ⟨fun pins s σ H Q I ⟨w, st, ρ, h⟩ => (pt_not ha).run pins s σ H Q I ?_⟩
  exact RunB.bE h fun w1 st1 c H1 l h1 => h1.pure
def eIf (gc : Fr → M Bool) (fa fb : Fr → M PV) : Fr → M PV := fun ρ => gc ρ >>= fun c => if c = true then fa ρ else fb ρ
theorem pp_ifExp (hc : PPT X T W c ga) (ha : PP X T W a fa) (hb : PP X T W b fb) : PP X T W (.IfExp c a b pos) (eIf ga fa fb) := by
  refine ⟨fun pins s σ H Q I ⟨w, st, ρ, h⟩ => (pe_ifExp hc ha hb).run pins s σ H Q I ?_⟩
  refine RunE.bE h fun w1 st1 c H1 l h1 => ?_
  cases c with
  | true => exact iteT ⟨w1, st1, ρ, h1⟩
  | false => exact iteF ⟨w1, st1, ρ, h1⟩
/-! ### a op b op' c -/
def e3 (g g' : PV → PV → Option PV) (fa fb fc : Fr → M PV) : Fr → M PV := fun ρ => fa ρ >>= fun x => fb ρ >>= fun y => g2 g x y >>= fun z => asB z >>= fun k => if k = true then fc ρ >>= fun u => g2 g' y u else M.pure (.bl false)
theorem t3 {r r' : R2} {g g' : PV → PV → Option PV} (hr : Op2 X T r g) (hr' : Op2 X T r' g') {σ : L2.St} {H : Hp} {Q : VK} (h : tE X T W (e3 g g' fa fb fc) σ H Q) : tChain r r' (tE X T W fa) (tE X T W fb) (tE X T W fc) σ H Q := by
  obtain ⟨w, st, ρ, h⟩ := h
  refine RunE.eE h fun w1 st1 x v H1 l1 rx h1 => ?_
  refine RunE.eE h1 fun w2 st2 y u H2 l2 ry h2 => ?_
  have rx2 := rx.mono l2
  rcases g2_ok (g := g) (x := x) (y := y) (st := st2) with ⟨z, x', y', q1, q2, q3, q4, q5, q6⟩ | q
  · refine hr w2 st2 H2 v u x' y' z _ h2.wr (h2.wr.view rx2 q1 q2) (h2.wr.view ry q3 q4) q5 fun w3 z' H3 l3 wr3 r3 => ?_
    have h3 : RunE X T W (fun ρ => asB z >>= fun k => if k = true then fc ρ >>= fun u => g2 g' y u else M.pure (.bl false)) w3 st2 ρ σ H3 Q := by
      refine ⟨wr3, h2.fr.mono l3, ?_⟩
      have p := h2.post
      rw [M.bind_ok q6] at p
      exact p.mono l3
    obtain ⟨k, rfl, h4⟩ := h3.asB r3
    refine ⟨k, rfl, ?_⟩
    cases k with
    | false => exact iteF (h4.pure (.bl false))
    | true =>
      refine iteT ?_
      have h5 : RunE X T W (fun ρ => fc ρ >>= fun u => g2 g' y u) w3 st2 ρ σ H3 Q := h4
      exact RunE.eE (k := fun u _ => g2 g' y u) h5 fun w4 st4 t o H4 l4 rt h6 => h6.fin2 hr' ((ry.mono l3).mono l4) rt
  · exact (h2.no (M.bind_bad q)).elim
theorem pp_chain {op op' : CmpOp} {r r' : R2} {g g' : PV → PV → Option PV} (ho : OpR X (compareOp op) r) (ho' : OpR X (compareOp op') r') (hr : Op2 X T r g) (hr' : Op2 X T r' g')
    (ha : PP X T W a fa) (hb : PP X T W b fb) (hc : PP X T W c fc) (hm : lastMarks [op, op'] [b, c] = false := by with_unfolding_all rfl) : PP X T W (.Compare a [op, op'] [b, c] pos) (e3 g g' fa fb fc) :=
  ⟨fun pins s σ H Q I h => (pe_chain ho ho' ha hb hc hm).run pins s σ H Q I (t3 hr hr' h)⟩
theorem ppt_chain {op op' : CmpOp} {r r' : R2} {g g' : PV → PV → Option PV} (ho : OpR X (compareOp op) r) (ho' : OpR X (compareOp op') r') (hr : Op2 X T r g) (hr' : Op2 X T r' g')
    (ha : PP X T W a fa) (hb : PP X T W b fb) (hc : PP X T W c fc) (hm : lastMarks [op, op'] [b, c] = false := by with_unfolding_all rfl) : PPT X T W (.Compare a [op, op'] [b, c] pos) (eT (e3 g g' fa fb fc)) :=
  ⟨fun pins s σ H Q I h => (pt_chain ho ho' ha hb hc hm).run pins s σ H Q I (t3 hr hr' (tT_test h))⟩
/-! ### argument lists, displays -/
variable {fr : Fr → M (List PV)}
def aNil : Fr → M (List PV) := fun _ => M.pure []
def aCons (fa : Fr → M PV) (fr : Fr → M (List PV)) : Fr → M (List PV) := fun ρ => fa ρ >>= fun x => fr ρ >>= fun xs => M.pure (x :: xs)
theorem ppa_nil : PPA X T W [] aNil := ⟨fun pos pins s σ H Q I ⟨w, st, ρ, h⟩ => pa_nil.run pos pins s σ H Q I (h.ret rfl (Le.refl _ _) h.wr .nil)⟩
theorem ppa_cons (ha : PP X T W e fa) (hr : PPA X T W es fr) (hs : starEach (e :: es) X.env = (false, eval e X.env) :: starEach es X.env := by rfl) : PPA X T W (e :: es) (aCons fa fr) := by
  refine ⟨fun pos pins s σ H Q I ⟨w, st, ρ, h⟩ => (pa_cons ha hr hs).run pos pins s σ H Q I ?_⟩
  refine RunA.eE h fun w1 st1 x v H1 l1 rx h1 => ?_
  exact RunA.aE (k := fun xs _ => M.pure (x :: xs)) h1 fun w2 st2 xs vs H2 l2 rs h2 => h2.ret rfl (Le.refl _ _) h2.wr (.cons (rx.mono l2) rs)
/-! ### new objects: by value, or at a new location -/
def nw (k : Bool) (c : Cell) : M PV := if k = true then fun st => .ok (.loc st.next) (st.new c) else M.pure c.view
def Wo.add (w : Wo) (l : Nat) (p : Addr) : Wo := ⟨fun a => w.D a ∨ a = p, fun j => if j = l then some p else w.η j⟩
theorem Le.add {G : Cfg} {w : Wo} {st : Store} {H : Hp} {p : Addr} {o : HO} (wr : Wr G w st H) (hp : H p = none) : Le w H (w.add st.next p) (upd H p o) where
  loc l a h := by
    show (if l = st.next then some p else w.η l) = some a
    rw [if_neg (fun z => absurd (wr.ran l a h).2 (by omega))]
    exact h
  ran l a h := by
    change (if l = st.next then some p else w.η l) = some a at h
    split at h
    · cases h; exact .inr hp
    · exact .inl h
  fix a h n z := by
    rcases z with z | z
    · exact h z
    · subst z; exact n hp
  keep a q _ h := by
    have ne : a ≠ p := fun z => h.ne (z ▸ hp)
    exact h.imp fun u z => by rw [upd_ne ne]; exact z
  dom a h z := by
    have ne : a ≠ p := fun y => h (y ▸ hp)
    rw [upd_ne ne] at z
    exact h z
  hid a h _ _ := .inl h
  ex a q _ _ h := by
    have ne : a ≠ p := fun z => by rw [z, hp] at h; cases h
    rw [upd_ne ne]; exact h
theorem Wr.add {G : Cfg} {w : Wo} {st : Store} {H : Hp} {p : Addr} {o : HO} {c : Cell} (wr : Wr G w st H) (hp : H p = none) (hc : CellR G (w.add st.next p) (upd H p o) p c) (hn : nice o = true := by rfl) : Wr G (w.add st.next p) (st.new c) (upd H p o) where
  cell l d h := by
    rw [Store.get_new] at h
    by_cases e : l = st.next
    · subst e
      rw [if_pos rfl] at h
      cases h
      exact ⟨p, if_pos rfl, hc⟩
    · rw [if_neg e] at h
      obtain ⟨a, h1, h2⟩ := wr.cell l d h
      refine ⟨a, (if_neg e).trans h1, h2.mono (Le.add wr hp) (wr.ran l a h1).1 (fun z => .inl z) fun _ => ?_⟩
      exact upd_ne fun z => (wr.ran l a h1).1 (z ▸ hp)
  inj l l' a h h' := by
    change (if l = st.next then some p else w.η l) = some a at h
    change (if l' = st.next then some p else w.η l') = some a at h'
    split at h
    · rename_i e
      cases h
      split at h'
      · rename_i e'; rw [e, e']
      · exact absurd h' (wr.nloc hp l')
    · split at h'
      · cases h'; exact absurd h (wr.nloc hp l)
      · exact wr.inj l l' a h h'
  trk a h := by
    rcases h with h | h
    · exact (Le.add (o := o) wr hp).dom a (wr.trk a h)
    · subst h; rw [upd_same]; simp
  ran l a h := by
    change (if l = st.next then some p else w.η l) = some a at h
    split at h
    · rename_i e
      cases h
      exact ⟨by rw [upd_same]; simp, by rw [e, Store.new_next]; omega⟩
    · exact ⟨(Le.add (o := o) wr hp).dom a (wr.ran l a h).1, by rw [Store.new_next]; have := (wr.ran l a h).2; omega⟩
  tab := wr.tab.mr (Le.add (o := o) wr hp).r fun a ps _ q => same_new hp _ _ q
  nic a u d e := by
    by_cases z : a = p
    · subst z; rw [upd_same] at e; cases e; exact hn
    · rw [upd_ne z] at e
      rcases d with d | d
      · exact wr.nic a u d e
      · exact absurd d z
theorem RunE.mkL {k : Bool} {w : Wo} {st : Store} {ρ : Fr} {σ : L2.St} {H : Hp} {Q : VK} {xs : List PV} {vs : List V} {p : Addr} (h : RunE X T W (fun _ => nw k (.lst xs)) w st ρ σ H Q) (r : RepL (Cx.g X T) w H vs xs) (hp : H p = none) : Q (.ref p) (upd H p (.lst vs)) := by
  cases k with
  | false => exact h.ret rfl (Le.same (same_new hp)) (h.wr.same (same_new hp)) (Rep.newL h.wr hp r)
  | true =>
    refine h.ret (x := .loc st.next) (st' := st.new (.lst xs)) rfl (Le.add h.wr hp) (Wr.add h.wr hp ?_) (.loc (if_pos rfl))
    exact ⟨.inr rfl, vs, upd_same, r.mono (Le.add h.wr hp)⟩
def eTup (fr : Fr → M (List PV)) : Fr → M PV := fun ρ => fr ρ >>= fun xs => if xs.length ≤ sizeLine then M.pure (.tup xs) else M.bad
def eLst (k : Bool) (fr : Fr → M (List PV)) : Fr → M PV := fun ρ => fr ρ >>= fun xs => if xs.length ≤ sizeLine then nw k (.lst xs) else M.bad
theorem pp_tup {x1 : Nat} (h : PPA X T W es fr) : PP X T W (.Tuple es x1 pos) (eTup fr) := by
  refine ⟨fun pins s σ H Q I ⟨w, st, ρ, q⟩ => (pe_tupK h).run pins s σ H Q I ?_⟩
  refine RunE.aE (k := fun xs _ => if xs.length ≤ sizeLine then M.pure (.tup xs) else M.bad) q fun w1 st1 xs vs H1 l r h1 => ?_
  by_cases hl : xs.length ≤ sizeLine
  · simp only [if_pos hl] at h1
    exact ⟨by rw [r.length]; exact hl, fun p o hp ho => h1.ret rfl (Le.same (same_new hp)) (h1.wr.same (same_new hp)) (Rep.newT h1.wr hp ho r)⟩
  · simp only [if_neg hl] at h1
    exact (h1.no rfl).elim
theorem pp_lst (k : Bool) (h : PPA X T W es fr) : PP X T W (.List es pos) (eLst k fr) := by
  refine ⟨fun pins s σ H Q I ⟨w, st, ρ, q⟩ => (pe_lst h).run pins s σ H Q I ?_⟩
  refine RunE.aE (k := fun xs _ => if xs.length ≤ sizeLine then nw k (.lst xs) else M.bad) q fun w1 st1 xs vs H1 l r h1 => ?_
  by_cases hl : xs.length ≤ sizeLine
  · simp only [if_pos hl] at h1
    exact ⟨by rw [r.length]; exact hl, fun p hp => h1.mkL r hp⟩
  · simp only [if_neg hl] at h1
    exact (h1.no rfl).elim
end
end Eg

/-! E5: statements, targets, loops. -/
namespace Eg
open PySem PySem.Spec PyProof.Rows L2
inductive RS where
  | nx (ρ : Fr) (st : Store) | rt (x : PV) (st : Store) | bk (ρ : Fr) (st : Store) | ct (ρ : Fr) (st : Store) | exc (e : Exn) (ρ : Fr) (st : Store) | bad
abbrev S := Fr → Store → RS
section
variable (X : Cx) (T : Tabs) (W : WX)
def PostS (w : Wo) (H : Hp) (D : Ends) : RS → Prop
  | .nx ρ st => ∀ w' σ' H', Le w H w' H' → Wr (Cx.g X T) w' st H' → FrR (Cx.g X T) w' H' σ' ρ → D.nx σ' H'
  | .rt x st => ∀ w' v H', Le w H w' H' → Wr (Cx.g X T) w' st H' → Rep (Cx.g X T) w' H' v x → D.rt v H'
  | .bk ρ st => ∀ w' σ' H', Le w H w' H' → Wr (Cx.g X T) w' st H' → FrR (Cx.g X T) w' H' σ' ρ → D.bk σ' H'
  | .ct ρ st => ∀ w' σ' H', Le w H w' H' → Wr (Cx.g X T) w' st H' → FrR (Cx.g X T) w' H' σ' ρ → D.ct σ' H'
  | .exc e ρ st => ∀ w' cls d σ' H', Le w H w' H' → Wr (Cx.g X T) w' st H' → FrR (Cx.g X T) w' H' σ' ρ → ExR (Cx.g X T) w' H' cls d e → W cls d σ' H'
  | .bad => False
structure RunS (f : S) (w : Wo) (st : Store) (ρ : Fr) (σ : L2.St) (H : Hp) (D : Ends) : Prop where
  wr : Wr (Cx.g X T) w st H
  fr : FrR (Cx.g X T) w H σ ρ
  post : PostS X T W w H D (f ρ st)
def tS (f : S) : TS := fun D σ H => ∃ w st ρ, RunS X T W f w st ρ σ H D
def PPS (s : Stmt) (f : S) : Prop := PS X s (tS X T W f)
def PPSs (s : List Stmt) (f : S) : Prop := PSs X s (tS X T W f)
end
section
variable {X : Cx} {T : Tabs} {W : WX} {w w' : Wo} {H H' : Hp} {σ : L2.St} {st : Store} {ρ : Fr} {D : Ends}
theorem PostS.mono (e : Le w H w' H') {r : RS} (h : PostS X T W w H D r) : PostS X T W w' H' D r := by
  cases r with
  | nx ρ st => exact fun w2 v H2 l => h w2 v H2 (e.trans l)
  | rt x st => exact fun w2 v H2 l => h w2 v H2 (e.trans l)
  | bk ρ st => exact fun w2 v H2 l => h w2 v H2 (e.trans l)
  | ct ρ st => exact fun w2 v H2 l => h w2 v H2 (e.trans l)
  | exc x ρ st => exact fun w2 c d v H2 l => h w2 c d v H2 (e.trans l)
  | bad => exact h
/-- behind an expression -/
def sE {α : Type} (m : M α) (ρ : Fr) (k : α → Store → RS) : Store → RS := fun st => match m st with
  | .ok a st' => k a st'
  | .exc e st' => .exc e ρ st'
  | .bad => .bad
theorem RunS.eE {f : Fr → M PV} {k : PV → S} {Q' : VK} (h : RunS X T W (fun ρ => sE (f ρ) ρ fun x => k x ρ) w st ρ σ H D)
    (step : ∀ w1 st1 x v H1, Le w H w1 H1 → Rep (Cx.g X T) w1 H1 v x → RunS X T W (k x) w1 st1 ρ σ H1 D → Q' v H1) : tE X T W f σ H Q' := by
  refine ⟨w, st, ρ, h.wr, h.fr, ?_⟩
  have p := h.post
  unfold sE at p
  cases e : f ρ st with
  | ok x st1 => rw [e] at p; exact fun w1 v H1 l wr r => step w1 st1 x v H1 l r ⟨wr, h.fr.mono l, p.mono l⟩
  | exc x st1 => rw [e] at p; exact fun w1 c d H1 l wr r => p w1 c d σ H1 l wr (h.fr.mono l) r
  | bad => rw [e] at p; exact p
theorem RunS.bE {f : Fr → M Bool} {k : Bool → S} {Q' : Bool → Hp → Prop} (h : RunS X T W (fun ρ => sE (f ρ) ρ fun x => k x ρ) w st ρ σ H D)
    (step : ∀ w1 st1 x H1, Le w H w1 H1 → RunS X T W (k x) w1 st1 ρ σ H1 D → Q' x H1) : tT X T W f σ H Q' := by
  refine ⟨w, st, ρ, h.wr, h.fr, ?_⟩
  have p := h.post
  unfold sE at p
  cases e : f ρ st with
  | ok x st1 => rw [e] at p; exact fun w1 H1 l wr => step w1 st1 x H1 l ⟨wr, h.fr.mono l, p.mono l⟩
  | exc x st1 => rw [e] at p; exact fun w1 c d H1 l wr r => p w1 c d σ H1 l wr (h.fr.mono l) r
  | bad => rw [e] at p; exact p
theorem RunS.aE {f : Fr → M (List PV)} {k : List PV → S} {Q' : List V → Hp → Prop} (h : RunS X T W (fun ρ => sE (f ρ) ρ fun x => k x ρ) w st ρ σ H D)
    (step : ∀ w1 st1 x v H1, Le w H w1 H1 → RepL (Cx.g X T) w1 H1 v x → RunS X T W (k x) w1 st1 ρ σ H1 D → Q' v H1) : tA X T W f σ H Q' := by
  refine ⟨w, st, ρ, h.wr, h.fr, ?_⟩
  have p := h.post
  unfold sE at p
  cases e : f ρ st with
  | ok x st1 => rw [e] at p; exact fun w1 v H1 l wr r => step w1 st1 x v H1 l r ⟨wr, h.fr.mono l, p.mono l⟩
  | exc x st1 => rw [e] at p; exact fun w1 c d H1 l wr r => p w1 c d σ H1 l wr (h.fr.mono l) r
  | bad => rw [e] at p; exact p
theorem RunS.no {f : S} (h : RunS X T W f w st ρ σ H D) (e : f ρ st = .bad) : False := by
  have p := h.post
  rw [e] at p
  exact p
variable {s : Stmt} {ss : List Stmt} {e : Expr} {fe : Fr → M PV} {f g : S} {pos : Pos}
def sNx : S := fun ρ st => .nx ρ st
theorem ppss_nil : PPSs X T W [] sNx := ⟨fun pins s σ H D I ⟨w, st, ρ, h⟩ => pss_nil.run pins s σ H D I (h.post w σ H (Le.refl _ _) h.wr h.fr)⟩
def sSeq (f g : S) : S := fun ρ st => match f ρ st with
  | .nx ρ' st' => g ρ' st'
  | r => r
theorem ppss_cons (h1 : PPS X T W s f) (h2 : PPSs X T W ss g) : PPSs X T W (s :: ss) (sSeq f g) := by
  refine ⟨fun pins sh σ H D I ⟨w, st, ρ, h⟩ => (pss_cons h1 h2).run pins sh σ H D I ⟨w, st, ρ, h.wr, h.fr, ?_⟩⟩
  have p := h.post
  unfold sSeq at p
  cases q : f ρ st with
  | nx ρ' st' => rw [q] at p; exact fun w1 σ1 H1 l wr fr => ⟨w1, st', ρ', wr, fr, p.mono l⟩
  | rt x st' => rw [q] at p; exact p
  | bk x st' => rw [q] at p; exact p
  | ct x st' => rw [q] at p; exact p
  | exc x y st' => rw [q] at p; exact p
  | bad => rw [q] at p; exact p
theorem ppss_one (h1 : PPS X T W s f) : PPSs X T W [s] f := pss_one h1
theorem pps_pass : PPS X T W (.Pass pos) sNx := ⟨fun pins s σ H D I ⟨w, st, ρ, h⟩ => ps_pass.run pins s σ H D I (h.post w σ H (Le.refl _ _) h.wr h.fr)⟩
def sBrk : S := fun ρ st => .bk ρ st
theorem pps_break : PPS X T W (.Break pos) sBrk := ⟨fun pins s σ H D I ⟨w, st, ρ, h⟩ => ps_break.run pins s σ H D I (h.post w σ H (Le.refl _ _) h.wr h.fr)⟩
def sExpr (fe : Fr → M PV) : S := fun ρ => sE (fe ρ) ρ fun _ st => .nx ρ st
theorem pps_expr (he : PP X T W e fe) (hs : swapsWith e none pos.line X.env = pure false := by rfl) : PPS X T W (.Expr e pos) (sExpr fe) := by
  refine ⟨fun pins s σ H D I ⟨w, st, ρ, h⟩ => (ps_expr he hs).run pins s σ H D I ?_⟩
  exact RunS.eE (k := fun _ ρ st => .nx ρ st) h fun w1 st1 x v H1 l r h1 => h1.post w1 σ H1 (Le.refl _ _) h1.wr h1.fr
def sRet (fe : Fr → M PV) : S := fun ρ => sE (fe ρ) ρ fun x st => .rt x st
theorem pps_ret (he : PP X T W e fe) : PPS X T W (.Return (some e) pos) (sRet fe) := by
  refine ⟨fun pins s σ H D I ⟨w, st, ρ, h⟩ => (ps_ret he).run pins s σ H D I ?_⟩
  exact RunS.eE (k := fun x ρ st => .rt x st) h fun w1 st1 x v H1 l r h1 => h1.post w1 v H1 (Le.refl _ _) h1.wr r
def sRetN : S := fun _ st => .rt .non st
theorem pps_retN : PPS X T W (.Return none pos) sRetN := ⟨fun pins s σ H D I ⟨w, st, ρ, h⟩ => ps_retN.run pins s σ H D I (h.post w .non H (Le.refl _ _) h.wr .non)⟩
def sIf (gc : Fr → M Bool) (f g : S) : S := fun ρ => sE (gc ρ) ρ fun c st => if c = true then f ρ st else g ρ st
theorem pps_if {c : Expr} {a b : List Stmt} {gc : Fr → M Bool} (hc : PPT X T W c gc) (ha : PPSs X T W a f) (hb : PPSs X T W b g) : PPS X T W (.If c a b pos) (sIf gc f g) := by
  refine ⟨fun pins s σ H D I ⟨w, st, ρ, h⟩ => (ps_if hc ha hb).run pins s σ H D I ?_⟩
  refine RunS.bE (k := fun c ρ st => if c = true then f ρ st else g ρ st) h fun w1 st1 c H1 l h1 => ?_
  cases c with
  | true => exact iteT ⟨w1, st1, ρ, h1⟩
  | false => exact iteF ⟨w1, st1, ρ, h1⟩
/-! ### targets -/
/-- the slots outside of is are as they were -/
def Agr (is : List Nat) (σ σ' : L2.St) : Prop := σ'.length = σ.length ∧ ∀ j : Nat, j ∉ is → σ'[j]? = σ[j]?
theorem Agr.refl (is : List Nat) (σ : L2.St) : Agr is σ σ := ⟨rfl, fun _ _ => rfl⟩
theorem Agr.trans {is js : List Nat} {σ σ1 σ2 : L2.St} (a : Agr is σ σ1) (b : Agr js σ1 σ2) : Agr (is ++ js) σ σ2 :=
  ⟨b.1.trans a.1, fun j h => (b.2 j fun z => h (List.mem_append_right _ z)).trans (a.2 j fun z => h (List.mem_append_left _ z))⟩
theorem wipe_get (σ : L2.St) : ∀ (vs : List Nat) (j : Nat), (wipe σ vs)[j]? = if j ∈ vs ∧ j < σ.length then some none else σ[j]?
  | [], j => by simp [wipe]
  | v :: vs, j => by
    unfold wipe
    by_cases e : j = v
    · subst e
      by_cases hl : j < σ.length
      · rw [List.getElem?_set_self (by rw [wipe_length]; exact hl), if_pos ⟨by simp, hl⟩]
      · rw [List.getElem?_eq_none (by rw [List.length_set, wipe_length]; omega), if_neg (fun z => hl z.2), List.getElem?_eq_none (by omega)]
    · rw [List.getElem?_set_ne (Ne.symm e), wipe_get σ vs j]
      simp [e]
theorem Agr.wipe {is vs : List Nat} {σ σ' : L2.St} (a : Agr is σ σ') (h : ∀ i ∈ is, i ∈ vs) : wipe σ' vs = wipe σ vs := by
  refine List.ext_getElem? fun j => ?_
  rw [wipe_get, wipe_get, a.1]
  by_cases hj : j ∈ vs ∧ j < σ.length
  · rw [if_pos hj, if_pos hj]
  · rw [if_neg hj, if_neg hj]
    by_cases hv : j ∈ is
    · have hl : ¬ j < σ.length := fun z => hj ⟨h j hv, z⟩
      rw [List.getElem?_eq_none (by rw [a.1]; omega), List.getElem?_eq_none (by omega)]
    · exact a.2 j hv
def tG (X : Cx) (T : Tabs) (is : List Nat) (g : PV → Fr → M Fr) : TG := fun v σ H Q => ∃ w st ρ x, Wr (Cx.g X T) w st H ∧ FrR (Cx.g X T) w H σ ρ ∧ Rep (Cx.g X T) w H v x ∧ ∃ ρ' st', g x ρ st = .ok ρ' st' ∧
  ∀ w' σ' H', Le w H w' H' → Wr (Cx.g X T) w' st' H' → FrR (Cx.g X T) w' H' σ' ρ' → Agr is σ σ' → Q σ' H'
def PPG (X : Cx) (T : Tabs) (tg : Expr) (is : List Nat) (g : PV → Fr → M Fr) : Prop := PG X tg (tG X T is g)
def gN (i : Nat) : PV → Fr → M Fr := fun x ρ => M.pure (ρ.set i (some x))
theorem ppg_name {i : Nat} {x : Str} (hN : X.N.Nodup) (hi : X.N[i]? = some x) (hx : Loc X.env.scope x) (hf : X.fn x = true ∨ X.env.scope.names.lookup x = some .local) : PPG X T (.Name x pos) [i] (gN i) := by
  refine ⟨fun pins s σ H v u Q I r ⟨w, st, ρ, y, wr, fr, ry, ρ', st', e, q⟩ => (pg_name hN hi hx hf).run pins s σ H v u Q I r ?_⟩
  cases e
  exact q w _ H (Le.refl _ _) wr (fr.set ry i) ⟨by simp, fun j hj => List.getElem?_set_ne (fun z => hj (by simp [z]))⟩
def tGs (X : Cx) (T : Tabs) (is : List Nat) (g : List PV → Fr → M Fr) : TGs := fun v σ H Q => ∃ w st ρ x, Wr (Cx.g X T) w st H ∧ FrR (Cx.g X T) w H σ ρ ∧ RepL (Cx.g X T) w H v x ∧ ∃ ρ' st', g x ρ st = .ok ρ' st' ∧
  ∀ w' σ' H', Le w H w' H' → Wr (Cx.g X T) w' st' H' → FrR (Cx.g X T) w' H' σ' ρ' → Agr is σ σ' → Q σ' H'
def PPGs (X : Cx) (T : Tabs) (tgs : List Expr) (is : List Nat) (g : List PV → Fr → M Fr) : Prop := PGs X tgs (tGs X T is g)
def gN0 : List PV → Fr → M Fr
  | [], ρ => M.pure ρ
  | _, _ => M.bad
def gNC (g : PV → Fr → M Fr) (gs : List PV → Fr → M Fr) : List PV → Fr → M Fr
  | x :: xs, ρ => g x ρ >>= fun ρ' => gs xs ρ'
  | [], _ => M.bad
theorem ppgs_nil : PPGs X T [] [] gN0 := by
  refine ⟨fun pins s σ H vs us Q I r ⟨w, st, ρ, y, wr, fr, ry, ρ', st', e, q⟩ => pgs_nil.run pins s σ H vs us Q I r ?_⟩
  cases ry with
  | nil => cases e; exact ⟨rfl, q w σ H (Le.refl _ _) wr fr (Agr.refl _ _)⟩
  | cons _ _ => cases e
theorem ppgs_cons {t : Expr} {ts : List Expr} {is js : List Nat} {g : PV → Fr → M Fr} {gs : List PV → Fr → M Fr} (h : PPG X T t is g) (hs : PPGs X T ts js gs) (hst : (assignEach (t :: ts) X.env).map (·.2) = assign t X.env :: (assignEach ts X.env).map (·.2) := by rfl) : PPGs X T (t :: ts) (is ++ js) (gNC g gs) := by
  refine ⟨fun pins s σ H vs us Q I r ⟨w, st, ρ, y, wr, fr, ry, ρ', st', e, q⟩ => (pgs_cons h hs hst).run pins s σ H vs us Q I r ?_⟩
  cases ry with
  | nil => cases e
  | @cons v vs x xs r1 r2 =>
    refine ⟨v, vs, rfl, w, st, ρ, x, wr, fr, r1, ?_⟩
    change (g x ρ >>= fun ρ' => gs xs ρ') st = _ at e
    cases q1 : g x ρ st with
    | ok ρ1 st1 =>
      rw [M.bind_ok q1] at e
      exact ⟨ρ1, st1, rfl, fun w1 σ1 H1 l wr1 fr1 ag => ⟨w1, st1, ρ1, xs, wr1, fr1, r2.mono l, ρ', st', e, fun w2 σ2 H2 l2 wr2 fr2 ag2 => q w2 σ2 H2 (l.trans l2) wr2 fr2 (ag.trans ag2)⟩⟩
    | exc _ _ => rw [M.bind_exc q1] at e; cases e
    | bad => rw [M.bind_bad q1] at e; cases e
def gTp (n : Nat) (gs : List PV → Fr → M Fr) : PV → Fr → M Fr
  | .tup xs, ρ => if xs.length = n then gs xs ρ else M.bad
  | .set xs, ρ => if xs.length = n then gs xs ρ else M.bad
  | _, _ => M.bad
theorem ppg_tup {es : List Expr} {k : Nat} {is : List Nat} {gs : List PV → Fr → M Fr} {n : Nat} (hc : X.calm = true) (h : PPGs X T es is gs)
    (hn : (assignEach es X.env).length = n := by rfl) (hst : (assignEach es X.env).findIdx? (·.1) = none := by rfl) : PPG X T (.Tuple es k pos) is (gTp n gs) := by
  refine ⟨fun pins s σ H v u Q I r ⟨w, st, ρ, y, wr, fr, ry, ρ', st', e, q⟩ => (pg_tup hc h hn hst).run pins s σ H v u Q I r ?_⟩
  cases ry with
  | @tup a vs xs h1 h2 =>
    change (if xs.length = n then gs xs ρ else M.bad) st = _ at e
    by_cases hl : xs.length = n
    · rw [if_pos hl] at e
      exact ⟨a, vs, rfl, h1.sq, by rw [h2.length]; exact hl, w, st, ρ, xs, wr, fr, h2, ρ', st', e, q⟩
    · rw [if_neg hl] at e; cases e
  | @pr a vs xs d h1 h2 =>
    change (if xs.length = n then gs xs ρ else M.bad) st = _ at e
    by_cases hl : xs.length = n
    · rw [if_pos hl] at e
      exact ⟨a, vs, rfl, .inl (.inl h1), by rw [h2.length]; exact hl, w, st, ρ, xs, wr, fr, h2, ρ', st', e, q⟩
    · rw [if_neg hl] at e; cases e
  | _ => cases e
def sAsg (fe : Fr → M PV) (g : PV → Fr → M Fr) : S := fun ρ => sE (fe ρ) ρ fun x st => match g x ρ st with
  | .ok ρ' st' => .nx ρ' st'
  | _ => .bad
theorem pps_asg {tg : Expr} {is : List Nat} {g : PV → Fr → M Fr} (he : PP X T W e fe) (hg : PPG X T tg is g) (hs : swapsWithSole [tg] e pos.line X.env = pure false := by rfl) (hw : swappedStores [tg] e X.env = pure none := by rfl)
    (h1 : (assignEach [tg] X.env).map (·.2) = [assign tg X.env] := by rfl) : PPS X T W (.Assign [tg] e pos) (sAsg fe g) := by
  refine ⟨fun pins s σ H D I ⟨w, st, ρ, h⟩ => (ps_asg he hg hs hw h1).run pins s σ H D I ?_⟩
  refine RunS.eE (k := fun x ρ st => match g x ρ st with | .ok ρ' st' => .nx ρ' st' | _ => .bad) h fun w1 st1 x v H1 l r h1 => ?_
  refine ⟨w1, st1, ρ, x, h1.wr, h1.fr, r, ?_⟩
  have p := h1.post
  cases q : g x ρ st1 with
  | ok ρ' st' => simp only [q] at p; exact ⟨ρ', st', rfl, fun w2 σ2 H2 l2 wr2 fr2 _ => p w2 σ2 H2 l2 wr2 fr2⟩
  | exc _ _ => simp only [q] at p; exact p.elim
  | bad => simp only [q] at p; exact p.elim
theorem pps_set {i : Nat} {x : Str} {pos' : Pos} (hN : X.N.Nodup) (hi : X.N[i]? = some x) (hx : Loc X.env.scope x) (he : PP X T W e fe) (hf : X.fn x = true ∨ X.env.scope.names.lookup x = some .local) (hs : swapsWith e (some (.Name x pos')) pos.line X.env = pure false := by rfl) :
    PPS X T W (.Assign [.Name x pos'] e pos) (sAsg fe (gN i)) := by
  refine ⟨fun pins s σ H D I ⟨w, st, ρ, h⟩ => (ps_set hN hi hx he hs hf).run pins s σ H D I ?_⟩
  refine RunS.eE (k := fun x ρ st => match gN i x ρ st with | .ok ρ' st' => .nx ρ' st' | _ => .bad) h fun w1 st1 x v H1 l r h1 => ?_
  exact h1.post w1 _ H1 (Le.refl _ _) h1.wr (h1.fr.set r i)
/-- a, b = x, y -/
def sPar (i j : Nat) (fr : Fr → M (List PV)) : S := fun ρ => sE (fr ρ) ρ fun xs st => match xs with
  | [x, y] => .nx ((ρ.set i (some x)).set j (some y)) st
  | _ => .bad
theorem pps_par {i j : Nat} {x y : Str} {a b : Expr} {ta : Fr → M (List PV)} {px py pt : Pos} {kt k2 : Nat} {pt2 : Pos} (hc : X.calm = true) (hN : X.N.Nodup) (hi : X.N[i]? = some x) (hj : X.N[j]? = some y) (hij : i ≠ j)
    (hx : X.env.scope.names.lookup x = some .local) (hy : X.env.scope.names.lookup y = some .local) (ha : PPA X T W [a, b] ta)
    (hw : swappedStores [.Tuple [.Name x px, .Name y py] kt pt] (.Tuple [a, b] k2 pt2) X.env = pure (some [x, y]))
    (hs : swapsWithSole [.Tuple [.Name x px, .Name y py] kt pt] (.Tuple [a, b] k2 pt2) pos.line X.env = pure false := by rfl) :
    PPS X T W (.Assign [.Tuple [.Name x px, .Name y py] kt pt] (.Tuple [a, b] k2 pt2) pos) (sPar i j ta) := by
  refine ⟨fun pins s σ H D I ⟨w, st, ρ, h⟩ => (ps_par hc hN hi hj hij hx hy ha hw hs).run pins s σ H D I ?_⟩
  refine RunS.aE (k := fun xs ρ st => match xs with | [x, y] => .nx ((ρ.set i (some x)).set j (some y)) st | _ => .bad) h fun w1 st1 xs vs H1 l r h1 => ?_
  cases r with
  | nil => exact (h1.no rfl).elim
  | cons r1 r =>
    cases r with
    | nil => exact (h1.no rfl).elim
    | cons r2 r =>
      cases r with
      | nil => exact ⟨_, _, rfl, h1.post w1 _ H1 (Le.refl _ _) h1.wr ((h1.fr.set r1 i).set r2 j)⟩
      | cons _ _ => exact (h1.no rfl).elim
end
end Eg

/-! E6: what is walked; for, while, list comprehensions. -/
namespace Eg
open PySem PySem.Spec PyProof.Rows L2
/-- what a loop walks -/
structure Src where
  get : Store → Nat → Option PV
  len : Nat
  fin : Store → Bool
def Src.fz (xs : List PV) : Src := ⟨fun _ i => xs[i]?, xs.length, fun _ => true⟩
def Src.lc (l n : Nat) : Src := ⟨fun st i => match st.get l with | some (.lst ys) => ys[i]? | _ => none, n, fun st => match st.get l with | some (.lst ys) => ys.length == n | _ => false⟩
section
variable (X : Cx) (T : Tabs) (W : WX)
def Wk (w : Wo) (H : Hp) (J : It) (s : Src) : Prop := ∀ w1 H1 st1, LeR w H w1 H1 → Wr (Cx.g X T) w1 st1 H1 →
  (∀ i x, i < s.len → s.get st1 i = some x → J.go i H1 ∧ ∀ v H2, J.yld i H1 v H2 → Same H1 H2 ∧ Rep (Cx.g X T) w1 H2 v x) ∧ (s.fin st1 = true → J.stop s.len H1)
def PostI (w : Wo) (σ : L2.St) (H : Hp) (R : It → Hp → Prop) : Eg.R Src → Prop
  | .ok s st => ∀ w' J H', Le w H w' H' → Wr (Cx.g X T) w' st H' → Wk X T w' H' J s → R J H'
  | .exc e st => ∀ w' cls d H', Le w H w' H' → Wr (Cx.g X T) w' st H' → ExR (Cx.g X T) w' H' cls d e → W cls d σ H'
  | .bad => False
structure RunI (f : Fr → M Src) (w : Wo) (st : Store) (ρ : Fr) (σ : L2.St) (H : Hp) (R : It → Hp → Prop) : Prop where
  wr : Wr (Cx.g X T) w st H
  fr : FrR (Cx.g X T) w H σ ρ
  post : PostI X T W w σ H R (f ρ st)
def tI (f : Fr → M Src) : TI := fun σ H R => ∃ w st ρ, RunI X T W f w st ρ σ H R
def PPI (tg e : Expr) (f : Fr → M Src) : Prop := PI X tg e (tI X T W f)
end
section
variable {X : Cx} {T : Tabs} {W : WX} {w w' : Wo} {H H' : Hp} {σ : L2.St} {st : Store} {ρ : Fr} {D : Ends}
theorem PostI.mono (e : Le w H w' H') {R : It → Hp → Prop} {r : Eg.R Src} (h : PostI X T W w σ H R r) : PostI X T W w' σ H' R r := by
  cases r with
  | ok x st => exact fun w2 v H2 l => h w2 v H2 (e.trans l)
  | exc x st => exact fun w2 c d H2 l => h w2 c d H2 (e.trans l)
  | bad => exact h
theorem RunI.eE {f : Fr → M PV} {k : PV → Fr → M Src} {R : It → Hp → Prop} {Q' : VK} (h : RunI X T W (fun ρ => f ρ >>= fun x => k x ρ) w st ρ σ H R)
    (step : ∀ w1 st1 x v H1, Le w H w1 H1 → Rep (Cx.g X T) w1 H1 v x → RunI X T W (k x) w1 st1 ρ σ H1 R → Q' v H1) : tE X T W f σ H Q' := by
  refine ⟨w, st, ρ, h.wr, h.fr, ?_⟩
  have p := h.post
  cases e : f ρ st with
  | ok x st1 => rw [M.bind_ok e] at p; exact fun w1 v H1 l wr r => step w1 st1 x v H1 l r ⟨wr, h.fr.mono l, p.mono l⟩
  | exc x st1 => rw [M.bind_exc e] at p; exact p
  | bad => rw [M.bind_bad e] at p; exact p
theorem RunI.aE {f : Fr → M (List PV)} {k : List PV → Fr → M Src} {R : It → Hp → Prop} {Q' : List V → Hp → Prop} (h : RunI X T W (fun ρ => f ρ >>= fun x => k x ρ) w st ρ σ H R)
    (step : ∀ w1 st1 x v H1, Le w H w1 H1 → RepL (Cx.g X T) w1 H1 v x → RunI X T W (k x) w1 st1 ρ σ H1 R → Q' v H1) : tA X T W f σ H Q' := by
  refine ⟨w, st, ρ, h.wr, h.fr, ?_⟩
  have p := h.post
  cases e : f ρ st with
  | ok x st1 => rw [M.bind_ok e] at p; exact fun w1 v H1 l wr r => step w1 st1 x v H1 l r ⟨wr, h.fr.mono l, p.mono l⟩
  | exc x st1 => rw [M.bind_exc e] at p; exact p
  | bad => rw [M.bind_bad e] at p; exact p
theorem RunI.ret {f : Fr → M Src} {R : It → Hp → Prop} (h : RunI X T W f w st ρ σ H R) {x : Src} (e : f ρ st = .ok x st) {J : It} (k : Wk X T w H J x) : R J H := by
  have p := h.post
  rw [e] at p
  exact p w J H (Le.refl _ _) h.wr k
theorem RunI.no {f : Fr → M Src} {R : It → Hp → Prop} (h : RunI X T W f w st ρ σ H R) (e : f ρ st = .bad) : False := by
  have p := h.post
  rw [e] at p
  exact p

/-! ### for -/
def forGo (g : PV → Fr → M Fr) (body : S) (s : Src) : Nat → Nat → Fr → Store → RS
  | 0, _, ρ, st => if s.fin st = true then .nx ρ st else .bad
  | k + 1, i, ρ, st => match s.get st i with
    | some x => match g x ρ st with
      | .ok ρ1 st1 => match body ρ1 st1 with
        | .nx ρ2 st2 => forGo g body s k (i + 1) ρ2 st2
        | .ct ρ2 st2 => forGo g body s k (i + 1) ρ2 st2
        | .bk ρ2 st2 => .nx ρ2 st2
        | r => r
      | _ => .bad
    | none => .bad
def sFor (fi : Fr → M Src) (g : PV → Fr → M Fr) (body : S) : S := fun ρ => sE (fi ρ) ρ fun s st => forGo g body s s.len 0 ρ st
theorem pps_for {tg iter : Expr} {body : List Stmt} {fi : Fr → M Src} {is : List Nat} {g : PV → Fr → M Fr} {fb : S} {pos : Pos} (hp : PassesOwn (model X.prog X.w) X.A X.env X.xe) (hc : X.calm = true) (hi : PPI X T W tg iter fi) (hg : PPG X T tg is g) (hb : PPSs X T W body fb)
    (hs : ∀ x, foldedSetIterable iter X.env x = pure x := by intro _; rfl) : PPS X T W (.For tg iter body [] pos) (sFor fi g fb) := by
  refine ⟨fun pins sh σ H D I ⟨w, st, ρ, h⟩ => (ps_for hp hc hi hg hb hs).run pins sh σ H D I ⟨w, st, ρ, h.wr, h.fr, ?_⟩⟩
  have p := h.post
  unfold sFor sE at p
  cases e : fi ρ st with
  | exc x st1 => rw [e] at p; exact fun w1 c d H1 l wr r => p w1 c d σ H1 l wr (h.fr.mono l) r
  | bad => rw [e] at p; exact p
  | ok s st1 =>
    rw [e] at p
    intro w0 J H0 l0 wr0 wk
    refine ⟨fun i m σ H => i + m = s.len ∧ ∃ w st ρ, Le w0 H0 w H ∧ Wr (Cx.g X T) w st H ∧ FrR (Cx.g X T) w H σ ρ ∧ PostS X T W w H D (forGo g fb s m i ρ st), ⟨s.len, by omega, w0, st1, ρ, Le.refl _ _, wr0, h.fr.mono l0, p.mono l0⟩, ?_⟩
    rintro i m σ H ⟨him, w, st, ρ, l, wr, fr, p⟩
    obtain ⟨k1, k2⟩ := wk w H st l.r wr
    cases m with
    | zero =>
      have ei : i = s.len := by omega
      subst ei
      unfold forGo at p
      by_cases hf : s.fin st = true
      · rw [if_pos hf] at p
        exact .inl ⟨k2 hf, p w σ H (Le.refl _ _) wr fr⟩
      · rw [if_neg hf] at p; exact p.elim
    | succ m =>
      unfold forGo at p
      cases q : s.get st i with
      | none => rw [q] at p; exact p.elim
      | some x =>
        rw [q] at p
        dsimp only at p
        obtain ⟨go, yl⟩ := k1 i x (by omega) q
        refine .inr ⟨go, fun σ' H' => (i + 1) + m = s.len ∧ ∃ w st ρ, Le w0 H0 w H' ∧ Wr (Cx.g X T) w st H' ∧ FrR (Cx.g X T) w H' σ' ρ ∧ PostS X T W w H' D (forGo g fb s m (i + 1) ρ st), fun σ' H' z => ⟨m, by omega, z⟩, fun v H2 y => ?_⟩
        obtain ⟨sm, rv⟩ := yl v H2 y
        cases q2 : g x ρ st with
        | exc _ _ => rw [q2] at p; exact p.elim
        | bad => rw [q2] at p; exact p.elim
        | ok ρ1 st1 =>
          rw [q2] at p
          dsimp only at p
          have l2 : Le w H w H2 := Le.same sm
          refine ⟨w, st, ρ, x, wr.same sm, fr.mono l2, rv, ρ1, st1, q2, fun w3 σ3 H3 l3 wr3 fr3 _ => ⟨w3, st1, ρ1, wr3, fr3, ?_⟩⟩
          have l23 := l2.trans l3
          cases q3 : fb ρ1 st1 with
          | nx ρ2 st2 =>
            rw [q3] at p
            exact fun w4 σ4 H4 l4 wr4 fr4 => ⟨by omega, w4, st2, ρ2, (l.trans l23).trans l4, wr4, fr4, (p.mono l23).mono l4⟩
          | ct ρ2 st2 =>
            rw [q3] at p
            exact fun w4 σ4 H4 l4 wr4 fr4 => ⟨by omega, w4, st2, ρ2, (l.trans l23).trans l4, wr4, fr4, (p.mono l23).mono l4⟩
          | bk ρ2 st2 => rw [q3] at p; exact fun w4 σ4 H4 l4 wr4 fr4 => p w4 σ4 H4 (l23.trans l4) wr4 fr4
          | rt y st2 => rw [q3] at p; exact p.mono l23
          | exc y ρ2 st2 => rw [q3] at p; exact p.mono l23
          | bad => rw [q3] at p; exact p

/-! ### while, by fuel -/
def whGo (gc : Fr → M Bool) (body : S) : Nat → Fr → Store → RS
  | 0, _, _ => .bad
  | k + 1, ρ, st => match gc ρ st with
    | .ok true st1 => match body ρ st1 with
      | .nx ρ2 st2 => whGo gc body k ρ2 st2
      | .ct ρ2 st2 => whGo gc body k ρ2 st2
      | .bk ρ2 st2 => .nx ρ2 st2
      | r => r
    | .ok false st1 => .nx ρ st1
    | .exc e st1 => .exc e ρ st1
    | .bad => .bad
def sWhile (n : Nat) (gc : Fr → M Bool) (body : S) : S := fun ρ st => whGo gc body n ρ st
theorem pps_while (n : Nat) {c : Expr} {body : List Stmt} {gc : Fr → M Bool} {fb : S} {pos : Pos} (hp : PassesOwn (model X.prog X.w) X.A X.env X.xe) (hc : PPT X T W c gc) (hb : PPSs X T W body fb) : PPS X T W (.While c body [] pos) (sWhile n gc fb) := by
  refine ⟨fun pins sh σ H D I ⟨w, st, ρ, h⟩ => (ps_while hp hc hb).run pins sh σ H D I ?_⟩
  refine ⟨fun m σ H => ∃ w st ρ, Wr (Cx.g X T) w st H ∧ FrR (Cx.g X T) w H σ ρ ∧ PostS X T W w H D (whGo gc fb m ρ st), ⟨n, w, st, ρ, h.wr, h.fr, h.post⟩, ?_⟩
  rintro m σ H ⟨w, st, ρ, wr, fr, p⟩
  cases m with
  | zero => exact p.elim
  | succ m =>
    unfold whGo at p
    refine ⟨w, st, ρ, wr, fr, ?_⟩
    cases q : gc ρ st with
    | exc x st1 => rw [q] at p; exact fun w1 c d H1 l wr r => p w1 c d σ H1 l wr (fr.mono l) r
    | bad => rw [q] at p; exact p
    | ok b st1 =>
      rw [q] at p
      intro w1 H1 l1 wr1
      cases b with
      | false => exact iteF (p w1 σ H1 l1 wr1 (fr.mono l1))
      | true =>
        refine iteT ⟨fun σ' H' => ∃ w st ρ, Wr (Cx.g X T) w st H' ∧ FrR (Cx.g X T) w H' σ' ρ ∧ PostS X T W w H' D (whGo gc fb m ρ st), fun σ' H' z => ⟨m, by omega, z⟩, w1, st1, ρ, wr1, fr.mono l1, ?_⟩
        dsimp only at p
        cases q3 : fb ρ st1 with
        | nx ρ2 st2 => rw [q3] at p; exact fun w4 σ4 H4 l4 wr4 fr4 => ⟨w4, st2, ρ2, wr4, fr4, p.mono (l1.trans l4)⟩
        | ct ρ2 st2 => rw [q3] at p; exact fun w4 σ4 H4 l4 wr4 fr4 => ⟨w4, st2, ρ2, wr4, fr4, p.mono (l1.trans l4)⟩
        | bk ρ2 st2 => rw [q3] at p; exact fun w4 σ4 H4 l4 wr4 fr4 => p w4 σ4 H4 (l1.trans l4) wr4 fr4
        | rt y st2 => rw [q3] at p; exact p.mono l1
        | exc y ρ2 st2 => rw [q3] at p; exact p.mono l1
        | bad => rw [q3] at p; exact p
end
end Eg

/-! E7: list comprehensions; sources of loops. -/
namespace Eg
open PySem PySem.Spec PyProof.Rows L2
/-- in a comprehension's block nothing is raised -/
abbrev W0 : WX := fun _ _ _ _ => False
def wipeF (ρ : Fr) : List Nat → Fr
  | [] => ρ
  | v :: vs => (wipeF ρ vs).set v none
theorem FrR.wipe {G : Cfg} {w : Wo} {H : Hp} {σ : L2.St} {ρ : Fr} (h : FrR G w H σ ρ) : ∀ vs : List Nat, FrR G w H (L2.wipe σ vs) (wipeF ρ vs)
  | [] => h
  | v :: vs => (FrR.wipe h vs).wipe1 v
def lcGo (g : PV → Fr → M Fr) (ft : Fr → M Bool) (fe : Fr → M PV) (s : Src) (ρ : Fr) : Nat → Nat → Store → R (List PV)
  | 0, _, st => if s.fin st = true then .ok [] st else .bad
  | k + 1, i, st => match s.get st i with
    | some x => match g x ρ st with
      | .ok ρ1 st1 => match ft ρ1 st1 with
        | .ok true st2 => match fe ρ1 st2 with
          | .ok y st3 => match lcGo g ft fe s ρ k (i + 1) st3 with
            | .ok ys st4 => .ok (y :: ys) st4
            | _ => .bad
          | _ => .bad
        | .ok false st2 => lcGo g ft fe s ρ k (i + 1) st2
        | _ => .bad
      | _ => .bad
    | none => .bad
theorem lcGo_noexc {g : PV → Fr → M Fr} {ft : Fr → M Bool} {fe : Fr → M PV} {s : Src} {ρ : Fr} {e : Exn} {st' : Store} : ∀ (k i : Nat) {st : Store}, lcGo g ft fe s ρ k i st ≠ .exc e st'
  | 0, i, st => by unfold lcGo; split <;> intro h <;> cases h
  | k + 1, i, st => by
    unfold lcGo
    split
    · split
      · split
        · split
          · split <;> intro h <;> cases h
          · intro h; cases h
        · exact lcGo_noexc k (i + 1)
        · intro h; cases h
      · intro h; cases h
    · intro h; cases h
def eLc (k : Bool) (vs : List Nat) (fi : Fr → M Src) (g : PV → Fr → M Fr) (ft : Fr → M Bool) (fe : Fr → M PV) : Fr → M PV := fun ρ => fi ρ >>= fun s =>
  if s.len ≤ sizeLine then (fun st => lcGo g ft fe s (wipeF ρ vs) s.len 0 st) >>= fun ys => nw k (.lst ys) else M.bad
def Wo.hide (w : Wo) (p : Addr) : Wo := ⟨fun a => w.D a ∨ a = p, w.η⟩
def Wo.show (w : Wo) (p : Addr) : Wo := ⟨fun a => w.D a ∧ a ≠ p, w.η⟩
section
variable {X : Cx} {T : Tabs} {W : WX}
/-- the state within a comprehension's block: the list at P so far -/
structure InB (X : Cx) (T : Tabs) (w0 : Wo) (H0 : Hp) (P : Addr) (w : Wo) (st : Store) (H : Hp) (acc : List PV) : Prop where
  le : Le w0 H0 w H
  wr : Wr (Cx.g X T) w st H
  hid : w.D P
  nl : ∀ l, w.η l ≠ some P
  at_ : ∃ vs, H P = some (.lst vs) ∧ RepL (Cx.g X T) w H vs acc
theorem InB.step {w0 : Wo} {H0 : Hp} {P : Addr} {w w' : Wo} {st st' : Store} {H H' : Hp} {acc : List PV} (h : InB X T w0 H0 P w st H acc) (l : Le w H w' H') (wr : Wr (Cx.g X T) w' st' H') : InB X T w0 H0 P w' st' H' acc := by
  obtain ⟨vs, h1, h2⟩ := h.at_
  have k := (l.keep P _ (.inr h.nl) (.inl h1)).pl rfl
  refine ⟨h.le.trans l, wr, l.hid P h.hid (ne_some h1) h.nl, fun j z => ?_, vs, k, h2.mono l⟩
  rcases l.ran j P z with z | z
  · exact h.nl j z
  · rw [h1] at z; cases z
/-- the hidden list changes: all else stays -/
theorem LeR.hidden {w : Wo} {H : Hp} {P : Addr} {o' : HO} (hd : w.D P) : LeR w H w (upd H P o') where
  loc _ _ h := h
  fix _ h _ := h
  keep a o d k := by
    have e : a ≠ P := fun z => d (z ▸ hd)
    exact k.imp fun u q => by rw [upd_ne e]; exact q
theorem Wr.hidden {G : Cfg} {w : Wo} {st : Store} {H : Hp} {P : Addr} {o' : HO} (wr : Wr G w st H) (hd : w.D P) (nl : ∀ l, w.η l ≠ some P) (hn : nice o' = true := by rfl) : Wr G w st (upd H P o') where
  cell l c h := by
    obtain ⟨a, h1, h2⟩ := wr.cell l c h
    exact ⟨a, h1, h2.mr (LeR.hidden hd) (wr.ran l a h1).1 (fun z => z) fun _ => upd_ne fun z => nl l (z ▸ h1)⟩
  inj := wr.inj
  trk a h := by
    by_cases e : a = P
    · subst e; rw [upd_same]; simp
    · rw [upd_ne e]; exact wr.trk a h
  ran l a h := by
    refine ⟨?_, (wr.ran l a h).2⟩
    have e : a ≠ P := fun z => nl l (by rw [← z]; exact h)
    rw [upd_ne e]
    exact (wr.ran l a h).1
  tab := wr.tab.mr (LeR.hidden hd) fun a ps d q => by
    have e : a ≠ P := fun z => d (z ▸ hd)
    rw [upd_ne e]; exact q
  nic a u d e := by
    by_cases z : a = P
    · subst z; rw [upd_same] at e; cases e; exact hn
    · rw [upd_ne z] at e; exact wr.nic a u d e
theorem nic_start {G : Cfg} {w : Wo} {st : Store} {H : Hp} {P : Addr} {o : HO} (wr : Wr G w st H) (hn : nice o = true) : ∀ a u, (w.hide P).D a → upd H P o a = some u → nice u = true := fun a u d e => by
  by_cases z : a = P
  · subst z; rw [upd_same] at e; cases e; exact hn
  · rw [upd_ne z] at e
    rcases d with d | d
    · exact wr.nic a u d e
    · exact absurd d z
theorem InB.push {w0 : Wo} {H0 : Hp} {P : Addr} {w : Wo} {st : Store} {H : Hp} {acc : List PV} {vs : List V} {v : V} {x : PV} (h : InB X T w0 H0 P w st H acc) (h0 : H0 P = none) (hv : H P = some (.lst vs)) (r : Rep (Cx.g X T) w H v x) : InB X T w0 H0 P w st (upd H P (.lst (vs ++ [v]))) (acc ++ [x]) := by
  obtain ⟨vs', h1, h2⟩ := h.at_
  rw [hv] at h1; cases h1
  refine ⟨⟨h.le.loc, h.le.ran, h.le.fix, fun a o d k => ?_, fun a n => ?_, h.le.hid, fun a o d k q => ?_⟩, h.wr.hidden h.hid h.nl, h.hid, h.nl, _, upd_same, ?_⟩
  · have e : a ≠ P := fun z => k.ne (z ▸ h0)
    exact (h.le.keep a o d k).imp fun u q => by rw [upd_ne e]; exact q
  · have e : a ≠ P := fun z => n (z ▸ h0)
    rw [upd_ne e]
    exact h.le.dom a n
  · have e : a ≠ P := fun z => by rw [z, h0] at q; cases q
    rw [upd_ne e]
    exact h.le.ex a o d k q
  · exact (h2.mr (LeR.hidden h.hid)).append (.one (r.mr (LeR.hidden h.hid)))
theorem InB.start {w0 : Wo} {st : Store} {H0 : Hp} {P : Addr} (wr : Wr (Cx.g X T) w0 st H0) (h0 : H0 P = none) : InB X T w0 H0 P (w0.hide P) st (upd H0 P (.lst [])) [] := by
  have le : Le w0 H0 (w0.hide P) (upd H0 P (.lst [])) := ⟨fun _ _ h => h, fun _ _ h => .inl h, fun a d n z => z.elim d fun z => n (z ▸ h0), fun a o d k => (Le.same (w := w0) (same_new h0)).keep a o d k, fun a n => (Le.same (w := w0) (same_new h0)).dom a n, fun _ d _ _ => .inl d, fun a o d k q => (Le.same (w := w0) (same_new h0)).ex a o d k q⟩
  refine ⟨le, ⟨fun l c h => ?_, wr.inj, fun a h => ?_, fun l a h => ⟨le.dom a (wr.ran l a h).1, (wr.ran l a h).2⟩, wr.tab.mr le.r fun a ps _ q => same_new h0 _ _ q, nic_start wr rfl⟩, .inr rfl, wr.nloc h0, [], upd_same, .nil⟩
  · obtain ⟨a, h1, h2⟩ := wr.cell l c h
    exact ⟨a, h1, h2.mono le (wr.ran l a h1).1 (fun z => .inl z) fun _ => upd_ne fun z => wr.nloc h0 l (z ▸ h1)⟩
  · rcases h with h | h
    · exact le.dom a (wr.trk a h)
    · subst h; rw [upd_same]; simp
/-- the list comes out, as a value -/
theorem InB.out {w0 : Wo} {H0 : Hp} {P : Addr} {w : Wo} {st : Store} {H : Hp} {acc : List PV} (h : InB X T w0 H0 P w st H acc) (h0 : H0 P = none) : Le w0 H0 (w.show P) H ∧ Wr (Cx.g X T) (w.show P) st H ∧ Rep (Cx.g X T) (w.show P) H (.ref P) (.lst acc) := by
  obtain ⟨vs, h1, h2⟩ := h.at_
  have lr : LeR w H (w.show P) H := ⟨fun _ _ h => h, fun a d _ z => d z.1, fun _ _ _ h => h⟩
  refine ⟨⟨h.le.loc, h.le.ran, fun a d n z => h.le.fix a d n z.1, h.le.keep, h.le.dom, fun a d n k => ⟨h.le.hid a d n k, fun z => n (z ▸ h0)⟩, h.le.ex⟩, ⟨fun l c e => ?_, h.wr.inj, fun a d => h.wr.trk a d.1, h.wr.ran, h.wr.tab.mr lr fun a ps _ q => q, fun a u d e => h.wr.nic a u d.1 e⟩, .lst (fun z => z.2 rfl) h1 (h2.mr lr)⟩
  obtain ⟨a, k1, k2⟩ := h.wr.cell l c e
  exact ⟨a, k1, k2.mr lr (h.wr.ran l a k1).1 (fun d => ⟨d, fun z => h.nl l (z ▸ k1)⟩) fun _ => rfl⟩
/-- the list comes out, at a new location -/
def Wo.put (w : Wo) (l : Nat) (p : Addr) : Wo := ⟨w.D, fun j => if j = l then some p else w.η j⟩
theorem InB.outL {w0 : Wo} {H0 : Hp} {P : Addr} {w : Wo} {st : Store} {H : Hp} {acc : List PV} (h : InB X T w0 H0 P w st H acc) (h0 : H0 P = none) : Le w0 H0 (w.put st.next P) H ∧ Wr (Cx.g X T) (w.put st.next P) (st.new (.lst acc)) H ∧ Rep (Cx.g X T) (w.put st.next P) H (.ref P) (.loc st.next) := by
  obtain ⟨vs, h1, h2⟩ := h.at_
  have pl : ∀ l a, w.η l = some a → (w.put st.next P).η l = some a := fun l a k => by
    show (if l = st.next then some P else w.η l) = some a
    rw [if_neg (fun z => absurd (h.wr.ran l a k).2 (by omega))]
    exact k
  have pr : ∀ l a, (w.put st.next P).η l = some a → (w.η l = some a ∧ l ≠ st.next) ∨ (a = P ∧ l = st.next) := fun l a k => by
    change (if l = st.next then some P else w.η l) = some a at k
    split at k
    · rename_i e; cases k; exact .inr ⟨rfl, e⟩
    · rename_i e; exact .inl ⟨k, e⟩
  have lr : LeR w H (w.put st.next P) H := ⟨pl, fun a d _ z => d z, fun _ _ _ h => h⟩
  refine ⟨⟨fun l a k => pl l a (h.le.loc l a k), fun l a k => ?_, h.le.fix, h.le.keep, h.le.dom, h.le.hid, h.le.ex⟩, ⟨fun l c e => ?_, fun l l' a k k' => ?_, h.wr.trk, fun l a k => ?_, h.wr.tab.mr lr fun a ps _ q => q, h.wr.nic⟩, .loc (if_pos rfl)⟩
  · rcases pr l a k with ⟨k, _⟩ | ⟨k, _⟩
    · exact h.le.ran l a k
    · subst k; exact .inr h0
  · rw [Store.get_new] at e
    by_cases z : l = st.next
    · subst z
      rw [if_pos rfl] at e
      cases e
      exact ⟨P, if_pos rfl, h.hid, vs, h1, h2.mr lr⟩
    · rw [if_neg z] at e
      obtain ⟨a, k1, k2⟩ := h.wr.cell l c e
      exact ⟨a, pl l a k1, k2.mr lr (h.wr.ran l a k1).1 (fun d => d) fun _ => rfl⟩
  · rcases pr l a k with ⟨k, _⟩ | ⟨k, e⟩
    · rcases pr l' a k' with ⟨k', _⟩ | ⟨z, _⟩
      · exact h.wr.inj l l' a k k'
      · rw [z] at k; exact absurd k (h.nl l)
    · rcases pr l' a k' with ⟨k', _⟩ | ⟨_, e'⟩
      · rw [k] at k'; exact absurd k' (h.nl l')
      · rw [e, e']
  · rcases pr l a k with ⟨k, _⟩ | ⟨k, e⟩
    · exact ⟨(h.wr.ran l a k).1, by rw [Store.new_next]; have := (h.wr.ran l a k).2; omega⟩
    · subst k; exact ⟨ne_some h1, by rw [Store.new_next]; omega⟩
variable {elt tg iter : Expr} {ifs : List Expr} {scope : Scope} {own : List (Str × Nat)} {pos : Pos}
def PPTs (X : Cx) (T : Tabs) (W : WX) (ifs : List Expr) (f : Fr → M Bool) : Prop := PTs X ifs (tT X T W f)
def fYes : Fr → M Bool := fun _ => M.pure true
theorem ppts_nil : PPTs X T W [] fYes := ⟨fun pins s σ H Q I ⟨w, st, ρ, h⟩ => pts_nil.run pins s σ H Q I (h.ret rfl (Le.refl _ _) h.wr)⟩
theorem ppts_one {c : Expr} {f : Fr → M Bool} (h : PPT X T W c f) : PPTs X T W [c] f := pts_one h
theorem pp_lc (k : Bool) {fi : Fr → M Src} {is : List Nat} {g : PV → Fr → M Fr} {ft : Fr → M Bool} {fe : Fr → M PV} (hc : X.calm = true) (hN : X.N.Nodup) (hi : PPI X T W tg iter fi) (ok : BlkOk X.N X.env.scope scope own) (his : ∀ i ∈ is, i ∈ own.map (·.2))
    (hg : ∀ (s : Shared) (H : Hp) (C : Addr) (cl : List (Str × Addr)) (fp : List Addr), PPG (X.blk s H scope (compEnvC scope cl C X.env) fp) T tg is g) (ht : ∀ (s : Shared) (H : Hp) (C : Addr) (cl : List (Str × Addr)) (fp : List Addr), PPTs (X.blk s H scope (compEnvC scope cl C X.env) fp) T W0 ifs ft)
    (he : ∀ (s : Shared) (H : Hp) (C : Addr) (cl : List (Str × Addr)) (fp : List Addr), PP (X.blk s H scope (compEnvC scope cl C X.env) fp) T W0 elt fe) (hs : ∀ x, foldedSetIterable iter X.env x = pure x := by intro _; rfl) :
    PP X T W (.ListComp elt [⟨tg, iter, ifs, 0⟩] scope pos) (eLc k (own.map (·.2)) fi g ft fe) := by
  have ht' : ∀ (s : Shared) (H : Hp) (C : Addr) (cl : List (Str × Addr)) (fp : List Addr), PTs (X.blk s H scope (compEnvC scope cl C X.env) fp) ifs (tT X T W0 ft) := fun s H C cl fp =>
    ⟨fun pins s1 σ H1 Q I ⟨w, st, ρ, h⟩ => (ht s H C cl fp).run pins s1 σ H1 Q I ⟨w, st, ρ, h.wr, h.fr, h.post⟩⟩
  have he' : ∀ (s : Shared) (H : Hp) (C : Addr) (cl : List (Str × Addr)) (fp : List Addr), PE (X.blk s H scope (compEnvC scope cl C X.env) fp) elt (tE X T W0 fe) := fun s H C cl fp =>
    ⟨fun pins s1 σ H1 Q I ⟨w, st, ρ, h⟩ => (he s H C cl fp).run pins s1 σ H1 Q I ⟨w, st, ρ, h.wr, h.fr, h.post⟩⟩
  refine ⟨fun pins sh σ H Q I ⟨w, st, ρ, h⟩ => (pe_lc (g := tG X T is g) (tt := tT X T W0 ft) (te := tE X T W0 fe) hc hN hi ok hg ht' he' hs).run pins sh σ H Q I ⟨w, st, ρ, h.wr, h.fr, ?_⟩⟩
  have p := h.post
  unfold eLc at p
  cases e : fi ρ st with
  | exc x st1 => rw [M.bind_exc e] at p; exact p
  | bad => rw [M.bind_bad e] at p; exact p
  | ok s st1 =>
    rw [M.bind_ok e] at p
    intro w0 J H0 l0 wr0 wk P hP
    replace p := p.mono l0
    have fr0 := h.fr.mono l0
    by_cases hl : s.len ≤ sizeLine
    · rw [if_pos hl] at p
      -- what is left to be done, with the list so far
      let Fin : List PV → Wo → Hp → R (List PV) → Prop := fun acc w H r => match r with
        | .ok ys st2 => ∀ w2 H2, InB X T w0 H0 P w2 st2 H2 (acc ++ ys) → Q (.ref P) H2
        | _ => False
      have start : Fin [] w0 H0 (lcGo g ft fe s (wipeF ρ (own.map (·.2))) s.len 0 st1) := by
        cases q : lcGo g ft fe s (wipeF ρ (own.map (·.2))) s.len 0 st1 with
        | ok ys st2 =>
          have q' : (fun st => lcGo g ft fe s (wipeF ρ (own.map (·.2))) s.len 0 st) st1 = .ok ys st2 := q
          rw [M.bind_ok q'] at p
          intro w2 H2 b
          cases k with
          | false =>
            obtain ⟨o1, o2, o3⟩ := b.out hP
            exact p _ _ _ o1 o2 o3
          | true =>
            obtain ⟨o1, o2, o3⟩ := b.outL hP
            exact p _ _ _ o1 o2 o3
        | exc _ _ =>
          exact absurd q (lcGo_noexc _ _)
        | bad =>
          have q' : (fun st => lcGo g ft fe s (wipeF ρ (own.map (·.2))) s.len 0 st) st1 = .bad := q
          rw [M.bind_bad q'] at p
          exact p
      refine ⟨fun i m H => i + m = s.len ∧ ∃ w st acc, acc.length ≤ i ∧ InB X T w0 H0 P w st H acc ∧ Fin acc w H (lcGo g ft fe s (wipeF ρ (own.map (·.2))) m i st), ⟨s.len, by omega, _, st1, [], Nat.le_refl _, InB.start wr0 hP, start⟩, ?_⟩
      rintro i m H ⟨him, w, st, acc, hac, b, f⟩
      obtain ⟨k1, k2⟩ := wk w H st b.le.r b.wr
      cases m with
      | zero =>
        have ei : i = s.len := by omega
        subst ei
        unfold lcGo at f
        by_cases hf : s.fin st = true
        · rw [if_pos hf] at f
          refine .inl ⟨k2 hf, ?_⟩
          have z := f w H (by rw [List.append_nil]; exact b)
          exact z
        · rw [if_neg hf] at f; exact f.elim
      | succ m =>
        unfold lcGo at f
        cases q : s.get st i with
        | none => rw [q] at f; exact f.elim
        | some x =>
          rw [q] at f
          dsimp only at f
          obtain ⟨go, yl⟩ := k1 i x (by omega) q
          refine .inr ⟨go, fun H' => (i + 1) + m = s.len ∧ ∃ w st acc, acc.length ≤ i + 1 ∧ InB X T w0 H0 P w st H' acc ∧ Fin acc w H' (lcGo g ft fe s (wipeF ρ (own.map (·.2))) m (i + 1) st), fun H' z => ⟨m, by omega, z⟩, fun v H2 y => ?_⟩
          obtain ⟨sm, rv⟩ := yl v H2 y
          cases q2 : g x (wipeF ρ (own.map (·.2))) st with
          | exc _ _ => rw [q2] at f; exact f.elim
          | bad => rw [q2] at f; exact f.elim
          | ok ρ1 st1 =>
            rw [q2] at f
            dsimp only at f
            have l2 : Le w H w H2 := Le.same sm
            have b2 : InB X T w0 H0 P w st H2 acc := b.step l2 (b.wr.same sm)
            refine ⟨w, st, _, x, b2.wr, (fr0.wipe _).mono b2.le, rv, ρ1, st1, q2, fun w3 σ3 H3 l3 wr3 fr3 ag => ⟨ag.wipe his |>.trans ?_, ?_⟩⟩
            · -- wiped twice
              refine List.ext_getElem? fun j => ?_
              rw [wipe_get (L2.wipe σ _), L2.wipe_length, wipe_get]
              by_cases hj : j ∈ own.map (·.2) ∧ j < σ.length
              · simp only [if_pos hj]
              · simp only [if_neg hj]
            · have b3 := b2.step l3 wr3
              cases q3 : ft ρ1 st1 with
              | exc _ _ => rw [q3] at f; exact f.elim
              | bad => rw [q3] at f; exact f.elim
              | ok c st2 =>
                rw [q3] at f
                refine ⟨w3, st1, ρ1, wr3, fr3, ?_⟩
                show PostB _ _ _ _ _ _ _ (ft ρ1 st1)
                rw [q3]
                intro w4 H4 l4 wr4
                have b4 := b3.step l4 wr4
                cases c with
                | false =>
                  refine iteF ⟨by omega, w4, st2, acc, by omega, b4, f⟩
                | true =>
                  dsimp only at f
                  refine iteT ?_
                  cases q5 : fe ρ1 st2 with
                  | exc _ _ => rw [q5] at f; exact f.elim
                  | bad => rw [q5] at f; exact f.elim
                  | ok y st3 =>
                    rw [q5] at f
                    dsimp only at f
                    refine ⟨w4, st2, ρ1, wr4, fr3.mono l4, ?_⟩
                    show PostE _ _ _ _ _ _ _ (fe ρ1 st2)
                    rw [q5]
                    intro w5 u H5 l5 wr5 ru
                    have b5 := b4.step l5 wr5
                    obtain ⟨vs5, hv5, rl5⟩ := b5.at_
                    refine ⟨vs5, hv5, by rw [rl5.length]; omega, by omega, w5, st3, acc ++ [y], by simp; omega, b5.push hP hv5 ru, ?_⟩
                    cases q6 : lcGo g ft fe s (wipeF ρ (own.map (·.2))) m (i + 1) st3 with
                    | ok ys st4 =>
                      rw [q6] at f
                      intro w6 H6 b6
                      exact f w6 H6 (by simpa using b6)
                    | exc _ _ => rw [q6] at f; exact f.elim
                    | bad => rw [q6] at f; exact f.elim
    · rw [if_neg hl] at p
      exact p.elim
end
end Eg

/-! E8: sources of loops: values, ranges, zip. -/
namespace Eg
open PySem PySem.Spec PyProof.Rows L2
section
variable {X : Cx} {T : Tabs} {W : WX} {tg e e' : Expr} {fe fe' : Fr → M PV} {fr : Fr → M (List PV)} {p pos : Pos}
/-- what is walked by iter(v) -/
def ItR (X : Cx) (tg : Expr) (r : V → Hp → (It → Hp → Prop) → Prop) : Prop :=
  ∀ (pins : List (Addr × Obj)) (s : Shared) (σ : L2.St) (H : Hp) (x : V) (v : Value) (R : It → Hp → Prop), L2.Inv X pins σ H s → RelV x v → r x H R → wpAny (model X.prog X.w) X.A (pyIter v) (PIE X pins σ tg R) X.xe s
theorem itr_list : ItR X tg (fun x H R => ∃ a xs, x = .ref a ∧ SqL X.K H a xs ∧ R (Itl X.K a) H) := by
  intro pins s σ H x v R I rx h
  obtain ⟨a, xs, rfl, hq, q⟩ := h
  cases rx
  obtain ⟨its, rv, p, hz⟩ := I.list hq
  exact wpAny_pyIter_list p.isList (pi_one (tk := s.toks) I _ (turn_list a _) ⟨_, Heap.get?_push_size _ rfl, rfl, rfl⟩ q)
theorem itr_tup : ItR X tg (fun x H R => ∃ a xs, x = .ref a ∧ SqT X.K H a xs ∧ R (Itt X.K a) H) := by
  intro pins s σ H x v R I rx h
  obtain ⟨a, xs, rfl, hq, q⟩ := h
  cases rx
  obtain ⟨its, rv, p, hz⟩ := I.tuple hq
  exact wpAny_pyIter_tuple (show s.heap.IsTuple a its.toArray from p) (pi_one (tk := s.toks) I _ (turn_tuple a _) ⟨_, Heap.get?_push_size _ rfl, rfl, rfl⟩ q)
theorem itr_str : ItR X tg (fun x H R => ∃ z, x = .str z ∧ R (Its z) H) := by
  intro pins s σ H x v R I rx h
  obtain ⟨z, rfl, q⟩ := h
  obtain ⟨t, rfl⟩ := rx
  cases ha : z.cps.all (· < 128)
  · exact wpAny_pyIter_wide ha (pi_one (tk := s.toks) I _ (turn_str _ z t "str_iterator" (.inr rfl)) ⟨_, Heap.get?_push_size _ rfl, rfl, rfl⟩ q)
  · exact wpAny_pyIter_ascii ha (pi_one (tk := s.toks) I _ (turn_str _ z t "str_ascii_iterator" (.inl rfl)) ⟨_, Heap.get?_push_size _ rfl, rfl, rfl⟩ q)
/-- the source that a value is -/
def srcOf (x : PV) : M Src := fun st => match x with
  | .lst xs => .ok (.fz xs) st
  | .tup xs => .ok (.fz xs) st
  | .str z => .ok (.fz (z.map fun c => .str [c])) st
  | .scr ns => .ok (.fz (ns.map .int)) st
  | .loc l => match st.get l with
    | some (.lst ys) => .ok (.lc l ys.length) st
    | _ => .bad
  | _ => .bad
def iVal (fe : Fr → M PV) : Fr → M Src := fun ρ => fe ρ >>= fun x => srcOf x
theorem wk_list {w : Wo} {H : Hp} {a : Addr} {vs : List V} {xs : List PV} (d : ¬ w.D a) (h : H a = some (.lst vs)) (r : RepL (Cx.g X T) w H vs xs) : Wk X T w H (Itl X.K a) (.fz xs) := by
  intro w1 H1 st1 l wr
  have h1 : SqL X.K H1 a vs := .inl (.inl (l.exact d h rfl))
  have r1 := r.mr l
  refine ⟨fun i x hi e => ?_, fun _ => ⟨vs, h1, by rw [r.length]; exact Nat.le_refl _⟩⟩
  obtain ⟨v, e1, e2⟩ := r1.get i e
  refine ⟨⟨vs, v, h1, e1⟩, fun u H2 y => ?_⟩
  obtain ⟨rfl, y⟩ := y
  have := y vs h1
  rw [e1] at this; cases this
  exact ⟨Same.refl _, e2⟩
theorem wk_scr {w : Wo} {H : Hp} {a : Addr} {ns : List Int} (h : FzL X.K w H a (ns.map V.int)) : Wk X T w H (Itl X.K a) (.fz (ns.map .int)) := by
  intro w1 H1 st1 l wr
  have h1 : SqL X.K H1 a (ns.map V.int) := (FzL.mr (G := Cx.g X T) l h).sq
  have r1 : RepL (Cx.g X T) w1 H1 (ns.map V.int) (ns.map .int) := .ints ns
  refine ⟨fun i x hi e => ?_, fun _ => ⟨_, h1, by simp [Src.fz]⟩⟩
  obtain ⟨v, e1, e2⟩ := r1.get i e
  refine ⟨⟨_, v, h1, e1⟩, fun u H2 y => ?_⟩
  obtain ⟨rfl, y⟩ := y
  have := y _ h1
  rw [e1] at this; cases this
  exact ⟨Same.refl _, e2⟩
theorem wk_tup {w : Wo} {H : Hp} {a : Addr} {vs : List V} {xs : List PV} (h : FzT X.K w H a vs) (r : RepL (Cx.g X T) w H vs xs) : Wk X T w H (Itt X.K a) (.fz xs) := by
  intro w1 H1 st1 l wr
  have h1 : SqT X.K H1 a vs := (FzT.mr (G := Cx.g X T) l h).sq
  have r1 := r.mr l
  refine ⟨fun i x hi e => ?_, fun _ => ⟨vs, h1, by rw [r.length]; exact Nat.le_refl _⟩⟩
  obtain ⟨v, e1, e2⟩ := r1.get i e
  refine ⟨⟨vs, v, h1, e1⟩, fun u H2 y => ?_⟩
  obtain ⟨rfl, y⟩ := y
  have := y vs h1
  rw [e1] at this; cases this
  exact ⟨Same.refl _, e2⟩
theorem wk_str {w : Wo} {H : Hp} {z : List Nat} (hz : z.all (fun c => decide (c < 1114112)) = true) : Wk X T w H (Its (s2 z)) (.fz (z.map fun c => .str [c])) := by
  intro w1 H1 st1 l wr
  refine ⟨fun i x hi e => ?_, fun _ => by show (s2 z).cps.size ≤ _; simp [Src.fz]⟩
  have hi' : i < z.length := by simpa [Src.fz] using hi
  refine ⟨by show i < (s2 z).cps.size; simpa using hi', fun u H2 y => ?_⟩
  obtain ⟨rfl, c, y1, rfl⟩ := y
  have y2 : z[i]? = some c := by simpa using y1
  have e' : (z.map fun c => PV.str [c])[i]? = some x := e
  rw [List.getElem?_map, y2] at e'
  cases e'
  have hc : decide (c < 1114112) = true := List.all_eq_true.mp hz c (List.mem_of_getElem? y2)
  exact ⟨Same.refl _, .str [c] (by simpa using hc)⟩
theorem wk_loc {w : Wo} {H : Hp} {a : Addr} {l n : Nat} (h : w.η l = some a) : Wk X T w H (Itl X.K a) (.lc l n) := by
  intro w1 H1 st1 le wr
  have h1 := le.loc l a h
  constructor
  · intro i x hi e
    change (match st1.get l with | some (.lst ys) => ys[i]? | _ => none) = some x at e
    cases q : st1.get l with
    | none => rw [q] at e; cases e
    | some c =>
      rw [q] at e
      cases c with
      | lst ys =>
        obtain ⟨b, k1, k2⟩ := wr.cell l _ q
        rw [h1] at k1; cases k1
        obtain ⟨_, vs, k3, k4⟩ := k2
        have hs : SqL X.K H1 a vs := .inl (.inl k3)
        obtain ⟨v, e1, e2⟩ := k4.get i e
        refine ⟨⟨vs, v, hs, e1⟩, fun u H2 y => ?_⟩
        obtain ⟨rfl, y⟩ := y
        have := y vs hs
        rw [e1] at this; cases this
        exact ⟨Same.refl _, e2⟩
      | _ => cases e
  · intro e
    change (match st1.get l with | some (.lst ys) => ys.length == n | _ => false) = true at e
    cases q : st1.get l with
    | none => rw [q] at e; cases e
    | some c =>
      rw [q] at e
      cases c with
      | lst ys =>
        obtain ⟨b, k1, k2⟩ := wr.cell l _ q
        rw [h1] at k1; cases k1
        obtain ⟨_, vs, k3, k4⟩ := k2
        exact ⟨vs, .inl (.inl k3), by rw [k4.length]; have := eq_of_beq e; show _ ≤ n; omega⟩
      | _ => cases e
theorem ppi_val (he : PP X T W e fe) : PPI X T W tg e (iVal fe) := by
  refine ⟨fun pins s σ H R I ⟨w, st, ρ, h⟩ => ?_⟩
  refine thn (he.run pins s σ H _ I (RunI.eE (k := fun x _ => srcOf x) (Q' := fun v H1 => ∃ w st x, Rep (Cx.g X T) w H1 v x ∧ RunI X T W (fun _ => srcOf x) w st ρ σ H1 R) h fun w1 st1 x v H1 l r h1 => ⟨w1, st1, x, r, h1⟩)) fun v s1 ⟨x, H1, I1, r1, w1, st1, y, ry, h1⟩ => ?_
  cases ry with
  | lst d k r => exact itr_list pins s1 σ H1 _ v R I1 r1 ⟨_, _, rfl, .inl (.inl k), h1.ret rfl (wk_list d k r)⟩
  | scr k => exact itr_list pins s1 σ H1 _ v R I1 r1 ⟨_, _, rfl, k.sq, h1.ret rfl (wk_scr k)⟩
  | tup k r => exact itr_tup pins s1 σ H1 _ v R I1 r1 ⟨_, _, rfl, k.sq, h1.ret rfl (wk_tup k r)⟩
  | str z hz => exact itr_str pins s1 σ H1 _ v R I1 r1 ⟨_, rfl, h1.ret rfl (wk_str hz)⟩
  | @loc a l k =>
    cases q : st1.get l with
    | none => exact (h1.no (by show srcOf (.loc l) st1 = _; simp [srcOf, q])).elim
    | some c =>
      cases c with
      | lst ys =>
        obtain ⟨b, k1, k2⟩ := h1.wr.cell l _ q
        rw [k] at k1; cases k1
        obtain ⟨_, vs, k3, k4⟩ := k2
        exact itr_list pins s1 σ H1 _ v R I1 r1 ⟨_, _, rfl, .inl (.inl k3), h1.ret (x := .lc l ys.length) (by show srcOf (.loc l) st1 = _; simp [srcOf, q]) (wk_loc k)⟩
      | _ => exact (h1.no (by show srcOf (.loc l) st1 = _; simp [srcOf, q])).elim
  | _ => exact (h1.no rfl).elim
/-! ### range -/
def rgL (lo : Int) (n : Nat) : List PV := (List.range n).map fun (i : Nat) => .int (lo + (i : Int))
def srcRg1 : List PV → M Src
  | [.int j] => if -(2 ^ 62) ≤ j ∧ j < 2 ^ 62 then M.pure (.fz (rgL 0 j.toNat)) else M.bad
  | _ => M.bad
def srcRg2 : List PV → M Src
  | [.int i, .int j] => if -(2 ^ 62) ≤ i ∧ i < 2 ^ 62 ∧ -(2 ^ 62) ≤ j ∧ j < 2 ^ 62 then M.pure (.fz (rgL i (j - i).toNat)) else M.bad
  | _ => M.bad
def iRg1 (fr : Fr → M (List PV)) : Fr → M Src := fun ρ => fr ρ >>= fun xs => srcRg1 xs
def iRg2 (fr : Fr → M (List PV)) : Fr → M Src := fun ρ => fr ρ >>= fun xs => srcRg2 xs
theorem wk_rg {w : Wo} {H : Hp} {lo : Int} {n : Nat} : Wk X T w H (Itr lo n) (.fz (rgL lo n)) := by
  intro w1 H1 st1 l wr
  refine ⟨fun i x hi e => ?_, fun _ => by show n ≤ (rgL lo n).length; simp [rgL]⟩
  have hi' : i < n := by simpa [Src.fz, rgL] using hi
  refine ⟨hi', fun u H2 y => ?_⟩
  obtain ⟨rfl, rfl⟩ := y
  have e' : (rgL lo n)[i]? = some x := e
  simp only [rgL, List.getElem?_map, List.getElem?_range hi', Option.map_some] at e'
  cases e'
  exact ⟨Same.refl _, .int _⟩
theorem RepL.one_inv {G : Cfg} {w : Wo} {H : Hp} {vs : List V} {x : PV} (r : RepL G w H vs [x]) : ∃ v, vs = [v] ∧ Rep G w H v x := by
  cases r with | cons a b => cases b; exact ⟨_, rfl, a⟩
theorem RepL.two_inv {G : Cfg} {w : Wo} {H : Hp} {vs : List V} {x y : PV} (r : RepL G w H vs [x, y]) : ∃ v u, vs = [v, u] ∧ Rep G w H v x ∧ Rep G w H u y := by
  cases r with | cons a b => cases b with | cons b c => cases c; exact ⟨_, _, rfl, a, b⟩
theorem ppi_range1 (hg : Gl X "range") (hm : X.mg "range" = none) (ha : PPA X T W [e] fr) (hs : starEach [e] X.env = [(false, eval e X.env)] := by rfl) : PPI X T W tg (.Call (.Name "range" p) [e] [] pos) (iRg1 fr) := by
  refine ⟨fun pins s σ H R I ⟨w, st, ρ, h⟩ => (pi_range1 hg hm ha hs).run pins s σ H R I ?_⟩
  refine RunI.aE (k := fun xs _ => srcRg1 xs) h fun w1 st1 xs vs H1 l r h1 => ?_
  unfold srcRg1 at h1
  split at h1
  · rename_i j
    obtain ⟨v, rfl, rv⟩ := r.one_inv
    cases rv
    by_cases hj : -(2 ^ 62) ≤ j ∧ j < 2 ^ 62
    · simp only [if_pos hj] at h1
      exact ⟨j, rfl, hj.1, hj.2, h1.ret rfl wk_rg⟩
    · simp only [if_neg hj] at h1
      exact (h1.no rfl).elim
  · exact (h1.no rfl).elim
theorem ppi_range2 (hg : Gl X "range") (hm : X.mg "range" = none) (ha : PPA X T W [e, e'] fr) (hs : starEach [e, e'] X.env = [(false, eval e X.env), (false, eval e' X.env)] := by rfl) (hs2 : starEach [e'] X.env = [(false, eval e' X.env)] := by rfl) : PPI X T W tg (.Call (.Name "range" p) [e, e'] [] pos) (iRg2 fr) := by
  refine ⟨fun pins s σ H R I ⟨w, st, ρ, h⟩ => (pi_range2 hg hm ha hs hs2).run pins s σ H R I ?_⟩
  refine RunI.aE (k := fun xs _ => srcRg2 xs) h fun w1 st1 xs vs H1 l r h1 => ?_
  unfold srcRg2 at h1
  split at h1
  · rename_i i j
    obtain ⟨v, u, rfl, rv, ru⟩ := r.two_inv
    cases rv
    cases ru
    by_cases hj : -(2 ^ 62) ≤ i ∧ i < 2 ^ 62 ∧ -(2 ^ 62) ≤ j ∧ j < 2 ^ 62
    · simp only [if_pos hj] at h1
      exact ⟨i, j, rfl, hj, h1.ret rfl wk_rg⟩
    · simp only [if_neg hj] at h1
      exact (h1.no rfl).elim
  · exact (h1.no rfl).elim
/-! ### zip of two lists, of two tuples -/
def zipP : List PV → List PV → List PV
  | x :: xs, y :: ys => .set [x, y] :: zipP xs ys
  | _, _ => []
theorem zipP_len : ∀ xs ys : List PV, (zipP xs ys).length = min xs.length ys.length
  | [], _ => by simp [zipP]
  | _ :: _, [] => by simp [zipP]
  | x :: xs, y :: ys => by simp only [zipP, List.length_cons, zipP_len xs ys]; omega
theorem zipP_get : ∀ (xs ys : List PV) (i : Nat) (z : PV), (zipP xs ys)[i]? = some z → ∃ x y, xs[i]? = some x ∧ ys[i]? = some y ∧ z = .set [x, y]
  | [], _, _, _, h => by simp [zipP] at h
  | _ :: _, [], _, _, h => by simp [zipP] at h
  | x :: xs, y :: ys, 0, z, h => by simp [zipP] at h; exact ⟨x, y, rfl, rfl, h.symm⟩
  | x :: xs, y :: ys, i + 1, z, h => by
    simp only [zipP, List.getElem?_cons_succ] at h
    obtain ⟨a, b, h1, h2, h3⟩ := zipP_get xs ys i z h
    exact ⟨a, b, by simpa using h1, by simpa using h2, h3⟩
def srcZip : List PV → M Src
  | [.lst xs, .lst ys] => M.pure (.fz (zipP xs ys))
  | [.tup xs, .tup ys] => M.pure (.fz (zipP xs ys))
  | _ => M.bad
def iZip (fr : Fr → M (List PV)) : Fr → M Src := fun ρ => fr ρ >>= fun xs => srcZip xs
theorem ppi_zip {elts : List Expr} {kk : Nat} {tpos : Pos} (hg : Gl X "zip") (hm : X.mg "zip" = none) (ha : PPA X T W [e, e'] fr)
    (hs : starEach [e, e'] X.env = (false, eval e X.env) :: starEach [e'] X.env := by rfl) (hpl : (backTo pos (starEach [e'] X.env)).any (·.1) = false := by rfl) :
    PPI X T W (.Tuple elts kk tpos) (.Call (.Name "zip" p) [e, e'] [] pos) (iZip fr) := by
  refine ⟨fun pins s σ H R I ⟨w, st, ρ, h⟩ => (RZ.pi_zipA hg hm ha hs hpl).run pins s σ H R I ?_⟩
  refine RunI.aE (k := fun xs _ => srcZip xs) h fun w1 st1 xs vs H1 l r h1 => ?_
  unfold srcZip at h1
  split at h1
  · rename_i xs ys
    obtain ⟨v, u, rfl, rv, ru⟩ := r.two_inv
    cases rv with | @lst a vs _ d k q =>
    cases ru with | @lst b us _ d' k' q' =>
    refine ⟨a, b, vs, us, rfl, .inl ⟨.inl (.inl k), .inl (.inl k'), h1.ret rfl ?_⟩⟩
    intro w2 H2 st2 l2 wr2
    have s1 : SqL X.K H2 a vs := .inl (.inl (l2.exact d k rfl))
    have s2 : SqL X.K H2 b us := .inl (.inl (l2.exact d' k' rfl))
    refine ⟨fun i x hi e => ?_, fun _ => ⟨vs, us, s1, s2, ?_⟩⟩
    · obtain ⟨x', y', e1, e2, rfl⟩ := zipP_get _ _ _ _ e
      obtain ⟨v', f1, g1⟩ := (q.mr l2).get i e1
      obtain ⟨u', f2, g2⟩ := (q'.mr l2).get i e2
      refine ⟨⟨vs, us, v', u', s1, s2, f1, f2⟩, fun t H3 y => ?_⟩
      obtain ⟨T', t1, t2, rfl, n, rfl, y1, y2⟩ := y
      have z1 := y1 vs s1
      have z2 := y2 us s2
      rw [f1] at z1; cases z1
      rw [f2] at z2; cases z2
      exact ⟨same_new n, Rep.newP wr2 n (.cons g1 (.cons g2 .nil))⟩
    · have := q.length
      have := q'.length
      show _ ≤ (zipP xs ys).length ∨ _ ≤ (zipP xs ys).length
      rw [zipP_len]; omega
  · rename_i xs ys
    obtain ⟨v, u, rfl, rv, ru⟩ := r.two_inv
    cases rv with | @tup a vs _ k q =>
    cases ru with | @tup b us _ k' q' =>
    refine ⟨a, b, vs, us, rfl, .inr ⟨k.sq, k'.sq, h1.ret rfl ?_⟩⟩
    intro w2 H2 st2 l2 wr2
    have s1 : SqT X.K H2 a vs := (FzT.mr (G := Cx.g X T) l2 k).sq
    have s2 : SqT X.K H2 b us := (FzT.mr (G := Cx.g X T) l2 k').sq
    refine ⟨fun i x hi e => ?_, fun _ => ⟨vs, us, s1, s2, ?_⟩⟩
    · obtain ⟨x', y', e1, e2, rfl⟩ := zipP_get _ _ _ _ e
      obtain ⟨v', f1, g1⟩ := (q.mr l2).get i e1
      obtain ⟨u', f2, g2⟩ := (q'.mr l2).get i e2
      refine ⟨⟨vs, us, v', u', s1, s2, f1, f2⟩, fun t H3 y => ?_⟩
      obtain ⟨T', t1, t2, rfl, n, rfl, y1, y2⟩ := y
      have z1 := y1 vs s1
      have z2 := y2 us s2
      rw [f1] at z1; cases z1
      rw [f2] at z2; cases z2
      exact ⟨same_new n, Rep.newP wr2 n (.cons g1 (.cons g2 .nil))⟩
    · have := q.length
      have := q'.length
      show _ ≤ (zipP xs ys).length ∨ _ ≤ (zipP xs ys).length
      rw [zipP_len]; omega
  · exact (h1.no rfl).elim
end
end Eg

/-! E9: defs and their calls; calls of built-ins. -/
namespace Eg
open PySem PySem.Spec PyProof.Rows L2
abbrev Fn := List PV → M PV
def PostC (G : Cfg) (w : Wo) (H : Hp) (Q : VK) (E : XK) : R PV → Prop
  | .ok x st => ∀ w' v H', Le w H w' H' → Wr G w' st H' → Rep G w' H' v x → Q v H'
  | .exc e st => ∀ w' cls d H', Le w H w' H' → Wr G w' st H' → ExR G w' H' cls d e → E cls d H'
  | .bad => False
/-- the promise of a def that is worth F -/
def spF (G : Cfg) (n : Nat) (F : Fn) : Sp := fun vs H Q E => ∃ w st xs, xs.length = n ∧ Wr G w st H ∧ RepL G w H vs xs ∧ PostC G w H Q E (F xs st)
/-- as FnOk, where no repr is under way -/
structure FnG (P : Program) (w : World) (K : PySem.W.Frag) (mg : Str → Option Value) (base : Heap) (k : Nat) (f : Addr) (fd : FuncData) (ps : List Str) (sp : Sp) : Prop where
  len : ∀ vs H Q E, sp vs H Q E → vs.length = ps.length
  run : ∀ (A : Around) (outer : List Env) (s : Shared) (H : Hp) (args : Args) (us : List Value) (vs : List V) (Q : VK) (E : XK), Room k A → A.guards = some [] → Env0 P w K mg base A outer s H →
    BindsTo s fd args (ps.zip us) → Vals vs us → sp vs H Q E → codeAny (model P w) A (.call (.ref f) args) (CR (L2.CX P w) outer P w H s Q E) s
structure CalW (P : Program) (w : World) (K : PySem.W.Frag) (mg : Str → Option Value) (base : Heap) (T : Tabs) (x : Str) (n : Nat) (F : Fn) (k : Nat) : Prop where
  ex : ∃ f fd ps, FnG P w K mg base k f fd ps (spF ⟨K, P, w, T⟩ n F) ∧ mg x = some (.ref f) ∧ PySem.W.keepIn K (.ref f) = true ∧ Binds K fd ps []
/-- a body run as a def -/
def fnB (m : Nat) (f : S) : Fn := fun xs st => match f (xs.map some ++ List.replicate (m - xs.length) none) st with
  | .rt x st' => .ok x st'
  | .nx _ st' => .ok .non st'
  | .exc e _ st' => .exc e st'
  | _ => .bad
theorem FrR.start {G : Cfg} {w : Wo} {H : Hp} {vs : List V} {xs : List PV} {N : List Str} (r : RepL G w H vs xs) : FrR G w H (L2.start N vs) (xs.map some ++ List.replicate (N.length - xs.length) none) := by
  refine ⟨by simp [L2.start, r.length], fun i x h => ?_⟩
  by_cases hi : i < xs.length
  · rw [List.getElem?_append_left (by simpa using hi), List.getElem?_map] at h
    cases q : xs[i]? with
    | none => rw [q] at h; cases h
    | some y =>
      rw [q] at h
      cases h
      obtain ⟨v, h1, h2⟩ := r.get i q
      refine ⟨v, ?_, h2⟩
      unfold L2.start
      rw [List.getElem?_append_left (by simp [r.length]; exact hi), List.getElem?_map, h1]
      rfl
  · rw [List.getElem?_append_right (by simpa using hi), List.getElem?_replicate] at h
    split at h <;> cases h
/-- what stands around a body -/
structure Bd (X : Cx) (W : WX) (k : Nat) : Prop where
  calm : X.calm = true
  nd : X.N.Nodup
  room : Room k X.A
  own : PassesOwn (model X.prog X.w) X.A X.env X.xe
  tk : Takes X W
  gd : X.A.guards = some []
theorem Bd.hu {X : Cx} {W : WX} {k : Nat} (b : Bd X W k) : X.A.units + 64 < cLine := b.room.units
section
variable {P : Program} {w : World} {K : PySem.W.Frag} {mg : Str → Option Value} {base : Heap} {T : Tabs}
theorem fng_of {f : Addr} {x qual : Str} {params : Arguments} {body : List Stmt} {scope : Scope} {fd : FuncData} {dvs : List V} {kws : List (Str × V)} {N ps : List Str} {k : Nat} {sp : Sp} (FD : FunD K x qual params body scope dvs kws f fd) (sc : FnScope N ps scope)
    (len : ∀ vs H Q E, sp vs H Q E → vs.length = ps.length)
    (hbody : ∀ (cdv : Value) (A : Around) (outer : List Env) (s : Shared) (H : Hp) (vs : List V) (Q : VK) (E : XK), Bd (cxOf (L2.CX P w) P w K mg base N qual scope f cdv A outer s H E) (fun cls d _ H' => E cls d H') k → sp vs H Q E →
      ∃ t, PSs (cxOf (L2.CX P w) P w K mg base N qual scope f cdv A outer s H E) body t ∧ t { nx := fun _ H' => Q .non H', rt := Q } (L2.start N vs) H) : FnG P w K mg base (k + 1) f fd ps sp := by
  obtain ⟨oc, od, dV, kV, doc, pm, an, cdv, ct, osl, rfl, lk, hcd, _, _⟩ := FD.ex
  refine ⟨len, fun A outer s H args us vs Q E hr hgd e0 hb rv hsp => ?_⟩
  have kx : K.In s.heap := e0.mod.kin.keeps fun b o e => (e0.bs b o e).1
  have nl : s.heap.NoLimit := e0.mod.nolimit.keeps fun b o e => (e0.bs b o e).1
  refine codeAny_call_function hr.depth (kx _ _ lk) rfl sc.co sc.gen rfl (PySem.W.codeRec_of kx hcd) (hb _ _ _ _ (wpAny_newFunctionEnv_cells sc.kind (fun ⟨m, v⟩ hy => ?_) fun env he s1 y => ?_))
  · rcases sc.par m (List.of_mem_zip hy).1 with q | q
    · exact Or.inl q
    · exact Or.inr ⟨q, PySem.W.cellsFrom_some _ _ _ (Or.inl q)⟩
  · subst he
    obtain ⟨t, ht, hq⟩ := hbody cdv A outer s H vs Q E ⟨rfl, sc.nd, hr.deeper _, passes_of rfl, takes_of rfl rfl rfl rfl, hgd⟩ hsp
    have J := inv_start (CX := L2.CX P w) (mg := mg) (base := base) (E := E) sc hr.hd e0 (len _ _ _ _ hsp) rv y
    refine ⟨nl.keeps y.toInCall.keep, codeAny_func (wpAny_mono (ht.run [] s1 (L2.start N vs) H _ J hq) (fun fl s' hs => ?_) fun _ _ z => z)⟩
    cases fl with
    | ret u => obtain ⟨v, σ', H', J', r', q'⟩ := hs; exact ⟨v, H', J'.os, J'.bare, J'.base, J'.hok, r', q'⟩
    | next => obtain ⟨σ', H', J', q'⟩ := hs; exact ⟨.non, H', J'.os, J'.bare, J'.base, J'.hok, rfl, q'⟩
    | brk => obtain ⟨_, _, _, z⟩ := hs; exact z.elim
    | cont => obtain ⟨_, _, _, z⟩ := hs; exact z.elim
theorem cal_of {x qual : Str} {params : Arguments} {body : List Stmt} {scope : Scope} {f : Addr} {fd : FuncData} {N ps : List Str} {n k : Nat} {F : S} (FD : FunD K x qual params body scope [] [] f fd) (sc : FnScope N ps scope) (hn : ps.length = n) (hm : mg x = some (.ref f)) (hb : Binds K fd ps [])
    (hbody : ∀ (cdv : Value) (A : Around) (outer : List Env) (s : Shared) (H : Hp) (E : XK), Bd (cxOf (L2.CX P w) P w K mg base N qual scope f cdv A outer s H E) (fun cls d _ H' => E cls d H') k →
      PPSs (cxOf (L2.CX P w) P w K mg base N qual scope f cdv A outer s H E) T (fun cls d _ H' => E cls d H') body F) : CalW P w K mg base T x n (fnB N.length F) (k + 1) := by
  refine ⟨f, fd, ps, fng_of FD sc (fun vs H Q E ⟨_, _, xs, hl, _, r, _⟩ => by rw [r.length, hl, hn]) (fun cdv A outer s H vs Q E hB ⟨w0, st, xs, hl, wr, r, p⟩ => ?_), hm, FD.kp, hb⟩
  refine ⟨_, hbody cdv A outer s H E hB, w0, st, _, wr, FrR.start r, ?_⟩
  unfold fnB at p
  cases q : F (xs.map some ++ List.replicate (N.length - xs.length) none) st with
  | nx ρ st' => rw [q] at p; exact fun w1 σ1 H1 l wr1 _ => p w1 .non H1 l wr1 .non
  | rt y st' => rw [q] at p; exact p
  | bk _ _ => rw [q] at p; exact p.elim
  | ct _ _ => rw [q] at p; exact p.elim
  | exc e _ st' => rw [q] at p; exact fun w1 c d σ1 H1 l wr1 _ r1 => p w1 c d H1 l wr1 r1
  | bad => rw [q] at p; exact p
theorem cal_zero {x : Str} {n : Nat} {F : Fn} {f : Addr} {fd : FuncData} {params : Arguments} {body : List Stmt} {scope : Scope} {qual : Str} {ps : List Str} (FD : FunD K x qual params body scope [] [] f fd) (hm : mg x = some (.ref f)) (hb : Binds K fd ps []) (hF : ∀ xs st, F xs st = .bad) : CalW P w K mg base T x n F 0 := by
  refine ⟨f, fd, ps, ⟨fun vs H Q E ⟨_, _, xs, _, _, _, p⟩ => ?_, fun A outer s H args us vs Q E _ _ _ _ _ ⟨_, _, xs, _, _, _, p⟩ => ?_⟩, hm, FD.kp, hb⟩
  · rw [hF] at p; exact p.elim
  · rw [hF] at p; exact p.elim
theorem FnG.mono {j k : Nat} {f : Addr} {fd : FuncData} {ps : List Str} {sp : Sp} (F : FnG P w K mg base j f fd ps sp) (h : j ≤ k) : FnG P w K mg base k f fd ps sp :=
  ⟨F.len, fun A outer s H args us vs Q E hr => F.run A outer s H args us vs Q E (hr.mono h)⟩
theorem CalW.mono {x : Str} {n : Nat} {F : Fn} {k j : Nat} (c : CalW P w K mg base T x n F k) (h : k ≤ j) : CalW P w K mg base T x n F j := by
  obtain ⟨f, fd, ps, h1, h2⟩ := c.ex
  exact ⟨f, fd, ps, h1.mono h, h2⟩
end
section
variable {X : Cx} {T : Tabs} {W : WX} {a b e : Expr} {es : List Expr} {fa fb : Fr → M PV} {fr : Fr → M (List PV)} {pos p : Pos}
def eCall (n : Nat) (F : Fn) (fr : Fr → M (List PV)) : Fr → M PV := fun ρ => fr ρ >>= fun xs => if xs.length = n then F xs else M.bad
/-- the callee runs -/
theorem run_fng {k : Nat} {f : Addr} {fd : FuncData} {ps : List Str} {sp : Sp} {pins : List (Addr × Obj)} {σ : L2.St} {H : Hp} {s : Shared} {Q : VK} {us : List Value} {vs : List V} (F : FnG X.prog X.w X.K X.mg X.base k f fd ps sp) (hr : Room k X.A) (hgd : X.A.guards = some []) (hb : Binds X.K fd ps [])
    (tk : Takes X W) (I : L2.Inv X pins σ H s) (r : Vals vs us) (h : sp vs H Q (WE W σ)) : wpAny (model X.prog X.w) X.A (call (.ref f) us) (EP X pins σ Q) X.xe s := by
  have hl : us.length = ps.length := by rw [← r.length]; exact F.len _ _ _ _ h
  have hb' : BindsTo s fd ⟨us, []⟩ (ps.zip us) := by
    have z := hb s us I.kIn (by rw [List.append_nil]; exact hl)
    rw [List.append_nil] at z
    exact z
  refine wpAny_call (codeAny_mono (F.run X.A X.stack s H ⟨us, []⟩ us vs Q _ hr hgd I.env0 hb' r h) fun r s' hq => ?_)
  cases r with
  | error e => exact passAt tk σ pins H s e s' I hq
  | ok fl =>
    cases fl with
    | ret u => exact I.after hq
    | next => exact hq.elim
    | brk => exact hq.elim
    | cont => exact hq.elim
theorem pp_call {x : Str} {n k : Nat} {F : Fn} (c : CalW X.prog X.w X.K X.mg X.base T x n F k) (hr : Room k X.A) (hgd : X.A.guards = some []) (tk : Takes X W) (hg : Gl X x) (hdb : (x == ("__debug__" : Str)) = false) (ha : PPA X T W (e :: es) fr)
    (he : starEach (e :: es) X.env = (false, eval e X.env) :: starEach es X.env := by rfl) (hpl : (backTo pos (starEach es X.env)).any (·.1) = false := by rfl) : PP X T W (.Call (.Name x p) (e :: es) [] pos) (eCall n F fr) := by
  obtain ⟨f, fd, ps, h1, hm, hk, hb⟩ := c.ex
  refine ⟨fun pins s σ H Q I ⟨w, st, ρ, h⟩ => ?_⟩
  refine wpAny_Call_Name_kw (ld_glob I hg hm ?_ hdb)
  have ta : tA X T W fr σ H fun vs H1 => spF (Cx.g X T) n F vs H1 Q (WE W σ) := by
    refine RunE.aE (k := fun xs _ => if xs.length = n then F xs else M.bad) h fun w1 st1 xs vs H1 l r h1 => ?_
    by_cases hl : xs.length = n
    · simp only [if_pos hl] at h1
      exact ⟨w1, st1, xs, hl, h1.wr, r, h1.post⟩
    · simp only [if_neg hl] at h1
      exact (h1.no rfl).elim
  exact PySem.W.callWith_K (h₀ := X.base) I.ok.mod.kin hk (thn (ha.run pos pins s σ H _ I ta) fun us s1 ⟨vs, H1, I1, r, q⟩ => ⟨I1.kIn, run_fng h1 hr hgd hb tk I1 r q⟩) he hpl
theorem pp_call0 {x : Str} {k : Nat} {F : Fn} (c : CalW X.prog X.w X.K X.mg X.base T x 0 F k) (hr : Room k X.A) (hgd : X.A.guards = some []) (tk : Takes X W) (hg : Gl X x) (hdb : (x == ("__debug__" : Str)) = false) : PP X T W (.Call (.Name x p) [] [] pos) (eCall 0 F aNil) := by
  obtain ⟨f, fd, ps, h1, hm, hk, hb⟩ := c.ex
  refine ⟨fun pins s σ H Q I ⟨w, st, ρ, h⟩ => ?_⟩
  refine wpAny_Call_Name_kw (ld_glob I hg hm ?_ hdb)
  exact PySem.W.callWith_K0 I.kIn hk (run_fng (us := []) h1 hr hgd hb tk I .nil ⟨w, st, [], rfl, h.wr, .nil, h.post⟩)
/-! ### built-ins by name -/
def Call1 (X : Cx) (T : Tabs) (r : List V → Hp → VK → Prop) (g : List PV → Option PV) : Prop :=
  ∀ (w : Wo) (st : Store) (H : Hp) (vs : List V) (xs : List PV) (z : PV) (Q : VK), Wr (Cx.g X T) w st H → VwL (Cx.g X T) w H vs xs → g xs = some z → Aft X T w st H z Q → r vs H Q
where VwL (G : Cfg) (w : Wo) (H : Hp) : List V → List PV → Prop
  | [], [] => True
  | v :: vs, x :: xs => Vw G w H v x ∧ VwL G w H vs xs
  | _, _ => False
def rds : List PV → M (List PV)
  | [] => M.pure []
  | x :: xs => rd x >>= fun y => rds xs >>= fun ys => M.pure (y :: ys)
theorem rds_ok : ∀ {xs ys : List PV} {st st' : Store}, rds xs st = .ok ys st' → st' = st ∧ ∀ {G : Cfg} {w : Wo} {H : Hp} {vs : List V}, Wr G w st H → RepL G w H vs xs → Call1.VwL G w H vs ys
  | [], ys, st, st', h => by cases h; exact ⟨rfl, fun _ r => by cases r; trivial⟩
  | x :: xs, ys, st, st', h => by
    unfold rds at h
    cases q : rd x st with
    | ok y s1 =>
      rw [M.bind_ok q] at h
      obtain ⟨rfl, h1, h2⟩ := rd_ok q
      cases q2 : rds xs s1 with
      | ok zs s2 =>
        rw [M.bind_ok q2] at h
        obtain ⟨rfl, h3⟩ := rds_ok q2
        cases h
        exact ⟨rfl, fun wr r => by cases r with | cons a b => exact ⟨wr.view a h1 h2, h3 wr b⟩⟩
      | exc _ _ => rw [M.bind_exc q2] at h; cases h
      | bad => rw [M.bind_bad q2] at h; cases h
    | exc _ _ => rw [M.bind_exc q] at h; cases h
    | bad => rw [M.bind_bad q] at h; cases h
def gN1 (g : List PV → Option PV) (xs : List PV) : M PV := fun st => match rds xs st with
  | .ok ys _ => match g ys with
    | some z => .ok z st
    | none => .bad
  | _ => .bad
theorem gN1_ok {g : List PV → Option PV} {xs : List PV} {st : Store} : (∃ z ys, rds xs st = .ok ys st ∧ g ys = some z ∧ gN1 g xs st = .ok z st) ∨ gN1 g xs st = .bad := by
  unfold gN1
  cases e : rds xs st with
  | ok ys s1 =>
    obtain ⟨rfl, _⟩ := rds_ok e
    cases q : g ys with
    | some z => exact .inl ⟨z, ys, rfl, q, by simp [q]⟩
    | none => exact .inr (by simp [q])
  | exc _ _ => exact .inr rfl
  | bad => exact .inr rfl
def eB (g : List PV → Option PV) (fr : Fr → M (List PV)) : Fr → M PV := fun ρ => fr ρ >>= fun xs => gN1 g xs
theorem tB_of {r : List V → Hp → VK → Prop} {g : List PV → Option PV} (hr : Call1 X T r g) {σ : L2.St} {H : Hp} {Q : VK} (h : tE X T W (eB g fr) σ H Q) : tA X T W fr σ H fun vs H1 => r vs H1 Q := by
  obtain ⟨w, st, ρ, h⟩ := h
  refine RunE.aE (k := fun xs _ => gN1 g xs) h fun w1 st1 xs vs H1 l r1 h1 => ?_
  rcases gN1_ok (g := g) (xs := xs) (st := st1) with ⟨z, ys, q1, q2, q3⟩ | q
  · exact hr w1 st1 H1 vs ys z Q h1.wr ((rds_ok q1).2 h1.wr r1) q2 fun w' v' H' l wr r => h1.ret q3 l wr r
  · exact (h1.no q).elim
theorem pp_callB {id : String} {x : Str} {r : List V → Hp → VK → Prop} {g : List PV → Option PV} (hc : CallR X (.builtin id) r) (hr : Call1 X T r g) (hgl : Gl X x) (hm : X.mg x = none) (hv : bootBuiltins x = some (.builtin id)) (ha : PPA X T W (e :: es) fr)
    (hn : x ≠ "__name__") (hdb : (x == ("__debug__" : Str)) = false)
    (he : starEach (e :: es) X.env = (false, eval e X.env) :: starEach es X.env := by rfl) (hpl : (backTo pos (starEach es X.env)).any (·.1) = false := by rfl) : PP X T W (.Call (.Name x p) (e :: es) [] pos) (eB g fr) :=
  ⟨fun pins s σ H Q I q => (pe_callB hc hgl hm hv ha hn hdb he hpl).run pins s σ H Q I (tB_of hr q)⟩
theorem pp_callTy {Ty : String} {x : Str} {r : List V → Hp → VK → Prop} {g : List PV → Option PV} (hc : CallR X (.type Ty) r) (hr : Call1 X T r g) (hgl : Gl X x) (hm : X.mg x = none) (hv : bootBuiltins x = some (.type Ty)) (ha : PPA X T W (e :: es) fr)
    (hn : x ≠ "__name__") (hdb : (x == ("__debug__" : Str)) = false)
    (he : starEach (e :: es) X.env = (false, eval e X.env) :: starEach es X.env := by rfl) (hpl : (backTo pos (starEach es X.env)).any (·.1) = false := by rfl) : PP X T W (.Call (.Name x p) (e :: es) [] pos) (eB g fr) :=
  ⟨fun pins s σ H Q I q => (pe_callTy hc hgl hm hv ha hn hdb he hpl).run pins s σ H Q I (tB_of hr q)⟩
end
end Eg

/-! E10: len, abs, int, max, min, all, any, isinstance, list, tuple, items, slices. -/
namespace Eg
open PySem PySem.Spec PyProof.Rows L2
section
variable {X : Cx} {T : Tabs} {W : WX} {a b c e : Expr} {es : List Expr} {fa fb fc : Fr → M PV} {fr : Fr → M (List PV)} {pos p : Pos}
theorem CallR.or {f : Value} {r r' : List V → Hp → VK → Prop} (h : CallR X f r) (h' : CallR X f r') : CallR X f (fun xs H Q => r xs H Q ∨ r' xs H Q) := by
  intro pins s σ H xs us Q I rx q
  rcases q with q | q
  · exact h pins s σ H xs us Q I rx q
  · exact h' pins s σ H xs us Q I rx q
theorem VwL1 {G : Cfg} {w : Wo} {H : Hp} {vs : List V} {x : PV} (h : Call1.VwL G w H vs [x]) : ∃ v, vs = [v] ∧ Vw G w H v x := by
  match vs, h with
  | [v], h => exact ⟨v, rfl, h.1⟩
  | [], h => exact h.elim
  | _ :: _ :: _, h => exact h.2.elim
theorem VwL2 {G : Cfg} {w : Wo} {H : Hp} {vs : List V} {x y : PV} (h : Call1.VwL G w H vs [x, y]) : ∃ v u, vs = [v, u] ∧ Vw G w H v x ∧ Vw G w H u y := by
  match vs, h with
  | [v, u], h => exact ⟨v, u, rfl, h.1, h.2.1⟩
  | [], h => exact h.elim
  | [_], h => exact h.2.elim
  | _ :: _ :: _ :: _, h => exact h.2.2.elim
def gLen : List PV → Option PV
  | [.tup xs] => some (.int xs.length)
  | [.lst xs] => some (.int xs.length)
  | [.scr ns] => some (.int ns.length)
  | [.str z] => if z.length ≤ sizeLine then some (.int z.length) else none
  | _ => none
def rLenP (K : PySem.W.Frag) : List V → Hp → VK → Prop := fun xs H Q => (∃ p ys, xs = [.ref p] ∧ (SqL K H p ys ∨ SqT K H p ys) ∧ Q (.int ys.length) H) ∨ (∃ z, xs = [.str z] ∧ z.length ≤ sizeLine ∧ Q (.int z.length) H)
theorem call_lenP : CallR X (.builtin "len") (rLenP X.K) := CallR.or call_len_seq call_len_str
theorem c1_len : Call1 X T (rLenP X.K) gLen := by
  intro w st H vs xs z Q wr r e q
  unfold gLen at e
  split at e
  · cases e
    obtain ⟨v, rfl, rv⟩ := VwL1 r
    cases rv with | tup s r => exact .inl ⟨_, _, rfl, .inr s.sq, by rw [r.length]; exact q.here wr (.int _)⟩
  · cases e
    obtain ⟨v, rfl, rv⟩ := VwL1 r
    cases rv with | lst s r => exact .inl ⟨_, _, rfl, .inl (.inl (.inl s)), by rw [r.length]; exact q.here wr (.int _)⟩
  · cases e
    obtain ⟨v, rfl, rv⟩ := VwL1 r
    cases rv with | scr s => exact .inl ⟨_, _, rfl, .inl s.sq, by rw [List.length_map]; exact q.here wr (.int _)⟩
  · split at e
    · rename_i hc
      cases e
      obtain ⟨v, rfl, rv⟩ := VwL1 r
      cases rv
      exact .inr ⟨_, rfl, hc, q.here wr (.int _)⟩
    · cases e
  · cases e
def gAbs : List PV → Option PV
  | [.int i] => some (.int (if i < 0 then -i else i))
  | _ => none
theorem c1_abs : Call1 X T (fun xs H Q => ∃ i, xs = [.int i] ∧ Q (.int (if i < 0 then -i else i)) H) gAbs := by
  intro w st H vs xs z Q wr r e q
  unfold gAbs at e
  split at e
  · cases e
    obtain ⟨v, rfl, rv⟩ := VwL1 r
    cases rv
    exact ⟨_, rfl, q.here wr (.int _)⟩
  · cases e
def gInt : List PV → Option PV
  | [.int i] => some (.int i)
  | [.bl k] => some (.int (if k then 1 else 0))
  | _ => none
theorem c1_int : Call1 X T (fun xs H Q => (∃ i, xs = [.int i] ∧ Q (.int i) H) ∨ ∃ k, xs = [.bl k] ∧ Q (.int (if k then 1 else 0)) H) gInt := by
  intro w st H vs xs z Q wr r e q
  unfold gInt at e
  split at e
  · cases e
    obtain ⟨v, rfl, rv⟩ := VwL1 r
    cases rv
    exact .inl ⟨_, rfl, q.here wr (.int _)⟩
  · cases e
    obtain ⟨v, rfl, rv⟩ := VwL1 r
    cases rv
    exact .inr ⟨_, rfl, q.here wr (.int _)⟩
  · cases e
def gMax2 : List PV → Option PV
  | [.int i, .int j] => some (.int (if j > i then j else i))
  | _ => none
def gMin2 : List PV → Option PV
  | [.int i, .int j] => some (.int (if j < i then j else i))
  | _ => none
theorem c1_max2 : Call1 X T (fun xs H Q => ∃ i j, xs = [.int i, .int j] ∧ Q (.int (if j > i then j else i)) H) gMax2 := by
  intro w st H vs xs z Q wr r e q
  unfold gMax2 at e
  split at e
  · cases e
    obtain ⟨v, u, rfl, r1, r2⟩ := VwL2 r
    cases r1
    cases r2
    exact ⟨_, _, rfl, q.here wr (.int _)⟩
  · cases e
theorem c1_min2 : Call1 X T (fun xs H Q => ∃ i j, xs = [.int i, .int j] ∧ Q (.int (if j < i then j else i)) H) gMin2 := by
  intro w st H vs xs z Q wr r e q
  unfold gMin2 at e
  split at e
  · cases e
    obtain ⟨v, u, rfl, r1, r2⟩ := VwL2 r
    cases r1
    cases r2
    exact ⟨_, _, rfl, q.here wr (.int _)⟩
  · cases e
/-! ### all, any of a list of bools -/
def bls : List PV → Option (List Bool)
  | [] => some []
  | .bl b :: xs => (bls xs).map (b :: ·)
  | _ => none
theorem bls_ok : ∀ {xs : List PV} {bs : List Bool}, bls xs = some bs → xs = bs.map PV.bl
  | [], bs, h => by cases h; rfl
  | x :: xs, bs, h => by
    cases x with
    | bl b =>
      simp only [bls] at h
      cases q : bls xs with
      | none => rw [q] at h; cases h
      | some cs => rw [q] at h; cases h; rw [bls_ok q]; rfl
    | _ => cases h
theorem RepL.bls {G : Cfg} {w : Wo} {H : Hp} : ∀ {bs : List Bool} {vs : List V}, RepL G w H vs (bs.map PV.bl) → vs = bs.map V.bl
  | [], _, r => by cases r; rfl
  | b :: bs, _, r => by
    cases r with | cons a c =>
    cases a
    rw [RepL.bls c]
    rfl
def gAll : List PV → Option PV
  | [.lst xs] => (bls xs).map fun bs => .bl (bs.all id)
  | _ => none
def gAny : List PV → Option PV
  | [.lst xs] => (bls xs).map fun bs => .bl (bs.any id)
  | _ => none
theorem c1_all : Call1 X T (rAll X.K) gAll := by
  intro w st H vs xs z Q wr r e q
  unfold gAll at e
  split at e
  · rename_i xs
    obtain ⟨v, rfl, rv⟩ := VwL1 r
    cases k : Eg.bls xs with
    | none => rw [k] at e; cases e
    | some bs =>
      rw [k] at e; cases e
      have k' := bls_ok k
      subst k'
      cases rv with | lst s r =>
      have k2 := r.bls
      subst k2
      exact ⟨_, bs, rfl, .inl (.inl s), q.here wr (.bl _)⟩
  · cases e
theorem c1_any : Call1 X T (rAny X.K) gAny := by
  intro w st H vs xs z Q wr r e q
  unfold gAny at e
  split at e
  · rename_i xs
    obtain ⟨v, rfl, rv⟩ := VwL1 r
    cases k : Eg.bls xs with
    | none => rw [k] at e; cases e
    | some bs =>
      rw [k] at e; cases e
      have k' := bls_ok k
      subst k'
      cases rv with | lst s r =>
      have k2 := r.bls
      subst k2
      exact ⟨_, bs, rfl, .inl (.inl s), q.here wr (.bl _)⟩
  · cases e
/-! ### isinstance with a built-in class -/
inductive Ty where
  | non | bl | int | str | tup | lst | dct
  deriving DecidableEq
def Ty.nm : Ty → String
  | .non => "NoneType"
  | .bl => "bool"
  | .int => "int"
  | .str => "str"
  | .tup => "tuple"
  | .lst => "list"
  | .dct => "dict"
def tyN : PV → Option Ty
  | .non => some .non
  | .bl _ => some .bl
  | .int _ => some .int
  | .str _ => some .str
  | .tup _ => some .tup
  | .lst _ => some .lst
  | .scr _ => some .lst
  | .dct _ => some .dct
  | _ => none
def isiB : Ty → Ty → Bool
  | .non, .non => true
  | .bl, .bl => true
  | .int, .int => true
  | .str, .str => true
  | .tup, .tup => true
  | .lst, .lst => true
  | .dct, .dct => true
  | .bl, .int => true
  | _, _ => false
theorem isi_kit : ∀ a b : Ty, b ≠ .non → kitB a.nm b.nm = some (isiB a b) := by
  intro a b hb
  cases a <;> cases b <;> first | exact absurd rfl hb | (decide +kernel)
theorem Vw.kit {pins : List (Addr × Obj)} {σ : L2.St} {H : Hp} {s : Shared} {w : Wo} {v : V} {u : Value} {x : PV} {t : Ty} (I : L2.Inv X pins σ H s) (rx : RelV v u) (r : Vw (Cx.g X T) w H v x) (e : tyN x = some t) : ∃ P : Heap → Prop, PySem.W.KitX X.K u (.type t.nm) P ∧ P s.heap ∧ u ≠ .builtin "__main__.__loader__#opaque" := by
  cases r with
  | non => cases e; exact kit_of I rx (.base .non)
  | bl b => cases e; exact kit_of I rx (.base (.bl b))
  | int b => cases e; exact kit_of I rx (.base (.int b))
  | str b _ => cases e; exact kit_of I rx (.base (.str _))
  | @tup a vs xs k _ =>
    cases e
    cases (show u = Value.ref a from rx)
    obtain ⟨_, _, ⟨o, h1, h2, _⟩, _⟩ := I.tuple k.sq
    exact ⟨_, PySem.W.kitx_tuple, ⟨o, h1, h2⟩, fun z => nomatch z⟩
  | lst k _ => cases e; exact kit_of I rx (.base (.lst k))
  | scr k =>
    cases e
    rcases k with ⟨_, k | ⟨o, k⟩⟩ | ⟨o, its, n, h1, h2, _⟩
    · exact kit_of I rx (.base (.lst k))
    · exact kit_of I rx (.base (.frz k))
    · exact kit_of I rx (.kList h1 h2)
  | @dcK a ks kvs k _ =>
    cases e
    cases (show u = Value.ref a from rx)
    obtain ⟨_, _, _, _, o, _, _, h1, h2, _⟩ := dk_rd I.hok (k.rd rfl)
    exact ⟨_, PySem.W.kitx_dict, ⟨o, h1, h2.1⟩, fun z => nomatch z⟩
  | @dcT a ks kvs k _ _ =>
    cases e
    cases (show u = Value.ref a from rx)
    obtain ⟨_, _, _, _, o, _, _, h1, h2, _⟩ := dN_rd I.hok k
    exact ⟨_, PySem.W.kitx_dict, ⟨o, h1, h2.1⟩, fun z => nomatch z⟩
  | obj _ _ => cases e
  | ty _ => cases e
def gIsi (t : Ty) (x : PV) : Option PV := match tyN x with
  | some n => some (.bl (isiB n t))
  | none => none
theorem pp_isi (t : Ty) {x : Str} {p2 : Pos} (hg1 : Gl X "isinstance") (hm1 : X.mg "isinstance" = none) (hg2 : Gl X x) (hm2 : X.mg x = none) (hv2 : bootBuiltins x = some (.type t.nm)) (ht : t ≠ .non) (ha : PP X T W a fa) (hn : x ≠ "__name__") (hd : (x == ("__debug__" : Str)) = false)
    (hs : starEach [a, .Name x p2] X.env = (false, eval a X.env) :: starEach [.Name x p2] X.env := by rfl) (hs2 : starEach [.Name x p2] X.env = (false, eval (.Name x p2) X.env) :: starEach [] X.env := by rfl) (hpl : (backTo pos (starEach [.Name x p2] X.env)).any (·.1) = false := by rfl)
    (hb : bootBuiltins "isinstance" = some (.builtin "isinstance") := by decide +kernel) : PP X T W (.Call (.Name "isinstance" p) [a, .Name x p2] [] pos) (e1 (gIsi t) fa) := by
  have hc : CallR X (.builtin "isinstance") (fun xs H Q => ∃ v w st y z, xs = [v, .ty t.nm] ∧ Wr (Cx.g X T) w st H ∧ Rep (Cx.g X T) w H v y ∧ view st y = some z ∧ noLoc z = true ∧ ∃ n, tyN z = some n ∧ Q (.bl (isiB n t)) H) := by
    intro pins s σ H xs us Q I rx ⟨v, w, st, y, z, exs, wr, ry, e1, e2, n, e3, q⟩
    subst exs
    cases rx with | cons r1 r2 =>
    cases r2 with | cons r2 r3 =>
    cases r3
    cases (show _ = Value.type t.nm from r2)
    obtain ⟨P, Z, p, hx⟩ := (wr.view ry e1 e2).kit I r1 e3
    exact PySem.W.kia_one Z I.kIn p (kit_ty (isi_kit n t ht)) hx fun tk => ⟨.bl _, H, I.tok tk, rfl, q⟩
  refine ⟨fun pins s σ H Q I ⟨w, st, ρ, h⟩ => (pe_callB hc hg1 hm1 hb (pa_cons ha (pa_cons (pe_bltn (v := .ty t.nm) hg2 hm2 hv2 rfl hn hd) pa_nil hs2) hs) (by decide) (by decide) hs hpl).run pins s σ H Q I ?_⟩
  refine RunE.eE (k := fun x _ => g1 (gIsi t) x) h fun w1 st1 y v H1 l r h1 => ?_
  rcases g1_ok (g := gIsi t) (x := y) (st := st1) with ⟨o, z, q1, q2, q3, q4⟩ | q
  · unfold gIsi at q3
    cases q5 : tyN z with
    | none => rw [q5] at q3; cases q3
    | some n =>
      rw [q5] at q3
      cases q3
      exact ⟨v, w1, st1, y, z, rfl, h1.wr, r, q1, q2, n, q5, h1.ret q4 (Le.refl _ _) h1.wr (.bl _)⟩
  · exact (h1.no q).elim
/-! ### list(x), tuple(x) -/
def gSeqs : PV → Option (List PV)
  | .tup xs => some xs
  | .lst xs => some xs
  | _ => none
/-- a call that makes a new list of what g says -/
def eBL (k : Bool) (g : List PV → Option (List PV)) (fr : Fr → M (List PV)) : Fr → M PV := fun ρ => fr ρ >>= fun xs => rds xs >>= fun ys => M.of (g ys) >>= fun zs => nw k (.lst zs)
theorem rds_noexc : ∀ (xs : List PV) {st s1 : Store} {x : Exn}, rds xs st ≠ .exc x s1
  | [], _, _, _, h => by cases h
  | y :: ys, st, s1, x, h => by
    unfold rds at h
    cases q : rd y st with
    | ok z s2 =>
      rw [M.bind_ok q] at h
      cases q2 : rds ys s2 with
      | ok zs s3 => rw [M.bind_ok q2] at h; cases h
      | exc u s3 => exact rds_noexc ys q2
      | bad => rw [M.bind_bad q2] at h; cases h
    | exc u s2 => exact rd_noexc q
    | bad => rw [M.bind_bad q] at h; cases h
theorem RunE.rds {k : List PV → M PV} {w : Wo} {st : Store} {ρ : Fr} {σ : L2.St} {H : Hp} {Q : VK} {xs : List PV} {vs : List V} (h : RunE X T W (fun _ => Eg.rds xs >>= k) w st ρ σ H Q) (r : RepL (Cx.g X T) w H vs xs) : ∃ ys, Call1.VwL (Cx.g X T) w H vs ys ∧ RunE X T W (fun _ => k ys) w st ρ σ H Q := by
  cases e : Eg.rds xs st with
  | ok ys s1 =>
    obtain ⟨rfl, h2⟩ := rds_ok e
    have p := h.post
    rw [M.bind_ok e] at p
    exact ⟨ys, h2 h.wr r, h.wr, h.fr, p⟩
  | exc x s1 => exact absurd e (rds_noexc xs)
  | bad => exact (h.no (M.bind_bad e)).elim
theorem RunE.of {α : Type} {o : Option α} {k : α → M PV} {w : Wo} {st : Store} {ρ : Fr} {σ : L2.St} {H : Hp} {Q : VK} (h : RunE X T W (fun _ => M.of o >>= k) w st ρ σ H Q) : ∃ a, o = some a ∧ RunE X T W (fun _ => k a) w st ρ σ H Q := by
  cases o with
  | none => exact (h.no rfl).elim
  | some a => exact ⟨a, rfl, h.wr, h.fr, h.post⟩
def gList : List PV → Option (List PV)
  | [.tup xs] => some xs
  | [.lst xs] => some xs
  | _ => none
theorem pp_list (k : Bool) (hg : Gl X "list") (hm : X.mg "list" = none) (ha : PPA X T W [a] fr)
    (he : starEach [a] X.env = (false, eval a X.env) :: starEach [] X.env := by rfl) (hpl : (backTo pos (starEach [] X.env)).any (·.1) = false := by rfl) (hv : bootBuiltins "list" = some (.type "list") := by decide +kernel) : PP X T W (.Call (.Name "list" p) [a] [] pos) (eBL k gList fr) := by
  refine ⟨fun pins s σ H Q I ⟨w, st, ρ, h⟩ => (pe_callTy call_list_of hg hm hv ha (by decide +kernel) (by decide +kernel) he hpl).run pins s σ H Q I ?_⟩
  refine RunE.aE (k := fun xs _ => rds xs >>= fun ys => M.of (gList ys) >>= fun zs => nw k (.lst zs)) h fun w1 st1 xs vs H1 l r h1 => ?_
  obtain ⟨ys, vw, h2⟩ := h1.rds r
  obtain ⟨zs, e, h3⟩ := h2.of
  unfold gList at e
  split at e
  · cases e
    obtain ⟨v, rfl, vv⟩ := VwL1 vw
    cases vv with | tup s r => exact ⟨_, _, rfl, .inr s.sq, fun q hq => h3.mkL r hq⟩
  · cases e
    obtain ⟨v, rfl, vv⟩ := VwL1 vw
    cases vv with | lst s r => exact ⟨_, _, rfl, .inl (.inl (.inl s)), fun q hq => h3.mkL r hq⟩
  · cases e
def gTuple : List PV → Option PV
  | [.tup xs] => some (.tup xs)
  | [.lst xs] => some (.tup xs)
  | _ => none
theorem c1_tuple : Call1 X T (rTupK X.K) gTuple := by
  intro w st H vs xs z Q wr r e q
  unfold gTuple at e
  split at e
  · cases e
    obtain ⟨v, rfl, vv⟩ := VwL1 r
    cases vv with | tup s r => exact ⟨_, _, rfl, .inr ⟨s.sq, q.here wr (.tup s r)⟩⟩
  · cases e
    obtain ⟨v, rfl, vv⟩ := VwL1 r
    cases vv with | lst s r => exact ⟨_, _, rfl, .inl ⟨.inl (.inl s), fun l o hl ho => q.new wr hl (Rep.newT wr hl ho r)⟩⟩
  · cases e
end
end Eg

/-! E11: items, slices, texts, stores into lists. -/
namespace Eg
open PySem PySem.Spec PyProof.Rows L2
section
variable {X : Cx} {T : Tabs} {W : WX} {a b c e : Expr} {es : List Expr} {fa fb fc : Fr → M PV} {fr : Fr → M (List PV)} {pos p : Pos}
theorem RepL.atI {G : Cfg} {w : Wo} {H : Hp} {vs : List V} {xs : List PV} {i : Int} {x : PV} (r : RepL G w H vs xs) (h : L2.atI xs i = some x) : ∃ v, L2.atI vs i = some v ∧ Rep G w H v x := by
  unfold L2.atI at h ⊢
  rw [r.length]
  cases q : ixN xs.length i with
  | none => rw [q] at h; cases h
  | some j => rw [q] at h; exact r.get j h
def gIx : PV → PV → Option PV
  | .lst xs, .int i => L2.atI xs i
  | .tup xs, .int i => L2.atI xs i
  | .str z, .int i => if z.length ≤ sizeLine then (L2.atI z i).map fun c => .str [c] else none
  | .scr ns, .int i => (L2.atI ns i).map .int
  | _, _ => none
theorem atI_map {α β : Type} (f : α → β) (xs : List α) (i : Int) : L2.atI (xs.map f) i = (L2.atI xs i).map f := by
  unfold L2.atI
  rw [List.length_map]
  cases ixN xs.length i with
  | none => rfl
  | some j => simp
theorem atI_mem {α : Type} {xs : List α} {i : Int} {x : α} (h : L2.atI xs i = some x) : x ∈ xs := by
  unfold L2.atI at h
  cases q : ixN xs.length i with
  | none => rw [q] at h; cases h
  | some j => rw [q] at h; exact List.mem_of_getElem? h
theorem o2_ix : Op2 X T (rIx X.K) gIx := by
  intro w st H v u x y z Q wr rx ry e q
  unfold gIx at e
  split at e
  · cases rx with | lst s r =>
    cases ry
    obtain ⟨t, h1, h2⟩ := r.atI e
    exact .inl ⟨_, _, _, t, rfl, rfl, .inl (.inl s), h1, q.here wr h2⟩
  · cases rx with | tup s r =>
    cases ry
    obtain ⟨t, h1, h2⟩ := r.atI e
    exact .inr (.inl ⟨_, _, _, t, rfl, rfl, s.sq, h1, q.here wr h2⟩)
  · rename_i z i
    split at e
    · rename_i hl
      cases rx with | str _ hz =>
      cases ry
      cases k : L2.atI z i with
      | none => rw [k] at e; cases e
      | some c =>
        rw [k] at e; cases e
        have hc : decide (c < 1114112) = true := List.all_eq_true.mp hz c (atI_mem k)
        exact .inr (.inr ⟨_, _, c, rfl, rfl, hl, k, q.here wr (.str [c] (by simpa using hc))⟩)
    · cases e
  · rename_i ns i
    cases rx with | scr s =>
    cases ry
    cases k : L2.atI ns i with
    | none => rw [k] at e; cases e
    | some c =>
      rw [k] at e; cases e
      exact .inl ⟨_, _, _, .int c, rfl, rfl, s.sq, by rw [atI_map, k]; rfl, q.here wr (.int c)⟩
  · cases e
theorem pp_ix (ha : PP X T W a fa) (hb : PP X T W b fb) (hs : PlainIx b := by intro _ _; rfl) : PP X T W (.Subscript a b pos) (e2 gIx fa fb) :=
  ⟨fun pins s σ H Q I h => (pe_ix ix_seq ha hb hs).run pins s σ H Q I (t2 o2_ix h)⟩
/-! ### slices -/
def cutP {α : Type} (xs : List α) (lo hi : Option Int) : List α := (xs.drop (HT.sIx xs.length 0 lo)).take (HT.sIx xs.length xs.length hi - HT.sIx xs.length 0 lo)
def gSl : PV → Option Int → Option Int → Option PV
  | .tup xs, lo, hi => some (.tup (cutP xs lo hi))
  | .lst xs, lo, hi => some (.lst (cutP xs lo hi))
  | .str z, lo, hi => if z.length ≤ sizeLine then some (.str (cutP z lo hi)) else none
  | _, _, _ => none
def asI : PV → M Int
  | .int i => M.pure i
  | _ => M.bad
def oP : Option (Fr → M PV) → Fr → M (Option Int)
  | none, _ => M.pure none
  | some f, ρ => f ρ >>= fun x => asI x >>= fun i => M.pure (some i)
def eSl (fa : Fr → M PV) (fl fh : Option (Fr → M PV)) : Fr → M PV := fun ρ => fa ρ >>= fun x => oP fl ρ >>= fun l => oP fh ρ >>= fun h => g1 (fun y => gSl y l h) x
def rSlP (K : PySem.W.Frag) : V → Option Int → Option Int → Hp → VK → Prop := fun x lo hi H Q => rSlK K x lo hi H Q ∨ rSlL K x lo hi H Q ∨ rSlS x lo hi H Q
theorem sl_P : SlR X (rSlP X.K) := sl_tupK.or (sl_list.or sl_str)
/-- a part of a slice -/
def PPO (X : Cx) (T : Tabs) (W : WX) (e : Option Expr) (f : Option (Fr → M PV)) : Prop := match e, f with
  | none, none => True
  | some e, some f => PP X T W e f
  | _, _ => False
def tO (X : Cx) (T : Tabs) (W : WX) : Option (Fr → M PV) → TO
  | none => tNoPart
  | some f => tPart (tE X T W f)
theorem PPO.po {e : Option Expr} {f : Option (Fr → M PV)} (h : PPO X T W e f) : PO X e (tO X T W f) := by
  cases e with
  | none =>
    cases f with
    | none => exact po_none
    | some _ => exact h.elim
  | some e =>
    cases f with
    | none => exact h.elim
    | some f => exact po_some h
theorem ppo_none : PPO X T W none none := trivial
theorem ppo_some (h : PP X T W a fa) : PPO X T W (some a) (some fa) := h
theorem RunE.oE {f : Option (Fr → M PV)} {k : Option Int → Fr → M PV} {w : Wo} {st : Store} {ρ : Fr} {σ : L2.St} {H : Hp} {Q : VK} {Q' : Option Int → Hp → Prop} (h : RunE X T W (fun ρ => oP f ρ >>= fun x => k x ρ) w st ρ σ H Q)
    (step : ∀ w1 st1 o H1, Le w H w1 H1 → RunE X T W (k o) w1 st1 ρ σ H1 Q → Q' o H1) : tO X T W f σ H Q' := by
  cases f with
  | none => exact step w st none H (Le.refl _ _) ⟨h.wr, h.fr, h.post⟩
  | some f =>
    have h' : RunE X T W (fun ρ => f ρ >>= fun x => (fun ρ => asI x >>= fun i => k (some i) ρ) ρ) w st ρ σ H Q := by
      refine ⟨h.wr, h.fr, ?_⟩
      have p := h.post
      have e : ((oP (some f) ρ >>= fun x => k x ρ) st) = ((f ρ >>= fun x => (fun ρ => asI x >>= fun i => k (some i) ρ) ρ) st) := by
        show M.bind (M.bind (f ρ) _) _ st = M.bind (f ρ) _ st
        unfold M.bind
        cases f ρ st with
        | ok x s1 => cases x <;> rfl
        | exc _ _ => rfl
        | bad => rfl
      rw [e] at p
      exact p
    refine RunE.eE (k := fun x ρ => asI x >>= fun i => k (some i) ρ) h' fun w1 st1 x v H1 l r h1 => ?_
    cases r with
    | int i => exact ⟨i, rfl, step w1 st1 (some i) H1 l ⟨h1.wr, h1.fr, h1.post⟩⟩
    | _ => exact (h1.no rfl).elim
theorem RepL.cut {G : Cfg} {w : Wo} {H : Hp} {vs : List V} {xs : List PV} (r : RepL G w H vs xs) (lo hi : Option Int) : RepL G w H (cutV vs lo hi) (cutP xs lo hi) := by
  unfold cutV cutP
  rw [r.length]
  exact (r.drop _).take _
theorem all_take {x : List Nat} {p : Nat → Bool} (h : x.all p = true) (n : Nat) : (x.take n).all p = true := List.all_eq_true.mpr fun c hc => List.all_eq_true.mp h c (List.mem_of_mem_take hc)
theorem all_drop {x : List Nat} {p : Nat → Bool} (h : x.all p = true) (n : Nat) : (x.drop n).all p = true := List.all_eq_true.mpr fun c hc => List.all_eq_true.mp h c (List.mem_of_mem_drop hc)
theorem cut_whole {α : Type} {xs : List α} {lo hi : Option Int} (h : HT.sIx xs.length 0 lo = 0 ∧ HT.sIx xs.length xs.length hi = xs.length) : cutP xs lo hi = xs := by
  unfold cutP
  rw [h.1, h.2]
  simp
theorem pp_slice {lo hi : Option Expr} {fl fh : Option (Fr → M PV)} {p2 : Pos} (he : PP X T W a fa) (hl : PPO X T W lo fl) (hh : PPO X T W hi fh) : PP X T W (.Subscript a (.Slice lo hi none p2) pos) (eSl fa fl fh) := by
  refine ⟨fun pins s σ H Q I ⟨w, st, ρ, h⟩ => (pe_slice sl_P he hl.po hh.po).run pins s σ H Q I ?_⟩
  refine RunE.eE h fun w1 st1 x v H1 l1 rx h1 => ?_
  refine RunE.oE h1 fun w2 st2 lo H2 l2 h2 => ?_
  refine RunE.oE (k := fun o _ => g1 (fun y => gSl y lo o) x) h2 fun w3 st3 hi H3 l3 h3 => ?_
  have rx3 := (rx.mono l2).mono l3
  rcases g1_ok (g := fun y => gSl y lo hi) (x := x) (st := st3) with ⟨z, y, q1, q2, q3, q4⟩ | q
  · have vw := h3.wr.view rx3 q1 q2
    have fin : Aft X T w3 st3 H3 z Q := fun w' v' H' l wr r => h3.ret q4 l wr r
    unfold gSl at q3
    split at q3
    · cases q3
      cases vw with | tup s r =>
      refine .inl ⟨_, _, rfl, s.sq, fun hw => ?_, fun hw p o hp ho => fin.new h3.wr hp (Rep.newT h3.wr hp ho (r.cut lo hi))⟩
      rw [r.length] at hw
      rw [cut_whole hw] at fin
      exact fin.here h3.wr (.tup s r)
    · cases q3
      cases vw with | lst s r =>
      exact .inr (.inl ⟨_, _, rfl, .inl (.inl s), fun p hp => fin.new h3.wr hp (Rep.newL h3.wr hp (r.cut lo hi))⟩)
    · split at q3
      · rename_i hl
        cases q3
        cases vw with | str _ hz =>
        exact .inr (.inr ⟨_, rfl, hl, fin.here h3.wr (.str _ (all_take (all_drop hz _) _))⟩)
      · cases q3
    · cases q3
  · exact (h3.no q).elim
/-! ### [::-1] -/
theorem rev_pick (xs : Array Value) : ((List.range xs.size).filterMap fun (k : Nat) => xs[((xs.size : Int) - 1 + (k : Int) * (-1)).toNat]?) = xs.toList.reverse := by
  have e : (fun (k : Nat) => xs[((xs.size : Int) - 1 + (k : Int) * (-1)).toNat]?) = (fun j : Nat => xs[j]?) ∘ (fun (k : Nat) => ((xs.size : Int) - 1 + (k : Int) * (-1)).toNat) := rfl
  rw [e, ← List.filterMap_map]
  have e2 : (List.range xs.size).map (fun (k : Nat) => ((xs.size : Int) - 1 + (k : Int) * (-1)).toNat) = (List.range xs.size).map fun k => xs.size - 1 - k :=
    List.map_congr_left fun k hk => by have := List.mem_range.mp hk; omega
  rw [e2, PySem.W.krv_range, List.filterMap_reverse, PySem.W.krv_all]
theorem slice_back {prog : Program} {w : World} {A : Around} {E : Value → Shared → Prop} {s : Shared} {sl : Addr} {vs : Value} {n : Nat} {Q : Int × Int × Nat → Shared → Prop} (hs : s.heap.IsSliceOf sl .none .none vs) (ps : IsPart vs (some (-1))) (h : Q ((n : Int) - 1, -1, n) s) :
    wpAny (model prog w) A (Builtin.Slice.sliceApplied (.ref sl) (pure (n : Int))) Q E s := by
  obtain ⟨os, hos, hcs, hds⟩ := id hs
  unfold Builtin.Slice.sliceApplied Builtin.Slice.sliceFields
  refine wpAny_bind (wpAny_bind (wpAny_field hos hds (x := .none) rfl (wpAny_bind (wpAny_field hos hds (x := .none) rfl (wpAny_bind (wpAny_field hos hds (x := vs) rfl (wpAny_pure ?_)))))))
  refine wpAny_bind (HT.slicePart_ ps ?_)
  show wpAny _ _ (if ((-1 : Int) == 0) = true then _ else _) _ _ s
  rw [if_neg (by decide)]
  refine wpAny_bind (HT.slicePart_ .none (wpAny_bind (HT.slicePart_ .none (wpAny_bind (wpAny_pure ?_)))))
  have e1 : Builtin.Slice.sliceAdjust none none (-1) (n : Int) = ((n : Int) - 1, -1) := rfl
  have e2 : Builtin.Slice.slicePlaces ((n : Int) - 1) (-1) (-1) = n := by
    unfold Builtin.Slice.slicePlaces
    have h1 : ¬ ((-1 : Int) > 0) := by decide
    simp only [h1, if_false]
    by_cases h2 : (n : Int) - 1 > -1
    · rw [if_pos h2]; show (((n : Int) - 1 - -1 - 1) / (- -1) + 1).toNat = n
      rw [show (- -1 : Int) = 1 from rfl, Int.ediv_one]; omega
    · rw [if_neg h2]; omega
  show wpAny _ _ (match Builtin.Slice.sliceAdjust none none (-1) (n : Int) with | (lo, hi) => pure (lo, (-1 : Int), Builtin.Slice.slicePlaces lo hi (-1))) _ _ s
  rw [e1]
  show wpAny _ _ (pure ((n : Int) - 1, (-1 : Int), Builtin.Slice.slicePlaces ((n : Int) - 1) (-1) (-1))) _ _ s
  rw [e2]
  exact wpAny_pure h
theorem getItem_tuple_rev {prog : Program} {w : World} {A : Around} {E : Value → Shared → Prop} {s : Shared} {t sl : Addr} {items : Array Value} {vs : Value} {Q : Value → Shared → Prop} (ht : IsTup s.heap t items) (hs : s.heap.IsSliceOf sl .none .none vs) (ps : IsPart vs (some (-1)))
    (h : Q (.ref s.heap.objs.size) { s with heap := s.heap.push { cls := .type "tuple", data := .seq items.toList.reverse.toArray } }) (hsz : items.size ≤ sizeLine) : wpAny (model prog w) A (getItem (.ref t) (.ref sl)) Q E s := by
  have hok : sizeOk (.seq items.toList.reverse.toArray) := by
    show items.toList.reverse.toArray.size ≤ sizeLine
    simpa using hsz
  obtain ⟨os, hos, hcs, hds⟩ := id hs
  have hTs : s.TypeIs (.ref sl) "slice" := ⟨os, hos, hcs⟩
  unfold getItem
  try with_reducible refine wpAny_holding ?_
  first | refine wpAny_bind (wpAny_pure ?_) | skip
  refine wpAny_bind (wpAny_sequenceKey ht.typeIs (by decide) (wpAny_bind (wpAny_callSpecial?_slot (name := Str.ofString "__getitem__") ht.typeIs PyProof.Rows.slot_tuple_getitem
    (wpAny_call_entry PyProof.Rows.slot_tuple_getitem ht.typeIs PyProof.Rows.entry_tuple_getitem ?_ (PyProof.Rows.args_tuple_getitem _ _)))))
  show wpAny _ _ (Builtin.Tuple.tupleItemsOf (.ref t) >>= _) _ _ s
  refine wpAny_bind (PyProof.Rows.tupleItemsOf_ ht (wpAny_bind (wpAny_typeOf hTs ?_)))
  rw [if_pos (by decide)]
  refine wpAny_bind (slice_back (n := items.size) hs ps ?_)
  have hno : ¬ ((((items.size : Int) - 1) == 0 && (-1 : Int) == 1 && items.size == items.size) = true) := by simp
  show wpAny _ _ (if (((items.size : Int) - 1) == 0 && (-1 : Int) == 1 && items.size == items.size) = true then _ else _) _ _ s
  rw [if_neg hno, rev_pick]
  first
    | exact wpAny_bind (m := Builtin.Tuple.tupleExact _) (wpAny_newObj_type (wpAny_pure ⟨_, rfl, wpAny_pure h⟩) hok)
    | exact wpAny_bind (m := Builtin.Tuple.tupleExact _) (wpAny_newObj_type (wpAny_bind (wpAny_pure (wpAny_pure ⟨_, rfl, wpAny_pure h⟩))) hok)
    | exact wpAny_bind (wpAny_bind (m := Builtin.Tuple.tupleExact _) (wpAny_newObj_type (wpAny_pure (wpAny_pure ⟨_, rfl, wpAny_pure h⟩)) hok))
    | exact wpAny_bind (wpAny_bind (m := Builtin.Tuple.tupleExact _) (wpAny_newObj_type (wpAny_pure ⟨_, rfl, wpAny_pure h⟩) hok))
def gRev : PV → Option PV
  | .tup xs => some (.tup xs.reverse)
  | .lst xs => some (.lst xs.reverse)
  | _ => none
theorem pp_rev {k : Nat} {p1 p2 p3 : Pos} (he : PP X T W a fa) : PP X T W (.Subscript a (.Slice none none (some (.UnaryOp .USub (.Constant (.int 1) k p1) p2)) p3) pos) (e1 gRev fa) := by
  refine ⟨fun pins s σ H Q I ⟨w, st, ρ, h⟩ => ?_⟩
  have hst : PO X (some (.UnaryOp .USub (.Constant (.int 1) k p1) p2)) (tPart (tUn (rU fun i => .int (-i)) (tC (.int 1)))) := po_some (pe_un un_neg pe_int)
  refine Subscript_ (thn (he.run pins s σ H _ I (RunE.eE (k := fun x _ => g1 gRev x) (Q' := fun v H1 => ∃ w1 st1 x, Rep (Cx.g X T) w1 H1 v x ∧ RunE X T W (fun _ => g1 gRev x) w1 st1 ρ σ H1 Q) h fun w1 st1 x v H1 l r h1 => ⟨w1, st1, x, r, h1⟩)) fun v s1 ⟨y, H1, I1, r1, w1, st1, x, rx, h1⟩ => ?_)
  refine wpAny_Slice (thn (po_none.run pins s1 σ H1 (fun o H2 => o = none ∧ H2 = H1) I1 ⟨rfl, rfl⟩) fun vl s2 ⟨l, H2, I2, pl, el, e2⟩ => ?_)
  subst el e2
  refine thn (po_none.run pins s2 σ H2 (fun o H3 => o = none ∧ H3 = H2) I2 ⟨rfl, rfl⟩) fun vu s3 ⟨u, H3, I3, pu, eu, e3⟩ => ?_
  subst eu e3
  refine thn (hst.run pins s3 σ H3 (fun o H4 => o = some (-1) ∧ H4 = H3) I3 ⟨1, rfl, -1, rfl, rfl, rfl⟩) fun vs s4 ⟨o, H4, I4, ps, eo, e4⟩ => ?_
  subst eo e4
  have J : L2.Inv X pins σ H4 { s4 with heap := s4.heap.push { cls := .type "slice", data := .fields #[vl, vu, vs] } } := I4.kept (t' := s4.toks) fun b ob q => Heap.get?_push_of_some _ q
  rcases g1_ok (g := gRev) (x := x) (st := st1) with ⟨z, y', q1, q2, q3, q4⟩ | q
  · have vw := h1.wr.view rx q1 q2
    have fin : Aft X T w1 st1 H4 z Q := fun w' v' H' l wr r => h1.ret q4 l wr r
    unfold gRev at q3
    split at q3
    · cases q3
      cases vw with | @tup t vs' xs s r =>
      cases (show v = Value.ref t from r1)
      obtain ⟨its, rv, ht, hz⟩ := J.tuple s.sq
      cases pl
      cases pu
      refine tail_any (ops := [.ref t, .ref s4.heap.objs.size]) ht.typeIs PyProof.Rows.slot_tuple_getitem.lookup ?_ (by with_unfolding_all rfl)
      refine getItem_tuple_rev ht (Heap.IsSliceOf.new _ .none .none vs) ps ?_ (by rw [List.size_toArray, ← rv.length]; exact hz)
      have hp : H4 (s4.heap.push { cls := .type "slice", data := .fields #[.none, .none, vs] }).objs.size = none := J.hok.fresh (Nat.le_refl _)
      exact ep_tup s4.toks J rv.reverse (by rw [List.length_reverse]; exact hz) fun p o hp ho => fin.new h1.wr hp (Rep.newT h1.wr hp ho r.reverse)
    · cases q3
      cases vw with | @lst t vs' xs s r =>
      cases (show v = Value.ref t from r1)
      obtain ⟨its, rv, ht, hz⟩ := J.list (.inl (.inl s))
      refine tail_any (ops := [.ref t, .ref s4.heap.objs.size]) ht.isList.typeIs PySem.slot_list_getitem.lookup ?_ (by with_unfolding_all rfl)
      refine wpAny_getItem_list_slice ht.isList (Heap.IsSliceOf.new _ vl vu vs) pl pu ps (by decide) ?_ (by rw [List.size_toArray, ← rv.length]; exact hz)
      rw [PySem.W.krv_pick]
      have hp : H4 (s4.heap.push { cls := .type "slice", data := .fields #[vl, vu, vs] }).objs.size = none := J.hok.fresh (Nat.le_refl _)
      refine ⟨.ref _, upd H4 _ (.lst vs'.reverse), J.laid (t' := s4.toks) (fun b ob q => Heap.get?_push_of_some _ q) (Nat.le_refl _) ?_, rfl, fin.new h1.wr hp (Rep.newL h1.wr hp r.reverse)⟩
      exact ⟨by rw [List.length_reverse]; exact hz, _, 0, rv.reverse, Heap.get?_push_size _ rfl⟩
    · cases q3
  · exact (h1.no q).elim
/-! ### one text in another; join -/
def gInS : PV → PV → Option PV
  | .str x, .str y => some (.bl (!(Builtin.Str.occurrences (s2 y) (s2 x) 0 (s2 y).length 1).isEmpty))
  | _, _ => none
def gNotInS : PV → PV → Option PV
  | .str x, .str y => some (.bl (!(!(Builtin.Str.occurrences (s2 y) (s2 x) 0 (s2 y).length 1).isEmpty)))
  | _, _ => none
theorem o2_inS : Op2 X T (fun x y H Q => ∃ i j, x = .str i ∧ y = .str j ∧ Q (.bl (!(Builtin.Str.occurrences j i 0 j.length 1).isEmpty)) H) gInS := by
  intro w st H v u x y z Q wr rx ry e q
  unfold gInS at e
  split at e
  · cases rx; cases ry; cases e
    exact ⟨_, _, rfl, rfl, q.here wr (.bl _)⟩
  · cases e
theorem o2_notInS : Op2 X T (fun x y H Q => ∃ i j, x = .str i ∧ y = .str j ∧ Q (.bl (!(!(Builtin.Str.occurrences j i 0 j.length 1).isEmpty))) H) gNotInS := by
  intro w st H v u x y z Q wr rx ry e q
  unfold gNotInS at e
  split at e
  · cases rx; cases ry; cases e
    exact ⟨_, _, rfl, rfl, q.here wr (.bl _)⟩
  · cases e
/-! ### xs[i] = v -/
def lset (l : Nat) (i : Int) (x : PV) : M Unit := fun st => match st.get l with
  | some (.lst ys) => match ixN ys.length i with
    | some j => .ok () (st.put l (.lst (ys.set j x)))
    | none => .bad
  | _ => .bad
/-- the change of one location -/
theorem Wr.put {G : Cfg} {w : Wo} {st : Store} {H : Hp} {l : Nat} {a : Addr} {c c' : Cell} {o : HO} (wr : Wr G w st H) (hl : w.η l = some a) (hc : st.get l = some c) (hd : w.D a) (hn : ∀ {w'} , LeR w H w' (upd H a o) → (w'.D a) → w' = w → CellR G w (upd H a o) a c') (hnn : nice o = true := by rfl) :
    Le w H w (upd H a o) ∧ Wr G w (st.put l c') (upd H a o) := by
  have ha := (wr.ran l a hl).1
  have le : Le w H w (upd H a o) := ⟨fun _ _ h => h, fun _ _ h => .inl h, fun _ h _ => h, fun b q h k => by
      have ne : b ≠ a := by
        rintro rfl
        rcases h with h | h
        · exact h hd
        · exact h l hl
      exact k.imp fun u q => by rw [upd_ne ne]; exact q, fun b h => by
      by_cases e : b = a
      · subst e; rw [upd_same]; simp
      · rw [upd_ne e]; exact h, fun _ h _ _ => h, fun b q _ k e => by
      have ne : b ≠ a := fun z => k l (z ▸ hl)
      rw [upd_ne ne]; exact e⟩
  refine ⟨le, ⟨fun m d e => ?_, wr.inj, fun b h => le.dom b (wr.trk b h), fun m b h => ⟨le.dom b (wr.ran m b h).1, (wr.ran m b h).2⟩, wr.tab.mr le.r fun b ps d q => by
    have ne : b ≠ a := fun z => d (z ▸ hd)
    rw [upd_ne ne]; exact q, fun b u d e => by
    by_cases z : b = a
    · subst z; rw [upd_same] at e; cases e; exact hnn
    · rw [upd_ne z] at e; exact wr.nic b u d e⟩⟩
  rw [Store.get_put] at e
  by_cases em : m = l
  · subst em
    rw [if_pos rfl] at e
    cases e
    exact ⟨a, hl, hn le.r hd rfl⟩
  · rw [if_neg em] at e
    obtain ⟨b, h1, h2⟩ := wr.cell m d e
    have ne : b ≠ a := by
      rintro rfl
      exact em (wr.inj m l b h1 hl)
    exact ⟨b, h1, h2.mono le (wr.ran m b h1).1 (fun z => z) fun _ => upd_ne ne⟩
def gSubL (fo fi : Fr → M PV) : PV → Fr → M Fr := fun x ρ => fo ρ >>= fun o => fi ρ >>= fun i => match o, i with
  | .loc l, .int k => lset l k x >>= fun _ => M.pure ρ
  | _, _ => M.bad
theorem ppg_subL {o i : Expr} {fo fi : Fr → M PV} (ho : PP X T W0 o fo) (hi : PP X T W0 i fi)
    (ha : ∀ v, assign (.Subscript o i pos) X.env v = (do
      let ov ← holding [v] (eval o X.env)
      let iv ← holding [v, ov] (eval i X.env)
      standAt pos
      holding [v, ov, iv] (setItem ov iv v)
      release [v, ov, iv] []) := by intro _; rfl) : PPG X T (.Subscript o i pos) [] (gSubL fo fi) := by
  refine ⟨fun pins s σ H v u Q I r ⟨w, st, ρ, x, wr, fr, rx, ρ', st', e, q⟩ => (pg_sub ho hi set_list ha).run pins s σ H v u Q I r ?_⟩
  unfold gSubL at e
  refine ⟨w, st, ρ, wr, fr, ?_⟩
  cases q1 : fo ρ st with
  | exc _ _ => rw [M.bind_exc q1] at e; cases e
  | bad => rw [M.bind_bad q1] at e; cases e
  | ok o1 st1 =>
    rw [M.bind_ok q1] at e
    intro w1 v1 H1 l1 wr1 r1
    refine ⟨w1, st1, ρ, wr1, fr.mono l1, ?_⟩
    cases q2 : fi ρ st1 with
    | exc _ _ => rw [M.bind_exc q2] at e; cases e
    | bad => rw [M.bind_bad q2] at e; cases e
    | ok i1 st2 =>
      rw [M.bind_ok q2] at e
      intro w2 v2 H2 l2 wr2 r2
      have r1' := r1.mono l2
      have rx' := (rx.mono l1).mono l2
      cases r1' with
      | @loc a l hl =>
        cases r2 with
        | int k =>
          change (lset l k x >>= fun _ => M.pure ρ) st2 = _ at e
          unfold lset at e
          cases q3 : st2.get l with
          | none => rw [M.bind_bad (by simp [q3])] at e; cases e
          | some c =>
            cases c with
            | lst ys =>
              cases q4 : ixN ys.length k with
              | none => rw [M.bind_bad (by simp [q3, q4])] at e; cases e
              | some j =>
                rw [M.bind_ok (a := ()) (st' := st2.put l (.lst (ys.set j x))) (by simp [q3, q4])] at e
                cases e
                obtain ⟨b, k1, k2⟩ := wr2.cell l _ q3
                rw [hl] at k1; cases k1
                obtain ⟨hd, vs, k3, k4⟩ := k2
                obtain ⟨le, wr3⟩ := wr2.put (c' := .lst (ys.set j x)) (o := .lst (vs.set j v)) hl q3 hd fun {w'} lr d' ew => by
                  subst ew
                  exact ⟨hd, _, upd_same, (k4.set rx' j).mr lr⟩
                refine ⟨a, vs, k, j, rfl, rfl, k3, by rw [k4.length]; exact q4, q w2 σ _ ((l1.trans l2).trans le) wr3 (((fr.mono l1).mono l2).mono le) (Agr.refl _ _)⟩
            | _ => rw [M.bind_bad (by simp [q3])] at e; cases e
        | _ => cases e
      | _ => first | (cases e; done) | (cases r2 <;> cases e)
end
end Eg

/-! E12: sorted of data; sorted(set(..)) of ints. -/
namespace Eg
open PySem PySem.Spec PyProof.Rows L2
/-! ### insertion sort -/
def insL (le : PV → PV → Bool) (x : PV) : List PV → List PV
  | [] => [x]
  | y :: ys => if le x y then x :: y :: ys else y :: insL le x ys
def srtL (le : PV → PV → Bool) : List PV → List PV
  | [] => []
  | x :: xs => insL le x (srtL le xs)
section
variable {le : PV → PV → Bool}
theorem insL_mem (x : PV) : ∀ (ys : List PV) (z : PV), z ∈ insL le x ys ↔ z = x ∨ z ∈ ys
  | [], z => by simp [insL]
  | y :: ys, z => by
    unfold insL
    split
    · simp
    · simp only [List.mem_cons, insL_mem x ys z]
      constructor
      · rintro (h | h | h)
        · exact .inr (.inl h)
        · exact .inl h
        · exact .inr (.inr h)
      · rintro (h | h | h)
        · exact .inr (.inl h)
        · exact .inl h
        · exact .inr (.inr h)
theorem srtL_mem : ∀ (xs : List PV) (z : PV), z ∈ srtL le xs ↔ z ∈ xs
  | [], z => by simp [srtL]
  | x :: xs, z => by unfold srtL; rw [insL_mem, srtL_mem xs z]; simp
theorem insL_pw (h : PySem.W.TotalLe le) (x : PV) : ∀ ys : List PV, ys.Pairwise (fun a b => le a b = true) → (insL le x ys).Pairwise (fun a b => le a b = true)
  | [], _ => by simp [insL]
  | y :: ys, hp => by
    have ⟨h1, h2⟩ := List.pairwise_cons.mp hp
    unfold insL
    split
    · rename_i e
      refine List.pairwise_cons.mpr ⟨fun z hz => ?_, hp⟩
      rcases List.mem_cons.mp hz with rfl | hz
      · exact e
      · exact h.trans _ _ _ e (h1 z hz)
    · rename_i e
      refine List.pairwise_cons.mpr ⟨fun z hz => ?_, insL_pw h x ys h2⟩
      rcases (insL_mem x ys z).mp hz with rfl | hz
      · rcases h.total z y with t | t
        · exact absurd t e
        · exact t
      · exact h1 z hz
theorem srtL_pw (h : PySem.W.TotalLe le) : ∀ xs : List PV, (srtL le xs).Pairwise (fun a b => le a b = true)
  | [] => .nil
  | x :: xs => insL_pw h x _ (srtL_pw h xs)
theorem insL_filter (h : PySem.W.TotalLe le) (c x : PV) : ∀ ys : List PV, ys.Pairwise (fun a b => le a b = true) → (insL le x ys).filter (PySem.W.sameRank le c) = (x :: ys).filter (PySem.W.sameRank le c)
  | [], _ => rfl
  | y :: ys, hp => by
    have ⟨h1, h2⟩ := List.pairwise_cons.mp hp
    unfold insL
    split
    · rfl
    · rename_i e
      rw [List.filter_cons, insL_filter h c x ys h2]
      rw [List.filter_cons, List.filter_cons, List.filter_cons]
      by_cases hy : PySem.W.sameRank le c y = true
      · by_cases hx : PySem.W.sameRank le c x = true
        · exfalso
          simp only [PySem.W.sameRank, Bool.and_eq_true] at hx hy
          exact e (h.trans _ _ _ hx.2 hy.1)
        · simp [hx, hy]
      · simp [hy]
theorem srtL_merge (h : PySem.W.TotalLe le) (xs : List PV) : srtL le xs = xs.mergeSort le := by
  refine PySem.W.sort_unique h (srtL_pw h xs) fun c => ?_
  induction xs with
  | nil => rfl
  | cons x xs ih =>
    unfold srtL
    rw [insL_filter h c x _ (srtL_pw h xs), List.filter_cons, ih, List.filter_cons]
theorem insL_congr {le' : PV → PV → Bool} (x : PV) : ∀ ys : List PV, (∀ y ∈ ys, le x y = le' x y) → insL le x ys = insL le' x ys
  | [], _ => rfl
  | y :: ys, h => by
    unfold insL
    rw [h y (by simp), insL_congr x ys fun z hz => h z (by simp [hz])]
theorem srtL_congr {le' : PV → PV → Bool} : ∀ xs : List PV, (∀ x ∈ xs, ∀ y ∈ xs, le x y = le' x y) → srtL le xs = srtL le' xs
  | [], _ => rfl
  | x :: xs, h => by
    unfold srtL
    rw [srtL_congr xs fun a ha b hb => h a (by simp [ha]) b (by simp [hb])]
    exact insL_congr x _ fun y hy => h x (by simp) y (by simp [(srtL_mem xs y).mp hy])
theorem insL_len (x : PV) : ∀ ys : List PV, (insL le x ys).length = ys.length + 1
  | [] => rfl
  | y :: ys => by unfold insL; split <;> simp [insL_len x ys]
theorem srtL_len : ∀ xs : List PV, (srtL le xs).length = xs.length
  | [] => rfl
  | x :: xs => by unfold srtL; rw [insL_len, srtL_len xs]; rfl
end
/-- what sorted gives: data that are alike, tuples with an item at least -/
def ple (x y : PV) : Bool := !plt y x
def okSrt1 : PV → Bool
  | .non => false
  | .tup _ => false
  | _ => true
def isT1 : PV → Bool
  | .tup (_ :: _) => true
  | _ => false
def okSrt (xs : List PV) : Bool := xs.all (fun x => isD x && decide (pdep x ≤ 60)) && xs.all (fun x => xs.all fun y => palk x y) && (xs.all isT1 || xs.all okSrt1)
def psort (xs : List PV) : Option (List PV) := if okSrt xs && decide (xs.length ≤ sizeLine) then some (srtL ple xs) else none
theorem psort_ok {xs ys : List PV} (h : psort xs = some ys) : xs.length ≤ sizeLine ∧ (∀ x ∈ xs, isD x = true ∧ pdep x ≤ 60) ∧ (∀ x ∈ xs, ∀ y ∈ xs, palk x y = true) ∧ ((∀ x ∈ xs, isT1 x = true) ∨ ∀ x ∈ xs, okSrt1 x = true) ∧ ys = srtL ple xs := by
  unfold psort at h
  split at h
  · rename_i k
    cases h
    simp only [okSrt, Bool.and_eq_true, Bool.or_eq_true, List.all_eq_true, decide_eq_true_eq] at k
    exact ⟨k.2, k.1.1.1, k.1.1.2, k.1.2, rfl⟩
  · cases h
theorem ple_data {xs : List PV} (h1 : ∀ x ∈ xs, isD x = true ∧ pdep x ≤ 60) (h2 : ∀ x ∈ xs, ∀ y ∈ xs, palk x y = true) : ∀ x ∈ xs, ∀ y ∈ xs, ple x y = PySem.W.dataLe false toD x y := fun x hx y hy => by
  rw [PySem.W.dataLe_eq]
  show (!plt y x) = !PySem.W.dataLt (toD y) (toD x)
  rw [lt_toD y x (h1 y hy).1 (h1 x hx).1 (h2 y hy x hx)]
theorem psort_merge {xs : List PV} (h1 : ∀ x ∈ xs, isD x = true ∧ pdep x ≤ 60) (h2 : ∀ x ∈ xs, ∀ y ∈ xs, palk x y = true) : srtL ple xs = xs.mergeSort (PySem.W.dataLe false toD) := by
  rw [srtL_congr xs (ple_data h1 h2)]
  exact srtL_merge (PySem.W.sortLe_total _ _ _) xs
mutual
theorem reads_lt {h : Heap} : ∀ {d : PyData} {v : Value} {as : List Addr}, Reads h v d as → ∀ b ∈ as, b < h.objs.size
  | _, _, _, .none, b, hb => by simp at hb
  | _, _, _, .bool _, b, hb => by simp at hb
  | _, _, _, .int _ _, b, hb => by simp at hb
  | _, _, _, .str _ _, b, hb => by simp at hb
  | .list xs, _, _, .list ho _ _ r, b, hb => by
    rcases List.mem_cons.mp hb with rfl | hb
    · exact Heap.lt_size ho
    · exact readsAll_lt r b hb
  | .tuple xs, _, _, .tuple _ _ _ r, b, hb => readsAll_lt r b hb
  | .dict kvs, _, _, .dict ho _ _ r1 r2, b, hb => by
    rcases List.mem_append.mp hb with hb | hb
    · rcases List.mem_cons.mp hb with rfl | hb
      · exact Heap.lt_size ho
      · exact readsAll_lt r1 b hb
    · exact readsAll_lt r2 b hb
theorem readsAll_lt {h : Heap} : ∀ {ds : List PyData} {vs : List Value} {as : List Addr}, ReadsAll h vs ds as → ∀ b ∈ as, b < h.objs.size
  | _, _, _, .nil, b, hb => by simp at hb
  | _, _, _, .cons r1 r2, b, hb => by
    rcases List.mem_append.mp hb with hb | hb
    · exact reads_lt r1 b hb
    · exact readsAll_lt r2 b hb
end
section
variable {X : Cx} {T : Tabs} {W : WX} {a b c e : Expr} {es : List Expr} {fa fb fc : Fr → M PV} {fr : Fr → M (List PV)} {pos p : Pos}
/-- each value, with what it reads as -/
def Zp (ps : List (V × PV)) (us : List Value) : Prop := PySem.W.EachIs (fun u (q : V × PV) => RelV q.1 u) us ps
theorem zp_of : ∀ {vs : List V} {us : List Value} {xs : List PV}, Vals vs us → vs.length = xs.length → Zp (vs.zip xs) us
  | [], _, [], .nil, _ => .nil
  | _ :: _, _, x :: xs, .cons r t, h => .cons r (zp_of t (by simpa using h))
theorem zp_vals : ∀ {ps : List (V × PV)} {us : List Value}, Zp ps us → Vals (ps.map (·.1)) us
  | _, _, .nil => .nil
  | _, _, .cons r t => .cons r (zp_vals t)
theorem zp_reads {pins : List (Addr × Obj)} {σ : L2.St} {H : Hp} {s : Shared} {w : Wo} (I : L2.Inv X pins σ H s) : ∀ {ps : List (V × PV)} {us : List Value}, Zp ps us → (∀ q ∈ ps, Rep (Cx.g X T) w H q.1 q.2 ∧ isD q.2 = true) → PySem.W.EachIs (fun u (q : V × PV) => ∃ as, Reads s.heap u (toD q.2) as) us ps
  | _, _, .nil, _ => .nil
  | _, _, .cons r t, h => .cons (Dp.reads I _ _ _ ((h _ (by simp)).1.dp (h _ (by simp)).2) r) (zp_reads I t fun q hq => h q (by simp [hq]))
theorem repl_zip {G : Cfg} {w : Wo} {H : Hp} : ∀ {vs : List V} {xs : List PV}, RepL G w H vs xs → ∀ q ∈ vs.zip xs, Rep G w H q.1 q.2
  | _, _, .nil, q, hq => by simp at hq
  | _, _, .cons a b, q, hq => by
    rcases List.mem_cons.mp hq with rfl | hq
    · exact a
    · exact repl_zip b q hq
theorem repl_unzip {G : Cfg} {w : Wo} {H : Hp} : ∀ {ps : List (V × PV)}, (∀ q ∈ ps, Rep G w H q.1 q.2) → RepL G w H (ps.map (·.1)) (ps.map (·.2))
  | [], _ => .nil
  | q :: ps, h => .cons (h q (by simp)) (repl_unzip fun r hr => h r (by simp [hr]))
theorem zip_snd {vs : List V} {xs : List PV} (h : vs.length = xs.length) : (vs.zip xs).map (·.2) = xs := by
  rw [← List.unzip_snd, List.unzip_zip_right (by omega)]
/-- sorted(x) of a list or a tuple of data -/
def rSrt (X : Cx) (T : Tabs) : List V → Hp → VK → Prop := fun xs H Q => ∃ (a : Addr) (vs : List V) (ys zs : List PV) (w : Wo) (st : Store), xs = [.ref a] ∧ (SqL X.K H a vs ∨ SqT X.K H a vs) ∧ Wr (Cx.g X T) w st H ∧ RepL (Cx.g X T) w H vs ys ∧ psort ys = some zs ∧
  ∀ p us, H p = none → RepL (Cx.g X T) w H us zs → Q (.ref p) (upd H p (.lst us))
theorem cr_srt (hu : X.A.units + 64 < cLine) : CallR X (.builtin "sorted") (rSrt X T) := by
  intro pins s σ H xs us Q I rx ⟨a, vs, ys, zs, w, st, exs, hq, wr, r, hs, q⟩
  subst exs
  cases rx with | cons r1 r2 =>
  cases r2
  cases (show _ = Value.ref a from r1)
  obtain ⟨hL, h1, h2, h3, rfl⟩ := psort_ok hs
  have hlen := r.length
  obtain ⟨its, o, n, T', hT, ho, hc, hd, rv⟩ : ∃ (its : List Value) (o : Obj) (n : Nat) (T' : String), (T' = "list" ∨ T' = "tuple") ∧ s.heap.get? a = some o ∧ o.cls = .type T' ∧ o.data = .seq its.toArray n ∧ Vals vs its := by
    rcases hq with hq | hq
    · obtain ⟨its, rv, ⟨o, n, k1, k2, _, k3⟩, _⟩ := I.list hq
      exact ⟨its, o, n, "list", .inl rfl, k1, k2, k3, rv⟩
    · obtain ⟨its, rv, ⟨o, k1, k2, n, k3⟩, _⟩ := I.tuple hq
      exact ⟨its, o, n, "tuple", .inr rfl, k1, k2, k3, rv⟩
  have hli : its.length = ys.length := by rw [← rv.length]; exact hlen
  refine Calls.call_function_entry kind_sorted plain_sorted entry_sorted (args_sorted1 _) ?_
  unfold Builtin.«sorted»
  refine wpAny_bind (m := checkCount "sorted" 1 1 _) (wpAny_pure (wpAny_bind (wpAny_collect_seq a hT ho hc hd (fun h' keep => ?_) (by rw [List.size_toArray, hli]; exact hL))))
  refine wpAny_bind (wpAny_newList ?_ (by simpa [hli] using hL))
  have I1 : L2.Inv X pins σ H { s with heap := h' } := I.kept (t' := s.toks) keep
  have I2 : L2.Inv X pins σ H { s with heap := h'.push { cls := .type "list", data := .seq its.toArray } } := I1.kept (t' := s.toks) fun b o e => Heap.get?_push_of_some _ e
  have hfr : H h'.objs.size = none := I1.hok.fresh (Nat.le_refl _)
  have eo : (h'.push { cls := .type "list", data := .seq its.toArray }).get? h'.objs.size = some (seqObj "list" its.toArray 0) := Heap.get?_push_size _ rfl
  have hz := zp_of rv hlen
  have hrep := repl_zip r
  have er := zp_reads I2 hz fun q hq => ⟨hrep q hq, (h1 q.2 (List.of_mem_zip hq).2).1⟩
  have er2 : PySem.W.EachIs (fun u (q : V × PV) => ∃ as, Reads (h'.push { cls := .type "list", data := .seq its.toArray }) u (toD q.2) as ∧ h'.objs.size ∉ as) its (vs.zip ys) := by
    have er1 := zp_reads I1 hz fun q hq => ⟨hrep q hq, (h1 q.2 (List.of_mem_zip hq).2).1⟩
    refine er1.mono fun u q ⟨as, k⟩ => ⟨as, PyProof.Rows.Reads.keeps (fun _ _ e => Heap.get?_push_of_some _ e) k, fun hm => ?_⟩
    exact absurd (reads_lt k _ hm) (Nat.lt_irrefl _)
  have hal : PySem.W.AllAlike ((vs.zip ys).map fun q => toD q.2) := by
    intro d hd d' hd'
    obtain ⟨q, hq, rfl⟩ := List.mem_map.mp hd
    obtain ⟨q', hq', rfl⟩ := List.mem_map.mp hd'
    have m := (List.of_mem_zip hq).2
    have m' := (List.of_mem_zip hq').2
    rw [alk_toD _ _ (h1 _ m).1 (h1 _ m').1]
    exact h2 _ m _ m'
  have hsrt : PySem.W.Sortable ((vs.zip ys).map fun q => toD q.2) := by
    rcases h3 with h3 | h3
    · refine .inl fun d hd => ?_
      obtain ⟨q, hq, rfl⟩ := List.mem_map.mp hd
      have m := h3 _ (List.of_mem_zip hq).2
      cases e : q.2 with
      | tup zs => rw [e] at m; cases zs with
        | nil => cases m
        | cons z zs => exact ⟨toD z, toDs zs, by simp only [toD, toDs]⟩
      | _ => rw [e] at m; cases m
    · refine .inr fun d hd => ?_
      obtain ⟨q, hq, rfl⟩ := List.mem_map.mp hd
      have m := h3 _ (List.of_mem_zip hq).2
      have k := (h1 _ (List.of_mem_zip hq).2).1
      cases e : q.2 <;> rw [e] at m k <;> first | (cases m; done) | (cases k; done) | (refine ⟨?_, ?_⟩ <;> simp [toD])
  refine wpAny_bind (wpAny_holding (PySem.W.list_sort_data (R := fun u (q : V × PV) => RelV q.1 u) (enc := fun q => toD q.2) eo hz er2 hal hsrt (by simp [hlen]; omega) (fun b hb => ?_) fun out ho2 hout => ?_))
  · have := (h1 _ (List.of_mem_zip hb).2).2
    rw [depth_toD]
    show X.A.units + 1 + 1 + pdep b.2 < cLine
    omega
  · have hmap : ((vs.zip ys).mergeSort (PySem.W.dataLe false fun q : V × PV => toD q.2)).map (·.2) = srtL ple ys := by
      have e := PySem.W.sort_maps (l := vs.zip ys) (r := PySem.W.dataLe false fun q : V × PV => toD q.2) (s := PySem.W.dataLe false toD) (fun q : V × PV => q.2) fun _ _ _ _ => rfl
      rw [zip_snd hlen, ← psort_merge h1 h2] at e
      exact e
    have hmem : ∀ q ∈ (vs.zip ys).mergeSort (PySem.W.dataLe false fun q : V × PV => toD q.2), Rep (Cx.g X T) w H q.1 q.2 := fun q hq => hrep q ((List.mergeSort_perm _ _).mem_iff.mp hq)
    have rfin : RepL (Cx.g X T) w H (((vs.zip ys).mergeSort (PySem.W.dataLe false fun q : V × PV => toD q.2)).map (·.1)) (srtL ple ys) := by
      rw [← hmap]
      exact repl_unzip hmem
    obtain ⟨ne, hsat⟩ := sortedHeap_at (out := out.toArray) eo
    refine wpAny_pure ⟨_, rfl, .ref h'.objs.size, _, I1.laid (t' := s.toks) (o := .lst (((vs.zip ys).mergeSort (PySem.W.dataLe false fun q : V × PV => toD q.2)).map (·.1))) (fun b o e => ?_) (Nat.le_refl _) ?_, rfl, q _ _ hfr rfin⟩
    · have hb := Heap.lt_size e
      rw [sortedHeap_old (Nat.ne_of_lt hb) (by rw [Heap.size_push]; exact Nat.lt_succ_of_lt hb)]
      exact Heap.get?_push_of_some _ e
    · exact ⟨by rw [rfin.length, srtL_len]; exact hL, out, ne, zp_vals hout, hsat⟩
end
end Eg

/-! E13: set(x) of a list of ints. -/
namespace Eg
open PySem PySem.Spec PyProof.Rows L2
section
variable {P : Program} {w : World} {A : Around} {E : Value → Shared → Prop} {s : Shared}
/-- a new empty set's object -/
abbrev set0 (w : World) : Obj := { cls := .type "set", dict := none, data := .set #[] 0 (.fresh 0 0 (!w.params.followText "set-order")) }
theorem set_of_listI {l : Addr} {its : Array Value} (ns : List Int) {Q : Value → Shared → Prop} (hh : A.handled = none) (hl : s.heap.IsList l its) (hi : IntsAre its.toList ns) (hb : ns.length + 1 < scanBound)
    (fin : ∀ (h' : Heap) (tk c : Nat), SetR w h' s.heap.objs.size (fun j => decide (j ∈ ns)) c → c ≤ ns.length → (∀ b o, s.heap.get? b = some o → h'.get? b = some o) → Q (.ref s.heap.objs.size) { s with heap := h', toks := tk }) :
    wpAny (model P w) A (call (.type "set") [.ref l]) Q E s := by
  have hsz : its.size = ns.length := by rw [← Array.length_toList]; exact IntsAre.length hi
  obtain ⟨cm, tm, hmro⟩ := F.called_set.mro
  have g1 := F.called_set.made; have g2 := F.called_set.sub; have g3 := F.called_set.notType; have g4 := F.called_set.canCreate; have g5 := F.typeCall_set_1 (.ref l)
  refine wpAny_call (codeAny_of_tree (show wpAny _ _ (callAny (.type "set") _) _ _ _ from wpAny_pure ⟨Code.quiet_builtin _ (by decide +kernel), codeAny_builtin F.entry_type_call ?_⟩))
  rw [Around.under_plain (weight_type_call_type "set" [.ref l] []) rfl]
  repeat (any_goals (first | assumption | wp_step))
  refine codeAny_mono (code_set_led1 (.ref l) (E := E) (Q₁ := fun ob s1 => ob = .ref s.heap.objs.size ∧ s1 = { s with heap := s.heap.push (set0 w) }) ⟨rfl, rfl⟩) fun r s1 hr => ?_
  cases r with
  | error e => exact hr
  | ok fl =>
    cases fl with
    | next => exact hr.elim
    | brk => exact hr.elim
    | cont => exact hr.elim
    | ret ob =>
      obtain ⟨rfl, rfl⟩ := hr
      have hS : (s.heap.push (set0 w)).get? s.heap.objs.size = some (set0 w) := Heap.get?_push_size _ rfl
      have hT : Shared.TypeIs { s with heap := s.heap.push (set0 w) } (.ref s.heap.objs.size) "set" := ⟨_, hS, rfl⟩
      have g6 := F.called_set.init.lookup; have g7 := F.called_set.init.bind (.ref s.heap.objs.size)
      repeat (any_goals (first | assumption | wp_step))
      refine codeAny_mono (codeAny_call_builtin (R := wants (fun r s2 => r = .none ∧ ∃ h' tk c, s2 = { s with heap := h', toks := tk } ∧ SetR w h' s.heap.objs.size (fun j => decide (j ∈ ns)) c ∧ c ≤ ns.length ∧ ∀ b o, s.heap.get? b = some o → h'.get? b = some o) E)
        F.called_set.init.plain F.entry_set_init (check_set_init_1 hT ?_)) fun r2 s2 hr2 => ?_
      · obtain ⟨ol, hol, hcl, nl, hdl⟩ := hl
        obtain ⟨ocls, odict, odata, oslots⟩ := ol
        simp only at hcl hdl
        subst hcl; subst hdl
        have k1 : (s.heap.push (set0 w)).get? l = some { cls := .type "list", dict := odict, data := .seq its nl, slots := oslots } := Heap.get?_push_of_some _ hol
        have k2 := F.sub_list_set; have k3 := F.sub_list_frozenset
        have k4 : (Value.type "list" == Value.type "dict") = false := by decide
        have k5 : (s.heap.push (set0 w)).IsList l its := ⟨_, k1, rfl, nl, rfl⟩
        unfold Builtin.«set.__init__» noKeywords Builtin.Frozenset.updateFrom
        generalize hPI : pyIter = PI
        wp_walk
        subst hPI
        refine wpAny_pyIter_list k5 (wpAny_bind (wpAny_runValue ?_))
        have lt := Heap.lt_size hol
        have z1 : (s.heap.push (set0 w)).objs.size = s.heap.objs.size + 1 := Heap.size_push ..
        have n1 : l ≠ (s.heap.push (set0 w)).objs.size := by rw [z1]; exact Nat.ne_of_lt (Nat.lt_succ_of_lt lt)
        have n2 : s.heap.objs.size ∉ [(s.heap.push (set0 w)).objs.size, l] := by rw [z1]; simp only [List.mem_cons, List.not_mem_nil, or_false, not_or]; exact ⟨Nat.ne_of_lt (Nat.lt_succ_self _), Nat.ne_of_gt lt⟩
        have vals : ∀ (i : Nat) (v : Value), its[i]? = some v → ∃ k t, ns[i]? = some k ∧ v = .int k t := fun i v hv => by
          have hi' : i < ns.length := by rw [← hsz]; exact (Array.getElem?_eq_some_iff.mp hv).1
          obtain ⟨t, e⟩ := PyProof.Rows.IntsAre.int_at hi i v (by rw [Array.getElem?_toList]; exact hv)
          exact ⟨ns[i], t, List.getElem?_eq_getElem hi', by rw [e, List.getD_eq_getElem?_getD, List.getElem?_eq_getElem hi'] <;> rfl⟩
        refine set_update_ints ((Walks.list (show A.in1.in1.in1.handled = none by simp [hh]) _ l n1 its).toS) s.heap.objs.size n2 ns hsz hb vals (its.size - 0) 0 _ (by omega) (Nat.zero_le _)
          ⟨⟨_, Heap.get?_push_size _ rfl, rfl, rfl⟩, (k5.push _)⟩ ⟨0, Nat.le_refl 0, setR_new_at (Heap.get?_push_of_some _ hS)⟩ fun s3 c3 hm hc3 hS3 => ?_
        obtain ⟨h3, g3', d3, t3, o3⟩ := s3
        have e1 : g3' = s.gens := hm.gens; have e2 : d3 = s.drawn := hm.drawn; have e3 : o3 = s.os := hm.os
        subst e1; subst e2; subst e3
        show wpAny _ _ _ _ _ _
        refine wpAny_pure (show wpAny _ _ (ret Value.none) _ _ _ from ?_)
        rw [hsz] at hc3
        refine wpAny_pure ⟨rfl, h3, t3, c3, rfl, hS3, hc3, fun b o e => ?_⟩
        have lb := Heap.lt_size e
        refine hm.heap b o ?_ (Heap.get?_push_of_some _ (Heap.get?_push_of_some _ e))
        simp only [List.mem_cons, List.not_mem_nil, or_false, not_or]
        exact ⟨Nat.ne_of_lt lb, by rw [z1]; exact Nat.ne_of_lt (Nat.lt_succ_of_lt lb)⟩
      · cases r2 with
        | error e => exact hr2
        | ok f2 =>
          cases f2 with
          | next => exact hr2.elim
          | brk => exact hr2.elim
          | cont => exact hr2.elim
          | ret r =>
            obtain ⟨rfl, h', tk, c, rfl, hS', hc', keep⟩ := hr2
            repeat (any_goals (first | assumption | wp_step))
            exact fin _ _ _ hS' hc' keep
end
end Eg

/-! E14: sorted(x), sorted(set(x)). -/
namespace Eg
open PySem PySem.Spec PyProof.Rows L2
section
variable {X : Cx} {T : Tabs} {W : WX} {a b c e : Expr} {es : List Expr} {fa fb fc : Fr → M PV} {fr : Fr → M (List PV)} {pos p : Pos}
def gSorted : List PV → Option (List PV)
  | [.lst xs] => psort xs
  | [.tup xs] => psort xs
  | _ => none
theorem pp_sorted (k : Bool) (hu : X.A.units + 64 < cLine) (hg : Gl X "sorted") (hm : X.mg "sorted" = none) (ha : PPA X T W [a] fr)
    (he : starEach [a] X.env = (false, eval a X.env) :: starEach [] X.env := by rfl) (hpl : (backTo pos (starEach [] X.env)).any (·.1) = false := by rfl) (hv : bootBuiltins "sorted" = some (.builtin "sorted") := by decide +kernel) : PP X T W (.Call (.Name "sorted" p) [a] [] pos) (eBL k gSorted fr) := by
  refine ⟨fun pins s σ H Q I ⟨w, st, ρ, h⟩ => (pe_callB (cr_srt (T := T) hu) hg hm hv ha (by decide +kernel) (by decide +kernel) he hpl).run pins s σ H Q I ?_⟩
  refine RunE.aE (k := fun xs _ => rds xs >>= fun ys => M.of (gSorted ys) >>= fun zs => nw k (.lst zs)) h fun w1 st1 xs vs H1 l r h1 => ?_
  obtain ⟨ys, vw, h2⟩ := h1.rds r
  obtain ⟨zs, e, h3⟩ := h2.of
  unfold gSorted at e
  split at e
  · obtain ⟨v, rfl, vv⟩ := VwL1 vw
    cases vv with | lst s r => exact ⟨_, _, _, zs, w1, st1, rfl, .inl (.inl (.inl s)), h1.wr, r, e, fun q us hq ru => h3.mkL ru hq⟩
  · obtain ⟨v, rfl, vv⟩ := VwL1 vw
    cases vv with | tup s r => exact ⟨_, _, _, zs, w1, st1, rfl, .inr s.sq, h1.wr, r, e, fun q us hq ru => h3.mkL ru hq⟩
  · cases e
/-! ### sorted(set(x)) of intsP -/
def intsP : List PV → Option (List Int)
  | [] => some []
  | .int i :: xs => (intsP xs).map (i :: ·)
  | _ => none
theorem ints_ok : ∀ {xs : List PV} {ns : List Int}, intsP xs = some ns → xs = ns.map PV.int
  | [], ns, h => by cases h; rfl
  | x :: xs, ns, h => by
    cases x with
    | int b =>
      simp only [intsP] at h
      cases q : intsP xs with
      | none => rw [q] at h; cases h
      | some cs => rw [q] at h; cases h; rw [ints_ok q]; rfl
    | _ => cases h
theorem RepL.intsV {G : Cfg} {w : Wo} {H : Hp} : ∀ {ns : List Int} {vs : List V}, RepL G w H vs (ns.map PV.int) → vs = ns.map V.int
  | [], _, r => by cases r; rfl
  | b :: bs, _, r => by
    cases r with | cons a c =>
    cases a
    rw [RepL.intsV c]
    rfl
/-- the strictly ascending list of the members -/
def insI (x : Int) : List Int → List Int
  | [] => [x]
  | y :: ys => if x < y then x :: y :: ys else if x = y then y :: ys else y :: insI x ys
def setI : List Int → List Int
  | [] => []
  | x :: xs => insI x (setI xs)
theorem insI_mem (x : Int) : ∀ (ys : List Int) (z : Int), z ∈ insI x ys ↔ z = x ∨ z ∈ ys
  | [], z => by simp [insI]
  | y :: ys, z => by
    unfold insI
    split
    · simp
    · split
      · rename_i h; subst h; simp
      · simp only [List.mem_cons, insI_mem x ys z]
        constructor
        · rintro (h | h | h)
          · exact .inr (.inl h)
          · exact .inl h
          · exact .inr (.inr h)
        · rintro (h | h | h)
          · exact .inr (.inl h)
          · exact .inl h
          · exact .inr (.inr h)
theorem insI_pw (x : Int) : ∀ ys : List Int, ys.Pairwise (· < ·) → (insI x ys).Pairwise (· < ·)
  | [], _ => by simp [insI]
  | y :: ys, hp => by
    have ⟨h1, h2⟩ := List.pairwise_cons.mp hp
    unfold insI
    split
    · rename_i h
      refine List.pairwise_cons.mpr ⟨fun z hz => ?_, hp⟩
      rcases List.mem_cons.mp hz with rfl | hz
      · exact h
      · have := h1 z hz; omega
    · split
      · exact hp
      · rename_i h h'
        refine List.pairwise_cons.mpr ⟨fun z hz => ?_, insI_pw x ys h2⟩
        rcases (insI_mem x ys z).mp hz with rfl | hz
        · omega
        · exact h1 z hz
theorem setI_mem : ∀ (xs : List Int) (z : Int), z ∈ setI xs ↔ z ∈ xs
  | [], z => by simp [setI]
  | x :: xs, z => by unfold setI; rw [insI_mem, setI_mem xs z]; simp
theorem setI_pw : ∀ xs : List Int, (setI xs).Pairwise (· < ·)
  | [] => .nil
  | x :: xs => insI_pw x _ (setI_pw xs)
theorem pw_unique : ∀ {xs ys : List Int}, xs.Pairwise (· < ·) → ys.Pairwise (· < ·) → (∀ z, z ∈ xs ↔ z ∈ ys) → xs = ys
  | [], [], _, _, _ => rfl
  | [], y :: ys, _, _, h => by have := (h y).mpr (by simp); simp at this
  | x :: xs, [], _, _, h => by have := (h x).mp (by simp); simp at this
  | x :: xs, y :: ys, h1, h2, h => by
    have ⟨a1, a2⟩ := List.pairwise_cons.mp h1
    have ⟨b1, b2⟩ := List.pairwise_cons.mp h2
    have e : x = y := by
      have hx := (h x).mp (by simp)
      have hy := (h y).mpr (by simp)
      rcases List.mem_cons.mp hx with e | hx
      · exact e
      · rcases List.mem_cons.mp hy with e | hy
        · exact e.symm
        · have := a1 y hy; have := b1 x hx; omega
    subst e
    congr 1
    refine pw_unique a2 b2 fun z => ⟨fun hz => ?_, fun hz => ?_⟩
    · rcases List.mem_cons.mp ((h z).mp (by simp [hz])) with e | k
      · have := a1 z hz; omega
      · exact k
    · rcases List.mem_cons.mp ((h z).mpr (by simp [hz])) with e | k
      · have := b1 z hz; omega
      · exact k
def rSetSeq (K : PySem.W.Frag) (w : World) : List V → Hp → VK → Prop := fun xs H Q => ∃ (l : Addr) (ns : List Int), xs = [.ref l] ∧ (SqL K H l (ns.map V.int) ∨ SqT K H l (ns.map V.int)) ∧ ns.length < 64 ∧
  ∀ p c, H p = none → c ≤ ns.length → Q (.ref p) (upd H p (SetO w p (fun j => decide (j ∈ ns)) c))
theorem ints_vals : ∀ {ns : List Int} {us : List Value}, Vals (ns.map V.int) us → IntsAre us ns
  | [], _, .nil => .nil
  | _ :: _, _, .cons ⟨t, e⟩ r => by subst e; exact .cons _ _ (ints_vals r)
theorem cr_setSeq (hc : X.calm = true) : CallR X (.type "set") (rSetSeq X.K X.w) := by
  intro pins s σ H xs us Q I rx ⟨l, ns, exs, hq, hl, q⟩
  subst exs
  cases rx with | cons r1 r2 =>
  cases r2
  cases (show _ = Value.ref l from r1)
  have hb : ns.length + 1 < scanBound := by unfold scanBound; omega
  have done : ∀ (h' : Heap) (tk c : Nat), SetR X.w h' s.heap.objs.size (fun j => decide (j ∈ ns)) c → c ≤ ns.length → (∀ b o, s.heap.get? b = some o → h'.get? b = some o) → EP X pins σ Q (.ref s.heap.objs.size) { s with heap := h', toks := tk } := fun h' tk c hS hc' keep =>
    ⟨.ref s.heap.objs.size, _, I.laid (t' := tk) keep (Nat.le_refl _) (setO_new hS), rfl, q _ c (I.hok.fresh (Nat.le_refl _)) hc'⟩
  rcases hq with hq | hq
  · obtain ⟨its, rv, hp, _⟩ := I.list hq
    exact set_of_listI ns (I.ok.hd hc) hp.isList (by simpa using ints_vals rv) hb done
  · obtain ⟨its, rv, hp, _⟩ := I.tuple hq
    exact call_set_tupI ns (I.ok.hd hc) (show s.heap.IsTuple l its.toArray from hp) (by simpa using ints_vals rv) hb done
def gSortSet : PV → Option (List PV)
  | .lst xs => (intsP xs).bind fun ns => if ns.length < 64 then some ((setI ns).map .int) else none
  | .tup xs => (intsP xs).bind fun ns => if ns.length < 64 then some ((setI ns).map .int) else none
  | _ => none
def eSS (k : Bool) (fa : Fr → M PV) : Fr → M PV := fun ρ => fa ρ >>= fun x => rd x >>= fun y => M.of (gSortSet y) >>= fun zs => nw k (.lst zs)
theorem RunE.rd1 {k : PV → M PV} {w : Wo} {st : Store} {ρ : Fr} {σ : L2.St} {H : Hp} {Q : VK} {x : PV} {v : V} (h : RunE X T W (fun _ => rd x >>= k) w st ρ σ H Q) (r : Rep (Cx.g X T) w H v x) : ∃ y, Vw (Cx.g X T) w H v y ∧ RunE X T W (fun _ => k y) w st ρ σ H Q := by
  cases e : rd x st with
  | ok y s1 =>
    obtain ⟨rfl, h1, h2⟩ := rd_ok e
    have p := h.post
    rw [M.bind_ok e] at p
    exact ⟨y, h.wr.view r h1 h2, h.wr, h.fr, p⟩
  | exc x s1 => exact (rd_noexc e).elim
  | bad => exact (h.no (M.bind_bad e)).elim
theorem pp_sortedSet (k : Bool) {p2 pos2 : Pos} (hc : X.calm = true) (hg : Gl X "sorted") (hm : X.mg "sorted" = none) (hg2 : Gl X "set") (hm2 : X.mg "set" = none) (ha : PP X T W a fa)
    (he : starEach [.Call (.Name "set" p2) [a] [] pos2] X.env = (false, eval (.Call (.Name "set" p2) [a] [] pos2) X.env) :: starEach [] X.env := by rfl) (hpl : (backTo pos (starEach [] X.env)).any (·.1) = false := by rfl)
    (he2 : starEach [a] X.env = (false, eval a X.env) :: starEach [] X.env := by rfl) (hpl2 : (backTo pos2 (starEach [] X.env)).any (·.1) = false := by rfl)
    (hv : bootBuiltins "sorted" = some (.builtin "sorted") := by decide +kernel) (hv2 : bootBuiltins "set" = some (.type "set") := by decide +kernel) : PP X T W (.Call (.Name "sorted" p) [.Call (.Name "set" p2) [a] [] pos2] [] pos) (eSS k fa) := by
  refine ⟨fun pins s σ H Q I ⟨w, st, ρ, h⟩ => (pe_callB (cr_sortedSet hc) hg hm hv (pa_cons (pe_callTy (cr_setSeq hc) hg2 hm2 hv2 (pa_cons ha pa_nil he2) (by decide +kernel) (by decide +kernel) he2 hpl2) pa_nil he) (by decide +kernel) (by decide +kernel) he hpl).run pins s σ H Q I ?_⟩
  refine RunE.eE (k := fun x _ => rd x >>= fun y => M.of (gSortSet y) >>= fun zs => nw k (.lst zs)) h fun w1 st1 x v H1 l r h1 => ?_
  obtain ⟨y, vw, h2⟩ := h1.rd1 r
  obtain ⟨zs, e, h3⟩ := h2.of
  have core : ∀ (b : Addr) (vs : List V) (xs : List PV), v = .ref b → (SqL X.K H1 b vs ∨ SqT X.K H1 b vs) → RepL (Cx.g X T) w1 H1 vs xs → ((intsP xs).bind fun ns => if ns.length < 64 then some ((setI ns).map PV.int) else none) = some zs →
      rSetSeq X.K X.w [v] H1 fun u H2 => rSortedSet X.w [u] H2 Q := fun b vs xs ev hq rl e => by
    cases q1 : intsP xs with
    | none => rw [q1] at e; cases e
    | some ns =>
      rw [q1] at e
      have e' : (if ns.length < 64 then some ((setI ns).map PV.int) else none) = some zs := e
      split at e'
      · rename_i hl
        cases e'
        have q2 := ints_ok q1
        subst q2
        have q3 := rl.intsV
        subst q3
        refine ⟨b, ns, by rw [ev], hq, hl, fun q c hq' hc' => ⟨q, _, c, rfl, upd_same, by omega, fun ns' p' hp' hm' hl' hn' => ?_⟩⟩
        have es : ns' = setI ns := pw_unique hp' (setI_pw ns) fun z => by rw [hm' z, setI_mem]; simp
        subst es
        -- the set stands between
        have sm : Same H1 (upd H1 q (SetO X.w q (fun j => decide (j ∈ ns)) c)) := same_new hq'
        have h4 : RunE X T W (fun _ => nw k (.lst ((setI ns).map .int))) w1 st1 ρ σ (upd H1 q (SetO X.w q (fun j => decide (j ∈ ns)) c)) Q := ⟨h3.wr.same sm, h3.fr.mono (Le.same sm), h3.post.mono (Le.same sm)⟩
        exact h4.mkL (.ints _) hn'
      · cases e'
  unfold gSortSet at e
  split at e
  · cases vw with | @lst b vs _ s r => exact core b vs _ rfl (.inl (.inl (.inl s))) r e
  · cases vw with | @tup b vs _ s r => exact core b vs _ rfl (.inr s.sq) r e
  · cases e
end
end Eg

/-! E15: repr of data, join, small dict displays. -/
namespace Eg
open PySem PySem.Spec PyProof.Rows L2
section
variable {X : Cx} {T : Tabs} {W : WX} {a b c e : Expr} {es : List Expr} {fa fb fc : Fr → M PV} {fr : Fr → M (List PV)} {pos p : Pos}
/-! ### repr -/
def okS (x : List Nat) : Bool := x.all (fun c => decide (c < 1114112))
def isSeqP : PV → Bool
  | .tup _ => true
  | .lst _ => true
  | _ => false
def gRepr : List PV → Option PV
  | [x] => if isSeqP x && (isD x && ((toD x).showable && (decide (pdep x ≤ 60) && (decide ((toD x).shown.length ≤ sizeLine) && okS (toD x).shown.cps.toList)))) then some (.str (toD x).shown.cps.toList) else none
  | _ => none
theorem cr_repr (hu : X.A.units + 64 < cLine) (hgd : X.A.guards = some []) : CallR X (.builtin "repr") (fun xs H Q => ∃ (l : Addr) (d : PyData), xs = [.ref l] ∧ Dp X.K H (.ref l) d ∧ d.showable = true ∧ d.canLay0 = true ∧ d.depth ≤ 60 ∧ d.shown.length ≤ sizeLine ∧ Q (.str d.shown) H) := by
  intro pins s σ H xs us Q I rx ⟨l, d, exs, hd, h1, h2, h3, h4, q⟩
  subst exs
  cases rx with | cons r1 r2 =>
  cases r2
  obtain ⟨as, rd⟩ := Dp.reads I d _ _ hd r1
  cases (show _ = Value.ref l from r1)
  refine repr_of_reads' rd h1 (fun z => by rw [PyData.hasDict_of_canLay d h2] at z; cases z) hgd (by omega) (fun _ _ z => z) (fun h' u tk k => ⟨.str d.shown, H, I.kept k, ⟨u, rfl⟩, q⟩) h4
theorem c1_repr : Call1 X T (fun xs H Q => ∃ (l : Addr) (d : PyData), xs = [.ref l] ∧ Dp X.K H (.ref l) d ∧ d.showable = true ∧ d.canLay0 = true ∧ d.depth ≤ 60 ∧ d.shown.length ≤ sizeLine ∧ Q (.str d.shown) H) gRepr := by
  intro w st H vs xs z Q wr vw e af
  unfold gRepr at e
  split at e
  · rename_i x
    split at e
    · rename_i hx
      simp only [Bool.and_eq_true, decide_eq_true_eq] at hx
      obtain ⟨h0, h1, h2, h3, h4, h5⟩ := hx
      cases e
      obtain ⟨v, rfl, vv⟩ := VwL1 vw
      have hl : ∃ l, v = .ref l := by cases vv <;> first | (cases h0; done) | exact ⟨_, rfl⟩
      obtain ⟨l, rfl⟩ := hl
      refine ⟨l, toD x, rfl, vv.dp h1, h2, vv.lay h1, by rw [depth_toD]; exact h3, h4, ?_⟩
      have hs := s2_of (toD x).shown
      rw [hs]
      exact af.here wr (.str _ h5)
    · cases e
  · cases e
theorem pp_repr (hu : X.A.units + 64 < cLine) (hgd : X.A.guards = some []) (hg : Gl X "repr") (hm : X.mg "repr" = none) (ha : PPA X T W (e :: es) fr)
    (he : starEach (e :: es) X.env = (false, eval e X.env) :: starEach es X.env := by rfl) (hpl : (backTo pos (starEach es X.env)).any (·.1) = false := by rfl) (hv : bootBuiltins "repr" = some (.builtin "repr") := by decide +kernel) : PP X T W (.Call (.Name "repr" p) (e :: es) [] pos) (eB gRepr fr) :=
  pp_callB (cr_repr hu hgd) c1_repr hg hm hv ha (by decide +kernel) (by decide +kernel) he hpl
/-! ### join -/
def strsP : List PV → Option (List (List Nat))
  | [] => some []
  | .str x :: xs => (strsP xs).map (x :: ·)
  | _ => none
theorem strsP_ok {G : Cfg} {w : Wo} {H : Hp} : ∀ {xs : List PV} {ys : List (List Nat)} {vs : List V}, strsP xs = some ys → RepL G w H vs xs → vs = (ys.map s2).map V.str ∧ ∀ y ∈ ys, okS y = true
  | [], _, _, h, .nil => by cases h; exact ⟨rfl, by simp⟩
  | x :: xs, ys, _, h, .cons r rs => by
    cases x with
    | str y =>
      simp only [strsP] at h
      cases q : strsP xs with
      | none => rw [q] at h; cases h
      | some zs =>
        rw [q] at h; cases h
        obtain ⟨e1, e2⟩ := strsP_ok q rs
        cases r with | str _ k => exact ⟨by rw [e1]; rfl, by simpa using ⟨k, e2⟩⟩
    | _ => cases h
/-- the texts one behind another -/
def gJoin0 : PV → PV → Option PV
  | .str [], .lst xs => (strsP xs).bind fun ys => if (ys.map (·.length)).sum ≤ 16777216 then some (.str ys.flatten) else none
  | _, _ => none
theorem join_flat : ∀ ys : List (List Nat), TL.joinL [] ys = ys.flatten
  | [] => rfl
  | [p] => by simp [TL.joinL]
  | p :: q :: r => by rw [TL.joinL, join_flat (q :: r)]; simp
theorem pp_join0 {o : Expr} {apos : Pos} (ho : PP X T W o fa) (he : PP X T W e fb) (hs : starEach [e] X.env = [(false, eval e X.env)] := by rfl) (hbase : attributeBase o "join" X.env (eval o X.env) = eval o X.env := by rfl) (hline : (apos.endLine == pos.line) = true := by rfl) :
    PP X T W (.Call (.Attribute o "join" apos) [e] [] pos) (fun ρ => fa ρ >>= fun x => (M.of (match x with | .str [] => some () | _ => none)) >>= fun _ => fb ρ >>= fun y => g2 gJoin0 x y) := by
  refine ⟨fun pins s σ H Q I ⟨w, st, ρ, h⟩ => (pe_join ho he hs hbase hline).run pins s σ H Q I ?_⟩
  refine RunE.eE (k := fun x ρ => (M.of (match x with | .str [] => some () | _ => none)) >>= fun _ => fb ρ >>= fun y => g2 gJoin0 x y) h fun w1 st1 x v H1 l1 rx h1 => ?_
  have hx : x = .str [] := by
    have p := h1.post
    revert p
    cases x with
    | str y => cases y with
      | nil => intro _; rfl
      | cons _ _ => intro p; exact p.elim
    | _ => intro p; exact p.elim
  subst hx
  cases rx
  refine ⟨⟨_, rfl⟩, ?_⟩
  have h2 : RunE X T W (fun ρ => fb ρ >>= fun y => g2 gJoin0 (.str []) y) w1 st1 ρ σ H1 Q := ⟨h1.wr, h1.fr, h1.post⟩
  refine RunE.eE (k := fun y _ => g2 gJoin0 (.str []) y) h2 fun w2 st2 y u H2 l2 ry h3 => ?_
  rcases g2_ok (g := gJoin0) (x := .str []) (y := y) (st := st2) with ⟨z, x', y', q1, q2, q3, q4, q5, q6⟩ | q
  · cases q1
    have vw := h3.wr.view ry q3 q4
    cases vw with
    | @lst b vs xs hl rl =>
      simp only [gJoin0] at q5
      cases q7 : strsP xs with
      | none => rw [q7] at q5; cases q5
      | some ys =>
        rw [q7] at q5
        have q5' : (if (ys.map (·.length)).sum ≤ 16777216 then some (PV.str ys.flatten) else none) = some z := q5
        split at q5'
        · rename_i hsum
          cases q5'
          obtain ⟨e1, e2⟩ := strsP_ok q7 rl
          subst e1
          refine ⟨s2 [], b, ys.map s2, rfl, rfl, .inl (.inl (.inl hl)), ?_, ?_⟩
          · have e3 : ((ys.map s2).map (·.length)) = ys.map (·.length) := by rw [List.map_map]; rfl
            rw [e3]
            have : (s2 []).length = 0 := rfl
            rw [this]; omega
          · have e4 : Txt.join (s2 []) (ys.map s2) = s2 ys.flatten := by
              have h5 := TL.tl_join (s2 []) (ys.map s2)
              rw [← TL.join_eq] at h5
              have e6 : (ys.map s2).map TL.tl = ys := by
                rw [List.map_map]
                conv => rhs; rw [← List.map_id ys]
                exact List.map_congr_left fun y _ => by simp [TL.tl, s2]
              rw [e6] at h5
              have e7 : TL.tl (s2 []) = [] := rfl
              rw [e7, join_flat] at h5
              have e8 := s2_of (Txt.join (s2 []) (ys.map s2))
              rw [e8]
              exact congrArg s2 h5
            rw [e4]
            refine h3.ret q6 (Le.refl _ _) h3.wr (.str _ ?_)
            rw [List.all_eq_true]
            intro c hc
            obtain ⟨y, hy, hyc⟩ := List.mem_flatten.mp hc
            exact List.all_eq_true.mp (e2 y hy) c hyc
        · cases q5'
    | _ => cases q5
  · exact (h3.no q).elim
end
end Eg

/-! E16: the end: from the promise of the law's def to the walk that the head wants. -/
namespace Eg
open PySem PySem.Spec PyProof.Rows L2
section
variable {P : Program} {w : World} {K : PySem.W.Frag} {mg mb : Str → Option Value}
/-- the shape of what the caller wants -/
def EndQ (s1 : Shared) : Except Value Flow → Shared → Prop := fun r s' => r = .ok (.ret (.bool true)) ∧ OldK s1.heap s'.heap ∧ s'.os = s1.os ∧ AllBare s'.gens
theorem sq_fz {H : Hp} {a : Addr} {vs : List V} (h : SqL K H a vs) : FzL K ⟨fun _ => False, fun _ => none⟩ H a vs := by
  rcases h with h | h
  · exact .inl ⟨fun z => z, h⟩
  · exact .inr h
theorem wr0 {G : Cfg} {H : Hp} (ht : TabW G.T.tb ⟨fun _ => False, fun _ => none⟩ H) : Wr G ⟨fun _ => False, fun _ => none⟩ Store.empty H where
  cell l c e := by
    have : Store.empty.get l = none := rfl
    rw [this] at e; cases e
  inj l l' a e := by cases e
  trk a d := d.elim
  ran l a e := by cases e
  tab := ht
  nic a o d := d.elim
theorem sp_start {T : Tabs} {F : Fn} {st' : Store} {H : Hp} {a : Addr} {ns : List Int} (ht : TabW T.tb ⟨fun _ => False, fun _ => none⟩ H) (hs : SqL K H a (ns.map V.int)) (e : F [.scr ns] Store.empty = .ok (.bl true) st') : spF ⟨K, P, w, T⟩ 1 F [.ref a] H (fun v _ => v = .bl true) (fun _ _ _ => False) := by
  refine ⟨⟨fun _ => False, fun _ => none⟩, Store.empty, [.scr ns], rfl, wr0 ht, .cons (.scr (sq_fz hs)) .nil, ?_⟩
  rw [e]
  intro w' v H' _ _ r
  cases r
  rfl
theorem end_one {k : Nat} {f a : Addr} {fd : FuncData} {x : Str} {sp : Sp} {s1 : Shared} {us : List Value} {ns : List Int} {H : Hp} (kin : K.In s1.heap) (gN : s1.heap.Ns mainGlobals mg) (bN : s1.heap.Ns builtinsNs mb) (bB : ∀ y : Str, y ≠ "__name__" → mb y = bootBuiltins y)
    (lim : s1.heap.NoLimit) (g0 : s1.gens = #[]) (ob : s1.heap.get? a = some { cls := .type "list", data := .seq us.toArray }) (room : Room k callerA) (F : ∀ base : Heap, K.In base → base.Ns mainGlobals mg → FnG P w K mg base k f fd [x] sp)
    (bnd : ∀ (s : Shared) (u : Value), BindsTo s fd ⟨[u], []⟩ [(x, u)]) (only : L2.Only H) (hok : HOk P w H s1.heap) (alone : ∀ b, H b ≠ none → b = a) (kno : H a ≠ none → K.lookup a = none)
    (h : sp [.ref a] H (fun v _ => v = .bl true) (fun _ _ _ => False)) : codeAny (model P w) callerA (.call (.ref f) ⟨[.ref a], []⟩) (EndQ s1) s1 := by
  have isNone : ∀ {b : Addr} {o : Obj} {es : Array DictEntry} {ep : Nat}, s1.heap.get? b = some o → o.data = .dict es ep → H b = none := by
    intro b o es ep e d
    refine Classical.byContradiction fun z => ?_
    have eb := alone b z
    subst eb
    rw [ob] at e
    cases e
    cases d
  have ns1 : ∀ {b : Addr} {m : Str → Option Value}, s1.heap.Ns b m → (hidT s1.heap H).Ns b m := by
    rintro b m ⟨o, es, ep, e, d, r⟩
    exact ⟨o, es, ep, hidT_get e (isNone e d), d, r⟩
  have kin1 : K.In (hidT s1.heap H) := by
    intro b o e
    refine hidT_get (kin b o e) (Classical.byContradiction fun z => ?_)
    have eb := alone b z
    subst eb
    rw [kno z] at e
    cases e
  obtain ⟨mc, l1, l2⟩ := lim
  have md : Mod K mg (hidT s1.heap H) := ⟨kin1, ns1 gN, ⟨mb, ns1 bN, bB⟩, ⟨mc, ns1 l1, l2⟩⟩
  have env : Env0 P w K mg (hidT s1.heap H) callerA [] s1 H := by
    refine ⟨rfl, md, fun b o e => of_hidT e, Nat.le_of_eq (hidT_size _ _), trivial, fun b hb => ?_, hok, .of_eq g0⟩
    exact absurd (show b ∈ ([] : List Addr) from hb) (by simp)
  have run := (F _ kin1 (ns1 gN)).run callerA [] s1 H ⟨[.ref a], []⟩ [.ref a] [.ref a] _ _ room rfl env (bnd s1 (.ref a)) (.cons rfl .nil) h
  refine codeAny_mono run fun r s' q => ?_
  cases r with
  | error e =>
    exact (False.elim (by
      revert q
      unfold CR L2.CX
      simp))
  | ok fl =>
    cases fl with
    | ret u =>
      obtain ⟨v, H', os, bare, un, hok', r', qv⟩ := q
      cases (show v = .bl true from qv)
      cases (show u = Value.bool true from r')
      refine ⟨rfl, OldK.of_keep fun b o e => ?_, os, bare⟩
      cases hb : H b with
      | none => exact un.keep b o e hb (by intro z; exact absurd (show b ∈ ([] : List Addr) from z) (by simp)) (by simp)
      | some t =>
        rcases only b with z | ⟨o2, xs, z⟩
        · rw [hb] at z; cases z
        · have e1 := (hok b _ z).1
          have e2 := (hok' b _ (un.frzs b o2 _ z)).1
          rw [e] at e1
          cases e1
          exact e2
    | next => exact q.elim
    | brk => exact q.elim
    | cont => exact q.elim
theorem end_call {k : Nat} {f a : Addr} {fd : FuncData} {x : Str} {sp : Sp} {s1 : Shared} {us : List Value} {ns : List Int} (kin : K.In s1.heap) (gN : s1.heap.Ns mainGlobals mg) (bN : s1.heap.Ns builtinsNs mb) (bB : ∀ y : Str, y ≠ "__name__" → mb y = bootBuiltins y)
    (lim : s1.heap.NoLimit) (g0 : s1.gens = #[]) (ob : s1.heap.get? a = some { cls := .type "list", data := .seq us.toArray }) (hi : IntsAre us ns) (hl : ns.length ≤ sizeLine) (room : Room k callerA) (F : ∀ base : Heap, K.In base → base.Ns mainGlobals mg → FnG P w K mg base k f fd [x] sp)
    (bnd : ∀ (s : Shared) (u : Value), BindsTo s fd ⟨[u], []⟩ [(x, u)]) (h : ∀ H : Hp, SqL K H a (ns.map V.int) → sp [.ref a] H (fun v _ => v = .bl true) (fun _ _ _ => False)) : codeAny (model P w) callerA (.call (.ref f) ⟨[.ref a], []⟩) (EndQ s1) s1 := by
  have rv := vals_ints hi
  have lv := hi.length
  cases hk : K.lookup a with
  | some o =>
    have e := kin a o hk
    rw [ob] at e
    cases e
    have sq : SqL K (fun _ => none) a (ns.map V.int) := .inr ⟨_, us.toArray, _, hk, rfl, rfl, rfl, by rw [List.size_toArray, lv]; exact hl, by simpa using rv⟩
    exact end_one (H := fun _ => none) (ns := ns) kin gN bN bB lim g0 ob room F bnd (fun _ => .inl rfl) (fun b u z => nomatch z) (fun b z => absurd rfl z) (fun z => absurd rfl z) (h _ sq)
  | none =>
    let H0 : Hp := fun b => if b = a then some (.frz { cls := .type "list", data := .seq us.toArray } (.lst (ns.map V.int))) else none
    have ha : H0 a = some (.frz { cls := .type "list", data := .seq us.toArray } (.lst (ns.map V.int))) := if_pos rfl
    have hne : ∀ b, b ≠ a → H0 b = none := fun b hb => if_neg hb
    refine end_one (H := H0) (ns := ns) kin gN bN bB lim g0 ob room F bnd (fun b => ?_) (fun b u z => ?_) (fun b z => ?_) (fun _ => hk) (h _ (.inl (.inr ⟨_, ha⟩)))
    · by_cases hb : b = a
      · subst hb; exact .inr ⟨_, _, ha⟩
      · exact .inl (hne b hb)
    · by_cases hb : b = a
      · subst hb
        rw [ha] at z
        cases z
        exact ⟨ob, by rw [List.length_map]; exact hl, us, _, rv, ob⟩
      · rw [hne b hb] at z; cases z
    · exact Classical.byContradiction fun hb => z (hne b hb)
end
theorem walk_end {l : PySem.W.OpenLaw} {n k : Nat} {q : Program} {loose : List Str} {XP : (Str → Option Value) → Heap → Prop} {YP : World → Heap → Prop} {d : DefRec} {x : Str} {T : Tabs} {F : Fn}
    (htb : T.tb = []) (hn : l.most = some n) (hn2 : n ≤ sizeLine) (hdf : d.params.defaults = []) (hr : Room k callerA)
    (hF : ∀ ns : List Int, ns.length ≤ n → ∃ st', F [.scr ns] Store.empty = .ok (.bl true) st')
    (prom : ∀ (w : World) (mg : Str → Option Value) (fa : Addr) (h : Heap), YP w h → h.Ns mainGlobals mg → mg d.name = some (.ref fa) →
      ∃ (K : PySem.W.Frag) (fd : FuncData), K.In h ∧ (∀ (s : Shared) (u : Value), BindsTo s fd ⟨[u], []⟩ [(x, u)]) ∧ ∀ base : Heap, K.In base → base.Ns mainGlobals mg → FnG l.prog w K mg base k fa fd [x] (spF ⟨K, l.prog, w, T⟩ 1 F)) :
    PySem.W.WalkO q loose XP YP l.row.toRowW d [] (fun f vs => PySem.call f vs) := by
  refine Att.attach_call hn hdf fun w s0 s1 mg mb fa o pm cd doc a us ns G Y ho hd hcd hmg hob hin hle hgen => ?_
  obtain ⟨K, fd, kin, bnd, f⟩ := prom w mg fa _ Y G.T.g hmg
  obtain ⟨st', e⟩ := hF ns hle
  exact end_call kin G.T.g G.T.b G.T.builtins G.T.nolimit hgen hob hin (Nat.le_trans hle hn2) hr f bnd fun H sq => sp_start (by rw [htb]; intro p hp; cases hp) sq e
end Eg

/-! E17: short forms for the printed proofs. -/
namespace Eg
open PySem PySem.Spec PyProof.Rows L2
def visB (sc : Scope) (x : Str) : Bool := match sc.names.lookup x with
  | some .local => true
  | some .cell => true
  | some .free => true
  | _ => false
theorem vis_of {sc : Scope} {x : Str} (h : visB sc x = true) : Vis sc x := by
  unfold visB at h
  split at h
  · rename_i e; exact .inl e
  · rename_i e; exact .inr (.inl e)
  · rename_i e; exact .inr (.inr e)
  · cases h
def locB (sc : Scope) (x : Str) : Bool := match sc.names.lookup x with
  | some .local => true
  | some .cell => true
  | _ => false
theorem loc_of {sc : Scope} {x : Str} (h : locB sc x = true) : Loc sc x := by
  unfold locB at h
  split at h
  · rename_i e; exact .inl e
  · rename_i e; exact .inr e
  · cases h
def glB (sc : Scope) (x : Str) : Bool := match sc.names.lookup x with
  | some .globalImplicit => true
  | _ => false
def eqS (o : Option Str) (x : Str) : Bool := match o with
  | some y => y == x
  | none => false
theorem eqS_ok {o : Option Str} {x : Str} (h : eqS o x = true) : o = some x := by
  unfold eqS at h
  split at h
  · rw [eq_of_beq h]
  · cases h
def isLoc : Option NameKind → Bool
  | some .local => true
  | _ => false
theorem isLoc_ok {o : Option NameKind} (h : isLoc o = true) : o = some .local := by
  unfold isLoc at h
  split at h
  · rfl
  · cases h
/-- a name that is read -/
def okV (N : List Str) (sc : Scope) (i : Nat) (x : Str) : Bool := eqS N[i]? x && (visB sc x && (!(x == ("__debug__" : Str)) && !(x == ("__classdict__" : Str))))
/-- a name that is written -/
def okW (N : List Str) (sc : Scope) (fn : Str → Bool) (i : Nat) (x : Str) : Bool := eqS N[i]? x && (locB sc x && (fn x || isLoc (sc.names.lookup x)))
section
variable {X : Cx} {T : Tabs} {W : WX} {a b c e : Expr} {es : List Expr} {fa fb fc : Fr → M PV} {fr : Fr → M (List PV)} {pos p : Pos}
theorem pv (i : Nat) {x : Str} (h : okV X.N X.env.scope i x = true := by kernel_rfl) : PP X T W (.Name x pos) (eVar i) := by
  unfold okV at h
  simp only [Bool.and_eq_true, Bool.not_eq_true'] at h
  exact pp_var i (eqS_ok h.1) (vis_of h.2.1) h.2.2.1 h.2.2.2
theorem pgn (i : Nat) {x : Str} (hN : X.N.Nodup) (h : okW X.N X.env.scope X.fn i x = true := by kernel_rfl) : PPG X T (.Name x pos) [i] (gN i) := by
  unfold okW at h
  simp only [Bool.and_eq_true, Bool.or_eq_true] at h
  exact ppg_name hN (eqS_ok h.1) (loc_of h.2.1) (h.2.2.imp id isLoc_ok)
theorem pst (i : Nat) {x : Str} {pos' : Pos} (hN : X.N.Nodup) (he : PP X T W e fa) (h : okW X.N X.env.scope X.fn i x = true := by kernel_rfl) (hs : swapsWith e (some (.Name x pos')) pos.line X.env = pure false := by rfl) : PPS X T W (.Assign [.Name x pos'] e pos) (sAsg fa (gN i)) := by
  unfold okW at h
  simp only [Bool.and_eq_true, Bool.or_eq_true] at h
  exact pps_set hN (eqS_ok h.1) (loc_of h.2.1) he (h.2.2.imp id isLoc_ok) hs
theorem ppar (i j : Nat) {x y : Str} {ta : Fr → M (List PV)} {px py pt : Pos} {kt k2 : Nat} {pt2 : Pos} (hc : X.calm = true) (hN : X.N.Nodup) (ha : PPA X T W [a, b] ta)
    (h : (eqS X.N[i]? x && (eqS X.N[j]? y && (!(i == j) && (isLoc (X.env.scope.names.lookup x) && isLoc (X.env.scope.names.lookup y))))) = true := by kernel_rfl)
    (hw : swappedStores [.Tuple [.Name x px, .Name y py] kt pt] (.Tuple [a, b] k2 pt2) X.env = pure (some [x, y]) := by rfl)
    (hs : swapsWithSole [.Tuple [.Name x px, .Name y py] kt pt] (.Tuple [a, b] k2 pt2) pos.line X.env = pure false := by rfl) :
    PPS X T W (.Assign [.Tuple [.Name x px, .Name y py] kt pt] (.Tuple [a, b] k2 pt2) pos) (sPar i j ta) := by
  simp only [Bool.and_eq_true, Bool.not_eq_true', beq_eq_false_iff_ne] at h
  exact pps_par hc hN (eqS_ok h.1) (eqS_ok h.2.1) h.2.2.1 (isLoc_ok h.2.2.2.1) (isLoc_ok h.2.2.2.2) ha hw hs
def okG (sc : Scope) (x : Str) : Bool := glB sc x && !(x == ("__debug__" : Str))
theorem gl_of {x : Str} (h : glB X.env.scope x = true) : Gl X x := by
  unfold glB at h
  show X.env.scope.names.lookup x = some .globalImplicit
  split at h
  · rename_i e; exact e
  · cases h
theorem gl {x : Str} (h : glB X.env.scope x = true := by kernel_rfl) : Gl X x := gl_of h
theorem pgI {x : Str} {i : Int} (hm : ∃ t, X.mg x = some (.int i t)) (h : okG X.env.scope x = true := by kernel_rfl) : PP X T W (.Name x pos) (eC (.int i)) := by
  unfold okG at h
  simp only [Bool.and_eq_true, Bool.not_eq_true'] at h
  exact pp_gInt (gl_of h.1) hm h.2
theorem psS {x : Str} (y : List Nat) {j : Nat} (h : (x.cps.toList == y && okS y) = true := by kernel_rfl) : PP X T W (.Constant (.str x) j pos) (eC (.str y)) := by
  simp only [Bool.and_eq_true] at h
  refine pp_str ?_ h.2
  rw [← eq_of_beq h.1]
/-! comparisons -/
variable (hu : X.A.units + 64 < cLine) (ha : PP X T W a fa) (hb : PP X T W b fb) (hc : PP X T W c fc)
include hu ha hb
theorem c_eq : PP X T W (.Compare a [.Eq] [b] pos) (e2 gEq fa fb) := pp_cmp (op_eqP hu) o2_eq ha hb (nobehind _ (by decide) (by decide))
theorem c_ne : PP X T W (.Compare a [.NotEq] [b] pos) (e2 gNe fa fb) := pp_cmp (op_neP hu) o2_ne ha hb (nobehind _ (by decide) (by decide))
theorem c_lt : PP X T W (.Compare a [.Lt] [b] pos) (e2 gLt fa fb) := pp_cmp (op_ltP hu) o2_lt ha hb (nobehind _ (by decide) (by decide))
theorem c_gt : PP X T W (.Compare a [.Gt] [b] pos) (e2 gGt fa fb) := pp_cmp (op_gtP hu) o2_gt ha hb (nobehind _ (by decide) (by decide))
theorem c_le : PP X T W (.Compare a [.LtE] [b] pos) (e2 gLe fa fb) := pp_cmp (op_leP hu) o2_le ha hb (nobehind _ (by decide) (by decide))
theorem c_ge : PP X T W (.Compare a [.GtE] [b] pos) (e2 gGe fa fb) := pp_cmp (op_geP hu) o2_ge ha hb (nobehind _ (by decide) (by decide))
theorem t_eq : PPT X T W (.Compare a [.Eq] [b] pos) (eT (e2 gEq fa fb)) := ppt_cmp (op_eqP hu) o2_eq ha hb (nobehind _ (by decide) (by decide))
theorem t_ne : PPT X T W (.Compare a [.NotEq] [b] pos) (eT (e2 gNe fa fb)) := ppt_cmp (op_neP hu) o2_ne ha hb (nobehind _ (by decide) (by decide))
theorem t_lt : PPT X T W (.Compare a [.Lt] [b] pos) (eT (e2 gLt fa fb)) := ppt_cmp (op_ltP hu) o2_lt ha hb (nobehind _ (by decide) (by decide))
theorem t_gt : PPT X T W (.Compare a [.Gt] [b] pos) (eT (e2 gGt fa fb)) := ppt_cmp (op_gtP hu) o2_gt ha hb (nobehind _ (by decide) (by decide))
theorem t_le : PPT X T W (.Compare a [.LtE] [b] pos) (eT (e2 gLe fa fb)) := ppt_cmp (op_leP hu) o2_le ha hb (nobehind _ (by decide) (by decide))
theorem t_ge : PPT X T W (.Compare a [.GtE] [b] pos) (eT (e2 gGe fa fb)) := ppt_cmp (op_geP hu) o2_ge ha hb (nobehind _ (by decide) (by decide))
include hc
theorem c_lele (hm : lastMarks [.LtE, .LtE] [b, c] = false := by with_unfolding_all rfl) : PP X T W (.Compare a [.LtE, .LtE] [b, c] pos) (e3 gLe gLe fa fb fc) := pp_chain (op_leP hu) (op_leP hu) o2_le o2_le ha hb hc hm
theorem t_lele (hm : lastMarks [.LtE, .LtE] [b, c] = false := by with_unfolding_all rfl) : PPT X T W (.Compare a [.LtE, .LtE] [b, c] pos) (eT (e3 gLe gLe fa fb fc)) := ppt_chain (op_leP hu) (op_leP hu) o2_le o2_le ha hb hc hm
omit hu hc
theorem c_ins (hm : behindInMarks .In b = false := by rfl) : PP X T W (.Compare a [.In] [b] pos) (e2 gInS fa fb) := pp_cmp op_in_str o2_inS ha hb hm
theorem c_nins (hm : behindInMarks .NotIn b = false := by rfl) : PP X T W (.Compare a [.NotIn] [b] pos) (e2 gNotInS fa fb) := pp_cmp op_notin_str o2_notInS ha hb hm
theorem t_ins (hm : behindInMarks .In b = false := by rfl) : PPT X T W (.Compare a [.In] [b] pos) (eT (e2 gInS fa fb)) := ppt_cmp op_in_str o2_inS ha hb hm
theorem t_nins (hm : behindInMarks .NotIn b = false := by rfl) : PPT X T W (.Compare a [.NotIn] [b] pos) (eT (e2 gNotInS fa fb)) := ppt_cmp op_notin_str o2_notInS ha hb hm
end
section
variable {X : Cx} {T : Tabs} {W : WX} {a b c e : Expr} {es : List Expr} {fa fb fc : Fr → M PV} {fr : Fr → M (List PV)} {pos p : Pos}
/-! calls -/
theorem k_def {x : Str} {n k j : Nat} {F : Fn} (cl : CalW X.prog X.w X.K X.mg X.base T x n F k) (hr : Room j X.A) (hkj : k ≤ j) (hgd : X.A.guards = some []) (tk : Takes X W) (ha : PPA X T W (e :: es) fr) (h : okG X.env.scope x = true := by kernel_rfl)
    (he : starEach (e :: es) X.env = (false, eval e X.env) :: starEach es X.env := by rfl) (hpl : (backTo pos (starEach es X.env)).any (·.1) = false := by rfl) : PP X T W (.Call (.Name x p) (e :: es) [] pos) (eCall n F fr) := by
  unfold okG at h
  simp only [Bool.and_eq_true, Bool.not_eq_true'] at h
  exact pp_call cl (hr.mono hkj) hgd tk (gl_of h.1) h.2 ha he hpl
variable (ha : PPA X T W (e :: es) fr)
include ha
theorem k_len (hm : X.mg "len" = none) (hg : glB X.env.scope "len" = true := by kernel_rfl) (he : starEach (e :: es) X.env = (false, eval e X.env) :: starEach es X.env := by rfl) (hpl : (backTo pos (starEach es X.env)).any (·.1) = false := by rfl) : PP X T W (.Call (.Name "len" p) (e :: es) [] pos) (eB gLen fr) :=
  pp_callB call_lenP c1_len (gl_of hg) hm (by decide +kernel) ha (by decide +kernel) (by decide +kernel) he hpl
theorem k_abs (hm : X.mg "abs" = none) (hg : glB X.env.scope "abs" = true := by kernel_rfl) (he : starEach (e :: es) X.env = (false, eval e X.env) :: starEach es X.env := by rfl) (hpl : (backTo pos (starEach es X.env)).any (·.1) = false := by rfl) : PP X T W (.Call (.Name "abs" p) (e :: es) [] pos) (eB gAbs fr) :=
  pp_callB call_abs c1_abs (gl_of hg) hm (by decide +kernel) ha (by decide +kernel) (by decide +kernel) he hpl
theorem k_int (hm : X.mg "int" = none) (hg : glB X.env.scope "int" = true := by kernel_rfl) (he : starEach (e :: es) X.env = (false, eval e X.env) :: starEach es X.env := by rfl) (hpl : (backTo pos (starEach es X.env)).any (·.1) = false := by rfl) : PP X T W (.Call (.Name "int" p) (e :: es) [] pos) (eB gInt fr) :=
  pp_callTy call_int1 c1_int (gl_of hg) hm (by decide +kernel) ha (by decide +kernel) (by decide +kernel) he hpl
theorem k_max (hc : X.calm = true) (hm : X.mg "max" = none) (hg : glB X.env.scope "max" = true := by kernel_rfl) (he : starEach (e :: es) X.env = (false, eval e X.env) :: starEach es X.env := by rfl) (hpl : (backTo pos (starEach es X.env)).any (·.1) = false := by rfl) : PP X T W (.Call (.Name "max" p) (e :: es) [] pos) (eB gMax2 fr) :=
  pp_callB (call_max2 hc) c1_max2 (gl_of hg) hm (by decide +kernel) ha (by decide +kernel) (by decide +kernel) he hpl
theorem k_min (hc : X.calm = true) (hm : X.mg "min" = none) (hg : glB X.env.scope "min" = true := by kernel_rfl) (he : starEach (e :: es) X.env = (false, eval e X.env) :: starEach es X.env := by rfl) (hpl : (backTo pos (starEach es X.env)).any (·.1) = false := by rfl) : PP X T W (.Call (.Name "min" p) (e :: es) [] pos) (eB gMin2 fr) :=
  pp_callB (call_min2 hc) c1_min2 (gl_of hg) hm (by decide +kernel) ha (by decide +kernel) (by decide +kernel) he hpl
theorem k_all (hc : X.calm = true) (hm : X.mg "all" = none) (hg : glB X.env.scope "all" = true := by kernel_rfl) (he : starEach (e :: es) X.env = (false, eval e X.env) :: starEach es X.env := by rfl) (hpl : (backTo pos (starEach es X.env)).any (·.1) = false := by rfl) : PP X T W (.Call (.Name "all" p) (e :: es) [] pos) (eB gAll fr) :=
  pp_callB (cr_all hc) c1_all (gl_of hg) hm (by decide +kernel) ha (by decide +kernel) (by decide +kernel) he hpl
theorem k_any (hc : X.calm = true) (hm : X.mg "any" = none) (hg : glB X.env.scope "any" = true := by kernel_rfl) (he : starEach (e :: es) X.env = (false, eval e X.env) :: starEach es X.env := by rfl) (hpl : (backTo pos (starEach es X.env)).any (·.1) = false := by rfl) : PP X T W (.Call (.Name "any" p) (e :: es) [] pos) (eB gAny fr) :=
  pp_callB (cr_any hc) c1_any (gl_of hg) hm (by decide +kernel) ha (by decide +kernel) (by decide +kernel) he hpl
theorem k_tuple (hm : X.mg "tuple" = none) (hg : glB X.env.scope "tuple" = true := by kernel_rfl) (he : starEach (e :: es) X.env = (false, eval e X.env) :: starEach es X.env := by rfl) (hpl : (backTo pos (starEach es X.env)).any (·.1) = false := by rfl) : PP X T W (.Call (.Name "tuple" p) (e :: es) [] pos) (eB gTuple fr) :=
  pp_callTy call_tupK c1_tuple (gl_of hg) hm (by decide +kernel) ha (by decide +kernel) (by decide +kernel) he hpl
theorem k_repr (hu : X.A.units + 64 < cLine) (hgd : X.A.guards = some []) (hm : X.mg "repr" = none) (hg : glB X.env.scope "repr" = true := by kernel_rfl) (he : starEach (e :: es) X.env = (false, eval e X.env) :: starEach es X.env := by rfl) (hpl : (backTo pos (starEach es X.env)).any (·.1) = false := by rfl) : PP X T W (.Call (.Name "repr" p) (e :: es) [] pos) (eB gRepr fr) :=
  pp_repr hu hgd (gl_of hg) hm ha he hpl
omit ha
theorem k_isi (t : Ty) {x : Str} {p2 : Pos} (hm1 : X.mg "isinstance" = none) (hm2 : X.mg x = none) (ht : t ≠ .non) (ha : PP X T W a fa) (h1 : glB X.env.scope "isinstance" = true := by kernel_rfl) (h2 : (okG X.env.scope x && !(x == ("__name__" : Str))) = true := by kernel_rfl) (hv2 : bootBuiltins x = some (.type t.nm) := by decide +kernel)
    (hs : starEach [a, .Name x p2] X.env = (false, eval a X.env) :: starEach [.Name x p2] X.env := by rfl) (hs2 : starEach [.Name x p2] X.env = (false, eval (.Name x p2) X.env) :: starEach [] X.env := by rfl) (hpl : (backTo pos (starEach [.Name x p2] X.env)).any (·.1) = false := by rfl) : PP X T W (.Call (.Name "isinstance" p) [a, .Name x p2] [] pos) (e1 (gIsi t) fa) := by
  unfold okG at h2
  simp only [Bool.and_eq_true, Bool.not_eq_true', beq_eq_false_iff_ne] at h2
  exact pp_isi t (gl_of h1) hm1 (gl_of h2.1.1) hm2 hv2 ht ha h2.2 (by rw [beq_eq_false_iff_ne]; exact h2.1.2) hs hs2 hpl
end
end Eg
namespace Eg
open PySem PySem.Spec PyProof.Rows L2
def eJoin0 (fa fb : Fr → M PV) : Fr → M PV := fun ρ => fa ρ >>= fun x => (M.of (match x with | .str [] => some () | _ => none)) >>= fun _ => fb ρ >>= fun y => g2 gJoin0 x y
end Eg
namespace Eg
open PySem PySem.Spec PyProof.Rows L2
theorem fng_cal {P : Program} {w : World} {K : PySem.W.Frag} {mg : Str → Option Value} {base : Heap} {T : Tabs} {x qual : Str} {params : Arguments} {body : List Stmt} {scope : Scope} {f : Addr} {fd : FuncData} {N ps : List Str} {n k : Nat} {F : S} (FD : FunD K x qual params body scope [] [] f fd) (sc : FnScope N ps scope) (hn : ps.length = n)
    (hbody : ∀ (cdv : Value) (A : Around) (outer : List Env) (s : Shared) (H : Hp) (E : XK), Bd (cxOf (L2.CX P w) P w K mg base N qual scope f cdv A outer s H E) (fun cls d _ H' => E cls d H') k →
      PPSs (cxOf (L2.CX P w) P w K mg base N qual scope f cdv A outer s H E) T (fun cls d _ H' => E cls d H') body F) : FnG P w K mg base (k + 1) f fd ps (spF ⟨K, P, w, T⟩ n (fnB N.length F)) := by
  refine fng_of FD sc (fun vs H Q E ⟨_, _, xs, hl, _, r, _⟩ => by rw [r.length, hl, hn]) (fun cdv A outer s H vs Q E hB ⟨w0, st, xs, hl, wr, r, p⟩ => ?_)
  refine ⟨_, hbody cdv A outer s H E hB, w0, st, _, wr, FrR.start r, ?_⟩
  unfold fnB at p
  cases q : F (xs.map some ++ List.replicate (N.length - xs.length) none) st with
  | nx ρ st' => rw [q] at p; exact fun w1 σ1 H1 l wr1 _ => p w1 .non H1 l wr1 .non
  | rt y st' => rw [q] at p; exact p
  | bk _ _ => rw [q] at p; exact p.elim
  | ct _ _ => rw [q] at p; exact p.elim
  | exc e _ st' => rw [q] at p; exact fun w1 c d σ1 H1 l wr1 _ r1 => p w1 c d H1 l wr1 r1
  | bad => rw [q] at p; exact p
end Eg

/-! E18: instances: made, their fields, methods, properties. -/
namespace Eg
open PySem PySem.Spec PyProof.Rows L2
/-! ### freezing a location -/
section
variable {G : Cfg} {w : Wo} {H : Hp} {st : Store} {l : Nat} {a : Addr} {x : PV}
theorem LeR.show (w : Wo) (H : Hp) (a : Addr) : LeR w H (w.show a) H := ⟨fun _ _ h => h, fun _ d _ z => d z.1, fun _ _ _ h => h⟩
theorem Le.show (hl : w.η l = some a) : Le w H (w.show a) H := ⟨fun _ _ h => h, fun _ _ h => .inl h, fun _ d _ z => d z.1, fun _ _ _ h => h, fun _ h => h, fun b d _ k => ⟨d, fun z => k l (z ▸ hl)⟩, fun _ _ _ _ h => h⟩
theorem Wr.freeze (wr : Wr G w st H) (hl : w.η l = some a) (r : Rep G (w.show a) H (.ref a) x) : Wr G (w.show a) (st.put l (.frz x)) H where
  cell j c h := by
    rw [Store.get_put] at h
    by_cases e : j = l
    · subst e
      rw [if_pos rfl] at h
      cases h
      exact ⟨a, hl, fun z => z.2 rfl, r⟩
    · rw [if_neg e] at h
      obtain ⟨b, h1, h2⟩ := wr.cell j c h
      exact ⟨b, h1, h2.mr (LeR.show w H a) (wr.ran j b h1).1 (fun d => ⟨d, fun z => e (wr.inj j l a (z ▸ h1) hl)⟩) fun _ => rfl⟩
  inj := wr.inj
  trk b h := wr.trk b h.1
  ran j b h := wr.ran j b h
  tab := wr.tab.mr (LeR.show w H a) fun b ps _ q => q
  nic b u d e := wr.nic b u d.1 e
end
/-! ### a class of the law -/
/-- the def of a class as a function -/
structure MetW (P : Program) (w : World) (K : PySem.W.Frag) (mg : Str → Option Value) (base : Heap) (T : Tabs) (c : Nat) (m : Str) (n : Nat) (F : Fn) (k : Nat) : Prop where
  cls : Cls K (T.cls c)
  ex : ∃ f fd ps, FnG P w K mg base k f fd ps (spF ⟨K, P, w, T⟩ n F) ∧ Meth K (T.cls c) m f ∧ Binds K fd ps []
structure PrpW (P : Program) (w : World) (K : PySem.W.Frag) (mg : Str → Option Value) (base : Heap) (T : Tabs) (c : Nat) (m : Str) (F : Fn) (k : Nat) : Prop where
  cls : Cls K (T.cls c)
  ex : ∃ p f fd ps, FnG P w K mg base k f fd ps (spF ⟨K, P, w, T⟩ 1 F) ∧ PropOf K (T.cls c) m p f ∧ Binds K fd ps []
structure MakW (P : Program) (w : World) (K : PySem.W.Frag) (mg : Str → Option Value) (base : Heap) (T : Tabs) (c : Nat) (x : Str) (n : Nat) (F : Fn) (k : Nat) : Prop where
  ex : ∃ f fd ps, FnG P w K mg base k f fd ps (spF ⟨K, P, w, T⟩ n F) ∧ Mk K (T.cls c) f ∧ mg x = some (.ref (T.cls c)) ∧ Binds K fd ps []
structure FldW (K : PySem.W.Frag) (T : Tabs) (c : Nat) (f : Str) : Prop where
  cls : Cls K (T.cls c)
  no : NoAttr K (T.cls c) f
section
variable {X : Cx} {T : Tabs} {W : WX} {a b c e o : Expr} {es : List Expr} {fa fb fc fo : Fr → M PV} {fr : Fr → M (List PV)} {pos p apos : Pos}
/-! ### C(..) -/
def mkO (c n : Nat) (F : Fn) (xs : List PV) : M PV := fun st => if xs.length + 1 = n then
    match F (.loc st.next :: xs) (st.new (.obj c [])) with
    | .ok .non st' => match st'.get st.next with
      | some (.obj c' fs) => if c' = c then .ok (.obj c fs) (st'.put st.next (.frz (.obj c fs))) else .bad
      | _ => .bad
    | .exc e st' => .exc e st'
    | _ => .bad
  else .bad
def eMake (c n : Nat) (F : Fn) (fr : Fr → M (List PV)) : Fr → M PV := fun ρ => fr ρ >>= fun xs => mkO c n F xs
theorem run_mk {k : Nat} {f C : Addr} {fd : FuncData} {ps : List Str} {sp : Sp} {pins : List (Addr × Obj)} {σ : L2.St} {H : Hp} {s : Shared} {Q : VK} {us : List Value} {vs : List V} (M : Mk X.K C f) (F : FnG X.prog X.w X.K X.mg X.base k f fd ps sp) (hr : Room (k + 1) X.A) (hgd : X.A.guards = some []) (hb : Binds X.K fd ps [])
    (tk : Takes X W) (I : L2.Inv X pins σ H s) (r : Vals vs us) (h : ∀ x dx, H x = none → H dx = none → dx ≠ x → sp (.ref x :: vs) (upd (upd H dx (.own x)) x (.ins C dx [])) (fun v H2 => v = .non ∧ Q (.ref x) H2) (WE W σ)) :
    wpAny (model X.prog X.w) X.A (call (.ref C) us) (EP X pins σ Q) X.xe s := by
  obtain ⟨p, hp⟩ : ∃ p, p = s.heap.objs.size + 1 := ⟨_, rfl⟩
  have hq := h p s.heap.objs.size (by rw [hp]; exact I.hok.fresh (Nat.le_succ _)) (I.hok.fresh (Nat.le_refl _)) (by rw [hp]; exact Nat.ne_of_lt (Nat.lt_succ_self _))
  have J := Inv.made (C := C) I
  rw [← hp] at J
  have rv : Vals (V.ref p :: vs) (Value.ref p :: us) := .cons rfl r
  have hl : (Value.ref p :: us).length = ps.length := by
    rw [← rv.length]
    exact F.len _ _ _ _ hq
  have hb' := hb { s with heap := (s.heap.push PySem.W.emptyDict).push (PySem.W.instObj C s.heap.objs.size) } (Value.ref p :: us) J.kIn (by rw [List.append_nil]; exact hl)
  rw [List.append_nil] at hb'
  have run := F.run _ X.stack _ _ ⟨Value.ref p :: us, []⟩ (Value.ref p :: us) _ _ (WE W σ) (hr.make C us []) hgd (J.env0.make C us []) hb' rv hq
  rw [hp] at run
  refine wpAny_call (make_map (f := f) I.kIn M.makes M.init (beq_iff_eq.mp M.fn) (codeAny_mono run fun r s' hq' => ?_))
  rw [← hp] at hq' ⊢
  cases r with
  | error e => exact passAt tk σ pins _ _ e s' J hq'
  | ok fl =>
    cases fl with
    | ret u =>
      obtain ⟨v, H', J3, rv3, ev, q3⟩ := J.after hq'
      subst ev
      exact ⟨rv3, ⟨V.ref p, H', J3, rfl, q3⟩⟩
    | next => exact hq'.elim
    | brk => exact hq'.elim
    | cont => exact hq'.elim
theorem mk_post {ci n : Nat} {F : Fn} {w : Wo} {st : Store} {ρ : Fr} {σ : L2.St} {H : Hp} {Q : VK} {xs : List PV} {vs : List V} (h : RunE X T W (fun _ => mkO ci n F xs) w st ρ σ H Q) (r : RepL (Cx.g X T) w H vs xs) :
    ∀ x dx, H x = none → H dx = none → dx ≠ x → spF (Cx.g X T) n F (.ref x :: vs) (upd (upd H dx (.own x)) x (.ins (T.cls ci) dx [])) (fun v H2 => v = .non ∧ Q (.ref x) H2) (WE W σ) := by
  intro x dx hx hdx hne
  have hx1 : (upd H dx (.own x)) x = none := by rw [upd_ne hne.symm]; exact hx
  have l1 : Le w H w (upd H dx (.own x)) := Le.same (same_new hdx)
  have wr1 := h.wr.same (same_new (o := .own x) hdx)
  have l2 := Le.add (o := .ins (T.cls ci) dx []) wr1 hx1
  have wr2 : Wr (Cx.g X T) (w.add st.next x) (st.new (.obj ci [])) (upd (upd H dx (.own x)) x (.ins (T.cls ci) dx [])) := Wr.add wr1 hx1 ⟨.inr rfl, dx, [], upd_same, .nil⟩
  have lt := l1.trans l2
  by_cases hl : xs.length + 1 = n
  · refine ⟨w.add st.next x, st.new (.obj ci []), .loc st.next :: xs, hl, wr2, .cons (.loc (if_pos rfl)) (r.mono lt), ?_⟩
    have p := h.post
    unfold mkO at p
    rw [if_pos hl] at p
    cases q : F (.loc st.next :: xs) (st.new (.obj ci [])) with
    | ok y st' =>
      rw [q] at p
      cases y with
      | non =>
        intro w' v H' l' wr' rv
        cases rv
        refine ⟨rfl, ?_⟩
        dsimp only at p
        cases q2 : st'.get st.next with
        | none => rw [q2] at p; exact p.elim
        | some cl =>
          rw [q2] at p
          cases cl with
          | obj c' fs =>
            dsimp only at p
            by_cases hc : c' = ci
            · rw [if_pos hc] at p
              subst hc
              obtain ⟨a, k1, k2⟩ := wr'.cell _ _ q2
              have k3 : w'.η st.next = some x := l'.loc _ _ (if_pos rfl)
              rw [k3] at k1; cases k1
              obtain ⟨d, dx', us, k4, k5⟩ := k2
              have rx : Rep (Cx.g X T) (w'.show x) H' (.ref x) (.obj c' fs) := .obj (fun z => z.2 rfl) k4 (k5.mr (LeR.show w' H' x))
              exact p (w'.show x) (.ref x) H' (lt.trans (l'.trans (Le.show k3))) (wr'.freeze k3 rx) rx
            · rw [if_neg hc] at p; exact p.elim
          | _ => exact p.elim
      | _ => exact p.elim
    | exc ex st' => rw [q] at p; exact fun w' cl d H' l' wr' rr => p w' cl d H' (lt.trans l') wr' rr
    | bad => rw [q] at p; exact p.elim
  · have p := h.post
    unfold mkO at p
    rw [if_neg hl] at p
    exact p.elim
theorem pp_make {x : Str} {ci n k j : Nat} {F : Fn} (m : MakW X.prog X.w X.K X.mg X.base T ci x n F k) (hr : Room j X.A) (hkj : k + 1 ≤ j) (hgd : X.A.guards = some []) (tk : Takes X W) (ha : PPA X T W (e :: es) fr) (h : okG X.env.scope x = true := by kernel_rfl)
    (he : starEach (e :: es) X.env = (false, eval e X.env) :: starEach es X.env := by rfl) (hpl : (backTo pos (starEach es X.env)).any (·.1) = false := by rfl) : PP X T W (.Call (.Name x p) (e :: es) [] pos) (eMake ci n F fr) := by
  unfold okG at h
  simp only [Bool.and_eq_true, Bool.not_eq_true'] at h
  obtain ⟨f, fd, ps, h1, M, hm, hb⟩ := m.ex
  refine ⟨fun pins s σ H Q I ⟨w, st, ρ, hh⟩ => ?_⟩
  refine wpAny_Call_Name_kw (ld_glob I (gl_of h.1) hm ?_ h.2)
  have ta : tA X T W fr σ H fun vs H1 => ∀ x dx, H1 x = none → H1 dx = none → dx ≠ x → spF (Cx.g X T) n F (.ref x :: vs) (upd (upd H1 dx (.own x)) x (.ins (T.cls ci) dx [])) (fun v H2 => v = .non ∧ Q (.ref x) H2) (WE W σ) :=
    RunE.aE (k := fun xs _ => mkO ci n F xs) hh fun w1 st1 xs vs H1 l r h1 => mk_post h1 r
  exact PySem.W.callWith_K (h₀ := X.base) I.ok.mod.kin M.kp (thn (ha.run pos pins s σ H _ I ta) fun us s1 ⟨vs, H1, I1, r, q⟩ => ⟨I1.kIn, run_mk M h1 (hr.mono hkj) hgd hb tk I1 r q⟩) he hpl
/-! ### o.f: a field, a property -/
def flook (n : Nat) : List (Nat × PV) → Option PV
  | [] => none
  | (m, x) :: r => if m = n then some x else flook n r
/-- names are told apart -/
def NmI (T : Tabs) (N : Nat) : Prop := ∀ i j, i < N → j < N → T.nm i = T.nm j → i = j
def fbnd (N : Nat) : List (Nat × PV) → Bool
  | [] => true
  | (m, _) :: r => decide (m < N) && fbnd N r
theorem RepF.look {G : Cfg} {w : Wo} {H : Hp} {N n : Nat} (hi : NmI G.T N) (hn : n < N) : ∀ {vs : List (Str × V)} {fs : List (Nat × PV)} {x : PV}, RepF G w H vs fs → fbnd N fs = true → flook n fs = some x → ∃ v, vs.lookup (G.T.nm n) = some v ∧ Rep G w H v x
  | _, _, _, .nil, _, h => by cases h
  | _, _, x, .cons (v := v) (n := m) (x := y) r rs, hb, h => by
    simp only [fbnd, Bool.and_eq_true, decide_eq_true_eq] at hb
    unfold flook at h
    by_cases e : m = n
    · subst e
      rw [if_pos rfl] at h
      cases h
      exact ⟨v, by rw [List.lookup_cons, beq_self_eq_true], r⟩
    · rw [if_neg e] at h
      obtain ⟨u, h1, h2⟩ := RepF.look hi hn rs hb.2 h
      refine ⟨u, ?_, h2⟩
      have ne : (G.T.nm n == G.T.nm m) = false := beq_eq_false_iff_ne.mpr fun z => e (hi n m hn hb.1 z).symm
      rw [List.lookup_cons, ne]
      exact h1
def gFld (N n : Nat) (D : Nat → Bool) : PV → Option PV
  | .obj c fs => if D c && fbnd N fs then flook n fs else none
  | _ => none
theorem pp_fld {N n : Nat} {D : Nat → Bool} {f : Str} (hf : f = T.nm n) (hi : NmI T N) (hn : n < N) (hD : ∀ c, D c = true → FldW X.K T c f) (ho : PP X T W o fo) (hb : attributeBase o f X.env (eval o X.env) = eval o X.env := by rfl) : PP X T W (.Attribute o f pos) (e1 (gFld N n D) fo) := by
  refine ⟨fun pins s σ H Q I ⟨w, st, ρ, h⟩ => (pe_fld ho hb).run pins s σ H Q I ?_⟩
  refine RunE.eE (k := fun x _ => g1 (gFld N n D) x) h fun w1 st1 x v H1 l r h1 => ?_
  rcases g1_ok (g := gFld N n D) (x := x) (st := st1) with ⟨z, x', q1, q2, q3, q4⟩ | q
  · have vw := h1.wr.view r q1 q2
    cases vw with
    | @obj a dx c vs fs k1 k2 =>
      simp only [gFld] at q3
      split at q3
      · rename_i hc
        simp only [Bool.and_eq_true] at hc
        obtain ⟨u, k3, k4⟩ := RepF.look (G := Cx.g X T) hi hn k2 hc.2 q3
        have fw := hD c hc.1
        exact ⟨a, _, dx, vs, u, rfl, k1, fw.cls, fw.no, by rw [hf]; exact k3, h1.ret q4 (Le.refl _ _) h1.wr k4⟩
      · cases q3
    | _ => cases q3
  · exact (h1.no q).elim
/-! ### o.f = v, o at a location -/
def fput (n : Nat) (x : PV) : List (Nat × PV) → List (Nat × PV)
  | [] => [(n, x)]
  | (m, y) :: r => if m = n then (n, x) :: r else (m, y) :: fput n x r
theorem RepF.put {G : Cfg} {w : Wo} {H : Hp} {N n : Nat} {v : V} {x : PV} (hi : NmI G.T N) (hn : n < N) (rx : Rep G w H v x) : ∀ {vs : List (Str × V)} {fs : List (Nat × PV)}, RepF G w H vs fs → fbnd N fs = true → RepF G w H (putF (G.T.nm n) v vs) (fput n x fs)
  | _, _, .nil, _ => .cons rx .nil
  | _, _, .cons (v := u) (n := m) (x := y) r rs, hb => by
    simp only [fbnd, Bool.and_eq_true, decide_eq_true_eq] at hb
    unfold fput putF
    by_cases e : m = n
    · subst e
      rw [if_pos rfl]
      simp
      exact .cons rx rs
    · rw [if_neg e]
      have ne : ¬ G.T.nm m = G.T.nm n := fun z => e (hi m n hb.1 hn z)
      simp [ne]
      exact .cons r (RepF.put hi hn rx rs hb.2)
end
end Eg

/-! E19: a head's hook with checks and defs of one's own. -/
namespace Eg
open PySem PySem.Spec PyProof.Rows L2
/-- one def: how it is found, its name, qualified name, parameters, body, scope -/
structure DfX where
  ad : PySem.W.Frag → Addr
  name : Str
  qual : Str
  params : Arguments
  body : List Stmt
  scope : Scope
def fnX (K : PySem.W.Frag) (a : Addr) : He.FnW := match K.lookup a with
  | some ⟨_, _, .func fd, _⟩ => some (fd.name, fd.qualname, fd.params, fd.body, fd.scope, fd.globals, fd.closure, fd.builtins)
  | _ => none
def DfX.val (d : DfX) : He.FnW := some (d.name, d.qual, d.params, .stmts d.body, d.scope, mainGlobals, [], builtinsNs)
def DfX.ok (K : PySem.W.Frag) (d : DfX) : Bool := PySem.W.keepIn K (.ref (d.ad K)) && (match K.lookup (d.ad K) with
  | some ⟨_, _, .func fd, _⟩ => PySem.W.codeIn K fd.code d.qual && (He.dflB K fd.defaults [] && He.kwdB K fd.kwdefaults [])
  | _ => false)
theorem DfX.funD {K : PySem.W.Frag} {d : DfX} (e : fnX K (d.ad K) = d.val) (c : d.ok K = true) : ∃ fd, FunD K d.name d.qual d.params d.body d.scope [] [] (d.ad K) fd := by
  unfold DfX.ok at c
  rw [Bool.and_eq_true] at c
  obtain ⟨kp, c2⟩ := c
  unfold fnX at e
  cases q : K.lookup (d.ad K) with
  | none => rw [q] at c2; cases c2
  | some o =>
    obtain ⟨oc, od, dt, sl⟩ := o
    rw [q] at c2 e
    cases dt with
    | func fd =>
      obtain ⟨n1, n2, n3, n4, n5, n6, n7, n8, n9, n10, n11, n12, n13, n14, n15⟩ := fd
      have k : (some (n1, n2, n3, n4, n5, n6, n7, n15) : He.FnW) = d.val := e
      unfold DfX.val at k
      simp only [Option.some.injEq, Prod.mk.injEq] at k
      obtain ⟨h1, h2, h3, h4, h5, h6, h7, h8⟩ := k
      subst h1 h2 h3 h4 h5 h6 h7 h8
      have c3 : (PySem.W.codeIn K n13 d.qual && (He.dflB K n8 [] && He.kwdB K n9 [])) = true := c2
      rw [Bool.and_eq_true, Bool.and_eq_true] at c3
      exact ⟨_, ⟨oc, od, n8, n9, n10, n11, n12, n13, n14, sl, rfl, q, c3.1, He.dflB_ok c3.2.1, He.kwdB_ok c3.2.2⟩, kp⟩
    | _ => cases c2
def obsX (ck : List (PySem.W.Frag → Bool)) (fn : List DfX) (K : PySem.W.Frag) : He.AlD := ((ck.all fun f => f K) && fn.all fun d => d.ok K, fn.map fun d => fnX K (d.ad K))
def valX (fn : List DfX) : He.AlD := (true, fn.map DfX.val)
def SaysX (ck : List (PySem.W.Frag → Bool)) (fn : List DfX) (K : PySem.W.Frag) : Prop := obsX ck fn K = valX fn
def obsXG (n : Nat) (ck : List (PySem.W.Frag → Bool)) (fn : List DfX) (g : Addr → Option Obj) : He.AlD := obsX ck fn (He.frG g (He.asD g n))
def hookX (n : Nat) (ck : List (PySem.W.Frag → Bool)) (fn : List DfX) : PySem.W.Hook where
  α := He.AlD
  obs s := obsXG n ck fn s.heap.get?
  val _ := valX fn
  says _ h := ∃ K : PySem.W.Frag, K.In h ∧ SaysX ck fn K
  of _ _ e := ⟨_, He.frG_in, e⟩
  keeps _ _ _ z k := by
    obtain ⟨K, hK, c⟩ := z
    exact ⟨K, hK.keeps k, c⟩
theorem obsXG_eq {n : Nat} {ck : List (PySem.W.Frag → Bool)} {fn : List DfX} {g : Addr → Option Obj} {s : Shared} (h : ∀ a, g a = s.heap.get? a) : obsXG n ck fn g = (hookX n ck fn).obs s := by
  have e : g = s.heap.get? := funext h
  subst e
  rfl
section
variable {ck : List (PySem.W.Frag → Bool)} {fn : List DfX} {K : PySem.W.Frag}
theorem SaysX.fact (c : SaysX ck fn K) (i : Nat) {f : PySem.W.Frag → Bool} (h : ck[i]? = some f := by rfl) : f K = true := by
  have c1 : ((ck.all fun f => f K) && fn.all fun d => d.ok K) = true := congrArg (fun z : He.AlD => z.1) c
  rw [Bool.and_eq_true] at c1
  exact List.all_eq_true.mp c1.1 f (List.mem_of_getElem? h)
theorem SaysX.def_ (c : SaysX ck fn K) (i : Nat) {d : DfX} (h : fn[i]? = some d := by rfl) : ∃ fd, FunD K d.name d.qual d.params d.body d.scope [] [] (d.ad K) fd := by
  have c1 : ((ck.all fun f => f K) && fn.all fun d => d.ok K) = true := congrArg (fun z : He.AlD => z.1) c
  rw [Bool.and_eq_true] at c1
  have e : fn.map (fun d => fnX K (d.ad K)) = fn.map DfX.val := congrArg (fun z : He.AlD => z.2) c
  have k := congrArg (fun l : List He.FnW => l[i]?) e
  simp only [List.getElem?_map, h, Option.map_some, Option.some.injEq] at k
  exact DfX.funD k (List.all_eq_true.mp c1.2 d (List.mem_of_getElem? h))
end
/-! ### checks -/
/-- a fact of the library's kind -/
def fk (f : He.Fa) : PySem.W.Frag → Bool := fun K => f.ok K
def prA (K : PySem.W.Frag) (C m : Str) : Addr := He.ma K (He.ga K C) m
/-- the getter of a property -/
def gtA (K : PySem.W.Frag) (C m : Str) : Addr := match PySem.W.recIn K (prA K C m) "property" with
  | some (.ref g :: _) => g
  | _ => 0
def ckProp (C m : Str) : PySem.W.Frag → Bool := fun K => He.eqO (PySem.W.findIn K (.ref (He.ga K C)) m) (some (some (.ref (prA K C m)))) && (He.eqO (PySem.W.specialIn K (.ref (prA K C m)) "__get__") (some (some (.builtin "property.__get__"))) &&
  (decide (PySem.W.takesIn K (.ref (prA K C m)) = some true) && (match PySem.W.recIn K (prA K C m) "property" with | some (.ref _ :: _) => true | _ => false)))
theorem ckProp_ok {K : PySem.W.Frag} {C m : Str} (h : ckProp C m K = true) : PropOf K (He.ga K C) m (prA K C m) (gtA K C m) := by
  unfold ckProp at h
  rw [Bool.and_eq_true, Bool.and_eq_true, Bool.and_eq_true, decide_eq_true_eq] at h
  obtain ⟨h1, h2, h3, h4⟩ := h
  refine ⟨He.eqO_ok h1, He.eqO_ok h2, h3, ?_⟩
  unfold gtA
  cases q : PySem.W.recIn K (prA K C m) "property" with
  | none => rw [q] at h4; cases h4
  | some l =>
    rw [q] at h4
    cases l with
    | nil => cases h4
    | cons v r =>
      cases v with
      | ref g => exact ⟨r, rfl⟩
      | _ => cases h4
/-- isinstance with an own class -/
def ckKit (t : PySem.W.Frag → Value) (C : Str) (b : Bool) : PySem.W.Frag → Bool := fun K => decide (PySem.W.kitOne K (t K) (.ref (He.ga K C)) = some b)
theorem ckKit_ok {t : PySem.W.Frag → Value} {K : PySem.W.Frag} {C : Str} {b : Bool} (h : ckKit t C b K = true) : PySem.W.kitOne K (t K) (.ref (He.ga K C)) = some b := of_decide_eq_true h
end Eg

/-! E20: fields stored, methods, properties, isinstance with own classes. -/
namespace Eg
open PySem PySem.Spec PyProof.Rows L2
section
variable {X : Cx} {T : Tabs} {W : WX} {a b c e o value : Expr} {es : List Expr} {fa fb fc fo fv : Fr → M PV} {fr : Fr → M (List PV)} {pos p apos pos' : Pos}
/-! ### o.f = v -/
def fset (N n : Nat) (D : Nat → Bool) (o x : PV) : Store → Option Store := fun st => match o with
  | .loc l => match st.get l with
    | some (.obj c fs) => if D c && (fbnd N fs && decide (fs.length < 1000)) then some (st.put l (.obj c (fput n x fs))) else none
    | _ => none
  | _ => none
def sFldS (N n : Nat) (D : Nat → Bool) (fo fv : Fr → M PV) : S := fun ρ => sE (fv ρ) ρ fun x st => sE (fo ρ) ρ (fun o st => match fset N n D o x st with
  | some st' => .nx ρ st'
  | none => .bad) st
theorem RepF.length {G : Cfg} {w : Wo} {H : Hp} : ∀ {vs : List (Str × V)} {fs : List (Nat × PV)}, RepF G w H vs fs → vs.length = fs.length
  | _, _, .nil => rfl
  | _, _, .cons _ r => by simp [RepF.length r]
theorem pps_fld {N n : Nat} {D : Nat → Bool} {f : Str} (hf : f = T.nm n) (hi : NmI T N) (hn : n < N) (hD : ∀ c, D c = true → FldW X.K T c f) (ho : PP X T W o fo) (hv : PP X T W value fv) (hs : swapsWith value (some (.Attribute o f pos')) pos.line X.env = pure false := by rfl) :
    PPS X T W (.Assign [.Attribute o f pos'] value pos) (sFldS N n D fo fv) := by
  subst hf
  refine ⟨fun pins s σ H E I ⟨w, st, ρ, h⟩ => (ps_fld ho hv hs).run pins s σ H E I ?_⟩
  refine RunS.eE (k := fun x ρ st => sE (fo ρ) ρ (fun o st => match fset N n D o x st with | some st' => .nx ρ st' | none => .bad) st) h fun w1 st1 x v H1 l1 rx h1 => ?_
  refine RunS.eE (k := fun o ρ st => match fset N n D o x st with | some st' => .nx ρ st' | none => .bad) h1 fun w2 st2 y u H2 l2 ry h2 => ?_
  have rx2 := rx.mono l2
  have pp := h2.post
  cases q : fset N n D y x st2 with
  | none => rw [q] at pp; exact pp.elim
  | some st3 =>
    rw [q] at pp
    unfold fset at q
    cases ry with
    | @loc ad l hl =>
      dsimp only at q
      cases q2 : st2.get l with
      | none => rw [q2] at q; cases q
      | some cl =>
        rw [q2] at q
        cases cl with
        | obj c fs =>
          dsimp only at q
          split at q
          · rename_i hc
            cases q
            simp only [Bool.and_eq_true, decide_eq_true_eq] at hc
            obtain ⟨ad', k1, k2⟩ := h2.wr.cell _ _ q2
            rw [hl] at k1; cases k1
            obtain ⟨d, dx, vs, k3, k4⟩ := k2
            have fw := hD c hc.1
            refine ⟨ad, _, dx, vs, rfl, k3, fw.cls, fw.no, by rw [k4.length]; exact hc.2.2, ?_⟩
            obtain ⟨le, wr'⟩ := h2.wr.put (c' := .obj c (fput n x fs)) (o := .ins (T.cls c) dx (putF (T.nm n) v vs)) hl q2 d (fun {w'} lr hd ew => by
              subst ew
              refine ⟨hd, dx, _, upd_same, ?_⟩
              exact (RepF.put (G := Cx.g X T) hi hn rx2 k4 hc.2.1).mr lr)
            exact pp w2 σ _ le wr' (h2.fr.mono le)
          · cases q
        | _ => cases q
    | _ => cases q
/-! ### o.m(..) -/
def clsOf (st : Store) (x : PV) : Option Nat := match view st x with
  | some (.obj c _) => some c
  | _ => none
def mCall (n : Nat) (F : Fn) (x : PV) (xs : List PV) : M PV := if xs.length + 1 = n then F (x :: xs) else M.bad
/-- the class decides -/
def byCls (D : Nat → Option Fn) (x : PV) (k : Fn → M PV) : M PV := fun st => match clsOf st x with
  | some c => match D c with
    | some F => k F st
    | none => .bad
  | none => .bad
def eMeth (n : Nat) (D : Nat → Option Fn) (fo : Fr → M PV) (fr : Fr → M (List PV)) : Fr → M PV := fun ρ => fo ρ >>= fun x => byCls D x fun F => fr ρ >>= fun xs => mCall n F x xs
def NoNm (T : Tabs) (m : Str) : Prop := ∀ n, T.nm n ≠ m
theorem RepF.noLook {G : Cfg} {w : Wo} {H : Hp} {m : Str} (h : NoNm G.T m) : ∀ {vs : List (Str × V)} {fs : List (Nat × PV)}, RepF G w H vs fs → vs.lookup m = none
  | _, _, .nil => rfl
  | _, _, .cons (n := n) _ r => by
    have ne : (m == G.T.nm n) = false := beq_eq_false_iff_ne.mpr fun z => h n z.symm
    rw [List.lookup_cons, ne]
    exact RepF.noLook h r
theorem clsOf_at {w : Wo} {st : Store} {H : Hp} {v : V} {x : PV} {c : Nat} (wr : Wr (Cx.g X T) w st H) (r : Rep (Cx.g X T) w H v x) (h : clsOf st x = some c) : ∃ ad dx vs fs, v = .ref ad ∧ H ad = some (.ins (T.cls c) dx vs) ∧ RepF (Cx.g X T) w H vs fs := by
  unfold clsOf at h
  split at h
  · rename_i c' fs hv
    cases h
    have vw := wr.view r hv rfl
    cases vw with
    | obj k1 k2 => exact ⟨_, _, _, _, rfl, k1, k2⟩
  · cases h
theorem RunE.byCls {D : Nat → Option Fn} {x : PV} {k : Fn → Fr → M PV} {w : Wo} {st : Store} {ρ : Fr} {σ : L2.St} {H : Hp} {Q : VK} {v : V} (h : RunE X T W (fun ρ => Eg.byCls D x fun F => k F ρ) w st ρ σ H Q) (r : Rep (Cx.g X T) w H v x) :
    ∃ c ad dx vs fs F, v = .ref ad ∧ H ad = some (.ins (T.cls c) dx vs) ∧ RepF (Cx.g X T) w H vs fs ∧ D c = some F ∧ RunE X T W (k F) w st ρ σ H Q := by
  have p := h.post
  unfold Eg.byCls at p
  cases q : clsOf st x with
  | none => rw [q] at p; exact p.elim
  | some c =>
    rw [q] at p
    dsimp only at p
    obtain ⟨ad, dx, vs, fs, rfl, k1, k2⟩ := clsOf_at h.wr r q
    cases qD : D c with
    | none => rw [qD] at p; exact p.elim
    | some F => rw [qD] at p; exact ⟨c, ad, dx, vs, fs, F, rfl, k1, k2, qD, h.wr, h.fr, p⟩
theorem RunE.mCall {n : Nat} {F : Fn} {x : PV} {xs : List PV} {w : Wo} {st : Store} {ρ : Fr} {σ : L2.St} {H : Hp} {Q : VK} {v : V} {us : List V} (h : RunE X T W (fun _ => Eg.mCall n F x xs) w st ρ σ H Q) (r : Rep (Cx.g X T) w H v x) (rs : RepL (Cx.g X T) w H us xs) : spF (Cx.g X T) n F (v :: us) H Q (WE W σ) := by
  have p := h.post
  unfold Eg.mCall at p
  by_cases hl : xs.length + 1 = n
  · rw [if_pos hl] at p
    exact ⟨w, st, x :: xs, hl, h.wr, .cons r rs, p⟩
  · rw [if_neg hl] at p; exact p.elim
theorem pp_meth {n j : Nat} {D : Nat → Option Fn} {m : Str} {pl : Sem Bool} (hm : ∀ c F, D c = some F → ∃ k, k ≤ j ∧ MetW X.prog X.w X.K X.mg X.base T c m n F k) (hn : NoNm T m) (hr : Room j X.A) (hgd : X.A.guards = some []) (tk : Takes X W) (ho : PP X T W o fo) (ha : PPA X T W (e :: es) fr)
    (hst : starEach (e :: es) X.env = (false, eval e X.env) :: starEach es X.env := by rfl) (hpl : (backTo pos (starEach es X.env)).any (·.1) = false := by rfl)
    (ht : eval (.Call (.Attribute o m apos) (e :: es) [] pos) X.env = (do
      let ov ← eval o X.env; standAt apos.atName
      let (f, first) ← holding [ov] (getMethod ov m pl); callWith pos f first (backTo pos (starEach (e :: es) X.env)) (backToKw pos (keywordEach [] X.env))) := by rfl) : PP X T W (.Call (.Attribute o m apos) (e :: es) [] pos) (eMeth n D fo fr) := by
  refine ⟨fun pins s σ H Q I ⟨w, st, ρ, h⟩ => ?_⟩
  have t1 : tE X T W fo σ H fun v H1 => ∃ c ad dx vs F, v = .ref ad ∧ H1 ad = some (.ins (T.cls c) dx vs) ∧ vs.lookup m = none ∧ D c = some F ∧ tA X T W fr σ H1 fun us H2 => spF (Cx.g X T) n F (v :: us) H2 Q (WE W σ) := by
    refine RunE.eE (k := fun x ρ => Eg.byCls D x fun F => fr ρ >>= fun xs => Eg.mCall n F x xs) h fun w1 st1 x v H1 l r h1 => ?_
    obtain ⟨c, ad, dx, vs, fs, F, rfl, k1, k2, qD, h2⟩ := h1.byCls (k := fun F ρ => fr ρ >>= fun xs => Eg.mCall n F x xs) r
    exact ⟨c, ad, dx, vs, F, rfl, k1, k2.noLook hn, qD, RunE.aE (k := fun xs _ => Eg.mCall n F x xs) h2 fun w2 st2 xs us H2 l2 r2 h3 => h3.mCall (r.mono l2) r2⟩
  refine PySem.W.methodCall_KW (pl := pl) (thn (ho.run pins s σ H _ I t1) fun u s1 ⟨v, H1, I1, rv, c, ad, dx, vs, F, ev, k1, k2, qD, q⟩ => ?_) ht
  subst ev
  cases (show u = Value.ref ad from rv)
  obtain ⟨k, hkj, mw⟩ := hm c F qD
  obtain ⟨f, fd, ps, h1, h2, hb⟩ := mw.ex
  refine getmeth_ok I1 k1 mw.cls h2 k2 ?_
  exact PySem.W.callWith_K (first := [.ref ad]) (h₀ := X.base) I.ok.mod.kin h2.kp (thn (ha.run pos pins s1 σ H1 _ I1 q) fun us s2 ⟨vs2, H2, I2, r2, q2⟩ => ⟨I2.kIn, run_fng (us := .ref ad :: us) (vs := .ref ad :: vs2) h1 (hr.mono hkj) hgd hb tk I2 (.cons rfl r2) q2⟩) hst hpl
theorem pp_meth0 {j : Nat} {D : Nat → Option Fn} {m : Str} {pl : Sem Bool} (hm : ∀ c F, D c = some F → ∃ k, k ≤ j ∧ MetW X.prog X.w X.K X.mg X.base T c m 1 F k) (hn : NoNm T m) (hr : Room j X.A) (hgd : X.A.guards = some []) (tk : Takes X W) (ho : PP X T W o fo)
    (ht : eval (.Call (.Attribute o m apos) [] [] pos) X.env = (do
      let ov ← eval o X.env; standAt apos.atName
      let (f, first) ← holding [ov] (getMethod ov m pl); callWith pos f first (backTo pos (starEach [] X.env)) (backToKw pos (keywordEach [] X.env))) := by rfl) : PP X T W (.Call (.Attribute o m apos) [] [] pos) (eMeth 1 D fo aNil) := by
  refine ⟨fun pins s σ H Q I ⟨w, st, ρ, h⟩ => ?_⟩
  have t1 : tE X T W fo σ H fun v H1 => ∃ c ad dx vs F, v = .ref ad ∧ H1 ad = some (.ins (T.cls c) dx vs) ∧ vs.lookup m = none ∧ D c = some F ∧ spF (Cx.g X T) 1 F [v] H1 Q (WE W σ) := by
    refine RunE.eE (k := fun x ρ => Eg.byCls D x fun F => aNil ρ >>= fun xs => Eg.mCall 1 F x xs) h fun w1 st1 x v H1 l r h1 => ?_
    obtain ⟨c, ad, dx, vs, fs, F, rfl, k1, k2, qD, h2⟩ := h1.byCls (k := fun F ρ => aNil ρ >>= fun xs => Eg.mCall 1 F x xs) r
    have h3 : RunE X T W (fun _ => Eg.mCall 1 F x []) w1 st1 ρ σ H1 Q := ⟨h2.wr, h2.fr, h2.post⟩
    exact ⟨c, ad, dx, vs, F, rfl, k1, k2.noLook hn, qD, h3.mCall r .nil⟩
  refine PySem.W.methodCall_KW (pl := pl) (thn (ho.run pins s σ H _ I t1) fun u s1 ⟨v, H1, I1, rv, c, ad, dx, vs, F, ev, k1, k2, qD, q⟩ => ?_) ht
  subst ev
  cases (show u = Value.ref ad from rv)
  obtain ⟨k, hkj, mw⟩ := hm c F qD
  obtain ⟨f, fd, ps, h1, h2, hb⟩ := mw.ex
  refine getmeth_ok I1 k1 mw.cls h2 k2 ?_
  exact PySem.W.callWith_K0 (first := [.ref ad]) I1.kIn h2.kp (run_fng (us := [.ref ad]) (vs := [.ref ad]) h1 (hr.mono hkj) hgd hb tk I1 (.cons rfl .nil) q)
/-! ### o.f, a property: its getter raises nothing -/
def eProp (D : Nat → Option Fn) (fo : Fr → M PV) : Fr → M PV := fun ρ => fo ρ >>= fun x => byCls D x fun F => M.noexc (F [x])
theorem run_prop {k : Nat} {C p g ad dx : Addr} {fs : List (Str × V)} {f : Str} {fd : FuncData} {ps : List Str} {sp : Sp} {pins : List (Addr × Obj)} {σ : L2.St} {H : Hp} {s : Shared} {Q : VK} {fl : Bool} {E' : Value → Shared → Prop} (I : L2.Inv X pins σ H s) (ea : H ad = some (.ins C dx fs)) (c : Cls X.K C) (hp : PropOf X.K C f p g)
    (F : FnG X.prog X.w X.K X.mg X.base k g fd ps sp) (hr : Room (k + 1) X.A) (hgd : X.A.guards = some []) (hb : Binds X.K fd ps []) (h : sp [.ref ad] H Q (fun _ _ _ => False)) : wpAny (model X.prog X.w) X.A (getAttr (.ref ad) f fl) (EP X pins σ Q) E' s := by
  obtain ⟨mA, O, _⟩ := ins_get I.hok ea
  obtain ⟨od, J, _⟩ := O.look
  obtain ⟨rest, hrec⟩ := hp.rec_
  have I1 := I.tok (s.toks + 1)
  have hl : [Value.ref ad].length = ps.length := F.len _ _ _ _ h
  have hc : (PySem.W.clsIn X.K C).isSome = true := by
    obtain ⟨cd, hc, _⟩ := PySem.W.any_some c.hd
    rw [hc]; rfl
  have hb' := hb { s with toks := s.toks + 1 } [.ref ad] I1.kIn (by rw [List.append_nil]; exact hl)
  rw [List.append_nil] at hb'
  refine PySem.W.get_bind I.kIn J (PySem.W.plainGet_of (c.get f)).1 (PySem.W.findObj_data hc hp.at_ hp.get hp.tak) (PySem.W.plainGet_of (c.get f)).2 (wpAny_call (PySem.W.prop_get (s := { s with toks := s.toks + 1 }) I.kIn hrec ?_))
  refine codeAny_mono (F.run X.A.in1 X.stack { s with toks := s.toks + 1 } H ⟨[.ref ad], []⟩ [.ref ad] [.ref ad] Q (fun _ _ _ => False) hr.in1 hgd I1.env0.in1 hb' (.cons rfl .nil) h) fun r s' hq => ?_
  cases r with
  | error er =>
    exact False.elim (by
      revert hq
      unfold CR L2.CX
      simp)
  | ok fl =>
    cases fl with
    | ret u =>
      obtain ⟨v, H', I3, rv, q3⟩ := I1.after hq
      show wpAny _ _ (handedOut u) _ _ _
      rw [PySem.W.handedOut_of (handed_of rv)]
      exact wpAny_pure ⟨v, H', I3, rv, q3⟩
    | next => exact hq.elim
    | brk => exact hq.elim
    | cont => exact hq.elim
theorem pp_prop {j : Nat} {D : Nat → Option Fn} {m : Str} (hm : ∀ c F, D c = some F → ∃ k, k + 1 ≤ j ∧ PrpW X.prog X.w X.K X.mg X.base T c m F k) (hr : Room j X.A) (hgd : X.A.guards = some []) (ho : PP X T W o fo) (hb : attributeBase o m X.env (eval o X.env) = eval o X.env := by rfl) : PP X T W (.Attribute o m pos) (eProp D fo) := by
  refine ⟨fun pins s σ H Q I ⟨w, st, ρ, h⟩ => ?_⟩
  have t1 : tE X T W fo σ H fun v H1 => ∃ c ad dx vs F, v = .ref ad ∧ H1 ad = some (.ins (T.cls c) dx vs) ∧ D c = some F ∧ spF (Cx.g X T) 1 F [v] H1 Q (fun _ _ _ => False) := by
    refine RunE.eE (k := fun x ρ => Eg.byCls D x fun F => M.noexc (F [x])) h fun w1 st1 x v H1 l r h1 => ?_
    obtain ⟨c, ad, dx, vs, fs, F, rfl, k1, k2, qD, h2⟩ := h1.byCls (k := fun F _ => M.noexc (F [x])) r
    refine ⟨c, ad, dx, vs, F, rfl, k1, qD, w1, st1, [x], rfl, h2.wr, .cons r .nil, ?_⟩
    have pq := h2.post
    unfold M.noexc at pq
    cases q : F [x] st1 with
    | ok y st2 => rw [q] at pq; exact pq
    | exc e st2 => rw [q] at pq; exact pq.elim
    | bad => rw [q] at pq; exact pq.elim
  refine attr_of hb (thn (ho.run pins s σ H _ I t1) fun u s1 ⟨v, H1, I1, rv, c, ad, dx, vs, F, ev, k1, qD, q⟩ => ?_)
  subst ev
  cases (show u = Value.ref ad from rv)
  obtain ⟨k, hkj, pw⟩ := hm c F qD
  obtain ⟨pa, f, fd, ps, h1, h2, hbd⟩ := pw.ex
  exact run_prop I1 k1 pw.cls h2 h1 (hr.mono hkj) hgd hbd q
/-! ### isinstance(x, C), C an own class -/
def gIsC (D : Nat → Option Bool) : PV → Option PV
  | .obj c _ => (D c).map .bl
  | x => (tyN x).map fun _ => .bl false
/-- what isinstance asks of the class of an instance -/
structure InsW (K : PySem.W.Frag) (C : Addr) : Prop where
  cls : Cls K C
  ca : PySem.W.findIn K (.ref C) "__class__" = some (some (.builtin "object.__class__"))
  gt : PySem.W.specialIn K (.builtin "object.__class__") "__get__" = some (some (.builtin "getset_descriptor.__get__"))
  tk : PySem.W.takesIn K (.builtin "object.__class__") = some true
  mro : PySem.W.mroIn K C (.type "object") = some true
theorem pp_isC {D : Nat → Option Bool} {x : Str} {C : Addr} {p2 : Pos} (hm1 : X.mg "isinstance" = none) (hm2 : X.mg x = some (.ref C)) (hk : ∀ t : Ty, PySem.W.kitOne X.K (.type t.nm) (.ref C) = some false) (hD : ∀ c b, D c = some b → InsW X.K (T.cls c) ∧ PySem.W.kitOne X.K (.ref (T.cls c)) (.ref C) = some b) (ha : PP X T W a fa)
    (h1 : glB X.env.scope "isinstance" = true := by kernel_rfl) (h2 : okG X.env.scope x = true := by kernel_rfl)
    (hs : starEach [a, .Name x p2] X.env = (false, eval a X.env) :: starEach [.Name x p2] X.env := by rfl) (hs2 : starEach [.Name x p2] X.env = (false, eval (.Name x p2) X.env) :: starEach [] X.env := by rfl) (hpl : (backTo pos (starEach [.Name x p2] X.env)).any (·.1) = false := by rfl)
    (hb : bootBuiltins "isinstance" = some (.builtin "isinstance") := by decide +kernel) : PP X T W (.Call (.Name "isinstance" p) [a, .Name x p2] [] pos) (e1 (gIsC D) fa) := by
  unfold okG at h2
  simp only [Bool.and_eq_true, Bool.not_eq_true'] at h2
  have hc : CallR X (.builtin "isinstance") (fun xs H Q => ∃ v w st y z r, xs = [v, .ref C] ∧ Wr (Cx.g X T) w st H ∧ Rep (Cx.g X T) w H v y ∧ view st y = some z ∧ noLoc z = true ∧ gIsC D z = some (.bl r) ∧ Q (.bl r) H) := by
    intro pins s σ H xs us Q I rx ⟨v, w, st, y, z, r, exs, wr, ry, e1, e2, e3, q⟩
    subst exs
    cases rx with | cons r1 r2 =>
    cases r2 with | cons r2 r3 =>
    cases r3
    cases (show _ = Value.ref C from r2)
    have vw := wr.view ry e1 e2
    by_cases ht : ∃ t, tyN z = some t
    · obtain ⟨t, ht⟩ := ht
      have er : r = false := by
        cases z <;> first | (cases ht; done) | (simp only [gIsC, ht, Option.map_some, Option.some.injEq, PV.bl.injEq] at e3; exact e3.symm)
      subst er
      obtain ⟨P, Z, pz, hx⟩ := vw.kit I r1 ht
      exact PySem.W.kia_one Z I.kIn pz (hk t) hx fun tk => ⟨.bl _, H, I.tok tk, rfl, q⟩
    · cases vw with
      | @obj ad dx c vs fs k1 k2 =>
        simp only [gIsC] at e3
        cases qD : D c with
        | none => rw [qD] at e3; cases e3
        | some b =>
          rw [qD] at e3
          cases e3
          obtain ⟨iw, kb⟩ := hD c _ qD
          exact isinst_ok I r1 (.ins k1 iw.cls iw.ca iw.gt iw.tk iw.mro) kb fun tk => ⟨.bl _, H, I.tok tk, rfl, q⟩
      | ty n => cases e3
      | _ => exact absurd ⟨_, rfl⟩ ht
  refine ⟨fun pins s σ H Q I ⟨w, st, ρ, h⟩ => (pe_callB hc (gl_of h1) hm1 hb (pa_cons ha (pa_cons (pe_glob (v := .ref C) (gl_of h2.1) hm2 rfl h2.2) pa_nil hs2) hs) (by decide) (by decide) hs hpl).run pins s σ H Q I ?_⟩
  refine RunE.eE (k := fun x _ => g1 (gIsC D) x) h fun w1 st1 y v H1 l r h1 => ?_
  rcases g1_ok (g := gIsC D) (x := y) (st := st1) with ⟨o, z, q1, q2, q3, q4⟩ | q
  · have hr : ∃ r, o = .bl r := by
      unfold gIsC at q3
      split at q3
      · rename_i c _
        cases qD : D c with
        | none => rw [qD] at q3; cases q3
        | some b => rw [qD] at q3; cases q3; exact ⟨_, rfl⟩
      · cases qt : tyN z with
        | none => rw [qt] at q3; cases q3
        | some b => rw [qt] at q3; cases q3; exact ⟨_, rfl⟩
    obtain ⟨r0, rfl⟩ := hr
    exact ⟨v, w1, st1, y, z, r0, rfl, h1.wr, r, q1, q2, q3, h1.ret q4 (Le.refl _ _) h1.wr (.bl _)⟩
  · exact (h1.no q).elim
def ckIns (C : Str) : PySem.W.Frag → Bool := fun K => (He.Fa.cls C).ok K && (He.eqO (PySem.W.findIn K (.ref (He.ga K C)) "__class__") (some (some (.builtin "object.__class__"))) && (He.eqO (PySem.W.specialIn K (.builtin "object.__class__") "__get__") (some (some (.builtin "getset_descriptor.__get__"))) &&
  (decide (PySem.W.takesIn K (.builtin "object.__class__") = some true) && decide (PySem.W.mroIn K (He.ga K C) (.type "object") = some true))))
theorem ckIns_ok {K : PySem.W.Frag} {C : Str} (h : ckIns C K = true) : InsW K (He.ga K C) := by
  unfold ckIns at h
  simp only [Bool.and_eq_true, decide_eq_true_eq] at h
  exact ⟨He.cls_ok h.1, He.eqO_ok h.2.1, He.eqO_ok h.2.2.1, h.2.2.2.1, h.2.2.2.2⟩
end
end Eg

/-! E21: dicts: d[k], k in d, len(d). -/
namespace Eg
open PySem PySem.Spec PyProof.Rows L2
/-! ### keys -/
theorem kOk_str {x : Str} (h : kOk (.inr x) = true) : x.cps.toList.all (fun c => decide (c < 1114112)) = true := h
theorem peq_key (a b : Key) : peq (keyP a) (keyP b) = decide (a = b) := by
  cases a with
  | inl i =>
    cases b with
    | inl j =>
      show (i == j) = _
      rw [Bool.eq_iff_iff]; simp
    | inr y => simp [keyP, peq]
  | inr x =>
    cases b with
    | inl j => simp [keyP, peq]
    | inr y =>
      show (x.cps.toList == y.cps.toList) = _
      rw [Bool.eq_iff_iff]
      simp only [beq_iff_eq, decide_eq_true_eq, Sum.inr.injEq]
      constructor
      · intro h
        rw [s2_of x, s2_of y, h]
      · intro h; rw [h]
theorem peqs_key : ∀ a b : List Key, peqs (a.map keyP) (b.map keyP) = decide (a = b)
  | [], [] => by simp [peqs]
  | [], _ :: _ => by simp [peqs]
  | _ :: _, [] => by simp [peqs]
  | x :: a, y :: b => by
    simp only [List.map_cons, peqs, peq_key, peqs_key a b]
    rw [Bool.eq_iff_iff]
    simp
/-- a key by value -/
def asKey : PV → Option Key
  | .int i => some (.inl i)
  | .str x => some (.inr (s2 x))
  | _ => none
def asKeys : List PV → Option (List Key)
  | [] => some []
  | x :: xs => match asKey x, asKeys xs with
    | some k, some ks => some (k :: ks)
    | _, _ => none
theorem asKey_ok {x : PV} {k : Key} (h : asKey x = some k) : x = keyP k := by
  cases x <;> first | (cases h; done) | (cases h; rfl)
theorem asKeys_ok : ∀ {xs : List PV} {ks : List Key}, asKeys xs = some ks → xs = ks.map keyP
  | [], _, h => by cases h; rfl
  | x :: xs, ks, h => by
    unfold asKeys at h
    split at h
    · rename_i k l h1 h2
      cases h
      rw [asKey_ok h1, asKeys_ok h2]
      rfl
    · cases h
section
variable {G : Cfg} {w : Wo} {H : Hp}
theorem Rep.key {v : V} {x : PV} {k : Key} (r : Rep G w H v x) (h : asKey x = some k) : v = kV k := by
  cases r <;> first | (cases h; done) | (cases h; rfl)
theorem Vw.key {v : V} {x : PV} {k : Key} (r : Vw G w H v x) (h : asKey x = some k) : v = kV k := by
  cases r <;> first | (cases h; done) | (cases h; rfl)
theorem RepL.keys : ∀ {vs : List V} {xs : List PV} {ks : List Key}, RepL G w H vs xs → asKeys xs = some ks → vs = ks.map kV
  | _, _, _, .nil, h => by cases h; rfl
  | _, _, ks, .cons a b, h => by
    unfold asKeys at h
    split at h
    · rename_i k l h1 h2
      cases h
      rw [a.key h1, b.keys h2]
      rfl
    · cases h
theorem RepK.look {k : Key} : ∀ {ks : List (Key × V)} {kvs : List (PV × PV)}, RepK G w H ks kvs → (∀ x, dlook (keyP k) kvs = some x → ∃ v, valV ks k = some v ∧ Rep G w H v x) ∧ (dlook (keyP k) kvs = none → valV ks k = none)
  | _, _, .nil => ⟨(fun _ h => by cases h), fun _ => rfl⟩
  | _, _, .cons (k := k') (v := v) (x := y) _ r rs => by
    have ih := RepK.look (k := k) rs
    by_cases e : k' = k
    · subst e
      have h1 : ∀ kvs, dlook (keyP k') ((keyP k', y) :: kvs) = some y := fun kvs => by unfold dlook; rw [peq_key, decide_eq_true rfl, if_pos rfl]
      rw [h1]
      exact ⟨fun x h => by cases h; exact ⟨v, valV_pos rfl, r⟩, fun h => by cases h⟩
    · have h1 : ∀ kvs, dlook (keyP k) ((keyP k', y) :: kvs) = dlook (keyP k) kvs := fun kvs => by
        conv => lhs; unfold dlook
        rw [peq_key, decide_eq_false e]
        simp
      rw [h1, valV_neg e]
      exact ih
/-- a dict of the one kind, of the other -/
def keysK : List (PV × PV) → Bool
  | [] => true
  | (k, _) :: r => (asKey k).isSome && keysK r
def keysT : List (PV × PV) → Bool
  | [] => true
  | (.tup ks, _) :: r => (asKeys ks).isSome && keysT r
  | _ => false
theorem asKey_keyP (k : Key) : asKey (keyP k) = some k := by
  cases k with
  | inl i => rfl
  | inr x => show some (Sum.inr (s2 x.cps.toList)) = _; rw [← s2_of]
theorem asKeys_keyP : ∀ k : List Key, asKeys (k.map keyP) = some k
  | [] => rfl
  | k :: ks => by simp [asKeys, asKey_keyP, asKeys_keyP ks]
theorem isTup_ok {x : PV} (h : isTupP x = true) : ∃ xs, x = .tup xs := by
  cases x <;> first | exact ⟨_, rfl⟩ | (cases h; done)
theorem RepT.notK : ∀ {ks : List NKV} {kvs : List (PV × PV)}, RepT G w H ks kvs → keysK kvs = true → ks = [] ∧ kvs = []
  | _, _, .nil, _ => ⟨rfl, rfl⟩
  | _, _, .cons t _ _ _ _, h => by
    obtain ⟨xs, rfl⟩ := isTup_ok t
    simp [keysK, asKey] at h
theorem RepK.notT : ∀ {ks : List (Key × V)} {kvs : List (PV × PV)}, RepK G w H ks kvs → keysT kvs = true → ks = [] ∧ kvs = []
  | _, _, .nil, _ => ⟨rfl, rfl⟩
  | _, _, .cons (k := k) _ _ _, h => by cases k <;> simp [keysT, keyP] at h
theorem RepK.length : ∀ {ks : List (Key × V)} {kvs : List (PV × PV)}, RepK G w H ks kvs → ks.length = kvs.length
  | _, _, .nil => rfl
  | _, _, .cons _ _ r => by simp [RepK.length r]
theorem RepT.length : ∀ {ks : List NKV} {kvs : List (PV × PV)}, RepT G w H ks kvs → ks.length = kvs.length
  | _, _, .nil => rfl
  | _, _, .cons _ _ _ _ r => by simp [RepT.length r]
end
/-! ### d[k] -/
section
variable {X : Cx} {T : Tabs} {W : WX} {a b c e : Expr} {es : List Expr} {fa fb fc : Fr → M PV} {fr : Fr → M (List PV)} {pos p : Pos}
/-- the key at b is the list of keys k -/
theorem key_sq {pins : List (Addr × Obj)} {σ : L2.St} {H : Hp} {s : Shared} {b : Addr} {k : List Key} (I : L2.Inv X pins σ H s) (hq : SqT X.K H b (k.map kV)) : (tupleKind (mixKind X.prog X.w)).is s.heap k b := by
  obtain ⟨its, rv, ⟨o, h1, h2, n, h3⟩, _⟩ := I.tuple hq
  exact ⟨o, its.toArray, n, h1, h2, h3, by simpa using items_are rv⟩
/-- a[y] is r: by a key, by a tuple of keys -/
def DLk (K : PySem.W.Frag) (H : Hp) (a : Addr) (y : V) (r : Option V) : Prop :=
  (∃ kvs k, Rd H a (.dK kvs) ∧ y = kV k ∧ r = valV kvs k) ∨ ∃ kvs k b, Rd H a (.dT kvs) ∧ y = .ref b ∧ SqT K H b (k.map kV) ∧ r = valV kvs k
theorem dl_getItem {pins : List (Addr × Obj)} {σ : L2.St} {H : Hp} {s : Shared} {ad : Addr} {y v : V} {u : Value} {A : Around} {E : Value → Shared → Prop} {Q : Value → Shared → Prop} (hu : A.units + 1 < cLine) (I : L2.Inv X pins σ H s) (g : DLk X.K H ad y (some v)) (ry : RelV y u) (h : ∀ w' s', L2.Inv X pins σ H s' → RelV v w' → Q w' s') :
    s.TypeIs (.ref ad) "dict" ∧ wpAny (model X.prog X.w) A (getItem (.ref ad) u) Q E s := by
  rcases g with ⟨kvs, k, e, ey, l⟩ | ⟨kvs, k, b, e, ey, eb, l⟩
  · subst ey
    obtain ⟨z, hd, vs, rel, dd⟩ := dk_rd I.hok e
    obtain ⟨w', hw, rw'⟩ := RelO.some_of (v := v) (o := valueAt vs k) (by rw [l]; exact rel.val k)
    exact ⟨dd.typeIs, wpAny_getItem_of (kV_is ry) dd.mapOf hw (h w' _ (I.tok _) rw')⟩
  · subst ey
    cases (show u = Value.ref b from ry)
    obtain ⟨z, hd, xs, rel, dd⟩ := dt_rd I.hok e
    obtain ⟨w', hw, rw'⟩ := RelO.some_of (v := v) (o := (atKey xs k).map (·.2)) (by rw [l]; exact rel.val k)
    obtain ⟨q, hq, hq2⟩ := Option.map_eq_some_iff.mp hw
    refine ⟨dd.typeIs, wpAny_getItem_heap (tupleKind_room_in1 hu) (key_sq I eb) dd hq ?_⟩
    rw [hq2]
    exact h w' _ (I.tok _) rw'
def rDix (K : PySem.W.Frag) : R2 := fun x y H Q => ∃ ad v, x = .ref ad ∧ DLk K H ad y (some v) ∧ Q v H
theorem ix_dct (hu : X.A.units + 64 < cLine) : IxR X (rDix X.K) := by
  intro value slice pins s σ H x y v u Q I rx ry ⟨ad, z, ex, g, q⟩ hs
  subst ex
  cases (show v = Value.ref ad from rx)
  obtain ⟨hT, hg⟩ := dl_getItem (A := X.A) (E := X.xe) (Q := EP X pins σ Q) (by omega) I g ry fun w' s' I' r' => ⟨z, H, I', r', q⟩
  unfold subscriptTail
  refine wpAny_bind ?_
  rw [getitemInPython_of_ne hT.not_modules]
  refine wpAny_bind (wpAny_specialOf hT PySem.F.slot_dict_getitem.lookup ?_)
  have fin : wpAny (model X.prog X.w) X.A (subscripted slice false (.ref ad) u) (fun r s3 => wpAny (model X.prog X.w) X.A (letTemporaryGo value (.ref ad) r >>= fun _ => pure r) (EP X pins σ Q) X.xe s3) X.xe s := by
    rw [hs]
    exact wpAny_operating (wpAny_mono hg (fun r s3 h3 => wpAny_bind (wpAny_letTemporaryGo (wpAny_pure h3))) fun _ _ x => x)
  first
    | exact wpAny_pure (wpAny_bind fin)
    | exact wpAny_bind (wpAny_pure (wpAny_bind fin))
    | exact wpAny_bind fin
def gDix : PV → PV → Option PV
  | .dct kvs, .int i => dlook (.int i) kvs
  | .dct kvs, .str x => dlook (.str x) kvs
  | .dct _, .tup _ => none
  | x, y => gIx x y
section
variable {G : Cfg} {w : Wo} {H : Hp}
theorem RepK.noT {xs : List PV} : ∀ {ks : List (Key × V)} {kvs : List (PV × PV)}, RepK G w H ks kvs → dlook (.tup xs) kvs = none
  | _, _, .nil => rfl
  | _, _, .cons (k := k) _ _ rs => by
    unfold dlook
    have : peq (keyP k) (.tup xs) = false := by cases k <;> simp [keyP, peq]
    rw [this]
    exact RepK.noT rs
theorem RepT.noK {k : Key} : ∀ {ks : List NKV} {kvs : List (PV × PV)}, RepT G w H ks kvs → dlook (keyP k) kvs = none
  | _, _, .nil => rfl
  | _, _, .cons t _ _ _ rs => by
    obtain ⟨ys, rfl⟩ := isTup_ok t
    unfold dlook
    have : ∀ ys, peq (.tup ys) (keyP k) = false := fun ys => by cases k <;> simp [keyP, peq]
    rw [this]
    exact RepT.noK rs
end
theorem Vw.dlkK {w : Wo} {H : Hp} {v u : V} {kvs : List (PV × PV)} {y x : PV} {k : Key} (hv : Vw (Cx.g X T) w H v (.dct kvs)) (hy : Vw (Cx.g X T) w H u y) (hk : asKey y = some k) (h : dlook y kvs = some x) : ∃ ad z, v = .ref ad ∧ DLk X.K H ad u (some z) ∧ Rep (Cx.g X T) w H z x := by
  have ek := asKey_ok hk
  subst ek
  cases hv with
  | @dcK ad ks _ h1 r =>
    obtain ⟨z, h2, h3⟩ := r.look.1 x h
    exact ⟨ad, z, rfl, .inl ⟨ks, k, (h1.rd rfl), hy.key hk, h2.symm⟩, h3⟩
  | dcT _ _ r => rw [r.noK] at h; cases h
theorem o2_dix : Op2 X T (fun x y H Q => rIx X.K x y H Q ∨ rDix X.K x y H Q) gDix := by
  intro w st H v u x y z Q wr rx ry e q
  unfold gDix at e
  split at e
  · obtain ⟨ad, t, h1, h2, h3⟩ := rx.dlkK ry (k := .inl _) rfl e
    exact .inr ⟨ad, t, h1, h2, q.here wr h3⟩
  · obtain ⟨ad, t, h1, h2, h3⟩ := rx.dlkK ry (k := .inr (s2 _)) rfl e
    exact .inr ⟨ad, t, h1, h2, q.here wr h3⟩
  · cases e
  · exact .inl (o2_ix w st H v u x y z Q wr rx ry e q)
theorem IxR.or {r r' : R2} (h : IxR X r) (h' : IxR X r') : IxR X fun x y H Q => r x y H Q ∨ r' x y H Q := fun value slice pins s σ H x y v u Q I rx ry q hs => q.elim (fun q => h value slice pins s σ H x y v u Q I rx ry q hs) fun q => h' value slice pins s σ H x y v u Q I rx ry q hs
/-- o[i], whatever o is -/
theorem pp_sub1 (hu : X.A.units + 64 < cLine) (ha : PP X T W a fa) (hb : PP X T W b fb) (hs : PlainIx b := by intro _ _; rfl) : PP X T W (.Subscript a b pos) (e2 gDix fa fb) :=
  ⟨fun pins s σ H Q I h => (pe_ix (IxR.or ix_seq (ix_dct hu)) ha hb hs).run pins s σ H Q I (t2 o2_dix h)⟩
/-! ### k in d -/
/-- an empty dict is of either kind -/
theorem dt_nil {pins : List (Addr × Obj)} {σ : L2.St} {H : Hp} {s : Shared} {ad : Addr} (I : L2.Inv X pins σ H s) (e : Rd H ad (.dT [])) : (ad == sysModules) = false ∧ s.heap.DictOf (mixKind X.prog X.w) ad [] := by
  obtain ⟨z, hd, xs, rel, o, es, ep, h1, h2, h3, h4, h5, h6⟩ := dt_rd I.hok e
  cases rel
  have e0 : es = #[] := by
    cases es with | mk l => simp at h4; rw [h4]
  subst e0
  exact ⟨hd, o, #[], ep, h1, h2, h3, fun e he => by simp at he, .nil, by simp⟩
theorem dk_nil {pins : List (Addr × Obj)} {σ : L2.St} {H : Hp} {s : Shared} {ad : Addr} (I : L2.Inv X pins σ H s) (e : Rd H ad (.dK [])) : (ad == sysModules) = false ∧ s.heap.DictOfH (tupleKind (mixKind X.prog X.w)) ad [] := by
  obtain ⟨z, hd, vs, rel, o, es, ep, h1, h2, h3, h4, h5, h6⟩ := dk_rd I.hok e
  cases rel
  have e0 : es = #[] := by
    cases es with | mk l => simp only at h5; cases h5; rfl
  subst e0
  exact ⟨hd, o, #[], ep, h1, h2, h3, rfl, fun x hx => by simp at hx, by simp⟩
def DIn (K : PySem.W.Frag) (H : Hp) (ad : Addr) (y : V) (r : Bool) : Prop :=
  (∃ o, DLk K H ad y o ∧ r = o.isSome) ∨ (Rd H ad (.dT []) ∧ (∃ k, y = kV k) ∧ r = false) ∨ (Rd H ad (.dK []) ∧ (∃ (b : Addr) (k : List Key), y = .ref b ∧ SqT K H b (k.map kV)) ∧ r = false)
def rDIn (K : PySem.W.Frag) (n : Bool) : R2 := fun y x H Q => ∃ ad r, x = .ref ad ∧ DIn K H ad y r ∧ Q (.bl (xor n r)) H
theorem op_din (hu : X.A.units + 64 < cLine) : OpR X (compareOp .In) (rDIn X.K false) := by
  intro pins s σ H y x u v Q I ry rx ⟨ad, r, ex, g, q⟩
  subst ex
  cases (show v = Value.ref ad from rx)
  have fin : ∀ t, EP X pins σ Q (.bool r) { s with toks := t } := fun t => ⟨.bl r, H, I.tok t, rfl, by rw [Bool.false_xor] at q; exact q⟩
  rcases g with ⟨o, g, er⟩ | ⟨h1, ⟨k, ey⟩, er⟩ | ⟨h1, ⟨b, k, ey, eb⟩, er⟩
  · subst er
    rcases g with ⟨kvs, k, e, ey, l⟩ | ⟨kvs, k, b, e, ey, eb, l⟩
    · subst ey
      obtain ⟨z, hd, vs, rel, dd⟩ := dk_rd I.hok e
      refine wpAny_in_of (kV_is ry) hd dd.mapOf ?_
      rw [← (rel.val k).isSome_eq, ← l]
      exact fin _
    · subst ey
      cases (show u = Value.ref b from ry)
      obtain ⟨z, hd, xs, rel, dd⟩ := dt_rd I.hok e
      refine wpAny_in_heap (tupleKind_room_in1 (by omega)) (key_sq I eb) hd dd ?_
      have q2 := (rel.val k).isSome_eq
      rw [Option.isSome_map] at q2
      rw [← q2, ← l]
      exact fin _
  · subst ey er
    obtain ⟨hd, dd⟩ := dt_nil I h1
    exact wpAny_in_of (kV_is ry) hd dd.mapOf (fin _)
  · subst ey er
    cases (show u = Value.ref b from ry)
    obtain ⟨hd, dd⟩ := dk_nil I h1
    exact wpAny_in_heap (tupleKind_room_in1 (by omega)) (key_sq I eb) hd dd (fin _)
theorem op_dnotin (hu : X.A.units + 64 < cLine) : OpR X (compareOp .NotIn) (rDIn X.K true) := by
  intro pins s σ H y x u v Q I ry rx ⟨ad, r, ex, g, q⟩
  subst ex
  cases (show v = Value.ref ad from rx)
  have fin : ∀ t, EP X pins σ Q (.bool (!r)) { s with toks := t } := fun t => ⟨.bl (!r), H, I.tok t, rfl, by rw [Bool.true_xor] at q; exact q⟩
  rcases g with ⟨o, g, er⟩ | ⟨h1, ⟨k, ey⟩, er⟩ | ⟨h1, ⟨b, k, ey, eb⟩, er⟩
  · subst er
    rcases g with ⟨kvs, k, e, ey, l⟩ | ⟨kvs, k, b, e, ey, eb, l⟩
    · subst ey
      obtain ⟨z, hd, vs, rel, dd⟩ := dk_rd I.hok e
      refine wpAny_notIn_of (kV_is ry) hd dd.mapOf ?_
      rw [← (rel.val k).isSome_eq, ← l]
      exact fin _
    · subst ey
      cases (show u = Value.ref b from ry)
      obtain ⟨z, hd, xs, rel, dd⟩ := dt_rd I.hok e
      refine wpAny_notIn_heap (tupleKind_room_in1 (by omega)) (key_sq I eb) hd dd ?_
      have q2 := (rel.val k).isSome_eq
      rw [Option.isSome_map] at q2
      rw [← q2, ← l]
      exact fin _
  · subst ey er
    obtain ⟨hd, dd⟩ := dt_nil I h1
    exact wpAny_notIn_of (kV_is ry) hd dd.mapOf (fin _)
  · subst ey er
    cases (show u = Value.ref b from ry)
    obtain ⟨hd, dd⟩ := dk_nil I h1
    exact wpAny_notIn_heap (tupleKind_room_in1 (by omega)) (key_sq I eb) hd dd (fin _)
end
end Eg

/-! E22: in, not in. -/
namespace Eg
open PySem PySem.Spec PyProof.Rows L2
theorem Bd.hu2 {X : Cx} {W : WX} {k : Nat} (b : Bd X W k) : X.A.units + 100 < cLine := by have := b.room.un; omega
def okIn (x : PV) (ys : List PV) : Bool := isD x && (isDs ys && decide (pdep x ≤ 60))
def gIn (n : Bool) : PV → PV → Option PV
  | x, .lst ys => if okIn x ys then some (.bl (xor n (ys.any fun y => peq y x))) else none
  | x, .tup ys => if okIn x ys then some (.bl (xor n (ys.any fun y => peq y x))) else none
  | .int i, .dct kvs => if keysK kvs then some (.bl (xor n (dlook (.int i) kvs).isSome)) else none
  | .str x, .dct kvs => if keysK kvs then some (.bl (xor n (dlook (.str x) kvs).isSome)) else none
  | .tup _, .dct _ => none
  | .str x, .str y => some (.bl (xor n (!(Builtin.Str.occurrences (s2 y) (s2 x) 0 (s2 y).length 1).isEmpty)))
  | _, _ => none
section
variable {X : Cx} {T : Tabs} {W : WX} {a b c e : Expr} {es : List Expr} {fa fb fc : Fr → M PV} {fr : Fr → M (List PV)} {pos p : Pos}
/-- data in a list, in a tuple -/
def rInQ (K : PySem.W.Frag) (n : Bool) : R2 := fun x y H Q => ∃ d ds, Dp K H x d ∧ (Dp K H y (.list ds) ∨ Dp K H y (.tuple ds)) ∧ d.canLay0 = true ∧ d.depth ≤ 60 ∧ PyData.canLayAll0 ds = true ∧ Q (.bl (xor n (ds.any fun z => PyData.eqv z d))) H
theorem room_in {A : Around} {d : PyData} {ds : List PyData} (h : d.depth ≤ 60) (hu : A.units + 100 < cLine) : A.units + 1 + min (PyData.depthAll ds) d.depth < cLine := by
  have h2 : min (PyData.depthAll ds) d.depth ≤ d.depth := Nat.min_le_right _ _
  omega
theorem op_inQ (hu : X.A.units + 100 < cLine) : OpR X (compareOp .In) (rInQ X.K false) := by
  intro pins s σ H x y v u Q I rx ry ⟨d, ds, hd, he, h1, h2, h3, q⟩
  rw [Bool.false_xor] at q
  obtain ⟨as, r1⟩ := Dp.reads I d x v hd rx
  rcases he with he | he
  · obtain ⟨bs, r2⟩ := Dp.reads I (.list ds) y u he ry
    exact SeqAt.in_list_reads r2 r1 h3 h1 (room_in h2 hu) ⟨.bl _, H, I, rfl, q⟩
  · obtain ⟨bs, r2⟩ := Dp.reads I (.tuple ds) y u he ry
    exact SeqAt.in_tuple_reads r2 r1 h3 h1 (room_in h2 hu) ⟨.bl _, H, I, rfl, q⟩
theorem op_notinQ (hu : X.A.units + 100 < cLine) : OpR X (compareOp .NotIn) (rInQ X.K true) := by
  intro pins s σ H x y v u Q I rx ry ⟨d, ds, hd, he, h1, h2, h3, q⟩
  rw [Bool.true_xor] at q
  obtain ⟨as, r1⟩ := Dp.reads I d x v hd rx
  rcases he with he | he
  · obtain ⟨bs, r2⟩ := Dp.reads I (.list ds) y u he ry
    exact SeqAt.notIn_list_reads r2 r1 h3 h1 (room_in h2 hu) ⟨.bl _, H, I, rfl, q⟩
  · obtain ⟨bs, r2⟩ := Dp.reads I (.tuple ds) y u he ry
    exact SeqAt.notIn_tuple_reads r2 r1 h3 h1 (room_in h2 hu) ⟨.bl _, H, I, rfl, q⟩
theorem any_toD {x : PV} (hx : isD x = true) : ∀ ys : List PV, isDs ys = true → (toDs ys).any (fun z => PyData.eqv z (toD x)) = ys.any fun y => peq y x
  | [], _ => rfl
  | y :: ys, h => by
    simp only [isDs, Bool.and_eq_true] at h
    simp only [toDs, List.any_cons, eqv_toD y x h.1 hx, any_toD hx ys h.2]
def rStrIn (n : Bool) : R2 := fun x y H Q => ∃ i j, x = .str i ∧ y = .str j ∧ Q (.bl (xor n (!(Builtin.Str.occurrences j i 0 j.length 1).isEmpty))) H
theorem op_strIn : OpR X (compareOp .In) (rStrIn false) := fun pins s σ H x y v u Q I rx ry ⟨i, j, h1, h2, q⟩ => op_in_str pins s σ H x y v u Q I rx ry ⟨i, j, h1, h2, by rw [Bool.false_xor] at q; exact q⟩
theorem op_strNotin : OpR X (compareOp .NotIn) (rStrIn true) := fun pins s σ H x y v u Q I rx ry ⟨i, j, h1, h2, q⟩ => op_notin_str pins s σ H x y v u Q I rx ry ⟨i, j, h1, h2, by rw [Bool.true_xor] at q; exact q⟩
def rInAll (K : PySem.W.Frag) (n : Bool) : R2 := fun x y H Q => rStrIn n x y H Q ∨ rInQ K n x y H Q ∨ rDIn K n x y H Q
theorem Vw.din {w : Wo} {H : Hp} {v u : V} {kvs : List (PV × PV)} {y : PV} {k : Key} (hv : Vw (Cx.g X T) w H v (.dct kvs)) (hy : Vw (Cx.g X T) w H u y) (hk : asKey y = some k) (hK : keysK kvs = true) : ∃ ad, v = .ref ad ∧ DIn X.K H ad u (dlook y kvs).isSome := by
  have ek := asKey_ok hk
  subst ek
  cases hv with
  | @dcK ad ks _ h1 r =>
    refine ⟨ad, rfl, .inl ⟨valV ks k, .inl ⟨ks, k, (h1.rd rfl), hy.key hk, rfl⟩, ?_⟩⟩
    cases q : dlook (keyP k) kvs with
    | none => rw [r.look.2 q]; rfl
    | some x => obtain ⟨z, h2, _⟩ := r.look.1 x q; rw [h2]; rfl
  | @dcT ad ks _ h1 n r => exact absurd (r.notK hK).1 n
theorem o2_in (n : Bool) : Op2 X T (rInAll X.K n) (gIn n) := by
  intro w st H v u x y z Q wr rx ry e q
  unfold gIn at e
  split at e
  · rename_i ys
    split at e
    · rename_i hk
      cases e
      simp only [okIn, Bool.and_eq_true, decide_eq_true_eq] at hk
      have hL : isD (.lst ys) = true := by simp only [isD]; exact hk.2.1
      refine .inr (.inl ⟨toD _, toDs ys, rx.dp hk.1, .inl (ry.dp hL), rx.lay hk.1, by rw [depth_toD]; exact hk.2.2, ry.lay hL, ?_⟩)
      rw [any_toD hk.1 ys hk.2.1]
      exact q.here wr (.bl _)
    · cases e
  · rename_i ys
    split at e
    · rename_i hk
      cases e
      simp only [okIn, Bool.and_eq_true, decide_eq_true_eq] at hk
      have hL : isD (.tup ys) = true := by simp only [isD]; exact hk.2.1
      refine .inr (.inl ⟨toD _, toDs ys, rx.dp hk.1, .inr (ry.dp hL), rx.lay hk.1, by rw [depth_toD]; exact hk.2.2, ry.lay hL, ?_⟩)
      rw [any_toD hk.1 ys hk.2.1]
      exact q.here wr (.bl _)
    · cases e
  · split at e
    · rename_i hk
      cases e
      obtain ⟨ad, h1, h2⟩ := ry.din rx (k := .inl _) rfl hk
      exact .inr (.inr ⟨ad, _, h1, h2, q.here wr (.bl _)⟩)
    · cases e
  · split at e
    · rename_i hk
      cases e
      obtain ⟨ad, h1, h2⟩ := ry.din rx (k := .inr (s2 _)) rfl hk
      exact .inr (.inr ⟨ad, _, h1, h2, q.here wr (.bl _)⟩)
    · cases e
  · cases e
  · cases e
    cases rx with | str _ hx =>
    cases ry with | str _ hy =>
    exact .inl ⟨_, _, rfl, rfl, q.here wr (.bl _)⟩
  · cases e
theorem op_inAll (hu : X.A.units + 100 < cLine) : OpR X (compareOp .In) (rInAll X.K false) := op_strIn.or ((op_inQ hu).or (op_din (by omega)))
theorem op_notinAll (hu : X.A.units + 100 < cLine) : OpR X (compareOp .NotIn) (rInAll X.K true) := op_strNotin.or ((op_notinQ hu).or (op_dnotin (by omega)))
variable (hu : X.A.units + 100 < cLine) (ha : PP X T W a fa) (hb : PP X T W b fb)
include hu ha hb
theorem c_in (hm : behindInMarks .In b = false := by rfl) : PP X T W (.Compare a [.In] [b] pos) (e2 (gIn false) fa fb) := pp_cmp (op_inAll hu) (o2_in false) ha hb hm
theorem c_nin (hm : behindInMarks .NotIn b = false := by rfl) : PP X T W (.Compare a [.NotIn] [b] pos) (e2 (gIn true) fa fb) := pp_cmp (op_notinAll hu) (o2_in true) ha hb hm
theorem t_in (hm : behindInMarks .In b = false := by rfl) : PPT X T W (.Compare a [.In] [b] pos) (eT (e2 (gIn false) fa fb)) := ppt_cmp (op_inAll hu) (o2_in false) ha hb hm
theorem t_nin (hm : behindInMarks .NotIn b = false := by rfl) : PPT X T W (.Compare a [.NotIn] [b] pos) (eT (e2 (gIn true) fa fb)) := ppt_cmp (op_notinAll hu) (o2_in true) ha hb hm
end
end Eg

/-! E23: o[i] = v; {}; a location frozen where its name is read. -/
namespace Eg
open PySem PySem.Spec PyProof.Rows L2
/-! ### a dict's entries, one put in -/
section
variable {κ : Type} [DecidableEq κ]
def putR (k : κ) (v : V) : List (κ × V) → List (κ × V)
  | [] => [(k, v)]
  | (k', v') :: r => if k' = k then (k', v) :: r else (k', v') :: putR k v r
theorem putR_ne (k : κ) (v : V) (ks : List (κ × V)) : putR k v ks ≠ [] := by
  cases ks with
  | nil => simp [putR]
  | cons q r => obtain ⟨k', v'⟩ := q; unfold putR; split <;> simp
theorem putK_none {k : κ} {v : V} : ∀ {ks : List (κ × V)}, (∀ q ∈ ks, q.1 ≠ k) → ks.map (fun kv => if kv.1 = k then (kv.1, v) else kv) = ks
  | [], _ => rfl
  | q :: ks, h => by
    rw [List.map_cons, if_neg (h q (by simp)), putK_none fun z hz => h z (by simp [hz])]
theorem putK_eq {k : κ} {v : V} : ∀ {ks : List (κ × V)}, (ks.map (·.1)).Nodup → putK ks k v = putR k v ks
  | [], _ => by simp [putK, putR]
  | (k', v') :: ks, h => by
    have hd := List.nodup_cons.mp h
    by_cases e : k' = k
    · subst e
      have hn : ∀ q ∈ ks, q.1 ≠ k' := fun q hq z => hd.1 (List.mem_map.mpr ⟨q, hq, z⟩)
      unfold putK putR
      rw [if_pos rfl]
      simp only [List.any_cons, decide_true, Bool.true_or, if_true, List.map_cons]
      rw [putK_none hn]
    · have ih := putK_eq (k := k) (v := v) (ks := ks) hd.2
      unfold putR
      rw [if_neg e, ← ih]
      unfold putK
      simp only [List.any_cons, decide_eq_false e, Bool.false_or, List.map_cons, if_neg e]
      split <;> rfl
end
section
variable {G : Cfg} {w : Wo} {H : Hp}
theorem RepK.notin {k : Key} : ∀ {ks : List (Key × V)} {kvs : List (PV × PV)}, RepK G w H ks kvs → dlook (keyP k) kvs = none → k ∉ ks.map (·.1)
  | _, _, .nil, _ => by simp
  | _, _, .cons (k := k') _ _ rs, h => by
    unfold dlook at h
    rw [peq_key] at h
    by_cases e : k' = k
    · rw [decide_eq_true e] at h; simp at h
    · rw [decide_eq_false e] at h
      have ih := rs.notin (k := k) (by simpa using h)
      simp only [List.map_cons, List.mem_cons, not_or]
      exact ⟨fun z => e z.symm, ih⟩
theorem RepK.nodup : ∀ {ks : List (Key × V)} {kvs : List (PV × PV)}, RepK G w H ks kvs → dnd kvs = true → (ks.map (·.1)).Nodup
  | _, _, .nil, _ => List.nodup_nil
  | _, _, .cons _ _ rs, h => by
    simp only [dnd, Bool.and_eq_true, Option.isNone_iff_eq_none] at h
    rw [List.map_cons, List.nodup_cons]
    exact ⟨rs.notin h.1, rs.nodup h.2⟩
theorem RepK.putR {k : Key} {v : V} {x : PV} (hk : kOk k = true) (r : Rep G w H v x) : ∀ {ks : List (Key × V)} {kvs : List (PV × PV)}, RepK G w H ks kvs → RepK G w H (Eg.putR k v ks) (dput (keyP k) x kvs)
  | _, _, .nil => .cons hk r .nil
  | _, _, .cons (k := k') k0 r0 rs => by
    unfold Eg.putR dput
    rw [peq_key]
    by_cases e : k' = k
    · rw [if_pos e, decide_eq_true e, if_pos rfl]
      exact .cons k0 r rs
    · rw [if_neg e, decide_eq_false e, if_neg (by simp)]
      exact .cons k0 r0 (rs.putR hk r)
theorem Rep.kOk {v : V} {x : PV} {k : Key} (r : Rep G w H v x) (h : asKey x = some k) : Eg.kOk k = true := by
  cases r with
  | str z hz => cases h; exact hz
  | int i => cases h; rfl
  | _ => cases h
theorem RepL.kOk : ∀ {vs : List V} {xs : List PV} {ks : List Key}, RepL G w H vs xs → asKeys xs = some ks → ks.all Eg.kOk = true
  | _, _, _, .nil, h => by cases h; rfl
  | _, _, ks, .cons a b, h => by
    unfold asKeys at h
    split at h
    · rename_i k l h1 h2
      cases h
      simp only [List.all_cons, Bool.and_eq_true]
      exact ⟨a.kOk h1, b.kOk h2⟩
    · cases h
end
section
variable {X : Cx} {T : Tabs} {W : WX} {a b c e : Expr} {es : List Expr} {fa fb fc : Fr → M PV} {fr : Fr → M (List PV)} {pos p : Pos}
/-! ### a[y] = v -/
/-- as DPut, an empty dict being of either kind -/
def DPt (H : Hp) (ad : Addr) (y v : V) (H' : Hp) : Prop := DPut H ad y v H' ∨ (H ad = some (.dT []) ∧ ∃ k, y = kV k ∧ H' = upd H ad (.dK [(k, v)])) ∨ (H ad = some (.dK []) ∧ ∃ b k, y = .ref b ∧ b ≠ ad ∧ H b = some (.tup (k.map kV)) ∧ H' = upd H ad (.dT [(k, v)]))
def rSetP : TSet := fun o i v H Q => rSetL o i v H Q ∨ ∃ ad H', o = .ref ad ∧ DPt H ad i v H' ∧ Q H'
theorem upd_upd (H : Hp) (ad : Addr) (o o' : HO) : upd (upd H ad o) ad o' = upd H ad o' := by
  funext b
  unfold upd
  by_cases h : b = ad <;> simp [h]
theorem Inv.turnK {pins : List (Addr × Obj)} {σ : L2.St} {H : Hp} {s : Shared} {ad : Addr} (I : L2.Inv X pins σ H s) (e : H ad = some (.dT [])) : L2.Inv X pins σ (upd H ad (.dK [])) s := by
  obtain ⟨hd, dd⟩ := dt_nil I (.inl e)
  have he : ∃ q, s.heap.get? ad = some q := let ⟨q, _, _, hq, _⟩ := dd; ⟨q, hq⟩
  exact d_write (t' := s.toks) I (by rw [e]; exact True.intro) (Heap.SameBut.refl _ _) he ⟨Nat.zero_le _, hd, [], .nil, dd⟩
theorem Inv.turnT {pins : List (Addr × Obj)} {σ : L2.St} {H : Hp} {s : Shared} {ad : Addr} (I : L2.Inv X pins σ H s) (e : H ad = some (.dK [])) : L2.Inv X pins σ (upd H ad (.dT [])) s := by
  obtain ⟨hd, o, es, ep, h1, h2, h3, h4, h5, h6⟩ := dk_nil I (.inl e)
  exact d_write (t' := s.toks) I (by rw [e]; exact True.intro) (Heap.SameBut.refl _ _) ⟨o, h1⟩ ⟨Nat.zero_le _, hd, [], .nil, o, es, ep, h1, h2, h3, h4, h6⟩
theorem set_all (hu : X.A.units + 64 < cLine) : PSet X rSetP := by
  intro pins s σ H o i v ov iv u Q I ro ri rv h
  rcases h with h | ⟨ad, H', eo, g, q⟩
  · exact set_list pins s σ H o i v ov iv u Q I ro ri rv h
  · subst eo
    cases (show ov = Value.ref ad from ro)
    rcases g with g | ⟨h1, k, ey, eH⟩ | ⟨h1, b, k, ey, hne, hb, eH⟩
    · exact d_setItem (by omega) I g ri rv fun s' I' => ⟨H', I', q⟩
    · subst ey eH
      refine d_setItem (by omega) (Inv.turnK I h1) (DPut.k upd_same (by rw [sizeLine_eq]; simp)) ri rv fun s' I' => ⟨_, I', ?_⟩
      rw [upd_upd]
      exact q
    · subst ey eH
      refine d_setItem (by omega) (Inv.turnT I h1) (DPut.t upd_same (by rw [upd_ne hne]; exact hb) (by rw [sizeLine_eq]; simp)) ri rv fun s' I' => ⟨_, I', ?_⟩
      rw [upd_upd]
      exact q
def sset (l : Nat) (i x : PV) : M Unit := fun st => match st.get l with
  | some (.lst ys) => match i with
    | .int k => match ixN ys.length k with
      | some j => .ok () (st.put l (.lst (ys.set j x)))
      | none => .bad
    | _ => .bad
  | some (.dct kvs) => if dnd kvs && decide (kvs.length < 10000) then
      match i with
      | .int k => if keysK kvs then .ok () (st.put l (.dct (dput (.int k) x kvs))) else .bad
      | .str k => if keysK kvs then .ok () (st.put l (.dct (dput (.str k) x kvs))) else .bad
      | _ => .bad
    else .bad
  | _ => .bad
/-- the heap behind it -/
theorem sset_ok {w : Wo} {st st' : Store} {H : Hp} {l : Nat} {ad : Addr} {y x : PV} {u v : V} (wr : Wr (Cx.g X T) w st H) (hl : w.η l = some ad) (ry : Rep (Cx.g X T) w H u y) (rx : Rep (Cx.g X T) w H v x) (h : sset l y x st = .ok () st') :
    ∃ H', (∀ Q : Hp → Prop, Q H' → rSetP (.ref ad) u v H Q) ∧ Le w H w H' ∧ Wr (Cx.g X T) w st' H' := by
  unfold sset at h
  cases q : st.get l with
  | none => rw [q] at h; cases h
  | some c =>
    rw [q] at h
    obtain ⟨b, k1, k2⟩ := wr.cell l _ q
    rw [hl] at k1; cases k1
    cases c with
    | lst ys =>
      dsimp only at h
      cases ry with
      | int k =>
        dsimp only at h
        cases q4 : ixN ys.length k with
        | none => rw [q4] at h; cases h
        | some j =>
          rw [q4] at h
          cases h
          obtain ⟨hd, vs, k3, k4⟩ := k2
          obtain ⟨le, wr3⟩ := wr.put (c' := .lst (ys.set j x)) (o := .lst (vs.set j v)) hl q hd fun {w'} lr d' ew => by
            subst ew
            exact ⟨hd, _, upd_same, (k4.set rx j).mr lr⟩
          exact ⟨_, fun Q hQ => .inl ⟨ad, vs, k, j, rfl, rfl, k3, by rw [k4.length]; exact q4, hQ⟩, le, wr3⟩
      | _ => cases h
    | dct kvs =>
      dsimp only at h
      split at h
      · rename_i hk
        simp only [Bool.and_eq_true, decide_eq_true_eq] at hk
        obtain ⟨hd, k2⟩ := k2
        have goK : ∀ k : Key, asKey y = some k → keysK kvs = true → st' = st.put l (.dct (dput y x kvs)) → ∃ H', (∀ Q : Hp → Prop, Q H' → rSetP (.ref ad) u v H Q) ∧ Le w H w H' ∧ Wr (Cx.g X T) w st' H' := by
          intro k ak hK est
          subst est
          have eu := ry.key ak
          have ok := ry.kOk ak
          have ey := asKey_ok ak
          rcases k2 with ⟨ks, h1, r⟩ | ⟨ks, h1, n, r⟩
          · obtain ⟨le, wr3⟩ := wr.put (c' := .dct (dput y x kvs)) (o := .dK (putK ks k v)) hl q hd fun {w'} lr d' ew => by
              subst ew
              refine ⟨hd, .inl ⟨_, upd_same, ?_⟩⟩
              have rp := r.putR ok rx
              rw [← putK_eq (r.nodup hk.1)] at rp
              rw [ey]
              exact rp.mr lr
            exact ⟨_, fun Q hQ => .inr ⟨ad, _, rfl, .inl (.inl ⟨ks, k, h1, eu, by rw [r.length, sizeLine_eq]; omega, rfl⟩), hQ⟩, le, wr3⟩
          · exact absurd (r.notK hK).1 n
        cases ry with
        | int k =>
          dsimp only at h
          split at h
          · cases h; exact goK (.inl k) rfl (by assumption) rfl
          · cases h
        | str k kz =>
          dsimp only at h
          split at h
          · cases h; exact goK (.inr (s2 k)) rfl (by assumption) rfl
          · cases h
        | _ => cases h
      · cases h
    | _ => cases h
def gSub2 (fo fi : Fr → M PV) : PV → Fr → M Fr := fun x ρ => fo ρ >>= fun o => fi ρ >>= fun i => match o with
  | .loc l => sset l i x >>= fun _ => M.pure ρ
  | _ => M.bad
theorem ppg_sub2 {o i : Expr} {fo fi : Fr → M PV} (hu : X.A.units + 64 < cLine) (ho : PP X T W0 o fo) (hi : PP X T W0 i fi)
    (ha : ∀ v, assign (.Subscript o i pos) X.env v = (do
      let ov ← holding [v] (eval o X.env); let iv ← holding [v, ov] (eval i X.env); standAt pos
      holding [v, ov, iv] (setItem ov iv v); release [v, ov, iv] []) := by intro _; rfl) : PPG X T (.Subscript o i pos) [] (gSub2 fo fi) := by
  refine ⟨fun pins s σ H v u Q I r ⟨w, st, ρ, x, wr, fr, rx, ρ', st', e, q⟩ => (pg_sub ho hi (set_all hu) ha).run pins s σ H v u Q I r ?_⟩
  unfold gSub2 at e
  refine ⟨w, st, ρ, wr, fr, ?_⟩
  cases q1 : fo ρ st with
  | exc _ _ => rw [M.bind_exc q1] at e; cases e
  | bad => rw [M.bind_bad q1] at e; cases e
  | ok o1 st1 =>
    rw [M.bind_ok q1] at e
    intro w1 v1 H1 l1 wr1 r1
    refine ⟨w1, st1, ρ, wr1, fr.mono l1, ?_⟩
    cases q2 : fi ρ st1 with
    | exc _ _ => rw [M.bind_exc q2] at e; cases e
    | bad => rw [M.bind_bad q2] at e; cases e
    | ok i1 st2 =>
      rw [M.bind_ok q2] at e
      intro w2 v2 H2 l2 wr2 r2
      have r1' := r1.mono l2
      have rx' := (rx.mono l1).mono l2
      cases r1' with
      | @loc ad l hl =>
        dsimp only at e
        cases q3 : sset l i1 x st2 with
        | exc _ _ => rw [M.bind_exc q3] at e; cases e
        | bad => rw [M.bind_bad q3] at e; cases e
        | ok _ st3 =>
          rw [M.bind_ok q3] at e
          cases e
          obtain ⟨H3, h1, le, wr3⟩ := sset_ok wr2 hl r2 rx' q3
          exact h1 _ (q w2 σ _ ((l1.trans l2).trans le) wr3 (((fr.mono l1).mono l2).mono le) (Agr.refl _ _))
      | _ => cases e
end
end Eg

/-! E24: dict displays; a location frozen where its name is read; len(d). -/
namespace Eg
open PySem PySem.Spec PyProof.Rows L2
section
variable {X : Cx} {T : Tabs} {W : WX} {a b c e : Expr} {es : List Expr} {fa fb fc : Fr → M PV} {fr : Fr → M (List PV)} {pos p : Pos}
/-! ### a new object that is being made, hidden -/
structure Hid (X : Cx) (T : Tabs) (w0 : Wo) (H0 : Hp) (P : Addr) (w : Wo) (st : Store) (H : Hp) : Prop where
  le : Le w0 H0 w H
  wr : Wr (Cx.g X T) w st H
  hid : w.D P
  nl : ∀ l, w.η l ≠ some P
  at_ : H P ≠ none
theorem Hid.start {w0 : Wo} {st : Store} {H0 : Hp} {P : Addr} {o : HO} (wr : Wr (Cx.g X T) w0 st H0) (h0 : H0 P = none) (hn : nice o = true := by rfl) : Hid X T w0 H0 P (w0.hide P) st (upd H0 P o) := by
  have le : Le w0 H0 (w0.hide P) (upd H0 P o) := ⟨fun _ _ h => h, fun _ _ h => .inl h, fun a d n z => z.elim d fun z => n (z ▸ h0), fun a o d k => (Le.same (w := w0) (same_new h0)).keep a o d k, fun a n => (Le.same (w := w0) (same_new h0)).dom a n, fun _ d _ _ => .inl d, fun a o d k q => (Le.same (w := w0) (same_new h0)).ex a o d k q⟩
  refine ⟨le, ⟨fun l c h => ?_, wr.inj, fun a h => ?_, fun l a h => ⟨le.dom a (wr.ran l a h).1, (wr.ran l a h).2⟩, wr.tab.mr le.r fun a ps _ q => same_new h0 _ _ q, nic_start wr hn⟩, .inr rfl, wr.nloc h0, by rw [upd_same]; simp⟩
  · obtain ⟨a, h1, h2⟩ := wr.cell l c h
    exact ⟨a, h1, h2.mono le (wr.ran l a h1).1 (fun z => .inl z) fun _ => upd_ne fun z => wr.nloc h0 l (z ▸ h1)⟩
  · rcases h with h | h
    · exact le.dom a (wr.trk a h)
    · subst h; rw [upd_same]; simp
theorem Hid.step {w0 w w' : Wo} {H0 H H' : Hp} {P : Addr} {st st' : Store} (h : Hid X T w0 H0 P w st H) (l : Le w H w' H') (wr : Wr (Cx.g X T) w' st' H') : Hid X T w0 H0 P w' st' H' := by
  refine ⟨h.le.trans l, wr, l.hid P h.hid h.at_ h.nl, fun j z => ?_, l.dom P h.at_⟩
  rcases l.ran j P z with z | z
  · exact h.nl j z
  · exact h.at_ z
theorem Hid.put {w0 w : Wo} {H0 H : Hp} {P : Addr} {st : Store} {o : HO} (h : Hid X T w0 H0 P w st H) (h0 : H0 P = none) (hn : nice o = true := by rfl) : Hid X T w0 H0 P w st (upd H P o) := by
  refine ⟨⟨h.le.loc, h.le.ran, h.le.fix, fun a q d k => ?_, fun a n => ?_, h.le.hid, fun a q d k z => ?_⟩, h.wr.hidden h.hid h.nl hn, h.hid, h.nl, by rw [upd_same]; simp⟩
  · have e : a ≠ P := fun z => k.ne (z ▸ h0)
    exact (h.le.keep a q d k).imp fun u z => by rw [upd_ne e]; exact z
  · have e : a ≠ P := fun z => n (z ▸ h0)
    rw [upd_ne e]
    exact h.le.dom a n
  · have e : a ≠ P := fun y => by rw [y, h0] at z; cases z
    rw [upd_ne e]
    exact h.le.ex a q d k z
theorem Hid.out {w0 w : Wo} {H0 H : Hp} {P : Addr} {st : Store} (h : Hid X T w0 H0 P w st H) (h0 : H0 P = none) : Le w0 H0 (w.show P) H ∧ Wr (Cx.g X T) (w.show P) st H := by
  refine ⟨⟨h.le.loc, h.le.ran, fun a d n z => h.le.fix a d n z.1, h.le.keep, h.le.dom, fun a d n k => ⟨h.le.hid a d n k, fun z => n (z ▸ h0)⟩, h.le.ex⟩, ⟨fun l c e => ?_, h.wr.inj, fun a d => h.wr.trk a d.1, h.wr.ran, h.wr.tab.mr (LeR.show w H P) fun a ps _ q => q, fun a u d e => h.wr.nic a u d.1 e⟩⟩
  obtain ⟨a, k1, k2⟩ := h.wr.cell l c e
  exact ⟨a, k1, k2.mr (LeR.show w H P) (h.wr.ran l a k1).1 (fun d => ⟨d, fun z => h.nl l (z ▸ k1)⟩) fun _ => rfl⟩
theorem Hid.outL {w0 w : Wo} {H0 H : Hp} {P : Addr} {st : Store} {c : Cell} (h : Hid X T w0 H0 P w st H) (h0 : H0 P = none) (hc : LeR w H (w.put st.next P) H → CellR (Cx.g X T) (w.put st.next P) H P c) : Le w0 H0 (w.put st.next P) H ∧ Wr (Cx.g X T) (w.put st.next P) (st.new c) H ∧ Rep (Cx.g X T) (w.put st.next P) H (.ref P) (.loc st.next) := by
  have pl : ∀ l a, w.η l = some a → (w.put st.next P).η l = some a := fun l a k => by
    show (if l = st.next then some P else w.η l) = some a
    rw [if_neg (fun z => absurd (h.wr.ran l a k).2 (by omega))]
    exact k
  have pr : ∀ l a, (w.put st.next P).η l = some a → (w.η l = some a ∧ l ≠ st.next) ∨ (a = P ∧ l = st.next) := fun l a k => by
    change (if l = st.next then some P else w.η l) = some a at k
    split at k
    · rename_i e; cases k; exact .inr ⟨rfl, e⟩
    · rename_i e; exact .inl ⟨k, e⟩
  have lr : LeR w H (w.put st.next P) H := ⟨pl, fun a d _ z => d z, fun _ _ _ h => h⟩
  refine ⟨⟨fun l a k => pl l a (h.le.loc l a k), fun l a k => ?_, h.le.fix, h.le.keep, h.le.dom, h.le.hid, h.le.ex⟩, ⟨fun l d e => ?_, fun l l' a k k' => ?_, h.wr.trk, fun l a k => ?_, h.wr.tab.mr lr fun a ps _ q => q, h.wr.nic⟩, .loc (if_pos rfl)⟩
  · rcases pr l a k with ⟨k, _⟩ | ⟨k, _⟩
    · exact h.le.ran l a k
    · subst k; exact .inr h0
  · rw [Store.get_new] at e
    by_cases z : l = st.next
    · subst z
      rw [if_pos rfl] at e
      cases e
      exact ⟨P, if_pos rfl, hc lr⟩
    · rw [if_neg z] at e
      obtain ⟨a, k1, k2⟩ := h.wr.cell l d e
      exact ⟨a, pl l a k1, k2.mr lr (h.wr.ran l a k1).1 (fun d => d) fun _ => rfl⟩
  · rcases pr l a k with ⟨k, _⟩ | ⟨k, e⟩
    · rcases pr l' a k' with ⟨k', _⟩ | ⟨z, _⟩
      · exact h.wr.inj l l' a k k'
      · rw [z] at k; exact absurd k (h.nl l)
    · rcases pr l' a k' with ⟨k', _⟩ | ⟨_, e'⟩
      · rw [k] at k'; exact absurd k' (h.nl l')
      · rw [e, e']
  · rcases pr l a k with ⟨k, _⟩ | ⟨k, e⟩
    · exact ⟨(h.wr.ran l a k).1, by rw [Store.new_next]; have := (h.wr.ran l a k).2; omega⟩
    · subst k; exact ⟨h.at_, by rw [Store.new_next]; omega⟩
/-! ### {} -/
def eD0 (k : Bool) : Fr → M PV := fun _ => nw k (.dct [])
theorem pp_d0 (k : Bool) : PP X T W (.Dict [] [] pos) (eD0 k) := by
  refine ⟨fun pins s σ H Q I ⟨w, st, ρ, h⟩ => pe_dnewK.run pins s σ H Q I fun q hq => ?_⟩
  cases k with
  | false => exact h.ret rfl (Le.same (same_new hq)) (h.wr.same (same_new hq)) (.dcK (h.wr.fresh hq) (.inl upd_same) .nil)
  | true => exact h.ret (x := .loc st.next) (st' := st.new (.dct [])) rfl (Le.add h.wr hq) (Wr.add h.wr hq ⟨.inr rfl, .inl ⟨[], upd_same, .nil⟩⟩) (.loc (if_pos rfl))
/-! ### {k: v, ..} -/
def dpK : List ((Fr → M PV) × (Fr → M PV)) → (List (PV × PV) → Fr → M PV) → Fr → M PV
  | [], k, ρ => k [] ρ
  | (fk, fv) :: r, k, ρ => fk ρ >>= fun x => fv ρ >>= fun y => dpK r (fun ps => k ((x, y) :: ps)) ρ
def eDisp (k : Bool) (fs : List ((Fr → M PV) × (Fr → M PV))) : Fr → M PV := dpK fs fun ps _ => if dnd ps && (keysK ps && decide (ps.length ≤ 15)) then nw k (.dct ps) else M.bad
inductive RepP (G : Cfg) (w : Wo) (H : Hp) : List (V × V) → List (PV × PV) → Prop
  | nil : RepP G w H [] []
  | cons {u v : V} {x y : PV} {vs : List (V × V)} {ps : List (PV × PV)} : Rep G w H u x → Rep G w H v y → RepP G w H vs ps → RepP G w H ((u, v) :: vs) ((x, y) :: ps)
theorem RunE.eQ {f : Fr → M PV} {k : PV → Fr → M PV} {w : Wo} {st : Store} {ρ : Fr} {σ : L2.St} {H : Hp} {Q : VK} {Q' : VK} (h : RunE X T W (fun ρ => f ρ >>= fun x => k x ρ) w st ρ σ H Q)
    (step : ∀ w1 st1 x v H1, f ρ st = .ok x st1 → Le w H w1 H1 → Rep (Cx.g X T) w1 H1 v x → RunE X T W (k x) w1 st1 ρ σ H1 Q → Q' v H1) : tE X T W f σ H Q' := by
  refine ⟨w, st, ρ, h.wr, h.fr, ?_⟩
  have p := h.post
  cases e : f ρ st with
  | ok x st1 => rw [M.bind_ok e] at p; exact fun w1 v H1 l wr r => step w1 st1 x v H1 e l r ⟨wr, h.fr.mono l, p.mono l⟩
  | exc x st1 => rw [M.bind_exc e] at p; exact p
  | bad => rw [M.bind_bad e] at p; exact p
theorem tPairs_of {Q : VK} {ρ : Fr} {σ : L2.St} : ∀ (fs : List ((Fr → M PV) × (Fr → M PV))) (k : List (PV × PV) → Fr → M PV) (w : Wo) (st : Store) (H : Hp) (Q' : List (V × V) → Hp → Prop), RunE X T W (dpK fs k) w st ρ σ H Q →
    (∀ w1 st1 ps vs H1, dpK fs k ρ st = k ps ρ st1 → Le w H w1 H1 → RepP (Cx.g X T) w1 H1 vs ps → Wr (Cx.g X T) w1 st1 H1 → Q' vs H1) → tPairs (fs.map fun f => (tE X T W f.1, tE X T W f.2)) σ H Q'
  | [], k, w, st, H, Q', h, step => step w st [] [] H rfl (Le.refl _ _) .nil h.wr
  | (fk, fv) :: r, k, w, st, H, Q', h, step => by
    have h' : RunE X T W (fun ρ => fk ρ >>= fun x => (fun x ρ => fv ρ >>= fun y => dpK r (fun ps => k ((x, y) :: ps)) ρ) x ρ) w st ρ σ H Q := ⟨h.wr, h.fr, h.post⟩
    refine RunE.eQ h' fun w1 st1 x u H1 e1 l1 rx h1 => ?_
    refine RunE.eQ (k := fun y ρ => dpK r (fun ps => k ((x, y) :: ps)) ρ) h1 fun w2 st2 y v H2 e2 l2 ry h2 => ?_
    refine tPairs_of r _ w2 st2 H2 _ h2 fun w3 st3 ps vs H3 e3 l3 rp wr3 => ?_
    refine step w3 st3 ((x, y) :: ps) ((u, v) :: vs) H3 ?_ ((l1.trans l2).trans l3) (.cons ((rx.mono l2).mono l3) (ry.mono l3) rp) wr3
    show (fk ρ >>= fun x => fv ρ >>= fun y => dpK r (fun ps => k ((x, y) :: ps)) ρ) st = _
    rw [M.bind_ok e1, M.bind_ok e2]
    exact e3
def PPD (X : Cx) (T : Tabs) (W : WX) (pos : Pos) (keys : List (Option Expr)) (values : List Expr) (fs : List ((Fr → M PV) × (Fr → M PV))) : Prop := L2.PPs X pos keys values (fs.map fun f => (tE X T W f.1, tE X T W f.2))
theorem ppd_nil : PPD X T W pos [] [] [] := L2.pps_nil
theorem ppd_cons {k v : Expr} {ks : List (Option Expr)} {vs : List Expr} {fk fv : Fr → M PV} {fs : List ((Fr → M PV) × (Fr → M PV))} (hk : PP X T W k fk) (hv : PP X T W v fv) (hr : PPD X T W pos ks vs fs) : PPD X T W pos (some k :: ks) (v :: vs) ((fk, fv) :: fs) := L2.pps_cons hk hv hr
theorem RepP.ks {G : Cfg} {w : Wo} {H : Hp} : ∀ {vs : List (V × V)} {ps : List (PV × PV)}, RepP G w H vs ps → keysK ps = true → ∃ ks : List (Key × V), vs = ks.map (fun kv => (kV kv.1, kv.2)) ∧ RepK G w H ks ps
  | _, _, .nil, _ => ⟨[], rfl, .nil⟩
  | _, _, .cons (v := v) ru rv rs, h => by
    simp only [keysK, Bool.and_eq_true] at h
    obtain ⟨k, hk⟩ := Option.isSome_iff_exists.mp h.1
    obtain ⟨ks, e, r⟩ := rs.ks h.2
    refine ⟨(k, v) :: ks, by rw [ru.key hk, e]; rfl, ?_⟩
    rw [asKey_ok hk]
    exact .cons (ru.kOk hk) rv r
theorem merge_self : ∀ (ks acc : List (Key × V)), ((acc ++ ks).map (·.1)).Nodup → mergeK acc ks = acc ++ ks
  | [], acc, _ => by simp [mergeK]
  | p :: ks, acc, h => by
    have hn : ¬ (acc.any fun kv => decide (kv.1 = p.1)) = true := by
      intro z
      rw [List.any_eq_true] at z
      obtain ⟨q, hq, e⟩ := z
      rw [List.map_append, List.map_cons] at h
      have := List.nodup_append.mp h
      exact this.2.2 q.1 (List.mem_map_of_mem hq) p.1 (by simp) (of_decide_eq_true e)
    have e1 : putK acc p.1 p.2 = acc ++ [p] := by unfold putK; rw [if_neg hn]
    show mergeK (putK acc p.1 p.2) ks = _
    rw [e1, merge_self ks (acc ++ [p]) (by simpa using h)]
    simp
theorem pp_disp (k : Bool) {keys : List (Option Expr)} {values : List Expr} {fs : List ((Fr → M PV) × (Fr → M PV))} (h : PPD X T W pos keys values fs) (hall : keys.all (·.isSome) = true := by rfl) (hl : keys.length = values.length := by rfl) (h0 : keys ≠ [] := by simp) (h15 : keys.length ≤ 15 := by simp) : PP X T W (.Dict keys values pos) (eDisp k fs) := by
  refine ⟨fun pins s σ H Q I ⟨w, st, ρ, hh⟩ => (pe_disp h hall hl h0 h15).run pins s σ H Q I fun q hq => ?_⟩
  have hs : Hid X T w H q (w.hide q) st (upd H q (.dK [])) := Hid.start hh.wr hq
  have h1 : RunE X T W (eDisp k fs) (w.hide q) st ρ σ (upd H q (.dK [])) Q := ⟨hs.wr, hh.fr.mono hs.le, hh.post.mono hs.le⟩
  refine tPairs_of fs _ _ _ _ _ h1 fun w2 st2 ps vs H2 eq l2 rp wr2 => ?_
  have h3 := hs.step l2 wr2
  have hq2 : H2 q = some (.dK []) := l2.ex q _ hs.hid hs.nl upd_same
  have p2 := hh.post
  change PostE X T W w σ H Q (dpK fs _ ρ st) at p2
  rw [eq] at p2
  refine ⟨hq2, ?_⟩
  split at p2
  · rename_i hc
    simp only [Bool.and_eq_true, decide_eq_true_eq] at hc
    obtain ⟨ks, ev, rk⟩ := rp.ks hc.2.1
    refine ⟨ks, ev, by rw [rk.length]; exact hc.2.2, ?_⟩
    rw [merge_self ks [] (by simpa using rk.nodup hc.1), List.nil_append]
    have h4 : Hid X T w H q w2 st2 (upd H2 q (.dK ks)) := h3.put hq
    have rk4 := rk.mr (LeR.hidden (o' := .dK ks) h3.hid)
    cases k with
    | false =>
      obtain ⟨o1, o2⟩ := h4.out hq
      exact p2 _ _ _ o1 o2 (.dcK (fun z => z.2 rfl) (.inl upd_same) (rk4.mr (LeR.show w2 _ q)))
    | true =>
      obtain ⟨o1, o2, o3⟩ := h4.outL (c := .dct ps) hq fun lr => ⟨h4.hid, .inl ⟨ks, upd_same, rk4.mr lr⟩⟩
      exact p2 _ _ _ o1 o2 o3
  · exact p2.elim
/-! ### a name read, its location frozen -/
def frzL (x : PV) : M PV := match x with
  | .loc l => fun st => match st.get l with
    | some (.lst xs) => .ok (.lst xs) (st.put l (.frz (.lst xs)))
    | some (.dct kvs) => if keysK kvs = true then .ok (.dct kvs) (st.put l (.frz (.dct kvs))) else .bad
    | some (.obj c fs) => .ok (.obj c fs) (st.put l (.frz (.obj c fs)))
    | some (.frz y) => .ok y st
    | _ => .bad
  | x => M.pure x
def eFz (fa : Fr → M PV) : Fr → M PV := fun ρ => fa ρ >>= frzL
theorem pp_fz (ha : PP X T W a fa) : PP X T W a (eFz fa) := by
  refine ⟨fun pins s σ H Q I ⟨w, st, ρ, h⟩ => ha.run pins s σ H Q I ?_⟩
  refine RunE.eE (k := fun x _ => frzL x) h fun w1 st1 x v H1 l r h1 => ?_
  have pq := h1.post
  unfold frzL at pq
  split at pq
  · rename_i l0
    cases r with
    | @loc ad _ hl =>
      cases q : st1.get l0 with
      | none => rw [q] at pq; exact pq.elim
      | some c =>
        rw [q] at pq
        obtain ⟨b, k1, k2⟩ := h1.wr.cell _ _ q
        rw [hl] at k1; cases k1
        cases c with
        | lst xs =>
          obtain ⟨d, vs, k3, k4⟩ := k2
          have rr : Rep (Cx.g X T) (w1.show ad) H1 (.ref ad) (.lst xs) := .lst (fun z => z.2 rfl) k3 (k4.mr (LeR.show w1 H1 ad))
          exact pq _ _ _ (Le.show hl) (h1.wr.freeze hl rr) rr
        | set xs => exact pq.elim
        | dct kvs =>
          obtain ⟨d, k2⟩ := k2
          dsimp only at pq
          split at pq
          · rename_i hk
            have rr : Rep (Cx.g X T) (w1.show ad) H1 (.ref ad) (.dct kvs) := by
              rcases k2 with ⟨ks, k3, k4⟩ | ⟨ks, k3, n, k4⟩
              · exact .dcK (fun z => z.2 rfl) (.inl k3) (k4.mr (LeR.show w1 H1 ad))
              · exact absurd (k4.notK hk).1 n
            exact pq _ _ _ (Le.show hl) (h1.wr.freeze hl rr) rr
          · exact pq.elim
        | obj c fs =>
          obtain ⟨d, dx, vs, k3, k4⟩ := k2
          have rr : Rep (Cx.g X T) (w1.show ad) H1 (.ref ad) (.obj c fs) := .obj (fun z => z.2 rfl) k3 (k4.mr (LeR.show w1 H1 ad))
          exact pq _ _ _ (Le.show hl) (h1.wr.freeze hl rr) rr
        | frz y => exact pq _ _ _ (Le.refl _ _) h1.wr k2.2
  · exact pq _ _ _ (Le.refl _ _) h1.wr r
end
end Eg

/-! E25: for k in d. -/
namespace Eg
open PySem PySem.Spec PyProof.Rows L2
section
variable {G : Cfg} {w : Wo} {H : Hp} {st : Store} {a : Addr} {o : HO} {od : Obj}
/-! ### locking a frozen dict -/
theorem Le.lock (d : ¬ w.D a) (h : H a = some o) (hl : lockable o = true) : Le w H w (upd H a (.frz od o)) where
  loc _ _ h := h
  ran _ _ h := .inl h
  fix _ h _ := h
  keep b q _ k := by
    by_cases e : b = a
    · subst e
      rcases k with k | ⟨k1, k2, k⟩ | ⟨k1, k2, k⟩
      · rw [h] at k; cases k
        exact .inr (.inl ⟨hl, od, upd_same⟩)
      · rw [h] at k; cases k; cases hl
      · rw [h] at k; cases k; cases hl
    · exact k.imp fun u z => by rw [upd_ne e]; exact z
  dom b n := by
    by_cases e : b = a
    · subst e; rw [upd_same]; simp
    · rw [upd_ne e]; exact n
  hid _ h _ _ := h
  ex b q db _ k := by
    have e : b ≠ a := fun z => d (z ▸ db)
    rw [upd_ne e]; exact k
theorem Wr.lock (wr : Wr G w st H) (d : ¬ w.D a) (h : H a = some o) (hl : lockable o = true) : Wr G w st (upd H a (.frz od o)) where
  cell l c e := by
    obtain ⟨b, k1, k2⟩ := wr.cell l c e
    exact ⟨b, k1, k2.mono (Le.lock d h hl) (wr.ran l b k1).1 (fun z => z) fun db => upd_ne fun z => d (z ▸ db)⟩
  inj := wr.inj
  trk b db := (Le.lock (od := od) d h hl).dom b (wr.trk b db)
  ran l b k := ⟨(Le.lock (od := od) d h hl).dom b (wr.ran l b k).1, (wr.ran l b k).2⟩
  tab := wr.tab.mr (Le.lock (od := od) d h hl).r fun b ps _ q => by
    have e : b ≠ a := fun z => by subst z; rw [h] at q; cases q; cases hl
    rw [upd_ne e]; exact q
  nic b u db e := by
    have z : b ≠ a := fun z => d (z ▸ db)
    rw [upd_ne z] at e; exact wr.nic b u db e
theorem RepK.get : ∀ {ks : List (Key × V)} {kvs : List (PV × PV)} (i : Nat) {x : PV}, RepK G w H ks kvs → (kvs.map (·.1))[i]? = some x → ∃ k v, ks[i]? = some (k, v) ∧ x = keyP k ∧ kOk k = true
  | _, _, _, _, .nil, h => by simp at h
  | _, _, 0, x, .cons (k := k) (v := v) ok _ _, h => by simp at h; exact ⟨k, v, rfl, h.symm, ok⟩
  | _, _, i + 1, x, .cons _ _ rs, h => by
    obtain ⟨k, v, h1, h2, h3⟩ := RepK.get i rs (by simpa using h)
    exact ⟨k, v, by simpa using h1, h2, h3⟩
theorem Rep.ofKey {k : Key} (h : Eg.kOk k = true) : Rep G w H (kV k) (keyP k) := by
  cases k with
  | inl i => exact .int i
  | inr x =>
    have e : V.str x = V.str (s2 x.cps.toList) := by rw [← s2_of]
    show Rep G w H (V.str x) (.str x.cps.toList)
    rw [e]
    exact .str _ h
end
section
variable {X : Cx} {T : Tabs} {W : WX} {tg a b c e : Expr} {es : List Expr} {fa fb fc fe : Fr → M PV} {fr : Fr → M (List PV)} {pos p : Pos}
theorem wk_keys {w : Wo} {H : Hp} {d : Addr} {od : Obj} {ks : List (Key × V)} {kvs : List (PV × PV)} (nd : ¬ w.D d) (h : H d = some (.frz od (.dK ks))) (r : RepK (Cx.g X T) w H ks kvs) : Wk X T w H (Itk d od ks) (.fz (kvs.map (·.1))) := by
  intro w1 H1 st1 l wr
  have h1 : H1 d = some (.frz od (.dK ks)) := l.exact nd h rfl
  have hl : (kvs.map (·.1)).length = ks.length := by rw [List.length_map, r.length]
  refine ⟨fun i x hi e => ?_, fun _ => ⟨h1, by rw [← hl]; exact Nat.le_refl _⟩⟩
  obtain ⟨k, v, k1, k2, k3⟩ := r.get i e
  refine ⟨⟨h1, by rw [← hl]; exact hi⟩, fun u H2 y => ?_⟩
  obtain ⟨rfl, k', v', y1, y2⟩ := y
  rw [k1] at y1
  cases y1
  subst y2 k2
  exact ⟨Same.refl _, .ofKey k3⟩
/-- the source that a value is, dicts too -/
def srcAny (x : PV) : M Src := fun st => match x with
  | .dct kvs => if keysK kvs then .ok (.fz (kvs.map (·.1))) st else .bad
  | .loc l => match st.get l with
    | some (.frz (.dct kvs)) => if keysK kvs then .ok (.fz (kvs.map (·.1))) st else .bad
    | _ => srcOf x st
  | _ => srcOf x st
def iAny (fe : Fr → M PV) : Fr → M Src := fun ρ => fe ρ >>= fun x => srcAny x
/-- a frozen dict is walked -/
theorem itr_dct {pins : List (Addr × Obj)} {σ : L2.St} {H : Hp} {s : Shared} {d : Addr} {w : Wo} {st : Store} {kvs : List (PV × PV)} {R : It → Hp → Prop} (I : L2.Inv X pins σ H s) (wr : Wr (Cx.g X T) w st H) (nd : ¬ w.D d) (hd : (∃ ks, Ob H d (.dK ks) ∧ RepK (Cx.g X T) w H ks kvs) ∨ ∃ ks : List NKV, ks ≠ [] ∧ RepT (Cx.g X T) w H ks kvs) (hk : keysK kvs = true)
    (h : ∀ w' J H', Le w H w' H' → Wr (Cx.g X T) w' st H' → Wk X T w' H' J (.fz (kvs.map (·.1))) → R J H') : wpAny (model X.prog X.w) X.A (pyIter (.ref d)) (PIE X pins σ tg R) X.xe s := by
  -- the walk of a locked dict
  have goK : ∀ (H1 : Hp) (od : Obj) (ks : List (Key × V)), L2.Inv X pins σ H1 s → H1 d = some (.frz od (.dK ks)) → R (Itk d od ks) H1 → wpAny (model X.prog X.w) X.A (pyIter (.ref d)) (PIE X pins σ tg R) X.xe s := by
    intro H1 od ks I1 hd1 q
    obtain ⟨hs, hgd, hx, es, ep, vs, hdt, hsz, kv, hm⟩ := I1.frzK hd1
    refine iter_keys hs hgd hx hdt (pi_one (tk := s.toks) I1 _ (turn_keys _ hdt) ⟨_, Heap.get?_push_size _ rfl, rfl, ?_⟩ q)
    rw [hsz] <;> rfl
  rcases hd with ⟨ks, ob, r⟩ | ⟨ks, n, r⟩
  · rcases ob.two rfl with ob | ⟨_, od, ob⟩
    · obtain ⟨od, I1⟩ := I.lock ob True.intro
      exact goK _ od ks I1 upd_same (h w _ _ (Le.lock nd ob rfl) (wr.lock nd ob rfl) (wk_keys nd upd_same (r.mono (Le.lock nd ob rfl))))
    · exact goK H od ks I ob (h w _ _ (Le.refl _ _) wr (wk_keys nd ob r))
  · exact absurd (r.notK hk).1 n
theorem RunI.any {w : Wo} {st : Store} {ρ : Fr} {σ : L2.St} {H : Hp} {R : It → Hp → Prop} {xs : List PV} {x : PV} (h : RunI X T W (fun _ => srcAny x) w st ρ σ H R) (e : srcAny x st = .ok (.fz xs) st) : ∀ w' J H', Le w H w' H' → Wr (Cx.g X T) w' st H' → Wk X T w' H' J (.fz xs) → R J H' := by
  have p := h.post
  rw [e] at p
  exact p
theorem ppi_any (he : PP X T W e fe) : PPI X T W tg e (iAny fe) := by
  refine ⟨fun pins s σ H R I ⟨w, st, ρ, h⟩ => ?_⟩
  refine thn (he.run pins s σ H _ I (RunI.eE (k := fun x _ => srcAny x) (Q' := fun v H1 => ∃ w st x, Rep (Cx.g X T) w H1 v x ∧ RunI X T W (fun _ => srcAny x) w st ρ σ H1 R) h fun w1 st1 x v H1 l r h1 => ⟨w1, st1, x, r, h1⟩)) fun v s1 ⟨x, H1, I1, r1, w1, st1, y, ry, h1⟩ => ?_
  cases ry with
  | lst d k r =>
    exact itr_list pins s1 σ H1 _ v R I1 r1 ⟨_, _, rfl, .inl (.inl k), h1.ret rfl (wk_list d k r)⟩
  | scr k =>
    exact itr_list pins s1 σ H1 _ v R I1 r1 ⟨_, _, rfl, k.sq, h1.ret rfl (wk_scr k)⟩
  | tup k r =>
    exact itr_tup pins s1 σ H1 _ v R I1 r1 ⟨_, _, rfl, k.sq, h1.ret rfl (wk_tup k r)⟩
  | str z hz =>
    exact itr_str pins s1 σ H1 _ v R I1 r1 ⟨_, rfl, h1.ret rfl (wk_str hz)⟩
  | @dcK d ks kvs nd ob r =>
    cases (show v = Value.ref d from r1)
    by_cases hk : keysK kvs = true
    · exact itr_dct I1 h1.wr nd (.inl ⟨ks, ob, r⟩) hk (h1.any (by show srcAny (.dct kvs) st1 = _; simp [srcAny, hk]))
    · exact (h1.no (by show srcAny (.dct kvs) st1 = _; simp [srcAny, hk])).elim
  | @dcT d o ks kvs nd ob n r =>
    cases (show v = Value.ref d from r1)
    by_cases hk : keysK kvs = true
    · exact itr_dct I1 h1.wr nd (.inr ⟨ks, n, r⟩) hk (h1.any (by show srcAny (.dct kvs) st1 = _; simp [srcAny, hk]))
    · exact (h1.no (by show srcAny (.dct kvs) st1 = _; simp [srcAny, hk])).elim
  | @loc a l k =>
    cases q : st1.get l with
    | none => exact (h1.no (by show srcAny (.loc l) st1 = _; simp [srcAny, srcOf, q])).elim
    | some c =>
      cases c with
      | lst ys =>
        obtain ⟨b, k1, k2⟩ := h1.wr.cell l _ q
        rw [k] at k1; cases k1
        obtain ⟨_, vs, k3, k4⟩ := k2
        have h2 : RunI X T W (fun _ => srcOf (.loc l)) w1 st1 ρ σ H1 R := ⟨h1.wr, h1.fr, by have p := h1.post; simp only [srcAny, q] at p; exact p⟩
        exact itr_list pins s1 σ H1 _ v R I1 r1 ⟨_, _, rfl, .inl (.inl k3), h2.ret (x := .lc l ys.length) (by show srcOf (.loc l) st1 = _; simp [srcOf, q]) (wk_loc k)⟩
      | frz z =>
        cases z with
        | dct kvs =>
          by_cases hk : keysK kvs = true
          · obtain ⟨b, k1, k2⟩ := h1.wr.cell l _ q
            rw [k] at k1; cases k1
            cases (show v = Value.ref a from r1)
            have ha := h1.any (xs := kvs.map (·.1)) (by show srcAny (.loc l) st1 = _; simp [srcAny, q, hk])
            cases k2.2 with
            | dcK nd ob r => exact itr_dct I1 h1.wr nd (.inl ⟨_, ob, r⟩) hk ha
            | dcT nd ob n r => exact itr_dct I1 h1.wr nd (.inr ⟨_, n, r⟩) hk ha
          · exact (h1.no (by show srcAny (.loc l) st1 = _; simp [srcAny, q, hk])).elim
        | _ => exact (h1.no (by show srcAny (.loc l) st1 = _; simp [srcAny, srcOf, q])).elim
      | _ => exact (h1.no (by show srcAny (.loc l) st1 = _; simp [srcAny, srcOf, q])).elim
  | _ => exact (h1.no rfl).elim
/-! ### len(d) -/
def gLenD : List PV → Option PV
  | [.dct kvs] => if kvs.length < 1000000 then some (.int kvs.length) else none
  | xs => gLen xs
end
end Eg

/-! E26: len(d). -/
namespace Eg
open PySem PySem.Spec PyProof.Rows L2
section
variable {X : Cx} {T : Tabs} {W : WX} {tg a b c e : Expr} {es : List Expr} {fa fb fc fe : Fr → M PV} {fr : Fr → M (List PV)} {pos p : Pos}
def gLenA : List PV → Option PV
  | [.dct kvs] => if keysK kvs then some (.int kvs.length) else none
  | xs => gLen xs
def rLenDk : List V → Hp → VK → Prop := fun xs H Q => ∃ (ad : Addr) (n : Nat), xs = [.ref ad] ∧ ((∃ ks, Rd H ad (.dK ks) ∧ n = ks.length) ∨ (Rd H ad (.dT []) ∧ n = 0)) ∧ Q (.int n) H
theorem cr_lenD : CallR X (.builtin "len") rLenDk := by
  intro pins s σ H xs us Q I rx ⟨ad, n, exs, h, q⟩
  subst exs
  cases rx with | cons r1 r2 =>
  cases r2
  cases (show _ = Value.ref ad from r1)
  rcases h with ⟨ks, h1, e⟩ | ⟨h1, e⟩
  · subst e
    exact d_len I h1 fun t s' I' => ⟨.int _, H, I', ⟨t, rfl⟩, q⟩
  · subst e
    obtain ⟨hd, dd⟩ := dt_nil I h1
    exact call_len_dict hd dd (by simp) ⟨.int 0, H, I.tok _, ⟨_, rfl⟩, q⟩
theorem c1_lenA : Call1 X T (fun xs H Q => rLenP X.K xs H Q ∨ rLenDk xs H Q) gLenA := by
  intro w st H vs xs z Q wr vw e af
  unfold gLenA at e
  split at e
  · split at e
    · rename_i hk
      cases e
      obtain ⟨v, rfl, vv⟩ := VwL1 vw
      cases vv with
      | dcK ob r => exact .inr ⟨_, _, rfl, .inl ⟨_, (ob.rd rfl), r.length.symm⟩, af.here wr (.int _)⟩
      | dcT ob n r => exact absurd (r.notK hk).1 n
    · cases e
  · exact .inl (c1_len w st H vs xs z Q wr vw e af)
theorem k_lenA (ha : PPA X T W (e :: es) fr) (hm : X.mg "len" = none) (hg : glB X.env.scope "len" = true := by kernel_rfl) (he : starEach (e :: es) X.env = (false, eval e X.env) :: starEach es X.env := by rfl) (hpl : (backTo pos (starEach es X.env)).any (·.1) = false := by rfl) : PP X T W (.Call (.Name "len" p) (e :: es) [] pos) (eB gLenA fr) :=
  pp_callB (CallR.or call_lenP cr_lenD) c1_lenA (gl_of hg) hm (by decide +kernel) ha (by decide +kernel) (by decide +kernel) he hpl
/-! ### list(d) -/
def gListA : List PV → Option (List PV)
  | [.tup xs] => some xs
  | [.lst xs] => some xs
  | [.dct kvs] => if keysK kvs then some (kvs.map (·.1)) else none
  | _ => none
theorem RepK.keysL {G : Cfg} {w : Wo} {H : Hp} : ∀ {ks : List (Key × V)} {kvs : List (PV × PV)}, RepK G w H ks kvs → RepL G w H (ks.map fun kv => kV kv.1) (kvs.map (·.1))
  | _, _, .nil => .nil
  | _, _, .cons ok _ rs => .cons (.ofKey ok) rs.keysL
theorem pp_listA (k : Bool) (hc : X.calm = true) (hg : Gl X "list") (hm : X.mg "list" = none) (ha : PPA X T W [a] fr)
    (he : starEach [a] X.env = (false, eval a X.env) :: starEach [] X.env := by rfl) (hpl : (backTo pos (starEach [] X.env)).any (·.1) = false := by rfl) (hv : bootBuiltins "list" = some (.type "list") := by decide +kernel) : PP X T W (.Call (.Name "list" p) [a] [] pos) (eBL k gListA fr) := by
  refine ⟨fun pins s σ H Q I ⟨w, st, ρ, h⟩ => (pe_callTy (CallR.or call_list_of (call_listD hc)) hg hm hv ha (by decide +kernel) (by decide +kernel) he hpl).run pins s σ H Q I ?_⟩
  refine RunE.aE (k := fun xs _ => rds xs >>= fun ys => M.of (gListA ys) >>= fun zs => nw k (.lst zs)) h fun w1 st1 xs vs H1 l r h1 => ?_
  obtain ⟨ys, vw, h2⟩ := h1.rds r
  obtain ⟨zs, e, h3⟩ := h2.of
  unfold gListA at e
  split at e
  · cases e
    obtain ⟨v, rfl, vv⟩ := VwL1 vw
    cases vv with | tup s r => exact .inl ⟨_, _, rfl, .inr s.sq, fun q hq => h3.mkL r hq⟩
  · cases e
    obtain ⟨v, rfl, vv⟩ := VwL1 vw
    cases vv with | lst s r => exact .inl ⟨_, _, rfl, .inl (.inl (.inl s)), fun q hq => h3.mkL r hq⟩
  · split at e
    · rename_i hk
      cases e
      obtain ⟨v, rfl, vv⟩ := VwL1 vw
      cases vv with
      | dcK ob r => exact .inr ⟨_, _, rfl, (ob.rd rfl), fun q hq => h3.mkL r.keysL hq⟩
      | dcT ob n r => exact absurd (r.notK hk).1 n
    · cases e
  · cases e
end
end Eg

/-! E27: what is not served; methods of lists; stars; a list times a number. -/
namespace Eg
open PySem PySem.Spec PyProof.Rows L2
section
variable {X : Cx} {T : Tabs} {W : WX} {a b c e o : Expr} {es : List Expr} {fa fb fc fo : Fr → M PV} {fr : Fr → M (List PV)} {pos p : Pos}
/-! ### what is not served -/
def eBad : Fr → M PV := fun _ => M.bad
theorem pp_bad : PP X T W e eBad := ⟨fun pins s σ H Q I ⟨w, st, ρ, h⟩ => (h.no rfl).elim⟩
def sBad : S := fun _ _ => .bad
theorem pps_bad {s : Stmt} : PPS X T W s sBad := ⟨fun pins s σ H D I ⟨w, st, ρ, h⟩ => (h.no rfl).elim⟩
theorem ppss_bad {s : List Stmt} : PPSs X T W s sBad := ⟨fun pins s σ H D I ⟨w, st, ρ, h⟩ => (h.no rfl).elim⟩
/-! ### methods of lists -/
def lstAt (x : PV) : M Unit := fun st => match view st x with
  | some (.lst _) => .ok () st
  | _ => .bad
theorem RunE.lstAt {k : Fr → M PV} {w : Wo} {st : Store} {ρ : Fr} {σ : L2.St} {H : Hp} {Q : VK} {x : PV} {v : V} (h : RunE X T W (fun ρ => Eg.lstAt x >>= fun _ => k ρ) w st ρ σ H Q) (r : Rep (Cx.g X T) w H v x) : (∃ ad vs, v = .ref ad ∧ H ad = some (.lst vs)) ∧ RunE X T W k w st ρ σ H Q := by
  have pq := h.post
  cases e : Eg.lstAt x st with
  | bad => rw [M.bind_bad e] at pq; exact pq.elim
  | exc z s1 =>
    unfold Eg.lstAt at e
    split at e <;> cases e
  | ok u st1 =>
    rw [M.bind_ok e] at pq
    unfold Eg.lstAt at e
    split at e
    · rename_i ys hy
      cases e
      have vw := h.wr.view r hy rfl
      cases vw with
      | lst s _ => exact ⟨⟨_, _, rfl, s⟩, h.wr, h.fr, pq⟩
    · cases e
def MthL (X : Cx) (T : Tabs) (r : V → List V → Hp → VK → Prop) (m : PV → List PV → M PV) : Prop :=
  ∀ (W : WX) (w : Wo) (st : Store) (ρ : Fr) (σ : L2.St) (H : Hp) (Q : VK) (v : V) (us : List V) (x : PV) (ys : List PV), RunE X T W (fun _ => m x ys) w st ρ σ H Q → Rep (Cx.g X T) w H v x → RepL (Cx.g X T) w H us ys → r v us H Q
def eML (m : PV → List PV → M PV) (fo : Fr → M PV) (fr : Fr → M (List PV)) : Fr → M PV := fun ρ => fo ρ >>= fun x => Eg.lstAt x >>= fun _ => fr ρ >>= fun ys => m x ys
theorem pp_ml {id : String} {name : Str} {apos cpos : Pos} {r : V → List V → Hp → VK → Prop} {m : PV → List PV → M PV} (pa : PlainAttrs "list") (slot : Slot "list" name id) (hty : typeOf (.builtin id) = pure (.type "method_descriptor")) (hm : MtR X id r) (hM : MthL X T r m) (ho : PP X T W o fo) (ha : PPA X T W (e :: es) fr)
    (hbase : attributeBase o name X.env (eval o X.env) = eval o X.env := by rfl)
    (hfew : ((backTo cpos (starEach (e :: es) X.env)).all (fun x => !x.1) && (backToKw cpos (keywordEach [] X.env)).all (fun x => x.1.isSome)
      && decide ((e :: es).length + ([] : List Keyword).length + (if ([] : List Keyword).isEmpty then 0 else 1) < 30)) = true := by rfl)
    (hline : (apos.endLine == cpos.line) = true := by rfl) (hs : starEach (e :: es) X.env = (false, eval e X.env) :: starEach es X.env := by rfl) (hplain : (backTo cpos (starEach es X.env)).any (·.1) = false := by rfl) :
    PP X T W (.Call (.Attribute o name apos) (e :: es) [] cpos) (eML m fo fr) := by
  refine ⟨fun pins s σ H Q I ⟨w, st, ρ, h⟩ => (pe_bm pa slot hty hm ho ha hbase hfew hline hs hplain).run pins s σ H Q I ?_⟩
  refine RunE.eE (k := fun x ρ => Eg.lstAt x >>= fun _ => fr ρ >>= fun ys => m x ys) h fun w1 st1 x v H1 l1 rx h1 => ?_
  obtain ⟨⟨ad, vs, rfl, hH⟩, h2⟩ := RunE.lstAt (k := fun ρ => fr ρ >>= fun ys => m x ys) h1 rx
  refine ⟨.inl ⟨rfl, vs, .inl (.inl hH)⟩, ?_⟩
  exact RunE.aE (k := fun ys _ => m x ys) h2 fun w2 st2 ys us H2 l2 ry h3 => hM W w2 st2 ρ σ H2 Q _ us x ys h3 (rx.mono l2) ry
/-- the list at a location is changed -/
theorem RunE.lput {m : M PV} {w : Wo} {st : Store} {ρ : Fr} {σ : L2.St} {H : Hp} {Q : VK} {l : Nat} {ad : Addr} {xs ys : List PV} {ws : List V} {z : PV} {v : V} (h : RunE X T W (fun _ => m) w st ρ σ H Q) (hl : w.η l = some ad) (hc : st.get l = some (.lst xs)) (e : m st = .ok z (st.put l (.lst ys))) (hd : w.D ad) (rw_ : RepL (Cx.g X T) w H ws ys) (rz : Rep (Cx.g X T) w H v z) : Q v (upd H ad (.lst ws)) := by
  obtain ⟨le, wr⟩ := h.wr.put (c' := .lst ys) (o := .lst ws) hl hc hd fun {w'} lr d' ew => by
    subst ew
    exact ⟨hd, _, upd_same, rw_.mr lr⟩
  exact h.ret e le wr (rz.mono le)
def mApp : PV → List PV → M PV
  | .loc l, [y] => fun st => match st.get l with
    | some (.lst xs) => if xs.length < sizeLine then .ok .non (st.put l (.lst (xs ++ [y]))) else .bad
    | _ => .bad
  | _, _ => M.bad
theorem ml_app : MthL X T rAppend mApp := by
  intro W w st ρ σ H Q v us x ys h rx ry
  have pq := h.post
  unfold mApp at pq
  split at pq
  · rename_i l y
    cases rx with
    | @loc ad _ hl =>
    obtain ⟨u, rfl, ru⟩ := ry.one_inv
    split at pq
    · rename_i xs hc
      split at pq
      · rename_i hlen
        obtain ⟨b, k1, k2⟩ := h.wr.cell _ _ hc
        rw [hl] at k1; cases k1
        obtain ⟨hd, vs, k3, k4⟩ := k2
        refine ⟨ad, vs, u, rfl, rfl, k3, by rw [k4.length]; exact hlen, ?_⟩
        exact RunE.lput (m := mApp (.loc l) [y]) h hl hc (by simp [mApp, hc, hlen]) hd (k4.append (.one ru)) .non
      · exact pq.elim
    · exact pq.elim
  · exact pq.elim
def mExt : PV → List PV → M PV
  | .loc l, [y] => fun st => match st.get l, view st y with
    | some (.lst xs), some (.lst zs) => if xs.length + zs.length ≤ sizeLine then .ok .non (st.put l (.lst (xs ++ zs))) else .bad
    | _, _ => .bad
  | _, _ => M.bad
theorem ml_ext : MthL X T rExtend mExt := by
  intro W w st ρ σ H Q v us x ys h rx ry
  have pq := h.post
  unfold mExt at pq
  split at pq
  · rename_i l y
    cases rx with
    | @loc ad _ hl =>
    obtain ⟨u, rfl, ru⟩ := ry.one_inv
    split at pq
    · rename_i xs zs hc hy
      split at pq
      · rename_i hlen
        obtain ⟨b, k1, k2⟩ := h.wr.cell _ _ hc
        rw [hl] at k1; cases k1
        obtain ⟨hd, vs, k3, k4⟩ := k2
        have vw := h.wr.view ru hy rfl
        cases vw with
        | lst s r =>
        refine ⟨ad, _, vs, _, rfl, rfl, k3, s, by rw [k4.length, r.length]; exact hlen, ?_⟩
        exact RunE.lput (m := mExt (.loc l) [y]) h hl hc (by simp [mExt, hc, hy, hlen]) hd (k4.append r) .non
      · exact pq.elim
    · exact pq.elim
  · exact pq.elim
theorem RepL.erase {G : Cfg} {w : Wo} {H : Hp} : ∀ {vs : List V} {xs : List PV} (i : Nat), RepL G w H vs xs → RepL G w H (vs.eraseIdx i) (xs.eraseIdx i)
  | _, _, _, .nil => .nil
  | _, _, 0, .cons _ b => b
  | _, _, i + 1, .cons a b => .cons a (RepL.erase i b)
def mPopA : PV → List PV → M PV
  | .loc l, [.int i] => fun st => match st.get l with
    | some (.lst xs) => if 0 ≤ i ∧ i < 9223372036854775808 then match xs[i.toNat]? with
      | some y => .ok y (st.put l (.lst (xs.eraseIdx i.toNat)))
      | none => .bad
      else .bad
    | _ => .bad
  | _, _ => M.bad
theorem seqIx_nat {i : Int} {n : Nat} (h : 0 ≤ i) (h2 : i.toNat < n) : seqIndex? i n = some i.toNat := by
  unfold seqIndex?
  have e : ¬ i < 0 := by omega
  have e2 : (decide (0 ≤ i) && decide (i < (n : Int))) = true := by
    simp only [Bool.and_eq_true, decide_eq_true_eq]
    exact ⟨h, by omega⟩
  simp only [if_neg e, e2, if_true]
theorem ml_popA : MthL X T rPopAt mPopA := by
  intro W w st ρ σ H Q v us x ys h rx ry
  have pq := h.post
  unfold mPopA at pq
  split at pq
  · rename_i l i
    cases rx with
    | @loc ad _ hl =>
    obtain ⟨u, rfl, ru⟩ := ry.one_inv
    cases ru
    split at pq
    · rename_i xs hc
      split at pq
      · rename_i hi
        split at pq
        · rename_i y hy
          obtain ⟨b, k1, k2⟩ := h.wr.cell _ _ hc
          rw [hl] at k1; cases k1
          obtain ⟨hd, vs, k3, k4⟩ := k2
          obtain ⟨v', e1, r1⟩ := k4.get _ hy
          have hlt : i.toNat < vs.length := (List.getElem?_eq_some_iff.mp e1).1
          refine ⟨ad, vs, i, i.toNat, v', rfl, rfl, k3, by omega, by omega, seqIx_nat hi.1 hlt, e1, ?_⟩
          exact RunE.lput (m := mPopA (.loc l) [.int i]) h hl hc (by simp [mPopA, hc, hi, hy]) hd (k4.erase _) r1
        · exact pq.elim
      · exact pq.elim
    · exact pq.elim
  · exact pq.elim
theorem m_app {apos cpos : Pos} (ho : PP X T W o fo) (ha : PPA X T W [e] fr) (hbase : attributeBase o "append" X.env (eval o X.env) = eval o X.env := by rfl)
    (hfew : ((backTo cpos (starEach [e] X.env)).all (fun x => !x.1) && (backToKw cpos (keywordEach [] X.env)).all (fun x => x.1.isSome) && decide ([e].length + ([] : List Keyword).length + (if ([] : List Keyword).isEmpty then 0 else 1) < 30)) = true := by rfl)
    (hline : (apos.endLine == cpos.line) = true := by rfl) (hs : starEach [e] X.env = (false, eval e X.env) :: starEach [] X.env := by rfl) (hplain : (backTo cpos (starEach [] X.env)).any (·.1) = false := by rfl) : PP X T W (.Call (.Attribute o "append" apos) [e] [] cpos) (eML mApp fo fr) :=
  pp_ml PySem.F.plainAttrs_list PySem.F.slot_list_append PySem.F.type_list_append mt_append ml_app ho ha hbase hfew hline hs hplain
theorem m_ext {apos cpos : Pos} (ho : PP X T W o fo) (ha : PPA X T W [e] fr) (hbase : attributeBase o "extend" X.env (eval o X.env) = eval o X.env := by rfl)
    (hfew : ((backTo cpos (starEach [e] X.env)).all (fun x => !x.1) && (backToKw cpos (keywordEach [] X.env)).all (fun x => x.1.isSome) && decide ([e].length + ([] : List Keyword).length + (if ([] : List Keyword).isEmpty then 0 else 1) < 30)) = true := by rfl)
    (hline : (apos.endLine == cpos.line) = true := by rfl) (hs : starEach [e] X.env = (false, eval e X.env) :: starEach [] X.env := by rfl) (hplain : (backTo cpos (starEach [] X.env)).any (·.1) = false := by rfl) : PP X T W (.Call (.Attribute o "extend" apos) [e] [] cpos) (eML mExt fo fr) :=
  pp_ml PySem.F.plainAttrs_list PySem.F.slot_list_extend PySem.F.type_list_extend mt_extend ml_ext ho ha hbase hfew hline hs hplain
theorem m_popA {apos cpos : Pos} (ho : PP X T W o fo) (ha : PPA X T W [e] fr) (hbase : attributeBase o "pop" X.env (eval o X.env) = eval o X.env := by rfl)
    (hfew : ((backTo cpos (starEach [e] X.env)).all (fun x => !x.1) && (backToKw cpos (keywordEach [] X.env)).all (fun x => x.1.isSome) && decide ([e].length + ([] : List Keyword).length + (if ([] : List Keyword).isEmpty then 0 else 1) < 30)) = true := by rfl)
    (hline : (apos.endLine == cpos.line) = true := by rfl) (hs : starEach [e] X.env = (false, eval e X.env) :: starEach [] X.env := by rfl) (hplain : (backTo cpos (starEach [] X.env)).any (·.1) = false := by rfl) : PP X T W (.Call (.Attribute o "pop" apos) [e] [] cpos) (eML mPopA fo fr) :=
  pp_ml PySem.F.plainAttrs_list PySem.F.slot_list_pop PySem.F.type_list_pop mt_popAt ml_popA ho ha hbase hfew hline hs hplain
/-! ### (*xs, ..), [*xs, ..] -/
def seqM (x : PV) : M (List PV) := fun st => match view st x with
  | some (.lst xs) => .ok xs st
  | some (.tup xs) => .ok xs st
  | _ => .bad
theorem seqM_ok {x : PV} {st st' : Store} {xs : List PV} (h : seqM x st = .ok xs st') : st' = st ∧ (view st x = some (.lst xs) ∨ view st x = some (.tup xs)) := by
  unfold seqM at h
  split at h
  · rename_i q; cases h; exact ⟨rfl, .inl q⟩
  · rename_i q; cases h; exact ⟨rfl, .inr q⟩
  · cases h
theorem seqM_no {x : PV} {st st' : Store} {z : Exn} (h : seqM x st = .exc z st') : False := by
  unfold seqM at h
  split at h <;> cases h
def aStar (fa : Fr → M PV) (fr : Fr → M (List PV)) : Fr → M (List PV) := fun ρ => fa ρ >>= fun x => seqM x >>= fun xs => fr ρ >>= fun ys => M.pure (xs ++ ys)
theorem ppa_star {sp : Pos} (ha : PP X T W e fa) (hr : PPA X T W es fr) (hs : starEach (.Starred e sp :: es) X.env = (true, eval e X.env) :: starEach es X.env := by rfl) : PPA X T W (.Starred e sp :: es) (aStar fa fr) := by
  refine ⟨fun pos pins s σ H Q I ⟨w, st, ρ, h⟩ => (StX.pa_star (p := sp) ha hr hs).run pos pins s σ H Q I ?_⟩
  refine RunA.eE (k := fun x ρ => seqM x >>= fun xs => fr ρ >>= fun ys => M.pure (xs ++ ys)) h fun w1 st1 x v H1 l1 rx h1 => ?_
  have pq := h1.post
  cases q : seqM x st1 with
  | bad => rw [M.bind_bad q] at pq; exact pq.elim
  | exc z s2 => exact (seqM_no q).elim
  | ok xs s2 =>
    rw [M.bind_ok q] at pq
    obtain ⟨rfl, hv⟩ := seqM_ok q
    have go : ∀ (vs : List V), RepL (Cx.g X T) w1 H1 vs xs → tA X T W fr σ H1 fun ys H2 => Q (vs ++ ys) H2 := fun vs r => by
      have h2 : RunA X T W (fun ρ => fr ρ >>= fun ys => M.pure (xs ++ ys)) w1 s2 ρ σ H1 Q := ⟨h1.wr, h1.fr, pq⟩
      exact RunA.aE (k := fun ys _ => M.pure (xs ++ ys)) h2 fun w2 st2 ys us H2 l2 ry h3 => h3.ret rfl (Le.refl _ _) h3.wr ((r.mono l2).append ry)
    rcases hv with hv | hv
    · have vw := h1.wr.view rx hv rfl
      cases vw with
      | lst s r => exact ⟨_, _, rfl, .inr (.inl (.inl s)), go _ r⟩
    · have vw := h1.wr.view rx hv rfl
      cases vw with
      | tup s r => exact ⟨_, _, rfl, .inl s.sq, go _ r⟩
/-! ### xs * n -/
def gMulA : PV → PV → Option PV
  | .lst xs, .int k => if (0 ≤ k ∧ k < 1000000) ∧ xs.length * k.toNat ≤ sizeLine then some (.lst (List.replicate k.toNat xs).flatten) else none
  | x, y => gMul x y
theorem RepL.rep {G : Cfg} {w : Wo} {H : Hp} {vs : List V} {xs : List PV} (r : RepL G w H vs xs) : ∀ n : Nat, RepL G w H (List.replicate n vs).flatten (List.replicate n xs).flatten
  | 0 => .nil
  | n + 1 => by
    rw [List.replicate_succ, List.replicate_succ, List.flatten_cons, List.flatten_cons]
    exact r.append (RepL.rep r n)
theorem o2_mulA : Op2 X T (fun x y H Q => rI CMulW (fun i j => .int (i * j)) x y H Q ∨ rRep x y H Q) gMulA := by
  intro w st H v u x y z Q wr rx ry e q
  unfold gMulA at e
  split at e
  · split at e
    · rename_i hc
      cases e
      cases ry
      cases rx with | lst s r =>
      refine .inr ⟨_, _, _, rfl, rfl, s, by omega, by omega, by rw [r.length]; exact hc.2, fun p hp => ?_⟩
      exact q.new wr hp (Rep.newL wr hp (r.rep _))
    · cases e
  · exact .inl (o2_mul w st H v u x y z Q wr rx ry e q)
theorem pp_mulA (ha : PP X T W a fa) (hb : PP X T W b fb) : PP X T W (.BinOp a .Mult b pos) (e2 gMulA fa fb) := pp_op (op_mulW.or op_rep) o2_mulA ha hb
end
end Eg

/-! E28: d.items(), enumerate(x) as sources. -/
namespace Eg
open PySem PySem.Spec PyProof.Rows L2
/-! ### enumerate of a tuple -/
theorem enum_new1B {v : Value} {o : Obj} {H : Heap → Prop} (B : Begins v o H) :
    Meets (Builtin.«enumerate.__new__» ⟨[.type "enumerate", v], []⟩) (fun _ R s => H s.heap ∧
      R (.ok (.ret (.ref (s.heap.push o).objs.size))) { s with heap := (s.heap.push o).push { cls := .type "enumerate", data := .fields #[.none, .bool false, .ref s.heap.objs.size, rawInt 0, .none, .none] } }) :=
  .of_wp fun prog w A R s h => by
    obtain ⟨hp, g, d, tk, os⟩ := s; obtain ⟨h1, h⟩ := h
    have hsub := sub_enumerate
    have q1 : ∀ {A' : Around} {E : Value → Shared → Prop} {Q : Value → Shared → Prop}, Q (.ref hp.objs.size) ⟨hp.push o, g, d, tk, os⟩ → wpAny (model prog w) A' (pyIter v) Q E ⟨hp, g, d, tk, os⟩ :=
      fun q => B.iter prog w _ _ ⟨hp, g, d, tk, os⟩ _ h1 q
    wp_walk using q1
    refine wpAny_stack_any fun st => wpAny_pure ?_
    split
    · rename_i c _ _ _ _ _
      cases (c == Value.type "enumerate")
      · wp_walk using q1
        exact ⟨_, rfl, h⟩
      · wp_walk using q1
        exact ⟨_, rfl, h⟩
    · wp_walk using q1
      exact ⟨_, rfl, h⟩
theorem enum_begins1 {prog : Program} {w : World} {A : Around} {E : Value → Shared → Prop} {s : Shared} {v : Value} {o : Obj} {H : Heap → Prop} {Q : Value → Shared → Prop} (B : Begins v o H) (h1 : H s.heap)
    (h : ∀ h', IsEnum h' (s.heap.objs.size + 1) s.heap.objs.size 0 .none → h'.get? s.heap.objs.size = some o → h'.objs.size = s.heap.objs.size + 2 →
      (∀ b o, s.heap.get? b = some o → h'.get? b = some o) → Q (.ref (s.heap.objs.size + 1)) { s with heap := h' }) :
    wpAny (model prog w) A (call (.type "enumerate") [v]) Q E s := by
  refine callType_new F.called_enumerate (by decide) (F.typeCall_enumerate_1 _) (F.newCall_enumerate_1 _) (fun obj => F.args_object_init_2 obj _) F.entry_enumerate_new
    (enum_new1B B) ⟨h1, ?_⟩
  have hz : (s.heap.push o).objs.size = s.heap.objs.size + 1 := Heap.size_push ..
  show _ ∧ _
  rw [hz]
  have he : IsEnum ((s.heap.push o).push { cls := .type "enumerate", data := .fields #[.none, .bool false, .ref s.heap.objs.size, rawInt 0, .none, .none] }) (s.heap.objs.size + 1) s.heap.objs.size 0 .none := by
    have := Heap.get?_push_size (s.heap.push o) (o := { cls := .type "enumerate", data := .fields #[.none, .bool false, .ref s.heap.objs.size, rawInt 0, .none, .none] }) rfl
    rw [hz] at this; exact this
  refine ⟨⟨_, he, rfl⟩, h _ he (Heap.get?_push_of_some _ (Heap.get?_push_size _ B.free)) (by rw [Heap.size_push, hz]) fun b o x => Heap.get?_push_of_some _ (Heap.get?_push_of_some _ x)⟩
def IteT (K : PySem.W.Frag) (a : Addr) : It :=
  ⟨fun i H => ∃ (xs : List V) (x : V), SqT K H a xs ∧ xs[i]? = some x, fun i H v H' => ∃ T x, v = .ref T ∧ H T = none ∧ H' = upd H T (.tup [.int (i : Nat), x]) ∧ ∀ xs, SqT K H a xs → xs[i]? = some x, fun i H => ∃ xs : List V, SqT K H a xs ∧ xs.length ≤ i⟩
theorem turn_enumT {P : Program} {w : World} {K : PySem.W.Frag} {elts : List Expr} {kk : Nat} {tpos : Pos} (a e it : Addr) (hai : a ≠ it) :
    Turn P w K (.Tuple elts kk tpos) (IteT K a) [e, it] e (fun i h => (∃ old, IsEnum h e it ((i : Nat) : Int) old) ∧ h.IsTupleIter it a i ∧ e ≠ it) where
  mem := by simp
  obj := fun i h st b hb => by
    obtain ⟨⟨old, he⟩, ⟨o, ho, hc, hd⟩, _⟩ := st
    have e' : b = e ∨ b = it := by simpa using hb
    rcases e' with z | z
    · rw [z]; exact ⟨_, he, fun v q => nomatch q⟩
    · rw [z]; exact ⟨o, ho, fun v q => by rw [hd] at q; cases q⟩
  keep := fun i h h' st k => let ⟨⟨old, he⟩, hi, hne⟩ := st; ⟨⟨old, k e (by simp) _ he⟩, hi.at fun o q => k it (by simp) o q, hne⟩
  item := by
    intro X hP hw hK hc i pins s σ H E I hf st hg
    subst hP hw hK
    obtain ⟨⟨old, he⟩, hit, hne⟩ := st
    obtain ⟨xs, x, hq, hx⟩ := hg
    obtain ⟨its, rv, p, hz⟩ := I.tuple hq
    obtain ⟨u, hu, ru⟩ := rv.get hx
    have hel : e < s.heap.objs.size := Heap.lt_size he
    have hil : it < s.heap.objs.size := by obtain ⟨_, q, _⟩ := hit; exact Heap.lt_size q
    have p' : s.heap.IsTuple a its.toArray := p
    have hia : i < its.toArray.size := by
      rw [List.size_toArray, ← rv.length]
      exact (List.getElem?_eq_some_iff.mp hx).1
    have hea : e ≠ a := by
      rintro rfl
      obtain ⟨o, q1, q2, q3⟩ := p
      rw [he] at q1
      cases q1
      exact absurd q2 (by simp)
    refine wpAny_pyNext_enum_itemD (Draws.tuple (A := X.A.in1) (by show X.A.handled = none; exact I.ok.hd hc) it a hai its.toArray) he ⟨hit, p'⟩ hia hne (by simp [hne, hea]) fun y h' tk hy ho hst hT hsz hk => ?_
    have ey : y = u := by
      have h1 : its.toArray[i]? = some u := by simpa using hu
      rw [h1] at hy; exact (Option.some.inj hy).symm
    subst ey
    refine ⟨_, rfl, wpAny_letOwnedTupleGo_enum (s := { s with heap := h', toks := tk + 1 }) ho fun h'' he' sb => ?_⟩
    have hT2 : h''.get? s.heap.objs.size = some { cls := .type "tuple", data := .seq #[.int i tk, y] } := (sb.2 _ (Nat.ne_of_gt hel)).trans hT
    have new : ObjOk X.prog X.w (upd H s.heap.objs.size (.tup [.int (i : Nat), x])) h'' s.heap.objs.size (.tup [.int (i : Nat), x]) :=
      ⟨by show 2 ≤ sizeLine; decide, [.int i tk, y], .cons ⟨_, rfl⟩ (.cons ru .nil), ⟨_, hT2, rfl, _, rfl⟩⟩
    have I1 : L2.Inv X pins σ (upd H s.heap.objs.size (.tup [.int (i : Nat), x])) { s with heap := h'', toks := tk + 1 } :=
      I.turnedNew (ch := [e, it]) (fun b ob hb q => (sb.2 b (fun z => hb (by simp [z]))).trans (hk b ob (fun z => hb (by simp [z])) (fun z => hb (by simp [z])) q)) hf (Nat.le_refl _) new
    refine ⟨.ref s.heap.objs.size, _, I1, rfl, ⟨_, x, rfl, I.hok.fresh (Nat.le_refl _), rfl, fun ys hy => by rw [I.tuple_inj hy hq]; exact hx⟩, ⟨⟨y, ?_⟩, hst.1.at fun o q => (sb.2 it (Ne.symm hne)).trans q, hne⟩, fun b hb => ?_⟩
    · have e1 : ((i + 1 : Nat) : Int) = (i : Int) + 1 := by omega
      rw [e1]; exact he'
    · have hb' : b < s.heap.objs.size := by
        have e' : b = e ∨ b = it := by simpa using hb
        rcases e' with z | z
        · rw [z]; exact hel
        · rw [z]; exact hil
      rw [upd_ne (Nat.ne_of_lt hb')]
      exact (hf b hb).1
  done := by
    intro X hP hw hK hc i pins s σ H E I hf st hg
    subst hP hw hK
    obtain ⟨⟨old, he⟩, hit, hne⟩ := st
    obtain ⟨xs, hq, hx⟩ := hg
    obtain ⟨its, rv, p, hz⟩ := I.tuple hq
    obtain ⟨f0, f1, f2, f3, f4, f5⟩ := hf it (by simp)
    have hl := rv.length
    have hT : s.TypeIs (.ref e) "enumerate" := ⟨_, he, rfl⟩
    unfold pyNext
    refine wpAny_bind (wpAny_attempt (wpAny_callSpecial?_slot (name := Str.ofString "__next__") hT F.slot_enumerate_next
      (wpAny_call_entry F.slot_enumerate_next hT F.entry_enumerate_next ?_ (F.args_enumerate_next_1 _))))
    show wpAny _ _ (field (.ref e) 2 >>= _) _ _ _
    refine wpAny_bind (wpAny_field he rfl (x := .ref it) rfl ?_)
    refine wpAny_bind (wpAny_nextOf_tuple_end (by show X.A.handled = none; exact I.ok.hd hc) hit (show s.heap.IsTuple a its.toArray from p) (by simp; omega) fun h' x he' hx' => ?_)
    obtain ⟨o, ho, hcc⟩ := hx'
    refine wpAny_bind (wpAny_isInstance (T := "StopIteration") (b := true) ⟨o, ho, hcc⟩ isSubtype_stop ?_)
    exact wpAny_pure ⟨rfl, I.turned (t' := s.toks) (fun b o hb q => he' b o hb q) f0 f1 f3 f4 f5⟩
  self := fun A i s Q E st h => let ⟨⟨_, he⟩, _⟩ := st; wpAny_pyIter_enum he h
section
variable {X : Cx} {T : Tabs} {W : WX} {tg a b c e : Expr} {es : List Expr} {fa fb fc fe : Fr → M PV} {fr : Fr → M (List PV)} {pos p apos cpos : Pos}
def iEnumA (K : PySem.W.Frag) (ta : TA) : TI := fun σ H R => ta σ H fun vs H1 => ∃ a xs, vs = [.ref a] ∧ ((SqL K H1 a xs ∧ R (Ite K a) H1) ∨ (SqT K H1 a xs ∧ R (IteT K a) H1))
theorem pi_enumA {ta : TA} {tpos : Pos} {elts : List Expr} {kk : Nat} (hg : Gl X "enumerate") (hm : X.mg "enumerate" = none) (ha : PA X [e] ta) (hs : starEach [e] X.env = [(false, eval e X.env)] := by rfl) :
    PI X (.Tuple elts kk tpos) (.Call (.Name "enumerate" p) [e] [] pos) (iEnumA X.K ta) := by
  refine ⟨fun pins s σ H R I h => ?_⟩
  refine Call_ (ld_blt I hg hm boot_enumerate (PyProof.Rows.callWith_type1 (thn (ha.run pos pins s σ H _ I h) fun us s1 ⟨vs, H1, I1, r1, q1⟩ => ?_) hs rfl))
  obtain ⟨a, xs, ex, hq⟩ := q1
  subst ex
  cases r1 with
  | cons r rr =>
    cases rr
    cases r
    have fin : ∀ b, b = s1.heap.objs.size + 1 ∨ b = s1.heap.objs.size → FpOk X pins H1 b := fun b e' => by
      have hle : s1.heap.objs.size ≤ b := by
        rcases e' with z | z
        · rw [z]; exact Nat.le_add_right _ _
        · rw [z]; exact Nat.le_refl _
      exact I1.fpOk hle (I1.hok.fresh hle)
    rcases hq with ⟨hq, q⟩ | ⟨hq, q⟩
    · obtain ⟨its, rv, p', hz⟩ := I1.list hq
      refine call_enumerate_list p'.isList fun h' he hit hsz hk => wpAny_pyIter_enum he ?_
      have I2 : L2.Inv X pins σ H1 { s1 with heap := h' } := I1.kept (t' := s1.toks) hk
      exact ⟨s1.heap.objs.size + 1, [s1.heap.objs.size + 1, s1.heap.objs.size], _, _, H1, rfl, I2, turn_enum a (s1.heap.objs.size + 1) s1.heap.objs.size, ⟨⟨.none, he⟩, hit, Nat.succ_ne_self _⟩, fun b hb => fin b (by simpa using hb), q⟩
    · obtain ⟨its, rv, p', hz⟩ := I1.tuple hq
      have pt : s1.heap.IsTuple a its.toArray := p'
      have hlt : a < s1.heap.objs.size := by obtain ⟨o, q1, _⟩ := p'; exact Heap.lt_size q1
      refine enum_begins1 (begins_tuple a its.toArray) pt fun h' he hit hsz hk => wpAny_pyIter_enum he ?_
      have I2 : L2.Inv X pins σ H1 { s1 with heap := h' } := I1.kept (t' := s1.toks) hk
      exact ⟨s1.heap.objs.size + 1, [s1.heap.objs.size + 1, s1.heap.objs.size], _, _, H1, rfl, I2, turn_enumT a (s1.heap.objs.size + 1) s1.heap.objs.size (Nat.ne_of_lt hlt), ⟨⟨.none, he⟩, ⟨_, hit, rfl, rfl⟩, Nat.succ_ne_self _⟩, fun b hb => fin b (by simpa using hb), q⟩
def enumP : Nat → List PV → List PV
  | _, [] => []
  | n, x :: xs => .set [.int n, x] :: enumP (n + 1) xs
theorem enumP_len : ∀ (xs : List PV) (n : Nat), (enumP n xs).length = xs.length
  | [], _ => rfl
  | _ :: xs, n => by simp [enumP, enumP_len xs]
theorem enumP_get : ∀ (xs : List PV) (n i : Nat) (z : PV), (enumP n xs)[i]? = some z → ∃ x, xs[i]? = some x ∧ z = .set [.int (n + i : Nat), x]
  | [], _, _, _, h => by simp [enumP] at h
  | x :: xs, n, 0, z, h => by simp [enumP] at h; exact ⟨x, rfl, h.symm⟩
  | x :: xs, n, i + 1, z, h => by
    obtain ⟨y, h1, h2⟩ := enumP_get xs (n + 1) i z (by simpa [enumP] using h)
    refine ⟨y, by simpa using h1, ?_⟩
    rw [h2, show n + 1 + i = n + (i + 1) by omega]
def srcEnum : List PV → M Src
  | [.lst xs] => M.pure (.fz (enumP 0 xs))
  | [.tup xs] => M.pure (.fz (enumP 0 xs))
  | _ => M.bad
def iEnm (fr : Fr → M (List PV)) : Fr → M Src := fun ρ => fr ρ >>= fun xs => srcEnum xs
/-- a pair at a new place -/
theorem rep_pair {G : Cfg} {w : Wo} {st : Store} {H : Hp} {p : Addr} {u v : V} {x y : PV} (wr : Wr G w st H) (hp : H p = none) (ru : Rep G w H u x) (rv : Rep G w H v y) : Rep G w (upd H p (.tup [u, v])) (.ref p) (.set [x, y]) := Rep.newP wr hp (.cons ru (.cons rv .nil))
theorem ppi_enum {tpos : Pos} {elts : List Expr} {kk : Nat} (hg : Gl X "enumerate") (hm : X.mg "enumerate" = none) (ha : PPA X T W [e] fr) (hs : starEach [e] X.env = [(false, eval e X.env)] := by rfl) : PPI X T W (.Tuple elts kk tpos) (.Call (.Name "enumerate" p) [e] [] pos) (iEnm fr) := by
  refine ⟨fun pins s σ H R I ⟨w, st, ρ, h⟩ => (pi_enumA hg hm ha hs).run pins s σ H R I ?_⟩
  refine RunI.aE (k := fun xs _ => srcEnum xs) h fun w1 st1 xs vs H1 l r h1 => ?_
  have pq := h1.post
  unfold srcEnum at pq
  split at pq
  · rename_i ys
    obtain ⟨v, rfl, rv⟩ := r.one_inv
    cases rv with
    | @lst ad us _ nd hh ru =>
    refine ⟨ad, us, rfl, .inl ⟨.inl (.inl hh), ?_⟩⟩
    refine pq w1 _ H1 (Le.refl _ _) h1.wr fun w2 H2 st2 l2 wr2 => ?_
    have h2 : H2 ad = some (.lst us) := l2.exact nd hh rfl
    have ru2 := ru.mr l2
    have hl : (enumP 0 ys).length = us.length := by rw [enumP_len, ru.length]
    refine ⟨fun i x hi e => ?_, fun _ => ⟨us, .inl (.inl h2), by show us.length ≤ (enumP 0 ys).length; omega⟩⟩
    obtain ⟨y, e1, e2⟩ := enumP_get ys 0 i x e
    obtain ⟨u, e3, e4⟩ := ru2.get i e1
    refine ⟨⟨us, u, .inl (.inl h2), e3⟩, fun v H3 yy => ?_⟩
    obtain ⟨Tp, u', rfl, hT, rfl, hu⟩ := yy
    have := hu us (.inl (.inl h2))
    rw [e3] at this
    cases this
    refine ⟨same_new hT, ?_⟩
    subst e2
    rw [Nat.zero_add]
    exact rep_pair wr2 hT (.int _) e4
  · rename_i ys
    obtain ⟨v, rfl, rv⟩ := r.one_inv
    cases rv with
    | @tup ad us _ hh ru =>
    refine ⟨ad, us, rfl, .inr ⟨hh.sq, ?_⟩⟩
    refine pq w1 _ H1 (Le.refl _ _) h1.wr fun w2 H2 st2 l2 wr2 => ?_
    have h2 : FzT X.K w2 H2 ad us := FzT.mr (G := Cx.g X T) l2 hh
    have ru2 := ru.mr l2
    have hl : (enumP 0 ys).length = us.length := by rw [enumP_len, ru.length]
    refine ⟨fun i x hi e => ?_, fun _ => ⟨us, h2.sq, by show us.length ≤ (enumP 0 ys).length; omega⟩⟩
    obtain ⟨y, e1, e2⟩ := enumP_get ys 0 i x e
    obtain ⟨u, e3, e4⟩ := ru2.get i e1
    refine ⟨⟨us, u, h2.sq, e3⟩, fun v H3 yy => ?_⟩
    obtain ⟨Tp, u', rfl, hT, rfl, hu⟩ := yy
    have := hu us h2.sq
    rw [e3] at this
    cases this
    refine ⟨same_new hT, ?_⟩
    subst e2
    rw [Nat.zero_add]
    exact rep_pair wr2 hT (.int _) e4
  · exact pq.elim
/-! ### d.items() -/
/-- where an expression's value is a dict, it may be locked -/
theorem pe_lockV {td : TE} (he : PE X e td) : PE X e (fun σ H Q => td σ H fun v H1 => Q v H1 ∨ ∃ d u, v = .ref d ∧ H1 d = some u ∧ Mut (some u) ∧ ∀ od, Q v (upd H1 d (.frz od u))) := by
  refine ⟨fun pins s σ H Q I h => thn (he.run pins s σ H _ I h) fun v s1 ⟨x, H1, I1, r1, q1⟩ => ?_⟩
  rcases q1 with q1 | ⟨d, u, rfl, h1, mu, q1⟩
  · exact ⟨x, H1, I1, r1, q1⟩
  · obtain ⟨od, I2⟩ := I1.lock h1 mu
    exact ⟨_, _, I2, r1, q1 od⟩
def srcItems (x : PV) : M Src := fun st => match x with
  | .dct kvs => if keysK kvs then .ok (.fz (kvs.map fun q => .set [q.1, q.2])) st else .bad
  | .loc l => match st.get l with
    | some (.frz (.dct kvs)) => if keysK kvs then .ok (.fz (kvs.map fun q => .set [q.1, q.2])) st else .bad
    | _ => .bad
  | _ => .bad
def iItm (fe : Fr → M PV) : Fr → M Src := fun ρ => fe ρ >>= fun x => srcItems x
theorem RepK.getV {G : Cfg} {w : Wo} {H : Hp} : ∀ {ks : List (Key × V)} {kvs : List (PV × PV)} (i : Nat) {x : PV}, RepK G w H ks kvs → (kvs.map fun q => PV.set [q.1, q.2])[i]? = some x → ∃ k v y, ks[i]? = some (k, v) ∧ x = .set [keyP k, y] ∧ kOk k = true ∧ Rep G w H v y
  | _, _, _, _, .nil, h => by simp at h
  | _, _, 0, x, .cons (k := k) (v := v) ok r _, h => by simp at h; exact ⟨k, v, _, rfl, h.symm, ok, r⟩
  | _, _, i + 1, x, .cons _ _ rs, h => by
    obtain ⟨k, v, y, h1, h2, h3⟩ := RepK.getV i rs (by simpa using h)
    exact ⟨k, v, y, by simpa using h1, h2, h3⟩
theorem wk_items {w : Wo} {H : Hp} {d : Addr} {od : Obj} {ks : List (Key × V)} {kvs : List (PV × PV)} (nd : ¬ w.D d) (h : H d = some (.frz od (.dK ks))) (r : RepK (Cx.g X T) w H ks kvs) : Wk X T w H (Iti d od ks) (.fz (kvs.map fun q => .set [q.1, q.2])) := by
  intro w1 H1 st1 l wr
  have h1 : H1 d = some (.frz od (.dK ks)) := l.exact nd h rfl
  have r1 := r.mr l
  have hl : (kvs.map fun q => PV.set [q.1, q.2]).length = ks.length := by rw [List.length_map, r.length]
  refine ⟨fun i x hi e => ?_, fun _ => ⟨h1, by rw [← hl]; exact Nat.le_refl _⟩⟩
  obtain ⟨k, v, y, k1, k2, k3, k4⟩ := r1.getV i e
  refine ⟨⟨h1, by rw [← hl]; exact hi⟩, fun u H2 yy => ?_⟩
  obtain ⟨Tp, k', v', y1, rfl, hT, rfl⟩ := yy
  rw [k1] at y1
  cases y1
  subst k2
  exact ⟨same_new hT, rep_pair wr hT (.ofKey k3) k4⟩
theorem ppi_items {tpos : Pos} {elts : List Expr} {kk : Nat} (he : PP X T W e fe) (hbase : attributeBase e "items" X.env (eval e X.env) = eval e X.env := by rfl) (hline : (apos.endLine == cpos.line) = true := by rfl) : PPI X T W (.Tuple elts kk tpos) (.Call (.Attribute e "items" apos) [] [] cpos) (iItm fe) := by
  refine ⟨fun pins s σ H R I ⟨w, st, ρ, h⟩ => (pi_items (pe_lockV he) hbase hline).run pins s σ H R I ?_⟩
  refine RunI.eE (k := fun x _ => srcItems x) h fun w1 st1 x v H1 l r h1 => ?_
  have pq := h1.post
  have go : ∀ (d : Addr) (kvs : List (PV × PV)), v = .ref d → ¬ w1.D d → ((∃ ks, Ob H1 d (.dK ks) ∧ RepK (Cx.g X T) w1 H1 ks kvs) ∨ ∃ ks : List NKV, ks ≠ [] ∧ RepT (Cx.g X T) w1 H1 ks kvs) → keysK kvs = true →
      PostI X T W w1 σ H1 R (.ok (.fz (kvs.map fun q => .set [q.1, q.2])) st1) →
      (∃ d o ks, v = .ref d ∧ H1 d = some (.frz o (.dK ks)) ∧ R (Iti d o ks) H1) ∨ ∃ d u, v = .ref d ∧ H1 d = some u ∧ Mut (some u) ∧ ∀ od, ∃ d' o ks, v = .ref d' ∧ (upd H1 d (.frz od u)) d' = some (.frz o (.dK ks)) ∧ R (Iti d' o ks) (upd H1 d (.frz od u)) := by
    intro d kvs ev nd hd hk pq
    rcases hd with ⟨ks, ob, r⟩ | ⟨ks, n, r⟩
    · rcases ob.two rfl with ob | ⟨_, od, ob⟩
      · refine .inr ⟨d, .dK ks, ev, ob, True.intro, fun od => ⟨d, od, ks, ev, upd_same, ?_⟩⟩
        exact pq w1 _ _ (Le.lock nd ob rfl) (h1.wr.lock nd ob rfl) (wk_items nd upd_same (r.mono (Le.lock nd ob rfl)))
      · exact .inl ⟨d, od, ks, ev, ob, pq w1 _ _ (Le.refl _ _) h1.wr (wk_items nd ob r)⟩
    · exact absurd (r.notK hk).1 n
  unfold srcItems at pq
  split at pq
  · rename_i kvs
    split at pq
    · rename_i hk
      cases r with
      | dcK nd ob r => exact go _ kvs rfl nd (.inl ⟨_, ob, r⟩) hk pq
      | dcT nd ob n r => exact go _ kvs rfl nd (.inr ⟨_, n, r⟩) hk pq
    · exact pq.elim
  · rename_i l0
    split at pq
    · rename_i kvs hq
      split at pq
      · rename_i hk
        cases r with
        | @loc ad _ hl =>
        obtain ⟨b, k1, k2⟩ := h1.wr.cell _ _ hq
        rw [hl] at k1; cases k1
        cases k2.2 with
        | dcK nd ob r => exact go _ kvs rfl nd (.inl ⟨_, ob, r⟩) hk pq
        | dcT nd ob n r => exact go _ kvs rfl nd (.inr ⟨_, n, r⟩) hk pq
      · exact pq.elim
    · exact pq.elim
  · exact pq.elim
end
end Eg

/-! E29: comprehensions with two fors; comprehensions stored; dict comprehensions. -/
namespace Eg
open PySem PySem.Spec PyProof.Rows L2
section
variable {X : Cx} {T : Tabs} {W : WX}
theorem Wk.mono {w w' : Wo} {H H' : Hp} {J : It} {s : Src} (h : Wk X T w H J s) (e : LeR w H w' H') : Wk X T w' H' J s := fun w1 H1 st1 l wr => h w1 H1 st1 (e.trans l) wr
theorem lcGo_len {g : PV → Fr → M Fr} {ft : Fr → M Bool} {fe : Fr → M PV} {s : Src} {ρ : Fr} : ∀ (k i : Nat) {st st' : Store} {ys : List PV}, lcGo g ft fe s ρ k i st = .ok ys st' → ys.length ≤ k
  | 0, i, st, st', ys, h => by
    unfold lcGo at h
    split at h
    · cases h; exact Nat.le_refl _
    · cases h
  | k + 1, i, st, st', ys, h => by
    unfold lcGo at h
    split at h
    · split at h
      · split at h
        · split at h
          · split at h
            · rename_i q
              cases h
              have := lcGo_len k (i + 1) q
              simp; omega
            · cases h
          · cases h
        · have := lcGo_len k (i + 1) h
          omega
        · cases h
      · cases h
    · cases h
theorem wipe_twice (σ : L2.St) (vs : List Nat) : L2.wipe (L2.wipe σ vs) vs = L2.wipe σ vs := by
  refine List.ext_getElem? fun j => ?_
  rw [wipe_get (L2.wipe σ _), L2.wipe_length, wipe_get]
  by_cases hj : j ∈ vs ∧ j < σ.length
  · simp only [if_pos hj]
  · simp only [if_neg hj]
/-- what is wanted of the end of a walk -/
def FinL (X : Cx) (T : Tabs) (w0 : Wo) (H0 : Hp) (P : Addr) (wS : Wo) (HS : Hp) (Nx : Hp → Prop) (acc : List PV) : R (List PV) → Prop
  | .ok ys st2 => acc.length + ys.length ≤ sizeLine ∧ ∀ w2 H2, LeR wS HS w2 H2 → InB X T w0 H0 P w2 st2 H2 (acc ++ ys) → Nx H2
  | _ => False
theorem lc_loop {w0 : Wo} {H0 : Hp} {P : Addr} {s : Src} {J : It} {is vs : List Nat} {g : PV → Fr → M Fr} {ft : Fr → M Bool} {fe : Fr → M PV} {ρ : Fr} {σ : L2.St} {wS : Wo} {stS : Store} {HS : Hp} {acc : List PV} {Nx : Hp → Prop} (h0 : H0 P = none) (his : ∀ i ∈ is, i ∈ vs) (wk : Wk X T wS HS J s) (fr : FrR (Cx.g X T) wS HS σ ρ) (b : InB X T w0 H0 P wS stS HS acc) (f : FinL X T w0 H0 P wS HS Nx acc (lcGo g ft fe s (wipeF ρ vs) s.len 0 stS)) :
    ∃ Wv : Nat → Nat → Hp → Prop, (∃ m, Wv 0 m HS) ∧ ∀ i m H, Wv i m H → (J.stop i H ∧ Nx H) ∨ (J.go i H ∧ ∃ Nx1 : Hp → Prop, (∀ H', Nx1 H' → ∃ m', m' < m ∧ Wv (i + 1) m' H') ∧ ∀ x H', J.yld i H x H' → tG X T is g x (L2.wipe σ vs) H' fun σ2 H2 => L2.wipe σ2 vs = L2.wipe σ vs ∧ tT X T W0 ft σ2 H2 fun c H3 =>
      if c = true then tE X T W0 fe σ2 H3 fun y H4 => ∃ acc, H4 P = some (.lst acc) ∧ acc.length < sizeLine ∧ Nx1 (upd H4 P (.lst (acc ++ [y]))) else Nx1 H3) := by
  refine ⟨fun i m H => i + m = s.len ∧ ∃ w st acc, LeR wS HS w H ∧ InB X T w0 H0 P w st H acc ∧ FinL X T w0 H0 P wS HS Nx acc (lcGo g ft fe s (wipeF ρ vs) m i st), ⟨s.len, by omega, wS, stS, acc, LeR.refl _ _, b, f⟩, ?_⟩
  rintro i m H ⟨him, w, st, acc, lr, b, f⟩
  obtain ⟨k1, k2⟩ := wk w H st lr b.wr
  cases m with
  | zero =>
    have ei : i = s.len := by omega
    subst ei
    unfold lcGo at f
    by_cases hf : s.fin st = true
    · rw [if_pos hf] at f
      exact .inl ⟨k2 hf, f.2 w H lr (by rw [List.append_nil]; exact b)⟩
    · rw [if_neg hf] at f; exact f.elim
  | succ m =>
    unfold lcGo at f
    cases q : s.get st i with
    | none => rw [q] at f; exact f.elim
    | some x =>
      rw [q] at f
      dsimp only at f
      obtain ⟨go, yl⟩ := k1 i x (by omega) q
      refine .inr ⟨go, fun H' => (i + 1) + m = s.len ∧ ∃ w st acc, LeR wS HS w H' ∧ InB X T w0 H0 P w st H' acc ∧ FinL X T w0 H0 P wS HS Nx acc (lcGo g ft fe s (wipeF ρ vs) m (i + 1) st), fun H' z => ⟨m, by omega, z⟩, fun v H2 y => ?_⟩
      obtain ⟨sm, rv⟩ := yl v H2 y
      cases q2 : g x (wipeF ρ vs) st with
      | exc _ _ => rw [q2] at f; exact f.elim
      | bad => rw [q2] at f; exact f.elim
      | ok ρ1 st1 =>
        rw [q2] at f
        dsimp only at f
        have l2 : Le w H w H2 := Le.same sm
        have b2 : InB X T w0 H0 P w st H2 acc := b.step l2 (b.wr.same sm)
        have lr2 := lr.trans l2.r
        refine ⟨w, st, _, x, b2.wr, (fr.wipe _).mr lr2, rv, ρ1, st1, q2, fun w3 σ3 H3 l3 wr3 fr3 ag => ⟨ag.wipe his |>.trans (wipe_twice σ vs), ?_⟩⟩
        have b3 := b2.step l3 wr3
        have lr3 := lr2.trans l3.r
        cases q3 : ft ρ1 st1 with
        | exc _ _ => rw [q3] at f; exact f.elim
        | bad => rw [q3] at f; exact f.elim
        | ok c st2 =>
          rw [q3] at f
          refine ⟨w3, st1, ρ1, wr3, fr3, ?_⟩
          show PostB _ _ _ _ _ _ _ (ft ρ1 st1)
          rw [q3]
          intro w4 H4 l4 wr4
          have b4 := b3.step l4 wr4
          have lr4 := lr3.trans l4.r
          cases c with
          | false => exact iteF ⟨by omega, w4, st2, acc, lr4, b4, f⟩
          | true =>
            dsimp only at f
            refine iteT ?_
            cases q5 : fe ρ1 st2 with
            | exc _ _ => rw [q5] at f; exact f.elim
            | bad => rw [q5] at f; exact f.elim
            | ok y st3 =>
              rw [q5] at f
              dsimp only at f
              refine ⟨w4, st2, ρ1, wr4, fr3.mono l4, ?_⟩
              show PostE _ _ _ _ _ _ _ (fe ρ1 st2)
              rw [q5]
              intro w5 u H5 l5 wr5 ru
              have b5 := b4.step l5 wr5
              have lr5 := lr4.trans l5.r
              obtain ⟨vs5, hv5, rl5⟩ := b5.at_
              cases q6 : lcGo g ft fe s (wipeF ρ vs) m (i + 1) st3 with
              | ok ys st4 =>
                rw [q6] at f
                have f1 : acc.length + (y :: ys).length ≤ sizeLine := f.1
                rw [List.length_cons] at f1
                refine ⟨vs5, hv5, by rw [rl5.length]; omega, by omega, w5, st3, acc ++ [y], lr5.trans (LeR.hidden b5.hid), b5.push h0 hv5 ru, ?_⟩
                rw [q6]
                exact ⟨by rw [List.length_append, List.length_singleton]; omega, fun w6 H6 l6 b6 => f.2 w6 H6 l6 (by simpa using b6)⟩
              | exc _ _ => rw [q6] at f; exact f.elim
              | bad => rw [q6] at f; exact f.elim
theorem LeR.start {w : Wo} {H : Hp} {P : Addr} {o : HO} (h0 : H P = none) : LeR w H (w.hide P) (upd H P o) :=
  ⟨fun _ _ h => h, fun a d n z => z.elim d fun z => n (z ▸ h0), fun a o d k => (Le.same (w := w) (same_new h0)).keep a o (.inl d) k⟩
theorem tLc_of (k : Bool) {vs is : List Nat} {fi : Fr → M Src} {g : PV → Fr → M Fr} {ft : Fr → M Bool} {fe : Fr → M PV} {w : Wo} {st : Store} {ρ : Fr} {σ : L2.St} {H : Hp} {Q : VK} (his : ∀ i ∈ is, i ∈ vs) (h : RunE X T W (eLc k vs fi g ft fe) w st ρ σ H Q) :
    tLc (tI X T W fi) (tG X T is g) (tT X T W0 ft) (tE X T W0 fe) vs σ H Q := by
  refine ⟨w, st, ρ, h.wr, h.fr, ?_⟩
  have p := h.post
  unfold eLc at p
  cases e : fi ρ st with
  | exc x st1 => rw [M.bind_exc e] at p; exact p
  | bad => rw [M.bind_bad e] at p; exact p
  | ok s st1 =>
    rw [M.bind_ok e] at p
    intro w0 J H0 l0 wr0 wk P hP
    replace p := p.mono l0
    have fr0 := h.fr.mono l0
    by_cases hl : s.len ≤ sizeLine
    · rw [if_pos hl] at p
      refine lc_loop (w0 := w0) (H0 := H0) (stS := st1) hP his (wk.mono (LeR.start hP)) (fr0.mr (LeR.start hP)) (InB.start wr0 hP) ?_
      cases q : lcGo g ft fe s (wipeF ρ vs) s.len 0 st1 with
      | ok ys st2 =>
        have q' : (fun st => lcGo g ft fe s (wipeF ρ vs) s.len 0 st) st1 = .ok ys st2 := q
        rw [M.bind_ok q'] at p
        refine ⟨by have := lcGo_len _ _ q; simp; omega, fun w2 H2 _ b => ?_⟩
        cases k with
        | false =>
          obtain ⟨o1, o2, o3⟩ := b.out hP
          exact p _ _ _ o1 o2 o3
        | true =>
          obtain ⟨o1, o2, o3⟩ := b.outL hP
          exact p _ _ _ o1 o2 o3
      | exc _ _ => exact absurd q (lcGo_noexc _ _)
      | bad =>
        have q' : (fun st => lcGo g ft fe s (wipeF ρ vs) s.len 0 st) st1 = .bad := q
        rw [M.bind_bad q'] at p
        exact p
    · rw [if_neg hl] at p
      exact p.elim
/-! ### two fors -/
def lc2Go (g : PV → Fr → M Fr) (ft : Fr → M Bool) (fi1 : Fr → M Src) (g1 : PV → Fr → M Fr) (ft1 : Fr → M Bool) (fe : Fr → M PV) (vs1 : List Nat) (s : Src) (ρ : Fr) : Nat → Nat → Store → R (List PV)
  | 0, _, st => if s.fin st = true then .ok [] st else .bad
  | k + 1, i, st => match s.get st i with
    | some x => match g x ρ st with
      | .ok ρ1 st1 => match ft ρ1 st1 with
        | .ok true st2 => match fi1 ρ1 st2 with
          | .ok s1 st3 => match lcGo g1 ft1 fe s1 (wipeF ρ1 vs1) s1.len 0 st3 with
            | .ok ys st4 => match lc2Go g ft fi1 g1 ft1 fe vs1 s ρ k (i + 1) st4 with
              | .ok zs st5 => .ok (ys ++ zs) st5
              | _ => .bad
            | _ => .bad
          | _ => .bad
        | .ok false st2 => lc2Go g ft fi1 g1 ft1 fe vs1 s ρ k (i + 1) st2
        | _ => .bad
      | _ => .bad
    | none => .bad
theorem lc2Go_noexc {g : PV → Fr → M Fr} {ft : Fr → M Bool} {fi1 : Fr → M Src} {g1 : PV → Fr → M Fr} {ft1 : Fr → M Bool} {fe : Fr → M PV} {vs1 : List Nat} {s : Src} {ρ : Fr} {e : Exn} {st' : Store} : ∀ (k i : Nat) {st : Store}, lc2Go g ft fi1 g1 ft1 fe vs1 s ρ k i st ≠ .exc e st'
  | 0, i, st => by unfold lc2Go; split <;> intro h <;> cases h
  | k + 1, i, st => by
    unfold lc2Go
    split
    · split
      · split
        · split
          · split
            · split <;> intro h <;> cases h
            · intro h; cases h
          · intro h; cases h
        · exact lc2Go_noexc k (i + 1)
        · intro h; cases h
      · intro h; cases h
    · intro h; cases h
def eLc2 (k : Bool) (vs vs1 : List Nat) (fi : Fr → M Src) (g : PV → Fr → M Fr) (ft : Fr → M Bool) (fi1 : Fr → M Src) (g1 : PV → Fr → M Fr) (ft1 : Fr → M Bool) (fe : Fr → M PV) : Fr → M PV := fun ρ => fi ρ >>= fun s =>
  (fun st => lc2Go g ft fi1 g1 ft1 fe vs1 s (wipeF ρ vs) s.len 0 st) >>= fun ys => if ys.length ≤ sizeLine then nw k (.lst ys) else M.bad
theorem tLc2_of (k : Bool) {vs vs1 is is1 : List Nat} {fi fi1 : Fr → M Src} {g g1 : PV → Fr → M Fr} {ft ft1 : Fr → M Bool} {fe : Fr → M PV} {w : Wo} {st : Store} {ρ : Fr} {σ : L2.St} {H : Hp} {Q : VK} (his : ∀ i ∈ is, i ∈ vs) (his1 : ∀ i ∈ is1, i ∈ vs1) (h : RunE X T W (eLc2 k vs vs1 fi g ft fi1 g1 ft1 fe) w st ρ σ H Q) :
    tLc2 (tI X T W fi) (tG X T is g) (tT X T W0 ft) (tI X T W0 fi1) (tG X T is1 g1) (tT X T W0 ft1) (tE X T W0 fe) vs vs1 σ H Q := by
  refine ⟨w, st, ρ, h.wr, h.fr, ?_⟩
  have p := h.post
  unfold eLc2 at p
  cases e : fi ρ st with
  | exc x st1 => rw [M.bind_exc e] at p; exact p
  | bad => rw [M.bind_bad e] at p; exact p
  | ok s st1 =>
    rw [M.bind_ok e] at p
    intro w0 J H0 l0 wr0 wk P hP
    replace p := p.mono l0
    have fr0 := h.fr.mono l0
    have start : FinL X T w0 H0 P (w0.hide P) (upd H0 P (.lst [])) (Q (.ref P)) [] (lc2Go g ft fi1 g1 ft1 fe vs1 s (wipeF ρ vs) s.len 0 st1) := by
      cases q : lc2Go g ft fi1 g1 ft1 fe vs1 s (wipeF ρ vs) s.len 0 st1 with
      | ok ys st2 =>
        have q' : (fun st => lc2Go g ft fi1 g1 ft1 fe vs1 s (wipeF ρ vs) s.len 0 st) st1 = .ok ys st2 := q
        rw [M.bind_ok q'] at p
        by_cases hl : ys.length ≤ sizeLine
        · rw [if_pos hl] at p
          refine ⟨by simpa using hl, fun w2 H2 _ b => ?_⟩
          cases k with
          | false =>
            obtain ⟨o1, o2, o3⟩ := b.out hP
            exact p _ _ _ o1 o2 o3
          | true =>
            obtain ⟨o1, o2, o3⟩ := b.outL hP
            exact p _ _ _ o1 o2 o3
        · rw [if_neg hl] at p; exact p.elim
      | exc _ _ => exact absurd q (lc2Go_noexc _ _)
      | bad =>
        have q' : (fun st => lc2Go g ft fi1 g1 ft1 fe vs1 s (wipeF ρ vs) s.len 0 st) st1 = .bad := q
        rw [M.bind_bad q'] at p
        exact p
    refine ⟨fun i m H => i + m = s.len ∧ ∃ w st acc, LeR (w0.hide P) (upd H0 P (.lst [])) w H ∧ InB X T w0 H0 P w st H acc ∧ FinL X T w0 H0 P (w0.hide P) (upd H0 P (.lst [])) (Q (.ref P)) acc (lc2Go g ft fi1 g1 ft1 fe vs1 s (wipeF ρ vs) m i st), ⟨s.len, by omega, _, st1, [], LeR.refl _ _, InB.start wr0 hP, start⟩, ?_⟩
    have wkS : Wk X T (w0.hide P) (upd H0 P (.lst [])) J s := wk.mono (LeR.start hP)
    have frS := fr0.mr (LeR.start (o := .lst []) hP)
    generalize w0.hide P = wS at wkS frS ⊢
    generalize upd H0 P (.lst []) = HS at wkS frS ⊢
    rintro i m H ⟨him, w, st, acc, lr, b, f⟩
    obtain ⟨k1, k2⟩ := wkS w H st lr b.wr
    cases m with
    | zero =>
      have ei : i = s.len := by omega
      subst ei
      unfold lc2Go at f
      by_cases hf : s.fin st = true
      · rw [if_pos hf] at f
        exact .inl ⟨k2 hf, f.2 w H lr (by rw [List.append_nil]; exact b)⟩
      · rw [if_neg hf] at f; exact f.elim
    | succ m =>
      unfold lc2Go at f
      cases q : s.get st i with
      | none => rw [q] at f; exact f.elim
      | some x =>
        rw [q] at f
        dsimp only at f
        obtain ⟨go, yl⟩ := k1 i x (by omega) q
        refine .inr ⟨go, fun H' => (i + 1) + m = s.len ∧ ∃ w st acc, LeR wS HS w H' ∧ InB X T w0 H0 P w st H' acc ∧ FinL X T w0 H0 P wS HS (Q (.ref P)) acc (lc2Go g ft fi1 g1 ft1 fe vs1 s (wipeF ρ vs) m (i + 1) st), fun H' z => ⟨m, by omega, z⟩, fun v H2 y => ?_⟩
        obtain ⟨sm, rv⟩ := yl v H2 y
        cases q2 : g x (wipeF ρ vs) st with
        | exc _ _ => rw [q2] at f; exact f.elim
        | bad => rw [q2] at f; exact f.elim
        | ok ρ1 st1 =>
          rw [q2] at f
          dsimp only at f
          have l2 : Le w H w H2 := Le.same sm
          have b2 : InB X T w0 H0 P w st H2 acc := b.step l2 (b.wr.same sm)
          have lr2 := lr.trans l2.r
          refine ⟨w, st, _, x, b2.wr, (frS.wipe _).mr lr2, rv, ρ1, st1, q2, fun w3 σ3 H3 l3 wr3 fr3 ag => ⟨ag.wipe his |>.trans (wipe_twice σ vs), ?_⟩⟩
          have b3 := b2.step l3 wr3
          have lr3 := lr2.trans l3.r
          cases q3 : ft ρ1 st1 with
          | exc _ _ => rw [q3] at f; exact f.elim
          | bad => rw [q3] at f; exact f.elim
          | ok c st2 =>
            rw [q3] at f
            refine ⟨w3, st1, ρ1, wr3, fr3, ?_⟩
            show PostB _ _ _ _ _ _ _ (ft ρ1 st1)
            rw [q3]
            intro w4 H4 l4 wr4
            have b4 := b3.step l4 wr4
            have lr4 := lr3.trans l4.r
            cases c with
            | false => exact iteF ⟨by omega, w4, st2, acc, lr4, b4, f⟩
            | true =>
              dsimp only at f
              refine iteT ?_
              cases q5 : fi1 ρ1 st2 with
              | exc _ _ => rw [q5] at f; exact f.elim
              | bad => rw [q5] at f; exact f.elim
              | ok s1 st3 =>
                rw [q5] at f
                dsimp only at f
                refine ⟨w4, st2, ρ1, wr4, fr3.mono l4, ?_⟩
                show PostI _ _ _ _ _ _ _ (fi1 ρ1 st2)
                rw [q5]
                intro w5 J1 H5 l5 wr5 wk5
                have b5 := b4.step l5 wr5
                have lr5 := lr4.trans l5.r
                refine lc_loop (w0 := w0) (H0 := H0) (stS := st3) (acc := acc) hP his1 wk5 ((fr3.mono l4).mono l5) b5 ?_
                cases q6 : lcGo g1 ft1 fe s1 (wipeF ρ1 vs1) s1.len 0 st3 with
                | ok ys st4 =>
                  rw [q6] at f
                  dsimp only at f
                  cases q7 : lc2Go g ft fi1 g1 ft1 fe vs1 s (wipeF ρ vs) m (i + 1) st4 with
                  | ok zs st5 =>
                    rw [q7] at f
                    have f1 : acc.length + (ys ++ zs).length ≤ sizeLine := f.1
                    rw [List.length_append] at f1
                    refine ⟨by omega, fun w6 H6 l6 b6 => ⟨by omega, w6, st4, acc ++ ys, lr5.trans l6, b6, ?_⟩⟩
                    rw [q7]
                    exact ⟨by rw [List.length_append]; omega, fun w7 H7 l7 b7 => f.2 w7 H7 l7 (by rw [← List.append_assoc]; exact b7)⟩
                  | exc _ _ => rw [q7] at f; exact f.elim
                  | bad => rw [q7] at f; exact f.elim
                | exc _ _ => rw [q6] at f; exact f.elim
                | bad => rw [q6] at f; exact f.elim
end
section
variable {X : Cx} {T : Tabs} {W : WX} {elt tg iter tg1 iter1 kx vx : Expr} {ifs ifs1 : List Expr} {scope : Scope} {own : List (Str × Nat)} {pos spos py : Pos} {y : Str} {i : Nat}
/-- a block's rule told of the def's own words -/
theorem blkT {f : Fr → M Bool} (ht : ∀ (s : Shared) (H : Hp) (C : Addr) (cl : List (Str × Addr)) (fp : List Addr), PPTs (X.blk s H scope (compEnvC scope cl C X.env) fp) T W0 ifs f) (s : Shared) (H : Hp) (C : Addr) (cl : List (Str × Addr)) (fp : List Addr) : PTs (X.blk s H scope (compEnvC scope cl C X.env) fp) ifs (tT X T W0 f) :=
  ⟨fun pins s1 σ H1 Q I ⟨w, st, ρ, h⟩ => (ht s H C cl fp).run pins s1 σ H1 Q I ⟨w, st, ρ, h.wr, h.fr, h.post⟩⟩
theorem blkE {f : Fr → M PV} (he : ∀ (s : Shared) (H : Hp) (C : Addr) (cl : List (Str × Addr)) (fp : List Addr), PP (X.blk s H scope (compEnvC scope cl C X.env) fp) T W0 elt f) (s : Shared) (H : Hp) (C : Addr) (cl : List (Str × Addr)) (fp : List Addr) : PE (X.blk s H scope (compEnvC scope cl C X.env) fp) elt (tE X T W0 f) :=
  ⟨fun pins s1 σ H1 Q I ⟨w, st, ρ, h⟩ => (he s H C cl fp).run pins s1 σ H1 Q I ⟨w, st, ρ, h.wr, h.fr, h.post⟩⟩
theorem blkI {f : Fr → M Src} (hi : ∀ (s : Shared) (H : Hp) (C : Addr) (cl : List (Str × Addr)) (fp : List Addr), PPI (X.blk s H scope (compEnvC scope cl C X.env) fp) T W0 tg iter f) (s : Shared) (H : Hp) (C : Addr) (cl : List (Str × Addr)) (fp : List Addr) : PI (X.blk s H scope (compEnvC scope cl C X.env) fp) tg iter (tI X T W0 f) :=
  ⟨fun pins s1 σ H1 Q I ⟨w, st, ρ, h⟩ => (hi s H C cl fp).run pins s1 σ H1 Q I ⟨w, st, ρ, h.wr, h.fr, h.post⟩⟩
/-- x = e, for the e that are stored within themselves -/
theorem RunS.setE {fe : Fr → M PV} {w : Wo} {st : Store} {ρ : Fr} {σ : L2.St} {H : Hp} {D : Ends} (h : RunS X T W (sAsg fe (gN i)) w st ρ σ H D) : RunE X T W fe w st ρ σ H (fun v H1 => gName i v σ H1 D.nx) := by
  refine ⟨h.wr, h.fr, ?_⟩
  have p := h.post
  unfold sAsg sE at p
  cases e : fe ρ st with
  | ok x st1 =>
    rw [e] at p
    exact fun w1 v H1 l wr r => p w1 _ H1 l wr ((h.fr.mono l).set r i)
  | exc x st1 =>
    rw [e] at p
    exact fun w1 c d H1 l wr r => p w1 c d σ H1 l wr (h.fr.mono l) r
  | bad => rw [e] at p; exact p
theorem pp_lc2 (k : Bool) {vs1 is is1 : List Nat} {fi fi1 : Fr → M Src} {g g1 : PV → Fr → M Fr} {ft ft1 : Fr → M Bool} {fe : Fr → M PV} (hc : X.calm = true) (hN : X.N.Nodup) (hi : PPI X T W tg iter fi) (ok : BlkOk X.N X.env.scope scope own) (hv : ∀ i ∈ vs1, i ∈ own.map (·.2)) (his : ∀ i ∈ is, i ∈ own.map (·.2)) (his1 : ∀ i ∈ is1, i ∈ vs1)
    (hg : ∀ (s : Shared) (H : Hp) (C : Addr) (cl : List (Str × Addr)) (fp : List Addr), PPG (X.blk s H scope (compEnvC scope cl C X.env) fp) T tg is g) (ht : ∀ (s : Shared) (H : Hp) (C : Addr) (cl : List (Str × Addr)) (fp : List Addr), PPTs (X.blk s H scope (compEnvC scope cl C X.env) fp) T W0 ifs ft)
    (hi1 : ∀ (s : Shared) (H : Hp) (C : Addr) (cl : List (Str × Addr)) (fp : List Addr), PPI (X.blk s H scope (compEnvC scope cl C X.env) fp) T W0 tg1 iter1 fi1)
    (hg1 : ∀ (s : Shared) (H : Hp) (C : Addr) (cl : List (Str × Addr)) (fp : List Addr), PPG (X.blk s H scope (compEnvC scope cl C X.env) fp) T tg1 is1 g1) (ht1 : ∀ (s : Shared) (H : Hp) (C : Addr) (cl : List (Str × Addr)) (fp : List Addr), PPTs (X.blk s H scope (compEnvC scope cl C X.env) fp) T W0 ifs1 ft1)
    (he : ∀ (s : Shared) (H : Hp) (C : Addr) (cl : List (Str × Addr)) (fp : List Addr), PP (X.blk s H scope (compEnvC scope cl C X.env) fp) T W0 elt fe) (hs : ∀ x, foldedSetIterable iter X.env x = pure x := by intro _; rfl) (hs1 : ∀ env x, foldedSetIterable iter1 env x = pure x := by intro _ _; rfl) :
    PP X T W (.ListComp elt [⟨tg, iter, ifs, 0⟩, ⟨tg1, iter1, ifs1, 0⟩] scope pos) (eLc2 k (own.map (·.2)) vs1 fi g ft fi1 g1 ft1 fe) :=
  ⟨fun pins s σ H Q I ⟨w, st, ρ, h⟩ => (pe_lc2 (g := tG X T is g) (g1 := tG X T is1 g1) hc hN hi ok hv hg (blkT ht) (blkI hi1) hg1 (blkT ht1) (blkE he) hs hs1).run pins s σ H Q I (tLc2_of k his his1 h)⟩
theorem pps_setLc (k : Bool) {is : List Nat} {fi : Fr → M Src} {g : PV → Fr → M Fr} {ft : Fr → M Bool} {fe : Fr → M PV} (hc : X.calm = true) (hN : X.N.Nodup) (hy : X.N[i]? = some y) (hyl : X.env.scope.names.lookup y = some .local) (hsw : swapsWith (.ListComp elt [⟨tg, iter, ifs, 0⟩] scope pos) (some (.Name y py)) spos.line X.env = pure true) (hi : PPI X T W tg iter fi) (ok : BlkOk X.N X.env.scope scope own) (his : ∀ i ∈ is, i ∈ own.map (·.2))
    (hg : ∀ (s : Shared) (H : Hp) (C : Addr) (cl : List (Str × Addr)) (fp : List Addr), PPG (X.blk s H scope (compEnvC scope cl C X.env) fp) T tg is g) (ht : ∀ (s : Shared) (H : Hp) (C : Addr) (cl : List (Str × Addr)) (fp : List Addr), PPTs (X.blk s H scope (compEnvC scope cl C X.env) fp) T W0 ifs ft)
    (he : ∀ (s : Shared) (H : Hp) (C : Addr) (cl : List (Str × Addr)) (fp : List Addr), PP (X.blk s H scope (compEnvC scope cl C X.env) fp) T W0 elt fe) (hs : ∀ x, foldedSetIterable iter X.env x = pure x := by intro _; rfl) :
    PPS X T W (.Assign [.Name y py] (.ListComp elt [⟨tg, iter, ifs, 0⟩] scope pos) spos) (sAsg (eLc k (own.map (·.2)) fi g ft fe) (gN i)) :=
  ⟨fun pins s σ H D I ⟨w, st, ρ, h⟩ => (ps_setLc (g := tG X T is g) hc hN hy hyl hsw hi ok hg (blkT ht) (blkE he) hs).run pins s σ H D I (tLc_of k his h.setE)⟩
theorem pps_setLc2 (k : Bool) {vs1 is is1 : List Nat} {fi fi1 : Fr → M Src} {g g1 : PV → Fr → M Fr} {ft ft1 : Fr → M Bool} {fe : Fr → M PV} (hc : X.calm = true) (hN : X.N.Nodup) (hy : X.N[i]? = some y) (hyl : X.env.scope.names.lookup y = some .local) (hsw : swapsWith (.ListComp elt [⟨tg, iter, ifs, 0⟩, ⟨tg1, iter1, ifs1, 0⟩] scope pos) (some (.Name y py)) spos.line X.env = pure true) (hi : PPI X T W tg iter fi) (ok : BlkOk X.N X.env.scope scope own) (hv : ∀ i ∈ vs1, i ∈ own.map (·.2)) (his : ∀ i ∈ is, i ∈ own.map (·.2)) (his1 : ∀ i ∈ is1, i ∈ vs1)
    (hg : ∀ (s : Shared) (H : Hp) (C : Addr) (cl : List (Str × Addr)) (fp : List Addr), PPG (X.blk s H scope (compEnvC scope cl C X.env) fp) T tg is g) (ht : ∀ (s : Shared) (H : Hp) (C : Addr) (cl : List (Str × Addr)) (fp : List Addr), PPTs (X.blk s H scope (compEnvC scope cl C X.env) fp) T W0 ifs ft)
    (hi1 : ∀ (s : Shared) (H : Hp) (C : Addr) (cl : List (Str × Addr)) (fp : List Addr), PPI (X.blk s H scope (compEnvC scope cl C X.env) fp) T W0 tg1 iter1 fi1)
    (hg1 : ∀ (s : Shared) (H : Hp) (C : Addr) (cl : List (Str × Addr)) (fp : List Addr), PPG (X.blk s H scope (compEnvC scope cl C X.env) fp) T tg1 is1 g1) (ht1 : ∀ (s : Shared) (H : Hp) (C : Addr) (cl : List (Str × Addr)) (fp : List Addr), PPTs (X.blk s H scope (compEnvC scope cl C X.env) fp) T W0 ifs1 ft1)
    (he : ∀ (s : Shared) (H : Hp) (C : Addr) (cl : List (Str × Addr)) (fp : List Addr), PP (X.blk s H scope (compEnvC scope cl C X.env) fp) T W0 elt fe) (hs : ∀ x, foldedSetIterable iter X.env x = pure x := by intro _; rfl) (hs1 : ∀ env x, foldedSetIterable iter1 env x = pure x := by intro _ _; rfl) :
    PPS X T W (.Assign [.Name y py] (.ListComp elt [⟨tg, iter, ifs, 0⟩, ⟨tg1, iter1, ifs1, 0⟩] scope pos) spos) (sAsg (eLc2 k (own.map (·.2)) vs1 fi g ft fi1 g1 ft1 fe) (gN i)) :=
  ⟨fun pins s σ H D I ⟨w, st, ρ, h⟩ => (ps_setLc2 (g := tG X T is g) (g1 := tG X T is1 g1) hc hN hy hyl hsw hi ok hv hg (blkT ht) (blkI hi1) hg1 (blkT ht1) (blkE he) hs hs1).run pins s σ H D I (tLc2_of k his his1 h.setE)⟩
end
end Eg

/-! E30: dict comprehensions (keys ints and texts). -/
namespace Eg
open PySem PySem.Spec PyProof.Rows L2
theorem putR_mem {κ : Type} [DecidableEq κ] (k : κ) (v : V) : ∀ (ks : List (κ × V)) (x : κ), x ∈ (putR k v ks).map (·.1) ↔ x = k ∨ x ∈ ks.map (·.1)
  | [], x => by simp [putR]
  | (a, u) :: r, x => by
    unfold putR
    split
    · rename_i e; subst e; simp
    · have ih := putR_mem k v r x
      simp only [List.map_cons, List.mem_cons, ih]
      constructor
      · rintro (h | h | h)
        · exact .inr (.inl h)
        · exact .inl h
        · exact .inr (.inr h)
      · rintro (h | h | h)
        · exact .inr (.inl h)
        · exact .inl h
        · exact .inr (.inr h)
theorem putR_nodup {κ : Type} [DecidableEq κ] (k : κ) (v : V) : ∀ (ks : List (κ × V)), (ks.map (·.1)).Nodup → ((putR k v ks).map (·.1)).Nodup
  | [], _ => by simp [putR]
  | (a, u) :: r, h => by
    unfold putR
    simp only [List.map_cons, List.nodup_cons] at h
    split
    · simpa using h
    · rename_i e
      simp only [List.map_cons, List.nodup_cons]
      refine ⟨fun z => ?_, putR_nodup k v r h.2⟩
      rcases (putR_mem k v r a).mp z with z | z
      · exact e z
      · exact h.1 z
theorem putR_len {κ : Type} [DecidableEq κ] (k : κ) (v : V) : ∀ (ks : List (κ × V)), (putR k v ks).length ≤ ks.length + 1
  | [] => by simp [putR]
  | (a, u) :: r => by
    unfold putR
    split
    · simp
    · have := putR_len k v r
      simp; omega
section
variable {X : Cx} {T : Tabs} {W : WX}
def dcGo (g : PV → Fr → M Fr) (ft : Fr → M Bool) (fk fv : Fr → M PV) (s : Src) (ρ : Fr) : Nat → Nat → List (PV × PV) → Store → R (List (PV × PV))
  | 0, _, acc, st => if s.fin st = true then .ok acc st else .bad
  | k + 1, i, acc, st => match s.get st i with
    | some x => match g x ρ st with
      | .ok ρ1 st1 => match ft ρ1 st1 with
        | .ok true st2 => match fk ρ1 st2 with
          | .ok y st3 => match fv ρ1 st3 with
            | .ok z st4 => if (asKey y).isSome then dcGo g ft fk fv s ρ k (i + 1) (dput y z acc) st4 else .bad
            | _ => .bad
          | _ => .bad
        | .ok false st2 => dcGo g ft fk fv s ρ k (i + 1) acc st2
        | _ => .bad
      | _ => .bad
    | none => .bad
theorem dcGo_noexc {g : PV → Fr → M Fr} {ft : Fr → M Bool} {fk fv : Fr → M PV} {s : Src} {ρ : Fr} {e : Exn} {st' : Store} : ∀ (k i : Nat) (acc : List (PV × PV)) {st : Store}, dcGo g ft fk fv s ρ k i acc st ≠ .exc e st'
  | 0, i, acc, st => by unfold dcGo; split <;> intro h <;> cases h
  | k + 1, i, acc, st => by
    unfold dcGo
    split
    · split
      · split
        · split
          · split
            · split
              · exact dcGo_noexc k (i + 1) _
              · intro h; cases h
            · intro h; cases h
          · intro h; cases h
        · exact dcGo_noexc k (i + 1) _
        · intro h; cases h
      · intro h; cases h
    · intro h; cases h
def eDc (k : Bool) (vs : List Nat) (fi : Fr → M Src) (g : PV → Fr → M Fr) (ft : Fr → M Bool) (fk fv : Fr → M PV) : Fr → M PV := fun ρ => fi ρ >>= fun s =>
  if s.len ≤ sizeLine then (fun st => dcGo g ft fk fv s (wipeF ρ vs) s.len 0 [] st) >>= fun ys => nw k (.dct ys) else M.bad
/-- the state within: the dict at P so far -/
structure InD (X : Cx) (T : Tabs) (w0 : Wo) (H0 : Hp) (P : Addr) (w : Wo) (st : Store) (H : Hp) (acc : List (PV × PV)) : Prop where
  hid : Hid X T w0 H0 P w st H
  at_ : ∃ ks, H P = some (.dK ks) ∧ RepK (Cx.g X T) w H ks acc ∧ (ks.map (·.1)).Nodup
theorem InD.step {w0 : Wo} {H0 : Hp} {P : Addr} {w w' : Wo} {st st' : Store} {H H' : Hp} {acc : List (PV × PV)} (h : InD X T w0 H0 P w st H acc) (l : Le w H w' H') (wr : Wr (Cx.g X T) w' st' H') : InD X T w0 H0 P w' st' H' acc := by
  obtain ⟨ks, h1, h2, h3⟩ := h.at_
  exact ⟨h.hid.step l wr, ks, l.ex P _ h.hid.hid h.hid.nl h1, h2.mono l, h3⟩
theorem InD.put {w0 : Wo} {H0 : Hp} {P : Addr} {w : Wo} {st : Store} {H : Hp} {acc : List (PV × PV)} {ks : List (Key × V)} {k : Key} {v : V} {y z : PV} (h : InD X T w0 H0 P w st H acc) (h0 : H0 P = none) (hv : H P = some (.dK ks)) (hk : asKey y = some k) (ok : kOk k = true) (r : Rep (Cx.g X T) w H v z) : InD X T w0 H0 P w st (upd H P (.dK (putK ks k v))) (dput y z acc) := by
  obtain ⟨ks', h1, h2, h3⟩ := h.at_
  rw [hv] at h1; cases h1
  rw [putK_eq h3]
  refine ⟨h.hid.put h0, _, upd_same, ?_, putR_nodup k v _ h3⟩
  rw [asKey_ok hk]
  exact (h2.mr (LeR.hidden h.hid.hid)).putR ok (r.mr (LeR.hidden h.hid.hid))
def FinD (X : Cx) (T : Tabs) (w0 : Wo) (H0 : Hp) (P : Addr) (Nx : Hp → Prop) : R (List (PV × PV)) → Prop
  | .ok ys st2 => ∀ w2 H2, InD X T w0 H0 P w2 st2 H2 ys → Nx H2
  | _ => False
theorem tDc_of (k : Bool) {vs is : List Nat} {fi : Fr → M Src} {g : PV → Fr → M Fr} {ft : Fr → M Bool} {fk fv : Fr → M PV} {w : Wo} {st : Store} {ρ : Fr} {σ : L2.St} {H : Hp} {Q : VK} (his : ∀ i ∈ is, i ∈ vs) (h : RunE X T W (eDc k vs fi g ft fk fv) w st ρ σ H Q) :
    tDc (tI X T W fi) (tG X T is g) (tT X T W0 ft) (tE X T W0 fk) (tE X T W0 fv) vs σ H Q := by
  refine ⟨w, st, ρ, h.wr, h.fr, ?_⟩
  have p := h.post
  unfold eDc at p
  cases e : fi ρ st with
  | exc x st1 => rw [M.bind_exc e] at p; exact p
  | bad => rw [M.bind_bad e] at p; exact p
  | ok s st1 =>
    rw [M.bind_ok e] at p
    intro w0 J H0 l0 wr0 wk P hP
    replace p := p.mono l0
    have fr0 := h.fr.mono l0
    by_cases hl : s.len ≤ sizeLine
    · rw [if_pos hl] at p
      have start : FinD X T w0 H0 P (Q (.ref P)) (dcGo g ft fk fv s (wipeF ρ vs) s.len 0 [] st1) := by
        cases q : dcGo g ft fk fv s (wipeF ρ vs) s.len 0 [] st1 with
        | ok ys st2 =>
          have q' : (fun st => dcGo g ft fk fv s (wipeF ρ vs) s.len 0 [] st) st1 = .ok ys st2 := q
          rw [M.bind_ok q'] at p
          intro w2 H2 b
          obtain ⟨ks, k1, k2, k3⟩ := b.at_
          cases k with
          | false =>
            obtain ⟨o1, o2⟩ := b.hid.out hP
            exact p _ _ _ o1 o2 (.dcK (fun z => z.2 rfl) (.inl k1) (k2.mr (LeR.show w2 _ P)))
          | true =>
            obtain ⟨o1, o2, o3⟩ := b.hid.outL (c := .dct ys) hP fun lr => ⟨b.hid.hid, .inl ⟨ks, k1, k2.mr lr⟩⟩
            exact p _ _ _ o1 o2 o3
        | exc _ _ => exact absurd q (dcGo_noexc _ _ _)
        | bad =>
          have q' : (fun st => dcGo g ft fk fv s (wipeF ρ vs) s.len 0 [] st) st1 = .bad := q
          rw [M.bind_bad q'] at p
          exact p
      have wkS : Wk X T (w0.hide P) (upd H0 P (.dK [])) J s := wk.mono (LeR.start hP)
      have frS := fr0.mr (LeR.start (o := .dK []) hP)
      have hs : Hid X T w0 H0 P (w0.hide P) st1 (upd H0 P (.dK [])) := Hid.start wr0 hP
      have bS : InD X T w0 H0 P (w0.hide P) st1 (upd H0 P (.dK [])) [] := ⟨hs, [], upd_same, .nil, by simp⟩
      refine ⟨fun i m H => i + m = s.len ∧ ∃ w st acc, acc.length ≤ i ∧ LeR (w0.hide P) (upd H0 P (.dK [])) w H ∧ InD X T w0 H0 P w st H acc ∧ FinD X T w0 H0 P (Q (.ref P)) (dcGo g ft fk fv s (wipeF ρ vs) m i acc st), ⟨s.len, by omega, _, st1, [], Nat.le_refl _, LeR.refl _ _, bS, start⟩, ?_⟩
      generalize w0.hide P = wS at wkS frS ⊢
      generalize upd H0 P (.dK []) = HS at wkS frS ⊢
      rintro i m H ⟨him, w, st, acc, hac, lr, b, f⟩
      obtain ⟨k1, k2⟩ := wkS w H st lr b.hid.wr
      cases m with
      | zero =>
        have ei : i = s.len := by omega
        subst ei
        unfold dcGo at f
        by_cases hf : s.fin st = true
        · rw [if_pos hf] at f
          exact .inl ⟨k2 hf, f w H b⟩
        · rw [if_neg hf] at f; exact f.elim
      | succ m =>
        unfold dcGo at f
        cases q : s.get st i with
        | none => rw [q] at f; exact f.elim
        | some x =>
          rw [q] at f
          dsimp only at f
          obtain ⟨go, yl⟩ := k1 i x (by omega) q
          refine .inr ⟨go, fun H' => (i + 1) + m = s.len ∧ ∃ w st acc, acc.length ≤ i + 1 ∧ LeR wS HS w H' ∧ InD X T w0 H0 P w st H' acc ∧ FinD X T w0 H0 P (Q (.ref P)) (dcGo g ft fk fv s (wipeF ρ vs) m (i + 1) acc st), fun H' z => ⟨m, by omega, z⟩, fun v H2 y => ?_⟩
          obtain ⟨sm, rv⟩ := yl v H2 y
          cases q2 : g x (wipeF ρ vs) st with
          | exc _ _ => rw [q2] at f; exact f.elim
          | bad => rw [q2] at f; exact f.elim
          | ok ρ1 st1 =>
            rw [q2] at f
            dsimp only at f
            have l2 : Le w H w H2 := Le.same sm
            have b2 : InD X T w0 H0 P w st H2 acc := b.step l2 (b.hid.wr.same sm)
            have lr2 := lr.trans l2.r
            refine ⟨w, st, _, x, b2.hid.wr, (frS.wipe _).mr lr2, rv, ρ1, st1, q2, fun w3 σ3 H3 l3 wr3 fr3 ag => ⟨ag.wipe his |>.trans (wipe_twice σ vs), ?_⟩⟩
            have b3 := b2.step l3 wr3
            have lr3 := lr2.trans l3.r
            cases q3 : ft ρ1 st1 with
            | exc _ _ => rw [q3] at f; exact f.elim
            | bad => rw [q3] at f; exact f.elim
            | ok c st2 =>
              rw [q3] at f
              refine ⟨w3, st1, ρ1, wr3, fr3, ?_⟩
              show PostB _ _ _ _ _ _ _ (ft ρ1 st1)
              rw [q3]
              intro w4 H4 l4 wr4
              have b4 := b3.step l4 wr4
              have lr4 := lr3.trans l4.r
              cases c with
              | false => exact iteF ⟨by omega, w4, st2, acc, by omega, lr4, b4, f⟩
              | true =>
                dsimp only at f
                refine iteT ?_
                cases q5 : fk ρ1 st2 with
                | exc _ _ => rw [q5] at f; exact f.elim
                | bad => rw [q5] at f; exact f.elim
                | ok y st3 =>
                  rw [q5] at f
                  dsimp only at f
                  refine ⟨w4, st2, ρ1, wr4, fr3.mono l4, ?_⟩
                  show PostE _ _ _ _ _ _ _ (fk ρ1 st2)
                  rw [q5]
                  intro w5 u H5 l5 wr5 ru
                  have b5 := b4.step l5 wr5
                  have lr5 := lr4.trans l5.r
                  cases q6 : fv ρ1 st3 with
                  | exc _ _ => rw [q6] at f; exact f.elim
                  | bad => rw [q6] at f; exact f.elim
                  | ok z st4 =>
                    rw [q6] at f
                    dsimp only at f
                    refine ⟨w5, st3, ρ1, wr5, (fr3.mono l4).mono l5, ?_⟩
                    show PostE _ _ _ _ _ _ _ (fv ρ1 st3)
                    rw [q6]
                    intro w6 u2 H6 l6 wr6 ru2
                    have b6 := b5.step l6 wr6
                    have lr6 := lr5.trans l6.r
                    split at f
                    · rename_i hk
                      obtain ⟨kk, hk⟩ := Option.isSome_iff_exists.mp hk
                      have ru' := ru.mono l6
                      obtain ⟨ks, e1, e2, e3⟩ := b6.at_
                      have hlen : ks.length ≤ i := by rw [e2.length]; exact hac
                      refine ⟨ks, kk, ru'.key hk, e1, by omega, by omega, w6, st4, dput y z acc, ?_, lr6.trans (LeR.hidden b6.hid.hid), b6.put hP e1 hk (ru'.kOk hk) ru2, f⟩
                      have b7 := b6.put hP e1 hk (ru'.kOk hk) ru2
                      obtain ⟨ks7, g1, g2, g3⟩ := b7.at_
                      rw [upd_same] at g1
                      cases g1
                      rw [← g2.length, putK_eq e3]
                      have := putR_len kk u2 ks
                      omega
                    · exact f.elim
    · rw [if_neg hl] at p
      exact p.elim
end
section
variable {X : Cx} {T : Tabs} {W : WX} {elt tg iter kx vx : Expr} {ifs : List Expr} {scope : Scope} {own : List (Str × Nat)} {pos spos py : Pos} {y : Str} {i : Nat}
theorem pp_dc (k : Bool) {is : List Nat} {fi : Fr → M Src} {g : PV → Fr → M Fr} {ft : Fr → M Bool} {fk fv : Fr → M PV} (hc : X.calm = true) (hN : X.N.Nodup) (hi : PPI X T W tg iter fi) (ok : BlkOk X.N X.env.scope scope own) (his : ∀ i ∈ is, i ∈ own.map (·.2))
    (hg : ∀ (s : Shared) (H : Hp) (C : Addr) (cl : List (Str × Addr)) (fp : List Addr), PPG (X.blk s H scope (compEnvC scope cl C X.env) fp) T tg is g) (ht : ∀ (s : Shared) (H : Hp) (C : Addr) (cl : List (Str × Addr)) (fp : List Addr), PPTs (X.blk s H scope (compEnvC scope cl C X.env) fp) T W0 ifs ft)
    (hk : ∀ (s : Shared) (H : Hp) (C : Addr) (cl : List (Str × Addr)) (fp : List Addr), PP (X.blk s H scope (compEnvC scope cl C X.env) fp) T W0 kx fk)
    (he : ∀ (s : Shared) (H : Hp) (C : Addr) (cl : List (Str × Addr)) (fp : List Addr), PP (X.blk s H scope (compEnvC scope cl C X.env) fp) T W0 vx fv) (hs : ∀ x, foldedSetIterable iter X.env x = pure x := by intro _; rfl) :
    PP X T W (.DictComp kx vx [⟨tg, iter, ifs, 0⟩] scope pos) (eDc k (own.map (·.2)) fi g ft fk fv) :=
  ⟨fun pins s σ H Q I ⟨w, st, ρ, h⟩ => (pe_dc (g := tG X T is g) hc hN hi ok hg (blkT ht) (blkE hk) (blkE he) hs).run pins s σ H Q I (tDc_of k his h)⟩
theorem ps_setDc {wi : TI} {g : TG} {tt : TT} {tk tv : TE} (hc : X.calm = true) (hN : X.N.Nodup) (hy : X.N[i]? = some y) (hyl : X.env.scope.names.lookup y = some .local)
    (hsw : swapsWith (.DictComp kx vx [⟨tg, iter, ifs, 0⟩] scope pos) (some (.Name y py)) spos.line X.env = pure true) (hi : PI X tg iter wi) (ok : BlkOk X.N X.env.scope scope own)
    (hg : ∀ (s : Shared) (H : Hp) (C : Addr) (cl : List (Str × Addr)) (fp : List Addr), PG (X.blk s H scope (compEnvC scope cl C X.env) fp) tg g) (ht : ∀ (s : Shared) (H : Hp) (C : Addr) (cl : List (Str × Addr)) (fp : List Addr), PTs (X.blk s H scope (compEnvC scope cl C X.env) fp) ifs tt)
    (hk : ∀ (s : Shared) (H : Hp) (C : Addr) (cl : List (Str × Addr)) (fp : List Addr), PE (X.blk s H scope (compEnvC scope cl C X.env) fp) kx tk)
    (he : ∀ (s : Shared) (H : Hp) (C : Addr) (cl : List (Str × Addr)) (fp : List Addr), PE (X.blk s H scope (compEnvC scope cl C X.env) fp) vx tv) (hs : ∀ x, foldedSetIterable iter X.env x = pure x) :
    PS X (.Assign [.Name y py] (.DictComp kx vx [⟨tg, iter, ifs, 0⟩] scope pos) spos) (tAsg (tDc wi g tt tk tv (own.map (·.2))) (gName i)) := by
  refine ⟨fun pins s σ H D I h => ?_⟩
  rw [exec_Assign_Name_used _ _ _ _ hsw]
  refine wpAny_bind (wpAny_standAt (wpAny_bind ?_))
  show wpAny _ X.A (do let _ ← comprehension (.DictComp kx vx [⟨tg, iter, ifs, 0⟩] scope pos) scope X.env (firstIterPos [⟨tg, iter, ifs, 0⟩] pos) newDict false (eval iter X.env) (some (assign (.Name y py) X.env))) _ _ s
  have h : tDc wi g tt tk tv (own.map (·.2)) σ H (fun x H1 => gName i x σ H1 D.nx) := h
  refine wpAny_bind (thn (dc_core (Qf := fun _ s' => SP X pins D .next s') hc hN I hi ok hg ht hk he hs h fun L C s' m H' I' q hn f => ?_) fun _ s' hq => wpAny_pure (wpAny_pure hq))
  show wpAny _ _ (assign (.Name y py) X.env (.ref L)) _ _ _
  refine wpAny_assign_Name (store_ok2 (v := V.ref L) I' hN hy (.inl hyl) rfl (fun s2 I2 ⟨a, sb, ha⟩ => ?_) (.inr hyl))
  obtain ⟨f0, f1, f2, f3, f4, f5⟩ := f
  have haC : C ≠ a := by
    rcases ha with z | z
    · rw [z]; exact f1
    · exact fun e => f4 y a z e.symm
  refine ⟨m, hn.sameBut sb haC, fun h3 sb3 => ?_⟩
  exact ⟨_, H', I2.turned (t' := s2.toks) (fun b o hb e => (sb3.2 b hb).trans e) f0 f1 f3 f4 f5, q⟩
theorem pps_setDc (k : Bool) {is : List Nat} {fi : Fr → M Src} {g : PV → Fr → M Fr} {ft : Fr → M Bool} {fk fv : Fr → M PV} (hc : X.calm = true) (hN : X.N.Nodup) (hy : X.N[i]? = some y) (hyl : X.env.scope.names.lookup y = some .local) (hsw : swapsWith (.DictComp kx vx [⟨tg, iter, ifs, 0⟩] scope pos) (some (.Name y py)) spos.line X.env = pure true) (hi : PPI X T W tg iter fi) (ok : BlkOk X.N X.env.scope scope own) (his : ∀ i ∈ is, i ∈ own.map (·.2))
    (hg : ∀ (s : Shared) (H : Hp) (C : Addr) (cl : List (Str × Addr)) (fp : List Addr), PPG (X.blk s H scope (compEnvC scope cl C X.env) fp) T tg is g) (ht : ∀ (s : Shared) (H : Hp) (C : Addr) (cl : List (Str × Addr)) (fp : List Addr), PPTs (X.blk s H scope (compEnvC scope cl C X.env) fp) T W0 ifs ft)
    (hk : ∀ (s : Shared) (H : Hp) (C : Addr) (cl : List (Str × Addr)) (fp : List Addr), PP (X.blk s H scope (compEnvC scope cl C X.env) fp) T W0 kx fk)
    (he : ∀ (s : Shared) (H : Hp) (C : Addr) (cl : List (Str × Addr)) (fp : List Addr), PP (X.blk s H scope (compEnvC scope cl C X.env) fp) T W0 vx fv) (hs : ∀ x, foldedSetIterable iter X.env x = pure x := by intro _; rfl) :
    PPS X T W (.Assign [.Name y py] (.DictComp kx vx [⟨tg, iter, ifs, 0⟩] scope pos) spos) (sAsg (eDc k (own.map (·.2)) fi g ft fk fv) (gN i)) :=
  ⟨fun pins s σ H D I ⟨w, st, ρ, h⟩ => (ps_setDc (g := tG X T is g) hc hN hy hyl hsw hi ok hg (blkT ht) (blkE hk) (blkE he) hs).run pins s σ H D I (tDc_of k his h.setE)⟩
theorem sw_trueD {gs : List Comprehension} {scope : Scope} {pos py : Pos} {y : Str} {l : Nat} {env : Env} (hk : env.scope.kind = .function) (hy : env.scope.names.lookup y = some .local) (hl : (py.line == pos.line) = true)
    (ha : (scope.names.any fun (n, k) => n == y && (k == .local || k == .cell)) = false) : swapsWith (.DictComp kx vx gs scope pos) (some (.Name y py)) l env = pure true := by
  have ky : env.kindOf y = some .local := hy
  have hb : env.blockKind = .function := by unfold Env.blockKind; rw [hk]; rfl
  unfold swapsWith
  simp only [hb, ky, ha, Expr.pos, hl]
  rfl
end
end Eg

/-! E31: raise of an own class without __init__; try with clauses without names; f(lambda: e). -/
namespace Eg
open PySem PySem.Spec PyProof.Rows L2
structure XcW (K : PySem.W.Frag) (mg : Str → Option Value) (T : Tabs) (i : Nat) (x : Str) : Prop where
  ex : ∃ (C : Addr) (bmB : List Value) (B newId initId : String), ExcBaseFacts B newId initId bmB ∧ PySem.W.excIn K C bmB newId = true ∧ mg x = some (.ref C) ∧ PySem.W.keepIn K (.ref C) = true ∧
    PySem.W.subIn K (.ref C) (.type "BaseException") = some true ∧ PySem.W.typeIn K (.ref C) = some (.type "type") ∧ T.xcl i = .ref C
section
variable {X : Cx} {T : Tabs} {W : WX} {a b c e : Expr} {es : List Expr} {fa fb fc fe : Fr → M PV} {fr : Fr → M (List PV)} {pos p : Pos}
/-! ### raise -/
def sRaise (i : Nat) : S := fun ρ st => .exc ⟨i, []⟩ ρ st
theorem pps_raise {i j : Nat} {x m : Str} {p2 pos2 : Pos} (h : XcW X.K X.mg T i x) (hc : X.calm = true) (tk : Takes X W) (hg : okG X.env.scope x = true := by kernel_rfl) : PPS X T W (.Raise (some (.Call (.Name x p) [.Constant (.str m) j p2] [] pos)) none pos2) (sRaise i) := by
  obtain ⟨C, bmB, B, newId, initId, F, q, gC, kC, sb, ty, ex⟩ := h.ex
  unfold okG at hg
  simp only [Bool.and_eq_true, Bool.not_eq_true'] at hg
  refine ⟨fun pins s σ H D I ⟨w, st, ρ, h⟩ => (ps_raise hc tk (pmk_own F q gC kC (raises_own sb ty) (gl_of hg.1) hg.2)).run pins s σ H D I ?_⟩
  exact h.post w (.ref C) none σ H (Le.refl _ _) h.wr h.fr ⟨ex.symm, .inl rfl⟩
/-! ### try -/
def tryH (xm : Nat → Nat → Option Bool) (e : Exn) : List (Nat × S) → S
  | [], ρ, st => .exc e ρ st
  | (j, h) :: r, ρ, st => match xm e.cls j with
    | some true => match h ρ st with
      | .exc _ _ _ => .bad
      | z => z
    | some false => tryH xm e r ρ st
    | none => .bad
def sTry (xm : Nat → Nat → Option Bool) (f : S) (hs : List (Nat × S)) : S := fun ρ st => match f ρ st with
  | .exc e ρ' st' => tryH xm e hs ρ' st'
  | z => z
inductive HdW (X : Cx) (T : Tabs) : List ExceptHandler → List (Nat × S) → Prop
  | nil : HdW X T [] []
  | cons {x : Str} {j : Nat} {b₀ : Stmt} {suite : List Stmt} {np pos' : Pos} {f : S} {hds : List ExceptHandler} {l : List (Nat × S)} (hc : Names X x (T.xcl j))
      (hsu : ∀ (a : Addr) (oe : Obj) (pn : List (Addr × Obj)), PPSs (X.suite a ((a, oe) :: pn)) T W0 (b₀ :: suite) f) (r : HdW X T hds l) : HdW X T (.ExceptHandler (some (.Name x np)) none (b₀ :: suite) pos' :: hds) ((j, f) :: l)
def hdL (X : Cx) (T : Tabs) (l : List (Nat × S)) : List (Value × (Addr → Value → Option Addr → TS)) := l.map fun q => (T.xcl q.1, fun _ _ _ => tS X T W0 q.2)
theorem HdW.ok {hds : List ExceptHandler} {l : List (Nat × S)} (h : HdW X T hds l) : HdsOk X hds (hdL X T l) := by
  induction h with
  | nil => exact .nil
  | cons hc hsu r ih =>
    refine .cons hc (fun a oe cls d pn _ _ => ⟨fun pins s σ H D I ⟨w, st, ρ, h⟩ => (hsu a oe pn).run pins s σ H D I ⟨w, st, ρ, h.wr, h.fr, ?_⟩⟩) ih
    exact h.post
def XmW (K : PySem.W.Frag) (T : Tabs) (xm : Nat → Nat → Option Bool) : Prop := ∀ i j b, xm i j = some b → PySem.W.exmOne K (T.xcl i) (T.xcl j) = some b
theorem tryH_many {xm : Nat → Nat → Option Bool} (hx : XmW X.K T xm) {e : Exn} {ρ : Fr} {st : Store} {D : Ends} {w : Wo} {H : Hp} {cls : Value} {d : Option Addr} {σ : L2.St} (wr : Wr (Cx.g X T) w st H) (fr : FrR (Cx.g X T) w H σ ρ) (ex : ExR (Cx.g X T) w H cls d e) :
    ∀ (l : List (Nat × S)), PostS X T W w H D (tryH xm e l ρ st) → wMany X.K W D (hdL X T l) cls d σ H
  | [], h => h w cls d σ H (Le.refl _ _) wr fr ex
  | (j, f) :: r, h => by
    unfold tryH at h
    have ec : cls = T.xcl e.cls := ex.1
    cases q : xm e.cls j with
    | none => rw [q] at h; exact h.elim
    | some b =>
      rw [q] at h
      refine ⟨b, by rw [ec]; exact hx _ _ _ q, fun hb a ha => ?_, fun hb => ?_⟩
      · subst hb
        refine ⟨w, st, ρ, wr, fr, ?_⟩
        dsimp only at h ⊢
        cases q2 : f ρ st with
        | exc _ _ _ => rw [q2] at h; exact h.elim
        | nx _ _ => rw [q2] at h; exact h
        | rt _ _ => rw [q2] at h; exact h
        | bk _ _ => rw [q2] at h; exact h
        | ct _ _ => rw [q2] at h; exact h
        | bad => rw [q2] at h; exact h
      · subst hb
        exact tryH_many hx wr fr ex r h
theorem pps_try {k : Nat} {xm : Nat → Nat → Option Bool} {body : List Stmt} {h₀ : ExceptHandler} {hds : List ExceptHandler} {l : List (Nat × S)} {f : S} (B : Bd X W k) (hx : XmW X.K T xm)
    (hb : ∀ (W' : WX) (pn : List (Addr × Obj)) (xe : Value → Shared → Prop), Bd (X.tr pn xe) W' k → PPSs (X.tr pn xe) T W' body f) (hh : HdW X T (h₀ :: hds) l)
    (hs : X.stack = X.env :: X.outer := by rfl) (hf : X.env.frame = some X.env.locals := by rfl) : PPS X T W (.Try body (h₀ :: hds) [] [] pos) (sTry xm f l) := by
  have hb' : ∀ (W' : WX) (pn : List (Addr × Obj)) (xe : Value → Shared → Prop), Takes (X.tr pn xe) W' → PassesOwn (model X.prog X.w) X.A X.env xe → PSs (X.tr pn xe) body (tS X T W' f) := fun W' pn xe tk ow =>
    ⟨fun pins s σ H D I ⟨w, st, ρ, h⟩ => (hb W' pn xe ⟨B.calm, B.nd, B.room, ow, tk, B.gd⟩).run pins s σ H D I ⟨w, st, ρ, h.wr, h.fr, h.post⟩⟩
  refine ⟨fun pins s σ H D I ⟨w, st, ρ, h⟩ => (ps_try_many (tb := fun W' => tS X T W' f) hs hf B.tk hb' hh.ok).run pins s σ H D I ⟨w, st, ρ, h.wr, h.fr, ?_⟩⟩
  have pq := h.post
  unfold sTry at pq
  cases q : f ρ st with
  | exc e ρ' st' =>
    rw [q] at pq
    exact fun w1 cls d σ1 H1 l1 wr1 fr1 ex1 => tryH_many hx wr1 fr1 ex1 l (pq.mono l1)
  | nx _ _ => rw [q] at pq; exact pq
  | rt _ _ => rw [q] at pq; exact pq
  | bk _ _ => rw [q] at pq; exact pq
  | ct _ _ => rw [q] at pq; exact pq
  | bad => rw [q] at pq; exact pq
end
/-! ### f(lambda: e): f says what e raises -/
/-- the clauses of such an f: the class, the word -/
inductive MtH (X : Cx) (T : Tabs) : List ExceptHandler → List (Nat × List Nat) → Prop
  | nil : MtH X T [] []
  | cons {x : Str} {j n : Nat} {r : Str} {y : List Nat} {np pos' p5 p6 : Pos} {hds : List ExceptHandler} {l : List (Nat × List Nat)} (hc : Names X x (T.xcl j)) (hy : r = s2 y) (rest : MtH X T hds l) :
      MtH X T (.ExceptHandler (some (.Name x np)) none [.Return (some (.Constant (.str r) n p5)) p6] pos' :: hds) ((j, y) :: l)
def metL (T : Tabs) (l : List (Nat × List Nat)) : List (Value × (Addr → Value → Option Addr → TS)) := l.map fun q => (T.xcl q.1, fun _ _ _ D _ H => D.rt (.str (s2 q.2)) H)
theorem MtH.ok {X : Cx} {T : Tabs} {hds : List ExceptHandler} {l : List (Nat × List Nat)} (h : MtH X T hds l) : HdsOk X hds (metL T l) := by
  induction h with
  | nil => exact .nil
  | cons hc hy r ih =>
    subst hy
    exact .cons hc (fun a oe cls d pn _ _ => pss_one (ps_ret pe_str)) ih
/-- what is wanted of an exception of the lambda -/
def metE (K : PySem.W.Frag) (T : Tabs) (Q : VK) : List (Nat × List Nat) → XK
  | [] => fun _ _ _ => False
  | (j, y) :: r => fun cls d H => ∃ b, PySem.W.exmOne K cls (T.xcl j) = some b ∧ (b = true → Q (.str (s2 y)) H) ∧ (b = false → metE K T Q r cls d H)
def TMet (K : PySem.W.Frag) (T : Tabs) (l : List (Nat × List Nat)) (fine : List Nat) : (XK → Hp → VK → Prop) → Hp → VK → Prop := fun tl H Q => tl (metE K T Q l) H fun _ H' => Q (.str (s2 fine)) H'
theorem metE_many {K : PySem.W.Frag} {T : Tabs} {Q : VK} {D : Ends} (hD : D.rt = Q) : ∀ (l : List (Nat × List Nat)) {cls : Value} {d : Option Addr} {σ : L2.St} {H : Hp}, metE K T Q l cls d H → wMany K (fun _ _ _ _ => False) D (metL T l) cls d σ H
  | [], _, _, _, _, h => h
  | (j, y) :: r, cls, d, σ, H, ⟨b, h1, h2, h3⟩ => ⟨b, h1, fun hb a ha => by show D.rt _ _; rw [hD]; exact h2 hb, fun hb => metE_many hD r (h3 hb)⟩
section
variable {X : Cx} {T : Tabs}
theorem met_gives {Ng : List Str} {x a q : Str} {sg : Scope} {g : Addr} {cdg : Value} {h₀ : ExceptHandler} {hds : List ExceptHandler} {l : List (Nat × List Nat)} {fine : Str} {y : List Nat} {n : Nat} {p1 p2 p3 p4 p5 p8 : Pos}
    (hh : ∀ (s : Shared) (H : Hp), MtH (cxOf C8.CX0 X.prog X.w X.K X.mg X.base Ng x sg g cdg X.A X.stack s H C8.E0).nox T (h₀ :: hds) l) (hy : fine = s2 y) (h0 : ∀ f : Addr, (L2.start Ng [V.ref f])[0]? = some (some (V.ref f))) :
    LamX.GivesTo X Ng x sg g cdg [.Try [.Expr (.Call (.Name a p1) [] [] p2) p3] (h₀ :: hds) [] [] p8, .Return (some (.Constant (.str fine) n p4)) p5] a q (TMet X.K T l y) := by
  intro f c' s H Q tl act hc h
  subst hy
  refine ⟨_, pss_cons (ps_try_many (X := (cxOf C8.CX0 X.prog X.w X.K X.mg X.base Ng x sg g cdg X.A X.stack s H C8.E0).nox) (Wout := fun _ _ _ _ => False)
      (tb := fun W D σ H => ∃ Ech : XK, (∀ cls d σ' H', Ech cls d H' → W cls d σ' H') ∧ σ[0]? = some (some (.ref f)) ∧ H c' = some (LamX.CodeO c' q) ∧ tl Ech H fun _ H' => D.nx σ H')
      rfl rfl takes_none5 (fun W pn xe tk _ => ?_) (hh s H).ok) (pss_one (ps_ret pe_str)), ?_⟩
  · refine ⟨fun pins s' σ H' D I h' => ?_⟩
    obtain ⟨Ech, hW, h1, h2, h3⟩ := h'
    exact (pss_one (ps_expr (pos := p3) (act W pn xe Ech p1 p2 tk hW))).run pins s' σ H' D I ⟨h1, h2, h3⟩
  · exact ⟨metE X.K T Q l, fun cls d σ' H' z => metE_many rfl l z, h0 f, hc, h⟩
end
end Eg

/-! E32: f(lambda: e), where no repr is under way. -/
namespace Eg
open PySem PySem.Spec PyProof.Rows L2
section
variable {X : Cx} {T : Tabs} {W : WX} {pins : List (Addr × Obj)} {σ : L2.St} {H : Hp} {s : Shared}
/-- the object of a lambda -/
abbrev lamO (X : Cx) (params : Arguments) (body : Expr) (scope : Scope) (pm : Value) (c : Addr) (ct : Value) : Obj :=
  PySem.W.kla_obj "<lambda>" (X.env.qual ++ "<lambda>") params body scope (cloFrom X.env.cells scope.names []) pm c ct
/-- what is called by the name v of the def that got the lambda -/
theorem act_g {CXg : CXT} {Ey : XK} {Ng : List Str} {qg : Str} {sg : Scope} {g f c : Addr} {cdg pm ct : Value} {params : Arguments} {body : Expr} {scope : Scope} {k i : Nat} {v : Str} {pn : List (Addr × Obj)} {xe : Value → Shared → Prop} {Wz : WX} {E : XK} {tb : TE} {p1 p2 : Pos}
    (J : L2.Inv X pins σ H s) (L : LamX.LamS X.env.scope scope) (atf : s.heap.get? f = some (lamO X params body scope pm c ct)) (nof : H f = none) (nfr : f ∉ frs X.stack)
    (bd : bindArgs (PySem.W.kla_fn "<lambda>" (X.env.qual ++ "<lambda>") params body scope (cloFrom X.env.cells scope.names []) pm (.ref c) ct) ⟨[], []⟩ = pure [])
    (tk : Takes ((cxOf CXg X.prog X.w X.K X.mg X.base Ng qg sg g cdg X.A X.stack s H Ey).tr pn xe) Wz) (up : ∀ cls d σ' H', E cls d H' → Wz cls d σ' H')
    (rm : Room (k + 1) (X.A.deeper (envOfC qg sg s.heap.objs.size g cdg))) (gd : X.A.guards = some [])
    (bodyP : ∀ (A : Around) (outer : List Env) (s : Shared) (H : Hp), A.guards = some [] → Room k (A.deeper (LamX.lamEnv X scope s.heap.objs.size f c)) → PE (LamX.lamCx X A outer s H E scope f c) body tb)
    (iv : Ng[i]? = some v) (vv : Vis sg v) (db : (v == ("__debug__" : Str)) = false) (cd : (v == ("__classdict__" : Str)) = false) :
    PE ((cxOf CXg X.prog X.w X.K X.mg X.base Ng qg sg g cdg X.A X.stack s H Ey).tr pn xe) (.Call (.Name v p1) [] [] p2)
      (fun σZ HZ Q => σZ[i]? = some (some (.ref f)) ∧ HZ c = some (LamX.CodeO c (X.env.qual ++ "<lambda>")) ∧ tb σ HZ Q) := by
  refine ⟨fun pz sz σz Hz Q Iz ⟨e1, e2, e3⟩ => ?_⟩
  have nm := (pe_var (pos := p1) (i := i) iv vv db cd).run pz sz σz Hz (fun x H1 => x = .ref f ∧ H1 = Hz) Iz ⟨.ref f, e1, rfl, rfl⟩
  refine wpAny_Call_Name_kw (thn nm fun u s1 ⟨x, H1, I1, r1, ex, eH⟩ => ?_)
  subst ex eH
  cases (show u = Value.ref f from r1)
  have at1 : s1.heap.get? f = some (lamO X params body scope pm c ct) := I1.base.keep f _ atf nof nfr fun z => absurd (show f ∈ ([] : List Addr) from z) (by simp)
  refine PySem.W.callWith_F0 ⟨_, _, _, _, at1⟩ ?_
  have grow : Un (frs X.stack) [] H H1 s.heap s1.heap := I1.base
  obtain ⟨⟨oc, vs, tt, g1, g2, g3⟩, _, _⟩ := I1.hok c _ e2
  have pass : Passes (L2.CX X.prog X.w) ((cxOf CXg X.prog X.w X.K X.mg X.base Ng qg sg g cdg X.A X.stack s H Ey).tr pn xe) E := passes_call tk up
  have inner : codeAny (model X.prog X.w) (X.A.deeper (envOfC qg sg s.heap.objs.size g cdg)) (.call (.ref f) ⟨[], []⟩)
      (CR (L2.CX X.prog X.w) (envOfC qg sg s.heap.objs.size g cdg :: X.stack) X.prog X.w H1 s1 Q E) s1 := by
    refine PySem.W.kla_callFunE rm.depth at1 rfl L.co L.gen rfl ⟨c, oc, vs, tt, rfl, g1, g2, g3⟩ ?_
    rw [bd]
    refine wpAny_pure (wpAny_newFunctionEnv (fun y hy => (L.own y hy).2) (fun y hy => absurd hy (by simp)) (fun h1 n1 b1 => ⟨I1.nolimit.fresh _ b1, ?_⟩) L.kind)
    show codeAny _ _ (.expr body (LamX.lamEnv X scope s1.heap.objs.size f c)) _ _
    have more : ∀ b o, s1.heap.get? b = some o → h1.get? b = some o := fun b o z => b1.extBut b o (Nat.ne_of_lt (Heap.lt_size z)) (Heap.get?_push_of_some _ z)
    have Jl := LamX.lam_start2 (E := E) (f := f) (c' := c) (tk := s1.toks + ([] : List (Str × Value)).length) J L I1.env0 rm.hd grow n1 more
    have gd1 : (X.A.deeper (envOfC qg sg s.heap.objs.size g cdg)).guards = some [] := gd
    refine PySem.W.kla_codeExpr (wpAny_mono ((bodyP _ _ s1 H1 gd1 (rm.deeper _)).run [] _ _ H1 Q Jl e3) (fun x s2 hx => ?_) fun _ _ z => z)
    obtain ⟨x', H2, J2, rx, qx⟩ := hx
    exact ⟨x', H2, J2.os, J2.bare, J2.base, J2.hok, rx, qx⟩
  refine wpAny_call (codeAny_mono inner fun r s2 hq => ?_)
  rcases r with er | fl
  · exact pass pz σz H1 s1 er s2 I1 hq
  · cases fl with
    | ret x => exact I1.after hq
    | next => exact hq.elim
    | brk => exact hq.elim
    | cont => exact hq.elim
/-- the def that gets it: at g, of one parameter v, told by TMet -/
structure LmW (K : PySem.W.Frag) (mg : Str → Option Value) (T : Tabs) (x : Str) (l : List (Nat × List Nat)) (y : List Nat) : Prop where
  ex : ∃ (g : Addr) (v : Str) (Ng : List Str) (pg : Arguments) (sg : Scope) (dV kV doc pm cdv ct oc : Value) (an od : Option Addr) (osl : Array (Option Value)) (fine : Str) (n : Nat) (h₀ : ExceptHandler) (hds : List ExceptHandler) (p1 p2 p3 p4 p5 p8 : Pos),
    mg x = some (.ref g) ∧ PySem.W.keepIn K (.ref g) = true ∧
    K.lookup g = some ⟨oc, od, .func (PySem.W.fnOf x x pg [.Try [.Expr (.Call (.Name v p1) [] [] p2) p3] (h₀ :: hds) [] [] p8, .Return (some (.Constant (.str fine) n p4)) p5] sg dV kV doc pm an cdv ct), osl⟩ ∧
    PySem.W.codeIn K cdv x = true ∧ L2.Binds K (PySem.W.fnOf x x pg [.Try [.Expr (.Call (.Name v p1) [] [] p2) p3] (h₀ :: hds) [] [] p8, .Return (some (.Constant (.str fine) n p4)) p5] sg dV kV doc pm an cdv ct) [v] [] ∧
    FnScope Ng [v] sg ∧ Ng[0]? = some v ∧ Vis sg v ∧ (v == ("__debug__" : Str)) = false ∧ (v == ("__classdict__" : Str)) = false ∧ fine = s2 y ∧
    (∀ f : Addr, (L2.start Ng [V.ref f])[0]? = some (some (V.ref f))) ∧
    ∀ (X : Cx) (s : Shared) (H : Hp), X.K = K → X.mg = mg → MtH (cxOf C8.CX0 X.prog X.w X.K X.mg X.base Ng x sg g cdv X.A X.stack s H C8.E0).nox T (h₀ :: hds) l
def metPick (xm : Nat → Nat → Option Bool) (i : Nat) : List (Nat × List Nat) → Option (List Nat)
  | [] => none
  | (j, y) :: r => match xm i j with
    | some true => some y
    | some false => metPick xm i r
    | none => none
def eMet (xm : Nat → Nat → Option Bool) (l : List (Nat × List Nat)) (fine : List Nat) (fb : Fr → M PV) : Fr → M PV := fun ρ st => match fb ρ st with
  | .ok _ st' => .ok (.str fine) st'
  | .exc e st' => match metPick xm e.cls l with
    | some y => .ok (.str y) st'
    | none => .bad
  | .bad => .bad
theorem metE_pick {xm : Nat → Nat → Option Bool} (hx : XmW X.K T xm) {i : Nat} {Q : VK} {d : Option Addr} {H : Hp} : ∀ (l : List (Nat × List Nat)) {y : List Nat}, metPick xm i l = some y → Q (.str (s2 y)) H → metE X.K T Q l (T.xcl i) d H
  | [], y, h, q => by cases h
  | (j, z) :: r, y, h, q => by
    unfold metPick at h
    cases e : xm i j with
    | none => rw [e] at h; cases h
    | some b =>
      rw [e] at h
      refine ⟨b, hx _ _ _ e, fun hb => ?_, fun hb => ?_⟩
      · subst hb; cases h; exact q
      · subst hb; exact metE_pick hx r h q
theorem okS_pick {xm : Nat → Nat → Option Bool} {i : Nat} : ∀ {l : List (Nat × List Nat)} {y : List Nat}, metPick xm i l = some y → (l.all fun q => okS q.2) = true → okS y = true
  | [], y, h, _ => by cases h
  | (j, z) :: r, y, h, k => by
    simp only [List.all_cons, Bool.and_eq_true] at k
    unfold metPick at h
    split at h
    · cases h; exact k.1
    · exact okS_pick h k.2
    · cases h
theorem tab_of {tb : List (Addr × Str)} {w : Wo} {H : Hp} (h : TabW tb w H) : LamX.Tabs tb H := fun p hp => by
  obtain ⟨_, ps, h1, h2, h3⟩ := h p hp
  exact ⟨ps, h1, h2, fun pos cv hc => let ⟨c, k1, _, k3⟩ := h3 pos cv hc; ⟨c, k1, k3⟩⟩
/-- how the heap grows where a lambda is made: not at all, or by a code object that the table at P tells -/
def Grown (P c : Addr) (q : Str) (H H1 : Hp) : Prop := H1 = H ∨ ∃ (ps more : Array Value), H P = some (.tbl ps) ∧ H c = none ∧ TriplesOk (ps ++ more).toList ∧ H1 = upd (upd H P (.tbl (ps ++ more))) c (LamX.CodeO c q) ∧ ∀ (pos : Pos) (cv : Value), codeAmong pos (ps ++ more).toList = some cv → codeAmong pos ps.toList = some cv ∨ cv = .ref c
theorem lam_mk {c P : Addr} {params : Arguments} {body : Expr} {scope : Scope} {pos : Pos} {E : Value → Shared → Prop} {Q : Value → Shared → Prop} (J : L2.Inv X pins σ H s) (TB : LamX.TabB X.base X.mg c P) (ec : X.env.code = .ref c)
    (tab : LamX.TabS H P (X.env.qual ++ "<lambda>")) (nd : defaultsOf params X.env = ([], [])) (fr : ∀ y ∈ scope.names, y.2 = .free → ∃ c, X.env.cells.lookup y.1 = some c)
    (k : ∀ (f d : Addr) (pm ct : Value) (H1 : Hp) (t : Shared), L2.Inv X pins σ H1 t → Grown P d (X.env.qual ++ "<lambda>") H H1 → t.heap.get? f = some (lamO X params body scope pm d ct) → H1 f = none → f ∉ frs X.stack → H1 d = some (LamX.CodeO d (X.env.qual ++ "<lambda>")) → Q (.ref f) t) :
    wpAny (model X.prog X.w) X.A (eval (.Lambda params body scope pos) X.env) Q E s := by
  obtain ⟨ps, hP, tr, am⟩ := tab
  refine PySem.W.kla_eval nd ?_
  have blt : s.heap.BuiltinsAt X.mg P := TB.bm.keeps J.bk
  have atP : s.heap.get? P = some { cls := .none, data := .fields ps } := J.hok P _ hP
  have out : ∀ f, s.heap.objs.size ≤ f → f ∉ frs X.stack := fun f hf z => by
    rcases List.mem_cons.mp (J.stkSub _ z) with e | e
    · have := J.lt
      rw [← e] at this
      exact absurd (Nat.lt_of_lt_of_le this hf) (Nat.lt_irrefl _)
    · exact J.nofs hf e
  cases hc : codeAmong pos ps.toList with
  | some cv =>
    obtain ⟨d, e, hd⟩ := am pos cv hc
    subst e
    refine PySem.W.kla_makeFunctionHit (mg := X.mg) (c := c) (P := P) (ps := ps) (closure_ok fr) J.ok.glob (J.mod.glob.keeps J.bk) ec (TB.code.keeps J.bk) atP tr hc blt fun ct h1 tk kp sz => ?_
    have J1 : L2.Inv X pins σ H { s with heap := h1.push (lamO X params body scope ((X.mg "__name__").getD .none) d ct), toks := tk } := J.kept fun b o z => Heap.get?_push_of_some _ (kp b o z)
    exact k h1.objs.size d _ ct H _ J1 (.inl rfl) (Heap.get?_push_size _ rfl) (J.hok.fresh sz) (out _ sz) hd
  | none =>
    refine PySem.W.kla_makeFunction (mg := X.mg) (c := c) (P := P) (ps := ps) (closure_ok fr) J.ok.glob (J.mod.glob.keeps J.bk) ec (TB.code.keeps J.bk) atP tr hc TB.gP blt fun d ct h1 tk kp ge lt rec tb => ?_
    obtain ⟨d2, oc, vs, tt, e2, g1, g2, g3⟩ := rec
    cases e2
    have sz : s.heap.objs.size ≤ h1.objs.size := Nat.le_trans ge (Nat.le_of_lt lt)
    have nd' : H d = none := J.hok.fresh ge
    have J1 := LamX.inv_table (t' := tk) (more := #[rawInt pos.line, rawInt pos.col, .ref d]) (h' := h1.push (lamO X params body scope ((X.mg "__name__").getD .none) d ct)) J hP
      (fun b o nb z => Heap.get?_push_of_some _ (kp b o nb z)) (Heap.get?_push_of_some _ tb) ge ⟨oc, vs, tt, Heap.get?_push_of_some _ g1, g2, g3⟩
    have eL : (ps ++ #[rawInt pos.line, rawInt pos.col, .ref d]).toList = ps.toList ++ [rawInt pos.line, rawInt pos.col, .ref d] := by simp
    refine k h1.objs.size d _ ct _ _ J1 (.inr ⟨ps, #[rawInt pos.line, rawInt pos.col, .ref d], hP, nd', by rw [eL]; exact PySem.TriplesOk_snoc _ _ _ _ tr, rfl, fun p' cv hcv => ?_⟩) (Heap.get?_push_size _ rfl) ?_ (out _ sz) upd_same
    · rw [eL] at hcv
      exact LamX.among_app _ tr hcv
    · rw [upd_ne (Nat.ne_of_gt lt), upd_ne (Nat.ne_of_gt (Nat.lt_of_lt_of_le (Heap.lt_size atP) sz))]
      exact J.hok.fresh sz
/-- the world where a lambda was made -/
theorem le_grown {G : Cfg} {w : Wo} {st : Store} {P c : Addr} {q : Str} {H1 : Hp} (wr : Wr G w st H) (g : Grown P c q H H1) (hP : ∃ p ∈ G.T.tb, p.1 = P) (hu : ∀ p ∈ G.T.tb, p.1 = P → p.2 = q) : Le w H w H1 ∧ Wr G w st H1 := by
  rcases g with rfl | ⟨ps, more, h1, h2, h3, rfl, h4⟩
  · exact ⟨Le.refl _ _, wr⟩
  · obtain ⟨p0, m0, e0⟩ := hP
    have nDP : ¬ w.D P := e0 ▸ (wr.tab p0 m0).1
    have nDc : ¬ w.D c := fun d => wr.trk c d h2
    have nPc : P ≠ c := fun z => by rw [z, h2] at h1; cases h1
    have at_ : ∀ a, a ≠ P → a ≠ c → upd (upd H P (.tbl (ps ++ more))) c (LamX.CodeO c q) a = H a := fun a n1 n2 => by rw [upd_ne n2, upd_ne n1]
    have atP : upd (upd H P (.tbl (ps ++ more))) c (LamX.CodeO c q) P = some (.tbl (ps ++ more)) := by rw [upd_ne nPc, upd_same]
    have ob : ∀ a o, Ob H a o → Ob (upd (upd H P (.tbl (ps ++ more))) c (LamX.CodeO c q)) a o := fun a o k => by
      have ac : a ≠ c := fun z => k.ne (z ▸ h2)
      by_cases aP : a = P
      · subst aP
        have it : isTbl o = true := by
          rcases k with k | ⟨l, b, k⟩ | ⟨l, _⟩
          · rw [h1] at k; cases k; rfl
          · rw [h1] at k; cases k
          · exact l
        exact .inr (.inr ⟨it, _, atP⟩)
      · exact k.imp fun u z => by rw [at_ a aP ac]; exact z
    have dm : ∀ a, H a ≠ none → upd (upd H P (.tbl (ps ++ more))) c (LamX.CodeO c q) a ≠ none := fun a n => by
      cases z : H a with
      | none => exact absurd z n
      | some o => exact (ob a o (.inl z)).ne
    have hD : ∀ a, w.D a → upd (upd H P (.tbl (ps ++ more))) c (LamX.CodeO c q) a = H a := fun a d => at_ a (fun z => nDP (z ▸ d)) fun z => nDc (z ▸ d)
    have le : Le w H w (upd (upd H P (.tbl (ps ++ more))) c (LamX.CodeO c q)) := ⟨fun _ _ h => h, fun _ _ h => .inl h, fun _ h _ => h, fun a o _ h => ob a o h, dm, fun _ h _ _ => h, fun a o d _ z => by rw [hD a d]; exact z⟩
    refine ⟨le, ⟨fun l x h => ?_, wr.inj, fun a d => dm a (wr.trk a d), fun l a h => ⟨dm a (wr.ran l a h).1, (wr.ran l a h).2⟩, fun p hp => ?_, fun a o d e => wr.nic a o d (by rw [← hD a d]; exact e)⟩⟩
    · obtain ⟨a, k1, k2⟩ := wr.cell l x h
      exact ⟨a, k1, k2.mono le (wr.ran l a k1).1 (fun d => d) (hD a)⟩
    · obtain ⟨d, qs, k1, k2, k3⟩ := wr.tab p hp
      refine ⟨d, ?_⟩
      have old : ∀ x, ¬ w.D x → H x = some (LamX.CodeO x p.2) → upd (upd H P (.tbl (ps ++ more))) c (LamX.CodeO c q) x = some (LamX.CodeO x p.2) := fun x dx hx => le.exact dx hx rfl
      by_cases pP : p.1 = P
      · rw [pP, h1] at k1
        cases k1
        refine ⟨_, by rw [pP]; exact atP, h3, fun pos cv hc => ?_⟩
        rcases h4 pos cv hc with z | z
        · obtain ⟨x, z1, z2, z3⟩ := k3 pos cv z
          exact ⟨x, z1, z2, old x z2 z3⟩
        · exact ⟨c, z, nDc, by rw [upd_same, hu p hp pP]⟩
      · refine ⟨qs, by rw [at_ _ pP (fun z => by rw [z, h2] at k1; cases k1)]; exact k1, k2, fun pos cv hc => ?_⟩
        obtain ⟨x, z1, z2, z3⟩ := k3 pos cv hc
        exact ⟨x, z1, z2, old x z2 z3⟩
/-- where the lambdas of a def are told: its code object, the table -/
structure LamT (X : Cx) (T : Tabs) : Prop where
  ex : ∃ c P, LamX.TabB X.base X.mg c P ∧ X.env.code = .ref c ∧ (P, X.env.qual ++ "<lambda>") ∈ T.tb ∧ ∀ p ∈ T.tb, p.1 = P → p.2 = X.env.qual ++ "<lambda>"
theorem pp_lam {x : Str} {k : Nat} {l : List (Nat × List Nat)} {y : List Nat} {xm : Nat → Nat → Option Bool} {params : Arguments} {body : Expr} {scope : Scope} {fb : Fr → M PV} {p lpos pos : Pos} (m : LmW X.K X.mg T x l y) (lt : LamT X T) (hx : XmW X.K T xm) (B : Bd X W (k + 2))
    (hg : okG X.env.scope x = true) (L : LamX.lamSB X.env.scope scope = true) (nd : defaultsOf params X.env = ([], [])) (okw : (okS y && l.all fun q => okS q.2) = true)
    (bd : ∀ (q : Str) (cl : List (Str × Addr)) (pm cv ct : Value), bindArgs (PySem.W.kla_fn "<lambda>" q params body scope cl pm cv ct) ⟨[], []⟩ = pure [])
    (bodyP : ∀ (A : Around) (outer : List Env) (s : Shared) (H : Hp) (E : XK) (f c : Addr), Bd (LamX.lamCx X A outer s H E scope f c) (fun cls d _ H' => E cls d H') k → PP (LamX.lamCx X A outer s H E scope f c) T (fun cls d _ H' => E cls d H') body fb) :
    PP X T W (.Call (.Name x p) [.Lambda params body scope lpos] [] pos) (eMet xm l y fb) := by
  obtain ⟨g, v, Ng, pg, sg, dV, kV, doc, pm, cdv, ct, oc, an, od, osl, fine, n, h₀, hds, p1, p2, p3, p4, p5, p8, hm, hk, lk, hcg, hb, Sg, i0, vis, db, cd, ey, h0, hh⟩ := m.ex
  obtain ⟨c, P, TB, ec, memT, hu⟩ := lt.ex
  have Ls := LamX.lamS_by L
  unfold okG at hg
  simp only [Bool.and_eq_true, Bool.not_eq_true'] at hg okw
  refine ⟨fun pins s σ H Q I ⟨w, st, ρ, h⟩ => ?_⟩
  refine wpAny_Call_Name_kw (ld_glob I (gl_of hg.1) hm ?_ hg.2)
  refine PySem.W.callWith_K (h₀ := X.base) I.ok.mod.kin hk ?_ (by rfl) (by rfl)
  show wpAny _ _ (spliced ((false, eval (.Lambda params body scope lpos) X.env) :: backTo pos (starEach [] X.env))) _ _ s
  have tab0 := tab_of h.wr.tab _ memT
  refine Calls.spliced_cons (lam_mk I TB ec tab0 nd (Ls.has I.ok) fun f d pm' ct' H1 s1 I1 gr atf nof nfr atd => ?_)
  refine Calls.spliced_nil ⟨I1.kIn, ?_⟩
  obtain ⟨le1, wr1⟩ := le_grown h.wr gr ⟨_, memT, rfl⟩ hu
  have lr : ∀ (E : XK) (A : Around) (outer : List Env) (s : Shared) (H : Hp), A.guards = some [] → Room k (A.deeper (LamX.lamEnv X scope s.heap.objs.size f d)) → PE (LamX.lamCx X A outer s H E scope f d) body (tE X T (fun cls dd _ H' => E cls dd H') fb) := fun E A outer s H gd rm =>
    ⟨fun pins s1 σ H1 Q I ⟨w, st, ρ, h⟩ => (bodyP A outer s H E f d ⟨rfl, B.nd, rm, passes_of rfl, takes_of rfl rfl rfl rfl, gd⟩).run pins s1 σ H1 Q I ⟨w, st, ρ, h.wr, h.fr, h.post⟩⟩
  have want : TMet X.K T l y (fun E H' Q' => tE X T (fun cls dd _ H2 => E cls dd H2) fb σ H' Q') H1 Q := by
    refine ⟨w, st, ρ, wr1, h.fr.mono le1, ?_⟩
    have pq := h.post.mono le1
    unfold eMet at pq
    cases q : fb ρ st with
    | bad => rw [q] at pq; exact pq
    | ok z st1 =>
      rw [q] at pq
      exact fun w2 v2 H2 l2 wr2 _ => pq w2 _ H2 l2 wr2 (.str y okw.1)
    | exc z st1 =>
      rw [q] at pq
      dsimp only at pq
      cases q2 : metPick xm z.cls l with
      | none => rw [q2] at pq; exact pq.elim
      | some yy =>
        rw [q2] at pq
        intro w2 cls dd H2 l2 wr2 ex2
        have e1 : cls = T.xcl z.cls := ex2.1
        rw [e1]
        exact metE_pick hx l q2 (pq w2 _ H2 l2 wr2 (.str yy (okS_pick q2 okw.2)))
  have run : codeAny (model X.prog X.w) X.A (.call (.ref g) ⟨[.ref f], []⟩) (CR C8.CX0 X.stack X.prog X.w H1 s1 Q C8.E0) s1 := by
    refine LamX.run_ofS (N := Ng) (ps := [v]) (us := [.ref f]) (vs := [.ref f]) lk hcg Sg B.room I1.env0 (hb s1 [.ref f] I1.kIn rfl) (.cons rfl .nil) rfl fun rm => ?_
    obtain ⟨t, t1, t2⟩ := met_gives (X := X) (q := X.env.qual ++ "<lambda>") (fun s H => hh X s H rfl rfl) ey h0 f d s1 H1 Q (fun E H' Q' => tE X T (fun cls dd _ H2 => E cls dd H2) fb σ H' Q')
      (fun W1 pn xe E q1 q2 tk up => act_g (i := 0) I1 Ls atf nof nfr (bd _ _ _ _ _) tk up rm B.gd (fun A outer s H gd rm2 => lr E A outer s H gd rm2) i0 vis db cd) atd want
    exact ⟨t, t1.nox, t2⟩
  refine wpAny_call (codeAny_mono run fun r s2 hq => ?_)
  rcases r with er | fl
  · exact (show False from hq).elim
  · cases fl with
    | ret u => exact I1.after hq
    | next => exact hq.elim
    | brk => exact hq.elim
    | cont => exact hq.elim
end
end Eg

/-! E33: tuple(d), sorted(d), len(set(x)), min(x), t.index(x). -/
namespace Eg
open PySem PySem.Spec PyProof.Rows L2
/-! ### tuple(d) -/
section
variable {prog : Program} {w : World} {A : Around} {E : Value → Shared → Prop} {s : Shared} {Ty : String} {r d : Addr} {n : Nat} {P : Nat → Value → Prop} {OK : Heap → Prop}
theorem iadd_src {R : Result → Shared → Prop} (K : PySem.W.KdlSrc prog w Ty r d n P OK) (nh : A.handled = none) (ok : OK s.heap) (S : Addr) (n1 : S ≠ r) (n2 : S ≠ d) (at1 : s.heap.get? S = some { cls := .type "list", data := .seq #[] 0 }) (hn : n ≤ sizeLine)
    (k : ∀ h1 tk acc c, (∀ b o, b ≠ S → s.heap.get? b = some o → h1.get? b = some o) → h1.get? S = some { cls := .type "list", dict := none, data := .seq acc c, slots := #[] } → ItemsOf P acc n → R (.ok (.ret (.ref S))) { s with heap := h1, toks := tk }) :
    codeAny (model prog w) A (.builtin "list.__iadd__" ⟨[.ref S, .ref r], []⟩) R s := by
  refine codeAny_builtin F.entry_list_iadd ?_
  rw [Around.under_plainId F.plain_list_iadd _]
  show wpAny _ A.in1 (Builtin.List.listExtendWith (.ref S) (.ref r) (.ref S)) _ _ _
  exact PySem.W.kdl_extend K nh ok S n1 n2 (.ref S) 0 at1 k hn
theorem collect_src {Q : List Value → Shared → Prop} (K : PySem.W.KdlSrc prog w Ty r d n P OK) (nh : A.handled = none) (ok : OK s.heap) (hn : n ≤ sizeLine)
    (k : ∀ h1 tk acc, (∀ b o, s.heap.get? b = some o → h1.get? b = some o) → ItemsOf P acc n → Q acc.toList { s with heap := h1, toks := tk }) : wpAny (model prog w) A (collect (.ref r)) Q E s := by
  have lt := K.there _ ok
  unfold collect
  refine wpAny_bind (wpAny_runValue (codeAny_builtin F.entry_proto_collect ?_))
  rw [Around.under_plainId F.plain_proto_collect _]
  show wpAny _ A.in1 (newList [] >>= fun l => again (.builtin "list.__iadd__" ⟨[l, .ref r], []⟩)) _ _ s
  refine wpAny_bind (wpAny_newObj_type ?_)
  refine wpAny_pure ⟨plainId_quiet F.plain_list_iadd _, iadd_src K nh (K.keep _ _ ok fun b _ o z => Heap.get?_push_of_some _ z) s.heap.objs.size (Nat.ne_of_gt lt.1) (Nat.ne_of_gt lt.2) (Heap.get?_push_size _ rfl) hn fun h1 tk acc c kp at2 its => ?_⟩
  show wpAny _ A (load s.heap.objs.size >>= _) _ _ _
  refine wpAny_bind (wpAny_load at2 ?_)
  exact wpAny_pure (k h1 tk acc (fun b o z => kp b o (Nat.ne_of_lt (Heap.lt_size z)) (Heap.get?_push_of_some _ z)) its)
theorem tuple_src (K : PySem.W.KdlSrc prog w Ty r d n P OK) (hn : n ≤ sizeLine) :
    MeetsIn prog w (Builtin.«tuple.__new__» ⟨[.type "tuple", .ref r], []⟩)
      (fun A R s => A.handled = none ∧ OK s.heap ∧ ∀ (h1 : Heap) (tk : Nat) (acc : Array Value), (∀ b o, s.heap.get? b = some o → h1.get? b = some o) → ItemsOf P acc n →
        R (.ok (.ret (.ref h1.objs.size))) { s with heap := h1.push { cls := .type "tuple", data := .seq acc }, toks := tk }) :=
  .of_wp fun A R s h => by
    obtain ⟨nh, ok, h⟩ := h
    have e1 := sub_tuple_self
    have e2 := init_tuple_lookup
    have e3 := madeHere_tuple
    have hT : s.TypeIs (.ref r) Ty := K.type s ok
    have ntu := K.notTuple
    have nh1 : A.in1.handled = none := nh
    wp_walk using wpAny_typeOf hT, collect_src K nh1 ok hn
    intro h1 tk acc kp its
    show wpAny _ _ (Builtin.Tuple.tupleExact acc.toList.toArray >>= fun v => ret v) _ _ _
    unfold Builtin.Tuple.tupleExact
    have ea : acc.toList.toArray = acc := by simp
    refine wpAny_bind (wpAny_newObj_type ?_ (show acc.toList.toArray.size ≤ sizeLine by rw [ea, its.1]; exact hn))
    refine wpAny_pure ⟨_, rfl, ?_⟩
    rw [ea]
    exact h h1 tk acc kp its
theorem call_tuple_src {Q : Value → Shared → Prop} (K : PySem.W.KdlSrc prog w Ty r d n P OK) (nh : A.handled = none) (ok : OK s.heap) (hn : n ≤ sizeLine)
    (k : ∀ (h1 : Heap) (tk : Nat) (acc : Array Value), (∀ b o, s.heap.get? b = some o → h1.get? b = some o) → ItemsOf P acc n → Q (.ref h1.objs.size) { s with heap := h1.push { cls := .type "tuple", data := .seq acc }, toks := tk }) :
    wpAny (model prog w) A (call (.type "tuple") [.ref r]) Q E s := by
  refine callType_newIn F.called_tuple (by decide) (F.typeCall_tuple_1 _) (F.newCall_tuple_1 _) (fun obj => F.args_object_init_2 obj _) F.entry_tuple_new
    (tuple_src K hn) ⟨nh, ok, fun h1 tk acc kp its => ⟨⟨_, Heap.get?_push_size _ rfl, rfl⟩, k h1 tk acc kp its⟩⟩
end
end Eg

/-! E34: sorted(d), tuple(d), len(set(x)), min(x), t.index(x). -/
namespace Eg
open PySem PySem.Spec PyProof.Rows L2
section
variable {X : Cx} {T : Tabs} {W : WX} {a b c e : Expr} {es : List Expr} {fa fb fc : Fr → M PV} {fr : Fr → M (List PV)} {pos p : Pos}
/-! ### sorted(d) -/
def rSrtD (X : Cx) (T : Tabs) : List V → Hp → VK → Prop := fun xs H Q => ∃ (a : Addr) (ks : List (Key × V)) (kvs : List (PV × PV)) (zs : List PV) (w : Wo) (st : Store), xs = [.ref a] ∧ Rd H a (.dK ks) ∧ Wr (Cx.g X T) w st H ∧ RepK (Cx.g X T) w H ks kvs ∧ psort (kvs.map (·.1)) = some zs ∧
  ∀ p us, H p = none → RepL (Cx.g X T) w H us zs → Q (.ref p) (upd H p (.lst us))
theorem dict_src {pins : List (Addr × Obj)} {σ : L2.St} {H : Hp} {s : Shared} {a : Addr} {ks : List (Key × V)} (I : L2.Inv X pins σ H s) (hd : Rd H a (.dK ks)) : ∃ (vs : List (Key × Value)) (ep : Nat), ks.length ≤ sizeLine ∧ vs.length = ks.length ∧ s.heap.DictAt (mixKind X.prog X.w) a vs ep ∧ (a == sysModules) = false ∧
    ∀ acc : Array Value, ItemsOf (fun i v => ∃ k x, vs[i]? = some (k, x) ∧ (mixKind X.prog X.w).is k v = true) acc vs.length → Vals (ks.map fun kv => kV kv.1) acc.toList := by
  obtain ⟨z, lo, vs, rel, dd⟩ := dk_rd I.hok hd
  obtain ⟨ep, at_⟩ := dd.dictAt
  refine ⟨vs, ep, z, rel.length.symm, at_, lo, fun acc its => ?_⟩
  have ek : (ks.map fun kv => kV kv.1) = vs.map fun p => kV p.1 := by
    have e := congrArg (List.map kV) rel.keys
    rw [List.map_map, List.map_map] at e
    exact e
  rw [ek]
  exact keys_at (by rw [Array.length_toList]; exact its.1) fun j v e => its.2 j v (by rw [← Array.getElem?_toList]; exact e)
theorem cr_srtD (hu : X.A.units + 64 < cLine) (hcm : X.calm = true) : CallR X (.builtin "sorted") (rSrtD X T) := by
  intro pins s σ H xs us Q I rx ⟨a, ks, kvs, zs, w, st, exs, hrd, wr, rk, hs, q⟩
  subst exs
  cases rx with | cons r1 r2 =>
  cases r2
  cases (show _ = Value.ref a from r1)
  obtain ⟨vs0, ep, hz0, hl0, at0, lo, items⟩ := dict_src I hrd
  have r : RepL (Cx.g X T) w H (ks.map fun kv => kV kv.1) (kvs.map (·.1)) := rk.keysL
  generalize (ks.map fun kv => kV kv.1) = vs at r items
  generalize (kvs.map (·.1)) = ys at r hs
  obtain ⟨hL, h1, h2, h3, rfl⟩ := psort_ok hs
  have hlen := r.length
  refine Calls.call_function_entry kind_sorted plain_sorted entry_sorted (args_sorted1 _) ?_
  unfold Builtin.«sorted»
  refine wpAny_bind (m := checkCount "sorted" 1 1 _) (wpAny_pure (wpAny_bind (collect_src (PySem.W.kdl_dict (knd := mixKind X.prog X.w) (kvs := vs0) (ep := ep) lo) (show X.A.handled = none from I.ok.hd hcm) at0 (by rw [hl0]; exact hz0) fun h' tk acc keep hits => ?_)))
  have rv := items acc hits
  generalize acc.toList = its at rv ⊢
  have hli : its.length = ys.length := by rw [← rv.length]; exact hlen
  refine wpAny_bind (wpAny_newList ?_ (by simpa [hli] using hL))
  have I1 : L2.Inv X pins σ H { s with heap := h', toks := tk } := I.kept (t' := tk) keep
  have I2 : L2.Inv X pins σ H { s with heap := h'.push { cls := .type "list", data := .seq its.toArray }, toks := tk } := I1.kept (t' := tk) fun b o e => Heap.get?_push_of_some _ e
  have hfr : H h'.objs.size = none := I1.hok.fresh (Nat.le_refl _)
  have eo : (h'.push { cls := .type "list", data := .seq its.toArray }).get? h'.objs.size = some (seqObj "list" its.toArray 0) := Heap.get?_push_size _ rfl
  have hz := zp_of rv hlen
  have hrep := repl_zip r
  have er := zp_reads I2 hz fun q hq => ⟨hrep q hq, (h1 q.2 (List.of_mem_zip hq).2).1⟩
  have er2 : PySem.W.EachIs (fun u (q : V × PV) => ∃ as, Reads (h'.push { cls := .type "list", data := .seq its.toArray }) u (toD q.2) as ∧ h'.objs.size ∉ as) its (vs.zip ys) := by
    have er1 := zp_reads I1 hz fun q hq => ⟨hrep q hq, (h1 q.2 (List.of_mem_zip hq).2).1⟩
    refine er1.mono fun u q ⟨as, k⟩ => ⟨as, PyProof.Rows.Reads.keeps (fun _ _ e => Heap.get?_push_of_some _ e) k, fun hm => ?_⟩
    exact absurd (reads_lt k _ hm) (Nat.lt_irrefl _)
  have hal : PySem.W.AllAlike ((vs.zip ys).map fun q => toD q.2) := by
    intro d hd d' hd'
    obtain ⟨q, hq, rfl⟩ := List.mem_map.mp hd
    obtain ⟨q', hq', rfl⟩ := List.mem_map.mp hd'
    have m := (List.of_mem_zip hq).2
    have m' := (List.of_mem_zip hq').2
    rw [alk_toD _ _ (h1 _ m).1 (h1 _ m').1]
    exact h2 _ m _ m'
  have hsrt : PySem.W.Sortable ((vs.zip ys).map fun q => toD q.2) := by
    rcases h3 with h3 | h3
    · refine .inl fun d hd => ?_
      obtain ⟨q, hq, rfl⟩ := List.mem_map.mp hd
      have m := h3 _ (List.of_mem_zip hq).2
      cases e : q.2 with
      | tup zs => rw [e] at m; cases zs with
        | nil => cases m
        | cons z zs => exact ⟨toD z, toDs zs, by simp only [toD, toDs]⟩
      | _ => rw [e] at m; cases m
    · refine .inr fun d hd => ?_
      obtain ⟨q, hq, rfl⟩ := List.mem_map.mp hd
      have m := h3 _ (List.of_mem_zip hq).2
      have k := (h1 _ (List.of_mem_zip hq).2).1
      cases e : q.2 <;> rw [e] at m k <;> first | (cases m; done) | (cases k; done) | (refine ⟨?_, ?_⟩ <;> simp [toD])
  refine wpAny_bind (wpAny_holding (PySem.W.list_sort_data (R := fun u (q : V × PV) => RelV q.1 u) (enc := fun q => toD q.2) eo hz er2 hal hsrt (by simp [hlen]; omega) (fun b hb => ?_) fun out ho2 hout => ?_))
  · have := (h1 _ (List.of_mem_zip hb).2).2
    rw [depth_toD]
    show X.A.units + 1 + 1 + pdep b.2 < cLine
    omega
  · have hmap : ((vs.zip ys).mergeSort (PySem.W.dataLe false fun q : V × PV => toD q.2)).map (·.2) = srtL ple ys := by
      have e := PySem.W.sort_maps (l := vs.zip ys) (r := PySem.W.dataLe false fun q : V × PV => toD q.2) (s := PySem.W.dataLe false toD) (fun q : V × PV => q.2) fun _ _ _ _ => rfl
      rw [zip_snd hlen, ← psort_merge h1 h2] at e
      exact e
    have hmem : ∀ q ∈ (vs.zip ys).mergeSort (PySem.W.dataLe false fun q : V × PV => toD q.2), Rep (Cx.g X T) w H q.1 q.2 := fun q hq => hrep q ((List.mergeSort_perm _ _).mem_iff.mp hq)
    have rfin : RepL (Cx.g X T) w H (((vs.zip ys).mergeSort (PySem.W.dataLe false fun q : V × PV => toD q.2)).map (·.1)) (srtL ple ys) := by
      rw [← hmap]
      exact repl_unzip hmem
    obtain ⟨ne, hsat⟩ := sortedHeap_at (out := out.toArray) eo
    refine wpAny_pure ⟨_, rfl, .ref h'.objs.size, _, I1.laid (t' := tk) (o := .lst (((vs.zip ys).mergeSort (PySem.W.dataLe false fun q : V × PV => toD q.2)).map (·.1))) (fun b o e => ?_) (Nat.le_refl _) ?_, rfl, q _ _ hfr rfin⟩
    · have hb := Heap.lt_size e
      rw [sortedHeap_old (Nat.ne_of_lt hb) (by rw [Heap.size_push]; exact Nat.lt_succ_of_lt hb)]
      exact Heap.get?_push_of_some _ e
    · exact ⟨by rw [rfin.length, srtL_len]; exact hL, out, ne, zp_vals hout, hsat⟩
def gSortA : List PV → Option (List PV)
  | [.dct kvs] => if keysK kvs then psort (kvs.map (·.1)) else none
  | xs => gSorted xs
theorem pp_sortedA (k : Bool) (hu : X.A.units + 64 < cLine) (hcm : X.calm = true) (hg : Gl X "sorted") (hm : X.mg "sorted" = none) (ha : PPA X T W [a] fr)
    (he : starEach [a] X.env = (false, eval a X.env) :: starEach [] X.env := by rfl) (hpl : (backTo pos (starEach [] X.env)).any (·.1) = false := by rfl) (hv : bootBuiltins "sorted" = some (.builtin "sorted") := by decide +kernel) : PP X T W (.Call (.Name "sorted" p) [a] [] pos) (eBL k gSortA fr) := by
  refine ⟨fun pins s σ H Q I ⟨w, st, ρ, h⟩ => (pe_callB (CallR.or (cr_srt (T := T) hu) (cr_srtD (T := T) hu hcm)) hg hm hv ha (by decide +kernel) (by decide +kernel) he hpl).run pins s σ H Q I ?_⟩
  refine RunE.aE (k := fun xs _ => rds xs >>= fun ys => M.of (gSortA ys) >>= fun zs => nw k (.lst zs)) h fun w1 st1 xs vs H1 l r h1 => ?_
  obtain ⟨ys, vw, h2⟩ := h1.rds r
  obtain ⟨zs, e, h3⟩ := h2.of
  unfold gSortA at e
  split at e
  · split at e
    · rename_i hk
      obtain ⟨v, rfl, vv⟩ := VwL1 vw
      cases vv with
      | dcK ob r => exact .inr ⟨_, _, _, zs, w1, st1, rfl, ob.rd rfl, h1.wr, r, e, fun q us hq ru => h3.mkL ru hq⟩
      | dcT ob n r => exact absurd (r.notK hk).1 n
    · cases e
  · unfold gSorted at e
    split at e
    · obtain ⟨v, rfl, vv⟩ := VwL1 vw
      cases vv with | lst s r => exact .inl ⟨_, _, _, zs, w1, st1, rfl, .inl (.inl (.inl s)), h1.wr, r, e, fun q us hq ru => h3.mkL ru hq⟩
    · obtain ⟨v, rfl, vv⟩ := VwL1 vw
      cases vv with | tup s r => exact .inl ⟨_, _, _, zs, w1, st1, rfl, .inr s.sq, h1.wr, r, e, fun q us hq ru => h3.mkL ru hq⟩
    · cases e
/-! ### tuple(d) -/
def rTupD : List V → Hp → VK → Prop := fun xs H Q => ∃ (ad : Addr) (ks : List (Key × V)), xs = [.ref ad] ∧ Rd H ad (.dK ks) ∧ NewTup H (ks.map fun kv => kV kv.1) Q
theorem cr_tupD (hcm : X.calm = true) : CallR X (.type "tuple") rTupD := by
  intro pins s σ H xs us Q I rx ⟨ad, ks, exs, hrd, q⟩
  subst exs
  cases rx with | cons r1 r2 =>
  cases r2
  cases (show _ = Value.ref ad from r1)
  obtain ⟨vs0, ep, hz0, hl0, at0, lo, items⟩ := dict_src I hrd
  refine call_tuple_src (PySem.W.kdl_dict (knd := mixKind X.prog X.w) (kvs := vs0) (ep := ep) lo) (I.ok.hd hcm) at0 (by rw [hl0]; exact hz0) fun h' tk acc keep hits => ?_
  have rv := items acc hits
  have I1 : L2.Inv X pins σ H { s with heap := h', toks := tk } := I.kept (t' := tk) keep
  have e := ep_tup tk I1 rv (by rw [List.length_map]; exact hz0) q
  have ea : tupO acc.toList = { cls := .type "tuple", data := .seq acc } := by simp [tupO]
  rw [ea] at e
  exact e
def gTupA : List PV → Option PV
  | [.dct kvs] => if keysK kvs then some (.tup (kvs.map (·.1))) else none
  | xs => gTuple xs
theorem c1_tupA : Call1 X T (fun xs H Q => rTupK X.K xs H Q ∨ rTupD xs H Q) gTupA := by
  intro w st H vs xs z Q wr vw e af
  unfold gTupA at e
  split at e
  · split at e
    · rename_i hk
      cases e
      obtain ⟨v, rfl, vv⟩ := VwL1 vw
      cases vv with
      | dcK ob r => exact .inr ⟨_, _, rfl, ob.rd rfl, fun l o hl ho => af.new wr hl (Rep.newT wr hl ho r.keysL)⟩
      | dcT ob n r => exact absurd (r.notK hk).1 n
    · cases e
  · exact .inl (c1_tuple w st H vs xs z Q wr vw e af)
theorem k_tupA (ha : PPA X T W (e :: es) fr) (hcm : X.calm = true) (hm : X.mg "tuple" = none) (hg : glB X.env.scope "tuple" = true := by kernel_rfl) (he : starEach (e :: es) X.env = (false, eval e X.env) :: starEach es X.env := by rfl) (hpl : (backTo pos (starEach es X.env)).any (·.1) = false := by rfl) : PP X T W (.Call (.Name "tuple" p) (e :: es) [] pos) (eB gTupA fr) :=
  pp_callTy (CallR.or call_tupK (cr_tupD hcm)) c1_tupA (gl_of hg) hm (by decide +kernel) ha (by decide +kernel) (by decide +kernel) he hpl
/-! ### len(set(x)) of ints -/
def rLenSO (w : World) : List V → Hp → VK → Prop := fun xs H Q => ∃ (q : Addr) (S : Int → Bool) (n : Nat) (ks : List Int), xs = [.ref q] ∧ H q = some (SetO w q S n) ∧ ks.Nodup ∧ (∀ k, S k = true ↔ k ∈ ks) ∧ Q (.int ks.length) H
theorem cr_lenSO : CallR X (.builtin "len") (rLenSO X.w) := by
  intro pins s σ H xs us Q I rx ⟨q, S, n, ks, exs, hq, nd, mem, k⟩
  subst exs
  cases rx with | cons r1 r2 =>
  cases r2
  cases (show _ = Value.ref q from r1)
  obtain ⟨⟨o, es, ep, t, ho, hex, hd, good, nd2, mem2, hsc, hf, hn, _⟩, _, _⟩ := I.hok q _ hq
  have hl : es.size = ks.length := by
    have p1 : (es.toList.map keyOf).Perm ks := (List.perm_ext_iff_of_nodup nd2 nd).mpr fun z => by rw [← mem2, mem]
    have := p1.length_eq
    rw [List.length_map, Array.length_toList] at this
    exact this
  refine call_len_set ho hex hd hf (by have : es.size < 1000000000 := Nat.lt_trans hsc (by decide); omega) ⟨.int ks.length, H, I.tok _, ⟨_, by rw [hl]⟩, k⟩
def gLenSet : PV → Option PV
  | .lst xs => (intsP xs).bind fun ns => if ns.length < 64 then some (.int (setI ns).length) else none
  | .tup xs => (intsP xs).bind fun ns => if ns.length < 64 then some (.int (setI ns).length) else none
  | _ => none
theorem setI_nd (ns : List Int) : (setI ns).Nodup := (setI_pw ns).imp fun h => by omega
theorem pp_lenSet {p2 pos2 : Pos} (hc : X.calm = true) (hm : X.mg "len" = none) (hm2 : X.mg "set" = none) (ha : PP X T W a fa) (hg : glB X.env.scope "len" = true := by kernel_rfl) (hg2 : glB X.env.scope "set" = true := by kernel_rfl)
    (he : starEach [.Call (.Name "set" p2) [a] [] pos2] X.env = (false, eval (.Call (.Name "set" p2) [a] [] pos2) X.env) :: starEach [] X.env := by rfl) (hpl : (backTo pos (starEach [] X.env)).any (·.1) = false := by rfl)
    (he2 : starEach [a] X.env = (false, eval a X.env) :: starEach [] X.env := by rfl) (hpl2 : (backTo pos2 (starEach [] X.env)).any (·.1) = false := by rfl)
    (hv : bootBuiltins "len" = some (.builtin "len") := by decide +kernel) (hv2 : bootBuiltins "set" = some (.type "set") := by decide +kernel) : PP X T W (.Call (.Name "len" p) [.Call (.Name "set" p2) [a] [] pos2] [] pos) (e1 gLenSet fa) := by
  refine ⟨fun pins s σ H Q I ⟨w, st, ρ, h⟩ => (pe_callB cr_lenSO (gl_of hg) hm hv (pa_cons (pe_callTy (cr_setSeq hc) (gl_of hg2) hm2 hv2 (pa_cons ha pa_nil he2) (by decide +kernel) (by decide +kernel) he2 hpl2) pa_nil he) (by decide +kernel) (by decide +kernel) he hpl).run pins s σ H Q I ?_⟩
  refine RunE.eE (k := fun x _ => g1 gLenSet x) h fun w1 st1 x v H1 l r h1 => ?_
  rcases g1_ok (g := gLenSet) (x := x) (st := st1) with ⟨z, x', e1, e2, e3, e4⟩ | e
  · have vw := h1.wr.view r e1 e2
    have core : ∀ (b : Addr) (vs : List V) (xs : List PV), v = .ref b → (SqL X.K H1 b vs ∨ SqT X.K H1 b vs) → RepL (Cx.g X T) w1 H1 vs xs → ((intsP xs).bind fun ns => if ns.length < 64 then some (PV.int (setI ns).length) else none) = some z →
        rSetSeq X.K X.w [v] H1 fun u H2 => rLenSO X.w [u] H2 Q := fun b vs xs ev hq rl e => by
      cases q1 : intsP xs with
      | none => rw [q1] at e; cases e
      | some ns =>
        rw [q1] at e
        have e' : (if ns.length < 64 then some (PV.int (setI ns).length) else none) = some z := e
        split at e'
        · rename_i hl
          cases e'
          have q2 := ints_ok q1
          subst q2
          have q3 := rl.intsV
          subst q3
          refine ⟨b, ns, by rw [ev], hq, hl, fun q c hq' hc' => ⟨q, _, c, setI ns, rfl, upd_same, setI_nd ns, fun k => by rw [setI_mem]; simp, ?_⟩⟩
          have sm : Same H1 (upd H1 q (SetO X.w q (fun j => decide (j ∈ ns)) c)) := same_new hq'
          exact h1.ret e4 (Le.same sm) (h1.wr.same sm) (.int _)
        · cases e'
    unfold gLenSet at e3
    split at e3
    · cases vw with | @lst b vs _ s r => exact core b vs _ rfl (.inl (.inl (.inl s))) r e3
    · cases vw with | @tup b vs _ s r => exact core b vs _ rfl (.inr s.sq) r e3
    · cases e3
  · exact (h1.no e).elim
end
end Eg

/-! E35: t.index(x), min(x). -/
namespace Eg
open PySem PySem.Spec PyProof.Rows L2
section
variable {X : Cx} {T : Tabs} {W : WX} {a b c e o : Expr} {es : List Expr} {fa fb fc fo : Fr → M PV} {fr : Fr → M (List PV)} {pos p : Pos}
/-! ### t.index(n), a tuple of ints -/
def idxI (k : Int) : List Int → Option Nat
  | [] => none
  | x :: xs => if x = k then some 0 else (idxI k xs).map (· + 1)
theorem idxI_ok {k : Int} : ∀ {ns : List Int} {j : Nat}, idxI k ns = some j → k ∈ ns ∧ ns.idxOf k = j
  | [], j, h => by cases h
  | x :: xs, j, h => by
    unfold idxI at h
    split at h
    · rename_i e; cases h; subst e; exact ⟨by simp, by simp⟩
    · rename_i e
      cases q : idxI k xs with
      | none => rw [q] at h; cases h
      | some i =>
        rw [q] at h
        cases h
        obtain ⟨h1, h2⟩ := idxI_ok q
        refine ⟨by simp [h1], ?_⟩
        rw [List.idxOf_cons]
        have : (x == k) = false := by simpa using e
        rw [this, h2]
        rfl
def tupAt (x : PV) : M Unit := match x with
  | .tup _ => M.pure ()
  | _ => M.bad
def mIdx : PV → List PV → M PV
  | .tup xs, [.int k] => match (intsP xs).bind (idxI k) with
    | some j => M.pure (.int j)
    | none => M.bad
  | _, _ => M.bad
def eIdx (fo : Fr → M PV) (fr : Fr → M (List PV)) : Fr → M PV := fun ρ => fo ρ >>= fun x => tupAt x >>= fun _ => fr ρ >>= fun ys => mIdx x ys
theorem m_idx {apos cpos : Pos} (ho : PP X T W o fo) (ha : PPA X T W [e] fr) (hbase : attributeBase o "index" X.env (eval o X.env) = eval o X.env := by rfl)
    (hfew : ((backTo cpos (starEach [e] X.env)).all (fun x => !x.1) && (backToKw cpos (keywordEach [] X.env)).all (fun x => x.1.isSome) && decide ([e].length + ([] : List Keyword).length + (if ([] : List Keyword).isEmpty then 0 else 1) < 30)) = true := by rfl)
    (hline : (apos.endLine == cpos.line) = true := by rfl) (hs : starEach [e] X.env = (false, eval e X.env) :: starEach [] X.env := by rfl) (hplain : (backTo cpos (starEach [] X.env)).any (·.1) = false := by rfl) : PP X T W (.Call (.Attribute o "index" apos) [e] [] cpos) (eIdx fo fr) := by
  refine ⟨fun pins s σ H Q I ⟨w, st, ρ, h⟩ => ?_⟩
  have go : tE X T W fo σ H fun v H1 => ∃ w1 st1 xs, Rep (Cx.g X T) w1 H1 v (.tup xs) ∧ RunE X T W (fun ρ => fr ρ >>= fun ys => mIdx (.tup xs) ys) w1 st1 ρ σ H1 Q := by
    refine RunE.eE (k := fun x ρ => tupAt x >>= fun _ => fr ρ >>= fun ys => mIdx x ys) h fun w1 st1 x v H1 l1 rx h1 => ?_
    cases x with
    | tup xs => exact ⟨w1, st1, xs, rx, h1.wr, h1.fr, h1.post⟩
    | _ => exact (h1.no (M.bind_bad rfl)).elim
  refine wpAny_Call_method_late hbase hfew hline rfl (thn (ho.run pins s σ H _ I go) fun v s1 ⟨x, H1, I1, r1, w1, st1, xs, rx, h1⟩ => ?_)
  cases rx with
  | @tup ad vs _ fz rl =>
  cases (show v = Value.ref ad from r1)
  obtain ⟨nD, ob, hod, hH⟩ := fz
  obtain ⟨hget, _, its, rv, o2, g1, g2, n2, g3⟩ := I1.hok ad _ hH
  rw [hget] at g1
  cases g1
  have sq : SqT X.K H1 ad vs := .inl (.inr ⟨ob, hH⟩)
  refine ⟨"tuple", "tuple.index", PySem.F.plainAttrs_tuple, PySem.F.slot_tuple_index, PySem.F.type_tuple_index, ⟨ob, hget, g2⟩, fun a e => by cases e; exact ⟨ob, hget, hod⟩, ?_⟩
  have args : tA X T W fr σ H1 fun us H2 => ∃ w2 st2 ns k j, us = [V.int k] ∧ RepL (Cx.g X T) w2 H2 vs (ns.map PV.int) ∧ SqT X.K H2 ad vs ∧ idxI k ns = some j ∧ Wr (Cx.g X T) w2 st2 H2 ∧ Q (.int j) H2 := by
    refine RunE.aE (k := fun ys _ => mIdx (.tup xs) ys) h1 fun w2 st2 ys us H2 l2 ry h2 => ?_
    match ys, ry, h2 with
    | [.int k], ry, h2 =>
      cases q : (intsP xs).bind (idxI k) with
      | none => exact (h2.no (by show mIdx (.tup xs) [.int k] st2 = _; simp only [mIdx, q]; rfl)).elim
      | some j =>
        have pq := h2.ret (x := .int j) (st' := st2) (by show mIdx (.tup xs) [.int k] st2 = _; simp only [mIdx, q]; rfl) (Le.refl _ _) h2.wr (.int _)
        cases q2 : intsP xs with
        | none => rw [q2] at q; cases q
        | some ns =>
          rw [q2] at q
          obtain ⟨u, rfl, ru⟩ := ry.one_inv
          cases ru
          have e2 := ints_ok q2
          subst e2
          have fz2 : FzT X.K w2 H2 ad vs := FzT.mono (G := Cx.g X T) l2 ⟨nD, ob, hod, hH⟩
          exact ⟨w2, st2, ns, k, j, rfl, rl.mono l2, fz2.sq, q, h2.wr, pq⟩
    | [], _, h2 => exact (h2.no rfl).elim
    | .non :: _, _, h2 => exact (h2.no rfl).elim
    | .bl _ :: _, _, h2 => exact (h2.no rfl).elim
    | .str _ :: _, _, h2 => exact (h2.no rfl).elim
    | .tup _ :: _, _, h2 => exact (h2.no rfl).elim
    | .lst _ :: _, _, h2 => exact (h2.no rfl).elim
    | .set _ :: _, _, h2 => exact (h2.no rfl).elim
    | .dct _ :: _, _, h2 => exact (h2.no rfl).elim
    | .obj _ _ :: _, _, h2 => exact (h2.no rfl).elim
    | .loc _ :: _, _, h2 => exact (h2.no rfl).elim
    | .ty _ :: _, _, h2 => exact (h2.no rfl).elim
    | .scr _ :: _, _, h2 => exact (h2.no rfl).elim
    | .int _ :: _ :: _, _, h2 => exact (h2.no rfl).elim
  have hA := ha.run cpos pins s1 σ H1 _ I1 args
  rw [hs] at hA ⊢
  refine Calls.callWith_builtin (by show (false || (backTo cpos (starEach [] X.env)).any (·.1)) = false; rw [hplain]; rfl) (Calls.evalArgs_plain ?_)
  refine thn hA fun us s2 ⟨ws, H2, I2, r2, w2, st2, ns, k, j, ew, rl2, sq2, hj, wr2, q⟩ => ?_
  subst ew
  cases r2 with | cons q1 q2 =>
  cases q2
  obtain ⟨t, et⟩ := q1
  subst et
  have ev := rl2.intsV
  subst ev
  obtain ⟨its2, rv2, tp, _⟩ := I2.tuple sq2
  obtain ⟨m1, m2⟩ := idxI_ok hj
  refine PySem.SeqAt.tuple_index_ints (show s2.heap.IsTuple ad its2.toArray from tp) (ints_vals rv2) m1 ?_
  rw [m2]
  exact ⟨.int j, H2, I2.tok _, ⟨_, rfl⟩, q⟩
/-! ### min(x) of a list of data -/
def pmin (x : PV) (xs : List PV) : PV := xs.foldl (fun a y => if plt y a then y else a) x
def okMin (xs : List PV) : Bool := xs.all (fun x => isD x && (decide (pdep x ≤ 50) && okL.noNon x)) && xs.all (fun x => xs.all fun y => palk x y)
def gMinA : List PV → Option PV
  | [.lst (x :: xs)] => if okMin (x :: xs) then some (pmin x xs) else none
  | xs => gMin2 xs
theorem okMin_ok {xs : List PV} (h : okMin xs = true) : (∀ x ∈ xs, isD x = true ∧ pdep x ≤ 50 ∧ okL.noNon x = true) ∧ ∀ x ∈ xs, ∀ y ∈ xs, palk x y = true := by
  unfold okMin at h
  simp only [Bool.and_eq_true, List.all_eq_true, decide_eq_true_eq] at h
  exact ⟨fun x hx => ⟨(h.1 x hx).1, (h.1 x hx).2.1, (h.1 x hx).2.2⟩, h.2⟩
theorem pmin_mem : ∀ (xs : List PV) (x : PV), pmin x xs = x ∨ pmin x xs ∈ xs
  | [], x => .inl rfl
  | y :: ys, x => by
    unfold pmin
    rw [List.foldl_cons]
    rcases pmin_mem ys (if plt y x then y else x) with h | h
    · have h' : (ys.foldl (fun a y => if plt y a then y else a) (if plt y x then y else x)) = (if plt y x then y else x) := h
      rw [h']
      split
      · exact .inr (by simp)
      · exact .inl rfl
    · exact .inr (List.mem_cons_of_mem _ h)
theorem pmin_data {L : List PV} (h1 : ∀ x ∈ L, isD x = true) (h2 : ∀ x ∈ L, ∀ y ∈ L, palk x y = true) : ∀ (xs : List PV) (x : PV), x ∈ L → (∀ y ∈ xs, y ∈ L) → PySem.W.minD (toD x) (toDs xs) = toD (pmin x xs)
  | [], x, _, _ => rfl
  | y :: ys, x, hx, hy => by
    have hyL := hy y (by simp)
    have e : PySem.W.dataLt (toD y) (toD x) = plt y x := lt_toD y x (h1 y hyL) (h1 x hx) (h2 y hyL x hx)
    unfold PySem.W.minD pmin
    simp only [toDs, List.foldl_cons]
    rw [e]
    have c : (if plt y x = true then toD y else toD x) = toD (if plt y x = true then y else x) := by split <;> rfl
    rw [c]
    exact pmin_data h1 h2 ys _ (by split <;> assumption) fun z hz => hy z (List.mem_cons_of_mem _ hz)
mutual
theorem toD_inj : ∀ x y : PV, isD x = true → isD y = true → toD x = toD y → x = y
  | .non, y, _, hy, e => by cases y <;> first | rfl | (cases hy; done) | (simp [toD] at e)
  | .bl _, y, _, hy, e => by cases y <;> first | (cases hy; done) | (simp [toD] at e; try rw [e])
  | .int _, y, _, hy, e => by cases y <;> first | (cases hy; done) | (simp [toD] at e; try rw [e])
  | .str _, y, _, hy, e => by
    cases y with
    | str z => simp only [toD, PyData.str.injEq] at e; rw [s2_inj e]
    | _ => first | (cases hy; done) | (simp [toD] at e)
  | .tup xs, y, hx, hy, e => by
    cases y with
    | tup ys => simp only [toD, PyData.tuple.injEq] at e; rw [toDs_inj xs ys (by simpa [isD] using hx) (by simpa [isD] using hy) e]
    | _ => first | (cases hy; done) | (simp [toD] at e)
  | .lst xs, y, hx, hy, e => by
    cases y with
    | lst ys => simp only [toD, PyData.list.injEq] at e; rw [toDs_inj xs ys (by simpa [isD] using hx) (by simpa [isD] using hy) e]
    | _ => first | (cases hy; done) | (simp [toD] at e)
  | .set _, _, hx, _, _ => by cases hx
  | .dct _, _, hx, _, _ => by cases hx
  | .obj _ _, _, hx, _, _ => by cases hx
  | .loc _, _, hx, _, _ => by cases hx
  | .ty _, _, hx, _, _ => by cases hx
  | .scr _, _, hx, _, _ => by cases hx
theorem toDs_inj : ∀ xs ys : List PV, isDs xs = true → isDs ys = true → toDs xs = toDs ys → xs = ys
  | [], [], _, _, _ => rfl
  | [], _ :: _, _, _, e => by simp [toDs] at e
  | _ :: _, [], _, _, e => by simp [toDs] at e
  | x :: xs, y :: ys, hx, hy, e => by
    simp only [isDs, Bool.and_eq_true] at hx hy
    simp only [toDs, List.cons.injEq] at e
    rw [toD_inj x y hx.1 hy.1 e.1, toDs_inj xs ys hx.2 hy.2 e.2]
end
theorem isDs_of : ∀ {xs : List PV}, (∀ x ∈ xs, isD x = true) → isDs xs = true
  | [], _ => rfl
  | x :: xs, h => by simp only [isDs, h x (by simp), isDs_of fun y hy => h y (List.mem_cons_of_mem _ hy), Bool.and_self]
theorem pdeps_le : ∀ {xs : List PV} {n : Nat}, (∀ x ∈ xs, pdep x ≤ n) → pdeps xs ≤ n
  | [], _, _ => Nat.zero_le _
  | x :: xs, n, h => by
    have h1 := h x (by simp)
    have h2 := pdeps_le fun y hy => h y (List.mem_cons_of_mem _ hy)
    simp only [pdeps]; omega
theorem toDs_mem : ∀ {xs : List PV} {d : PyData}, d ∈ toDs xs → ∃ x ∈ xs, toD x = d
  | [], _, h => by simp [toDs] at h
  | x :: xs, d, h => by
    simp only [toDs, List.mem_cons] at h
    rcases h with h | h
    · exact ⟨x, by simp, h.symm⟩
    · obtain ⟨y, h1, h2⟩ := toDs_mem h
      exact ⟨y, List.mem_cons_of_mem _ h1, h2⟩
theorem toDs_get : ∀ (xs : List PV) (i : Nat), (toDs xs)[i]? = (xs[i]?).map toD
  | [], i => by simp [toDs]
  | x :: xs, 0 => by simp [toDs]
  | x :: xs, i + 1 => by simpa [toDs] using toDs_get xs i
theorem reads_get {h : Heap} : ∀ {vs : List Value} {ds : List PyData} {as : List Addr} (i : Nat) {v : Value}, ReadsAll h vs ds as → vs[i]? = some v → ∃ d bs, ds[i]? = some d ∧ Reads h v d bs
  | _, _, _, _, _, .nil, e => by simp at e
  | _, _, _, 0, _, .cons r _, e => by simp at e; subst e; exact ⟨_, _, rfl, r⟩
  | _, _, _, i + 1, _, .cons _ rs, e => by
    obtain ⟨d, bs, h1, h2⟩ := reads_get i rs (by simpa using e)
    exact ⟨d, bs, by simpa using h1, h2⟩
def rMinD (X : Cx) (T : Tabs) : List V → Hp → VK → Prop := fun us H Q => ∃ (ad : Addr) (vs : List V) (x : PV) (xs : List PV) (w : Wo) (st : Store), us = [.ref ad] ∧ H ad = some (.lst vs) ∧ Wr (Cx.g X T) w st H ∧ RepL (Cx.g X T) w H vs (x :: xs) ∧ okMin (x :: xs) = true ∧ ∀ v, Rep (Cx.g X T) w H v (pmin x xs) → Q v H
theorem cr_minD (hu : X.A.units + 64 < cLine) (hc : X.calm = true) : CallR X (.builtin "min") (rMinD X T) := by
  intro pins s σ H us uv Q I r ⟨ad, vs, x, xs, w, st, e1, hH, wr, rl, ok, q⟩
  subst e1
  cases r with | cons r1 r2 =>
  cases r2
  cases (show _ = Value.ref ad from r1)
  obtain ⟨h1, h2⟩ := okMin_ok ok
  have hD : ∀ y ∈ x :: xs, isD y = true := fun y hy => (h1 y hy).1
  have dp : Dp X.K H (.ref ad) (.list (toDs (x :: xs))) := .lst (.inl (.inl hH)) (rl.dp (isDs_of hD))
  obtain ⟨as, rd⟩ := Dp.reads I _ _ (Value.ref ad) dp rfl
  obtain ⟨its, rv, pl, hz⟩ := I.list (.inl (.inl hH))
  cases rd with
  | @list _ ob vv n _ bs g1 g2 g3 ra =>
  obtain ⟨o2, n2, k1, k2, _, k3⟩ := id pl
  rw [g1] at k1; cases k1
  rw [g3] at k3; cases k3
  have dep : PyData.depthAll (toDs (x :: xs)) ≤ 50 := by rw [depths_toD]; exact pdeps_le fun y hy => (h1 y hy).2.1
  refine PySem.W.min_list_data (x := toD x) (xs := toDs xs) (I.ok.hd hc) pl.isList ra ⟨fun d hd d' hd' => ?_, fun d hd => ?_⟩ (by show X.A.units + 1 + PyData.depthAll (toDs (x :: xs)) < cLine; omega) fun i v h' tk bs' hi hr kp => ?_
  · obtain ⟨y, m1, rfl⟩ := toDs_mem (xs := x :: xs) hd
    obtain ⟨y', m2, rfl⟩ := toDs_mem (xs := x :: xs) hd'
    rw [alk_toD y y' (hD y m1) (hD y' m2)]
    exact h2 y m1 y' m2
  · obtain ⟨y, m1, rfl⟩ := toDs_mem (xs := x :: xs) hd
    have := (h1 y m1).2.2
    have k := hD y m1
    cases y <;> first | (cases k; done) | (cases this; done) | simp [toD]
  · have hi' : its[i]? = some v := by simpa using hi
    rw [pmin_data hD h2 xs x (by simp) fun y hy => by simp [hy]] at hr
    obtain ⟨d, cs, z1, z2⟩ := reads_get i ra (by simpa using hi)
    rw [toDs_get] at z1
    cases z3 : (x :: xs)[i]? with
    | none => rw [z3] at z1; cases z1
    | some y =>
      rw [z3] at z1
      cases z1
      have my : y ∈ x :: xs := List.mem_of_getElem? z3
      obtain ⟨u, f1, f2⟩ := rl.get i z3
      obtain ⟨v', f3, f4⟩ := rv.get f1
      rw [hi'] at f3
      cases f3
      have hm : pmin x xs ∈ x :: xs := by
        rcases pmin_mem xs x with e | e
        · rw [e]; simp
        · exact List.mem_cons_of_mem _ e
      have lay : (toD y).canLay0 = true := Rep.lay f2 (hD y my)
      have ed : toD y = toD (pmin x xs) := SeqAt.Reads.unique _ _ _ _ _ lay (PyProof.Rows.Reads.keeps kp z2) hr
      have ey := toD_inj y (pmin x xs) (hD y my) (hD _ hm) ed
      subst ey
      exact ⟨u, H, I.kept (t' := tk) kp, f4, q u f2⟩
theorem c1_minA : Call1 X T (fun xs H Q => (∃ i j, xs = [.int i, .int j] ∧ Q (.int (if j < i then j else i)) H) ∨ rMinD X T xs H Q) gMinA := by
  intro w st H vs xs z Q wr vw e af
  unfold gMinA at e
  split at e
  · split at e
    · rename_i ok
      cases e
      obtain ⟨v, rfl, vv⟩ := VwL1 vw
      cases vv with
      | lst s r => exact .inr ⟨_, _, _, _, w, st, rfl, s, wr, r, ok, fun v rv => af.here wr rv⟩
    · cases e
  · exact .inl (c1_min2 w st H vs xs z Q wr vw e af)
theorem k_minA (ha : PPA X T W (e :: es) fr) (hu : X.A.units + 64 < cLine) (hc : X.calm = true) (hm : X.mg "min" = none) (hg : glB X.env.scope "min" = true := by kernel_rfl) (he : starEach (e :: es) X.env = (false, eval e X.env) :: starEach es X.env := by rfl) (hpl : (backTo pos (starEach es X.env)).any (·.1) = false := by rfl) : PP X T W (.Call (.Name "min" p) (e :: es) [] pos) (eB gMinA fr) :=
  pp_callB (CallR.or (call_min2 hc) (cr_minD hu hc)) c1_minA (gl_of hg) hm (by decide +kernel) ha (by decide +kernel) (by decide +kernel) he hpl
end
end Eg

/-! E36: heads and ends with tables of code objects. -/
namespace Eg
open PySem PySem.Spec PyProof.Rows L2
/-! ### the hook -/
structure SaysY (ck : List (PySem.W.Frag → Bool)) (fn : List DfX) (tf : List He.Defn) (h : Heap) (K : PySem.W.Frag) : Prop where
  x : SaysX ck fn K
  hd : ∀ p ∈ tf, PySem.W.codeHdIn K (He.cT K p).1 (He.cT K p).2 = true
  out : ∀ p ∈ tf, K.lookup (He.cT K p).2 = none
  emp : ∀ p ∈ tf, h.get? (He.cT K p).2 = some { cls := .none, data := .fields #[] }
def obsY (n : Nat) (ck : List (PySem.W.Frag → Bool)) (fn : List DfX) (tf : List He.Defn) (g : Addr → Option Obj) : He.AlD := ((obsX ck fn (He.frT g (He.asD g n))).1 && He.tabsB g tf (He.frT g (He.asD g n)), (obsX ck fn (He.frT g (He.asD g n))).2)
theorem saysY_of {n : Nat} {ck : List (PySem.W.Frag → Bool)} {fn : List DfX} {tf : List He.Defn} {h : Heap} (e : obsY n ck fn tf h.get? = valX fn) : SaysY ck fn tf h (He.frT h.get? (He.asD h.get? n)) := by
  have z1 := congrArg (fun z : He.AlD => z.1) e
  have z2 := congrArg (fun z : He.AlD => z.2) e
  simp only [obsY] at z1 z2
  have z1' : ((obsX ck fn (He.frT h.get? (He.asD h.get? n))).1 && He.tabsB h.get? tf (He.frT h.get? (He.asD h.get? n))) = true := z1
  rw [Bool.and_eq_true] at z1'
  have key : ∀ p ∈ tf, PySem.W.codeHdIn (He.frT h.get? (He.asD h.get? n)) (He.cT (He.frT h.get? (He.asD h.get? n)) p).1 (He.cT (He.frT h.get? (He.asD h.get? n)) p).2 = true ∧ ∃ o, h.get? (He.cT (He.frT h.get? (He.asD h.get? n)) p).2 = some o ∧ He.emptyTab o = true := fun p hp => by
    have k := List.all_eq_true.mp z1'.2 p hp
    rw [Bool.and_eq_true] at k
    refine ⟨k.1, ?_⟩
    cases q : h.get? (He.cT (He.frT h.get? (He.asD h.get? n)) p).2 with
    | none => rw [q] at k; cases k.2
    | some o => rw [q] at k; exact ⟨o, rfl, k.2⟩
  refine ⟨Prod.ext z1'.1 z2, fun p hp => (key p hp).1, fun p hp => ?_, fun p hp => ?_⟩
  · obtain ⟨_, o, q, z⟩ := key p hp
    exact He.frT_none q z
  · obtain ⟨_, o, q, z⟩ := key p hp
    rw [q, He.emptyTab_eq z]
def hookY (n : Nat) (ck : List (PySem.W.Frag → Bool)) (fn : List DfX) (tf : List He.Defn) : PySem.W.Hook where
  α := He.AlD
  obs s := obsY n ck fn tf s.heap.get?
  val _ := valX fn
  says _ h := ∃ K : PySem.W.Frag, K.In h ∧ SaysY ck fn tf h K
  of _ _ e := ⟨_, He.frT_in, saysY_of e⟩
  keeps _ _ _ z k := by
    obtain ⟨K, hK, c⟩ := z
    exact ⟨K, hK.keeps k, c.x, c.hd, c.out, fun p hp => k _ _ (c.emp p hp)⟩
theorem obsY_eq {n : Nat} {ck : List (PySem.W.Frag → Bool)} {fn : List DfX} {tf : List He.Defn} {g : Addr → Option Obj} {s : Shared} (h : ∀ a, g a = s.heap.get? a) : obsY n ck fn tf g = (hookY n ck fn tf).obs s := by
  have e : g = s.heap.get? := funext h
  subst e
  rfl
/-! ### the end -/
section
variable {P : Program} {w : World} {K : PySem.W.Frag} {mg mb : Str → Option Value}
theorem end_tab {k : Nat} {f a : Addr} {fd : FuncData} {x : Str} {sp : Sp} {s1 : Shared} {us : List Value} {ns : List Int} {cs : List (Addr × Addr)} {H : Hp} (kin : K.In s1.heap) (gN : s1.heap.Ns mainGlobals mg) (bN : s1.heap.Ns builtinsNs mb) (bB : ∀ y : Str, y ≠ "__name__" → mb y = bootBuiltins y)
    (lim : s1.heap.NoLimit) (g0 : s1.gens = #[]) (tE0 : ∀ p ∈ cs, s1.heap.get? p.2 = some { cls := .none, data := .fields #[] }) (tN : ∀ p ∈ cs, K.lookup p.2 = none) (tC : ∀ p ∈ cs, PySem.W.CodeHd s1.heap p.1 p.2)
    (bm : ∃ (b : Addr) (o : Obj), mg "__builtins__" = some (.ref b) ∧ b ≠ builtinsNs ∧ s1.heap.get? b = some o ∧ o.cls = .type "module" ∧ o.dict = some builtinsNs ∧ o.data = .plain)
    (ob : s1.heap.get? a = some { cls := .type "list", data := .seq us.toArray }) (room : Room k callerA)
    (F : ∀ base : Heap, K.In base → base.Ns mainGlobals mg → (∀ p ∈ cs, LamX.TabB base mg p.1 p.2) → FnG P w K mg base k f fd [x] sp)
    (bnd : ∀ (s : Shared) (u : Value), BindsTo s fd ⟨[u], []⟩ [(x, u)]) (hTb : ∀ p ∈ cs, H p.2 = some (.tbl #[])) (only : ∀ b, H b = none ∨ b ∈ cs.map (·.2) ∨ ∃ o xs, H b = some (.frz o (.lst xs))) (hok : HOk P w H s1.heap) (alone : ∀ b, H b ≠ none → b = a ∨ b ∈ cs.map (·.2)) (kno : H a ≠ none → K.lookup a = none)
    (h : sp [.ref a] H (fun v _ => v = .bl true) (fun _ _ _ => False)) : codeAny (model P w) callerA (.call (.ref f) ⟨[.ref a], []⟩) (EndQ s1) s1 := by
  have tab : ∀ b, b ∈ cs.map (·.2) → s1.heap.get? b = some { cls := .none, data := .fields #[] } := fun b hb => by
    obtain ⟨p, m, e⟩ := List.mem_map.mp hb
    exact e ▸ tE0 p m
  have plainN : ∀ {b : Addr} {o : Obj}, s1.heap.get? b = some o → (∀ z n, o.data ≠ .seq z n) → o.data ≠ .fields #[] → H b = none := by
    intro b o e n1 n2
    refine Classical.byContradiction fun z => ?_
    rcases alone b z with eb | eb
    · subst eb
      rw [ob] at e
      cases e
      exact n1 _ _ rfl
    · rw [tab b eb] at e
      cases e
      exact n2 rfl
  have ns1 : ∀ {b : Addr} {m : Str → Option Value}, s1.heap.Ns b m → (hidT s1.heap H).Ns b m := by
    rintro b m ⟨o, es, ep, e, d, r⟩
    exact ⟨o, es, ep, hidT_get e (plainN e (fun z n q => by rw [d] at q; cases q) fun q => by rw [d] at q; cases q), d, r⟩
  have kin1 : K.In (hidT s1.heap H) := by
    intro b o e
    refine hidT_get (kin b o e) (Classical.byContradiction fun z => ?_)
    rcases alone b z with eb | eb
    · subst eb
      rw [kno z] at e
      cases e
    · obtain ⟨p, m, ep⟩ := List.mem_map.mp eb
      rw [← ep, tN p m] at e
      cases e
  obtain ⟨mc, l1, l2⟩ := lim
  have md : Mod K mg (hidT s1.heap H) := ⟨kin1, ns1 gN, ⟨mb, ns1 bN, bB⟩, ⟨mc, ns1 l1, l2⟩⟩
  have TB : ∀ p ∈ cs, LamX.TabB (hidT s1.heap H) mg p.1 p.2 := by
    intro p m
    have tp := tE0 p m
    obtain ⟨og, eg, pg, ge, gd, _⟩ := gN
    refine ⟨?_, ?_, fun z => ?_⟩
    · obtain ⟨o, vs, file, tf, fl, tg, inF, tx, tt, c1, c2, c3, c4⟩ := tC p m
      refine ⟨o, vs, file, tf, fl, tg, inF, tx, tt, hidT_get c1 (plainN c1 (fun z n q => by rw [c3] at q; cases q) fun q => ?_), c2, c3, c4⟩
      rw [c3] at q
      cases q
      simp at c4
    · obtain ⟨b, o, b1, b2, b3, b4, b5, b6⟩ := bm
      refine ⟨b, o, b1, b2, fun q => ?_, fun q => ?_, hidT_get b3 (plainN b3 (fun z n q => by rw [b6] at q; cases q) fun q => by rw [b6] at q; cases q), b4, b5, b6⟩
      · rw [q, ge] at b3
        cases b3
        rw [gd] at b6
        cases b6
      · rw [q, tp] at b3
        cases b3
        cases b6
    · rw [z, tp] at ge
      cases ge
      cases gd
  have env : Env0 P w K mg (hidT s1.heap H) callerA [] s1 H := by
    refine ⟨rfl, md, fun b o e => of_hidT e, Nat.le_of_eq (hidT_size _ _), trivial, fun b hb => ?_, hok, .of_eq g0⟩
    exact absurd (show b ∈ ([] : List Addr) from hb) (by simp)
  have run := (F _ kin1 (ns1 gN) TB).run callerA [] s1 H ⟨[.ref a], []⟩ [.ref a] [.ref a] _ _ room rfl env (bnd s1 (.ref a)) (.cons rfl .nil) h
  refine codeAny_mono run fun r s' q => ?_
  cases r with
  | error e =>
    exact (False.elim (by
      revert q
      unfold CR L2.CX
      simp))
  | ok fl =>
    cases fl with
    | ret u =>
      obtain ⟨v, H', os, bare, un, hok', r', qv⟩ := q
      cases (show v = .bl true from qv)
      cases (show u = Value.bool true from r')
      have grown : ∀ p ∈ cs, ∃ more : Array Value, s'.heap.get? p.2 = some { cls := .none, data := .fields more } := fun p m => by
        obtain ⟨more, z⟩ := un.tbls p.2 #[] (hTb p m)
        exact ⟨_, hok' p.2 _ z⟩
      have kept : ∀ b o, b ∉ cs.map (·.2) → s1.heap.get? b = some o → s'.heap.get? b = some o := fun b o nb e => by
        rcases only b with z | z | ⟨o2, xs, z⟩
        · exact un.keep b o e z (fun y => absurd (show b ∈ ([] : List Addr) from y) (by simp)) (by simp)
        · exact absurd z nb
        · have e1 := (hok b _ z).1
          have e2 := (hok' b _ (un.frzs b o2 _ z)).1
          rw [e] at e1
          cases e1
          exact e2
      refine ⟨rfl, ⟨fun b o e => ?_, fun b o e => ?_⟩, os, bare⟩
      · by_cases hb : b ∈ cs.map (·.2)
        · obtain ⟨p, m, ep⟩ := List.mem_map.mp hb
          obtain ⟨more, hm⟩ := grown p m
          subst ep
          rw [tE0 p m] at e
          cases e
          exact .inr (.inl ⟨((tC p m).tab (tE0 p m)).isCodeTable, rfl, #[], more, rfl, by rw [Array.empty_append]; exact hm⟩)
        · exact .inl (kept b o hb e)
      · by_cases hb : b ∈ cs.map (·.2)
        · obtain ⟨p, m, ep⟩ := List.mem_map.mp hb
          obtain ⟨more, hm⟩ := grown p m
          exact ⟨_, ep ▸ hm⟩
        · exact ⟨o, kept b o hb e⟩
    | next => exact q.elim
    | brk => exact q.elim
    | cont => exact q.elim
theorem end_callT {k : Nat} {f a : Addr} {fd : FuncData} {x : Str} {sp : Sp} {s1 : Shared} {us : List Value} {ns : List Int} {cs : List (Addr × Addr)} (kin : K.In s1.heap) (gN : s1.heap.Ns mainGlobals mg) (bN : s1.heap.Ns builtinsNs mb) (bB : ∀ y : Str, y ≠ "__name__" → mb y = bootBuiltins y)
    (lim : s1.heap.NoLimit) (g0 : s1.gens = #[]) (tE0 : ∀ p ∈ cs, s1.heap.get? p.2 = some { cls := .none, data := .fields #[] }) (tN : ∀ p ∈ cs, K.lookup p.2 = none) (tC : ∀ p ∈ cs, PySem.W.CodeHd s1.heap p.1 p.2)
    (bm : ∃ (b : Addr) (o : Obj), mg "__builtins__" = some (.ref b) ∧ b ≠ builtinsNs ∧ s1.heap.get? b = some o ∧ o.cls = .type "module" ∧ o.dict = some builtinsNs ∧ o.data = .plain)
    (ob : s1.heap.get? a = some { cls := .type "list", data := .seq us.toArray }) (hi : IntsAre us ns) (hl : ns.length ≤ sizeLine) (room : Room k callerA)
    (F : ∀ base : Heap, K.In base → base.Ns mainGlobals mg → (∀ p ∈ cs, LamX.TabB base mg p.1 p.2) → FnG P w K mg base k f fd [x] sp)
    (bnd : ∀ (s : Shared) (u : Value), BindsTo s fd ⟨[u], []⟩ [(x, u)]) (h : ∀ H : Hp, (∀ p ∈ cs, H p.2 = some (.tbl #[])) → SqL K H a (ns.map V.int) → sp [.ref a] H (fun v _ => v = .bl true) (fun _ _ _ => False)) : codeAny (model P w) callerA (.call (.ref f) ⟨[.ref a], []⟩) (EndQ s1) s1 := by
  have rv := vals_ints hi
  have lv := hi.length
  have tab : ∀ b, b ∈ cs.map (·.2) → s1.heap.get? b = some { cls := .none, data := .fields #[] } := fun b hb => by
    obtain ⟨p, m, e⟩ := List.mem_map.mp hb
    exact e ▸ tE0 p m
  have mem : ∀ p ∈ cs, p.2 ∈ cs.map (·.2) := fun p m => List.mem_map.mpr ⟨p, m, rfl⟩
  have aT : a ∉ cs.map (·.2) := fun z => by
    have q := tab a z
    rw [ob] at q
    cases q
  cases hk : K.lookup a with
  | some o =>
    have e := kin a o hk
    rw [ob] at e
    cases e
    let H0 : Hp := fun b => if b ∈ cs.map (·.2) then some (.tbl #[]) else none
    have h1 : ∀ b, b ∈ cs.map (·.2) → H0 b = some (.tbl #[]) := fun b hb => if_pos hb
    have h2 : ∀ b, b ∉ cs.map (·.2) → H0 b = none := fun b hb => if_neg hb
    have sq : SqL K H0 a (ns.map V.int) := .inr ⟨_, us.toArray, _, hk, rfl, rfl, rfl, by rw [List.size_toArray, lv]; exact hl, by simpa using rv⟩
    refine end_tab (H := H0) (ns := ns) kin gN bN bB lim g0 tE0 tN tC bm ob room F bnd (fun p m => h1 _ (mem p m)) (fun b => ?_) (fun b u z => ?_) (fun b z => ?_) (fun z => absurd (h2 a aT) z) (h _ (fun p m => h1 _ (mem p m)) sq)
    · by_cases hb : b ∈ cs.map (·.2)
      · exact .inr (.inl hb)
      · exact .inl (h2 b hb)
    · by_cases hb : b ∈ cs.map (·.2)
      · rw [h1 b hb] at z
        cases z
        exact tab b hb
      · rw [h2 b hb] at z; cases z
    · exact .inr (Classical.byContradiction fun hb => z (h2 b hb))
  | none =>
    let H0 : Hp := fun b => if b = a then some (.frz { cls := .type "list", data := .seq us.toArray } (.lst (ns.map V.int))) else if b ∈ cs.map (·.2) then some (.tbl #[]) else none
    have ha : H0 a = some (.frz { cls := .type "list", data := .seq us.toArray } (.lst (ns.map V.int))) := if_pos rfl
    have h1 : ∀ b, b ∈ cs.map (·.2) → H0 b = some (.tbl #[]) := fun b hb => (if_neg (show ¬ b = a from fun z => aT (z ▸ hb))).trans (if_pos hb)
    have h2 : ∀ b, b ≠ a → b ∉ cs.map (·.2) → H0 b = none := fun b hb hc => (if_neg hb).trans (if_neg hc)
    refine end_tab (H := H0) (ns := ns) kin gN bN bB lim g0 tE0 tN tC bm ob room F bnd (fun p m => h1 _ (mem p m)) (fun b => ?_) (fun b u z => ?_) (fun b z => ?_) (fun _ => hk) (h _ (fun p m => h1 _ (mem p m)) (.inl (.inr ⟨_, ha⟩)))
    · by_cases hb : b = a
      · subst hb; exact .inr (.inr ⟨_, _, ha⟩)
      · by_cases hc : b ∈ cs.map (·.2)
        · exact .inr (.inl hc)
        · exact .inl (h2 b hb hc)
    · by_cases hb : b = a
      · subst hb
        rw [ha] at z
        cases z
        exact ⟨ob, by rw [List.length_map]; exact hl, us, _, rv, ob⟩
      · by_cases hc : b ∈ cs.map (·.2)
        · rw [h1 b hc] at z
          cases z
          exact tab b hc
        · rw [h2 b hb hc] at z; cases z
    · by_cases hb : b = a
      · exact .inl hb
      · exact .inr (Classical.byContradiction fun hc => z (h2 b hb hc))
end
/-- the tables of the law: code objects with their tables, the lambdas' names -/
theorem walk_endT {l : PySem.W.OpenLaw} {n k : Nat} {q : Program} {loose : List Str} {XP : (Str → Option Value) → Heap → Prop} {YP : World → Heap → Prop} {d : DefRec} {x : Str} {T : PySem.W.Frag → Tabs} {cs : PySem.W.Frag → List (Addr × Addr)} {F : Fn}
    (hn : l.most = some n) (hn2 : n ≤ sizeLine) (hdf : d.params.defaults = []) (hr : Room k callerA)
    (hF : ∀ ns : List Int, ns.length ≤ n → ∃ st', F [.scr ns] Store.empty = .ok (.bl true) st') (htb : ∀ K, ∀ p ∈ (T K).tb, ∃ c, (c, p.1) ∈ cs K)
    (prom : ∀ (w : World) (mg : Str → Option Value) (fa : Addr) (h : Heap), YP w h → h.Ns mainGlobals mg → mg d.name = some (.ref fa) →
      ∃ (K : PySem.W.Frag) (fd : FuncData), K.In h ∧ (∀ p ∈ cs K, h.get? p.2 = some { cls := .none, data := .fields #[] }) ∧ (∀ p ∈ cs K, K.lookup p.2 = none) ∧ (∀ p ∈ cs K, PySem.W.CodeHd h p.1 p.2) ∧
        (∀ (s : Shared) (u : Value), BindsTo s fd ⟨[u], []⟩ [(x, u)]) ∧ ∀ base : Heap, K.In base → base.Ns mainGlobals mg → (∀ p ∈ cs K, LamX.TabB base mg p.1 p.2) → FnG l.prog w K mg base k fa fd [x] (spF ⟨K, l.prog, w, T K⟩ 1 F)) :
    PySem.W.WalkO q loose XP YP l.row.toRowW d [] (fun f vs => PySem.call f vs) := by
  refine Att.attach_call hn hdf fun w s0 s1 mg mb fa o pm cd doc a us ns G Y ho hd hcd hmg hob hin hle hgen => ?_
  obtain ⟨K, fd, kin, t1, t2, t3, bnd, f⟩ := prom w mg fa _ Y G.T.g hmg
  obtain ⟨st', e⟩ := hF ns hle
  refine end_callT kin G.T.g G.T.b G.T.builtins G.T.nolimit hgen t1 t2 t3 G.T.bmain hob hin (Nat.le_trans hle hn2) hr f bnd fun H hT sq => sp_start (fun p hp => ?_) sq e
  obtain ⟨c, m⟩ := htb K p hp
  exact ⟨fun z => z, #[], hT _ m, True.intro, fun pos cv hc => by simp [codeAmong] at hc⟩
end Eg

/-! E37: a call by values runs on a store of its own. -/
namespace Eg
open PySem PySem.Spec PyProof.Rows L2
mutual
/-- no location within -/
def locF : PV → Bool
  | .loc _ => false
  | .tup xs => locFs xs
  | .lst xs => locFs xs
  | .set xs => locFs xs
  | .dct kvs => locFd kvs
  | .obj _ fs => locFo fs
  | _ => true
def locFs : List PV → Bool
  | [] => true
  | x :: xs => locF x && locFs xs
def locFd : List (PV × PV) → Bool
  | [] => true
  | (k, v) :: r => locF k && locF v && locFd r
def locFo : List (Nat × PV) → Bool
  | [] => true
  | (_, v) :: r => locF v && locFo r
end
section
variable {G : Cfg} {w w' : Wo} {H : Hp}
mutual
/-- what no location stands in is read by D alone -/
theorem Rep.byD (hd : ∀ a, w'.D a ↔ w.D a) : ∀ {v : V} {x : PV}, Rep G w H v x → locF x = true → Rep G w' H v x
  | _, _, .non, _ => .non
  | _, _, .bl b, _ => .bl b
  | _, _, .int i, _ => .int i
  | _, _, .str x h, _ => .str x h
  | _, .tup xs, .tup h r, e => .tup ⟨fun z => h.1 ((hd _).mp z), h.2⟩ (RepL.byD hd r (by simpa [locF] using e))
  | _, .lst xs, .lst d h r, e => .lst (fun z => d ((hd _).mp z)) h (RepL.byD hd r (by simpa [locF] using e))
  | _, .set xs, .pr d h r, e => .pr (fun z => d ((hd _).mp z)) h (RepL.byD hd r (by simpa [locF] using e))
  | _, .dct kvs, .dcK d h r, e => .dcK (fun z => d ((hd _).mp z)) h (RepK.byD hd r (by simpa [locF] using e))
  | _, .dct kvs, .dcT d h n r, e => .dcT (fun z => d ((hd _).mp z)) h n (RepT.byD hd r (by simpa [locF] using e))
  | _, .obj _ fs, .obj d h r, e => .obj (fun z => d ((hd _).mp z)) h (RepF.byD hd r (by simpa [locF] using e))
  | _, _, .loc _, e => by cases e
  | _, _, .ty n, _ => .ty n
  | _, _, .scr h, _ => .scr (by
    rcases h with ⟨h1, h2⟩ | h
    · exact .inl ⟨fun z => h1 ((hd _).mp z), h2⟩
    · exact .inr h)
theorem RepL.byD (hd : ∀ a, w'.D a ↔ w.D a) : ∀ {vs : List V} {xs : List PV}, RepL G w H vs xs → locFs xs = true → RepL G w' H vs xs
  | _, _, .nil, _ => .nil
  | _, x :: xs, .cons a b, e => by
    simp only [locFs, Bool.and_eq_true] at e
    exact .cons (Rep.byD hd a e.1) (RepL.byD hd b e.2)
theorem RepF.byD (hd : ∀ a, w'.D a ↔ w.D a) : ∀ {vs : List (Str × V)} {xs : List (Nat × PV)}, RepF G w H vs xs → locFo xs = true → RepF G w' H vs xs
  | _, _, .nil, _ => .nil
  | _, (n, x) :: xs, .cons a b, e => by
    simp only [locFo, Bool.and_eq_true] at e
    exact .cons (Rep.byD hd a e.1) (RepF.byD hd b e.2)
theorem RepK.byD (hd : ∀ a, w'.D a ↔ w.D a) : ∀ {vs : List (Key × V)} {xs : List (PV × PV)}, RepK G w H vs xs → locFd xs = true → RepK G w' H vs xs
  | _, _, .nil, _ => .nil
  | _, _ :: xs, .cons ok a b, e => by
    simp only [locFd, Bool.and_eq_true] at e
    exact .cons ok (Rep.byD hd a e.1.2) (RepK.byD hd b e.2)
theorem RepT.byD (hd : ∀ a, w'.D a ↔ w.D a) : ∀ {vs : List NKV} {xs : List (PV × PV)}, RepT G w H vs xs → locFd xs = true → RepT G w' H vs xs
  | _, _, .nil, _ => .nil
  | _, _ :: xs, .cons t k q a b, e => by
    simp only [locFd, Bool.and_eq_true] at e
    exact .cons t k (Rep.byD hd q e.1.1) (Rep.byD hd a e.1.2) (RepT.byD hd b e.2)
end
end
/-- F on a store of its own, where its arguments and what it gives are values -/
def iso (F : Fn) : Fn := fun xs st => if locFs xs = true then
    match F xs Store.empty with
    | .ok x _ => if locF x = true then .ok x st else .bad
    | .exc e _ => if locFo e.fs = true then .exc e st else .bad
    | .bad => .bad
  else F xs st
/-- the world without its locations -/
def Wo.bare (w : Wo) : Wo := ⟨w.D, fun _ => none⟩
section
variable {G : Cfg} {w w1 : Wo} {H H1 : Hp} {st st1 : Store}
theorem Wr.bare (wr : Wr G w st H) : Wr G w.bare Store.empty H where
  cell l c e := by
    have : Store.empty.get l = none := rfl
    rw [this] at e; cases e
  inj l l' a e := by cases e
  trk a d := wr.trk a d
  ran l a e := by cases e
  tab := wr.tab
  nic a o d e := wr.nic a o d e
/-- back from it -/
theorem bare_back (wr : Wr G w st H) (le : Le w.bare H w1 H1) (wr1 : Wr G w1 st1 H1) : Le w H ⟨w1.D, w.η⟩ H1 ∧ Wr G ⟨w1.D, w.η⟩ st H1 := by
  have nl : ∀ (a : Addr) (l : Nat), w.bare.η l ≠ some a := fun a l z => by cases z
  have l2 : Le w H ⟨w1.D, w.η⟩ H1 := ⟨fun _ _ h => h, fun _ _ h => .inl h, le.fix, fun a o _ k => le.keep a o (.inr (nl a)) k, le.dom, fun a d n _ => le.hid a d n (nl a), fun a o d _ e => le.ex a o d (nl a) e⟩
  refine ⟨l2, ⟨fun l c e => ?_, wr.inj, wr1.trk, fun l a e => ⟨le.dom a (wr.ran l a e).1, (wr.ran l a e).2⟩, wr1.tab, wr1.nic⟩⟩
  obtain ⟨a, h1, h2⟩ := wr.cell l c e
  refine ⟨a, h1, h2.mono l2 (wr.ran l a h1).1 (fun d => le.hid a d (wr.ran l a h1).1 (nl a)) fun d => ?_⟩
  cases q : H a with
  | none => exact absurd q (wr.ran l a h1).1
  | some o => exact le.ex a o d (nl a) q
theorem iso_sp {n : Nat} {F : Fn} {vs : List V} {Q : VK} {E : XK} (h : spF G n (iso F) vs H Q E) : spF G n F vs H Q E := by
  obtain ⟨w, st, xs, hl, wr, r, p⟩ := h
  unfold iso at p
  by_cases hx : locFs xs = true
  · rw [if_pos hx] at p
    refine ⟨w.bare, Store.empty, xs, hl, wr.bare, r.byD (w := w) (w' := w.bare) (fun _ => Iff.rfl) hx, ?_⟩
    cases q : F xs Store.empty with
    | bad => rw [q] at p; exact p.elim
    | ok x st1 =>
      rw [q] at p
      dsimp only at p
      split at p
      · rename_i hx2
        intro w1 v H1 le wr1 rv
        obtain ⟨l2, wr2⟩ := bare_back wr le wr1
        exact p _ v H1 l2 wr2 (rv.byD (w := w1) (w' := ⟨w1.D, w.η⟩) (fun _ => Iff.rfl) hx2)
      · exact p.elim
    | exc e st1 =>
      rw [q] at p
      dsimp only at p
      split at p
      · rename_i hx2
        intro w1 cls d H1 le wr1 ex
        obtain ⟨l2, wr2⟩ := bare_back wr le wr1
        refine p _ cls d H1 l2 wr2 ⟨ex.1, ?_⟩
        rcases ex.2 with z | ⟨a, us, z1, z2, z3, z4⟩
        · exact .inl z
        · exact .inr ⟨a, us, z1, z2, z3, z4.byD (w := w1) (w' := ⟨w1.D, w.η⟩) (fun _ => Iff.rfl) hx2⟩
      · exact p.elim
  · rw [if_neg hx] at p
    exact ⟨w, st, xs, hl, wr, r, p⟩
end
section
variable {P : Program} {w : World} {K : PySem.W.Frag} {mg : Str → Option Value} {base : Heap} {T : Tabs}
theorem FnG.iso {k n : Nat} {f : Addr} {fd : FuncData} {ps : List Str} {F : Fn} (h : FnG P w K mg base k f fd ps (spF ⟨K, P, w, T⟩ n F)) : FnG P w K mg base k f fd ps (spF ⟨K, P, w, T⟩ n (Eg.iso F)) :=
  ⟨fun vs H Q E z => h.len vs H Q E (iso_sp z), fun A outer s H args us vs Q E h1 h2 h3 h4 h5 z => h.run A outer s H args us vs Q E h1 h2 h3 h4 h5 (iso_sp z)⟩
theorem CalW.iso {x : Str} {n k : Nat} {F : Fn} (c : CalW P w K mg base T x n F k) : CalW P w K mg base T x n (Eg.iso F) k := by
  obtain ⟨f, fd, ps, h1, h2⟩ := c.ex
  exact ⟨f, fd, ps, h1.iso, h2⟩
theorem MetW.iso {c : Nat} {m : Str} {n k : Nat} {F : Fn} (h : MetW P w K mg base T c m n F k) : MetW P w K mg base T c m n (Eg.iso F) k := by
  obtain ⟨f, fd, ps, h1, h2⟩ := h.ex
  exact ⟨h.cls, f, fd, ps, h1.iso, h2⟩
theorem PrpW.iso {c : Nat} {m : Str} {k : Nat} {F : Fn} (h : PrpW P w K mg base T c m F k) : PrpW P w K mg base T c m (Eg.iso F) k := by
  obtain ⟨q, f, fd, ps, h1, h2⟩ := h.ex
  exact ⟨h.cls, q, f, fd, ps, h1.iso, h2⟩
end
section
variable {X : Cx} {T : Tabs} {W : WX} {a b c e o : Expr} {es : List Expr} {fa fb fc fo : Fr → M PV} {fr : Fr → M (List PV)} {pos p apos : Pos}
theorem RunE.iso {F : Fn} {w : Wo} {st : Store} {ρ : Fr} {σ : L2.St} {H : Hp} {Q : VK} {xs : List PV} {us : List V} (h : RunE X T W (fun _ => Eg.iso F xs) w st ρ σ H Q) (r : RepL (Cx.g X T) w H us xs) : ∃ w0 st0 ρ0, RunE X T W (fun _ => F xs) w0 st0 ρ0 σ H Q ∧ RepL (Cx.g X T) w0 H us xs := by
  by_cases hx : locFs xs = true
  · refine ⟨w.bare, Store.empty, List.replicate σ.length none, ⟨h.wr.bare, ⟨by simp, fun i x q => ?_⟩, ?_⟩, r.byD (w := w) (w' := w.bare) (fun _ => Iff.rfl) hx⟩
    · rw [List.getElem?_replicate] at q
      split at q <;> cases q
    · have pq := h.post
      unfold Eg.iso at pq
      rw [if_pos hx] at pq
      cases q : F xs Store.empty with
      | bad => rw [q] at pq; exact pq.elim
      | ok x st1 =>
        rw [q] at pq
        dsimp only at pq
        split at pq
        · rename_i hx2
          intro w1 v H1 le wr1 rv
          obtain ⟨l2, wr2⟩ := bare_back h.wr le wr1
          exact pq _ v H1 l2 wr2 (rv.byD (w := w1) (w' := ⟨w1.D, w.η⟩) (fun _ => Iff.rfl) hx2)
        · exact pq.elim
      | exc e st1 =>
        rw [q] at pq
        dsimp only at pq
        split at pq
        · rename_i hx2
          intro w1 cls d H1 le wr1 ex
          obtain ⟨l2, wr2⟩ := bare_back h.wr le wr1
          refine pq _ cls d H1 l2 wr2 ⟨ex.1, ?_⟩
          rcases ex.2 with z | ⟨ad, us', z1, z2, z3, z4⟩
          · exact .inl z
          · exact .inr ⟨ad, us', z1, z2, z3, z4.byD (w := w1) (w' := ⟨w1.D, w.η⟩) (fun _ => Iff.rfl) hx2⟩
        · exact pq.elim
  · refine ⟨w, st, ρ, ⟨h.wr, h.fr, ?_⟩, r⟩
    have pq := h.post
    unfold Eg.iso at pq
    rw [if_neg hx] at pq
    exact pq
def eMakeI (c n : Nat) (F : Fn) (fr : Fr → M (List PV)) : Fr → M PV := fun ρ => fr ρ >>= fun xs => Eg.iso (mkO c n F) xs
theorem pp_makeI {x : Str} {ci n k j : Nat} {F : Fn} (m : MakW X.prog X.w X.K X.mg X.base T ci x n F k) (hr : Room j X.A) (hkj : k + 1 ≤ j) (hgd : X.A.guards = some []) (tk : Takes X W) (ha : PPA X T W (e :: es) fr) (h : okG X.env.scope x = true := by kernel_rfl)
    (he : starEach (e :: es) X.env = (false, eval e X.env) :: starEach es X.env := by rfl) (hpl : (backTo pos (starEach es X.env)).any (·.1) = false := by rfl) : PP X T W (.Call (.Name x p) (e :: es) [] pos) (eMakeI ci n F fr) := by
  unfold okG at h
  simp only [Bool.and_eq_true, Bool.not_eq_true'] at h
  obtain ⟨f, fd, ps, h1, M, hm, hb⟩ := m.ex
  refine ⟨fun pins s σ H Q I ⟨w, st, ρ, hh⟩ => ?_⟩
  refine wpAny_Call_Name_kw (ld_glob I (gl_of h.1) hm ?_ h.2)
  have ta : tA X T W fr σ H fun vs H1 => ∀ x dx, H1 x = none → H1 dx = none → dx ≠ x → spF (Cx.g X T) n F (.ref x :: vs) (upd (upd H1 dx (.own x)) x (.ins (T.cls ci) dx [])) (fun v H2 => v = .non ∧ Q (.ref x) H2) (WE W σ) :=
    RunE.aE (k := fun xs _ => Eg.iso (mkO ci n F) xs) hh fun w1 st1 xs vs H1 l r h1 => by
      obtain ⟨w0, st0, ρ0, h2, r2⟩ := h1.iso r
      exact mk_post h2 r2
  exact PySem.W.callWith_K (h₀ := X.base) I.ok.mod.kin M.kp (thn (ha.run pos pins s σ H _ I ta) fun us s1 ⟨vs, H1, I1, r, q⟩ => ⟨I1.kIn, run_mk M h1 (hr.mono hkj) hgd hb tk I1 r q⟩) he hpl
end
end Eg

/-! E38: {**d, k: v}; facts of a head for lambdas and exceptions. -/
namespace Eg
open PySem PySem.Spec PyProof.Rows L2
section
variable {prog : Program} {w : World} {K : Type} [DecidableEq K] {knd : PySem.KeyKind prog w K} {A : Around} {E : Value → Shared → Prop} {s : Shared}
theorem put_pairs {d : Addr} {kvs : List (K × Value)} {k : K} {key v : Value} {Q : Unit → Shared → Prop} (hkey : knd.is k key = true) (hm : s.heap.DictOf knd d kvs) (hsz : kvs.length ≤ sizeLine)
    (hQ : ∀ h', h'.DictOf knd d (stored kvs k v) → Heap.SameBut d s.heap h' → Q () { s with heap := h' }) : wpAny (model prog w) A (dictPut d (knd.hash k) key v) Q E s := by
  obtain ⟨o, es, ep, ho, hc, hd, hk, hp, hn⟩ := hm
  have hes : es.size ≤ sizeLine := by
    have e1 := hp.length
    have e2 : es.toList.length = es.size := by simp
    omega
  unfold dictPut
  refine wpAny_bind (wpAny_dictFind_of hkey ho hd hk ?_)
  have hidx : (es.findIdx? fun e => knd.is k e.key) = kvs.findIdx? fun kv => decide (kv.1 = k) := by
    rw [← hp.findIdx k]
    cases es
    simp
  cases hi : es.findIdx? fun e => knd.is k e.key with
  | some i =>
    have yes := any_of_findIdx_some (hidx ▸ hi)
    refine wpAny_updateDict ho hd (hQ _ ⟨_, _, ep, Heap.get?_update_self _ ho (Obj.isFreed_of_dict (Obj.data_mapDict hd _)), hc.mapDict _, Obj.data_mapDict hd _, hk.modify _ _, ?_, ?_⟩ (Heap.SameBut.update ..))
    · have hl : (es.toList.findIdx? fun e => knd.is k e.key) = some i := by
        rw [← hi]
        cases es
        simp
      have := hp.modify hn hl v
      rw [stored, if_pos yes]
      cases es
      simpa using this
    · rw [stored, if_pos yes, keys_map_store]
      exact hn
  | none =>
    have no : k ∉ kvs.map (·.1) := not_mem_of_findIdx_none (hidx ▸ hi)
    have nany : ¬ (kvs.any fun kv => decide (kv.1 = k)) = true := fun z => by
      obtain ⟨kv, m, e⟩ := List.any_eq_true.mp z
      exact no (List.mem_map.mpr ⟨kv, m, of_decide_eq_true e⟩)
    refine wpAny_updateDictKeys (hz := hes) ho hd (hQ _ ⟨_, _, ep + 1, Heap.get?_update_self _ ho (Obj.isFreed_of_dict (Obj.data_mapDictKeys hd _)), hc.mapDictKeys _, Obj.data_mapDictKeys hd _, hk.push hkey _, ?_, ?_⟩ (Heap.SameBut.update ..))
    · have := hp.append hkey (knd.hash k) v
      rw [stored, if_neg nany]
      cases es
      simpa using this
    · rw [stored, if_neg nany, List.map_append]
      refine List.nodup_append.mpr ⟨hn, by simp, fun x hx y hy => ?_⟩
      simp only [List.map_cons, List.map_nil, List.mem_singleton] at hy
      exact fun z => no (hy ▸ z ▸ hx)
theorem if_jp {α β : Type} {c : Prop} [Decidable c] {m1 : Sem α} {m2 : α → Sem PUnit} {jp : Sem β} {Q : β → Shared → Prop} (h1 : wpAny (model prog w) A m1 (fun x s1 => s1 = s ∧ wpAny (model prog w) A (m2 x) (fun _ s2 => s2 = s) E s) E s) (h2 : wpAny (model prog w) A jp Q E s) :
    wpAny (model prog w) A (if c then (m1 >>= fun x => m2 x >>= fun _ => jp) else jp) Q E s := by
  split
  · refine wpAny_bind (wpAny_mono h1 (fun x s1 ⟨e, h⟩ => ?_) fun _ _ z => z)
    subst e
    exact wpAny_bind (wpAny_mono h (fun _ s2 e => by subst e; exact h2) fun _ _ z => z)
  · exact h2
theorem pairs_at {es : List DictEntry} {vs : List (K × Value)} (h : Pairs knd es vs) : ∀ {i : Nat} {e : DictEntry}, es[i]? = some e → ∃ kv, vs[i]? = some kv ∧ knd.is kv.1 e.key = true ∧ e.val = kv.2 := by
  induction h with
  | nil => intro i e q; simp at q
  | cons h1 h2 r ih =>
    intro i e q
    cases i with
    | zero => simp at q; subst q; exact ⟨_, rfl, h1, h2⟩
    | succ i => simp at q; simpa using ih q
theorem merged_len : ∀ (vs acc : List (K × Value)), (merged acc vs).length ≤ acc.length + vs.length
  | [], acc => by simp [merged]
  | p :: r, acc => by
    have h1 := merged_len r (stored acc p.1 p.2)
    have h2 := stored_length_le acc p.1 p.2
    have e : merged acc (p :: r) = merged (stored acc p.1 p.2) r := by simp [merged]
    rw [e, List.length_cons]
    omega
theorem merge_pairs {d a : Addr} {acc vs : List (K × Value)} {Q : Unit → Shared → Prop} (hd : s.heap.DictOf knd d acc) (ha : s.heap.DictOf knd a vs) (hn : d ≠ a) (hy : (a == sysModules) = false) (hr : ∀ k v b, knd.is k v = true → v ≠ .ref b) (hsz : acc.length + vs.length ≤ sizeLine)
    (hQ : ∀ h', h'.DictOf knd d (merged acc vs) → Heap.SameBut d s.heap h' → Q () { s with heap := h' }) : wpAny (model prog w) A (mergeMapping d (.ref a) false) Q E s := by
  have hd0 := hd
  have ha0 := ha
  obtain ⟨o, es, ep, ho, hc, hdt, hk, hp, hnd⟩ := ha
  obtain ⟨o2, es2, ep2, ho2, hc2, hdt2, hk2, hp2, hnd2⟩ := hd
  have tT := ha0.typeIs
  unfold mergeMapping
  have q1 : ∀ {β : Type} {f : Bool → Sem β} {R : β → Shared → Prop}, wpAny (model prog w) A (f true) R E s → wpAny (model prog w) A (isInstance (.ref a) (.type "dict") >>= f) R E s := fun h => wpAny_bind (wpAny_isInstance (b := true) tT (by rfl) h)
  have q2 : ∀ {β : Type} {f : Option Value → Sem β} {R : β → Shared → Prop}, wpAny (model prog w) A (f (some (.builtin "dict.__iter__"))) R E s → wpAny (model prog w) A (specialOf (.ref a) "__iter__" >>= f) R E s := fun h => wpAny_bind (wpAny_specialOf tT (by rfl) h)
  refine q1 ?_
  dsimp only
  rw [if_pos rfl]
  refine q2 (wpAny_bind (wpAny_pure ?_))
  have e1 : ((some (Value.builtin "dict.__iter__") : Option Value) == some (Value.builtin "dict.__iter__")) = true := by decide
  rw [e1]
  dsimp only
  rw [hy, if_neg Bool.false_ne_true]
  refine wpAny_bind (wpAny_dictEntries ho2 hdt2 (if_jp (wpAny_dictEntries ho hdt ⟨rfl, ?_⟩) ?_))
  · rw [← Array.forIn_toList]
    refine wpAny_forIn_list _ (fun rest _ s' => s' = s ∧ ∀ e ∈ rest, e ∈ es.toList) _ (fun e rest b s' ⟨hs, hm⟩ => ?_) (fun b s' z => z.1) es.toList _ ⟨rfl, fun e h => h⟩
    subst hs
    obtain ⟨k, ek, _⟩ := hk e (by simpa using hm e (by simp))
    split
    · rename_i b eb
      exact absurd eb (hr k _ _ ek)
    · exact wpAny_pure ⟨rfl, fun e h => hm e (by simp [h])⟩
  · refine wpAny_bind (wpAny_dictEntries ho hdt (wpAny_bind (wpAny_dictEpoch ho hdt (wpAny_bind ?_))))
    have hz : es.size = vs.length := by rw [← hp.length]; simp
    refine wpAny_forIn_list _ (fun rest _ s' => ∃ i h', i ≤ vs.length ∧ rest = List.range' i (vs.length - i) ∧ s' = { s with heap := h' } ∧ h'.DictOf knd d (merged acc (vs.take i)) ∧ Heap.SameBut d s.heap h') _ ?_ ?_ _ _ ⟨0, s.heap, Nat.zero_le _, by rw [hz, List.range_eq_range']; rfl, rfl, hd0, Heap.SameBut.refl _ _⟩
    · rintro x rest b s' ⟨i, h', hi, er, es', dd, sb⟩
      have hlt : i < vs.length := by
        refine Nat.lt_of_le_of_ne hi fun z => ?_
        rw [z, Nat.sub_self] at er
        cases er
      have e2 : vs.length - i = (vs.length - (i + 1)) + 1 := by omega
      rw [e2, List.range'_succ] at er
      injection er with ex er
      subst ex es'
      have ho' : h'.get? a = some o := (sb.2 a (Ne.symm hn)).trans ho
      refine wpAny_bind (wpAny_dictEntries ho' hdt ?_)
      have hlt2 : x < es.size := by omega
      rw [Array.getElem?_eq_getElem hlt2]
      dsimp only
      rw [if_neg Bool.false_ne_true]
      obtain ⟨kv, g1, g2, g3⟩ := pairs_at hp (i := x) (e := es[x]) (by simp [hlt2])
      obtain ⟨k, ek, eh⟩ := hk es[x] (Array.getElem_mem hlt2)
      have ekk : k = kv.1 := knd.inj _ _ _ ek g2
      subst ekk
      rw [eh]
      refine wpAny_bind (wpAny_holding (put_pairs ek dd ?_ fun h'' dd2 sb2 => ?_))
      · have := merged_len (vs.take x) acc
        have h2 : (vs.take x).length ≤ vs.length := by rw [List.length_take]; omega
        omega
      · have ho2' : h''.get? a = some o := (sb2.2 a (Ne.symm hn)).trans ho'
        refine wpAny_bind (wpAny_dictEpoch ho2' hdt ?_)
        have e3 : (ep != ep) = false := by simp
        rw [e3, if_neg Bool.false_ne_true]
        refine wpAny_pure ⟨x + 1, h'', hlt, er, rfl, ?_, sb.trans sb2⟩
        rw [g3] at dd2
        have e4 : vs.take (x + 1) = vs.take x ++ [kv] := by rw [List.take_succ, g1]; rfl
        rw [e4]
        simpa [merged] using dd2
    · rintro b s' ⟨i, h', hi, er, es', dd, sb⟩
      have : vs.length - i = 0 := by
        cases q : vs.length - i with
        | zero => rfl
        | succ n => rw [q, List.range'_succ] at er; cases er
      have ei : i = vs.length := by omega
      subst ei es'
      rw [List.take_length] at dd
      exact wpAny_pure (hQ h' dd sb)
end
theorem mix_noref (P : Program) (w : World) (k : Key) (v : Value) (b : Addr) (h : (mixKind P w).is k v = true) : v ≠ .ref b := by
  rcases keyIs_shape h with ⟨i, t, _, rfl⟩ | ⟨x, t, _, rfl⟩ <;> intro z <;> cases z
theorem display_star {m k v : Sem Value} {P : Program} {w : World} {A : Around} {E : Value → Shared → Prop} {s : Shared} {Q : Value → Shared → Prop}
    (h : wpAny (model P w) A m (fun x s1 => ∃ (a : Addr) (vs : List (Key × Value)), x = .ref a ∧ s.heap.objs.size ≠ a ∧ (a == sysModules) = false ∧ s1.heap.DictOf (mixKind P w) s.heap.objs.size [] ∧ s1.heap.DictOf (mixKind P w) a vs ∧ vs.length ≤ sizeLine ∧
      ∀ h1, h1.DictOf (mixKind P w) s.heap.objs.size (merged [] vs) → Heap.SameBut s.heap.objs.size s1.heap h1 → wpAny (model P w) A (evalPairs [(k, v)]) (fun ws s2 => ∃ (kvs acc : List (Key × Value)), Carries (mixKind P w) ws kvs ∧ s2.heap.DictOf (mixKind P w) h1.objs.size [] ∧ s.heap.objs.size ≠ h1.objs.size ∧ (h1.objs.size == sysModules) = false ∧
        s2.heap.DictOf (mixKind P w) s.heap.objs.size acc ∧ acc.length + (merged [] kvs).length ≤ sizeLine ∧ ∀ h3 h4 tk, h3.DictOf (mixKind P w) h1.objs.size (merged [] kvs) → Heap.SameBut h1.objs.size s2.heap h3 → h4.DictOf (mixKind P w) s.heap.objs.size (merged acc (merged [] kvs)) → Heap.SameBut s.heap.objs.size h3 h4 → Q (.ref s.heap.objs.size) { s2 with heap := h4, toks := tk }) E
        { s1 with heap := h1.push { cls := .type "dict", data := .dict #[] } }) E { s with heap := s.heap.push { cls := .type "dict", data := .dict #[] } }) :
    wpAny (model P w) A (dictDisplay [(none, m), (some k, v)]) Q E s := by
  unfold dictDisplay
  simp only [List.forIn_cons, List.forIn_nil, pure_bind, bind_assoc, List.isEmpty_nil, if_true, List.nil_append, List.length_singleton]
  refine wpAny_bind (wpAny_alloc (wpAny_bind (wpAny_holding (wpAny_mono h (fun x s1 h1 => ?_) fun _ _ z => z))))
  obtain ⟨a, vs, rfl, na, ny, d0, da, ls, h1⟩ := h1
  refine wpAny_bind (wpAny_onRaise (wpAny_tryCatch (wpAny_onRaise (wpAny_holding (merge_pairs d0 da na ny (mix_noref P w) (by simpa using ls) fun h' dd sb => ?_)))))
  refine wpAny_bind ?_
  have e17 : ((1 : Nat) == 17) = false := rfl
  rw [e17, if_neg Bool.false_ne_true]
  refine wpAny_pure (wpAny_bind (wpAny_pure ?_))
  have e0 : [(k, v)].isEmpty = false := rfl
  dsimp only
  rw [e0, if_neg Bool.false_ne_true]
  refine wpAny_bind (wpAny_bind (wpAny_holding (wpAny_subDict (knd := mixKind P w) (by simp) (wpAny_mono (h1 h' dd sb) (fun ws s2 h2 => ?_) fun _ _ z => z))))
  obtain ⟨kvs, acc, c1, c2, c3, c4, c5, c6, c7⟩ := h2
  refine ⟨kvs, c1, c2, fun h3 dd3 sb3 => ?_⟩
  have d5 : h3.DictOf (mixKind P w) s.heap.objs.size acc := c5.sameBut sb3 c3
  refine wpAny_bind (wpAny_onRaise (wpAny_holding (merge_pairs d5 dd3 c3 c4 (mix_noref P w) c6 fun h4 dd4 sb4 => ?_)))
  exact wpAny_pure (wpAny_pure (c7 h3 h4 _ dd3 sb3 dd4 sb4))
section
variable {X : Cx} {T : Tabs} {W : WX} {a ke ve : Expr} {fm fk fv : Fr → M PV} {pos : Pos}
def starK (k : Bool) (fk fv : Fr → M PV) (m : PV) (ρ : Fr) : M PV := match m with
  | .dct kvs => if dnd kvs && (keysK kvs && decide (kvs.length ≤ 1000)) then (fk ρ >>= fun x => fv ρ >>= fun y => if (asKey x).isSome then nw k (.dct (dput x y kvs)) else M.bad) else M.bad
  | _ => M.bad
def eStar (k : Bool) (fm fk fv : Fr → M PV) : Fr → M PV := fun ρ => fm ρ >>= fun m => starK k fk fv m ρ
theorem pp_star (k : Bool) (hm : PP X T W a fm) (hk : PP X T W ke fk) (hv : PP X T W ve fv) : PP X T W (.Dict [none, some ke] [a, ve] pos) (eStar k fm fk fv) := by
  refine ⟨fun pins s σ H Q I ⟨w, st, ρ, hh⟩ => ?_⟩
  rw [arm_eval_Dict]
  refine wpAny_bind (wpAny_standAt ?_)
  show wpAny _ _ (dictDisplay [(none, do let x ← eval a X.env; standAt pos; pure x), (some (eval ke X.env), do let x ← eval ve X.env; standAt pos; pure x)]) _ _ _
  have hq : H s.heap.objs.size = none := I.hok.fresh (Nat.le_refl s.heap.objs.size)
  have I1 := I.laid (a := s.heap.objs.size) (o := .dK []) (h' := s.heap.push { cls := .type "dict", data := .dict #[] }) (t' := s.toks) (fun _ _ q => Heap.get?_push_of_some _ q) (Nat.le_refl _) (dk_empty s.heap I.big)
  have big0 := I.big
  refine display_star ?_
  generalize s.heap.objs.size = q at *
  have hs : Hid X T w H q (w.hide q) st (upd H q (.dK [])) := Hid.start hh.wr hq
  have h1 : RunE X T W (eStar k fm fk fv) (w.hide q) st ρ σ (upd H q (.dK [])) Q := ⟨hs.wr, hh.fr.mono hs.le, hh.post.mono hs.le⟩
  have t1 : tE X T W fm σ (upd H q (.dK [])) fun v H1 => ∃ w1 st1 kvs, Le (w.hide q) (upd H q (.dK [])) w1 H1 ∧ Rep (Cx.g X T) w1 H1 v (.dct kvs) ∧ dnd kvs = true ∧ keysK kvs = true ∧ kvs.length ≤ 1000 ∧ fm ρ st = .ok (.dct kvs) st1 ∧ Wr (Cx.g X T) w1 st1 H1 := by
    refine RunE.eQ (k := fun m ρ => starK k fk fv m ρ) h1 fun w1 st1 m v H1 em l1 r1 h2 => ?_
    have p2 := h2.post
    unfold starK at p2
    split at p2
    · split at p2
      · rename_i hc
        simp only [Bool.and_eq_true, decide_eq_true_eq] at hc
        exact ⟨w1, st1, _, l1, r1, hc.1, hc.2.1, hc.2.2, em, h2.wr⟩
      · exact p2.elim
    · exact p2.elim
  refine wpAny_bind (thn (hm.run pins _ σ _ _ I1 t1) fun u s1 ⟨v, H1, I2, rv, w1, st1, kvs, l1, r1, c1, c2, c3, em0, wr1⟩ => wpAny_bind (wpAny_standAt (wpAny_pure ?_)))
  have hA := hs.step l1 wr1
  have p0 : PostE X T W w σ H Q ((fk ρ >>= fun x => fv ρ >>= fun y => if (asKey x).isSome then nw k (.dct (dput x y kvs)) else M.bad) st1) := by
    have p := hh.post
    unfold eStar at p
    rw [M.bind_ok em0] at p
    have ec : (dnd kvs && (keysK kvs && decide (kvs.length ≤ 1000))) = true := by simp [c1, c2, c3]
    unfold starK at p
    simp only [ec, if_true] at p
    exact p
  have hq1 : H1 q = some (.dK []) := l1.ex q _ hs.hid hs.nl upd_same
  cases r1 with
  | dcT _ _ n r => cases r with
    | nil => exact absurd rfl n
    | cons t _ _ _ _ =>
      obtain ⟨ys, rfl⟩ := isTup_ok t
      simp [keysK, asKey] at c2
  | @dcK ad ks _ nd ob rk =>
    have eu : u = Value.ref ad := rv
    subst eu
    obtain ⟨z1, ny, vs, kv, dd⟩ := dk_rd I2.hok (ob.rd rfl)
    obtain ⟨_, nyq, vs0, kv0, dd0⟩ := dk_of I2.hok hq1
    cases kv0
    have na : q ≠ ad := fun z => nd (z ▸ hA.hid)
    have ksl : ks.length ≤ 1000 := by rw [rk.length]; exact c3
    have ksn := rk.nodup c1
    refine ⟨ad, vs, rfl, na, ny, dd0, dd, by rw [← kv.length]; exact z1, fun g1 d1 sb1 => ?_⟩
    have km := KV.merge kv .nil
    have em : mergeK [] ks = ks := by rw [merge_self ks [] (by simpa using ksn), List.nil_append]
    rw [em] at km
    have I3 : L2.Inv X pins σ (upd H1 q (.dK ks)) { s1 with heap := g1, toks := s1.toks } := d_write I2 (by rw [hq1]; exact True.intro) sb1 (let ⟨x, _, _, hx, _⟩ := d1; ⟨x, hx⟩) (dk_new (by rw [sizeLine_eq]; omega) nyq km d1)
    have hq2 : upd H1 q (.dK ks) g1.objs.size = none := I3.hok.fresh (Nat.le_refl g1.objs.size)
    have I4 := I3.laid (a := g1.objs.size) (o := .dK []) (h' := g1.push { cls := .type "dict", data := .dict #[] }) (t' := s1.toks) (fun _ _ q => Heap.get?_push_of_some _ q) (Nat.le_refl _) (dk_empty g1 I3.big)
    have hA1 : Hid X T w H q w1 st1 (upd H1 q (.dK ks)) := hA.put hq
    generalize g1.objs.size = p at *
    have npq : p ≠ q := fun z => by rw [z, upd_same] at hq2; cases hq2
    have hB : Hid X T w1 (upd H1 q (.dK ks)) p (w1.hide p) st1 (upd (upd H1 q (.dK ks)) p (.dK [])) := Hid.start hA1.wr hq2
    have lAB := hA1.le.trans hB.le
    have h3 : RunE X T W (fun ρ => fk ρ >>= fun x => (fun x ρ => fv ρ >>= fun y => if (asKey x).isSome then nw k (.dct (dput x y kvs)) else M.bad) x ρ) (w1.hide p) st1 ρ σ (upd (upd H1 q (.dK ks)) p (.dK [])) Q := ⟨hB.wr, hh.fr.mono lAB, p0.mono lAB⟩
    have t2 : tE X T W fk σ (upd (upd H1 q (.dK ks)) p (.dK [])) fun x H2 => tE X T W fv σ H2 fun y H3 => ∃ w3 st3 kk z, Le (w1.hide p) (upd (upd H1 q (.dK ks)) p (.dK [])) w3 H3 ∧ x = kV kk ∧ kOk kk = true ∧ Rep (Cx.g X T) w3 H3 y z ∧ Wr (Cx.g X T) w3 st3 H3 ∧ PostE X T W w σ H Q (nw k (.dct (dput (keyP kk) z kvs)) st3) := by
      refine RunE.eQ h3 fun w2 st2 px x H2 e2 l2 r2 h4 => ?_
      refine RunE.eQ (k := fun y ρ => if (asKey px).isSome then nw k (.dct (dput px y kvs)) else M.bad) h4 fun w3 st3 py y H3 e3 l3 r3 h5 => ?_
      have p5 := p0
      rw [M.bind_ok e2, M.bind_ok e3] at p5
      split at p5
      · rename_i hk
        obtain ⟨kk, hk⟩ := Option.isSome_iff_exists.mp hk
        have r2' := r2.mono l3
        refine ⟨w3, st3, kk, py, l2.trans l3, r2'.key hk, r2'.kOk hk, r3, h5.wr, ?_⟩
        rw [← asKey_ok hk]
        exact p5
      · exact p5.elim
    refine evalPairs_cons (thn (hk.run pins _ σ _ _ I4 t2) fun ku s2 ⟨x, H2, I5, rx, t3⟩ => wpAny_bind (thn (hv.run pins _ σ _ _ I5 t3) fun vu s3 ⟨y, H3, I6, ry, w3, st3, kk, z, l3, ek, ok, rz, wr3, p5⟩ => wpAny_bind (wpAny_standAt (wpAny_pure (evalPairs_nil ?_)))))
    subst ek
    have hB3 := hB.step l3 wr3
    have hA3 := hA1.step (hB.le.trans l3) wr3
    have a1 : H3 p = some (.dK []) := l3.ex p _ hB.hid hB.nl upd_same
    have a2 : H3 q = some (.dK ks) := by
      have : upd (upd H1 q (.dK ks)) p (.dK []) q = some (.dK ks) := by rw [upd_ne (Ne.symm npq), upd_same]
      exact l3.ex q _ (hB.le.hid q hA1.hid hA1.at_ hA1.nl) (fun j e => hA1.nl j e) this
    obtain ⟨_, y1, vs1, kv1, dd1⟩ := dk_of I6.hok a1
    cases kv1
    obtain ⟨_, _, acc, kva, dda⟩ := dk_of I6.hok a2
    refine ⟨[(kk, vu)], acc, ⟨kV_is rx, rfl, True.intro⟩, dd1, Ne.symm npq, y1, dda, ?_, fun g3 g4 tk dd3 sb3 dd4 sb4 => ?_⟩
    · have := merged_len [(kk, vu)] []
      have e := kva.length
      simp only [List.length_cons, List.length_nil] at this
      rw [sizeLine_eq]
      omega
    · have kvs2 : KV [(kk, y)] [(kk, vu)] := .cons ⟨rfl, ry⟩ .nil
      have km2 := KV.merge kvs2 .nil
      have es : mergeK [] [(kk, y)] = [(kk, y)] := rfl
      rw [es] at km2
      have I7 : L2.Inv X pins σ (upd H3 p (.dK [(kk, y)])) { s3 with heap := g3, toks := s3.toks } := d_write I6 (by rw [a1]; exact True.intro) sb3 (let ⟨x, _, _, hx, _⟩ := dd3; ⟨x, hx⟩) (dk_new (by rw [sizeLine_eq]; simp) y1 km2 dd3)
      have a3 : upd H3 p (.dK [(kk, y)]) q = some (.dK ks) := by rw [upd_ne (Ne.symm npq)]; exact a2
      have km3 := KV.merge km2 kva
      have e3 : mergeK ks [(kk, y)] = putK ks kk y := rfl
      rw [e3] at km3
      have lp := length_putK ks kk y
      have I8 : L2.Inv X pins σ (upd (upd H3 p (.dK [(kk, y)])) q (.dK (putK ks kk y))) { s3 with heap := g4, toks := tk } := d_write (s := { s3 with heap := g3, toks := s3.toks }) I7 (by rw [a3]; exact True.intro) sb4 (let ⟨x, _, _, hx, _⟩ := dd4; ⟨x, hx⟩) (dk_new (by rw [sizeLine_eq]; omega) nyq km3 dd4)
      have hB4 : Hid X T w1 (upd H1 q (.dK ks)) p w3 st3 (upd H3 p (.dK [(kk, y)])) := hB3.put hq2
      have hA4 : Hid X T w H q w3 st3 (upd H3 p (.dK [(kk, y)])) := hA1.step hB4.le hB4.wr
      have hA5 : Hid X T w H q w3 st3 (upd (upd H3 p (.dK [(kk, y)])) q (.dK (putK ks kk y))) := hA4.put hq
      have lr1 : LeR w1 H1 w1 (upd H1 q (.dK ks)) := LeR.hidden hA.hid
      have lr3 : LeR w3 H3 w3 (upd H3 p (.dK [(kk, y)])) := LeR.hidden hB3.hid
      have lr4 : LeR w3 (upd H3 p (.dK [(kk, y)])) w3 (upd (upd H3 p (.dK [(kk, y)])) q (.dK (putK ks kk y))) := LeR.hidden hA4.hid
      have rk5 : RepK (Cx.g X T) w3 (upd (upd H3 p (.dK [(kk, y)])) q (.dK (putK ks kk y))) (putK ks kk y) (dput (keyP kk) z kvs) := by
        have e9 := putK_eq (k := kk) (v := y) ksn
        revert lr4
        rw [e9]
        intro lr4
        exact RepK.putR ok ((rz.mr lr3).mr lr4) (((((rk.mr lr1).mono hB.le).mono l3).mr lr3).mr lr4)
      refine ⟨.ref q, _, I8, rfl, ?_⟩
      cases k with
      | false =>
        obtain ⟨o1, o2⟩ := hA5.out hq
        exact p5 _ _ _ o1 o2 (.dcK (fun z => z.2 rfl) (.inl upd_same) (rk5.mr (LeR.show w3 _ q)))
      | true =>
        obtain ⟨o1, o2, o3⟩ := hA5.outL (c := .dct (dput (keyP kk) z kvs)) hq fun lr => ⟨hA5.hid, .inl ⟨_, upd_same, rk5.mr lr⟩⟩
        exact p5 _ _ _ o1 o2 o3
end
end Eg

/-! E39: what a head tells of exceptions, of a def that gets lambdas, of a def that makes them. -/
namespace Eg
open PySem PySem.Spec PyProof.Rows L2
section
variable {P : Program} {w : World} {K : PySem.W.Frag} {mg : Str → Option Value} {base h : Heap} {T : Tabs}
theorem xcW_of {i : Nat} {x : Str} (c : (He.Fa.exc x).ok K = true) (g : mg x = some (.ref (He.ga K x))) (e : T.xcl i = .ref (He.ga K x)) : XcW K mg T i x := by
  obtain ⟨h1, h2, h3, h4⟩ := He.exc_ok c
  exact ⟨_, _, _, _, _, PySem.F.excBase_ValueError, h1, g, h2, h3, h4, e⟩
theorem lmW_of {x v : Str} {Ng : List Str} {pg : Arguments} {sg : Scope} {fine : Str} {n : Nat} {h₀ : ExceptHandler} {hds : List ExceptHandler} {p1 p2 p3 p4 p5 p8 : Pos} {f : Addr} {fd : FuncData} {l : List (Nat × List Nat)} {y : List Nat}
    (FD : FunD K x x pg [.Try [.Expr (.Call (.Name v p1) [] [] p2) p3] (h₀ :: hds) [] [] p8, .Return (some (.Constant (.str fine) n p4)) p5] sg [] [] f fd) (hm : mg x = some (.ref f)) (hb : Binds K fd [v] []) (sc : FnScope Ng [v] sg) (i0 : Ng[0]? = some v) (vis : visB sg v = true) (db : (v == ("__debug__" : Str)) = false) (cd : (v == ("__classdict__" : Str)) = false) (hy : fine = s2 y)
    (hh : ∀ (X : Cx) (cdv : Value) (s : Shared) (H : Hp), X.K = K → X.mg = mg → MtH (cxOf C8.CX0 X.prog X.w X.K X.mg X.base Ng x sg f cdv X.A X.stack s H C8.E0).nox T (h₀ :: hds) l) : LmW K mg T x l y := by
  obtain ⟨oc, od, dV, kV, doc, pm, an, cdv, ct, osl, rfl, lk, hcd, _, _⟩ := FD.ex
  exact ⟨f, v, Ng, pg, sg, dV, kV, doc, pm, cdv, ct, oc, an, od, osl, fine, n, h₀, hds, p1, p2, p3, p4, p5, p8, hm, FD.kp, lk, hcd, hb, sc, i0, vis_of vis, db, cd, hy, fun f => by simp [L2.start], fun X s H e1 e2 => hh X cdv s H e1 e2⟩
theorem fng_ofC {f : Addr} {x qual : Str} {params : Arguments} {body : List Stmt} {scope : Scope} {fd : FuncData} {dvs : List V} {kws : List (Str × V)} {N ps : List Str} {k : Nat} {sp : Sp} (FD : FunD K x qual params body scope dvs kws f fd) (sc : FnScope N ps scope)
    (len : ∀ vs H Q E, sp vs H Q E → vs.length = ps.length)
    (hbody : ∀ (cdv : Value) (A : Around) (outer : List Env) (s : Shared) (H : Hp) (vs : List V) (Q : VK) (E : XK), (∃ oc od osl, K.lookup f = some ⟨oc, od, .func fd, osl⟩ ∧ fd.code = cdv ∧ PySem.W.codeIn K cdv qual = true) → Bd (cxOf (L2.CX P w) P w K mg base N qual scope f cdv A outer s H E) (fun cls d _ H' => E cls d H') k → sp vs H Q E →
      ∃ t, PSs (cxOf (L2.CX P w) P w K mg base N qual scope f cdv A outer s H E) body t ∧ t { nx := fun _ H' => Q .non H', rt := Q } (L2.start N vs) H) : FnG P w K mg base (k + 1) f fd ps sp := by
  obtain ⟨oc, od, dV, kV, doc, pm, an, cdv, ct, osl, rfl, lk, hcd, _, _⟩ := FD.ex
  refine ⟨len, fun A outer s H args us vs Q E hr hgd e0 hb rv hsp => ?_⟩
  have kx : K.In s.heap := e0.mod.kin.keeps fun b o e => (e0.bs b o e).1
  have nl : s.heap.NoLimit := e0.mod.nolimit.keeps fun b o e => (e0.bs b o e).1
  refine codeAny_call_function hr.depth (kx _ _ lk) rfl sc.co sc.gen rfl (PySem.W.codeRec_of kx hcd) (hb _ _ _ _ (wpAny_newFunctionEnv_cells sc.kind (fun ⟨m, v⟩ hy => ?_) fun env he s1 y => ?_))
  · rcases sc.par m (List.of_mem_zip hy).1 with q | q
    · exact Or.inl q
    · exact Or.inr ⟨q, PySem.W.cellsFrom_some _ _ _ (Or.inl q)⟩
  · subst he
    obtain ⟨t, ht, hq⟩ := hbody cdv A outer s H vs Q E ⟨oc, od, osl, lk, rfl, hcd⟩ ⟨rfl, sc.nd, hr.deeper _, passes_of rfl, takes_of rfl rfl rfl rfl, hgd⟩ hsp
    have J := inv_start (CX := L2.CX P w) (mg := mg) (base := base) (E := E) sc hr.hd e0 (len _ _ _ _ hsp) rv y
    refine ⟨nl.keeps y.toInCall.keep, codeAny_func (wpAny_mono (ht.run [] s1 (L2.start N vs) H _ J hq) (fun fl s' hs => ?_) fun _ _ z => z)⟩
    cases fl with
    | ret u => obtain ⟨v, σ', H', J', r', q'⟩ := hs; exact ⟨v, H', J'.os, J'.bare, J'.base, J'.hok, r', q'⟩
    | next => obtain ⟨σ', H', J', q'⟩ := hs; exact ⟨.non, H', J'.os, J'.bare, J'.base, J'.hok, rfl, q'⟩
    | brk => obtain ⟨_, _, _, z⟩ := hs; exact z.elim
    | cont => obtain ⟨_, _, _, z⟩ := hs; exact z.elim
/-- a def that makes lambdas: its code object is known -/
theorem fng_calL {p : Str × Option Str} {x qual : Str} {params : Arguments} {body : List Stmt} {scope : Scope} {fd : FuncData} {N ps : List Str} {n k : Nat} {F : S} (FD : FunD K x qual params body scope [] [] (He.fAd K p) fd) (sc : FnScope N ps scope) (hn : ps.length = n)
    (hbody : ∀ (A : Around) (outer : List Env) (s : Shared) (H : Hp) (E : XK), Bd (cxOf (L2.CX P w) P w K mg base N qual scope (He.fAd K p) (.ref (He.codeOf K p)) A outer s H E) (fun cls d _ H' => E cls d H') k →
      PPSs (cxOf (L2.CX P w) P w K mg base N qual scope (He.fAd K p) (.ref (He.codeOf K p)) A outer s H E) T (fun cls d _ H' => E cls d H') body F) : FnG P w K mg base (k + 1) (He.fAd K p) fd ps (spF ⟨K, P, w, T⟩ n (fnB N.length F)) := by
  refine fng_ofC FD sc (fun vs H Q E ⟨_, _, xs, hl, _, r, _⟩ => by rw [r.length, hl, hn]) (fun cdv A outer s H vs Q E ⟨oc, od, osl, lk, ec, hcd⟩ hB ⟨w0, st, xs, hl, wr, r, p⟩ => ?_)
  obtain ⟨c, rfl⟩ := He.codeIn_ref hcd
  cases He.codeOf_eq lk ec
  refine ⟨_, hbody A outer s H E hB, w0, st, _, wr, FrR.start r, ?_⟩
  unfold fnB at p
  cases q : F (xs.map some ++ List.replicate (N.length - xs.length) none) st with
  | nx ρ st' => rw [q] at p; exact fun w1 σ1 H1 l wr1 _ => p w1 .non H1 l wr1 .non
  | rt y st' => rw [q] at p; exact p
  | bk _ _ => rw [q] at p; exact p.elim
  | ct _ _ => rw [q] at p; exact p.elim
  | exc e _ st' => rw [q] at p; exact fun w1 c d σ1 H1 l wr1 _ r1 => p w1 c d H1 l wr1 r1
  | bad => rw [q] at p; exact p
end
theorem Bd.mono {X : Cx} {W : WX} {j k : Nat} (B : Bd X W k) (h : j ≤ k) : Bd X W j := ⟨B.calm, B.nd, B.room.mono h, B.own, B.tk, B.gd⟩
end Eg

/-! E40: the plain part that all laws share: evaluation, loops, draws. -/
namespace Eg
open PySem PySem.Spec PyProof.Rows L2
theorem bindE {α β : Type} (m : M α) (f : α → M β) (st : Store) : (m >>= f) st = (match m st with | .ok a s => f a s | .exc e s => .exc e s | .bad => .bad) := rfl
theorem pureE {α : Type} (a : α) (st : Store) : M.pure a st = .ok a st := rfl
theorem iteE {α : Type} (c : Prop) [Decidable c] (f g : M α) (s : Store) : (if c then f else g) s = if c then f s else g s := by split <;> rfl
theorem szT (n : Nat) (h : n ≤ 100) : (n ≤ sizeLine) = True := eq_true (by rw [sizeLine_eq]; omega)
theorem asI_int (i : Int) (st : Store) : asI (.int i) st = .ok i st := rfl
theorem asB_bl (b : Bool) (st : Store) : asB (.bl b) st = .ok b st := rfl
theorem rdI (i : Int) (st : Store) : rd (.int i) st = .ok (.int i) st := rfl
theorem rdB (i : Bool) (st : Store) : rd (.bl i) st = .ok (.bl i) st := rfl
theorem rdN (st : Store) : rd .non st = .ok .non st := rfl
theorem rdS (i : List Nat) (st : Store) : rd (.str i) st = .ok (.str i) st := rfl
theorem rdT (i : List PV) (st : Store) : rd (.tup i) st = .ok (.tup i) st := rfl
theorem rdL (i : List PV) (st : Store) : rd (.lst i) st = .ok (.lst i) st := rfl
theorem rdD (i : List (PV × PV)) (st : Store) : rd (.dct i) st = .ok (.dct i) st := rfl
theorem rdC (i : List Int) (st : Store) : rd (.scr i) st = .ok (.scr i) st := rfl
theorem rdP {l : Nat} {xs : List PV} {st : Store} (h : st.get l = some (.lst xs)) : rd (.loc l) st = .ok (.lst xs) st := by
  have e : view st (.loc l) = some (.lst xs) := by show (st.get l).map Cell.view = _; rw [h]; rfl
  unfold rd
  rw [e]
  rfl
theorem g1E (g : PV → Option PV) (x : PV) (st : Store) : g1 g x st = (match rd x st with | .ok x' _ => (match g x' with | some z => .ok z st | none => .bad) | _ => .bad) := rfl
theorem g2E (g : PV → PV → Option PV) (x y : PV) (st : Store) : g2 g x y st = (match rd x st, rd y st with | .ok x' _, .ok y' _ => (match g x' y' with | some z => .ok z st | none => .bad) | _, _ => .bad) := rfl
theorem gN1E (g : List PV → Option PV) (xs : List PV) (st : Store) : gN1 g xs st = (match rds xs st with | .ok ys _ => (match g ys with | some z => .ok z st | none => .bad) | _ => .bad) := rfl
theorem ltI (i j : Int) : gLt (.int i) (.int j) = some (.bl (decide (i < j))) := by simp [gLt, okL, okE, isD, pdep, palk, okL.noNon, plt]
theorem leI (i j : Int) : gLe (.int i) (.int j) = some (.bl (decide (i ≤ j))) := by
  simp [gLe, okL, okE, isD, pdep, palk, okL.noNon, plt]
  rw [Bool.eq_iff_iff]; simp
theorem geI (i j : Int) : gGe (.int i) (.int j) = some (.bl (decide (j ≤ i))) := by
  simp [gGe, okL, okE, isD, pdep, palk, okL.noNon, plt]
  rw [Bool.eq_iff_iff]; simp
theorem gtI (i j : Int) : gGt (.int i) (.int j) = some (.bl (decide (j < i))) := by simp [gGt, okL, okE, isD, pdep, palk, okL.noNon, plt]
theorem eqI (i j : Int) : gEq (.int i) (.int j) = some (.bl (i == j)) := by simp [gEq, okE, isD, pdep, peq]
theorem neI (i j : Int) : gNe (.int i) (.int j) = some (.bl (!(i == j))) := by simp [gNe, okE, isD, pdep, peq]
/-! comprehensions -/
theorem lc_pure {g : PV → Eg.Fr → M Eg.Fr} {ft : Eg.Fr → M Bool} {fe : Eg.Fr → M PV} {ρ : Eg.Fr} {st : Store} (p : PV → Bool) (f : PV → PV) (r : PV → Eg.Fr) (xs : List PV)
    (h : ∀ x ∈ xs, g x ρ st = .ok (r x) st ∧ ft (r x) st = .ok (p x) st ∧ (p x = true → fe (r x) st = .ok (f x) st)) : ∀ (k i : Nat), i + k = xs.length → lcGo g ft fe (.fz xs) ρ k i st = .ok (((xs.drop i).filter p).map f) st
  | 0, i, e => by
    have : xs.drop i = [] := by rw [List.drop_eq_nil_iff]; omega
    rw [this]
    unfold lcGo
    rfl
  | k + 1, i, e => by
    have hi : i < xs.length := by omega
    have ih := lc_pure p f r xs h k (i + 1) (by omega)
    obtain ⟨h1, h2, h3⟩ := h xs[i] (List.getElem_mem hi)
    have e1 : (Src.fz xs).get st i = some xs[i] := by show xs[i]? = _; rw [List.getElem?_eq_getElem hi]
    have e2 : xs.drop i = xs[i] :: xs.drop (i + 1) := List.drop_eq_getElem_cons hi
    unfold lcGo
    rw [e1]
    dsimp only
    rw [h1]
    dsimp only
    rw [h2, e2]
    cases q : p xs[i] with
    | true => dsimp only; rw [h3 q]; dsimp only; rw [ih, List.filter_cons, if_pos q]; rfl
    | false => dsimp only; rw [ih, List.filter_cons, if_neg (by rw [q]; simp)]
theorem lc_inv {g : PV → Eg.Fr → M Eg.Fr} {fe : Eg.Fr → M PV} {ρ : Eg.Fr} (I : Nat → Store → Prop) (Z : PV → Prop) (xs : List PV)
    (h : ∀ i x st, i < xs.length → I i st → ∃ ρ1 y st', g x ρ st = .ok ρ1 st ∧ fe ρ1 st = .ok y st' ∧ I (i + 1) st' ∧ Z y) : ∀ (k i : Nat) (st : Store), i + k = xs.length → I i st → ∃ ys st', lcGo g fYes fe (.fz xs) ρ k i st = .ok ys st' ∧ I xs.length st' ∧ ys.length = k ∧ ∀ y ∈ ys, Z y
  | 0, i, st, e, hi => by
    refine ⟨[], st, ?_, by rw [show xs.length = i by omega]; exact hi, rfl, by simp⟩
    unfold lcGo
    rfl
  | k + 1, i, st, e, hI => by
    have hi : i < xs.length := by omega
    have e1 : (Src.fz xs).get st i = some xs[i] := by show xs[i]? = _; rw [List.getElem?_eq_getElem hi]
    obtain ⟨ρ1, y, st1, h1, h2, h3, h4⟩ := h i xs[i] st hi hI
    obtain ⟨ys, st2, k1, k2, k3, k4⟩ := lc_inv I Z xs h k (i + 1) st1 (by omega) h3
    refine ⟨y :: ys, st2, ?_, k2, by simp [k3], by simpa using ⟨h4, k4⟩⟩
    unfold lcGo
    rw [e1]
    dsimp only
    rw [h1]
    dsimp only
    have e3 : fYes ρ1 st = .ok true st := rfl
    rw [e3]
    dsimp only
    rw [h2]
    dsimp only
    rw [k1]
theorem elc_pure {own : List Nat} {fi : Eg.Fr → M Src} {g : PV → Eg.Fr → M Eg.Fr} {ft : Eg.Fr → M Bool} {fe : Eg.Fr → M PV} {ρ : Eg.Fr} {st : Store} {xs : List PV} (hfi : fi ρ st = .ok (.fz xs) st) (hl : xs.length ≤ sizeLine) (p : PV → Bool) (f : PV → PV) (r : PV → Eg.Fr)
    (h : ∀ x ∈ xs, g x (wipeF ρ own) st = .ok (r x) st ∧ ft (r x) st = .ok (p x) st ∧ (p x = true → fe (r x) st = .ok (f x) st)) : eLc false own fi g ft fe ρ st = .ok (.lst ((xs.filter p).map f)) st := by
  have e := lc_pure (g := g) (ft := ft) (fe := fe) (ρ := wipeF ρ own) (st := st) p f r xs h xs.length 0 (by omega)
  unfold eLc
  rw [M.bind_ok hfi, if_pos (show (Src.fz xs).len ≤ sizeLine from hl)]
  have e' : (fun st => lcGo g ft fe (Src.fz xs) (wipeF ρ own) (Src.fz xs).len 0 st) st = .ok ((xs.filter p).map f) st := by
    show lcGo g ft fe (Src.fz xs) (wipeF ρ own) xs.length 0 st = _
    rw [e]; rfl
  rw [M.bind_ok e']
  rfl
theorem elc_inv {own : List Nat} {fi : Eg.Fr → M Src} {g : PV → Eg.Fr → M Eg.Fr} {fe : Eg.Fr → M PV} {ρ : Eg.Fr} {st st0 : Store} {xs : List PV} (hfi : fi ρ st0 = .ok (.fz xs) st) (hl : xs.length ≤ sizeLine) (I : Nat → Store → Prop) (Z : PV → Prop) (h0 : I 0 st)
    (h : ∀ i x st, i < xs.length → I i st → ∃ ρ1 y st', g x (wipeF ρ own) st = .ok ρ1 st ∧ fe ρ1 st = .ok y st' ∧ I (i + 1) st' ∧ Z y) : ∃ ys st', eLc false own fi g fYes fe ρ st0 = .ok (.lst ys) st' ∧ I xs.length st' ∧ ys.length = xs.length ∧ ∀ y ∈ ys, Z y := by
  obtain ⟨ys, st', e, e1, e2, e3⟩ := lc_inv (g := g) (fe := fe) (ρ := wipeF ρ own) I Z xs h xs.length 0 st (by omega) h0
  refine ⟨ys, st', ?_, e1, e2, e3⟩
  unfold eLc
  rw [M.bind_ok hfi, if_pos (show (Src.fz xs).len ≤ sizeLine from hl)]
  have e' : (fun st => lcGo g fYes fe (Src.fz xs) (wipeF ρ own) (Src.fz xs).len 0 st) st = .ok ys st' := e
  rw [M.bind_ok e']
  rfl
theorem at_mem {α : Type} {xs : List α} {r : Int} (h0 : 0 ≤ r) (h1 : r < xs.length) : ∃ x, L2.atI xs r = some x ∧ x ∈ xs := by
  obtain ⟨j, rfl⟩ := Int.eq_ofNat_of_zero_le h0
  have hj : j < xs.length := by omega
  exact ⟨xs[j], L2.atI_nat (List.getElem?_eq_getElem hj), List.getElem_mem hj⟩
theorem pow18 : gPow (.int 10) (.int 18) = some (.int 1000000000000000000) := by
  have h : (Builtin.Int.intBits 10 : Int) * 18 ≤ 134217728 := by decide +kernel
  simp only [gPow, h]; rfl
theorem pow30 : gPow (.int 10) (.int 30) = some (.int (10 ^ 30)) := by
  have h : (Builtin.Int.intBits 10 : Int) * 30 ≤ 134217728 := by decide +kernel
  simp only [gPow, h]; rfl
theorem pow47 : gPow (.int 10) (.int 47) = some (.int (10 ^ 47)) := by
  have h : (Builtin.Int.intBits 10 : Int) * 47 ≤ 134217728 := by decide +kernel
  simp only [gPow, h]; rfl
theorem pow13 : ∃ m : Int, 0 < m ∧ gPow (.int (10 ^ 47)) (.int 13) = some (.int m) := by
  have h : (Builtin.Int.intBits (10 ^ 47) : Int) * 13 ≤ 134217728 := by decide +kernel
  refine ⟨(10 ^ 47) ^ 13, by decide +kernel, ?_⟩
  have h2 : (0 : Int) ≤ 13 ∧ (Builtin.Int.intBits (10 ^ 47) : Int) * 13 ≤ 134217728 := ⟨by decide, h⟩
  unfold gPow
  exact if_pos h2
theorem seqE {f g : S} {ρ ρ' : Eg.Fr} {st st' : Store} (h : f ρ st = .nx ρ' st') : sSeq f g ρ st = g ρ' st' := by
  unfold sSeq
  rw [h]
theorem fn_rt {m : Nat} {f : S} {xs : List PV} {ρ : Eg.Fr} {st st' : Store} {x : PV} (hρ : xs.map some ++ List.replicate (m - xs.length) none = ρ) (h : f ρ st = .rt x st') : fnB m f xs st = .ok x st' := by
  unfold fnB
  rw [hρ, h]
theorem new_self (st : Store) (c : Cell) : (st.new c).get st.next = some c := by rw [Store.get_new, if_pos rfl]
theorem for_inv {g : PV → Eg.Fr → M Eg.Fr} {body : S} {xs : List PV} (I : Nat → Eg.Fr → Store → Prop)
    (h : ∀ i x ρ st, xs[i]? = some x → I i ρ st → ∃ ρ1 st1 ρ2 st2, g x ρ st = .ok ρ1 st1 ∧ body ρ1 st1 = .nx ρ2 st2 ∧ I (i + 1) ρ2 st2) : ∀ (k i : Nat) (ρ : Eg.Fr) (st : Store), i + k = xs.length → I i ρ st → ∃ ρ' st', forGo g body (.fz xs) k i ρ st = .nx ρ' st' ∧ I xs.length ρ' st'
  | 0, i, ρ, st, e, hI => ⟨ρ, st, by unfold forGo; rfl, by rw [show xs.length = i by omega]; exact hI⟩
  | k + 1, i, ρ, st, e, hI => by
    have hi : i < xs.length := by omega
    have e1 : xs[i]? = some xs[i] := List.getElem?_eq_getElem hi
    obtain ⟨ρ1, st1, ρ2, st2, h1, h2, h3⟩ := h i xs[i] ρ st e1 hI
    obtain ⟨ρ', st', q1, q2⟩ := for_inv I h k (i + 1) ρ2 st2 (by omega) h3
    refine ⟨ρ', st', ?_, q2⟩
    have e2 : (Src.fz xs).get st i = some xs[i] := e1
    unfold forGo
    rw [e2]
    dsimp only
    rw [h1]
    dsimp only
    rw [h2]
    exact q1
theorem sfor_inv {fi : Eg.Fr → M Src} {g : PV → Eg.Fr → M Eg.Fr} {body : S} {xs : List PV} {ρ : Eg.Fr} {st st0 : Store} (hfi : fi ρ st0 = .ok (.fz xs) st) (I : Nat → Eg.Fr → Store → Prop) (h0 : I 0 ρ st)
    (h : ∀ i x ρ st, xs[i]? = some x → I i ρ st → ∃ ρ1 st1 ρ2 st2, g x ρ st = .ok ρ1 st1 ∧ body ρ1 st1 = .nx ρ2 st2 ∧ I (i + 1) ρ2 st2) : ∃ ρ' st', sFor fi g body ρ st0 = .nx ρ' st' ∧ I xs.length ρ' st' := by
  obtain ⟨ρ', st', q1, q2⟩ := for_inv (g := g) (body := body) I h xs.length 0 ρ st (by omega) h0
  refine ⟨ρ', st', ?_, q2⟩
  unfold sFor sE
  rw [hfi]
  exact q1
theorem rg_len (lo : Int) (n : Nat) : (rgL lo n).length = n := by simp [rgL]
theorem rg1 {r : Int} {st : Store} (h0 : 0 ≤ r) (h1 : r < 1000) : srcRg1 [.int r] st = .ok (.fz (rgL 0 r.toNat)) st := by
  show (if -(2 ^ 62) ≤ r ∧ r < 2 ^ 62 then M.pure (Src.fz (rgL 0 r.toNat)) else M.bad) st = _
  rw [if_pos (by omega)]
  rfl
/-! draws -/
def Sk (l : Nat) (st : Store) (n : Nat) : Prop := ∃ a b c : Int, st.get l = some (.lst [.int a, .int b, .int c]) ∧ 0 ≤ a ∧ 0 ≤ c ∧ c ≤ n ∧ 0 ≤ b ∧ b < 2305843009213693952 ∧ l < st.next
theorem Sk.mono {l : Nat} {st : Store} {n m : Nat} (h : Sk l st n) (k : n ≤ m) : Sk l st m := by
  obtain ⟨a, b, c, h1, h2, h3, h4, h5⟩ := h
  exact ⟨a, b, c, h1, h2, h3, by omega, h5⟩
theorem ix0 (x y z : PV) : gDix (.lst [x, y, z]) (.int 0) = some x := rfl
theorem ix1 (x y z : PV) : gDix (.lst [x, y, z]) (.int 1) = some y := rfl
theorem ix2 (x y z : PV) : gDix (.lst [x, y, z]) (.int 2) = some z := rfl
theorem lset0 {l : Nat} {st : Store} {x y z v : PV} (h : st.get l = some (.lst [x, y, z])) : sset l (.int 0) v st = .ok () (st.put l (.lst [v, y, z])) := by
  unfold sset; rw [h]; rfl
theorem lset2 {l : Nat} {st : Store} {x y z v : PV} (h : st.get l = some (.lst [x, y, z])) : sset l (.int 2) v st = .ok () (st.put l (.lst [x, y, v])) := by
  unfold sset; rw [h]; rfl
theorem put_self (l : Nat) (st : Store) (c : Cell) : (st.put l c).get l = some c := by rw [Store.get_put, if_pos rfl]
theorem lg {n : Nat} (h : n < 18446744073709551616) : n.log2 < 64 := by
  by_cases e : n = 0
  · subst e; decide
  · rw [Nat.log2_lt e]; exact h
theorem mulI {i j : Int} (hi : i.natAbs < 18446744073709551616) (hj : j.natAbs < 18446744073709551616) : gMul (.int i) (.int j) = some (.int (i * j)) := by
  have h1 := lg hi
  have h2 := lg hj
  show (if i.natAbs.log2 + j.natAbs.log2 < 1000000 then some (PV.int (i * j)) else none) = _
  rw [if_pos (by omega)]
theorem modI {i j : Int} (hj : 0 < j) : gMod (.int i) (.int j) = some (.int (i % j)) := if_pos hj
theorem divI {i j : Int} (hj : 0 < j) (h : j.natAbs < 18446744073709551616) : gDiv (.int i) (.int j) = some (.int (i / j)) := if_pos ⟨hj, by have := lg h; omega⟩
def bL_sack : S := (sSeq (sAsg (eIf (eT (Eg.e2 gLt (eVar 1) (eB gLenA (aCons (eVar 0) aNil)))) (Eg.e2 gDix (eVar 0) (eVar 1)) (Eg.e2 gAdd (Eg.e2 gMul (eC (.int (67))) (eVar 1)) (eC (.int (37))))) (gN 2)) (sSeq (sAsg (Eg.e2 gMod (eB gInt (aCons (eB gAbs (aCons (eVar 2) aNil)) aNil)) (Eg.e2 gPow (Eg.e2 gPow (eC (.int (10))) (eC (.int (47)))) (eC (.int (13))))) (gN 3)) (sSeq (sAsg (Eg.e2 gAdd (Eg.e2 gAdd (Eg.e2 gAdd (Eg.e2 gMul (Eg.e2 gMod (eB gInt (aCons (eVar 3) aNil)) (eC (.int (2147483237)))) (eC (.int (96293)))) (Eg.e2 gMul (eC (.int (8123))) (eVar 1))) (Eg.e2 gMul (eC (.int (47))) (eB gInt (aCons (Eg.e2 gLt (eVar 2) (eC (.int (0)))) aNil)))) (eC (.int (73)))) (gN 4)) (sRet (eLst true (aCons (eB gMax2 (aCons (eC (.int (0))) (aCons (Eg.e2 Eg.gSub (eVar 3) (Eg.e2 gPow (eC (.int (10))) (eC (.int (18))))) aNil))) (aCons (Eg.e2 gMod (eB gInt (aCons (eVar 4) aNil)) (eC (.int (2305843009213693907)))) (aCons (eC (.int (0))) aNil))))))))
def fL_sack : Fn := fnB 5 bL_sack
def bL_grab : S := (sSeq (sIf (eT (Eg.e2 gGt (Eg.e2 gDix (eVar 0) (eC (.int (0)))) (eC (.int (0))))) (sSeq (sAsg (Eg.e2 gMod (eB gInt (aCons (Eg.e2 gDix (eVar 0) (eC (.int (0)))) aNil)) (eVar 1)) (gN 4)) (sSeq (sAsg (Eg.e2 gDiv (Eg.e2 gDix (eVar 0) (eC (.int (0)))) (eVar 1)) (gSub2 (eVar 0) (eC (.int (0))))) (sRet (eVar 4)))) sNx) (sSeq (sAsg (Eg.e2 gAdd (Eg.e2 gDix (eVar 0) (eC (.int (2)))) (eC (.int (1)))) (gSub2 (eVar 0) (eC (.int (2))))) (sSeq (sAsg (Eg.e2 gMod (eB gInt (aCons (Eg.e2 gAdd (Eg.e2 gDix (eVar 0) (eC (.int (1)))) (Eg.e2 gMul (eC (.int (1000427))) (Eg.e2 gDix (eVar 0) (eC (.int (2)))))) aNil)) (eC (.int (2305843009213693951)))) (gN 2)) (sSeq (sAsg (Eg.e2 gAdd (Eg.e2 gMul (Eg.e2 gMod (eB gInt (aCons (Eg.e2 gMul (eVar 2) (eVar 2)) aNil)) (eC (.int (2305843009213693921)))) (eVar 2)) (Eg.e2 gMul (eC (.int (9103))) (Eg.e2 gDix (eVar 0) (eC (.int (2)))))) (gN 3)) (sRet (Eg.e2 gMod (eB gInt (aCons (Eg.e2 gDiv (Eg.e2 gMod (eB gInt (aCons (eVar 3) aNil)) (eC (.int (2305843009213693907)))) (eC (.int (16384)))) aNil)) (eVar 1)))))))
def fL_grab : Fn := fnB 5 bL_grab
def bL_one_of : S := (sRet (Eg.e2 gDix (eVar 1) (eCall 2 fL_grab (aCons (eVar 0) (aCons (eB gLenA (aCons (eVar 1) aNil)) aNil)))))
def fL_one_of : Fn := fnB 2 bL_one_of
theorem ev_grab {l n : Nat} {st : Store} {t : Int} (h : Sk l st n) (hn : n ≤ 10000) (h0 : 0 < t) (ht : t < 4611686018427387904) : ∃ r st', fL_grab [.loc l, .int t] st = .ok (.int r) st' ∧ 0 ≤ r ∧ r < t ∧ Sk l st' (n + 1) := by
  obtain ⟨a, b, c, hg, ha, hc, hcn, hb0, hb, hlt⟩ := h
  have hr := rdP hg
  by_cases ha1 : 0 < a
  · have hm := modI (i := a) h0
    have hd := divI (i := a) h0 (by omega)
    refine ⟨a % t, st.put l (.lst [.int (a / t), .int b, .int c]), ?_, Int.emod_nonneg _ (by omega), Int.emod_lt_of_pos _ h0, a / t, b, c, put_self _ _ _, Int.ediv_nonneg ha (by omega), hc, by omega, hb0, hb, hlt⟩
    simp only [fL_grab, bL_grab, bindE, pureE, asI_int, szT, Nat.reduceLeDiff, Nat.zero_le, Cell.view, fnB, sSeq, sIf, sE, sRet, sNx, sAsg, sPar, sExpr, eT, bNot, bAnd, bOr, asB_bl, eVar, eC, Eg.e1, Eg.e2, Eg.e3, eAnd, eOr, eNot, eIf, aNil, aCons, eCall, eB, eLst, eTup, nw, g1E, g2E, rdI, rdB, rdN, rdS, rdT, rdL, rdD, gN, M.of, M.bad, List.map_cons, List.map_nil, List.length_cons, List.length_nil, List.replicate, List.nil_append, List.cons_append, List.getElem?_cons_zero, List.getElem?_cons_succ, List.set_cons_zero, List.set_cons_succ, Nat.sub_zero, Nat.reduceSub, Nat.reduceAdd, gN1E, rds, if_true, if_false, iteE, Bool.not_true, Bool.not_false, Bool.false_eq_true, reduceIte, ite_true, ite_false, hr, ix0, gtI, ha1, decide_true, gInt, hm, hd, gSub2, lset0 hg]
  · obtain ⟨st1, hst1⟩ : ∃ st1, st1 = st.put l (.lst [.int a, .int b, .int (c + 1)]) := ⟨_, rfl⟩
    have hg1 : st1.get l = some (.lst [.int a, .int b, .int (c + 1)]) := by rw [hst1]; exact put_self _ _ _
    have hr1 := rdP hg1
    have hl2 := lset2 (v := .int (c + 1)) hg
    rw [← hst1] at hl2
    obtain ⟨one, hone⟩ : ∃ one, one = (b + 1000427 * (c + 1)) % 2305843009213693951 := ⟨_, rfl⟩
    have o1 : 0 ≤ one := by rw [hone]; exact Int.emod_nonneg _ (by omega)
    have o2 : one < 2305843009213693951 := by rw [hone]; exact Int.emod_lt_of_pos _ (by omega)
    have m1 := mulI (i := 1000427) (j := c + 1) (by decide) (by omega)
    have m2 := mulI (i := one) (j := one) (by omega) (by omega)
    have m3 := mulI (i := one * one % 2305843009213693921) (j := one) (by
      have := Int.emod_nonneg (one * one) (show (2305843009213693921 : Int) ≠ 0 by omega)
      have := Int.emod_lt_of_pos (one * one) (show (0 : Int) < 2305843009213693921 by omega)
      omega) (by omega)
    have m4 := mulI (i := 9103) (j := c + 1) (by decide) (by omega)
    have d1 := fun i => modI (i := i) (j := 2305843009213693951) (by omega)
    have d2 := fun i => modI (i := i) (j := 2305843009213693921) (by omega)
    have d3 := fun i => modI (i := i) (j := 2305843009213693907) (by omega)
    have d4 := fun i => modI (i := i) (j := t) h0
    have d5 := fun i => divI (i := i) (j := 16384) (by omega) (by decide)
    refine ⟨((one * one % 2305843009213693921 * one + 9103 * (c + 1)) % 2305843009213693907 / 16384) % t, st1, ?_, Int.emod_nonneg _ (by omega), Int.emod_lt_of_pos _ h0, a, b, c + 1, hg1, ha, by omega, by omega, hb0, hb, by rw [hst1]; exact hlt⟩
    simp only [fL_grab, bL_grab, bindE, pureE, asI_int, szT, Nat.reduceLeDiff, Nat.zero_le, Cell.view, fnB, sSeq, sIf, sE, sRet, sNx, sAsg, sPar, sExpr, eT, bNot, bAnd, bOr, asB_bl, eVar, eC, Eg.e1, Eg.e2, Eg.e3, eAnd, eOr, eNot, eIf, aNil, aCons, eCall, eB, eLst, eTup, nw, g1E, g2E, rdI, rdB, rdN, rdS, rdT, rdL, rdD, gN, M.of, M.bad, List.map_cons, List.map_nil, List.length_cons, List.length_nil, List.replicate, List.nil_append, List.cons_append, List.getElem?_cons_zero, List.getElem?_cons_succ, List.set_cons_zero, List.set_cons_succ, Nat.sub_zero, Nat.reduceSub, Nat.reduceAdd, gN1E, rds, if_true, if_false, iteE, Bool.not_true, Bool.not_false, Bool.false_eq_true, reduceIte, ite_true, ite_false, hr, ix0, ix1, ix2, gtI, ha1, decide_false, gInt, gAdd, gSub2, hl2, hr1, m1, d1, ← hone, m2, d2, m3, m4, d3, d5, d4]
theorem ev_one_of {l n : Nat} {st : Store} {xs : List PV} (h : Sk l st n) (hn : n ≤ 10000) (h0 : 0 < xs.length) (hx : xs.length < 1000) : ∃ x st', fL_one_of [.loc l, .lst xs] st = .ok x st' ∧ x ∈ xs ∧ Sk l st' (n + 1) := by
  obtain ⟨r, st', e, r0, r1, k⟩ := ev_grab (t := (xs.length : Int)) h hn (by omega) (by omega)
  obtain ⟨x, e2, hm⟩ := at_mem r0 r1
  refine ⟨x, st', ?_, hm, k⟩
  have e3 : gDix (.lst xs) (.int r) = some x := e2
  have e4 : gLenA [.lst xs] = some (.int xs.length) := rfl
  simp only [fL_one_of, bL_one_of, bindE, pureE, asI_int, szT, Nat.reduceLeDiff, Nat.zero_le, Cell.view, fnB, sSeq, sIf, sE, sRet, sNx, sAsg, sPar, sExpr, eT, bNot, bAnd, bOr, asB_bl, eVar, eC, Eg.e1, Eg.e2, Eg.e3, eAnd, eOr, eNot, eIf, aNil, aCons, eCall, eB, eLst, eTup, nw, g1E, g2E, rdI, rdB, rdN, rdS, rdT, rdL, rdD, gN, M.of, M.bad, List.map_cons, List.map_nil, List.length_cons, List.length_nil, List.replicate, List.nil_append, List.cons_append, List.getElem?_cons_zero, List.getElem?_cons_succ, List.set_cons_zero, List.set_cons_succ, Nat.sub_zero, Nat.reduceSub, Nat.reduceAdd, gN1E, rds, if_true, if_false, iteE, Bool.not_true, Bool.not_false, Bool.false_eq_true, reduceIte, ite_true, ite_false, e4, e, e3]
theorem ev_sack {ns : List Int} {t : Int} {st : Store} (h0 : 0 ≤ t) (h1 : t < 100) : ∃ st', fL_sack [.scr ns, .int t] st = .ok (.loc st.next) st' ∧ Sk st.next st' 0 := by
  obtain ⟨m, hm0, hm⟩ := pow13
  have m1 := mulI (i := 67) (j := t) (by decide) (by omega)
  have m2 := mulI (i := 8123) (j := t) (by decide) (by omega)
  have d1 := fun i => modI (i := i) (j := m) hm0
  have d2 := fun i => modI (i := i) (j := 2147483237) (by omega)
  have d3 := fun i => modI (i := i) (j := 2305843009213693907) (by omega)
  have m3 := fun i : Int => mulI (i := i % 2147483237) (j := 96293) (by
    have := Int.emod_nonneg i (show (2147483237 : Int) ≠ 0 by omega)
    have := Int.emod_lt_of_pos i (show (0 : Int) < 2147483237 by omega)
    omega) (by decide)
  have m4 := fun b : Bool => mulI (i := 47) (j := if b then 1 else 0) (by decide) (by cases b <;> decide)
  have core : ∀ cell : Int, ∃ st', sSeq (sAsg (Eg.e2 gMod (eB gInt (aCons (eB gAbs (aCons (eVar 2) aNil)) aNil)) (Eg.e2 gPow (Eg.e2 gPow (eC (.int (10))) (eC (.int (47)))) (eC (.int (13))))) (gN 3)) (sSeq (sAsg (Eg.e2 gAdd (Eg.e2 gAdd (Eg.e2 gAdd (Eg.e2 gMul (Eg.e2 gMod (eB gInt (aCons (eVar 3) aNil)) (eC (.int (2147483237)))) (eC (.int (96293)))) (Eg.e2 gMul (eC (.int (8123))) (eVar 1))) (Eg.e2 gMul (eC (.int (47))) (eB gInt (aCons (Eg.e2 gLt (eVar 2) (eC (.int (0)))) aNil)))) (eC (.int (73)))) (gN 4)) (sRet (eLst true (aCons (eB gMax2 (aCons (eC (.int (0))) (aCons (Eg.e2 gSub (eVar 3) (Eg.e2 gPow (eC (.int (10))) (eC (.int (18))))) aNil))) (aCons (Eg.e2 gMod (eB gInt (aCons (eVar 4) aNil)) (eC (.int (2305843009213693907)))) (aCons (eC (.int (0))) aNil)))))) [some (.scr ns), some (.int t), some (.int cell), none, none] st = .rt (.loc st.next) st' ∧ Sk st.next st' 0 := by
    intro cell
    obtain ⟨gr, hgr⟩ : ∃ gr, gr = (if cell < 0 then -cell else cell) % m := ⟨_, rfl⟩
    refine ⟨st.new (.lst [.int (if gr - 1000000000000000000 > 0 then gr - 1000000000000000000 else 0), .int ((gr % 2147483237 * 96293 + 8123 * t + 47 * (if decide (cell < 0) = true then 1 else 0) + 73) % 2305843009213693907), .int 0]), ?_, ?_⟩
    · simp only [bindE, pureE, asI_int, szT, Nat.reduceLeDiff, Nat.zero_le, Cell.view, fnB, sSeq, sIf, sE, sRet, sNx, sAsg, sPar, sExpr, eT, bNot, bAnd, bOr, asB_bl, eVar, eC, Eg.e1, Eg.e2, Eg.e3, eAnd, eOr, eNot, eIf, aNil, aCons, eCall, eB, eLst, eTup, nw, g1E, g2E, rdI, rdB, rdN, rdS, rdT, rdL, rdD, gN, M.of, M.bad, List.map_cons, List.map_nil, List.length_cons, List.length_nil, List.replicate, List.nil_append, List.cons_append, List.getElem?_cons_zero, List.getElem?_cons_succ, List.set_cons_zero, List.set_cons_succ, Nat.sub_zero, Nat.reduceSub, Nat.reduceAdd, gN1E, rds, if_true, if_false, iteE, Bool.not_true, Bool.not_false, Bool.false_eq_true, reduceIte, ite_true, ite_false, gAbs, gInt, pow47, hm, d1, ← hgr, d2, m3, m2, ltI, m4, gAdd, Eg.gSub, pow18, gMax2, d3]
    · refine ⟨_, _, _, new_self _ _, ?_, by omega, by omega, Int.emod_nonneg _ (by omega), ?_, Nat.lt_succ_self _⟩
      · split <;> omega
      · have := Int.emod_lt_of_pos (gr % 2147483237 * 96293 + 8123 * t + 47 * (if decide (cell < 0) = true then 1 else 0) + 73) (show (0 : Int) < 2305843009213693907 by omega)
        omega
  obtain ⟨cell, hc⟩ : ∃ cell : Int, sAsg (eIf (eT (Eg.e2 gLt (eVar 1) (eB gLenA (aCons (eVar 0) aNil)))) (Eg.e2 gDix (eVar 0) (eVar 1)) (Eg.e2 gAdd (Eg.e2 gMul (eC (.int (67))) (eVar 1)) (eC (.int (37))))) (gN 2) [some (.scr ns), some (.int t), none, none, none] st = .nx [some (.scr ns), some (.int t), some (.int cell), none, none] st := by
    by_cases hl : t < (ns.length : Int)
    · obtain ⟨cell, hq, _⟩ := at_mem h0 hl
      have q1 : gDix (.scr ns) (.int t) = some (.int cell) := by show (L2.atI ns t).map PV.int = _; rw [hq]; rfl
      have q2 : gLenA [.scr ns] = some (.int ns.length) := rfl
      exact ⟨cell, by simp only [bindE, pureE, asI_int, szT, Nat.reduceLeDiff, Nat.zero_le, Cell.view, fnB, sSeq, sIf, sE, sRet, sNx, sAsg, sPar, sExpr, eT, bNot, bAnd, bOr, asB_bl, eVar, eC, Eg.e1, Eg.e2, Eg.e3, eAnd, eOr, eNot, eIf, aNil, aCons, eCall, eB, eLst, eTup, nw, g1E, g2E, rdI, rdB, rdN, rdS, rdT, rdL, rdD, gN, M.of, M.bad, List.map_cons, List.map_nil, List.length_cons, List.length_nil, List.replicate, List.nil_append, List.cons_append, List.getElem?_cons_zero, List.getElem?_cons_succ, List.set_cons_zero, List.set_cons_succ, Nat.sub_zero, Nat.reduceSub, Nat.reduceAdd, gN1E, rds, if_true, if_false, iteE, Bool.not_true, Bool.not_false, Bool.false_eq_true, reduceIte, ite_true, ite_false, rdC, q2, ltI, hl, decide_true, q1]⟩
    · have q2 : gLenA [.scr ns] = some (.int ns.length) := rfl
      exact ⟨67 * t + 37, by simp only [bindE, pureE, asI_int, szT, Nat.reduceLeDiff, Nat.zero_le, Cell.view, fnB, sSeq, sIf, sE, sRet, sNx, sAsg, sPar, sExpr, eT, bNot, bAnd, bOr, asB_bl, eVar, eC, Eg.e1, Eg.e2, Eg.e3, eAnd, eOr, eNot, eIf, aNil, aCons, eCall, eB, eLst, eTup, nw, g1E, g2E, rdI, rdB, rdN, rdS, rdT, rdL, rdD, gN, M.of, M.bad, List.map_cons, List.map_nil, List.length_cons, List.length_nil, List.replicate, List.nil_append, List.cons_append, List.getElem?_cons_zero, List.getElem?_cons_succ, List.set_cons_zero, List.set_cons_succ, Nat.sub_zero, Nat.reduceSub, Nat.reduceAdd, gN1E, rds, if_true, if_false, iteE, Bool.not_true, Bool.not_false, Bool.false_eq_true, reduceIte, ite_true, ite_false, rdC, q2, ltI, hl, decide_false, m1, gAdd]⟩
  obtain ⟨st', e, k⟩ := core cell
  refine ⟨st', ?_, k⟩
  exact fn_rt (m := 5) (f := bL_sack) rfl ((seqE hc).trans e)
theorem rg_get {lo : Int} {n i : Nat} {x : PV} (h : (rgL lo n)[i]? = some x) : i < n ∧ x = .int (lo + i) := by
  have h1 := (List.getElem?_eq_some_iff.mp h).1
  rw [rg_len] at h1
  refine ⟨h1, ?_⟩
  simp [rgL, h1] at h
  exact h.symm
theorem acons1 {fa : Eg.Fr → M PV} {ρ : Eg.Fr} {st st' : Store} {x : PV} (h : fa ρ st = .ok x st') : aCons fa aNil ρ st = .ok [x] st' := by
  unfold aCons
  rw [M.bind_ok h]
  rfl
/-! draws as statements; a list that grows -/
theorem Sk.put {l m : Nat} {st : Store} {n : Nat} {c : Cell} (h : Sk l st n) (e : m ≠ l) : Sk l (st.put m c) n := by
  obtain ⟨a, b, c', h1, h2⟩ := h
  exact ⟨a, b, c', by rw [Store.get_put, if_neg (fun z => e z.symm)]; exact h1, h2⟩
theorem Sk.lt {l : Nat} {st : Store} {n : Nat} (h : Sk l st n) : l < st.next := by
  obtain ⟨a, b, c, h1, h2, h3, h4, h5, h6, h7⟩ := h
  exact h7
theorem Sk.new {l : Nat} {st : Store} {n : Nat} {c : Cell} (h : Sk l st n) : Sk l (st.new c) n := by
  have hl := h.lt
  obtain ⟨a, b, c', h1, h2, h3, h4, h5, h6, h7⟩ := h
  exact ⟨a, b, c', by rw [Store.get_new, if_neg (by omega)]; exact h1, h2, h3, h4, h5, h6, by rw [Store.new_next]; omega⟩
theorem draw {ρ : Eg.Fr} {st : Store} {l n i : Nat} {fx : Eg.Fr → M PV} {xs : List PV} (h : Sk l st n) (hn : n ≤ 10000) (hl : ρ[0]? = some (some (.loc l))) (hf : fx ρ st = .ok (.lst xs) st) (h0 : 0 < xs.length) (hx : xs.length < 1000) :
    ∃ x st', sAsg (eCall 2 fL_one_of (aCons (eVar 0) (aCons fx aNil))) (gN i) ρ st = .nx (ρ.set i (some x)) st' ∧ x ∈ xs ∧ Sk l st' (n + 1) := by
  obtain ⟨x, st', e, m, k⟩ := ev_one_of h hn h0 hx
  refine ⟨x, st', ?_, m, k⟩
  simp only [bindE, pureE, asI_int, szT, Nat.reduceLeDiff, Nat.zero_le, Cell.view, fnB, sSeq, sIf, sE, sRet, sNx, sAsg, sPar, sExpr, eT, bNot, bAnd, bOr, asB_bl, eVar, eC, Eg.e1, Eg.e2, Eg.e3, eAnd, eOr, eNot, eIf, aNil, aCons, eCall, eB, eLst, eTup, nw, g1E, g2E, rdI, rdB, rdN, rdS, rdT, rdL, rdD, gN, M.of, M.bad, List.map_cons, List.map_nil, List.length_cons, List.length_nil, List.replicate, List.nil_append, List.cons_append, List.getElem?_cons_zero, List.getElem?_cons_succ, List.set_cons_zero, List.set_cons_succ, Nat.sub_zero, Nat.reduceSub, Nat.reduceAdd, gN1E, rds, if_true, if_false, iteE, Bool.not_true, Bool.not_false, Bool.false_eq_true, reduceIte, ite_true, ite_false, hl, hf, e]
/-- what f(lambda: F(xs)) says -/
def tell (xm : Nat → Nat → Option Bool) (ml : List (Nat × List Nat)) (mf : List Nat) (F : Fn) (xs : List PV) : Option (List Nat) := if locFs xs = true then
    match F xs Store.empty with
    | .ok x _ => if locF x = true then some mf else none
    | .exc e _ => if locFo e.fs = true then metPick xm e.cls ml else none
    | .bad => none
  else none
theorem met_tell {xm : Nat → Nat → Option Bool} {ml : List (Nat × List Nat)} {mf y : List Nat} {F : Fn} {n : Nat} {fr : Eg.Fr → M (List PV)} {xs : List PV} {ρ : Eg.Fr} {st : Store} (hf : fr ρ st = .ok xs st) (hn : xs.length = n) (h : tell xm ml mf F xs = some y) : eMet xm ml mf (eCall n (Eg.iso F) fr) ρ st = .ok (.str y) st := by
  unfold tell at h
  have e : eCall n (Eg.iso F) fr ρ st = Eg.iso F xs st := by
    unfold eCall
    rw [M.bind_ok hf, if_pos hn]
  unfold eMet
  rw [e]
  unfold Eg.iso
  split at h
  · rename_i hl
    rw [if_pos hl]
    cases q : F xs Store.empty with
    | ok x s =>
      rw [q] at h
      dsimp only at h ⊢
      split at h
      · rename_i hx
        rw [if_pos hx]
        cases h
        rfl
      · cases h
    | exc x s =>
      rw [q] at h
      dsimp only at h ⊢
      split at h
      · rename_i hx
        rw [if_pos hx]
        dsimp only
        rw [h]
      · cases h
    | bad => rw [q] at h; cases h
  · cases h
theorem told0 {i : Nat} {fm : Eg.Fr → M PV} {ρ : Eg.Fr} {st : Store} {y : PV} (h : fm ρ st = .ok y st) : sAsg (eLst true (aCons fm aNil)) (gN i) ρ st = .nx (ρ.set i (some (.loc st.next))) (st.new (.lst [y])) := by
  have hs : (1 : Nat) ≤ sizeLine := by rw [sizeLine_eq]; omega
  simp only [bindE, pureE, asI_int, szT, Nat.reduceLeDiff, Nat.zero_le, Cell.view, fnB, sSeq, sIf, sE, sRet, sNx, sAsg, sPar, sExpr, eT, bNot, bAnd, bOr, asB_bl, eVar, eC, Eg.e1, Eg.e2, Eg.e3, eAnd, eOr, eNot, eIf, aNil, aCons, eCall, eB, eLst, eTup, nw, g1E, g2E, rdI, rdB, rdN, rdS, rdT, rdL, rdD, gN, M.of, M.bad, List.map_cons, List.map_nil, List.length_cons, List.length_nil, List.replicate, List.nil_append, List.cons_append, List.getElem?_cons_zero, List.getElem?_cons_succ, List.set_cons_zero, List.set_cons_succ, Nat.sub_zero, Nat.reduceSub, Nat.reduceAdd, gN1E, rds, if_true, if_false, iteE, Bool.not_true, Bool.not_false, Bool.false_eq_true, reduceIte, ite_true, ite_false, h, hs]
theorem told1 {i m : Nat} {fm : Eg.Fr → M PV} {ρ : Eg.Fr} {st : Store} {y : PV} {xs : List PV} (hi : ρ[i]? = some (some (.loc m))) (hm : st.get m = some (.lst xs)) (hl : xs.length < 1000) (h : fm ρ st = .ok y st) : sExpr (eML mApp (eVar i) (aCons fm aNil)) ρ st = .nx ρ (st.put m (.lst (xs ++ [y]))) := by
  have hs : xs.length < sizeLine := by rw [sizeLine_eq]; omega
  have hv : view st (.loc m) = some (.lst xs) := by show (st.get m).map Cell.view = _; rw [hm]; rfl
  simp only [bindE, pureE, asI_int, szT, Nat.reduceLeDiff, Nat.zero_le, Cell.view, fnB, sSeq, sIf, sE, sRet, sNx, sAsg, sPar, sExpr, eT, bNot, bAnd, bOr, asB_bl, eVar, eC, Eg.e1, Eg.e2, Eg.e3, eAnd, eOr, eNot, eIf, aNil, aCons, eCall, eB, eLst, eTup, nw, g1E, g2E, rdI, rdB, rdN, rdS, rdT, rdL, rdD, gN, M.of, M.bad, List.map_cons, List.map_nil, List.length_cons, List.length_nil, List.replicate, List.nil_append, List.cons_append, List.getElem?_cons_zero, List.getElem?_cons_succ, List.set_cons_zero, List.set_cons_succ, Nat.sub_zero, Nat.reduceSub, Nat.reduceAdd, gN1E, rds, if_true, if_false, iteE, Bool.not_true, Bool.not_false, Bool.false_eq_true, reduceIte, ite_true, ite_false, eML, hi, h, Eg.lstAt, hv, mApp, hm, hs]
end Eg

/-! E41: raise C(v), where C's __init__ says super().__init__(text) and self.f = v. -/
namespace Eg
open PySem PySem.Spec PyProof.Rows L2
/-- the data of such an __init__ -/
structure XiD where
  (B i newId : String)
  bmB : List Value
  (cc cda : Addr)
  (oc ccl cl : Value)
  (od cdd cld : Option Addr)
  (osl ccs csl : Array (Option Value))
  (x qual tx slf val f : Str)
  params : Arguments
  scope : Scope
  (dV kV doc pm ct : Value)
  an : Option Addr
  jn : Nat
  (p1 p2 p3 p4 p5 p6 p7 p8 p9 p10 : Pos)
  vs : Array Value
  file : Str
  tf : Tok
  ar : Arg
  cdD : ClassData
abbrev XiD.call (D : XiD) : Expr := .Call (.Attribute (.Call (.Name "super" D.p1) [] [] D.p2) "__init__" D.p3) [.Constant (.str D.tx) D.jn D.p4] [] D.p5
abbrev XiD.body (D : XiD) : List Stmt := [.Expr D.call D.p6, .Assign [.Attribute (.Name D.slf D.p7) D.f D.p8] (.Name D.val D.p9) D.p10]
abbrev XiD.fd (D : XiD) : FuncData := PySem.W.ksFn D.x D.qual D.params D.body D.scope D.dV D.kV D.doc D.pm D.an (.ref D.cda) D.ct D.cc
/-- what is known of the class -/
structure XiK (P : Program) (K : PySem.W.Frag) (C fI : Addr) (D : XiD) : Prop where
  FB : ExcBaseFacts D.B D.newId D.i D.bmB
  KF : PySem.W.KxsFacts D.B D.i
  SF : StoreFacts D.B D.bmB "object.__setattr__" "object"
  ho : K.lookup fI = some ⟨D.oc, D.od, .func D.fd, D.osl⟩
  hcd : PySem.W.codeIn K (.ref D.cda) D.qual = true
  hcode : K.lookup D.cda = some ⟨D.ccl, D.cdd, .fields D.vs, D.ccs⟩
  hvs : D.vs[2]? = some (.str D.file D.tf)
  hfile : ((P.main.file : Str) == D.file) = true
  hcell : K.lookup D.cc = some ⟨D.cl, D.cld, .cell (some (.ref C)), D.csl⟩
  hD : PySem.W.clsIn K C = some D.cdD
  hsub : PySem.W.mroIn K C (.ref C) = some true
  hopq : PySem.W.nsIn K cStatics "thirdparty.any" = some none
  hsup : PySem.W.ks_superIn K C C "__init__" = some (some (.builtin D.i))
  hB : PySem.W.subIn K (.ref C) (.type D.B) = some true
  hq : PySem.W.excInitIn K C D.bmB D.newId = true
  hsa : PySem.W.findIn K (.ref C) "__setattr__" = some (some (.builtin "object.__setattr__"))
  hov : PySem.W.excOver K C D.bmB = true
  htk : PySem.W.takerIn K C D.f = some none
  hhd : PySem.W.hasDictIn K C = true
  har : (D.params.posonlyargs ++ D.params.args).head? = some D.ar
  hslf : D.ar.arg = D.slf
  hsv : D.slf ≠ D.val
  k1 : D.scope.names.lookup ("super" : Str) = some .globalImplicit
  k2 : D.scope.names.lookup ("__class__" : Str) = some .free
  k3 : D.scope.names.lookup D.slf = some .local
  k4 : D.scope.names.lookup D.val = some .local
  k5 : D.scope.kind = .function
  k6 : D.scope.isCoroutine = false
  k7 : D.scope.isGenerator = false
  k8 : ∀ y ∈ D.scope.names, y.2 ≠ .cell
  k9 : (P.main.scope.names.lookup ("super" : Str)).isSome = false
  k10 : (D.slf == ("__debug__" : Str)) = false
  k11 : (D.val == ("__debug__" : Str)) = false
  kE : ∀ env : Env, ∃ pl : Sem Bool, eval D.call env = (do
      let ov ← attributeBase (.Call (.Name "super" D.p1) [] [] D.p2) "__init__" env (eval (.Call (.Name "super" D.p1) [] [] D.p2) env)
      standAt D.p3.atName
      let (f, first) ← holding [ov] (getMethod ov "__init__" pl)
      callWith D.p5 f first (backTo D.p5 (starEach [.Constant (.str D.tx) D.jn D.p4] env)) [])
section
variable {P : Program} {w : World} {K : PySem.W.Frag} {A : Around} {mg mb : Str → Option Value} {s : Shared} {R : Result → Shared → Prop}
theorem exc_init {C fI e t : Addr} {D : XiD} {v : Value} (Y : XiK P K C fI D) (X : K.In s.heap) (ne : K.lookup e = none) (gN : s.heap.Ns mainGlobals mg) (gs : mg "super" = none) (bN : s.heap.Ns builtinsNs mb) (bB : ∀ y : Str, y ≠ "__name__" → mb y = bootBuiltins y) (lim : s.heap.NoLimit)
    (he : s.heap.get? e = some (PySem.W.excObj C t none .none)) (room : A.depth < recursionLimit) (bnd : BindsTo s D.fd ⟨[.ref e, v], []⟩ [(D.slf, .ref e), (D.val, v)])
    (done : ∀ h' dx t' tk, (∀ b o, b ≠ e → s.heap.get? b = some o → h'.get? b = some o) → s.heap.objs.size ≤ dx → dx ≠ e → h'.get? e = some (PySem.W.excObj C t' (some dx) .none) → h'.Ns1 dx (fun y => if y = D.f then some v else none) → R (.ok (.ret .none)) { s with heap := h', toks := tk }) :
    codeAny (model P w) A (.call (.ref fI) ⟨[.ref e, v], []⟩) R s := by
  have hloc : ∀ y ∈ [(D.slf, Value.ref e), (D.val, v)], D.scope.names.lookup y.1 = some .local := fun y hy => by
    simp only [List.mem_cons, List.not_mem_nil, or_false] at hy
    rcases hy with rfl | rfl
    · exact Y.k3
    · exact Y.k4
  refine PySem.ks_codeAny_call_defAt (body := D.body) (binds := [(D.slf, .ref e), (D.val, v)]) room (X _ _ Y.ho) rfl lim (PySem.W.codeRec_of X Y.hcd) rfl bnd Y.k8 hloc (fun h1 ns kp => ?_) Y.k6 Y.k7 Y.k5
  have hz : e < s.heap.objs.size := Heap.lt_size he
  have F : PyProof.Rows.Fr (PySem.W.hideAll s.heap [e]) s.heap.objs.size h1 (fun y => [(D.slf, Value.ref e), (D.val, v)].reverse.lookup y) := ⟨ns, fun b o z => kp b o (PySem.W.of_hideAll _ z), Nat.le_of_eq (PySem.W.hideAll_size _ _)⟩
  have X0 : K.In (PySem.W.hideAll s.heap [e]) := fun b o z => by
    have hb : b ≠ e := fun y => by rw [y, ne] at z; cases z
    exact PySem.W.hideAll_get _ (X b o z) (by simpa using hb)
  have N : News (PySem.W.hideAll s.heap [e]) s.heap.objs.size h1 [(e, PySem.W.excObj C t none .none)] := fun p hp => by
    simp only [List.mem_cons, List.not_mem_nil, or_false] at hp
    subst hp
    exact ⟨kp _ _ he, Nat.ne_of_lt hz, PySem.W.hideAll_none _ (by simp)⟩
  have m1 : ([(D.slf, Value.ref e), (D.val, v)].reverse.lookup D.slf) = some (.ref e) := by simp [List.lookup, Y.hsv, beq_eq_false_iff_ne.mpr Y.hsv]
  have m2 : ([(D.slf, Value.ref e), (D.val, v)].reverse.lookup D.val) = some v := by simp [List.lookup]
  have X1 : K.In h1 := X.keeps kp
  obtain ⟨oD, hD1, hD2⟩ : ∃ oD, h1.get? C = some oD ∧ oD.data = .cls D.cdD := by
    have hD := Y.hD
    unfold PySem.W.clsIn at hD
    split at hD
    · rename_i c d cd' sl hl
      cases hD
      exact ⟨_, X1 _ _ hl, rfl⟩
    · cases hD
  have hint : interactive (callEnv D.fd s.heap.objs.size fI) = false := by
    show (D.scope.kind == .module && _) = false
    rw [Y.k5]
    rfl
  obtain ⟨pl, kE⟩ := Y.kE (callEnv D.fd s.heap.objs.size fI)
  refine PySem.ks_wpAt_execs_cons (PySem.ks_wpAt_Expr_any (PySem.ks_wpAt_MethodCall (pl := pl) ?_ kE) hint rfl)
  refine PySem.ks_wpAt_super_base (env := callEnv D.fd s.heap.objs.size fI) Y.k1 Y.k2 (by decide) rfl (X1 _ _ Y.ho) rfl Y.har rfl (X1 _ _ Y.hcode) rfl Y.hvs Y.hfile Y.k9 ?_
  refine PySem.W.ks_loadName_global Y.k5 Y.k1 (Calls.loadGlobal_builtin (env := callEnv D.fd s.heap.objs.size fI) (gN.keeps kp) gs (bN.keeps kp) ((bB _ (by decide)).trans PyProof.Rows.Boot.«super») ⟨rfl, ?_⟩)
  refine wpAny_loadName_free Y.k5 Y.k2 rfl ⟨_, X1 _ _ Y.hcell, rfl⟩ ?_
  rw [Y.hslf]
  refine wpAny_loadName_local Y.k5 Y.k3 F.ns m1 ?_
  refine PySem.ks_wpAny_isType_cls hD1 hD2 ⟨rfl, ?_⟩
  refine PySem.ks_wpAny_call_super hD1 hD2 (kp _ _ he) rfl (fun c z => by cases z) (PySem.W.looks_mroIn X1 Y.hsub) (fun h2 e2 kp2 => ?_)
  obtain ⟨F2, N2, l2⟩ := PySem.W.ks_newsPush (s := ⟨h1, s.gens, s.drawn, s.toks + 2, s.os⟩) F N rfl e2 kp2
  have I2 : PySem.W.InstAt h2 e (PySem.W.excObj C t none .none) C none := ⟨kp2 _ _ (kp _ _ he), rfl, rfl, trivial⟩
  refine PySem.W.kxs_method (s := ⟨h2, s.gens, s.drawn, s.toks + 2, s.os⟩) Y.KF F2 X0 N2 List.mem_cons_self I2 Y.hopq Y.hsup Y.hB (by decide) fun q h3 F3 N3 l3 => ?_
  refine PySem.W.kxs_callWith1 (s := ⟨h3, s.gens, s.drawn, s.toks + 2 + 1, s.os⟩) N3 List.mem_cons_self (Calls.spliced_cons (wpAny_Constant_str (x := D.tx) (k := D.jn) (pos := D.p4) (Calls.spliced_nil ⟨PySem.W.kxs_at N3 List.mem_cons_self, ?_⟩)))
  have ne3 : q ≠ e := Nat.ne_of_gt (l3 (e, PySem.W.excObj C t none .none) (.tail _ (.head _)))
  have ne2 : h1.objs.size ≠ e := Nat.ne_of_gt (l2 (e, PySem.W.excObj C t none .none) (.head _))
  refine PySem.W.kxs_call (s := ⟨h3, s.gens, s.drawn, s.toks + 2 + 1 + 1, s.os⟩) F3 X0 N3 Y.FB Y.hq List.mem_cons_self (.tail ne3 (.tail ne2 (.head (by simp)))) (by rw [sizeLine_eq]; simp) fun t2 h4 F4 N4 l4 => ?_
  have ne4 : t2 ≠ e := Nat.ne_of_gt (l4 (e, PySem.W.excObj C t none .none) (.tail _ (.tail _ (.head _))))
  refine PySem.ks_wpAt_execs_cons (PySem.ks_wpAt_Assign_Attr ?_ rfl)
  refine PySem.wpAt_of_wpAny (wpAny_Name (wpAny_loadName_local Y.k5 Y.k4 F4.ns m2 ?_) Y.k11)
  refine wpAny_Name (wpAny_loadName_local Y.k5 Y.k3 F4.ns m1 ?_) Y.k10
  refine PySem.W.set_exc0 (s := ⟨h4, s.gens, s.drawn, s.toks + 2 + 1 + 1, s.os⟩) Y.SF F4 X0 N4 (by simp) Y.hsa Y.hov Y.htk Y.hhd rfl (.tail ne4 (.tail ne3 (.tail ne2 (.head (by simp))))) (by simp [PySem.W.putL]) fun dx h5 F5 N5 l5 => ?_
  refine PySem.wpAt_of_wpAny (wpAny_pure ?_)
  have e5 := (N5 (e, PySem.W.excObj C t2 (some dx) .none) (by simp)).1
  have d5 := (N5 (dx, PySem.W.dictOf (PySem.W.putL D.f (PyData.keyHash w.params D.f) (.str D.f (s.toks + 2 + 1 + 1 + 1)) v []) (PySem.W.putN D.f [] 0)) (by simp)).1
  refine done h5 dx t2 _ (fun b o hb z => F5.keep b o (PySem.W.hideAll_get _ z (by simpa using hb))) ?_ ?_ e5 ?_
  · refine Nat.le_trans ?_ (Nat.le_of_lt (l5 (h1.objs.size, _) (.tail _ (.tail _ (.head _)))))
    obtain ⟨o, _, _, z, _⟩ := ns
    exact Nat.le_of_lt (Heap.lt_size z)
  · exact Nat.ne_of_gt (l5 (e, PySem.W.excObj C t2 none .none) (.tail _ (.tail _ (.tail _ (.head _)))))
  · refine ⟨_, _, _, d5, rfl, ?_, ?_, fun y => ?_⟩
    · intro z hz2
      simp [PySem.W.putL] at hz2
      subst hz2
      exact ⟨_, _, rfl⟩
    · simp [UniqKeys, PySem.W.putL]
    · show (findBy _ _ y) = _
      by_cases hy : y = D.f
      · subst hy
        simp [findBy, PySem.W.putL, Value.isStr]
      · have hy2 : ¬ D.f = y := fun z => hy z.symm
        simp [findBy, PySem.W.putL, Value.isStr, hy, hy2]
end
end Eg

/-! E42: raise C(v) as a statement. -/
namespace Eg
open PySem PySem.Spec PyProof.Rows L2
/-- C, an own exception class with such an __init__ -/
structure XiC (P : Program) (K : PySem.W.Frag) (mg : Str → Option Value) (C fI : Addr) (D : XiD) : Prop where
  Y : XiK P K C fI D
  kC : PySem.W.keepIn K (.ref C) = true
  iC : PySem.W.findIn K (.ref C) "__init__" = some (some (.ref fI))
  tI : PySem.W.typeIn K (.ref fI) = some (.type "function")
  exC : PySem.W.subIn K (.ref C) (.type "BaseException") = some true
  tyC : PySem.W.typeIn K (.ref C) = some (.type "type")
  gs : mg "super" = none
  bnd : ∀ a v : Value, bindArgs D.fd ⟨[a, v], []⟩ = pure [(D.slf, a), (D.val, v)]
section
variable {X : Cx} {T : Tabs} {W : WX} {e : Expr} {te : TE} {fe : Fr → M PV} {p pos : Pos}
theorem pmk_xi {x : Str} {C fI : Addr} {D : XiD} (Z : XiC X.prog X.K X.mg C fI D) (hr : Room 1 X.A) (hg : Gl X x) (hm : X.mg x = some (.ref C)) (ha : PA X [e] (tCons te tNil)) (hdb : (x == ("__debug__" : Str)) = false)
    (he : starEach [e] X.env = (false, eval e X.env) :: starEach [] X.env) (hpl : (backTo pos (starEach [] X.env)).any (·.1) = false) : PMk X (.Call (.Name x p) [e] [] pos) (fun σ H Q => te σ H fun y H1 => ∀ d, H1 d = none → Q (.ref C) (some d) (upd H1 d (.xd [(D.f, y)]))) := by
  intro pins s σ H Q I h
  refine wpAny_Call_Name_kw (ld_glob I hg hm ?_ hdb)
  refine PySem.W.callWith_K (h₀ := X.base) I.ok.mod.kin Z.kC (thn (ha.run pos pins s σ H (fun vs H1 => match vs with | [y] => ∀ d, H1 d = none → Q (.ref C) (some d) (upd H1 d (.xd [(D.f, y)])) | _ => False) I h) fun us s1 ⟨vs, H1, I1, r1, q1⟩ => ⟨I1.kIn, ?_⟩) he hpl
  match vs, q1 with
  | [y], q1 =>
  cases r1 with
  | @cons _ u _ ur ru rr =>
  cases rr
  show wpAny _ _ (call (.ref C) [u]) _ _ _
  obtain ⟨nm, N', qn, bs, bm, hdct, sn, sub, ab, col, dd, k0, k1, k2, k3, k5, hC, hT⟩ := PySem.W.excInit_of I1.kIn Z.Y.hq
  obtain ⟨hp, g, dr, tk, os⟩ := s1
  refine wpAny_call (PySem.HandSPX.call_own Z.Y.FB hT hC (PySem.W.looks_findIn I1.kIn Z.iC) (fun slf => PySem.W.bind_fn I1.kIn slf Z.tI) (by rw [sizeLine_eq]; simp) ?_)
  have kk : ∀ b o, hp.get? b = some o → ((hp.push (PySem.W.kdv_tup [u])).push (PySem.HandSPX.excO C hp.objs.size)).get? b = some o := fun b o z => Heap.get?_push_of_some _ (Heap.get?_push_of_some _ z)
  have hget : ((hp.push (PySem.W.kdv_tup [u])).push (PySem.HandSPX.excO C hp.objs.size)).get? (hp.objs.size + 1) = some (PySem.HandSPX.excO C hp.objs.size) := by heap_get
  have I1' := I1
  obtain ⟨mkin, mgl, ⟨mb, bN, bB⟩, mlim⟩ := I1.mod
  have bk : ∀ b o, X.base.get? b = some o → hp.get? b = some o := I1.bk
  have kbase : ∀ b o, X.base.get? b = some o → ((hp.push (PySem.W.kdv_tup [u])).push (PySem.HandSPX.excO C hp.objs.size)).get? b = some o := fun b o z => kk b o (bk b o z)
  have nk : X.K.lookup (hp.objs.size + 1) = none := by
    cases z : X.K.lookup (hp.objs.size + 1) with
    | none => rfl
    | some o => exact absurd (Heap.lt_size (I1.kIn _ _ z)) (by show ¬ hp.objs.size + 1 < hp.objs.size; omega)
  have sz : ((hp.push (PySem.W.kdv_tup [u])).push (PySem.HandSPX.excO C hp.objs.size)).objs.size = hp.objs.size + 2 := by rw [Heap.size_push, Heap.size_push]
  refine exc_init (s := ⟨(hp.push (PySem.W.kdv_tup [u])).push (PySem.HandSPX.excO C hp.objs.size), g, dr, tk, os⟩) (t := hp.objs.size) (mb := mb) Z.Y (I1.kIn.keeps kk) nk (mgl.keeps kbase) Z.gs (bN.keeps kbase) bB (mlim.keeps kbase) hget (hr.make C [u] []).depth (BindsTo.of_eq (Z.bnd _ _)) fun h' dx t' tk' keep hge hne he' hns => ⟨rfl, ?_⟩
  have hge2 : hp.objs.size + 2 ≤ dx := Nat.le_trans (Nat.le_of_eq sz.symm) hge
  obtain ⟨G, g1', g2'⟩ := restrict h' fun b => decide (b ≠ hp.objs.size + 1)
  have gk : ∀ b, b ≠ hp.objs.size + 1 → G.get? b = h'.get? b := fun b hb => g1' b (decide_eq_true hb)
  have ge : G.get? (hp.objs.size + 1) = none := g2' _ (by simp)
  have sub : ∀ b o, hp.get? b = some o → G.get? b = some o := fun b o z => by
    have hb : b ≠ hp.objs.size + 1 := Nat.ne_of_lt (Nat.lt_of_lt_of_le (Heap.lt_size z) (Nat.le_succ _))
    rw [gk b hb]
    exact keep b o hb (kk b o z)
  have J : L2.Inv X pins σ (upd H1 dx (.xd [(D.f, y)])) ⟨G, g, dr, tk', os⟩ := I1.laid (t' := tk') (a := dx) (o := .xd [(D.f, y)]) (h' := G) sub (by show hp.objs.size ≤ dx; omega) ⟨_, hns.at fun o z => (gk dx hne).trans z, fun f => ?_⟩
  · refine ⟨hp.objs.size + 1, _, _, ⟨G, g, dr, tk', os⟩, _, .ref C, some dx, rfl, J, fun b o z => ?_, ge, he', ⟨rfl, rfl⟩, rfl, rfl, ?_, rfl, I1.bare, raises_own Z.exC Z.tyC, q1 dx (I1.hok.fresh (by show hp.objs.size ≤ dx; omega))⟩
    · have hb : b ≠ hp.objs.size + 1 := fun y => by rw [y, ge] at z; cases z
      exact (gk b hb).symm.trans z
    · rw [upd_ne (Ne.symm hne)]
      exact I1.hok.fresh (by show hp.objs.size ≤ hp.objs.size + 1; omega)
  · show RelO ([(D.f, y)].lookup f) _
    by_cases hf : f = D.f
    · subst hf
      rw [if_pos rfl]
      simp only [List.lookup, beq_self_eq_true]
      exact ru
    · rw [if_neg hf]
      have hb : (f == D.f) = false := beq_eq_false_iff_ne.mpr hf
      simp only [List.lookup, hb]
      trivial
end
end Eg


/-! E43: raise with a field as a statement; try with clauses with and without names. -/
namespace Eg
open PySem PySem.Spec PyProof.Rows L2
/-! ### raise C(e) -/
def sRaiseV (i n : Nat) (fe : Fr → M PV) : S := fun ρ => sE (fe ρ) ρ fun x st => .exc ⟨i, [(n, x)]⟩ ρ st
/-- class i of the exceptions is x's, its field the name n -/
structure XvW (P : Program) (K : PySem.W.Frag) (mg : Str → Option Value) (T : Tabs) (i n : Nat) (x : Str) : Prop where
  ex : ∃ (C fI : Addr) (D : XiD), XiC P K mg C fI D ∧ mg x = some (.ref C) ∧ T.xcl i = .ref C ∧ D.f = T.nm n
section
variable {X : Cx} {T : Tabs} {W : WX} {e : Expr} {fe : Fr → M PV} {p pos pos2 : Pos}
theorem pps_raiseV {i n k : Nat} {x : Str} (h : XvW X.prog X.K X.mg T i n x) (hc : X.calm = true) (hr : Room k X.A) (hk : 1 ≤ k) (tk : Takes X W) (ha : PP X T W e fe) (hg : okG X.env.scope x = true := by kernel_rfl)
    (he : starEach [e] X.env = (false, eval e X.env) :: starEach [] X.env := by rfl) (hpl : (backTo pos (starEach [] X.env)).any (·.1) = false := by rfl) : PPS X T W (.Raise (some (.Call (.Name x p) [e] [] pos)) none pos2) (sRaiseV i n fe) := by
  obtain ⟨C, fI, D, Z, gC, ex, ef⟩ := h.ex
  unfold okG at hg
  simp only [Bool.and_eq_true, Bool.not_eq_true'] at hg
  refine ⟨fun pins s σ H E I ⟨w, st, ρ, h⟩ => (ps_raise hc tk (pmk_xi Z (hr.mono hk) (gl_of hg.1) gC (pa_cons ha pa_nil he) hg.2 he hpl)).run pins s σ H E I ?_⟩
  refine RunS.eE (k := fun x ρ st => .exc ⟨i, [(n, x)]⟩ ρ st) h fun w1 st1 y v H1 l r h1 => ?_
  intro d hd
  have sm : Same H1 (upd H1 d (.xd [(D.f, v)])) := same_new hd
  refine h1.post w1 (.ref C) (some d) σ _ (Le.same sm) (h1.wr.same sm) (h1.fr.mono (Le.same sm)) ⟨ex.symm, .inr ⟨d, [(D.f, v)], rfl, h1.wr.fresh hd, upd_same, ?_⟩⟩
  have r2 := r.mono (Le.same (w := w1) sm)
  revert r2
  generalize upd H1 d (.xd [(D.f, v)]) = H2
  intro r2
  rw [ef]
  exact .cons r2 .nil
end
/-! ### try with clauses with and without names -/
abbrev Cls3 := Value × Option Nat × (Addr → Value → Option Addr → TS)
/-- what a clause's suite ends in, where its name is let go -/
def offN (D : Ends) (i : Nat) : Ends := { nx := fun σ H => D.nx (σ.set i none) H, rt := D.rt, bk := fun σ H => D.bk (σ.set i none) H, ct := fun σ H => D.ct (σ.set i none) H }
def wMix (K : PySem.W.Frag) (Wout : WX) (D : Ends) : List Cls3 → WX
  | [] => Wout
  | (c, none, ts) :: r => fun cls d σ H => ∃ b, PySem.W.exmOne K cls c = some b ∧ (b = true → ∀ a, H a = none → ts a cls d D σ H) ∧ (b = false → wMix K Wout D r cls d σ H)
  | (c, some i, ts) :: r => fun cls d σ H => ∃ b, PySem.W.exmOne K cls c = some b ∧ (b = true → ∀ a τ, H a = none → τ[i]? = some (some (.ref a)) → ts a cls d (offN D i) τ H) ∧ (b = false → wMix K Wout D r cls d σ H)
inductive MixOk (X : Cx) : List ExceptHandler → List Cls3 → Prop
  | nil : MixOk X [] []
  | plain {x : Str} {c : Value} {ts : Addr → Value → Option Addr → TS} {b₀ : Stmt} {su : List Stmt} {np q : Pos} {hds : List ExceptHandler} {l : List Cls3} (hc : Names X x c)
      (hsu : ∀ (a : Addr) (oe : Obj) (cls : Value) (d : Option Addr) (pn : List (Addr × Obj)), Zc cls d oe → (∃ vs, oe.data = .fields vs) → PSs (X.suite a ((a, oe) :: pn)) (b₀ :: su) (ts a cls d)) (r : MixOk X hds l) :
      MixOk X (.ExceptHandler (some (.Name x np)) none (b₀ :: su) q :: hds) ((c, none, ts) :: l)
  | named {x n : Str} {i : Nat} {c : Value} {ts : Addr → Value → Option Addr → TS} {b₀ : Stmt} {su : List Stmt} {np q : Pos} {hds : List ExceptHandler} {l : List Cls3} (hc : Names X x c) (hN : X.N.Nodup) (hi : X.N[i]? = some n) (hln : X.env.kindOf n = some .local)
      (hsu : ∀ (a : Addr) (oe : Obj) (cls : Value) (d : Option Addr) (pn : List (Addr × Obj)), Zc cls d oe → (∃ vs, oe.data = .fields vs) → PSs (X.suite a ((a, oe) :: pn)) (b₀ :: su) (ts a cls d)) (r : MixOk X hds l) :
      MixOk X (.ExceptHandler (some (.Name x np)) (some n) (b₀ :: su) q :: hds) ((c, some i, ts) :: l)
section
variable {X : Cx} {body : List Stmt} {h₀ : ExceptHandler} {hds : List ExceptHandler} {l : List Cls3} {pos : Pos} {tb : WX → TS} {Wout : WX}
theorem ps_try_mix (hs : X.stack = X.env :: X.outer) (hf : X.env.frame = some X.env.locals) (tk : Takes X Wout)
    (hb : ∀ (W : WX) (pn : List (Addr × Obj)) (xe : Value → Shared → Prop), Takes (X.tr pn xe) W → PassesOwn (model X.prog X.w) X.A X.env xe → PSs (X.tr pn xe) body (tb W))
    (hh : MixOk X (h₀ :: hds) l) : PS X (.Try body (h₀ :: hds) [] [] pos) (fun D σ H => tb (wMix X.K Wout D l) D σ H) := by
  refine ⟨fun pins s σ H D I h => wpAny_Try_except ?_⟩
  have okI := I.ok
  have frI : X.A.frames = some (X.env :: X.outer) := okI.frames.trans (by rw [hs])
  let Kx : Value → Shared → Prop := fun u t => wpAny (model X.prog X.w) X.A (noteFrame u X.env) (fun _ t1 => wpAny (model X.prog X.w) X.A (setFlight u none) (fun _ t2 => wpAny (model X.prog X.w) X.A (handleBy u X.env (h₀ :: hds)) (SP X pins D) X.xe t2) X.xe t1) X.xe t
  have tkB : Takes (X.tr (X.pn ++ pins) Kx) (wMix X.K Wout D l) := by
    intro u t xx
    obtain ⟨a, B, sI, pins', τ, G, cls, d, rfl, J', nb, up, sky, na, os, ag, want⟩ := xx
    have J : L2.Inv X pins τ G sI := J'.ofTry okI
    show wpAny (model X.prog X.w) X.A (noteFrame (.ref a) X.env) _ _ t
    refine Sky.land Zc.steady frI hf (by rw [← hs]; exact sky) fun g3 fl3 up3 => ?_
    have K3 : L2.Inv X pins τ G { t with heap := g3 } := J.landed nb fl3.1 (up.trans up3) os ag
    obtain ⟨o3, v3, at3, z3, dat3⟩ := fl3.there
    have aNo : a ∉ frs (X.env :: X.outer) := fun hm => by
      obtain ⟨_, o', q1, q2⟩ := fl3.2.2.1.mem hm
      have := at3.symm.trans q1
      cases this
      exact q2 _ dat3
    have aL : a ≠ X.env.locals := fun z => aNo (List.mem_filterMap.mpr ⟨X.env, .head _, hf.trans (congrArg some z.symm)⟩)
    have aF : a ∉ X.fs := fun hm => let ⟨y, hy, q⟩ := List.mem_filterMap.mp hm; aNo (List.mem_filterMap.mpr ⟨y, .tail _ hy, q⟩)
    have suite3 := K3.suite at3 dat3 na aL aF
    have asks : ∀ {x : Str} {c : Value} {np : Pos} {Q : Value → Shared → Prop} {E : Value → Shared → Prop}, Names X x c → Q c { t with heap := g3 } → wpAny (model X.prog X.w) (X.A.mark (some (.ref a))) (eval (.Name x np) X.env) Q E { t with heap := g3 } := fun {x c np Q E} hc q => by
      rcases hc with ⟨n1, n2, n3 | ⟨n3, n4, n5⟩⟩
      · exact ld_glob (X := X.suite a ((a, o3) :: (X.pn ++ pins))) suite3 n1 n3 q n2
      · exact ld_blt (X := X.suite a ((a, o3) :: (X.pn ++ pins))) suite3 n1 n3 n4 q n5 n2
    have kind : PySem.W.Looks (model X.prog X.w) g3 (typeOf (.ref a)) cls := fun _ _ _ _ k q => wpAny_typeOf_ref (k _ _ at3) (z3.1.symm ▸ q)
    have all : ∀ {hs1 : List ExceptHandler} {l1 : List Cls3}, MixOk X hs1 l1 → wMix X.K Wout D l1 cls d τ G → wpAny (model X.prog X.w) X.A (handleBy (.ref a) X.env hs1) (SP X pins D) X.xe { t with heap := g3 } := by
      intro hs1 l1 mk
      induction mk with
      | nil =>
        intro out
        refine wpAny_handleBy_nil ?_
        obtain ⟨_, _, _, oe, vv, tr, _, _, q1, _, q2, q3, _⟩ := id fl3
        unfold PySem.passOn
        refine wpAny_bind (wpAny_field q1 q2 q3 ?_)
        rw [if_neg (show ¬ ((Value.ref tr == Value.none) = true) by simp)]
        have last : wpAny (model X.prog X.w) X.A (setFlight (.ref a) X.env.frame) (fun _ t4 => wpAny (model X.prog X.w) X.A (throw (.ref a) : Sem Flow) (SP X pins D) X.xe t4) X.xe { t with heap := g3 } := by
          rw [hf]
          exact HandSPX.setFlight_upZ fl3 fun g4 sk4 up4 => wpAny_throw (tk _ _ ⟨a, B, sI, pins, τ, G, cls, d, rfl, J, nb, (up.trans up3).trans up4, .inr (.inr (by rw [hs]; exact sk4)), na, os, ag, out⟩)
        first
          | exact wpAny_bind (wpAny_pure (wpAny_bind last))
          | exact wpAny_bind last
      | @plain x c ts b₀ su np q hds1 l1 hc hsu r ih =>
        intro wish
        obtain ⟨b, e1, yes, no⟩ := wish
        refine wpAny_handleBy_cons (codeAny_handlers_test (asks hc ((PySem.W.exm_one (M := model X.prog X.w) K3.kIn kind e1).here ?_))) (by intro z; cases z)
        cases b with
        | false => exact ih (no rfl)
        | true =>
          refine codeAny_handlers_suite (HandSPX.lands_againZ fl3 fun g4 fl4 up4 => ?_)
          obtain ⟨o4, v4, at4, z4, dat4⟩ := fl4.there
          have K4 : L2.Inv X pins τ G { t with heap := g4 } := J.landed nb fl4.1 ((up.trans up3).trans up4) os ag
          have S4 := K4.suite at4 dat4 na aL aF
          refine wpAny_mono ((hsu a o4 cls d (X.pn ++ pins) z4 ⟨_, dat4⟩).run [] _ _ G _ S4 (yes rfl a na)) (fun fl t6 hp => ?_) (fun _ _ z => z.elim)
          cases fl with
          | next => obtain ⟨_, _, S6, q6⟩ := hp; exact ⟨_, _, S6.unsuite okI, q6⟩
          | brk => obtain ⟨_, _, S6, q6⟩ := hp; exact ⟨_, _, S6.unsuite okI, q6⟩
          | cont => obtain ⟨_, _, S6, q6⟩ := hp; exact ⟨_, _, S6.unsuite okI, q6⟩
          | ret u => obtain ⟨_, _, _, S6, r6, q6⟩ := hp; exact ⟨_, _, _, S6.unsuite okI, r6, q6⟩
      | @named x n i c ts b₀ su np q hds1 l1 hc hN hi hln hsu r ih =>
        intro wish
        obtain ⟨b, e1, yes, no⟩ := wish
        refine wpAny_handleBy_cons (codeAny_handlers_test (asks hc ((PySem.W.exm_one (M := model X.prog X.w) K3.kIn kind e1).here ?_))) (by intro z; cases z)
        cases b with
        | false => exact ih (no rfl)
        | true =>
          refine codeAny_handlers_suite_as (HandSPX.lands_againZ fl3 fun g4 fl4 up4 => ?_)
          obtain ⟨o4, v4, at4, z4, dat4⟩ := fl4.there
          have K4 : L2.Inv X pins τ G { t with heap := g4 } := J.landed nb fl4.1 ((up.trans up3).trans up4) os ag
          have S4 := K4.suite at4 dat4 na aL aF
          refine store_ok (X := X.suite a ((a, o4) :: (X.pn ++ pins))) (v := .ref a) S4 hN hi (.inl hln) rfl (fun t5 S5 => ?_) (.inr hln)
          have at5 : (τ.set i (some (V.ref a)))[i]? = some (some (V.ref a)) := by
            rw [List.getElem?_set_self]
            rw [J.len]
            exact (List.getElem?_eq_some_iff.mp hi).1
          refine wpAny_mono ((hsu a o4 cls d (X.pn ++ pins) z4 ⟨_, dat4⟩).run [] t5 _ G _ S5 (yes rfl a _ na at5)) (fun fl t6 hp => ?_) (fun _ _ z => z.elim)
          cases fl with
          | next => obtain ⟨_, _, S6, q6⟩ := hp; exact gone_ok (S6.unsuite okI) hN hi hln fun t7 J7 => ⟨_, _, J7, q6⟩
          | brk => obtain ⟨_, _, S6, q6⟩ := hp; exact gone_ok (S6.unsuite okI) hN hi hln fun t7 J7 => ⟨_, _, J7, q6⟩
          | cont => obtain ⟨_, _, S6, q6⟩ := hp; exact gone_ok (S6.unsuite okI) hN hi hln fun t7 J7 => ⟨_, _, J7, q6⟩
          | ret u => obtain ⟨_, _, _, S6, r6, q6⟩ := hp; exact gone_ok (S6.unsuite okI) hN hi hln fun t7 J7 => ⟨_, _, _, J7, r6, q6⟩
    exact all hh want
  refine wpAny_mono ((hb _ (X.pn ++ pins) Kx tkB PassesOwn.looking).run [] s σ H D (I.toTry _) h) (fun fl t1 hp => ?_) (fun _ _ z => z)
  cases fl with
  | next => obtain ⟨τ, G, J, q⟩ := hp; exact wpAny_execs_nil ⟨τ, G, J.ofTry okI, q⟩
  | brk => obtain ⟨τ, G, J, q⟩ := hp; exact ⟨τ, G, J.ofTry okI, q⟩
  | cont => obtain ⟨τ, G, J, q⟩ := hp; exact ⟨τ, G, J.ofTry okI, q⟩
  | ret u => obtain ⟨v, τ, G, J, r, q⟩ := hp; exact ⟨v, τ, G, J.ofTry okI, r, q⟩
end
end Eg

/-! E44: repr of any value. -/
namespace Eg
open PySem PySem.Spec PyProof.Rows L2
section
variable {X : Cx} {T : Tabs} {W : WX} {a b c e : Expr} {es : List Expr} {fa fb fc : Fr → M PV} {fr : Fr → M (List PV)} {pos p : Pos}
/-- what a value that is no object shows -/
def showV : V → Str → Prop
  | .non, z => z = "None"
  | .bl b, z => z = (if b then ("True" : Str) else ("False" : Str))
  | .int i, z => i.natAbs.log2 < 1920 ∧ z = toString i
  | .str x, z => (reprText x).length ≤ sizeLine ∧ z = reprText x
  | _, _ => False
def showS : PV → Option Str
  | .non => some "None"
  | .bl b => some (if b then ("True" : Str) else ("False" : Str))
  | .int i => if i.natAbs.log2 < 1920 then some (toString i) else none
  | .str z => if (reprText (s2 z)).length ≤ sizeLine then some (reprText (s2 z)) else none
  | _ => none
def rShow : List V → Hp → VK → Prop := fun xs H Q => ∃ v z, xs = [v] ∧ showV v z ∧ Q (.str z) H
theorem cr_show : CallR X (.builtin "repr") rShow := by
  intro pins s σ H xs us Q I rx ⟨v, z, exs, hv, q⟩
  subst exs
  obtain ⟨u, rfl, ru⟩ := vals1 rx
  cases v with
  | non =>
    cases hv
    cases (show u = Value.none from ru)
    exact PySem.P.repr_of_none ⟨.str _, H, I.tok _, ⟨_, rfl⟩, q⟩
  | bl b =>
    cases hv
    cases (show u = Value.bool b from ru)
    refine PySem.P.repr_of_bool ⟨.str _, H, I.tok _, ⟨_, rfl⟩, ?_⟩
    cases b <;> exact q
  | int i =>
    obtain ⟨h1, rfl⟩ := hv
    obtain ⟨t, rfl⟩ := ru
    exact PySem.P.repr_of_int h1 ⟨.str _, H, I.tok _, ⟨_, rfl⟩, q⟩
  | str x =>
    obtain ⟨h1, rfl⟩ := hv
    obtain ⟨t, rfl⟩ := ru
    exact PySem.P.repr_of_str ⟨.str _, H, I.tok _, ⟨_, rfl⟩, q⟩ h1
  | _ => exact hv.elim
theorem showS_ok {G : Cfg} {w : Wo} {H : Hp} {v : V} {x : PV} {z : Str} (vw : Vw G w H v x) (h : showS x = some z) : showV v z := by
  cases vw with
  | non => cases h; rfl
  | bl b => cases h; rfl
  | int i =>
    have h' : (if i.natAbs.log2 < 1920 then some (Str.ofString (toString i)) else none) = some z := h
    by_cases k : i.natAbs.log2 < 1920
    · rw [if_pos k] at h'
      cases h'
      exact ⟨k, rfl⟩
    · rw [if_neg k] at h'
      cases h'
  | str y _ =>
    have h' : (if (reprText (s2 y)).length ≤ sizeLine then some (reprText (s2 y)) else none) = some z := h
    by_cases k : (reprText (s2 y)).length ≤ sizeLine
    · rw [if_pos k] at h'
      cases h'
      exact ⟨k, rfl⟩
    · rw [if_neg k] at h'
      cases h'
  | _ => cases h
def rRepr (X : Cx) : List V → Hp → VK → Prop := fun xs H Q => ∃ (l : Addr) (d : PyData), xs = [.ref l] ∧ Dp X.K H (.ref l) d ∧ d.showable = true ∧ d.canLay0 = true ∧ d.depth ≤ 60 ∧ d.shown.length ≤ sizeLine ∧ Q (.str d.shown) H
def gReprA : List PV → Option PV
  | [x] => match showS x with
    | some z => if okS z.cps.toList then some (.str z.cps.toList) else none
    | none => gRepr [x]
  | _ => none
theorem c1_reprA : Call1 X T (fun xs H Q => rShow xs H Q ∨ rRepr X xs H Q) gReprA := by
  intro w st H vs xs z Q wr vw e af
  unfold gReprA at e
  split at e
  · rename_i x
    split at e
    · rename_i y hy
      split at e
      · rename_i hs
        cases e
        obtain ⟨v, rfl, vv⟩ := VwL1 vw
        refine .inl ⟨v, y, rfl, showS_ok vv hy, ?_⟩
        have h2 := s2_of y
        rw [h2]
        exact af.here wr (.str _ hs)
      · cases e
    · exact .inr (c1_repr w st H vs _ z Q wr vw e af)
  · cases e
theorem k_reprA (ha : PPA X T W (e :: es) fr) (hu : X.A.units + 64 < cLine) (hgd : X.A.guards = some []) (hm : X.mg "repr" = none) (hg : glB X.env.scope "repr" = true := by kernel_rfl) (he : starEach (e :: es) X.env = (false, eval e X.env) :: starEach es X.env := by rfl) (hpl : (backTo pos (starEach es X.env)).any (·.1) = false := by rfl) (hv : bootBuiltins "repr" = some (.builtin "repr") := by decide +kernel) : PP X T W (.Call (.Name "repr" p) (e :: es) [] pos) (eB gReprA fr) :=
  pp_callB (CallR.or cr_show (cr_repr hu hgd)) c1_reprA (gl_of hg) hm hv ha (by decide +kernel) (by decide +kernel) he hpl
end
end Eg

/-! E45: f(lambda: e), f's clauses with a name too: return word + repr(error.f). -/
namespace Eg
open PySem PySem.Spec PyProof.Rows L2
inductive MtK where
  | word (y : List Nat)
  | fld (pre : List Nat) (m : Nat)
def rReprK (K : PySem.W.Frag) : List V → Hp → VK → Prop := fun xs H Q => ∃ (l : Addr) (d : PyData), xs = [.ref l] ∧ Dp K H (.ref l) d ∧ d.showable = true ∧ d.canLay0 = true ∧ d.depth ≤ 60 ∧ d.shown.length ≤ sizeLine ∧ Q (.str d.shown) H
def rRpA (K : PySem.W.Frag) : List V → Hp → VK → Prop := fun xs H Q => rShow xs H Q ∨ rReprK K xs H Q
inductive MtX (X : Cx) (T : Tabs) : List ExceptHandler → List (Nat × MtK) → Prop
  | nil : MtX X T [] []
  | word {x : Str} {j n : Nat} {r : Str} {y : List Nat} {np q p5 p6 : Pos} {hds : List ExceptHandler} {l : List (Nat × MtK)} (hc : Names X x (T.xcl j)) (hy : r = s2 y) (rest : MtX X T hds l) :
      MtX X T (.ExceptHandler (some (.Name x np)) none [.Return (some (.Constant (.str r) n p5)) p6] q :: hds) ((j, .word y) :: l)
  | fld {x n f r : Str} {i j m k : Nat} {pre : List Nat} {C : Addr} {np q p1 p2 p3 p4 p5 p6 p7 : Pos} {hds : List ExceptHandler} {l : List (Nat × MtK)} (hc : Names X x (T.xcl j)) (hN : X.N.Nodup) (hi : X.N[i]? = some n) (hln : X.env.kindOf n = some .local) (hvis : visB X.env.scope n = true) (hdb : (n == ("__debug__" : Str)) = false) (hcd : (n == ("__classdict__" : Str)) = false)
      (eC : T.xcl j = .ref C) (xf : XfC X.K C) (hno : PySem.W.findIn X.K (.ref C) f = some none) (hf : f = T.nm m) (hpre : r = s2 pre) (hm : X.mg "repr" = none) (hg : glB X.env.scope "repr" = true) (hb : attributeBase (.Name n p3) f X.env (eval (.Name n p3) X.env) = eval (.Name n p3) X.env)
      (he : starEach [.Attribute (.Name n p3) f p4] X.env = (false, eval (.Attribute (.Name n p3) f p4) X.env) :: starEach [] X.env) (hpl : (backTo p5 (starEach [] X.env)).any (·.1) = false) (rest : MtX X T hds l) :
      MtX X T (.ExceptHandler (some (.Name x np)) (some n) [.Return (some (.BinOp (.Constant (.str r) k p1) .Add (.Call (.Name "repr" p2) [.Attribute (.Name n p3) f p4] [] p5) p6)) p7] q :: hds) ((j, .fld pre m) :: l)
/-- what is wanted of an exception of the lambda -/
def metX (K : PySem.W.Frag) (T : Tabs) (Q : VK) : List (Nat × MtK) → XK
  | [] => fun _ _ _ => False
  | (j, .word y) :: r => fun cls d H => ∃ b, PySem.W.exmOne K cls (T.xcl j) = some b ∧ (b = true → Q (.str (s2 y)) H) ∧ (b = false → metX K T Q r cls d H)
  | (j, .fld pre m) :: r => fun cls d H => ∃ b, PySem.W.exmOne K cls (T.xcl j) = some b ∧ (b = true → cls = T.xcl j ∧ ∃ (dd : Addr) (fs : List (Str × V)) (v : V), d = some dd ∧ H dd = some (.xd fs) ∧ fs.lookup (T.nm m) = some v ∧
      rRpA K [v] H fun u H1 => ∃ z : Str, u = .str z ∧ (s2 pre).length + z.length ≤ sizeLine ∧ Q (.str (s2 pre ++ z)) H1) ∧ (b = false → metX K T Q r cls d H)
theorem rRpA_mono {K : PySem.W.Frag} {xs : List V} {H : Hp} {Q Q' : VK} (h : rRpA K xs H Q) (k : ∀ u H1, Q u H1 → Q' u H1) : rRpA K xs H Q' := by
  rcases h with ⟨v, z, h1, h2, h3⟩ | ⟨l, d, h1, h2, h3, h4, h5, h6, h7⟩
  · exact .inl ⟨v, z, h1, h2, k _ _ h3⟩
  · exact .inr ⟨l, d, h1, h2, h3, h4, h5, h6, k _ _ h7⟩
theorem MtX.ok {X : Cx} {T : Tabs} (hu : X.A.units + 64 < cLine) (hgd : X.A.guards = some []) {hds : List ExceptHandler} {l : List (Nat × MtK)} (h : MtX X T hds l) :
    ∃ L, MixOk X hds L ∧ ∀ (D : Ends) (cls : Value) (d : Option Addr) (σ : L2.St) (H : Hp), metX X.K T D.rt l cls d H → wMix X.K (fun _ _ _ _ => False) D L cls d σ H := by
  induction h with
  | nil => exact ⟨[], .nil, fun D cls d σ H z => z⟩
  | @word x j n r y np q p5 p6 hds l hc hy rest ih =>
    obtain ⟨L, h1, h2⟩ := ih
    subst hy
    refine ⟨(T.xcl j, none, fun _ _ _ D _ H => D.rt (.str (s2 y)) H) :: L, .plain hc (fun a oe cls d pn _ _ => pss_one (ps_ret pe_str)) h1, ?_⟩
    rintro D cls d σ H ⟨b, e1, e2, e3⟩
    exact ⟨b, e1, fun hb a ha => e2 hb, fun hb => h2 D cls d σ H (e3 hb)⟩
  | @fld x n f r i j m k pre C np q p1 p2 p3 p4 p5 p6 p7 hds l hc hN hi hln hvis hdb hcd eC xf hno hf hpre hm hg hb he hpl rest ih =>
    obtain ⟨L, h1, h2⟩ := ih
    subst hpre
    refine ⟨(T.xcl j, some i, fun a cls d => tRet (tOp (rAddP X.K) (tC (.str (s2 pre))) (tCB (rRpA X.K) (tCons (tXf a cls d C f (tVar i)) tNil)))) :: L, .named hc hN hi hln (fun a oe cls d pn hz hfd => ?_) h1, ?_⟩
    · refine pss_one (ps_ret (pe_op (X := X.suite a ((a, oe) :: pn)) op_addP pe_str (pe_callB (X := X.suite a ((a, oe) :: pn)) (CallR.or cr_show (cr_repr hu hgd)) (gl_of (X := X.suite a ((a, oe) :: pn)) hg) hm (by decide +kernel) (pa_cons (pe_xf xf hno hz hfd (pe_var hi (vis_of hvis) hdb hcd) hb) pa_nil he) (by decide) (by decide) he hpl)))
    · rintro D cls d σ H ⟨b, e1, e2, e3⟩
      refine ⟨b, e1, fun hb2 a τ ha hτ => ?_, fun hb => h2 D cls d σ H (e3 hb)⟩
      obtain ⟨ec, dd, fs, v, q1, q2, q3, q4⟩ := e2 hb2
      refine ⟨.ref a, hτ, rfl, ec.trans eC, dd, fs, v, q1, q2, by rw [hf]; exact q3, ?_⟩
      refine rRpA_mono q4 fun u H1 ⟨z, eu, hl, hq⟩ => ?_
      subst eu
      exact .inr (.inl ⟨_, _, rfl, rfl, hl, hq⟩)
def TMetX (K : PySem.W.Frag) (T : Tabs) (l : List (Nat × MtK)) (fine : List Nat) : (XK → Hp → VK → Prop) → Hp → VK → Prop := fun tl H Q => tl (metX K T Q l) H fun _ H' => Q (.str (s2 fine)) H'
section
variable {X : Cx} {T : Tabs}
theorem met_givesX {Ng : List Str} {x a q : Str} {sg : Scope} {g : Addr} {cdg : Value} {h₀ : ExceptHandler} {hds : List ExceptHandler} {l : List (Nat × MtK)} {fine : Str} {y : List Nat} {n : Nat} {p1 p2 p3 p4 p5 p8 : Pos} {f c' : Addr} {s : Shared} {H : Hp} {Q : VK} {tl : XK → Hp → VK → Prop}
    (hh : MtX (cxOf C8.CX0 X.prog X.w X.K X.mg X.base Ng x sg g cdg X.A X.stack s H C8.E0).nox T (h₀ :: hds) l) (hu : (X.A.deeper (envOfC x sg s.heap.objs.size g cdg)).units + 64 < cLine) (hgd : X.A.guards = some []) (hy : fine = s2 y) (h0 : ∀ f : Addr, (L2.start Ng [V.ref f])[0]? = some (some (V.ref f)))
    (act : ∀ (W : WX) (pn : List (Addr × Obj)) (xe : Value → Shared → Prop) (E : XK) (p1 p2 : Pos), Takes ((cxOf C8.CX0 X.prog X.w X.K X.mg X.base Ng x sg g cdg X.A X.stack s H C8.E0).tr pn xe) W → (∀ cls d σ' H', E cls d H' → W cls d σ' H') →
      PE ((cxOf C8.CX0 X.prog X.w X.K X.mg X.base Ng x sg g cdg X.A X.stack s H C8.E0).tr pn xe) (.Call (.Name a p1) [] [] p2) (fun σZ HZ Q => σZ[0]? = some (some (.ref f)) ∧ HZ c' = some (LamX.CodeO c' q) ∧ tl E HZ Q))
    (hc : H c' = some (LamX.CodeO c' q)) (h : TMetX X.K T l y tl H Q) :
    ∃ t, PSs (cxOf C8.CX0 X.prog X.w X.K X.mg X.base Ng x sg g cdg X.A X.stack s H C8.E0).nox [.Try [.Expr (.Call (.Name a p1) [] [] p2) p3] (h₀ :: hds) [] [] p8, .Return (some (.Constant (.str fine) n p4)) p5] t ∧ t { nx := fun _ H' => Q .non H', rt := Q } (L2.start Ng [.ref f]) H := by
  subst hy
  obtain ⟨L, ok, many⟩ := MtX.ok (X := (cxOf C8.CX0 X.prog X.w X.K X.mg X.base Ng x sg g cdg X.A X.stack s H C8.E0).nox) hu hgd hh
  refine ⟨_, pss_cons (ps_try_mix (X := (cxOf C8.CX0 X.prog X.w X.K X.mg X.base Ng x sg g cdg X.A X.stack s H C8.E0).nox) (Wout := fun _ _ _ _ => False)
      (tb := fun W D σ H => ∃ Ech : XK, (∀ cls d σ' H', Ech cls d H' → W cls d σ' H') ∧ σ[0]? = some (some (.ref f)) ∧ H c' = some (LamX.CodeO c' q) ∧ tl Ech H fun _ H' => D.nx σ H')
      rfl rfl takes_none5 (fun W pn xe tk _ => ?_) ok) (pss_one (ps_ret pe_str)), ?_⟩
  · refine ⟨fun pins s' σ H' D I h' => ?_⟩
    obtain ⟨Ech, hW, h1, h2, h3⟩ := h'
    exact (pss_one (ps_expr (pos := p3) (act W pn xe Ech p1 p2 tk hW))).run pins s' σ H' D I ⟨h1, h2, h3⟩
  · exact ⟨metX X.K T Q l, fun cls d σ' H' z => many _ cls d σ' H' z, h0 f, hc, h⟩
/-- the def that gets it, its clauses as MtX tells -/
structure LmX (K : PySem.W.Frag) (mg : Str → Option Value) (T : Tabs) (x : Str) (l : List (Nat × MtK)) (y : List Nat) : Prop where
  ex : ∃ (g : Addr) (v : Str) (Ng : List Str) (pg : Arguments) (sg : Scope) (dV kV doc pm cdv ct oc : Value) (an od : Option Addr) (osl : Array (Option Value)) (fine : Str) (n : Nat) (h₀ : ExceptHandler) (hds : List ExceptHandler) (p1 p2 p3 p4 p5 p8 : Pos),
    mg x = some (.ref g) ∧ PySem.W.keepIn K (.ref g) = true ∧
    K.lookup g = some ⟨oc, od, .func (PySem.W.fnOf x x pg [.Try [.Expr (.Call (.Name v p1) [] [] p2) p3] (h₀ :: hds) [] [] p8, .Return (some (.Constant (.str fine) n p4)) p5] sg dV kV doc pm an cdv ct), osl⟩ ∧
    PySem.W.codeIn K cdv x = true ∧ L2.Binds K (PySem.W.fnOf x x pg [.Try [.Expr (.Call (.Name v p1) [] [] p2) p3] (h₀ :: hds) [] [] p8, .Return (some (.Constant (.str fine) n p4)) p5] sg dV kV doc pm an cdv ct) [v] [] ∧
    FnScope Ng [v] sg ∧ Ng[0]? = some v ∧ Vis sg v ∧ (v == ("__debug__" : Str)) = false ∧ (v == ("__classdict__" : Str)) = false ∧ fine = s2 y ∧
    (∀ f : Addr, (L2.start Ng [V.ref f])[0]? = some (some (V.ref f))) ∧
    ∀ (X : Cx) (s : Shared) (H : Hp), X.K = K → X.mg = mg → MtX (cxOf C8.CX0 X.prog X.w X.K X.mg X.base Ng x sg g cdv X.A X.stack s H C8.E0).nox T (h₀ :: hds) l
def pickX (xm : Nat → Nat → Option Bool) (e : Exn) : List (Nat × MtK) → Option (List Nat)
  | [] => none
  | (j, .word y) :: r => match xm e.cls j with
    | some true => some y
    | some false => pickX xm e r
    | none => none
  | (j, .fld pre m) :: r => match xm e.cls j with
    | some true => if e.cls = j then (match e.fs with
      | [(k, x)] => if k = m then (match gReprA [x] with
        | some (.str z) => if pre.length + z.length ≤ sizeLine then some (pre ++ z) else none
        | _ => none) else none
      | _ => none) else none
    | some false => pickX xm e r
    | none => none
def eMetX (xm : Nat → Nat → Option Bool) (l : List (Nat × MtK)) (fine : List Nat) (fb : Fr → M PV) : Fr → M PV := fun ρ st => match fb ρ st with
  | .ok _ st' => .ok (.str fine) st'
  | .exc e st' => match pickX xm e l with
    | some y => if okS y then .ok (.str y) st' else .bad
    | none => .bad
  | .bad => .bad
theorem metX_pick {xm : Nat → Nat → Option Bool} {w : Wo} {st : Store} {H : Hp} {d : Option Addr} {e : Exn} {cls : Value} {Q : VK} (hx : XmW X.K T xm) (wr : Wr (Cx.g X T) w st H) (ex : ExR (Cx.g X T) w H cls d e) :
    ∀ (l : List (Nat × MtK)) {y : List Nat}, pickX xm e l = some y → okS y = true → Aft X T w st H (.str y) Q → metX X.K T Q l cls d H
  | [], y, h, ok, q => by cases h
  | (j, .word z) :: r, y, h, ok, q => by
    unfold pickX at h
    have ec := ex.1
    cases h1 : xm e.cls j with
    | none => rw [h1] at h; cases h
    | some b =>
      rw [h1] at h
      refine ⟨b, by rw [ec]; exact hx _ _ _ h1, fun hb => ?_, fun hb => ?_⟩
      · subst hb; cases h; exact q.here wr (.str _ ok)
      · subst hb; exact metX_pick hx wr ex r h ok q
  | (j, .fld pre m) :: r, y, h, ok, q => by
    unfold pickX at h
    have ec := ex.1
    cases h1 : xm e.cls j with
    | none => rw [h1] at h; cases h
    | some b =>
      rw [h1] at h
      refine ⟨b, by rw [ec]; exact hx _ _ _ h1, fun hb => ?_, fun hb => ?_⟩
      · subst hb
        dsimp only at h
        split at h
        · rename_i ej
          split at h
          · rename_i k x hfs
            split at h
            · rename_i ekm
              subst ekm
              split at h
              · rename_i z hz
                split at h
                · rename_i hl
                  cases h
                  refine ⟨by rw [ec, ej], ?_⟩
                  rcases ex.2 with e0 | ⟨dd, vs, e1, e2, e3, e4⟩
                  · rw [hfs] at e0; cases e0
                  · rw [hfs] at e4
                    cases e4 with
                    | cons rv rest =>
                    cases rest
                    refine ⟨dd, _, _, e1, e3, by simp [List.lookup]; rfl, ?_⟩
                    have hn : noLoc x = true := by
                      cases x <;> first | rfl | (cases hz; done)
                    refine c1_reprA (X := X) (T := T) w st H [_] [x] (.str z) _ wr ⟨rv.vw hn, True.intro⟩ hz ?_
                    intro w' u H' le wr' ru
                    cases ru with
                    | str _ okz =>
                    refine ⟨s2 z, rfl, hl, ?_⟩
                    rw [s2_app]
                    exact q w' _ H' le wr' (.str _ ok)
                · cases h
              · cases h
            · cases h
          · cases h
        · cases h
      · subst hb; exact metX_pick hx wr ex r h ok q
end
section
variable {X : Cx} {T : Tabs} {W : WX} {pins : List (Addr × Obj)} {σ : L2.St} {H : Hp} {s : Shared}
theorem pp_lamX {x : Str} {k : Nat} {l : List (Nat × MtK)} {y : List Nat} {xm : Nat → Nat → Option Bool} {params : Arguments} {body : Expr} {scope : Scope} {fb : Fr → M PV} {p lpos pos : Pos} (m : LmX X.K X.mg T x l y) (lt : LamT X T) (hx : XmW X.K T xm) (B : Bd X W (k + 2))
    (hg : okG X.env.scope x = true) (L : LamX.lamSB X.env.scope scope = true) (nd : defaultsOf params X.env = ([], [])) (okw : okS y = true)
    (bd : ∀ (q : Str) (cl : List (Str × Addr)) (pm cv ct : Value), bindArgs (PySem.W.kla_fn "<lambda>" q params body scope cl pm cv ct) ⟨[], []⟩ = pure [])
    (bodyP : ∀ (A : Around) (outer : List Env) (s : Shared) (H : Hp) (E : XK) (f c : Addr), Bd (LamX.lamCx X A outer s H E scope f c) (fun cls d _ H' => E cls d H') k → PP (LamX.lamCx X A outer s H E scope f c) T (fun cls d _ H' => E cls d H') body fb) :
    PP X T W (.Call (.Name x p) [.Lambda params body scope lpos] [] pos) (eMetX xm l y fb) := by
  obtain ⟨g, v, Ng, pg, sg, dV, kV, doc, pm, cdv, ct, oc, an, od, osl, fine, n, h₀, hds, p1, p2, p3, p4, p5, p8, hm, hk, lk, hcg, hb, Sg, i0, vis, db, cd, ey, h0, hh⟩ := m.ex
  obtain ⟨c, P, TB, ec, memT, hu⟩ := lt.ex
  have Ls := LamX.lamS_by L
  unfold okG at hg
  simp only [Bool.and_eq_true, Bool.not_eq_true'] at hg
  refine ⟨fun pins s σ H Q I ⟨w, st, ρ, h⟩ => ?_⟩
  refine wpAny_Call_Name_kw (ld_glob I (gl_of hg.1) hm ?_ hg.2)
  refine PySem.W.callWith_K (h₀ := X.base) I.ok.mod.kin hk ?_ (by rfl) (by rfl)
  show wpAny _ _ (spliced ((false, eval (.Lambda params body scope lpos) X.env) :: backTo pos (starEach [] X.env))) _ _ s
  have tab0 := tab_of h.wr.tab _ memT
  refine Calls.spliced_cons (lam_mk I TB ec tab0 nd (Ls.has I.ok) fun f d pm' ct' H1 s1 I1 gr atf nof nfr atd => ?_)
  refine Calls.spliced_nil ⟨I1.kIn, ?_⟩
  obtain ⟨le1, wr1⟩ := le_grown h.wr gr ⟨_, memT, rfl⟩ hu
  have lr : ∀ (E : XK) (A : Around) (outer : List Env) (s : Shared) (H : Hp), A.guards = some [] → Room k (A.deeper (LamX.lamEnv X scope s.heap.objs.size f d)) → PE (LamX.lamCx X A outer s H E scope f d) body (tE X T (fun cls dd _ H' => E cls dd H') fb) := fun E A outer s H gd rm =>
    ⟨fun pins s1 σ H1 Q I ⟨w, st, ρ, h⟩ => (bodyP A outer s H E f d ⟨rfl, B.nd, rm, passes_of rfl, takes_of rfl rfl rfl rfl, gd⟩).run pins s1 σ H1 Q I ⟨w, st, ρ, h.wr, h.fr, h.post⟩⟩
  have want : TMetX X.K T l y (fun E H' Q' => tE X T (fun cls dd _ H2 => E cls dd H2) fb σ H' Q') H1 Q := by
    refine ⟨w, st, ρ, wr1, h.fr.mono le1, ?_⟩
    have pq := h.post.mono le1
    unfold eMetX at pq
    cases q : fb ρ st with
    | bad => rw [q] at pq; exact pq
    | ok z st1 =>
      rw [q] at pq
      exact fun w2 v2 H2 l2 wr2 _ => pq w2 _ H2 l2 wr2 (.str y okw)
    | exc z st1 =>
      rw [q] at pq
      dsimp only at pq
      cases q2 : pickX xm z l with
      | none => rw [q2] at pq; exact pq.elim
      | some yy =>
        rw [q2] at pq
        dsimp only at pq
        split at pq
        · rename_i okyy
          exact fun w2 cls dd H2 l2 wr2 ex2 => metX_pick hx wr2 ex2 l q2 okyy fun w3 v3 H3 l3 wr3 r3 => pq w3 v3 H3 (l2.trans l3) wr3 r3
        · exact pq.elim
  have run : codeAny (model X.prog X.w) X.A (.call (.ref g) ⟨[.ref f], []⟩) (CR C8.CX0 X.stack X.prog X.w H1 s1 Q C8.E0) s1 := by
    refine LamX.run_ofS (N := Ng) (ps := [v]) (us := [.ref f]) (vs := [.ref f]) lk hcg Sg B.room I1.env0 (hb s1 [.ref f] I1.kIn rfl) (.cons rfl .nil) rfl fun rm => ?_
    obtain ⟨t, t1, t2⟩ := met_givesX (X := X) (q := X.env.qual ++ "<lambda>") (tl := fun E H' Q' => tE X T (fun cls dd _ H2 => E cls dd H2) fb σ H' Q') (hh X s1 H1 rfl rfl) (by have := rm.un; omega) B.gd ey h0
      (fun W1 pn xe E q1 q2 tk up => act_g (i := 0) I1 Ls atf nof nfr (bd _ _ _ _ _) tk up rm B.gd (fun A outer s H gd rm2 => lr E A outer s H gd rm2) i0 vis db cd) atd want
    exact ⟨t, t1.nox, t2⟩
  refine wpAny_call (codeAny_mono run fun r s2 hq => ?_)
  rcases r with er | fl
  · exact (show False from hq).elim
  · cases fl with
    | ret u => exact I1.after hq
    | next => exact hq.elim
    | brk => exact hq.elim
    | cont => exact hq.elim
end
end Eg

/-! E46: dicts whose keys are tuples (of any depth): lookup, in, len. -/
namespace Eg
open PySem PySem.Spec PyProof.Rows L2
section
variable {G : Cfg} {w : Wo} {H : Hp} {h : Heap}
mutual
/-- a pure value that can be a key is that key in the heap -/
theorem Rep.nested (ok : HOk G.P G.w H h) : ∀ {v : V} {x : PV} {k : NestedKey} {u : Value}, Rep G w H v x → nkOf x = some k → RelV v u → NestedIs h k u
  | _, _, _, _, .int i, e, ⟨t, r⟩ => by
    cases e
    subst r
    exact .int i t
  | _, _, _, _, .str x _, e, ⟨t, r⟩ => by
    cases e
    subst r
    exact .text _ t
  | _, .tup xs, k, u, .tup (a := a) (vs := vs) hz rl, e, r => by
    cases (show u = Value.ref a from r)
    cases q : nkAll xs with
    | none => simp [nkOf, q] at e
    | some ks =>
      simp [nkOf, q] at e
      subst e
      obtain ⟨_, o, _, ea⟩ := hz
      obtain ⟨_, _, its, rv, o', h1, h2, n, h3⟩ := ok a _ ea
      exact .tup h1 h2 h3 (by simpa using RepL.nested ok rl q rv)
  | _, _, _, _, .non, e, _ => by cases e
  | _, _, _, _, .bl b, e, _ => by cases e
  | _, _, _, _, .lst _ _ _, e, _ => by cases e
  | _, _, _, _, .pr _ _ _, e, _ => by cases e
  | _, _, _, _, .dcK _ _ _, e, _ => by cases e
  | _, _, _, _, .dcT _ _ _ _, e, _ => by cases e
  | _, _, _, _, .obj _ _ _, e, _ => by cases e
  | _, _, _, _, .loc _, e, _ => by cases e
  | _, _, _, _, .ty n, e, _ => by cases e
  | _, _, _, _, .scr _, e, _ => by cases e
theorem RepL.nested (ok : HOk G.P G.w H h) : ∀ {vs : List V} {xs : List PV} {ks : List NestedKey} {us : List Value}, RepL G w H vs xs → nkAll xs = some ks → Vals vs us → NestedAll h ks us
  | _, _, _, _, .nil, e, r => by
    cases e
    cases r
    exact .nil
  | _, x :: xs, _, _, .cons a b, e, r => by
    cases r with
    | cons r1 r2 =>
      unfold nkAll at e
      cases q1 : nkOf x with
      | none => simp [q1] at e
      | some k =>
        cases q2 : nkAll xs with
        | none => simp [q1, q2] at e
        | some ks =>
          simp [q1, q2] at e
          subst e
          exact .cons (Rep.nested ok a q1 r1) (RepL.nested ok b q2 r2)
end
end
mutual
theorem peq_nk : ∀ (x y : PV) {k l : NestedKey}, nkOf x = some k → nkOf y = some l → peq x y = NestedKey.beq k l
  | .int i, .int j, _, _, h1, h2 => by cases h1; cases h2; simp [peq, NestedKey.beq]; rfl
  | .int i, .str y, _, _, h1, h2 => by cases h1; cases h2; rfl
  | .str x, .int j, _, _, h1, h2 => by cases h1; cases h2; rfl
  | .str x, .str y, _, _, h1, h2 => by
    cases h1; cases h2
    simp only [peq, NestedKey.beq]
    rw [Bool.eq_iff_iff, beq_iff_eq, decide_eq_true_eq]
    exact ⟨fun e => by rw [e], fun e => s2_inj e⟩
  | .int i, .tup ys, _, l, h1, h2 => by
    cases h1
    unfold nkOf at h2
    split at h2
    · cases h2; rfl
    · cases h2
  | .str x, .tup ys, _, l, h1, h2 => by
    cases h1
    unfold nkOf at h2
    split at h2
    · cases h2; rfl
    · cases h2
  | .tup xs, .int j, _, _, h1, h2 => by
    cases h2
    unfold nkOf at h1
    split at h1
    · cases h1; rfl
    · cases h1
  | .tup xs, .str j, _, _, h1, h2 => by
    cases h2
    unfold nkOf at h1
    split at h1
    · cases h1; rfl
    · cases h1
  | .tup xs, .tup ys, k, l, h1, h2 => by
    cases q1 : nkAll xs with
    | none => simp [nkOf, q1] at h1
    | some ks =>
      cases q2 : nkAll ys with
      | none => simp [nkOf, q2] at h2
      | some ls =>
        simp [nkOf, q1] at h1
        simp [nkOf, q2] at h2
        subst h1 h2
        show peqs xs ys = NestedKey.beqAll ks ls
        exact peqs_nk xs ys q1 q2
  | .non, _, _, _, h1, _ => by cases h1
  | .bl _, _, _, _, h1, _ => by cases h1
  | .lst _, _, _, _, h1, _ => by cases h1
  | .set _, _, _, _, h1, _ => by cases h1
  | .dct _, _, _, _, h1, _ => by cases h1
  | .obj _ _, _, _, _, h1, _ => by cases h1
  | .loc _, _, _, _, h1, _ => by cases h1
  | .ty _, _, _, _, h1, _ => by cases h1
  | .scr _, _, _, _, h1, _ => by cases h1
  | _, .non, _, _, _, h2 => by cases h2
  | _, .bl _, _, _, _, h2 => by cases h2
  | _, .lst _, _, _, _, h2 => by cases h2
  | _, .set _, _, _, _, h2 => by cases h2
  | _, .dct _, _, _, _, h2 => by cases h2
  | _, .obj _ _, _, _, _, h2 => by cases h2
  | _, .loc _, _, _, _, h2 => by cases h2
  | _, .ty _, _, _, _, h2 => by cases h2
  | _, .scr _, _, _, _, h2 => by cases h2
theorem peqs_nk : ∀ (xs ys : List PV) {ks ls : List NestedKey}, nkAll xs = some ks → nkAll ys = some ls → peqs xs ys = NestedKey.beqAll ks ls
  | [], [], _, _, h1, h2 => by cases h1; cases h2; rfl
  | [], y :: ys, _, _, h1, h2 => by
    cases h1
    unfold nkAll at h2
    split at h2
    · cases h2; rfl
    · cases h2
  | x :: xs, [], _, _, h1, h2 => by
    cases h2
    unfold nkAll at h1
    split at h1
    · cases h1; rfl
    · cases h1
  | x :: xs, y :: ys, _, _, h1, h2 => by
    unfold nkAll at h1 h2
    split at h1
    · rename_i k ks a1 a2
      split at h2
      · rename_i l ls b1 b2
        cases h1; cases h2
        simp only [peqs, NestedKey.beqAll]
        rw [peq_nk x y a1 b1, peqs_nk xs ys a2 b2]
      · cases h2
    · cases h1
end
section
variable {G : Cfg} {w : Wo} {H : Hp}
/-- what the dict holds at a key -/
def atN (ks : List NKV) (l : NestedKey) : Option (Addr × V) := (ks.find? fun p => decide (p.1 = l)).map (·.2)
theorem RepT.lookN {y : PV} {l : NestedKey} (hy : nkOf y = some l) : ∀ {ks : List NKV} {kvs : List (PV × PV)}, RepT G w H ks kvs → (∀ x, dlook y kvs = some x → ∃ q v, atN ks l = some (q, v) ∧ Rep G w H v x) ∧ (dlook y kvs = none → atN ks l = none)
  | _, _, .nil => ⟨(fun _ h => by cases h), fun _ => rfl⟩
  | _, _, .cons (k := k) (q := q) (v := v) (pk := pk) (x := x) t hk rq rv rs => by
    have ih := RepT.lookN hy rs
    have pe : peq pk y = decide (k = l) := (peq_nk pk y hk hy).trans (NestedKey.decide_eq k l).symm
    unfold dlook atN
    rw [pe]
    by_cases e : k = l
    · subst e
      simp only [decide_true, if_true, List.find?_cons, Option.map_some]
      exact ⟨fun x' h => by cases h; exact ⟨q, v, rfl, rv⟩, fun h => by cases h⟩
    · simp only [decide_eq_false e, Bool.false_eq_true, if_false, List.find?_cons]
      exact ih
end
end Eg

/-! E47: dicts whose keys are tuples: d[t], t in d, len(d). -/
namespace Eg
open PySem PySem.Spec PyProof.Rows L2
def nkd (y : PV) : Bool := match nkOf y with
  | some l => decide (l.depth ≤ 8)
  | none => false
def okN : List (PV × PV) → Bool
  | [] => true
  | (k, _) :: r => isTupP k && nkd k && okN r
theorem nkd_ok {y : PV} (h : nkd y = true) : ∃ l, nkOf y = some l ∧ l.depth ≤ 8 := by
  unfold nkd at h
  split at h
  · rename_i l e; exact ⟨l, e, of_decide_eq_true h⟩
  · cases h
abbrev NPr : List NKV → List (NestedKey × Addr × Value) → Prop := Paired fun (p : NKV) (q : NestedKey × Addr × Value) => p.1 = q.1 ∧ p.2.1 = q.2.1 ∧ RelV p.2.2 q.2.2
theorem NPr.at {l : NestedKey} {ks : List NKV} {ys : List (NestedKey × Addr × Value)} (h : NPr ks ys) : (∀ q v, atN ks l = some (q, v) → ∃ u, atKey ys l = some (q, u) ∧ RelV v u) ∧ (atN ks l = none → atKey ys l = none) := by
  induction h with
  | nil => exact ⟨(fun q v e => by cases e), fun _ => rfl⟩
  | @cons p q ps qs h t ih =>
    obtain ⟨k, a, v⟩ := p
    obtain ⟨k', a', u⟩ := q
    obtain ⟨h1, h2, h3⟩ := h
    dsimp only at h1 h2 h3
    subst h1 h2
    unfold atN atKey
    by_cases e : k = l
    · simp only [List.find?_cons, e, decide_true, Option.map_some]
      exact ⟨(fun q w z => by cases z; exact ⟨u, rfl, h3⟩), fun z => by cases z⟩
    · simp only [List.find?_cons, decide_eq_false e]
      exact ih
section
variable {X : Cx} {T : Tabs} {W : WX} {a b c e : Expr} {es : List Expr} {fa fb fc : Fr → M PV} {fr : Fr → M (List PV)} {pos p : Pos}
theorem key_nk {pins : List (Addr × Obj)} {σ : L2.St} {H : Hp} {s : Shared} {w : Wo} {q : Addr} {pk : PV} {l : NestedKey} (I : L2.Inv X pins σ H s) (r : Rep (Cx.g X T) w H (.ref q) pk) (e : nkOf pk = some l) (d : l.depth ≤ 8) : (nestedKind X.prog X.w).is s.heap l q :=
  ⟨Rep.nested (G := Cx.g X T) I.hok r e rfl, d⟩
theorem dN_dict {pins : List (Addr × Obj)} {σ : L2.St} {H : Hp} {s : Shared} {w : Wo} {ad : Addr} {ks : List NKV} {kvs : List (PV × PV)} (I : L2.Inv X pins σ H s) (hd : Rd H ad (dN X.prog X.w ad ks)) (r : RepT (Cx.g X T) w H ks kvs) (ok : okN kvs = true) :
    ks.length ≤ sizeLine ∧ (ad == sysModules) = false ∧ ∃ ys, NPr ks ys ∧ s.heap.DictOfH (nestedKind X.prog X.w) ad ys := by
  obtain ⟨z, y, ys, pr, o, es, ep, h1, h2, h3, h4, h5⟩ := dN_rd I.hok hd
  refine ⟨z, y, ys, pr, o, es, ep, h1, h2, h3, h4, ?_, h5⟩
  have all : ∀ {ks : List NKV} {ys : List (NestedKey × Addr × Value)}, NPr ks ys → ∀ {kvs : List (PV × PV)}, RepT (Cx.g X T) w H ks kvs → okN kvs = true → ∀ x ∈ ys, (nestedKind X.prog X.w).is s.heap x.1 x.2.1 := by
    intro ks ys pr
    induction pr with
    | nil => intro kvs _ _ x hx; exact nomatch hx
    | @cons p q ps qs hq t ih =>
      intro kvs r ok x hx
      cases r with
      | cons t1 k1 rq rv rs =>
        simp only [okN, Bool.and_eq_true] at ok
        obtain ⟨l, e1, e2⟩ := nkd_ok ok.1.2
        rw [k1] at e1
        cases e1
        rcases List.mem_cons.mp hx with e | hx
        · subst e
          have := key_nk I rq k1 e2
          rw [← hq.1, ← hq.2.1]
          exact this
        · exact ih rs ok.2 x hx
  exact all pr r ok
/-! ### d[t] -/
def rDixN (X : Cx) (T : Tabs) : R2 := fun x y H Q => ∃ (ad q : Addr) (ks : List NKV) (kvs : List (PV × PV)) (w : Wo) (pk : PV) (l : NestedKey) (q' : Addr) (v : V), x = .ref ad ∧ y = .ref q ∧ Rd H ad (dN X.prog X.w ad ks) ∧ RepT (Cx.g X T) w H ks kvs ∧ okN kvs = true ∧
  Rep (Cx.g X T) w H (.ref q) pk ∧ nkOf pk = some l ∧ l.depth ≤ 8 ∧ atN ks l = some (q', v) ∧ Q v H
theorem ix_dN (hu : X.A.units + 64 < cLine) : IxR X (rDixN X T) := by
  intro value slice pins s σ H x y v u Q I rx ry ⟨ad, q, ks, kvs, w, pk, l, q', z, ex, ey, hd, r, ok, rq, e1, e2, at1, hq⟩ hs
  subst ex ey
  cases (show v = Value.ref ad from rx)
  cases (show u = Value.ref q from ry)
  obtain ⟨_, hy, ys, pr, dd⟩ := dN_dict I hd r ok
  obtain ⟨uu, at2, ru⟩ := (NPr.at pr).1 q' z at1
  have hT := dd.typeIs
  have hg : wpAny (model X.prog X.w) X.A (getItem (.ref ad) (.ref q)) (EP X pins σ Q) X.xe s := wpAny_getItem_heap (by show X.A.in1.units + 8 < cLine; show X.A.units + 1 + 8 < cLine; omega) (key_nk I rq e1 e2) dd at2 ⟨z, H, I.tok _, ru, hq⟩
  unfold subscriptTail
  refine wpAny_bind ?_
  rw [getitemInPython_of_ne hT.not_modules]
  refine wpAny_bind (wpAny_specialOf hT PySem.F.slot_dict_getitem.lookup ?_)
  have fin : wpAny (model X.prog X.w) X.A (subscripted slice false (.ref ad) (.ref q)) (fun r s3 => wpAny (model X.prog X.w) X.A (letTemporaryGo value (.ref ad) r >>= fun _ => pure r) (EP X pins σ Q) X.xe s3) X.xe s := by
    rw [hs]
    exact wpAny_operating (wpAny_mono hg (fun r s3 h3 => wpAny_bind (wpAny_letTemporaryGo (wpAny_pure h3))) fun _ _ x => x)
  first
    | exact wpAny_pure (wpAny_bind fin)
    | exact wpAny_bind (wpAny_pure (wpAny_bind fin))
    | exact wpAny_bind fin
def gDixN (x y : PV) : Option PV := match x with
  | .dct kvs => if isTupP y && (nkd y && okN kvs) then dlook y kvs else gDix x y
  | _ => gDix x y
theorem o2_dixN : Op2 X T (fun x y H Q => (rIx X.K x y H Q ∨ rDix X.K x y H Q) ∨ rDixN X T x y H Q) gDixN := by
  intro w st H v u x y z Q wr rx ry e q
  unfold gDixN at e
  split at e
  · split at e
    · rename_i kvs hk
      simp only [Bool.and_eq_true] at hk
      obtain ⟨l, e1, e2⟩ := nkd_ok hk.2.1
      obtain ⟨ys, rfl⟩ := isTup_ok hk.1
      cases ry with
      | @tup qa vs _ s rl =>
      cases rx with
      | dcK ob r => rw [r.noT] at e; cases e
      | @dcT ad ks _ hd n r =>
        obtain ⟨q', vv, at1, rv⟩ := (RepT.lookN e1 r).1 z e
        exact .inr ⟨ad, qa, ks, kvs, w, _, l, q', vv, rfl, rfl, hd, r, hk.2.2, .tup s rl, e1, e2, at1, q.here wr rv⟩
    · exact .inl (o2_dix w st H v u _ y z Q wr rx ry e q)
  · exact .inl (o2_dix w st H v u _ y z Q wr rx ry e q)
theorem pp_subN (hu : X.A.units + 64 < cLine) (ha : PP X T W a fa) (hb : PP X T W b fb) (hs : PlainIx b := by intro _ _; rfl) : PP X T W (.Subscript a b pos) (e2 gDixN fa fb) :=
  ⟨fun pins s σ H Q I h => (pe_ix (IxR.or (IxR.or ix_seq (ix_dct hu)) (ix_dN hu)) ha hb hs).run pins s σ H Q I (t2 o2_dixN h)⟩
/-! ### t in d -/
theorem dkN_nil {pins : List (Addr × Obj)} {σ : L2.St} {H : Hp} {s : Shared} {ad : Addr} (I : L2.Inv X pins σ H s) (e : Rd H ad (.dK [])) : (ad == sysModules) = false ∧ s.heap.DictOfH (nestedKind X.prog X.w) ad [] := by
  obtain ⟨z, hd, vs, rel, o, es, ep, h1, h2, h3, h4, h5, h6⟩ := dk_rd I.hok e
  cases rel
  have e0 : es = #[] := by
    cases es with | mk l => simp only at h5; cases h5; rfl
  subst e0
  exact ⟨hd, o, #[], ep, h1, h2, h3, rfl, fun x hx => by simp at hx, by simp⟩
def rInN (X : Cx) (T : Tabs) (n : Bool) : R2 := fun y x H Q => ∃ (ad q : Addr) (ks : List NKV) (kvs : List (PV × PV)) (w : Wo) (pk : PV) (l : NestedKey), x = .ref ad ∧ y = .ref q ∧ (Rd H ad (dN X.prog X.w ad ks) ∨ (Rd H ad (.dK []) ∧ ks = [])) ∧ RepT (Cx.g X T) w H ks kvs ∧ okN kvs = true ∧
  Rep (Cx.g X T) w H (.ref q) pk ∧ nkOf pk = some l ∧ l.depth ≤ 8 ∧ Q (.bl (xor n (atN ks l).isSome)) H
theorem inN_at {pins : List (Addr × Obj)} {σ : L2.St} {H : Hp} {s : Shared} {w : Wo} {ad : Addr} {ks : List NKV} {kvs : List (PV × PV)} {l : NestedKey} (I : L2.Inv X pins σ H s) (hd : Rd H ad (dN X.prog X.w ad ks) ∨ (Rd H ad (.dK []) ∧ ks = [])) (r : RepT (Cx.g X T) w H ks kvs) (ok : okN kvs = true) :
    (ad == sysModules) = false ∧ ∃ ys, s.heap.DictOfH (nestedKind X.prog X.w) ad ys ∧ (atKey ys l).isSome = (atN ks l).isSome := by
  rcases hd with hd | ⟨hd, rfl⟩
  · obtain ⟨_, hy, ys, pr, dd⟩ := dN_dict I hd r ok
    refine ⟨hy, ys, dd, ?_⟩
    have k := NPr.at (l := l) pr
    cases q : atN ks l with
    | none => rw [k.2 q]; rfl
    | some z => obtain ⟨u, e, _⟩ := k.1 z.1 z.2 q; rw [e]; rfl
  · obtain ⟨hy, dd⟩ := dkN_nil I hd
    exact ⟨hy, [], dd, rfl⟩
theorem op_inN (hu : X.A.units + 64 < cLine) : OpR X (compareOp .In) (rInN X T false) := by
  intro pins s σ H y x u v Q I ry rx ⟨ad, q, ks, kvs, w, pk, l, ex, ey, hd, r, ok, rq, e1, e2, hq⟩
  subst ex ey
  cases (show v = Value.ref ad from rx)
  cases (show u = Value.ref q from ry)
  obtain ⟨hy, ys, dd, et⟩ := inN_at (l := l) I hd r ok
  refine wpAny_in_heap (by show X.A.units + 1 + 8 < cLine; omega) (key_nk I rq e1 e2) hy dd ?_
  rw [et]
  exact ⟨.bl _, H, I.tok _, rfl, by rw [Bool.false_xor] at hq; exact hq⟩
theorem op_notinN (hu : X.A.units + 64 < cLine) : OpR X (compareOp .NotIn) (rInN X T true) := by
  intro pins s σ H y x u v Q I ry rx ⟨ad, q, ks, kvs, w, pk, l, ex, ey, hd, r, ok, rq, e1, e2, hq⟩
  subst ex ey
  cases (show v = Value.ref ad from rx)
  cases (show u = Value.ref q from ry)
  obtain ⟨hy, ys, dd, et⟩ := inN_at (l := l) I hd r ok
  refine wpAny_notIn_heap (by show X.A.units + 1 + 8 < cLine; omega) (key_nk I rq e1 e2) hy dd ?_
  rw [et]
  exact ⟨.bl _, H, I.tok _, rfl, by rw [Bool.true_xor] at hq; exact hq⟩
def gInN (n : Bool) (x y : PV) : Option PV := match y with
  | .dct kvs => if isTupP x && (nkd x && okN kvs) then some (.bl (xor n (dlook x kvs).isSome)) else gIn n x y
  | _ => gIn n x y
theorem o2_inN (n : Bool) : Op2 X T (fun x y H Q => rInAll X.K n x y H Q ∨ rInN X T n x y H Q) (gInN n) := by
  intro w st H v u x y z Q wr rx ry e q
  unfold gInN at e
  split at e
  · split at e
    · rename_i kvs hk
      simp only [Bool.and_eq_true] at hk
      cases e
      obtain ⟨l, e1, e2⟩ := nkd_ok hk.2.1
      obtain ⟨ys, rfl⟩ := isTup_ok hk.1
      cases rx with
      | @tup qa vs _ s rl =>
      have same : ∀ {ks : List NKV}, RepT (Cx.g X T) w H ks kvs → (dlook (.tup ys) kvs).isSome = (atN ks l).isSome := fun {ks} r => by
        have k := RepT.lookN e1 r
        cases q1 : dlook (.tup ys) kvs with
        | none => rw [k.2 q1]; rfl
        | some x => obtain ⟨_, _, e, _⟩ := k.1 x q1; rw [e]; rfl
      cases ry with
      | @dcK ad ks _ ob r =>
        cases r with
        | nil => exact .inr ⟨ad, qa, [], [], w, _, l, rfl, rfl, .inr ⟨ob.rd rfl, rfl⟩, .nil, rfl, .tup s rl, e1, e2, q.here wr (.bl _)⟩
        | @cons k _ _ _ _ _ _ _ => cases k <;> simp [okN, keyP, isTupP] at hk
      | @dcT ad ks _ hd nn r =>
        refine .inr ⟨ad, qa, ks, kvs, w, _, l, rfl, rfl, .inl hd, r, hk.2.2, .tup s rl, e1, e2, ?_⟩
        rw [← same r]
        exact q.here wr (.bl _)
    · exact .inl (o2_in n w st H v u x _ z Q wr rx ry e q)
  · exact .inl (o2_in n w st H v u x _ z Q wr rx ry e q)
section
variable (hu : X.A.units + 100 < cLine) (ha : PP X T W a fa) (hb : PP X T W b fb)
include hu ha hb
theorem c_inN (hm : behindInMarks .In b = false := by rfl) : PP X T W (.Compare a [.In] [b] pos) (e2 (gInN false) fa fb) := pp_cmp ((op_inAll hu).or (op_inN (by omega))) (o2_inN false) ha hb hm
theorem c_ninN (hm : behindInMarks .NotIn b = false := by rfl) : PP X T W (.Compare a [.NotIn] [b] pos) (e2 (gInN true) fa fb) := pp_cmp ((op_notinAll hu).or (op_notinN (by omega))) (o2_inN true) ha hb hm
theorem t_inN (hm : behindInMarks .In b = false := by rfl) : PPT X T W (.Compare a [.In] [b] pos) (eT (e2 (gInN false) fa fb)) := ppt_cmp ((op_inAll hu).or (op_inN (by omega))) (o2_inN false) ha hb hm
theorem t_ninN (hm : behindInMarks .NotIn b = false := by rfl) : PPT X T W (.Compare a [.NotIn] [b] pos) (eT (e2 (gInN true) fa fb)) := ppt_cmp ((op_notinAll hu).or (op_notinN (by omega))) (o2_inN true) ha hb hm
end
/-! ### len(d) -/
def rLenN (X : Cx) (T : Tabs) : List V → Hp → VK → Prop := fun xs H Q => ∃ (ad : Addr) (ks : List NKV) (kvs : List (PV × PV)) (w : Wo), xs = [.ref ad] ∧ Rd H ad (dN X.prog X.w ad ks) ∧ RepT (Cx.g X T) w H ks kvs ∧ okN kvs = true ∧ Q (.int ((ks.length : Nat) : Int)) H
theorem cr_lenN : CallR X (.builtin "len") (rLenN X T) := by
  intro pins s σ H xs us Q I rx ⟨ad, ks, kvs, w, exs, hd, r, ok, q⟩
  subst exs
  obtain ⟨u, rfl, ru⟩ := vals1 rx
  cases (show u = Value.ref ad from ru)
  obtain ⟨z, hy, ys, pr, dd⟩ := dN_dict I hd r ok
  have hl : ks.length = ys.length := Paired.length pr
  refine call_len_dictH hy dd (by rw [← hl]; rw [sizeLine_eq] at z; omega) ?_
  rw [← hl]
  exact ⟨.int ((ks.length : Nat) : Int), H, I.tok _, ⟨_, rfl⟩, q⟩
def gLenN : List PV → Option PV
  | [.dct (q :: kvs)] => if okN (q :: kvs) then some (.int (((q :: kvs).length : Nat) : Int)) else gLenA [.dct (q :: kvs)]
  | xs => gLenA xs
theorem c1_lenN : Call1 X T (fun xs H Q => (rLenP X.K xs H Q ∨ rLenDk xs H Q) ∨ rLenN X T xs H Q) gLenN := by
  intro w st H vs xs z Q wr vw e af
  unfold gLenN at e
  split at e
  · split at e
    · rename_i q kvs hk
      cases e
      obtain ⟨v, rfl, vv⟩ := VwL1 vw
      cases vv with
      | dcK ob r => cases r with | @cons k _ _ _ _ _ _ _ => cases k <;> simp [okN, keyP, isTupP] at hk
      | dcT ob n r =>
        refine .inr ⟨_, _, _, w, rfl, ob, r, hk, ?_⟩
        rw [r.length]
        exact af.here wr (.int _)
    · exact .inl (c1_lenA w st H vs _ z Q wr vw e af)
  · exact .inl (c1_lenA w st H vs _ z Q wr vw e af)
theorem k_lenN (ha : PPA X T W (e :: es) fr) (hm : X.mg "len" = none) (hg : glB X.env.scope "len" = true := by kernel_rfl) (he : starEach (e :: es) X.env = (false, eval e X.env) :: starEach es X.env := by rfl) (hpl : (backTo pos (starEach es X.env)).any (·.1) = false := by rfl) : PP X T W (.Call (.Name "len" p) (e :: es) [] pos) (eB gLenN fr) :=
  pp_callB (CallR.or (CallR.or call_lenP cr_lenD) cr_lenN) c1_lenN (gl_of hg) hm (by decide +kernel) ha (by decide +kernel) (by decide +kernel) he hpl
end
end Eg

/-! E48: displays of dicts whose keys are tuples. -/
namespace Eg
open PySem PySem.Spec PyProof.Rows L2
/-- the word on such a dict is about its one object -/
theorem dN_new {P : Program} {w : World} {H : Hp} {h : Heap} {a : Addr} {ks : List NKV} {ys : List (NestedKey × Addr × Value)} (z : ks.length ≤ sizeLine) (hy : (a == sysModules) = false) (pr : NPr ks ys) (dd : h.DictOfH (nestedKind P w) a ys) : ObjOk P w H h a (dN P w a ks) := by
  obtain ⟨o, es, ep, h1, h2, h3, h4, _, h5⟩ := dd
  refine ⟨⟨z, hy, ys, pr, o, es, ep, h1, h2, h3, h4, h5⟩, ⟨o, h1⟩, ?_⟩
  rintro g1 g2 ⟨z, hy, ys, pr, o, es, ep, k1, k2, k3, k4, k5⟩ m
  exact ⟨z, hy, ys, pr, o, es, ep, m o k1, k2, k3, k4, k5⟩
theorem atKey_none {ys : List (NestedKey × Addr × Value)} {k : NestedKey} (h : k ∉ ys.map (·.1)) : atKey ys k = none := by
  unfold atKey
  rw [Option.map_eq_none_iff, List.find?_eq_none]
  intro x hx e
  exact h (List.mem_map.mpr ⟨x, hx, of_decide_eq_true e⟩)
theorem storedAll_self : ∀ (ys acc : List (NestedKey × Addr × Value)), ((acc ++ ys).map (·.1)).Nodup → storedAllH acc ys = acc ++ ys
  | [], acc, _ => by simp [storedAllH]
  | p :: ys, acc, h => by
    have hn : p.1 ∉ acc.map (·.1) := fun z => by
      rw [List.map_append, List.map_cons] at h
      exact (List.nodup_append.mp h).2.2 p.1 z p.1 (by simp) rfl
    have e1 : storedH acc p.1 p.2.1 p.2.2 = acc ++ [p] := by rw [storedH_new (atKey_none hn)]
    have e2 : storedAllH acc (p :: ys) = storedAllH (storedH acc p.1 p.2.1 p.2.2) ys := rfl
    rw [e2, e1, storedAll_self ys (acc ++ [p]) (by simpa using h)]
    simp
section
variable {G : Cfg} {w : Wo} {H : Hp}
theorem atN_mem {ks : List NKV} {l : NestedKey} (h : atN ks l = none) : l ∉ ks.map (·.1) := fun z => by
  obtain ⟨p, m, e⟩ := List.mem_map.mp z
  unfold atN at h
  rw [Option.map_eq_none_iff, List.find?_eq_none] at h
  exact h p m (decide_eq_true e)
theorem RepT.nodup : ∀ {ks : List NKV} {kvs : List (PV × PV)}, RepT G w H ks kvs → dnd kvs = true → (ks.map (·.1)).Nodup
  | _, _, .nil, _ => List.nodup_nil
  | _, _, .cons t k q v rs, h => by
    simp only [dnd, Bool.and_eq_true, Option.isNone_iff_eq_none] at h
    rw [List.map_cons, List.nodup_cons]
    exact ⟨atN_mem ((RepT.lookN k rs).2 h.1), rs.nodup h.2⟩
theorem NPr.keys {ks : List NKV} {ys : List (NestedKey × Addr × Value)} (h : NPr ks ys) : ys.map (·.1) = ks.map (·.1) := by
  induction h with
  | nil => rfl
  | cons h t ih => rw [List.map_cons, List.map_cons, ih, h.1]
theorem RepP.nks : ∀ {vs : List (V × V)} {ps : List (PV × PV)}, RepP G w H vs ps → okN ps = true → ∃ ks : List NKV, vs = ks.map (fun p => (V.ref p.2.1, p.2.2)) ∧ RepT G w H ks ps
  | _, _, .nil, _ => ⟨[], rfl, .nil⟩
  | _, _, .cons (v := v) (x := x) ru rv rs, h => by
    simp only [okN, Bool.and_eq_true] at h
    obtain ⟨l, e1, _⟩ := nkd_ok h.1.2
    obtain ⟨ys, rfl⟩ := isTup_ok h.1.1
    obtain ⟨ks, e, r⟩ := rs.nks h.2
    cases ru with
    | @tup a vs _ s rl => exact ⟨(l, a, v) :: ks, by rw [e]; rfl, .cons rfl e1 (.tup s rl) rv r⟩
end
section
variable {X : Cx} {T : Tabs} {W : WX} {pos : Pos}
theorem carriesN {pins : List (Addr × Obj)} {σ : L2.St} {H : Hp} {s : Shared} {w : Wo} (I : L2.Inv X pins σ H s) : ∀ {ks : List NKV} {kvs : List (PV × PV)} {ws : List (Value × Value)}, RepT (Cx.g X T) w H ks kvs → okN kvs = true → VV (ks.map fun p => (V.ref p.2.1, p.2.2)) ws →
    ∃ ys, NPr ks ys ∧ CarriesH (nestedKind X.prog X.w) s.heap ws ys
  | _, _, _, .nil, _, r => by cases r; exact ⟨[], .nil, True.intro⟩
  | _, _, _, .cons (k := k) (q := q) t e1 rq rv rs, ok, r => by
    simp only [okN, Bool.and_eq_true] at ok
    obtain ⟨l, e2, e3⟩ := nkd_ok ok.1.2
    rw [e1] at e2
    cases e2
    rw [List.map_cons] at r
    cases r with
    | @cons a b as bs h t2 =>
      obtain ⟨b1, b2⟩ := b
      obtain ⟨ys, pr, c⟩ := carriesN I rs ok.2 t2
      cases (show b1 = Value.ref q from h.1)
      exact ⟨(k, q, b2) :: ys, .cons ⟨rfl, rfl, h.2⟩ pr, rfl, rfl, key_nk I rq e1 e3, c⟩
def eDispN (k : Bool) (fs : List ((Fr → M PV) × (Fr → M PV))) : Fr → M PV := dpK fs fun ps _ => if dnd ps && (okN ps && (decide (ps.length ≤ 15) && !ps.isEmpty)) then nw k (.dct ps) else M.bad
theorem pp_dispN (k : Bool) {keys : List (Option Expr)} {values : List Expr} {fs : List ((Fr → M PV) × (Fr → M PV))} (hu : X.A.units + 64 < cLine) (h : PPD X T W pos keys values fs) (hall : keys.all (·.isSome) = true := by rfl) (hl : keys.length = values.length := by rfl) (h0 : keys ≠ [] := by simp) (h15 : keys.length ≤ 15 := by simp) : PP X T W (.Dict keys values pos) (eDispN k fs) := by
  refine ⟨fun pins s σ H Q I ⟨w, st, ρ, hh⟩ => ?_⟩
  have hq : H s.heap.objs.size = none := I.hok.fresh (Nat.le_refl s.heap.objs.size)
  have I1 := I.laid (a := s.heap.objs.size) (o := .dK []) (h' := s.heap.push { cls := .type "dict", data := .dict #[] }) (t' := s.toks) (fun _ _ q => Heap.get?_push_of_some _ q) (Nat.le_refl _) (dk_empty s.heap I.big)
  refine wpAny_Dict_any hall hl h0 h15 ?_
  generalize s.heap.objs.size = q at *
  have hs : Hid X T w H q (w.hide q) st (upd H q (.dK [])) := Hid.start hh.wr hq
  have h1 : RunE X T W (eDispN k fs) (w.hide q) st ρ σ (upd H q (.dK [])) Q := ⟨hs.wr, hh.fr.mono hs.le, hh.post.mono hs.le⟩
  have tp : tPairs (fs.map fun f => (tE X T W f.1, tE X T W f.2)) σ (upd H q (.dK [])) fun vs H2 => ∃ w2 st2 ps, Le (w.hide q) (upd H q (.dK [])) w2 H2 ∧ RepP (Cx.g X T) w2 H2 vs ps ∧ Wr (Cx.g X T) w2 st2 H2 ∧
      PostE X T W w σ H Q ((if dnd ps && (okN ps && (decide (ps.length ≤ 15) && !ps.isEmpty)) then nw k (.dct ps) else M.bad) st2) := by
    refine tPairs_of fs _ _ _ _ _ h1 fun w2 st2 ps vs H2 eq l2 rp wr2 => ⟨w2, st2, ps, l2, rp, wr2, ?_⟩
    have p2 := hh.post
    change PostE X T W w σ H Q (dpK fs _ ρ st) at p2
    rw [eq] at p2
    exact p2
  refine thn (h.run pins _ σ _ _ I1 tp) fun ws s2 ⟨vs, H2, I2, rel, w2, st2, ps, l2, rp, wr2, p2⟩ => ?_
  have h3 := hs.step l2 wr2
  have hq2 : H2 q = some (.dK []) := l2.ex q _ hs.hid hs.nl upd_same
  split at p2
  · rename_i hc
    simp only [Bool.and_eq_true, decide_eq_true_eq, Bool.not_eq_true'] at hc
    obtain ⟨ks, ev, rt⟩ := rp.nks hc.2.1
    subst ev
    obtain ⟨ys, pr, cr⟩ := carriesN I2 rt hc.2.1 rel
    obtain ⟨hy, dd⟩ := dkN_nil I2 (.inl hq2)
    have nd := rt.nodup hc.1
    have hl2 : ys.length ≤ 15 := by rw [← Paired.length pr, rt.length]; exact hc.2.2.1
    have n0 : ks ≠ [] := fun z => by
      subst z
      cases rt
      exact absurd hc.2.2.2 (by simp)
    refine wpAny_storeAllH (knd := nestedKind X.prog X.w) (by show X.A.units + 8 < cLine; omega) ws ys [] s2 _ cr dd (by rw [sizeLine_eq]; simp; omega) fun h' tk dd' sb => ?_
    rw [storedAll_self ys [] (by rw [List.nil_append, NPr.keys pr]; exact nd), List.nil_append] at dd'
    have I3 : L2.Inv X pins σ (upd H2 q (dN X.prog X.w q ks)) { s2 with heap := h', toks := tk } := d_write I2 (by rw [hq2]; exact True.intro) sb (let ⟨x, _, _, hx, _⟩ := dd'; ⟨x, hx⟩) (dN_new (by rw [Paired.length pr, sizeLine_eq]; omega) hy pr dd')
    have h4 : Hid X T w H q w2 st2 (upd H2 q (dN X.prog X.w q ks)) := h3.put hq
    have rt4 := rt.mr (LeR.hidden (o' := dN X.prog X.w q ks) h3.hid)
    cases k with
    | false =>
      obtain ⟨od, I4⟩ := I3.lock upd_same True.intro
      have h5 : Hid X T w H q w2 st2 (upd (upd H2 q (dN X.prog X.w q ks)) q (.frz od (dN X.prog X.w q ks))) := h4.put hq
      have rt5 := rt4.mr (LeR.hidden (o' := .frz od (dN X.prog X.w q ks)) h4.hid)
      obtain ⟨o1, o2⟩ := h5.out hq
      exact ⟨.ref q, _, I4, rfl, p2 _ _ _ o1 o2 (.dcT (fun z => z.2 rfl) upd_same n0 (rt5.mr (LeR.show w2 _ q)))⟩
    | true =>
      obtain ⟨o1, o2, o3⟩ := h4.outL (c := .dct ps) hq fun lr => ⟨h4.hid, .inr ⟨ks, upd_same, n0, rt4.mr lr⟩⟩
      exact ⟨.ref q, _, I3, rfl, p2 _ _ _ o1 o2 o3⟩
  · exact p2.elim
end
end Eg

/-! E49: a dict with tuple keys at a location, frozen where its name is read. -/
namespace Eg
open PySem PySem.Spec PyProof.Rows L2
section
variable {G : Cfg} {w : Wo} {H : Hp} {st : Store} {l : Nat} {a : Addr} {x : PV} {o : HO}
/-- a location is frozen and its object locked at once -/
theorem LeR.showL (hd : w.D a) : LeR w H (w.show a) (upd H a o) :=
  ⟨fun _ _ h => h, fun _ d _ z => d z.1, fun b u d k => k.imp fun v z => by
    have hb : b ≠ a := fun e => by subst e; exact d hd
    rw [upd_ne hb]
    exact z⟩
theorem Le.showL (hl : w.η l = some a) (hd : w.D a) : Le w H (w.show a) (upd H a o) :=
  ⟨fun _ _ h => h, fun _ _ h => .inl h, fun _ d _ z => d z.1, fun b u d k => k.imp fun v z => by
      have hb : b ≠ a := fun e => by
        subst e
        rcases d with d | d
        · exact d hd
        · exact d l hl
      rw [upd_ne hb]
      exact z, fun b n => by
      by_cases e : b = a
      · subst e; rw [upd_same]; simp
      · rw [upd_ne e]; exact n, fun b d _ k => ⟨d, fun z => k l (z ▸ hl)⟩, fun b u d k z => by
      have hb : b ≠ a := fun e => by subst e; exact k l hl
      rw [upd_ne hb]
      exact z⟩
theorem Wr.freezeL (wr : Wr G w st H) (hl : w.η l = some a) (hd : w.D a) (r : Rep G (w.show a) (upd H a o) (.ref a) x) (ht : isTbl o = false) : Wr G (w.show a) (st.put l (.frz x)) (upd H a o) where
  cell j c h := by
    rw [Store.get_put] at h
    by_cases e : j = l
    · subst e
      rw [if_pos rfl] at h
      cases h
      exact ⟨a, hl, fun z => z.2 rfl, r⟩
    · rw [if_neg e] at h
      obtain ⟨b, h1, h2⟩ := wr.cell j c h
      have nb : b ≠ a := fun z => e (wr.inj j l a (z ▸ h1) hl)
      exact ⟨b, h1, h2.mr (LeR.showL hd) (wr.ran j b h1).1 (fun d => ⟨d, nb⟩) fun _ => upd_ne nb⟩
  inj := wr.inj
  trk b h := by
    rw [upd_ne h.2]
    exact wr.trk b h.1
  ran j b h := by
    refine ⟨?_, (wr.ran j b h).2⟩
    by_cases e : b = a
    · subst e; rw [upd_same]; simp
    · rw [upd_ne e]; exact (wr.ran j b h).1
  tab := wr.tab.mr (LeR.showL hd) fun b ps nb q => by
    have hb : b ≠ a := fun e => by subst e; exact nb hd
    rw [upd_ne hb]
    exact q
  nic b u d e := by
    rw [upd_ne d.2] at e
    exact wr.nic b u d.1 e
end
section
variable {X : Cx} {T : Tabs} {W : WX} {a : Expr} {fa : Fr → M PV}
def frzN (x : PV) : M PV := match x with
  | .loc l => fun st => match st.get l with
    | some (.dct kvs) => if keysK kvs = true then frzL x st else .ok (.dct kvs) (st.put l (.frz (.dct kvs)))
    | _ => frzL x st
  | x => frzL x
def eFzN (fa : Fr → M PV) : Fr → M PV := fun ρ => fa ρ >>= frzN
theorem RepK.yes {G : Cfg} {w : Wo} {H : Hp} : ∀ {ks : List (Key × V)} {kvs : List (PV × PV)}, RepK G w H ks kvs → keysK kvs = true
  | _, _, .nil => rfl
  | _, _, .cons _ _ r => by simp [keysK, asKey_keyP, RepK.yes r]
theorem frzL_post {w1 : Wo} {st1 : Store} {ρ : Fr} {σ : L2.St} {H1 : Hp} {Q : VK} {x : PV} {v : V} (r : Rep (Cx.g X T) w1 H1 v x) (h1 : RunE X T W (fun _ => frzL x) w1 st1 ρ σ H1 Q) : Q v H1 := by
  have pq := h1.post
  unfold frzL at pq
  split at pq
  · rename_i l0
    cases r with
    | @loc ad _ hl =>
      cases q : st1.get l0 with
      | none => rw [q] at pq; exact pq.elim
      | some c =>
        rw [q] at pq
        obtain ⟨b, k1, k2⟩ := h1.wr.cell _ _ q
        rw [hl] at k1; cases k1
        cases c with
        | lst xs =>
          obtain ⟨d, vs, k3, k4⟩ := k2
          have rr : Rep (Cx.g X T) (w1.show ad) H1 (.ref ad) (.lst xs) := .lst (fun z => z.2 rfl) k3 (k4.mr (LeR.show w1 H1 ad))
          exact pq _ _ _ (Le.show hl) (h1.wr.freeze hl rr) rr
        | set xs => exact pq.elim
        | dct kvs =>
          obtain ⟨d, k2⟩ := k2
          dsimp only at pq
          split at pq
          · rename_i hk
            have rr : Rep (Cx.g X T) (w1.show ad) H1 (.ref ad) (.dct kvs) := by
              rcases k2 with ⟨ks, k3, k4⟩ | ⟨ks, k3, n, k4⟩
              · exact .dcK (fun z => z.2 rfl) (.inl k3) (k4.mr (LeR.show w1 H1 ad))
              · exact absurd (k4.notK hk).1 n
            exact pq _ _ _ (Le.show hl) (h1.wr.freeze hl rr) rr
          · exact pq.elim
        | obj c fs =>
          obtain ⟨d, dx, vs, k3, k4⟩ := k2
          have rr : Rep (Cx.g X T) (w1.show ad) H1 (.ref ad) (.obj c fs) := .obj (fun z => z.2 rfl) k3 (k4.mr (LeR.show w1 H1 ad))
          exact pq _ _ _ (Le.show hl) (h1.wr.freeze hl rr) rr
        | frz y => exact pq _ _ _ (Le.refl _ _) h1.wr k2.2
  · exact pq _ _ _ (Le.refl _ _) h1.wr r
theorem pp_fzN (ha : PP X T W a fa) : PP X T W a (eFzN fa) := by
  refine ⟨fun pins s σ H Q I ⟨w, st, ρ, h⟩ => (pe_lockV ha).run pins s σ H Q I ?_⟩
  refine RunE.eE (k := fun x _ => frzN x) h fun w1 st1 x v H1 l r h1 => ?_
  have old : frzN x st1 = frzL x st1 → Q v H1 := fun e => frzL_post r ⟨h1.wr, h1.fr, by have p := h1.post; show PostE _ _ _ _ _ _ _ (frzL x st1); rw [← e]; exact p⟩
  cases x with
  | loc l0 =>
    cases q : st1.get l0 with
    | none => exact .inl (old (by show (match st1.get l0 with | some (.dct kvs) => _ | _ => _) = _; rw [q]))
    | some c =>
      cases c with
      | dct kvs =>
        by_cases hk : keysK kvs = true
        · exact .inl (old (by show (match st1.get l0 with | some (.dct kvs) => _ | _ => _) = _; rw [q]; exact if_pos hk))
        · have pq := h1.post
          have e : frzN (.loc l0) st1 = .ok (.dct kvs) (st1.put l0 (.frz (.dct kvs))) := by
            show (match st1.get l0 with | some (.dct kvs) => _ | _ => _) = _
            rw [q]
            exact if_neg hk
          change PostE X T W w1 σ H1 Q (frzN (.loc l0) st1) at pq
          rw [e] at pq
          cases r with
          | @loc ad _ hl =>
          obtain ⟨b, k1, k2⟩ := h1.wr.cell _ _ q
          rw [hl] at k1; cases k1
          obtain ⟨d, k2⟩ := k2
          rcases k2 with ⟨ks, k3, k4⟩ | ⟨ks, k3, n, k4⟩
          · exact absurd k4.yes hk
          · refine .inr ⟨ad, _, rfl, k3, True.intro, fun od => ?_⟩
            have rr : Rep (Cx.g X T) (w1.show ad) (upd H1 ad (.frz od (dN X.prog X.w ad ks))) (.ref ad) (.dct kvs) := .dcT (fun z => z.2 rfl) upd_same n (k4.mr (LeR.showL d))
            exact pq _ _ _ (Le.showL hl d) (h1.wr.freezeL hl d rr rfl) rr
      | _ => exact .inl (old (by show (match st1.get l0 with | some (.dct kvs) => _ | _ => _) = _; rw [q]))
  | _ => exact .inl (old rfl)
end
end Eg

/-! E50: d[t] = v. -/
namespace Eg
open PySem PySem.Spec PyProof.Rows L2
/-- the list with a key put -/
def putG {α : Type} (l : NestedKey) (q : Addr) (v : α) : List (NestedKey × Addr × α) → List (NestedKey × Addr × α)
  | [] => [(l, q, v)]
  | (k, a, u) :: r => if k = l then (k, a, v) :: r else (k, a, u) :: putG l q v r
theorem putG_len {α : Type} (l : NestedKey) (q : Addr) (v : α) : ∀ ks : List (NestedKey × Addr × α), (putG l q v ks).length ≤ ks.length + 1
  | [] => by simp [putG]
  | (k, a, u) :: r => by
    unfold putG
    split
    · simp
    · have := putG_len l q v r
      simp; omega
theorem putG_ne {α : Type} (l : NestedKey) (q : Addr) (v : α) : ∀ ks : List (NestedKey × Addr × α), putG l q v ks ≠ []
  | [] => by simp [putG]
  | (k, a, u) :: r => by unfold putG; split <;> simp
theorem map_off {l : NestedKey} {u : Value} : ∀ {ys : List (NestedKey × Addr × Value)}, l ∉ ys.map (·.1) → ys.map (putAt l u) = ys
  | [], _ => rfl
  | y :: ys, h => by
    simp only [List.map_cons, List.mem_cons, not_or] at h
    have e : putAt l u y = y := if_neg (fun z => h.1 z.symm)
    rw [List.map_cons, e, map_off h.2]
theorem stored_putG {l : NestedKey} {q : Addr} {u : Value} : ∀ {ys : List (NestedKey × Addr × Value)}, (ys.map (·.1)).Nodup → storedH ys l q u = putG l q u ys
  | [], _ => rfl
  | (k, a, w) :: ys, h => by
    simp only [List.map_cons, List.nodup_cons] at h
    have ih := stored_putG (l := l) (q := q) (u := u) h.2
    unfold putG
    by_cases e : k = l
    · subst e
      rw [if_pos rfl]
      have e1 : atKey ((k, a, w) :: ys) k = some (a, w) := by simp [atKey]
      rw [storedH_old e1, List.map_cons, map_off h.1]
      simp [putAt]
    · rw [if_neg e]
      have e1 : atKey ((k, a, w) :: ys) l = atKey ys l := by simp [atKey, List.find?_cons, e]
      have e2 : putAt l u (k, a, w) = (k, a, w) := if_neg e
      unfold storedH at ih ⊢
      rw [e1]
      split
      · rename_i hs
        rw [if_pos hs] at ih
        rw [List.map_cons, e2, ih]
      · rename_i hs
        rw [if_neg hs] at ih
        rw [← ih]
        rfl
theorem NPr.put {l : NestedKey} {q : Addr} {v : V} {u : Value} (r : RelV v u) {ks : List NKV} {ys : List (NestedKey × Addr × Value)} (h : NPr ks ys) : NPr (putG l q v ks) (putG l q u ys) := by
  induction h with
  | nil => exact .cons ⟨rfl, rfl, r⟩ .nil
  | @cons p y ps yss h t ih =>
    obtain ⟨k, a, v1⟩ := p
    obtain ⟨k', a', u1⟩ := y
    obtain ⟨h1, h2, h3⟩ := h
    dsimp only at h1 h2 h3
    subst h1 h2
    unfold putG
    by_cases e : k = l
    · rw [if_pos e, if_pos e]
      exact .cons ⟨rfl, rfl, r⟩ t
    · rw [if_neg e, if_neg e]
      exact .cons ⟨rfl, rfl, h3⟩ ih
section
variable {G : Cfg} {w : Wo} {H : Hp}
theorem RepT.put {l : NestedKey} {q : Addr} {v : V} {pk x : PV} (tp : isTupP pk = true) (hk : nkOf pk = some l) (rq : Rep G w H (.ref q) pk) (rv : Rep G w H v x) : ∀ {ks : List NKV} {kvs : List (PV × PV)}, RepT G w H ks kvs → RepT G w H (putG l q v ks) (dput pk x kvs)
  | _, _, .nil => .cons tp hk rq rv .nil
  | _, _, .cons (k := k) (pk := pk') t k1 q1 v1 rs => by
    have pe : peq pk' pk = decide (k = l) := (peq_nk pk' pk k1 hk).trans (NestedKey.decide_eq k l).symm
    unfold putG dput
    rw [pe]
    by_cases e : k = l
    · rw [if_pos e, decide_eq_true e, if_pos rfl]
      exact .cons t k1 q1 rv rs
    · rw [if_neg e, decide_eq_false e, if_neg (by simp)]
      exact .cons t k1 q1 v1 (RepT.put tp hk rq rv rs)
end
section
variable {X : Cx} {T : Tabs} {W : WX} {pos : Pos}
def rSetN (X : Cx) (T : Tabs) : TSet := fun o i v H Q => rSetP o i v H Q ∨ ∃ (ad q : Addr) (ks : List NKV) (kvs : List (PV × PV)) (w : Wo) (pk : PV) (l : NestedKey), o = .ref ad ∧ i = .ref q ∧ (H ad = some (dN X.prog X.w ad ks) ∨ (H ad = some (.dK []) ∧ ks = [])) ∧ RepT (Cx.g X T) w H ks kvs ∧ okN kvs = true ∧
  Rep (Cx.g X T) w H (.ref q) pk ∧ nkOf pk = some l ∧ l.depth ≤ 8 ∧ ks.length < 10000 ∧ Q (upd H ad (dN X.prog X.w ad (putG l q v ks)))
theorem set_N (hu : X.A.units + 64 < cLine) : PSet X (rSetN X T) := by
  intro pins s σ H o i v ov iv u Q I ro ri rv h
  rcases h with h | ⟨ad, q, ks, kvs, w, pk, l, eo, ei, hd, r, ok, rq, e1, e2, hl, hq⟩
  · exact set_all hu pins s σ H o i v ov iv u Q I ro ri rv h
  · subst eo ei
    cases (show ov = Value.ref ad from ro)
    cases (show iv = Value.ref q from ri)
    have got : (ad == sysModules) = false ∧ ∃ ys, NPr ks ys ∧ s.heap.DictOfH (nestedKind X.prog X.w) ad ys := by
      rcases hd with hd | ⟨hd, rfl⟩
      · obtain ⟨_, hy, ys, pr, dd⟩ := dN_dict I (.inl hd) r ok
        exact ⟨hy, ys, pr, dd⟩
      · obtain ⟨hy, dd⟩ := dkN_nil I (.inl hd)
        exact ⟨hy, [], .nil, dd⟩
    have mu : Mut (H ad) := by
      rcases hd with hd | ⟨hd, _⟩ <;> rw [hd] <;> exact True.intro
    obtain ⟨hy, ys, pr, dd⟩ := got
    have ln : ys.length < 10000 := by rw [← Paired.length pr]; exact hl
    refine wpAny_setItem_heap (by show X.A.units + 1 + 8 < cLine; omega) (key_nk I rq e1 e2) dd (fun h' dd' sb => ⟨_, ?_, hq⟩) (by rw [sizeLine_eq]; omega)
    have nd : (ys.map (·.1)).Nodup := let ⟨_, _, _, _, _, _, _, _, n⟩ := dd; n
    rw [stored_putG nd] at dd'
    exact d_write I mu sb (let ⟨x, _, _, hx, _⟩ := dd'; ⟨x, hx⟩) (dN_new (by have := putG_len l q v ks; rw [sizeLine_eq]; omega) hy (NPr.put rv pr) dd')
def ssetN (l : Nat) (i x : PV) : M Unit := fun st => match st.get l with
  | some (.dct kvs) => if isTupP i && (nkd i && (okN kvs && (dnd kvs && decide (kvs.length < 10000)))) then .ok () (st.put l (.dct (dput i x kvs))) else sset l i x st
  | _ => sset l i x st
theorem ssetN_ok {w : Wo} {st st' : Store} {H : Hp} {l : Nat} {ad : Addr} {y x : PV} {u v : V} (wr : Wr (Cx.g X T) w st H) (hl : w.η l = some ad) (ry : Rep (Cx.g X T) w H u y) (rx : Rep (Cx.g X T) w H v x) (h : ssetN l y x st = .ok () st') :
    ∃ H', (∀ Q : Hp → Prop, Q H' → rSetN X T (.ref ad) u v H Q) ∧ Le w H w H' ∧ Wr (Cx.g X T) w st' H' := by
  have old : sset l y x st = .ok () st' → ∃ H', (∀ Q : Hp → Prop, Q H' → rSetN X T (.ref ad) u v H Q) ∧ Le w H w H' ∧ Wr (Cx.g X T) w st' H' := fun e => by
    obtain ⟨H', h1, h2, h3⟩ := sset_ok wr hl ry rx e
    exact ⟨H', fun Q hQ => .inl (h1 Q hQ), h2, h3⟩
  unfold ssetN at h
  split at h
  · rename_i kvs q
    split at h
    · rename_i hk
      simp only [Bool.and_eq_true, decide_eq_true_eq] at hk
      cases h
      obtain ⟨t1, t2, t3, t4, t5⟩ := hk
      obtain ⟨lk, e1, e2⟩ := nkd_ok t2
      obtain ⟨b, k1, k2⟩ := wr.cell l _ q
      rw [hl] at k1; cases k1
      obtain ⟨hd, k2⟩ := k2
      obtain ⟨ys, ey⟩ := isTup_ok t1
      have hu : ∃ qa, u = .ref qa := by
        subst ey
        cases ry with
        | tup _ _ => exact ⟨_, rfl⟩
      obtain ⟨qa, rfl⟩ := hu
      have go : ∀ ks : List NKV, (H ad = some (dN X.prog X.w ad ks) ∨ (H ad = some (.dK []) ∧ ks = [])) → RepT (Cx.g X T) w H ks kvs → ∃ H', (∀ Q : Hp → Prop, Q H' → rSetN X T (.ref ad) (.ref qa) v H Q) ∧ Le w H w H' ∧ Wr (Cx.g X T) w (st.put l (.dct (dput y x kvs))) H' := by
        intro ks hH r
        obtain ⟨le, wr3⟩ := wr.put (c' := .dct (dput y x kvs)) (o := dN X.prog X.w ad (putG lk qa v ks)) hl q hd fun {w'} lr d' ew => by
          subst ew
          exact ⟨hd, .inr ⟨_, upd_same, putG_ne _ _ _ _, (RepT.put t1 e1 ry rx r).mr lr⟩⟩
        exact ⟨_, fun Q hQ => .inr ⟨ad, qa, ks, kvs, w, y, lk, rfl, rfl, hH, r, t3, ry, e1, e2, by rw [r.length]; exact t5, hQ⟩, le, wr3⟩
      rcases k2 with ⟨ks, h1, r⟩ | ⟨ks, h1, n, r⟩
      · cases r with
        | nil => exact go [] (.inr ⟨h1, rfl⟩) .nil
        | @cons k _ _ _ _ _ _ _ => cases k <;> simp [okN, keyP, isTupP] at t3
      · exact go ks (.inl h1) r
    · exact old h
  · exact old h
def gSubN (fo fi : Fr → M PV) : PV → Fr → M Fr := fun x ρ => fo ρ >>= fun o => fi ρ >>= fun i => match o with
  | .loc l => ssetN l i x >>= fun _ => M.pure ρ
  | _ => M.bad
theorem ppg_subN {o i : Expr} {fo fi : Fr → M PV} (hu : X.A.units + 64 < cLine) (ho : PP X T W0 o fo) (hi : PP X T W0 i fi)
    (ha : ∀ v, assign (.Subscript o i pos) X.env v = (do
      let ov ← holding [v] (eval o X.env); let iv ← holding [v, ov] (eval i X.env); standAt pos
      holding [v, ov, iv] (setItem ov iv v); release [v, ov, iv] []) := by intro _; rfl) : PPG X T (.Subscript o i pos) [] (gSubN fo fi) := by
  refine ⟨fun pins s σ H v u Q I r ⟨w, st, ρ, x, wr, fr, rx, ρ', st', e, q⟩ => (pg_sub ho hi (set_N (T := T) hu) ha).run pins s σ H v u Q I r ?_⟩
  unfold gSubN at e
  refine ⟨w, st, ρ, wr, fr, ?_⟩
  cases q1 : fo ρ st with
  | exc _ _ => rw [M.bind_exc q1] at e; cases e
  | bad => rw [M.bind_bad q1] at e; cases e
  | ok o1 st1 =>
    rw [M.bind_ok q1] at e
    intro w1 v1 H1 l1 wr1 r1
    refine ⟨w1, st1, ρ, wr1, fr.mono l1, ?_⟩
    cases q2 : fi ρ st1 with
    | exc _ _ => rw [M.bind_exc q2] at e; cases e
    | bad => rw [M.bind_bad q2] at e; cases e
    | ok i1 st2 =>
      rw [M.bind_ok q2] at e
      intro w2 v2 H2 l2 wr2 r2
      have r1' := r1.mono l2
      have rx' := (rx.mono l1).mono l2
      cases r1' with
      | @loc ad l hl =>
        dsimp only at e
        cases q3 : ssetN l i1 x st2 with
        | exc _ _ => rw [M.bind_exc q3] at e; cases e
        | bad => rw [M.bind_bad q3] at e; cases e
        | ok _ st3 =>
          rw [M.bind_ok q3] at e
          cases e
          obtain ⟨H3, h1, le, wr3⟩ := ssetN_ok wr2 hl r2 rx' q3
          exact h1 _ (q w2 σ _ ((l1.trans l2).trans le) wr3 (((fr.mono l1).mono l2).mono le) (Agr.refl _ _))
      | _ => cases e
end
end Eg

/-! E51: for k, v in d.items(), d's keys tuples. -/
namespace Eg
open PySem PySem.Spec PyProof.Rows L2
theorem npr_get {ks : List NKV} {ys : List (NestedKey × Addr × Value)} (h : NPr ks ys) : ∀ {i : Nat} {k : NestedKey} {q : Addr} {v : V}, ks[i]? = some (k, q, v) → ∃ u, ys[i]? = some (k, q, u) ∧ RelV v u := by
  induction h with
  | nil => intro i k q v e; simp at e
  | @cons p y ps yss h t ih =>
    intro i k q v e
    cases i with
    | zero =>
      simp at e
      subst e
      obtain ⟨k', a', u⟩ := y
      obtain ⟨h1, h2, h3⟩ := h
      dsimp only at h1 h2 h3
      subst h1 h2
      exact ⟨u, rfl, h3⟩
    | succ i => simp at e; simpa using ih e
theorem frzD {X : Cx} {pins : List (Addr × Obj)} {σ : L2.St} {H : Hp} {s : Shared} {d : Addr} {o : Obj} {ks : List NKV} (I : L2.Inv X pins σ H s) (hd : H d = some (.frz o (dN X.prog X.w d ks))) :
    (d == sysModules) = false ∧ ∃ es ep, o.data = .dict es ep ∧ s.heap.DictRaw d es ep ∧ es.size = ks.length ∧ ∀ i k q v, ks[i]? = some (k, q, v) → ∃ hi : i < es.size, es[i].key = .ref q ∧ RelV v es[i].val := by
  obtain ⟨g0, ⟨z, hy, ys, pr, o', es, ep, h1, h2, h3, h4, h5⟩, _⟩ := I.hok d _ hd
  rw [g0] at h1
  cases h1
  have hl : es.size = ys.length := by
    have := congrArg List.length h4
    simpa using this
  refine ⟨hy, es, ep, h3, ⟨o, g0, h2, h3⟩, by rw [hl, Paired.length pr], fun i k q v e => ?_⟩
  obtain ⟨u, e1, e2⟩ := npr_get pr e
  have e3 := entry_at h4 i
  rw [e1] at e3
  have hi : i < es.size := by
    refine Nat.lt_of_not_le fun z => ?_
    rw [Array.getElem?_eq_none z] at e3
    cases e3
  rw [Array.getElem?_eq_getElem hi] at e3
  have e4 : es[i] = entryOfKey (nestedKind X.prog X.w) (k, q, u) := Option.some.inj e3
  refine ⟨hi, ?_, ?_⟩
  · rw [e4]; rfl
  · rw [e4]; exact e2
def Itn (P : Program) (w : World) (d : Addr) (o : Obj) (ks : List NKV) : It :=
  ⟨fun i H => H d = some (.frz o (dN P w d ks)) ∧ i < ks.length, fun i H x H' => ∃ T k q v, ks[i]? = some (k, q, v) ∧ x = .ref T ∧ H T = none ∧ H' = upd H T (.tup [.ref q, v]), fun i H => H d = some (.frz o (dN P w d ks)) ∧ ks.length ≤ i⟩
theorem turn_itemsN {P : Program} {w : World} {K : PySem.W.Frag} {d : Addr} {o : Obj} {es : Array DictEntry} {ep : Nat} {ks : List NKV} {elts : List Expr} {kk : Nat} {tpos : Pos} (it : Addr) (hod : o.data = .dict es ep) :
    Turn P w K (.Tuple elts kk tpos) (Itn P w d o ks) [it] it (fun i h => ∃ ok ov, IsItemIter h it d i ks.length ep ok ov) where
  mem := by simp
  obj := fun i h st b hb => by
    have e : b = it := by simpa using hb
    subst e
    obtain ⟨ok, ov, e⟩ := st
    exact ⟨_, e, fun v z => nomatch z⟩
  keep := fun i h h' st k => let ⟨ok, ov, e⟩ := st; ⟨ok, ov, k it (by simp) _ e⟩
  item := by
    intro X hP hw hK hc i pins s σ H E I hf st hg
    subst hP hw hK
    obtain ⟨hd, hi⟩ := hg
    obtain ⟨hs, es', ep', hdt, raw, hsz, ent⟩ := frzD I hd
    obtain ⟨rfl, rfl⟩ := dict_ep hod hdt
    obtain ⟨⟨k, q, v⟩, hkv⟩ : ∃ p, ks[i]? = some p := ⟨ks[i], List.getElem?_eq_getElem hi⟩
    obtain ⟨hi2, ek, ru⟩ := ent i k q v hkv
    obtain ⟨ok, ov, he⟩ := st
    rw [← hsz] at he
    have hlt : it < s.heap.objs.size := Heap.lt_size he
    refine wpAny_pyNext_items_item_raw he raw hi2 fun h' ho hT hz hk => ?_
    refine ⟨_, rfl, wpAny_letOwnedTupleGo_items (s := { s with heap := h' }) ho fun h'' he' sb => ?_⟩
    have hT2 := (sb.2 _ (Nat.ne_of_gt hlt)).trans hT
    have new : ObjOk X.prog X.w (upd H s.heap.objs.size (.tup [.ref q, v])) h'' s.heap.objs.size (.tup [.ref q, v]) :=
      ⟨by show 2 ≤ sizeLine; decide, [_, _], .cons (by rw [ek]; rfl) (.cons ru .nil), ⟨_, hT2, rfl, _, rfl⟩⟩
    have I1 : L2.Inv X pins σ (upd H s.heap.objs.size (.tup [.ref q, v])) { s with heap := h'' } :=
      I.turnedNew (t' := s.toks) (ch := [it]) (fun b ob hb e => (sb.2 b (by simpa using hb)).trans (hk b ob (by simpa using hb) e)) hf (Nat.le_refl _) new
    refine ⟨.ref s.heap.objs.size, _, I1, rfl, ⟨_, k, q, v, hkv, rfl, I.hok.fresh (Nat.le_refl _), rfl⟩, ⟨es'[i].key, es'[i].val, ?_⟩, fun b hb => ?_⟩
    · rw [← hsz]; exact he'
    · have e : b = it := by simpa using hb
      rw [e, upd_ne (Nat.ne_of_lt hlt)]
      exact (hf it (by simp)).1
  done := by
    intro X hP hw hK hc i pins s σ H E I hf st hg
    subst hP hw hK
    obtain ⟨hd, hi⟩ := hg
    obtain ⟨f0, f1, f2, f3, f4, f5⟩ := hf it (by simp)
    obtain ⟨hs, es', ep', hdt, raw, hsz, ent⟩ := frzD I hd
    obtain ⟨rfl, rfl⟩ := dict_ep hod hdt
    obtain ⟨ok, ov, he⟩ := st
    rw [← hsz] at he
    exact wpAny_pyNext_items_end_raw (I.ok.hd hc) he raw (by omega) fun h' eb => ⟨rfl, I.turned (t' := s.toks) (fun b ob hb e => eb b ob hb e) f0 f1 f3 f4 f5⟩
  self := fun A i s Q E st h => let ⟨_, _, e⟩ := st; PySem.W.kcp_self e h
section
variable {X : Cx} {T : Tabs} {W : WX} {e : Expr} {fe : Fr → M PV} {apos cpos : Pos}
theorem RepT.getV {G : Cfg} {w : Wo} {H : Hp} : ∀ {ks : List NKV} {kvs : List (PV × PV)} (i : Nat) {x : PV}, RepT G w H ks kvs → (kvs.map fun q => PV.set [q.1, q.2])[i]? = some x → ∃ k q v pk y, ks[i]? = some (k, q, v) ∧ x = .set [pk, y] ∧ Rep G w H (.ref q) pk ∧ Rep G w H v y
  | _, _, _, _, .nil, h => by simp at h
  | _, _, 0, x, .cons (k := k) (q := q) (v := v) _ _ rq rv _, h => by simp at h; exact ⟨k, q, v, _, _, rfl, h.symm, rq, rv⟩
  | _, _, i + 1, x, .cons _ _ _ _ rs, h => by
    obtain ⟨k, q, v, pk, y, h1, h2⟩ := RepT.getV i rs (by simpa using h)
    exact ⟨k, q, v, pk, y, by simpa using h1, h2⟩
theorem wk_itemsN {w : Wo} {H : Hp} {d : Addr} {od : Obj} {ks : List NKV} {kvs : List (PV × PV)} (nd : ¬ w.D d) (h : H d = some (.frz od (dN X.prog X.w d ks))) (r : RepT (Cx.g X T) w H ks kvs) : Wk X T w H (Itn X.prog X.w d od ks) (.fz (kvs.map fun q => .set [q.1, q.2])) := by
  intro w1 H1 st1 l wr
  have h1 : H1 d = some (.frz od (dN X.prog X.w d ks)) := l.exact nd h rfl
  have r1 := r.mr l
  have hl : (kvs.map fun q => PV.set [q.1, q.2]).length = ks.length := by rw [List.length_map, r.length]
  refine ⟨fun i x hi e => ?_, fun _ => ⟨h1, by rw [← hl]; exact Nat.le_refl _⟩⟩
  obtain ⟨k, q, v, pk, y, k1, k2, k3, k4⟩ := r1.getV i e
  refine ⟨⟨h1, by rw [← hl]; exact hi⟩, fun u H2 yy => ?_⟩
  obtain ⟨Tp, k', q', v', y1, rfl, hT, rfl⟩ := yy
  rw [k1] at y1
  cases y1
  subst k2
  exact ⟨same_new hT, rep_pair wr hT k3 k4⟩
/-- the pairs of a dict that is locked -/
def iItX (X : Cx) (td : TE) : TI := fun σ H R => td σ H fun x H1 => ∃ d o, x = .ref d ∧ ((∃ ks, H1 d = some (.frz o (.dK ks)) ∧ R (Iti d o ks) H1) ∨ ∃ ks, H1 d = some (.frz o (dN X.prog X.w d ks)) ∧ R (Itn X.prog X.w d o ks) H1)
theorem pi_itX {td : TE} {elts : List Expr} {kk : Nat} {tpos : Pos} (he : PE X e td) (hbase : attributeBase e "items" X.env (eval e X.env) = eval e X.env) (hline : (apos.endLine == cpos.line) = true) : PI X (.Tuple elts kk tpos) (.Call (.Attribute e "items" apos) [] [] cpos) (iItX X td) := by
  refine ⟨fun pins s σ H R I h => ?_⟩
  refine wpAny_Call_method (T := "dict") (id := "dict.items") hbase rfl hline F.plainAttrs_dict F.slot_dict_items F.type_dict_items (thn (he.run pins s σ H _ I h) fun u s1 ⟨x, H1, I1, rx, d, o, ex, alt⟩ => ?_)
  subst ex
  cases (show u = Value.ref d from rx)
  have both : (d == sysModules) = false ∧ ∃ es ep, s1.heap.DictRaw d es ep ∧ ∀ (s2 : Shared), (∀ b ob, s1.heap.get? b = some ob → s2.heap.get? b = some ob) → L2.Inv X pins σ H1 s2 → PIE X pins σ (.Tuple elts kk tpos) R (.ref s2.heap.objs.size) { s2 with heap := s2.heap.push { cls := .type "dict_itemiterator", data := .fields #[.none, .bool false, .ref d, .int 0 0, .int es.size 0, .int ep 0, .none, .none] } } := by
    rcases alt with ⟨ks, hd, q⟩ | ⟨ks, hd, q⟩
    · obtain ⟨hs, g0, hx, es, ep, vs, hdt, hsz, kv, hm⟩ := I1.frzK hd
      refine ⟨hs, es, ep, ⟨o, g0, hx, hdt⟩, fun s2 kp J => ?_⟩
      refine pi_one (tk := s2.toks) J _ (turn_items _ hdt) ⟨.none, .none, ?_⟩ q
      rw [← hsz]
      exact Heap.get?_push_size _ rfl
    · obtain ⟨hs, es, ep, hdt, raw, hsz, ent⟩ := frzD I1 hd
      refine ⟨hs, es, ep, raw, fun s2 kp J => ?_⟩
      refine pi_one (tk := s2.toks) J _ (turn_itemsN _ hdt) ⟨.none, .none, ?_⟩ q
      rw [← hsz]
      exact Heap.get?_push_size _ rfl
  obtain ⟨hs, es, ep, raw, fin⟩ := both
  refine ⟨raw.typeIs, ?_, ?_⟩
  · intro b eb
    injection eb with eb
    subst eb
    obtain ⟨o', h1, h2, h3⟩ := raw
    exact ⟨o', h1, h2.2.1⟩
  · have I2 : L2.Inv X pins σ H1 { s1 with heap := s1.heap.push { cls := .type "dict_items", data := .fields #[.ref d] } } := I1.kept (t' := s1.toks) fun b ob q => Heap.get?_push_of_some _ q
    show wpAny _ _ (callWith cpos (.builtin "dict.items") [.ref d] [] []) _ X.xe s1
    refine method_meetsIn F.slot_dict_items F.entry_dict_items rfl (PySem.evalArgs_none ⟨rfl, raw.typeIs, F.args_dict_items_1 _, _, meets_dict_items_raw d hs, ⟨es, ep, raw⟩, ?_⟩)
    refine wpAny_pyIter_items_raw (d := d) ⟨_, Heap.get?_push_size _ rfl, rfl, rfl⟩ (raw.at fun o e => Heap.get?_push_of_some _ e) ?_
    exact fin { s1 with heap := s1.heap.push { cls := .type "dict_items", data := .fields #[.ref d] } } (fun b ob z => Heap.get?_push_of_some _ z) I2
def srcItN (x : PV) : M Src := fun st => match x with
  | .dct kvs => if keysK kvs || okN kvs then .ok (.fz (kvs.map fun q => .set [q.1, q.2])) st else .bad
  | .loc l => match st.get l with
    | some (.frz (.dct kvs)) => if keysK kvs || okN kvs then .ok (.fz (kvs.map fun q => .set [q.1, q.2])) st else .bad
    | _ => .bad
  | _ => .bad
def iItmN (fe : Fr → M PV) : Fr → M Src := fun ρ => fe ρ >>= fun x => srcItN x
theorem ppi_itemsN {tpos : Pos} {elts : List Expr} {kk : Nat} (he : PP X T W e fe) (hbase : attributeBase e "items" X.env (eval e X.env) = eval e X.env := by rfl) (hline : (apos.endLine == cpos.line) = true := by rfl) : PPI X T W (.Tuple elts kk tpos) (.Call (.Attribute e "items" apos) [] [] cpos) (iItmN fe) := by
  refine ⟨fun pins s σ H R I ⟨w, st, ρ, h⟩ => (pi_itX (pe_lockV he) hbase hline).run pins s σ H R I ?_⟩
  refine RunI.eE (k := fun x _ => srcItN x) h fun w1 st1 x v H1 l r h1 => ?_
  have pq := h1.post
  have go : ∀ (kvs : List (PV × PV)), Rep (Cx.g X T) w1 H1 v (.dct kvs) → PostI X T W w1 σ H1 R (.ok (.fz (kvs.map fun q => .set [q.1, q.2])) st1) →
      (∃ d o, v = .ref d ∧ ((∃ ks, H1 d = some (.frz o (.dK ks)) ∧ R (Iti d o ks) H1) ∨ ∃ ks, H1 d = some (.frz o (dN X.prog X.w d ks)) ∧ R (Itn X.prog X.w d o ks) H1)) ∨
      ∃ d u, v = .ref d ∧ H1 d = some u ∧ Mut (some u) ∧ ∀ od, ∃ d' o, v = .ref d' ∧ ((∃ ks, (upd H1 d (.frz od u)) d' = some (.frz o (.dK ks)) ∧ R (Iti d' o ks) (upd H1 d (.frz od u))) ∨ ∃ ks, (upd H1 d (.frz od u)) d' = some (.frz o (dN X.prog X.w d' ks)) ∧ R (Itn X.prog X.w d' o ks) (upd H1 d (.frz od u))) := by
    intro kvs rr pp
    cases rr with
    | @dcK d ks _ nd ob r =>
      rcases ob.two rfl with ob | ⟨_, od, ob⟩
      · refine .inr ⟨d, .dK ks, rfl, ob, True.intro, fun od => ⟨d, od, rfl, .inl ⟨ks, upd_same, ?_⟩⟩⟩
        exact pp w1 _ _ (Le.lock nd ob rfl) (h1.wr.lock nd ob rfl) (wk_items nd upd_same (r.mono (Le.lock nd ob rfl)))
      · exact .inl ⟨d, od, rfl, .inl ⟨ks, ob, pp w1 _ _ (Le.refl _ _) h1.wr (wk_items nd ob r)⟩⟩
    | @dcT d o ks _ nd hd n r => exact .inl ⟨d, o, rfl, .inr ⟨ks, hd, pp w1 _ _ (Le.refl _ _) h1.wr (wk_itemsN nd hd r)⟩⟩
  unfold srcItN at pq
  split at pq
  · split at pq
    · exact go _ r pq
    · exact pq.elim
  · split at pq
    · rename_i kvs hq
      split at pq
      · cases r with
        | @loc ad _ hl =>
        obtain ⟨b, k1, k2⟩ := h1.wr.cell _ _ hq
        rw [hl] at k1; cases k1
        exact go _ k2.2 pq
      · exact pq.elim
    · exact pq.elim
  · exact pq.elim
end
end Eg

/-! E52: what a head tells of exceptions that have an __init__ of their own. -/
namespace Eg
open PySem PySem.Spec PyProof.Rows L2
/-- the written side of such an __init__ -/
structure XiS where
  (x qual tx slf val f : Str)
  params : Arguments
  scope : Scope
  jn : Nat
  (p1 p2 p3 p4 p5 p6 p7 p8 p9 p10 : Pos)
abbrev XiS.call (D : XiS) : Expr := .Call (.Attribute (.Call (.Name "super" D.p1) [] [] D.p2) "__init__" D.p3) [.Constant (.str D.tx) D.jn D.p4] [] D.p5
abbrev XiS.body (D : XiS) : List Stmt := [.Expr D.call D.p6, .Assign [.Attribute (.Name D.slf D.p7) D.f D.p8] (.Name D.val D.p9) D.p10]
/-- a def as it lies there, its closure by names alone -/
def fnC (K : PySem.W.Frag) (a : Addr) : He.FnW := match K.lookup a with
  | some ⟨_, _, .func fd, _⟩ => some (fd.name, fd.qualname, fd.params, fd.body, fd.scope, fd.globals, fd.closure.map fun p => (p.1, 0), fd.builtins)
  | _ => none
def XiS.val_ (D : XiS) : He.FnW := some (D.x, D.qual, D.params, .stmts D.body, D.scope, mainGlobals, [("__class__", 0)], builtinsNs)
def xiA (K : PySem.W.Frag) (C : Str) : Addr := He.ma K (He.ga K C) "__init__"
/-- its code, its file, its cell -/
def ckXd (file : Str) (C qual : Str) : PySem.W.Frag → Bool := fun K => match K.lookup (xiA K C) with
  | some ⟨_, _, .func fd, _⟩ => (match fd.defaults, fd.code, fd.closure with
    | .none, .ref cda, [(_, cc)] => PySem.W.codeIn K (.ref cda) qual && ((match K.lookup cda with
        | some ⟨_, _, .fields vs, _⟩ => (match (vs : Array Value)[2]? with | some (Value.str fl _) => file == fl | _ => false)
        | _ => false) && (match K.lookup cc with
        | some ⟨_, _, .cell (some (.ref c)), _⟩ => c == He.ga K C
        | _ => false))
    | _, _, _ => false)
  | _ => false
def ckXc (B i newId : String) (bmB : List Value) (C f : Str) : PySem.W.Frag → Bool := fun K =>
  (PySem.W.clsIn K (He.ga K C)).isSome && (decide (PySem.W.mroIn K (He.ga K C) (.ref (He.ga K C)) = some true) && (He.eqO (PySem.W.nsIn K cStatics "thirdparty.any") (some none) && (He.eqO (PySem.W.ks_superIn K (He.ga K C) (He.ga K C) "__init__") (some (some (.builtin i))) &&
  (decide (PySem.W.subIn K (.ref (He.ga K C)) (.type B) = some true) && (PySem.W.excInitIn K (He.ga K C) bmB newId && (He.eqO (PySem.W.findIn K (.ref (He.ga K C)) "__setattr__") (some (some (.builtin "object.__setattr__"))) && (PySem.W.excOver K (He.ga K C) bmB &&
  (He.eqO (PySem.W.takerIn K (He.ga K C) f) (some none) && (PySem.W.hasDictIn K (He.ga K C) && (PySem.W.keepIn K (.ref (He.ga K C)) && (He.eqO (PySem.W.findIn K (.ref (He.ga K C)) "__init__") (some (some (.ref (xiA K C)))) &&
  (decide (PySem.W.typeIn K (.ref (xiA K C)) = some (.type "function")) && (decide (PySem.W.subIn K (.ref (He.ga K C)) (.type "BaseException") = some true) && decide (PySem.W.typeIn K (.ref (He.ga K C)) = some (.type "type")))))))))))))))
/-- what is seen of the text alone -/
structure XiT (P : Program) (D : XiS) : Prop where
  har : ∃ ar, (D.params.posonlyargs ++ D.params.args).head? = some ar ∧ ar.arg = D.slf
  hsv : D.slf ≠ D.val
  k1 : D.scope.names.lookup ("super" : Str) = some .globalImplicit
  k2 : D.scope.names.lookup ("__class__" : Str) = some .free
  k3 : D.scope.names.lookup D.slf = some .local
  k4 : D.scope.names.lookup D.val = some .local
  k5 : D.scope.kind = .function
  k6 : D.scope.isCoroutine = false
  k7 : D.scope.isGenerator = false
  k8 : ∀ y ∈ D.scope.names, y.2 ≠ .cell
  k9 : (P.main.scope.names.lookup ("super" : Str)).isSome = false
  k10 : (D.slf == ("__debug__" : Str)) = false
  k11 : (D.val == ("__debug__" : Str)) = false
  kE : ∀ env : Env, ∃ pl : Sem Bool, eval D.call env = (do
      let ov ← attributeBase (.Call (.Name "super" D.p1) [] [] D.p2) "__init__" env (eval (.Call (.Name "super" D.p1) [] [] D.p2) env)
      standAt D.p3.atName
      let (f, first) ← holding [ov] (getMethod ov "__init__" pl)
      callWith D.p5 f first (backTo D.p5 (starEach [.Constant (.str D.tx) D.jn D.p4] env)) [])
  bnd : ∀ (kV doc pm cdv ct : Value) (an : Option Addr) (cc : Addr) (a v : Value), bindArgs (PySem.W.ksFn D.x D.qual D.params D.body D.scope .none kV doc pm an cdv ct cc) ⟨[a, v], []⟩ = pure [(D.slf, a), (D.val, v)]
section
variable {P : Program} {K : PySem.W.Frag} {mg : Str → Option Value} {T : Tabs}
theorem xiC_of {B i newId : String} {bmB : List Value} {C : Str} {S : XiS} (FB : ExcBaseFacts B newId i bmB) (KF : PySem.W.KxsFacts B i) (SF : StoreFacts B bmB "object.__setattr__" "object")
    (hd : ckXd P.main.file C S.qual K = true) (hc : ckXc B i newId bmB C S.f K = true) (ht : fnC K (xiA K C) = S.val_) (t : XiT P S) (gs : mg "super" = none) : ∃ D : XiD, D.f = S.f ∧ XiC P K mg (He.ga K C) (xiA K C) D := by
  unfold ckXc at hc
  simp only [Bool.and_eq_true, decide_eq_true_eq] at hc
  obtain ⟨c1, c2, c3, c4, c5, c6, c7, c8, c9, c10, c11, c12, c13, c14, c15⟩ := hc
  obtain ⟨cdD, hcd⟩ := Option.isSome_iff_exists.mp c1
  obtain ⟨ar, ha1, ha2⟩ := t.har
  unfold ckXd at hd
  unfold fnC at ht
  cases q : K.lookup (xiA K C) with
  | none => rw [q] at ht; cases ht
  | some o =>
    obtain ⟨oc, od, dt, sl⟩ := o
    rw [q] at hd ht
    cases dt with
    | func fd =>
      obtain ⟨n1, n2, n3, n4, n5, n6, n7, n8, n9, n10, n11, n12, n13, n14, n15⟩ := fd
      have k : (some (n1, n2, n3, n4, n5, n6, n7.map fun p => (p.1, 0), n15) : He.FnW) = S.val_ := ht
      unfold XiS.val_ at k
      simp only [Option.some.injEq, Prod.mk.injEq] at k
      obtain ⟨h1, h2, h3, h4, h5, h6, h7, h8⟩ := k
      subst h1 h2 h3 h4 h5 h6 h8
      cases n8 with
      | none =>
       cases n13 with
       | ref cda =>
        match n7, h7, hd, q with
        | [(y, cc)], h7, hd, q =>
          simp only [List.map_cons, List.map_nil, List.cons.injEq, Prod.mk.injEq, and_true] at h7
          obtain rfl := h7
          simp only [Bool.and_eq_true] at hd
          obtain ⟨d1, d2, d3⟩ := hd
          cases qa : K.lookup cda with
          | none => rw [qa] at d2; cases d2
          | some oa =>
            obtain ⟨ccl, cdd, dta, ccs⟩ := oa
            rw [qa] at d2
            cases dta with
            | fields vs =>
              cases qv : vs[2]? with
              | none => simp only [qv] at d2; cases d2
              | some v2 =>
                simp only [qv] at d2
                cases v2 with
                | str fl tf =>
                  cases qb : K.lookup cc with
                  | none => rw [qb] at d3; cases d3
                  | some ob =>
                    obtain ⟨cl, cld, dtb, csl⟩ := ob
                    rw [qb] at d3
                    cases dtb with
                    | cell ov =>
                      cases ov with
                      | none => cases d3
                      | some vv =>
                        cases vv with
                        | ref c =>
                          have ec : c = He.ga K C := by simpa using d3
                          subst ec
                          refine ⟨⟨B, i, newId, bmB, cc, cda, oc, ccl, cl, od, cdd, cld, sl, ccs, csl, S.x, S.qual, S.tx, S.slf, S.val, S.f, S.params, S.scope, .none, n9, n10, n11, n14, n12, S.jn, S.p1, S.p2, S.p3, S.p4, S.p5, S.p6, S.p7, S.p8, S.p9, S.p10, vs, fl, tf, ar, cdD⟩, rfl, ?_⟩
                          exact { Y := { FB := FB, KF := KF, SF := SF, ho := q, hcd := d1, hcode := qa, hvs := qv, hfile := d2, hcell := qb, hD := hcd, hsub := c2, hopq := He.eqO_ok c3, hsup := He.eqO_ok c4, hB := c5, hq := c6, hsa := He.eqO_ok c7, hov := c8, htk := He.eqO_ok c9, hhd := c10, har := ha1, hslf := ha2, hsv := t.hsv, k1 := t.k1, k2 := t.k2, k3 := t.k3, k4 := t.k4, k5 := t.k5, k6 := t.k6, k7 := t.k7, k8 := t.k8, k9 := t.k9, k10 := t.k10, k11 := t.k11, kE := t.kE }, kC := c11, iC := He.eqO_ok c12, tI := c13, exC := c14, tyC := c15, gs := gs, bnd := fun a v => t.bnd _ _ _ _ _ _ _ a v }
                        | _ => cases d3
                    | _ => cases d3
                | _ => cases d2
            | _ => cases d2
        | [], h7, hd, q => cases h7
        | _ :: _ :: _, h7, hd, q => simp at h7
       | _ => cases hd
      | _ => cases hd
    | _ => cases ht
theorem xvW_of {B i newId : String} {bmB : List Value} {C : Str} {S : XiS} {j n : Nat} (FB : ExcBaseFacts B newId i bmB) (KF : PySem.W.KxsFacts B i) (SF : StoreFacts B bmB "object.__setattr__" "object")
    (hd : ckXd P.main.file C S.qual K = true) (hc : ckXc B i newId bmB C S.f K = true) (ht : fnC K (xiA K C) = S.val_) (t : XiT P S) (gs : mg "super" = none) (g : mg C = some (.ref (He.ga K C))) (e : T.xcl j = .ref (He.ga K C)) (en : S.f = T.nm n) : XvW P K mg T j n C := by
  obtain ⟨D, hf, Z⟩ := xiC_of FB KF SF hd hc ht t gs
  exact ⟨_, _, D, Z, g, e, hf.trans en⟩
end
end Eg

/-! E53: a head's hook that also compares __init__s of exceptions. -/
namespace Eg
open PySem PySem.Spec PyProof.Rows L2
structure SaysZ (ck : List (PySem.W.Frag → Bool)) (fn : List DfX) (xi : List (Str × XiS)) (tf : List He.Defn) (h : Heap) (K : PySem.W.Frag) : Prop where
  y : SaysY ck fn tf h K
  xi : ∀ p ∈ xi, fnC K (xiA K p.1) = p.2.val_
def asZ (g : Addr → Option Obj) (n : Nat) : List Addr := cStatics :: He.asD g n
def obsA (as : List Addr) (ck : List (PySem.W.Frag → Bool)) (fn : List DfX) (tf : List He.Defn) (g : Addr → Option Obj) : He.AlD := ((obsX ck fn (He.frT g as)).1 && He.tabsB g tf (He.frT g as), (obsX ck fn (He.frT g as)).2)
theorem saysA_of {as : List Addr} {ck : List (PySem.W.Frag → Bool)} {fn : List DfX} {tf : List He.Defn} {h : Heap} (e : obsA as ck fn tf h.get? = valX fn) : SaysY ck fn tf h (He.frT h.get? as) := by
  have z1 := congrArg (fun z : He.AlD => z.1) e
  have z2 := congrArg (fun z : He.AlD => z.2) e
  simp only [obsA] at z1 z2
  have z1' : ((obsX ck fn (He.frT h.get? as)).1 && He.tabsB h.get? tf (He.frT h.get? as)) = true := z1
  rw [Bool.and_eq_true] at z1'
  have key : ∀ p ∈ tf, PySem.W.codeHdIn (He.frT h.get? as) (He.cT (He.frT h.get? as) p).1 (He.cT (He.frT h.get? as) p).2 = true ∧ ∃ o, h.get? (He.cT (He.frT h.get? as) p).2 = some o ∧ He.emptyTab o = true := fun p hp => by
    have k := List.all_eq_true.mp z1'.2 p hp
    rw [Bool.and_eq_true] at k
    refine ⟨k.1, ?_⟩
    cases q : h.get? (He.cT (He.frT h.get? as) p).2 with
    | none => rw [q] at k; cases k.2
    | some o => rw [q] at k; exact ⟨o, rfl, k.2⟩
  refine ⟨Prod.ext z1'.1 z2, fun p hp => (key p hp).1, fun p hp => ?_, fun p hp => ?_⟩
  · obtain ⟨_, o, q, z⟩ := key p hp
    exact He.frT_none q z
  · obtain ⟨_, o, q, z⟩ := key p hp
    rw [q, He.emptyTab_eq z]
def valZ (fn : List DfX) (xi : List (Str × XiS)) : He.AlD := (true, (xi.map fun p => p.2.val_) ++ fn.map DfX.val)
def obsZ (n : Nat) (ck : List (PySem.W.Frag → Bool)) (fn : List DfX) (xi : List (Str × XiS)) (tf : List He.Defn) (g : Addr → Option Obj) : He.AlD := ((obsA (asZ g n) ck fn tf g).1, (xi.map fun p => fnC (He.frT g (asZ g n)) (xiA (He.frT g (asZ g n)) p.1)) ++ (obsA (asZ g n) ck fn tf g).2)
theorem saysZ_of {n : Nat} {ck : List (PySem.W.Frag → Bool)} {fn : List DfX} {xi : List (Str × XiS)} {tf : List He.Defn} {h : Heap} (e : obsZ n ck fn xi tf h.get? = valZ fn xi) : SaysZ ck fn xi tf h (He.frT h.get? (asZ h.get? n)) := by
  have z1 : (obsA (asZ h.get? n) ck fn tf h.get?).1 = true := congrArg (fun z : He.AlD => z.1) e
  have z2 : (xi.map fun p => fnC (He.frT h.get? (asZ h.get? n)) (xiA (He.frT h.get? (asZ h.get? n)) p.1)) ++ (obsA (asZ h.get? n) ck fn tf h.get?).2 = (xi.map fun p => p.2.val_) ++ fn.map DfX.val := congrArg (fun z : He.AlD => z.2) e
  obtain ⟨e1, e2⟩ := List.append_inj z2 (by simp)
  refine ⟨saysA_of (Prod.ext z1 e2), fun p hp => ?_⟩
  exact (List.map_inj_left.mp e1) p hp
def hookZ (n : Nat) (ck : List (PySem.W.Frag → Bool)) (fn : List DfX) (xi : List (Str × XiS)) (tf : List He.Defn) : PySem.W.Hook where
  α := He.AlD
  obs s := obsZ n ck fn xi tf s.heap.get?
  val _ := valZ fn xi
  says _ h := ∃ K : PySem.W.Frag, K.In h ∧ SaysZ ck fn xi tf h K
  of _ _ e := ⟨_, He.frT_in, saysZ_of e⟩
  keeps _ _ _ z k := by
    obtain ⟨K, hK, c⟩ := z
    exact ⟨K, hK.keeps k, ⟨c.y.x, c.y.hd, c.y.out, fun p hp => k _ _ (c.y.emp p hp)⟩, c.xi⟩
theorem obsZ_eq {n : Nat} {ck : List (PySem.W.Frag → Bool)} {fn : List DfX} {xi : List (Str × XiS)} {tf : List He.Defn} {g : Addr → Option Obj} {s : Shared} (h : ∀ a, g a = s.heap.get? a) : obsZ n ck fn xi tf g = (hookZ n ck fn xi tf).obs s := by
  have e : g = s.heap.get? := funext h
  subst e
  rfl
end Eg

/-! E54: what a head tells of a def that gets lambdas, its clauses with names. -/
namespace Eg
open PySem PySem.Spec PyProof.Rows L2
section
variable {K : PySem.W.Frag} {mg : Str → Option Value} {T : Tabs}
theorem lmX_of {x v : Str} {Ng : List Str} {pg : Arguments} {sg : Scope} {fine : Str} {n : Nat} {h₀ : ExceptHandler} {hds : List ExceptHandler} {p1 p2 p3 p4 p5 p8 : Pos} {f : Addr} {fd : FuncData} {l : List (Nat × MtK)} {y : List Nat}
    (FD : FunD K x x pg [.Try [.Expr (.Call (.Name v p1) [] [] p2) p3] (h₀ :: hds) [] [] p8, .Return (some (.Constant (.str fine) n p4)) p5] sg [] [] f fd) (hm : mg x = some (.ref f)) (hb : Binds K fd [v] []) (sc : FnScope Ng [v] sg) (i0 : Ng[0]? = some v) (vis : visB sg v = true) (db : (v == ("__debug__" : Str)) = false) (cd : (v == ("__classdict__" : Str)) = false) (hy : fine = s2 y)
    (hh : ∀ (X : Cx) (cdv : Value) (s : Shared) (H : Hp), X.K = K → X.mg = mg → MtX (cxOf C8.CX0 X.prog X.w X.K X.mg X.base Ng x sg f cdv X.A X.stack s H C8.E0).nox T (h₀ :: hds) l) : LmX K mg T x l y := by
  obtain ⟨oc, od, dV, kV, doc, pm, an, cdv, ct, osl, rfl, lk, hcd, _, _⟩ := FD.ex
  exact ⟨f, v, Ng, pg, sg, dV, kV, doc, pm, cdv, ct, oc, an, od, osl, fine, n, h₀, hds, p1, p2, p3, p4, p5, p8, hm, FD.kp, lk, hcd, hb, sc, i0, vis_of vis, db, cd, hy, fun f => by simp [L2.start], fun X s H e1 e2 => hh X cdv s H e1 e2⟩
end
end Eg

/-! E55: the written side of an __init__, read off its def. -/
namespace Eg
open PySem PySem.Spec PyProof.Rows L2
def xiOf (x qual : Str) (ps : Arguments) (sc : Scope) : List Stmt → XiS
  | [.Expr (.Call (.Attribute (.Call (.Name _ p1) _ _ p2) _ p3) (.Constant (.str tx) jn p4 :: _) _ p5) p6, .Assign (.Attribute (.Name slf p7) f p8 :: _) (.Name val p9) p10] => ⟨x, qual, tx, slf, val, f, ps, sc, jn, p1, p2, p3, p4, p5, p6, p7, p8, p9, p10⟩
  | _ => ⟨x, qual, x, x, x, x, ps, sc, 0, ⟨0, 0, 0, 0⟩, ⟨0, 0, 0, 0⟩, ⟨0, 0, 0, 0⟩, ⟨0, 0, 0, 0⟩, ⟨0, 0, 0, 0⟩, ⟨0, 0, 0, 0⟩, ⟨0, 0, 0, 0⟩, ⟨0, 0, 0, 0⟩, ⟨0, 0, 0, 0⟩, ⟨0, 0, 0, 0⟩⟩
end Eg

/-! E56: isinstance(o, t), t a builtin type, o may be an instance of an own class. -/
namespace Eg
open PySem PySem.Spec PyProof.Rows L2
def gIsO (D : Nat → Option Bool) (t : Ty) : PV → Option PV
  | .obj c _ => (D c).map .bl
  | x => (tyN x).map fun n => .bl (isiB n t)
section
variable {X : Cx} {T : Tabs} {W : WX} {a : Expr} {fa : Fr → M PV} {p pos : Pos}
theorem k_isO (t : Ty) {D : Nat → Option Bool} {x : Str} {p2 : Pos} (hm1 : X.mg "isinstance" = none) (hm2 : X.mg x = none) (ht : t ≠ .non) (hD : ∀ c b, D c = some b → InsW X.K (T.cls c) ∧ PySem.W.kitOne X.K (.ref (T.cls c)) (.type t.nm) = some b) (ha : PP X T W a fa) (h1 : glB X.env.scope "isinstance" = true := by kernel_rfl) (h2 : (okG X.env.scope x && !(x == ("__name__" : Str))) = true := by kernel_rfl) (hv2 : bootBuiltins x = some (.type t.nm) := by decide +kernel)
    (hs : starEach [a, .Name x p2] X.env = (false, eval a X.env) :: starEach [.Name x p2] X.env := by rfl) (hs2 : starEach [.Name x p2] X.env = (false, eval (.Name x p2) X.env) :: starEach [] X.env := by rfl) (hpl : (backTo pos (starEach [.Name x p2] X.env)).any (·.1) = false := by rfl)
    (hb : bootBuiltins "isinstance" = some (.builtin "isinstance") := by decide +kernel) : PP X T W (.Call (.Name "isinstance" p) [a, .Name x p2] [] pos) (e1 (gIsO D t) fa) := by
  unfold okG at h2
  simp only [Bool.and_eq_true, Bool.not_eq_true', beq_eq_false_iff_ne] at h2
  have hc : CallR X (.builtin "isinstance") (fun xs H Q => ∃ v w st y z r, xs = [v, .ty t.nm] ∧ Wr (Cx.g X T) w st H ∧ Rep (Cx.g X T) w H v y ∧ view st y = some z ∧ noLoc z = true ∧ gIsO D t z = some (.bl r) ∧ Q (.bl r) H) := by
    intro pins s σ H xs us Q I rx ⟨v, w, st, y, z, r, exs, wr, ry, e1, e2, e3, q⟩
    subst exs
    cases rx with | cons r1 r2 =>
    cases r2 with | cons r2 r3 =>
    cases r3
    cases (show _ = Value.type t.nm from r2)
    have vw := wr.view ry e1 e2
    by_cases hty : ∃ n, tyN z = some n
    · obtain ⟨n, hn⟩ := hty
      have er : r = isiB n t := by
        cases z <;> first | (cases hn; done) | (simp only [gIsO, hn, Option.map_some, Option.some.injEq, PV.bl.injEq] at e3; exact e3.symm)
      subst er
      obtain ⟨P, Z, pz, hx⟩ := vw.kit I r1 hn
      exact PySem.W.kia_one Z I.kIn pz (kit_ty (isi_kit n t ht)) hx fun tk => ⟨.bl _, H, I.tok tk, rfl, q⟩
    · cases vw with
      | @obj ad dx c vs fs k1 k2 =>
        simp only [gIsO] at e3
        cases qD : D c with
        | none => rw [qD] at e3; cases e3
        | some b =>
          rw [qD] at e3
          cases e3
          obtain ⟨iw, kb⟩ := hD c _ qD
          exact isinst_ok I r1 (.ins k1 iw.cls iw.ca iw.gt iw.tk iw.mro) kb fun tk => ⟨.bl _, H, I.tok tk, rfl, q⟩
      | ty n => cases e3
      | _ => exact absurd ⟨_, rfl⟩ hty
  refine ⟨fun pins s σ H Q I ⟨w, st, ρ, h⟩ => (pe_callB hc (gl_of h1) hm1 hb (pa_cons ha (pa_cons (pe_bltn (v := .ty t.nm) (gl_of h2.1.1) hm2 hv2 rfl h2.2 (by rw [beq_eq_false_iff_ne]; exact h2.1.2)) pa_nil hs2) hs) (by decide) (by decide) hs hpl).run pins s σ H Q I ?_⟩
  refine RunE.eE (k := fun x _ => g1 (gIsO D t) x) h fun w1 st1 y v H1 l r h1 => ?_
  rcases g1_ok (g := gIsO D t) (x := y) (st := st1) with ⟨o, z, q1, q2, q3, q4⟩ | q
  · have hr : ∃ r, o = .bl r := by
      unfold gIsO at q3
      split at q3
      · rename_i c _
        cases qD : D c with
        | none => rw [qD] at q3; cases q3
        | some b => rw [qD] at q3; cases q3; exact ⟨_, rfl⟩
      · cases qt : tyN z with
        | none => rw [qt] at q3; cases q3
        | some b => rw [qt] at q3; cases q3; exact ⟨_, rfl⟩
    obtain ⟨r0, rfl⟩ := hr
    exact ⟨v, w1, st1, y, z, r0, rfl, h1.wr, r, q1, q2, q3, h1.ret q4 (Le.refl _ _) h1.wr (.bl _)⟩
  · exact (h1.no q).elim
end
/-- an instance of C is none of a builtin type -/
def ckKitT (C : Str) (t : String) (b : Bool) : PySem.W.Frag → Bool := fun K => decide (PySem.W.kitOne K (.ref (He.ga K C)) (.type t) = some b)
theorem ckKitT_ok {K : PySem.W.Frag} {C : Str} {t : String} {b : Bool} (h : ckKitT C t b K = true) : PySem.W.kitOne K (.ref (He.ga K C)) (.type t) = some b := of_decide_eq_true h
end Eg

/-! E57: what f(lambda: F(xs)) says, f's clauses with names too. -/
namespace Eg
open PySem PySem.Spec PyProof.Rows L2
def tellX (xm : Nat → Nat → Option Bool) (ml : List (Nat × MtK)) (mf : List Nat) (F : Fn) (xs : List PV) : Option (List Nat) := if locFs xs = true then
    match F xs Store.empty with
    | .ok x _ => if locF x = true then some mf else none
    | .exc e _ => if locFo e.fs = true then (match pickX xm e ml with | some y => if okS y then some y else none | none => none) else none
    | .bad => none
  else none
theorem met_tellX {xm : Nat → Nat → Option Bool} {ml : List (Nat × MtK)} {mf y : List Nat} {F : Fn} {n : Nat} {fr : Eg.Fr → M (List PV)} {xs : List PV} {ρ : Eg.Fr} {st : Store} (hf : fr ρ st = .ok xs st) (hn : xs.length = n) (h : tellX xm ml mf F xs = some y) : eMetX xm ml mf (eCall n (Eg.iso F) fr) ρ st = .ok (.str y) st := by
  unfold tellX at h
  have e : eCall n (Eg.iso F) fr ρ st = Eg.iso F xs st := by
    unfold eCall
    rw [M.bind_ok hf, if_pos hn]
  unfold eMetX
  rw [e]
  unfold Eg.iso
  split at h
  · rename_i hl
    rw [if_pos hl]
    cases q : F xs Store.empty with
    | ok x s =>
      rw [q] at h
      dsimp only at h ⊢
      split at h
      · rename_i hx
        rw [if_pos hx]
        cases h
        rfl
      · cases h
    | exc x s =>
      rw [q] at h
      dsimp only at h ⊢
      split at h
      · rename_i hx
        rw [if_pos hx]
        dsimp only
        cases qp : pickX xm x ml with
        | none => rw [qp] at h; cases h
        | some z =>
          rw [qp] at h
          dsimp only at h ⊢
          split at h
          · rename_i hz
            cases h
            rw [if_pos hz]
          · cases h
      · cases h
    | bad => rw [q] at h; cases h
  · cases h
end Eg

namespace Pf
open PySem PySem.Spec PyProof.Rows L2 Eg
def topS (i : Nat) : Stmt := PySem.Challenge.pw_setchooser_k54_errors_of_products.main.body.getD i (.Pass ⟨0, 0, 0, 0⟩)
def clsB : Stmt → List Stmt
  | .ClassDef _ _ _ b _ _ _ _ _ _ _ => b
  | _ => []
abbrev st__law_met : Stmt := topS 51
def d__law_met : DfX := ⟨fun K => He.ga K "_law_met", "_law_met", "_law_met", defArgs st__law_met, defBody st__law_met, defScope st__law_met⟩
abbrev st_paired_row : Stmt := topS 37
def d_paired_row : DfX := ⟨fun K => He.ga K "paired_row", "paired_row", "paired_row", defArgs st_paired_row, defBody st_paired_row, defScope st_paired_row⟩
abbrev st_are_alike_in_form : Stmt := topS 32
def d_are_alike_in_form : DfX := ⟨fun K => He.ga K "are_alike_in_form", "are_alike_in_form", "are_alike_in_form", defArgs st_are_alike_in_form, defBody st_are_alike_in_form, defScope st_are_alike_in_form⟩
abbrev st_require_alike : Stmt := topS 33
def d_require_alike : DfX := ⟨fun K => He.ga K "require_alike", "require_alike", "require_alike", defArgs st_require_alike, defBody st_require_alike, defScope st_require_alike⟩
abbrev st_require_product : Stmt := topS 36
def d_require_product : DfX := ⟨fun K => He.ga K "require_product", "require_product", "require_product", defArgs st_require_product, defBody st_require_product, defScope st_require_product⟩
abbrev st_is_integer : Stmt := topS 4
def d_is_integer : DfX := ⟨fun K => He.ga K "is_integer", "is_integer", "is_integer", defArgs st_is_integer, defBody st_is_integer, defScope st_is_integer⟩
abbrev st_is_integer_within : Stmt := topS 5
def d_is_integer_within : DfX := ⟨fun K => He.ga K "is_integer_within", "is_integer_within", "is_integer_within", defArgs st_is_integer_within, defBody st_is_integer_within, defScope st_is_integer_within⟩
abbrev st_is_value_of : Stmt := topS 26
def d_is_value_of : DfX := ⟨fun K => He.ga K "is_value_of", "is_value_of", "is_value_of", defArgs st_is_value_of, defBody st_is_value_of, defScope st_is_value_of⟩
abbrev st_require_values : Stmt := topS 43
def d_require_values : DfX := ⟨fun K => He.ga K "require_values", "require_values", "require_values", defArgs st_require_values, defBody st_require_values, defScope st_require_values⟩
abbrev st_require_book : Stmt := topS 24
def d_require_book : DfX := ⟨fun K => He.ga K "require_book", "require_book", "require_book", defArgs st_require_book, defBody st_require_book, defScope st_require_book⟩
abbrev st_require_books : Stmt := topS 35
def d_require_books : DfX := ⟨fun K => He.ga K "require_books", "require_books", "require_books", defArgs st_require_books, defBody st_require_books, defScope st_require_books⟩
abbrev st_paired : Stmt := topS 44
def d_paired : DfX := ⟨fun K => He.ga K "paired", "paired", "paired", defArgs st_paired, defBody st_paired, defScope st_paired⟩
abbrev st_sets_of : Stmt := topS 22
def d_sets_of : DfX := ⟨fun K => He.ga K "sets_of", "sets_of", "sets_of", defArgs st_sets_of, defBody st_sets_of, defScope st_sets_of⟩
abbrev st_is_name : Stmt := topS 6
def d_is_name : DfX := ⟨fun K => He.ga K "is_name", "is_name", "is_name", defArgs st_is_name, defBody st_is_name, defScope st_is_name⟩
abbrev st_are_ascending : Stmt := topS 7
def d_are_ascending : DfX := ⟨fun K => He.ga K "are_ascending", "are_ascending", "are_ascending", defArgs st_are_ascending, defBody st_are_ascending, defScope st_are_ascending⟩
abbrev st_is_row : Stmt := topS 8
def d_is_row : DfX := ⟨fun K => He.ga K "is_row", "is_row", "is_row", defArgs st_is_row, defBody st_is_row, defScope st_is_row⟩
abbrev st_is_tie_of : Stmt := topS 20
def d_is_tie_of : DfX := ⟨fun K => He.ga K "is_tie_of", "is_tie_of", "is_tie_of", defArgs st_is_tie_of, defBody st_is_tie_of, defScope st_is_tie_of⟩
abbrev st_are_ties_of : Stmt := topS 21
def d_are_ties_of : DfX := ⟨fun K => He.ga K "are_ties_of", "are_ties_of", "are_ties_of", defArgs st_are_ties_of, defBody st_are_ties_of, defScope st_are_ties_of⟩
abbrev st_Book___init__ : Stmt := (clsB (topS 23)).getD 0 (.Pass ⟨0, 0, 0, 0⟩)
def d_Book___init__ : DfX := ⟨fun K => He.ma K (He.ga K "Book") "__init__", "__init__", "Book.__init__", defArgs st_Book___init__, defBody st_Book___init__, defScope st_Book___init__⟩
abbrev st_product_of : Stmt := topS 38
def d_product_of : DfX := ⟨fun K => He.ga K "product_of", "product_of", "product_of", defArgs st_product_of, defBody st_product_of, defScope st_product_of⟩
abbrev st_is_set_of : Stmt := topS 28
def d_is_set_of : DfX := ⟨fun K => He.ga K "is_set_of", "is_set_of", "is_set_of", defArgs st_is_set_of, defBody st_is_set_of, defScope st_is_set_of⟩
abbrev st_is_any_chooser : Stmt := topS 29
def d_is_any_chooser : DfX := ⟨fun K => He.ga K "is_any_chooser", "is_any_chooser", "is_any_chooser", defArgs st_is_any_chooser, defBody st_is_any_chooser, defScope st_is_any_chooser⟩
abbrev st_require_chooser : Stmt := topS 30
def d_require_chooser : DfX := ⟨fun K => He.ga K "require_chooser", "require_chooser", "require_chooser", defArgs st_require_chooser, defBody st_require_chooser, defScope st_require_chooser⟩
abbrev st_chooser_of_both : Stmt := topS 46
def d_chooser_of_both : DfX := ⟨fun K => He.ga K "chooser_of_both", "chooser_of_both", "chooser_of_both", defArgs st_chooser_of_both, defBody st_chooser_of_both, defScope st_chooser_of_both⟩
abbrev st_is_value_of_product : Stmt := topS 40
def d_is_value_of_product : DfX := ⟨fun K => He.ga K "is_value_of_product", "is_value_of_product", "is_value_of_product", defArgs st_is_value_of_product, defBody st_is_value_of_product, defScope st_is_value_of_product⟩
abbrev st_parted : Stmt := topS 45
def d_parted : DfX := ⟨fun K => He.ga K "parted", "parted", "parted", defArgs st_parted, defBody st_parted, defScope st_parted⟩
abbrev st_value_of : Stmt := topS 42
def d_value_of : DfX := ⟨fun K => He.ga K "value_of", "value_of", "value_of", defArgs st_value_of, defBody st_value_of, defScope st_value_of⟩
abbrev st_pair_of : Stmt := topS 41
def d_pair_of : DfX := ⟨fun K => He.ga K "pair_of", "pair_of", "pair_of", defArgs st_pair_of, defBody st_pair_of, defScope st_pair_of⟩
abbrev st_product : Stmt := topS 39
def d_product : DfX := ⟨fun K => He.ga K "product", "product", "product", defArgs st_product, defBody st_product, defScope st_product⟩
abbrev st__law_all_met : Stmt := topS 52
def d__law_all_met : DfX := ⟨fun K => He.ga K "_law_all_met", "_law_all_met", "_law_all_met", defArgs st__law_all_met, defBody st__law_all_met, defScope st__law_all_met⟩
abbrev st__law_grab : Stmt := topS 49
def d__law_grab : DfX := ⟨fun K => He.ga K "_law_grab", "_law_grab", "_law_grab", defArgs st__law_grab, defBody st__law_grab, defScope st__law_grab⟩
abbrev st__law_one_of : Stmt := topS 50
def d__law_one_of : DfX := ⟨fun K => He.ga K "_law_one_of", "_law_one_of", "_law_one_of", defArgs st__law_one_of, defBody st__law_one_of, defScope st__law_one_of⟩
abbrev st_Book_names : Stmt := (clsB (topS 23)).getD 2 (.Pass ⟨0, 0, 0, 0⟩)
def d_Book_names : DfX := ⟨fun K => gtA K "Book" "names", "names", "Book.names", defArgs st_Book_names, defBody st_Book_names, defScope st_Book_names⟩
abbrev st__law_right : Stmt := topS 53
def d__law_right : DfX := ⟨fun K => He.ga K "_law_right", "_law_right", "_law_right", defArgs st__law_right, defBody st__law_right, defScope st__law_right⟩
abbrev st__law_sack : Stmt := topS 48
def d__law_sack : DfX := ⟨fun K => He.ga K "_law_sack", "_law_sack", "_law_sack", defArgs st__law_sack, defBody st__law_sack, defScope st__law_sack⟩
abbrev st_law : Stmt := topS 54
def d_law : DfX := ⟨fun K => He.ga K "law", "law", "law", defArgs st_law, defBody st_law, defScope st_law⟩
abbrev xs_InvalidNumber : Stmt := (clsB (topS 14)).getD 0 (.Pass ⟨0, 0, 0, 0⟩)
def xi_InvalidNumber : XiS := xiOf "__init__" "InvalidNumber.__init__" (defArgs xs_InvalidNumber) (defScope xs_InvalidNumber) (defBody xs_InvalidNumber)
def B_InvalidNumber : String := "IndexError"
def i_InvalidNumber : String := "IndexError.__init__"
def n_InvalidNumber : String := "IndexError.__new__"
def m_InvalidNumber : List Value := [.type "IndexError", .type "LookupError", .type "Exception", .type "BaseException", .type "object"]
def xil : List (Str × XiS) := [("InvalidNumber", xi_InvalidNumber)]
def nmF : Nat → Str
  | 0 => "own_size"
  | 1 => "own_ties"
  | 2 => "own_sets"
  | 3 => "value"
  | _ => ""
def metL_ : List (Nat × MtK) := [(2, .fld [110, 117, 109, 98, 101, 114, 32] 3), (0, .word [98, 111, 111, 107]), (3, .word [116, 97, 98, 108, 101]), (1, .word [111, 112, 101, 114, 97, 116, 105, 111, 110]), (4, .word [111, 116, 104, 101, 114])]
def metF : List Nat := [102, 105, 110, 101]
def xmF : Nat → Nat → Option Bool
  | 0, 2 => some false
  | 0, 0 => some true
  | 0, 3 => some false
  | 0, 1 => some false
  | 0, 4 => some true
  | 1, 2 => some false
  | 1, 0 => some false
  | 1, 3 => some false
  | 1, 1 => some true
  | 1, 4 => some true
  | 2, 2 => some true
  | 2, 0 => some false
  | 2, 3 => some false
  | 2, 1 => some false
  | 2, 4 => some false
  | 3, 2 => some false
  | 3, 0 => some false
  | 3, 3 => some true
  | 3, 1 => some false
  | 3, 4 => some true
  | 4, 2 => some false
  | 4, 0 => some false
  | 4, 3 => some false
  | 4, 1 => some false
  | 4, 4 => some true
  | _, _ => none
def Df_own_sets : Nat → Bool := fun c => decide (c = 0)
def Df_own_size : Nat → Bool := fun c => decide (c = 0)
def Df_own_ties : Nat → Bool := fun c => decide (c = 0)
def Di_Book : Nat → Option Bool
  | 0 => some true
  | _ => none
def Dno : Nat → Option Bool
  | 0 => some false
  | _ => none
def b_paired_row : S := (sRet (eB gTupA (aCons (eLc false [3, 4] (iZip (aCons (eVar 1) (aCons (eVar 2) aNil))) (gTp 2 (gNC (gN 3) (gNC (gN 4) gN0))) fYes (e2 gAdd (e2 gMul (eVar 3) (e1 (gFld 4 0 Df_own_size) (eVar 0))) (eVar 4))) aNil)))
def F_paired_row : Fn := fnB 5 b_paired_row
def b_are_alike_in_form : S := (sSeq (sIf (eT (e2 gNe (eBL false gListA (aCons (e1 (gFld 4 1 Df_own_ties) (eVar 0)) aNil)) (eBL false gListA (aCons (e1 (gFld 4 1 Df_own_ties) (eVar 1)) aNil)))) (sRet (eC (.bl false))) sNx) (sRet (eB gAll (aCons (eLc false [2] (iAny (e1 (gFld 4 1 Df_own_ties) (eVar 0))) (gN 2) fYes (e2 gEq (e2 gDixN (e2 gDixN (e1 (gFld 4 1 Df_own_ties) (eVar 0)) (eVar 2)) (eC (.int (0)))) (e2 gDixN (e2 gDixN (e1 (gFld 4 1 Df_own_ties) (eVar 1)) (eVar 2)) (eC (.int (0)))))) aNil))))
def F_are_alike_in_form : Fn := fnB 3 b_are_alike_in_form
def b_require_alike : S := (sIf (bNot (eT (eCall 2 (Eg.iso F_are_alike_in_form) (aCons (eVar 0) (aCons (eVar 1) aNil))))) (sRaise 1) sNx)
def F_require_alike : Fn := fnB 2 b_require_alike
def b_require_product : S := (sSeq (sExpr (eCall 2 (Eg.iso F_require_alike) (aCons (eVar 0) (aCons (eVar 1) aNil)))) (sIf (eT (e2 gGt (e2 gMul (e1 (gFld 4 0 Df_own_size) (eVar 0)) (e1 (gFld 4 0 Df_own_size) (eVar 1))) (eC (.int (4))))) (sRaise 0) sNx))
def F_require_product : Fn := fnB 2 b_require_product
def b_is_integer : S := (sRet (eAnd (e1 (gIsO Dno .int) (eVar 0)) (eAnd (eNot (e1 (gIsO Dno .bl) (eVar 0))) (e3 gLe gLe (e1 gNeg (eC (.int (999999999999999999999999999999999999999999999999999999999999)))) (eVar 0) (eC (.int (999999999999999999999999999999999999999999999999999999999999)))))))
def F_is_integer : Fn := fnB 1 b_is_integer
def b_is_integer_within : S := (sRet (eAnd (eCall 1 (Eg.iso F_is_integer) (aCons (eVar 0) aNil)) (e3 gLe gLe (eVar 1) (eVar 0) (eVar 2))))
def F_is_integer_within : Fn := fnB 3 b_is_integer_within
def b_is_value_of : S := (sRet (eCall 3 (Eg.iso F_is_integer_within) (aCons (eVar 1) (aCons (eC (.int (0))) (aCons (e2 gSub (e1 (gFld 4 0 Df_own_size) (eVar 0)) (eC (.int (1)))) aNil)))))
def F_is_value_of : Fn := fnB 2 b_is_value_of
def b_require_values : S := (sIf (bOr (bNot (eT (e1 (gIsO Dno .tup) (eVar 1)))) (bNot (eT (eB gAll (aCons (eLc false [2] (iAny (eVar 1)) (gN 2) fYes (eCall 2 (Eg.iso F_is_value_of) (aCons (eVar 0) (aCons (eVar 2) aNil)))) aNil))))) (sRaise 1) sNx)
def F_require_values : Fn := fnB 3 b_require_values
def b_require_book : S := (sIf (bNot (eT (e1 (gIsC Di_Book) (eVar 0)))) (sRaise 0) sNx)
def F_require_book : Fn := fnB 1 b_require_book
def b_require_books : S := (sSeq (sExpr (eCall 1 (Eg.iso F_require_book) (aCons (eVar 0) aNil))) (sExpr (eCall 1 (Eg.iso F_require_book) (aCons (eVar 1) aNil))))
def F_require_books : Fn := fnB 2 b_require_books
def b_paired : S := (sSeq (sExpr (eCall 2 (Eg.iso F_require_books) (aCons (eVar 0) (aCons (eVar 1) aNil)))) (sSeq (sExpr (eCall 2 (Eg.iso F_require_values) (aCons (eVar 0) (aCons (eVar 2) aNil)))) (sSeq (sExpr (eCall 2 (Eg.iso F_require_values) (aCons (eVar 1) (aCons (eVar 3) aNil)))) (sSeq (sIf (eT (e2 gNe (eB gLenN (aCons (eVar 2) aNil)) (eB gLenN (aCons (eVar 3) aNil)))) (sRaise 1) sNx) (sSeq (sExpr (eCall 2 (Eg.iso F_require_product) (aCons (eVar 0) (aCons (eVar 1) aNil)))) (sRet (eCall 3 (Eg.iso F_paired_row) (aCons (eVar 1) (aCons (eVar 2) (aCons (eVar 3) aNil))))))))))
def F_paired : Fn := fnB 4 b_paired
def b_sets_of : S := (sSeq (sAsg (eLst true (aCons (eTup aNil) aNil)) (gN 1)) (sSeq (sFor (iRg1 (aCons (eVar 0) aNil)) (gN 2) (sExpr (eML mExt (eVar 1) (aCons (eLc false [3] (iAny (eBL false gListA (aCons (eVar 1) aNil))) (gN 3) fYes (eTup (aStar (eVar 3) (aCons (eVar 2) aNil)))) aNil)))) (sRet (eB gTupA (aCons (eBL false gSortA (aCons (eLc false [3] (iAny (eVar 1)) (gN 3) (eT (e2 gNe (eVar 3) (eTup aNil))) (eVar 3)) aNil)) aNil)))))
def F_sets_of : Fn := fnB 4 b_sets_of
def b_is_name : S := (sSeq (sIf (bOr (bNot (eT (e1 (gIsO Dno .str) (eVar 0)))) (bNot (eT (e3 gLe gLe (eC (.int (1))) (eB gLenN (aCons (eVar 0) aNil)) (eC (.int (8))))))) (sRet (eC (.bl false))) sNx) (sRet (eB gAll (aCons (eLc false [1] (iAny (eVar 0)) (gN 1) fYes (e3 gLe gLe (eC (.str [97])) (eVar 1) (eC (.str [122])))) aNil))))
def F_is_name : Fn := fnB 2 b_is_name
def b_are_ascending : S := (sRet (eB gAll (aCons (eLc false [1, 2] (iZip (aCons (eVar 0) (aCons (eSl (eVar 0) (some (eC (.int (1)))) none) aNil))) (gTp 2 (gNC (gN 1) (gNC (gN 2) gN0))) fYes (e2 gLt (eVar 1) (eVar 2))) aNil)))
def F_are_ascending : Fn := fnB 3 b_are_ascending
def b_is_row : S := (sSeq (sIf (bOr (bNot (eT (e1 (gIsO Dno .tup) (eVar 0)))) (eT (e2 gNe (eB gLenN (aCons (eVar 0) aNil)) (eVar 2)))) (sRet (eC (.bl false))) sNx) (sRet (eB gAll (aCons (eLc false [3] (iAny (eVar 0)) (gN 3) fYes (eCall 3 (Eg.iso F_is_integer_within) (aCons (eVar 3) (aCons (eC (.int (0))) (aCons (e2 gSub (eVar 1) (eC (.int (1)))) aNil))))) aNil))))
def F_is_row : Fn := fnB 4 b_is_row
def b_is_tie_of : S := (sSeq (sIf (bOr (bNot (eT (e1 (gIsO Dno .tup) (eVar 1)))) (bOr (eT (e2 gNe (eB gLenN (aCons (eVar 1) aNil)) (eC (.int (2))))) (bNot (eT (eCall 3 (Eg.iso F_is_integer_within) (aCons (e2 gDixN (eVar 1) (eC (.int (0)))) (aCons (eC (.int (1))) (aCons (eC (.int (3))) aNil)))))))) (sRet (eC (.bl false))) sNx) (sSeq (sIf (bOr (bNot (eT (e1 (gIsO Dno .tup) (e2 gDixN (eVar 1) (eC (.int (1))))))) (bNot (eT (eB gAll (aCons (eLc false [2] (iAny (e2 gDixN (eVar 1) (eC (.int (1))))) (gN 2) fYes (eCall 3 (Eg.iso F_is_row) (aCons (eVar 2) (aCons (eVar 0) (aCons (e2 gDixN (eVar 1) (eC (.int (0)))) aNil))))) aNil))))) (sRet (eC (.bl false))) sNx) (sRet (eCall 1 (Eg.iso F_are_ascending) (aCons (e2 gDixN (eVar 1) (eC (.int (1)))) aNil)))))
def F_is_tie_of : Fn := fnB 3 b_is_tie_of
def b_are_ties_of : S := (sSeq (sIf (bOr (bNot (eT (e1 (gIsO Dno .dct) (eVar 1)))) (eT (e2 gGt (eB gLenN (aCons (eVar 1) aNil)) (eC (.int (8)))))) (sRet (eC (.bl false))) sNx) (sRet (eB gAll (aCons (eLc false [2, 3] (iItmN (eVar 1)) (gTp 2 (gNC (gN 2) (gNC (gN 3) gN0))) fYes (eAnd (eCall 1 (Eg.iso F_is_name) (aCons (eVar 2) aNil)) (eCall 2 (Eg.iso F_is_tie_of) (aCons (eVar 0) (aCons (eVar 3) aNil))))) aNil))))
def F_are_ties_of : Fn := fnB 4 b_are_ties_of
def b_Book___init__ : S := (sSeq (sIf (bNot (eT (eCall 3 (Eg.iso F_is_integer_within) (aCons (eVar 1) (aCons (eC (.int (1))) (aCons (eC (.int (4))) aNil)))))) (sRaiseV 2 3 (eVar 1)) sNx) (sSeq (sIf (bNot (eT (eCall 2 (Eg.iso F_are_ties_of) (aCons (eVar 1) (aCons (eVar 2) aNil))))) (sRaise 0) sNx) (sSeq (sFldS 4 0 Df_own_size (eVar 0) (eVar 1)) (sSeq (sFldS 4 1 Df_own_ties (eVar 0) (eDc false [3] (iAny (eBL false gSortA (aCons (eVar 2) aNil))) (gN 3) fYes (eVar 3) (e2 gDixN (eVar 2) (eVar 3)))) (sFldS 4 2 Df_own_sets (eVar 0) (eCall 1 (Eg.iso F_sets_of) (aCons (eVar 1) aNil)))))))
def F_Book___init__ : Fn := fnB 4 b_Book___init__
def b_product_of : S := (sSeq (sAsg (eD0 true) (gN 2)) (sSeq (sFor (iItmN (e1 (gFld 4 1 Df_own_ties) (eVar 0))) (gTp 2 (gNC (gN 3) (gNC (gTp 2 (gNC (gN 5) (gNC (gN 6) gN0))) gN0))) (sSeq (sAsg (eLc2 false [7, 8] [8] (iAny (eVar 6)) (gN 7) fYes (iAny (e2 gDixN (e2 gDixN (e1 (gFld 4 1 Df_own_ties) (eVar 1)) (eVar 3)) (eC (.int (1))))) (gN 8) fYes (eCall 3 (Eg.iso F_paired_row) (aCons (eVar 1) (aCons (eVar 7) (aCons (eVar 8) aNil))))) (gN 4)) (sAsg (eTup (aCons (eVar 5) (aCons (eB gTupA (aCons (eBL false gSortA (aCons (eVar 4) aNil)) aNil)) aNil))) (gSubN (eVar 2) (eVar 3))))) (sRet (eMakeI 0 3 F_Book___init__ (aCons (e2 gMul (e1 (gFld 4 0 Df_own_size) (eVar 0)) (e1 (gFld 4 0 Df_own_size) (eVar 1))) (aCons (eFzN (eVar 2)) aNil))))))
def F_product_of : Fn := fnB 9 b_product_of
def b_is_set_of : S := (sRet (eAnd (e1 (gIsO Dno .tup) (eVar 1)) (eAnd (eB gAll (aCons (eLc false [2] (iAny (eVar 1)) (gN 2) fYes (eCall 1 (Eg.iso F_is_integer) (aCons (eVar 2) aNil))) aNil)) (e2 (gInN false) (eVar 1) (e1 (gFld 4 2 Df_own_sets) (eVar 0))))))
def F_is_set_of : Fn := fnB 3 b_is_set_of
def b_is_any_chooser : S := (sSeq (sIf (bOr (bNot (eT (e1 (gIsO Dno .dct) (eVar 1)))) (eT (e2 gNe (eB gLenN (aCons (eVar 1) aNil)) (eB gLenN (aCons (e1 (gFld 4 2 Df_own_sets) (eVar 0)) aNil))))) (sRet (eC (.bl false))) sNx) (sRet (eB gAll (aCons (eLc false [2, 3] (iItmN (eVar 1)) (gTp 2 (gNC (gN 2) (gNC (gN 3) gN0))) fYes (eAnd (eCall 2 (Eg.iso F_is_set_of) (aCons (eVar 0) (aCons (eVar 2) aNil))) (eCall 2 (Eg.iso F_is_value_of) (aCons (eVar 0) (aCons (eVar 3) aNil))))) aNil))))
def F_is_any_chooser : Fn := fnB 4 b_is_any_chooser
def b_require_chooser : S := (sIf (bNot (eT (eCall 2 (Eg.iso F_is_any_chooser) (aCons (eVar 0) (aCons (eVar 1) aNil))))) (sRaise 3) sNx)
def F_require_chooser : Fn := fnB 2 b_require_chooser
def b_chooser_of_both : S := (sSeq (sExpr (eCall 2 (Eg.iso F_require_books) (aCons (eVar 0) (aCons (eVar 1) aNil)))) (sSeq (sExpr (eCall 2 (Eg.iso F_require_chooser) (aCons (eVar 0) (aCons (eVar 2) aNil)))) (sSeq (sExpr (eCall 2 (Eg.iso F_require_chooser) (aCons (eVar 1) (aCons (eVar 3) aNil)))) (sSeq (sExpr (eCall 2 (Eg.iso F_require_product) (aCons (eVar 0) (aCons (eVar 1) aNil)))) (sSeq (sAsg (eD0 true) (gN 4)) (sSeq (sFor (iAny (e1 (gFld 4 2 Df_own_sets) (eCall 2 (Eg.iso F_product_of) (aCons (eVar 0) (aCons (eVar 1) aNil))))) (gN 5) (sSeq (sAsg (eB gTupA (aCons (eSS false (eLc false [8] (iAny (eVar 5)) (gN 8) fYes (e2 gDiv (eVar 8) (e1 (gFld 4 0 Df_own_size) (eVar 1))))) aNil)) (gN 6)) (sSeq (sAsg (eB gTupA (aCons (eSS false (eLc false [8] (iAny (eVar 5)) (gN 8) fYes (e2 gMod (eVar 8) (e1 (gFld 4 0 Df_own_size) (eVar 1))))) aNil)) (gN 7)) (sAsg (e2 gAdd (e2 gMul (e2 gDixN (eVar 2) (eVar 6)) (e1 (gFld 4 0 Df_own_size) (eVar 1))) (e2 gDixN (eVar 3) (eVar 7))) (gSubN (eVar 4) (eVar 5)))))) (sRet (eFzN (eVar 4)))))))))
def F_chooser_of_both : Fn := fnB 9 b_chooser_of_both
def b_is_value_of_product : S := (sRet (eCall 3 (Eg.iso F_is_integer_within) (aCons (eVar 2) (aCons (eC (.int (0))) (aCons (e2 gSub (e2 gMul (e1 (gFld 4 0 Df_own_size) (eVar 0)) (e1 (gFld 4 0 Df_own_size) (eVar 1))) (eC (.int (1)))) aNil)))))
def F_is_value_of_product : Fn := fnB 3 b_is_value_of_product
def b_parted : S := (sSeq (sExpr (eCall 2 (Eg.iso F_require_books) (aCons (eVar 0) (aCons (eVar 1) aNil)))) (sSeq (sIf (bOr (bNot (eT (e1 (gIsO Dno .tup) (eVar 2)))) (bNot (eT (eB gAll (aCons (eLc false [3] (iAny (eVar 2)) (gN 3) fYes (eCall 3 (Eg.iso F_is_value_of_product) (aCons (eVar 0) (aCons (eVar 1) (aCons (eVar 3) aNil))))) aNil))))) (sRaise 1) sNx) (sSeq (sExpr (eCall 2 (Eg.iso F_require_product) (aCons (eVar 0) (aCons (eVar 1) aNil)))) (sRet (eTup (aCons (eB gTupA (aCons (eLc false [3] (iAny (eVar 2)) (gN 3) fYes (e2 gDiv (eVar 3) (e1 (gFld 4 0 Df_own_size) (eVar 1)))) aNil)) (aCons (eB gTupA (aCons (eLc false [3] (iAny (eVar 2)) (gN 3) fYes (e2 gMod (eVar 3) (e1 (gFld 4 0 Df_own_size) (eVar 1)))) aNil)) aNil)))))))
def F_parted : Fn := fnB 4 b_parted
def b_value_of : S := (sSeq (sExpr (eCall 2 (Eg.iso F_require_books) (aCons (eVar 0) (aCons (eVar 1) aNil)))) (sSeq (sAsg (eAnd (e1 (gIsO Dno .tup) (eVar 2)) (e2 gEq (eB gLenN (aCons (eVar 2) aNil)) (eC (.int (2))))) (gN 3)) (sSeq (sIf (bOr (bNot (eT (eVar 3))) (bOr (bNot (eT (eCall 2 (Eg.iso F_is_value_of) (aCons (eVar 0) (aCons (e2 gDixN (eVar 2) (eC (.int (0)))) aNil))))) (bNot (eT (eCall 2 (Eg.iso F_is_value_of) (aCons (eVar 1) (aCons (e2 gDixN (eVar 2) (eC (.int (1)))) aNil))))))) (sRaise 1) sNx) (sSeq (sExpr (eCall 2 (Eg.iso F_require_product) (aCons (eVar 0) (aCons (eVar 1) aNil)))) (sRet (e2 gAdd (e2 gMul (e2 gDixN (eVar 2) (eC (.int (0)))) (e1 (gFld 4 0 Df_own_size) (eVar 1))) (e2 gDixN (eVar 2) (eC (.int (1))))))))))
def F_value_of : Fn := fnB 4 b_value_of
def b_pair_of : S := (sSeq (sExpr (eCall 2 (Eg.iso F_require_books) (aCons (eVar 0) (aCons (eVar 1) aNil)))) (sSeq (sIf (bNot (eT (eCall 3 (Eg.iso F_is_value_of_product) (aCons (eVar 0) (aCons (eVar 1) (aCons (eVar 2) aNil)))))) (sRaiseV 2 3 (eVar 2)) sNx) (sSeq (sExpr (eCall 2 (Eg.iso F_require_product) (aCons (eVar 0) (aCons (eVar 1) aNil)))) (sRet (eTup (aCons (e2 gDiv (eVar 2) (e1 (gFld 4 0 Df_own_size) (eVar 1))) (aCons (e2 gMod (eVar 2) (e1 (gFld 4 0 Df_own_size) (eVar 1))) aNil)))))))
def F_pair_of : Fn := fnB 3 b_pair_of
def b_product : S := (sSeq (sExpr (eCall 2 (Eg.iso F_require_books) (aCons (eVar 0) (aCons (eVar 1) aNil)))) (sSeq (sExpr (eCall 2 (Eg.iso F_require_product) (aCons (eVar 0) (aCons (eVar 1) aNil)))) (sRet (eCall 2 (Eg.iso F_product_of) (aCons (eVar 0) (aCons (eVar 1) aNil))))))
def F_product : Fn := fnB 2 b_product
def b__law_all_met : S := (sSeq (sAsg (eLst true (aCons (eMetX xmF metL_ metF (eCall 2 (Eg.iso F_product) (aCons (eVar 0) (aCons (eVar 1) aNil)))) aNil)) (gN 4)) (sSeq (sExpr (eML mApp (eVar 4) (aCons (eMetX xmF metL_ metF (eCall 3 (Eg.iso F_pair_of) (aCons (eVar 0) (aCons (eVar 1) (aCons (e2 gDixN (eVar 2) (eC (.int (0)))) aNil))))) aNil))) (sSeq (sExpr (eML mApp (eVar 4) (aCons (eMetX xmF metL_ metF (eCall 3 (Eg.iso F_value_of) (aCons (eVar 0) (aCons (eVar 1) (aCons (e2 gDixN (eVar 2) (eC (.int (1)))) aNil))))) aNil))) (sSeq (sExpr (eML mApp (eVar 4) (aCons (eMetX xmF metL_ metF (eCall 4 (Eg.iso F_paired) (aCons (eVar 0) (aCons (eVar 1) (aCons (e2 gDixN (eVar 2) (eC (.int (2)))) (aCons (e2 gDixN (eVar 2) (eC (.int (3)))) aNil)))))) aNil))) (sSeq (sExpr (eML mApp (eVar 4) (aCons (eMetX xmF metL_ metF (eCall 3 (Eg.iso F_parted) (aCons (eVar 0) (aCons (eVar 1) (aCons (e2 gDixN (eVar 2) (eC (.int (2)))) aNil))))) aNil))) (sSeq (sExpr (eML mApp (eVar 4) (aCons (eMetX xmF metL_ metF (eCall 4 (Eg.iso F_chooser_of_both) (aCons (eVar 0) (aCons (eVar 1) (aCons (e2 gDixN (eVar 3) (eC (.int (0)))) (aCons (e2 gDixN (eVar 3) (eC (.int (1)))) aNil)))))) aNil))) (sRet (eFzN (eVar 4)))))))))
def F__law_all_met : Fn := fnB 5 b__law_all_met
def b__law_grab : S := (sSeq (sIf (eT (e2 gGt (e2 gDix (eVar 0) (eC (.int (0)))) (eC (.int (0))))) (sSeq (sAsg (e2 gMod (eB gInt (aCons (e2 gDix (eVar 0) (eC (.int (0)))) aNil)) (eVar 1)) (gN 4)) (sSeq (sAsg (e2 gDiv (e2 gDix (eVar 0) (eC (.int (0)))) (eVar 1)) (gSub2 (eVar 0) (eC (.int (0))))) (sRet (eVar 4)))) sNx) (sSeq (sAsg (e2 gAdd (e2 gDix (eVar 0) (eC (.int (2)))) (eC (.int (1)))) (gSub2 (eVar 0) (eC (.int (2))))) (sSeq (sAsg (e2 gMod (eB gInt (aCons (e2 gAdd (e2 gDix (eVar 0) (eC (.int (1)))) (e2 gMul (eC (.int (1000427))) (e2 gDix (eVar 0) (eC (.int (2)))))) aNil)) (eC (.int (2305843009213693951)))) (gN 2)) (sSeq (sAsg (e2 gAdd (e2 gMul (e2 gMod (eB gInt (aCons (e2 gMul (eVar 2) (eVar 2)) aNil)) (eC (.int (2305843009213693921)))) (eVar 2)) (e2 gMul (eC (.int (9103))) (e2 gDix (eVar 0) (eC (.int (2)))))) (gN 3)) (sRet (e2 gMod (eB gInt (aCons (e2 gDiv (e2 gMod (eB gInt (aCons (eVar 3) aNil)) (eC (.int (2305843009213693907)))) (eC (.int (16384)))) aNil)) (eVar 1)))))))
def F__law_grab : Fn := fnB 5 b__law_grab
def b__law_one_of : S := (sRet (e2 gDix (eVar 1) (eCall 2 F__law_grab (aCons (eVar 0) (aCons (eB gLenA (aCons (eVar 1) aNil)) aNil)))))
def F__law_one_of : Fn := fnB 2 b__law_one_of
def b_Book_names : S := (sRet (eB gTupA (aCons (e1 (gFld 4 1 Df_own_ties) (eVar 0)) aNil)))
def F_Book_names : Fn := fnB 1 b_Book_names
def Dp_names : Nat → Option Fn
  | 0 => some (Eg.iso F_Book_names)
  | _ => none
def b__law_right : S := (sSeq (sAsg (eCall 2 F__law_one_of (aCons (eVar 0) (aCons (eLst false (aCons (eC .non) (aCons (eC (.int (0))) (aCons (eC (.str [98, 111, 111, 107])) (aCons (eTup aNil) (aCons (eD0 false) (aCons (eLst false (aCons (eVar 1) aNil)) (aCons (eC (.bl true)) (aCons (eProp Dp_names (eVar 1)) aNil))))))))) aNil))) (gN 4)) (sSeq (sAsg (eCall 2 F__law_one_of (aCons (eVar 0) (aCons (eLst false (aCons (eC (.int (4))) (aCons (e2 gSub (eC (.int (0))) (eC (.int (1)))) (aCons (eC .non) (aCons (eC (.bl true)) (aCons (eC (.str [48])) (aCons (eTup (aCons (eC (.int (0))) aNil)) (aCons (e2 gPow (eC (.int (10))) (eC (.int (60)))) (aCons (eLst false aNil) aNil))))))))) aNil))) (gN 5)) (sSeq (sAsg (eCall 2 F__law_one_of (aCons (eVar 0) (aCons (eLst false (aCons (eC .non) (aCons (eC (.int (0))) (aCons (eTup aNil) (aCons (eTup (aCons (eC (.int (0))) aNil)) (aCons (eTup (aCons (eC (.int (0))) (aCons (eC (.int (2))) aNil))) (aCons (eTup (aCons (eC (.int (2))) (aCons (eC (.int (0))) aNil))) (aCons (eLst false (aCons (eC (.int (0))) (aCons (eC (.int (1))) aNil))) (aCons (eTup (aCons (eC (.int (0))) (aCons (eC (.bl true)) aNil))) (aCons (eTup (aCons (eC (.int (0))) (aCons (eC .non) aNil))) (aCons (eTup (aCons (eC (.int (0))) (aCons (eC (.int (0))) (aCons (eC (.int (0))) aNil)))) (aCons (eC (.str [48, 49])) (aCons (eD0 false) aNil))))))))))))) aNil))) (gN 6)) (sSeq (sAsg (eCall 2 F__law_one_of (aCons (eVar 0) (aCons (eLst false (aCons (eC .non) (aCons (eC (.int (0))) (aCons (eTup (aCons (eC (.int (4))) aNil)) (aCons (eTup (aCons (e2 gSub (eC (.int (0))) (eC (.int (1)))) aNil)) (aCons (eLst false (aCons (eC (.int (0))) (aCons (eC (.int (1))) aNil))) (aCons (eC (.str [48, 49])) (aCons (eTup (aCons (eC (.bl true)) aNil)) (aCons (eTup (aCons (eC .non) aNil)) (aCons (eD0 false) (aCons (eTup (aCons (eTup (aCons (eC (.int (0))) aNil)) aNil)) aNil))))))))))) aNil))) (gN 7)) (sSeq (sAsg (eCall 2 F__law_one_of (aCons (eVar 0) (aCons (eLst false (aCons (eC .non) (aCons (eC (.int (0))) (aCons (eD0 false) (aCons (eDispN false [((eTup (aCons (eC (.int (0))) aNil)), (eC (.int (0))))]) (aCons (eTup (aCons (eC (.int (0))) (aCons (eC (.int (0))) (aCons (eC (.int (1))) aNil)))) (aCons (eDispN false [((eTup (aCons (eC (.int (0))) aNil)), (eC (.int (0)))), ((eTup (aCons (eC (.int (0))) (aCons (eC (.int (1))) aNil))), (eC (.int (2)))), ((eTup (aCons (eC (.int (1))) aNil)), (eC (.int (1))))]) (aCons (eVar 1) aNil)))))))) aNil))) (gN 8)) (sSeq (sAsg (eLst false (aCons (eVar 5) (aCons (eVar 6) (aCons (eVar 7) (aCons (eVar 7) aNil))))) (gN 9)) (sSeq (sIf (eT (e2 gNe (eCall 4 (Eg.iso F__law_all_met) (aCons (eVar 4) (aCons (eVar 4) (aCons (eVar 9) (aCons (eLst false (aCons (eVar 8) (aCons (eVar 8) aNil))) aNil))))) (e2 gMulA (eLst false (aCons (eC (.str [98, 111, 111, 107])) aNil)) (eC (.int (6)))))) (sRet (eC (.bl false))) sNx) (sSeq (sIf (eT (e2 gNe (eCall 4 (Eg.iso F__law_all_met) (aCons (eVar 1) (aCons (eVar 4) (aCons (eVar 9) (aCons (eLst false (aCons (eVar 8) (aCons (eVar 8) aNil))) aNil))))) (e2 gMulA (eLst false (aCons (eC (.str [98, 111, 111, 107])) aNil)) (eC (.int (6)))))) (sRet (eC (.bl false))) sNx) (sSeq (sAsg (eLst false (aCons (eC (.str [102, 105, 110, 101])) (aCons (e2 gAdd (eC (.str [110, 117, 109, 98, 101, 114, 32])) (eB gReprA (aCons (eVar 5) aNil))) (aCons (eC (.str [111, 112, 101, 114, 97, 116, 105, 111, 110])) (aCons (eC (.str [111, 112, 101, 114, 97, 116, 105, 111, 110])) (aCons (eC (.str [111, 112, 101, 114, 97, 116, 105, 111, 110])) (aCons (eC (.str [116, 97, 98, 108, 101])) aNil))))))) (gN 10)) (sSeq (sIf (eT (e2 gNe (eCall 4 (Eg.iso F__law_all_met) (aCons (eVar 1) (aCons (eVar 1) (aCons (eVar 9) (aCons (eLst false (aCons (eVar 8) (aCons (e2 gDixN (eVar 3) (eC (.int (0)))) aNil))) aNil))))) (eVar 10))) (sRet (eC (.bl false))) sNx) (sSeq (sIf (eT (e2 gNe (eMetX xmF metL_ metF (eCall 4 (Eg.iso F_chooser_of_both) (aCons (eVar 1) (aCons (eVar 1) (aCons (e2 gDixN (eVar 3) (eC (.int (0)))) (aCons (eVar 8) aNil)))))) (eC (.str [116, 97, 98, 108, 101])))) (sRet (eC (.bl false))) sNx) (sRet (e2 gEq (eCall 4 (Eg.iso F__law_all_met) (aCons (eVar 1) (aCons (eVar 1) (aCons (eVar 2) (aCons (eVar 3) aNil))))) (e2 gMulA (eLst false (aCons (eC (.str [102, 105, 110, 101])) aNil)) (eC (.int (6)))))))))))))))))
def F__law_right : Fn := fnB 11 b__law_right
def b__law_sack : S := (sSeq (sAsg (eIf (eT (e2 gLt (eVar 1) (eB gLenA (aCons (eVar 0) aNil)))) (e2 gDix (eVar 0) (eVar 1)) (e2 gAdd (e2 gMul (eC (.int (67))) (eVar 1)) (eC (.int (37))))) (gN 2)) (sSeq (sAsg (e2 gMod (eB gInt (aCons (eB gAbs (aCons (eVar 2) aNil)) aNil)) (e2 gPow (e2 gPow (eC (.int (10))) (eC (.int (47)))) (eC (.int (13))))) (gN 3)) (sSeq (sAsg (e2 gAdd (e2 gAdd (e2 gAdd (e2 gMul (e2 gMod (eB gInt (aCons (eVar 3) aNil)) (eC (.int (2147483237)))) (eC (.int (96293)))) (e2 gMul (eC (.int (8123))) (eVar 1))) (e2 gMul (eC (.int (47))) (eB gInt (aCons (e2 gLt (eVar 2) (eC (.int (0)))) aNil)))) (eC (.int (73)))) (gN 4)) (sRet (eLst true (aCons (eB gMax2 (aCons (eC (.int (0))) (aCons (e2 gSub (eVar 3) (e2 gPow (eC (.int (10))) (eC (.int (18))))) aNil))) (aCons (e2 gMod (eB gInt (aCons (eVar 4) aNil)) (eC (.int (2305843009213693907)))) (aCons (eC (.int (0))) aNil))))))))
def F__law_sack : Fn := fnB 5 b__law_sack
def b_law : S := (sSeq (sAsg (eTup (aCons (eMakeI 0 3 F_Book___init__ (aCons (eC (.int (2))) (aCons (eDisp false [((eC (.str [120, 111, 114])), (eTup (aCons (eC (.int (2))) (aCons (eTup (aCons (eTup (aCons (eC (.int (0))) (aCons (eC (.int (1))) aNil))) (aCons (eTup (aCons (eC (.int (1))) (aCons (eC (.int (0))) aNil))) aNil))) aNil))))]) aNil))) (aCons (eDispN false [((eTup (aCons (eC (.int (0))) aNil)), (eC (.int (0)))), ((eTup (aCons (eC (.int (0))) (aCons (eC (.int (1))) aNil))), (eC (.int (0)))), ((eTup (aCons (eC (.int (1))) aNil)), (eC (.int (1))))]) aNil))) (gTp 2 (gNC (gN 3) (gNC (gN 4) gN0)))) (sSeq (sPar 5 6 (aCons (eLst false (aCons (eC (.int (1))) (aCons (eTup (aCons (eC (.int (0))) (aCons (eC (.int (1))) aNil))) (aCons (eTup (aCons (eC (.int (0))) (aCons (eC (.int (1))) aNil))) (aCons (eTup (aCons (eC (.int (1))) (aCons (eC (.int (1))) aNil))) aNil))))) (aCons (eLst false (aCons (eVar 4) (aCons (eVar 4) aNil))) aNil))) (sSeq (sFor (iRg1 (aCons (eB gMax2 (aCons (eC (.int (1))) (aCons (eB gMinA (aCons (eC (.int (8))) (aCons (eB gLenN (aCons (eVar 0) aNil)) aNil))) aNil))) aNil)) (gN 1) (sSeq (sAsg (eCall 2 F__law_sack (aCons (eVar 0) (aCons (eVar 1) aNil))) (gN 7)) (sFor (iRg1 (aCons (eC (.int (3))) aNil)) (gN 8) (sIf (bNot (eT (eCall 4 F__law_right (aCons (eVar 7) (aCons (eVar 3) (aCons (eVar 5) (aCons (eVar 6) aNil))))))) (sRet (eC (.bl false))) sNx)))) (sSeq (sPar 9 10 (aCons (eMakeI 0 3 F_Book___init__ (aCons (eC (.int (2))) (aCons (eDisp false [((eC (.str [122, 122])), (eTup (aCons (eC (.int (2))) (aCons (eTup (aCons (eTup (aCons (eC (.int (0))) (aCons (eC (.int (1))) aNil))) aNil)) aNil))))]) aNil))) (aCons (eMakeI 0 3 F_Book___init__ (aCons (eC (.int (3))) (aCons (eDisp false [((eC (.str [120, 111, 114])), (eTup (aCons (eC (.int (2))) (aCons (eTup (aCons (eTup (aCons (eC (.int (0))) (aCons (eC (.int (1))) aNil))) aNil)) aNil))))]) aNil))) aNil))) (sSeq (sPar 11 12 (aCons (eMakeI 0 3 F_Book___init__ (aCons (eC (.int (2))) (aCons (eDisp false [((eC (.str [120, 111, 114])), (eTup (aCons (eC (.int (1))) (aCons (eTup (aCons (eTup (aCons (eC (.int (0))) aNil)) aNil)) aNil))))]) aNil))) (aCons (eMakeI 0 3 F_Book___init__ (aCons (eC (.int (3))) (aCons (eDisp false [((eC (.str [122, 122])), (eTup (aCons (eC (.int (1))) (aCons (eTup aNil) aNil))))]) aNil))) aNil))) (sSeq (sAsg (eDispN false [((eTup (aCons (eC (.int (0))) aNil)), (eC (.int (0)))), ((eTup (aCons (eC (.int (0))) (aCons (eC (.int (1))) aNil))), (eC (.int (0)))), ((eTup (aCons (eC (.int (0))) (aCons (eC (.int (1))) (aCons (eC (.int (2))) aNil)))), (eC (.int (0)))), ((eTup (aCons (eC (.int (0))) (aCons (eC (.int (2))) aNil))), (eC (.int (0)))), ((eTup (aCons (eC (.int (1))) aNil)), (eC (.int (1)))), ((eTup (aCons (eC (.int (1))) (aCons (eC (.int (2))) aNil))), (eC (.int (1)))), ((eTup (aCons (eC (.int (2))) aNil)), (eC (.int (2))))]) (gN 2)) (sSeq (sIf (eT (e2 gNe (eCall 4 (Eg.iso F__law_all_met) (aCons (eVar 3) (aCons (eVar 9) (aCons (eVar 5) (aCons (eVar 6) aNil))))) (e2 gMulA (eLst false (aCons (eC (.str [111, 112, 101, 114, 97, 116, 105, 111, 110])) aNil)) (eC (.int (6)))))) (sRet (eC (.bl false))) sNx) (sSeq (sIf (eT (e2 gNe (eCall 4 (Eg.iso F__law_all_met) (aCons (eVar 3) (aCons (eVar 11) (aCons (eVar 5) (aCons (eVar 6) aNil))))) (e2 gMulA (eLst false (aCons (eC (.str [111, 112, 101, 114, 97, 116, 105, 111, 110])) aNil)) (eC (.int (6)))))) (sRet (eC (.bl false))) sNx) (sSeq (sIf (eT (e2 gNe (eCall 4 (Eg.iso F__law_all_met) (aCons (eVar 3) (aCons (eVar 10) (aCons (eVar 5) (aCons (eLst false (aCons (eVar 4) (aCons (eVar 2) aNil))) aNil))))) (e2 gMulA (eLst false (aCons (eC (.str [98, 111, 111, 107])) aNil)) (eC (.int (6)))))) (sRet (eC (.bl false))) sNx) (sSeq (sIf (eT (e2 gNe (eCall 4 (Eg.iso F__law_all_met) (aCons (eVar 3) (aCons (eVar 12) (aCons (eVar 5) (aCons (eLst false (aCons (eVar 4) (aCons (eVar 2) aNil))) aNil))))) (e2 gMulA (eLst false (aCons (eC (.str [111, 112, 101, 114, 97, 116, 105, 111, 110])) aNil)) (eC (.int (6)))))) (sRet (eC (.bl false))) sNx) (sRet (e2 gEq (eMetX xmF metL_ metF (eCall 4 (Eg.iso F_paired) (aCons (eVar 3) (aCons (eVar 3) (aCons (eTup (aCons (eC (.int (0))) (aCons (eC (.int (1))) aNil))) (aCons (eTup (aCons (eC (.int (1))) aNil)) aNil)))))) (eC (.str [111, 112, 101, 114, 97, 116, 105, 111, 110]))))))))))))))
def F_law : Fn := fnB 13 b_law
def clsF (K : PySem.W.Frag) : Nat → Addr
  | 0 => He.ga K "Book"
  | _ => 0
def xclF (K : PySem.W.Frag) : Nat → Value
  | 0 => .ref (He.ga K "InvalidBook")
  | 1 => .ref (He.ga K "InvalidOperation")
  | 2 => .ref (He.ga K "InvalidNumber")
  | 3 => .ref (He.ga K "InvalidChooser")
  | 4 => .ref (He.ga K "ChooserError")
  | _ => .none
def tf : List He.Defn := [("_law_all_met", none), ("_law_right", none), ("law", none)]
def cs (K : PySem.W.Frag) : List (Addr × Addr) := tf.map fun p => He.cT K p
def Tb (K : PySem.W.Frag) : Tabs := ⟨nmF, clsF K, xclF K, [((He.cT K ("_law_all_met", none)).2, (envOfC "_law_all_met" (defScope st__law_all_met) 0 0 .none).qual ++ "<lambda>"), ((He.cT K ("_law_right", none)).2, (envOfC "_law_right" (defScope st__law_right) 0 0 .none).qual ++ "<lambda>"), ((He.cT K ("law", none)).2, (envOfC "law" (defScope st_law) 0 0 .none).qual ++ "<lambda>")]⟩
def Lt (base : Heap) (K : PySem.W.Frag) (mg : Str → Option Value) : Prop := ∀ p ∈ cs K, LamX.TabB base mg p.1 p.2
structure Hs (K : PySem.W.Frag) (mg : Str → Option Value) : Prop where
  d__law_met : ∃ fd, FunD K d__law_met.name d__law_met.qual (defArgs st__law_met) (defBody st__law_met) (defScope st__law_met) [] [] (d__law_met.ad K) fd
  d_paired_row : ∃ fd, FunD K d_paired_row.name d_paired_row.qual (defArgs st_paired_row) (defBody st_paired_row) (defScope st_paired_row) [] [] (d_paired_row.ad K) fd
  d_are_alike_in_form : ∃ fd, FunD K d_are_alike_in_form.name d_are_alike_in_form.qual (defArgs st_are_alike_in_form) (defBody st_are_alike_in_form) (defScope st_are_alike_in_form) [] [] (d_are_alike_in_form.ad K) fd
  d_require_alike : ∃ fd, FunD K d_require_alike.name d_require_alike.qual (defArgs st_require_alike) (defBody st_require_alike) (defScope st_require_alike) [] [] (d_require_alike.ad K) fd
  d_require_product : ∃ fd, FunD K d_require_product.name d_require_product.qual (defArgs st_require_product) (defBody st_require_product) (defScope st_require_product) [] [] (d_require_product.ad K) fd
  d_is_integer : ∃ fd, FunD K d_is_integer.name d_is_integer.qual (defArgs st_is_integer) (defBody st_is_integer) (defScope st_is_integer) [] [] (d_is_integer.ad K) fd
  d_is_integer_within : ∃ fd, FunD K d_is_integer_within.name d_is_integer_within.qual (defArgs st_is_integer_within) (defBody st_is_integer_within) (defScope st_is_integer_within) [] [] (d_is_integer_within.ad K) fd
  d_is_value_of : ∃ fd, FunD K d_is_value_of.name d_is_value_of.qual (defArgs st_is_value_of) (defBody st_is_value_of) (defScope st_is_value_of) [] [] (d_is_value_of.ad K) fd
  d_require_values : ∃ fd, FunD K d_require_values.name d_require_values.qual (defArgs st_require_values) (defBody st_require_values) (defScope st_require_values) [] [] (d_require_values.ad K) fd
  d_require_book : ∃ fd, FunD K d_require_book.name d_require_book.qual (defArgs st_require_book) (defBody st_require_book) (defScope st_require_book) [] [] (d_require_book.ad K) fd
  d_require_books : ∃ fd, FunD K d_require_books.name d_require_books.qual (defArgs st_require_books) (defBody st_require_books) (defScope st_require_books) [] [] (d_require_books.ad K) fd
  d_paired : ∃ fd, FunD K d_paired.name d_paired.qual (defArgs st_paired) (defBody st_paired) (defScope st_paired) [] [] (d_paired.ad K) fd
  d_sets_of : ∃ fd, FunD K d_sets_of.name d_sets_of.qual (defArgs st_sets_of) (defBody st_sets_of) (defScope st_sets_of) [] [] (d_sets_of.ad K) fd
  d_is_name : ∃ fd, FunD K d_is_name.name d_is_name.qual (defArgs st_is_name) (defBody st_is_name) (defScope st_is_name) [] [] (d_is_name.ad K) fd
  d_are_ascending : ∃ fd, FunD K d_are_ascending.name d_are_ascending.qual (defArgs st_are_ascending) (defBody st_are_ascending) (defScope st_are_ascending) [] [] (d_are_ascending.ad K) fd
  d_is_row : ∃ fd, FunD K d_is_row.name d_is_row.qual (defArgs st_is_row) (defBody st_is_row) (defScope st_is_row) [] [] (d_is_row.ad K) fd
  d_is_tie_of : ∃ fd, FunD K d_is_tie_of.name d_is_tie_of.qual (defArgs st_is_tie_of) (defBody st_is_tie_of) (defScope st_is_tie_of) [] [] (d_is_tie_of.ad K) fd
  d_are_ties_of : ∃ fd, FunD K d_are_ties_of.name d_are_ties_of.qual (defArgs st_are_ties_of) (defBody st_are_ties_of) (defScope st_are_ties_of) [] [] (d_are_ties_of.ad K) fd
  d_Book___init__ : ∃ fd, FunD K d_Book___init__.name d_Book___init__.qual (defArgs st_Book___init__) (defBody st_Book___init__) (defScope st_Book___init__) [] [] (d_Book___init__.ad K) fd
  d_product_of : ∃ fd, FunD K d_product_of.name d_product_of.qual (defArgs st_product_of) (defBody st_product_of) (defScope st_product_of) [] [] (d_product_of.ad K) fd
  d_is_set_of : ∃ fd, FunD K d_is_set_of.name d_is_set_of.qual (defArgs st_is_set_of) (defBody st_is_set_of) (defScope st_is_set_of) [] [] (d_is_set_of.ad K) fd
  d_is_any_chooser : ∃ fd, FunD K d_is_any_chooser.name d_is_any_chooser.qual (defArgs st_is_any_chooser) (defBody st_is_any_chooser) (defScope st_is_any_chooser) [] [] (d_is_any_chooser.ad K) fd
  d_require_chooser : ∃ fd, FunD K d_require_chooser.name d_require_chooser.qual (defArgs st_require_chooser) (defBody st_require_chooser) (defScope st_require_chooser) [] [] (d_require_chooser.ad K) fd
  d_chooser_of_both : ∃ fd, FunD K d_chooser_of_both.name d_chooser_of_both.qual (defArgs st_chooser_of_both) (defBody st_chooser_of_both) (defScope st_chooser_of_both) [] [] (d_chooser_of_both.ad K) fd
  d_is_value_of_product : ∃ fd, FunD K d_is_value_of_product.name d_is_value_of_product.qual (defArgs st_is_value_of_product) (defBody st_is_value_of_product) (defScope st_is_value_of_product) [] [] (d_is_value_of_product.ad K) fd
  d_parted : ∃ fd, FunD K d_parted.name d_parted.qual (defArgs st_parted) (defBody st_parted) (defScope st_parted) [] [] (d_parted.ad K) fd
  d_value_of : ∃ fd, FunD K d_value_of.name d_value_of.qual (defArgs st_value_of) (defBody st_value_of) (defScope st_value_of) [] [] (d_value_of.ad K) fd
  d_pair_of : ∃ fd, FunD K d_pair_of.name d_pair_of.qual (defArgs st_pair_of) (defBody st_pair_of) (defScope st_pair_of) [] [] (d_pair_of.ad K) fd
  d_product : ∃ fd, FunD K d_product.name d_product.qual (defArgs st_product) (defBody st_product) (defScope st_product) [] [] (d_product.ad K) fd
  d__law_all_met : ∃ fd, FunD K d__law_all_met.name d__law_all_met.qual (defArgs st__law_all_met) (defBody st__law_all_met) (defScope st__law_all_met) [] [] (d__law_all_met.ad K) fd
  d__law_grab : ∃ fd, FunD K d__law_grab.name d__law_grab.qual (defArgs st__law_grab) (defBody st__law_grab) (defScope st__law_grab) [] [] (d__law_grab.ad K) fd
  d__law_one_of : ∃ fd, FunD K d__law_one_of.name d__law_one_of.qual (defArgs st__law_one_of) (defBody st__law_one_of) (defScope st__law_one_of) [] [] (d__law_one_of.ad K) fd
  d_Book_names : ∃ fd, FunD K d_Book_names.name d_Book_names.qual (defArgs st_Book_names) (defBody st_Book_names) (defScope st_Book_names) [] [] (d_Book_names.ad K) fd
  d__law_right : ∃ fd, FunD K d__law_right.name d__law_right.qual (defArgs st__law_right) (defBody st__law_right) (defScope st__law_right) [] [] (d__law_right.ad K) fd
  d__law_sack : ∃ fd, FunD K d__law_sack.name d__law_sack.qual (defArgs st__law_sack) (defBody st__law_sack) (defScope st__law_sack) [] [] (d__law_sack.ad K) fd
  d_law : ∃ fd, FunD K d_law.name d_law.qual (defArgs st_law) (defBody st_law) (defScope st_law) [] [] (d_law.ad K) fd
  m_repr : mg "repr" = none
  g_InvalidNumber : mg "InvalidNumber" = some (.ref (He.ga K "InvalidNumber"))
  g_InvalidBook : mg "InvalidBook" = some (.ref (He.ga K "InvalidBook"))
  g_InvalidChooser : mg "InvalidChooser" = some (.ref (He.ga K "InvalidChooser"))
  g_InvalidOperation : mg "InvalidOperation" = some (.ref (He.ga K "InvalidOperation"))
  g_ChooserError : mg "ChooserError" = some (.ref (He.ga K "ChooserError"))
  m_zip : mg "zip" = none
  cl_Book : Cls K (He.ga K "Book")
  na_Book_own_size : NoAttr K (He.ga K "Book") "own_size"
  m_tuple : mg "tuple" = none
  c_MAX_VALUES : ∃ t, mg "MAX_VALUES" = some (.int (4) t)
  x_InvalidBook : (He.Fa.exc "InvalidBook").ok K = true
  na_Book_own_ties : NoAttr K (He.ga K "Book") "own_ties"
  m_all : mg "all" = none
  m_list : mg "list" = none
  x_InvalidOperation : (He.Fa.exc "InvalidOperation").ok K = true
  m_len : mg "len" = none
  in_Book : InsW K (He.ga K "Book")
  kx_Book_tuple : PySem.W.kitOne K (.ref (He.ga K "Book")) (.type "tuple") = some false
  m_isinstance : mg "isinstance" = none
  kx_Book_int : PySem.W.kitOne K (.ref (He.ga K "Book")) (.type "int") = some false
  m_int : mg "int" = none
  kx_Book_bool : PySem.W.kitOne K (.ref (He.ga K "Book")) (.type "bool") = some false
  m_bool : mg "bool" = none
  c_GREATEST : ∃ t, mg "GREATEST" = some (.int (999999999999999999999999999999999999999999999999999999999999) t)
  kt_Book : ∀ t : Ty, PySem.W.kitOne K (.type t.nm) (.ref (He.ga K "Book")) = some false
  ki_Book_Book : PySem.W.kitOne K (.ref (He.ga K "Book")) (.ref (He.ga K "Book")) = some true
  g_Book : mg "Book" = some (.ref (He.ga K "Book"))
  m_sorted : mg "sorted" = none
  m_range : mg "range" = none
  na_Book_own_sets : NoAttr K (He.ga K "Book") "own_sets"
  kx_Book_str : PySem.W.kitOne K (.ref (He.ga K "Book")) (.type "str") = some false
  m_str : mg "str" = none
  c_MAX_LETTERS : ∃ t, mg "MAX_LETTERS" = some (.int (8) t)
  c_MAX_PLACES : ∃ t, mg "MAX_PLACES" = some (.int (3) t)
  kx_Book_dict : PySem.W.kitOne K (.ref (He.ga K "Book")) (.type "dict") = some false
  m_dict : mg "dict" = none
  c_MAX_TIES : ∃ t, mg "MAX_TIES" = some (.int (8) t)
  m_super : mg "super" = none
  xd_InvalidNumber : ckXd PySem.Challenge.pw_setchooser_k54_errors_of_products.main.file "InvalidNumber" "InvalidNumber.__init__" K = true
  xe_InvalidNumber : ckXc B_InvalidNumber i_InvalidNumber n_InvalidNumber m_InvalidNumber "InvalidNumber" "value" K = true
  xt_InvalidNumber : fnC K (xiA K "InvalidNumber") = xi_InvalidNumber.val_
  m_set : mg "set" = none
  x_InvalidChooser : (He.Fa.exc "InvalidChooser").ok K = true
  m_min : mg "min" = none
  m_max : mg "max" = none
  m_abs : mg "abs" = none
  xf_InvalidNumber : L2.xfB K (He.ga K "InvalidNumber") = true
  xn_InvalidNumber_value : He.eqO (PySem.W.findIn K (.ref (He.ga K "InvalidNumber")) "value") (some none) = true
  xm_InvalidBook_InvalidNumber : PySem.W.exmOne K (.ref (He.ga K "InvalidBook")) (.ref (He.ga K "InvalidNumber")) = some false
  xm_InvalidBook_InvalidBook : PySem.W.exmOne K (.ref (He.ga K "InvalidBook")) (.ref (He.ga K "InvalidBook")) = some true
  xm_InvalidBook_InvalidChooser : PySem.W.exmOne K (.ref (He.ga K "InvalidBook")) (.ref (He.ga K "InvalidChooser")) = some false
  xm_InvalidBook_InvalidOperation : PySem.W.exmOne K (.ref (He.ga K "InvalidBook")) (.ref (He.ga K "InvalidOperation")) = some false
  xm_InvalidBook_ChooserError : PySem.W.exmOne K (.ref (He.ga K "InvalidBook")) (.ref (He.ga K "ChooserError")) = some true
  xm_InvalidOperation_InvalidNumber : PySem.W.exmOne K (.ref (He.ga K "InvalidOperation")) (.ref (He.ga K "InvalidNumber")) = some false
  xm_InvalidOperation_InvalidBook : PySem.W.exmOne K (.ref (He.ga K "InvalidOperation")) (.ref (He.ga K "InvalidBook")) = some false
  xm_InvalidOperation_InvalidChooser : PySem.W.exmOne K (.ref (He.ga K "InvalidOperation")) (.ref (He.ga K "InvalidChooser")) = some false
  xm_InvalidOperation_InvalidOperation : PySem.W.exmOne K (.ref (He.ga K "InvalidOperation")) (.ref (He.ga K "InvalidOperation")) = some true
  xm_InvalidOperation_ChooserError : PySem.W.exmOne K (.ref (He.ga K "InvalidOperation")) (.ref (He.ga K "ChooserError")) = some true
  xm_InvalidNumber_InvalidNumber : PySem.W.exmOne K (.ref (He.ga K "InvalidNumber")) (.ref (He.ga K "InvalidNumber")) = some true
  xm_InvalidNumber_InvalidBook : PySem.W.exmOne K (.ref (He.ga K "InvalidNumber")) (.ref (He.ga K "InvalidBook")) = some false
  xm_InvalidNumber_InvalidChooser : PySem.W.exmOne K (.ref (He.ga K "InvalidNumber")) (.ref (He.ga K "InvalidChooser")) = some false
  xm_InvalidNumber_InvalidOperation : PySem.W.exmOne K (.ref (He.ga K "InvalidNumber")) (.ref (He.ga K "InvalidOperation")) = some false
  xm_InvalidNumber_ChooserError : PySem.W.exmOne K (.ref (He.ga K "InvalidNumber")) (.ref (He.ga K "ChooserError")) = some false
  xm_InvalidChooser_InvalidNumber : PySem.W.exmOne K (.ref (He.ga K "InvalidChooser")) (.ref (He.ga K "InvalidNumber")) = some false
  xm_InvalidChooser_InvalidBook : PySem.W.exmOne K (.ref (He.ga K "InvalidChooser")) (.ref (He.ga K "InvalidBook")) = some false
  xm_InvalidChooser_InvalidChooser : PySem.W.exmOne K (.ref (He.ga K "InvalidChooser")) (.ref (He.ga K "InvalidChooser")) = some true
  xm_InvalidChooser_InvalidOperation : PySem.W.exmOne K (.ref (He.ga K "InvalidChooser")) (.ref (He.ga K "InvalidOperation")) = some false
  xm_InvalidChooser_ChooserError : PySem.W.exmOne K (.ref (He.ga K "InvalidChooser")) (.ref (He.ga K "ChooserError")) = some true
  xm_ChooserError_InvalidNumber : PySem.W.exmOne K (.ref (He.ga K "ChooserError")) (.ref (He.ga K "InvalidNumber")) = some false
  xm_ChooserError_InvalidBook : PySem.W.exmOne K (.ref (He.ga K "ChooserError")) (.ref (He.ga K "InvalidBook")) = some false
  xm_ChooserError_InvalidChooser : PySem.W.exmOne K (.ref (He.ga K "ChooserError")) (.ref (He.ga K "InvalidChooser")) = some false
  xm_ChooserError_InvalidOperation : PySem.W.exmOne K (.ref (He.ga K "ChooserError")) (.ref (He.ga K "InvalidOperation")) = some false
  xm_ChooserError_ChooserError : PySem.W.exmOne K (.ref (He.ga K "ChooserError")) (.ref (He.ga K "ChooserError")) = some true
  tn__law_all_met__law_right : (He.cT K ("_law_all_met", none)).2 ≠ (He.cT K ("_law_right", none)).2
  tn__law_all_met_law : (He.cT K ("_law_all_met", none)).2 ≠ (He.cT K ("law", none)).2
  tn__law_right__law_all_met : (He.cT K ("_law_right", none)).2 ≠ (He.cT K ("_law_all_met", none)).2
  tn__law_right_law : (He.cT K ("_law_right", none)).2 ≠ (He.cT K ("law", none)).2
  tn_law__law_all_met : (He.cT K ("law", none)).2 ≠ (He.cT K ("_law_all_met", none)).2
  tn_law__law_right : (He.cT K ("law", none)).2 ≠ (He.cT K ("_law_right", none)).2
  g__law_met : mg "_law_met" = some (.ref (He.ga K "_law_met"))
  g_paired_row : mg "paired_row" = some (.ref (He.ga K "paired_row"))
  g_are_alike_in_form : mg "are_alike_in_form" = some (.ref (He.ga K "are_alike_in_form"))
  g_require_alike : mg "require_alike" = some (.ref (He.ga K "require_alike"))
  g_require_product : mg "require_product" = some (.ref (He.ga K "require_product"))
  g_is_integer : mg "is_integer" = some (.ref (He.ga K "is_integer"))
  g_is_integer_within : mg "is_integer_within" = some (.ref (He.ga K "is_integer_within"))
  g_is_value_of : mg "is_value_of" = some (.ref (He.ga K "is_value_of"))
  g_require_values : mg "require_values" = some (.ref (He.ga K "require_values"))
  g_require_book : mg "require_book" = some (.ref (He.ga K "require_book"))
  g_require_books : mg "require_books" = some (.ref (He.ga K "require_books"))
  g_paired : mg "paired" = some (.ref (He.ga K "paired"))
  g_sets_of : mg "sets_of" = some (.ref (He.ga K "sets_of"))
  g_is_name : mg "is_name" = some (.ref (He.ga K "is_name"))
  g_are_ascending : mg "are_ascending" = some (.ref (He.ga K "are_ascending"))
  g_is_row : mg "is_row" = some (.ref (He.ga K "is_row"))
  g_is_tie_of : mg "is_tie_of" = some (.ref (He.ga K "is_tie_of"))
  g_are_ties_of : mg "are_ties_of" = some (.ref (He.ga K "are_ties_of"))
  mk_Book : Mk K (He.ga K "Book") (He.ma K (He.ga K "Book") "__init__")
  g_product_of : mg "product_of" = some (.ref (He.ga K "product_of"))
  g_is_set_of : mg "is_set_of" = some (.ref (He.ga K "is_set_of"))
  g_is_any_chooser : mg "is_any_chooser" = some (.ref (He.ga K "is_any_chooser"))
  g_require_chooser : mg "require_chooser" = some (.ref (He.ga K "require_chooser"))
  g_chooser_of_both : mg "chooser_of_both" = some (.ref (He.ga K "chooser_of_both"))
  g_is_value_of_product : mg "is_value_of_product" = some (.ref (He.ga K "is_value_of_product"))
  g_parted : mg "parted" = some (.ref (He.ga K "parted"))
  g_value_of : mg "value_of" = some (.ref (He.ga K "value_of"))
  g_pair_of : mg "pair_of" = some (.ref (He.ga K "pair_of"))
  g_product : mg "product" = some (.ref (He.ga K "product"))
  g__law_all_met : mg "_law_all_met" = some (.ref (He.ga K "_law_all_met"))
  g__law_grab : mg "_law_grab" = some (.ref (He.ga K "_law_grab"))
  g__law_one_of : mg "_law_one_of" = some (.ref (He.ga K "_law_one_of"))
  pr_Book_names : PropOf K (He.ga K "Book") "names" (prA K "Book" "names") (gtA K "Book" "names")
  g__law_right : mg "_law_right" = some (.ref (He.ga K "_law_right"))
  g__law_sack : mg "_law_sack" = some (.ref (He.ga K "_law_sack"))
  g_law : mg "law" = some (.ref (He.ga K "law"))
abbrev P : Program := PySem.Challenge.pw_setchooser_k54_errors_of_products
section
variable {w : World} {K : PySem.W.Frag} {mg : Str → Option Value} {base : Heap}
theorem nmI : NmI (Tb K) 4 := by
  have h : ∀ i, i < 4 → ∀ j, j < 4 → nmF i = nmF j → i = j := by decide +kernel
  exact fun i j hi hj e => h i hi j hj e
theorem df_own_sets (hs : Hs K mg) : ∀ c, Df_own_sets c = true → FldW K (Tb K) c "own_sets" := fun c h => by
  simp only [Df_own_sets, Bool.or_eq_true, decide_eq_true_eq] at h
  rcases h with rfl
  · exact ⟨hs.cl_Book, hs.na_Book_own_sets⟩
theorem df_own_size (hs : Hs K mg) : ∀ c, Df_own_size c = true → FldW K (Tb K) c "own_size" := fun c h => by
  simp only [Df_own_size, Bool.or_eq_true, decide_eq_true_eq] at h
  rcases h with rfl
  · exact ⟨hs.cl_Book, hs.na_Book_own_size⟩
theorem df_own_ties (hs : Hs K mg) : ∀ c, Df_own_ties c = true → FldW K (Tb K) c "own_ties" := fun c h => by
  simp only [Df_own_ties, Bool.or_eq_true, decide_eq_true_eq] at h
  rcases h with rfl
  · exact ⟨hs.cl_Book, hs.na_Book_own_ties⟩
theorem di_Book (hs : Hs K mg) : ∀ c b, Di_Book c = some b → InsW K ((Tb K).cls c) ∧ PySem.W.kitOne K (.ref ((Tb K).cls c)) (.ref (He.ga K "Book")) = some b := fun c b h => by
  unfold Di_Book at h
  split at h
  · cases h; exact ⟨hs.in_Book, hs.ki_Book_Book⟩
  · cases h
theorem dt_bool (hs : Hs K mg) : ∀ c b, Dno c = some b → InsW K ((Tb K).cls c) ∧ PySem.W.kitOne K (.ref ((Tb K).cls c)) (.type "bool") = some b := fun c b h => by
  unfold Dno at h
  split at h
  · cases h; exact ⟨hs.in_Book, hs.kx_Book_bool⟩
  · cases h
theorem dt_dict (hs : Hs K mg) : ∀ c b, Dno c = some b → InsW K ((Tb K).cls c) ∧ PySem.W.kitOne K (.ref ((Tb K).cls c)) (.type "dict") = some b := fun c b h => by
  unfold Dno at h
  split at h
  · cases h; exact ⟨hs.in_Book, hs.kx_Book_dict⟩
  · cases h
theorem dt_int (hs : Hs K mg) : ∀ c b, Dno c = some b → InsW K ((Tb K).cls c) ∧ PySem.W.kitOne K (.ref ((Tb K).cls c)) (.type "int") = some b := fun c b h => by
  unfold Dno at h
  split at h
  · cases h; exact ⟨hs.in_Book, hs.kx_Book_int⟩
  · cases h
theorem dt_str (hs : Hs K mg) : ∀ c b, Dno c = some b → InsW K ((Tb K).cls c) ∧ PySem.W.kitOne K (.ref ((Tb K).cls c)) (.type "str") = some b := fun c b h => by
  unfold Dno at h
  split at h
  · cases h; exact ⟨hs.in_Book, hs.kx_Book_str⟩
  · cases h
theorem dt_tuple (hs : Hs K mg) : ∀ c b, Dno c = some b → InsW K ((Tb K).cls c) ∧ PySem.W.kitOne K (.ref ((Tb K).cls c)) (.type "tuple") = some b := fun c b h => by
  unfold Dno at h
  split at h
  · cases h; exact ⟨hs.in_Book, hs.kx_Book_tuple⟩
  · cases h
theorem xm_ok (hs : Hs K mg) : XmW K (Tb K) xmF := fun i j b h => by
  unfold xmF at h
  split at h
  · cases h; exact hs.xm_InvalidBook_InvalidNumber
  · cases h; exact hs.xm_InvalidBook_InvalidBook
  · cases h; exact hs.xm_InvalidBook_InvalidChooser
  · cases h; exact hs.xm_InvalidBook_InvalidOperation
  · cases h; exact hs.xm_InvalidBook_ChooserError
  · cases h; exact hs.xm_InvalidOperation_InvalidNumber
  · cases h; exact hs.xm_InvalidOperation_InvalidBook
  · cases h; exact hs.xm_InvalidOperation_InvalidChooser
  · cases h; exact hs.xm_InvalidOperation_InvalidOperation
  · cases h; exact hs.xm_InvalidOperation_ChooserError
  · cases h; exact hs.xm_InvalidNumber_InvalidNumber
  · cases h; exact hs.xm_InvalidNumber_InvalidBook
  · cases h; exact hs.xm_InvalidNumber_InvalidChooser
  · cases h; exact hs.xm_InvalidNumber_InvalidOperation
  · cases h; exact hs.xm_InvalidNumber_ChooserError
  · cases h; exact hs.xm_InvalidChooser_InvalidNumber
  · cases h; exact hs.xm_InvalidChooser_InvalidBook
  · cases h; exact hs.xm_InvalidChooser_InvalidChooser
  · cases h; exact hs.xm_InvalidChooser_InvalidOperation
  · cases h; exact hs.xm_InvalidChooser_ChooserError
  · cases h; exact hs.xm_ChooserError_InvalidNumber
  · cases h; exact hs.xm_ChooserError_InvalidBook
  · cases h; exact hs.xm_ChooserError_InvalidChooser
  · cases h; exact hs.xm_ChooserError_InvalidOperation
  · cases h; exact hs.xm_ChooserError_ChooserError
  · cases h
theorem xt_InvalidNumber : XiT PySem.Challenge.pw_setchooser_k54_errors_of_products xi_InvalidNumber := { har := ⟨_, rfl, rfl⟩, hsv := by decide +kernel, k1 := by kernel_rfl, k2 := by kernel_rfl, k3 := by kernel_rfl, k4 := by kernel_rfl, k5 := rfl, k6 := rfl, k7 := rfl, k8 := by decide +kernel, k9 := by kernel_rfl, k10 := by kernel_rfl, k11 := by kernel_rfl, kE := fun env => ⟨_, rfl⟩, bnd := fun _ _ _ _ _ _ _ _ _ => by kernel_rfl }
theorem xv_InvalidNumber (hs : Hs K mg) : XvW PySem.Challenge.pw_setchooser_k54_errors_of_products K mg (Tb K) 2 3 "InvalidNumber" := xvW_of (S := xi_InvalidNumber) PySem.F.excBase_IndexError PySem.W.kxs_IndexError PySem.F.store_IndexError hs.xd_InvalidNumber hs.xe_InvalidNumber hs.xt_InvalidNumber xt_InvalidNumber hs.m_super hs.g_InvalidNumber rfl (by kernel_rfl)
theorem sc__law_met : FnScope ["_law_action", "error"] ["_law_action"] (defScope st__law_met) := ⟨rfl, rfl, rfl, by decide +kernel, rfl, by decide +kernel, by decide +kernel⟩
theorem bd__law_met {f : Addr} {fd : FuncData} (FD : FunD K d__law_met.name d__law_met.qual (defArgs st__law_met) (defBody st__law_met) (defScope st__law_met) [] [] f fd) : Binds K fd ["_law_action"] [] := FD.bindsN fun _ _ _ _ _ _ us hl => match us, hl with | [_], _ => rfl
theorem lm_met (hs : Hs K mg) : LmX K mg (Tb K) "_law_met" metL_ metF := by
  obtain ⟨fd, FD⟩ := hs.d__law_met
  exact lmX_of (x := "_law_met") (v := "_law_action") FD hs.g__law_met (bd__law_met FD) sc__law_met rfl (by kernel_rfl) (by decide +kernel) (by decide +kernel) (by kernel_rfl) fun X cdv s H e1 e2 => (.fld (i := 1) (C := He.ga K "InvalidNumber") ⟨gl_of (by kernel_rfl), by decide +kernel, .inl (by rw [e2]; exact hs.g_InvalidNumber)⟩ sc__law_met.nd rfl (by kernel_rfl) (by kernel_rfl) (by decide +kernel) (by decide +kernel) rfl (by rw [e1]; exact L2.xfB_ok hs.xf_InvalidNumber) (by rw [e1]; exact He.eqO_ok hs.xn_InvalidNumber_value) rfl (by kernel_rfl) (by rw [e2]; exact hs.m_repr) (by kernel_rfl) rfl rfl rfl (.word ⟨gl_of (by kernel_rfl), by decide +kernel, .inl (by rw [e2]; exact hs.g_InvalidBook)⟩ (by kernel_rfl) (.word ⟨gl_of (by kernel_rfl), by decide +kernel, .inl (by rw [e2]; exact hs.g_InvalidChooser)⟩ (by kernel_rfl) (.word ⟨gl_of (by kernel_rfl), by decide +kernel, .inl (by rw [e2]; exact hs.g_InvalidOperation)⟩ (by kernel_rfl) (.word ⟨gl_of (by kernel_rfl), by decide +kernel, .inl (by rw [e2]; exact hs.g_ChooserError)⟩ (by kernel_rfl) (.nil))))))
theorem sc_paired_row : FnScope ["other", "first", "second", "value", "last"] ["other", "first", "second"] (defScope st_paired_row) := ⟨rfl, rfl, rfl, by decide +kernel, rfl, by decide +kernel, by decide +kernel⟩
theorem bd_paired_row {f : Addr} {fd : FuncData} (FD : FunD K d_paired_row.name d_paired_row.qual (defArgs st_paired_row) (defBody st_paired_row) (defScope st_paired_row) [] [] f fd) : Binds K fd ["other", "first", "second"] [] := FD.bindsN fun _ _ _ _ _ _ us hl => match us, hl with | [_, _, _], _ => rfl
theorem fng_paired_row (hs : Hs K mg) (ht : Lt base K mg) {fd : FuncData} (FD : FunD K d_paired_row.name d_paired_row.qual (defArgs st_paired_row) (defBody st_paired_row) (defScope st_paired_row) [] [] (d_paired_row.ad K) fd) : FnG P w K mg base 1 (d_paired_row.ad K) fd ["other", "first", "second"] (spF ⟨K, P, w, Tb K⟩ 3 F_paired_row) := by
  refine fng_cal FD sc_paired_row rfl fun cdv A outer s H E B => ?_
  exact (ppss_one (pps_ret (k_tupA (ppa_cons (pp_lc false (own := [("value", 3), ("last", 4)]) B.calm B.nd (ppi_zip gl hs.m_zip (ppa_cons (pv 1) (ppa_cons (pv 2) ppa_nil))) (blkOk_by (by kernel_rfl)) (by decide) (fun _ _ _ _ _ => (ppg_tup B.calm (ppgs_cons (pgn 3 B.nd) (ppgs_cons (pgn 4 B.nd) ppgs_nil)))) (fun _ _ _ _ _ => ppts_nil) (fun _ _ _ _ _ => (pp_add (pp_mul (pv 3) (pp_fld (f := "own_size") (T := Tb K) rfl nmI (by decide) (df_own_size hs) (pv 0))) (pv 4)))) ppa_nil) B.calm hs.m_tuple)))
theorem cal_paired_row (hs : Hs K mg) (ht : Lt base K mg) : CalW P w K mg base (Tb K) "paired_row" 3 F_paired_row 1 := by
  obtain ⟨fd, FD⟩ := hs.d_paired_row
  exact ⟨_, fd, _, fng_paired_row hs ht FD, hs.g_paired_row, FD.kp, bd_paired_row FD⟩
theorem sc_are_alike_in_form : FnScope ["one", "other", "name"] ["one", "other"] (defScope st_are_alike_in_form) := ⟨rfl, rfl, rfl, by decide +kernel, rfl, by decide +kernel, by decide +kernel⟩
theorem bd_are_alike_in_form {f : Addr} {fd : FuncData} (FD : FunD K d_are_alike_in_form.name d_are_alike_in_form.qual (defArgs st_are_alike_in_form) (defBody st_are_alike_in_form) (defScope st_are_alike_in_form) [] [] f fd) : Binds K fd ["one", "other"] [] := FD.bindsN fun _ _ _ _ _ _ us hl => match us, hl with | [_, _], _ => rfl
theorem fng_are_alike_in_form (hs : Hs K mg) (ht : Lt base K mg) {fd : FuncData} (FD : FunD K d_are_alike_in_form.name d_are_alike_in_form.qual (defArgs st_are_alike_in_form) (defBody st_are_alike_in_form) (defScope st_are_alike_in_form) [] [] (d_are_alike_in_form.ad K) fd) : FnG P w K mg base 1 (d_are_alike_in_form.ad K) fd ["one", "other"] (spF ⟨K, P, w, Tb K⟩ 2 F_are_alike_in_form) := by
  refine fng_cal FD sc_are_alike_in_form rfl fun cdv A outer s H E B => ?_
  exact (ppss_cons (pps_if (t_ne B.hu (pp_listA false B.calm gl hs.m_list (ppa_cons (pp_fld (f := "own_ties") (T := Tb K) rfl nmI (by decide) (df_own_ties hs) (pv 0)) ppa_nil)) (pp_listA false B.calm gl hs.m_list (ppa_cons (pp_fld (f := "own_ties") (T := Tb K) rfl nmI (by decide) (df_own_ties hs) (pv 1)) ppa_nil))) (ppss_one (pps_ret pp_bl)) ppss_nil) (ppss_one (pps_ret (k_all (ppa_cons (pp_lc false (own := [("name", 2)]) B.calm B.nd (ppi_any (pp_fld (f := "own_ties") (T := Tb K) rfl nmI (by decide) (df_own_ties hs) (pv 0))) (blkOk_by (by kernel_rfl)) (by decide) (fun _ _ _ _ _ => (pgn 2 B.nd)) (fun _ _ _ _ _ => ppts_nil) (fun _ _ _ _ _ => (c_eq B.hu (pp_subN B.hu (pp_subN B.hu (pp_fld (f := "own_ties") (T := Tb K) rfl nmI (by decide) (df_own_ties hs) (pv 0)) (pv 2)) pp_int) (pp_subN B.hu (pp_subN B.hu (pp_fld (f := "own_ties") (T := Tb K) rfl nmI (by decide) (df_own_ties hs) (pv 1)) (pv 2)) pp_int)))) ppa_nil) B.calm hs.m_all))))
theorem cal_are_alike_in_form (hs : Hs K mg) (ht : Lt base K mg) : CalW P w K mg base (Tb K) "are_alike_in_form" 2 F_are_alike_in_form 1 := by
  obtain ⟨fd, FD⟩ := hs.d_are_alike_in_form
  exact ⟨_, fd, _, fng_are_alike_in_form hs ht FD, hs.g_are_alike_in_form, FD.kp, bd_are_alike_in_form FD⟩
theorem sc_require_alike : FnScope ["one", "other"] ["one", "other"] (defScope st_require_alike) := ⟨rfl, rfl, rfl, by decide +kernel, rfl, by decide +kernel, by decide +kernel⟩
theorem bd_require_alike {f : Addr} {fd : FuncData} (FD : FunD K d_require_alike.name d_require_alike.qual (defArgs st_require_alike) (defBody st_require_alike) (defScope st_require_alike) [] [] f fd) : Binds K fd ["one", "other"] [] := FD.bindsN fun _ _ _ _ _ _ us hl => match us, hl with | [_, _], _ => rfl
theorem fng_require_alike (hs : Hs K mg) (ht : Lt base K mg) {fd : FuncData} (FD : FunD K d_require_alike.name d_require_alike.qual (defArgs st_require_alike) (defBody st_require_alike) (defScope st_require_alike) [] [] (d_require_alike.ad K) fd) : FnG P w K mg base 2 (d_require_alike.ad K) fd ["one", "other"] (spF ⟨K, P, w, Tb K⟩ 2 F_require_alike) := by
  refine fng_cal FD sc_require_alike rfl fun cdv A outer s H E B => ?_
  exact (ppss_one (pps_if (ppt_not (ppt_val (k_def (cal_are_alike_in_form hs ht).iso B.room (by decide) B.gd B.tk (ppa_cons (pv 0) (ppa_cons (pv 1) ppa_nil))))) (ppss_one (pps_raise (xcW_of hs.x_InvalidOperation hs.g_InvalidOperation rfl) B.calm B.tk)) ppss_nil))
theorem cal_require_alike (hs : Hs K mg) (ht : Lt base K mg) : CalW P w K mg base (Tb K) "require_alike" 2 F_require_alike 2 := by
  obtain ⟨fd, FD⟩ := hs.d_require_alike
  exact ⟨_, fd, _, fng_require_alike hs ht FD, hs.g_require_alike, FD.kp, bd_require_alike FD⟩
theorem sc_require_product : FnScope ["one", "other"] ["one", "other"] (defScope st_require_product) := ⟨rfl, rfl, rfl, by decide +kernel, rfl, by decide +kernel, by decide +kernel⟩
theorem bd_require_product {f : Addr} {fd : FuncData} (FD : FunD K d_require_product.name d_require_product.qual (defArgs st_require_product) (defBody st_require_product) (defScope st_require_product) [] [] f fd) : Binds K fd ["one", "other"] [] := FD.bindsN fun _ _ _ _ _ _ us hl => match us, hl with | [_, _], _ => rfl
theorem fng_require_product (hs : Hs K mg) (ht : Lt base K mg) {fd : FuncData} (FD : FunD K d_require_product.name d_require_product.qual (defArgs st_require_product) (defBody st_require_product) (defScope st_require_product) [] [] (d_require_product.ad K) fd) : FnG P w K mg base 3 (d_require_product.ad K) fd ["one", "other"] (spF ⟨K, P, w, Tb K⟩ 2 F_require_product) := by
  refine fng_cal FD sc_require_product rfl fun cdv A outer s H E B => ?_
  exact (ppss_cons (pps_expr (k_def (cal_require_alike hs ht).iso B.room (by decide) B.gd B.tk (ppa_cons (pv 0) (ppa_cons (pv 1) ppa_nil)))) (ppss_one (pps_if (t_gt B.hu (pp_mul (pp_fld (f := "own_size") (T := Tb K) rfl nmI (by decide) (df_own_size hs) (pv 0)) (pp_fld (f := "own_size") (T := Tb K) rfl nmI (by decide) (df_own_size hs) (pv 1))) (pgI hs.c_MAX_VALUES)) (ppss_one (pps_raise (xcW_of hs.x_InvalidBook hs.g_InvalidBook rfl) B.calm B.tk)) ppss_nil)))
theorem cal_require_product (hs : Hs K mg) (ht : Lt base K mg) : CalW P w K mg base (Tb K) "require_product" 2 F_require_product 3 := by
  obtain ⟨fd, FD⟩ := hs.d_require_product
  exact ⟨_, fd, _, fng_require_product hs ht FD, hs.g_require_product, FD.kp, bd_require_product FD⟩
theorem sc_is_integer : FnScope ["value"] ["value"] (defScope st_is_integer) := ⟨rfl, rfl, rfl, by decide +kernel, rfl, by decide +kernel, by decide +kernel⟩
theorem bd_is_integer {f : Addr} {fd : FuncData} (FD : FunD K d_is_integer.name d_is_integer.qual (defArgs st_is_integer) (defBody st_is_integer) (defScope st_is_integer) [] [] f fd) : Binds K fd ["value"] [] := FD.bindsN fun _ _ _ _ _ _ us hl => match us, hl with | [_], _ => rfl
theorem fng_is_integer (hs : Hs K mg) (ht : Lt base K mg) {fd : FuncData} (FD : FunD K d_is_integer.name d_is_integer.qual (defArgs st_is_integer) (defBody st_is_integer) (defScope st_is_integer) [] [] (d_is_integer.ad K) fd) : FnG P w K mg base 1 (d_is_integer.ad K) fd ["value"] (spF ⟨K, P, w, Tb K⟩ 1 F_is_integer) := by
  refine fng_cal FD sc_is_integer rfl fun cdv A outer s H E B => ?_
  exact (ppss_one (pps_ret (pp_and (k_isO .int hs.m_isinstance hs.m_int (by decide) (dt_int hs) (pv 0)) (pp_and (pp_not (k_isO .bl hs.m_isinstance hs.m_bool (by decide) (dt_bool hs) (pv 0))) (pp_one (c_lele B.hu (pp_neg (pgI hs.c_GREATEST)) (pv 0) (pgI hs.c_GREATEST)))))))
theorem cal_is_integer (hs : Hs K mg) (ht : Lt base K mg) : CalW P w K mg base (Tb K) "is_integer" 1 F_is_integer 1 := by
  obtain ⟨fd, FD⟩ := hs.d_is_integer
  exact ⟨_, fd, _, fng_is_integer hs ht FD, hs.g_is_integer, FD.kp, bd_is_integer FD⟩
theorem sc_is_integer_within : FnScope ["value", "low", "high"] ["value", "low", "high"] (defScope st_is_integer_within) := ⟨rfl, rfl, rfl, by decide +kernel, rfl, by decide +kernel, by decide +kernel⟩
theorem bd_is_integer_within {f : Addr} {fd : FuncData} (FD : FunD K d_is_integer_within.name d_is_integer_within.qual (defArgs st_is_integer_within) (defBody st_is_integer_within) (defScope st_is_integer_within) [] [] f fd) : Binds K fd ["value", "low", "high"] [] := FD.bindsN fun _ _ _ _ _ _ us hl => match us, hl with | [_, _, _], _ => rfl
theorem fng_is_integer_within (hs : Hs K mg) (ht : Lt base K mg) {fd : FuncData} (FD : FunD K d_is_integer_within.name d_is_integer_within.qual (defArgs st_is_integer_within) (defBody st_is_integer_within) (defScope st_is_integer_within) [] [] (d_is_integer_within.ad K) fd) : FnG P w K mg base 2 (d_is_integer_within.ad K) fd ["value", "low", "high"] (spF ⟨K, P, w, Tb K⟩ 3 F_is_integer_within) := by
  refine fng_cal FD sc_is_integer_within rfl fun cdv A outer s H E B => ?_
  exact (ppss_one (pps_ret (pp_and (k_def (cal_is_integer hs ht).iso B.room (by decide) B.gd B.tk (ppa_cons (pv 0) ppa_nil)) (pp_one (c_lele B.hu (pv 1) (pv 0) (pv 2))))))
theorem cal_is_integer_within (hs : Hs K mg) (ht : Lt base K mg) : CalW P w K mg base (Tb K) "is_integer_within" 3 F_is_integer_within 2 := by
  obtain ⟨fd, FD⟩ := hs.d_is_integer_within
  exact ⟨_, fd, _, fng_is_integer_within hs ht FD, hs.g_is_integer_within, FD.kp, bd_is_integer_within FD⟩
theorem sc_is_value_of : FnScope ["book", "value"] ["book", "value"] (defScope st_is_value_of) := ⟨rfl, rfl, rfl, by decide +kernel, rfl, by decide +kernel, by decide +kernel⟩
theorem bd_is_value_of {f : Addr} {fd : FuncData} (FD : FunD K d_is_value_of.name d_is_value_of.qual (defArgs st_is_value_of) (defBody st_is_value_of) (defScope st_is_value_of) [] [] f fd) : Binds K fd ["book", "value"] [] := FD.bindsN fun _ _ _ _ _ _ us hl => match us, hl with | [_, _], _ => rfl
theorem fng_is_value_of (hs : Hs K mg) (ht : Lt base K mg) {fd : FuncData} (FD : FunD K d_is_value_of.name d_is_value_of.qual (defArgs st_is_value_of) (defBody st_is_value_of) (defScope st_is_value_of) [] [] (d_is_value_of.ad K) fd) : FnG P w K mg base 3 (d_is_value_of.ad K) fd ["book", "value"] (spF ⟨K, P, w, Tb K⟩ 2 F_is_value_of) := by
  refine fng_cal FD sc_is_value_of rfl fun cdv A outer s H E B => ?_
  exact (ppss_one (pps_ret (k_def (cal_is_integer_within hs ht).iso B.room (by decide) B.gd B.tk (ppa_cons (pv 1) (ppa_cons pp_int (ppa_cons (pp_sub (pp_fld (f := "own_size") (T := Tb K) rfl nmI (by decide) (df_own_size hs) (pv 0)) pp_int) ppa_nil))))))
theorem cal_is_value_of (hs : Hs K mg) (ht : Lt base K mg) : CalW P w K mg base (Tb K) "is_value_of" 2 F_is_value_of 3 := by
  obtain ⟨fd, FD⟩ := hs.d_is_value_of
  exact ⟨_, fd, _, fng_is_value_of hs ht FD, hs.g_is_value_of, FD.kp, bd_is_value_of FD⟩
theorem sc_require_values : FnScope ["book", "value", "one"] ["book", "value"] (defScope st_require_values) := ⟨rfl, rfl, rfl, by decide +kernel, rfl, by decide +kernel, by decide +kernel⟩
theorem bd_require_values {f : Addr} {fd : FuncData} (FD : FunD K d_require_values.name d_require_values.qual (defArgs st_require_values) (defBody st_require_values) (defScope st_require_values) [] [] f fd) : Binds K fd ["book", "value"] [] := FD.bindsN fun _ _ _ _ _ _ us hl => match us, hl with | [_, _], _ => rfl
theorem fng_require_values (hs : Hs K mg) (ht : Lt base K mg) {fd : FuncData} (FD : FunD K d_require_values.name d_require_values.qual (defArgs st_require_values) (defBody st_require_values) (defScope st_require_values) [] [] (d_require_values.ad K) fd) : FnG P w K mg base 4 (d_require_values.ad K) fd ["book", "value"] (spF ⟨K, P, w, Tb K⟩ 2 F_require_values) := by
  refine fng_cal FD sc_require_values rfl fun cdv A outer s H E B => ?_
  exact (ppss_one (pps_if (ppt_w (ppw_or (ppt_not (ppt_val (k_isO .tup hs.m_isinstance hs.m_tuple (by decide) (dt_tuple hs) (pv 1)))) (ppw_one (ppt_not (ppt_val (k_all (ppa_cons (pp_lc false (own := [("one", 2)]) B.calm B.nd (ppi_any (pv 1)) (blkOk_by (by kernel_rfl)) (by decide) (fun _ _ _ _ _ => (pgn 2 B.nd)) (fun _ _ _ _ _ => ppts_nil) (fun _ _ _ _ _ => (k_def (cal_is_value_of hs ht).iso B.room (by decide) B.gd takes0 (ppa_cons (pv 0) (ppa_cons (pv 2) ppa_nil))))) ppa_nil) B.calm hs.m_all)))))) (ppss_one (pps_raise (xcW_of hs.x_InvalidOperation hs.g_InvalidOperation rfl) B.calm B.tk)) ppss_nil))
theorem cal_require_values (hs : Hs K mg) (ht : Lt base K mg) : CalW P w K mg base (Tb K) "require_values" 2 F_require_values 4 := by
  obtain ⟨fd, FD⟩ := hs.d_require_values
  exact ⟨_, fd, _, fng_require_values hs ht FD, hs.g_require_values, FD.kp, bd_require_values FD⟩
theorem sc_require_book : FnScope ["value"] ["value"] (defScope st_require_book) := ⟨rfl, rfl, rfl, by decide +kernel, rfl, by decide +kernel, by decide +kernel⟩
theorem bd_require_book {f : Addr} {fd : FuncData} (FD : FunD K d_require_book.name d_require_book.qual (defArgs st_require_book) (defBody st_require_book) (defScope st_require_book) [] [] f fd) : Binds K fd ["value"] [] := FD.bindsN fun _ _ _ _ _ _ us hl => match us, hl with | [_], _ => rfl
theorem fng_require_book (hs : Hs K mg) (ht : Lt base K mg) {fd : FuncData} (FD : FunD K d_require_book.name d_require_book.qual (defArgs st_require_book) (defBody st_require_book) (defScope st_require_book) [] [] (d_require_book.ad K) fd) : FnG P w K mg base 1 (d_require_book.ad K) fd ["value"] (spF ⟨K, P, w, Tb K⟩ 1 F_require_book) := by
  refine fng_cal FD sc_require_book rfl fun cdv A outer s H E B => ?_
  exact (ppss_one (pps_if (ppt_not (ppt_val (pp_isC hs.m_isinstance hs.g_Book hs.kt_Book (di_Book hs) (pv 0)))) (ppss_one (pps_raise (xcW_of hs.x_InvalidBook hs.g_InvalidBook rfl) B.calm B.tk)) ppss_nil))
theorem cal_require_book (hs : Hs K mg) (ht : Lt base K mg) : CalW P w K mg base (Tb K) "require_book" 1 F_require_book 1 := by
  obtain ⟨fd, FD⟩ := hs.d_require_book
  exact ⟨_, fd, _, fng_require_book hs ht FD, hs.g_require_book, FD.kp, bd_require_book FD⟩
theorem sc_require_books : FnScope ["one", "other"] ["one", "other"] (defScope st_require_books) := ⟨rfl, rfl, rfl, by decide +kernel, rfl, by decide +kernel, by decide +kernel⟩
theorem bd_require_books {f : Addr} {fd : FuncData} (FD : FunD K d_require_books.name d_require_books.qual (defArgs st_require_books) (defBody st_require_books) (defScope st_require_books) [] [] f fd) : Binds K fd ["one", "other"] [] := FD.bindsN fun _ _ _ _ _ _ us hl => match us, hl with | [_, _], _ => rfl
theorem fng_require_books (hs : Hs K mg) (ht : Lt base K mg) {fd : FuncData} (FD : FunD K d_require_books.name d_require_books.qual (defArgs st_require_books) (defBody st_require_books) (defScope st_require_books) [] [] (d_require_books.ad K) fd) : FnG P w K mg base 2 (d_require_books.ad K) fd ["one", "other"] (spF ⟨K, P, w, Tb K⟩ 2 F_require_books) := by
  refine fng_cal FD sc_require_books rfl fun cdv A outer s H E B => ?_
  exact (ppss_cons (pps_expr (k_def (cal_require_book hs ht).iso B.room (by decide) B.gd B.tk (ppa_cons (pv 0) ppa_nil))) (ppss_one (pps_expr (k_def (cal_require_book hs ht).iso B.room (by decide) B.gd B.tk (ppa_cons (pv 1) ppa_nil)))))
theorem cal_require_books (hs : Hs K mg) (ht : Lt base K mg) : CalW P w K mg base (Tb K) "require_books" 2 F_require_books 2 := by
  obtain ⟨fd, FD⟩ := hs.d_require_books
  exact ⟨_, fd, _, fng_require_books hs ht FD, hs.g_require_books, FD.kp, bd_require_books FD⟩
theorem sc_paired : FnScope ["one", "other", "first", "second"] ["one", "other", "first", "second"] (defScope st_paired) := ⟨rfl, rfl, rfl, by decide +kernel, rfl, by decide +kernel, by decide +kernel⟩
theorem bd_paired {f : Addr} {fd : FuncData} (FD : FunD K d_paired.name d_paired.qual (defArgs st_paired) (defBody st_paired) (defScope st_paired) [] [] f fd) : Binds K fd ["one", "other", "first", "second"] [] := FD.bindsN fun _ _ _ _ _ _ us hl => match us, hl with | [_, _, _, _], _ => rfl
theorem fng_paired (hs : Hs K mg) (ht : Lt base K mg) {fd : FuncData} (FD : FunD K d_paired.name d_paired.qual (defArgs st_paired) (defBody st_paired) (defScope st_paired) [] [] (d_paired.ad K) fd) : FnG P w K mg base 5 (d_paired.ad K) fd ["one", "other", "first", "second"] (spF ⟨K, P, w, Tb K⟩ 4 F_paired) := by
  refine fng_cal FD sc_paired rfl fun cdv A outer s H E B => ?_
  exact (ppss_cons (pps_expr (k_def (cal_require_books hs ht).iso B.room (by decide) B.gd B.tk (ppa_cons (pv 0) (ppa_cons (pv 1) ppa_nil)))) (ppss_cons (pps_expr (k_def (cal_require_values hs ht).iso B.room (by decide) B.gd B.tk (ppa_cons (pv 0) (ppa_cons (pv 2) ppa_nil)))) (ppss_cons (pps_expr (k_def (cal_require_values hs ht).iso B.room (by decide) B.gd B.tk (ppa_cons (pv 1) (ppa_cons (pv 3) ppa_nil)))) (ppss_cons (pps_if (t_ne B.hu (k_lenN (ppa_cons (pv 2) ppa_nil) hs.m_len) (k_lenN (ppa_cons (pv 3) ppa_nil) hs.m_len)) (ppss_one (pps_raise (xcW_of hs.x_InvalidOperation hs.g_InvalidOperation rfl) B.calm B.tk)) ppss_nil) (ppss_cons (pps_expr (k_def (cal_require_product hs ht).iso B.room (by decide) B.gd B.tk (ppa_cons (pv 0) (ppa_cons (pv 1) ppa_nil)))) (ppss_one (pps_ret (k_def (cal_paired_row hs ht).iso B.room (by decide) B.gd B.tk (ppa_cons (pv 1) (ppa_cons (pv 2) (ppa_cons (pv 3) ppa_nil)))))))))))
theorem cal_paired (hs : Hs K mg) (ht : Lt base K mg) : CalW P w K mg base (Tb K) "paired" 4 F_paired 5 := by
  obtain ⟨fd, FD⟩ := hs.d_paired
  exact ⟨_, fd, _, fng_paired hs ht FD, hs.g_paired, FD.kp, bd_paired FD⟩
theorem sc_sets_of : FnScope ["size", "found", "value", "some"] ["size"] (defScope st_sets_of) := ⟨rfl, rfl, rfl, by decide +kernel, rfl, by decide +kernel, by decide +kernel⟩
theorem bd_sets_of {f : Addr} {fd : FuncData} (FD : FunD K d_sets_of.name d_sets_of.qual (defArgs st_sets_of) (defBody st_sets_of) (defScope st_sets_of) [] [] f fd) : Binds K fd ["size"] [] := FD.bindsN fun _ _ _ _ _ _ us hl => match us, hl with | [_], _ => rfl
theorem fng_sets_of (hs : Hs K mg) (ht : Lt base K mg) {fd : FuncData} (FD : FunD K d_sets_of.name d_sets_of.qual (defArgs st_sets_of) (defBody st_sets_of) (defScope st_sets_of) [] [] (d_sets_of.ad K) fd) : FnG P w K mg base 1 (d_sets_of.ad K) fd ["size"] (spF ⟨K, P, w, Tb K⟩ 1 F_sets_of) := by
  refine fng_cal FD sc_sets_of rfl fun cdv A outer s H E B => ?_
  exact (ppss_cons (pst 1 B.nd (pp_lst true (ppa_cons (pp_tup ppa_nil) ppa_nil))) (ppss_cons (pps_for B.own B.calm (ppi_range1 gl hs.m_range (ppa_cons (pv 0) ppa_nil)) (pgn 2 B.nd) (ppss_one (pps_expr (m_ext (pv 1) (ppa_cons (pp_lc false (own := [("some", 3)]) B.calm B.nd (ppi_any (pp_listA false B.calm gl hs.m_list (ppa_cons (pv 1) ppa_nil))) (blkOk_by (by kernel_rfl)) (by decide) (fun _ _ _ _ _ => (pgn 3 B.nd)) (fun _ _ _ _ _ => ppts_nil) (fun _ _ _ _ _ => (pp_tup (ppa_star (pv 3) (ppa_cons (pv 2) ppa_nil))))) ppa_nil))))) (ppss_one (pps_ret (k_tupA (ppa_cons (pp_sortedA false B.hu B.calm gl hs.m_sorted (ppa_cons (pp_lc false (own := [("some", 3)]) B.calm B.nd (ppi_any (pv 1)) (blkOk_by (by kernel_rfl)) (by decide) (fun _ _ _ _ _ => (pgn 3 B.nd)) (fun _ _ _ _ _ => (ppts_one (t_ne B.hu (pv 3) (pp_tup ppa_nil)))) (fun _ _ _ _ _ => (pv 3))) ppa_nil)) ppa_nil) B.calm hs.m_tuple)))))
theorem cal_sets_of (hs : Hs K mg) (ht : Lt base K mg) : CalW P w K mg base (Tb K) "sets_of" 1 F_sets_of 1 := by
  obtain ⟨fd, FD⟩ := hs.d_sets_of
  exact ⟨_, fd, _, fng_sets_of hs ht FD, hs.g_sets_of, FD.kp, bd_sets_of FD⟩
theorem sc_is_name : FnScope ["value", "letter"] ["value"] (defScope st_is_name) := ⟨rfl, rfl, rfl, by decide +kernel, rfl, by decide +kernel, by decide +kernel⟩
theorem bd_is_name {f : Addr} {fd : FuncData} (FD : FunD K d_is_name.name d_is_name.qual (defArgs st_is_name) (defBody st_is_name) (defScope st_is_name) [] [] f fd) : Binds K fd ["value"] [] := FD.bindsN fun _ _ _ _ _ _ us hl => match us, hl with | [_], _ => rfl
theorem fng_is_name (hs : Hs K mg) (ht : Lt base K mg) {fd : FuncData} (FD : FunD K d_is_name.name d_is_name.qual (defArgs st_is_name) (defBody st_is_name) (defScope st_is_name) [] [] (d_is_name.ad K) fd) : FnG P w K mg base 1 (d_is_name.ad K) fd ["value"] (spF ⟨K, P, w, Tb K⟩ 1 F_is_name) := by
  refine fng_cal FD sc_is_name rfl fun cdv A outer s H E B => ?_
  exact (ppss_cons (pps_if (ppt_w (ppw_or (ppt_not (ppt_val (k_isO .str hs.m_isinstance hs.m_str (by decide) (dt_str hs) (pv 0)))) (ppw_one (ppt_not (t_lele B.hu pp_int (k_lenN (ppa_cons (pv 0) ppa_nil) hs.m_len) (pgI hs.c_MAX_LETTERS)))))) (ppss_one (pps_ret pp_bl)) ppss_nil) (ppss_one (pps_ret (k_all (ppa_cons (pp_lc false (own := [("letter", 1)]) B.calm B.nd (ppi_any (pv 0)) (blkOk_by (by kernel_rfl)) (by decide) (fun _ _ _ _ _ => (pgn 1 B.nd)) (fun _ _ _ _ _ => ppts_nil) (fun _ _ _ _ _ => (c_lele B.hu (psS [97]) (pv 1) (psS [122])))) ppa_nil) B.calm hs.m_all))))
theorem cal_is_name (hs : Hs K mg) (ht : Lt base K mg) : CalW P w K mg base (Tb K) "is_name" 1 F_is_name 1 := by
  obtain ⟨fd, FD⟩ := hs.d_is_name
  exact ⟨_, fd, _, fng_is_name hs ht FD, hs.g_is_name, FD.kp, bd_is_name FD⟩
theorem sc_are_ascending : FnScope ["values", "one", "other"] ["values"] (defScope st_are_ascending) := ⟨rfl, rfl, rfl, by decide +kernel, rfl, by decide +kernel, by decide +kernel⟩
theorem bd_are_ascending {f : Addr} {fd : FuncData} (FD : FunD K d_are_ascending.name d_are_ascending.qual (defArgs st_are_ascending) (defBody st_are_ascending) (defScope st_are_ascending) [] [] f fd) : Binds K fd ["values"] [] := FD.bindsN fun _ _ _ _ _ _ us hl => match us, hl with | [_], _ => rfl
theorem fng_are_ascending (hs : Hs K mg) (ht : Lt base K mg) {fd : FuncData} (FD : FunD K d_are_ascending.name d_are_ascending.qual (defArgs st_are_ascending) (defBody st_are_ascending) (defScope st_are_ascending) [] [] (d_are_ascending.ad K) fd) : FnG P w K mg base 1 (d_are_ascending.ad K) fd ["values"] (spF ⟨K, P, w, Tb K⟩ 1 F_are_ascending) := by
  refine fng_cal FD sc_are_ascending rfl fun cdv A outer s H E B => ?_
  exact (ppss_one (pps_ret (k_all (ppa_cons (pp_lc false (own := [("one", 1), ("other", 2)]) B.calm B.nd (ppi_zip gl hs.m_zip (ppa_cons (pv 0) (ppa_cons (pp_slice (pv 0) (ppo_some pp_int) ppo_none) ppa_nil))) (blkOk_by (by kernel_rfl)) (by decide) (fun _ _ _ _ _ => (ppg_tup B.calm (ppgs_cons (pgn 1 B.nd) (ppgs_cons (pgn 2 B.nd) ppgs_nil)))) (fun _ _ _ _ _ => ppts_nil) (fun _ _ _ _ _ => (c_lt B.hu (pv 1) (pv 2)))) ppa_nil) B.calm hs.m_all)))
theorem cal_are_ascending (hs : Hs K mg) (ht : Lt base K mg) : CalW P w K mg base (Tb K) "are_ascending" 1 F_are_ascending 1 := by
  obtain ⟨fd, FD⟩ := hs.d_are_ascending
  exact ⟨_, fd, _, fng_are_ascending hs ht FD, hs.g_are_ascending, FD.kp, bd_are_ascending FD⟩
theorem sc_is_row : FnScope ["value", "size", "places", "number"] ["value", "size", "places"] (defScope st_is_row) := ⟨rfl, rfl, rfl, by decide +kernel, rfl, by decide +kernel, by decide +kernel⟩
theorem bd_is_row {f : Addr} {fd : FuncData} (FD : FunD K d_is_row.name d_is_row.qual (defArgs st_is_row) (defBody st_is_row) (defScope st_is_row) [] [] f fd) : Binds K fd ["value", "size", "places"] [] := FD.bindsN fun _ _ _ _ _ _ us hl => match us, hl with | [_, _, _], _ => rfl
theorem fng_is_row (hs : Hs K mg) (ht : Lt base K mg) {fd : FuncData} (FD : FunD K d_is_row.name d_is_row.qual (defArgs st_is_row) (defBody st_is_row) (defScope st_is_row) [] [] (d_is_row.ad K) fd) : FnG P w K mg base 3 (d_is_row.ad K) fd ["value", "size", "places"] (spF ⟨K, P, w, Tb K⟩ 3 F_is_row) := by
  refine fng_cal FD sc_is_row rfl fun cdv A outer s H E B => ?_
  exact (ppss_cons (pps_if (ppt_w (ppw_or (ppt_not (ppt_val (k_isO .tup hs.m_isinstance hs.m_tuple (by decide) (dt_tuple hs) (pv 0)))) (ppw_one (t_ne B.hu (k_lenN (ppa_cons (pv 0) ppa_nil) hs.m_len) (pv 2))))) (ppss_one (pps_ret pp_bl)) ppss_nil) (ppss_one (pps_ret (k_all (ppa_cons (pp_lc false (own := [("number", 3)]) B.calm B.nd (ppi_any (pv 0)) (blkOk_by (by kernel_rfl)) (by decide) (fun _ _ _ _ _ => (pgn 3 B.nd)) (fun _ _ _ _ _ => ppts_nil) (fun _ _ _ _ _ => (k_def (cal_is_integer_within hs ht).iso B.room (by decide) B.gd takes0 (ppa_cons (pv 3) (ppa_cons pp_int (ppa_cons (pp_sub (pv 1) pp_int) ppa_nil)))))) ppa_nil) B.calm hs.m_all))))
theorem cal_is_row (hs : Hs K mg) (ht : Lt base K mg) : CalW P w K mg base (Tb K) "is_row" 3 F_is_row 3 := by
  obtain ⟨fd, FD⟩ := hs.d_is_row
  exact ⟨_, fd, _, fng_is_row hs ht FD, hs.g_is_row, FD.kp, bd_is_row FD⟩
theorem sc_is_tie_of : FnScope ["size", "value", "row"] ["size", "value"] (defScope st_is_tie_of) := ⟨rfl, rfl, rfl, by decide +kernel, rfl, by decide +kernel, by decide +kernel⟩
theorem bd_is_tie_of {f : Addr} {fd : FuncData} (FD : FunD K d_is_tie_of.name d_is_tie_of.qual (defArgs st_is_tie_of) (defBody st_is_tie_of) (defScope st_is_tie_of) [] [] f fd) : Binds K fd ["size", "value"] [] := FD.bindsN fun _ _ _ _ _ _ us hl => match us, hl with | [_, _], _ => rfl
theorem fng_is_tie_of (hs : Hs K mg) (ht : Lt base K mg) {fd : FuncData} (FD : FunD K d_is_tie_of.name d_is_tie_of.qual (defArgs st_is_tie_of) (defBody st_is_tie_of) (defScope st_is_tie_of) [] [] (d_is_tie_of.ad K) fd) : FnG P w K mg base 4 (d_is_tie_of.ad K) fd ["size", "value"] (spF ⟨K, P, w, Tb K⟩ 2 F_is_tie_of) := by
  refine fng_cal FD sc_is_tie_of rfl fun cdv A outer s H E B => ?_
  exact (ppss_cons (pps_if (ppt_w (ppw_or (ppt_not (ppt_val (k_isO .tup hs.m_isinstance hs.m_tuple (by decide) (dt_tuple hs) (pv 1)))) (ppw_or (t_ne B.hu (k_lenN (ppa_cons (pv 1) ppa_nil) hs.m_len) pp_int) (ppw_one (ppt_not (ppt_val (k_def (cal_is_integer_within hs ht).iso B.room (by decide) B.gd B.tk (ppa_cons (pp_subN B.hu (pv 1) pp_int) (ppa_cons pp_int (ppa_cons (pgI hs.c_MAX_PLACES) ppa_nil)))))))))) (ppss_one (pps_ret pp_bl)) ppss_nil) (ppss_cons (pps_if (ppt_w (ppw_or (ppt_not (ppt_val (k_isO .tup hs.m_isinstance hs.m_tuple (by decide) (dt_tuple hs) (pp_subN B.hu (pv 1) pp_int)))) (ppw_one (ppt_not (ppt_val (k_all (ppa_cons (pp_lc false (own := [("row", 2)]) B.calm B.nd (ppi_any (pp_subN B.hu (pv 1) pp_int)) (blkOk_by (by kernel_rfl)) (by decide) (fun _ _ _ _ _ => (pgn 2 B.nd)) (fun _ _ _ _ _ => ppts_nil) (fun _ _ _ _ _ => (k_def (cal_is_row hs ht).iso B.room (by decide) B.gd takes0 (ppa_cons (pv 2) (ppa_cons (pv 0) (ppa_cons (pp_subN B.hu (pv 1) pp_int) ppa_nil)))))) ppa_nil) B.calm hs.m_all)))))) (ppss_one (pps_ret pp_bl)) ppss_nil) (ppss_one (pps_ret (k_def (cal_are_ascending hs ht).iso B.room (by decide) B.gd B.tk (ppa_cons (pp_subN B.hu (pv 1) pp_int) ppa_nil))))))
theorem cal_is_tie_of (hs : Hs K mg) (ht : Lt base K mg) : CalW P w K mg base (Tb K) "is_tie_of" 2 F_is_tie_of 4 := by
  obtain ⟨fd, FD⟩ := hs.d_is_tie_of
  exact ⟨_, fd, _, fng_is_tie_of hs ht FD, hs.g_is_tie_of, FD.kp, bd_is_tie_of FD⟩
theorem sc_are_ties_of : FnScope ["size", "value", "name", "tie"] ["size", "value"] (defScope st_are_ties_of) := ⟨rfl, rfl, rfl, by decide +kernel, rfl, by decide +kernel, by decide +kernel⟩
theorem bd_are_ties_of {f : Addr} {fd : FuncData} (FD : FunD K d_are_ties_of.name d_are_ties_of.qual (defArgs st_are_ties_of) (defBody st_are_ties_of) (defScope st_are_ties_of) [] [] f fd) : Binds K fd ["size", "value"] [] := FD.bindsN fun _ _ _ _ _ _ us hl => match us, hl with | [_, _], _ => rfl
theorem fng_are_ties_of (hs : Hs K mg) (ht : Lt base K mg) {fd : FuncData} (FD : FunD K d_are_ties_of.name d_are_ties_of.qual (defArgs st_are_ties_of) (defBody st_are_ties_of) (defScope st_are_ties_of) [] [] (d_are_ties_of.ad K) fd) : FnG P w K mg base 5 (d_are_ties_of.ad K) fd ["size", "value"] (spF ⟨K, P, w, Tb K⟩ 2 F_are_ties_of) := by
  refine fng_cal FD sc_are_ties_of rfl fun cdv A outer s H E B => ?_
  exact (ppss_cons (pps_if (ppt_w (ppw_or (ppt_not (ppt_val (k_isO .dct hs.m_isinstance hs.m_dict (by decide) (dt_dict hs) (pv 1)))) (ppw_one (t_gt B.hu (k_lenN (ppa_cons (pv 1) ppa_nil) hs.m_len) (pgI hs.c_MAX_TIES))))) (ppss_one (pps_ret pp_bl)) ppss_nil) (ppss_one (pps_ret (k_all (ppa_cons (pp_lc false (own := [("name", 2), ("tie", 3)]) B.calm B.nd (ppi_itemsN (pv 1)) (blkOk_by (by kernel_rfl)) (by decide) (fun _ _ _ _ _ => (ppg_tup B.calm (ppgs_cons (pgn 2 B.nd) (ppgs_cons (pgn 3 B.nd) ppgs_nil)))) (fun _ _ _ _ _ => ppts_nil) (fun _ _ _ _ _ => (pp_and (k_def (cal_is_name hs ht).iso B.room (by decide) B.gd takes0 (ppa_cons (pv 2) ppa_nil)) (pp_one (k_def (cal_is_tie_of hs ht).iso B.room (by decide) B.gd takes0 (ppa_cons (pv 0) (ppa_cons (pv 3) ppa_nil))))))) ppa_nil) B.calm hs.m_all))))
theorem cal_are_ties_of (hs : Hs K mg) (ht : Lt base K mg) : CalW P w K mg base (Tb K) "are_ties_of" 2 F_are_ties_of 5 := by
  obtain ⟨fd, FD⟩ := hs.d_are_ties_of
  exact ⟨_, fd, _, fng_are_ties_of hs ht FD, hs.g_are_ties_of, FD.kp, bd_are_ties_of FD⟩
theorem sc_Book___init__ : FnScope ["self", "size", "ties", "name"] ["self", "size", "ties"] (defScope st_Book___init__) := ⟨rfl, rfl, rfl, by decide +kernel, rfl, by decide +kernel, by decide +kernel⟩
theorem bd_Book___init__ {f : Addr} {fd : FuncData} (FD : FunD K d_Book___init__.name d_Book___init__.qual (defArgs st_Book___init__) (defBody st_Book___init__) (defScope st_Book___init__) [] [] f fd) : Binds K fd ["self", "size", "ties"] [] := FD.bindsN fun _ _ _ _ _ _ us hl => match us, hl with | [_, _, _], _ => rfl
theorem fng_Book___init__ (hs : Hs K mg) (ht : Lt base K mg) {fd : FuncData} (FD : FunD K d_Book___init__.name d_Book___init__.qual (defArgs st_Book___init__) (defBody st_Book___init__) (defScope st_Book___init__) [] [] (d_Book___init__.ad K) fd) : FnG P w K mg base 6 (d_Book___init__.ad K) fd ["self", "size", "ties"] (spF ⟨K, P, w, Tb K⟩ 3 F_Book___init__) := by
  refine fng_cal FD sc_Book___init__ rfl fun cdv A outer s H E B => ?_
  exact (ppss_cons (pps_if (ppt_not (ppt_val (k_def (cal_is_integer_within hs ht).iso B.room (by decide) B.gd B.tk (ppa_cons (pv 1) (ppa_cons pp_int (ppa_cons (pgI hs.c_MAX_VALUES) ppa_nil)))))) (ppss_one (pps_raiseV (xv_InvalidNumber hs) B.calm B.room (by decide) B.tk (pv 1))) ppss_nil) (ppss_cons (pps_if (ppt_not (ppt_val (k_def (cal_are_ties_of hs ht).iso B.room (by decide) B.gd B.tk (ppa_cons (pv 1) (ppa_cons (pv 2) ppa_nil))))) (ppss_one (pps_raise (xcW_of hs.x_InvalidBook hs.g_InvalidBook rfl) B.calm B.tk)) ppss_nil) (ppss_cons (pps_fld (f := "own_size") (T := Tb K) rfl nmI (by decide) (df_own_size hs) (pv 0) (pv 1)) (ppss_cons (pps_fld (f := "own_ties") (T := Tb K) rfl nmI (by decide) (df_own_ties hs) (pv 0) (pp_dc false (own := [("name", 3)]) B.calm B.nd (ppi_any (pp_sortedA false B.hu B.calm gl hs.m_sorted (ppa_cons (pv 2) ppa_nil))) (blkOk_by (by kernel_rfl)) (by decide) (fun _ _ _ _ _ => (pgn 3 B.nd)) (fun _ _ _ _ _ => ppts_nil) (fun _ _ _ _ _ => (pv 3)) (fun _ _ _ _ _ => (pp_subN B.hu (pv 2) (pv 3))))) (ppss_one (pps_fld (f := "own_sets") (T := Tb K) rfl nmI (by decide) (df_own_sets hs) (pv 0) (k_def (cal_sets_of hs ht).iso B.room (by decide) B.gd B.tk (ppa_cons (pv 1) ppa_nil))))))))
theorem mak_Book (hs : Hs K mg) (ht : Lt base K mg) : MakW P w K mg base (Tb K) 0 "Book" 3 F_Book___init__ 6 := by
  obtain ⟨fd, FD⟩ := hs.d_Book___init__
  exact ⟨_, fd, _, fng_Book___init__ hs ht FD, hs.mk_Book, hs.g_Book, bd_Book___init__ FD⟩
theorem sc_product_of : FnScope ["one", "other", "found", "name", "pairs", "places", "rows", "row", "last"] ["one", "other"] (defScope st_product_of) := ⟨rfl, rfl, rfl, by decide +kernel, rfl, by decide +kernel, by decide +kernel⟩
theorem bd_product_of {f : Addr} {fd : FuncData} (FD : FunD K d_product_of.name d_product_of.qual (defArgs st_product_of) (defBody st_product_of) (defScope st_product_of) [] [] f fd) : Binds K fd ["one", "other"] [] := FD.bindsN fun _ _ _ _ _ _ us hl => match us, hl with | [_, _], _ => rfl
theorem fng_product_of (hs : Hs K mg) (ht : Lt base K mg) {fd : FuncData} (FD : FunD K d_product_of.name d_product_of.qual (defArgs st_product_of) (defBody st_product_of) (defScope st_product_of) [] [] (d_product_of.ad K) fd) : FnG P w K mg base 8 (d_product_of.ad K) fd ["one", "other"] (spF ⟨K, P, w, Tb K⟩ 2 F_product_of) := by
  refine fng_cal FD sc_product_of rfl fun cdv A outer s H E B => ?_
  exact (ppss_cons (pst 2 B.nd (pp_d0 true)) (ppss_cons (pps_for B.own B.calm (ppi_itemsN (pp_fld (f := "own_ties") (T := Tb K) rfl nmI (by decide) (df_own_ties hs) (pv 0))) (ppg_tup B.calm (ppgs_cons (pgn 3 B.nd) (ppgs_cons (ppg_tup B.calm (ppgs_cons (pgn 5 B.nd) (ppgs_cons (pgn 6 B.nd) ppgs_nil))) ppgs_nil))) (ppss_cons (pps_setLc2 false (i := 4) (own := [("row", 7), ("last", 8)]) (vs1 := [8]) B.calm B.nd rfl rfl (sw_true rfl rfl rfl (by decide +kernel)) (ppi_any (pv 6)) (blkOk_by (by kernel_rfl)) (by decide) (by decide) (by decide) (fun _ _ _ _ _ => (pgn 7 B.nd)) (fun _ _ _ _ _ => ppts_nil) (fun _ _ _ _ _ => (ppi_any (pp_subN B.hu (pp_subN B.hu (pp_fld (f := "own_ties") (T := Tb K) rfl nmI (by decide) (df_own_ties hs) (pv 1)) (pv 3)) pp_int))) (fun _ _ _ _ _ => (pgn 8 B.nd)) (fun _ _ _ _ _ => ppts_nil) (fun _ _ _ _ _ => (k_def (cal_paired_row hs ht).iso B.room (by decide) B.gd takes0 (ppa_cons (pv 1) (ppa_cons (pv 7) (ppa_cons (pv 8) ppa_nil)))))) (ppss_one (pps_asg (pp_tup (ppa_cons (pv 5) (ppa_cons (k_tupA (ppa_cons (pp_sortedA false B.hu B.calm gl hs.m_sorted (ppa_cons (pv 4) ppa_nil)) ppa_nil) B.calm hs.m_tuple) ppa_nil))) (ppg_subN B.hu (pv 2) (pv 3)))))) (ppss_one (pps_ret (pp_makeI (mak_Book hs ht) B.room (by decide) B.gd B.tk (ppa_cons (pp_mul (pp_fld (f := "own_size") (T := Tb K) rfl nmI (by decide) (df_own_size hs) (pv 0)) (pp_fld (f := "own_size") (T := Tb K) rfl nmI (by decide) (df_own_size hs) (pv 1))) (ppa_cons (pp_fzN (pv 2)) ppa_nil)))))))
theorem cal_product_of (hs : Hs K mg) (ht : Lt base K mg) : CalW P w K mg base (Tb K) "product_of" 2 F_product_of 8 := by
  obtain ⟨fd, FD⟩ := hs.d_product_of
  exact ⟨_, fd, _, fng_product_of hs ht FD, hs.g_product_of, FD.kp, bd_product_of FD⟩
theorem sc_is_set_of : FnScope ["book", "value", "one"] ["book", "value"] (defScope st_is_set_of) := ⟨rfl, rfl, rfl, by decide +kernel, rfl, by decide +kernel, by decide +kernel⟩
theorem bd_is_set_of {f : Addr} {fd : FuncData} (FD : FunD K d_is_set_of.name d_is_set_of.qual (defArgs st_is_set_of) (defBody st_is_set_of) (defScope st_is_set_of) [] [] f fd) : Binds K fd ["book", "value"] [] := FD.bindsN fun _ _ _ _ _ _ us hl => match us, hl with | [_, _], _ => rfl
theorem fng_is_set_of (hs : Hs K mg) (ht : Lt base K mg) {fd : FuncData} (FD : FunD K d_is_set_of.name d_is_set_of.qual (defArgs st_is_set_of) (defBody st_is_set_of) (defScope st_is_set_of) [] [] (d_is_set_of.ad K) fd) : FnG P w K mg base 2 (d_is_set_of.ad K) fd ["book", "value"] (spF ⟨K, P, w, Tb K⟩ 2 F_is_set_of) := by
  refine fng_cal FD sc_is_set_of rfl fun cdv A outer s H E B => ?_
  exact (ppss_one (pps_ret (pp_and (k_isO .tup hs.m_isinstance hs.m_tuple (by decide) (dt_tuple hs) (pv 1)) (pp_and (k_all (ppa_cons (pp_lc false (own := [("one", 2)]) B.calm B.nd (ppi_any (pv 1)) (blkOk_by (by kernel_rfl)) (by decide) (fun _ _ _ _ _ => (pgn 2 B.nd)) (fun _ _ _ _ _ => ppts_nil) (fun _ _ _ _ _ => (k_def (cal_is_integer hs ht).iso B.room (by decide) B.gd takes0 (ppa_cons (pv 2) ppa_nil)))) ppa_nil) B.calm hs.m_all) (pp_one (c_inN B.hu2 (pv 1) (pp_fld (f := "own_sets") (T := Tb K) rfl nmI (by decide) (df_own_sets hs) (pv 0))))))))
theorem cal_is_set_of (hs : Hs K mg) (ht : Lt base K mg) : CalW P w K mg base (Tb K) "is_set_of" 2 F_is_set_of 2 := by
  obtain ⟨fd, FD⟩ := hs.d_is_set_of
  exact ⟨_, fd, _, fng_is_set_of hs ht FD, hs.g_is_set_of, FD.kp, bd_is_set_of FD⟩
theorem sc_is_any_chooser : FnScope ["book", "value", "some", "one"] ["book", "value"] (defScope st_is_any_chooser) := ⟨rfl, rfl, rfl, by decide +kernel, rfl, by decide +kernel, by decide +kernel⟩
theorem bd_is_any_chooser {f : Addr} {fd : FuncData} (FD : FunD K d_is_any_chooser.name d_is_any_chooser.qual (defArgs st_is_any_chooser) (defBody st_is_any_chooser) (defScope st_is_any_chooser) [] [] f fd) : Binds K fd ["book", "value"] [] := FD.bindsN fun _ _ _ _ _ _ us hl => match us, hl with | [_, _], _ => rfl
theorem fng_is_any_chooser (hs : Hs K mg) (ht : Lt base K mg) {fd : FuncData} (FD : FunD K d_is_any_chooser.name d_is_any_chooser.qual (defArgs st_is_any_chooser) (defBody st_is_any_chooser) (defScope st_is_any_chooser) [] [] (d_is_any_chooser.ad K) fd) : FnG P w K mg base 4 (d_is_any_chooser.ad K) fd ["book", "value"] (spF ⟨K, P, w, Tb K⟩ 2 F_is_any_chooser) := by
  refine fng_cal FD sc_is_any_chooser rfl fun cdv A outer s H E B => ?_
  exact (ppss_cons (pps_if (ppt_w (ppw_or (ppt_not (ppt_val (k_isO .dct hs.m_isinstance hs.m_dict (by decide) (dt_dict hs) (pv 1)))) (ppw_one (t_ne B.hu (k_lenN (ppa_cons (pv 1) ppa_nil) hs.m_len) (k_lenN (ppa_cons (pp_fld (f := "own_sets") (T := Tb K) rfl nmI (by decide) (df_own_sets hs) (pv 0)) ppa_nil) hs.m_len))))) (ppss_one (pps_ret pp_bl)) ppss_nil) (ppss_one (pps_ret (k_all (ppa_cons (pp_lc false (own := [("some", 2), ("one", 3)]) B.calm B.nd (ppi_itemsN (pv 1)) (blkOk_by (by kernel_rfl)) (by decide) (fun _ _ _ _ _ => (ppg_tup B.calm (ppgs_cons (pgn 2 B.nd) (ppgs_cons (pgn 3 B.nd) ppgs_nil)))) (fun _ _ _ _ _ => ppts_nil) (fun _ _ _ _ _ => (pp_and (k_def (cal_is_set_of hs ht).iso B.room (by decide) B.gd takes0 (ppa_cons (pv 0) (ppa_cons (pv 2) ppa_nil))) (pp_one (k_def (cal_is_value_of hs ht).iso B.room (by decide) B.gd takes0 (ppa_cons (pv 0) (ppa_cons (pv 3) ppa_nil))))))) ppa_nil) B.calm hs.m_all))))
theorem cal_is_any_chooser (hs : Hs K mg) (ht : Lt base K mg) : CalW P w K mg base (Tb K) "is_any_chooser" 2 F_is_any_chooser 4 := by
  obtain ⟨fd, FD⟩ := hs.d_is_any_chooser
  exact ⟨_, fd, _, fng_is_any_chooser hs ht FD, hs.g_is_any_chooser, FD.kp, bd_is_any_chooser FD⟩
theorem sc_require_chooser : FnScope ["book", "value"] ["book", "value"] (defScope st_require_chooser) := ⟨rfl, rfl, rfl, by decide +kernel, rfl, by decide +kernel, by decide +kernel⟩
theorem bd_require_chooser {f : Addr} {fd : FuncData} (FD : FunD K d_require_chooser.name d_require_chooser.qual (defArgs st_require_chooser) (defBody st_require_chooser) (defScope st_require_chooser) [] [] f fd) : Binds K fd ["book", "value"] [] := FD.bindsN fun _ _ _ _ _ _ us hl => match us, hl with | [_, _], _ => rfl
theorem fng_require_chooser (hs : Hs K mg) (ht : Lt base K mg) {fd : FuncData} (FD : FunD K d_require_chooser.name d_require_chooser.qual (defArgs st_require_chooser) (defBody st_require_chooser) (defScope st_require_chooser) [] [] (d_require_chooser.ad K) fd) : FnG P w K mg base 5 (d_require_chooser.ad K) fd ["book", "value"] (spF ⟨K, P, w, Tb K⟩ 2 F_require_chooser) := by
  refine fng_cal FD sc_require_chooser rfl fun cdv A outer s H E B => ?_
  exact (ppss_one (pps_if (ppt_not (ppt_val (k_def (cal_is_any_chooser hs ht).iso B.room (by decide) B.gd B.tk (ppa_cons (pv 0) (ppa_cons (pv 1) ppa_nil))))) (ppss_one (pps_raise (xcW_of hs.x_InvalidChooser hs.g_InvalidChooser rfl) B.calm B.tk)) ppss_nil))
theorem cal_require_chooser (hs : Hs K mg) (ht : Lt base K mg) : CalW P w K mg base (Tb K) "require_chooser" 2 F_require_chooser 5 := by
  obtain ⟨fd, FD⟩ := hs.d_require_chooser
  exact ⟨_, fd, _, fng_require_chooser hs ht FD, hs.g_require_chooser, FD.kp, bd_require_chooser FD⟩
theorem sc_chooser_of_both : FnScope ["one", "other", "first", "second", "found", "some", "mine", "last", "value"] ["one", "other", "first", "second"] (defScope st_chooser_of_both) := ⟨rfl, rfl, rfl, by decide +kernel, rfl, by decide +kernel, by decide +kernel⟩
theorem bd_chooser_of_both {f : Addr} {fd : FuncData} (FD : FunD K d_chooser_of_both.name d_chooser_of_both.qual (defArgs st_chooser_of_both) (defBody st_chooser_of_both) (defScope st_chooser_of_both) [] [] f fd) : Binds K fd ["one", "other", "first", "second"] [] := FD.bindsN fun _ _ _ _ _ _ us hl => match us, hl with | [_, _, _, _], _ => rfl
theorem fng_chooser_of_both (hs : Hs K mg) (ht : Lt base K mg) {fd : FuncData} (FD : FunD K d_chooser_of_both.name d_chooser_of_both.qual (defArgs st_chooser_of_both) (defBody st_chooser_of_both) (defScope st_chooser_of_both) [] [] (d_chooser_of_both.ad K) fd) : FnG P w K mg base 9 (d_chooser_of_both.ad K) fd ["one", "other", "first", "second"] (spF ⟨K, P, w, Tb K⟩ 4 F_chooser_of_both) := by
  refine fng_cal FD sc_chooser_of_both rfl fun cdv A outer s H E B => ?_
  exact (ppss_cons (pps_expr (k_def (cal_require_books hs ht).iso B.room (by decide) B.gd B.tk (ppa_cons (pv 0) (ppa_cons (pv 1) ppa_nil)))) (ppss_cons (pps_expr (k_def (cal_require_chooser hs ht).iso B.room (by decide) B.gd B.tk (ppa_cons (pv 0) (ppa_cons (pv 2) ppa_nil)))) (ppss_cons (pps_expr (k_def (cal_require_chooser hs ht).iso B.room (by decide) B.gd B.tk (ppa_cons (pv 1) (ppa_cons (pv 3) ppa_nil)))) (ppss_cons (pps_expr (k_def (cal_require_product hs ht).iso B.room (by decide) B.gd B.tk (ppa_cons (pv 0) (ppa_cons (pv 1) ppa_nil)))) (ppss_cons (pst 4 B.nd (pp_d0 true)) (ppss_cons (pps_for B.own B.calm (ppi_any (pp_fld (f := "own_sets") (T := Tb K) rfl nmI (by decide) (df_own_sets hs) (k_def (cal_product_of hs ht).iso B.room (by decide) B.gd B.tk (ppa_cons (pv 0) (ppa_cons (pv 1) ppa_nil))))) (pgn 5 B.nd) (ppss_cons (pst 6 B.nd (k_tupA (ppa_cons (pp_sortedSet false B.calm gl hs.m_sorted gl hs.m_set (pp_lc false (own := [("value", 8)]) B.calm B.nd (ppi_any (pv 5)) (blkOk_by (by kernel_rfl)) (by decide) (fun _ _ _ _ _ => (pgn 8 B.nd)) (fun _ _ _ _ _ => ppts_nil) (fun _ _ _ _ _ => (pp_div (pv 8) (pp_fld (f := "own_size") (T := Tb K) rfl nmI (by decide) (df_own_size hs) (pv 1)))))) ppa_nil) B.calm hs.m_tuple)) (ppss_cons (pst 7 B.nd (k_tupA (ppa_cons (pp_sortedSet false B.calm gl hs.m_sorted gl hs.m_set (pp_lc false (own := [("value", 8)]) B.calm B.nd (ppi_any (pv 5)) (blkOk_by (by kernel_rfl)) (by decide) (fun _ _ _ _ _ => (pgn 8 B.nd)) (fun _ _ _ _ _ => ppts_nil) (fun _ _ _ _ _ => (pp_mod (pv 8) (pp_fld (f := "own_size") (T := Tb K) rfl nmI (by decide) (df_own_size hs) (pv 1)))))) ppa_nil) B.calm hs.m_tuple)) (ppss_one (pps_asg (pp_add (pp_mul (pp_subN B.hu (pv 2) (pv 6)) (pp_fld (f := "own_size") (T := Tb K) rfl nmI (by decide) (df_own_size hs) (pv 1))) (pp_subN B.hu (pv 3) (pv 7))) (ppg_subN B.hu (pv 4) (pv 5))))))) (ppss_one (pps_ret (pp_fzN (pv 4))))))))))
theorem cal_chooser_of_both (hs : Hs K mg) (ht : Lt base K mg) : CalW P w K mg base (Tb K) "chooser_of_both" 4 F_chooser_of_both 9 := by
  obtain ⟨fd, FD⟩ := hs.d_chooser_of_both
  exact ⟨_, fd, _, fng_chooser_of_both hs ht FD, hs.g_chooser_of_both, FD.kp, bd_chooser_of_both FD⟩
theorem sc_is_value_of_product : FnScope ["one", "other", "value"] ["one", "other", "value"] (defScope st_is_value_of_product) := ⟨rfl, rfl, rfl, by decide +kernel, rfl, by decide +kernel, by decide +kernel⟩
theorem bd_is_value_of_product {f : Addr} {fd : FuncData} (FD : FunD K d_is_value_of_product.name d_is_value_of_product.qual (defArgs st_is_value_of_product) (defBody st_is_value_of_product) (defScope st_is_value_of_product) [] [] f fd) : Binds K fd ["one", "other", "value"] [] := FD.bindsN fun _ _ _ _ _ _ us hl => match us, hl with | [_, _, _], _ => rfl
theorem fng_is_value_of_product (hs : Hs K mg) (ht : Lt base K mg) {fd : FuncData} (FD : FunD K d_is_value_of_product.name d_is_value_of_product.qual (defArgs st_is_value_of_product) (defBody st_is_value_of_product) (defScope st_is_value_of_product) [] [] (d_is_value_of_product.ad K) fd) : FnG P w K mg base 3 (d_is_value_of_product.ad K) fd ["one", "other", "value"] (spF ⟨K, P, w, Tb K⟩ 3 F_is_value_of_product) := by
  refine fng_cal FD sc_is_value_of_product rfl fun cdv A outer s H E B => ?_
  exact (ppss_one (pps_ret (k_def (cal_is_integer_within hs ht).iso B.room (by decide) B.gd B.tk (ppa_cons (pv 2) (ppa_cons pp_int (ppa_cons (pp_sub (pp_mul (pp_fld (f := "own_size") (T := Tb K) rfl nmI (by decide) (df_own_size hs) (pv 0)) (pp_fld (f := "own_size") (T := Tb K) rfl nmI (by decide) (df_own_size hs) (pv 1))) pp_int) ppa_nil))))))
theorem cal_is_value_of_product (hs : Hs K mg) (ht : Lt base K mg) : CalW P w K mg base (Tb K) "is_value_of_product" 3 F_is_value_of_product 3 := by
  obtain ⟨fd, FD⟩ := hs.d_is_value_of_product
  exact ⟨_, fd, _, fng_is_value_of_product hs ht FD, hs.g_is_value_of_product, FD.kp, bd_is_value_of_product FD⟩
theorem sc_parted : FnScope ["one", "other", "values", "value"] ["one", "other", "values"] (defScope st_parted) := ⟨rfl, rfl, rfl, by decide +kernel, rfl, by decide +kernel, by decide +kernel⟩
theorem bd_parted {f : Addr} {fd : FuncData} (FD : FunD K d_parted.name d_parted.qual (defArgs st_parted) (defBody st_parted) (defScope st_parted) [] [] f fd) : Binds K fd ["one", "other", "values"] [] := FD.bindsN fun _ _ _ _ _ _ us hl => match us, hl with | [_, _, _], _ => rfl
theorem fng_parted (hs : Hs K mg) (ht : Lt base K mg) {fd : FuncData} (FD : FunD K d_parted.name d_parted.qual (defArgs st_parted) (defBody st_parted) (defScope st_parted) [] [] (d_parted.ad K) fd) : FnG P w K mg base 4 (d_parted.ad K) fd ["one", "other", "values"] (spF ⟨K, P, w, Tb K⟩ 3 F_parted) := by
  refine fng_cal FD sc_parted rfl fun cdv A outer s H E B => ?_
  exact (ppss_cons (pps_expr (k_def (cal_require_books hs ht).iso B.room (by decide) B.gd B.tk (ppa_cons (pv 0) (ppa_cons (pv 1) ppa_nil)))) (ppss_cons (pps_if (ppt_w (ppw_or (ppt_not (ppt_val (k_isO .tup hs.m_isinstance hs.m_tuple (by decide) (dt_tuple hs) (pv 2)))) (ppw_one (ppt_not (ppt_val (k_all (ppa_cons (pp_lc false (own := [("value", 3)]) B.calm B.nd (ppi_any (pv 2)) (blkOk_by (by kernel_rfl)) (by decide) (fun _ _ _ _ _ => (pgn 3 B.nd)) (fun _ _ _ _ _ => ppts_nil) (fun _ _ _ _ _ => (k_def (cal_is_value_of_product hs ht).iso B.room (by decide) B.gd takes0 (ppa_cons (pv 0) (ppa_cons (pv 1) (ppa_cons (pv 3) ppa_nil)))))) ppa_nil) B.calm hs.m_all)))))) (ppss_one (pps_raise (xcW_of hs.x_InvalidOperation hs.g_InvalidOperation rfl) B.calm B.tk)) ppss_nil) (ppss_cons (pps_expr (k_def (cal_require_product hs ht).iso B.room (by decide) B.gd B.tk (ppa_cons (pv 0) (ppa_cons (pv 1) ppa_nil)))) (ppss_one (pps_ret (pp_tup (ppa_cons (k_tupA (ppa_cons (pp_lc false (own := [("value", 3)]) B.calm B.nd (ppi_any (pv 2)) (blkOk_by (by kernel_rfl)) (by decide) (fun _ _ _ _ _ => (pgn 3 B.nd)) (fun _ _ _ _ _ => ppts_nil) (fun _ _ _ _ _ => (pp_div (pv 3) (pp_fld (f := "own_size") (T := Tb K) rfl nmI (by decide) (df_own_size hs) (pv 1))))) ppa_nil) B.calm hs.m_tuple) (ppa_cons (k_tupA (ppa_cons (pp_lc false (own := [("value", 3)]) B.calm B.nd (ppi_any (pv 2)) (blkOk_by (by kernel_rfl)) (by decide) (fun _ _ _ _ _ => (pgn 3 B.nd)) (fun _ _ _ _ _ => ppts_nil) (fun _ _ _ _ _ => (pp_mod (pv 3) (pp_fld (f := "own_size") (T := Tb K) rfl nmI (by decide) (df_own_size hs) (pv 1))))) ppa_nil) B.calm hs.m_tuple) ppa_nil))))))))
theorem cal_parted (hs : Hs K mg) (ht : Lt base K mg) : CalW P w K mg base (Tb K) "parted" 3 F_parted 4 := by
  obtain ⟨fd, FD⟩ := hs.d_parted
  exact ⟨_, fd, _, fng_parted hs ht FD, hs.g_parted, FD.kp, bd_parted FD⟩
theorem sc_value_of : FnScope ["one", "other", "pair", "is_pair"] ["one", "other", "pair"] (defScope st_value_of) := ⟨rfl, rfl, rfl, by decide +kernel, rfl, by decide +kernel, by decide +kernel⟩
theorem bd_value_of {f : Addr} {fd : FuncData} (FD : FunD K d_value_of.name d_value_of.qual (defArgs st_value_of) (defBody st_value_of) (defScope st_value_of) [] [] f fd) : Binds K fd ["one", "other", "pair"] [] := FD.bindsN fun _ _ _ _ _ _ us hl => match us, hl with | [_, _, _], _ => rfl
theorem fng_value_of (hs : Hs K mg) (ht : Lt base K mg) {fd : FuncData} (FD : FunD K d_value_of.name d_value_of.qual (defArgs st_value_of) (defBody st_value_of) (defScope st_value_of) [] [] (d_value_of.ad K) fd) : FnG P w K mg base 4 (d_value_of.ad K) fd ["one", "other", "pair"] (spF ⟨K, P, w, Tb K⟩ 3 F_value_of) := by
  refine fng_cal FD sc_value_of rfl fun cdv A outer s H E B => ?_
  exact (ppss_cons (pps_expr (k_def (cal_require_books hs ht).iso B.room (by decide) B.gd B.tk (ppa_cons (pv 0) (ppa_cons (pv 1) ppa_nil)))) (ppss_cons (pst 3 B.nd (pp_and (k_isO .tup hs.m_isinstance hs.m_tuple (by decide) (dt_tuple hs) (pv 2)) (pp_one (c_eq B.hu (k_lenN (ppa_cons (pv 2) ppa_nil) hs.m_len) pp_int)))) (ppss_cons (pps_if (ppt_w (ppw_or (ppt_not (ppt_val (pv 3))) (ppw_or (ppt_not (ppt_val (k_def (cal_is_value_of hs ht).iso B.room (by decide) B.gd B.tk (ppa_cons (pv 0) (ppa_cons (pp_subN B.hu (pv 2) pp_int) ppa_nil))))) (ppw_one (ppt_not (ppt_val (k_def (cal_is_value_of hs ht).iso B.room (by decide) B.gd B.tk (ppa_cons (pv 1) (ppa_cons (pp_subN B.hu (pv 2) pp_int) ppa_nil))))))))) (ppss_one (pps_raise (xcW_of hs.x_InvalidOperation hs.g_InvalidOperation rfl) B.calm B.tk)) ppss_nil) (ppss_cons (pps_expr (k_def (cal_require_product hs ht).iso B.room (by decide) B.gd B.tk (ppa_cons (pv 0) (ppa_cons (pv 1) ppa_nil)))) (ppss_one (pps_ret (pp_add (pp_mul (pp_subN B.hu (pv 2) pp_int) (pp_fld (f := "own_size") (T := Tb K) rfl nmI (by decide) (df_own_size hs) (pv 1))) (pp_subN B.hu (pv 2) pp_int))))))))
theorem cal_value_of (hs : Hs K mg) (ht : Lt base K mg) : CalW P w K mg base (Tb K) "value_of" 3 F_value_of 4 := by
  obtain ⟨fd, FD⟩ := hs.d_value_of
  exact ⟨_, fd, _, fng_value_of hs ht FD, hs.g_value_of, FD.kp, bd_value_of FD⟩
theorem sc_pair_of : FnScope ["one", "other", "value"] ["one", "other", "value"] (defScope st_pair_of) := ⟨rfl, rfl, rfl, by decide +kernel, rfl, by decide +kernel, by decide +kernel⟩
theorem bd_pair_of {f : Addr} {fd : FuncData} (FD : FunD K d_pair_of.name d_pair_of.qual (defArgs st_pair_of) (defBody st_pair_of) (defScope st_pair_of) [] [] f fd) : Binds K fd ["one", "other", "value"] [] := FD.bindsN fun _ _ _ _ _ _ us hl => match us, hl with | [_, _, _], _ => rfl
theorem fng_pair_of (hs : Hs K mg) (ht : Lt base K mg) {fd : FuncData} (FD : FunD K d_pair_of.name d_pair_of.qual (defArgs st_pair_of) (defBody st_pair_of) (defScope st_pair_of) [] [] (d_pair_of.ad K) fd) : FnG P w K mg base 4 (d_pair_of.ad K) fd ["one", "other", "value"] (spF ⟨K, P, w, Tb K⟩ 3 F_pair_of) := by
  refine fng_cal FD sc_pair_of rfl fun cdv A outer s H E B => ?_
  exact (ppss_cons (pps_expr (k_def (cal_require_books hs ht).iso B.room (by decide) B.gd B.tk (ppa_cons (pv 0) (ppa_cons (pv 1) ppa_nil)))) (ppss_cons (pps_if (ppt_not (ppt_val (k_def (cal_is_value_of_product hs ht).iso B.room (by decide) B.gd B.tk (ppa_cons (pv 0) (ppa_cons (pv 1) (ppa_cons (pv 2) ppa_nil)))))) (ppss_one (pps_raiseV (xv_InvalidNumber hs) B.calm B.room (by decide) B.tk (pv 2))) ppss_nil) (ppss_cons (pps_expr (k_def (cal_require_product hs ht).iso B.room (by decide) B.gd B.tk (ppa_cons (pv 0) (ppa_cons (pv 1) ppa_nil)))) (ppss_one (pps_ret (pp_tup (ppa_cons (pp_div (pv 2) (pp_fld (f := "own_size") (T := Tb K) rfl nmI (by decide) (df_own_size hs) (pv 1))) (ppa_cons (pp_mod (pv 2) (pp_fld (f := "own_size") (T := Tb K) rfl nmI (by decide) (df_own_size hs) (pv 1))) ppa_nil))))))))
theorem cal_pair_of (hs : Hs K mg) (ht : Lt base K mg) : CalW P w K mg base (Tb K) "pair_of" 3 F_pair_of 4 := by
  obtain ⟨fd, FD⟩ := hs.d_pair_of
  exact ⟨_, fd, _, fng_pair_of hs ht FD, hs.g_pair_of, FD.kp, bd_pair_of FD⟩
theorem sc_product : FnScope ["one", "other"] ["one", "other"] (defScope st_product) := ⟨rfl, rfl, rfl, by decide +kernel, rfl, by decide +kernel, by decide +kernel⟩
theorem bd_product {f : Addr} {fd : FuncData} (FD : FunD K d_product.name d_product.qual (defArgs st_product) (defBody st_product) (defScope st_product) [] [] f fd) : Binds K fd ["one", "other"] [] := FD.bindsN fun _ _ _ _ _ _ us hl => match us, hl with | [_, _], _ => rfl
theorem fng_product (hs : Hs K mg) (ht : Lt base K mg) {fd : FuncData} (FD : FunD K d_product.name d_product.qual (defArgs st_product) (defBody st_product) (defScope st_product) [] [] (d_product.ad K) fd) : FnG P w K mg base 9 (d_product.ad K) fd ["one", "other"] (spF ⟨K, P, w, Tb K⟩ 2 F_product) := by
  refine fng_cal FD sc_product rfl fun cdv A outer s H E B => ?_
  exact (ppss_cons (pps_expr (k_def (cal_require_books hs ht).iso B.room (by decide) B.gd B.tk (ppa_cons (pv 0) (ppa_cons (pv 1) ppa_nil)))) (ppss_cons (pps_expr (k_def (cal_require_product hs ht).iso B.room (by decide) B.gd B.tk (ppa_cons (pv 0) (ppa_cons (pv 1) ppa_nil)))) (ppss_one (pps_ret (k_def (cal_product_of hs ht).iso B.room (by decide) B.gd B.tk (ppa_cons (pv 0) (ppa_cons (pv 1) ppa_nil)))))))
theorem cal_product (hs : Hs K mg) (ht : Lt base K mg) : CalW P w K mg base (Tb K) "product" 2 F_product 9 := by
  obtain ⟨fd, FD⟩ := hs.d_product
  exact ⟨_, fd, _, fng_product hs ht FD, hs.g_product, FD.kp, bd_product FD⟩
theorem sc__law_all_met : FnScope ["_law_one", "_law_other", "_law_value", "_law_tables", "_law_told"] ["_law_one", "_law_other", "_law_value", "_law_tables"] (defScope st__law_all_met) := ⟨rfl, rfl, rfl, by decide +kernel, rfl, by decide +kernel, by decide +kernel⟩
theorem bd__law_all_met {f : Addr} {fd : FuncData} (FD : FunD K d__law_all_met.name d__law_all_met.qual (defArgs st__law_all_met) (defBody st__law_all_met) (defScope st__law_all_met) [] [] f fd) : Binds K fd ["_law_one", "_law_other", "_law_value", "_law_tables"] [] := FD.bindsN fun _ _ _ _ _ _ us hl => match us, hl with | [_, _, _, _], _ => rfl
theorem fng__law_all_met (hs : Hs K mg) (ht : Lt base K mg) {fd : FuncData} (FD : FunD K d__law_all_met.name d__law_all_met.qual (defArgs st__law_all_met) (defBody st__law_all_met) (defScope st__law_all_met) [] [] (d__law_all_met.ad K) fd) : FnG P w K mg base 12 (d__law_all_met.ad K) fd ["_law_one", "_law_other", "_law_value", "_law_tables"] (spF ⟨K, P, w, Tb K⟩ 4 F__law_all_met) := by
  refine fng_calL (p := ("_law_all_met", none)) FD sc__law_all_met rfl fun A outer s H E B => ?_
  have lt : LamT (cxOf (L2.CX P w) P w K mg base ["_law_one", "_law_other", "_law_value", "_law_tables", "_law_told"] d__law_all_met.qual (defScope st__law_all_met) (He.fAd K ("_law_all_met", none)) (.ref (He.codeOf K ("_law_all_met", none))) A outer s H E) (Tb K) := ⟨_, _, ht _ (List.mem_map.mpr ⟨("_law_all_met", none), by decide, rfl⟩), rfl, List.mem_of_getElem? (i := 0) rfl, fun p hp hq => by
    simp only [Tb, List.mem_cons, List.not_mem_nil, or_false] at hp
    rcases hp with rfl | rfl | rfl
    · rfl
    · exact absurd hq hs.tn__law_right__law_all_met
    · exact absurd hq hs.tn_law__law_all_met⟩
  exact (ppss_cons (pst 4 B.nd (pp_lst true (ppa_cons (pp_lamX (k := 9) (lm_met hs) lt (xm_ok hs) (B.mono (by decide)) (by kernel_rfl) (by kernel_rfl) rfl (by decide +kernel) (fun _ _ _ _ _ => rfl) (fun A outer s H E f c B => (k_def (cal_product hs ht).iso B.room (by decide) B.gd B.tk (ppa_cons (pv 0) (ppa_cons (pv 1) ppa_nil))))) ppa_nil))) (ppss_cons (pps_expr (m_app (pv 4) (ppa_cons (pp_lamX (k := 4) (lm_met hs) lt (xm_ok hs) (B.mono (by decide)) (by kernel_rfl) (by kernel_rfl) rfl (by decide +kernel) (fun _ _ _ _ _ => rfl) (fun A outer s H E f c B => (k_def (cal_pair_of hs ht).iso B.room (by decide) B.gd B.tk (ppa_cons (pv 0) (ppa_cons (pv 1) (ppa_cons (pp_subN B.hu (pv 2) pp_int) ppa_nil)))))) ppa_nil))) (ppss_cons (pps_expr (m_app (pv 4) (ppa_cons (pp_lamX (k := 4) (lm_met hs) lt (xm_ok hs) (B.mono (by decide)) (by kernel_rfl) (by kernel_rfl) rfl (by decide +kernel) (fun _ _ _ _ _ => rfl) (fun A outer s H E f c B => (k_def (cal_value_of hs ht).iso B.room (by decide) B.gd B.tk (ppa_cons (pv 0) (ppa_cons (pv 1) (ppa_cons (pp_subN B.hu (pv 2) pp_int) ppa_nil)))))) ppa_nil))) (ppss_cons (pps_expr (m_app (pv 4) (ppa_cons (pp_lamX (k := 5) (lm_met hs) lt (xm_ok hs) (B.mono (by decide)) (by kernel_rfl) (by kernel_rfl) rfl (by decide +kernel) (fun _ _ _ _ _ => rfl) (fun A outer s H E f c B => (k_def (cal_paired hs ht).iso B.room (by decide) B.gd B.tk (ppa_cons (pv 0) (ppa_cons (pv 1) (ppa_cons (pp_subN B.hu (pv 2) pp_int) (ppa_cons (pp_subN B.hu (pv 2) pp_int) ppa_nil))))))) ppa_nil))) (ppss_cons (pps_expr (m_app (pv 4) (ppa_cons (pp_lamX (k := 4) (lm_met hs) lt (xm_ok hs) (B.mono (by decide)) (by kernel_rfl) (by kernel_rfl) rfl (by decide +kernel) (fun _ _ _ _ _ => rfl) (fun A outer s H E f c B => (k_def (cal_parted hs ht).iso B.room (by decide) B.gd B.tk (ppa_cons (pv 0) (ppa_cons (pv 1) (ppa_cons (pp_subN B.hu (pv 2) pp_int) ppa_nil)))))) ppa_nil))) (ppss_cons (pps_expr (m_app (pv 4) (ppa_cons (pp_lamX (k := 9) (lm_met hs) lt (xm_ok hs) (B.mono (by decide)) (by kernel_rfl) (by kernel_rfl) rfl (by decide +kernel) (fun _ _ _ _ _ => rfl) (fun A outer s H E f c B => (k_def (cal_chooser_of_both hs ht).iso B.room (by decide) B.gd B.tk (ppa_cons (pv 0) (ppa_cons (pv 1) (ppa_cons (pp_subN B.hu (pv 3) pp_int) (ppa_cons (pp_subN B.hu (pv 3) pp_int) ppa_nil))))))) ppa_nil))) (ppss_one (pps_ret (pp_fzN (pv 4))))))))))
theorem cal__law_all_met (hs : Hs K mg) (ht : Lt base K mg) : CalW P w K mg base (Tb K) "_law_all_met" 4 F__law_all_met 12 := by
  obtain ⟨fd, FD⟩ := hs.d__law_all_met
  exact ⟨_, fd, _, fng__law_all_met hs ht FD, hs.g__law_all_met, FD.kp, bd__law_all_met FD⟩
theorem sc__law_grab : FnScope ["_law_sack_here", "_law_total", "_law_one", "_law_two", "_law_found"] ["_law_sack_here", "_law_total"] (defScope st__law_grab) := ⟨rfl, rfl, rfl, by decide +kernel, rfl, by decide +kernel, by decide +kernel⟩
theorem bd__law_grab {f : Addr} {fd : FuncData} (FD : FunD K d__law_grab.name d__law_grab.qual (defArgs st__law_grab) (defBody st__law_grab) (defScope st__law_grab) [] [] f fd) : Binds K fd ["_law_sack_here", "_law_total"] [] := FD.bindsN fun _ _ _ _ _ _ us hl => match us, hl with | [_, _], _ => rfl
theorem fng__law_grab (hs : Hs K mg) (ht : Lt base K mg) {fd : FuncData} (FD : FunD K d__law_grab.name d__law_grab.qual (defArgs st__law_grab) (defBody st__law_grab) (defScope st__law_grab) [] [] (d__law_grab.ad K) fd) : FnG P w K mg base 1 (d__law_grab.ad K) fd ["_law_sack_here", "_law_total"] (spF ⟨K, P, w, Tb K⟩ 2 F__law_grab) := by
  refine fng_cal FD sc__law_grab rfl fun cdv A outer s H E B => ?_
  exact (ppss_cons (pps_if (t_gt B.hu (pp_sub1 B.hu (pv 0) pp_int) pp_int) (ppss_cons (pst 4 B.nd (pp_mod (k_int (ppa_cons (pp_sub1 B.hu (pv 0) pp_int) ppa_nil) hs.m_int) (pv 1))) (ppss_cons (pps_asg (pp_div (pp_sub1 B.hu (pv 0) pp_int) (pv 1)) (ppg_sub2 B.hu (pv 0) pp_int)) (ppss_one (pps_ret (pv 4))))) ppss_nil) (ppss_cons (pps_asg (pp_add (pp_sub1 B.hu (pv 0) pp_int) pp_int) (ppg_sub2 B.hu (pv 0) pp_int)) (ppss_cons (pst 2 B.nd (pp_mod (k_int (ppa_cons (pp_add (pp_sub1 B.hu (pv 0) pp_int) (pp_mul pp_int (pp_sub1 B.hu (pv 0) pp_int))) ppa_nil) hs.m_int) pp_int)) (ppss_cons (pst 3 B.nd (pp_add (pp_mul (pp_mod (k_int (ppa_cons (pp_mul (pv 2) (pv 2)) ppa_nil) hs.m_int) pp_int) (pv 2)) (pp_mul pp_int (pp_sub1 B.hu (pv 0) pp_int)))) (ppss_one (pps_ret (pp_mod (k_int (ppa_cons (pp_div (pp_mod (k_int (ppa_cons (pv 3) ppa_nil) hs.m_int) pp_int) pp_int) ppa_nil) hs.m_int) (pv 1))))))))
theorem cal__law_grab (hs : Hs K mg) (ht : Lt base K mg) : CalW P w K mg base (Tb K) "_law_grab" 2 F__law_grab 1 := by
  obtain ⟨fd, FD⟩ := hs.d__law_grab
  exact ⟨_, fd, _, fng__law_grab hs ht FD, hs.g__law_grab, FD.kp, bd__law_grab FD⟩
theorem sc__law_one_of : FnScope ["_law_sack_here", "_law_items"] ["_law_sack_here", "_law_items"] (defScope st__law_one_of) := ⟨rfl, rfl, rfl, by decide +kernel, rfl, by decide +kernel, by decide +kernel⟩
theorem bd__law_one_of {f : Addr} {fd : FuncData} (FD : FunD K d__law_one_of.name d__law_one_of.qual (defArgs st__law_one_of) (defBody st__law_one_of) (defScope st__law_one_of) [] [] f fd) : Binds K fd ["_law_sack_here", "_law_items"] [] := FD.bindsN fun _ _ _ _ _ _ us hl => match us, hl with | [_, _], _ => rfl
theorem fng__law_one_of (hs : Hs K mg) (ht : Lt base K mg) {fd : FuncData} (FD : FunD K d__law_one_of.name d__law_one_of.qual (defArgs st__law_one_of) (defBody st__law_one_of) (defScope st__law_one_of) [] [] (d__law_one_of.ad K) fd) : FnG P w K mg base 2 (d__law_one_of.ad K) fd ["_law_sack_here", "_law_items"] (spF ⟨K, P, w, Tb K⟩ 2 F__law_one_of) := by
  refine fng_cal FD sc__law_one_of rfl fun cdv A outer s H E B => ?_
  exact (ppss_one (pps_ret (pp_sub1 B.hu (pv 1) (k_def (cal__law_grab hs ht) B.room (by decide) B.gd B.tk (ppa_cons (pv 0) (ppa_cons (k_lenA (ppa_cons (pv 1) ppa_nil) hs.m_len) ppa_nil))))))
theorem cal__law_one_of (hs : Hs K mg) (ht : Lt base K mg) : CalW P w K mg base (Tb K) "_law_one_of" 2 F__law_one_of 2 := by
  obtain ⟨fd, FD⟩ := hs.d__law_one_of
  exact ⟨_, fd, _, fng__law_one_of hs ht FD, hs.g__law_one_of, FD.kp, bd__law_one_of FD⟩
theorem sc_Book_names : FnScope ["self"] ["self"] (defScope st_Book_names) := ⟨rfl, rfl, rfl, by decide +kernel, rfl, by decide +kernel, by decide +kernel⟩
theorem bd_Book_names {f : Addr} {fd : FuncData} (FD : FunD K d_Book_names.name d_Book_names.qual (defArgs st_Book_names) (defBody st_Book_names) (defScope st_Book_names) [] [] f fd) : Binds K fd ["self"] [] := FD.bindsN fun _ _ _ _ _ _ us hl => match us, hl with | [_], _ => rfl
theorem fng_Book_names (hs : Hs K mg) (ht : Lt base K mg) {fd : FuncData} (FD : FunD K d_Book_names.name d_Book_names.qual (defArgs st_Book_names) (defBody st_Book_names) (defScope st_Book_names) [] [] (d_Book_names.ad K) fd) : FnG P w K mg base 1 (d_Book_names.ad K) fd ["self"] (spF ⟨K, P, w, Tb K⟩ 1 F_Book_names) := by
  refine fng_cal FD sc_Book_names rfl fun cdv A outer s H E B => ?_
  exact (ppss_one (pps_ret (k_tupA (ppa_cons (pp_fld (f := "own_ties") (T := Tb K) rfl nmI (by decide) (df_own_ties hs) (pv 0)) ppa_nil) B.calm hs.m_tuple)))
theorem prp_Book_names (hs : Hs K mg) (ht : Lt base K mg) : PrpW P w K mg base (Tb K) 0 "names" F_Book_names 1 := by
  obtain ⟨fd, FD⟩ := hs.d_Book_names
  exact ⟨hs.cl_Book, _, _, fd, _, fng_Book_names hs ht FD, hs.pr_Book_names, bd_Book_names FD⟩
theorem dp_names (hs : Hs K mg) (ht : Lt base K mg) : ∀ c F, Dp_names c = some F → ∃ k, k + 1 ≤ 2 ∧ PrpW P w K mg base (Tb K) c "names" F k := fun c F h => by
  unfold Dp_names at h
  split at h
  · cases h; exact ⟨1, by decide, (prp_Book_names hs ht).iso⟩
  · cases h
theorem sc__law_right : FnScope ["_law_sack_here", "_law_two", "_law_fine", "_law_tables", "_law_bad", "_law_at", "_law_pair", "_law_row", "_law_table", "_law_odd", "_law_due"] ["_law_sack_here", "_law_two", "_law_fine", "_law_tables"] (defScope st__law_right) := ⟨rfl, rfl, rfl, by decide +kernel, rfl, by decide +kernel, by decide +kernel⟩
theorem bd__law_right {f : Addr} {fd : FuncData} (FD : FunD K d__law_right.name d__law_right.qual (defArgs st__law_right) (defBody st__law_right) (defScope st__law_right) [] [] f fd) : Binds K fd ["_law_sack_here", "_law_two", "_law_fine", "_law_tables"] [] := FD.bindsN fun _ _ _ _ _ _ us hl => match us, hl with | [_, _, _, _], _ => rfl
theorem fng__law_right (hs : Hs K mg) (ht : Lt base K mg) {fd : FuncData} (FD : FunD K d__law_right.name d__law_right.qual (defArgs st__law_right) (defBody st__law_right) (defScope st__law_right) [] [] (d__law_right.ad K) fd) : FnG P w K mg base 13 (d__law_right.ad K) fd ["_law_sack_here", "_law_two", "_law_fine", "_law_tables"] (spF ⟨K, P, w, Tb K⟩ 4 F__law_right) := by
  refine fng_calL (p := ("_law_right", none)) FD sc__law_right rfl fun A outer s H E B => ?_
  have lt : LamT (cxOf (L2.CX P w) P w K mg base ["_law_sack_here", "_law_two", "_law_fine", "_law_tables", "_law_bad", "_law_at", "_law_pair", "_law_row", "_law_table", "_law_odd", "_law_due"] d__law_right.qual (defScope st__law_right) (He.fAd K ("_law_right", none)) (.ref (He.codeOf K ("_law_right", none))) A outer s H E) (Tb K) := ⟨_, _, ht _ (List.mem_map.mpr ⟨("_law_right", none), by decide, rfl⟩), rfl, List.mem_of_getElem? (i := 1) rfl, fun p hp hq => by
    simp only [Tb, List.mem_cons, List.not_mem_nil, or_false] at hp
    rcases hp with rfl | rfl | rfl
    · exact absurd hq hs.tn__law_all_met__law_right
    · rfl
    · exact absurd hq hs.tn_law__law_right⟩
  exact (ppss_cons (pst 4 B.nd (k_def (cal__law_one_of hs ht) B.room (by decide) B.gd B.tk (ppa_cons (pv 0) (ppa_cons (pp_lst false (ppa_cons pp_non (ppa_cons pp_int (ppa_cons (psS [98, 111, 111, 107]) (ppa_cons (pp_tup ppa_nil) (ppa_cons (pp_d0 false) (ppa_cons (pp_lst false (ppa_cons (pv 1) ppa_nil)) (ppa_cons pp_bl (ppa_cons (pp_prop (fun c F h => let ⟨k, hk, m⟩ := dp_names hs ht c F h; ⟨k, Nat.le_trans hk (by decide), m⟩) B.room B.gd (pv 1)) ppa_nil))))))))) ppa_nil)))) (ppss_cons (pst 5 B.nd (k_def (cal__law_one_of hs ht) B.room (by decide) B.gd B.tk (ppa_cons (pv 0) (ppa_cons (pp_lst false (ppa_cons pp_int (ppa_cons (pp_sub pp_int pp_int) (ppa_cons pp_non (ppa_cons pp_bl (ppa_cons (psS [48]) (ppa_cons (pp_tup (ppa_cons pp_int ppa_nil)) (ppa_cons (pp_pow pp_int pp_int) (ppa_cons (pp_lst false ppa_nil) ppa_nil))))))))) ppa_nil)))) (ppss_cons (pst 6 B.nd (k_def (cal__law_one_of hs ht) B.room (by decide) B.gd B.tk (ppa_cons (pv 0) (ppa_cons (pp_lst false (ppa_cons pp_non (ppa_cons pp_int (ppa_cons (pp_tup ppa_nil) (ppa_cons (pp_tup (ppa_cons pp_int ppa_nil)) (ppa_cons (pp_tup (ppa_cons pp_int (ppa_cons pp_int ppa_nil))) (ppa_cons (pp_tup (ppa_cons pp_int (ppa_cons pp_int ppa_nil))) (ppa_cons (pp_lst false (ppa_cons pp_int (ppa_cons pp_int ppa_nil))) (ppa_cons (pp_tup (ppa_cons pp_int (ppa_cons pp_bl ppa_nil))) (ppa_cons (pp_tup (ppa_cons pp_int (ppa_cons pp_non ppa_nil))) (ppa_cons (pp_tup (ppa_cons pp_int (ppa_cons pp_int (ppa_cons pp_int ppa_nil)))) (ppa_cons (psS [48, 49]) (ppa_cons (pp_d0 false) ppa_nil))))))))))))) ppa_nil)))) (ppss_cons (pst 7 B.nd (k_def (cal__law_one_of hs ht) B.room (by decide) B.gd B.tk (ppa_cons (pv 0) (ppa_cons (pp_lst false (ppa_cons pp_non (ppa_cons pp_int (ppa_cons (pp_tup (ppa_cons pp_int ppa_nil)) (ppa_cons (pp_tup (ppa_cons (pp_sub pp_int pp_int) ppa_nil)) (ppa_cons (pp_lst false (ppa_cons pp_int (ppa_cons pp_int ppa_nil))) (ppa_cons (psS [48, 49]) (ppa_cons (pp_tup (ppa_cons pp_bl ppa_nil)) (ppa_cons (pp_tup (ppa_cons pp_non ppa_nil)) (ppa_cons (pp_d0 false) (ppa_cons (pp_tup (ppa_cons (pp_tup (ppa_cons pp_int ppa_nil)) ppa_nil)) ppa_nil))))))))))) ppa_nil)))) (ppss_cons (pst 8 B.nd (k_def (cal__law_one_of hs ht) B.room (by decide) B.gd B.tk (ppa_cons (pv 0) (ppa_cons (pp_lst false (ppa_cons pp_non (ppa_cons pp_int (ppa_cons (pp_d0 false) (ppa_cons (pp_dispN false B.hu (ppd_cons (pp_tup (ppa_cons pp_int ppa_nil)) pp_int ppd_nil)) (ppa_cons (pp_tup (ppa_cons pp_int (ppa_cons pp_int (ppa_cons pp_int ppa_nil)))) (ppa_cons (pp_dispN false B.hu (ppd_cons (pp_tup (ppa_cons pp_int ppa_nil)) pp_int (ppd_cons (pp_tup (ppa_cons pp_int (ppa_cons pp_int ppa_nil))) pp_int (ppd_cons (pp_tup (ppa_cons pp_int ppa_nil)) pp_int ppd_nil)))) (ppa_cons (pv 1) ppa_nil)))))))) ppa_nil)))) (ppss_cons (pst 9 B.nd (pp_lst false (ppa_cons (pv 5) (ppa_cons (pv 6) (ppa_cons (pv 7) (ppa_cons (pv 7) ppa_nil)))))) (ppss_cons (pps_if (t_ne B.hu (k_def (cal__law_all_met hs ht).iso B.room (by decide) B.gd B.tk (ppa_cons (pv 4) (ppa_cons (pv 4) (ppa_cons (pv 9) (ppa_cons (pp_lst false (ppa_cons (pv 8) (ppa_cons (pv 8) ppa_nil))) ppa_nil))))) (pp_mulA (pp_lst false (ppa_cons (psS [98, 111, 111, 107]) ppa_nil)) pp_int)) (ppss_one (pps_ret pp_bl)) ppss_nil) (ppss_cons (pps_if (t_ne B.hu (k_def (cal__law_all_met hs ht).iso B.room (by decide) B.gd B.tk (ppa_cons (pv 1) (ppa_cons (pv 4) (ppa_cons (pv 9) (ppa_cons (pp_lst false (ppa_cons (pv 8) (ppa_cons (pv 8) ppa_nil))) ppa_nil))))) (pp_mulA (pp_lst false (ppa_cons (psS [98, 111, 111, 107]) ppa_nil)) pp_int)) (ppss_one (pps_ret pp_bl)) ppss_nil) (ppss_cons (pst 10 B.nd (pp_lst false (ppa_cons (psS [102, 105, 110, 101]) (ppa_cons (pp_add (psS [110, 117, 109, 98, 101, 114, 32]) (k_reprA (ppa_cons (pv 5) ppa_nil) B.hu B.gd hs.m_repr)) (ppa_cons (psS [111, 112, 101, 114, 97, 116, 105, 111, 110]) (ppa_cons (psS [111, 112, 101, 114, 97, 116, 105, 111, 110]) (ppa_cons (psS [111, 112, 101, 114, 97, 116, 105, 111, 110]) (ppa_cons (psS [116, 97, 98, 108, 101]) ppa_nil)))))))) (ppss_cons (pps_if (t_ne B.hu (k_def (cal__law_all_met hs ht).iso B.room (by decide) B.gd B.tk (ppa_cons (pv 1) (ppa_cons (pv 1) (ppa_cons (pv 9) (ppa_cons (pp_lst false (ppa_cons (pv 8) (ppa_cons (pp_subN B.hu (pv 3) pp_int) ppa_nil))) ppa_nil))))) (pv 10)) (ppss_one (pps_ret pp_bl)) ppss_nil) (ppss_cons (pps_if (t_ne B.hu (pp_lamX (k := 9) (lm_met hs) lt (xm_ok hs) (B.mono (by decide)) (by kernel_rfl) (by kernel_rfl) rfl (by decide +kernel) (fun _ _ _ _ _ => rfl) (fun A outer s H E f c B => (k_def (cal_chooser_of_both hs ht).iso B.room (by decide) B.gd B.tk (ppa_cons (pv 1) (ppa_cons (pv 1) (ppa_cons (pp_subN B.hu (pv 3) pp_int) (ppa_cons (pv 8) ppa_nil))))))) (psS [116, 97, 98, 108, 101])) (ppss_one (pps_ret pp_bl)) ppss_nil) (ppss_one (pps_ret (c_eq B.hu (k_def (cal__law_all_met hs ht).iso B.room (by decide) B.gd B.tk (ppa_cons (pv 1) (ppa_cons (pv 1) (ppa_cons (pv 2) (ppa_cons (pv 3) ppa_nil))))) (pp_mulA (pp_lst false (ppa_cons (psS [102, 105, 110, 101]) ppa_nil)) pp_int)))))))))))))))
theorem cal__law_right (hs : Hs K mg) (ht : Lt base K mg) : CalW P w K mg base (Tb K) "_law_right" 4 F__law_right 13 := by
  obtain ⟨fd, FD⟩ := hs.d__law_right
  exact ⟨_, fd, _, fng__law_right hs ht FD, hs.g__law_right, FD.kp, bd__law_right FD⟩
theorem sc__law_sack : FnScope ["_law_script", "_law_at", "_law_cell", "_law_great", "_law_mixed"] ["_law_script", "_law_at"] (defScope st__law_sack) := ⟨rfl, rfl, rfl, by decide +kernel, rfl, by decide +kernel, by decide +kernel⟩
theorem bd__law_sack {f : Addr} {fd : FuncData} (FD : FunD K d__law_sack.name d__law_sack.qual (defArgs st__law_sack) (defBody st__law_sack) (defScope st__law_sack) [] [] f fd) : Binds K fd ["_law_script", "_law_at"] [] := FD.bindsN fun _ _ _ _ _ _ us hl => match us, hl with | [_, _], _ => rfl
theorem fng__law_sack (hs : Hs K mg) (ht : Lt base K mg) {fd : FuncData} (FD : FunD K d__law_sack.name d__law_sack.qual (defArgs st__law_sack) (defBody st__law_sack) (defScope st__law_sack) [] [] (d__law_sack.ad K) fd) : FnG P w K mg base 1 (d__law_sack.ad K) fd ["_law_script", "_law_at"] (spF ⟨K, P, w, Tb K⟩ 2 F__law_sack) := by
  refine fng_cal FD sc__law_sack rfl fun cdv A outer s H E B => ?_
  exact (ppss_cons (pst 2 B.nd (pp_ifExp (t_lt B.hu (pv 1) (k_lenA (ppa_cons (pv 0) ppa_nil) hs.m_len)) (pp_sub1 B.hu (pv 0) (pv 1)) (pp_add (pp_mul pp_int (pv 1)) pp_int))) (ppss_cons (pst 3 B.nd (pp_mod (k_int (ppa_cons (k_abs (ppa_cons (pv 2) ppa_nil) hs.m_abs) ppa_nil) hs.m_int) (pp_pow (pp_pow pp_int pp_int) pp_int))) (ppss_cons (pst 4 B.nd (pp_add (pp_add (pp_add (pp_mul (pp_mod (k_int (ppa_cons (pv 3) ppa_nil) hs.m_int) pp_int) pp_int) (pp_mul pp_int (pv 1))) (pp_mul pp_int (k_int (ppa_cons (c_lt B.hu (pv 2) pp_int) ppa_nil) hs.m_int))) pp_int)) (ppss_one (pps_ret (pp_lst true (ppa_cons (k_max (ppa_cons pp_int (ppa_cons (pp_sub (pv 3) (pp_pow pp_int pp_int)) ppa_nil)) B.calm hs.m_max) (ppa_cons (pp_mod (k_int (ppa_cons (pv 4) ppa_nil) hs.m_int) pp_int) (ppa_cons pp_int ppa_nil)))))))))
theorem cal__law_sack (hs : Hs K mg) (ht : Lt base K mg) : CalW P w K mg base (Tb K) "_law_sack" 2 F__law_sack 1 := by
  obtain ⟨fd, FD⟩ := hs.d__law_sack
  exact ⟨_, fd, _, fng__law_sack hs ht FD, hs.g__law_sack, FD.kp, bd__law_sack FD⟩
theorem sc_law : FnScope ["_law_script", "_law_at", "_law_more", "_law_two", "_law_table", "_law_fine", "_law_tables", "_law_sack_here", "_law_turn", "_law_far", "_law_wide", "_law_short", "_law_lone"] ["_law_script"] (defScope st_law) := ⟨rfl, rfl, rfl, by decide +kernel, rfl, by decide +kernel, by decide +kernel⟩
theorem bd_law {f : Addr} {fd : FuncData} (FD : FunD K d_law.name d_law.qual (defArgs st_law) (defBody st_law) (defScope st_law) [] [] f fd) : Binds K fd ["_law_script"] [] := FD.bindsN fun _ _ _ _ _ _ us hl => match us, hl with | [_], _ => rfl
theorem fng_law (hs : Hs K mg) (ht : Lt base K mg) {fd : FuncData} (FD : FunD K d_law.name d_law.qual (defArgs st_law) (defBody st_law) (defScope st_law) [] [] (d_law.ad K) fd) : FnG P w K mg base 14 (d_law.ad K) fd ["_law_script"] (spF ⟨K, P, w, Tb K⟩ 1 F_law) := by
  refine fng_calL (p := ("law", none)) FD sc_law rfl fun A outer s H E B => ?_
  have lt : LamT (cxOf (L2.CX P w) P w K mg base ["_law_script", "_law_at", "_law_more", "_law_two", "_law_table", "_law_fine", "_law_tables", "_law_sack_here", "_law_turn", "_law_far", "_law_wide", "_law_short", "_law_lone"] d_law.qual (defScope st_law) (He.fAd K ("law", none)) (.ref (He.codeOf K ("law", none))) A outer s H E) (Tb K) := ⟨_, _, ht _ (List.mem_map.mpr ⟨("law", none), by decide, rfl⟩), rfl, List.mem_of_getElem? (i := 2) rfl, fun p hp hq => by
    simp only [Tb, List.mem_cons, List.not_mem_nil, or_false] at hp
    rcases hp with rfl | rfl | rfl
    · exact absurd hq hs.tn__law_all_met_law
    · exact absurd hq hs.tn__law_right_law
    · rfl⟩
  exact (ppss_cons (pps_asg (pp_tup (ppa_cons (pp_makeI (mak_Book hs ht) B.room (by decide) B.gd B.tk (ppa_cons pp_int (ppa_cons (pp_disp false (ppd_cons (psS [120, 111, 114]) (pp_tup (ppa_cons pp_int (ppa_cons (pp_tup (ppa_cons (pp_tup (ppa_cons pp_int (ppa_cons pp_int ppa_nil))) (ppa_cons (pp_tup (ppa_cons pp_int (ppa_cons pp_int ppa_nil))) ppa_nil))) ppa_nil))) ppd_nil)) ppa_nil))) (ppa_cons (pp_dispN false B.hu (ppd_cons (pp_tup (ppa_cons pp_int ppa_nil)) pp_int (ppd_cons (pp_tup (ppa_cons pp_int (ppa_cons pp_int ppa_nil))) pp_int (ppd_cons (pp_tup (ppa_cons pp_int ppa_nil)) pp_int ppd_nil)))) ppa_nil))) (ppg_tup B.calm (ppgs_cons (pgn 3 B.nd) (ppgs_cons (pgn 4 B.nd) ppgs_nil)))) (ppss_cons (ppar 5 6 B.calm B.nd (ppa_cons (pp_lst false (ppa_cons pp_int (ppa_cons (pp_tup (ppa_cons pp_int (ppa_cons pp_int ppa_nil))) (ppa_cons (pp_tup (ppa_cons pp_int (ppa_cons pp_int ppa_nil))) (ppa_cons (pp_tup (ppa_cons pp_int (ppa_cons pp_int ppa_nil))) ppa_nil))))) (ppa_cons (pp_lst false (ppa_cons (pv 4) (ppa_cons (pv 4) ppa_nil))) ppa_nil))) (ppss_cons (pps_for B.own B.calm (ppi_range1 gl hs.m_range (ppa_cons (k_max (ppa_cons pp_int (ppa_cons (k_minA (ppa_cons pp_int (ppa_cons (k_lenN (ppa_cons (pv 0) ppa_nil) hs.m_len) ppa_nil)) B.hu B.calm hs.m_min) ppa_nil)) B.calm hs.m_max) ppa_nil)) (pgn 1 B.nd) (ppss_cons (pst 7 B.nd (k_def (cal__law_sack hs ht) B.room (by decide) B.gd B.tk (ppa_cons (pv 0) (ppa_cons (pv 1) ppa_nil)))) (ppss_one (pps_for B.own B.calm (ppi_range1 gl hs.m_range (ppa_cons pp_int ppa_nil)) (pgn 8 B.nd) (ppss_one (pps_if (ppt_not (ppt_val (k_def (cal__law_right hs ht) B.room (by decide) B.gd B.tk (ppa_cons (pv 7) (ppa_cons (pv 3) (ppa_cons (pv 5) (ppa_cons (pv 6) ppa_nil))))))) (ppss_one (pps_ret pp_bl)) ppss_nil)))))) (ppss_cons (ppar 9 10 B.calm B.nd (ppa_cons (pp_makeI (mak_Book hs ht) B.room (by decide) B.gd B.tk (ppa_cons pp_int (ppa_cons (pp_disp false (ppd_cons (psS [122, 122]) (pp_tup (ppa_cons pp_int (ppa_cons (pp_tup (ppa_cons (pp_tup (ppa_cons pp_int (ppa_cons pp_int ppa_nil))) ppa_nil)) ppa_nil))) ppd_nil)) ppa_nil))) (ppa_cons (pp_makeI (mak_Book hs ht) B.room (by decide) B.gd B.tk (ppa_cons pp_int (ppa_cons (pp_disp false (ppd_cons (psS [120, 111, 114]) (pp_tup (ppa_cons pp_int (ppa_cons (pp_tup (ppa_cons (pp_tup (ppa_cons pp_int (ppa_cons pp_int ppa_nil))) ppa_nil)) ppa_nil))) ppd_nil)) ppa_nil))) ppa_nil))) (ppss_cons (ppar 11 12 B.calm B.nd (ppa_cons (pp_makeI (mak_Book hs ht) B.room (by decide) B.gd B.tk (ppa_cons pp_int (ppa_cons (pp_disp false (ppd_cons (psS [120, 111, 114]) (pp_tup (ppa_cons pp_int (ppa_cons (pp_tup (ppa_cons (pp_tup (ppa_cons pp_int ppa_nil)) ppa_nil)) ppa_nil))) ppd_nil)) ppa_nil))) (ppa_cons (pp_makeI (mak_Book hs ht) B.room (by decide) B.gd B.tk (ppa_cons pp_int (ppa_cons (pp_disp false (ppd_cons (psS [122, 122]) (pp_tup (ppa_cons pp_int (ppa_cons (pp_tup ppa_nil) ppa_nil))) ppd_nil)) ppa_nil))) ppa_nil))) (ppss_cons (pst 2 B.nd (pp_dispN false B.hu (ppd_cons (pp_tup (ppa_cons pp_int ppa_nil)) pp_int (ppd_cons (pp_tup (ppa_cons pp_int (ppa_cons pp_int ppa_nil))) pp_int (ppd_cons (pp_tup (ppa_cons pp_int (ppa_cons pp_int (ppa_cons pp_int ppa_nil)))) pp_int (ppd_cons (pp_tup (ppa_cons pp_int (ppa_cons pp_int ppa_nil))) pp_int (ppd_cons (pp_tup (ppa_cons pp_int ppa_nil)) pp_int (ppd_cons (pp_tup (ppa_cons pp_int (ppa_cons pp_int ppa_nil))) pp_int (ppd_cons (pp_tup (ppa_cons pp_int ppa_nil)) pp_int ppd_nil))))))))) (ppss_cons (pps_if (t_ne B.hu (k_def (cal__law_all_met hs ht).iso B.room (by decide) B.gd B.tk (ppa_cons (pv 3) (ppa_cons (pv 9) (ppa_cons (pv 5) (ppa_cons (pv 6) ppa_nil))))) (pp_mulA (pp_lst false (ppa_cons (psS [111, 112, 101, 114, 97, 116, 105, 111, 110]) ppa_nil)) pp_int)) (ppss_one (pps_ret pp_bl)) ppss_nil) (ppss_cons (pps_if (t_ne B.hu (k_def (cal__law_all_met hs ht).iso B.room (by decide) B.gd B.tk (ppa_cons (pv 3) (ppa_cons (pv 11) (ppa_cons (pv 5) (ppa_cons (pv 6) ppa_nil))))) (pp_mulA (pp_lst false (ppa_cons (psS [111, 112, 101, 114, 97, 116, 105, 111, 110]) ppa_nil)) pp_int)) (ppss_one (pps_ret pp_bl)) ppss_nil) (ppss_cons (pps_if (t_ne B.hu (k_def (cal__law_all_met hs ht).iso B.room (by decide) B.gd B.tk (ppa_cons (pv 3) (ppa_cons (pv 10) (ppa_cons (pv 5) (ppa_cons (pp_lst false (ppa_cons (pv 4) (ppa_cons (pv 2) ppa_nil))) ppa_nil))))) (pp_mulA (pp_lst false (ppa_cons (psS [98, 111, 111, 107]) ppa_nil)) pp_int)) (ppss_one (pps_ret pp_bl)) ppss_nil) (ppss_cons (pps_if (t_ne B.hu (k_def (cal__law_all_met hs ht).iso B.room (by decide) B.gd B.tk (ppa_cons (pv 3) (ppa_cons (pv 12) (ppa_cons (pv 5) (ppa_cons (pp_lst false (ppa_cons (pv 4) (ppa_cons (pv 2) ppa_nil))) ppa_nil))))) (pp_mulA (pp_lst false (ppa_cons (psS [111, 112, 101, 114, 97, 116, 105, 111, 110]) ppa_nil)) pp_int)) (ppss_one (pps_ret pp_bl)) ppss_nil) (ppss_one (pps_ret (c_eq B.hu (pp_lamX (k := 5) (lm_met hs) lt (xm_ok hs) (B.mono (by decide)) (by kernel_rfl) (by kernel_rfl) rfl (by decide +kernel) (fun _ _ _ _ _ => rfl) (fun A outer s H E f c B => (k_def (cal_paired hs ht).iso B.room (by decide) B.gd B.tk (ppa_cons (pv 3) (ppa_cons (pv 3) (ppa_cons (pp_tup (ppa_cons pp_int (ppa_cons pp_int ppa_nil))) (ppa_cons (pp_tup (ppa_cons pp_int ppa_nil)) ppa_nil))))))) (psS [111, 112, 101, 114, 97, 116, 105, 111, 110]))))))))))))))
theorem cal_law (hs : Hs K mg) (ht : Lt base K mg) : CalW P w K mg base (Tb K) "law" 1 F_law 14 := by
  obtain ⟨fd, FD⟩ := hs.d_law
  exact ⟨_, fd, _, fng_law hs ht FD, hs.g_law, FD.kp, bd_law FD⟩
end
def ck0 : List (PySem.W.Frag → Bool) := [fk (.free "repr"), fk (.glo "InvalidNumber"), fk (.glo "InvalidBook"), fk (.glo "InvalidChooser"), fk (.glo "InvalidOperation"), fk (.glo "ChooserError"), fk (.free "zip"), fk (.cls "Book"), fk (.noat "Book" "own_size"), fk (.free "tuple"), fk (.int "MAX_VALUES" (4)), fk (.exc "InvalidBook"), fk (.noat "Book" "own_ties"), fk (.free "all"), fk (.free "list"), fk (.exc "InvalidOperation"), fk (.free "len"), ckIns "Book", ckKitT "Book" "tuple" false, fk (.free "isinstance"), ckKitT "Book" "int" false, fk (.free "int"), ckKitT "Book" "bool" false, fk (.free "bool"), fk (.int "GREATEST" (999999999999999999999999999999999999999999999999999999999999)), ckKit (fun _ => .type "NoneType") "Book" false, ckKit (fun _ => .type "bool") "Book" false, ckKit (fun _ => .type "int") "Book" false, ckKit (fun _ => .type "str") "Book" false, ckKit (fun _ => .type "tuple") "Book" false]
def ck1 : List (PySem.W.Frag → Bool) := [ckKit (fun _ => .type "list") "Book" false, ckKit (fun _ => .type "dict") "Book" false, ckKit (fun K => .ref (He.ga K "Book")) "Book" true, fk (.glo "Book"), fk (.free "sorted"), fk (.free "range"), fk (.noat "Book" "own_sets"), ckKitT "Book" "str" false, fk (.free "str"), fk (.int "MAX_LETTERS" (8)), fk (.int "MAX_PLACES" (3)), ckKitT "Book" "dict" false, fk (.free "dict"), fk (.int "MAX_TIES" (8)), fk (.free "super"), ckXd PySem.Challenge.pw_setchooser_k54_errors_of_products.main.file "InvalidNumber" "InvalidNumber.__init__", ckXc B_InvalidNumber i_InvalidNumber n_InvalidNumber m_InvalidNumber "InvalidNumber" "value", fk (.free "set"), fk (.exc "InvalidChooser"), fk (.free "min"), fk (.free "max"), fk (.free "abs"), fun K => L2.xfB K (He.ga K "InvalidNumber"), fun K => He.eqO (PySem.W.findIn K (.ref (He.ga K "InvalidNumber")) "value") (some none), fk (.exm "InvalidBook" "InvalidNumber" false), fk (.exm "InvalidBook" "InvalidBook" true), fk (.exm "InvalidBook" "InvalidChooser" false), fk (.exm "InvalidBook" "InvalidOperation" false), fk (.exm "InvalidBook" "ChooserError" true), fk (.exm "InvalidOperation" "InvalidNumber" false)]
def ck2 : List (PySem.W.Frag → Bool) := [fk (.exm "InvalidOperation" "InvalidBook" false), fk (.exm "InvalidOperation" "InvalidChooser" false), fk (.exm "InvalidOperation" "InvalidOperation" true), fk (.exm "InvalidOperation" "ChooserError" true), fk (.exm "InvalidNumber" "InvalidNumber" true), fk (.exm "InvalidNumber" "InvalidBook" false), fk (.exm "InvalidNumber" "InvalidChooser" false), fk (.exm "InvalidNumber" "InvalidOperation" false), fk (.exm "InvalidNumber" "ChooserError" false), fk (.exm "InvalidChooser" "InvalidNumber" false), fk (.exm "InvalidChooser" "InvalidBook" false), fk (.exm "InvalidChooser" "InvalidChooser" true), fk (.exm "InvalidChooser" "InvalidOperation" false), fk (.exm "InvalidChooser" "ChooserError" true), fk (.exm "ChooserError" "InvalidNumber" false), fk (.exm "ChooserError" "InvalidBook" false), fk (.exm "ChooserError" "InvalidChooser" false), fk (.exm "ChooserError" "InvalidOperation" false), fk (.exm "ChooserError" "ChooserError" true), fun K => decide ((He.cT K ("_law_all_met", none)).2 ≠ (He.cT K ("_law_right", none)).2), fun K => decide ((He.cT K ("_law_all_met", none)).2 ≠ (He.cT K ("law", none)).2), fun K => decide ((He.cT K ("_law_right", none)).2 ≠ (He.cT K ("_law_all_met", none)).2), fun K => decide ((He.cT K ("_law_right", none)).2 ≠ (He.cT K ("law", none)).2), fun K => decide ((He.cT K ("law", none)).2 ≠ (He.cT K ("_law_all_met", none)).2), fun K => decide ((He.cT K ("law", none)).2 ≠ (He.cT K ("_law_right", none)).2), fk (.glo "_law_met"), fk (.glo "paired_row"), fk (.glo "are_alike_in_form"), fk (.glo "require_alike"), fk (.glo "require_product")]
def ck3 : List (PySem.W.Frag → Bool) := [fk (.glo "is_integer"), fk (.glo "is_integer_within"), fk (.glo "is_value_of"), fk (.glo "require_values"), fk (.glo "require_book"), fk (.glo "require_books"), fk (.glo "paired"), fk (.glo "sets_of"), fk (.glo "is_name"), fk (.glo "are_ascending"), fk (.glo "is_row"), fk (.glo "is_tie_of"), fk (.glo "are_ties_of"), fk (.mkr "Book"), fk (.glo "product_of"), fk (.glo "is_set_of"), fk (.glo "is_any_chooser"), fk (.glo "require_chooser"), fk (.glo "chooser_of_both"), fk (.glo "is_value_of_product"), fk (.glo "parted"), fk (.glo "value_of"), fk (.glo "pair_of"), fk (.glo "product"), fk (.glo "_law_all_met"), fk (.glo "_law_grab"), fk (.glo "_law_one_of"), ckProp "Book" "names", fk (.glo "_law_right"), fk (.glo "_law_sack")]
def ck4 : List (PySem.W.Frag → Bool) := [fk (.glo "law")]
def ck : List (PySem.W.Frag → Bool) := ck0 ++ ck1 ++ ck2 ++ ck3 ++ ck4
def fn : List DfX := [d__law_met, d_paired_row, d_are_alike_in_form, d_require_alike, d_require_product, d_is_integer, d_is_integer_within, d_is_value_of, d_require_values, d_require_book, d_require_books, d_paired, d_sets_of, d_is_name, d_are_ascending, d_is_row, d_is_tie_of, d_are_ties_of, d_Book___init__, d_product_of, d_is_set_of, d_is_any_chooser, d_require_chooser, d_chooser_of_both, d_is_value_of_product, d_parted, d_value_of, d_pair_of, d_product, d__law_all_met, d__law_grab, d__law_one_of, d_Book_names, d__law_right, d__law_sack, d_law]
theorem hs_of {K : PySem.W.Frag} {h : Heap} {mg : Str → Option Value} (X : K.In h) (G : h.Ns mainGlobals mg) (c : SaysY ck fn tf h K) (cz : ∀ p ∈ xil, fnC K (xiA K p.1) = p.2.val_) : Hs K mg where
  d__law_met := c.x.def_ 0 (d := d__law_met)
  d_paired_row := c.x.def_ 1 (d := d_paired_row)
  d_are_alike_in_form := c.x.def_ 2 (d := d_are_alike_in_form)
  d_require_alike := c.x.def_ 3 (d := d_require_alike)
  d_require_product := c.x.def_ 4 (d := d_require_product)
  d_is_integer := c.x.def_ 5 (d := d_is_integer)
  d_is_integer_within := c.x.def_ 6 (d := d_is_integer_within)
  d_is_value_of := c.x.def_ 7 (d := d_is_value_of)
  d_require_values := c.x.def_ 8 (d := d_require_values)
  d_require_book := c.x.def_ 9 (d := d_require_book)
  d_require_books := c.x.def_ 10 (d := d_require_books)
  d_paired := c.x.def_ 11 (d := d_paired)
  d_sets_of := c.x.def_ 12 (d := d_sets_of)
  d_is_name := c.x.def_ 13 (d := d_is_name)
  d_are_ascending := c.x.def_ 14 (d := d_are_ascending)
  d_is_row := c.x.def_ 15 (d := d_is_row)
  d_is_tie_of := c.x.def_ 16 (d := d_is_tie_of)
  d_are_ties_of := c.x.def_ 17 (d := d_are_ties_of)
  d_Book___init__ := c.x.def_ 18 (d := d_Book___init__)
  d_product_of := c.x.def_ 19 (d := d_product_of)
  d_is_set_of := c.x.def_ 20 (d := d_is_set_of)
  d_is_any_chooser := c.x.def_ 21 (d := d_is_any_chooser)
  d_require_chooser := c.x.def_ 22 (d := d_require_chooser)
  d_chooser_of_both := c.x.def_ 23 (d := d_chooser_of_both)
  d_is_value_of_product := c.x.def_ 24 (d := d_is_value_of_product)
  d_parted := c.x.def_ 25 (d := d_parted)
  d_value_of := c.x.def_ 26 (d := d_value_of)
  d_pair_of := c.x.def_ 27 (d := d_pair_of)
  d_product := c.x.def_ 28 (d := d_product)
  d__law_all_met := c.x.def_ 29 (d := d__law_all_met)
  d__law_grab := c.x.def_ 30 (d := d__law_grab)
  d__law_one_of := c.x.def_ 31 (d := d__law_one_of)
  d_Book_names := c.x.def_ 32 (d := d_Book_names)
  d__law_right := c.x.def_ 33 (d := d__law_right)
  d__law_sack := c.x.def_ 34 (d := d__law_sack)
  d_law := c.x.def_ 35 (d := d_law)
  m_repr := He.free_ok X G (c.x.fact 0)
  g_InvalidNumber := He.glo_ok X G (c.x.fact 1)
  g_InvalidBook := He.glo_ok X G (c.x.fact 2)
  g_InvalidChooser := He.glo_ok X G (c.x.fact 3)
  g_InvalidOperation := He.glo_ok X G (c.x.fact 4)
  g_ChooserError := He.glo_ok X G (c.x.fact 5)
  m_zip := He.free_ok X G (c.x.fact 6)
  cl_Book := He.cls_ok (c.x.fact 7)
  na_Book_own_size := He.noat_ok (c.x.fact 8)
  m_tuple := He.free_ok X G (c.x.fact 9)
  c_MAX_VALUES := He.int_ok X G (c.x.fact 10)
  x_InvalidBook := c.x.fact 11
  na_Book_own_ties := He.noat_ok (c.x.fact 12)
  m_all := He.free_ok X G (c.x.fact 13)
  m_list := He.free_ok X G (c.x.fact 14)
  x_InvalidOperation := c.x.fact 15
  m_len := He.free_ok X G (c.x.fact 16)
  in_Book := ckIns_ok (c.x.fact 17)
  kx_Book_tuple := ckKitT_ok (c.x.fact 18)
  m_isinstance := He.free_ok X G (c.x.fact 19)
  kx_Book_int := ckKitT_ok (c.x.fact 20)
  m_int := He.free_ok X G (c.x.fact 21)
  kx_Book_bool := ckKitT_ok (c.x.fact 22)
  m_bool := He.free_ok X G (c.x.fact 23)
  c_GREATEST := He.int_ok X G (c.x.fact 24)
  kt_Book := fun t => by
    cases t
    · exact ckKit_ok (c.x.fact 25)
    · exact ckKit_ok (c.x.fact 26)
    · exact ckKit_ok (c.x.fact 27)
    · exact ckKit_ok (c.x.fact 28)
    · exact ckKit_ok (c.x.fact 29)
    · exact ckKit_ok (c.x.fact 30)
    · exact ckKit_ok (c.x.fact 31)
  ki_Book_Book := ckKit_ok (c.x.fact 32)
  g_Book := He.glo_ok X G (c.x.fact 33)
  m_sorted := He.free_ok X G (c.x.fact 34)
  m_range := He.free_ok X G (c.x.fact 35)
  na_Book_own_sets := He.noat_ok (c.x.fact 36)
  kx_Book_str := ckKitT_ok (c.x.fact 37)
  m_str := He.free_ok X G (c.x.fact 38)
  c_MAX_LETTERS := He.int_ok X G (c.x.fact 39)
  c_MAX_PLACES := He.int_ok X G (c.x.fact 40)
  kx_Book_dict := ckKitT_ok (c.x.fact 41)
  m_dict := He.free_ok X G (c.x.fact 42)
  c_MAX_TIES := He.int_ok X G (c.x.fact 43)
  m_super := He.free_ok X G (c.x.fact 44)
  xd_InvalidNumber := c.x.fact 45
  xe_InvalidNumber := c.x.fact 46
  xt_InvalidNumber := cz ("InvalidNumber", xi_InvalidNumber) (by simp [xil])
  m_set := He.free_ok X G (c.x.fact 47)
  x_InvalidChooser := c.x.fact 48
  m_min := He.free_ok X G (c.x.fact 49)
  m_max := He.free_ok X G (c.x.fact 50)
  m_abs := He.free_ok X G (c.x.fact 51)
  xf_InvalidNumber := c.x.fact 52
  xn_InvalidNumber_value := c.x.fact 53
  xm_InvalidBook_InvalidNumber := He.exm_ok (c.x.fact 54)
  xm_InvalidBook_InvalidBook := He.exm_ok (c.x.fact 55)
  xm_InvalidBook_InvalidChooser := He.exm_ok (c.x.fact 56)
  xm_InvalidBook_InvalidOperation := He.exm_ok (c.x.fact 57)
  xm_InvalidBook_ChooserError := He.exm_ok (c.x.fact 58)
  xm_InvalidOperation_InvalidNumber := He.exm_ok (c.x.fact 59)
  xm_InvalidOperation_InvalidBook := He.exm_ok (c.x.fact 60)
  xm_InvalidOperation_InvalidChooser := He.exm_ok (c.x.fact 61)
  xm_InvalidOperation_InvalidOperation := He.exm_ok (c.x.fact 62)
  xm_InvalidOperation_ChooserError := He.exm_ok (c.x.fact 63)
  xm_InvalidNumber_InvalidNumber := He.exm_ok (c.x.fact 64)
  xm_InvalidNumber_InvalidBook := He.exm_ok (c.x.fact 65)
  xm_InvalidNumber_InvalidChooser := He.exm_ok (c.x.fact 66)
  xm_InvalidNumber_InvalidOperation := He.exm_ok (c.x.fact 67)
  xm_InvalidNumber_ChooserError := He.exm_ok (c.x.fact 68)
  xm_InvalidChooser_InvalidNumber := He.exm_ok (c.x.fact 69)
  xm_InvalidChooser_InvalidBook := He.exm_ok (c.x.fact 70)
  xm_InvalidChooser_InvalidChooser := He.exm_ok (c.x.fact 71)
  xm_InvalidChooser_InvalidOperation := He.exm_ok (c.x.fact 72)
  xm_InvalidChooser_ChooserError := He.exm_ok (c.x.fact 73)
  xm_ChooserError_InvalidNumber := He.exm_ok (c.x.fact 74)
  xm_ChooserError_InvalidBook := He.exm_ok (c.x.fact 75)
  xm_ChooserError_InvalidChooser := He.exm_ok (c.x.fact 76)
  xm_ChooserError_InvalidOperation := He.exm_ok (c.x.fact 77)
  xm_ChooserError_ChooserError := He.exm_ok (c.x.fact 78)
  tn__law_all_met__law_right := of_decide_eq_true (c.x.fact 79)
  tn__law_all_met_law := of_decide_eq_true (c.x.fact 80)
  tn__law_right__law_all_met := of_decide_eq_true (c.x.fact 81)
  tn__law_right_law := of_decide_eq_true (c.x.fact 82)
  tn_law__law_all_met := of_decide_eq_true (c.x.fact 83)
  tn_law__law_right := of_decide_eq_true (c.x.fact 84)
  g__law_met := He.glo_ok X G (c.x.fact 85)
  g_paired_row := He.glo_ok X G (c.x.fact 86)
  g_are_alike_in_form := He.glo_ok X G (c.x.fact 87)
  g_require_alike := He.glo_ok X G (c.x.fact 88)
  g_require_product := He.glo_ok X G (c.x.fact 89)
  g_is_integer := He.glo_ok X G (c.x.fact 90)
  g_is_integer_within := He.glo_ok X G (c.x.fact 91)
  g_is_value_of := He.glo_ok X G (c.x.fact 92)
  g_require_values := He.glo_ok X G (c.x.fact 93)
  g_require_book := He.glo_ok X G (c.x.fact 94)
  g_require_books := He.glo_ok X G (c.x.fact 95)
  g_paired := He.glo_ok X G (c.x.fact 96)
  g_sets_of := He.glo_ok X G (c.x.fact 97)
  g_is_name := He.glo_ok X G (c.x.fact 98)
  g_are_ascending := He.glo_ok X G (c.x.fact 99)
  g_is_row := He.glo_ok X G (c.x.fact 100)
  g_is_tie_of := He.glo_ok X G (c.x.fact 101)
  g_are_ties_of := He.glo_ok X G (c.x.fact 102)
  mk_Book := He.mkr_ok (c.x.fact 103)
  g_product_of := He.glo_ok X G (c.x.fact 104)
  g_is_set_of := He.glo_ok X G (c.x.fact 105)
  g_is_any_chooser := He.glo_ok X G (c.x.fact 106)
  g_require_chooser := He.glo_ok X G (c.x.fact 107)
  g_chooser_of_both := He.glo_ok X G (c.x.fact 108)
  g_is_value_of_product := He.glo_ok X G (c.x.fact 109)
  g_parted := He.glo_ok X G (c.x.fact 110)
  g_value_of := He.glo_ok X G (c.x.fact 111)
  g_pair_of := He.glo_ok X G (c.x.fact 112)
  g_product := He.glo_ok X G (c.x.fact 113)
  g__law_all_met := He.glo_ok X G (c.x.fact 114)
  g__law_grab := He.glo_ok X G (c.x.fact 115)
  g__law_one_of := He.glo_ok X G (c.x.fact 116)
  pr_Book_names := ckProp_ok (c.x.fact 117)
  g__law_right := He.glo_ok X G (c.x.fact 118)
  g__law_sack := He.glo_ok X G (c.x.fact 119)
  g_law := He.glo_ok X G (c.x.fact 120)
def loose0 : List Str := ["_wall", "MAX_LETTERS", "GREATEST", "is_integer", "is_integer_within", "is_name", "are_ascending", "is_row", "ChooserError", "InvalidBook", "InvalidChooser", "InvalidOperation", "InvalidNumber", "UnknownName", "MAX_VALUES", "MAX_TIES", "MAX_PLACES", "is_tie_of", "are_ties_of", "sets_of", "Book", "require_book", "require_tie", "is_value_of", "is_set_of", "is_any_chooser", "require_chooser", "are_alike_in_form", "require_alike", "require_books"]
def loose1 : List Str := ["require_product", "paired_row", "product_of", "product", "is_value_of_product", "pair_of", "value_of", "require_values", "paired", "parted", "chooser_of_both", "_law_sack", "_law_grab", "_law_one_of", "_law_met", "_law_all_met", "_law_right"]
def loose : List Str := loose0 ++ loose1
abbrev R : PySem.W.OpenRow := PySem.W.OpenLaw.row PySem.Challenge.rw_setchooser_k54_errors_of_products
abbrev hk : PySem.W.Hook := hookZ 6 ck fn xil tf
def ob (s : PySem.W.SharedT) : He.AlD := obsZ 6 ck fn xil tf (HandSHeadRun.getT s)
theorem ob_eq (s : PySem.W.SharedT) : ob s = hk.obs s.abs := obsZ_eq (HandSHeadRun.getT_eq s)
theorem run (w : World) : HandSHeadRun.RunEq R (PySem.W.view R.prog [54]) hk ob 4000 loose w := by
  intro os
  kernel_rfl
end Pf

namespace Pf
open PySem PySem.Spec PyProof.Rows L2 Eg
abbrev bTwo : PV := .obj 0 [(0, .int (2)), (1, .dct [(.str [120, 111, 114], .tup [.int (2), .tup [.tup [.int (0), .int (1)], .tup [.int (1), .int (0)]]])]), (2, .tup [.tup [.int (0)], .tup [.int (0), .int (1)], .tup [.int (1)]])]
abbrev bads : List PV := [.non, .int (0), .str [98, 111, 111, 107], .tup [], .dct [], .lst [bTwo], .bl true, .tup [.str [120, 111, 114]]]
abbrev ats : List PV := [.int 4, .int (-1), .non, .bl true, .str [48], .tup [.int 0], .int (10 ^ 60), .lst []]
abbrev prs : List PV := [.non, .int 0, .tup [], .tup [.int 0], .tup [.int 0, .int 2], .tup [.int 2, .int 0], .lst [.int 0, .int 1], .tup [.int 0, .bl true], .tup [.int 0, .non], .tup [.int 0, .int 0, .int 0], .str [48, 49], .dct []]
abbrev rws : List PV := [.non, .int 0, .tup [.int 4], .tup [.int (-1)], .lst [.int 0, .int 1], .str [48, 49], .tup [.bl true], .tup [.non], .dct [], .tup [.tup [.int 0]]]
abbrev good : PV := .dct [(.tup [.int 0], .int 0), (.tup [.int 0, .int 1], .int 0), (.tup [.int 1], .int 1)]
abbrev tbs : List PV := [.non, .int 0, .dct [], .dct [(.tup [.int 0], .int 0)], .tup [.int 0, .int 0, .int 1], .dct [(.tup [.int 0], .int 0), (.tup [.int 0, .int 1], .int 2), (.tup [.int 1], .int 1)], bTwo]
abbrev wB : List Nat := [98, 111, 111, 107]
abbrev wO : List Nat := [111, 112, 101, 114, 97, 116, 105, 111, 110]
abbrev wT : List Nat := [116, 97, 98, 108, 101]
abbrev wF : List Nat := [102, 105, 110, 101]
abbrev wN : List Nat := [110, 117, 109, 98, 101, 114, 32]
abbrev tl (F : Fn) (xs : List PV) (y : List Nat) : Bool := tellX xmF metL_ metF F xs == some y
def repW (a : PV) : List Nat := match gReprA [a] with | some (.str z) => wN ++ z | _ => []
theorem all2 {xs ys : List PV} {p : PV → PV → Bool} (h : (xs.all fun x => ys.all fun y => p x y) = true) : ∀ x ∈ xs, ∀ y ∈ ys, p x y = true := fun x hx y hy => List.all_eq_true.mp (List.all_eq_true.mp h x hx) y hy
theorem all1 {xs : List PV} {p : PV → Bool} (h : (xs.all p) = true) : ∀ x ∈ xs, p x = true := List.all_eq_true.mp h
theorem d0 : ∀ b ∈ bads, (tl F_product [b, b] wB && tl F_product [bTwo, b] wB) = true := all1 (by decide +kernel)
theorem d1 : ∀ b ∈ bads, ∀ a ∈ ats, (tl F_pair_of [b, b, a] wB && tl F_pair_of [bTwo, b, a] wB) = true := all2 (by decide +kernel)
theorem d2 : ∀ b ∈ bads, ∀ a ∈ prs, (tl F_value_of [b, b, a] wB && tl F_value_of [bTwo, b, a] wB) = true := all2 (by decide +kernel)
theorem d3 : ∀ b ∈ bads, ∀ a ∈ rws, (tl F_paired [b, b, a, a] wB && tl F_paired [bTwo, b, a, a] wB) = true := all2 (by decide +kernel)
theorem d4 : ∀ b ∈ bads, ∀ a ∈ rws, (tl F_parted [b, b, a] wB && tl F_parted [bTwo, b, a] wB) = true := all2 (by decide +kernel)
theorem d5 : ∀ b ∈ bads, ∀ a ∈ tbs, (tl F_chooser_of_both [b, b, a, a] wB && tl F_chooser_of_both [bTwo, b, a, a] wB) = true := all2 (by decide +kernel)
theorem d6 : tl F_product [bTwo, bTwo] wF = true := by decide +kernel
theorem d7 : ∀ a ∈ ats, tl F_pair_of [bTwo, bTwo, a] (repW a) = true := all1 (by decide +kernel)
theorem d8 : ∀ a ∈ prs, tl F_value_of [bTwo, bTwo, a] wO = true := all1 (by decide +kernel)
theorem d9 : ∀ a ∈ rws, (tl F_paired [bTwo, bTwo, a, a] wO && tl F_parted [bTwo, bTwo, a] wO) = true := all1 (by decide +kernel)
theorem d10 : ∀ a ∈ tbs, (tl F_chooser_of_both [bTwo, bTwo, a, good] wT && tl F_chooser_of_both [bTwo, bTwo, good, a] wT) = true := all1 (by decide +kernel)
theorem oneE : F__law_one_of = fL_one_of := rfl
theorem sackE : F__law_sack = fL_sack := rfl
theorem tlE {F : Fn} {xs : List PV} {y : List Nat} (h : tl F xs y = true) : tellX xmF metL_ metF F xs = some y := eq_of_beq h
theorem tlL {F : Fn} {xs : List PV} {y : List Nat} (h : tl F xs y = true) : locFs xs = true := by
  have h := tlE h
  unfold tellX at h
  split at h
  · assumption
  · cases h
theorem isoE {F : Fn} {xs : List PV} {x : PV} {s : Store} (st : Store) (hl : locFs xs = true) (h : F xs Store.empty = .ok x s) (hx : locF x = true) : Eg.iso F xs st = .ok x st := by
  unfold Eg.iso
  rw [if_pos hl, h]
  exact if_pos hx
theorem met6 {a b v0 v1 v2 v3 t0 t1 : PV} {y0 y1 y2 y3 y4 y5 : List Nat} (h0 : tl F_product [a, b] y0 = true) (h1 : tl F_pair_of [a, b, v0] y1 = true) (h2 : tl F_value_of [a, b, v1] y2 = true) (h3 : tl F_paired [a, b, v2, v3] y3 = true) (h4 : tl F_parted [a, b, v2] y4 = true) (h5 : tl F_chooser_of_both [a, b, t0, t1] y5 = true) (st : Store) :
    Eg.iso F__law_all_met [a, b, .lst [v0, v1, v2, v3], .lst [t0, t1]] st = .ok (.lst [.str y0, .str y1, .str y2, .str y3, .str y4, .str y5]) st := by
  have l1 := tlL h1
  have l2 := tlL h2
  have l3 := tlL h3
  have l5 := tlL h5
  simp only [locFs, Bool.and_eq_true] at l1 l2 l3 l5
  have r0 : ∀ (st : Store) (m : Nat), (aCons (eVar 0) (aCons (eVar 1) aNil)) [some a, some b, some (.lst [v0, v1, v2, v3]), some (.lst [t0, t1]), some (.loc m)] st = .ok [a, b] st := fun _ _ => rfl
  have q0 := told0 (i := 4) (ρ := [some a, some b, some (.lst [v0, v1, v2, v3]), some (.lst [t0, t1]), none]) (st := Store.empty) (met_tellX (n := 2) (fr := (aCons (eVar 0) (aCons (eVar 1) aNil))) rfl rfl (tlE h0))
  have g0 := new_self Store.empty (.lst [.str y0])
  have q1 := told1 (i := 4) (m := Store.empty.next) (ρ := [some a, some b, some (.lst [v0, v1, v2, v3]), some (.lst [t0, t1]), some (.loc Store.empty.next)]) rfl g0 (by simp) (met_tellX (n := 3) (fr := (aCons (eVar 0) (aCons (eVar 1) (aCons (Eg.e2 gDixN (eVar 2) (eC (.int (0)))) aNil)))) rfl rfl (tlE h1))
  have g1 := put_self Store.empty.next (Store.empty.new (.lst [.str y0])) (.lst ([.str y0] ++ [.str y1]))
  have q2 := told1 (i := 4) (m := Store.empty.next) (ρ := [some a, some b, some (.lst [v0, v1, v2, v3]), some (.lst [t0, t1]), some (.loc Store.empty.next)]) rfl g1 (by simp) (met_tellX (n := 3) (fr := (aCons (eVar 0) (aCons (eVar 1) (aCons (Eg.e2 gDixN (eVar 2) (eC (.int (1)))) aNil)))) rfl rfl (tlE h2))
  have g2 := put_self Store.empty.next ((Store.empty.new (.lst [.str y0])).put Store.empty.next (.lst ([.str y0] ++ [.str y1]))) (.lst ([.str y0] ++ [.str y1] ++ [.str y2]))
  have q3 := told1 (i := 4) (m := Store.empty.next) (ρ := [some a, some b, some (.lst [v0, v1, v2, v3]), some (.lst [t0, t1]), some (.loc Store.empty.next)]) rfl g2 (by simp) (met_tellX (n := 4) (fr := (aCons (eVar 0) (aCons (eVar 1) (aCons (Eg.e2 gDixN (eVar 2) (eC (.int (2)))) (aCons (Eg.e2 gDixN (eVar 2) (eC (.int (3)))) aNil))))) rfl rfl (tlE h3))
  have g3 := put_self Store.empty.next (((Store.empty.new (.lst [.str y0])).put Store.empty.next (.lst ([.str y0] ++ [.str y1]))).put Store.empty.next (.lst ([.str y0] ++ [.str y1] ++ [.str y2]))) (.lst ([.str y0] ++ [.str y1] ++ [.str y2] ++ [.str y3]))
  have q4 := told1 (i := 4) (m := Store.empty.next) (ρ := [some a, some b, some (.lst [v0, v1, v2, v3]), some (.lst [t0, t1]), some (.loc Store.empty.next)]) rfl g3 (by simp) (met_tellX (n := 3) (fr := (aCons (eVar 0) (aCons (eVar 1) (aCons (Eg.e2 gDixN (eVar 2) (eC (.int (2)))) aNil)))) rfl rfl (tlE h4))
  have g4 := put_self Store.empty.next ((((Store.empty.new (.lst [.str y0])).put Store.empty.next (.lst ([.str y0] ++ [.str y1]))).put Store.empty.next (.lst ([.str y0] ++ [.str y1] ++ [.str y2]))).put Store.empty.next (.lst ([.str y0] ++ [.str y1] ++ [.str y2] ++ [.str y3]))) (.lst ([.str y0] ++ [.str y1] ++ [.str y2] ++ [.str y3] ++ [.str y4]))
  have q5 := told1 (i := 4) (m := Store.empty.next) (ρ := [some a, some b, some (.lst [v0, v1, v2, v3]), some (.lst [t0, t1]), some (.loc Store.empty.next)]) rfl g4 (by simp) (met_tellX (n := 4) (fr := (aCons (eVar 0) (aCons (eVar 1) (aCons (Eg.e2 gDixN (eVar 3) (eC (.int (0)))) (aCons (Eg.e2 gDixN (eVar 3) (eC (.int (1)))) aNil))))) rfl rfl (tlE h5))
  have g5 := put_self Store.empty.next (((((Store.empty.new (.lst [.str y0])).put Store.empty.next (.lst ([.str y0] ++ [.str y1]))).put Store.empty.next (.lst ([.str y0] ++ [.str y1] ++ [.str y2]))).put Store.empty.next (.lst ([.str y0] ++ [.str y1] ++ [.str y2] ++ [.str y3]))).put Store.empty.next (.lst ([.str y0] ++ [.str y1] ++ [.str y2] ++ [.str y3] ++ [.str y4]))) (.lst ([.str y0] ++ [.str y1] ++ [.str y2] ++ [.str y3] ++ [.str y4] ++ [.str y5]))
  refine isoE (s := Store.put ((((((Store.empty.new (.lst [.str y0])).put Store.empty.next (.lst ([.str y0] ++ [.str y1]))).put Store.empty.next (.lst ([.str y0] ++ [.str y1] ++ [.str y2]))).put Store.empty.next (.lst ([.str y0] ++ [.str y1] ++ [.str y2] ++ [.str y3]))).put Store.empty.next (.lst ([.str y0] ++ [.str y1] ++ [.str y2] ++ [.str y3] ++ [.str y4]))).put Store.empty.next (.lst ([.str y0] ++ [.str y1] ++ [.str y2] ++ [.str y3] ++ [.str y4] ++ [.str y5]))) Store.empty.next (.frz (.lst ([.str y0] ++ [.str y1] ++ [.str y2] ++ [.str y3] ++ [.str y4] ++ [.str y5])))) st (by simp [locFs, locF, l1, l2, l3, l5]) (fn_rt (m := 5) (f := b__law_all_met) rfl ?_) (by simp [locF, locFs])
  unfold b__law_all_met
  refine (seqE q0).trans ((seqE q1).trans ((seqE q2).trans ((seqE q3).trans ((seqE q4).trans ((seqE q5).trans ?_)))))
  simp only [sRet, eFzN, sE, bindE, eVar, List.getElem?_cons_succ, List.getElem?_cons_zero, frzN, frzL, M.of, pureE]
  simp only [g5]
  rfl
def isV (b : Bool) : Option PV → Bool
  | some (.bl c) => c == b
  | _ => false
theorem isV_ok {b : Bool} {o : Option PV} (h : isV b o = true) : o = some (.bl b) := by
  unfold isV at h
  split at h
  · rw [eq_of_beq h]
  · cases h
abbrev six (w : List Nat) : PV := .lst [.str w, .str w, .str w, .str w, .str w, .str w]
theorem nB : gNe (six wB) (six wB) = some (.bl false) := by kernel_rfl
theorem nO : gNe (six wO) (six wO) = some (.bl false) := by kernel_rfl
theorem eF : gEq (six wF) (six wF) = some (.bl true) := by kernel_rfl
theorem mB : gMulA (.lst [.str wB]) (.int 6) = some (six wB) := by kernel_rfl
theorem mO : gMulA (.lst [.str wO]) (.int 6) = some (six wO) := by kernel_rfl
theorem mF : gMulA (.lst [.str wF]) (.int 6) = some (six wF) := by kernel_rfl
theorem nT : gNe (.str wT) (.str wT) = some (.bl false) := by kernel_rfl
theorem eO : gEq (.str wO) (.str wO) = some (.bl true) := by kernel_rfl
def repA (a : PV) : Option PV := match gReprA [a] with | some z => gAdd (.str wN) z | _ => none
theorem d11 : ∀ a ∈ ats, isV false (gNe (.lst [.str wF, .str (repW a), .str wO, .str wO, .str wO, .str wT]) (.lst [.str wF, .str (repW a), .str wO, .str wO, .str wO, .str wT])) = true := all1 (by decide +kernel)
def repC (a : PV) : Bool := match gReprA [a] with | some (.str z) => (match gAdd (.str wN) (.str z) with | some (.str y) => y == repW a | _ => false) | _ => false
theorem d12 : ∀ a ∈ ats, repC a = true := all1 (by decide +kernel)
theorem repE {a : PV} (h : repC a = true) : ∃ z, gReprA [a] = some (.str z) ∧ gAdd (.str wN) (.str z) = some (.str (repW a)) := by
  unfold repC at h
  split at h
  · rename_i z q
    split at h
    · rename_i y p
      refine ⟨z, q, ?_⟩
      rw [p, eq_of_beq h]
    · cases h
  · cases h
def frR (a : PV) : Bool := match a with | .loc _ => false | .set _ => false | _ => true
theorem d13 : ∀ a ∈ ats, frR a = true := all1 (by decide +kernel)
theorem rdA {a : PV} (st : Store) (h : frR a = true) : rd a st = .ok a st := by
  cases a with
  | loc l => cases h
  | set l => cases h
  | _ => rfl
theorem ifNe {f g : Eg.Fr → M PV} {ρ : Eg.Fr} {st : Store} {x y : List Nat} {s1 : S} (hf : f ρ st = .ok (.str x) st) (hg : g ρ st = .ok (.str y) st) (h : gNe (.str x) (.str y) = some (.bl false)) : sIf (eT (Eg.e2 gNe f g)) s1 sNx ρ st = .nx ρ st := by
  simp only [sIf, eT, Eg.e2, bindE, sE, hf, hg, g2E, rdS, h, asB_bl, Bool.false_eq_true, if_false]
  rfl
abbrev fine_ : PV := .lst [.int 1, .tup [.int 0, .int 1], .tup [.int 0, .int 1], .tup [.int 1, .int 1]]
theorem d14 : (tl F_pair_of [bTwo, bTwo, .int 1] wF && (tl F_value_of [bTwo, bTwo, .tup [.int 0, .int 1]] wF && (tl F_paired [bTwo, bTwo, .tup [.int 0, .int 1], .tup [.int 1, .int 1]] wF && (tl F_parted [bTwo, bTwo, .tup [.int 0, .int 1]] wF && tl F_chooser_of_both [bTwo, bTwo, good, good] wF)))) = true := by decide +kernel
theorem ev_right {l n : Nat} {st : Store} (h : Sk l st n) (hn : n ≤ 9000) : ∃ st', F__law_right [.loc l, bTwo, fine_, .lst [good, good]] st = .ok (.bl true) st' ∧ Sk l st' (n + 5) := by
  obtain ⟨b, s1, e1, m1, k1⟩ := draw (ρ := [some (.loc l), some bTwo, some fine_, some (.lst [good, good]), none, none, none, none, none, none, none]) (i := 4) (fx := (eLst false (aCons (eC .non) (aCons (eC (.int (0))) (aCons (eC (.str [98, 111, 111, 107])) (aCons (eTup aNil) (aCons (eD0 false) (aCons (eLst false (aCons (eVar 1) aNil)) (aCons (eC (.bl true)) (aCons (eProp Dp_names (eVar 1)) aNil)))))))))) (xs := bads) h (by omega) rfl (by kernel_rfl) (by simp) (by simp)
  obtain ⟨a, s2, e2, m2, k2⟩ := draw (ρ := [some (.loc l), some bTwo, some fine_, some (.lst [good, good]), some b, none, none, none, none, none, none]) (i := 5) (fx := (eLst false (aCons (eC (.int (4))) (aCons (Eg.e2 gSub (eC (.int (0))) (eC (.int (1)))) (aCons (eC .non) (aCons (eC (.bl true)) (aCons (eC (.str [48])) (aCons (eTup (aCons (eC (.int (0))) aNil)) (aCons (Eg.e2 gPow (eC (.int (10))) (eC (.int (60)))) (aCons (eLst false aNil) aNil)))))))))) (xs := ats) k1 (by omega) rfl (by kernel_rfl) (by simp) (by simp)
  obtain ⟨p, s3, e3, m3, k3⟩ := draw (ρ := [some (.loc l), some bTwo, some fine_, some (.lst [good, good]), some b, some a, none, none, none, none, none]) (i := 6) (fx := (eLst false (aCons (eC .non) (aCons (eC (.int (0))) (aCons (eTup aNil) (aCons (eTup (aCons (eC (.int (0))) aNil)) (aCons (eTup (aCons (eC (.int (0))) (aCons (eC (.int (2))) aNil))) (aCons (eTup (aCons (eC (.int (2))) (aCons (eC (.int (0))) aNil))) (aCons (eLst false (aCons (eC (.int (0))) (aCons (eC (.int (1))) aNil))) (aCons (eTup (aCons (eC (.int (0))) (aCons (eC (.bl true)) aNil))) (aCons (eTup (aCons (eC (.int (0))) (aCons (eC .non) aNil))) (aCons (eTup (aCons (eC (.int (0))) (aCons (eC (.int (0))) (aCons (eC (.int (0))) aNil)))) (aCons (eC (.str [48, 49])) (aCons (eD0 false) aNil)))))))))))))) (xs := prs) k2 (by omega) rfl (by kernel_rfl) (by simp) (by simp)
  obtain ⟨r, s4, e4, m4, k4⟩ := draw (ρ := [some (.loc l), some bTwo, some fine_, some (.lst [good, good]), some b, some a, some p, none, none, none, none]) (i := 7) (fx := (eLst false (aCons (eC .non) (aCons (eC (.int (0))) (aCons (eTup (aCons (eC (.int (4))) aNil)) (aCons (eTup (aCons (Eg.e2 gSub (eC (.int (0))) (eC (.int (1)))) aNil)) (aCons (eLst false (aCons (eC (.int (0))) (aCons (eC (.int (1))) aNil))) (aCons (eC (.str [48, 49])) (aCons (eTup (aCons (eC (.bl true)) aNil)) (aCons (eTup (aCons (eC .non) aNil)) (aCons (eD0 false) (aCons (eTup (aCons (eTup (aCons (eC (.int (0))) aNil)) aNil)) aNil)))))))))))) (xs := rws) k3 (by omega) rfl (by kernel_rfl) (by simp) (by simp)
  obtain ⟨t, s5, e5, m5, k5⟩ := draw (ρ := [some (.loc l), some bTwo, some fine_, some (.lst [good, good]), some b, some a, some p, some r, none, none, none]) (i := 8) (fx := (eLst false (aCons (eC .non) (aCons (eC (.int (0))) (aCons (eD0 false) (aCons (eDispN false [((eTup (aCons (eC (.int (0))) aNil)), (eC (.int (0))))]) (aCons (eTup (aCons (eC (.int (0))) (aCons (eC (.int (0))) (aCons (eC (.int (1))) aNil)))) (aCons (eDispN false [((eTup (aCons (eC (.int (0))) aNil)), (eC (.int (0)))), ((eTup (aCons (eC (.int (0))) (aCons (eC (.int (1))) aNil))), (eC (.int (2)))), ((eTup (aCons (eC (.int (1))) aNil)), (eC (.int (1))))]) (aCons (eVar 1) aNil))))))))) (xs := tbs) k4 (by omega) rfl (by kernel_rfl) (by simp) (by simp)
  have h0 := d0 b m1
  have h1 := d1 b m1 a m2
  have h2 := d2 b m1 p m3
  have h3 := d3 b m1 r m4
  have h4 := d4 b m1 r m4
  have h5 := d5 b m1 t m5
  have h7 := d7 a m2
  have h8 := d8 p m3
  have h9 := d9 r m4
  have h10 := d10 t m5
  have h14 := d14
  simp only [Bool.and_eq_true] at h0 h1 h2 h3 h4 h5 h9 h10 h14
  have u1 := met6 h0.1 h1.1 h2.1 h3.1 h4.1 h5.1 s5
  have u2 := met6 h0.2 h1.2 h2.2 h3.2 h4.2 h5.2 s5
  have u3 := met6 d6 h7 h8 h9.1 h9.2 h10.1 s5
  have u4 := met6 d6 h14.1 h14.2.1 h14.2.2.1 h14.2.2.2.1 h14.2.2.2.2 s5
  obtain ⟨z, q1, q2⟩ := repE (d12 a m2)
  have q3 := rdA s5 (d13 a m2)
  have q4 := isV_ok (d11 a m2)
  refine ⟨s5, fn_rt (m := 11) (f := b__law_right) rfl ?_, k5⟩
  unfold b__law_right
  refine (seqE e1).trans ((seqE e2).trans ((seqE e3).trans ((seqE e4).trans ((seqE e5).trans ?_))))
  have v0 : (sAsg (eLst false (aCons (eVar 5) (aCons (eVar 6) (aCons (eVar 7) (aCons (eVar 7) aNil))))) (gN 9)) [some (.loc l), some bTwo, some fine_, some (.lst [good, good]), some b, some a, some p, some r, some t, none, none] s5 = .nx [some (.loc l), some bTwo, some fine_, some (.lst [good, good]), some b, some a, some p, some r, some t, some (.lst [a, p, r, r]), none] s5 := by
    simp only [bindE, pureE, asI_int, szT, Nat.reduceLeDiff, Nat.zero_le, Cell.view, fnB, sSeq, sIf, sE, sRet, sNx, sAsg, sPar, sExpr, eT, bNot, bAnd, bOr, asB_bl, eVar, eC, Eg.e1, Eg.e2, Eg.e3, eAnd, eOr, eNot, eIf, aNil, aCons, eCall, eB, eLst, eTup, nw, g1E, g2E, rdI, rdB, rdN, rdS, rdT, rdL, rdD, gN, M.of, M.bad, List.map_cons, List.map_nil, List.length_cons, List.length_nil, List.replicate, List.nil_append, List.cons_append, List.getElem?_cons_zero, List.getElem?_cons_succ, List.set_cons_zero, List.set_cons_succ, Nat.sub_zero, Nat.reduceSub, Nat.reduceAdd, gN1E, rds, if_true, if_false, iteE, Bool.not_true, Bool.not_false, Bool.false_eq_true, reduceIte, ite_true, ite_false]
  have v1 : (sIf (eT (Eg.e2 gNe (eCall 4 (Eg.iso F__law_all_met) (aCons (eVar 4) (aCons (eVar 4) (aCons (eVar 9) (aCons (eLst false (aCons (eVar 8) (aCons (eVar 8) aNil))) aNil))))) (Eg.e2 gMulA (eLst false (aCons (eC (.str [98, 111, 111, 107])) aNil)) (eC (.int (6)))))) (sRet (eC (.bl false))) sNx) [some (.loc l), some bTwo, some fine_, some (.lst [good, good]), some b, some a, some p, some r, some t, some (.lst [a, p, r, r]), none] s5 = .nx [some (.loc l), some bTwo, some fine_, some (.lst [good, good]), some b, some a, some p, some r, some t, some (.lst [a, p, r, r]), none] s5 := by
    simp only [bindE, pureE, asI_int, szT, Nat.reduceLeDiff, Nat.zero_le, Cell.view, fnB, sSeq, sIf, sE, sRet, sNx, sAsg, sPar, sExpr, eT, bNot, bAnd, bOr, asB_bl, eVar, eC, Eg.e1, Eg.e2, Eg.e3, eAnd, eOr, eNot, eIf, aNil, aCons, eCall, eB, eLst, eTup, nw, g1E, g2E, rdI, rdB, rdN, rdS, rdT, rdL, rdD, gN, M.of, M.bad, List.map_cons, List.map_nil, List.length_cons, List.length_nil, List.replicate, List.nil_append, List.cons_append, List.getElem?_cons_zero, List.getElem?_cons_succ, List.set_cons_zero, List.set_cons_succ, Nat.sub_zero, Nat.reduceSub, Nat.reduceAdd, gN1E, rds, if_true, if_false, iteE, Bool.not_true, Bool.not_false, Bool.false_eq_true, reduceIte, ite_true, ite_false, u1, mB, nB]
  have v2 : (sIf (eT (Eg.e2 gNe (eCall 4 (Eg.iso F__law_all_met) (aCons (eVar 1) (aCons (eVar 4) (aCons (eVar 9) (aCons (eLst false (aCons (eVar 8) (aCons (eVar 8) aNil))) aNil))))) (Eg.e2 gMulA (eLst false (aCons (eC (.str [98, 111, 111, 107])) aNil)) (eC (.int (6)))))) (sRet (eC (.bl false))) sNx) [some (.loc l), some bTwo, some fine_, some (.lst [good, good]), some b, some a, some p, some r, some t, some (.lst [a, p, r, r]), none] s5 = .nx [some (.loc l), some bTwo, some fine_, some (.lst [good, good]), some b, some a, some p, some r, some t, some (.lst [a, p, r, r]), none] s5 := by
    simp only [bindE, pureE, asI_int, szT, Nat.reduceLeDiff, Nat.zero_le, Cell.view, fnB, sSeq, sIf, sE, sRet, sNx, sAsg, sPar, sExpr, eT, bNot, bAnd, bOr, asB_bl, eVar, eC, Eg.e1, Eg.e2, Eg.e3, eAnd, eOr, eNot, eIf, aNil, aCons, eCall, eB, eLst, eTup, nw, g1E, g2E, rdI, rdB, rdN, rdS, rdT, rdL, rdD, gN, M.of, M.bad, List.map_cons, List.map_nil, List.length_cons, List.length_nil, List.replicate, List.nil_append, List.cons_append, List.getElem?_cons_zero, List.getElem?_cons_succ, List.set_cons_zero, List.set_cons_succ, Nat.sub_zero, Nat.reduceSub, Nat.reduceAdd, gN1E, rds, if_true, if_false, iteE, Bool.not_true, Bool.not_false, Bool.false_eq_true, reduceIte, ite_true, ite_false, u2, mB, nB]
  have v3 : (sAsg (eLst false (aCons (eC (.str [102, 105, 110, 101])) (aCons (Eg.e2 gAdd (eC (.str [110, 117, 109, 98, 101, 114, 32])) (eB gReprA (aCons (eVar 5) aNil))) (aCons (eC (.str [111, 112, 101, 114, 97, 116, 105, 111, 110])) (aCons (eC (.str [111, 112, 101, 114, 97, 116, 105, 111, 110])) (aCons (eC (.str [111, 112, 101, 114, 97, 116, 105, 111, 110])) (aCons (eC (.str [116, 97, 98, 108, 101])) aNil))))))) (gN 10)) [some (.loc l), some bTwo, some fine_, some (.lst [good, good]), some b, some a, some p, some r, some t, some (.lst [a, p, r, r]), none] s5 = .nx [some (.loc l), some bTwo, some fine_, some (.lst [good, good]), some b, some a, some p, some r, some t, some (.lst [a, p, r, r]), some (.lst [.str wF, .str (repW a), .str wO, .str wO, .str wO, .str wT])] s5 := by
    simp only [bindE, pureE, asI_int, szT, Nat.reduceLeDiff, Nat.zero_le, Cell.view, fnB, sSeq, sIf, sE, sRet, sNx, sAsg, sPar, sExpr, eT, bNot, bAnd, bOr, asB_bl, eVar, eC, Eg.e1, Eg.e2, Eg.e3, eAnd, eOr, eNot, eIf, aNil, aCons, eCall, eB, eLst, eTup, nw, g1E, g2E, rdI, rdB, rdN, rdS, rdT, rdL, rdD, gN, M.of, M.bad, List.map_cons, List.map_nil, List.length_cons, List.length_nil, List.replicate, List.nil_append, List.cons_append, List.getElem?_cons_zero, List.getElem?_cons_succ, List.set_cons_zero, List.set_cons_succ, Nat.sub_zero, Nat.reduceSub, Nat.reduceAdd, gN1E, rds, if_true, if_false, iteE, Bool.not_true, Bool.not_false, Bool.false_eq_true, reduceIte, ite_true, ite_false, q1, q2, q3]
  have ix : gDixN (.lst [good, good]) (.int 0) = some good := by kernel_rfl
  have v4 : (sIf (eT (Eg.e2 gNe (eCall 4 (Eg.iso F__law_all_met) (aCons (eVar 1) (aCons (eVar 1) (aCons (eVar 9) (aCons (eLst false (aCons (eVar 8) (aCons (Eg.e2 gDixN (eVar 3) (eC (.int (0)))) aNil))) aNil))))) (eVar 10))) (sRet (eC (.bl false))) sNx) [some (.loc l), some bTwo, some fine_, some (.lst [good, good]), some b, some a, some p, some r, some t, some (.lst [a, p, r, r]), some (.lst [.str wF, .str (repW a), .str wO, .str wO, .str wO, .str wT])] s5 = .nx [some (.loc l), some bTwo, some fine_, some (.lst [good, good]), some b, some a, some p, some r, some t, some (.lst [a, p, r, r]), some (.lst [.str wF, .str (repW a), .str wO, .str wO, .str wO, .str wT])] s5 := by
    simp only [bindE, pureE, asI_int, szT, Nat.reduceLeDiff, Nat.zero_le, Cell.view, fnB, sSeq, sIf, sE, sRet, sNx, sAsg, sPar, sExpr, eT, bNot, bAnd, bOr, asB_bl, eVar, eC, Eg.e1, Eg.e2, Eg.e3, eAnd, eOr, eNot, eIf, aNil, aCons, eCall, eB, eLst, eTup, nw, g1E, g2E, rdI, rdB, rdN, rdS, rdT, rdL, rdD, gN, M.of, M.bad, List.map_cons, List.map_nil, List.length_cons, List.length_nil, List.replicate, List.nil_append, List.cons_append, List.getElem?_cons_zero, List.getElem?_cons_succ, List.set_cons_zero, List.set_cons_succ, Nat.sub_zero, Nat.reduceSub, Nat.reduceAdd, gN1E, rds, if_true, if_false, iteE, Bool.not_true, Bool.not_false, Bool.false_eq_true, reduceIte, ite_true, ite_false, ix, u3, q4]
  have w5 := met_tellX (ρ := [some (.loc l), some bTwo, some fine_, some (.lst [good, good]), some b, some a, some p, some r, some t, some (.lst [a, p, r, r]), some (.lst [.str wF, .str (repW a), .str wO, .str wO, .str wO, .str wT])]) (st := s5) (n := 4) (fr := (aCons (eVar 1) (aCons (eVar 1) (aCons (Eg.e2 gDixN (eVar 3) (eC (.int (0)))) (aCons (eVar 8) aNil))))) (xs := [bTwo, bTwo, good, t]) (by simp only [bindE, pureE, asI_int, szT, Nat.reduceLeDiff, Nat.zero_le, Cell.view, fnB, sSeq, sIf, sE, sRet, sNx, sAsg, sPar, sExpr, eT, bNot, bAnd, bOr, asB_bl, eVar, eC, Eg.e1, Eg.e2, Eg.e3, eAnd, eOr, eNot, eIf, aNil, aCons, eCall, eB, eLst, eTup, nw, g1E, g2E, rdI, rdB, rdN, rdS, rdT, rdL, rdD, gN, M.of, M.bad, List.map_cons, List.map_nil, List.length_cons, List.length_nil, List.replicate, List.nil_append, List.cons_append, List.getElem?_cons_zero, List.getElem?_cons_succ, List.set_cons_zero, List.set_cons_succ, Nat.sub_zero, Nat.reduceSub, Nat.reduceAdd, gN1E, rds, if_true, if_false, iteE, Bool.not_true, Bool.not_false, Bool.false_eq_true, reduceIte, ite_true, ite_false, ix]) rfl (tlE h10.2)
  have v5 : (sIf (eT (Eg.e2 gNe (eMetX xmF metL_ metF (eCall 4 (Eg.iso F_chooser_of_both) (aCons (eVar 1) (aCons (eVar 1) (aCons (Eg.e2 gDixN (eVar 3) (eC (.int (0)))) (aCons (eVar 8) aNil)))))) (eC (.str [116, 97, 98, 108, 101])))) (sRet (eC (.bl false))) sNx) [some (.loc l), some bTwo, some fine_, some (.lst [good, good]), some b, some a, some p, some r, some t, some (.lst [a, p, r, r]), some (.lst [.str wF, .str (repW a), .str wO, .str wO, .str wO, .str wT])] s5 = .nx [some (.loc l), some bTwo, some fine_, some (.lst [good, good]), some b, some a, some p, some r, some t, some (.lst [a, p, r, r]), some (.lst [.str wF, .str (repW a), .str wO, .str wO, .str wO, .str wT])] s5 := by
    exact ifNe w5 rfl nT
  refine (seqE v0).trans ((seqE v1).trans ((seqE v2).trans ((seqE v3).trans ((seqE v4).trans ((seqE v5).trans ?_)))))
  simp only [bindE, pureE, asI_int, szT, Nat.reduceLeDiff, Nat.zero_le, Cell.view, fnB, sSeq, sIf, sE, sRet, sNx, sAsg, sPar, sExpr, eT, bNot, bAnd, bOr, asB_bl, eVar, eC, Eg.e1, Eg.e2, Eg.e3, eAnd, eOr, eNot, eIf, aNil, aCons, eCall, eB, eLst, eTup, nw, g1E, g2E, rdI, rdB, rdN, rdS, rdT, rdL, rdD, gN, M.of, M.bad, List.map_cons, List.map_nil, List.length_cons, List.length_nil, List.replicate, List.nil_append, List.cons_append, List.getElem?_cons_zero, List.getElem?_cons_succ, List.set_cons_zero, List.set_cons_succ, Nat.sub_zero, Nat.reduceSub, Nat.reduceAdd, gN1E, rds, if_true, if_false, iteE, Bool.not_true, Bool.not_false, Bool.false_eq_true, reduceIte, ite_true, ite_false, u4, mF, eF]
theorem ev_law (ns : List Int) (st : Store) : ∃ st', F_law [.scr ns] st = .ok (.bl true) st' := by
  have s0 : (sAsg (eTup (aCons (eMakeI 0 3 F_Book___init__ (aCons (eC (.int (2))) (aCons (eDisp false [((eC (.str [120, 111, 114])), (eTup (aCons (eC (.int (2))) (aCons (eTup (aCons (eTup (aCons (eC (.int (0))) (aCons (eC (.int (1))) aNil))) (aCons (eTup (aCons (eC (.int (1))) (aCons (eC (.int (0))) aNil))) aNil))) aNil))))]) aNil))) (aCons (eDispN false [((eTup (aCons (eC (.int (0))) aNil)), (eC (.int (0)))), ((eTup (aCons (eC (.int (0))) (aCons (eC (.int (1))) aNil))), (eC (.int (0)))), ((eTup (aCons (eC (.int (1))) aNil)), (eC (.int (1))))]) aNil))) (gTp 2 (gNC (gN 3) (gNC (gN 4) gN0)))) [some (.scr ns), none, none, none, none, none, none, none, none, none, none, none, none] st = .nx [some (.scr ns), none, none, some bTwo, some good, none, none, none, none, none, none, none, none] st := by kernel_rfl
  have s1 : (sPar 5 6 (aCons (eLst false (aCons (eC (.int (1))) (aCons (eTup (aCons (eC (.int (0))) (aCons (eC (.int (1))) aNil))) (aCons (eTup (aCons (eC (.int (0))) (aCons (eC (.int (1))) aNil))) (aCons (eTup (aCons (eC (.int (1))) (aCons (eC (.int (1))) aNil))) aNil))))) (aCons (eLst false (aCons (eVar 4) (aCons (eVar 4) aNil))) aNil))) [some (.scr ns), none, none, some bTwo, some good, none, none, none, none, none, none, none, none] st = .nx [some (.scr ns), none, none, some bTwo, some good, some fine_, some (.lst [good, good]), none, none, none, none, none, none] st := by kernel_rfl
  obtain ⟨r, hr, r0, r1⟩ : ∃ r : Int, (eB gMax2 (aCons (eC (.int (1))) (aCons (eB gMinA (aCons (eC (.int (8))) (aCons (eB gLenN (aCons (eVar 0) aNil)) aNil))) aNil))) [some (.scr ns), none, none, some bTwo, some good, some fine_, some (.lst [good, good]), none, none, none, none, none, none] st = .ok (.int r) st ∧ 0 ≤ r ∧ r ≤ 8 := by
    refine ⟨if (if (ns.length : Int) < 8 then (ns.length : Int) else 8) > 1 then (if (ns.length : Int) < 8 then (ns.length : Int) else 8) else 1, ?_, ?_, ?_⟩
    · have q2 : gLenN [.scr ns] = some (.int ns.length) := rfl
      simp only [bindE, pureE, asI_int, szT, Nat.reduceLeDiff, Nat.zero_le, Cell.view, fnB, sSeq, sIf, sE, sRet, sNx, sAsg, sPar, sExpr, eT, bNot, bAnd, bOr, asB_bl, eVar, eC, Eg.e1, Eg.e2, Eg.e3, eAnd, eOr, eNot, eIf, aNil, aCons, eCall, eB, eLst, eTup, nw, g1E, g2E, rdI, rdB, rdN, rdS, rdT, rdL, rdD, gN, M.of, M.bad, List.map_cons, List.map_nil, List.length_cons, List.length_nil, List.replicate, List.nil_append, List.cons_append, List.getElem?_cons_zero, List.getElem?_cons_succ, List.set_cons_zero, List.set_cons_succ, Nat.sub_zero, Nat.reduceSub, Nat.reduceAdd, gN1E, rds, if_true, if_false, iteE, Bool.not_true, Bool.not_false, Bool.false_eq_true, reduceIte, ite_true, ite_false, rdC, q2, gMinA, gMin2, gMax2]
    · split <;> split <;> omega
    · split <;> split <;> omega
  have hfi : iRg1 (aCons (eB gMax2 (aCons (eC (.int (1))) (aCons (eB gMinA (aCons (eC (.int (8))) (aCons (eB gLenN (aCons (eVar 0) aNil)) aNil))) aNil))) aNil) [some (.scr ns), none, none, some bTwo, some good, some fine_, some (.lst [good, good]), none, none, none, none, none, none] st = .ok (.fz (rgL 0 r.toNat)) st := by
    unfold iRg1
    have := acons1 hr
    rw [M.bind_ok this]
    exact rg1 r0 (by omega)
  obtain ⟨ρ', st', q1, a, b, c, rfl⟩ := sfor_inv (g := gN 1) (body := (sSeq (sAsg (eCall 2 F__law_sack (aCons (eVar 0) (aCons (eVar 1) aNil))) (gN 7)) (sFor (iRg1 (aCons (eC (.int (3))) aNil)) (gN 8) (sIf (bNot (eT (eCall 4 F__law_right (aCons (eVar 7) (aCons (eVar 3) (aCons (eVar 5) (aCons (eVar 6) aNil))))))) (sRet (eC (.bl false))) sNx)))) hfi (fun _ ρ _ => ∃ a b c, ρ = [some (.scr ns), a, none, some bTwo, some good, some fine_, some (.lst [good, good]), b, c, none, none, none, none]) ⟨_, _, _, rfl⟩ (by
    rintro i x ρ s hi ⟨a, b, c, rfl⟩
    obtain ⟨i1, rfl⟩ := rg_get hi
    obtain ⟨s1, e1, k1⟩ := ev_sack (ns := ns) (t := 0 + (i : Int)) (st := s) (by omega) (by omega)
    rw [← sackE] at e1
    have u0 : (sAsg (eCall 2 F__law_sack (aCons (eVar 0) (aCons (eVar 1) aNil))) (gN 7)) [some (.scr ns), some (.int (0 + (i : Int))), none, some bTwo, some good, some fine_, some (.lst [good, good]), b, c, none, none, none, none] s = .nx [some (.scr ns), some (.int (0 + (i : Int))), none, some bTwo, some good, some fine_, some (.lst [good, good]), some (.loc s.next), c, none, none, none, none] s1 := by
      simp only [bindE, pureE, asI_int, szT, Nat.reduceLeDiff, Nat.zero_le, Cell.view, fnB, sSeq, sIf, sE, sRet, sNx, sAsg, sPar, sExpr, eT, bNot, bAnd, bOr, asB_bl, eVar, eC, Eg.e1, Eg.e2, Eg.e3, eAnd, eOr, eNot, eIf, aNil, aCons, eCall, eB, eLst, eTup, nw, g1E, g2E, rdI, rdB, rdN, rdS, rdT, rdL, rdD, gN, M.of, M.bad, List.map_cons, List.map_nil, List.length_cons, List.length_nil, List.replicate, List.nil_append, List.cons_append, List.getElem?_cons_zero, List.getElem?_cons_succ, List.set_cons_zero, List.set_cons_succ, Nat.sub_zero, Nat.reduceSub, Nat.reduceAdd, gN1E, rds, if_true, if_false, iteE, Bool.not_true, Bool.not_false, Bool.false_eq_true, reduceIte, ite_true, ite_false, e1]
    have hf2 : iRg1 (aCons (eC (.int (3))) aNil) [some (.scr ns), some (.int (0 + (i : Int))), none, some bTwo, some good, some fine_, some (.lst [good, good]), some (.loc s.next), c, none, none, none, none] s1 = .ok (.fz (rgL 0 3)) s1 := by
      simp only [iRg1, bindE, pureE, asI_int, szT, Nat.reduceLeDiff, Nat.zero_le, Cell.view, fnB, sSeq, sIf, sE, sRet, sNx, sAsg, sPar, sExpr, eT, bNot, bAnd, bOr, asB_bl, eVar, eC, Eg.e1, Eg.e2, Eg.e3, eAnd, eOr, eNot, eIf, aNil, aCons, eCall, eB, eLst, eTup, nw, g1E, g2E, rdI, rdB, rdN, rdS, rdT, rdL, rdD, gN, M.of, M.bad, List.map_cons, List.map_nil, List.length_cons, List.length_nil, List.replicate, List.nil_append, List.cons_append, List.getElem?_cons_zero, List.getElem?_cons_succ, List.set_cons_zero, List.set_cons_succ, Nat.sub_zero, Nat.reduceSub, Nat.reduceAdd, gN1E, rds, if_true, if_false, iteE, Bool.not_true, Bool.not_false, Bool.false_eq_true, reduceIte, ite_true, ite_false, rg1 (show (0 : Int) ≤ 3 by omega) (by omega)]
      rfl
    obtain ⟨ρ2, s2, p1, ⟨d, rfl⟩, p2⟩ := sfor_inv (g := gN 8) (body := (sIf (bNot (eT (eCall 4 F__law_right (aCons (eVar 7) (aCons (eVar 3) (aCons (eVar 5) (aCons (eVar 6) aNil))))))) (sRet (eC (.bl false))) sNx)) hf2 (fun j ρ s' => (∃ d, ρ = [some (.scr ns), some (.int (0 + (i : Int))), none, some bTwo, some good, some fine_, some (.lst [good, good]), some (.loc s.next), d, none, none, none, none]) ∧ Sk s.next s' (5 * j)) ⟨⟨_, rfl⟩, k1⟩ (by
      rintro j y ρ s' hj ⟨⟨d, rfl⟩, hk⟩
      obtain ⟨j1, rfl⟩ := rg_get hj
      obtain ⟨s3, e3, k3⟩ := ev_right hk (by omega)
      refine ⟨_, s', [some (.scr ns), some (.int (0 + (i : Int))), none, some bTwo, some good, some fine_, some (.lst [good, good]), some (.loc s.next), some (.int (0 + (j : Int))), none, none, none, none], s3, rfl, ?_, ⟨_, rfl⟩, by rw [Nat.mul_succ]; exact k3⟩
      simp only [bindE, pureE, asI_int, szT, Nat.reduceLeDiff, Nat.zero_le, Cell.view, fnB, sSeq, sIf, sE, sRet, sNx, sAsg, sPar, sExpr, eT, bNot, bAnd, bOr, asB_bl, eVar, eC, Eg.e1, Eg.e2, Eg.e3, eAnd, eOr, eNot, eIf, aNil, aCons, eCall, eB, eLst, eTup, nw, g1E, g2E, rdI, rdB, rdN, rdS, rdT, rdL, rdD, gN, M.of, M.bad, List.map_cons, List.map_nil, List.length_cons, List.length_nil, List.replicate, List.nil_append, List.cons_append, List.getElem?_cons_zero, List.getElem?_cons_succ, List.set_cons_zero, List.set_cons_succ, Nat.sub_zero, Nat.reduceSub, Nat.reduceAdd, gN1E, rds, if_true, if_false, iteE, Bool.not_true, Bool.not_false, Bool.false_eq_true, reduceIte, ite_true, ite_false, e3])
    refine ⟨_, s, _, s2, rfl, (seqE u0).trans p1, _, _, _, rfl⟩)
  refine ⟨st', fn_rt (m := 13) (f := b_law) rfl ?_⟩
  unfold b_law
  refine (seqE s0).trans ((seqE s1).trans ((seqE q1).trans ?_))
  kernel_rfl
theorem tb_cs (K : PySem.W.Frag) : ∀ p ∈ (Tb K).tb, ∃ c, (c, p.1) ∈ cs K := fun p hp => by
  simp only [Tb, List.mem_cons, List.not_mem_nil, or_false] at hp
  rcases hp with rfl | rfl | rfl
  · exact ⟨_, List.mem_map.mpr ⟨(tf.get ⟨0, by decide⟩), List.get_mem .., rfl⟩⟩
  · exact ⟨_, List.mem_map.mpr ⟨(tf.get ⟨1, by decide⟩), List.get_mem .., rfl⟩⟩
  · exact ⟨_, List.mem_map.mpr ⟨(tf.get ⟨2, by decide⟩), List.get_mem .., rfl⟩⟩
end Pf
open PySem PySem.W PySem.Calls PyProof.Rows
theorem PySem.Challenge.cw_setchooser_k54_errors_of_products_holds : PySem.Challenge.rw_setchooser_k54_errors_of_products.Holds := by
  w_on; o_law
  refine HandSHeadRun.head_any (r := Pf.R) (q := view Pf.R.prog [54]) (H := Pf.hk) (ob := Pf.ob) (M := 4000) (loose := Pf.loose) (d := HandSHeadRun.topDef Pf.R.prog 54) (kwd := []) Pf.ob_eq
    (by kernel_rfl) (fun s => by kernel_rfl) Pf.run (by kernel_rfl) (by kernel_rfl) (by kernel_rfl) (by rfl) (by first | assumption | decide +kernel) (by decide +kernel) ⟨rfl, rfl, rfl, rfl, rfl, by decide +kernel⟩ ?hw ?hc
  case hw => w_witness2
  case hc =>
    refine Eg.walk_endT (n := 63) (k := 14) (x := "_law_script") (T := Pf.Tb) (cs := Pf.cs) (F := Pf.F_law) rfl (by decide) (by kernel_rfl) ⟨rfl, by decide, by decide⟩ (fun ns _ => Pf.ev_law ns _) Pf.tb_cs ?F
    intro w mg fa h Y G hmg0
    obtain ⟨K, KX, c⟩ := Y
    have hs := Pf.hs_of KX G c.y c.xi
    have hmg : mg ("law" : PySem.Str) = some (.ref fa) := by
      have e : (HandSHeadRun.topDef Pf.R.prog 54).name = ("law" : PySem.Str) := by kernel_rfl
      rw [← e]
      exact hmg0
    obtain ⟨fd, FD⟩ := hs.d_law
    have hm := hs.g_law
    rw [hmg] at hm
    cases hm
    refine ⟨K, fd, KX, fun p hp => ?_, fun p hp => ?_, fun p hp => ?_, ?_, fun base hK hG ht => Pf.fng_law hs ht FD⟩
    · obtain ⟨q, hq, rfl⟩ := List.mem_map.mp hp
      exact c.y.emp q hq
    · obtain ⟨q, hq, rfl⟩ := List.mem_map.mp hp
      exact c.y.out q hq
    · obtain ⟨q, hq, rfl⟩ := List.mem_map.mp hp
      exact codeHd_of_K KX (c.y.hd q hq)
    · have b := L2.FunD.bindsA (ps := ["_law_script"]) FD fun _ _ _ _ _ _ us hl => match us, hl with | [_], _ => rfl
      exact fun s v => b s [v] rfl
