import PyProof.Rows.All
import Wide.All
import OpenK.AllK
import Wide.FinOn
import HandS.ForMost
import HandS.ForExc
import HandS.Walk
import HandS.Lambda
import HandS.TupAny
import HandS.TupMul
import HandS.Wide
import HandS.WideBits
import HandS.Deep
import HandS.IsInst
import HandS.Style
import HandS.Star
import HandS.Zip
import HandS.Gcd
import HandS.Defaults
import KE.GoesMore
import KE.GoesEnum
import HandS.HeadHook4
import HandS.Head3
import HandS.HeadEnd
import HandS.HeadWalk
import KE.KMathG
import KE.KMathGC
import HandS.FStr
import HandS.Text
import HandS.Iter
import KE.KExcLine
import HandS.Exc
import HandS.ExcOwn
import HandS.ExcInit
import HandS.TryMany
import HandS.ExcField
import PyProof.ReprRoads
import HandS.EndTab
import PyProof.StrOps2
import KE.DatumOrd
import HandS.AnyAll
import PyProof.GenCompT
import PyProof.FactsGen
import HandS.Conv
import PySem.Challenge.RW_thirdcounts_k07_errors_of_tables
set_option Elab.async false
set_option linter.all false
set_option maxRecDepth 100000
set_option maxHeartbeats 4000000
/-! Plain data over the hand layer: values as data, lists as places of a store; what an expression, a statement, a def is told by. -/
namespace MP
open PySem PySem.Spec PyProof.Rows L2

inductive D where
  | non | bl (b : Bool) | int (i : Int) | str (x : Str) | tup (ds : List D) | fl (ds : List D) | ref (n : Nat) | fn (i : Nat)
  deriving Inhabited

inductive SO where
  | lst (ds : List D)
  | dk (kvs : List (Key × D))
abbrev Sto := List SO
abbrev Rho := List (Option D)

/-- an exception: its class, its own field and what it keeps -/
structure Xn where
  c : Nat
  arg : Option (Str × D)

inductive Rs (α : Type) where
  | ok (a : α) (S : Sto)
  | exc (x : Xn) (S : Sto)
  | stuck
def Rs.bind {α β : Type} (r : Rs α) (k : α → Sto → Rs β) : Rs β := match r with
  | .ok a S => k a S
  | .exc x S => .exc x S
  | .stuck => .stuck

/-- the module: its written part, where its functions and classes stand -/
structure Md where
  K : PySem.W.Frag
  fa : Nat → Addr
  ca : Nat → Addr
  T : List (Addr × Str) := []
  cs : List (Addr × Addr) := []

structure Wd where
  μ : Nat → Addr
  S : Sto
  H : Hp

/-- a list that nobody writes -/
def FzL (K : PySem.W.Frag) (H : Hp) (a : Addr) (xs : List V) : Prop :=
  (∃ o, H a = some (.frz o (.lst xs))) ∨
    ∃ (o : Obj) (its : Array Value) (n : Nat), K.lookup a = some o ∧ o.cls = .type "list" ∧ o.dict = none ∧ o.data = .seq its n ∧ its.size ≤ sizeLine ∧ Vals xs its.toList

mutual
inductive DV (M : Md) (g : Wd) : D → V → Prop where
  | non : DV M g .non .non
  | bl (b : Bool) : DV M g (.bl b) (.bl b)
  | int (i : Int) : DV M g (.int i) (.int i)
  | str (x : Str) : DV M g (.str x) (.str x)
  | tup {a : Addr} {ds : List D} {xs : List V} : SqT M.K g.H a xs → DVs M g ds xs → DV M g (.tup ds) (.ref a)
  | fl {a : Addr} {ds : List D} {xs : List V} : FzL M.K g.H a xs → DVs M g ds xs → DV M g (.fl ds) (.ref a)
  | ref {n : Nat} : n < g.S.length → DV M g (.ref n) (.ref (g.μ n))
  | fn (i : Nat) : DV M g (.fn i) (.ref (M.fa i))
inductive DVs (M : Md) (g : Wd) : List D → List V → Prop where
  | nil : DVs M g [] []
  | cons {d : D} {ds : List D} {v : V} {vs : List V} : DV M g d v → DVs M g ds vs → DVs M g (d :: ds) (v :: vs)
end

def KDs (M : Md) (g : Wd) : List (Key × D) → List (Key × V) → Prop := Paired fun p q => p.1 = q.1 ∧ DV M g p.2 q.2

def OR (M : Md) (g : Wd) (a : Addr) : SO → Prop
  | .lst ds => ∃ xs, g.H a = some (.lst xs) ∧ DVs M g ds xs
  | .dk kvs => ∃ ws, g.H a = some (.dK ws) ∧ KDs M g kvs ws

structure Rep (M : Md) (g : Wd) : Prop where
  inj : ∀ i j, i < g.S.length → j < g.S.length → g.μ i = g.μ j → i = j
  obj : ∀ i o, g.S[i]? = some o → OR M g (g.μ i) o
  tabs : LamX.Tabs M.T g.H

structure Gr (g g' : Wd) : Prop where
  len : g.S.length ≤ g'.S.length
  same : ∀ n, n < g.S.length → g'.μ n = g.μ n
  fresh : ∀ n, g.S.length ≤ n → n < g'.S.length → ∀ o, g.H (g'.μ n) = some o → ∃ ps, o = .tbl ps
  keep : ∀ a o, g.H a = some o → (∀ n, n < g.S.length → g.μ n ≠ a) → (∀ ps, o ≠ .tbl ps) → g'.H a = some o
theorem isTbl (o : HO) : (∃ ps, o = .tbl ps) ∨ ∀ ps, o ≠ .tbl ps := by
  cases o <;> first | exact .inl ⟨_, rfl⟩ | exact .inr fun ps h => by cases h
/-- tables, an object at a that is no table and no code object was written -/
theorem tabs_but {T : List (Addr × Str)} {H H' : Hp} {a : Addr} (t : LamX.Tabs T H) (ha : (∃ xs, H a = some (.lst xs)) ∨ (∃ ws, H a = some (.dK ws)) ∨ H a = none) (e : ∀ b o, b ≠ a → H b = some o → H' b = some o) : LamX.Tabs T H' := fun p hp => by
  obtain ⟨ps, h1, h2, h3⟩ := t p hp
  have n1 : p.1 ≠ a := fun z => by
    rw [z] at h1
    rcases ha with ⟨_, q⟩ | ⟨_, q⟩ | q <;> (rw [q] at h1; cases h1)
  refine ⟨ps, e _ _ n1 h1, h2, fun pos cv hc => ?_⟩
  obtain ⟨c, e1, e2⟩ := h3 pos cv hc
  refine ⟨c, e1, e _ _ (fun z => ?_) e2⟩
  rw [z] at e2
  unfold LamX.CodeO at e2
  rcases ha with ⟨_, q⟩ | ⟨_, q⟩ | q <;> (rw [q] at e2; cases e2)

section
variable {M : Md} {g g' g1 g2 : Wd}

theorem OR.there {a : Addr} {o : SO} (h : OR M g a o) : (∃ xs, g.H a = some (.lst xs)) ∨ ∃ ws, g.H a = some (.dK ws) := by
  cases o with
  | lst ds => obtain ⟨xs, h, _⟩ := h; exact .inl ⟨xs, h⟩
  | dk kvs => obtain ⟨ws, h, _⟩ := h; exact .inr ⟨ws, h⟩
theorem Rep.at (r : Rep M g) {n : Nat} (h : n < g.S.length) : (∃ xs, g.H (g.μ n) = some (.lst xs)) ∨ ∃ ws, g.H (g.μ n) = some (.dK ws) :=
  (r.obj n _ (List.getElem?_eq_getElem h)).there
theorem Rep.not_tup (r : Rep M g) {n : Nat} (h : n < g.S.length) {xs : List V} : g.H (g.μ n) ≠ some (.tup xs) := fun e => by
  rcases r.at h with ⟨_, q⟩ | ⟨_, q⟩ <;> (rw [q] at e; cases e)
theorem Rep.not_frz (r : Rep M g) {n : Nat} (h : n < g.S.length) {o : Obj} {u : HO} : g.H (g.μ n) ≠ some (.frz o u) := fun e => by
  rcases r.at h with ⟨_, q⟩ | ⟨_, q⟩ <;> (rw [q] at e; cases e)
theorem Rep.not_xd (r : Rep M g) {n : Nat} (h : n < g.S.length) {fs : List (Str × V)} : g.H (g.μ n) ≠ some (.xd fs) := fun e => by
  rcases r.at h with ⟨_, q⟩ | ⟨_, q⟩ <;> (rw [q] at e; cases e)
theorem Rep.not_none (r : Rep M g) {n : Nat} (h : n < g.S.length) : g.H (g.μ n) ≠ none := fun e => by
  rcases r.at h with ⟨_, q⟩ | ⟨_, q⟩ <;> (rw [q] at e; cases e)

theorem Gr.refl : Gr g g := ⟨Nat.le_refl _, fun _ _ => rfl, fun n h1 h2 => absurd h2 (by omega), fun _ _ h _ _ => h⟩
theorem Gr.trans (r1 : Rep M g1) (a : Gr g g1) (b : Gr g1 g2) : Gr g g2 where
  len := Nat.le_trans a.len b.len
  same := fun n h => (b.same n (Nat.lt_of_lt_of_le h a.len)).trans (a.same n h)
  fresh := fun n h1 h2 o e => by
    by_cases h : n < g1.S.length
    · rw [b.same n h] at e; exact a.fresh n h1 h o e
    · have z := b.fresh n (by omega) h2
      rcases isTbl o with ht | ht
      · exact ht
      · by_cases hm : ∃ m, m < g.S.length ∧ g.μ m = g2.μ n
        · obtain ⟨m, h3, h4⟩ := hm
          have h5 := a.same m h3
          have h6 : m < g1.S.length := Nat.lt_of_lt_of_le h3 a.len
          rcases r1.at h6 with ⟨xs, q⟩ | ⟨ws, q⟩
          · rw [h5, h4] at q
            obtain ⟨ps, q2⟩ := z _ q
            cases q2
          · rw [h5, h4] at q
            obtain ⟨ps, q2⟩ := z _ q
            cases q2
        · exact z o (a.keep _ o e (fun m h3 h4 => hm ⟨m, h3, h4⟩) ht)
  keep := fun c o e h ht => by
    refine b.keep c o (a.keep c o e h ht) (fun n hn z => ?_) ht
    by_cases hl : n < g.S.length
    · exact h n hl (by rw [← a.same n hl]; exact z)
    · obtain ⟨ps, q⟩ := a.fresh n (by omega) hn o (by rw [z]; exact e)
      exact ht ps q

theorem Gr.tup (r : Rep M g) (k : Gr g g') {a : Addr} {xs : List V} (h : SqT M.K g.H a xs) : SqT M.K g'.H a xs := by
  rcases h with (h | ⟨o, h⟩) | h
  · exact .inl (.inl (k.keep _ _ h (fun n hn e => r.not_tup hn (by rw [e]; exact h)) (fun _ z => by cases z)))
  · exact .inl (.inr ⟨o, k.keep _ _ h (fun n hn e => r.not_frz hn (by rw [e]; exact h)) (fun _ z => by cases z)⟩)
  · exact .inr h
theorem Gr.fzl (r : Rep M g) (k : Gr g g') {a : Addr} {xs : List V} (h : FzL M.K g.H a xs) : FzL M.K g'.H a xs := by
  rcases h with ⟨o, h⟩ | h
  · exact .inl ⟨o, k.keep _ _ h (fun n hn e => r.not_frz hn (by rw [e]; exact h)) (fun _ z => by cases z)⟩
  · exact .inr h

mutual
theorem DV.mono (r : Rep M g) (k : Gr g g') : ∀ {d : D} {v : V}, DV M g d v → DV M g' d v
  | _, _, .non => .non
  | _, _, .bl b => .bl b
  | _, _, .int i => .int i
  | _, _, .str x => .str x
  | _, _, .tup h hs => .tup (k.tup r h) (DVs.mono r k hs)
  | _, _, .fl h hs => .fl (k.fzl r h) (DVs.mono r k hs)
  | _, _, .ref (n := n) h => by rw [← k.same n h]; exact .ref (Nat.lt_of_lt_of_le h k.len)
  | _, _, .fn i => .fn i
theorem DVs.mono (r : Rep M g) (k : Gr g g') : ∀ {ds : List D} {vs : List V}, DVs M g ds vs → DVs M g' ds vs
  | _, _, .nil => .nil
  | _, _, .cons h hs => .cons (DV.mono r k h) (DVs.mono r k hs)
end
theorem KDs.mono (r : Rep M g) (k : Gr g g') {a : List (Key × D)} {b : List (Key × V)} (h : KDs M g a b) : KDs M g' a b :=
  Paired.mapP h fun _ _ z => ⟨z.1, z.2.mono r k⟩

theorem DVs.length : ∀ {ds : List D} {vs : List V}, DVs M g ds vs → ds.length = vs.length
  | _, _, .nil => rfl
  | _, _, .cons _ t => by simp [DVs.length t]
theorem DVs.get : ∀ {ds : List D} {vs : List V} {i : Nat} {d : D}, DVs M g ds vs → ds[i]? = some d → ∃ v, vs[i]? = some v ∧ DV M g d v
  | _, _, _, _, .nil, e => by simp at e
  | _, _, 0, _, .cons h _, e => by simp at e; subst e; exact ⟨_, rfl, h⟩
  | _, _, i + 1, d, .cons _ t, e => by
    obtain ⟨u, h1, h2⟩ := DVs.get (i := i) (d := d) t (by simpa using e)
    exact ⟨u, by simpa using h1, h2⟩
theorem DVs.getV : ∀ {ds : List D} {vs : List V} {i : Nat} {v : V}, DVs M g ds vs → vs[i]? = some v → ∃ d, ds[i]? = some d ∧ DV M g d v
  | _, _, _, _, .nil, e => by simp at e
  | _, _, 0, _, .cons h _, e => by simp at e; subst e; exact ⟨_, rfl, h⟩
  | _, _, i + 1, d, .cons _ t, e => by
    obtain ⟨u, h1, h2⟩ := DVs.getV (i := i) (v := d) t (by simpa using e)
    exact ⟨u, by simpa using h1, h2⟩
theorem DVs.append : ∀ {a b : List D} {u v : List V}, DVs M g a u → DVs M g b v → DVs M g (a ++ b) (u ++ v)
  | _, _, _, _, .nil, s => s
  | _, _, _, _, .cons r t, s => .cons r (DVs.append t s)
theorem DVs.take : ∀ {a : List D} {u : List V} (n : Nat), DVs M g a u → DVs M g (a.take n) (u.take n)
  | _, _, 0, _ => .nil
  | _, _, _ + 1, .nil => .nil
  | _, _, n + 1, .cons r t => .cons r (DVs.take n t)
theorem DVs.drop : ∀ {a : List D} {u : List V} (n : Nat), DVs M g a u → DVs M g (a.drop n) (u.drop n)
  | _, _, 0, r => r
  | _, _, _ + 1, .nil => .nil
  | _, _, n + 1, .cons _ t => DVs.drop n t
theorem DVs.set {d : D} {v : V} (r : DV M g d v) : ∀ {a : List D} {u : List V} (n : Nat), DVs M g a u → DVs M g (a.set n d) (u.set n v)
  | _, _, _, .nil => .nil
  | _, _, 0, .cons _ t => .cons r t
  | _, _, n + 1, .cons q t => .cons q (DVs.set r n t)
theorem DVs.eraseIdx : ∀ {a : List D} {u : List V} (n : Nat), DVs M g a u → DVs M g (a.eraseIdx n) (u.eraseIdx n)
  | _, _, _, .nil => .nil
  | _, _, 0, .cons _ t => t
  | _, _, n + 1, .cons q t => .cons q (DVs.eraseIdx n t)
theorem DVs.dropLast {a : List D} {u : List V} (r : DVs M g a u) : DVs M g a.dropLast u.dropLast := by
  have h := r.take (a.length - 1)
  rw [List.dropLast_eq_take, List.dropLast_eq_take, ← r.length]
  exact h
theorem DVs.reverse : ∀ {a : List D} {u : List V}, DVs M g a u → DVs M g a.reverse u.reverse
  | _, _, .nil => .nil
  | _, _, .cons h t => by rw [List.reverse_cons, List.reverse_cons]; exact (DVs.reverse t).append (.cons h .nil)
theorem DVs.rep {a : List D} {u : List V} (r : DVs M g a u) : ∀ k : Nat, DVs M g (List.replicate k a).flatten (List.replicate k u).flatten
  | 0 => .nil
  | k + 1 => by rw [List.replicate_succ, List.replicate_succ, List.flatten_cons, List.flatten_cons]; exact r.append (DVs.rep r k)

/-! ### objects laid, written -/
/-- a new object that is no place of the store -/
theorem Gr.laid {p : Addr} {o : HO} (h : g.H p = none) : Gr g ⟨g.μ, g.S, upd g.H p o⟩ :=
  ⟨Nat.le_refl _, fun _ _ => rfl, fun n h1 h2 => absurd h2 (by show ¬ n < g.S.length; omega), fun a u e _ _ => by
    show upd g.H p o a = some u
    rw [upd_ne (ne_of_none e h)]; exact e⟩
theorem OR.of {a : Addr} {o : SO} (r : Rep M g) (k : Gr g g') (h : OR M g a o) (e : ∀ u, g.H a = some u → g'.H a = some u) : OR M g' a o := by
  cases o with
  | lst ds => obtain ⟨xs, h1, h2⟩ := h; exact ⟨xs, e _ h1, h2.mono r k⟩
  | dk kvs => obtain ⟨xs, h1, h2⟩ := h; exact ⟨xs, e _ h1, h2.mono r k⟩
theorem Rep.laid (r : Rep M g) {p : Addr} {o : HO} (h : g.H p = none) : Rep M ⟨g.μ, g.S, upd g.H p o⟩ :=
  ⟨r.inj, fun i u e => OR.of r (Gr.laid h) (r.obj i u e) fun w z => by
    show upd g.H p o _ = some w
    rw [upd_ne (ne_of_none z h)]; exact z, tabs_but r.tabs (.inr (.inr h)) fun b w hb z => by
    show upd g.H p o _ = some w
    rw [upd_ne hb]; exact z⟩
/-- a new place of the store -/
def Wd.new (g : Wd) (p : Addr) (o : SO) (u : HO) : Wd := ⟨fun n => if n = g.S.length then p else g.μ n, g.S ++ [o], upd g.H p u⟩
theorem Gr.new {p : Addr} {o : SO} {u : HO} (h : g.H p = none) : Gr g (g.new p o u) where
  len := by show g.S.length ≤ (g.S ++ [o]).length; simp
  same := fun n hn => by show (if n = g.S.length then p else g.μ n) = g.μ n; rw [if_neg (by omega)]
  fresh := fun n h1 h2 w z => by
    have h2 : n < (g.S ++ [o]).length := h2
    rw [List.length_append, List.length_singleton] at h2
    have e : n = g.S.length := by omega
    have z : g.H (if n = g.S.length then p else g.μ n) = some w := z
    rw [if_pos e, h] at z; cases z
  keep := fun a w e _ _ => by
    show upd g.H p u a = some w
    rw [upd_ne (ne_of_none e h)]; exact e
theorem Rep.new (r : Rep M g) {p : Addr} {o : SO} {u : HO} (h : g.H p = none) (ho : OR M (g.new p o u) p o) : Rep M (g.new p o u) := by
  have k : Gr g (g.new p o u) := Gr.new h
  have hl : (g.new p o u).S.length = g.S.length + 1 := by show (g.S ++ [o]).length = _; simp
  have hp : ∀ n, n < g.S.length → g.μ n ≠ p := fun n hn e => r.not_none hn (by rw [e]; exact h)
  refine ⟨fun i j hi hj e => ?_, fun i w e => ?_, tabs_but r.tabs (.inr (.inr h)) fun b w hb z => by
    show upd g.H p u _ = some w
    rw [upd_ne hb]; exact z⟩
  · rw [hl] at hi hj
    have e : (if i = g.S.length then p else g.μ i) = (if j = g.S.length then p else g.μ j) := e
    by_cases h1 : i = g.S.length
    · by_cases h2 : j = g.S.length
      · omega
      · rw [if_pos h1, if_neg h2] at e; exact absurd e.symm (hp j (by omega))
    · by_cases h2 : j = g.S.length
      · rw [if_neg h1, if_pos h2] at e; exact absurd e (hp i (by omega))
      · rw [if_neg h1, if_neg h2] at e; exact r.inj i j (by omega) (by omega) e
  · have e : (g.S ++ [o])[i]? = some w := e
    by_cases h1 : i < g.S.length
    · rw [List.getElem?_append_left h1] at e
      have q := OR.of r k (r.obj i w e) fun z hz => by
        show upd g.H p u _ = some z
        rw [upd_ne (ne_of_none hz h)]; exact hz
      have e2 : (g.new p o u).μ i = g.μ i := k.same i h1
      rw [e2]; exact q
    · have h2 : i = g.S.length := by
        have := (List.getElem?_eq_some_iff.mp e).1
        rw [List.length_append, List.length_singleton] at this
        omega
      subst h2
      rw [List.getElem?_append_right (Nat.le_refl _), Nat.sub_self] at e
      have e : some o = some w := e
      cases e
      have e2 : (g.new p o u).μ g.S.length = p := by show (if g.S.length = g.S.length then p else _) = p; rw [if_pos rfl]
      rw [e2]; exact ho
theorem DV.newRef {p : Addr} {o : SO} {u : HO} : DV M (g.new p o u) (.ref g.S.length) (.ref p) := by
  have e2 : (g.new p o u).μ g.S.length = p := by show (if g.S.length = g.S.length then p else _) = p; rw [if_pos rfl]
  have h : g.S.length < (g.new p o u).S.length := by show _ < (g.S ++ [o]).length; simp
  have q := DV.ref (M := M) (g := g.new p o u) h
  rw [e2] at q; exact q
/-- a place of the store is written -/
def Wd.put (g : Wd) (n : Nat) (o : SO) (u : HO) : Wd := ⟨g.μ, g.S.set n o, upd g.H (g.μ n) u⟩
theorem Gr.put {n : Nat} {o : SO} {u : HO} (hn : n < g.S.length) : Gr g (g.put n o u) where
  len := by show g.S.length ≤ (g.S.set n o).length; simp
  same := fun _ _ => rfl
  fresh := fun m h1 h2 => by
    have h2 : m < (g.S.set n o).length := h2
    rw [List.length_set] at h2
    omega
  keep := fun a w e h _ => by
    show upd g.H (g.μ n) u a = some w
    rw [upd_ne fun z => h n hn z.symm]; exact e
theorem Rep.put (r : Rep M g) {n : Nat} {o : SO} {u : HO} (hn : n < g.S.length) (ho : OR M (g.put n o u) (g.μ n) o) : Rep M (g.put n o u) := by
  have k : Gr g (g.put n o u) := Gr.put hn
  have hl : (g.put n o u).S.length = g.S.length := by show (g.S.set n o).length = _; simp
  refine ⟨fun i j hi hj e => r.inj i j (by omega) (by omega) e, fun i w e => ?_, tabs_but r.tabs ((r.at hn).elim .inl fun z => .inr (.inl z)) fun b w hb z => by
    show upd g.H (g.μ n) u _ = some w
    rw [upd_ne hb]; exact z⟩
  have e : (g.S.set n o)[i]? = some w := e
  by_cases h1 : i = n
  · subst h1
    rw [List.getElem?_set_self hn] at e
    cases e
    exact ho
  · rw [List.getElem?_set_ne (Ne.symm h1)] at e
    have hi : i < g.S.length := (List.getElem?_eq_some_iff.mp e).1
    refine OR.of r k (r.obj i w e) fun z hz => ?_
    show upd g.H (g.μ n) u (g.μ i) = some z
    rw [upd_ne fun q => h1 (r.inj i n hi hn q)]; exact hz
end

/-! ### what is wanted behind -/
def Aft (M : Md) {α : Type} (g : Wd) (r : Rs α) (P : α → Wd → Prop) (E : Xn → Wd → Prop) : Prop := match r with
  | .ok a S => ∀ g', g'.S = S → Gr g g' → Rep M g' → P a g'
  | .exc x S => ∀ g', g'.S = S → Gr g g' → Rep M g' → E x g'
  | .stuck => False
theorem Aft.bind {M : Md} {α β : Type} {g : Wd} {r : Rs α} {k : α → Sto → Rs β} {P : β → Wd → Prop} {E : Xn → Wd → Prop} (h : Aft M g (r.bind k) P E) : Aft M g r (fun a g1 => Aft M g1 (k a g1.S) P E) E := by
  cases r with
  | stuck => exact h
  | exc x S => exact h
  | ok a S =>
    intro g1 e1 k1 r1
    have h : Aft M g (k a S) P E := h
    rw [e1]
    cases hk : k a S with
    | stuck => rw [hk] at h; exact h
    | exc x S2 => rw [hk] at h; exact fun g2 e2 k2 r2 => h g2 e2 (k1.trans r1 k2) r2
    | ok b S2 => rw [hk] at h; exact fun g2 e2 k2 r2 => h g2 e2 (k1.trans r1 k2) r2
theorem Aft.mono {M : Md} {α : Type} {g : Wd} {r : Rs α} {P P' : α → Wd → Prop} {E E' : Xn → Wd → Prop} (h : Aft M g r P E) (hp : ∀ a g', Gr g g' → Rep M g' → P a g' → P' a g') (he : ∀ x g', Gr g g' → Rep M g' → E x g' → E' x g') : Aft M g r P' E' := by
  cases r with
  | stuck => exact h
  | exc x S => exact fun g1 e1 k1 r1 => he x g1 k1 r1 (h g1 e1 k1 r1)
  | ok a S => exact fun g1 e1 k1 r1 => hp a g1 k1 r1 (h g1 e1 k1 r1)
/-- nothing was laid or written -/
theorem Aft.here {M : Md} {α : Type} {g : Wd} {a : α} {P : α → Wd → Prop} {E : Xn → Wd → Prop} (r : Rep M g) (h : Aft M g (.ok a g.S) P E) : P a g := h g rfl Gr.refl r

/-- the slots -/
structure EnvOk (M : Md) (g : Wd) (ρ : Rho) (σ : L2.St) : Prop where
  len : ρ.length = σ.length
  at_ : ∀ (i : Nat) d, ρ[i]? = some (some d) → ∃ v, σ[i]? = some (some v) ∧ DV M g d v
theorem EnvOk.mono {M : Md} {g g' : Wd} {ρ : Rho} {σ : L2.St} (e : EnvOk M g ρ σ) (r : Rep M g) (k : Gr g g') : EnvOk M g' ρ σ :=
  ⟨e.len, fun i d h => let ⟨v, h1, h2⟩ := e.at_ i d h; ⟨v, h1, h2.mono r k⟩⟩
theorem EnvOk.set {M : Md} {g : Wd} {ρ : Rho} {σ : L2.St} {i : Nat} {d : D} {v : V} (e : EnvOk M g ρ σ) (h : DV M g d v) : EnvOk M g (ρ.set i (some d)) (σ.set i (some v)) := by
  refine ⟨by simp [e.len], fun j d' hj => ?_⟩
  by_cases hji : j = i
  · subst hji
    by_cases hl : j < ρ.length
    · rw [List.getElem?_set_self hl] at hj
      cases hj
      exact ⟨v, by rw [List.getElem?_set_self (by rw [← e.len]; exact hl)], h⟩
    · rw [List.getElem?_eq_none (by simpa using hl)] at hj; cases hj
  · rw [List.getElem?_set_ne (Ne.symm hji)] at hj
    obtain ⟨w, h1, h2⟩ := e.at_ j d' hj
    exact ⟨w, by rw [List.getElem?_set_ne (Ne.symm hji)]; exact h1, h2⟩

/-- what an exception is -/
def XV (M : Md) (g : Wd) (x : Xn) (cls : Value) (dx : Option Addr) : Prop :=
  cls = .ref (M.ca x.c) ∧ match x.arg with
    | none => dx = none
    | some (f, d) => ∃ a v, dx = some a ∧ g.H a = some (.xd [(f, v)]) ∧ DV M g d v

/-! ### expressions -/
abbrev Fe := Rho → Sto → Rs D
abbrev PD (M : Md) (Q : VK) : D → Wd → Prop := fun d g => ∀ v, DV M g d v → Q v g.H
abbrev XD (M : Md) (W : WX) (σ : L2.St) : Xn → Wd → Prop := fun x g => ∀ cls dx, XV M g x cls dx → W cls dx σ g.H
def tE (M : Md) (W : WX) (f : Fe) : TE := fun σ H Q => ∃ g ρ, g.H = H ∧ Rep M g ∧ EnvOk M g ρ σ ∧ Aft M g (f ρ g.S) (PD M Q) (XD M W σ)
/-- the expression e is told by f -/
abbrev ME (M : Md) (X : Cx) (W : WX) (e : Expr) (f : Fe) : Prop := PE X e (tE M W f)
theorem PE.imp {X : Cx} {e : Expr} {t t' : TE} (h : PE X e t) (i : ∀ σ H Q, t' σ H Q → t σ H Q) : PE X e t' := ⟨fun pins s σ H Q I h' => h.run pins s σ H Q I (i σ H Q h')⟩
theorem PT.imp {X : Cx} {e : Expr} {t t' : TT} (h : PT X e t) (i : ∀ σ H Q, t' σ H Q → t σ H Q) : PT X e t' := ⟨fun pins s σ H Q I h' => h.run pins s σ H Q I (i σ H Q h')⟩
theorem PS.imp {X : Cx} {e : Stmt} {t t' : TS} (h : PS X e t) (i : ∀ Dn σ H, t' Dn σ H → t Dn σ H) : PS X e t' := ⟨fun pins s σ H Dn I h' => h.run pins s σ H Dn I (i Dn σ H h')⟩
theorem PSs.imp {X : Cx} {e : List Stmt} {t t' : TS} (h : PSs X e t) (i : ∀ Dn σ H, t' Dn σ H → t Dn σ H) : PSs X e t' := ⟨fun pins s σ H Dn I h' => h.run pins s σ H Dn I (i Dn σ H h')⟩
theorem PA.imp {X : Cx} {e : List Expr} {t t' : TA} (h : PA X e t) (i : ∀ σ H Q, t' σ H Q → t σ H Q) : PA X e t' := ⟨fun pos pins s σ H Q I h' => h.run pos pins s σ H Q I (i σ H Q h')⟩

/-- from the reading of the one to the reading of the other: the way in -/
theorem tE.go {M : Md} {W : WX} {f : Fe} {σ : L2.St} {g : Wd} {ρ : Rho} {Q : VK} (r : Rep M g) (e : EnvOk M g ρ σ) (h : Aft M g (f ρ g.S) (PD M Q) (XD M W σ)) : tE M W f σ g.H Q := ⟨g, ρ, rfl, r, e, h⟩

section
variable {M : Md} {X : Cx} {W : WX}

def dVar (i : Nat) : Fe := fun ρ S => match ρ[i]? with
  | some (some d) => .ok d S
  | _ => .stuck
def dC (d : D) : Fe := fun _ S => .ok d S
theorem me_var {i : Nat} {x : Str} {pos : Pos} (hN : X.N[i]? = some x := by rfl) (hv : Vis X.env.scope x := by first | exact Or.inl rfl | exact Or.inr (Or.inl rfl) | exact Or.inr (Or.inr rfl)) (hd : (x == ("__debug__" : Str)) = false := by decide) (hcd : (x == ("__classdict__" : Str)) = false := by decide) : ME M X W (.Name x pos) (dVar i) := by
  refine PE.imp (pe_var hN hv hd hcd) fun σ H Q h => ?_
  obtain ⟨g, ρ, rfl, r, e, h⟩ := h
  unfold dVar at h
  split at h
  · rename_i d hd
    obtain ⟨v, h1, h2⟩ := e.at_ i d hd
    exact ⟨v, h1, h.here r v h2⟩
  · exact h.elim
theorem me_c {e : Expr} {v : V} {d : D} (h : PE X e (tC v)) (hd : ∀ g, DV M g d v) : ME M X W e (dC d) :=
  PE.imp h fun σ H Q h => by
    obtain ⟨g, ρ, rfl, r, e, h⟩ := h
    exact h.here r v (hd g)
theorem me_int {i : Int} {j : Nat} {pos : Pos} : ME M X W (.Constant (.int i) j pos) (dC (.int i)) := me_c pe_int fun _ => .int i
theorem me_bl {b : Bool} {j : Nat} {pos : Pos} : ME M X W (.Constant (.bool b) j pos) (dC (.bl b)) := me_c pe_bl fun _ => .bl b
theorem me_non {j : Nat} {pos : Pos} : ME M X W (.Constant .none j pos) (dC .non) := me_c pe_non fun _ => .non
theorem me_str {x : Str} {j : Nat} {pos : Pos} : ME M X W (.Constant (.str x) j pos) (dC (.str x)) := me_c pe_str fun _ => .str x
theorem me_glob {x : Str} {v : V} {d : D} {u : Value} {pos : Pos} (hg : Gl X x) (hm : X.mg x = some u) (r : RelV v u) (hd : ∀ g, DV M g d v) (hdb : (x == ("__debug__" : Str)) = false := by decide) : ME M X W (.Name x pos) (dC d) :=
  me_c (pe_glob hg hm r hdb) hd

/-! ### two operands -/
abbrev F2 := D → D → Sto → Rs D
def d2 (op : F2) (fa fb : Fe) : Fe := fun ρ S => (fa ρ S).bind fun x S1 => (fb ρ S1).bind fun y S2 => op x y S2
/-- an operation by values is told by op -/
def Op2 (M : Md) (r : R2) (op : F2) : Prop := ∀ (g : Wd) (x y : D) (v u : V) (Q : VK) (E : Xn → Wd → Prop), Rep M g → DV M g x v → DV M g y u → Aft M g (op x y g.S) (PD M Q) E → r v u g.H Q
theorem two {fa fb : Fe} {op : F2} {r : R2} (h : Op2 M r op) {σ : L2.St} {H : Hp} {Q : VK} (q : tE M W (d2 op fa fb) σ H Q) : tOp r (tE M W fa) (tE M W fb) σ H Q := by
  obtain ⟨g, ρ, rfl, rp, en, q⟩ := q
  have q := Aft.bind (k := fun x S1 => (fb ρ S1).bind fun y S2 => op x y S2) q
  refine tE.go rp en (q.mono (fun x g1 k1 r1 q1 v hv => ?_) fun _ _ _ _ z => z)
  have q1 := Aft.bind (k := fun y S2 => op x y S2) q1
  refine tE.go r1 (en.mono rp k1) (q1.mono (fun y g2 k2 r2 q2 u hu => ?_) fun _ _ _ _ z => z)
  exact h g2 x y v u Q _ r2 (hv.mono r1 k2) hu q2
theorem me_bin {a b : Expr} {op : Operator} {pos : Pos} {r : R2} {f : F2} {fa fb : Fe} (ho : OpR X (binaryOp op) r) (h : Op2 M r f) (ha : ME M X W a fa) (hb : ME M X W b fb) : ME M X W (.BinOp a op b pos) (d2 f fa fb) :=
  PE.imp (pe_op ho ha hb) fun _ _ _ q => two h q
theorem me_cmp {a b : Expr} {op : CmpOp} {pos : Pos} {r : R2} {f : F2} {fa fb : Fe} (ho : OpR X (compareOp op) r) (h : Op2 M r f) (ha : ME M X W a fa) (hb : ME M X W b fb) (hm : behindInMarks op b = false) : ME M X W (.Compare a [op] [b] pos) (d2 f fa fb) :=
  PE.imp (pe_cmpR ho ha hb hm) fun _ _ _ q => two h q
theorem me_ix {a b : Expr} {pos : Pos} {r : R2} {f : F2} {fa fb : Fe} (ho : IxR X r) (h : Op2 M r f) (ha : ME M X W a fa) (hb : ME M X W b fb) (hs : PlainIx b) : ME M X W (.Subscript a b pos) (d2 f fa fb) :=
  PE.imp (pe_ix ho ha hb hs) fun _ _ _ q => two h q
end
end MP
set_option Elab.async false
set_option linter.all false
set_option maxRecDepth 100000
set_option maxHeartbeats 4000000
/-! Operators by values. -/
namespace MP
open PySem PySem.Spec PyProof.Rows L2

section
variable {M : Md} {g : Wd}
theorem DV.tupI {ds : List D} {v : V} (h : DV M g (.tup ds) v) : ∃ a xs, v = .ref a ∧ SqT M.K g.H a xs ∧ DVs M g ds xs := by
  cases h with
  | tup h1 h2 => exact ⟨_, _, rfl, h1, h2⟩
theorem DV.refI {n : Nat} {v : V} (h : DV M g (.ref n) v) : v = .ref (g.μ n) ∧ n < g.S.length := by
  cases h with
  | ref h => exact ⟨rfl, h⟩
theorem DV.intI {i : Int} {v : V} (h : DV M g (.int i) v) : v = .int i := by cases h; rfl
theorem DV.blI {i : Bool} {v : V} (h : DV M g (.bl i) v) : v = .bl i := by cases h; rfl
theorem DV.strI {i : Str} {v : V} (h : DV M g (.str i) v) : v = .str i := by cases h; rfl
theorem Rep.lst (r : Rep M g) {n : Nat} {ds : List D} (h : g.S[n]? = some (.lst ds)) : ∃ xs, g.H (g.μ n) = some (.lst xs) ∧ DVs M g ds xs := r.obj n _ h
/-- a new list -/
theorem new_lst {ds : List D} {P : D → Wd → Prop} {E : Xn → Wd → Prop} (r : Rep M g) (h : Aft M g (.ok (.ref g.S.length) (g.S ++ [.lst ds])) P E) {xs : List V} {p : Addr} (hp : g.H p = none) (hx : DVs M g ds xs) :
    P (.ref g.S.length) (g.new p (.lst ds) (.lst xs)) :=
  h _ rfl (Gr.new hp) (r.new hp ⟨xs, upd_same, hx.mono r (Gr.new hp)⟩)
theorem new_tup {ds : List D} {P : D → Wd → Prop} {E : Xn → Wd → Prop} (r : Rep M g) (h : Aft M g (.ok (.tup ds) g.S) P E) {p : Addr} {o : HO} (hp : g.H p = none) : P (.tup ds) ⟨g.μ, g.S, upd g.H p o⟩ :=
  h _ rfl (Gr.laid hp) (r.laid hp)
theorem dv_new {ds : List D} {xs : List V} (r : Rep M g) {p : Addr} (hp : g.H p = none) (hx : DVs M g ds xs) : DV M ⟨g.μ, g.S, upd g.H p (.tup xs)⟩ (.tup ds) (.ref p) :=
  .tup (.inl (.inl upd_same)) (hx.mono r (Gr.laid hp))
/-- a list is written -/
theorem put_lst {α : Type} {a : α} {n : Nat} {ds ds' : List D} {P : α → Wd → Prop} {E : Xn → Wd → Prop} (r : Rep M g) (hn : g.S[n]? = some (.lst ds)) (h : Aft M g (.ok a (g.S.set n (.lst ds'))) P E) {xs' : List V} (hx : DVs M g ds' xs') :
    P a (g.put n (.lst ds') (.lst xs')) := by
  have hl : n < g.S.length := (List.getElem?_eq_some_iff.mp hn).1
  exact h _ rfl (Gr.put hl) (r.put hl ⟨xs', upd_same, hx.mono r (Gr.put hl)⟩)
end

/-! ### + -/
def dAdd : F2 := fun x y S => match x, y with
  | .int i, .int j => .ok (.int (i + j)) S
  | .str a, .str b => if a.length + b.length ≤ sizeLine then .ok (.str (a ++ b)) S else .stuck
  | .tup a, .tup b => if a.length + b.length ≤ sizeLine then .ok (.tup (a ++ b)) S else .stuck
  | .ref a, .ref b => match S[a]?, S[b]? with
    | some (.lst ds), some (.lst es) => if ds.length + es.length ≤ sizeLine then .ok (.ref S.length) (S ++ [.lst (ds ++ es)]) else .stuck
    | _, _ => .stuck
  | _, _ => .stuck
def rAddA (K : PySem.W.Frag) : R2 := fun x y H Q => (∃ i j, x = .int i ∧ y = .int j ∧ Q (.int (i + j)) H) ∨ ((∃ i j, x = .str i ∧ y = .str j ∧ i.length + j.length ≤ sizeLine ∧ Q (.str (i ++ j)) H) ∨ (rCatA K x y H Q ∨ rCat x y H Q))
theorem op_addA {X : Cx} : OpR X (binaryOp .Add) (rAddA X.K) := op_add.or (op_add_str.or (op_catA.or op_cat))
theorem o2_add {M : Md} : Op2 M (rAddA M.K) dAdd := by
  intro g x y v u Q E r hx hy h
  unfold dAdd at h
  split at h
  · rw [hx.intI, hy.intI]
    exact .inl ⟨_, _, rfl, rfl, h.here r _ (.int _)⟩
  · split at h
    · rename_i hz
      rw [hx.strI, hy.strI]
      exact .inr (.inl ⟨_, _, rfl, rfl, hz, h.here r _ (.str _)⟩)
    · exact h.elim
  · split at h
    · rename_i ds es hz
      obtain ⟨a, xs, rfl, ha, hxs⟩ := hx.tupI
      obtain ⟨b, ys, rfl, hb, hys⟩ := hy.tupI
      refine .inr (.inr (.inl ⟨a, b, xs, ys, rfl, rfl, ha, hb, by rw [← hxs.length, ← hys.length]; exact hz, fun e => ?_, fun _ e => ?_, fun _ _ p hp => ?_⟩))
      · subst e
        cases hxs
        exact h.here r _ hy
      · subst e
        cases hys
        have q := h.here r
        rw [List.append_nil] at q
        exact q _ hx
      · exact new_tup r h hp _ (dv_new r hp (hxs.append hys))
    · exact h.elim
  · split at h
    · rename_i a b _ _ ds es ha hb
      split at h
      · rename_i hz
        obtain ⟨rfl, _⟩ := hx.refI
        obtain ⟨rfl, _⟩ := hy.refI
        obtain ⟨xs, h1, hxs⟩ := r.lst ha
        obtain ⟨ys, h2, hys⟩ := r.lst hb
        refine .inr (.inr (.inr ⟨_, _, xs, ys, rfl, rfl, h1, h2, by rw [← hxs.length, ← hys.length]; exact hz, fun p hp => ?_⟩))
        exact new_lst r h hp (hxs.append hys) _ .newRef
      · exact h.elim
    · exact h.elim
  · exact h.elim

/-! ### - -/
def dSub : F2 := fun x y S => match x, y with
  | .int i, .int j => .ok (.int (i - j)) S
  | _, _ => .stuck
theorem o2_sub {M : Md} : Op2 M (rI0 fun i j => .int (i - j)) dSub := by
  intro g x y v u Q E r hx hy h
  unfold dSub at h
  split at h
  · rw [hx.intI, hy.intI]
    exact ⟨_, _, rfl, rfl, h.here r _ (.int _)⟩
  · exact h.elim

/-! ### * -/
def szMul (i j : Int) : Bool := decide (i.natAbs.log2 + j.natAbs.log2 < 100000000)
theorem szMul.ok {i j : Int} (h : szMul i j = true) : IntMulOk i j := by
  have h3 : i.natAbs.log2 + j.natAbs.log2 < 100000000 := of_decide_eq_true h
  have b : ∀ x : Int, Builtin.Int.intBits x ≤ x.natAbs.log2 + 1 := fun x => by
    unfold Builtin.Int.intBits
    split <;> omega
  have h1 := b i
  have h2 := b j
  have e : bitsLine = 134217728 := by decide
  unfold IntMulOk
  intro z
  rw [Bool.and_eq_true] at z
  have z2 := z.2
  unfold Builtin.Int.intTooBig at z2
  have z3 := of_decide_eq_true z2
  rw [e] at z3
  omega
theorem op_mulD {X : Cx} : OpR X (binaryOp .Mult) (rI (fun i j => szMul i j = true) fun i j => .int (i * j)) := opI fun _ _ _ _ _ _ _ hc q => mul_int q (szMul.ok hc)
def dMul : F2 := fun x y S => match x, y with
  | .int i, .int j => if szMul i j = true then .ok (.int (i * j)) S else .stuck
  | .ref a, .int k => match S[a]? with
    | some (.lst ds) => if -(2 ^ 63) ≤ k ∧ k < 2 ^ 63 ∧ ds.length * k.toNat ≤ sizeLine then .ok (.ref S.length) (S ++ [.lst (List.replicate k.toNat ds).flatten]) else .stuck
    | _ => .stuck
  | .tup ds, .int k => if ds ≠ [] ∧ 2 ≤ k ∧ k ≤ 1000 ∧ ds.length ≤ 1000 then .ok (.tup (List.replicate k.toNat ds).flatten) S else .stuck
  | _, _ => .stuck
def rMulA (K : PySem.W.Frag) : R2 := fun x y H Q => rI (fun i j => szMul i j = true) (fun i j => .int (i * j)) x y H Q ∨ (rRep x y H Q ∨ rRepT K x y H Q)
theorem op_mulA {X : Cx} : OpR X (binaryOp .Mult) (rMulA X.K) := op_mulD.or (op_rep.or op_repT)
theorem o2_mul {M : Md} : Op2 M (rMulA M.K) dMul := by
  intro g x y v u Q E r hx hy h
  unfold dMul at h
  split at h
  · split at h
    · rename_i hz
      rw [hx.intI, hy.intI]
      exact .inl ⟨_, _, rfl, rfl, hz, h.here r _ (.int _)⟩
    · exact h.elim
  · split at h
    · rename_i ds ha
      split at h
      · rename_i hz
        obtain ⟨rfl, _⟩ := hx.refI
        rw [hy.intI]
        obtain ⟨xs, h1, hxs⟩ := r.lst ha
        refine .inr (.inl ⟨_, _, xs, rfl, rfl, h1, hz.1, hz.2.1, by rw [← hxs.length]; exact hz.2.2, fun p hp => ?_⟩)
        exact new_lst r h hp (hxs.rep _) _ .newRef
      · exact h.elim
    · exact h.elim
  · split at h
    · rename_i ds k hz
      obtain ⟨a, xs, rfl, ha, hxs⟩ := hx.tupI
      rw [hy.intI]
      refine .inr (.inr ⟨a, _, xs, rfl, rfl, ha, fun e => hz.1 (by subst e; cases hxs; rfl), hz.2.1, hz.2.2.1, by rw [← hxs.length]; exact hz.2.2.2, fun p hp => ?_⟩)
      exact new_tup r h hp _ (dv_new r hp (hxs.rep _))
    · exact h.elim
  · exact h.elim

/-! ### // % ** -/
def szDiv (j : Int) : Bool := decide (j ≠ 0) && decide (j.natAbs.log2 < 9000)
theorem op_fdivD {X : Cx} : OpR X (binaryOp .FloorDiv) (rI (fun _ j => szDiv j = true) fun i j => .int (i.fdiv j)) := opI fun i j _ _ _ _ _ hc q => by
  have h := Bool.and_eq_true_iff.mp hc
  exact floordiv_int (of_decide_eq_true h.1) q (.inl (PyProof.noPylong_of_log2 (of_decide_eq_true h.2)))
def dFdiv : F2 := fun x y S => match x, y with
  | .int i, .int j => if szDiv j = true then .ok (.int (i.fdiv j)) S else .stuck
  | _, _ => .stuck
theorem o2_fdiv {M : Md} : Op2 M (rI (fun _ j => szDiv j = true) fun i j => .int (i.fdiv j)) dFdiv := by
  intro g x y v u Q E r hx hy h
  unfold dFdiv at h
  split at h
  · split at h
    · rename_i hz
      rw [hx.intI, hy.intI]
      exact ⟨_, _, rfl, rfl, hz, h.here r _ (.int _)⟩
    · exact h.elim
  · exact h.elim
def dMod : F2 := fun x y S => match x, y with
  | .int i, .int j => if j = 0 then .stuck else .ok (.int (i.fmod j)) S
  | _, _ => .stuck
theorem o2_mod {M : Md} : Op2 M (rI (fun _ j => j ≠ 0) fun i j => .int (i.fmod j)) dMod := by
  intro g x y v u Q E r hx hy h
  unfold dMod at h
  split at h
  · split at h
    · exact h.elim
    · rename_i hz
      rw [hx.intI, hy.intI]
      exact ⟨_, _, rfl, rfl, hz, h.here r _ (.int _)⟩
  · exact h.elim
def dPow : F2 := fun x y S => match x, y with
  | .int i, .int j => if 0 ≤ j ∧ j ≤ 1000000 ∧ i.natAbs < 2 ^ 64 then .ok (.int (i ^ j.toNat)) S else .stuck
  | _, _ => .stuck
theorem o2_pow {M : Md} : Op2 M (rI CPow fun i j => .int (i ^ j.toNat)) dPow := by
  intro g x y v u Q E r hx hy h
  unfold dPow at h
  split at h
  · split at h
    · rename_i hz
      rw [hx.intI, hy.intI]
      exact ⟨_, _, rfl, rfl, hz, h.here r _ (.int _)⟩
    · exact h.elim
  · exact h.elim

/-! ### orders of ints -/
def dIB (p : Int → Int → Bool) : F2 := fun x y S => match x, y with
  | .int i, .int j => .ok (.bl (p i j)) S
  | _, _ => .stuck
theorem o2_ib {M : Md} {p : Int → Int → Bool} : Op2 M (rI0 fun i j => .bl (p i j)) (dIB p) := by
  intro g x y v u Q E r hx hy h
  unfold dIB at h
  split at h
  · rw [hx.intI, hy.intI]
    exact ⟨_, _, rfl, rfl, h.here r _ (.bl _)⟩
  · exact h.elim
/-- orders that are stuck at once at what is not known -/
def ltI : Int → Int → Bool
  | .ofNat a, .ofNat b => Nat.ble (a + 1) b
  | .ofNat _, .negSucc _ => false
  | .negSucc _, .ofNat _ => true
  | .negSucc a, .negSucc b => Nat.ble (b + 1) a
def leI (i j : Int) : Bool := !ltI j i
@[simp] theorem ltI_eq (i j : Int) : ltI i j = decide (i < j) := by
  rw [Bool.eq_iff_iff, decide_eq_true_eq]
  match i, j with
  | .ofNat a, .ofNat b =>
    show Nat.ble (a + 1) b = true ↔ _
    rw [Nat.ble_eq]
    show a + 1 ≤ b ↔ (a : Int) < (b : Int)
    omega
  | .ofNat a, .negSucc b =>
    show false = true ↔ _
    constructor
    · intro h; cases h
    · intro h
      have : Int.ofNat a < Int.negSucc b := h
      have h1 : (0 : Int) ≤ Int.ofNat a := Int.natCast_nonneg a
      have h2 : Int.negSucc b < 0 := Int.negSucc_lt_zero b
      omega
  | .negSucc a, .ofNat b =>
    show true = true ↔ _
    have h1 : (0 : Int) ≤ Int.ofNat b := Int.natCast_nonneg b
    have h2 : Int.negSucc a < 0 := Int.negSucc_lt_zero a
    constructor
    · intro _; omega
    · intro _; rfl
  | .negSucc a, .negSucc b =>
    show Nat.ble (b + 1) a = true ↔ _
    rw [Nat.ble_eq, Int.negSucc_eq, Int.negSucc_eq]
    omega
@[simp] theorem leI_eq (i j : Int) : leI i j = decide (i ≤ j) := by
  unfold leI
  rw [ltI_eq, Bool.eq_iff_iff]
  simp
abbrev dLt : F2 := dIB ltI
abbrev dLe : F2 := dIB leI
abbrev dGt : F2 := dIB fun i j => ltI j i
abbrev dGe : F2 := dIB fun i j => leI j i
theorem o2_lt {M : Md} : Op2 M (rI0 fun i j => .bl (decide (i < j))) dLt := by
  have e := o2_ib (M := M) (p := ltI)
  simp only [ltI_eq] at e
  exact e
theorem o2_le {M : Md} : Op2 M (rI0 fun i j => .bl (decide (i ≤ j))) dLe := by
  have e := o2_ib (M := M) (p := leI)
  simp only [leI_eq] at e
  exact e
theorem o2_gt {M : Md} : Op2 M (rI0 fun i j => .bl (decide (j < i))) dGt := by
  have e := o2_ib (M := M) (p := fun i j => ltI j i)
  have e2 : (fun i j : Int => decide (j < i)) = fun i j => ltI j i := by funext i j; rw [ltI_eq]
  have e3 : (rI0 fun i j => .bl (decide (j < i))) = rI0 fun i j => .bl (ltI j i) := by simp only [ltI_eq]
  rw [e3]
  exact e
theorem o2_ge {M : Md} : Op2 M (rI0 fun i j => .bl (decide (j ≤ i))) dGe := by
  have e := o2_ib (M := M) (p := fun i j => leI j i)
  have e3 : (rI0 fun i j => .bl (decide (j ≤ i))) = rI0 fun i j => .bl (leI j i) := by simp only [leI_eq]
  rw [e3]
  exact e

/-! ### == of data -/
def toPyL (f : D → Option PyData) : List D → Option (List PyData)
  | [] => some []
  | d :: ds => match f d, toPyL f ds with
    | some a, some as => some (a :: as)
    | _, _ => none
def toPy : Nat → Sto → D → Option PyData
  | 0, _, _ => none
  | n + 1, S, d => match d with
    | .non => some .none
    | .bl b => some (.bool b)
    | .int i => some (.int i)
    | .str x => some (.str x)
    | .tup ds => (toPyL (toPy n S) ds).map .tuple
    | .fl ds => (toPyL (toPy n S) ds).map .list
    | .ref k => match S[k]? with
      | some (.lst ds) => (toPyL (toPy n S) ds).map .list
      | _ => none
    | .fn _ => none
theorem FzL.sql {K : PySem.W.Frag} {H : Hp} {a : Addr} {xs : List V} (h : FzL K H a xs) : SqL K H a xs := by
  rcases h with ⟨o, h⟩ | h
  · exact .inl (.inr ⟨o, h⟩)
  · exact .inr h
theorem toPyL_dp {M : Md} {g : Wd} {f : D → Option PyData} (hf : ∀ d v p, DV M g d v → f d = some p → Dp M.K g.H v p) : ∀ {ds : List D} {vs : List V} {ps : List PyData}, DVs M g ds vs → toPyL f ds = some ps → DpAll M.K g.H vs ps
  | [], _, _, h, e => by
    cases h
    cases (show some [] = some _ from e)
    exact .nil
  | d :: ds, _, _, h, e => by
    cases h with
    | cons h1 h2 =>
      unfold toPyL at e
      split at e
      · rename_i a as e1 e2
        cases e
        exact .cons (hf _ _ _ h1 e1) (toPyL_dp hf h2 e2)
      · cases e
theorem toPy_dp {M : Md} {g : Wd} (r : Rep M g) : ∀ (n : Nat) {d : D} {v : V} {p : PyData}, DV M g d v → toPy n g.S d = some p → Dp M.K g.H v p
  | 0, _, _, _, _, e => by cases e
  | n + 1, d, v, p, h, e => by
    have ih : ∀ d v p, DV M g d v → toPy n g.S d = some p → Dp M.K g.H v p := fun d v p => toPy_dp r n
    unfold toPy at e
    cases h with
    | non => cases e; exact .non
    | bl b => cases e; exact .bl b
    | int i => cases e; exact .int i
    | str x => cases e; exact .str x
    | tup h1 h2 =>
      simp only [Option.map_eq_some_iff] at e
      obtain ⟨ps, e1, rfl⟩ := e
      exact .tup h1 (toPyL_dp ih h2 e1)
    | fl h1 h2 =>
      simp only [Option.map_eq_some_iff] at e
      obtain ⟨ps, e1, rfl⟩ := e
      exact .lst h1.sql (toPyL_dp ih h2 e1)
    | ref h1 =>
      simp only at e
      split at e
      · rename_i ds hk
        simp only [Option.map_eq_some_iff] at e
        obtain ⟨ps, e1, rfl⟩ := e
        obtain ⟨xs, hx, hxs⟩ := r.lst hk
        exact .lst (.inl (.inl hx)) (toPyL_dp ih hxs e1)
      · cases e
    | fn i => cases e
def dEqB (neg : Bool) : F2 := fun x y S => match toPy 60 S x, toPy 60 S y with
  | some a, some b => if SeqAt.shaped a && SeqAt.shaped b then .ok (.bl (if neg then !PyData.eqv a b else PyData.eqv a b)) S else .stuck
  | _, _ => .stuck
abbrev dEq : F2 := dEqB false
abbrev dNe : F2 := dEqB true
theorem o2_eq {M : Md} : Op2 M (rEqD M.K) dEq := by
  intro g x y v u Q E r hx hy h
  unfold dEq dEqB at h
  split at h
  · rename_i a b ea eb
    split at h
    · rename_i hz
      rw [Bool.and_eq_true] at hz
      exact ⟨a, b, toPy_dp r _ hx ea, toPy_dp r _ hy eb, hz.1, hz.2, h.here r _ (.bl _)⟩
    · exact h.elim
  · exact h.elim
theorem o2_ne {M : Md} : Op2 M (rNeD M.K) dNe := by
  intro g x y v u Q E r hx hy h
  unfold dNe dEqB at h
  split at h
  · rename_i a b ea eb
    split at h
    · rename_i hz
      rw [Bool.and_eq_true] at hz
      exact ⟨a, b, toPy_dp r _ hx ea, toPy_dp r _ hy eb, hz.1, hz.2, h.here r _ (.bl _)⟩
    · exact h.elim
  · exact h.elim

/-! ### x in xs -/
def rInTD (K : PySem.W.Frag) (neg : Bool) : R2 := fun x y H Q => ∃ d ds, Dp K H x d ∧ Dp K H y (.tuple ds) ∧ SeqAt.shaped d = true ∧ SeqAt.shaped (.tuple ds) = true ∧ Q (.bl (if neg then !(ds.any fun z => PyData.eqv z d) else ds.any fun z => PyData.eqv z d)) H
theorem op_inTD {X : Cx} (hu : X.A.units + 65 < cLine) : OpR X (compareOp .In) (rInTD X.K false) := by
  intro pins s σ H x y v u Q I rx ry h
  obtain ⟨d, ds, hd, he, sd, se, q⟩ := h
  obtain ⟨as, r1⟩ := Dp.reads I d x v hd rx
  obtain ⟨bs, r2⟩ := Dp.reads I (.tuple ds) y u he ry
  exact SeqAt.in_tuple_reads r2 r1 (SeqAt.canLay_of_shaped se) (SeqAt.canLay_of_shaped sd) (room_in_shaped sd hu) ⟨.bl _, H, I, rfl, q⟩
theorem op_notInTD {X : Cx} (hu : X.A.units + 65 < cLine) : OpR X (compareOp .NotIn) (rInTD X.K true) := by
  intro pins s σ H x y v u Q I rx ry h
  obtain ⟨d, ds, hd, he, sd, se, q⟩ := h
  obtain ⟨as, r1⟩ := Dp.reads I d x v hd rx
  obtain ⟨bs, r2⟩ := Dp.reads I (.tuple ds) y u he ry
  exact SeqAt.notIn_tuple_reads r2 r1 (SeqAt.canLay_of_shaped se) (SeqAt.canLay_of_shaped sd) (room_in_shaped sd hu) ⟨.bl _, H, I, rfl, q⟩
def dInB (neg : Bool) : F2 := fun x y S => match toPy 60 S x, toPy 60 S y with
  | some a, some (.tuple ds) => if SeqAt.shaped a && SeqAt.shaped (.tuple ds) then .ok (.bl (if neg then !(ds.any fun z => PyData.eqv z a) else ds.any fun z => PyData.eqv z a)) S else .stuck
  | some a, some (.list ds) => if SeqAt.shaped a && SeqAt.shaped (.list ds) then .ok (.bl (if neg then !(ds.any fun z => PyData.eqv z a) else ds.any fun z => PyData.eqv z a)) S else .stuck
  | _, _ => .stuck
abbrev dIn : F2 := dInB false
abbrev dNotIn : F2 := dInB true
def rInA (K : PySem.W.Frag) : R2 := fun x y H Q => rInTD K false x y H Q ∨ rInD K x y H Q
def rNotInA (K : PySem.W.Frag) : R2 := fun x y H Q => rInTD K true x y H Q ∨ rNotInD K x y H Q
theorem op_inA {X : Cx} (hu : X.A.units + 65 < cLine) : OpR X (compareOp .In) (rInA X.K) := (op_inTD hu).or (op_inD hu)
theorem op_notInA {X : Cx} (hu : X.A.units + 65 < cLine) : OpR X (compareOp .NotIn) (rNotInA X.K) := (op_notInTD hu).or (op_notInD hu)
theorem o2_in {M : Md} : Op2 M (rInA M.K) dIn := by
  intro g x y v u Q E r hx hy h
  unfold dIn dInB at h
  split at h
  · rename_i a ds ea eb
    split at h
    · rename_i hz
      rw [Bool.and_eq_true] at hz
      exact .inl ⟨a, ds, toPy_dp r _ hx ea, toPy_dp r _ hy eb, hz.1, hz.2, h.here r _ (.bl _)⟩
    · exact h.elim
  · rename_i a ds ea eb
    split at h
    · rename_i hz
      rw [Bool.and_eq_true] at hz
      exact .inr ⟨a, ds, toPy_dp r _ hx ea, toPy_dp r _ hy eb, hz.1, hz.2, h.here r _ (.bl _)⟩
    · exact h.elim
  · exact h.elim
theorem o2_notIn {M : Md} : Op2 M (rNotInA M.K) dNotIn := by
  intro g x y v u Q E r hx hy h
  unfold dNotIn dInB at h
  split at h
  · rename_i a ds ea eb
    split at h
    · rename_i hz
      rw [Bool.and_eq_true] at hz
      exact .inl ⟨a, ds, toPy_dp r _ hx ea, toPy_dp r _ hy eb, hz.1, hz.2, h.here r _ (.bl _)⟩
    · exact h.elim
  · rename_i a ds ea eb
    split at h
    · rename_i hz
      rw [Bool.and_eq_true] at hz
      exact .inr ⟨a, ds, toPy_dp r _ hx ea, toPy_dp r _ hy eb, hz.1, hz.2, h.here r _ (.bl _)⟩
    · exact h.elim
  · exact h.elim

/-! ### items, slices -/
def dAt : F2 := fun x y S => match x, y with
  | .tup ds, .int i => match atI ds i with
    | some d => .ok d S
    | none => .stuck
  | .fl ds, .int i => match atI ds i with
    | some d => .ok d S
    | none => .stuck
  | .ref a, .int i => match S[a]? with
    | some (.lst ds) => match atI ds i with
      | some d => .ok d S
      | none => .stuck
    | _ => .stuck
  | _, _ => .stuck
theorem atI_dv {M : Md} {g : Wd} {ds : List D} {vs : List V} {i : Int} {d : D} (h : DVs M g ds vs) (e : atI ds i = some d) : ∃ v, atI vs i = some v ∧ DV M g d v := by
  unfold atI at e ⊢
  rw [← h.length]
  cases q : ixN ds.length i with
  | none => rw [q] at e; cases e
  | some j =>
    rw [q] at e
    exact h.get (show ds[j]? = some d from e)
theorem o2_at {M : Md} : Op2 M (rIx M.K) dAt := by
  intro g x y v u Q E r hx hy h
  unfold dAt at h
  split at h
  · split at h
    · rename_i d e
      obtain ⟨a, xs, rfl, ha, hxs⟩ := hx.tupI
      obtain ⟨w, h1, h2⟩ := atI_dv hxs e
      rw [hy.intI]
      exact .inr (.inl ⟨a, xs, _, w, rfl, rfl, ha, h1, h.here r _ h2⟩)
    · exact h.elim
  · split at h
    · rename_i d e
      cases hx with
      | fl ha hxs =>
        obtain ⟨w, h1, h2⟩ := atI_dv hxs e
        rw [hy.intI]
        exact .inl ⟨_, _, _, w, rfl, rfl, ha.sql, h1, h.here r _ h2⟩
    · exact h.elim
  · split at h
    · rename_i ds hk
      split at h
      · rename_i d e
        obtain ⟨rfl, _⟩ := hx.refI
        obtain ⟨xs, ha, hxs⟩ := r.lst hk
        obtain ⟨w, h1, h2⟩ := atI_dv hxs e
        rw [hy.intI]
        exact .inl ⟨_, _, _, w, rfl, rfl, .inl (.inl ha), h1, h.here r _ h2⟩
      · exact h.elim
    · exact h.elim
  · exact h.elim
end MP
set_option Elab.async false
set_option linter.all false
set_option maxRecDepth 100000
set_option maxHeartbeats 4000000
/-! Tests, displays, slices, calls. -/
namespace MP
open PySem PySem.Spec PyProof.Rows L2

/-! ### tests -/
abbrev Ft := Rho → Sto → Rs Bool
def tT (M : Md) (W : WX) (f : Ft) : TT := fun σ H Q => ∃ g ρ, g.H = H ∧ Rep M g ∧ EnvOk M g ρ σ ∧ Aft M g (f ρ g.S) (fun b g' => Q b g'.H) (XD M W σ)
abbrev MT (M : Md) (X : Cx) (W : WX) (e : Expr) (f : Ft) : Prop := PT X e (tT M W f)
theorem tT.go {M : Md} {W : WX} {f : Ft} {σ : L2.St} {g : Wd} {ρ : Rho} {Q : Bool → Hp → Prop} (r : Rep M g) (e : EnvOk M g ρ σ) (h : Aft M g (f ρ g.S) (fun b g' => Q b g'.H) (XD M W σ)) : tT M W f σ g.H Q := ⟨g, ρ, rfl, r, e, h⟩
def asB : D → Sto → Rs Bool := fun d S => match d with
  | .bl b => .ok b S
  | _ => .stuck
/-- a value that is a truth value, as a test -/
def fB (f : Fe) : Ft := fun ρ S => (f ρ S).bind asB
def truD : D → Sto → Rs Bool := fun d S => match d with
  | .non => .ok false S
  | .bl b => .ok b S
  | .int i => .ok (i != 0) S
  | .str x => if x.length ≤ sizeLine then .ok ((x.length : Int) != 0) S else .stuck
  | .tup ds => .ok (!ds.isEmpty) S
  | .fl ds => .ok (!ds.isEmpty) S
  | .ref n => match S[n]? with
    | some (.lst ds) => .ok (!ds.isEmpty) S
    | some (.dk kvs) => .ok (!kvs.isEmpty) S
    | _ => .stuck
  | .fn _ => .stuck
/-- any value as a test -/
def fTru (f : Fe) : Ft := fun ρ S => (f ρ S).bind truD
theorem isEmpty_dvs {M : Md} {g : Wd} {ds : List D} {xs : List V} (h : DVs M g ds xs) : ds.isEmpty = xs.isEmpty := by
  cases h <;> rfl
section
variable {M : Md} {X : Cx} {W : WX}
theorem asB_q {g : Wd} {d : D} {v : V} {Q : Bool → Hp → Prop} {E : Xn → Wd → Prop} (r : Rep M g) (hv : DV M g d v) (h : Aft M g (asB d g.S) (fun b g' => Q b g'.H) E) : ∃ k, v = .bl k ∧ Q k g.H := by
  unfold asB at h
  split at h
  · exact ⟨_, hv.blI, h.here r⟩
  · exact h.elim
theorem fB_t {f : Fe} {σ : L2.St} {H : Hp} {Q : Bool → Hp → Prop} (q : tT M W (fB f) σ H Q) : tE M W f σ H fun x H1 => ∃ k, x = .bl k ∧ Q k H1 := by
  obtain ⟨g, ρ, rfl, rp, en, q⟩ := q
  have q := Aft.bind (k := asB) q
  exact tE.go rp en (q.mono (fun d g1 k1 r1 q1 v hv => asB_q r1 hv q1) fun _ _ _ _ z => z)
theorem mt_val {e : Expr} {f : Fe} (h : ME M X W e f) (he : ∀ whole, isTrue e X.env whole = (do let v ← whole; standAt e.pos; holding [v] (truthy v)) := by intro _; rfl) : MT M X W e (fB f) :=
  PT.imp (pt_val h he) fun _ _ _ q => fB_t q
theorem mt_cmp {a b : Expr} {op : CmpOp} {pos : Pos} {r : R2} {f : F2} {fa fb : Fe} (ho : OpR X (compareOp op) r) (h : Op2 M r f) (ha : ME M X W a fa) (hb : ME M X W b fb) (hm : behindInMarks op b = false) : MT M X W (.Compare a [op] [b] pos) (fB (d2 f fa fb)) :=
  PT.imp (pt_cmpR ho ha hb hm) fun _ _ _ q => two h (fB_t q)
theorem truD_q {g : Wd} {d : D} {v : V} {Q : Bool → Hp → Prop} {E : Xn → Wd → Prop} (r : Rep M g) (hv : DV M g d v) (h : Aft M g (truD d g.S) (fun b g' => Q b g'.H) E) : ∃ k, TruV M.K v g.H k ∧ Q k g.H := by
  unfold truD at h
  cases hv with
  | non => exact ⟨_, rfl, h.here r⟩
  | bl b => exact ⟨_, rfl, h.here r⟩
  | int i => exact ⟨_, rfl, h.here r⟩
  | str x =>
    simp only at h
    split at h
    · rename_i hz; exact ⟨_, ⟨hz, rfl⟩, h.here r⟩
    · exact h.elim
  | tup h1 h2 => exact ⟨_, .inr (.inl ⟨_, h1, rfl⟩), by rw [← isEmpty_dvs h2]; exact h.here r⟩
  | fl h1 h2 => exact ⟨_, .inl ⟨_, h1.sql, rfl⟩, by rw [← isEmpty_dvs h2]; exact h.here r⟩
  | ref hn =>
    simp only at h
    split at h
    · rename_i ds hk
      obtain ⟨xs, hx, hxs⟩ := r.lst hk
      exact ⟨_, .inl ⟨xs, .inl (.inl hx), rfl⟩, by rw [← isEmpty_dvs hxs]; exact h.here r⟩
    · rename_i kvs hk
      obtain ⟨ws, hx, hxs⟩ := r.obj _ _ hk
      refine ⟨_, .inr (.inr ⟨ws, hx, rfl⟩), ?_⟩
      have e : kvs.isEmpty = ws.isEmpty := by cases hxs <;> rfl
      rw [← e]; exact h.here r
    · exact h.elim
  | fn i => exact h.elim
theorem mt_tru (hK : X.K = M.K) {e : Expr} {f : Fe} (h : ME M X W e f) (he : ∀ whole, isTrue e X.env whole = (do let v ← whole; standAt e.pos; holding [v] (truthy v)) := by intro _; rfl) : MT M X W e (fTru f) :=
  PT.imp (pt_truth h he) fun σ H Q q => by
    obtain ⟨g, ρ, rfl, rp, en, q⟩ := q
    have q := Aft.bind (k := truD) q
    rw [hK]
    exact tE.go rp en (q.mono (fun d g1 k1 r1 q1 v hv => truD_q r1 hv q1) fun _ _ _ _ z => z)

/-! ### and, or, not -/
abbrev MW (M : Md) (X : Cx) (W : WX) (e : Expr) (f : Ft) : Prop := PW X e (tT M W f)
theorem PW.imp {e : Expr} {t t' : TT} (h : PW X e t) (i : ∀ σ H Q, t' σ H Q → t σ H Q) : PW X e t' := ⟨fun wh pins s σ H Q I h' => h.run wh pins s σ H Q I (i σ H Q h')⟩
def fAnd (a b : Ft) : Ft := fun ρ S => (a ρ S).bind fun c S1 => if c = true then b ρ S1 else .ok false S1
def fOr (a b : Ft) : Ft := fun ρ S => (a ρ S).bind fun c S1 => if c = true then .ok true S1 else b ρ S1
def fNot (a : Ft) : Ft := fun ρ S => (a ρ S).bind fun c S1 => .ok (!c) S1
theorem mw_and1 {a : Expr} {pos : Pos} {fa : Ft} (ha : MT M X W a fa) : MW M X W (.BoolOp .And [a] pos) fa := pw_and1 ha
theorem mw_or1 {a : Expr} {pos : Pos} {fa : Ft} (ha : MT M X W a fa) : MW M X W (.BoolOp .Or [a] pos) fa := pw_or1 ha
theorem mw_and {a b : Expr} {rest : List Expr} {pos : Pos} {fa fb : Ft} (ha : MT M X W a fa) (hb : MW M X W (.BoolOp .And (b :: rest) pos) fb) : MW M X W (.BoolOp .And (a :: b :: rest) pos) (fAnd fa fb) :=
  PW.imp (pw_and ha hb) fun σ H Q q => by
    obtain ⟨g, ρ, rfl, rp, en, q⟩ := q
    have q := Aft.bind (k := fun c S1 => if c = true then fb ρ S1 else .ok false S1) q
    refine tT.go rp en (q.mono (fun c g1 k1 r1 q1 => ?_) fun _ _ _ _ z => z)
    cases c with
    | true => exact iteT (tT.go r1 (en.mono rp k1) q1)
    | false => exact iteF (Aft.here r1 q1)
theorem mw_or {a b : Expr} {rest : List Expr} {pos : Pos} {fa fb : Ft} (ha : MT M X W a fa) (hb : MW M X W (.BoolOp .Or (b :: rest) pos) fb) : MW M X W (.BoolOp .Or (a :: b :: rest) pos) (fOr fa fb) :=
  PW.imp (pw_or ha hb) fun σ H Q q => by
    obtain ⟨g, ρ, rfl, rp, en, q⟩ := q
    have q := Aft.bind (k := fun c S1 => if c = true then .ok true S1 else fb ρ S1) q
    refine tT.go rp en (q.mono (fun c g1 k1 r1 q1 => ?_) fun _ _ _ _ z => z)
    cases c with
    | true => exact iteT (Aft.here r1 q1)
    | false => exact iteF (tT.go r1 (en.mono rp k1) q1)
theorem mt_not {a : Expr} {pos : Pos} {fa : Ft} (ha : MT M X W a fa) : MT M X W (.UnaryOp .Not a pos) (fNot fa) :=
  PT.imp (pt_not ha) fun σ H Q q => by
    obtain ⟨g, ρ, rfl, rp, en, q⟩ := q
    have q := Aft.bind (k := fun c S1 => .ok (!c) S1) q
    exact tT.go rp en (q.mono (fun c g1 k1 r1 q1 => Aft.here r1 q1) fun _ _ _ _ z => z)
/-- as values -/
def dAnd (a b : Fe) : Fe := fun ρ S => (a ρ S).bind fun d S1 => match d with
  | .bl true => b ρ S1
  | .bl false => .ok (.bl false) S1
  | _ => .stuck
def dOr (a b : Fe) : Fe := fun ρ S => (a ρ S).bind fun d S1 => match d with
  | .bl true => .ok (.bl true) S1
  | .bl false => b ρ S1
  | _ => .stuck
def dNot (a : Fe) : Fe := fun ρ S => (a ρ S).bind fun d S1 => match d with
  | .bl b => .ok (.bl (!b)) S1
  | _ => .stuck
theorem me_one {a : Expr} {op : BoolOp} {pos : Pos} {fa : Fe} (ha : ME M X W a fa) : ME M X W (.BoolOp op [a] pos) fa := pe_one ha
theorem me_and {a b : Expr} {rest : List Expr} {pos : Pos} {fa fb : Fe} (ha : ME M X W a fa) (hb : ME M X W (.BoolOp .And (b :: rest) pos) fb) : ME M X W (.BoolOp .And (a :: b :: rest) pos) (dAnd fa fb) :=
  PE.imp (pe_and ha hb) fun σ H Q q => by
    obtain ⟨g, ρ, rfl, rp, en, q⟩ := q
    have q := Aft.bind (β := D) (k := fun (d : D) S1 => match d with
      | .bl true => fb ρ S1
      | .bl false => .ok (.bl false) S1
      | _ => .stuck) q
    refine tE.go rp en (q.mono (fun d g1 k1 r1 q1 v hv => ?_) fun _ _ _ _ z => z)
    split at q1
    · exact ⟨true, hv.blI, iteT (tE.go r1 (en.mono rp k1) q1)⟩
    · exact ⟨false, hv.blI, iteF (Aft.here r1 q1 _ (.bl _))⟩
    · exact q1.elim
theorem me_or {a b : Expr} {rest : List Expr} {pos : Pos} {fa fb : Fe} (ha : ME M X W a fa) (hb : ME M X W (.BoolOp .Or (b :: rest) pos) fb) : ME M X W (.BoolOp .Or (a :: b :: rest) pos) (dOr fa fb) :=
  PE.imp (pe_or ha hb) fun σ H Q q => by
    obtain ⟨g, ρ, rfl, rp, en, q⟩ := q
    have q := Aft.bind (β := D) (k := fun (d : D) S1 => match d with
      | .bl true => .ok (.bl true) S1
      | .bl false => fb ρ S1
      | _ => .stuck) q
    refine tE.go rp en (q.mono (fun d g1 k1 r1 q1 v hv => ?_) fun _ _ _ _ z => z)
    split at q1
    · exact ⟨true, hv.blI, iteT (Aft.here r1 q1 _ (.bl _))⟩
    · exact ⟨false, hv.blI, iteF (tE.go r1 (en.mono rp k1) q1)⟩
    · exact q1.elim
theorem me_not {a : Expr} {pos : Pos} {fa : Fe} (ha : ME M X W a fa) : ME M X W (.UnaryOp .Not a pos) (dNot fa) :=
  PE.imp (pe_not ha) fun σ H Q q => by
    obtain ⟨g, ρ, rfl, rp, en, q⟩ := q
    have q := Aft.bind (β := D) (k := fun (d : D) S1 => match d with
      | .bl b => .ok (.bl (!b)) S1
      | _ => .stuck) q
    refine tE.go rp en (q.mono (fun d g1 k1 r1 q1 v hv => ?_) fun _ _ _ _ z => z)
    split at q1
    · exact ⟨_, hv.blI, Aft.here r1 q1 _ (.bl _)⟩
    · exact q1.elim
def dIf (c : Ft) (a b : Fe) : Fe := fun ρ S => (c ρ S).bind fun k S1 => if k = true then a ρ S1 else b ρ S1
theorem me_if {c a b : Expr} {pos : Pos} {fc : Ft} {fa fb : Fe} (hc : MT M X W c fc) (ha : ME M X W a fa) (hb : ME M X W b fb) : ME M X W (.IfExp c a b pos) (dIf fc fa fb) :=
  PE.imp (pe_ifExp hc ha hb) fun σ H Q q => by
    obtain ⟨g, ρ, rfl, rp, en, q⟩ := q
    have q := Aft.bind (k := fun k S1 => if k = true then fa ρ S1 else fb ρ S1) q
    refine tT.go rp en (q.mono (fun c g1 k1 r1 q1 => ?_) fun _ _ _ _ z => z)
    cases c with
    | true => exact iteT (tE.go r1 (en.mono rp k1) q1)
    | false => exact iteF (tE.go r1 (en.mono rp k1) q1)
def dNeg : Fe → Fe := fun a ρ S => (a ρ S).bind fun d S1 => match d with
  | .int i => .ok (.int (-i)) S1
  | _ => .stuck
theorem me_neg {a : Expr} {pos : Pos} {fa : Fe} (ha : ME M X W a fa) : ME M X W (.UnaryOp .USub a pos) (dNeg fa) :=
  PE.imp (pe_un un_neg ha) fun σ H Q q => by
    obtain ⟨g, ρ, rfl, rp, en, q⟩ := q
    have q := Aft.bind (β := D) (k := fun (d : D) S1 => match d with
      | .int i => .ok (.int (-i)) S1
      | _ => .stuck) q
    refine tE.go rp en (q.mono (fun d g1 k1 r1 q1 v hv => ?_) fun _ _ _ _ z => z)
    split at q1
    · exact ⟨_, hv.intI, Aft.here r1 q1 _ (.int _)⟩
    · exact q1.elim
/-- is None -/
def isNonD : D → Bool
  | .non => true
  | _ => false
theorem isNonD_v {g : Wd} {d : D} {v : V} (h : DV M g d v) : isNonD d = decide (v = .non) := by
  cases h <;> rfl
def dIsN (neg : Bool) (a : Fe) : Fe := fun ρ S => (a ρ S).bind fun d S1 => .ok (.bl (if neg then !isNonD d else isNonD d)) S1
theorem isn_t {a : Fe} {σ : L2.St} {H : Hp} {Q : VK} (q : tE M W (dIsN false a) σ H Q) : tIsN (tE M W a) σ H Q := by
  obtain ⟨g, ρ, rfl, rp, en, q⟩ := q
  have q := Aft.bind (β := D) (k := fun (d : D) S1 => .ok (.bl (if false then !isNonD d else isNonD d)) S1) q
  refine tE.go rp en (q.mono (fun d g1 k1 r1 q1 v hv => ?_) fun _ _ _ _ z => z)
  show Q (V.bl (decide (v = V.non))) g1.H
  rw [← isNonD_v hv]
  exact Aft.here r1 q1 _ (.bl _)
theorem isnt_t {a : Fe} {σ : L2.St} {H : Hp} {Q : VK} (q : tE M W (dIsN true a) σ H Q) : tNotN (tE M W a) σ H Q := by
  obtain ⟨g, ρ, rfl, rp, en, q⟩ := q
  have q := Aft.bind (β := D) (k := fun (d : D) S1 => .ok (.bl (if true then !isNonD d else isNonD d)) S1) q
  refine tE.go rp en (q.mono (fun d g1 k1 r1 q1 v hv => ?_) fun _ _ _ _ z => z)
  show Q (V.bl (!decide (v = V.non))) g1.H
  rw [← isNonD_v hv]
  exact Aft.here r1 q1 _ (.bl _)
theorem me_isn {a : Expr} {j : Nat} {pos pos' : Pos} {fa : Fe} (ha : ME M X W a fa) : ME M X W (.Compare a [.Is] [.Constant .none j pos'] pos) (dIsN false fa) := PE.imp (pe_cmp (pc_isN ha) rfl) fun _ _ _ q => isn_t q
theorem me_isnt {a : Expr} {j : Nat} {pos pos' : Pos} {fa : Fe} (ha : ME M X W a fa) : ME M X W (.Compare a [.IsNot] [.Constant .none j pos'] pos) (dIsN true fa) := PE.imp (pe_cmp (pc_notN ha) rfl) fun _ _ _ q => isnt_t q
theorem mt_isn {a : Expr} {j : Nat} {pos pos' : Pos} {fa : Fe} (ha : ME M X W a fa) : MT M X W (.Compare a [.Is] [.Constant .none j pos'] pos) (fB (dIsN false fa)) := PT.imp (pt_cmp (pc_isN ha) rfl) fun _ _ _ q => isn_t (fB_t q)
theorem mt_isnt {a : Expr} {j : Nat} {pos pos' : Pos} {fa : Fe} (ha : ME M X W a fa) : MT M X W (.Compare a [.IsNot] [.Constant .none j pos'] pos) (fB (dIsN true fa)) := PT.imp (pt_cmp (pc_notN ha) rfl) fun _ _ _ q => isnt_t (fB_t q)

/-! ### a op b op' c -/
def dChain (op op' : F2) (fa fb fc : Fe) : Fe := fun ρ S => (fa ρ S).bind fun x S1 => (fb ρ S1).bind fun y S2 => (op x y S2).bind fun z S3 => match z with
  | .bl true => (fc ρ S3).bind fun w S4 => op' y w S4
  | .bl false => .ok (.bl false) S3
  | _ => .stuck
theorem chain_t {fa fb fc : Fe} {op op' : F2} {r r' : R2} (h : Op2 M r op) (h' : Op2 M r' op') {σ : L2.St} {H : Hp} {Q : VK} (q : tE M W (dChain op op' fa fb fc) σ H Q) : tChain r r' (tE M W fa) (tE M W fb) (tE M W fc) σ H Q := by
  obtain ⟨g, ρ, rfl, rp, en, q⟩ := q
  have q := Aft.bind (k := fun x S1 => (fb ρ S1).bind fun y S2 => (op x y S2).bind fun z S3 => match z with
    | .bl true => (fc ρ S3).bind fun w S4 => op' y w S4
    | .bl false => .ok (.bl false) S3
    | _ => .stuck) q
  refine tE.go rp en (q.mono (fun x g1 k1 r1 q1 v hv => ?_) fun _ _ _ _ z => z)
  have q1 := Aft.bind (k := fun y S2 => (op x y S2).bind fun z S3 => match z with
    | .bl true => (fc ρ S3).bind fun w S4 => op' y w S4
    | .bl false => .ok (.bl false) S3
    | _ => .stuck) q1
  refine tE.go r1 (en.mono rp k1) (q1.mono (fun y g2 k2 r2 q2 u hu => ?_) fun _ _ _ _ z => z)
  have q2 := Aft.bind (β := D) (k := fun (z : D) S3 => match z with
    | .bl true => (fc ρ S3).bind fun w S4 => op' y w S4
    | .bl false => .ok (.bl false) S3
    | _ => .stuck) q2
  refine h g2 x y v u _ _ r2 (hv.mono r1 k2) hu (q2.mono (fun z g3 k3 r3 q3 zv hz => ?_) fun _ _ _ _ z => z)
  split at q3
  · refine ⟨true, hz.blI, iteT ?_⟩
    have q3 := Aft.bind (k := fun w S4 => op' y w S4) q3
    refine tE.go r3 (((en.mono rp k1).mono r1 k2).mono r2 k3) (q3.mono (fun w g4 k4 r4 q4 wv hw => ?_) fun _ _ _ _ z => z)
    exact h' g4 y w u wv _ _ r4 ((hu.mono r2 k3).mono r3 k4) hw q4
  · exact ⟨false, hz.blI, iteF (Aft.here r3 q3 _ (.bl _))⟩
  · exact q3.elim
theorem me_chain {a b c : Expr} {op op' : CmpOp} {pos : Pos} {r r' : R2} {f f' : F2} {fa fb fc : Fe} (ho : OpR X (compareOp op) r) (h : Op2 M r f) (ho' : OpR X (compareOp op') r') (h' : Op2 M r' f') (ha : ME M X W a fa) (hb : ME M X W b fb) (hc : ME M X W c fc)
    (hm : lastMarks [op, op'] [b, c] = false := by with_unfolding_all rfl) : ME M X W (.Compare a [op, op'] [b, c] pos) (dChain f f' fa fb fc) :=
  PE.imp (pe_chain ho ho' ha hb hc hm) fun _ _ _ q => chain_t h h' q
theorem mt_chain {a b c : Expr} {op op' : CmpOp} {pos : Pos} {r r' : R2} {f f' : F2} {fa fb fc : Fe} (ho : OpR X (compareOp op) r) (h : Op2 M r f) (ho' : OpR X (compareOp op') r') (h' : Op2 M r' f') (ha : ME M X W a fa) (hb : ME M X W b fb) (hc : ME M X W c fc)
    (hm : lastMarks [op, op'] [b, c] = false := by with_unfolding_all rfl) : MT M X W (.Compare a [op, op'] [b, c] pos) (fB (dChain f f' fa fb fc)) :=
  PT.imp (pt_chain ho ho' ha hb hc hm) fun _ _ _ q => chain_t h h' (fB_t q)

/-! ### lists of expressions, displays -/
abbrev Fs := Rho → Sto → Rs (List D)
abbrev PDs (M : Md) (Q : List V → Hp → Prop) : List D → Wd → Prop := fun ds g => ∀ vs, DVs M g ds vs → Q vs g.H
def tA (M : Md) (W : WX) (f : Fs) : TA := fun σ H Q => ∃ g ρ, g.H = H ∧ Rep M g ∧ EnvOk M g ρ σ ∧ Aft M g (f ρ g.S) (PDs M Q) (XD M W σ)
abbrev MA (M : Md) (X : Cx) (W : WX) (es : List Expr) (f : Fs) : Prop := PA X es (tA M W f)
theorem tA.go {f : Fs} {σ : L2.St} {g : Wd} {ρ : Rho} {Q : List V → Hp → Prop} (r : Rep M g) (e : EnvOk M g ρ σ) (h : Aft M g (f ρ g.S) (PDs M Q) (XD M W σ)) : tA M W f σ g.H Q := ⟨g, ρ, rfl, r, e, h⟩
def aNil : Fs := fun _ S => .ok [] S
def aCons (a : Fe) (r : Fs) : Fs := fun ρ S => (a ρ S).bind fun d S1 => (r ρ S1).bind fun ds S2 => .ok (d :: ds) S2
def itemsD : D → Sto → Option (List D) := fun d S => match d with
  | .tup ds => some ds
  | .fl ds => some ds
  | .ref n => match S[n]? with
    | some (.lst ds) => some ds
    | _ => none
  | _ => none
theorem itemsD_v {g : Wd} {d : D} {v : V} {ds : List D} (r : Rep M g) (h : DV M g d v) (e : itemsD d g.S = some ds) : ∃ a xs, v = .ref a ∧ (SqT M.K g.H a xs ∨ SqL M.K g.H a xs) ∧ DVs M g ds xs := by
  unfold itemsD at e
  cases h with
  | tup h1 h2 => cases e; exact ⟨_, _, rfl, .inl h1, h2⟩
  | fl h1 h2 => cases e; exact ⟨_, _, rfl, .inr h1.sql, h2⟩
  | ref hn =>
    simp only at e
    split at e
    · rename_i es hk
      cases e
      obtain ⟨xs, hx, hxs⟩ := r.lst hk
      exact ⟨_, xs, rfl, .inr (.inl (.inl hx)), hxs⟩
    · cases e
  | _ => cases e
def aStar (a : Fe) (r : Fs) : Fs := fun ρ S => (a ρ S).bind fun d S1 => match itemsD d S1 with
  | some es => (r ρ S1).bind fun ds S2 => .ok (es ++ ds) S2
  | none => .stuck
theorem ma_nil : MA M X W [] aNil := PA.imp pa_nil fun σ H Q q => by
  obtain ⟨g, ρ, rfl, rp, en, q⟩ := q
  exact Aft.here rp q _ .nil
theorem ma_cons {e : Expr} {es : List Expr} {fa : Fe} {fr : Fs} (ha : ME M X W e fa) (hr : MA M X W es fr) (hs : starEach (e :: es) X.env = (false, eval e X.env) :: starEach es X.env := by rfl) : MA M X W (e :: es) (aCons fa fr) :=
  PA.imp (pa_cons ha hr hs) fun σ H Q q => by
    obtain ⟨g, ρ, rfl, rp, en, q⟩ := q
    have q := Aft.bind (k := fun d S1 => (fr ρ S1).bind fun ds S2 => .ok (d :: ds) S2) q
    refine tE.go rp en (q.mono (fun x g1 k1 r1 q1 v hv => ?_) fun _ _ _ _ z => z)
    have q1 := Aft.bind (k := fun ds S2 => .ok (x :: ds) S2) q1
    refine tA.go r1 (en.mono rp k1) (q1.mono (fun ds g2 k2 r2 q2 vs hvs => ?_) fun _ _ _ _ z => z)
    exact Aft.here r2 q2 _ (.cons (hv.mono r1 k2) hvs)
theorem ma_star (hK : X.K = M.K) {e : Expr} {p : Pos} {es : List Expr} {fa : Fe} {fr : Fs} (ha : ME M X W e fa) (hr : MA M X W es fr) (hs : starEach (.Starred e p :: es) X.env = (true, eval e X.env) :: starEach es X.env := by rfl) : MA M X W (.Starred e p :: es) (aStar fa fr) :=
  PA.imp (StX.pa_star ha hr hs) fun σ H Q q => by
    obtain ⟨g, ρ, rfl, rp, en, q⟩ := q
    have q := Aft.bind (β := List D) (k := fun (d : D) S1 => match itemsD d S1 with
      | some es => (fr ρ S1).bind fun ds S2 => .ok (es ++ ds) S2
      | none => .stuck) q
    refine tE.go rp en (q.mono (fun x g1 k1 r1 q1 v hv => ?_) fun _ _ _ _ z => z)
    split at q1
    · rename_i es he
      obtain ⟨a, xs, rfl, hx, hxs⟩ := itemsD_v r1 hv he
      rw [hK]
      refine ⟨a, xs, rfl, hx, ?_⟩
      have q1 := Aft.bind (k := fun ds S2 => .ok (es ++ ds) S2) q1
      refine tA.go r1 (en.mono rp k1) (q1.mono (fun ds g2 k2 r2 q2 vs hvs => ?_) fun _ _ _ _ z => z)
      exact Aft.here r2 q2 _ ((DVs.mono r1 k2 hxs).append hvs)
    · exact q1.elim
def mkTup (f : Fs) : Fe := fun ρ S => (f ρ S).bind fun ds S1 => if ds.length ≤ sizeLine then .ok (.tup ds) S1 else .stuck
def mkLst (f : Fs) : Fe := fun ρ S => (f ρ S).bind fun ds S1 => if ds.length ≤ sizeLine then .ok (.ref S1.length) (S1 ++ [.lst ds]) else .stuck
theorem me_tup {es : List Expr} {k : Nat} {pos : Pos} {f : Fs} (h : MA M X W es f) : ME M X W (.Tuple es k pos) (mkTup f) :=
  PE.imp (pe_tup h) fun σ H Q q => by
    obtain ⟨g, ρ, rfl, rp, en, q⟩ := q
    have q := Aft.bind (β := D) (k := fun (ds : List D) S1 => if ds.length ≤ sizeLine then .ok (.tup ds) S1 else .stuck) q
    refine tA.go rp en (q.mono (fun ds g1 k1 r1 q1 vs hvs => ?_) fun _ _ _ _ z => z)
    split at q1
    · rename_i hz
      exact ⟨by rw [← hvs.length]; exact hz, fun p hp => new_tup r1 q1 hp _ (dv_new r1 hp hvs)⟩
    · exact q1.elim
theorem me_lst {es : List Expr} {pos : Pos} {f : Fs} (h : MA M X W es f) : ME M X W (.List es pos) (mkLst f) :=
  PE.imp (pe_lst h) fun σ H Q q => by
    obtain ⟨g, ρ, rfl, rp, en, q⟩ := q
    have q := Aft.bind (β := D) (k := fun (ds : List D) S1 => if ds.length ≤ sizeLine then .ok (.ref S1.length) (S1 ++ [.lst ds]) else .stuck) q
    refine tA.go rp en (q.mono (fun ds g1 k1 r1 q1 vs hvs => ?_) fun _ _ _ _ z => z)
    split at q1
    · rename_i hz
      exact ⟨by rw [← hvs.length]; exact hz, fun p hp => new_lst r1 q1 hp hvs _ .newRef⟩
    · exact q1.elim

/-! ### slices -/
abbrev Fo := Rho → Sto → Rs (Option Int)
def tO (M : Md) (W : WX) (f : Fo) : TO := fun σ H Q => ∃ g ρ, g.H = H ∧ Rep M g ∧ EnvOk M g ρ σ ∧ Aft M g (f ρ g.S) (fun o g' => Q o g'.H) (XD M W σ)
theorem PO.imp {e : Option Expr} {t t' : TO} (h : PO X e t) (i : ∀ σ H Q, t' σ H Q → t σ H Q) : PO X e t' := ⟨fun pins s σ H Q I h' => h.run pins s σ H Q I (i σ H Q h')⟩
def oNone : Fo := fun _ S => .ok none S
def oSome (a : Fe) : Fo := fun ρ S => (a ρ S).bind fun d S1 => match d with
  | .int i => .ok (some i) S1
  | _ => .stuck
theorem mo_none : PO X none (tO M W oNone) := PO.imp po_none fun σ H Q q => by
  obtain ⟨g, ρ, rfl, rp, en, q⟩ := q
  exact Aft.here rp q
theorem mo_some {e : Expr} {fa : Fe} (h : ME M X W e fa) : PO X (some e) (tO M W (oSome fa)) := PO.imp (po_some h) fun σ H Q q => by
  obtain ⟨g, ρ, rfl, rp, en, q⟩ := q
  have q := Aft.bind (β := Option Int) (k := fun (d : D) S1 => match d with
    | .int i => .ok (some i) S1
    | _ => .stuck) q
  refine tE.go rp en (q.mono (fun x g1 k1 r1 q1 v hv => ?_) fun _ _ _ _ z => z)
  split at q1
  · exact ⟨_, hv.intI, Aft.here r1 q1⟩
  · exact q1.elim
def cutD (ds : List D) (lo hi : Option Int) : List D := (ds.drop (HT.sIx ds.length 0 lo)).take (HT.sIx ds.length ds.length hi - HT.sIx ds.length 0 lo)
theorem cut_dv {g : Wd} {ds : List D} {xs : List V} (h : DVs M g ds xs) (lo hi : Option Int) : DVs M g (cutD ds lo hi) (cutV xs lo hi) := by
  unfold cutD cutV
  rw [h.length]
  exact (h.drop _).take _
def sliceD : D → Option Int → Option Int → Sto → Rs D := fun d lo hi S => match d with
  | .tup ds => .ok (.tup (cutD ds lo hi)) S
  | .fl ds => .ok (.ref S.length) (S ++ [.lst (cutD ds lo hi)])
  | .ref n => match S[n]? with
    | some (.lst ds) => .ok (.ref S.length) (S ++ [.lst (cutD ds lo hi)])
    | _ => .stuck
  | .str z => if z.length ≤ sizeLine then .ok (.str (cutS z lo hi)) S else .stuck
  | _ => .stuck
def dSlice (a : Fe) (lo hi : Fo) : Fe := fun ρ S => (a ρ S).bind fun d S1 => (lo ρ S1).bind fun l S2 => (hi ρ S2).bind fun h S3 => sliceD d l h S3
def rSlX (K : PySem.W.Frag) : V → Option Int → Option Int → Hp → VK → Prop := fun x lo hi H Q => rSlA K x lo hi H Q ∨ (rSlL K x lo hi H Q ∨ rSlS x lo hi H Q)
theorem sl_any : SlR X (rSlX X.K) := sl_tupA.or (sl_list.or sl_str)
theorem me_slice (hK : X.K = M.K) {a : Expr} {lo hi : Option Expr} {pos p2 : Pos} {fa : Fe} {fl fh : Fo} (ha : ME M X W a fa) (hl : PO X lo (tO M W fl)) (hh : PO X hi (tO M W fh)) : ME M X W (.Subscript a (.Slice lo hi none p2) pos) (dSlice fa fl fh) :=
  PE.imp (pe_slice sl_any ha hl hh) fun σ H Q q => by
    obtain ⟨g, ρ, rfl, rp, en, q⟩ := q
    have q := Aft.bind (k := fun d S1 => (fl ρ S1).bind fun l S2 => (fh ρ S2).bind fun h S3 => sliceD d l h S3) q
    refine tE.go rp en (q.mono (fun x g1 k1 r1 q1 v hv => ?_) fun _ _ _ _ z => z)
    have q1 := Aft.bind (k := fun l S2 => (fh ρ S2).bind fun h S3 => sliceD x l h S3) q1
    refine ⟨g1, ρ, rfl, r1, en.mono rp k1, q1.mono (fun l g2 k2 r2 q2 => ?_) fun _ _ _ _ z => z⟩
    have q2 := Aft.bind (k := fun h S3 => sliceD x l h S3) q2
    refine ⟨g2, ρ, rfl, r2, (en.mono rp k1).mono r1 k2, q2.mono (fun h g3 k3 r3 q3 => ?_) fun _ _ _ _ z => z⟩
    have hv3 := (hv.mono r1 k2).mono r2 k3
    rw [hK]
    unfold sliceD at q3
    split at q3
    · obtain ⟨a, xs, rfl, hx, hxs⟩ := hv3.tupI
      refine .inl ⟨a, xs, rfl, hx, fun e => ?_, fun _ p hp => new_tup r3 q3 hp _ (dv_new r3 hp (cut_dv hxs l h))⟩
      have e2 : ∀ ds : List D, DVs M g3 ds xs → cutD ds l h = ds := fun ds hd => by
        unfold cutD
        rw [hd.length, e.1, e.2, List.drop_zero, Nat.sub_zero, ← hd.length, List.take_length]
      rw [e2 _ hxs] at q3
      exact Aft.here r3 q3 _ hv3
    · cases hv3 with
      | fl hx hxs => exact .inr (.inl ⟨_, _, rfl, hx.sql, fun p hp => new_lst r3 q3 hp (cut_dv hxs l h) _ .newRef⟩)
    · split at q3
      · rename_i ds hk
        obtain ⟨rfl, _⟩ := hv3.refI
        obtain ⟨xs, hx, hxs⟩ := r3.lst hk
        exact .inr (.inl ⟨_, xs, rfl, .inl (.inl hx), fun p hp => new_lst r3 q3 hp (cut_dv hxs l h) _ .newRef⟩)
      · exact q3.elim
    · split at q3
      · rename_i z hz
        rw [hv3.strI]
        exact .inr (.inr ⟨_, rfl, hz, Aft.here r3 q3 _ (.str _)⟩)
      · exact q3.elim
    · exact q3.elim

/-! ### calls of built-in functions -/
abbrev FN := List D → Sto → Rs D
def OpN (M : Md) (r : List V → Hp → VK → Prop) (f : FN) : Prop := ∀ (g : Wd) (ds : List D) (vs : List V) (Q : VK) (E : Xn → Wd → Prop), Rep M g → DVs M g ds vs → Aft M g (f ds g.S) (PD M Q) E → r vs g.H Q
def dN (f : FN) (a : Fs) : Fe := fun ρ S => (a ρ S).bind fun ds S1 => f ds S1
theorem callN_t {r : List V → Hp → VK → Prop} {f : FN} {a : Fs} (h : OpN M r f) {σ : L2.St} {H : Hp} {Q : VK} (q : tE M W (dN f a) σ H Q) : tCB r (tA M W a) σ H Q := by
  obtain ⟨g, ρ, rfl, rp, en, q⟩ := q
  have q := Aft.bind (k := fun ds S1 => f ds S1) q
  exact tA.go rp en (q.mono (fun ds g1 k1 r1 q1 vs hvs => h g1 ds vs Q _ r1 hvs q1) fun _ _ _ _ z => z)
theorem me_callB {x : Str} {p pos : Pos} {e : Expr} {es : List Expr} {id : String} {r : List V → Hp → VK → Prop} {f : FN} {a : Fs} (hc : CallR X (.builtin id) r) (h : OpN M r f) (hg : Gl X x) (hm : X.mg x = none) (hv : bootBuiltins x = some (.builtin id)) (ha : MA M X W (e :: es) a) (hn : x ≠ "__name__" := by decide) (hdb : (x == ("__debug__" : Str)) = false := by decide)
    (he : starEach (e :: es) X.env = (false, eval e X.env) :: starEach es X.env := by rfl) (hpl : (backTo pos (starEach es X.env)).any (·.1) = false := by rfl) : ME M X W (.Call (.Name x p) (e :: es) [] pos) (dN f a) :=
  PE.imp (pe_callB hc hg hm hv ha hn hdb he hpl) fun _ _ _ q => callN_t h q
theorem me_callTy {x : Str} {p pos : Pos} {e : Expr} {es : List Expr} {T : String} {r : List V → Hp → VK → Prop} {f : FN} {a : Fs} (hc : CallR X (.type T) r) (h : OpN M r f) (hg : Gl X x) (hm : X.mg x = none) (hv : bootBuiltins x = some (.type T)) (ha : MA M X W (e :: es) a) (hn : x ≠ "__name__" := by decide) (hdb : (x == ("__debug__" : Str)) = false := by decide)
    (he : starEach (e :: es) X.env = (false, eval e X.env) :: starEach es X.env := by rfl) (hpl : (backTo pos (starEach es X.env)).any (·.1) = false := by rfl) : ME M X W (.Call (.Name x p) (e :: es) [] pos) (dN f a) :=
  PE.imp (pe_callTy hc hg hm hv ha hn hdb he hpl) fun _ _ _ q => callN_t h q
end
end MP
set_option Elab.async false
set_option linter.all false
set_option maxRecDepth 100000
set_option maxHeartbeats 4000000
/-! Statements, targets, loops, comprehensions, defs. -/
namespace MP
open PySem PySem.Spec PyProof.Rows L2

inductive Fl where
  | nx (ρ : Rho) | ret (d : D) | brk (ρ : Rho) | ct (ρ : Rho)
inductive RsS where
  | fl (f : Fl) (S : Sto)
  | exc (x : Xn) (ρ : Rho) (S : Sto)
  | stuck
abbrev Fst := Rho → Sto → RsS
def AftS (M : Md) (g : Wd) (r : RsS) (Dn : Ends) (W : WX) : Prop := match r with
  | .fl (.nx ρ) S => ∀ g', g'.S = S → Gr g g' → Rep M g' → ∀ σ', EnvOk M g' ρ σ' → Dn.nx σ' g'.H
  | .fl (.ret d) S => ∀ g', g'.S = S → Gr g g' → Rep M g' → ∀ v, DV M g' d v → Dn.rt v g'.H
  | .fl (.brk ρ) S => ∀ g', g'.S = S → Gr g g' → Rep M g' → ∀ σ', EnvOk M g' ρ σ' → Dn.bk σ' g'.H
  | .fl (.ct ρ) S => ∀ g', g'.S = S → Gr g g' → Rep M g' → ∀ σ', EnvOk M g' ρ σ' → Dn.ct σ' g'.H
  | .exc x ρ S => ∀ g', g'.S = S → Gr g g' → Rep M g' → ∀ σ', EnvOk M g' ρ σ' → ∀ cls dx, XV M g' x cls dx → W cls dx σ' g'.H
  | .stuck => False
theorem AftS.up {M : Md} {g g1 : Wd} {r : RsS} {Dn : Ends} {W : WX} (h : AftS M g r Dn W) (k : Gr g g1) (r1 : Rep M g1) : AftS M g1 r Dn W := by
  cases r with
  | stuck => exact h
  | exc x ρ S => exact fun g' e k' r' => h g' e (k.trans r1 k') r'
  | fl f S =>
    cases f with
    | nx ρ => exact fun g' e k' r' => h g' e (k.trans r1 k') r'
    | ret d => exact fun g' e k' r' => h g' e (k.trans r1 k') r'
    | brk ρ => exact fun g' e k' r' => h g' e (k.trans r1 k') r'
    | ct ρ => exact fun g' e k' r' => h g' e (k.trans r1 k') r'
def tS (M : Md) (W : WX) (f : Fst) : TS := fun Dn σ H => ∃ g ρ, g.H = H ∧ Rep M g ∧ EnvOk M g ρ σ ∧ AftS M g (f ρ g.S) Dn W
abbrev MS (M : Md) (X : Cx) (W : WX) (st : Stmt) (f : Fst) : Prop := PS X st (tS M W f)
abbrev MSs (M : Md) (X : Cx) (W : WX) (st : List Stmt) (f : Fst) : Prop := PSs X st (tS M W f)
theorem tS.go {M : Md} {W : WX} {f : Fst} {σ : L2.St} {g : Wd} {ρ : Rho} {Dn : Ends} (r : Rep M g) (e : EnvOk M g ρ σ) (h : AftS M g (f ρ g.S) Dn W) : tS M W f Dn σ g.H := ⟨g, ρ, rfl, r, e, h⟩
/-- an expression's value, then a statement's work -/
def thenS {α : Type} (r : Rs α) (ρ : Rho) (k : α → Sto → RsS) : RsS := match r with
  | .ok a S => k a S
  | .exc x S => .exc x ρ S
  | .stuck => .stuck
theorem AftS.ofE {M : Md} {α : Type} {g : Wd} {r : Rs α} {ρ : Rho} {k : α → Sto → RsS} {Dn : Ends} {W : WX} {σ : L2.St} (rp : Rep M g) (en : EnvOk M g ρ σ) (h : AftS M g (thenS r ρ k) Dn W) : Aft M g r (fun a g1 => AftS M g1 (k a g1.S) Dn W) (XD M W σ) := by
  cases r with
  | stuck => exact h
  | exc x S => exact fun g1 e1 k1 r1 => h g1 e1 k1 r1 σ (en.mono rp k1)
  | ok a S =>
    intro g1 e1 k1 r1
    have h : AftS M g (k a S) Dn W := h
    rw [e1]
    exact h.up k1 r1
section
variable {M : Md} {X : Cx} {W : WX}

def sNil : Fst := fun ρ S => .fl (.nx ρ) S
def sSeq (f h : Fst) : Fst := fun ρ S => match f ρ S with
  | .fl (.nx ρ1) S1 => h ρ1 S1
  | r => r
theorem mss_nil : MSs M X W [] sNil := PSs.imp pss_nil fun Dn σ H q => by
  obtain ⟨g, ρ, rfl, rp, en, q⟩ := q
  exact q g rfl Gr.refl rp σ en
theorem mss_cons {st : Stmt} {rest : List Stmt} {f h : Fst} (h1 : MS M X W st f) (h2 : MSs M X W rest h) : MSs M X W (st :: rest) (sSeq f h) := PSs.imp (pss_cons h1 h2) fun Dn σ H q => by
  obtain ⟨g, ρ, rfl, rp, en, q⟩ := q
  refine tS.go rp en ?_
  unfold sSeq at q
  split at q
  · rename_i ρ1 S1 e
    rw [e]
    intro g1 e1 k1 r1 σ1 en1
    exact tS.go r1 en1 (by rw [e1]; exact q.up k1 r1)
  · rename_i e
    cases hr : f ρ g.S with
    | stuck => rw [hr] at q; exact q
    | exc x ρ1 S1 => rw [hr] at q; exact q
    | fl fl S1 =>
      rw [hr] at q
      cases fl with
      | nx ρ1 => exact (e ρ1 S1 hr).elim
      | ret d => exact q
      | brk ρ1 => exact q
      | ct ρ1 => exact q
theorem mss_one {st : Stmt} {f : Fst} (h1 : MS M X W st f) : MSs M X W [st] f := pss_one h1
theorem ms_pass {pos : Pos} : MS M X W (.Pass pos) sNil := PS.imp ps_pass fun Dn σ H q => by
  obtain ⟨g, ρ, rfl, rp, en, q⟩ := q
  exact q g rfl Gr.refl rp σ en
def sBrk : Fst := fun ρ S => .fl (.brk ρ) S
def sCt : Fst := fun ρ S => .fl (.ct ρ) S
theorem ms_break {pos : Pos} : MS M X W (.Break pos) sBrk := PS.imp ps_break fun Dn σ H q => by
  obtain ⟨g, ρ, rfl, rp, en, q⟩ := q
  exact q g rfl Gr.refl rp σ en
theorem ms_continue {pos : Pos} : MS M X W (.Continue pos) sCt := PS.imp ps_continue fun Dn σ H q => by
  obtain ⟨g, ρ, rfl, rp, en, q⟩ := q
  exact q g rfl Gr.refl rp σ en
/-- a statement that no run comes to -/
def sNo : Fst := fun _ _ => .stuck
theorem ms_no {st : Stmt} : MS M X W st sNo := PS.imp ps_never fun Dn σ H q => by
  obtain ⟨g, ρ, rfl, rp, en, q⟩ := q
  exact q
def sExpr (f : Fe) : Fst := fun ρ S => thenS (f ρ S) ρ fun _ S1 => .fl (.nx ρ) S1
theorem ms_expr {e : Expr} {pos : Pos} {f : Fe} (h : ME M X W e f) (hs : swapsWith e none pos.line X.env = pure false := by rfl) : MS M X W (.Expr e pos) (sExpr f) := PS.imp (ps_expr h hs) fun Dn σ H q => by
  obtain ⟨g, ρ, rfl, rp, en, q⟩ := q
  have q := AftS.ofE rp en q
  exact tE.go rp en (q.mono (fun d g1 k1 r1 q1 v hv => q1 g1 rfl Gr.refl r1 σ (en.mono rp k1)) fun _ _ _ _ z => z)
def sRet (f : Fe) : Fst := fun ρ S => thenS (f ρ S) ρ fun d S1 => .fl (.ret d) S1
theorem ms_ret {e : Expr} {pos : Pos} {f : Fe} (h : ME M X W e f) : MS M X W (.Return (some e) pos) (sRet f) := PS.imp (ps_ret h) fun Dn σ H q => by
  obtain ⟨g, ρ, rfl, rp, en, q⟩ := q
  have q := AftS.ofE rp en q
  exact tE.go rp en (q.mono (fun d g1 k1 r1 q1 v hv => q1 g1 rfl Gr.refl r1 v hv) fun _ _ _ _ z => z)
def sRetN : Fst := fun _ S => .fl (.ret .non) S
theorem ms_retN {pos : Pos} : MS M X W (.Return none pos) sRetN := PS.imp ps_retN fun Dn σ H q => by
  obtain ⟨g, ρ, rfl, rp, en, q⟩ := q
  exact q g rfl Gr.refl rp _ .non
def sIf (c : Ft) (a b : Fst) : Fst := fun ρ S => thenS (c ρ S) ρ fun k S1 => if k = true then a ρ S1 else b ρ S1
theorem ms_if {c : Expr} {a b : List Stmt} {pos : Pos} {fc : Ft} {fa fb : Fst} (hc : MT M X W c fc) (ha : MSs M X W a fa) (hb : MSs M X W b fb) : MS M X W (.If c a b pos) (sIf fc fa fb) := PS.imp (ps_if hc ha hb) fun Dn σ H q => by
  obtain ⟨g, ρ, rfl, rp, en, q⟩ := q
  have q := AftS.ofE (k := fun k S1 => if k = true then fa ρ S1 else fb ρ S1) rp en q
  refine tT.go rp en (q.mono (fun c g1 k1 r1 q1 => ?_) fun _ _ _ _ z => z)
  cases c with
  | true => exact iteT (tS.go r1 (en.mono rp k1) q1)
  | false => exact iteF (tS.go r1 (en.mono rp k1) q1)

/-! ### targets of names -/
end
mutual
inductive Tg where
  | nm (i : Nat)
  | tp (l : Tgs)
inductive Tgs where
  | nil
  | cons (t : Tg) (l : Tgs)
end
def Tgs.len : Tgs → Nat
  | .nil => 0
  | .cons _ l => l.len + 1
mutual
/-- the reading -/
def gT (K : PySem.W.Frag) : Tg → TG
  | .nm i => gName i
  | .tp l => gTup K l.len (gTs K l)
def gTs (K : PySem.W.Frag) : Tgs → TGs
  | .nil => gNil
  | .cons t l => gCons (gT K t) (gTs K l)
end
mutual
def setT : Tg → D → Rho → Option Rho
  | .nm i, d, ρ => some (ρ.set i (some d))
  | .tp l, d, ρ => match d with
    | .tup ds => setTs l ds ρ
    | _ => none
def setTs : Tgs → List D → Rho → Option Rho
  | .nil, ds, ρ => match ds with
    | [] => some ρ
    | _ => none
  | .cons t l, ds, ρ => match ds with
    | d :: ds => match setT t d ρ with
      | some ρ1 => setTs l ds ρ1
      | none => none
    | [] => none
end
mutual
def Tg.in_ (vs : List Nat) : Tg → Bool
  | .nm i => vs.contains i
  | .tp l => l.in_ vs
def Tgs.in_ (vs : List Nat) : Tgs → Bool
  | .nil => true
  | .cons t l => t.in_ vs && l.in_ vs
end
theorem wipe_get {σ : L2.St} : ∀ (vs : List Nat) (j : Nat), (wipe σ vs)[j]? = if j ∈ vs ∧ j < σ.length then some none else σ[j]?
  | [], j => by simp [wipe]
  | v :: vs, j => by
    have ih := wipe_get (σ := σ) vs j
    show ((wipe σ vs).set v none)[j]? = _
    have hl : (wipe σ vs).length = σ.length := wipe_length σ vs
    by_cases hv : v = j
    · subst hv
      by_cases hj : v < σ.length
      · rw [List.getElem?_set_self (by rw [hl]; exact hj), if_pos ⟨List.mem_cons_self, hj⟩]
      · rw [List.getElem?_eq_none (by rw [List.length_set, hl]; omega), if_neg (fun z => hj z.2), List.getElem?_eq_none (by omega)]
    · rw [List.getElem?_set_ne hv, ih]
      have e : (j ∈ v :: vs ∧ j < σ.length) ↔ (j ∈ vs ∧ j < σ.length) := by
        rw [List.mem_cons]
        exact ⟨fun ⟨a, b⟩ => ⟨a.resolve_left fun z => hv z.symm, b⟩, fun ⟨a, b⟩ => ⟨.inr a, b⟩⟩
      by_cases h : j ∈ vs ∧ j < σ.length
      · rw [if_pos h, if_pos (e.mpr h)]
      · rw [if_neg h, if_neg (fun z => h (e.mp z))]
theorem wipe_set {σ : L2.St} {vs : List Nat} {i : Nat} {x : Option V} (h : i ∈ vs) : wipe (σ.set i x) vs = wipe σ vs := by
  apply List.ext_getElem?
  intro j
  rw [wipe_get, wipe_get, List.length_set]
  by_cases hj : j ∈ vs ∧ j < σ.length
  · rw [if_pos hj, if_pos hj]
  · rw [if_neg hj, if_neg hj]
    by_cases hij : i = j
    · subst hij
      have : σ.length ≤ i := Nat.le_of_not_lt fun z => hj ⟨h, z⟩
      rw [List.getElem?_eq_none (by rw [List.length_set]; exact this), List.getElem?_eq_none this]
    · rw [List.getElem?_set_ne hij]
section
variable {M : Md} {X : Cx} {W : WX}
mutual
theorem gT_ok {g : Wd} (hK : X.K = M.K) (vs : List Nat) : ∀ (t : Tg) (d : D) (v : V) (ρ ρ' : Rho) (σ : L2.St) (Q : L2.St → Hp → Prop), EnvOk M g ρ σ → DV M g d v → setT t d ρ = some ρ' →
    (∀ σ', EnvOk M g ρ' σ' → (t.in_ vs = true → wipe σ' vs = wipe σ vs) → Q σ' g.H) → gT X.K t v σ g.H Q
  | .nm i, d, v, ρ, ρ', σ, Q, en, hv, e, h => by
    cases (show some (ρ.set i (some d)) = some ρ' from e)
    exact h _ (en.set hv) fun z => wipe_set (by simpa [Tg.in_] using z)
  | .tp l, d, v, ρ, ρ', σ, Q, en, hv, e, h => by
    unfold setT at e
    split at e
    · obtain ⟨a, xs, rfl, hx, hxs⟩ := hv.tupI
      refine ⟨a, xs, rfl, by rw [hK]; exact hx, ?_, gTs_ok hK vs l _ xs ρ ρ' σ Q en hxs e h⟩
      rw [← hxs.length]
      exact setTs_len e
    · cases e
theorem gTs_ok {g : Wd} (hK : X.K = M.K) (vs : List Nat) : ∀ (l : Tgs) (ds : List D) (us : List V) (ρ ρ' : Rho) (σ : L2.St) (Q : L2.St → Hp → Prop), EnvOk M g ρ σ → DVs M g ds us → setTs l ds ρ = some ρ' →
    (∀ σ', EnvOk M g ρ' σ' → (l.in_ vs = true → wipe σ' vs = wipe σ vs) → Q σ' g.H) → gTs X.K l us σ g.H Q
  | .nil, ds, us, ρ, ρ', σ, Q, en, hv, e, h => by
    unfold setTs at e
    split at e
    · cases e
      cases hv
      exact ⟨rfl, h σ en fun _ => rfl⟩
    · cases e
  | .cons t l, ds, us, ρ, ρ', σ, Q, en, hv, e, h => by
    unfold setTs at e
    split at e
    · rename_i d ds
      split at e
      · rename_i ρ1 e1
        cases hv with
        | cons h1 h2 =>
          refine ⟨_, _, rfl, gT_ok hK vs t d _ ρ ρ1 σ _ en h1 e1 fun σ1 en1 w1 => ?_⟩
          refine gTs_ok hK vs l ds _ ρ1 ρ' σ1 Q en1 h2 e fun σ2 en2 w2 => h σ2 en2 fun z => ?_
          have z := Bool.and_eq_true_iff.mp (show (t.in_ vs && l.in_ vs) = true from z)
          exact (w2 z.2).trans (w1 z.1)
      · cases e
    · cases e
theorem setTs_len : ∀ {l : Tgs} {ds : List D} {ρ ρ' : Rho}, setTs l ds ρ = some ρ' → ds.length = l.len
  | .nil, ds, ρ, ρ', e => by
    unfold setTs at e
    split at e
    · rfl
    · cases e
  | .cons t l, ds, ρ, ρ', e => by
    unfold setTs at e
    split at e
    · rename_i d ds
      split at e
      · rename_i ρ1 e1
        show ds.length + 1 = l.len + 1
        rw [setTs_len e]
      · cases e
    · cases e
end
/-- a target: its form in the text -/
abbrev MG (X : Cx) (tg : Expr) (t : Tg) : Prop := PG X tg (gT X.K t)
abbrev MGs (X : Cx) (tgs : List Expr) (l : Tgs) : Prop := PGs X tgs (gTs X.K l)
theorem mg_nm {i : Nat} {x : Str} {pos : Pos} (hN : X.N.Nodup) (hi : X.N[i]? = some x := by rfl) (hx : Loc X.env.scope x := by first | exact Or.inl rfl | exact Or.inr rfl) (hf : X.fn x = true ∨ X.env.scope.names.lookup x = some .local := by first | exact .inl rfl | exact .inr rfl) : MG X (.Name x pos) (.nm i) := pg_name hN hi hx hf
theorem mgs_nil : MGs X [] .nil := pgs_nil
theorem mgs_cons {e : Expr} {es : List Expr} {t : Tg} {l : Tgs} (h1 : MG X e t) (h2 : MGs X es l) (hs : (assignEach (e :: es) X.env).map (·.2) = assign e X.env :: (assignEach es X.env).map (·.2) := by rfl) : MGs X (e :: es) (.cons t l) := pgs_cons h1 h2 hs
theorem mg_tp {es : List Expr} {k : Nat} {pos : Pos} {l : Tgs} (hc : X.calm = true) (h : MGs X es l) (hn : (assignEach es X.env).length = l.len := by rfl) (hst : (assignEach es X.env).findIdx? (·.1) = none := by rfl) : MG X (.Tuple es k pos) (.tp l) := pg_tup hc h hn hst

/-- target = e -/
def sAsg (t : Tg) (f : Fe) : Fst := fun ρ S => thenS (f ρ S) ρ fun d S1 => match setT t d ρ with
  | some ρ1 => .fl (.nx ρ1) S1
  | none => .stuck
theorem asg_t (hK : X.K = M.K) {t : Tg} {f : Fe} {Dn : Ends} {σ : L2.St} {H : Hp} (q : tS M W (sAsg t f) Dn σ H) : tAsg (tE M W f) (gT X.K t) Dn σ H := by
  obtain ⟨g, ρ, rfl, rp, en, q⟩ := q
  have q := AftS.ofE (k := fun d S1 => match setT t d ρ with
    | some ρ1 => .fl (.nx ρ1) S1
    | none => .stuck) rp en q
  refine tE.go rp en (q.mono (fun d g1 k1 r1 q1 v hv => ?_) fun _ _ _ _ z => z)
  split at q1
  · rename_i ρ1 e
    exact gT_ok hK [] t d v ρ ρ1 σ _ (en.mono rp k1) hv e fun σ' en' _ => q1 g1 rfl Gr.refl r1 σ' en'
  · exact q1.elim
theorem ms_asg (hK : X.K = M.K) {tg e : Expr} {pos : Pos} {t : Tg} {f : Fe} (he : ME M X W e f) (hg : MG X tg t) (hs : swapsWithSole [tg] e pos.line X.env = pure false := by rfl) (hw : swappedStores [tg] e X.env = pure none := by rfl)
    (h1 : (assignEach [tg] X.env).map (·.2) = [assign tg X.env] := by rfl) : MS M X W (.Assign [tg] e pos) (sAsg t f) := PS.imp (ps_asg he hg hs hw h1) fun _ _ _ q => asg_t hK q
/-- name = e -/
def sSet (i : Nat) (f : Fe) : Fst := fun ρ S => thenS (f ρ S) ρ fun d S1 => .fl (.nx (ρ.set i (some d))) S1
theorem set_t {i : Nat} {f : Fe} {Dn : Ends} {σ : L2.St} {H : Hp} (q : tS M W (sSet i f) Dn σ H) : tAsg (tE M W f) (gName i) Dn σ H := by
  obtain ⟨g, ρ, rfl, rp, en, q⟩ := q
  have q := AftS.ofE (k := fun d S1 => .fl (.nx (ρ.set i (some d))) S1) rp en q
  exact tE.go rp en (q.mono (fun d g1 k1 r1 q1 v hv => q1 g1 rfl Gr.refl r1 _ ((en.mono rp k1).set hv)) fun _ _ _ _ z => z)
theorem ms_set {i : Nat} {x : Str} {e : Expr} {pos pos' : Pos} {f : Fe} (hN : X.N.Nodup) (he : ME M X W e f) (hi : X.N[i]? = some x := by rfl) (hx : Loc X.env.scope x := by first | exact Or.inl rfl | exact Or.inr rfl) (hs : swapsWith e (some (.Name x pos')) pos.line X.env = pure false := by rfl)
    (hf : X.fn x = true ∨ X.env.scope.names.lookup x = some .local := by first | exact .inl rfl | exact .inr rfl) : MS M X W (.Assign [.Name x pos'] e pos) (sSet i f) := PS.imp (ps_set hN hi hx he hs hf) fun _ _ _ q => set_t q
/-- a, b = x, y -/
def sPar (i j : Nat) (f : Fs) : Fst := fun ρ S => thenS (f ρ S) ρ fun ds S1 => match ds with
  | [d, e] => .fl (.nx ((ρ.set i (some d)).set j (some e))) S1
  | _ => .stuck
theorem ms_par {i j : Nat} {x y : Str} {a b : Expr} {f : Fs} {px py pt pos : Pos} {kt k2 : Nat} {pt2 : Pos} (hc : X.calm = true) (hN : X.N.Nodup) (ha : MA M X W [a, b] f) (hi : X.N[i]? = some x := by rfl) (hj : X.N[j]? = some y := by rfl) (hij : i ≠ j := by decide)
    (hx : X.env.scope.names.lookup x = some .local := by rfl) (hy : X.env.scope.names.lookup y = some .local := by rfl)
    (hw : swappedStores [.Tuple [.Name x px, .Name y py] kt pt] (.Tuple [a, b] k2 pt2) X.env = pure (some [x, y]) := by rfl)
    (hs : swapsWithSole [.Tuple [.Name x px, .Name y py] kt pt] (.Tuple [a, b] k2 pt2) pos.line X.env = pure false := by rfl) :
    MS M X W (.Assign [.Tuple [.Name x px, .Name y py] kt pt] (.Tuple [a, b] k2 pt2) pos) (sPar i j f) := PS.imp (ps_par hc hN hi hj hij hx hy ha hw hs) fun Dn σ H q => by
  obtain ⟨g, ρ, rfl, rp, en, q⟩ := q
  have q := AftS.ofE (α := List D) (k := fun (ds : List D) S1 => match ds with
    | [d, e] => .fl (.nx ((ρ.set i (some d)).set j (some e))) S1
    | _ => .stuck) rp en q
  refine tA.go rp en (q.mono (fun ds g1 k1 r1 q1 vs hvs => ?_) fun _ _ _ _ z => z)
  split at q1
  · cases hvs with
    | cons h1 h2 =>
      cases h2 with
      | cons h2 h3 =>
        cases h3
        exact ⟨_, _, rfl, q1 g1 rfl Gr.refl r1 _ (((en.mono rp k1).set h1).set h2)⟩
  · exact q1.elim
/-- a, b, c = x, y, z -/
def sPar3 (i j l : Nat) (f : Fs) : Fst := fun ρ S => thenS (f ρ S) ρ fun ds S1 => match ds with
  | [d, e, h] => .fl (.nx (((ρ.set i (some d)).set j (some e)).set l (some h))) S1
  | _ => .stuck
theorem ms_par3 {i j l : Nat} {x y z : Str} {a b c : Expr} {f : Fs} {px py pz pt pos : Pos} {kt k2 : Nat} {pt2 : Pos} (hc : X.calm = true) (hN : X.N.Nodup) (ha : MA M X W [a, b, c] f) (hi : X.N[i]? = some x := by rfl) (hj : X.N[j]? = some y := by rfl) (hl : X.N[l]? = some z := by rfl) (hij : i ≠ j := by decide) (hil : i ≠ l := by decide) (hjl : j ≠ l := by decide)
    (hx : X.env.scope.names.lookup x = some .local := by rfl) (hy : X.env.scope.names.lookup y = some .local := by rfl) (hz : X.env.scope.names.lookup z = some .local := by rfl)
    (hw : swappedStores [.Tuple [.Name x px, .Name y py, .Name z pz] kt pt] (.Tuple [a, b, c] k2 pt2) X.env = pure (some [x, y, z]) := by rfl)
    (hs : swapsWithSole [.Tuple [.Name x px, .Name y py, .Name z pz] kt pt] (.Tuple [a, b, c] k2 pt2) pos.line X.env = pure false := by rfl) :
    MS M X W (.Assign [.Tuple [.Name x px, .Name y py, .Name z pz] kt pt] (.Tuple [a, b, c] k2 pt2) pos) (sPar3 i j l f) := PS.imp (ps_par3 hc hN hi hj hl hij hil hjl hx hy hz ha hw hs) fun Dn σ H q => by
  obtain ⟨g, ρ, rfl, rp, en, q⟩ := q
  have q := AftS.ofE (α := List D) (k := fun (ds : List D) S1 => match ds with
    | [d, e, h] => .fl (.nx (((ρ.set i (some d)).set j (some e)).set l (some h))) S1
    | _ => .stuck) rp en q
  refine tA.go rp en (q.mono (fun ds g1 k1 r1 q1 vs hvs => ?_) fun _ _ _ _ z => z)
  split at q1
  · cases hvs with
    | cons h1 h2 =>
      cases h2 with
      | cons h2 h3 =>
        cases h3 with
        | cons h3 h4 =>
          cases h4
          exact ⟨_, _, _, rfl, q1 g1 rfl Gr.refl r1 _ ((((en.mono rp k1).set h1).set h2).set h3)⟩
  · exact q1.elim
/-- x op= e -/
def sAug (i : Nat) (op : F2) (f : Fe) : Fst := fun ρ S => match ρ[i]? with
  | some (some x) => thenS ((f ρ S).bind fun y S1 => op x y S1) ρ fun d S2 => .fl (.nx (ρ.set i (some d))) S2
  | _ => .stuck
theorem ms_aug {i : Nat} {x : Str} {e : Expr} {op : Operator} {r : R2} {fo : F2} {pos pos' : Pos} {f : Fe} (hN : X.N.Nodup) (ho : OpR X (inplaceOp op) r) (h : Op2 M r fo) (he : ME M X W e f) (hi : X.N[i]? = some x := by rfl) (hx : Loc X.env.scope x := by first | exact Or.inl rfl | exact Or.inr rfl)
    (hf : X.fn x = true ∨ X.env.scope.names.lookup x = some .local := by first | exact .inl rfl | exact .inr rfl) : MS M X W (.AugAssign (.Name x pos') op e pos) (sAug i fo f) := PS.imp (ps_aug hN hi hx he (ti := r) ho hf) fun Dn σ H q => by
  obtain ⟨g, ρ, rfl, rp, en, q⟩ := q
  unfold sAug at q
  split at q
  · rename_i d hd
    obtain ⟨v, hv1, hv⟩ := en.at_ i d hd
    refine ⟨v, hv1, ?_⟩
    have q := AftS.ofE (k := fun d S2 => .fl (.nx (ρ.set i (some d))) S2) rp en q
    have q := Aft.bind (k := fun y S1 => fo d y S1) q
    refine tE.go rp en (q.mono (fun y g1 k1 r1 q1 u hu => ?_) fun _ _ _ _ z => z)
    refine h g1 d y v u _ _ r1 (hv.mono rp k1) hu (q1.mono (fun z g2 k2 r2 q2 w hw => ?_) fun _ _ _ _ z => z)
    exact q2 g2 rfl Gr.refl r2 _ (((en.mono rp k1).mono r1 k2).set hw)
  · exact q.elim
/-- o[i] = e, o a list -/
def putD (o i d : D) (S : Sto) : Rs Unit := match o, i with
  | .ref n, .int k => match S[n]? with
    | some (.lst ds) => match ixN ds.length k with
      | some j => .ok () (S.set n (.lst (ds.set j d)))
      | none => .stuck
    | _ => .stuck
  | _, _ => .stuck
theorem put_q {g : Wd} {o i d : D} {ov iv v : V} {Q : Hp → Prop} {E : Xn → Wd → Prop} (r : Rep M g) (ho : DV M g o ov) (hi : DV M g i iv) (hv : DV M g d v) (h : Aft M g (putD o i d g.S) (fun _ g' => Q g'.H) E) : rSetL ov iv v g.H Q := by
  unfold putD at h
  split at h
  · rename_i n k
    split at h
    · rename_i ds hk
      split at h
      · rename_i j hj
        obtain ⟨rfl, hn⟩ := ho.refI
        obtain ⟨xs, hx, hxs⟩ := r.lst hk
        exact ⟨_, xs, k, j, rfl, hi.intI, hx, by rw [← hxs.length]; exact hj, put_lst r hk h (hxs.set hv j)⟩
      · exact h.elim
    · exact h.elim
  · exact h.elim
def sPut (f fo fi : Fe) : Fst := fun ρ S => thenS (f ρ S) ρ fun d S1 => thenS (fo ρ S1) ρ fun o S2 => thenS (fi ρ S2) ρ fun i S3 => thenS (putD o i d S3) ρ fun _ S4 => .fl (.nx ρ) S4
theorem ms_put {o i e : Expr} {p pos : Pos} {f fo fi : Fe} (he : ME M X W e f) (ho : ME M X W o fo) (hi : ME M X W i fi) (ha : ∀ v, assign (.Subscript o i p) X.env v = (do
      let ov ← holding [v] (eval o X.env)
      let iv ← holding [v, ov] (eval i X.env)
      standAt p
      holding [v, ov, iv] (setItem ov iv v)
      release [v, ov, iv] []) := by intro _; rfl) (hs : swapsWithSole [.Subscript o i p] e pos.line X.env = pure false := by rfl) (hw : swappedStores [.Subscript o i p] e X.env = pure none := by rfl)
    (h1 : (assignEach [.Subscript o i p] X.env).map (·.2) = [assign (.Subscript o i p) X.env] := by rfl) : MS M X W (.Assign [.Subscript o i p] e pos) (sPut f fo fi) := PS.imp (ps_asg he (pg_sub ho hi set_list ha) hs hw h1) fun Dn σ H q => by
  obtain ⟨g, ρ, rfl, rp, en, q⟩ := q
  have q := AftS.ofE (α := D) (k := fun (d : D) S1 => thenS (fo ρ S1) ρ fun o S2 => thenS (fi ρ S2) ρ fun i S3 => thenS (putD o i d S3) ρ fun _ S4 => .fl (.nx ρ) S4) rp en q
  refine tE.go rp en (q.mono (fun d g1 k1 r1 q1 v hv => ?_) fun _ _ _ _ z => z)
  have en1 := en.mono rp k1
  have q1 := AftS.ofE (α := D) (k := fun (o : D) S2 => thenS (fi ρ S2) ρ fun i S3 => thenS (putD o i d S3) ρ fun _ S4 => .fl (.nx ρ) S4) r1 en1 q1
  refine tE.go r1 en1 (q1.mono (fun o g2 k2 r2 q2 ov ho => ?_) fun _ _ _ _ z => z)
  have en2 := en1.mono r1 k2
  have q2 := AftS.ofE (α := D) (k := fun (i : D) S3 => thenS (putD o i d S3) ρ fun _ S4 => .fl (.nx ρ) S4) r2 en2 q2
  refine tE.go r2 en2 (q2.mono (fun i g3 k3 r3 q3 iv hi => ?_) fun _ _ _ _ z => z)
  have en3 := en2.mono r2 k3
  have hv3 := (hv.mono r1 k2).mono r2 k3
  have ho3 := ho.mono r2 k3
  have q3 := AftS.ofE (α := Unit) (k := fun _ S4 => .fl (.nx ρ) S4) r3 en3 q3
  exact put_q r3 ho3 hi hv3 (q3.mono (fun _ g4 k4 r4 q4 => q4 g4 rfl Gr.refl r4 σ (en3.mono r3 k4)) fun _ _ _ _ z => z)
end
end MP
set_option Elab.async false
set_option linter.all false
set_option maxRecDepth 100000
set_option maxHeartbeats 4000000
/-! Loops and comprehensions. -/
namespace MP
open PySem PySem.Spec PyProof.Rows L2

mutual
def beqD : D → D → Bool
  | .non, .non => true
  | .bl a, .bl b => a == b
  | .int a, .int b => a == b
  | .str a, .str b => a == b
  | .tup a, .tup b => beqDs a b
  | .fl a, .fl b => beqDs a b
  | .ref a, .ref b => a == b
  | .fn a, .fn b => a == b
  | _, _ => false
def beqDs : List D → List D → Bool
  | [], [] => true
  | x :: xs, y :: ys => beqD x y && beqDs xs ys
  | _, _ => false
end
mutual
theorem beqD_eq : ∀ (a b : D), beqD a b = true → a = b
  | .non, b, h => by cases b <;> simp_all [beqD]
  | .bl x, b, h => by cases b <;> simp_all [beqD]
  | .int x, b, h => by cases b <;> simp_all [beqD]
  | .str x, b, h => by cases b <;> simp_all [beqD]
  | .ref x, b, h => by cases b <;> simp_all [beqD]
  | .fn x, b, h => by cases b <;> simp_all [beqD]
  | .tup x, b, h => by
    cases b with
    | tup y => rw [beqDs_eq x y (by simpa [beqD] using h)]
    | _ => simp [beqD] at h
  | .fl x, b, h => by
    cases b with
    | fl y => rw [beqDs_eq x y (by simpa [beqD] using h)]
    | _ => simp [beqD] at h
theorem beqDs_eq : ∀ (a b : List D), beqDs a b = true → a = b
  | [], b, h => by cases b <;> simp_all [beqDs]
  | x :: xs, b, h => by
    cases b with
    | nil => simp [beqDs] at h
    | cons y ys =>
      have h := Bool.and_eq_true_iff.mp (show (beqD x y && beqDs xs ys) = true by simpa [beqDs] using h)
      rw [beqD_eq x y h.1, beqDs_eq xs ys h.2]
end
mutual
theorem beqD_refl : ∀ a : D, beqD a a = true
  | .non => by simp [beqD]
  | .bl x => by simp [beqD]
  | .int x => by simp [beqD]
  | .str x => by simp [beqD]
  | .ref x => by simp [beqD]
  | .fn x => by simp [beqD]
  | .tup x => by simp [beqD, beqDs_refl x]
  | .fl x => by simp [beqD, beqDs_refl x]
theorem beqDs_refl : ∀ a : List D, beqDs a a = true
  | [] => by simp [beqDs]
  | x :: xs => by simp [beqDs, beqD_refl x, beqDs_refl xs]
end

/-- what a loop walks: its items, and the lists that must stay as they are -/
structure Src where
  its : List D
  gd : List (Nat × List D)
def Src.ok (s : Src) (S : Sto) : Bool := s.gd.all fun p => match S[p.1]? with
  | some (.lst ds) => beqDs ds p.2
  | _ => false
def SrcOk (M : Md) (g0 : Wd) (src : Src) (J : It) : Prop := ∃ (G : Hp → Prop) (Y : Nat → Hp → V → Hp → Prop), Walk J src.its.length G Y ∧ src.ok g0.S = true ∧
  (∀ g1, Rep M g1 → Gr g0 g1 → src.ok g1.S = true → G g1.H) ∧
  ∀ i g1 x H', i < src.its.length → Rep M g1 → Gr g0 g1 → src.ok g1.S = true → Y i g1.H x H' → ∃ d g2, src.its[i]? = some d ∧ g2.H = H' ∧ g2.S = g1.S ∧ Gr g1 g2 ∧ Rep M g2 ∧ DV M g2 d x
abbrev Fi := Rho → Sto → Rs Src
def tI (M : Md) (W : WX) (f : Fi) : TI := fun σ H R => ∃ g ρ, g.H = H ∧ Rep M g ∧ EnvOk M g ρ σ ∧ Aft M g (f ρ g.S) (fun src g' => ∀ J, SrcOk M g' src J → R J g'.H) (XD M W σ)
abbrev MI (M : Md) (X : Cx) (W : WX) (tg e : Expr) (f : Fi) : Prop := PI X tg e (tI M W f)
theorem PI.imp {X : Cx} {tg e : Expr} {t t' : TI} (h : PI X tg e t) (i : ∀ σ H R, t' σ H R → t σ H R) : PI X tg e t' := ⟨fun pins s σ H R I h' => h.run pins s σ H R I (i σ H R h')⟩

/-! ### list or tuple -/
section
variable {X : Cx} {tg : Expr}
def iSeq (K : PySem.W.Frag) (tl : TE) : TI := fun σ H R => tl σ H fun x H1 => ∃ a, x = .ref a ∧ (((∃ xs, SqL K H1 a xs) ∧ R (Itl K a) H1) ∨ ((∃ xs, SqT K H1 a xs) ∧ R (Itt K a) H1))
theorem pi_seq {l : Expr} {tl : TE} (hl : PE X l tl) : PI X tg l (iSeq X.K tl) := by
  refine ⟨fun pins s σ H R I h => ?_⟩
  refine thn (hl.run pins s σ H _ I h) fun v s1 ⟨x, H1, I1, r1, q1⟩ => ?_
  obtain ⟨a, e, q⟩ := q1
  subst e
  cases r1
  have fp : ∀ b ∈ [s1.heap.objs.size], FpOk X pins H1 b := fun b hb => by
    have e : b = s1.heap.objs.size := by simpa using hb
    subst e
    exact I1.fpOk (Nat.le_refl _) (I1.hok.fresh (Nat.le_refl _))
  rcases q with ⟨⟨xs, hq⟩, q⟩ | ⟨⟨xs, hq⟩, q⟩
  · obtain ⟨its, rv, p, hz⟩ := I1.list hq
    refine wpAny_pyIter_list p.isList ?_
    exact ⟨s1.heap.objs.size, [s1.heap.objs.size], _, _, H1, rfl, I1.kept (t' := s1.toks) fun b o e => Heap.get?_push_of_some _ e, turn_list a _, ⟨_, Heap.get?_push_size _ rfl, rfl, rfl⟩, fp, q⟩
  · obtain ⟨its, rv, p, hz⟩ := I1.tuple hq
    refine wpAny_pyIter_tuple (show s1.heap.IsTuple a its.toArray from p) ?_
    exact ⟨s1.heap.objs.size, [s1.heap.objs.size], _, _, H1, rfl, I1.kept (t' := s1.toks) fun b o e => Heap.get?_push_of_some _ e, turn_tuple a _, ⟨_, Heap.get?_push_size _ rfl, rfl, rfl⟩, fp, q⟩
end
def srcD : D → Sto → Rs Src := fun d S => match d with
  | .tup ds => .ok ⟨ds, []⟩ S
  | .fl ds => .ok ⟨ds, []⟩ S
  | .ref n => match S[n]? with
    | some (.lst ds) => .ok ⟨ds, [(n, ds)]⟩ S
    | _ => .stuck
  | _ => .stuck
def iD (f : Fe) : Fi := fun ρ S => (f ρ S).bind srcD
section
variable {M : Md} {g0 : Wd}
/-- the list at place n, as long as it stays -/
theorem Src.at_ {src : Src} {S : Sto} (h : src.ok S = true) {n : Nat} {ds : List D} (hm : (n, ds) ∈ src.gd) : S[n]? = some (.lst ds) := by
  have z := List.all_eq_true.mp h _ hm
  simp only at z
  split at z
  · rename_i es e
    rw [e, beqDs_eq _ _ z]
  · cases z
theorem srcOk_tup {a : Addr} {ds : List D} {xs : List V} (r0 : Rep M g0) (h : SqT M.K g0.H a xs) (hd : DVs M g0 ds xs) : SrcOk M g0 ⟨ds, []⟩ (Itt M.K a) := by
  refine ⟨fun H => SqT M.K H a xs, YAt xs, by rw [show (Src.mk ds []).its.length = xs.length from hd.length]; exact walk_tup, rfl, fun g1 r1 k _ => k.tup r0 h, fun i g1 x H' hi r1 k _ y => ?_⟩
  obtain ⟨e, hx⟩ := y
  subst e
  obtain ⟨d, h1, h2⟩ := (hd.mono r0 k).getV hx
  exact ⟨d, g1, h1, rfl, rfl, Gr.refl, r1, h2⟩
theorem srcOk_fl {a : Addr} {ds : List D} {xs : List V} (r0 : Rep M g0) (h : FzL M.K g0.H a xs) (hd : DVs M g0 ds xs) : SrcOk M g0 ⟨ds, []⟩ (Itl M.K a) := by
  refine ⟨fun H => SqL M.K H a xs, YAt xs, by rw [show (Src.mk ds []).its.length = xs.length from hd.length]; exact walk_list, rfl, fun g1 r1 k _ => (k.fzl r0 h).sql, fun i g1 x H' hi r1 k _ y => ?_⟩
  obtain ⟨e, hx⟩ := y
  subst e
  obtain ⟨d, h1, h2⟩ := (hd.mono r0 k).getV hx
  exact ⟨d, g1, h1, rfl, rfl, Gr.refl, r1, h2⟩
theorem lst_at {g1 : Wd} (r0 : Rep M g0) (r1 : Rep M g1) (k : Gr g0 g1) {n : Nat} {ds : List D} (h0 : n < g0.S.length) (h : g1.S[n]? = some (.lst ds)) : ∃ xs, SqL M.K g1.H (g0.μ n) xs ∧ DVs M g1 ds xs := by
  obtain ⟨xs, h1, h2⟩ := r1.lst h
  rw [k.same n h0] at h1
  exact ⟨xs, .inl (.inl h1), h2⟩
theorem srcOk_ref {n : Nat} {ds : List D} (r0 : Rep M g0) (h : g0.S[n]? = some (.lst ds)) : SrcOk M g0 ⟨ds, [(n, ds)]⟩ (Itl M.K (g0.μ n)) := by
  have hn : n < g0.S.length := (List.getElem?_eq_some_iff.mp h).1
  refine ⟨fun H => ∃ xs, SqL M.K H (g0.μ n) xs ∧ xs.length = ds.length, fun i H x H' => H' = H ∧ ∀ xs, SqL M.K H (g0.μ n) xs → xs[i]? = some x, ⟨fun i H hi ⟨xs, q, e⟩ => ⟨xs, xs[i]'(by rw [e]; exact hi), q, by simp [e, hi]⟩, fun H ⟨xs, q, e⟩ => ⟨xs, q, by rw [e]; exact Nat.le_refl _⟩, fun i H x H' hi _ y => y⟩, ?_, fun g1 r1 k ok => ?_, fun i g1 x H' hi r1 k ok y => ?_⟩
  · show (match g0.S[n]? with | some (.lst es) => beqDs es ds | _ => false) && true = true
    rw [h]
    simp [beqDs_refl]
  · obtain ⟨xs, h1, h2⟩ := lst_at r0 r1 k hn (Src.at_ ok (List.mem_singleton.mpr rfl))
    exact ⟨xs, h1, h2.length.symm⟩
  · obtain ⟨e, hx⟩ := y
    subst e
    obtain ⟨xs, h1, h2⟩ := lst_at r0 r1 k hn (Src.at_ ok (List.mem_singleton.mpr rfl))
    obtain ⟨d, h3, h4⟩ := h2.getV (hx xs h1)
    exact ⟨d, g1, h3, rfl, rfl, Gr.refl, r1, h4⟩
end
section
variable {M : Md} {X : Cx} {W : WX} {tg : Expr}
theorem mi_d (hK : X.K = M.K) {e : Expr} {f : Fe} (h : ME M X W e f) : MI M X W tg e (iD f) := PI.imp (pi_seq h) fun σ H R q => by
  obtain ⟨g, ρ, rfl, rp, en, q⟩ := q
  have q := Aft.bind (k := srcD) q
  refine tE.go rp en (q.mono (fun d g1 k1 r1 q1 v hv => ?_) fun _ _ _ _ z => z)
  rw [hK]
  unfold srcD at q1
  cases hv with
  | tup h1 h2 => exact ⟨_, rfl, .inr ⟨⟨_, h1⟩, Aft.here r1 q1 _ (srcOk_tup r1 h1 h2)⟩⟩
  | fl h1 h2 => exact ⟨_, rfl, .inl ⟨⟨_, h1.sql⟩, Aft.here r1 q1 _ (srcOk_fl r1 h1 h2)⟩⟩
  | ref hn =>
    simp only at q1
    split at q1
    · rename_i ds hk
      obtain ⟨xs, hx, hxs⟩ := r1.lst hk
      exact ⟨_, rfl, .inl ⟨⟨xs, .inl (.inl hx)⟩, Aft.here r1 q1 _ (srcOk_ref r1 hk)⟩⟩
    · exact q1.elim
  | _ => exact q1.elim

/-! ### ranges -/
def rngD (lo : Int) (n : Nat) : List D := (List.range n).map fun (i : Nat) => .int (lo + (i : Int))
theorem srcOk_rng {g0 : Wd} {lo : Int} {n : Nat} : SrcOk M g0 ⟨rngD lo n, []⟩ (Itr lo n) := by
  have hl : (Src.mk (rngD lo n) []).its.length = n := by show (rngD lo n).length = n; unfold rngD; simp
  refine ⟨fun _ => True, YFn fun i => .int (lo + i), by rw [hl]; exact walk_range, rfl, fun _ _ _ _ => True.intro, fun i g1 x H' hi r1 k _ y => ?_⟩
  obtain ⟨e, hx⟩ := y
  subst e hx
  rw [hl] at hi
  exact ⟨.int (lo + i), g1, by show (rngD lo n)[i]? = _; unfold rngD; simp [hi], rfl, rfl, Gr.refl, r1, .int _⟩
/-- a bound that is stuck at once at what is not known -/
def fitI (j : Int) : Bool := Nat.ble j.natAbs 4000000000000000000
theorem fitI_of {j : Int} (h : fitI j = true) : -(2 ^ 62) ≤ j ∧ j < 2 ^ 62 := by
  have := Nat.le_of_ble_eq_true h
  omega
theorem fitI_ok {j : Int} (h : j.natAbs ≤ 4000000000000000000) : fitI j = true := Nat.ble_eq_true_of_le h
def iR1 (f : Fs) : Fi := fun ρ S => (f ρ S).bind fun ds S1 => match ds with
  | [.int j] => if fitI j = true then .ok ⟨rngD 0 j.toNat, []⟩ S1 else .stuck
  | _ => .stuck
theorem mi_range1 {a : Expr} {p pos : Pos} {f : Fs} (hm : X.mg "range" = none) (ha : MA M X W [a] f) (hg : Gl X "range" := by rfl) (hs : starEach [a] X.env = [(false, eval a X.env)] := by rfl) : MI M X W tg (.Call (.Name "range" p) [a] [] pos) (iR1 f) := PI.imp (pi_range1 hg hm ha hs) fun σ H R q => by
  obtain ⟨g, ρ, rfl, rp, en, q⟩ := q
  have q := Aft.bind (α := List D) (β := Src) (k := fun ds S1 => match ds with
    | [.int j] => if fitI j = true then .ok ⟨rngD 0 j.toNat, []⟩ S1 else .stuck
    | _ => .stuck) q
  refine tA.go rp en (q.mono (fun ds g1 k1 r1 q1 vs hvs => ?_) fun _ _ _ _ z => z)
  split at q1
  · split at q1
    · rename_i hz
      cases hvs with
      | cons h1 h2 =>
        cases h2
        exact ⟨_, by rw [h1.intI], (fitI_of hz).1, (fitI_of hz).2, Aft.here r1 q1 _ srcOk_rng⟩
    · exact q1.elim
  · exact q1.elim
def iR2 (f : Fs) : Fi := fun ρ S => (f ρ S).bind fun ds S1 => match ds with
  | [.int i, .int j] => if (fitI i && fitI j) = true then .ok ⟨rngD i (j - i).toNat, []⟩ S1 else .stuck
  | _ => .stuck
theorem mi_range2 {a b : Expr} {p pos : Pos} {f : Fs} (hm : X.mg "range" = none) (ha : MA M X W [a, b] f) (hg : Gl X "range" := by rfl) (hs : starEach [a, b] X.env = [(false, eval a X.env), (false, eval b X.env)] := by rfl) (hs2 : starEach [b] X.env = [(false, eval b X.env)] := by rfl) : MI M X W tg (.Call (.Name "range" p) [a, b] [] pos) (iR2 f) := PI.imp (pi_range2 hg hm ha hs hs2) fun σ H R q => by
  obtain ⟨g, ρ, rfl, rp, en, q⟩ := q
  have q := Aft.bind (α := List D) (β := Src) (k := fun ds S1 => match ds with
    | [.int i, .int j] => if (fitI i && fitI j) = true then .ok ⟨rngD i (j - i).toNat, []⟩ S1 else .stuck
    | _ => .stuck) q
  refine tA.go rp en (q.mono (fun ds g1 k1 r1 q1 vs hvs => ?_) fun _ _ _ _ z => z)
  split at q1
  · split at q1
    · rename_i hz
      cases hvs with
      | cons h1 h2 =>
        cases h2 with
        | cons h2 h3 =>
          cases h3
          exact ⟨_, _, by rw [h1.intI, h2.intI], (by
            rw [Bool.and_eq_true] at hz
            have a := fitI_of hz.1
            have b := fitI_of hz.2
            exact ⟨a.1, a.2, b.1, b.2⟩), Aft.here r1 q1 _ srcOk_rng⟩
    · exact q1.elim
  · exact q1.elim

/-! ### for -/
def forL (ok : Sto → Bool) (t : Tg) (b : Fst) : List D → Rho → Sto → RsS
  | [], ρ, S => .fl (.nx ρ) S
  | d :: ds, ρ, S => match setT t d ρ with
    | none => .stuck
    | some ρ1 => match b ρ1 S with
      | .fl (.nx ρ2) S2 => if ok S2 = true then forL ok t b ds ρ2 S2 else .stuck
      | .fl (.ct ρ2) S2 => if ok S2 = true then forL ok t b ds ρ2 S2 else .stuck
      | .fl (.brk ρ2) S2 => .fl (.nx ρ2) S2
      | r => r
def sFor (f : Fi) (t : Tg) (b : Fst) : Fst := fun ρ S => thenS (f ρ S) ρ fun src S1 => forL src.ok t b src.its ρ S1
theorem for_t (hK : X.K = M.K) {f : Fi} {t : Tg} {b : Fst} {Dn : Ends} {σ : L2.St} {H : Hp} (q : tS M W (sFor f t b) Dn σ H) : tFor (tI M W f) (gT X.K t) (tS M W b) Dn σ H := by
  obtain ⟨g, ρ, rfl, rp, en, q⟩ := q
  have q := AftS.ofE (α := Src) (k := fun (src : Src) S1 => forL src.ok t b src.its ρ S1) rp en q
  refine ⟨g, ρ, rfl, rp, en, q.mono (fun src g0 k0 r0 q0 J hJ => ?_) fun _ _ _ _ z => z⟩
  obtain ⟨G, Y, w, ok0, hG, hY⟩ := hJ
  refine for_it w (fun i σ H => ∃ g1 ρ1, g1.H = H ∧ Rep M g1 ∧ EnvOk M g1 ρ1 σ ∧ Gr g0 g1 ∧ src.ok g1.S = true ∧ AftS M g1 (forL src.ok t b (src.its.drop i) ρ1 g1.S) Dn W)
    ⟨g0, ρ, rfl, r0, en.mono rp k0, Gr.refl, ok0, q0⟩ (fun i σ H hi p => ?_) (fun i x σ H H' hi p y => ?_) fun σ H p => ?_
  · obtain ⟨g1, ρ1, rfl, r1, en1, k1, ok1, q1⟩ := p
    exact hG g1 r1 k1 ok1
  · obtain ⟨g1, ρ1, rfl, r1, en1, k1, ok1, q1⟩ := p
    obtain ⟨d, g2, hd, rfl, e2, k2, r2, hx⟩ := hY i g1 x H' hi r1 k1 ok1 y
    have ed : src.its.drop i = d :: src.its.drop (i + 1) := by
      rw [List.drop_eq_getElem_cons hi]
      rw [List.getElem?_eq_getElem hi] at hd
      cases hd
      rfl
    rw [ed] at q1
    have q1 := q1.up k2 r2
    rw [← e2] at q1 ok1
    unfold forL at q1
    split at q1
    · exact q1.elim
    · rename_i ρ2 e
      refine gT_ok hK [] t d x ρ1 ρ2 σ _ (en1.mono r1 k2) hx e fun σ2 en2 _ => tS.go r2 en2 ?_
      have k02 := k1.trans r1 k2
      cases hb : b ρ2 g2.S with
      | stuck => rw [hb] at q1; exact q1
      | exc x ρ3 S3 => rw [hb] at q1; exact q1
      | fl fl S3 =>
        rw [hb] at q1
        have go : ∀ ρ3 : Rho, AftS M g2 (if src.ok S3 = true then forL src.ok t b (src.its.drop (i + 1)) ρ3 S3 else .stuck) Dn W → ∀ g', g'.S = S3 → Gr g2 g' → Rep M g' → ∀ σ', EnvOk M g' ρ3 σ' →
            ∃ g1 ρ1, g1.H = g'.H ∧ Rep M g1 ∧ EnvOk M g1 ρ1 σ' ∧ Gr g0 g1 ∧ src.ok g1.S = true ∧ AftS M g1 (forL src.ok t b (src.its.drop (i + 1)) ρ1 g1.S) Dn W := fun ρ3 q3 g' e3 k3 r3 σ' en3 => by
          split at q3
          · rename_i ok3
            refine ⟨g', ρ3, rfl, r3, en3, k02.trans r2 k3, by rw [e3]; exact ok3, ?_⟩
            rw [e3]
            exact q3.up k3 r3
          · exact q3.elim
        cases fl with
        | nx ρ3 => exact go ρ3 q1
        | ct ρ3 => exact go ρ3 q1
        | brk ρ3 => exact q1
        | ret d3 => exact q1
  · obtain ⟨g1, ρ1, rfl, r1, en1, k1, ok1, q1⟩ := p
    rw [List.drop_length] at q1
    exact q1 g1 rfl Gr.refl r1 σ en1
theorem ms_for (hK : X.K = M.K) {iter : Expr} {body : List Stmt} {pos : Pos} {f : Fi} {t : Tg} {b : Fst} (hp : PassesOwn (model X.prog X.w) X.A X.env X.xe) (hc : X.calm = true) (hi : MI M X W tg iter f) (hg : MG X tg t) (hb : MSs M X W body b)
    (hs : ∀ x, foldedSetIterable iter X.env x = pure x := by intro _; rfl) : MS M X W (.For tg iter body [] pos) (sFor f t b) := PS.imp (ps_for hp hc hi hg hb hs) fun _ _ _ q => for_t hK q

/-! ### while -/
def whL (c : Ft) (b : Fst) : Nat → Rho → Sto → RsS
  | 0, _, _ => .stuck
  | n + 1, ρ, S => thenS (c ρ S) ρ fun k S1 => if k = true then (match b ρ S1 with
      | .fl (.nx ρ2) S2 => whL c b n ρ2 S2
      | .fl (.ct ρ2) S2 => whL c b n ρ2 S2
      | .fl (.brk ρ2) S2 => .fl (.nx ρ2) S2
      | r => r) else .fl (.nx ρ) S1
def whMost : Nat := 1000000
def sWhile (c : Ft) (b : Fst) : Fst := fun ρ S => whL c b whMost ρ S
theorem while_t {c : Ft} {b : Fst} {Dn : Ends} {σ : L2.St} {H : Hp} (q : tS M W (sWhile c b) Dn σ H) : tWhile (tT M W c) (tS M W b) Dn σ H := by
  obtain ⟨g, ρ, rfl, rp, en, q⟩ := q
  refine ⟨fun m σ H => ∃ g ρ, g.H = H ∧ Rep M g ∧ EnvOk M g ρ σ ∧ AftS M g (whL c b m ρ g.S) Dn W, ⟨whMost, g, ρ, rfl, rp, en, q⟩, fun m σ H p => ?_⟩
  obtain ⟨g, ρ, rfl, rp, en, q⟩ := p
  cases m with
  | zero => exact q.elim
  | succ n =>
    have q := AftS.ofE (α := Bool) (k := fun k S1 => if k = true then (match b ρ S1 with
      | .fl (.nx ρ2) S2 => whL c b n ρ2 S2
      | .fl (.ct ρ2) S2 => whL c b n ρ2 S2
      | .fl (.brk ρ2) S2 => .fl (.nx ρ2) S2
      | r => r) else .fl (.nx ρ) S1) rp en q
    refine tT.go rp en (q.mono (fun k g1 k1 r1 q1 => ?_) fun _ _ _ _ z => z)
    cases k with
    | false => exact iteF (q1 g1 rfl Gr.refl r1 σ (en.mono rp k1))
    | true =>
      refine iteT ⟨fun σ' H' => ∃ g ρ, g.H = H' ∧ Rep M g ∧ EnvOk M g ρ σ' ∧ AftS M g (whL c b n ρ g.S) Dn W, fun σ' H' p => ⟨n, Nat.lt_succ_self n, p⟩, tS.go r1 (en.mono rp k1) ?_⟩
      have q1 : AftS M g1 (match b ρ g1.S with
        | .fl (.nx ρ2) S2 => whL c b n ρ2 S2
        | .fl (.ct ρ2) S2 => whL c b n ρ2 S2
        | .fl (.brk ρ2) S2 => .fl (.nx ρ2) S2
        | r => r) Dn W := q1
      cases hb : b ρ g1.S with
      | stuck => rw [hb] at q1; exact q1
      | exc x ρ3 S3 => rw [hb] at q1; exact q1
      | fl fl S3 =>
        rw [hb] at q1
        cases fl with
        | nx ρ3 => exact fun g' e3 k3 r3 σ' en3 => ⟨g', ρ3, rfl, r3, en3, by rw [e3]; exact q1.up k3 r3⟩
        | ct ρ3 => exact fun g' e3 k3 r3 σ' en3 => ⟨g', ρ3, rfl, r3, en3, by rw [e3]; exact q1.up k3 r3⟩
        | brk ρ3 => exact q1
        | ret d3 => exact q1
theorem ms_while {c : Expr} {body : List Stmt} {pos : Pos} {fc : Ft} {b : Fst} (hp : PassesOwn (model X.prog X.w) X.A X.env X.xe) (hc : MT M X W c fc) (hb : MSs M X W body b) : MS M X W (.While c body [] pos) (sWhile fc b) := PS.imp (ps_while hp hc hb) fun _ _ _ q => while_t q
end
end MP
set_option Elab.async false
set_option linter.all false
set_option maxRecDepth 100000
set_option maxHeartbeats 4000000
/-! Comprehensions. -/
namespace MP
open PySem PySem.Spec PyProof.Rows L2

def wipeR (ρ : Rho) : List Nat → Rho
  | [] => ρ
  | v :: vs => (wipeR ρ vs).set v none
theorem wipeR_env {M : Md} {g : Wd} {ρ : Rho} {σ : L2.St} (en : EnvOk M g ρ σ) : ∀ vs : List Nat, EnvOk M g (wipeR ρ vs) (wipe σ vs)
  | [] => en
  | v :: vs => by
    have ih := wipeR_env en vs
    refine ⟨by show ((wipeR ρ vs).set v none).length = ((wipe σ vs).set v none).length; simp [ih.len], fun i d hi => ?_⟩
    have hi : ((wipeR ρ vs).set v none)[i]? = some (some d) := hi
    by_cases hv : v = i
    · subst hv
      by_cases hl : v < (wipeR ρ vs).length
      · rw [List.getElem?_set_self hl] at hi; cases hi
      · rw [List.getElem?_eq_none (by simpa using hl)] at hi; cases hi
    · rw [List.getElem?_set_ne hv] at hi
      obtain ⟨w, h1, h2⟩ := ih.at_ i d hi
      exact ⟨w, by show ((wipe σ vs).set v none)[i]? = _; rw [List.getElem?_set_ne hv]; exact h1, h2⟩

/-- the items, one after another: each in the slots ρ -/
def lcL (ok : Sto → Bool) (t : Tg) (c : Ft) (e : Fe) (ρ : Rho) : List D → Sto → Rs (List D)
  | [], S => .ok [] S
  | d :: ds, S => match setT t d ρ with
    | none => .stuck
    | some ρ1 => match c ρ1 S with
      | .ok true S1 => match e ρ1 S1 with
        | .ok y S2 => if ok S2 = true then (lcL ok t c e ρ ds S2).bind fun ys S3 => .ok (y :: ys) S3 else .stuck
        | _ => .stuck
      | .ok false S1 => if ok S1 = true then lcL ok t c e ρ ds S1 else .stuck
      | _ => .stuck
def lcFin : List D → Sto → Rs D := fun ys S => if ys.length ≤ sizeLine then .ok (.ref S.length) (S ++ [.lst ys]) else .stuck
def dLc (f : Fi) (t : Tg) (c : Ft) (e : Fe) (vs : List Nat) : Fe := fun ρ S => (f ρ S).bind fun src S1 => (lcL src.ok t c e (wipeR ρ vs) src.its S1).bind lcFin
def fYes : Ft := fun _ S => .ok true S

/-- an object of the heap becomes a place of the store -/
def Wd.adopt (g : Wd) (p : Addr) (o : SO) : Wd := ⟨fun n => if n = g.S.length then p else g.μ n, g.S ++ [o], g.H⟩
section
variable {M : Md} {g g0 g1 : Wd}
theorem adopt_len {p : Addr} {o : SO} : (g.adopt p o).S.length = g.S.length + 1 := by show (g.S ++ [o]).length = _; simp
theorem adopt_old {p : Addr} {o : SO} {n : Nat} (h : n < g.S.length) : (g.adopt p o).μ n = g.μ n := by show (if n = g.S.length then p else g.μ n) = _; rw [if_neg (by omega)]
theorem adopt_new {p : Addr} {o : SO} : (g.adopt p o).μ g.S.length = p := by show (if g.S.length = g.S.length then p else _) = p; rw [if_pos rfl]
mutual
theorem DV.adopt {p : Addr} {o : SO} : ∀ {d : D} {v : V}, DV M g d v → DV M (g.adopt p o) d v
  | _, _, .non => .non
  | _, _, .bl b => .bl b
  | _, _, .int i => .int i
  | _, _, .str x => .str x
  | _, _, .tup h hs => .tup h (DVs.adopt hs)
  | _, _, .fl h hs => .fl h (DVs.adopt hs)
  | _, _, .ref (n := n) h => by
    have q := DV.ref (M := M) (g := g.adopt p o) (n := n) (by rw [adopt_len]; omega)
    rw [adopt_old h] at q; exact q
  | _, _, .fn i => .fn i
theorem DVs.adopt {p : Addr} {o : SO} : ∀ {ds : List D} {vs : List V}, DVs M g ds vs → DVs M (g.adopt p o) ds vs
  | _, _, .nil => .nil
  | _, _, .cons h hs => .cons (DV.adopt h) (DVs.adopt hs)
end
theorem KDs.adopt {p : Addr} {o : SO} {a : List (Key × D)} {b : List (Key × V)} (h : KDs M g a b) : KDs M (g.adopt p o) a b := Paired.mapP h fun _ _ z => ⟨z.1, z.2.adopt⟩
theorem Rep.adopt (r : Rep M g) {p : Addr} {ds : List D} {xs : List V} (hp : ∀ n, n < g.S.length → g.μ n ≠ p) (h : g.H p = some (.lst xs)) (hd : DVs M g ds xs) : Rep M (g.adopt p (.lst ds)) := by
  refine ⟨fun i j hi hj e => ?_, fun i w e => ?_, r.tabs⟩
  · rw [adopt_len] at hi hj
    by_cases h1 : i = g.S.length
    · by_cases h2 : j = g.S.length
      · omega
      · rw [h1, adopt_new, adopt_old (by omega)] at e; exact absurd e.symm (hp j (by omega))
    · by_cases h2 : j = g.S.length
      · rw [h2, adopt_new, adopt_old (by omega)] at e; exact absurd e (hp i (by omega))
      · rw [adopt_old (by omega), adopt_old (by omega)] at e; exact r.inj i j (by omega) (by omega) e
  · have e : (g.S ++ [.lst ds])[i]? = some w := e
    by_cases h1 : i < g.S.length
    · rw [List.getElem?_append_left h1] at e
      rw [adopt_old h1]
      have q := r.obj i w e
      cases w with
      | lst es => obtain ⟨ys, h3, h4⟩ := q; exact ⟨ys, h3, h4.adopt⟩
      | dk kvs => obtain ⟨ys, h3, h4⟩ := q; exact ⟨ys, h3, h4.adopt⟩
    · have h2 : i = g.S.length := by
        have := (List.getElem?_eq_some_iff.mp e).1
        rw [List.length_append, List.length_singleton] at this
        omega
      subst h2
      rw [List.getElem?_append_right (Nat.le_refl _), Nat.sub_self] at e
      cases (show some (SO.lst ds) = some w from e)
      rw [adopt_new]
      exact ⟨xs, h, hd.adopt⟩
/-- from the world ahead of the object -/
theorem Gr.adopt {p : Addr} {o : SO} (hp : g0.H p = none) (k : Gr g0 g1) : Gr g0 (g1.adopt p o) where
  len := by rw [adopt_len]; exact Nat.le_succ_of_le k.len
  same := fun n hn => by rw [adopt_old (Nat.lt_of_lt_of_le hn k.len)]; exact k.same n hn
  fresh := fun n h1 h2 w z => by
    rw [adopt_len] at h2
    by_cases h : n < g1.S.length
    · rw [adopt_old h] at z; exact k.fresh n h1 h w z
    · have e : n = g1.S.length := by omega
      subst e
      rw [adopt_new, hp] at z; cases z
  keep := k.keep
/-- no place of the store stands at p -/
def Off (g : Wd) (p : Addr) : Prop := ∀ n, n < g.S.length → g.μ n ≠ p
theorem Off.up {p : Addr} {o : List V} (h : Off g p) (hp : g.H p = some (.lst o)) (k : Gr g g1) : Off g1 p := fun n hn e => by
  by_cases hl : n < g.S.length
  · rw [k.same n hl] at e; exact h n hl e
  · obtain ⟨ps, z⟩ := k.fresh n (Nat.le_of_not_lt hl) hn _ (by rw [e]; exact hp)
    cases z
theorem Gr.side {p : Addr} {u : HO} (hp : g0.H p = none) (k : Gr g0 g1) : Gr g0 ⟨g1.μ, g1.S, upd g1.H p u⟩ :=
  ⟨k.len, k.same, k.fresh, fun a w e hn ht => by
    show upd g1.H p u a = some w
    rw [upd_ne (ne_of_none e hp)]; exact k.keep a w e hn ht⟩
end

/-- the list at p is lengthened: no place of the store, no tuple, no frozen list -/
theorem DVs.side {M : Md} {g : Wd} {p : Addr} {u : HO} {ys : List V} (h : g.H p = some (.lst ys)) : ∀ {ds : List D} {vs : List V}, DVs M g ds vs → DVs M ⟨g.μ, g.S, upd g.H p u⟩ ds vs := by
  have ht : ∀ {a : Addr} {xs : List V}, SqT M.K g.H a xs → SqT M.K (upd g.H p u) a xs := fun {a xs} z => by
    rcases z with (z | ⟨o, z⟩) | z
    · exact .inl (.inl (by rw [upd_ne (ne_of z h (by intro q; cases q))]; exact z))
    · exact .inl (.inr ⟨o, by rw [upd_ne (ne_of z h (by intro q; cases q))]; exact z⟩)
    · exact .inr z
  have hf : ∀ {a : Addr} {xs : List V}, FzL M.K g.H a xs → FzL M.K (upd g.H p u) a xs := fun {a xs} z => by
    rcases z with ⟨o, z⟩ | z
    · exact .inl ⟨o, by rw [upd_ne (ne_of z h (by intro q; cases q))]; exact z⟩
    · exact .inr z
  have go : (∀ {d : D} {v : V}, DV M g d v → DV M ⟨g.μ, g.S, upd g.H p u⟩ d v) ∧ ∀ {ds : List D} {vs : List V}, DVs M g ds vs → DVs M ⟨g.μ, g.S, upd g.H p u⟩ ds vs := by
    refine ⟨fun {d v} z => ?_, fun {ds vs} z => ?_⟩
    · exact DV.rec (motive_1 := fun d v _ => DV M ⟨g.μ, g.S, upd g.H p u⟩ d v) (motive_2 := fun ds vs _ => DVs M ⟨g.μ, g.S, upd g.H p u⟩ ds vs) .non (fun b => .bl b) (fun i => .int i) (fun x => .str x) (fun h1 _ ih => .tup (ht h1) ih) (fun h1 _ ih => .fl (hf h1) ih) (fun hn => .ref hn) (fun i => .fn i) .nil (fun _ _ i1 i2 => .cons i1 i2) z
    · exact DVs.rec (motive_1 := fun d v _ => DV M ⟨g.μ, g.S, upd g.H p u⟩ d v) (motive_2 := fun ds vs _ => DVs M ⟨g.μ, g.S, upd g.H p u⟩ ds vs) .non (fun b => .bl b) (fun i => .int i) (fun x => .str x) (fun h1 _ ih => .tup (ht h1) ih) (fun h1 _ ih => .fl (hf h1) ih) (fun hn => .ref hn) (fun i => .fn i) .nil (fun _ _ i1 i2 => .cons i1 i2) z
  exact fun {ds vs} z => go.2 z
theorem DVs.side1 {M : Md} {g : Wd} {p : Addr} {u : HO} {ys : List V} (h : g.H p = some (.lst ys)) {d : D} {v : V} (z : DV M g d v) : DV M ⟨g.μ, g.S, upd g.H p u⟩ d v := by
  cases DVs.side (u := u) h (.cons z .nil) with
  | cons h1 _ => exact h1
theorem Rep.side {M : Md} {g : Wd} (r : Rep M g) {p : Addr} {ys zs : List V} (h : g.H p = some (.lst ys)) (hp : ∀ n, n < g.S.length → g.μ n ≠ p) : Rep M ⟨g.μ, g.S, upd g.H p (.lst zs)⟩ := by
  refine ⟨r.inj, fun i w e => ?_, tabs_but r.tabs (.inl ⟨_, h⟩) fun b w hb z => by
    show upd g.H p _ _ = some w
    rw [upd_ne hb]; exact z⟩
  have hi : i < g.S.length := (List.getElem?_eq_some_iff.mp e).1
  have q := r.obj i w e
  have ne : g.μ i ≠ p := hp i hi
  cases w with
  | lst es =>
    obtain ⟨xs, h1, h2⟩ := q
    exact ⟨xs, by show upd g.H p _ (g.μ i) = _; rw [upd_ne ne]; exact h1, DVs.side h h2⟩
  | dk kvs =>
    obtain ⟨xs, h1, h2⟩ := q
    exact ⟨xs, by show upd g.H p _ (g.μ i) = _; rw [upd_ne ne]; exact h1, Paired.mapP h2 fun _ _ z => ⟨z.1, DVs.side1 h z.2⟩⟩

theorem wipe_wipe (σ : L2.St) (vs : List Nat) : wipe (wipe σ vs) vs = wipe σ vs := by
  apply List.ext_getElem?
  intro j
  rw [wipe_get, wipe_length, wipe_get]
  by_cases h : j ∈ vs ∧ j < σ.length
  · rw [if_pos h, if_pos h]
  · rw [if_neg h]
theorem lcL_cons {ok : Sto → Bool} {t : Tg} {c : Ft} {e : Fe} {ρ : Rho} {d : D} {ds : List D} {S S' : Sto} {ys : List D} (h : lcL ok t c e ρ (d :: ds) S = .ok ys S') :
    ∃ ρ1, setT t d ρ = some ρ1 ∧ ((∃ S1 y S2 ys', c ρ1 S = .ok true S1 ∧ e ρ1 S1 = .ok y S2 ∧ ok S2 = true ∧ lcL ok t c e ρ ds S2 = .ok ys' S' ∧ ys = y :: ys') ∨
      ∃ S1, c ρ1 S = .ok false S1 ∧ ok S1 = true ∧ lcL ok t c e ρ ds S1 = .ok ys S') := by
  unfold lcL at h
  split at h
  · cases h
  · rename_i ρ1 e1
    refine ⟨ρ1, e1, ?_⟩
    split at h
    · rename_i S1 e2
      split at h
      · rename_i y S2 e3
        split at h
        · rename_i e4
          cases q : lcL ok t c e ρ ds S2 with
          | stuck => rw [q] at h; cases h
          | exc x S3 => rw [q] at h; cases h
          | ok ys' S3 =>
            rw [q] at h
            have h : Rs.ok (y :: ys') S3 = .ok ys S' := h
            cases h
            exact .inl ⟨S1, y, S2, ys', e2, e3, e4, q, rfl⟩
        · cases h
      · cases h
    · rename_i S1 e2
      split at h
      · rename_i e4
        exact .inr ⟨S1, e2, e4, h⟩
      · cases h
    · cases h
theorem lcL_noexc {ok : Sto → Bool} {t : Tg} {c : Ft} {e : Fe} {ρ : Rho} {x : Xn} : ∀ {ds : List D} {S S' : Sto}, lcL ok t c e ρ ds S ≠ .exc x S'
  | [], S, S', h => by cases h
  | d :: ds, S, S', h => by
    unfold lcL at h
    split at h
    · cases h
    · split at h
      · split at h
        · split at h
          · rename_i S2 _ _
            cases q : lcL ok t c e ρ ds S2 with
            | stuck => rw [q] at h; cases h
            | exc x S3 => exact lcL_noexc q
            | ok ys' S3 => rw [q] at h; cases h
          · cases h
        · cases h
      · split at h
        · exact lcL_noexc h
        · cases h
      · cases h
abbrev WF : WX := fun _ _ _ _ => False
theorem lc_t {M : Md} {X : Cx} {W : WX} (hK : X.K = M.K) {f : Fi} {t : Tg} {c : Ft} {e : Fe} {vs : List Nat} (hv : t.in_ vs = true) {σ : L2.St} {H : Hp} {Q : VK} (q : tE M W (dLc f t c e vs) σ H Q) : tLc (tI M W f) (gT X.K t) (tT M WF c) (tE M WF e) vs σ H Q := by
  obtain ⟨g, ρ, rfl, rp, en, q⟩ := q
  have q := Aft.bind (α := Src) (β := D) (k := fun src S1 => (lcL src.ok t c e (wipeR ρ vs) src.its S1).bind lcFin) q
  refine ⟨g, ρ, rfl, rp, en, q.mono (fun src g0 k0 r0 q0 J hJ Dl hD => ?_) fun _ _ _ _ z => z⟩
  obtain ⟨G, Y, w, ok0, hG, hY⟩ := hJ
  cases hall : lcL src.ok t c e (wipeR ρ vs) src.its g0.S with
  | stuck => rw [hall] at q0; exact q0.elim
  | exc x S3 => exact (lcL_noexc hall).elim
  | ok all Sall =>
    rw [hall] at q0
    have q0 : Aft M g0 (lcFin all Sall) (PD M Q) (XD M W σ) := q0
    unfold lcFin at q0
    split at q0
    · rename_i hz
      have rl : Rep M ⟨g0.μ, g0.S, upd g0.H Dl (.lst [])⟩ := r0.laid hD
      have kl : Gr g0 ⟨g0.μ, g0.S, upd g0.H Dl (.lst [])⟩ := Gr.laid hD
      have en0 := wipeR_env (en.mono rp k0) vs
      refine lc_it w (fun i H => ∃ g1 acc accv ys, g1.H = H ∧ Rep M g1 ∧ Gr g0 g1 ∧ Off g1 Dl ∧ src.ok g1.S = true ∧ H Dl = some (.lst accv) ∧ DVs M g1 acc accv ∧
          lcL src.ok t c e (wipeR ρ vs) (src.its.drop i) g1.S = .ok ys Sall ∧ all = acc ++ ys)
        ⟨_, [], [], all, rfl, rl, kl, fun n hn e => r0.not_none hn (by rw [show g0.μ n = Dl from e]; exact hD), ok0, upd_same, .nil, hall, rfl⟩ (fun i H hi p => ?_) (fun i x H H' hi p y => ?_) fun H p => ?_
      · obtain ⟨g1, acc, accv, ys, rfl, r1, k01, _, ok1, _⟩ := p
        exact hG g1 r1 k01 ok1
      · obtain ⟨g1, acc, accv, ys, rfl, r1, k01, off1, ok1, hDl, hacc, hys, hal⟩ := p
        obtain ⟨d, g2, hd, rfl, e2, k2, r2, hx⟩ := hY i g1 x H' hi r1 k01 ok1 y
        have ed : src.its.drop i = d :: src.its.drop (i + 1) := by
          rw [List.drop_eq_getElem_cons hi]
          rw [List.getElem?_eq_getElem hi] at hd
          cases hd
          rfl
        rw [ed, ← e2] at hys
        obtain ⟨ρ1, eT, hys⟩ := lcL_cons hys
        have k02 := k01.trans r1 k2
        have off2 := off1.up hDl k2
        have hD2 := k2.keep _ _ hDl off1 (fun _ z => by cases z)
        refine gT_ok hK vs t d x _ ρ1 _ _ (en0.mono r0 k02) hx eT fun σ2 en2 w2 => ⟨(w2 hv).trans (wipe_wipe σ vs), tT.go r2 en2 ?_⟩
        rcases hys with ⟨S1, y, S2, ys', h1, h2, ok2, h3, rfl⟩ | ⟨S1, h1, ok2, h3⟩
        · rw [h1]
          intro g3 e3 k3 r3
          refine iteT (tE.go r3 (en2.mono r2 k3) ?_)
          rw [e3, h2]
          intro g4 e4 k4 r4 v hv4
          have off3 := off2.up hD2 k3
          have hD3 := k3.keep _ _ hD2 off2 (fun _ z => by cases z)
          have off4 := off3.up hD3 k4
          have hD4 : g4.H Dl = some (.lst accv) := k4.keep _ _ hD3 off3 (fun _ z => by cases z)
          have hacc4 : DVs M g4 acc accv := ((hacc.mono r1 k2).mono r2 k3).mono r3 k4
          have hlen : acc.length + (ys'.length + 1) ≤ sizeLine := by rw [hal, List.length_append, List.length_cons] at hz; exact hz
          have k04 := (k02.trans r2 k3).trans r3 k4
          exact ⟨accv, hD4, by rw [← hacc4.length]; omega, ⟨g4.μ, g4.S, upd g4.H Dl (.lst (accv ++ [v]))⟩, acc ++ [y], accv ++ [v], ys', rfl, r4.side hD4 off4, k04.side hD, off4, by show src.ok g4.S = true; rw [e4]; exact ok2, upd_same,
            DVs.side hD4 (hacc4.append (.cons hv4 .nil)), by show lcL _ _ _ _ _ _ g4.S = _; rw [e4]; exact h3, by rw [hal, List.append_assoc]; rfl⟩
        · rw [h1]
          intro g3 e3 k3 r3
          exact iteF ⟨g3, acc, accv, ys, rfl, r3, k02.trans r2 k3, off2.up hD2 k3, by rw [e3]; exact ok2, k3.keep _ _ hD2 off2 (fun _ z => by cases z), (hacc.mono r1 k2).mono r2 k3, by rw [e3]; exact h3, hal⟩
      · obtain ⟨g1, acc, accv, ys, rfl, r1, k01, off1, ok1, hDl, hacc, hys, hal⟩ := p
        rw [List.drop_length] at hys
        cases (show Rs.ok [] g1.S = .ok ys Sall from hys)
        rw [List.append_nil] at hal
        subst hal
        have z := q0 (g1.adopt Dl (.lst all)) rfl (Gr.adopt hD k01) (r1.adopt off1 hDl hacc) (.ref Dl)
        have z2 : DV M (g1.adopt Dl (.lst all)) (.ref g1.S.length) (.ref Dl) := by
          have q := DV.ref (M := M) (g := g1.adopt Dl (.lst all)) (n := g1.S.length) (by rw [adopt_len]; omega)
          rw [adopt_new] at q; exact q
        exact z z2
    · exact q0.elim

section
variable {M : Md} {X : Cx} {W : WX}
/-- [e for t in iter if c] -/
theorem me_lc (hK : X.K = M.K) {elt tg iter : Expr} {ifs : List Expr} {scope : Scope} {own : List (Str × Nat)} {pos : Pos} {f : Fi} {t : Tg} {c : Ft} {e : Fe} (hc : X.calm = true) (hN : X.N.Nodup) (hi : MI M X W tg iter f) (hb : blkC X.N X.env.scope scope own = true)
    (hg : ∀ (s : Shared) (H : Hp) (C : Addr) (cl : List (Str × Addr)) (fp : List Addr), MG (X.blk s H scope (compEnvC scope cl C X.env) fp) tg t)
    (ht : ∀ (s : Shared) (H : Hp) (C : Addr) (cl : List (Str × Addr)) (fp : List Addr), PTs (X.blk s H scope (compEnvC scope cl C X.env) fp) ifs (tT M WF c))
    (he : ∀ (s : Shared) (H : Hp) (C : Addr) (cl : List (Str × Addr)) (fp : List Addr), ME M (X.blk s H scope (compEnvC scope cl C X.env) fp) WF elt e) (hv : t.in_ (own.map (·.2)) = true := by rfl) (hs : ∀ x, foldedSetIterable iter X.env x = pure x := by intro _; rfl) :
    ME M X W (.ListComp elt [⟨tg, iter, ifs, 0⟩] scope pos) (dLc f t c e (own.map (·.2))) :=
  PE.imp (pe_lc hc hN hi (blkOk_by hb) hg ht he hs) fun _ _ _ q => lc_t hK hv q
theorem mts_nil : PTs X [] (tT M W fYes) := ⟨fun pins s σ H Q I h => by
  obtain ⟨g, ρ, rfl, rp, en, q⟩ := h
  exact pts_nil.run pins s σ g.H Q I (Aft.here rp q)⟩
theorem mts_one {c : Expr} {f : Ft} (h : MT M X W c f) : PTs X [c] (tT M W f) := pts_one h
/-- name = [..] on one line -/
theorem ms_setLc (hK : X.K = M.K) {i : Nat} {y : Str} {py : Pos} {elt tg iter : Expr} {ifs : List Expr} {scope : Scope} {own : List (Str × Nat)} {pos spos : Pos} {f : Fi} {t : Tg} {c : Ft} {e : Fe} (hc : X.calm = true) (hN : X.N.Nodup) (hi : MI M X W tg iter f) (hb : blkC X.N X.env.scope scope own = true)
    (hg : ∀ (s : Shared) (H : Hp) (C : Addr) (cl : List (Str × Addr)) (fp : List Addr), MG (X.blk s H scope (compEnvC scope cl C X.env) fp) tg t)
    (ht : ∀ (s : Shared) (H : Hp) (C : Addr) (cl : List (Str × Addr)) (fp : List Addr), PTs (X.blk s H scope (compEnvC scope cl C X.env) fp) ifs (tT M WF c))
    (he : ∀ (s : Shared) (H : Hp) (C : Addr) (cl : List (Str × Addr)) (fp : List Addr), ME M (X.blk s H scope (compEnvC scope cl C X.env) fp) WF elt e)
    (ha : (scope.names.any fun (n, k) => n == y && (k == .local || k == .cell)) = false) (hk : X.env.scope.kind = .function := by rfl) (hy : X.N[i]? = some y := by rfl) (hyl : X.env.scope.names.lookup y = some .local := by rfl) (hl : (py.line == pos.line) = true := by rfl)
    (hv : t.in_ (own.map (·.2)) = true := by rfl) (hs : ∀ x, foldedSetIterable iter X.env x = pure x := by intro _; rfl) :
    MS M X W (.Assign [.Name y py] (.ListComp elt [⟨tg, iter, ifs, 0⟩] scope pos) spos) (sSet i (dLc f t c e (own.map (·.2)))) :=
  PS.imp (ps_setLc hc hN hy hyl (sw_true hk hyl hl ha) hi (blkOk_by hb) hg ht he hs) fun Dn σ H q => by
    have q := set_t q
    exact lc_t hK hv q
end
end MP
set_option Elab.async false
set_option linter.all false
set_option maxRecDepth 100000
set_option maxHeartbeats 4000000
/-! Built-in functions, methods, defs. -/
namespace MP
open PySem PySem.Spec PyProof.Rows L2

/-! ### a slot's value, the items' kinds -/
def asInts : List D → Option (List Int)
  | [] => some []
  | .int i :: ds => (asInts ds).map (i :: ·)
  | _ => none
def asBls : List D → Option (List Bool)
  | [] => some []
  | .bl b :: ds => (asBls ds).map (b :: ·)
  | _ => none
section
variable {M : Md} {g : Wd}
theorem asInts_v : ∀ {ds : List D} {vs : List V} {ns : List Int}, DVs M g ds vs → asInts ds = some ns → vs = ns.map V.int
  | _, _, _, .nil, e => by cases (show some [] = some _ from e); rfl
  | d :: ds, _, ns, .cons h t, e => by
    cases h with
    | int i =>
      have e : (asInts ds).map (i :: ·) = some ns := e
      simp only [Option.map_eq_some_iff] at e
      obtain ⟨ms, e1, rfl⟩ := e
      rw [asInts_v t e1]; rfl
    | _ => cases e
theorem asBls_v : ∀ {ds : List D} {vs : List V} {ns : List Bool}, DVs M g ds vs → asBls ds = some ns → vs = ns.map V.bl
  | _, _, _, .nil, e => by cases (show some [] = some _ from e); rfl
  | d :: ds, _, ns, .cons h t, e => by
    cases h with
    | bl i =>
      have e : (asBls ds).map (i :: ·) = some ns := e
      simp only [Option.map_eq_some_iff] at e
      obtain ⟨ms, e1, rfl⟩ := e
      rw [asBls_v t e1]; rfl
    | _ => cases e
/-- the items of a list (no tuple) -/
def lstD : D → Sto → Option (List D) := fun d S => match d with
  | .fl ds => some ds
  | .ref n => match S[n]? with
    | some (.lst ds) => some ds
    | _ => none
  | _ => none
theorem lstD_v {d : D} {v : V} {ds : List D} (r : Rep M g) (h : DV M g d v) (e : lstD d g.S = some ds) : ∃ a xs, v = .ref a ∧ SqL M.K g.H a xs ∧ DVs M g ds xs := by
  unfold lstD at e
  cases h with
  | fl h1 h2 => cases e; exact ⟨_, _, rfl, h1.sql, h2⟩
  | ref hn =>
    simp only at e
    split at e
    · rename_i es hk
      cases e
      obtain ⟨xs, hx, hxs⟩ := r.lst hk
      exact ⟨_, xs, rfl, .inl (.inl hx), hxs⟩
    · cases e
  | _ => cases e
theorem DVs.one {d : D} {vs : List V} (h : DVs M g [d] vs) : ∃ v, vs = [v] ∧ DV M g d v := by
  cases h with
  | cons h t => cases t; exact ⟨_, rfl, h⟩
theorem DVs.two {d e : D} {vs : List V} (h : DVs M g [d, e] vs) : ∃ v u, vs = [v, u] ∧ DV M g d v ∧ DV M g e u := by
  cases h with
  | cons h t =>
    obtain ⟨u, rfl, hu⟩ := t.one
    exact ⟨_, _, rfl, h, hu⟩

/-! ### functions -/
def nLen : FN := fun ds S => match ds with
  | [.str z] => if z.length ≤ sizeLine then .ok (.int (z.length : Nat)) S else .stuck
  | [d] => match itemsD d S with
    | some es => .ok (.int (es.length : Nat)) S
    | none => .stuck
  | _ => .stuck
def rLenV (K : PySem.W.Frag) : List V → Hp → VK → Prop := fun xs H Q => ∃ x n, xs = [x] ∧ LenV K x H n ∧ Q (.int (n : Nat)) H
theorem on_len : OpN M (rLenV M.K) nLen := by
  intro g ds vs Q E r hv h
  unfold nLen at h
  split at h
  · split at h
    · rename_i z hz
      obtain ⟨v, rfl, h1⟩ := hv.one
      exact ⟨v, _, rfl, by rw [h1.strI]; exact ⟨hz, rfl⟩, h.here r _ (.int _)⟩
    · exact h.elim
  · split at h
    · rename_i es he
      obtain ⟨v, rfl, h1⟩ := hv.one
      obtain ⟨a, xs, rfl, hx, hxs⟩ := itemsD_v r h1 he
      refine ⟨_, xs.length, rfl, ?_, by rw [← hxs.length]; exact h.here r _ (.int _)⟩
      rcases hx with hx | hx
      · exact .inr ⟨xs, hx, rfl⟩
      · exact .inl ⟨xs, hx, rfl⟩
    · exact h.elim
  · exact h.elim
def nAbs : FN := fun ds S => match ds with
  | [.int i] => .ok (.int (if i < 0 then -i else i)) S
  | _ => .stuck
theorem on_abs : OpN M (fun xs H Q => ∃ i, xs = [.int i] ∧ Q (.int (if i < 0 then -i else i)) H) nAbs := by
  intro g ds vs Q E r hv h
  unfold nAbs at h
  split at h
  · obtain ⟨v, rfl, h1⟩ := hv.one
    exact ⟨_, by rw [h1.intI], h.here r _ (.int _)⟩
  · exact h.elim
def nMax2 : FN := fun ds S => match ds with
  | [.int i, .int j] => .ok (.int (if j > i then j else i)) S
  | _ => .stuck
theorem on_max2 : OpN M (fun xs H Q => ∃ i j, xs = [.int i, .int j] ∧ Q (.int (if j > i then j else i)) H) nMax2 := by
  intro g ds vs Q E r hv h
  unfold nMax2 at h
  split at h
  · obtain ⟨v, u, rfl, h1, h2⟩ := hv.two
    exact ⟨_, _, by rw [h1.intI, h2.intI], h.here r _ (.int _)⟩
  · exact h.elim
def nMin2 : FN := fun ds S => match ds with
  | [.int i, .int j] => .ok (.int (if j < i then j else i)) S
  | _ => .stuck
theorem on_min2 : OpN M (fun xs H Q => ∃ i j, xs = [.int i, .int j] ∧ Q (.int (if j < i then j else i)) H) nMin2 := by
  intro g ds vs Q E r hv h
  unfold nMin2 at h
  split at h
  · obtain ⟨v, u, rfl, h1, h2⟩ := hv.two
    exact ⟨_, _, by rw [h1.intI, h2.intI], h.here r _ (.int _)⟩
  · exact h.elim
def nInt : FN := fun ds S => match ds with
  | [.int i] => .ok (.int i) S
  | [.bl k] => .ok (.int (if k then 1 else 0)) S
  | _ => .stuck
theorem on_int : OpN M (fun xs H Q => (∃ i, xs = [.int i] ∧ Q (.int i) H) ∨ ∃ k, xs = [.bl k] ∧ Q (.int (if k then 1 else 0)) H) nInt := by
  intro g ds vs Q E r hv h
  unfold nInt at h
  split at h
  · obtain ⟨v, rfl, h1⟩ := hv.one
    exact .inl ⟨_, by rw [h1.intI], h.here r _ (.int _)⟩
  · obtain ⟨v, rfl, h1⟩ := hv.one
    exact .inr ⟨_, by rw [h1.blI], h.here r _ (.int _)⟩
  · exact h.elim
def nTuple : FN := fun ds S => match ds with
  | [d] => match d with
    | .tup es => .ok (.tup es) S
    | d => match lstD d S with
      | some es => .ok (.tup es) S
      | none => .stuck
  | _ => .stuck
def rTupleOf (K : PySem.W.Frag) : List V → Hp → VK → Prop := fun xs H Q => ∃ p ys, xs = [.ref p] ∧ ((SqL K H p ys ∧ ∀ l, H l = none → Q (.ref l) (upd H l (.tup ys))) ∨ (SqT K H p ys ∧ Q (.ref p) H))
theorem on_tuple : OpN M (rTupleOf M.K) nTuple := by
  intro g ds vs Q E r hv h
  unfold nTuple at h
  split at h
  · split at h
    · obtain ⟨v, rfl, h1⟩ := hv.one
      obtain ⟨a, xs, rfl, hx, hxs⟩ := h1.tupI
      exact ⟨a, xs, rfl, .inr ⟨hx, h.here r _ h1⟩⟩
    · split at h
      · rename_i es he
        obtain ⟨v, rfl, h1⟩ := hv.one
        obtain ⟨a, xs, rfl, hx, hxs⟩ := lstD_v r h1 he
        exact ⟨a, xs, rfl, .inl ⟨hx, fun p hp => new_tup r h hp _ (dv_new r hp hxs)⟩⟩
      · exact h.elim
  · exact h.elim
def nList : FN := fun ds S => match ds with
  | [d] => match itemsD d S with
    | some es => .ok (.ref S.length) (S ++ [.lst es])
    | none => .stuck
  | _ => .stuck
def rListOf (K : PySem.W.Frag) : List V → Hp → VK → Prop := fun xs H Q => ∃ p ys, xs = [.ref p] ∧ (SqL K H p ys ∨ SqT K H p ys) ∧ ∀ l, H l = none → Q (.ref l) (upd H l (.lst ys))
theorem on_list : OpN M (rListOf M.K) nList := by
  intro g ds vs Q E r hv h
  unfold nList at h
  split at h
  · split at h
    · rename_i es he
      obtain ⟨v, rfl, h1⟩ := hv.one
      obtain ⟨a, xs, rfl, hx, hxs⟩ := itemsD_v r h1 he
      exact ⟨a, xs, rfl, hx.symm, fun p hp => new_lst r h hp hxs _ .newRef⟩
    · exact h.elim
  · exact h.elim
def nAll : FN := fun ds S => match ds with
  | [d] => match lstD d S with
    | some es => match asBls es with
      | some bs => .ok (.bl (bs.all id)) S
      | none => .stuck
    | none => .stuck
  | _ => .stuck
theorem on_all : OpN M (rAll M.K) nAll := by
  intro g ds vs Q E r hv h
  unfold nAll at h
  split at h
  · split at h
    · rename_i es he
      split at h
      · rename_i bs hb
        obtain ⟨v, rfl, h1⟩ := hv.one
        obtain ⟨a, xs, rfl, hx, hxs⟩ := lstD_v r h1 he
        rw [asBls_v hxs hb] at hx
        exact ⟨a, bs, rfl, hx, h.here r _ (.bl _)⟩
      · exact h.elim
    · exact h.elim
  · exact h.elim
def nAny : FN := fun ds S => match ds with
  | [d] => match lstD d S with
    | some es => match asBls es with
      | some bs => .ok (.bl (bs.any id)) S
      | none => .stuck
    | none => .stuck
  | _ => .stuck
theorem on_any : OpN M (rAny M.K) nAny := by
  intro g ds vs Q E r hv h
  unfold nAny at h
  split at h
  · split at h
    · rename_i es he
      split at h
      · rename_i bs hb
        obtain ⟨v, rfl, h1⟩ := hv.one
        obtain ⟨a, xs, rfl, hx, hxs⟩ := lstD_v r h1 he
        rw [asBls_v hxs hb] at hx
        exact ⟨a, bs, rfl, hx, h.here r _ (.bl _)⟩
      · exact h.elim
    · exact h.elim
  · exact h.elim
def nSum : FN := fun ds S => match ds with
  | [d] => match lstD d S with
    | some es => match asInts es with
      | some ns => .ok (.int ns.sum) S
      | none => .stuck
    | none => .stuck
  | _ => .stuck
theorem on_sum : OpN M (rSum M.K) nSum := by
  intro g ds vs Q E r hv h
  unfold nSum at h
  split at h
  · split at h
    · rename_i es he
      split at h
      · rename_i bs hb
        obtain ⟨v, rfl, h1⟩ := hv.one
        obtain ⟨a, xs, rfl, hx, hxs⟩ := lstD_v r h1 he
        rw [asInts_v hxs hb] at hx
        exact ⟨a, bs, rfl, hx, h.here r _ (.int _)⟩
      · exact h.elim
    · exact h.elim
  · exact h.elim
def nGcd : FN := fun ds S => match ds with
  | [.int i, .int j] => .ok (.int ((Nat.gcd i.natAbs j.natAbs : Nat) : Int)) S
  | _ => .stuck
theorem on_gcd : OpN M rGcd nGcd := by
  intro g ds vs Q E r hv h
  unfold nGcd at h
  split at h
  · obtain ⟨v, u, rfl, h1, h2⟩ := hv.two
    exact ⟨_, _, by rw [h1.intI, h2.intI], h.here r _ (.int _)⟩
  · exact h.elim

/-! ### isinstance -/
end
inductive Ty where
  | none | bool | int | str | tuple | list | dict
  deriving DecidableEq
def Ty.nm : Ty → String
  | .none => "NoneType" | .bool => "bool" | .int => "int" | .str => "str" | .tuple => "tuple" | .list => "list" | .dict => "dict"
def Ty.sub (a b : Ty) : Bool := decide (a = b) || (decide (a = .bool) && decide (b = .int))
theorem Ty.kit (a b : Ty) (h : b ≠ .none) : kitB a.nm b.nm = some (Ty.sub a b) := by
  cases a <;> cases b <;> first | exact absurd rfl h | decide +kernel
def tyD : D → Sto → Option Ty := fun d S => match d with
  | .non => some .none
  | .bl _ => some .bool
  | .int _ => some .int
  | .str _ => some .str
  | .tup _ => some .tuple
  | .fl _ => some .list
  | .ref n => match S[n]? with
    | some (.lst _) => some .list
    | some (.dk _) => some .dict
    | _ => Option.none
  | .fn _ => Option.none
def dIsi (b : Ty) (f : Fe) : Fe := fun ρ S => (f ρ S).bind fun d S1 => match tyD d S1 with
  | some a => .ok (.bl (Ty.sub a b)) S1
  | Option.none => .stuck
section
variable {M : Md} {X : Cx} {W : WX}
theorem tyD_v {g : Wd} {d : D} {v : V} {a : Ty} (r : Rep M g) (h : DV M g d v) (e : tyD d g.S = some a) : TyX M.K g.H v (.type a.nm) := by
  unfold tyD at e
  cases h with
  | non => cases e; exact .base .non
  | bl b => cases e; exact .base (.bl b)
  | int i => cases e; exact .base (.int i)
  | str x => cases e; exact .base (.str x)
  | tup h1 h2 =>
    cases e
    rcases h1 with (h1 | ⟨o, h1⟩) | ⟨o, its, n, h1, h2, _⟩
    · exact .base (.tup h1)
    · exact .fTuple h1
    · exact .kTuple h1 h2
  | fl h1 h2 =>
    cases e
    rcases h1 with ⟨o, h1⟩ | ⟨o, its, n, h1, h2, _⟩
    · exact .base (.frz h1)
    · exact .kList h1 h2
  | ref hn =>
    simp only at e
    split at e
    · rename_i ds hk
      cases e
      obtain ⟨xs, hx, _⟩ := r.lst hk
      exact .base (.lst hx)
    · rename_i kvs hk
      cases e
      obtain ⟨ws, hx, _⟩ := r.obj _ _ hk
      exact .base (.dK hx)
    · cases e
  | fn i => cases e
theorem me_isi (hK : X.K = M.K) {e : Expr} {T : Str} {p p2 pos : Pos} {f : Fe} {b : Ty} (hm : X.mg "isinstance" = none) (hmT : X.mg T = none) (hvT : bootBuiltins T = some (.type b.nm)) (hb : b ≠ .none) (he : ME M X W e f) (hg : Gl X "isinstance" := by rfl) (hgT : Gl X T := by rfl)
    (hnT : T ≠ "__name__" := by decide) (hdT : (T == ("__debug__" : Str)) = false := by decide)
    (hs : starEach [e, .Name T p2] X.env = (false, eval e X.env) :: starEach [.Name T p2] X.env := by rfl) :
    ME M X W (.Call (.Name "isinstance" p) [e, .Name T p2] [] pos) (dIsi b f) :=
  PE.imp (pe_callB call_isi hg hm boot_isinstance (pa_cons he (pa_cons (pe_bltn (v := .ty b.nm) hgT hmT hvT rfl hnT hdT) pa_nil) hs) (he := hs)) fun σ H Q q => by
    obtain ⟨g, ρ, rfl, rp, en, q⟩ := q
    have q := Aft.bind (β := D) (k := fun (d : D) S1 => match tyD d S1 with
      | some a => .ok (.bl (Ty.sub a b)) S1
      | Option.none => .stuck) q
    refine tE.go rp en (q.mono (fun d g1 k1 r1 q1 v hv => ?_) fun _ _ _ _ z => z)
    split at q1
    · rename_i a ha
      rw [hK]
      exact ⟨v, .ty b.nm, _, _, _, rfl, .ty _, tyD_v r1 hv ha, kit_ty (Ty.kit a b hb), Aft.here r1 q1 _ (.bl _)⟩
    · exact q1.elim
/-- a module's name for a built-in function -/
theorem me_callBfun {x : Str} {p pos : Pos} {e : Expr} {es : List Expr} {id : String} {r : List V → Hp → VK → Prop} {f : FN} {a : Fs} (hc : CallR X (.builtin id) r) (h : OpN M r f) (hm : X.mg x = some (.builtin id)) (ha : MA M X W (e :: es) a) (hg : Gl X x := by rfl) (hdb : (x == ("__debug__" : Str)) = false := by decide)
    (he : starEach (e :: es) X.env = (false, eval e X.env) :: starEach es X.env := by rfl) (hpl : (backTo pos (starEach es X.env)).any (·.1) = false := by rfl) : ME M X W (.Call (.Name x p) (e :: es) [] pos) (dN f a) :=
  PE.imp (pe_callBfun hc hg hm ha hdb he hpl) fun _ _ _ q => callN_t h q

/-! ### methods of lists -/
abbrev FM := D → List D → Sto → Rs D
def dM0 (f : FM) (o : Fe) : Fe := fun ρ S => (o ρ S).bind fun d S1 => f d [] S1
def dM (f : FM) (o : Fe) (a : Fs) : Fe := fun ρ S => (o ρ S).bind fun d S1 => (a ρ S1).bind fun ds S2 => f d ds S2
/-- the receiver's type is there as soon as it is evaluated: it is a list, whatever the arguments do -/
def isLstD : D → Sto → Bool := fun d S => match lstD d S with
  | some _ => true
  | none => false
def dML (f : FM) (o : Fe) (a : Fs) : Fe := fun ρ S => (o ρ S).bind fun d S1 => if isLstD d S1 = true then (a ρ S1).bind fun ds S2 => f d ds S2 else .stuck
def OpM (M : Md) (r : V → List V → Hp → VK → Prop) (f : FM) : Prop := ∀ (g : Wd) (d : D) (v : V) (ds : List D) (vs : List V) (Q : VK) (E : Xn → Wd → Prop), Rep M g → DV M g d v → DVs M g ds vs → Aft M g (f d ds g.S) (PD M Q) E → r v vs g.H Q
theorem isLst_ty {g : Wd} {d : D} {v : V} (r : Rep M g) (hv : DV M g d v) (h : isLstD d g.S = true) : tyV M.K "list" v g.H := by
  unfold isLstD at h
  split at h
  · rename_i ds e
    obtain ⟨a, xs, rfl, hx, _⟩ := lstD_v r hv e
    exact .inl ⟨rfl, xs, hx⟩
  · cases h
theorem methL_t {r : V → List V → Hp → VK → Prop} {f : FM} {o : Fe} {a : Fs} (h : OpM M r f) {σ : L2.St} {H : Hp} {Q : VK} (q : tE M W (dML f o a) σ H Q) : tBM M.K "list" r (tE M W o) (tA M W a) σ H Q := by
  obtain ⟨g, ρ, rfl, rp, en, q⟩ := q
  have q := Aft.bind (α := D) (k := fun d S1 => if isLstD d S1 = true then (a ρ S1).bind fun ds S2 => f d ds S2 else .stuck) q
  refine tE.go rp en (q.mono (fun d g1 k1 r1 q1 v hv => ?_) fun _ _ _ _ z => z)
  split at q1
  · rename_i hl
    refine ⟨isLst_ty r1 hv hl, ?_⟩
    have q1 := Aft.bind (α := List D) (k := fun ds S2 => f d ds S2) q1
    exact tA.go r1 (en.mono rp k1) (q1.mono (fun ds g2 k2 r2 q2 vs hvs => h g2 d v ds vs Q _ r2 (hv.mono r1 k2) hvs q2) fun _ _ _ _ z => z)
  · exact q1.elim
def mAppend : FM := fun d ds S => match d, ds with
  | .ref n, [y] => match S[n]? with
    | some (.lst es) => if es.length < sizeLine then .ok .non (S.set n (.lst (es ++ [y]))) else .stuck
    | _ => .stuck
  | _, _ => .stuck
theorem om_append : OpM M rAppend mAppend := by
  intro g d v ds vs Q E r hv hvs h
  unfold mAppend at h
  split at h
  · rename_i n y
    split at h
    · rename_i es hk
      split at h
      · rename_i hz
        obtain ⟨rfl, _⟩ := hv.refI
        obtain ⟨u, rfl, hu⟩ := hvs.one
        obtain ⟨xs, hx, hxs⟩ := r.lst hk
        exact ⟨_, xs, u, rfl, rfl, hx, by rw [← hxs.length]; exact hz, put_lst r hk h (hxs.append (.cons hu .nil)) _ .non⟩
      · exact h.elim
    · exact h.elim
  · exact h.elim
def mExtend : FM := fun d ds S => match d, ds with
  | .ref n, [.ref m] => match S[n]?, S[m]? with
    | some (.lst es), some (.lst fs) => if es.length + fs.length ≤ sizeLine then .ok .non (S.set n (.lst (es ++ fs))) else .stuck
    | _, _ => .stuck
  | _, _ => .stuck
theorem om_extend : OpM M rExtend mExtend := by
  intro g d v ds vs Q E r hv hvs h
  unfold mExtend at h
  split at h
  · rename_i n m
    split at h
    · rename_i es fs hk hk2
      split at h
      · rename_i hz
        obtain ⟨rfl, _⟩ := hv.refI
        obtain ⟨u, rfl, hu⟩ := hvs.one
        obtain ⟨rfl, _⟩ := hu.refI
        obtain ⟨xs, hx, hxs⟩ := r.lst hk
        obtain ⟨ys, hy, hys⟩ := r.lst hk2
        exact ⟨_, _, xs, ys, rfl, rfl, hx, hy, by rw [← hxs.length, ← hys.length]; exact hz, put_lst r hk h (hxs.append hys) _ .non⟩
      · exact h.elim
    · exact h.elim
  · exact h.elim
def mPop : FM := fun d ds S => match d, ds with
  | .ref n, [] => match S[n]? with
    | some (.lst es) => match es[es.length - 1]? with
      | some y => .ok y (S.set n (.lst es.dropLast))
      | none => .stuck
    | _ => .stuck
  | _, _ => .stuck
theorem om_pop : OpM M rPop mPop := by
  intro g d v ds vs Q E r hv hvs h
  unfold mPop at h
  split at h
  · rename_i n
    split at h
    · rename_i es hk
      split at h
      · rename_i y hy
        obtain ⟨rfl, hn⟩ := hv.refI
        cases hvs
        obtain ⟨xs, hx, hxs⟩ := r.lst hk
        obtain ⟨u, hu, huv⟩ := hxs.get hy
        refine ⟨_, xs, u, rfl, rfl, hx, by rw [← hxs.length]; exact hu, ?_⟩
        have kk : Gr g (g.put n (.lst es.dropLast) (.lst xs.dropLast)) := Gr.put hn
        exact put_lst r hk h hxs.dropLast _ (huv.mono r kk)
      · exact h.elim
    · exact h.elim
  · exact h.elim
theorem me_append (hK : X.K = M.K) {o e : Expr} {es : List Expr} {apos cpos : Pos} {fo : Fe} {a : Fs} (ho : ME M X W o fo) (ha : MA M X W (e :: es) a) (hbase : attributeBase o "append" X.env (eval o X.env) = eval o X.env := by rfl)
    (hfew : ((backTo cpos (starEach (e :: es) X.env)).all (fun x => !x.1) && (backToKw cpos (keywordEach [] X.env)).all (fun x => x.1.isSome)
      && decide ((e :: es).length + ([] : List Keyword).length + (if ([] : List Keyword).isEmpty then 0 else 1) < 30)) = true := by rfl)
    (hline : (apos.endLine == cpos.line) = true := by rfl) (hs : starEach (e :: es) X.env = (false, eval e X.env) :: starEach es X.env := by rfl) (hplain : (backTo cpos (starEach es X.env)).any (·.1) = false := by rfl) :
    ME M X W (.Call (.Attribute o "append" apos) (e :: es) [] cpos) (dML mAppend fo a) :=
  PE.imp (pe_bm PySem.F.plainAttrs_list PySem.F.slot_list_append PySem.F.type_list_append mt_append ho ha hbase hfew hline hs hplain) fun _ _ _ q => by rw [hK]; exact methL_t om_append q
theorem me_extend (hK : X.K = M.K) {o e : Expr} {es : List Expr} {apos cpos : Pos} {fo : Fe} {a : Fs} (ho : ME M X W o fo) (ha : MA M X W (e :: es) a) (hbase : attributeBase o "extend" X.env (eval o X.env) = eval o X.env := by rfl)
    (hfew : ((backTo cpos (starEach (e :: es) X.env)).all (fun x => !x.1) && (backToKw cpos (keywordEach [] X.env)).all (fun x => x.1.isSome)
      && decide ((e :: es).length + ([] : List Keyword).length + (if ([] : List Keyword).isEmpty then 0 else 1) < 30)) = true := by rfl)
    (hline : (apos.endLine == cpos.line) = true := by rfl) (hs : starEach (e :: es) X.env = (false, eval e X.env) :: starEach es X.env := by rfl) (hplain : (backTo cpos (starEach es X.env)).any (·.1) = false := by rfl) :
    ME M X W (.Call (.Attribute o "extend" apos) (e :: es) [] cpos) (dML mExtend fo a) :=
  PE.imp (pe_bm PySem.F.plainAttrs_list PySem.F.slot_list_extend PySem.F.type_list_extend mt_extend ho ha hbase hfew hline hs hplain) fun _ _ _ q => by rw [hK]; exact methL_t om_extend q
def dML0 (f : FM) (o : Fe) : Fe := fun ρ S => (o ρ S).bind fun d S1 => if isLstD d S1 = true then f d [] S1 else .stuck
theorem me_pop (hK : X.K = M.K) {o : Expr} {apos cpos : Pos} {fo : Fe} (ho : ME M X W o fo) (hbase : attributeBase o "pop" X.env (eval o X.env) = eval o X.env := by rfl) (hline : (apos.endLine == cpos.line) = true := by rfl) :
    ME M X W (.Call (.Attribute o "pop" apos) [] [] cpos) (dML0 mPop fo) :=
  PE.imp (pe_bm0 PySem.F.plainAttrs_list PySem.F.slot_list_pop PySem.F.type_list_pop mt_pop ho hbase hline) fun σ H Q q => by
    rw [hK]
    obtain ⟨g, ρ, rfl, rp, en, q⟩ := q
    have q := Aft.bind (α := D) (k := fun d S1 => if isLstD d S1 = true then mPop d [] S1 else .stuck) q
    refine tE.go rp en (q.mono (fun d g1 k1 r1 q1 v hv => ?_) fun _ _ _ _ z => z)
    split at q1
    · rename_i hl
      exact ⟨isLst_ty r1 hv hl, om_pop g1 d v [] [] Q _ r1 hv .nil q1⟩
    · exact q1.elim

/-! ### {} -/
def dEmpty : Fe := fun _ S => .ok (.ref S.length) (S ++ [.dk []])
theorem me_empty {pos : Pos} : ME M X W (.Dict [] [] pos) dEmpty := PE.imp pe_dnewK fun σ H Q q => by
  obtain ⟨g, ρ, rfl, rp, en, q⟩ := q
  intro d hd
  have hd : g.H d = none := hd
  exact q (g.new d (.dk []) (.dK [])) rfl (Gr.new hd) (rp.new hd ⟨[], upd_same, .nil⟩) _ .newRef
end

/-! ### defs -/
/-- what a def promises: n arguments, told by F -/
def spF (M : Md) (n : Nat) (F : FN) : Sp := fun vs H Q E => vs.length = n ∧ ∃ g ds, g.H = H ∧ Rep M g ∧ DVs M g ds vs ∧ Aft M g (F ds g.S) (PD M Q) (fun x g' => ∀ cls dx, XV M g' x cls dx → E cls dx g'.H)
abbrev WD (E : XK) : WX := fun cls d _ H => E cls d H
def entry (N : Nat) (ds : List D) : Rho := ds.map some ++ List.replicate (N - ds.length) none
def runF (N : Nat) (b : Fst) : FN := fun ds S => match b (entry N ds) S with
  | .fl (.nx _) S1 => .ok .non S1
  | .fl (.ret d) S1 => .ok d S1
  | .exc x _ S1 => .exc x S1
  | _ => .stuck
theorem entry_ok {M : Md} {g : Wd} {N : List Str} : ∀ {ds : List D} {vs : List V}, DVs M g ds vs → EnvOk M g (entry N.length ds) (L2.start N vs) := fun {ds vs} h => by
  refine ⟨by unfold entry L2.start; simp [h.length], fun i d e => ?_⟩
  unfold entry at e
  by_cases hi : i < ds.length
  · rw [List.getElem?_append_left (by simpa using hi), List.getElem?_map] at e
    cases q : ds[i]? with
    | none => rw [q] at e; cases e
    | some a =>
      rw [q] at e
      cases e
      obtain ⟨v, h1, h2⟩ := h.get q
      refine ⟨v, ?_, h2⟩
      unfold L2.start
      rw [List.getElem?_append_left (by simpa [← h.length] using hi), List.getElem?_map, h1]
      rfl
  · rw [List.getElem?_append_right (by simpa using hi), List.getElem?_replicate] at e
    split at e <;> cases e
/-- a def of the text: x, told by F at the level k -/
structure Kn (P : Program) (w : World) (mg : Str → Option Value) (base : Heap) (M : Md) (x : Str) (k n : Nat) (F : FN) : Prop where
  ex : ∃ (f : Addr) (fd : FuncData) (ps : List Str), FnOk P w M.K mg base (L2.CX P w) k f fd ps (spF M n F) ∧ mg x = some (.ref f) ∧ PySem.W.keepIn M.K (.ref f) = true ∧ Binds M.K fd ps []
section
variable {P : Program} {w : World} {mg : Str → Option Value} {base : Heap} {M : Md}
theorem fok_of {x qual : Str} {params : Arguments} {body : List Stmt} {scope : Scope} {f : Addr} {fd : FuncData} {N ps : List Str} {k : Nat} {b : Fst} (F : FunD M.K x qual params body scope [] [] f fd) (S : FnScope N ps scope)
    (hbody : ∀ (cdv : Value) (A : Around) (outer : List Env) (s : Shared) (H : Hp) (E : XK), Room k (A.deeper (envOfC qual scope s.heap.objs.size f cdv)) →
      MSs M (cxOf (L2.CX P w) P w M.K mg base N qual scope f cdv A outer s H E) (WD E) body b) : FnOk P w M.K mg base (L2.CX P w) (k + 1) f fd ps (spF M ps.length (runF N.length b)) := by
  refine F.ok S (fun vs H Q E h => h.1) (fun cdv A outer s H vs Q E hr h => ⟨tS M (WD E) b, hbody cdv A outer s H E hr, ?_⟩)
  obtain ⟨_, g, ds, rfl, rp, hvs, q⟩ := h
  refine tS.go rp (entry_ok hvs) ?_
  unfold runF at q
  split at q
  · rename_i e
    rw [e]
    exact fun g1 e1 k1 r1 σ1 _ => q g1 e1 k1 r1 _ .non
  · rename_i e
    rw [e]
    exact fun g1 e1 k1 r1 v hv => q g1 e1 k1 r1 v hv
  · rename_i e
    rw [e]
    exact fun g1 e1 k1 r1 σ1 _ cls dx hx => q g1 e1 k1 r1 cls dx hx
  · exact q.elim
theorem kn_of {x qual : Str} {params : Arguments} {body : List Stmt} {scope : Scope} {f : Addr} {fd : FuncData} {N ps : List Str} {k : Nat} {b : Fst} (F : FunD M.K x qual params body scope [] [] f fd) (S : FnScope N ps scope) (hm : mg x = some (.ref f)) (hb : Binds M.K fd ps [])
    (hbody : ∀ (cdv : Value) (A : Around) (outer : List Env) (s : Shared) (H : Hp) (E : XK), Room k (A.deeper (envOfC qual scope s.heap.objs.size f cdv)) →
      MSs M (cxOf (L2.CX P w) P w M.K mg base N qual scope f cdv A outer s H E) (WD E) body b) : Kn P w mg base M x (k + 1) ps.length (runF N.length b) :=
  ⟨f, fd, ps, fok_of F S hbody, hm, F.kp, hb⟩
end
section
variable {M : Md} {X : Cx} {W : WX}
def dCall (F : FN) (n : Nat) (a : Fs) : Fe := fun ρ S => (a ρ S).bind fun ds S1 => if ds.length = n then F ds S1 else .stuck
theorem me_call {x : Str} {p pos : Pos} {e : Expr} {es : List Expr} {k j n : Nat} {F : FN} {a : Fs} (hK : X.K = M.K) (tk : Takes X W) (K : Kn X.prog X.w X.mg X.base M x k n F) (hr : Room j X.A) (ha : MA M X W (e :: es) a) (hkj : k ≤ j := by decide) (hg : Gl X x := by rfl) (hdb : (x == ("__debug__" : Str)) = false := by decide)
    (he : starEach (e :: es) X.env = (false, eval e X.env) :: starEach es X.env := by rfl) (hpl : (backTo pos (starEach es X.env)).any (·.1) = false := by rfl) : ME M X W (.Call (.Name x p) (e :: es) [] pos) (dCall F n a) := by
  obtain ⟨f, fd, ps, FK, hm, hkp, hb⟩ := K.ex
  rw [← hK] at FK hkp hb
  refine PE.imp (pe_callS FK (hr.mono hkj) hg hm hkp hb (fun σ => passAt tk σ) ha hdb he hpl) fun σ H Q q => ?_
  obtain ⟨g, ρ, rfl, rp, en, q⟩ := q
  have q := Aft.bind (α := List D) (k := fun ds S1 => if ds.length = n then F ds S1 else .stuck) q
  refine tA.go rp en (q.mono (fun ds g1 k1 r1 q1 vs hvs => ?_) fun _ _ _ _ z => z)
  split at q1
  · rename_i hl
    exact ⟨by rw [← hvs.length]; exact hl, g1, ds, rfl, r1, hvs, q1⟩
  · exact q1.elim
theorem me_call0 {x : Str} {p pos : Pos} {k j : Nat} {F : FN} (hK : X.K = M.K) (tk : Takes X W) (K : Kn X.prog X.w X.mg X.base M x k 0 F) (hr : Room j X.A) (hkj : k ≤ j := by decide) (hg : Gl X x := by rfl) (hdb : (x == ("__debug__" : Str)) = false := by decide) :
    ME M X W (.Call (.Name x p) [] [] pos) (fun _ S => F [] S) := by
  obtain ⟨f, fd, ps, FK, hm, hkp, hb⟩ := K.ex
  rw [← hK] at FK hkp hb
  refine ⟨fun pins s σ H Q I q => ?_⟩
  obtain ⟨g, ρ, rfl, rp, en, q⟩ := q
  refine wpAny_Call_Name_kw (ld_glob I hg hm ?_ hdb)
  exact PySem.W.callWith_K0 I.kIn hkp (run_fnS (us := []) FK (hr.mono hkj) hb (passAt tk σ) I .nil ⟨rfl, g, [], rfl, rp, .nil, q⟩)
end
end MP
set_option Elab.async false
set_option linter.all false
set_option maxRecDepth 100000
set_option maxHeartbeats 4000000
/-! enumerate, zip, reversed slices. -/
namespace MP
open PySem PySem.Spec PyProof.Rows L2

/-! ### enumerate of a tuple, at the library's level -/
theorem meets_enumT (l : Addr) (items : Array Value) (n : Nat) (dct : Option Addr) (sl : Array (Option Value)) :
    Meets (Builtin.«enumerate.__new__» ⟨[.type "enumerate", .ref l], []⟩) (fun _ R s => s.heap.get? l = some { cls := .type "tuple", dict := dct, data := .seq items n, slots := sl } ∧
      R (.ok (.ret (.ref (s.heap.push { cls := .type "tuple_iterator", data := .fields #[.ref l, .int 0 0] }).objs.size)))
        { s with heap := (s.heap.push { cls := .type "tuple_iterator", data := .fields #[.ref l, .int 0 0] }).push { cls := .type "enumerate", data := .fields #[.none, .bool false, .ref s.heap.objs.size, rawInt 0, .none, .none] } }) :=
  .of_wp fun prog w A R s h => by
    obtain ⟨hp, g, d, tk, os⟩ := s; obtain ⟨hl, h⟩ := h
    have hsub := sub_enumerate
    have hL : Heap.IsTuple (Shared.heap ⟨hp, g, d, tk, os⟩) l items := ⟨_, hl, rfl, n, rfl⟩
    wp_walk using AutoSeq1.wpAny_loadPart' hl
    refine wpAny_stack_any fun st => wpAny_pure ?_
    split
    · rename_i c _ _ _ _ _
      cases (c == Value.type "enumerate")
      · wp_walk using AutoSeq1.wpAny_loadPart' hl, wpAny_pyIter_tuple hL
        exact ⟨_, rfl, h⟩
      · wp_walk using AutoSeq1.wpAny_loadPart' hl, wpAny_pyIter_tuple hL
        exact ⟨_, rfl, h⟩
    · wp_walk using AutoSeq1.wpAny_loadPart' hl, wpAny_pyIter_tuple hL
      exact ⟨_, rfl, h⟩
section
variable {prog : Program} {w : World} {A : Around} {E : Value → Shared → Prop} {s : Shared}
theorem call_enumT {l : Addr} {items : Array Value} {Q : Value → Shared → Prop} (hL : s.heap.IsTuple l items)
    (h : ∀ h', IsEnum h' (s.heap.objs.size + 1) s.heap.objs.size 0 .none → h'.IsTupleIter s.heap.objs.size l 0 → h'.objs.size = s.heap.objs.size + 2 →
      (∀ b o, s.heap.get? b = some o → h'.get? b = some o) → Q (.ref (s.heap.objs.size + 1)) { s with heap := h' }) :
    wpAny (model prog w) A (call (.type "enumerate") [.ref l]) Q E s := by
  obtain ⟨⟨c, dct, dt, sl⟩, hl, hc, n, hd⟩ := hL
  replace hc : c = .type "tuple" := hc
  replace hd : dt = .seq items n := hd
  subst hc hd
  refine callType_new F.called_enumerate (by decide) (F.typeCall_enumerate_1 _) (F.newCall_enumerate_1 _) (fun obj => F.args_object_init_2 obj _) F.entry_enumerate_new
    (meets_enumT l items n dct sl) ⟨hl, ?_⟩
  have hz : (s.heap.push { cls := .type "tuple_iterator", data := .fields #[.ref l, .int 0 0] }).objs.size = s.heap.objs.size + 1 := Heap.size_push ..
  show _ ∧ _
  rw [hz]
  have he : IsEnum ((s.heap.push { cls := .type "tuple_iterator", data := .fields #[.ref l, .int 0 0] }).push
      { cls := .type "enumerate", data := .fields #[.none, .bool false, .ref s.heap.objs.size, rawInt 0, .none, .none] }) (s.heap.objs.size + 1) s.heap.objs.size 0 .none := by
    have := Heap.get?_push_size (s.heap.push { cls := .type "tuple_iterator", data := .fields #[.ref l, .int 0 0] })
      (o := { cls := .type "enumerate", data := .fields #[.none, .bool false, .ref s.heap.objs.size, rawInt 0, .none, .none] }) rfl
    rw [hz] at this; exact this
  refine ⟨⟨_, he, rfl⟩, h _ he ⟨_, Heap.get?_push_of_some _ (Heap.get?_push_size _ rfl), rfl, rfl⟩ (by rw [Heap.size_push, hz]) fun b o x => Heap.get?_push_of_some _ (Heap.get?_push_of_some _ x)⟩
end

def ItEt (K : PySem.W.Frag) (a : Addr) : It :=
  ⟨fun i H => ∃ (xs : List V) (x : V), SqT K H a xs ∧ xs[i]? = some x, fun i H v H' => ∃ T x, v = .ref T ∧ H T = none ∧ H' = upd H T (.tup [.int (i : Nat), x]) ∧ ∀ xs, SqT K H a xs → xs[i]? = some x, fun i H => ∃ xs : List V, SqT K H a xs ∧ xs.length ≤ i⟩
theorem turn_enumT {P : Program} {w : World} {K : PySem.W.Frag} {elts : List Expr} {kk : Nat} {tpos : Pos} (a e it : Addr) :
    Turn P w K (.Tuple elts kk tpos) (ItEt K a) [e, it] e (fun i h => (∃ old, IsEnum h e it ((i : Nat) : Int) old) ∧ h.IsTupleIter it a i ∧ e ≠ it ∧ e ≠ a ∧ a ≠ it) where
  mem := by simp
  obj := fun i h st b hb => by
    obtain ⟨⟨old, he⟩, ⟨o, ho, hc, hd⟩, _⟩ := st
    have e' : b = e ∨ b = it := by simpa using hb
    rcases e' with z | z
    · rw [z]; exact ⟨_, he, fun v q => nomatch q⟩
    · rw [z]; exact ⟨o, ho, fun v q => by rw [hd] at q; cases q⟩
  keep := fun i h h' st k => let ⟨⟨old, he⟩, hi, hne⟩ := st; ⟨⟨old, k e (by simp) _ he⟩, hi.at fun o q => k it (by simp) o q, hne⟩
  item := by
    intro X hP hw hK hc i pins s σ H E I hf st hg
    subst hP hw hK
    obtain ⟨⟨old, he⟩, hit, hne, hea, hai⟩ := st
    obtain ⟨xs, x, hq, hx⟩ := hg
    obtain ⟨its, rv, p, hz⟩ := I.tuple hq
    obtain ⟨u, hu, ru⟩ := rv.get hx
    have hel : e < s.heap.objs.size := Heap.lt_size he
    have hil : it < s.heap.objs.size := by obtain ⟨_, q, _⟩ := hit; exact Heap.lt_size q
    have hui : its.toArray[i]? = some u := by simpa using hu
    have hlt : i < its.toArray.size := (Array.getElem?_eq_some_iff.mp hui).1
    refine wpAny_pyNext_enum_itemD (Draws.tuple (prog := X.prog) (w := X.w) (A := X.A.in1) (I.ok.hd hc) it a hai its.toArray) he ⟨hit, show s.heap.IsTuple a its.toArray from p⟩ hlt hne (by simp [hne, hea]) fun u' h' tk hu' ho hit' hT hsz hk => ?_
    have eu : u' = u := by rw [hui] at hu'; cases hu'; rfl
    subst eu
    refine ⟨_, rfl, wpAny_letOwnedTupleGo_enum (s := { s with heap := h', toks := tk + 1 }) ho fun h'' he' sb => ?_⟩
    have hT2 : h''.get? s.heap.objs.size = some { cls := .type "tuple", data := .seq #[.int i tk, u'] } := (sb.2 _ (Nat.ne_of_gt hel)).trans hT
    have new : ObjOk X.prog X.w (upd H s.heap.objs.size (.tup [.int (i : Nat), x])) h'' s.heap.objs.size (.tup [.int (i : Nat), x]) :=
      ⟨by show 2 ≤ sizeLine; decide, [.int i tk, u'], .cons ⟨_, rfl⟩ (.cons ru .nil), ⟨_, hT2, rfl, _, rfl⟩⟩
    have I1 : Inv X pins σ (upd H s.heap.objs.size (.tup [.int (i : Nat), x])) { s with heap := h'', toks := tk + 1 } :=
      I.turnedNew (ch := [e, it]) (fun b ob hb q => (sb.2 b (fun z => hb (by simp [z]))).trans (hk b ob (fun z => hb (by simp [z])) (fun z => hb (by simp [z])) q)) hf (Nat.le_refl _) new
    refine ⟨.ref s.heap.objs.size, _, I1, rfl, ⟨_, x, rfl, I.hok.fresh (Nat.le_refl _), rfl, fun ys hy => by rw [I.tuple_inj hy hq]; exact hx⟩, ⟨⟨u', ?_⟩, hit'.1.at fun o q => (sb.2 it (Ne.symm hne)).trans q, hne, hea, hai⟩, fun b hb => ?_⟩
    · have e1 : ((i + 1 : Nat) : Int) = (i : Int) + 1 := by omega
      rw [e1]; exact he'
    · have hb' : b < s.heap.objs.size := by
        have e' : b = e ∨ b = it := by simpa using hb
        rcases e' with z | z
        · rw [z]; exact hel
        · rw [z]; exact hil
      rw [upd_ne (Nat.ne_of_lt hb')]
      exact (hf b hb).1
  done := by
    intro X hP hw hK hc i pins s σ H E I hf st hg
    subst hP hw hK
    obtain ⟨⟨old, he⟩, hit, hne, hea, hai⟩ := st
    obtain ⟨xs, hq, hx⟩ := hg
    obtain ⟨its, rv, p, hz⟩ := I.tuple hq
    obtain ⟨f0, f1, f2, f3, f4, f5⟩ := hf it (by simp)
    have hl := rv.length
    have hh : X.A.in1.handled = none := I.ok.hd hc
    have D : Draws X.prog X.w X.A.in1 it [it, a] 0 (fun _ _ => True) (fun j h => h.IsTupleIter it a (j + i) ∧ h.IsTuple a its.toArray) :=
      { live := fun _ _ st => let ⟨o, ho, _⟩ := st.1; ⟨o, ho⟩
        frame := fun _ _ _ st hk => ⟨st.1.at fun o e => hk it (by simp) o e, st.2.at fun o e => hk a (by simp) o e⟩
        item := fun j s' Q' E' hj => absurd hj (Nat.not_lt_zero _)
        done := fun s' Q' E' st' hE' => wpAny_nextOf_tuple_end hh st'.1 st'.2 (by simp; omega) hE' }
    exact wpAny_pyNext_enum_endD D he ⟨by rw [Nat.zero_add]; exact hit, show s.heap.IsTuple a its.toArray from p⟩ fun h' eb => ⟨rfl, I.turned (t' := s.toks) (fun b o hb q => eb b o hb q) f0 f1 f3 f4 f5⟩
  self := fun A i s Q E st h => let ⟨⟨_, he⟩, _⟩ := st; wpAny_pyIter_enum he h

def iEnumA (K : PySem.W.Frag) (ta : TA) : TI := fun σ H R => ta σ H fun vs H1 => ∃ a xs, vs = [.ref a] ∧ ((SqL K H1 a xs ∧ R (Ite K a) H1) ∨ (SqT K H1 a xs ∧ R (ItEt K a) H1))
theorem pi_enumA {X : Cx} {e : Expr} {ta : TA} {p pos tpos : Pos} {elts : List Expr} {kk : Nat} (hg : Gl X "enumerate") (hm : X.mg "enumerate" = none) (ha : PA X [e] ta) (hs : starEach [e] X.env = [(false, eval e X.env)] := by rfl) :
    PI X (.Tuple elts kk tpos) (.Call (.Name "enumerate" p) [e] [] pos) (iEnumA X.K ta) := by
  refine ⟨fun pins s σ H R I h => ?_⟩
  refine Call_ (ld_blt I hg hm boot_enumerate (PyProof.Rows.callWith_type1 (thn (ha.run pos pins s σ H _ I h) fun us s1 ⟨vs, H1, I1, r1, q1⟩ => ?_) hs rfl))
  obtain ⟨a, xs, ex, q⟩ := q1
  subst ex
  cases r1 with
  | cons r rr =>
    cases rr
    cases r
    have fp : ∀ b ∈ [s1.heap.objs.size + 1, s1.heap.objs.size], FpOk X pins H1 b := fun b hb => by
      have e' : b = s1.heap.objs.size + 1 ∨ b = s1.heap.objs.size := by simpa using hb
      have hle : s1.heap.objs.size ≤ b := by
        rcases e' with z | z
        · rw [z]; exact Nat.le_add_right _ _
        · rw [z]; exact Nat.le_refl _
      exact I1.fpOk hle (I1.hok.fresh hle)
    rcases q with ⟨hq, q⟩ | ⟨hq, q⟩
    · obtain ⟨its, rv, p', hz⟩ := I1.list hq
      refine call_enumerate_list p'.isList fun h' he hit hsz hk => wpAny_pyIter_enum he ?_
      have I2 : Inv X pins σ H1 { s1 with heap := h' } := I1.kept (t' := s1.toks) hk
      exact ⟨s1.heap.objs.size + 1, [s1.heap.objs.size + 1, s1.heap.objs.size], _, _, H1, rfl, I2, turn_enum a (s1.heap.objs.size + 1) s1.heap.objs.size, ⟨⟨.none, he⟩, hit, Nat.succ_ne_self _⟩, fp, q⟩
    · obtain ⟨its, rv, p', hz⟩ := I1.tuple hq
      obtain ⟨o1, ho1, _⟩ := id p'
      have hal : a < s1.heap.objs.size := Heap.lt_size ho1
      refine call_enumT (show s1.heap.IsTuple a its.toArray from p') fun h' he hit hsz hk => wpAny_pyIter_enum he ?_
      have I2 : Inv X pins σ H1 { s1 with heap := h' } := I1.kept (t' := s1.toks) hk
      exact ⟨s1.heap.objs.size + 1, [s1.heap.objs.size + 1, s1.heap.objs.size], _, _, H1, rfl, I2, turn_enumT a (s1.heap.objs.size + 1) s1.heap.objs.size, ⟨⟨.none, he⟩, hit, Nat.succ_ne_self _, Nat.ne_of_gt (Nat.lt_succ_of_lt hal), Nat.ne_of_lt hal⟩, fp, q⟩

/-! ### as plain data -/
def pairD (x y : D) : D := .tup [x, y]
def enumD (ds : List D) : List D := (List.range ds.length).map fun i => pairD (.int (i : Nat)) (ds[i]?.getD .non)
theorem enumD_len {ds : List D} : (enumD ds).length = ds.length := by unfold enumD; simp
theorem enumD_get {ds : List D} {i : Nat} {d : D} (h : ds[i]? = some d) : (enumD ds)[i]? = some (pairD (.int (i : Nat)) d) := by
  have hi := (List.getElem?_eq_some_iff.mp h).1
  have e := (List.getElem?_eq_some_iff.mp h).2
  unfold enumD
  simp [hi, e]
def zipD (a b : List D) : List D := List.zipWith pairD a b
theorem zipD_get {a b : List D} {i : Nat} {x y : D} (h1 : a[i]? = some x) (h2 : b[i]? = some y) : (zipD a b)[i]? = some (pairD x y) := by
  unfold zipD
  rw [List.getElem?_zipWith, h1, h2]
theorem dv_pair {M : Md} {g : Wd} {x y : D} {v u : V} (r : Rep M g) {p : Addr} (hp : g.H p = none) (hx : DV M g x v) (hy : DV M g y u) : DV M ⟨g.μ, g.S, upd g.H p (.tup [v, u])⟩ (pairD x y) (.ref p) :=
  dv_new r hp (.cons hx (.cons hy .nil))
section
variable {M : Md} {g0 : Wd}
theorem srcOk_enumT {a : Addr} {ds : List D} {xs : List V} (r0 : Rep M g0) (h : SqT M.K g0.H a xs) (hd : DVs M g0 ds xs) : SrcOk M g0 ⟨enumD ds, []⟩ (ItEt M.K a) := by
  refine ⟨fun H => SqT M.K H a xs, fun i H v H' => ∃ T x, v = .ref T ∧ H T = none ∧ H' = upd H T (.tup [.int (i : Nat), x]) ∧ xs[i]? = some x,
    ⟨fun i H hi q => ?_, fun H q => ⟨xs, q, ?_⟩, fun i H x H' hi q y => ?_⟩, rfl, fun g1 r1 k _ => k.tup r0 h, fun i g1 v H' hi r1 k _ y => ?_⟩
  · have hi : i < xs.length := by rw [← hd.length]; simpa [enumD_len] using hi
    exact ⟨xs, xs[i], q, by simp [hi]⟩
  · rw [← hd.length]; simp [enumD_len]
  · obtain ⟨T, z, e1, e2, e3, e4⟩ := y
    exact ⟨T, z, e1, e2, e3, e4 xs q⟩
  · obtain ⟨T, z, rfl, e2, rfl, e4⟩ := y
    obtain ⟨d, h1, h2⟩ := (hd.mono r0 k).getV e4
    exact ⟨_, ⟨g1.μ, g1.S, _⟩, enumD_get h1, rfl, rfl, Gr.laid e2, r1.laid e2, dv_pair r1 e2 (.int _) h2⟩
theorem srcOk_enumF {a : Addr} {ds : List D} {xs : List V} (r0 : Rep M g0) (h : FzL M.K g0.H a xs) (hd : DVs M g0 ds xs) : SrcOk M g0 ⟨enumD ds, []⟩ (Ite M.K a) := by
  refine ⟨fun H => SqL M.K H a xs, fun i H v H' => ∃ T x, v = .ref T ∧ H T = none ∧ H' = upd H T (.tup [.int (i : Nat), x]) ∧ xs[i]? = some x,
    ⟨fun i H hi q => ?_, fun H q => ⟨xs, q, ?_⟩, fun i H x H' hi q y => ?_⟩, rfl, fun g1 r1 k _ => (k.fzl r0 h).sql, fun i g1 v H' hi r1 k _ y => ?_⟩
  · have hi : i < xs.length := by rw [← hd.length]; simpa [enumD_len] using hi
    exact ⟨xs, xs[i], q, by simp [hi]⟩
  · rw [← hd.length]; simp [enumD_len]
  · obtain ⟨T, z, e1, e2, e3, e4⟩ := y
    exact ⟨T, z, e1, e2, e3, e4 xs q⟩
  · obtain ⟨T, z, rfl, e2, rfl, e4⟩ := y
    obtain ⟨d, h1, h2⟩ := (hd.mono r0 k).getV e4
    exact ⟨_, ⟨g1.μ, g1.S, _⟩, enumD_get h1, rfl, rfl, Gr.laid e2, r1.laid e2, dv_pair r1 e2 (.int _) h2⟩
theorem guard_one {n : Nat} {ds its : List D} {S : Sto} (h : S[n]? = some (.lst ds)) : (Src.mk its [(n, ds)]).ok S = true := by
  show (match S[n]? with | some (.lst es) => beqDs es ds | _ => false) && true = true
  rw [h]
  simp [beqDs_refl]
theorem srcOk_enumR {n : Nat} {ds : List D} (r0 : Rep M g0) (h : g0.S[n]? = some (.lst ds)) : SrcOk M g0 ⟨enumD ds, [(n, ds)]⟩ (Ite M.K (g0.μ n)) := by
  have hn : n < g0.S.length := (List.getElem?_eq_some_iff.mp h).1
  refine ⟨fun H => ∃ xs, SqL M.K H (g0.μ n) xs ∧ xs.length = ds.length, fun i H v H' => ∃ T x, v = .ref T ∧ H T = none ∧ H' = upd H T (.tup [.int (i : Nat), x]) ∧ ∀ xs, SqL M.K H (g0.μ n) xs → xs[i]? = some x,
    ⟨fun i H hi q => ?_, fun H q => ?_, fun i H x H' hi q y => y⟩, guard_one h, fun g1 r1 k ok => ?_, fun i g1 v H' hi r1 k ok y => ?_⟩
  · obtain ⟨xs, q, e⟩ := q
    have hi : i < xs.length := by rw [e]; simpa [enumD_len] using hi
    exact ⟨xs, xs[i], q, by simp [hi]⟩
  · obtain ⟨xs, q, e⟩ := q
    exact ⟨xs, q, by rw [e]; simp [enumD_len]⟩
  · obtain ⟨xs, h1, h2⟩ := lst_at r0 r1 k hn (Src.at_ ok (List.mem_singleton.mpr rfl))
    exact ⟨xs, h1, h2.length.symm⟩
  · obtain ⟨T, z, rfl, e2, rfl, e4⟩ := y
    obtain ⟨xs, h1, h2⟩ := lst_at r0 r1 k hn (Src.at_ ok (List.mem_singleton.mpr rfl))
    obtain ⟨d, h3, h4⟩ := h2.getV (e4 xs h1)
    exact ⟨_, ⟨g1.μ, g1.S, _⟩, enumD_get h3, rfl, rfl, Gr.laid e2, r1.laid e2, dv_pair r1 e2 (.int _) h4⟩
end
def enumS : List D → Sto → Rs Src := fun ds S => match ds with
  | [.tup ds] => .ok ⟨enumD ds, []⟩ S
  | [.fl ds] => .ok ⟨enumD ds, []⟩ S
  | [.ref n] => match S[n]? with
    | some (.lst ds) => .ok ⟨enumD ds, [(n, ds)]⟩ S
    | _ => .stuck
  | _ => .stuck
def iEn (f : Fs) : Fi := fun ρ S => (f ρ S).bind enumS
section
variable {M : Md} {X : Cx} {W : WX}
theorem mi_enum (hK : X.K = M.K) {e : Expr} {f : Fs} {p pos tpos : Pos} {elts : List Expr} {kk : Nat} (hm : X.mg "enumerate" = none) (ha : MA M X W [e] f) (hg : Gl X "enumerate" := by rfl) (hs : starEach [e] X.env = [(false, eval e X.env)] := by rfl) :
    MI M X W (.Tuple elts kk tpos) (.Call (.Name "enumerate" p) [e] [] pos) (iEn f) := PI.imp (pi_enumA hg hm ha hs) fun σ H R q => by
  obtain ⟨g, ρ, rfl, rp, en, q⟩ := q
  have q := Aft.bind (k := enumS) q
  refine tA.go rp en (q.mono (fun ds g1 k1 r1 q1 vs hvs => ?_) fun _ _ _ _ z => z)
  rw [hK]
  unfold enumS at q1
  split at q1
  · obtain ⟨v, rfl, hv⟩ := hvs.one
    obtain ⟨a, xs, rfl, h1, h2⟩ := hv.tupI
    exact ⟨_, xs, rfl, .inr ⟨h1, Aft.here r1 q1 _ (srcOk_enumT r1 h1 h2)⟩⟩
  · obtain ⟨v, rfl, hv⟩ := hvs.one
    cases hv with
    | fl h1 h2 => exact ⟨_, _, rfl, .inl ⟨h1.sql, Aft.here r1 q1 _ (srcOk_enumF r1 h1 h2)⟩⟩
  · split at q1
    · rename_i n ds hk
      obtain ⟨v, rfl, hv⟩ := hvs.one
      obtain ⟨rfl, _⟩ := hv.refI
      obtain ⟨xs, hx, hxs⟩ := r1.lst hk
      exact ⟨_, xs, rfl, .inl ⟨.inl (.inl hx), Aft.here r1 q1 _ (srcOk_enumR r1 hk)⟩⟩
    · exact q1.elim
  · exact q1.elim

/-! ### zip -/
def gdOk (gd : List (Nat × List D)) (S : Sto) : Bool := (Src.mk [] gd).ok S
theorem gdOk_app {a b : List (Nat × List D)} {S : Sto} {its : List D} : (Src.mk its (a ++ b)).ok S = (gdOk a S && gdOk b S) := by
  unfold gdOk Src.ok
  simp only [List.all_append]
def lstG : D → Sto → Option (List D × List (Nat × List D)) := fun d S => match d with
  | .fl ds => some (ds, [])
  | .ref n => match S[n]? with
    | some (.lst ds) => some (ds, [(n, ds)])
    | _ => none
  | _ => none
theorem lstG_v {g0 : Wd} {d : D} {v : V} {ds : List D} {gd : List (Nat × List D)} (r0 : Rep M g0) (h : DV M g0 d v) (e : lstG d g0.S = some (ds, gd)) :
    ∃ a xs, v = .ref a ∧ SqL M.K g0.H a xs ∧ gdOk gd g0.S = true ∧ ∀ g1, Rep M g1 → Gr g0 g1 → gdOk gd g1.S = true → ∃ xs, SqL M.K g1.H a xs ∧ DVs M g1 ds xs := by
  unfold lstG at e
  split at e
  · cases e
    cases h with
    | fl h1 h2 => exact ⟨_, _, rfl, h1.sql, rfl, fun g1 r1 k _ => ⟨_, (k.fzl r0 h1).sql, h2.mono r0 k⟩⟩
  · split at e
    · rename_i n es hk
      cases e
      obtain ⟨rfl, hn⟩ := h.refI
      obtain ⟨xs, hx, hxs⟩ := r0.lst hk
      exact ⟨_, xs, rfl, .inl (.inl hx), guard_one hk, fun g1 r1 k ok => lst_at r0 r1 k hn (Src.at_ ok (List.mem_singleton.mpr rfl))⟩
    · cases e
  · cases e
def zipS : List D → Sto → Rs Src := fun ds S => match ds with
  | [.tup a, .tup b] => .ok ⟨zipD a b, []⟩ S
  | [x, y] => match lstG x S, lstG y S with
    | some (a, ga), some (b, gb) => .ok ⟨zipD a b, ga ++ gb⟩ S
    | _, _ => .stuck
  | _ => .stuck
def iZp (f : Fs) : Fi := fun ρ S => (f ρ S).bind zipS
theorem srcOk_zipT {g0 : Wd} {a b : Addr} {ds es : List D} {xs ys : List V} (r0 : Rep M g0) (h : SqT M.K g0.H a xs) (hd : DVs M g0 ds xs) (h' : SqT M.K g0.H b ys) (hd' : DVs M g0 es ys) : SrcOk M g0 ⟨zipD ds es, []⟩ (RZ.ItzT M.K a b) := by
  have hl : (zipD ds es).length = min xs.length ys.length := by unfold zipD; simp [hd.length, hd'.length]
  refine ⟨fun H => SqT M.K H a xs ∧ SqT M.K H b ys, fun i H v H' => ∃ T x y, v = .ref T ∧ H T = none ∧ H' = upd H T (.tup [x, y]) ∧ xs[i]? = some x ∧ ys[i]? = some y,
    ⟨fun i H hi q => ?_, fun H q => ⟨xs, ys, q.1, q.2, ?_⟩, fun i H x H' hi q y => ?_⟩, rfl, fun g1 r1 k _ => ⟨k.tup r0 h, k.tup r0 h'⟩, fun i g1 v H' hi r1 k _ y => ?_⟩
  · have hi : i < (zipD ds es).length := hi
    rw [hl] at hi
    have h1 : i < xs.length := by omega
    have h2 : i < ys.length := by omega
    exact ⟨xs, ys, xs[i], ys[i], q.1, q.2, by simp [h1], by simp [h2]⟩
  · show xs.length ≤ (zipD ds es).length ∨ ys.length ≤ (zipD ds es).length
    omega
  · obtain ⟨T, z, z', e1, e2, e3, e4, e5⟩ := y
    exact ⟨T, z, z', e1, e2, e3, e4 xs q.1, e5 ys q.2⟩
  · obtain ⟨T, z, z', rfl, e2, rfl, e4, e5⟩ := y
    obtain ⟨d, h1, h2⟩ := (hd.mono r0 k).getV e4
    obtain ⟨d', h1', h2'⟩ := (hd'.mono r0 k).getV e5
    exact ⟨_, ⟨g1.μ, g1.S, _⟩, zipD_get h1 h1', rfl, rfl, Gr.laid e2, r1.laid e2, dv_pair r1 e2 h2 h2'⟩
theorem srcOk_zipL {g0 : Wd} {a b : Addr} {ds es : List D} {ga gb : List (Nat × List D)} (r0 : Rep M g0) (oa : gdOk ga g0.S = true) (ob : gdOk gb g0.S = true)
    (ha : ∀ g1, Rep M g1 → Gr g0 g1 → gdOk ga g1.S = true → ∃ xs, SqL M.K g1.H a xs ∧ DVs M g1 ds xs) (hb : ∀ g1, Rep M g1 → Gr g0 g1 → gdOk gb g1.S = true → ∃ xs, SqL M.K g1.H b xs ∧ DVs M g1 es xs) :
    SrcOk M g0 ⟨zipD ds es, ga ++ gb⟩ (Itz M.K a b) := by
  have hl : (zipD ds es).length = min ds.length es.length := by unfold zipD; simp
  refine ⟨fun H => (∃ xs, SqL M.K H a xs ∧ xs.length = ds.length) ∧ ∃ ys, SqL M.K H b ys ∧ ys.length = es.length,
    fun i H v H' => ∃ T x y, v = .ref T ∧ H T = none ∧ H' = upd H T (.tup [x, y]) ∧ (∀ xs, SqL M.K H a xs → xs[i]? = some x) ∧ ∀ ys, SqL M.K H b ys → ys[i]? = some y,
    ⟨fun i H hi q => ?_, fun H q => ?_, fun i H x H' hi q y => y⟩, by rw [gdOk_app, oa, ob]; rfl, fun g1 r1 k ok => ?_, fun i g1 v H' hi r1 k ok y => ?_⟩
  · obtain ⟨⟨xs, q1, e1⟩, ys, q2, e2⟩ := q
    have hi : i < (zipD ds es).length := hi
    rw [hl] at hi
    have h1 : i < xs.length := by omega
    have h2 : i < ys.length := by omega
    exact ⟨xs, ys, xs[i], ys[i], q1, q2, by simp [h1], by simp [h2]⟩
  · obtain ⟨⟨xs, q1, e1⟩, ys, q2, e2⟩ := q
    refine ⟨xs, ys, q1, q2, ?_⟩
    show xs.length ≤ (zipD ds es).length ∨ ys.length ≤ (zipD ds es).length
    omega
  · rw [gdOk_app, Bool.and_eq_true] at ok
    obtain ⟨xs, h1, h2⟩ := ha g1 r1 k ok.1
    obtain ⟨ys, h3, h4⟩ := hb g1 r1 k ok.2
    exact ⟨⟨xs, h1, h2.length.symm⟩, ys, h3, h4.length.symm⟩
  · obtain ⟨T, z, z', rfl, e2, rfl, e4, e5⟩ := y
    rw [gdOk_app, Bool.and_eq_true] at ok
    obtain ⟨xs, h1, h2⟩ := ha g1 r1 k ok.1
    obtain ⟨ys, h3, h4⟩ := hb g1 r1 k ok.2
    obtain ⟨d, h5, h6⟩ := h2.getV (e4 xs h1)
    obtain ⟨d', h5', h6'⟩ := h4.getV (e5 ys h3)
    exact ⟨_, ⟨g1.μ, g1.S, _⟩, zipD_get h5 h5', rfl, rfl, Gr.laid e2, r1.laid e2, dv_pair r1 e2 h6 h6'⟩
theorem mi_zip (hK : X.K = M.K) {e e2 : Expr} {f : Fs} {p pos tpos : Pos} {elts : List Expr} {kk : Nat} (hm : X.mg "zip" = none) (ha : MA M X W [e, e2] f) (hg : Gl X "zip" := by rfl)
    (hs : starEach [e, e2] X.env = (false, eval e X.env) :: starEach [e2] X.env := by rfl) (hpl : (backTo pos (starEach [e2] X.env)).any (·.1) = false := by rfl) :
    MI M X W (.Tuple elts kk tpos) (.Call (.Name "zip" p) [e, e2] [] pos) (iZp f) := PI.imp (RZ.pi_zipA hg hm ha hs hpl) fun σ H R q => by
  obtain ⟨g, ρ, rfl, rp, en, q⟩ := q
  have q := Aft.bind (k := zipS) q
  refine tA.go rp en (q.mono (fun ds g1 k1 r1 q1 vs hvs => ?_) fun _ _ _ _ z => z)
  rw [hK]
  unfold zipS at q1
  split at q1
  · obtain ⟨v, u, rfl, hv, hu⟩ := hvs.two
    obtain ⟨a, xs, rfl, h1, h2⟩ := hv.tupI
    obtain ⟨b, ys, rfl, h3, h4⟩ := hu.tupI
    exact ⟨_, _, xs, ys, rfl, .inr ⟨h1, h3, Aft.here r1 q1 _ (srcOk_zipT r1 h1 h2 h3 h4)⟩⟩
  · split at q1
    · rename_i ea eb
      obtain ⟨v, u, rfl, hv, hu⟩ := hvs.two
      obtain ⟨a, xs, rfl, h1, h2, h3⟩ := lstG_v r1 hv ea
      obtain ⟨b, ys, rfl, h4, h5, h6⟩ := lstG_v r1 hu eb
      exact ⟨_, _, xs, ys, rfl, .inl ⟨h1, h4, Aft.here r1 q1 _ (srcOk_zipL r1 h2 h5 h3 h6)⟩⟩
    · exact q1.elim
  · exact q1.elim
end

/-! ### xs[::-1] -/
section
variable {prog : Program} {w : World} {A : Around} {E : Value → Shared → Prop} {s : Shared}
theorem rev_places (n : Nat) : Builtin.Slice.slicePlaces ((n : Int) - 1) (-1) (-1) = n := by
  unfold Builtin.Slice.slicePlaces
  rw [if_neg (by decide)]
  split <;> simp <;> omega
theorem rev_pick (xs : Array Value) : ((List.range xs.size).filterMap fun (k : Nat) => xs[(((xs.size : Int) - 1) + (k : Int) * -1).toNat]?).toArray = xs.toList.reverse.toArray := by
  congr 1
  apply List.ext_getElem?
  intro i
  have e : (List.range xs.size).filterMap (fun (k : Nat) => xs[(((xs.size : Int) - 1) + (k : Int) * -1).toNat]?) = (List.range xs.size).map fun k => xs.toList.reverse[k]?.getD .none := by
    have gen : ∀ (l : List Nat), (∀ k ∈ l, k < xs.size) → l.filterMap (fun (k : Nat) => xs[(((xs.size : Int) - 1) + (k : Int) * -1).toNat]?) = l.map fun k => xs.toList.reverse[k]?.getD .none := by
      intro l
      induction l with
      | nil => intro _; rfl
      | cons k l ih =>
        intro hl
        have hk : k < xs.size := hl k (List.mem_cons_self ..)
        have e1 : (((xs.size : Int) - 1) + (k : Int) * -1).toNat = xs.size - 1 - k := by omega
        have h1 : xs.size - 1 - k < xs.size := by omega
        have h2 : k < xs.toList.reverse.length := by simpa using hk
        rw [List.filterMap_cons, e1, Array.getElem?_eq_getElem h1, ih fun j hj => hl j (List.mem_cons_of_mem _ hj), List.map_cons, List.getElem?_eq_getElem h2]
        simp
    exact gen _ fun k hk => List.mem_range.mp hk
  rw [e]
  by_cases hi : i < xs.size
  · have h2 : i < xs.toList.reverse.length := by simpa using hi
    rw [List.getElem?_map, List.getElem?_range hi, List.getElem?_eq_getElem h2]
    simp [hi]
  · rw [List.getElem?_eq_none (by simp; omega), List.getElem?_eq_none (by simp; omega)]
theorem getItem_tuple_rev {t sl : Addr} {items : Array Value} {vs : Value} {Q : Value → Shared → Prop} (ht : IsTup s.heap t items) (hs : s.heap.IsSliceOf sl .none .none vs) (ps : IsPart vs (some (-1)))
    (h : Q (.ref s.heap.objs.size) { s with heap := s.heap.push { cls := .type "tuple", data := .seq items.toList.reverse.toArray } })
    (hsz : items.size ≤ sizeLine) : wpAny (model prog w) A (getItem (.ref t) (.ref sl)) Q E s := by
  have htake : sizeOk (.seq items.toList.reverse.toArray) := by
    show items.toList.reverse.toArray.size ≤ sizeLine
    simpa using hsz
  obtain ⟨os, hos, hcs, hds⟩ := id hs
  have hTs : s.TypeIs (.ref sl) "slice" := ⟨os, hos, hcs⟩
  unfold getItem
  try with_reducible refine wpAny_holding ?_
  first | refine wpAny_bind (wpAny_pure ?_) | skip
  refine wpAny_bind (wpAny_sequenceKey ht.typeIs (by decide) ?_)
  refine wpAny_bind (wpAny_callSpecial?_slot (name := Str.ofString "__getitem__") ht.typeIs PyProof.Rows.slot_tuple_getitem
    (wpAny_call_entry PyProof.Rows.slot_tuple_getitem ht.typeIs entry_tuple_getitem ?_ (args_tuple_getitem _ _)))
  show wpAny _ _ (Builtin.Tuple.tupleItemsOf (.ref t) >>= _) _ _ s
  refine wpAny_bind (PyProof.Rows.tupleItemsOf_ ht ?_)
  refine wpAny_bind (wpAny_typeOf hTs ?_)
  rw [if_pos (by decide)]
  refine wpAny_bind (m := Builtin.Slice.sliceApplied _ _) ?_
  · unfold Builtin.Slice.sliceApplied Builtin.Slice.sliceFields
    refine wpAny_bind (wpAny_bind (wpAny_field hos hds (x := .none) rfl (wpAny_bind (wpAny_field hos hds (x := .none) rfl (wpAny_bind (wpAny_field hos hds (x := vs) rfl (wpAny_pure ?_)))))))
    refine wpAny_bind (HT.slicePart_ ps ?_)
    show wpAny _ _ (if ((-1 : Int) == 0) = true then _ else _) _ _ s
    rw [if_neg (by decide)]
    refine wpAny_bind (HT.slicePart_ .none (wpAny_bind (HT.slicePart_ .none (wpAny_bind (wpAny_pure ?_)))))
    show wpAny _ _ (pure (((items.size : Int) - 1), (-1 : Int), Builtin.Slice.slicePlaces ((items.size : Int) - 1) (-1) (-1))) _ _ s
    rw [rev_places]
    refine wpAny_pure ?_
    have hno : ¬ ((((items.size : Int) - 1) == 0 && (-1 : Int) == 1 && items.size == items.size) = true) := by
      intro q
      rw [Bool.and_eq_true, Bool.and_eq_true] at q
      exact absurd q.1.2 (by decide)
    show wpAny _ _ (if (((items.size : Int) - 1) == 0 && (-1 : Int) == 1 && items.size == items.size) = true then _ else _) _ _ s
    rw [if_neg hno, rev_pick]
    first
      | exact wpAny_bind (m := Builtin.Tuple.tupleExact _) (wpAny_newObj_type (wpAny_pure ⟨_, rfl, wpAny_pure h⟩) htake)
      | exact wpAny_bind (m := Builtin.Tuple.tupleExact _) (wpAny_newObj_type (wpAny_bind (wpAny_pure (wpAny_pure ⟨_, rfl, wpAny_pure h⟩))) htake)
      | exact wpAny_bind (wpAny_bind (m := Builtin.Tuple.tupleExact _) (wpAny_newObj_type (wpAny_pure (wpAny_pure ⟨_, rfl, wpAny_pure h⟩)) htake))
      | exact wpAny_bind (wpAny_bind (m := Builtin.Tuple.tupleExact _) (wpAny_newObj_type (wpAny_pure ⟨_, rfl, wpAny_pure h⟩) htake))
end
def tRevA (K : PySem.W.Frag) (te : TE) : TE := fun σ H Q => te σ H fun x H1 => ∃ a xs, x = .ref a ∧ ((SqL K H1 a xs ∧ ∀ p, H1 p = none → Q (.ref p) (upd H1 p (.lst xs.reverse))) ∨ (SqT K H1 a xs ∧ ∀ p, H1 p = none → Q (.ref p) (upd H1 p (.tup xs.reverse))))
theorem pe_revA {X : Cx} {e : Expr} {te : TE} {k : Nat} {p1 p2 p3 pos : Pos} (he : PE X e te) : PE X (.Subscript e (.Slice none none (some (.UnaryOp .USub (.Constant (.int 1) k p1) p2)) p3) pos) (tRevA X.K te) := by
  refine ⟨fun pins s σ H Q I h => ?_⟩
  refine Subscript_ (thn (he.run pins s σ H _ I h) fun v s1 ⟨x, H1, I1, r1, q1⟩ => ?_)
  obtain ⟨a, xs, ex, q⟩ := q1
  subst ex
  cases r1
  have hst : PO X (some (.UnaryOp .USub (.Constant (.int 1) k p1) p2)) (tPart (tUn (rU fun i => .int (-i)) (tC (.int 1)))) := po_some (pe_un un_neg pe_int)
  refine wpAny_Slice (thn (po_none.run pins s1 σ H1 (fun o H2 => o = none ∧ H2 = H1) I1 ⟨rfl, rfl⟩) fun vl s2 ⟨l, H2, I2, pl, el, e2⟩ => ?_)
  subst el e2
  refine thn (po_none.run pins s2 σ H2 (fun o H3 => o = none ∧ H3 = H2) I2 ⟨rfl, rfl⟩) fun vu s3 ⟨u, H3, I3, pu, eu, e3⟩ => ?_
  subst eu e3
  refine thn (hst.run pins s3 σ H3 (fun o H4 => o = some (-1) ∧ H4 = H3) I3 ⟨1, rfl, -1, rfl, rfl, rfl⟩) fun vs s4 ⟨o, H4, I4, ps, eo, e4⟩ => ?_
  subst eo e4
  have I5 : Inv X pins σ H4 { s4 with heap := s4.heap.push { cls := .type "slice", data := .fields #[vl, vu, vs] } } := I4.kept (t' := s4.toks) fun b ob q => Heap.get?_push_of_some _ q
  show wpAny (model X.prog X.w) X.A (subscriptTail e (.Slice none none (some (.UnaryOp .USub (.Constant (.int 1) k p1) p2)) p3) (.ref a) (.ref s4.heap.objs.size)) (EP X pins σ Q) X.xe { s4 with heap := s4.heap.push { cls := .type "slice", data := .fields #[vl, vu, vs] } }
  rcases q with ⟨hx, q⟩ | ⟨hx, q⟩
  · obtain ⟨its, r, ht, hz⟩ := I5.list hx
    have hlen := r.length
    refine tail_any (ops := [.ref a, .ref s4.heap.objs.size]) ht.isList.typeIs (PySem.slot_list_getitem.lookup) ?_ (by with_unfolding_all rfl)
    refine wpAny_getItem_list_slice ht.isList (Heap.IsSliceOf.new _ vl vu vs) pl pu ps (by decide) ?_ (by rw [List.size_toArray]; omega)
    rw [PySem.W.krv_pick]
    refine ⟨.ref _, _, I5.laid (t' := s4.toks) (o := .lst xs.reverse) (fun b ob q => Heap.get?_push_of_some _ q) (Nat.le_refl _) ?_, rfl, q _ (I5.hok.fresh (Nat.le_refl _))⟩
    exact ⟨by rw [List.length_reverse]; exact hz, _, 0, r.reverse, Heap.get?_push_size _ rfl⟩
  · obtain ⟨its, r, ht, hz⟩ := I5.tuple hx
    have hlen := r.length
    cases pl
    cases pu
    refine tail_any (ops := [.ref a, .ref s4.heap.objs.size]) ht.typeIs (PyProof.Rows.slot_tuple_getitem.lookup) ?_ (by with_unfolding_all rfl)
    refine getItem_tuple_rev ht (Heap.IsSliceOf.new _ .none .none vs) ps ?_ (by rw [List.size_toArray]; omega)
    refine ⟨.ref _, _, I5.laid (t' := s4.toks) (o := .tup xs.reverse) (fun b ob q => Heap.get?_push_of_some _ q) (Nat.le_refl _) ?_, rfl, q _ (I5.hok.fresh (Nat.le_refl _))⟩
    exact ⟨by rw [List.length_reverse]; exact hz, _, r.reverse, IsTup.new _ _⟩
def revD : D → Sto → Rs D := fun d S => match d with
  | .tup ds => .ok (.tup ds.reverse) S
  | d => match lstD d S with
    | some ds => .ok (.ref S.length) (S ++ [.lst ds.reverse])
    | none => .stuck
def dRev (f : Fe) : Fe := fun ρ S => (f ρ S).bind revD
theorem me_rev {M : Md} {X : Cx} {W : WX} (hK : X.K = M.K) {e : Expr} {f : Fe} {k : Nat} {p1 p2 p3 pos : Pos} (he : ME M X W e f) : ME M X W (.Subscript e (.Slice none none (some (.UnaryOp .USub (.Constant (.int 1) k p1) p2)) p3) pos) (dRev f) := PE.imp (pe_revA he) fun σ H Q q => by
  obtain ⟨g, ρ, rfl, rp, en, q⟩ := q
  have q := Aft.bind (k := revD) q
  refine tE.go rp en (q.mono (fun d g1 k1 r1 q1 v hv => ?_) fun _ _ _ _ z => z)
  rw [hK]
  unfold revD at q1
  split at q1
  · obtain ⟨a, xs, rfl, h1, h2⟩ := hv.tupI
    exact ⟨a, xs, rfl, .inr ⟨h1, fun p hp => new_tup r1 q1 hp _ (dv_new r1 hp h2.reverse)⟩⟩
  · split at q1
    · rename_i ds hd
      obtain ⟨a, xs, rfl, h1, h2⟩ := lstD_v r1 hv hd
      exact ⟨a, xs, rfl, .inl ⟨h1, fun p hp => new_lst r1 q1 hp h2.reverse _ .newRef⟩⟩
    · exact q1.elim
end MP
set_option Elab.async false
set_option linter.all false
set_option maxRecDepth 100000
set_option maxHeartbeats 4000000
/-! Constants of the module, updates, the end. -/
namespace MP
open PySem PySem.Spec PyProof.Rows L2

theorem _root_.L2.Room.u65 {k : Nat} {A : Around} (r : Room k A) : A.units + 65 < cLine := by have := r.un; omega

/-! ### constants -/
def dvName : D → Value → Bool := fun _ _ => true
mutual
/-- u, as it stands among the module's objects, is the plain value d -/
def dvK (K : PySem.W.Frag) : D → Value → Bool
  | .non, .none => true
  | .bl b, .bool c => b == c
  | .int i, .int j _ => decide (i = j)
  | .str x, .str y _ => decide (x = y)
  | .tup ds, .ref a => match K.lookup a with
    | some ⟨.type c, _, .seq its _, _⟩ => decide (c = "tuple") && (decide (its.size ≤ sizeLine) && dvKs K ds its.toList)
    | _ => false
  | .fl ds, .ref a => match K.lookup a with
    | some ⟨.type c, none, .seq its _, _⟩ => decide (c = "list") && (decide (its.size ≤ sizeLine) && dvKs K ds its.toList)
    | _ => false
  | _, _ => false
def dvKs (K : PySem.W.Frag) : List D → List Value → Bool
  | [], [] => true
  | d :: ds, u :: us => dvK K d u && dvKs K ds us
  | _, _ => false
end
mutual
theorem dvK_ok {M : Md} : ∀ {d : D} {u : Value}, dvK M.K d u = true → ∃ v, RelV v u ∧ ∀ g, DV M g d v
  | .non, u, h => by
    cases u <;> simp [dvK] at h
    exact ⟨.non, rfl, fun _ => .non⟩
  | .bl b, u, h => by
    cases u <;> simp [dvK] at h
    subst h
    exact ⟨.bl b, rfl, fun _ => .bl _⟩
  | .int i, u, h => by
    cases u <;> simp [dvK] at h
    subst h
    exact ⟨.int i, ⟨_, rfl⟩, fun _ => .int _⟩
  | .str i, u, h => by
    cases u <;> simp [dvK] at h
    subst h
    exact ⟨.str i, ⟨_, rfl⟩, fun _ => .str _⟩
  | .ref i, u, h => by cases u <;> simp [dvK] at h
  | .fn i, u, h => by cases u <;> simp [dvK] at h
  | .tup ds, u, h => by
    cases u with
    | ref a =>
      unfold dvK at h
      split at h
      · rename_i c od its n sl e
        simp only [Bool.and_eq_true, decide_eq_true_eq] at h
        obtain ⟨h1, h2, h3⟩ := h
        obtain ⟨vs, h4, h5⟩ := dvKs_ok h3
        subst h1
        exact ⟨.ref a, rfl, fun g => .tup (.inr ⟨_, its, n, e, rfl, rfl, h2, h4⟩) (h5 g)⟩
      · cases h
    | _ => simp [dvK] at h
  | .fl ds, u, h => by
    cases u with
    | ref a =>
      unfold dvK at h
      split at h
      · rename_i c its n sl e
        simp only [Bool.and_eq_true, decide_eq_true_eq] at h
        obtain ⟨h1, h2, h3⟩ := h
        obtain ⟨vs, h4, h5⟩ := dvKs_ok h3
        subst h1
        exact ⟨.ref a, rfl, fun g => .fl (.inr ⟨_, its, n, e, rfl, rfl, rfl, h2, h4⟩) (h5 g)⟩
      · cases h
    | _ => simp [dvK] at h
theorem dvKs_ok {M : Md} : ∀ {ds : List D} {us : List Value}, dvKs M.K ds us = true → ∃ vs, Vals vs us ∧ ∀ g, DVs M g ds vs
  | [], us, h => by
    cases us with
    | nil => exact ⟨[], .nil, fun _ => .nil⟩
    | cons _ _ => simp [dvKs] at h
  | d :: ds, us, h => by
    cases us with
    | nil => simp [dvKs] at h
    | cons u us =>
      have h := Bool.and_eq_true_iff.mp (show (dvK M.K d u && dvKs M.K ds us) = true by simpa [dvKs] using h)
      obtain ⟨v, h1, h2⟩ := dvK_ok h.1
      obtain ⟨vs, h3, h4⟩ := dvKs_ok h.2
      exact ⟨v :: vs, .cons h1 h3, fun g => .cons (h2 g) (h4 g)⟩
end
/-- the module's name x stands for the plain value d -/
def KonG (M : Md) (mg : Str → Option Value) (x : Str) (d : D) : Prop := ∃ u v, mg x = some u ∧ RelV v u ∧ ∀ g, DV M g d v
theorem me_con {M : Md} {X : Cx} {W : WX} {x : Str} {d : D} {pos : Pos} (h : KonG M X.mg x d) (hg : Gl X x) (hdb : (x == ("__debug__" : Str)) = false := by decide) : ME M X W (.Name x pos) (dC d) := by
  obtain ⟨u, v, h1, h2, h3⟩ := h
  exact me_glob hg h1 h2 h3 hdb
/-- what the head looks at: constants, built-in functions by the module's names -/
def konB (K : PySem.W.Frag) (x : Str) (d : D) : Bool := match PySem.W.nsIn K mainGlobals x with
  | some (some u) => dvK K d u
  | _ => false
theorem konB_ok {M : Md} {h : Heap} {mg : Str → Option Value} (KX : M.K.In h) (G : h.Ns mainGlobals mg) {x : Str} {d : D} (c : konB M.K x d = true) : KonG M mg x d := by
  unfold konB at c
  split at c
  · rename_i u e
    obtain ⟨v, h1, h2⟩ := dvK_ok c
    exact ⟨u, v, PySem.W.mg_of KX G e, h1, h2⟩
  · cases c
def bltB (K : PySem.W.Frag) (x : Str) (id : String) : Bool := He.eqO (PySem.W.nsIn K mainGlobals x) (some (some (.builtin id)))
theorem bltB_ok {K : PySem.W.Frag} {h : Heap} {mg : Str → Option Value} (KX : K.In h) (G : h.Ns mainGlobals mg) {x : Str} {id : String} (c : bltB K x id = true) : mg x = some (.builtin id) := PySem.W.mg_of KX G (He.eqO_ok c)

/-! ### x op= e -/
def dIAdd : F2 := fun x y S => match x, y with
  | .int i, .int j => .ok (.int (i + j)) S
  | .str i, .str j => if i.length + j.length ≤ sizeLine then .ok (.str (i ++ j)) S else .stuck
  | _, _ => .stuck
abbrev rIAdd : R2 := fun x y H Q => rI0 (fun i j => .int (i + j)) x y H Q ∨ ∃ i j, x = .str i ∧ y = .str j ∧ i.length + j.length ≤ sizeLine ∧ Q (.str (i ++ j)) H
theorem iop_addD {X : Cx} : OpR X (inplaceOp .Add) rIAdd := iop_add.or iop_add_str
theorem o2_iadd {M : Md} : Op2 M rIAdd dIAdd := by
  intro g x y v u Q E r hx hy h
  unfold dIAdd at h
  split at h
  · rw [hx.intI, hy.intI]
    exact .inl ⟨_, _, rfl, rfl, h.here r _ (.int _)⟩
  · split at h
    · rename_i hz
      rw [hx.strI, hy.strI]
      exact .inr ⟨_, _, rfl, rfl, hz, h.here r _ (.str _)⟩
    · exact h.elim
  · exact h.elim
def dIMul : F2 := fun x y S => match x, y with
  | .int i, .int j => if szMul i j = true then .ok (.int (i * j)) S else .stuck
  | _, _ => .stuck
theorem iop_mulD {X : Cx} : OpR X (inplaceOp .Mult) (rI (fun i j => szMul i j = true) fun i j => .int (i * j)) := opI fun _ _ _ _ _ _ _ hc q => imul_int q (szMul.ok hc)
theorem o2_imul {M : Md} : Op2 M (rI (fun i j => szMul i j = true) fun i j => .int (i * j)) dIMul := by
  intro g x y v u Q E r hx hy h
  unfold dIMul at h
  split at h
  · split at h
    · rename_i hz
      rw [hx.intI, hy.intI]
      exact ⟨_, _, rfl, rfl, hz, h.here r _ (.int _)⟩
    · exact h.elim
  · exact h.elim

/-! ### the law's end -/
/-- the law's list, as told by walk's end: a list of ints, nothing else tracked -/
def law_D (ns : List Int) : D := .fl (ns.map D.int)
end MP
set_option Elab.async false
set_option linter.all false
set_option maxRecDepth 100000
set_option maxHeartbeats 4000000
/-! The law's end over a head by facts. -/
namespace MP
open PySem PySem.Spec PyProof.Rows L2

theorem walk_ofW {l : PySem.W.OpenLaw} {n k : Nat} {q : Program} {loose : List Str} {XP : (Str → Option Value) → Heap → Prop} {YP : World → Heap → Prop} {d : DefRec} {x : Str}
    (hn : l.most = some n) (hn2 : n ≤ sizeLine) (hdf : d.params.defaults = []) (hr : Room k callerA)
    (F : ∀ (w : World) (mg : Str → Option Value) (fa : Addr) (h : Heap), YP w h → h.Ns mainGlobals mg → mg d.name = some (.ref fa) →
      ∃ (K : PySem.W.Frag) (fd : FuncData) (sp : Sp), K.In h ∧ (∀ (s : Shared) (u : Value), BindsTo s fd ⟨[u], []⟩ [(x, u)]) ∧
        (∀ (H : Hp) (a : Addr) (ns : List Int), ns.length ≤ n → Only H → SqL K H a (ns.map V.int) → sp [.ref a] H (fun v _ => v = .bl true) fun _ _ _ => False) ∧
        ∀ base : Heap, K.In base → base.Ns mainGlobals mg → FnOk l.prog w K mg base (L2.CX l.prog w) k fa fd [x] sp) :
    PySem.W.WalkO q loose XP YP l.row.toRowW d [] (fun f vs => PySem.call f vs) := by
  refine Att.attach_call hn hdf fun w s₀ s₁ mg mb fa o pm cd doc a vs ns G Y ho hd hcd hmg hobj hints hlen hg => ?_
  obtain ⟨K, fd, sp, KX, hb, hsp, hF⟩ := F w mg fa _ Y G.T.g hmg
  exact law_call KX G.T.g G.T.b G.T.builtins G.T.nolimit hg hobj hints (Nat.le_trans hlen hn2) hr hF hb (fun H hO hS => hsp H a ns hlen hO hS) fun H e s' z => by
    obtain ⟨_, _, _, _, _, _, _, _, _, _, _, _, h⟩ := z
    exact h
theorem ints_dvs {M : Md} {g : Wd} : ∀ ns : List Int, DVs M g (ns.map D.int) (ns.map V.int)
  | [] => .nil
  | n :: ns => .cons (.int n) (ints_dvs ns)
theorem law_spT {M : Md} {F : FN} {H : Hp} {a : Addr} {ns : List Int} {S : Sto} (hF : F [law_D ns] [] = .ok (.bl true) S) (hz : FzL M.K H a (ns.map V.int)) (hT : LamX.Tabs M.T H) : spF M 1 F [.ref a] H (fun v _ => v = .bl true) fun _ _ _ => False := by
  refine ⟨rfl, ⟨fun _ => 0, [], H⟩, [law_D ns], rfl, ⟨fun i j hi => absurd hi (Nat.not_lt_zero _), (fun i o e => by cases e), hT⟩, .cons (.fl hz (ints_dvs ns)) .nil, ?_⟩
  show Aft M _ (F [law_D ns] []) _ _
  rw [hF]
  intro g1 e1 k1 r1 v hv
  exact hv.blI
theorem law_sp {M : Md} {F : FN} {H : Hp} {a : Addr} {ns : List Int} {S : Sto} (hF : F [law_D ns] [] = .ok (.bl true) S) (hO : Only H) (hS : SqL M.K H a (ns.map V.int)) (hT : LamX.Tabs M.T H) : spF M 1 F [.ref a] H (fun v _ => v = .bl true) fun _ _ _ => False := by
  refine law_spT hF ?_ hT
  rcases hS with (h | ⟨o, h⟩) | h
  · rcases hO a with z | ⟨o, xs, z⟩
    · rw [h] at z; cases z
    · rw [h] at z; cases z
  · exact .inl ⟨o, h⟩
  · exact .inr h
end MP
set_option Elab.async false
set_option linter.all false
set_option maxRecDepth 100000
set_option maxHeartbeats 4000000
/-! Texts, whole roots, binomials. -/
namespace MP
open PySem PySem.Spec PyProof.Rows L2

/-! ### math.isqrt, math.comb -/
def rIsqrt : List V → Hp → VK → Prop := fun vs H Q => ∃ a : Int, vs = [.int a] ∧ 0 ≤ a ∧ a.toNat.log2 ≤ 13000 ∧ Q (.int ((Float64.isqrt a.toNat : Nat) : Int)) H
theorem cr_isqrt {X : Cx} : CallR X (.builtin "math.isqrt") rIsqrt := by
  intro pins s σ H vs us Q I r h
  obtain ⟨a, rfl, h0, h1, q⟩ := h
  obtain ⟨u, rfl, t, rfl⟩ := vals1 r
  exact PySem.call_function_meets PySem.W.MGF.kind_isqrt PySem.W.MGF.plain_isqrt PySem.W.MGF.entry_isqrt (PySem.W.MGF.args_isqrt _) (PySem.W.mg_run_isqrt a t (by omega) (by omega) (by omega)).meets ⟨.int _, H, I.tok _, ⟨_, rfl⟩, q⟩
def nIsqrt : FN := fun ds S => match ds with
  | [.int i] => if 0 ≤ i ∧ i.toNat.log2 ≤ 13000 then .ok (.int ((Float64.isqrt i.toNat : Nat) : Int)) S else .stuck
  | _ => .stuck
def rComb : List V → Hp → VK → Prop := fun vs H Q => ∃ a b : Int, vs = [.int a, .int b] ∧ 0 ≤ a ∧ 0 ≤ b ∧ a < 2 ^ 64 ∧ b ≤ 9000 ∧ Q (.int (PySem.W.mcComb a b)) H
theorem cr_comb {X : Cx} : CallR X (.builtin "math.comb") rComb := by
  intro pins s σ H vs us Q I r h
  obtain ⟨a, b, rfl, h0, h1, h2, h3, q⟩ := h
  obtain ⟨t, u, rfl⟩ := Vals.int2 r
  exact PySem.W.mc_comb h0 h1 h2 (.inl h3) fun _ => ⟨.int _, H, I.tok _, ⟨_, rfl⟩, q⟩
/-- bounds of a binomial, stuck at once at what is not known -/
def fitC (i j : Int) : Bool := leI 0 i && (leI 0 j && (fitI i && fitI j && Nat.ble j.natAbs 9000))
theorem fitC_of {i j : Int} (h : fitC i j = true) : 0 ≤ i ∧ 0 ≤ j ∧ i < 2 ^ 64 ∧ j ≤ 9000 := by
  unfold fitC at h
  rw [Bool.and_eq_true, Bool.and_eq_true, Bool.and_eq_true, Bool.and_eq_true, leI_eq, leI_eq, decide_eq_true_eq, decide_eq_true_eq] at h
  have a := fitI_of h.2.2.1.1
  have b := Nat.le_of_ble_eq_true h.2.2.2
  have c := h.2.1
  have d := h.1
  omega
theorem fitC_ok {i j : Int} (h1 : 0 ≤ i) (h2 : 0 ≤ j) (h3 : i ≤ 9000) (h4 : j ≤ 9000) : fitC i j = true := by
  unfold fitC
  rw [Bool.and_eq_true, Bool.and_eq_true, Bool.and_eq_true, Bool.and_eq_true, leI_eq, leI_eq, decide_eq_true_eq, decide_eq_true_eq]
  exact ⟨h1, h2, ⟨fitI_ok (by omega), fitI_ok (by omega)⟩, Nat.ble_eq_true_of_le (by omega)⟩
def nComb : FN := fun ds S => match ds with
  | [.int i, .int j] => if fitC i j = true then .ok (.int (PySem.W.mcComb i j)) S else .stuck
  | _ => .stuck
section
variable {M : Md}
theorem on_isqrt : OpN M rIsqrt nIsqrt := by
  intro g ds vs Q E r hv h
  unfold nIsqrt at h
  split at h
  · split at h
    · rename_i hz
      obtain ⟨v, rfl, h1⟩ := hv.one
      exact ⟨_, by rw [h1.intI], hz.1, hz.2, h.here r _ (.int _)⟩
    · exact h.elim
  · exact h.elim
theorem on_comb : OpN M rComb nComb := by
  intro g ds vs Q E r hv h
  unfold nComb at h
  split at h
  · split at h
    · rename_i hz
      obtain ⟨v, u, rfl, h1, h2⟩ := hv.two
      have hz := fitC_of hz
      exact ⟨_, _, by rw [h1.intI, h2.intI], hz.1, hz.2.1, hz.2.2.1, hz.2.2.2, h.here r _ (.int _)⟩
    · exact h.elim
  · exact h.elim
/-! ### str(n), int(text) -/
def nStr : FN := fun ds S => match ds with
  | [.int i] => if i.natAbs.log2 < 1920 then .ok (.str (toString i)) S else .stuck
  | _ => .stuck
theorem on_str : OpN M (fun xs H Q => ∃ i, xs = [.int i] ∧ i.natAbs.log2 < 1920 ∧ Q (.str (toString i)) H) nStr := by
  intro g ds vs Q E r hv h
  unfold nStr at h
  split at h
  · split at h
    · rename_i hz
      obtain ⟨v, rfl, h1⟩ := hv.one
      exact ⟨_, by rw [h1.intI], hz, h.here r _ (.str _)⟩
    · exact h.elim
  · exact h.elim
def nIntT : FN := fun ds S => match ds with
  | [.str a] => match PySem.intText? a with
    | some n => if a.length ≤ 640 then .ok (.int n) S else .stuck
    | none => .stuck
  | _ => .stuck
theorem on_intT : OpN M (fun xs H Q => ∃ a n, xs = [.str a] ∧ PySem.intText? a = some n ∧ a.length ≤ 640 ∧ Q (.int n) H) nIntT := by
  intro g ds vs Q E r hv h
  unfold nIntT at h
  split at h
  · split at h
    · rename_i n hn
      split at h
      · rename_i hz
        obtain ⟨v, rfl, h1⟩ := hv.one
        exact ⟨_, _, by rw [h1.strI], hn, hz, h.here r _ (.int _)⟩
      · exact h.elim
    · exact h.elim
  · exact h.elim
/-! ### sign in text -/
def dInS : F2 := fun x y S => match x, y with
  | .str a, .str z => if a.cps.size = 1 then .ok (.bl (decide (a.cps.getD 0 0 ∈ z.cps.toList))) S else .stuck
  | _, _ => .stuck
def rInSg : R2 := fun x y H Q => ∃ (c : Nat) (z : Str), x = .str ⟨#[c]⟩ ∧ y = .str z ∧ Q (.bl (decide (c ∈ z.cps.toList))) H
theorem op_inSg {X : Cx} : OpR X (compareOp .In) rInSg := op_in_sign
theorem o2_inS : Op2 M rInSg dInS := by
  intro g x y v u Q E r hx hy h
  unfold dInS at h
  split at h
  · rename_i a z
    split at h
    · rename_i hz
      rw [hx.strI, hy.strI]
      obtain ⟨arr⟩ := a
      have e : arr = #[arr.getD 0 0] := by
        apply Array.ext
        · simpa using hz
        · intro i h1 h2
          have : i = 0 := by simp at h2; omega
          subst this
          simp [Array.getD, h1]
      refine ⟨arr.getD 0 0, z, by rw [← e], rfl, h.here r _ (.bl _)⟩
    · exact h.elim
  · exact h.elim
end
/-! ### f-strings -/
section
variable {M : Md} {X : Cx} {W : WX}
def fmtD : D → Sto → Rs D := fun d S => match d with
  | .str y => if y.length ≤ sizeLine then .ok (.str y) S else .stuck
  | .int i => if i.natAbs.log2 < 1920 then .ok (.str (toString i)) S else .stuck
  | _ => .stuck
def dFmt (f : Fe) : Fe := fun ρ S => (f ρ S).bind fmtD
theorem me_fmt {e : Expr} {pos : Pos} {f : Fe} (he : ME M X W e f) : ME M X W (.FormattedValue e (-1) none pos) (dFmt f) :=
  PE.imp (pe_fmt he) fun σ H Q q => by
    obtain ⟨g, ρ, rfl, rp, en, q⟩ := q
    have q := Aft.bind (k := fmtD) q
    refine tE.go rp en (q.mono (fun d g1 k1 r1 q1 v hv => ?_) fun _ _ _ _ z => z)
    unfold fmtD at q1
    split at q1
    · split at q1
      · rename_i y hz
        exact .inl ⟨y, hv.strI, hz, q1.here r1 _ (.str _)⟩
      · exact q1.elim
    · split at q1
      · rename_i i hz
        exact .inr ⟨i, hv.intI, hz, q1.here r1 _ (.str _)⟩
      · exact q1.elim
    · exact q1.elim
theorem me_joined1 {e : Expr} {pos : Pos} {f : Fe} (he : ME M X W e f) : ME M X W (.JoinedStr [e] pos) f := pe_joined1 he
def dJs : List Fe → Str → Fe
  | [], acc => fun _ S => .ok (.str acc) S
  | f :: fs, acc => fun ρ S => (f ρ S).bind fun d S1 => match d with
    | .str y => if (acc ++ y).length ≤ sizeLine then dJs fs (acc ++ y) ρ S1 else .stuck
    | _ => .stuck
inductive MJ (M : Md) (X : Cx) (W : WX) : List Expr → List Fe → Prop where
  | nil : MJ M X W [] []
  | cons {e : Expr} {f : Fe} {es : List Expr} {fs : List Fe} (h : ME M X W e f) (r : MJ M X W es fs) : MJ M X W (e :: es) (f :: fs)
theorem MJ.pj : ∀ {es : List Expr} {fs : List Fe}, MJ M X W es fs → PJ X es (fs.map fun f => tE M W f)
  | _, _, .nil => .nil
  | _, _, .cons h r => .cons h r.pj
theorem tJs_of : ∀ {fs : List Fe} {acc : Str} {σ : L2.St} {g : Wd} {ρ : Rho} {Q : VK}, Rep M g → EnvOk M g ρ σ → Aft M g (dJs fs acc ρ g.S) (PD M Q) (XD M W σ) → tJs (fs.map fun f => tE M W f) acc σ g.H fun out H1 => Q (.str out) H1
  | [], acc, σ, g, ρ, Q, rp, en, q => by
    have q : Aft M g (.ok (.str acc) g.S) (PD M Q) (XD M W σ) := q
    exact q.here rp _ (.str _)
  | f :: fs, acc, σ, g, ρ, Q, rp, en, q => by
    have q := Aft.bind (r := f ρ g.S) (k := fun d S1 => match d with
      | .str y => if (acc ++ y).length ≤ sizeLine then dJs fs (acc ++ y) ρ S1 else .stuck
      | _ => .stuck) q
    refine tE.go rp en (q.mono (fun d g1 k1 r1 q1 v hv => ?_) fun _ _ _ _ z => z)
    split at q1
    · split at q1
      · rename_i y hz
        exact ⟨y, hv.strI, hz, tJs_of r1 (en.mono rp k1) q1⟩
      · exact q1.elim
    · exact q1.elim
theorem me_joined {v1 v2 : Expr} {rest : List Expr} {pos : Pos} {fs : List Fe} (h : MJ M X W (v1 :: v2 :: rest) fs) : ME M X W (.JoinedStr (v1 :: v2 :: rest) pos) (dJs fs Str.empty) :=
  PE.imp (pe_joined h.pj) fun σ H Q q => by
    obtain ⟨g, ρ, rfl, rp, en, q⟩ := q
    exact tJs_of rp en q
/-! ### s.partition(t) -/
def partD (x y : D) : Sto → Rs D := fun S => match x, y with
  | .str a, .str b => if (b.length == 0) = false ∧ a.length ≤ sizeLine then .ok (.tup [.str (Txt.partition a b).1, .str (Txt.partition a b).2.1, .str (Txt.partition a b).2.2]) S else .stuck
  | _, _ => .stuck
def isStrD : D → Bool
  | .str _ => true
  | _ => false
def dPart (o e : Fe) : Fe := fun ρ S => (o ρ S).bind fun x S1 => if isStrD x = true then (e ρ S1).bind fun y S2 => partD x y S2 else .stuck
theorem me_part {o e : Expr} {apos pos : Pos} {fo fe : Fe} (ho : ME M X W o fo) (he : ME M X W e fe) (hs : starEach [e] X.env = [(false, eval e X.env)] := by rfl) (hbase : attributeBase o "partition" X.env (eval o X.env) = eval o X.env := by rfl) (hline : (apos.endLine == pos.line) = true := by rfl) :
    ME M X W (.Call (.Attribute o "partition" apos) [e] [] pos) (dPart fo fe) :=
  PE.imp (pe_partition ho he hs hbase hline) fun σ H Q q => by
    obtain ⟨g, ρ, rfl, rp, en, q⟩ := q
    have q := Aft.bind (k := fun x S1 => if isStrD x = true then (fe ρ S1).bind fun y S2 => partD x y S2 else .stuck) q
    refine tE.go rp en (q.mono (fun x g1 k1 r1 q1 v hv => ?_) fun _ _ _ _ z => z)
    split at q1
    · rename_i hx
      cases x with
      | str a =>
        refine ⟨⟨a, hv.strI⟩, ?_⟩
        have q1 := Aft.bind (k := fun y S2 => partD (.str a) y S2) q1
        refine tE.go r1 (en.mono rp k1) (q1.mono (fun y g2 k2 r2 q2 u hu => ?_) fun _ _ _ _ z => z)
        unfold partD at q2
        split at q2
        · rename_i a' b e1
          cases e1
          split at q2
          · rename_i hz
            rw [hv.strI, hu.strI]
            refine ⟨a, b, rfl, rfl, hz.1, hz.2, fun p hp => ?_⟩
            exact q2 ⟨g2.μ, g2.S, upd g2.H p (.tup [.str (Txt.partition a b).1, .str (Txt.partition a b).2.1, .str (Txt.partition a b).2.2])⟩ rfl (Gr.laid hp) (r2.laid hp) _ (dv_new r2 hp (.cons (.str _) (.cons (.str _) (.cons (.str _) .nil))))
          · exact q2.elim
        · exact q2.elim
      | _ => cases hx
    · exact q1.elim
/-! ### the signs of a text -/
def signsD (z : Str) : List D := z.cps.toList.map fun c => .str ⟨#[c]⟩
def txtD : D → Sto → Rs Src := fun d S => match d with
  | .str z => .ok ⟨signsD z, []⟩ S
  | _ => .stuck
def iT (f : Fe) : Fi := fun ρ S => (f ρ S).bind txtD
theorem srcOk_txt {g0 : Wd} {z : Str} : SrcOk M g0 ⟨signsD z, []⟩ (Its z) := by
  have hl : (Src.mk (signsD z) []).its.length = z.cps.size := by show (signsD z).length = _; unfold signsD; simp
  refine ⟨fun _ => True, fun i H v H' => H' = H ∧ ∃ c, z.cps[i]? = some c ∧ v = .str ⟨#[c]⟩, by rw [hl]; exact walk_str, rfl, fun _ _ _ _ => True.intro, fun i g1 x H' hi r1 k _ y => ?_⟩
  obtain ⟨e, c, hc, hx⟩ := y
  subst e hx
  refine ⟨.str ⟨#[c]⟩, g1, ?_, rfl, rfl, Gr.refl, r1, .str _⟩
  show (signsD z)[i]? = _
  unfold signsD
  rw [List.getElem?_map, Array.getElem?_toList, hc]
  rfl
theorem mi_t {tg e : Expr} {f : Fe} (h : ME M X W e f) : MI M X W tg e (iT f) := PI.imp (pi_str h) fun σ H R q => by
  obtain ⟨g, ρ, rfl, rp, en, q⟩ := q
  have q := Aft.bind (k := txtD) q
  refine tE.go rp en (q.mono (fun d g1 k1 r1 q1 v hv => ?_) fun _ _ _ _ z => z)
  unfold txtD at q1
  split at q1
  · rename_i z
    exact ⟨z, hv.strI, Aft.here r1 q1 _ srcOk_txt⟩
  · exact q1.elim
end
end MP
set_option Elab.async false
set_option linter.all false
set_option maxRecDepth 100000
set_option maxHeartbeats 4000000
/-! Own exception classes whose __init__ is: super().__init__('..'); self.f = given. -/
namespace MX
open PySem PySem.Spec PyProof.Rows L2 PySem.W PySem.Calls
open Builtin.ObjectAttr

structure SupB (B newId initId : String) (bmB : List Value) : Prop where
  base : ExcBaseFacts B newId initId bmB
  store : StoreFacts B bmB "object.__setattr__" "object"
  kxs : KxsFacts B initId
theorem sup_IndexError : SupB "IndexError" "IndexError.__new__" "IndexError.__init__" [.type "IndexError", .type "LookupError", .type "Exception", .type "BaseException", .type "object"] := ⟨PySem.F.excBase_IndexError, PySem.F.store_IndexError, kxs_IndexError⟩
theorem sup_ValueError : SupB "ValueError" "ValueError.__new__" "ValueError.__init__" [.type "ValueError", .type "Exception", .type "BaseException", .type "object"] := ⟨PySem.F.excBase_ValueError, PySem.F.store_ValueError, kxs_ValueError⟩
theorem sup_ArithmeticError : SupB "ArithmeticError" "ArithmeticError.__new__" "ArithmeticError.__init__" [.type "ArithmeticError", .type "Exception", .type "BaseException", .type "object"] := ⟨PySem.F.excBase_ArithmeticError, PySem.F.store_ArithmeticError, kxs_ArithmeticError⟩
theorem sup_OverflowError : SupB "OverflowError" "OverflowError.__new__" "OverflowError.__init__" [.type "OverflowError", .type "ArithmeticError", .type "Exception", .type "BaseException", .type "object"] := ⟨PySem.F.excBase_OverflowError, PySem.F.store_OverflowError, kxs_OverflowError⟩
theorem sup_RuntimeError : SupB "RuntimeError" "RuntimeError.__new__" "RuntimeError.__init__" [.type "RuntimeError", .type "Exception", .type "BaseException", .type "object"] := ⟨PySem.F.excBase_RuntimeError, PySem.F.store_RuntimeError, kxs_RuntimeError⟩

/-- what the written part says of the class at C, its __init__ at fI and the cell of __class__ at cc -/
structure SupK (P : Program) (K : Frag) (B newId initId : String) (bmB : List Value) (C fI cc cda : Addr) (f slf giv txt : Str) : Prop where
  iC : findIn K (.ref C) "__init__" = some (some (.ref fI))
  isF : isFn K (.ref fI) = true
  q : excInitIn K C bmB newId = true
  over : excOver K C bmB = true
  taker : takerIn K C f = some none
  hasD : hasDictIn K C = true
  sa : findIn K (.ref C) "__setattr__" = some (some (.builtin "object.__setattr__"))
  sup : ks_superIn K C C "__init__" = some (some (.builtin initId))
  subB : subIn K (.ref C) (.type B) = some true
  exC : subIn K (.ref C) (.type "BaseException") = some true
  tyC : typeIn K (.ref C) = some (.type "type")
  kC : keepIn K (.ref C) = true
  opq : nsIn K cStatics "thirdparty.any" = some none
  mro : mroIn K C (.ref C) = some true
  cls : ∃ cd, clsIn K C = some cd
  cell : ∃ cl cld csl, K.lookup cc = some ⟨cl, cld, .cell (some (.ref C)), csl⟩
  code : ∃ ccl cdd vs ccs file tf, K.lookup cda = some ⟨ccl, cdd, .fields vs, ccs⟩ ∧ vs[2]? = some (.str file tf) ∧ ((P.main.file : Str) == file) = true
  top : (P.main.scope.names.lookup ("super" : Str)).isSome = false
  gS : nsIn K mainGlobals "super" = some none
  fn : ∃ oc od osl qual params scope dV kV doc pm an ct j p0 p1 p2 p3 p4 p5 p6 p7 p8 p9, K.lookup fI = some ⟨oc, od, .func (ksFn "__init__" qual params
      [.Expr (.Call (.Attribute (.Call (.Name "super" p0) [] [] p1) "__init__" p2) [.Constant (.str txt) j p3] [] p4) p5, .Assign [.Attribute (.Name slf p6) f p7] (.Name giv p8) p9] scope dV kV doc pm an (.ref cda) ct cc), osl⟩ ∧
    codeIn K (.ref cda) qual = true ∧ (∀ x ∈ scope.names, x.2 ≠ .cell) ∧ scope.isCoroutine = false ∧ scope.isGenerator = false ∧ scope.kind = .function ∧
    scope.names.lookup ("super" : Str) = some .globalImplicit ∧ scope.names.lookup ("__class__" : Str) = some .free ∧ scope.names.lookup slf = some .local ∧ scope.names.lookup giv = some .local ∧
    (∃ ar, (params.posonlyargs ++ params.args).head? = some ar ∧ ar.arg = slf) ∧
    (∃ pl : Sem Bool, ∀ env : Env, eval (.Call (.Attribute (.Call (.Name "super" p0) [] [] p1) "__init__" p2) [.Constant (.str txt) j p3] [] p4) env = (do
      let ov ← attributeBase (.Call (.Name "super" p0) [] [] p1) "__init__" env (eval (.Call (.Name "super" p0) [] [] p1) env)
      standAt p2.atName
      let (f, first) ← holding [ov] (getMethod ov "__init__" pl)
      callWith p4 f first (backTo p4 (starEach [.Constant (.str txt) j p3] env)) [])) ∧
    (∀ a b : Value, bindArgs (ksFn "__init__" qual params
      [.Expr (.Call (.Attribute (.Call (.Name "super" p0) [] [] p1) "__init__" p2) [.Constant (.str txt) j p3] [] p4) p5, .Assign [.Attribute (.Name slf p6) f p7] (.Name giv p8) p9] scope dV kV doc pm an (.ref cda) ct cc) ⟨[a, b], []⟩ = pure [(slf, a), (giv, b)])
  ne : slf ≠ giv
  dS : (slf == ("__debug__" : Str)) = false
  dG : (giv == ("__debug__" : Str)) = false

section
variable {prog : Program} {w : World} {A : Around} {E : Value → Shared → Prop} {h : Heap} {g : Array GenState} {d : Drawn} {t : Nat} {os : OsState} {B newId initId : String} {bmB : List Value} {K : Frag} {C : Addr}

/-- the bound built-in __init__, called -/
theorem sup_call {u x t0 : Addr} {rest : List Value} {Q : Value → Shared → Prop} (SB : SupB B newId initId bmB) (X : K.In h) (q : excInitIn K C bmB newId = true) (he : h.get? x = some (excObj C t0 none .none)) (hu : h.get? u = some (kxs_mw initId x)) (hrest : rest.length ≤ sizeLine)
    (hq : ∀ h' t1, (∀ b o, b ≠ x → h.get? b = some o → h'.get? b = some o) → h'.get? x = some (excObj C t1 none .none) → Q .none ⟨h', g, d, t, os⟩) :
    wpAny (model prog w) A (call (.ref u) rest) Q E ⟨h, g, d, t, os⟩ := by
  obtain ⟨nm, N', qn, bs, bm, hdct, sn, sub, ab, col, dd, k0, k1, k2, k3, k5, hC, hT⟩ := excInit_of X q
  refine wpAny_call (codeAny_of_tree ?_)
  show wpAny _ A.in1 (callAny (.ref u) ⟨rest, []⟩) _ _ _
  simp only [callAny]
  refine wpAny_bind (wpAny_load hu ?_)
  simp only [kxs_mw, show (Value.type "method-wrapper" == Value.type "method" || Value.type "method-wrapper" == Value.type "builtin_function_or_method" || Value.type "method-wrapper" == Value.type "method-wrapper") = true by decide, if_true]
  refine KFB.if_so (by decide) ?_
  refine wpAny_bind (check_bound_init SB.base.toExcCallFacts hC he rfl ?_)
  refine wpAny_bind (wpAny_pure (wpAny_pure ?_))
  refine ⟨plainId_quiet SB.base.init.plain _, codeAny_builtin SB.base.initEntry ?_⟩
  exact exc_init_tree (cls := .ref C) (t0 := t0) (dv := none) (c2 := .none) (c3 := .none) (b4 := .bool false) he hrest fun h' k e' _ => hq h' _ k e'

/-- self.f = v, the object has no dict yet -/
theorem sup_set {x t0 : Addr} {f : Str} {v : Value} {Q : Unit → Shared → Prop} (SB : SupB B newId initId bmB) (X : K.In h) (hx : h.get? x = some (excObj C t0 none .none)) (hs : findIn K (.ref C) "__setattr__" = some (some (.builtin "object.__setattr__")))
    (hp : excOver K C bmB = true) (ht : takerIn K C f = some none) (hh : hasDictIn K C = true)
    (hq : ∀ h' tk', (∀ b o, b ≠ x → h.get? b = some o → h'.get? b = some o) → h'.get? x = some (excObj C t0 (some h.objs.size) .none) → h'.Ns1 h.objs.size (fun y => if y = f then some v else none) → Q () ⟨h', g, d, tk', os⟩) :
    wpAny (model prog w) A (setAttr (.ref x) f v) Q E ⟨h, g, d, t, os⟩ := by
  have hxs : x ≠ h.objs.size := Nat.ne_of_lt (Heap.lt_size hx)
  refine set_plain (od := none) X ⟨hx, rfl, rfl, trivial⟩ hs ?_
  refine osa_openX (s := ⟨h, g, d, t + 1, os⟩) (od := none) SB.store X ⟨hx, rfl, rfl, trivial⟩ hp ht fun b => ?_
  obtain ⟨cd, hc, hd'⟩ := any_some hh
  refine wpAny_bind (wpAny_pure (wpAny_bind (instanceDict_exc hx (looks_clsIn X hc) hd' ?_)))
  show wpAny _ _ (storeInDict h.objs.size (.str f t) f v) _ _ _
  refine HandSPX.store_in_new ?_ ?_
  · exact ⟨_, #[], _, (Heap.get?_update_ne _ _ _ _ hxs.symm).trans (Heap.get?_push_at rfl rfl), rfl, fun e he => absurd he (by simp), fun _ => rfl⟩
  · intro h' tk' hn' hs'
    have hx₁ : (h.push (dictOf [] 0)).get? x = some (excObj C t0 none .none) := Heap.get?_push_of_some _ hx
    refine hq h' tk' (fun b o hb ho => ?_) ?_ hn'
    · exact (hs'.2 b (Nat.ne_of_lt (Heap.lt_size ho))).trans ((Heap.get?_update_ne _ _ _ _ hb).trans (Heap.get?_push_of_some _ ho))
    · exact (hs'.2 x hxs).trans (Heap.get?_update_self _ hx₁ rfl)
end

section
variable {prog : Program} {w : World} {A : Around} {g : Array GenState} {d : Drawn} {os : OsState} {B newId initId : String} {bmB : List Value} {K : Frag} {C fI cc cda : Addr} {f slf giv txt : Str} {mg mb : Str → Option Value}
theorem sup_run (SB : SupB B newId initId bmB) (S : SupK prog K B newId initId bmB C fI cc cda f slf giv txt) {hp : Heap} {tk : Nat} {x t0 : Addr} {u : Value} {R : Result → Shared → Prop} (X : K.In hp) (xK : K.lookup x = none) (NL : hp.NoLimit) (G : hp.Ns mainGlobals mg) (Bl : hp.Ns builtinsNs mb)
    (hbS : mb "super" = some (.type "super")) (hx : hp.get? x = some (excObj C t0 none .none)) (hroom : A.depth < recursionLimit)
    (hq : ∀ h' t1 tk' dx, (∀ b o, b ≠ x → hp.get? b = some o → h'.get? b = some o) → h'.get? x = some (excObj C t1 (some dx) .none) → h'.Ns1 dx (fun y => if y = f then some u else none) → hp.objs.size ≤ dx → R (.ok (.ret .none)) ⟨h', g, d, tk', os⟩) :
    codeAny (model prog w) A (.call (.ref fI) ⟨[.ref x, u], []⟩) R ⟨hp, g, d, tk, os⟩ := by
  obtain ⟨oc, od, osl, qual, params, scope, dV, kV, doc, pm, an, ct, j, p0, p1, p2, p3, p4, p5, p6, p7, p8, p9, lk, hcd, hcell, hco, hgen, hk, kSup, kCls, kSelf, kGiv, ⟨ar, hpar, har⟩, ⟨pl, hpl⟩, hbind⟩ := S.fn
  obtain ⟨cdC, hcls⟩ := S.cls
  obtain ⟨cl, cld, csl, hcc⟩ := S.cell
  obtain ⟨ccl, cdd, vs, ccs, file, tf, hcode, hvs, hfile⟩ := S.code
  have neC : x ≠ C := fun z => by
    unfold clsIn at hcls
    split at hcls
    · rename_i c dd cd' sl ho
      rw [z, ho] at xK
      cases xK
    · cases hcls
  refine ks_codeAny_call_defAt (binds := [(slf, Value.ref x), (giv, u)]) hroom (X _ _ lk) rfl NL (codeRec_of X hcd) rfl (BindsTo.of_eq (hbind _ _)) hcell (fun y hy => ?_) (fun h₀ hns kp => ?_) hco hgen hk
  · rcases List.mem_cons.mp hy with rfl | hy
    · exact kSelf
    · rcases List.mem_cons.mp hy with rfl | hy
      · exact kGiv
      · cases hy
  have mSelf : ([(slf, Value.ref x), (giv, u)].reverse.lookup slf) = some (.ref x) := by
    have e : (slf == giv) = false := by simpa using S.ne
    simp [List.lookup, e]
  have mGiv : ([(slf, Value.ref x), (giv, u)].reverse.lookup giv) = some u := by simp [List.lookup]
  obtain ⟨oD, hD1, hD2⟩ : ∃ oD, hp.get? C = some oD ∧ oD.data = .cls cdC := by
    unfold clsIn at hcls
    split at hcls
    · rename_i c dd cd' sl ho
      cases hcls
      exact ⟨_, X _ _ ho, rfl⟩
    · cases hcls
  have X0 : K.In h₀ := X.keeps kp
  have hx0 := kp _ _ hx
  have hns1 : ∃ oL es ep, h₀.get? hp.objs.size = some oL ∧ oL.data = .dict es ep ∧ StrKeys es ∧ ∀ name, nsFind es name = [(slf, Value.ref x), (giv, u)].reverse.lookup name := hns
  have xL : hp.objs.size ≠ x := Nat.ne_of_gt (Heap.lt_size hx)
  refine ks_wpAt_execs_cons (ks_wpAt_Expr_any ?_ ?_ rfl)
  rotate_left
  · show interactive _ = false
    unfold interactive
    show ((scope.kind == ScopeKind.module) && _) = false
    rw [hk]; rfl
  refine ks_wpAt_MethodCall (pl := pl) ?_ (hpl _)
  refine ks_wpAt_super_base (f := fI) (cc := cda) kSup kCls (by decide) rfl (kp _ _ (X _ _ lk)) rfl hpar rfl (kp _ _ (X _ _ hcode)) rfl hvs hfile S.top ?_
  refine ks_loadName_global hk kSup (loadGlobal_builtin (G.keeps kp) (mg_none_of X G S.gS) (Bl.keeps kp) hbS ⟨rfl, ?_⟩)
  refine wpAny_loadName_free hk kCls rfl ⟨_, kp _ _ (X _ _ hcc), rfl⟩ ?_
  rw [har]
  refine wpAny_loadName_local hk kSelf hns mSelf ?_
  refine ks_wpAny_isType_cls (kp _ _ hD1) hD2 ⟨rfl, ?_⟩
  refine ks_wpAny_call_super (kp _ _ hD1) hD2 hx0 rfl (fun c e => by cases e) (looks_mroIn X0 S.mro) (fun h1 e1 k1 => ?_)
  have X1 : K.In h1 := X0.keeps k1
  have hx1 := k1 _ _ hx0
  have hI : Looks (model prog w) h1 (isInstance (.ref x) (.type B)) true := (show InstAt h1 x (excObj C t0 none .none) C none from ⟨hx1, rfl, rfl, trivial⟩).type.andThen (looks_subIn X1 S.subB)
  have hal : alongIn K "__init__" ((cdC.mro.dropWhile (· != .ref C)).drop 1) = some (some (.builtin initId)) := by
    have z := S.sup
    unfold ks_superIn at z
    rw [hcls] at z
    exact z
  refine kxs_getMethod SB.kxs e1 (looks_opaque X1 S.opq) (l₀ := cdC.mro) (fun A Q E s k q => wpAny_bind ((looks_clsIn X1 hcls) A _ E s k (wpAny_pure q))) rfl X1 hal hI neC (by decide) ?_
  have k2 : ∀ b o, h1.get? b = some o → (h1.push (kxs_mw initId x)).get? b = some o := fun b o e => Heap.get?_push_of_some _ e
  have hu2 : (h1.push (kxs_mw initId x)).get? h1.objs.size = some (kxs_mw initId x) := Heap.get?_push_at rfl rfl
  refine kxs_callWith (i := initId) (x := x) rfl ?_
  refine evalArgs_plain ?_
  refine wpAny_items_cons (pos := p4) (e := .Constant (.str txt) j p3) (rest := []) ?_ rfl
  refine Calls.Constant_str ?_
  refine wpAny_items_nil ⟨hu2, ?_⟩
  refine sup_call SB (X1.keeps k2) S.q (k2 _ _ hx1) hu2 (by show 1 ≤ sizeLine; rw [sizeLine_eq]; omega) fun h3 t3 k3 hx3 => ?_
  have kAll : ∀ b o, b ≠ x → h₀.get? b = some o → h3.get? b = some o := fun b o hb e => k3 b o hb (k2 _ _ (k1 _ _ e))
  have X3 : K.In h3 := fun b o e => kAll b o (fun z => by rw [z, xK] at e; cases e) (X0 b o e)
  have ns3 : h3.Ns hp.objs.size fun y => ([(slf, Value.ref x), (giv, u)].reverse.lookup y) := by
    obtain ⟨oL, es, ep, eL, r⟩ := hns
    exact ⟨oL, es, ep, kAll _ _ xL eL, r⟩
  have hsz : hp.objs.size ≤ h3.objs.size := by
    obtain ⟨oL, es, ep, eL, r⟩ := ns3
    exact Nat.le_of_lt (Heap.lt_size eL)
  refine ks_wpAt_execs_cons (wpAt_of_wpAny (plainObj_wpAny_Assign_Attribute ?_ rfl))
  refine wpAny_Name (wpAny_loadName_local hk kGiv ns3 mGiv ?_) S.dG
  refine wpAny_Name (wpAny_loadName_local hk kSelf ns3 mSelf ?_) S.dS
  refine sup_set SB X3 hx3 S.sa S.over S.taker S.hasD fun h5 tk5 k5 hx5 hn5 => ?_
  refine wpAt_of_wpAny (wpAny_execs_nil ?_)
  exact hq h5 t3 tk5 _ (fun b o hb e => k5 b o hb (kAll b o hb (kp _ _ e))) hx5 hn5 hsz
end

/-- C(e): e's value, then the exception with the field f -/
def tMkS (C : Addr) (f : Str) (te : TE) : L2.St → Hp → XK → Prop := fun σ H Q => tCons te tNil σ H fun vs H1 => ∃ v, vs = [v] ∧ ∀ dx, H1 dx = none → Q (.ref C) (some dx) (upd H1 dx (.xd [(f, v)]))
section
variable {X : Cx} {B newId initId : String} {bmB : List Value} {C fI cc cda : Addr} {f slf giv txt x : Str} {e : Expr} {te : TE} {p pos : Pos} {k : Nat}
theorem super_boot : bootBuiltins "super" = some (.type "super") := by first | boot_by_name | rfl | kernel_rfl
theorem pmk_sup (SB : SupB B newId initId bmB) (S : SupK X.prog X.K B newId initId bmB C fI cc cda f slf giv txt) (hr : X.A.depth + 1 < recursionLimit) (hg : Gl X x) (hm : X.mg x = some (.ref C)) (he : PE X e te)
    (hdb : (x == ("__debug__" : Str)) = false := by decide) (hst : starEach (e :: []) X.env = (false, eval e X.env) :: starEach [] X.env := by rfl) (hpl : (backTo pos (starEach [] X.env)).any (·.1) = false := by rfl) :
    PMk X (.Call (.Name x p) [e] [] pos) (tMkS C f te) := by
  intro pins s σ H Q I h
  have ha : PA X [e] (tCons te tNil) := pa_cons he pa_nil hst
  refine wpAny_Call_Name_kw (ld_glob I hg hm ?_ hdb)
  refine PySem.W.callWith_K (h₀ := X.base) I.ok.mod.kin S.kC (thn (ha.run pos pins s σ H _ I h) fun us s1 ⟨vs, H1, I1, r1, v, ev, q1⟩ => ⟨I1.kIn, ?_⟩) hst hpl
  subst ev
  cases r1 with
  | @cons _ u _ us' ru rn =>
    cases rn
    show wpAny _ _ (call (.ref C) [u]) _ _ _
    obtain ⟨nm, N', qn, bs, bm, hdct, sn, sub, ab, col, dd, k0, k1, k2, k3, k5, hC, hT⟩ := excInit_of I1.kIn S.q
    obtain ⟨oI, hoI, hcI⟩ : ∃ oI, s1.heap.get? fI = some oI ∧ oI.cls = .type "function" := by
      obtain ⟨o, ho, hc⟩ := Option.map_eq_some_iff.mp (show (X.K.lookup fI).map (·.cls) = some (.type "function") from beq_iff_eq.mp S.isF)
      exact ⟨o, I1.kIn _ _ ho, hc⟩
    obtain ⟨mb, hmb, hboot⟩ := I1.mod.blt
    have hmb' := hmb.keeps I1.bk
    have hmg' := I1.mod.glob.keeps I1.bk
    have hlim := I1.nolimit
    have hkI := I1.kIn
    obtain ⟨hp, g, dr, tk, os⟩ := s1
    have kk : ∀ b o, hp.get? b = some o → ((hp.push (PySem.W.kdv_tup [u])).push (PySem.HandSPX.excO C hp.objs.size)).get? b = some o := fun b o e => Heap.get?_push_of_some _ (Heap.get?_push_of_some _ e)
    have hget : ((hp.push (PySem.W.kdv_tup [u])).push (PySem.HandSPX.excO C hp.objs.size)).get? (hp.objs.size + 1) = some (PySem.HandSPX.excO C hp.objs.size) := by heap_get
    have hsz2 : ((hp.push (PySem.W.kdv_tup [u])).push (PySem.HandSPX.excO C hp.objs.size)).objs.size = hp.objs.size + 2 := by rw [Heap.size_push, Heap.size_push]
    have xK : X.K.lookup (hp.objs.size + 1) = none := by
      cases z : X.K.lookup (hp.objs.size + 1) with
      | none => rfl
      | some o => exact absurd (Heap.lt_size (hkI _ _ z)) (by show ¬ hp.objs.size + 1 < hp.objs.size; omega)
    refine wpAny_call (PySem.HandSPX.call_own SB.base hT hC (looks_findIn hkI S.iC) (fun self => exc_bind hoI hcI self) (by show 1 ≤ sizeLine; rw [sizeLine_eq]; omega) ?_)
    refine sup_run (mg := X.mg) (mb := mb) SB S (hkI.keeps kk) xK (hlim.keeps kk) (hmg'.keeps kk) (hmb'.keeps kk) ((hboot _ (by decide +kernel)).trans super_boot) hget (by rw [make_depth]; exact hr) fun h' t1 tk' dx kx hx' hn hdx => ⟨rfl, ?_⟩
    rw [hsz2] at hdx
    have k' : ∀ b o, hp.get? b = some o → h'.get? b = some o := fun b o e => kx b o (Nat.ne_of_lt (Nat.lt_succ_of_lt (Heap.lt_size e))) (kk b o e)
    obtain ⟨G, g1, g2⟩ := restrict h' fun b => decide (b ≠ hp.objs.size + 1)
    have gk : ∀ b, b ≠ hp.objs.size + 1 → G.get? b = h'.get? b := fun b hb => g1 b (decide_eq_true hb)
    have ge : G.get? (hp.objs.size + 1) = none := g2 _ (by simp)
    have hda : dx ≠ hp.objs.size + 1 := fun z => by
      rw [z] at hdx
      exact absurd hdx (Nat.not_succ_le_self _)
    have hn1 : H1 dx = none := I1.hok.fresh (show hp.objs.size ≤ dx by omega)
    have J : Inv X pins σ (upd H1 dx (.xd [(f, v)])) ⟨G, g, dr, tk', os⟩ := I1.laid (t' := tk') (a := dx) (o := .xd [(f, v)]) (h' := G)
      (fun b o e => (gk b (Nat.ne_of_lt (Nat.lt_succ_of_lt (Heap.lt_size e)))).trans (k' b o e)) (show hp.objs.size ≤ dx by omega)
      ⟨_, hn.at fun o y => (gk dx hda).trans y, relO_put (fs := []) ru fun g => True.intro⟩
    refine ⟨hp.objs.size + 1, _, _, ⟨G, g, dr, tk', os⟩, _, .ref C, some dx, rfl, J, fun b o z => ?_, ge, hx', ⟨rfl, rfl⟩, rfl, rfl, ?_, rfl, I1.bare, raises_own S.exC S.tyC, q1 dx hn1⟩
    · by_cases hba : b = hp.objs.size + 1
      · rw [hba, ge] at z
        cases z
      · exact (gk b hba).symm.trans z
    · rw [upd_ne (Ne.symm hda)]
      exact I1.hok.fresh (show hp.objs.size ≤ hp.objs.size + 1 by omega)
end
end MX
set_option Elab.async false
set_option linter.all false
set_option maxRecDepth 100000
set_option maxHeartbeats 4000000
/-! try with several except clauses, each with a name or without one. -/
namespace MX
open PySem PySem.Spec PyProof.Rows L2

abbrev SuT : Type := Addr → Value → Option Addr → TS
/-- the ends of a suite whose name stands at slot i -/
def offAt (i : Nat) (D : Ends) : Ends := { nx := fun τ G => D.nx (τ.set i none) G, rt := D.rt, bk := fun τ G => D.bk (τ.set i none) G, ct := fun τ G => D.ct (τ.set i none) G }
/-- a clause: its class, the slot of its name, what its suite does -/
structure Cl where
  c : Value
  at_ : Option Nat
  ts : SuT
/-- what its suite wants -/
def Cl.want (q : Cl) (D : Ends) (a : Addr) (cls : Value) (d : Option Addr) (σ : L2.St) (H : Hp) : Prop := match q.at_ with
  | none => q.ts a cls d D σ H
  | some i => q.ts a cls d (offAt i D) (σ.set i (some (.ref a))) H
def wMix (K : PySem.W.Frag) (out : WX) (D : Ends) : List Cl → WX
  | [] => out
  | q :: l => fun cls d σ H => ∃ b, PySem.W.exmOne K cls q.c = some b ∧ (b = true → ∀ a, H a = none → q.want D a cls d σ H) ∧ (b = false → wMix K out D l cls d σ H)
def SuOk (X : Cx) (suite : List Stmt) (ts : SuT) : Prop := ∀ (a : Addr) (oe : Obj) (cls : Value) (d : Option Addr) (pn : List (Addr × Obj)), Zc cls d oe → (∃ vs, oe.data = .fields vs) → PSs (X.suite a ((a, oe) :: pn)) suite (ts a cls d)
inductive Cls (X : Cx) : List ExceptHandler → List Cl → Prop
  | nil : Cls X [] []
  | plain {x : Str} {c : Value} {ts : SuT} {b₀ : Stmt} {su : List Stmt} {p1 p2 : Pos} {hs : List ExceptHandler} {l : List Cl} : Names X x c → SuOk X (b₀ :: su) ts → Cls X hs l → Cls X (.ExceptHandler (some (.Name x p1)) none (b₀ :: su) p2 :: hs) (⟨c, none, ts⟩ :: l)
  | named {x n : Str} {i : Nat} {c : Value} {ts : SuT} {b₀ : Stmt} {su : List Stmt} {p1 p2 : Pos} {hs : List ExceptHandler} {l : List Cl} : Names X x c → X.N.Nodup → X.N[i]? = some n → X.env.kindOf n = some .local → SuOk X (b₀ :: su) ts → Cls X hs l →
      Cls X (.ExceptHandler (some (.Name x p1)) (some n) (b₀ :: su) p2 :: hs) (⟨c, some i, ts⟩ :: l)

section
variable {X : Cx} {pins : List (Addr × Obj)} {σ : L2.St} {H : Hp} {s : Shared} {a : Addr} {B : Heap} {cls : Value} {d : Option Addr}
/-- the exception has landed in the frame of X: I0 is the state ahead of it -/
structure Landed (X : Cx) (pins : List (Addr × Obj)) (σ : L2.St) (H : Hp) (s : Shared) (a : Addr) (B : Heap) (cls : Value) (d : Option Addr) : Prop where
  ex : ∃ s0 : Shared, L2.Inv X pins σ H s0 ∧ (∀ b o, s0.heap.get? b = some o → b ∉ frs X.stack → B.get? b = some o) ∧ s0.heap.UpToSlots s.heap ∧ s.os = s0.os ∧ AllBare s.gens
  fly : HandSPX.FlyingZ B (X.env :: X.outer) a (Zc cls d) s.heap
  na : H a = none
  nL : a ≠ X.env.locals
  nF : a ∉ X.fs
theorem Landed.inv (Y : Landed X pins σ H s a B cls d) : L2.Inv X pins σ H s := by
  obtain ⟨s0, J, nb, up, eo, eg⟩ := Y.ex
  exact J.landed nb Y.fly.1 up eo eg
theorem Landed.next (Y : Landed X pins σ H s a B cls d) {h2 : Heap} (f : HandSPX.FlyingZ B (X.env :: X.outer) a (Zc cls d) h2) (u : s.heap.UpToSlots h2) : Landed X pins σ H { s with heap := h2 } a B cls d := by
  obtain ⟨s0, J, nb, up, eo, eg⟩ := Y.ex
  exact ⟨⟨s0, J, nb, up.trans u, eo, eg⟩, f, Y.na, Y.nL, Y.nF⟩
theorem Landed.on (Y : Landed X pins σ H s a B cls d) : ∃ oe vs, s.heap.get? a = some oe ∧ Zc cls d oe ∧ oe.data = .fields vs ∧ L2.Inv (X.suite a ((a, oe) :: (X.pn ++ pins))) [] σ H s := by
  obtain ⟨oe, vs, h1, h2, h3⟩ := Y.fly.there
  exact ⟨oe, vs, h1, h2, h3, Y.inv.suite h1 h3 Y.na Y.nL Y.nF⟩
/-- the clause's class is looked up and tried -/
theorem Landed.test (Y : Landed X pins σ H s a B cls d) {x : Str} {c : Value} {b : Bool} {p1 : Pos} {Q : Bool → Shared → Prop} {E : Value → Shared → Prop} (hc : Names X x c) (hb : PySem.W.exmOne X.K cls c = some b) (q : Q b s) :
    wpAny (model X.prog X.w) (X.A.mark (some (.ref a))) (eval (.Name x p1) X.env) (fun k s1 => wpAny (model X.prog X.w) (X.A.mark (some (.ref a))) (excMatches (.ref a) k) Q E s1) E s := by
  obtain ⟨oe, vs, h1, h2, h3, J⟩ := Y.on
  have ty : PySem.W.Looks (model X.prog X.w) s.heap (typeOf (.ref a)) cls := fun A' Q' E' s' k z => by
    refine wpAny_typeOf_ref (k _ _ h1) ?_
    rw [h2.1]; exact z
  have go := (PySem.W.exm_one (M := model X.prog X.w) Y.inv.kIn ty hb).here (A := X.A.mark (some (.ref a))) (E := E) q
  obtain ⟨hg, hdb, z⟩ := hc
  rcases z with hm | ⟨hm, hv, hne⟩
  · exact ld_glob (X := X.suite a ((a, oe) :: (X.pn ++ pins))) J hg hm go hdb
  · exact ld_blt (X := X.suite a ((a, oe) :: (X.pn ++ pins))) J hg hm hv go hne hdb
/-- a suite's end, back in the frame -/
theorem Landed.back {D : Ends} {q : Addr × Obj} {f : Flow} {s2 : Shared} (ok : X.Ok) (z : SP (X.suite a (q :: (X.pn ++ pins))) [] D f s2) : SP X pins D f s2 := by
  cases f with
  | next => obtain ⟨τ, G, J, w⟩ := z; exact ⟨τ, G, J.unsuite ok, w⟩
  | brk => obtain ⟨τ, G, J, w⟩ := z; exact ⟨τ, G, J.unsuite ok, w⟩
  | cont => obtain ⟨τ, G, J, w⟩ := z; exact ⟨τ, G, J.unsuite ok, w⟩
  | ret u => obtain ⟨v, τ, G, J, r, w⟩ := z; exact ⟨v, τ, G, J.unsuite ok, r, w⟩
/-- .. where the clause's name goes -/
theorem Landed.drop {D : Ends} {q : Addr × Obj} {f : Flow} {s2 : Shared} {n : Str} {i : Nat} {p2 : Pos} {E : Value → Shared → Prop} (ok : X.Ok) (hN : X.N.Nodup) (hi : X.N[i]? = some n) (hl : X.env.kindOf n = some .local) (z : SP (X.suite a (q :: (X.pn ++ pins))) [] (offAt i D) f s2) :
    wpAny (model X.prog X.w) X.A (do bindName X.env n .none; unbindBehindTheSuite X.env n p2) (fun _ s3 => SP X pins D f s3) E s2 := by
  cases f with
  | next => obtain ⟨τ, G, J, w⟩ := z; exact gone_ok (J.unsuite ok) hN hi hl fun s3 J3 => ⟨_, G, J3, w⟩
  | brk => obtain ⟨τ, G, J, w⟩ := z; exact gone_ok (J.unsuite ok) hN hi hl fun s3 J3 => ⟨_, G, J3, w⟩
  | cont => obtain ⟨τ, G, J, w⟩ := z; exact gone_ok (J.unsuite ok) hN hi hl fun s3 J3 => ⟨_, G, J3, w⟩
  | ret u => obtain ⟨v, τ, G, J, r, w⟩ := z; exact gone_ok (J.unsuite ok) hN hi hl fun s3 J3 => ⟨v, _, G, J3, r, w⟩
/-- the clauses, one behind the other -/
theorem Landed.go {hs : List ExceptHandler} {l : List Cl} {out : WX} {D : Ends} (hk : Cls X hs l) (Y : Landed X pins σ H s a B cls d)
    (hno : out cls d σ H → wpAny (model X.prog X.w) X.A (handleBy (.ref a) X.env []) (SP X pins D) X.xe s) (w : wMix X.K out D l cls d σ H) :
    wpAny (model X.prog X.w) X.A (handleBy (.ref a) X.env hs) (SP X pins D) X.xe s := by
  have ok := Y.inv.ok
  induction hk with
  | nil => exact hno w
  | @plain x c ts b₀ su p1 p2 hs l hc hsu r ih =>
    obtain ⟨b, hb, hy, hn⟩ := w
    refine wpAny_handleBy_cons (codeAny_handlers_test ?_) (fun z => nomatch z)
    refine Y.test hc hb ?_
    cases b with
    | false => exact ih (hn rfl)
    | true =>
      refine codeAny_handlers_suite (HandSPX.lands_againZ Y.fly fun h4 fl4 up4 => ?_)
      obtain ⟨oe, vs, e1, e2, e3, J⟩ := (Y.next fl4 up4).on
      exact wpAny_mono ((hsu a oe cls d (X.pn ++ pins) e2 ⟨vs, e3⟩).run [] _ σ H D J (hy rfl a Y.na)) (fun f s2 z => Landed.back ok z) fun _ _ z => z.elim
  | @named x n i c ts b₀ su p1 p2 hs l hc hN hi hl hsu r ih =>
    obtain ⟨b, hb, hy, hn⟩ := w
    refine wpAny_handleBy_cons (codeAny_handlers_test ?_) (fun z => nomatch z)
    refine Y.test hc hb ?_
    cases b with
    | false => exact ih (hn rfl)
    | true =>
      refine codeAny_handlers_suite_as (HandSPX.lands_againZ Y.fly fun h4 fl4 up4 => ?_)
      obtain ⟨oe, vs, e1, e2, e3, J⟩ := (Y.next fl4 up4).on
      refine store_ok (X := X.suite a ((a, oe) :: (X.pn ++ pins))) (v := .ref a) J hN hi (.inl hl) rfl (fun s5 J5 => ?_) (.inr hl)
      exact wpAny_mono ((hsu a oe cls d (X.pn ++ pins) e2 ⟨vs, e3⟩).run [] s5 _ H (offAt i D) J5 (hy rfl a Y.na)) (fun f s2 z => Landed.drop ok hN hi hl z) fun _ _ z => z.elim
/-- no clause takes it: on -/
theorem Landed.on_ {out : WX} {D : Ends} (Y : Landed X pins σ H s a B cls d) (hst : X.stack = X.env :: X.outer) (hf : X.env.frame = some X.env.locals) (tk : Takes X out) (w : out cls d σ H) :
    wpAny (model X.prog X.w) X.A (handleBy (.ref a) X.env []) (SP X pins D) X.xe s := by
  refine wpAny_handleBy_nil ?_
  obtain ⟨_, _, _, oe, vs, T, oT, ts, he, hz, hd, h1, _⟩ := id Y.fly
  unfold PySem.passOn
  refine wpAny_bind (wpAny_field he hd h1 ?_)
  rw [if_neg (show ¬ ((Value.ref T == Value.none) = true) by simp)]
  obtain ⟨s0, J, nb, up, eo, eg⟩ := Y.ex
  have up_ : wpAny (model X.prog X.w) X.A (setFlight (.ref a) X.env.frame) (fun _ s4 => wpAny (model X.prog X.w) X.A (throw (.ref a) : Sem Flow) (SP X pins D) X.xe s4) X.xe s := by
    rw [hf]
    refine HandSPX.setFlight_upZ Y.fly fun h4 k4 u4 => wpAny_throw (tk _ _ ?_)
    exact ⟨a, B, s0, pins, σ, H, cls, d, rfl, J, nb, up.trans u4, .inr (.inr (by rw [hst]; exact k4)), Y.na, eo, eg, w⟩
  first
    | exact wpAny_bind (wpAny_pure (wpAny_bind up_))
    | exact wpAny_bind up_
end
section
variable {X : Cx} {body : List Stmt} {h0 : ExceptHandler} {hs : List ExceptHandler} {l : List Cl} {pos : Pos} {tb : WX → TS} {out : WX}
theorem ps_try_mix (hst : X.stack = X.env :: X.outer) (hf : X.env.frame = some X.env.locals) (tk : Takes X out)
    (hb : ∀ (W : WX) (pn : List (Addr × Obj)) (xe : Value → Shared → Prop), Takes (X.tr pn xe) W → PassesOwn (model X.prog X.w) X.A X.env xe → PSs (X.tr pn xe) body (tb W)) (hk : Cls X (h0 :: hs) l) :
    PS X (.Try body (h0 :: hs) [] [] pos) (fun D σ H => tb (wMix X.K out D l) D σ H) := by
  refine ⟨fun pins s σ H D I h => wpAny_Try_except ?_⟩
  have ok := I.ok
  let xe' : Value → Shared → Prop := fun e s₁ => wpAny (model X.prog X.w) X.A (noteFrame e X.env) (fun _ s₂ => wpAny (model X.prog X.w) X.A (setFlight e none) (fun _ s₃ =>
    wpAny (model X.prog X.w) X.A (handleBy e X.env (h0 :: hs)) (SP X pins D) X.xe s₃) X.xe s₂) X.xe s₁
  have hT : Takes (X.tr (X.pn ++ pins) xe') (wMix X.K out D l) := fun u s' xx => by
    obtain ⟨a, B, s0, pins', τ, G, cls, d, rfl, J', nb, up, sky, na, eo, eg, w⟩ := xx
    have J : L2.Inv X pins τ G s0 := J'.ofTry ok
    have sky' : Sky B (X.env :: X.outer) a (Zc cls d) X.env.locals s'.heap := by rw [← hst]; exact sky
    show wpAny (model X.prog X.w) X.A (noteFrame (.ref a) X.env) _ _ _
    refine Sky.land Zc.steady (by rw [ok.frames, hst]) hf sky' fun h3 f3 u3 => ?_
    have notIn : a ∉ frs (X.env :: X.outer) := fun hm => by
      obtain ⟨oe, vs, e1, _, e3⟩ := f3.there
      obtain ⟨_, o', e', nf⟩ := f3.2.2.1.mem hm
      rw [e1] at e'; cases e'
      exact nf _ e3
    have Y : Landed X pins τ G { s' with heap := h3 } a B cls d := ⟨⟨s0, J, nb, up.trans u3, eo, eg⟩, f3, na,
      fun z => notIn (List.mem_filterMap.mpr ⟨X.env, List.mem_cons_self, by rw [hf, z]⟩), fun hm => by
        obtain ⟨e, he, q⟩ := List.mem_filterMap.mp hm
        exact notIn (List.mem_filterMap.mpr ⟨e, List.mem_cons_of_mem _ he, q⟩)⟩
    exact Y.go hk (Y.on_ hst hf tk) w
  refine wpAny_mono ((hb (wMix X.K out D l) (X.pn ++ pins) xe' hT PassesOwn.looking).run [] s σ H D (I.toTry _) h) (fun f s1 z => ?_) fun e s1 z => z
  cases f with
  | next => obtain ⟨τ, G, J, w⟩ := z; exact wpAny_execs_nil ⟨τ, G, J.ofTry ok, w⟩
  | brk => obtain ⟨τ, G, J, w⟩ := z; exact ⟨τ, G, J.ofTry ok, w⟩
  | cont => obtain ⟨τ, G, J, w⟩ := z; exact ⟨τ, G, J.ofTry ok, w⟩
  | ret u => obtain ⟨v, τ, G, J, r, w⟩ := z; exact ⟨v, τ, G, J.ofTry ok, r, w⟩
end
end MX
set_option Elab.async false
set_option linter.all false
set_option maxRecDepth 100000
set_option maxHeartbeats 4000000
/-! repr of plain data. -/
namespace MP
open PySem PySem.Spec PyProof.Rows L2 MX

def optAll (f : D → Option PyData) : List D → Option (List PyData)
  | [] => some []
  | d :: ds => match f d, optAll f ds with
    | some x, some xs => some (x :: xs)
    | _, _ => none
/-- plain data without dicts, as the library has it -/
def pyN (S : Sto) : Nat → D → Option PyData
  | 0, _ => none
  | n + 1, d => match d with
    | .non => some .none
    | .bl b => some (.bool b)
    | .int i => some (.int i)
    | .str x => some (.str x)
    | .tup ds => (optAll (pyN S n) ds).map .tuple
    | .fl ds => (optAll (pyN S n) ds).map .list
    | .ref k => match S[k]? with
      | some (.lst ds) => (optAll (pyN S n) ds).map .list
      | _ => none
    | .fn _ => none
def pyT (S : Sto) (d : D) : Option PyData := match d with
  | .ref k => match S[k]? with
    | some (.dk []) => some (.dict [])
    | _ => pyN S 8 d
  | _ => pyN S 8 d
def nRepr : FN := fun ds S => match ds with
  | [d] => match pyT S d with
    | some p => if (p.showable && decide (p.shown.length ≤ sizeLine)) = true then .ok (.str p.shown) S else .stuck
    | none => .stuck
  | _ => .stuck
section
variable {M : Md} {X : Cx} {W : WX} {pins : List (Addr × Obj)} {σ : L2.St} {g : Wd} {s : Shared}
theorem depthAll_le {n : Nat} : ∀ {l : List PyData}, (∀ p ∈ l, p.depth ≤ n) → PyData.depthAll l ≤ n
  | [], _ => by simp [PyData.depthAll]
  | p :: l, h => by
    have h1 := h p List.mem_cons_self
    have h2 := depthAll_le (l := l) fun q hq => h q (List.mem_cons_of_mem _ hq)
    simp only [PyData.depthAll]
    omega
theorem hasDictAll_no : ∀ {l : List PyData}, (∀ p ∈ l, p.hasDict = false) → PyData.hasDictAll l = false
  | [], _ => by simp [PyData.hasDictAll]
  | p :: l, h => by
    have h1 := h p List.mem_cons_self
    have h2 := hasDictAll_no (l := l) fun q hq => h q (List.mem_cons_of_mem _ hq)
    simp [PyData.hasDictAll, h1, h2]
theorem optAll_reads {f : D → Option PyData} {h : Heap} {n : Nat} (hf : ∀ d v u p, DV M g d v → RelV v u → f d = some p → (∃ as, Reads h u p as) ∧ p.hasDict = false ∧ p.depth ≤ n) :
    ∀ {ds : List D} {vs : List V} {us : List Value} {ps : List PyData}, DVs M g ds vs → Vals vs us → optAll f ds = some ps → (∃ as, ReadsAll h us ps as) ∧ ∀ p ∈ ps, p.hasDict = false ∧ p.depth ≤ n
  | [], _, _, ps, .nil, .nil, e => by
    cases (show some [] = some ps from e)
    exact ⟨⟨_, .nil⟩, fun p hp => by cases hp⟩
  | d :: ds, _, _, ps, .cons hd hds, .cons r rs, e => by
    unfold optAll at e
    split at e
    · rename_i x xs e1 e2
      cases e
      obtain ⟨⟨as, q1⟩, q2, q3⟩ := hf _ _ _ _ hd r e1
      obtain ⟨⟨bs, q4⟩, q5⟩ := optAll_reads hf hds rs e2
      refine ⟨⟨_, .cons q1 q4⟩, fun p hp => ?_⟩
      rcases List.mem_cons.mp hp with rfl | hp
      · exact ⟨q2, q3⟩
      · exact q5 p hp
    · cases e
theorem pyN_reads (I : L2.Inv X pins σ g.H s) (hK : X.K = M.K) (r : Rep M g) : ∀ (n : Nat) (d : D) (v : V) (u : Value) (p : PyData), DV M g d v → RelV v u → pyN g.S n d = some p → (∃ as, Reads s.heap u p as) ∧ p.hasDict = false ∧ p.depth ≤ 2 * n
  | 0, _, _, _, _, _, _, e => by cases e
  | n + 1, d, v, u, p, hd, ru, e => by
    have ih := pyN_reads I hK r n
    have lst : ∀ {a : Addr} {ds : List D} {xs : List V} {p : PyData}, SqL M.K g.H a xs → DVs M g ds xs → (optAll (pyN g.S n) ds).map PyData.list = some p → (∃ as, Reads s.heap (.ref a) p as) ∧ p.hasDict = false ∧ p.depth ≤ 2 * (n + 1) := fun {a ds xs p} h1 h2 e => by
      rw [← hK] at h1
      obtain ⟨ps, e1, e2⟩ := Option.map_eq_some_iff.mp e
      subst e2
      obtain ⟨its, rv, ⟨o, m, w1, w2, w3, w4⟩, _⟩ := I.list h1
      obtain ⟨⟨as, q⟩, q2⟩ := optAll_reads ih h2 rv e1
      refine ⟨⟨_, .list w1 w2 w4 (by simpa using q)⟩, ?_, ?_⟩
      · simp only [PyData.hasDict]
        exact hasDictAll_no fun p hp => (q2 p hp).1
      · have := depthAll_le fun p hp => (q2 p hp).2
        simp only [PyData.depth]
        omega
    cases d with
    | non =>
      cases hd
      obtain rfl : u = Value.none := ru
      cases (show some PyData.none = some p from e)
      exact ⟨⟨_, .none⟩, by simp [PyData.hasDict], by simp [PyData.depth]⟩
    | bl b =>
      cases hd
      obtain rfl : u = Value.bool b := ru
      cases (show some (PyData.bool b) = some p from e)
      exact ⟨⟨_, .bool b⟩, by simp [PyData.hasDict], by simp [PyData.depth]⟩
    | int i =>
      cases hd
      obtain ⟨t, rfl⟩ := (show ∃ t, u = Value.int i t from ru)
      cases (show some (PyData.int i) = some p from e)
      exact ⟨⟨_, .int i t⟩, by simp [PyData.hasDict], by simp [PyData.depth]⟩
    | str i =>
      cases hd
      obtain ⟨t, rfl⟩ := (show ∃ t, u = Value.str i t from ru)
      cases (show some (PyData.str i) = some p from e)
      exact ⟨⟨_, .str i t⟩, by simp [PyData.hasDict], by simp [PyData.depth]⟩
    | fn i => cases e
    | tup ds =>
      cases hd with
      | tup h1 h2 =>
        rename_i a xs
        obtain rfl : u = Value.ref a := ru
        rw [← hK] at h1
        obtain ⟨ps, e1, e2⟩ := Option.map_eq_some_iff.mp (show (optAll (pyN g.S n) ds).map PyData.tuple = some p from e)
        subst e2
        obtain ⟨its, rv, ⟨o, w1, w2, m, w3⟩, _⟩ := I.tuple h1
        obtain ⟨⟨as, q⟩, q2⟩ := optAll_reads ih h2 rv e1
        refine ⟨⟨_, .tuple w1 w2 w3 (by simpa using q)⟩, ?_, ?_⟩
        · simp only [PyData.hasDict]
          exact hasDictAll_no fun p hp => (q2 p hp).1
        · have := depthAll_le fun p hp => (q2 p hp).2
          simp only [PyData.depth]
          omega
    | fl ds =>
      cases hd with
      | fl h1 h2 =>
        rename_i a xs
        obtain rfl : u = Value.ref a := ru
        refine lst ?_ h2 (show (optAll (pyN g.S n) ds).map PyData.list = some p from e)
        rcases h1 with ⟨o, h1⟩ | h1
        · exact .inl (.inr ⟨o, h1⟩)
        · exact .inr h1
    | ref k =>
      obtain ⟨rfl, _⟩ := hd.refI
      obtain rfl : u = Value.ref (g.μ k) := ru
      have e : (match g.S[k]? with
        | some (.lst ds) => (optAll (pyN g.S n) ds).map PyData.list
        | _ => none) = some p := e
      split at e
      · rename_i ds hk
        obtain ⟨xs, hx, hxs⟩ := r.lst hk
        exact lst (.inl (.inl hx)) hxs e
      · cases e
theorem call_reprD (hK : X.K = M.K) (hg : X.A.guards = some []) (un : X.A.units + 200 < cLine) : CallR X (.builtin "repr") (fun xs H Q => ∃ (g : Wd) (d : D) (v : V) (p : PyData), xs = [v] ∧ g.H = H ∧ Rep M g ∧ DV M g d v ∧ pyT g.S d = some p ∧ p.showable = true ∧ p.shown.length ≤ sizeLine ∧ Q (.str p.shown) H) := by
  intro pins s σ H xs us Q I r h
  obtain ⟨g, d, v, p, rfl, rfl, rp, hd, e, hs, hz, q⟩ := h
  obtain ⟨u, rfl, ru⟩ := vals1 r

  have fin : ∀ {a : Addr} {as : List Addr}, u = .ref a → Reads s.heap u p as → (p.hasDict = true → sysModules ∉ as) → p.depth ≤ 100 → wpAny (model X.prog X.w) X.A (call (.builtin "repr") [u]) (EP X pins σ Q) X.xe s := fun {a as} hu hrd hsm hdp => by
    subst hu
    exact repr_of_reads' hrd hs hsm hg (by omega) (fun _ _ e => e) (fun h' t tk k => ⟨.str p.shown, g.H, I.kept k, ⟨_, rfl⟩, q⟩) hz
  by_cases hdk : ∃ k, d = .ref k ∧ g.S[k]? = some (.dk [])
  · obtain ⟨k, rfl, hk⟩ := hdk
    have e2 : pyT g.S (.ref k) = some (.dict []) := by simp only [pyT, hk]
    rw [e2] at e
    cases e
    obtain ⟨rfl, _⟩ := hd.refI
    obtain rfl : u = Value.ref (g.μ k) := ru
    obtain ⟨ws, hw, hkd⟩ := rp.obj k _ hk
    cases hkd
    obtain ⟨_, hsys, vs, rel, o, es, ep, w1, w2, w3, w4, w5, w6⟩ := (show ObjOk X.prog X.w g.H s.heap (g.μ k) (.dK []) from I.hok _ _ hw)
    cases rel
    have es0 : es.toList = [] := by
      cases hl : es.toList with
      | nil => rfl
      | cons x l => rw [hl] at w5; cases w5
    refine fin (as := [g.μ k]) rfl (.dict (kvs := []) (as := []) (bs := []) w1 w2.1 w3 (by rw [es0]; exact .nil) (by rw [es0]; exact .nil)) (fun _ hm => ?_) (by simp [PyData.depth, PyData.depthKv])
    rcases List.mem_cons.mp hm with z | z
    · rw [← z] at hsys
      simp at hsys
    · cases z
  · have e : pyN g.S 8 d = some p := by
      unfold pyT at e
      split at e
      · rename_i k
        split at e
        · rename_i hk
          exact absurd ⟨k, rfl, hk⟩ hdk
        · exact e
      · exact e
    obtain ⟨⟨as, hrd⟩, hnd, hdp⟩ := pyN_reads I hK rp 8 d v u p hd ru e
    cases hrd with
    | none => exact PySem.P.repr_of_none ⟨.str _, g.H, I.tok _, ⟨_, rfl⟩, by simpa only [PyData.shown] using q⟩
    | bool b => exact PySem.P.repr_of_bool ⟨.str _, g.H, I.tok _, ⟨_, rfl⟩, by simpa only [PyData.shown] using q⟩
    | int i t => exact PySem.P.repr_of_int (by simpa [PyData.showable] using hs) ⟨.str _, g.H, I.tok _, ⟨_, rfl⟩, by simpa only [PyData.shown] using q⟩
    | str x t => exact PySem.P.repr_of_str ⟨.str _, g.H, I.tok _, ⟨_, rfl⟩, by simpa only [PyData.shown] using q⟩ (by simpa only [PyData.shown] using hz)
    | list w1 w2 w3 w4 => exact fin rfl (.list w1 w2 w3 w4) (fun z => by rw [hnd] at z; cases z) (by omega)
    | tuple w1 w2 w3 w4 => exact fin rfl (.tuple w1 w2 w3 w4) (fun z => by rw [hnd] at z; cases z) (by omega)
    | dict w1 w2 w3 w4 w5 => exact fin rfl (.dict w1 w2 w3 w4 w5) (fun z => by rw [hnd] at z; cases z) (by omega)
theorem on_repr : OpN M (fun xs H Q => ∃ (g : Wd) (d : D) (v : V) (p : PyData), xs = [v] ∧ g.H = H ∧ Rep M g ∧ DV M g d v ∧ pyT g.S d = some p ∧ p.showable = true ∧ p.shown.length ≤ sizeLine ∧ Q (.str p.shown) H) nRepr := by
  intro g ds vs Q E r hv h
  unfold nRepr at h
  split at h
  · split at h
    · rename_i d p hp
      split at h
      · rename_i hz
        obtain ⟨v, rfl, h1⟩ := hv.one
        simp only [Bool.and_eq_true, decide_eq_true_eq] at hz
        exact ⟨g, _, v, _, rfl, rfl, r, h1, hp, hz.1, hz.2, h.here r _ (.str _)⟩
      · exact h.elim
    · exact h.elim
  · exact h.elim
end
end MP
set_option Elab.async false
set_option linter.all false
set_option maxRecDepth 100000
set_option maxHeartbeats 4000000
/-! raise, try, over plain data. -/
namespace MP
open PySem PySem.Spec PyProof.Rows L2 MX

/-- the module's x is the exception class number c, without an __init__ of its own -/
structure Kc0 (mg : Str → Option Value) (M : Md) (x : Str) (c : Nat) : Prop where
  ex : ∃ B newId initId bmB, ExcBaseFacts B newId initId bmB ∧ PySem.W.excIn M.K (M.ca c) bmB newId = true
  m : mg x = some (.ref (M.ca c))
  kp : PySem.W.keepIn M.K (.ref (M.ca c)) = true
  exC : PySem.W.subIn M.K (.ref (M.ca c)) (.type "BaseException") = some true
  tyC : PySem.W.typeIn M.K (.ref (M.ca c)) = some (.type "type")
/-- .. with __init__: super().__init__('..'); self.f = given -/
structure Kc1 (P : Program) (mg : Str → Option Value) (M : Md) (x : Str) (c : Nat) (f : Str) : Prop where
  ex : ∃ B newId initId bmB fI cc cda slf giv txt, SupB B newId initId bmB ∧ SupK P M.K B newId initId bmB (M.ca c) fI cc cda f slf giv txt
  m : mg x = some (.ref (M.ca c))
section
variable {M : Md} {X : Cx} {W : WX}
def sRaise0 (c : Nat) : Fst := fun ρ S => .exc ⟨c, none⟩ ρ S
def sRaise1 (c : Nat) (f : Str) (fe : Fe) : Fst := fun ρ S => thenS (fe ρ S) ρ fun d S1 => .exc ⟨c, some (f, d)⟩ ρ S1
theorem ms_raise0 {x m : Str} {c j : Nat} {p p2 pos pos' : Pos} (hK : X.K = M.K) (hc : X.calm = true) (tk : Takes X W) (k : Kc0 X.mg M x c) (hg : Gl X x := by rfl) (hdb : (x == ("__debug__" : Str)) = false := by decide) :
    MS M X W (.Raise (some (.Call (.Name x p) [.Constant (.str m) j p2] [] pos)) none pos') (sRaise0 c) := by
  obtain ⟨B, newId, initId, bmB, F, q⟩ := k.ex
  refine PS.imp (ps_raise hc tk (pmk_own F (by rw [hK]; exact q) k.m (by rw [hK]; exact k.kp) (raises_own (by rw [hK]; exact k.exC) (by rw [hK]; exact k.tyC)) hg hdb)) fun Dn σ H z => ?_
  obtain ⟨g, ρ, rfl, rp, en, z⟩ := z
  exact z g rfl Gr.refl rp σ en _ _ ⟨rfl, rfl⟩
theorem ms_raise1 {x f : Str} {c : Nat} {p pos pos' : Pos} {e : Expr} {fe : Fe} (hK : X.K = M.K) (hc : X.calm = true) (tk : Takes X W) (k : Kc1 X.prog X.mg M x c f) {n : Nat} (hr : Room n X.A) (he : ME M X W e fe) (hg : Gl X x := by rfl) (hdb : (x == ("__debug__" : Str)) = false := by decide)
    (hst : starEach (e :: []) X.env = (false, eval e X.env) :: starEach [] X.env := by rfl) (hpl : (backTo pos (starEach [] X.env)).any (·.1) = false := by rfl) :
    MS M X W (.Raise (some (.Call (.Name x p) [e] [] pos)) none pos') (sRaise1 c f fe) := by
  obtain ⟨B, newId, initId, bmB, fI, cc, cda, slf, giv, txt, SB, SK⟩ := k.ex
  rw [← hK] at SK
  refine PS.imp (ps_raise hc tk (pmk_sup SB SK (by have := hr.dp; omega) hg k.m he hdb hst hpl)) fun Dn σ H z => ?_
  obtain ⟨g, ρ, rfl, rp, en, z⟩ := z
  have q := AftS.ofE rp en z
  exact tE.go rp en (q.mono (fun d g1 k1 r1 q1 v hv => ⟨v, rfl, fun dx hdx => q1 ⟨g1.μ, g1.S, upd g1.H dx (.xd [(f, v)])⟩ rfl (Gr.laid hdx) (r1.laid hdx) σ ((en.mono rp k1).mono r1 (Gr.laid hdx)) _ _ ⟨rfl, dx, v, rfl, upd_same, hv.mono r1 (Gr.laid hdx)⟩⟩) fun _ _ _ _ z => z)

/-! ### suites that return a value -/
abbrev FX := Xn → Sto → Rs D
def RtOk (M : Md) (g : Wd) (r : Rs D) (D0 : Ends) : Prop := match r with
  | .ok d S1 => ∀ g', g'.S = S1 → Gr g g' → Rep M g' → ∀ v, DV M g' d v → D0.rt v g'.H
  | _ => False
def tSu (M : Md) (io : Option Nat) (c : Nat) (su : FX) : SuT := fun a cls d D σ H => ∃ g x, g.H = H ∧ Rep M g ∧ XV M g x cls d ∧ (∀ i, io = some i → σ[i]? = some (some (.ref a))) ∧ RtOk M g (su x g.S) D
theorem envNone {g : Wd} {σ : L2.St} : EnvOk M g (List.replicate σ.length none) σ := ⟨by simp, fun i d h => by
  rw [List.getElem?_replicate] at h
  split at h <;> cases h⟩
theorem RtOk.aft {g : Wd} {r : Rs D} {D0 : Ends} {E : Xn → Wd → Prop} (h : RtOk M g r D0) : Aft M g r (PD M D0.rt) E := by
  cases r with
  | ok d S1 => exact fun g' e k r v hv => h g' e k r v hv
  | exc x S => exact h.elim
  | stuck => exact h.elim
theorem su_pure {io : Option Nat} {c : Nat} {e : Expr} {pos : Pos} {fe : Fe} (he : ∀ (a : Addr) (pn : List (Addr × Obj)), ME M (X.suite a pn) (fun _ _ _ _ => False) e fe) (hfe : ∀ ρ S, fe ρ S = fe [] S) : SuOk X [.Return (some e) pos] (tSu M io c fun _ S => fe [] S) := by
  intro a oe cls d pn hz hf
  refine PSs.imp (pss_one (ps_ret (he a ((a, oe) :: pn)))) fun D0 σ H q => ?_
  obtain ⟨g, x, rfl, rp, hx, hi, q⟩ := q
  exact ⟨g, List.replicate σ.length none, rfl, rp, envNone, by rw [hfe]; exact q.aft⟩
/-- what a class must have for its field to be read -/
structure Kf (M : Md) (c : Nat) (f : Str) : Prop where
  T : XfC M.K (M.ca c)
  no : PySem.W.findIn M.K (.ref (M.ca c)) f = some none
/-- the kept value -/
def kept (c : Nat) (f : Str) (x : Xn) : Option D := match x.arg with
  | some (f', k) => if x.c = c ∧ f' = f then some k else none
  | none => none
theorem kept_v {g : Wd} {c : Nat} {f : Str} {x : Xn} {k : D} {cls : Value} {d : Option Addr} (h : kept c f x = some k) (hx : XV M g x cls d) : cls = .ref (M.ca c) ∧ ∃ dx v, d = some dx ∧ g.H dx = some (.xd [(f, v)]) ∧ DV M g k v := by
  obtain ⟨xc, xa⟩ := x
  obtain ⟨h1, h2⟩ := hx
  cases xa with
  | none => cases h
  | some q =>
    obtain ⟨f', k'⟩ := q
    have h : (if xc = c ∧ f' = f then some k' else none) = some k := h
    by_cases z : xc = c ∧ f' = f
    · rw [if_pos z] at h
      cases h
      obtain ⟨rfl, rfl⟩ := z
      exact ⟨h1, h2⟩
    · rw [if_neg z] at h
      cases h
section
variable {a : Addr} {oe : Obj} {cls : Value} {d : Option Addr} {pn : List (Addr × Obj)} {n f : Str} {c i : Nat} {p p1 : Pos}
/-- e.f in the suite -/
theorem pe_kept (hK : X.K = M.K) (K : Kf M c f) (hz : Zc cls d oe) (hf : ∃ vs, oe.data = .fields vs) (hN : X.N[i]? = some n) (hv : Vis X.env.scope n) (hdb : (n == ("__debug__" : Str)) = false := by decide) (hcd : (n == ("__classdict__" : Str)) = false := by decide)
    (hb : attributeBase (.Name n p) f X.env (eval (.Name n p) X.env) = eval (.Name n p) X.env := by rfl) : PE (X.suite a ((a, oe) :: pn)) (.Attribute (.Name n p) f p1) (tXf a cls d (M.ca c) f (tVar i)) :=
  pe_xf (by rw [hK]; exact K.T) (by rw [hK]; exact K.no) hz hf (pe_var (X := X.suite a ((a, oe) :: pn)) hN hv hdb hcd) hb
theorem tXf_go {g : Wd} {σ : L2.St} {x : Xn} {k : D} {Q : VK} (h : kept c f x = some k) (hx : XV M g x cls d) (hi : σ[i]? = some (some (.ref a))) (q : ∀ v, DV M g k v → Q v g.H) : tXf a cls d (M.ca c) f (tVar i) σ g.H Q := by
  obtain ⟨h1, dx, v, h2, h3, h4⟩ := kept_v h hx
  exact ⟨.ref a, hi, rfl, h1, dx, [(f, v)], v, h2, h3, by simp [List.lookup], q v h4⟩
end
/-- return ('t', e.f) -/
def fSu2 (t : Str) (c : Nat) (f : Str) : FX := fun x S => match kept c f x with
  | some k => .ok (.tup [.str t, k]) S
  | none => .stuck
theorem su_2 {n f t : Str} {c i j j2 : Nat} {p1 p2 p3 p4 p5 : Pos} (hK : X.K = M.K) (K : Kf M c f) (hN : X.N[i]? = some n) (hv : Vis X.env.scope n) (hdb : (n == ("__debug__" : Str)) = false := by decide) (hcd : (n == ("__classdict__" : Str)) = false := by decide)
    (hb : attributeBase (.Name n p2) f X.env (eval (.Name n p2) X.env) = eval (.Name n p2) X.env := by rfl) (hs1 : starEach [.Constant (.str t) j p1, .Attribute (.Name n p2) f p3] X.env = (false, eval (.Constant (.str t) j p1) X.env) :: starEach [.Attribute (.Name n p2) f p3] X.env := by rfl)
    (hs2 : starEach [.Attribute (.Name n p2) f p3] X.env = (false, eval (.Attribute (.Name n p2) f p3) X.env) :: starEach [] X.env := by rfl) :
    SuOk X [.Return (some (.Tuple [.Constant (.str t) j p1, .Attribute (.Name n p2) f p3] j2 p4)) p5] (tSu M (some i) c (fSu2 t c f)) := by
  intro a oe cls d pn hz hf
  refine PSs.imp (pss_one (ps_ret (pe_tup (pa_cons (X := X.suite a ((a, oe) :: pn)) pe_str (pa_cons (pe_kept hK K hz hf hN hv hdb hcd hb) pa_nil hs2) hs1)))) fun D0 σ H q => ?_
  obtain ⟨g, x, rfl, rp, hx, hi, q⟩ := q
  unfold fSu2 at q
  split at q
  · rename_i k hk
    refine tXf_go hk hx (hi i rfl) fun v hv => ⟨by show 2 ≤ sizeLine; rw [sizeLine_eq]; omega, fun p hp => ?_⟩
    exact new_tup (E := fun _ _ => True) rp (RtOk.aft q) hp _ (dv_new rp hp (.cons (.str t) (.cons hv .nil)))
  · exact q.elim
/-- return ('t', 'u' + repr(e.f)) -/
def fSu3 (t u : Str) (c : Nat) (f : Str) : FX := fun x S => match kept c f x with
  | some k => (nRepr [k] S).bind fun r S1 => (dAdd (.str u) r S1).bind fun z S2 => .ok (.tup [.str t, z]) S2
  | none => .stuck
theorem su_3 {n f t u : Str} {c i j j2 j3 : Nat} {p1 p2 p3 p4 p5 p6 p7 p8 p9 : Pos} (hK : X.K = M.K) (hg : X.A.guards = some []) (un : X.A.units + 200 < cLine) (hr : Gl X "repr") (hm : X.mg "repr" = none) (K : Kf M c f) (hN : X.N[i]? = some n) (hv : Vis X.env.scope n) (hdb : (n == ("__debug__" : Str)) = false := by decide) (hcd : (n == ("__classdict__" : Str)) = false := by decide)
    (hb : attributeBase (.Name n p2) f X.env (eval (.Name n p2) X.env) = eval (.Name n p2) X.env := by rfl) (hs1 : starEach [.Constant (.str t) j p1, .BinOp (.Constant (.str u) j3 p6) .Add (.Call (.Name "repr" p7) [.Attribute (.Name n p2) f p3] [] p8) p9] X.env = (false, eval (.Constant (.str t) j p1) X.env) :: starEach [.BinOp (.Constant (.str u) j3 p6) .Add (.Call (.Name "repr" p7) [.Attribute (.Name n p2) f p3] [] p8) p9] X.env := by rfl)
    (hs2 : starEach [.BinOp (.Constant (.str u) j3 p6) .Add (.Call (.Name "repr" p7) [.Attribute (.Name n p2) f p3] [] p8) p9] X.env = (false, eval (.BinOp (.Constant (.str u) j3 p6) .Add (.Call (.Name "repr" p7) [.Attribute (.Name n p2) f p3] [] p8) p9) X.env) :: starEach [] X.env := by rfl)
    (hs3 : starEach [.Attribute (.Name n p2) f p3] X.env = (false, eval (.Attribute (.Name n p2) f p3) X.env) :: starEach [] X.env := by rfl) :
    SuOk X [.Return (some (.Tuple [.Constant (.str t) j p1, .BinOp (.Constant (.str u) j3 p6) .Add (.Call (.Name "repr" p7) [.Attribute (.Name n p2) f p3] [] p8) p9] j2 p4)) p5] (tSu M (some i) c (fSu3 t u c f)) := by
  intro a oe cls d pn hz hf
  refine PSs.imp (pss_one (ps_ret (pe_tup (pa_cons (X := X.suite a ((a, oe) :: pn)) pe_str (pa_cons (pe_op op_addA pe_str (pe_callB (call_reprD (M := M) hK hg un) hr hm boot_repr (pa_cons (pe_kept hK K hz hf hN hv hdb hcd hb) pa_nil hs3) (by decide) (by decide) hs3)) pa_nil hs2) hs1)))) fun D0 σ H q => ?_
  obtain ⟨g, x, rfl, rp, hx, hi, q⟩ := q
  unfold fSu3 at q
  split at q
  · rename_i k hk
    refine tXf_go hk hx (hi i rfl) fun v hv => ?_
    have q1 := Aft.bind (α := D) (k := fun r S1 => (dAdd (.str u) r S1).bind fun z S2 => .ok (.tup [.str t, z]) S2) (RtOk.aft (E := fun _ _ => True) q)
    refine on_repr g [k] [v] (fun y H2 => rAddA X.K (.str u) y H2 fun z H3 => [V.str t, z].length ≤ sizeLine ∧ ∀ p, H3 p = none → D0.rt (.ref p) (upd H3 p (.tup [V.str t, z]))) (fun _ _ => True) rp (.cons hv .nil) (q1.mono (fun r g1 k1 r1 q2 rv hrv => ?_) fun _ _ _ _ _ => trivial)
    have q3 := Aft.bind (α := D) (k := fun z S2 => (Rs.ok (D.tup [D.str t, z]) S2 : Rs D)) q2
    show rAddA X.K (.str u) rv g1.H _
    rw [hK]
    refine o2_add g1 (.str u) r _ rv _ _ r1 (.str u) hrv (q3.mono (fun z g2 k2 r2 q4 zv hzv => ?_) fun _ _ _ _ _ => trivial)
    refine ⟨by show 2 ≤ sizeLine; rw [sizeLine_eq]; omega, fun p hp => ?_⟩
    exact new_tup (E := fun _ _ => True) r2 q4 hp _ (dv_new r2 hp (.cons (.str t) (.cons hzv .nil)))
  · exact q.elim
/-- return ('t', 'u', repr(e.f)) -/
def fSu4 (t u : Str) (c : Nat) (f : Str) : FX := fun x S => match kept c f x with
  | some k => (nRepr [k] S).bind fun z S1 => .ok (.tup [.str t, .str u, z]) S1
  | none => .stuck

/-! ### try -/
structure DCl where
  c : Nat
  i : Option Nat
  su : FX
def pickCl (sub : Nat → Nat → Bool) (x : Xn) : List DCl → Rho → Sto → RsS
  | [], ρ, S => .exc x ρ S
  | q :: l, ρ, S => if sub x.c q.c = true then (if (match q.i with | none => true | some i => decide (i < ρ.length)) = true then (match q.su x S with | .ok d S1 => .fl (.ret d) S1 | _ => .stuck) else .stuck) else pickCl sub x l ρ S
def sTry (nc : Nat) (sub : Nat → Nat → Bool) (b : Fst) (l : List DCl) : Fst := fun ρ S => match b ρ S with
  | .exc x ρ1 S1 => if decide (x.c < nc) = true then pickCl sub x l ρ1 S1 else .stuck
  | r => r
inductive Dcs (M : Md) (X : Cx) (nc : Nat) : List ExceptHandler → List DCl → Prop
  | nil : Dcs M X nc [] []
  | plain {x : Str} {c : Nat} {su : FX} {b₀ : Stmt} {st : List Stmt} {p1 p2 : Pos} {hs : List ExceptHandler} {l : List DCl} : c < nc → X.mg x = some (.ref (M.ca c)) → Gl X x → (x == ("__debug__" : Str)) = false → SuOk X (b₀ :: st) (tSu M none c su) → Dcs M X nc hs l → Dcs M X nc (.ExceptHandler (some (.Name x p1)) none (b₀ :: st) p2 :: hs) (⟨c, none, su⟩ :: l)
  | named {x n : Str} {i c : Nat} {su : FX} {b₀ : Stmt} {st : List Stmt} {p1 p2 : Pos} {hs : List ExceptHandler} {l : List DCl} : c < nc → X.mg x = some (.ref (M.ca c)) → Gl X x → (x == ("__debug__" : Str)) = false → X.N.Nodup → X.N[i]? = some n → X.env.kindOf n = some .local → SuOk X (b₀ :: st) (tSu M (some i) c su) → Dcs M X nc hs l →
      Dcs M X nc (.ExceptHandler (some (.Name x p1)) (some n) (b₀ :: st) p2 :: hs) (⟨c, some i, su⟩ :: l)
def clOf (M : Md) (q : DCl) : Cl := ⟨.ref (M.ca q.c), q.i, tSu M q.i q.c q.su⟩
theorem Dcs.cls {nc : Nat} {hs : List ExceptHandler} {l : List DCl} (h : Dcs M X nc hs l) : Cls X hs (l.map (clOf M)) := by
  induction h with
  | nil => exact .nil
  | plain h1 h2 h3 h4 h5 _ ih => exact .plain ⟨h3, h4, .inl h2⟩ h5 ih
  | named h1 h2 h3 h4 h5 h6 h7 h8 _ ih => exact .named ⟨h3, h4, .inl h2⟩ h5 h6 h7 h8 ih
theorem Dcs.lt {nc : Nat} {hs : List ExceptHandler} {l : List DCl} (h : Dcs M X nc hs l) : ∀ q ∈ l, q.c < nc := by
  induction h with
  | nil => intro q hq; cases hq
  | plain h1 h2 h3 h4 h5 _ ih =>
    intro q hq
    rcases List.mem_cons.mp hq with rfl | hq
    · exact h1
    · exact ih q hq
  | named h1 h2 h3 h4 h5 h6 h7 h8 _ ih =>
    intro q hq
    rcases List.mem_cons.mp hq with rfl | hq
    · exact h1
    · exact ih q hq
/-- which class is below which -/
structure Kx (M : Md) (nc : Nat) (sub : Nat → Nat → Bool) : Prop where
  at_ : ∀ i j, i < nc → j < nc → PySem.W.exmOne M.K (.ref (M.ca i)) (.ref (M.ca j)) = some (sub i j)
theorem mix_ok {nc : Nat} {sub : Nat → Nat → Bool} (Z : Kx M nc sub) {g : Wd} {ρ : Rho} {σ : L2.St} {x : Xn} {cls : Value} {d : Option Addr} {Dn : Ends} (rp : Rep M g) (en : EnvOk M g ρ σ) (hx : XV M g x cls d) (hc : x.c < nc) :
    ∀ (l : List DCl), (∀ q ∈ l, q.c < nc) → AftS M g (pickCl sub x l ρ g.S) Dn W → wMix M.K W Dn (l.map (clOf M)) cls d σ g.H
  | [], _, q => q g rfl Gr.refl rp σ en cls d hx
  | e :: l, hl, q => by
    have h1 := Z.at_ x.c e.c hc (hl e List.mem_cons_self)
    refine ⟨sub x.c e.c, by rw [hx.1]; exact h1, fun hb a ha => ?_, fun hb => ?_⟩
    · unfold pickCl at q
      rw [if_pos hb] at q
      by_cases hi : (match e.i with | none => true | some i => decide (i < ρ.length)) = true
      · rw [if_pos hi] at q
        obtain ⟨ec, ei, es⟩ := e
        have q : AftS M g (match es x g.S with | .ok d S1 => .fl (.ret d) S1 | _ => .stuck) Dn W := q
        have rt : RtOk M g (es x g.S) Dn := by
          cases hr : es x g.S with
          | ok r S1 => rw [hr] at q; exact fun g' e k r v hv => q g' e k r v hv
          | exc y S => rw [hr] at q; exact q.elim
          | stuck => rw [hr] at q; exact q.elim
        cases ei with
        | none => exact ⟨g, x, rfl, rp, hx, fun i z => (by cases z), rt⟩
        | some i =>
          refine ⟨g, x, rfl, rp, hx, fun j z => ?_, rt⟩
          cases z
          have hi : i < ρ.length := by simpa using hi
          rw [List.getElem?_set_self (by rw [← en.len]; exact hi)]
      · rw [if_neg hi] at q
        exact q.elim
    · unfold pickCl at q
      rw [if_neg (by rw [hb]; decide)] at q
      exact mix_ok Z rp en hx hc l (fun q hq => hl q (List.mem_cons_of_mem _ hq)) q
theorem ms_try {nc : Nat} {sub : Nat → Nat → Bool} {body : List Stmt} {h0 : ExceptHandler} {hs : List ExceptHandler} {l : List DCl} {pos : Pos} {b : Fst} (hK : X.K = M.K) (Z : Kx M nc sub) (hst : X.stack = X.env :: X.outer) (hf : X.env.frame = some X.env.locals) (tk : Takes X W)
    (hb : ∀ (W : WX) (pn : List (Addr × Obj)) (xe : Value → Shared → Prop), Takes (X.tr pn xe) W → PassesOwn (model X.prog X.w) X.A X.env xe → MSs M (X.tr pn xe) W body b) (hk : Dcs M X nc (h0 :: hs) l) : MS M X W (.Try body (h0 :: hs) [] [] pos) (sTry nc sub b l) :=
  PS.imp (ps_try_mix (tb := fun W => tS M W b) hst hf tk hb hk.cls) fun Dn σ H z => by
    obtain ⟨g, ρ, rfl, rp, en, z⟩ := z
    refine tS.go rp en ?_
    unfold sTry at z
    cases hr : b ρ g.S with
    | stuck => rw [hr] at z; exact z
    | fl f S1 => rw [hr] at z; cases f <;> exact z
    | exc x ρ1 S1 =>
      rw [hr] at z
      have z : AftS M g (if decide (x.c < nc) = true then pickCl sub x l ρ1 S1 else .stuck) Dn W := z
      split at z
      · rename_i hc
        intro g1 e1 k1 r1 σ1 en1 cls d hx
        rw [hK]
        exact mix_ok Z r1 en1 hx (of_decide_eq_true hc) l hk.lt (by rw [e1]; exact z.up k1 r1)
      · exact z.elim
end
end MP
set_option Elab.async false
set_option linter.all false
set_option maxRecDepth 100000
set_option maxHeartbeats 4000000
/-! Defs that know that no repr runs around them; lambdas handed to a def that tries them. -/
namespace MP
open PySem PySem.Spec PyProof.Rows L2 MX LamX

/-- a def's promise where no guard stands -/
structure FnG (P : Program) (w : World) (K : PySem.W.Frag) (mg : Str → Option Value) (base : Heap) (k : Nat) (f : Addr) (fd : FuncData) (ps : List Str) (sp : Sp) : Prop where
  len : ∀ vs H Q E, sp vs H Q E → vs.length = ps.length
  run : ∀ (A : Around) (outer : List Env) (s : Shared) (H : Hp) (args : Args) (us : List Value) (vs : List V) (Q : VK) (E : XK), A.guards = some [] → Room k A → Env0 P w K mg base A outer s H → BindsTo s fd args (ps.zip us) → Vals vs us → sp vs H Q E →
    codeAny (model P w) A (.call (.ref f) args) (CR (L2.CX P w) outer P w H s Q E) s
structure KnG (P : Program) (w : World) (mg : Str → Option Value) (base : Heap) (M : Md) (x : Str) (k n : Nat) (F : FN) : Prop where
  ex : ∃ (f : Addr) (fd : FuncData) (ps : List Str), FnG P w M.K mg base k f fd ps (spF M n F) ∧ mg x = some (.ref f) ∧ PySem.W.keepIn M.K (.ref f) = true ∧ Binds M.K fd ps []
section
variable {P : Program} {w : World} {mg : Str → Option Value} {base : Heap} {M : Md}
theorem fg_of {x qual : Str} {params : Arguments} {body : List Stmt} {scope : Scope} {f c : Addr} {fd : FuncData} {N ps : List Str} {k : Nat} {b : Fst} (F : FunD M.K x qual params body scope [] [] f fd) (hc : fd.code = .ref c) (S : FnScope N ps scope)
    (hbody : ∀ (A : Around) (outer : List Env) (s : Shared) (H : Hp) (E : XK), A.guards = some [] → Room k (A.deeper (envOfC qual scope s.heap.objs.size f (.ref c))) →
      MSs M (cxOf (L2.CX P w) P w M.K mg base N qual scope f (.ref c) A outer s H E) (WD E) body b) : FnG P w M.K mg base (k + 1) f fd ps (spF M ps.length (runF N.length b)) := by
  obtain ⟨oc, od, dV, kV, doc, pm, an, cdv, ct, osl, rfl, lk, hcd, _, _⟩ := F.ex
  obtain rfl : cdv = .ref c := hc
  refine ⟨fun vs H Q E h => h.1, fun A outer s H args us vs Q E hg hr e0 hb rv h => run_ofS lk hcd S hr e0 hb rv h.1 fun hr' => ⟨tS M (WD E) b, hbody A outer s H E hg hr', ?_⟩⟩
  obtain ⟨_, g, ds, rfl, rp, hvs, q⟩ := h
  refine tS.go rp (entry_ok hvs) ?_
  unfold runF at q
  split at q
  · rename_i e
    rw [e]
    exact fun g1 e1 k1 r1 σ1 _ => q g1 e1 k1 r1 _ .non
  · rename_i e
    rw [e]
    exact fun g1 e1 k1 r1 v hv => q g1 e1 k1 r1 v hv
  · rename_i e
    rw [e]
    exact fun g1 e1 k1 r1 σ1 _ cls dx hx => q g1 e1 k1 r1 cls dx hx
  · exact q.elim
theorem kg_of {x qual : Str} {params : Arguments} {body : List Stmt} {scope : Scope} {f c : Addr} {fd : FuncData} {N ps : List Str} {k : Nat} {b : Fst} (F : FunD M.K x qual params body scope [] [] f fd) (hc : fd.code = .ref c) (S : FnScope N ps scope) (hm : mg x = some (.ref f)) (hb : Binds M.K fd ps [])
    (hbody : ∀ (A : Around) (outer : List Env) (s : Shared) (H : Hp) (E : XK), A.guards = some [] → Room k (A.deeper (envOfC qual scope s.heap.objs.size f (.ref c))) →
      MSs M (cxOf (L2.CX P w) P w M.K mg base N qual scope f (.ref c) A outer s H E) (WD E) body b) : KnG P w mg base M x (k + 1) ps.length (runF N.length b) :=
  ⟨f, fd, ps, fg_of F hc S hbody, hm, F.kp, hb⟩
end
section
variable {M : Md} {X : Cx} {W : WX}
theorem run_g {pins : List (Addr × Obj)} {σ : L2.St} {H : Hp} {s : Shared} {Q : VK} {us : List Value} {vs : List V} {k : Nat} {f : Addr} {fd : FuncData} {ps : List Str} {sp : Sp} (F : FnG X.prog X.w X.K X.mg X.base k f fd ps sp) (hg : X.A.guards = some []) (hr : Room k X.A) (hb : Binds X.K fd ps []) (tk : Takes X W)
    (I : L2.Inv X pins σ H s) (r : Vals vs us) (h : sp vs H Q (WE W σ)) : wpAny (model X.prog X.w) X.A (call (.ref f) us) (EP X pins σ Q) X.xe s := by
  have b := hb s us I.kIn (by rw [List.append_nil, ← r.length]; exact F.len _ _ _ _ h)
  rw [List.append_nil] at b
  refine wpAny_call (codeAny_mono (F.run X.A X.stack s H ⟨us, []⟩ us vs Q _ hg hr I.env0 b r h) fun res s' z => ?_)
  cases res with
  | error e => exact passAt tk σ pins H s e s' I z
  | ok fl => cases fl <;> first | exact I.after z | exact z.elim
theorem me_callG {x : Str} {p pos : Pos} {e : Expr} {es : List Expr} {k j n : Nat} {F : FN} {a : Fs} (hK : X.K = M.K) (tk : Takes X W) (K : KnG X.prog X.w X.mg X.base M x k n F) (hgd : X.A.guards = some []) (hr : Room j X.A) (ha : MA M X W (e :: es) a) (hkj : k ≤ j := by decide) (hg : Gl X x := by rfl) (hdb : (x == ("__debug__" : Str)) = false := by decide)
    (he : starEach (e :: es) X.env = (false, eval e X.env) :: starEach es X.env := by rfl) (hpl : (backTo pos (starEach es X.env)).any (·.1) = false := by rfl) : ME M X W (.Call (.Name x p) (e :: es) [] pos) (dCall F n a) := by
  obtain ⟨f, fd, ps, FK, hm, hkp, hb⟩ := K.ex
  rw [← hK] at FK hkp hb
  refine ⟨fun pins s σ H Q I q => ?_⟩
  obtain ⟨g, ρ, rfl, rp, en, q⟩ := q
  have q := Aft.bind (α := List D) (k := fun ds S1 => if ds.length = n then F ds S1 else .stuck) q
  refine wpAny_Call_Name_kw (ld_glob I hg hm ?_ hdb)
  refine PySem.W.callWith_K (h₀ := X.base) I.ok.mod.kin hkp (thn (ha.run pos pins s σ g.H (fun vs H1 => spF M n F vs H1 Q (WE W σ)) I (tA.go rp en (q.mono (fun ds g1 k1 r1 q1 vs hvs => ?_) fun _ _ _ _ z => z))) fun us s1 ⟨vs, H1, I1, r, z⟩ => ⟨I1.kIn, run_g FK hgd (hr.mono hkj) hb tk I1 r z⟩) he hpl
  split at q1
  · rename_i hl
    exact ⟨by rw [← hvs.length]; exact hl, g1, ds, rfl, r1, hvs, q1⟩
  · exact q1.elim
end
end MP
set_option Elab.async false
set_option linter.all false
set_option maxRecDepth 100000
set_option maxHeartbeats 4000000
/-! Lambdas handed to a def that tries them. -/
namespace MP
open PySem PySem.Spec PyProof.Rows L2 MX LamX

abbrev FTh := Sto → Rs D
/-- what such a def makes of the thunk: post behind a value, the clauses behind an exception; n names -/
def metF (nc : Nat) (sub : Nat → Nat → Bool) (l : List DCl) (n : Nat) (post : D → Sto → Rs D) (th : FTh) : FTh := fun S => match th S with
  | .ok d S1 => post d S1
  | .exc x S1 => if decide (x.c < nc) = true then (match pickCl sub x l (List.replicate n none) S1 with | .fl (.ret d) S2 => .ok d S2 | _ => .stuck) else .stuck
  | .stuck => .stuck
section
variable {M : Md} {X : Cx} {W : WX}
theorem envNil {g : Wd} {σ : L2.St} {n : Nat} (h : σ.length = n) : EnvOk M g (List.replicate n none) σ := by
  subst h
  exact envNone
/-- the thunk th is told where the lambda's reading tl is wished -/
def ThOk (M : Md) (th : FTh) (tl : XK → Hp → VK → Prop) (g : Wd) : Prop := ∀ (E : XK) (Q : VK), Aft M g (th g.S) (PD M Q) (fun x g' => ∀ cls dx, XV M g' x cls dx → E cls dx g'.H) → tl E g.H Q
/-- what the def makes of it -/
def TTm (M : Md) (met : FTh → FTh) : (XK → Hp → VK → Prop) → Hp → VK → Prop := fun tl H Q => ∃ g th, g.H = H ∧ Rep M g ∧ ThOk M th tl g ∧ Aft M g (met th g.S) (PD M Q) (fun _ _ => False)
theorem takes_len (tk : Takes X W) : Takes X (fun cls d _ H => ∀ σ' : L2.St, σ'.length = X.N.length → W cls d σ' H) := fun u s' x => by
  obtain ⟨a, B, sI, pins, σ, H, cls, d, e, I, nb, up, sky, na, os, ag, w⟩ := x
  exact tk u s' ⟨a, B, sI, pins, σ, H, cls, d, e, I, nb, up, sky, na, os, ag, w σ I.len⟩
/-- the wish behind the thunk's call: K1 behind a value -/
def AftT (M : Md) (g : Wd) (n : Nat) (W : WX) (r : Rs D) (K1 : D → Wd → Prop) : Prop := match r with
  | .ok d S1 => ∀ g', g'.S = S1 → Gr g g' → Rep M g' → K1 d g'
  | .exc x S1 => ∀ g', g'.S = S1 → Gr g g' → Rep M g' → ∀ σ' : L2.St, σ'.length = n → ∀ cls dx, XV M g' x cls dx → W cls dx σ' g'.H
  | .stuck => False
def CallsTh (Z : Cx) (a : Str) (c' : Addr) (q : Str) (f : Addr) (tl : XK → Hp → VK → Prop) : Prop := ∀ (W : WX) (pn : List (Addr × Obj)) (xe : Value → Shared → Prop) (E : XK) (p1 p2 : Pos), Takes (Z.tr pn xe) W → (∀ cls d σ' H', E cls d H' → W cls d σ' H') →
  PE (Z.tr pn xe) (.Call (.Name a p1) [] [] p2) (fun σZ HZ Q => σZ[0]? = some (some (.ref f)) ∧ HZ c' = some (CodeO c' q) ∧ tl E HZ Q)
/-- the try's body: the call as a statement, or returned -/
def tBd (M : Md) (n : Nat) (a : Str) (c' : Addr) (q : Str) (f : Addr) (th : FTh) (tl : XK → Hp → VK → Prop) (K1 : Ends → L2.St → D → Wd → Prop) (W : WX) : TS := fun Dn σ H => ∃ g, g.H = H ∧ Rep M g ∧ σ[0]? = some (some (.ref f)) ∧ H c' = some (CodeO c' q) ∧ σ.length = n ∧ ThOk M th tl g ∧ AftT M g n W (th g.S) (K1 Dn σ)
theorem tBd_e {g : Wd} {n : Nat} {W : WX} {r : Rs D} {K1 : D → Wd → Prop} {Q : VK} (h : AftT M g n W r K1) (hq : ∀ d g', Rep M g' → K1 d g' → ∀ v, DV M g' d v → Q v g'.H) : Aft M g r (PD M Q) (fun x g' => ∀ cls dx, XV M g' x cls dx → ∀ σ' : L2.St, σ'.length = n → W cls dx σ' g'.H) := by
  cases r with
  | stuck => exact h
  | ok d S1 => exact fun g' e k r v hv => hq d g' r (h g' e k r) v hv
  | exc x S1 => exact fun g' e k r cls dx hx σ' hl => h g' e k r σ' hl cls dx hx
theorem bd_expr {Z : Cx} {a q : Str} {c' f : Addr} {th : FTh} {tl : XK → Hp → VK → Prop} {p1 p2 p3 : Pos} {pn : List (Addr × Obj)} {xe : Value → Shared → Prop} (act : CallsTh Z a c' q f tl) (tk : Takes (Z.tr pn xe) W) (hs : swapsWith (.Call (.Name a p1) [] [] p2) none p3.line Z.env = pure false := by rfl) :
    PSs (Z.tr pn xe) [.Expr (.Call (.Name a p1) [] [] p2) p3] (tBd M Z.N.length a c' q f th tl (fun Dn σ _ g' => Dn.nx σ g'.H) W) := by
  refine pss_one ⟨fun pins s σ H Dn I h => ?_⟩
  obtain ⟨g, rfl, rp, h0, hc, hl, ht, q⟩ := h
  have hp := act _ pn xe (fun cls d H' => ∀ σ' : L2.St, σ'.length = Z.N.length → W cls d σ' H') p1 p2 (takes_len tk) (fun _ _ _ _ z => z)
  exact (ps_expr hp hs).run pins s σ g.H Dn I ⟨h0, hc, ht _ _ (tBd_e q fun d g' r z v hv => z)⟩
theorem bd_told {Z : Cx} {a q t : Str} {c' f : Addr} {j j2 : Nat} {th : FTh} {tl : XK → Hp → VK → Prop} {p1 p2 p3 p4 p5 : Pos} {pn : List (Addr × Obj)} {xe : Value → Shared → Prop} (act : CallsTh Z a c' q f tl) (tk : Takes (Z.tr pn xe) W)
    (hs1 : starEach [.Constant (.str t) j p4, .Call (.Name a p1) [] [] p2] Z.env = (false, eval (.Constant (.str t) j p4) Z.env) :: starEach [.Call (.Name a p1) [] [] p2] Z.env := by rfl) (hs2 : starEach [.Call (.Name a p1) [] [] p2] Z.env = (false, eval (.Call (.Name a p1) [] [] p2) Z.env) :: starEach [] Z.env := by rfl) :
    PSs (Z.tr pn xe) [.Return (some (.Tuple [.Constant (.str t) j p4, .Call (.Name a p1) [] [] p2] j2 p5)) p3] (tBd M Z.N.length a c' q f th tl (fun Dn σ d g' => ∀ g2, g2.S = g'.S → Gr g' g2 → Rep M g2 → ∀ v, DV M g2 (.tup [.str t, d]) v → Dn.rt v g2.H) W) := by
  refine pss_one ⟨fun pins s σ H Dn I h => ?_⟩
  obtain ⟨g, rfl, rp, h0, hc, hl, ht, q⟩ := h
  have hp := act _ pn xe (fun cls d H' => ∀ σ' : L2.St, σ'.length = Z.N.length → W cls d σ' H') p1 p2 (takes_len tk) (fun _ _ _ _ z => z)
  refine (ps_ret (pe_tup (pa_cons (X := Z.tr pn xe) pe_str (pa_cons hp pa_nil hs2) hs1))).run pins s σ g.H Dn I ⟨h0, hc, ht _ _ (tBd_e q fun d g' r z v hv => ?_)⟩
  refine ⟨by show 2 ≤ sizeLine; rw [sizeLine_eq]; omega, fun p hp => ?_⟩
  exact new_tup (E := fun _ _ => True) (P := PD M Dn.rt) r (fun g2 e2 k2 r2 => z g2 e2 k2 r2) hp _ (dv_new r hp (.cons (.str t) (.cons hv .nil)))
/-- try: a() / except ..: ..  return e -/
theorem met_expr {nc : Nat} {sub : Nat → Nat → Bool} {Ng : List Str} {x a q : Str} {sg : Scope} {g0 : Addr} {cdg : Value} {h0 : ExceptHandler} {hs : List ExceptHandler} {l : List DCl} {e : Expr} {fe : Fe} {p1 p2 p3 p4 p5 : Pos} (hK : X.K = M.K) (Z : Kx M nc sub) (hst : ∀ f : Addr, (L2.start Ng [V.ref f])[0]? = some (some (V.ref f)) ∧ (L2.start Ng [V.ref f]).length = Ng.length)
    (hh : ∀ (s : Shared) (H : Hp), Dcs M (cxOf C8.CX0 X.prog X.w X.K X.mg X.base Ng x sg g0 cdg X.A X.stack s H C8.E0).nox nc (h0 :: hs) l)
    (he : ∀ (s : Shared) (H : Hp), ME M (cxOf C8.CX0 X.prog X.w X.K X.mg X.base Ng x sg g0 cdg X.A X.stack s H C8.E0).nox (fun _ _ _ _ => False) e fe) (hfe : ∀ ρ S, fe ρ S = fe [] S) (hsw : ∀ (s : Shared) (H : Hp), swapsWith (.Call (.Name a p1) [] [] p2) none p3.line (cxOf C8.CX0 X.prog X.w X.K X.mg X.base Ng x sg g0 cdg X.A X.stack s H C8.E0).env = pure false) :
    GivesTo X Ng x sg g0 cdg [.Try [.Expr (.Call (.Name a p1) [] [] p2) p3] (h0 :: hs) [] [] p4, .Return (some e) p5] a q (TTm M (metF nc sub l Ng.length fun _ S => fe [] S)) := by
  intro f c' s H Q tl act hc h
  obtain ⟨g, th, rfl, rp, ht, q0⟩ := h
  obtain ⟨z0, zl⟩ := hst f
  refine ⟨_, pss_cons (ps_try_mix (X := (cxOf C8.CX0 X.prog X.w X.K X.mg X.base Ng x sg g0 cdg X.A X.stack s g.H C8.E0).nox) (out := fun _ _ _ _ => False) (tb := tBd M Ng.length a c' q f th tl (fun Dn σ _ g' => Dn.nx σ g'.H)) rfl rfl L2.takes0
      (fun W pn xe tk _ => bd_expr (Z := (cxOf C8.CX0 X.prog X.w X.K X.mg X.base Ng x sg g0 cdg X.A X.stack s g.H C8.E0).nox) act tk (hsw s g.H)) (hh s g.H).cls) (pss_one (ps_ret (he s g.H))), ?_⟩
  refine ⟨g, rfl, rp, z0, hc, zl, ht, ?_⟩
  unfold metF at q0
  cases hr : th g.S with
  | stuck => rw [hr] at q0; exact q0
  | ok d S1 =>
    rw [hr] at q0
    intro g1 e1 k1 r1
    refine ⟨g1, List.replicate Ng.length none, rfl, r1, envNil zl, ?_⟩
    rw [hfe, e1]
    have q0 : Aft M g (fe [] S1) (PD M Q) (fun _ _ => False) := q0
    cases hf : fe [] S1 with
    | stuck => rw [hf] at q0; exact q0
    | exc x S2 => rw [hf] at q0; exact fun g2 e2 k2 r2 cls dx hx => q0 g2 e2 (k1.trans r1 k2) r2
    | ok d2 S2 => rw [hf] at q0; exact fun g2 e2 k2 r2 v hv => q0 g2 e2 (k1.trans r1 k2) r2 v hv
  | exc x S1 =>
    rw [hr] at q0
    intro g1 e1 k1 r1 σ1 hl cls dx hx
    have q0 : Aft M g (if decide (x.c < nc) = true then (match pickCl sub x l (List.replicate Ng.length none) S1 with | .fl (.ret d) S2 => Rs.ok d S2 | _ => .stuck) else .stuck) (PD M Q) (fun _ _ => False) := q0
    by_cases hn : x.c < nc
    · rw [if_pos (decide_eq_true hn)] at q0
      show wMix X.K _ _ _ _ _ _ _
      rw [hK]
      refine mix_ok Z r1 (envNil hl) hx hn l (hh s g.H).lt ?_
      rw [e1]
      cases hp : pickCl sub x l (List.replicate Ng.length none) S1 with
      | stuck => rw [hp] at q0; exact q0
      | exc y ρ S => rw [hp] at q0; exact q0.elim
      | fl fl S2 =>
        rw [hp] at q0
        cases fl with
        | ret d => exact fun g2 e2 k2 r2 v hv => q0 g2 e2 (k1.trans r1 k2) r2 v hv
        | nx ρ => exact q0.elim
        | brk ρ => exact q0.elim
        | ct ρ => exact q0.elim
    · rw [if_neg (by simpa using hn)] at q0
      exact q0.elim
/-- try: return ('t', a()) / except ..: .. -/
theorem met_told {nc : Nat} {sub : Nat → Nat → Bool} {Ng : List Str} {x a q t : Str} {sg : Scope} {g0 : Addr} {cdg : Value} {h0 : ExceptHandler} {hs : List ExceptHandler} {l : List DCl} {j j2 : Nat} {p1 p2 p3 p4 p5 p6 : Pos} (hK : X.K = M.K) (Z : Kx M nc sub) (hst : ∀ f : Addr, (L2.start Ng [V.ref f])[0]? = some (some (V.ref f)) ∧ (L2.start Ng [V.ref f]).length = Ng.length)
    (hh : ∀ (s : Shared) (H : Hp), Dcs M (cxOf C8.CX0 X.prog X.w X.K X.mg X.base Ng x sg g0 cdg X.A X.stack s H C8.E0).nox nc (h0 :: hs) l)
    (hs1 : ∀ (s : Shared) (H : Hp), starEach [.Constant (.str t) j p4, .Call (.Name a p1) [] [] p2] (cxOf C8.CX0 X.prog X.w X.K X.mg X.base Ng x sg g0 cdg X.A X.stack s H C8.E0).env = (false, eval (.Constant (.str t) j p4) (cxOf C8.CX0 X.prog X.w X.K X.mg X.base Ng x sg g0 cdg X.A X.stack s H C8.E0).env) :: starEach [.Call (.Name a p1) [] [] p2] (cxOf C8.CX0 X.prog X.w X.K X.mg X.base Ng x sg g0 cdg X.A X.stack s H C8.E0).env)
    (hs2 : ∀ (s : Shared) (H : Hp), starEach [.Call (.Name a p1) [] [] p2] (cxOf C8.CX0 X.prog X.w X.K X.mg X.base Ng x sg g0 cdg X.A X.stack s H C8.E0).env = (false, eval (.Call (.Name a p1) [] [] p2) (cxOf C8.CX0 X.prog X.w X.K X.mg X.base Ng x sg g0 cdg X.A X.stack s H C8.E0).env) :: starEach [] (cxOf C8.CX0 X.prog X.w X.K X.mg X.base Ng x sg g0 cdg X.A X.stack s H C8.E0).env) :
    GivesTo X Ng x sg g0 cdg [.Try [.Return (some (.Tuple [.Constant (.str t) j p4, .Call (.Name a p1) [] [] p2] j2 p5)) p3] (h0 :: hs) [] [] p6] a q (TTm M (metF nc sub l Ng.length fun d S => .ok (.tup [.str t, d]) S)) := by
  intro f c' s H Q tl act hc h
  obtain ⟨g, th, rfl, rp, ht, q0⟩ := h
  obtain ⟨z0, zl⟩ := hst f
  refine ⟨_, pss_one (ps_try_mix (X := (cxOf C8.CX0 X.prog X.w X.K X.mg X.base Ng x sg g0 cdg X.A X.stack s g.H C8.E0).nox) (out := fun _ _ _ _ => False) (tb := tBd M Ng.length a c' q f th tl (fun Dn σ d g' => ∀ g2, g2.S = g'.S → Gr g' g2 → Rep M g2 → ∀ v, DV M g2 (.tup [.str t, d]) v → Dn.rt v g2.H)) rfl rfl L2.takes0
      (fun W pn xe tk _ => bd_told (Z := (cxOf C8.CX0 X.prog X.w X.K X.mg X.base Ng x sg g0 cdg X.A X.stack s g.H C8.E0).nox) act tk (hs1 s g.H) (hs2 s g.H)) (hh s g.H).cls), ?_⟩
  refine ⟨g, rfl, rp, z0, hc, zl, ht, ?_⟩
  unfold metF at q0
  cases hr : th g.S with
  | stuck => rw [hr] at q0; exact q0
  | ok d S1 =>
    rw [hr] at q0
    exact fun g1 e1 k1 r1 g2 e2 k2 r2 v hv => q0 g2 (e2.trans e1) (k1.trans r1 k2) r2 v hv
  | exc x S1 =>
    rw [hr] at q0
    intro g1 e1 k1 r1 σ1 hl cls dx hx
    have q0 : Aft M g (if decide (x.c < nc) = true then (match pickCl sub x l (List.replicate Ng.length none) S1 with | .fl (.ret d) S2 => Rs.ok d S2 | _ => .stuck) else .stuck) (PD M Q) (fun _ _ => False) := q0
    by_cases hn : x.c < nc
    · rw [if_pos (decide_eq_true hn)] at q0
      show wMix X.K _ _ _ _ _ _ _
      rw [hK]
      refine mix_ok Z r1 (envNil hl) hx hn l (hh s g.H).lt ?_
      rw [e1]
      cases hp : pickCl sub x l (List.replicate Ng.length none) S1 with
      | stuck => rw [hp] at q0; exact q0
      | exc y ρ S => rw [hp] at q0; exact q0.elim
      | fl fl S2 =>
        rw [hp] at q0
        cases fl with
        | ret d => exact fun g2 e2 k2 r2 v hv => q0 g2 e2 (k1.trans r1 k2) r2 v hv
        | nx ρ => exact q0.elim
        | brk ρ => exact q0.elim
        | ct ρ => exact q0.elim
    · rw [if_neg (by simpa using hn)] at q0
      exact q0.elim

/-! ### x(lambda: e) -/
def noExc (r : Rs D) : Rs D := match r with | .ok d S => .ok d S | _ => .stuck
def dLam (met : FTh → FTh) (fe : Fe) : Fe := fun ρ S => noExc (met (fun S' => fe ρ S') S)
theorem ext_rep {g : Wd} {H1 : Hp} (r : Rep M g) (e : ExtN g.H H1) (t : Tabs M.T H1) : Gr g ⟨g.μ, g.S, H1⟩ ∧ Rep M ⟨g.μ, g.S, H1⟩ := by
  have k : Gr g ⟨g.μ, g.S, H1⟩ := ⟨Nat.le_refl _, fun _ _ => rfl, fun n h1 h2 => absurd h2 (by show ¬ n < g.S.length; omega), fun a o h _ ht => e a o h ht⟩
  refine ⟨k, r.inj, fun i o h => OR.of r k (r.obj i o h) fun u hu => e _ u hu fun ps z => ?_, t⟩
  subst z
  rcases r.at (n := i) (List.getElem?_eq_some_iff.mp h).1 with ⟨_, q⟩ | ⟨_, q⟩ <;> (rw [q] at hu; cases hu)
/-- what is known of the def that gets the lambda -/
structure MetOk (M : Md) (X : Cx) (x : Str) (met : FTh → FTh) (q : Str) : Prop where
  ex : ∃ (g : Addr) (a : Str) (pg : Arguments) (bg : List Stmt) (sg : Scope) (dV kV doc pm cdv ct oc : Value) (an od : Option Addr) (osl : Array (Option Value)) (Ng : List Str), X.mg x = some (.ref g) ∧ PySem.W.keepIn X.K (.ref g) = true ∧
    X.K.lookup g = some ⟨oc, od, .func (PySem.W.fnOf x x pg bg sg dV kV doc pm an cdv ct), osl⟩ ∧ PySem.W.codeIn X.K cdv x = true ∧ L2.Binds X.K (PySem.W.fnOf x x pg bg sg dV kV doc pm an cdv ct) [a] [] ∧ FnScope Ng [a] sg ∧ Ng[0]? = some a ∧ Vis sg a ∧
    (a == ("__debug__" : Str)) = false ∧ (a == ("__classdict__" : Str)) = false ∧ GivesTo X Ng x sg g cdv bg a q (TTm M met)
theorem me_lam {x : Str} {met : FTh → FTh} {c P : Addr} {k : Nat} {params : Arguments} {body : Expr} {scope : Scope} {p lpos pos : Pos} {fe : Fe} (hm : MetOk M X x met (X.env.qual ++ "<lambda>")) (hg : Gl X x) (TB : TabB X.base X.mg c P) (hcode : X.env.code = .ref c) (hT : (P, X.env.qual ++ "<lambda>") ∈ M.T) (hu : ∀ p ∈ M.T, p.1 = P → p.2 = X.env.qual ++ "<lambda>")
    (hr : Room (k + 2) X.A) (L : LamS X.env.scope scope) (hdef : defaultsOf params X.env = ([], [])) (hbind : ∀ (q : Str) (cl : List (Str × Addr)) (pm cv ctv : Value), bindArgs (PySem.W.kla_fn "<lambda>" q params body scope cl pm cv ctv) ⟨[], []⟩ = pure [])
    (hbody : ∀ (A : Around) (outer : List Env) (s : Shared) (H : Hp) (E : XK) (f c' : Addr), Room k (A.deeper (lamEnv X scope s.heap.objs.size f c')) → ME M (lamCx X A outer s H E scope f c') (WD E) body fe) (hdb : (x == ("__debug__" : Str)) = false := by decide) :
    ME M X W (.Call (.Name x p) [.Lambda params body scope lpos] [] pos) (dLam met fe) := by
  obtain ⟨g0, a, pg, bg, sg, dV, kV, doc, pm, cdv, ct, oc, an, od, osl, Ng, h1, h2, h3, h4, h5, h6, h7, h8, h9, h10, hG⟩ := hm.ex
  refine PE.imp (pe_lamcall (T := M.T) (t := fun E => tE M (WD E) fe) hg h1 h2 h3 h4 h5 h6 h7 h8 hG TB hcode hT hu hr L hdef hbind hbody hdb h9 h10) fun σ H Q q => ?_
  obtain ⟨g, ρ, rfl, rp, en, q⟩ := q
  refine ⟨rp.tabs, fun H1 ex t1 => ?_⟩
  obtain ⟨kk, r1⟩ := ext_rep rp ex t1
  refine ⟨⟨g.μ, g.S, H1⟩, fun S' => fe ρ S', rfl, r1, fun E Q' z => tE.go r1 (en.mono rp kk) z, ?_⟩
  have q : Aft M g (noExc (met (fun S' => fe ρ S') g.S)) (PD M Q) (XD M W σ) := q
  show Aft M ⟨g.μ, g.S, H1⟩ (met (fun S' => fe ρ S') g.S) (PD M Q) (fun _ _ => False)
  cases hr : met (fun S' => fe ρ S') g.S with
  | stuck => rw [hr] at q; exact q
  | exc x S => rw [hr] at q; exact q.elim
  | ok d S1 => rw [hr] at q; exact fun g2 e2 k2 r2 => q g2 e2 (kk.trans r1 k2) r2
end
end MP
set_option Elab.async false
set_option linter.all false
set_option maxRecDepth 100000
set_option maxHeartbeats 4000000
/-! What a head tells of exception classes. -/
namespace MP
open PySem PySem.Spec PyProof.Rows L2 MX LamX

/-! ### classes without an __init__ -/
def k0B (K : PySem.W.Frag) (x : Str) (bmB : List Value) (newId : String) : Bool := PySem.W.excIn K (He.ga K x) bmB newId && (He.eqO (PySem.W.nsIn K mainGlobals x) (some (some (.ref (He.ga K x)))) && (PySem.W.keepIn K (.ref (He.ga K x)) &&
  (decide (PySem.W.subIn K (.ref (He.ga K x)) (.type "BaseException") = some true) && decide (PySem.W.typeIn K (.ref (He.ga K x)) = some (.type "type")))))
theorem k0B_ok {M : Md} {h : Heap} {mg : Str → Option Value} {B newId initId : String} {bmB : List Value} {x : Str} {c : Nat} (KX : M.K.In h) (G : h.Ns mainGlobals mg) (F : ExcBaseFacts B newId initId bmB) (hc : M.ca c = He.ga M.K x) (e : k0B M.K x bmB newId = true) : Kc0 mg M x c := by
  unfold k0B at e
  simp only [Bool.and_eq_true, decide_eq_true_eq] at e
  obtain ⟨h1, h2, h3, h4, h5⟩ := e
  refine ⟨⟨B, newId, initId, bmB, F, by rw [hc]; exact h1⟩, ?_, by rw [hc]; exact h3, by rw [hc]; exact h4, by rw [hc]; exact h5⟩
  rw [hc]
  exact PySem.W.mg_of KX G (He.eqO_ok h2)

/-! ### classes with super().__init__('..'); self.f = given -/
def inFn (K : PySem.W.Frag) (x : Str) : Addr := He.ma K (He.ga K x) "__init__"
abbrev InW : Type := Option (Str × Str × Arguments × FuncBody × Scope × Addr × Addr)
def inW (K : PySem.W.Frag) (x : Str) : InW := match K.lookup (inFn K x) with
  | some ⟨_, _, .func fd, _⟩ => some (fd.name, fd.qualname, fd.params, fd.body, fd.scope, fd.globals, fd.builtins)
  | _ => none
def clCd (cl : List (Str × Addr)) (cd : Value) : Option (Addr × Addr) := match cl, cd with
  | [(n, cc)], .ref cda => if n = ("__class__" : Str) then some (cc, cda) else none
  | _, _ => none
/-- no defaults -/
def dfN (d k : Value) (r : Option (Addr × Addr)) : Option (Addr × Addr) := match d, k with
  | .none, .none => r
  | _, _ => none
theorem dfN_some {d k : Value} {r : Option (Addr × Addr)} {z : Addr × Addr} (h : dfN d k r = some z) : d = .none ∧ k = .none ∧ r = some z := by
  unfold dfN at h
  split at h
  · exact ⟨rfl, rfl, h⟩
  · cases h
def inCl (K : PySem.W.Frag) (x : Str) : Option (Addr × Addr) := match K.lookup (inFn K x) with
  | some ⟨_, _, .func fd, _⟩ => dfN fd.defaults fd.kwdefaults (clCd fd.closure fd.code)
  | _ => none
def clB (K : PySem.W.Frag) (C cc cda : Addr) (file qual : Str) : Bool := (match K.lookup cc with
  | some ⟨_, _, .cell (some (.ref D)), _⟩ => decide (D = C)
  | _ => false) && ((match K.lookup cda with
  | some ⟨_, _, .fields vs, _⟩ => (match (vs[2]? : Option Value) with
    | some (.str fl _) => (file == fl)
    | _ => false)
  | _ => false) && PySem.W.codeIn K (.ref cda) qual)
def k1B (K : PySem.W.Frag) (x f : Str) (B newId initId : String) (bmB : List Value) (file qual : Str) : Bool :=
  He.eqO (PySem.W.nsIn K mainGlobals x) (some (some (.ref (He.ga K x)))) && (He.eqO (PySem.W.findIn K (.ref (He.ga K x)) "__init__") (some (some (.ref (inFn K x)))) && (PySem.W.isFn K (.ref (inFn K x)) && (PySem.W.excInitIn K (He.ga K x) bmB newId && (PySem.W.excOver K (He.ga K x) bmB &&
  (He.eqO (PySem.W.takerIn K (He.ga K x) f) (some none) && (PySem.W.hasDictIn K (He.ga K x) && (He.eqO (PySem.W.findIn K (.ref (He.ga K x)) "__setattr__") (some (some (.builtin "object.__setattr__"))) && (He.eqO (PySem.W.ks_superIn K (He.ga K x) (He.ga K x) "__init__") (some (some (.builtin initId))) &&
  (decide (PySem.W.subIn K (.ref (He.ga K x)) (.type B) = some true) && (decide (PySem.W.subIn K (.ref (He.ga K x)) (.type "BaseException") = some true) && (decide (PySem.W.typeIn K (.ref (He.ga K x)) = some (.type "type")) && (PySem.W.keepIn K (.ref (He.ga K x)) && (He.eqO (PySem.W.nsIn K cStatics "thirdparty.any") (some none) &&
  (decide (PySem.W.mroIn K (He.ga K x) (.ref (He.ga K x)) = some true) && ((PySem.W.clsIn K (He.ga K x)).isSome && (He.eqO (PySem.W.nsIn K mainGlobals "super") (some none) && (match inCl K x with
    | some (cc, cda) => clB K (He.ga K x) cc cda file qual
    | none => false)))))))))))))))))
/-- what the text of such an __init__ must be -/
structure InitSh (f : Str) (params : Arguments) (body : List Stmt) (scope : Scope) (qual : Str) (slf giv txt : Str) : Prop where
  ex : ∃ j p0 p1 p2 p3 p4 p5 p6 p7 p8 p9, body = [.Expr (.Call (.Attribute (.Call (.Name "super" p0) [] [] p1) "__init__" p2) [.Constant (.str txt) j p3] [] p4) p5, .Assign [.Attribute (.Name slf p6) f p7] (.Name giv p8) p9] ∧
    (∀ x ∈ scope.names, x.2 ≠ .cell) ∧ scope.isCoroutine = false ∧ scope.isGenerator = false ∧ scope.kind = .function ∧
    scope.names.lookup ("super" : Str) = some .globalImplicit ∧ scope.names.lookup ("__class__" : Str) = some .free ∧ scope.names.lookup slf = some .local ∧ scope.names.lookup giv = some .local ∧
    (∃ ar, (params.posonlyargs ++ params.args).head? = some ar ∧ ar.arg = slf) ∧
    (∃ pl : Sem Bool, ∀ env : Env, eval (.Call (.Attribute (.Call (.Name "super" p0) [] [] p1) "__init__" p2) [.Constant (.str txt) j p3] [] p4) env = (do
      let ov ← attributeBase (.Call (.Name "super" p0) [] [] p1) "__init__" env (eval (.Call (.Name "super" p0) [] [] p1) env)
      standAt p2.atName
      let (f, first) ← holding [ov] (getMethod ov "__init__" pl)
      callWith p4 f first (backTo p4 (starEach [.Constant (.str txt) j p3] env)) []))
  bind : ∀ (doc pm cdv ct : Value) (an : Option Addr) (cc : Addr) (a b : Value), bindArgs (PySem.W.ksFn "__init__" qual params body scope .none .none doc pm an cdv ct cc) ⟨[a, b], []⟩ = pure [(slf, a), (giv, b)]
  ne : slf ≠ giv
  dS : (slf == ("__debug__" : Str)) = false
  dG : (giv == ("__debug__" : Str)) = false
theorem k1B_ok {M : Md} {P : Program} {h : Heap} {mg : Str → Option Value} {B newId initId : String} {bmB : List Value} {x f qual slf giv txt : Str} {params : Arguments} {body : List Stmt} {scope : Scope} {c : Nat} (KX : M.K.In h) (G : h.Ns mainGlobals mg) (SB : SupB B newId initId bmB) (hc : M.ca c = He.ga M.K x)
    (e : k1B M.K x f B newId initId bmB P.main.file qual = true) (hW : inW M.K x = some (("__init__" : Str), qual, params, FuncBody.stmts body, scope, mainGlobals, builtinsNs)) (hS : InitSh f params body scope qual slf giv txt) (top : (P.main.scope.names.lookup ("super" : Str)).isSome = false) : Kc1 P mg M x c f := by
  unfold k1B at e
  simp only [Bool.and_eq_true, decide_eq_true_eq] at e
  obtain ⟨h1, h2, h3, h4, h5, h6, h7, h8, h9, h10, h11, h12, h13, h14, h15, h16, h17, h18⟩ := e
  refine ⟨?_, by rw [hc]; exact PySem.W.mg_of KX G (He.eqO_ok h1)⟩
  cases hcl : inCl M.K x with
  | none => rw [hcl] at h18; cases h18
  | some q =>
    obtain ⟨cc, cda⟩ := q
    rw [hcl] at h18
    have h18 : clB M.K (He.ga M.K x) cc cda P.main.file qual = true := h18
    unfold clB at h18
    simp only [Bool.and_eq_true] at h18
    obtain ⟨w1, w2, w3⟩ := h18
    refine ⟨B, newId, initId, bmB, inFn M.K x, cc, cda, slf, giv, txt, SB, ?_⟩
    rw [hc]
    refine { iC := He.eqO_ok h2, isF := h3, q := h4, over := h5, taker := He.eqO_ok h6, hasD := h7, sa := He.eqO_ok h8, sup := He.eqO_ok h9, subB := h10, exC := h11, tyC := h12, kC := h13, opq := He.eqO_ok h14, mro := h15, cls := Option.isSome_iff_exists.mp h16, cell := ?_, code := ?_, top := top, gS := He.eqO_ok h17, fn := ?_, ne := hS.ne, dS := hS.dS, dG := hS.dG }
    · split at w1
      · rename_i oc od D sl hl
        obtain rfl := of_decide_eq_true w1
        exact ⟨_, _, _, hl⟩
      · cases w1
    · split at w2
      · rename_i oc od vs sl hl
        split at w2
        · rename_i fl t hv
          exact ⟨_, _, vs, _, fl, t, hl, hv, w2⟩
        · cases w2
      · cases w2
    · unfold inW at hW
      unfold inCl at hcl
      cases hl : M.K.lookup (inFn M.K x) with
      | none => rw [hl] at hW; cases hW
      | some o =>
        obtain ⟨oc, od, dt, osl⟩ := o
        rw [hl] at hW hcl
        cases dt with
        | func fd =>
          obtain ⟨n1, n2, n3, n4, n5, n6, n7, n8, n9, n10, n11, n12, n13, n14, n15⟩ := fd
          have e2 : (some (n1, n2, n3, n4, n5, n6, n15) : InW) = some (("__init__" : Str), qual, params, FuncBody.stmts body, scope, mainGlobals, builtinsNs) := hW
          simp only [Option.some.injEq, Prod.mk.injEq] at e2
          obtain ⟨k1, k2, k3, k4, k5, k6, k7⟩ := e2
          subst k1 k2 k3 k4 k5 k6 k7
          have e0 : dfN n8 n9 (clCd n7 n13) = some (cc, cda) := hcl
          obtain ⟨rfl, rfl, e3⟩ := dfN_some e0
          unfold clCd at e3
          split at e3
          · rename_i n cc' cda'
            by_cases hn : n = ("__class__" : Str)
            · rw [if_pos hn] at e3
              cases e3
              subst hn
              obtain ⟨j, p0, p1, p2, p3, p4, p5, p6, p7, p8, p9, hb, r1, r2, r3, r4, r5, r6, r7, r8, r9, r10⟩ := hS.ex
              have hbd := hS.bind
              subst hb
              exact ⟨oc, od, osl, n2, n3, n5, .none, .none, n10, n11, n12, n14, j, p0, p1, p2, p3, p4, p5, p6, p7, p8, p9, rfl, w3, r1, r2, r3, r4, r5, r6, r7, r8, r9, r10, fun a b => hbd _ _ _ _ _ _ a b⟩
            · rw [if_neg hn] at e3
              cases e3
          · cases e3
        | _ => cases hW
/-- the field of a caught exception -/
def kfB (K : PySem.W.Frag) (x f : Str) : Bool := xfB K (He.ga K x) && He.eqO (PySem.W.findIn K (.ref (He.ga K x)) f) (some none)
theorem kfB_ok {M : Md} {x f : Str} {c : Nat} (hc : M.ca c = He.ga M.K x) (e : kfB M.K x f = true) : Kf M c f := by
  obtain ⟨h1, h2⟩ := He.ba e
  exact ⟨by rw [hc]; exact xfB_ok h1, by rw [hc]; exact He.eqO_ok h2⟩
/-- which class is below which -/
def kxB (K : PySem.W.Frag) (ca : Nat → Addr) (nc : Nat) (sub : Nat → Nat → Bool) : Bool := (List.range nc).all fun i => (List.range nc).all fun j => decide (PySem.W.exmOne K (.ref (ca i)) (.ref (ca j)) = some (sub i j))
theorem kxB_ok {M : Md} {nc : Nat} {sub : Nat → Nat → Bool} (e : kxB M.K M.ca nc sub = true) : Kx M nc sub := ⟨fun i j hi hj => by
  have h1 := List.all_eq_true.mp e i (List.mem_range.mpr hi)
  exact of_decide_eq_true (List.all_eq_true.mp h1 j (List.mem_range.mpr hj))⟩
end MP
set_option Elab.async false
set_option linter.all false
set_option maxRecDepth 100000
set_option maxHeartbeats 4000000
/-! The head's look with the statics, the law's end with tables and without guards. -/
namespace MP
open PySem PySem.Spec PyProof.Rows L2 MX LamX

/-! ### the hook -/
def frY (n : Nat) (g : Addr → Option Obj) : PySem.W.Frag := He.frT g (cStatics :: He.asD g n)
structure SaysY (fa : List He.Fa) (fn : List He.DefD) (tf : List He.Defn) (ex : PySem.W.Frag → Bool) (ins : List Str) (vs : List InW) (w : World) (h : Heap) (K : PySem.W.Frag) : Prop where
  x : He.SaysX fa fn [] tf ex w h K
  ini : ins.map (inW K) = vs
abbrev AlY : Type := He.AlX × List InW
def obsY (n : Nat) (fa : List He.Fa) (fn : List He.DefD) (tf : List He.Defn) (ex : PySem.W.Frag → Bool) (ins : List Str) (g : Addr → Option Obj) : AlY := ((He.obsT fa fn [] (frY n g), ex (frY n g) && He.tabsB g tf (frY n g)), ins.map (inW (frY n g)))
def valY (fn : List He.DefD) (vs : List InW) (w : World) : AlY := (He.valX fn [] w, vs)
theorem saysY_of {n : Nat} {fa : List He.Fa} {fn : List He.DefD} {tf : List He.Defn} {ex : PySem.W.Frag → Bool} {ins : List Str} {vs : List InW} {w : World} {h : Heap} (e : obsY n fa fn tf ex ins h.get? = valY fn vs w) : SaysY fa fn tf ex ins vs w h (frY n h.get?) := by
  have a1 := congrArg (fun z : AlY => z.1.1) e
  have a2 := He.ba (congrArg (fun z : AlY => z.1.2) e)
  have a3 := congrArg (fun z : AlY => z.2) e
  have tb : ∀ p ∈ tf, PySem.W.codeHdIn (frY n h.get?) (He.cT (frY n h.get?) p).1 (He.cT (frY n h.get?) p).2 = true ∧ ∃ o, h.get? (He.cT (frY n h.get?) p).2 = some o ∧ He.emptyTab o = true := fun p hp => by
    obtain ⟨b1, b2⟩ := He.ba (List.all_eq_true.mp a2.2 p hp)
    refine ⟨b1, ?_⟩
    split at b2
    · rename_i o ho
      exact ⟨o, ho, b2⟩
    · cases b2
  refine ⟨⟨a1, a2.1, fun p hp => (tb p hp).1, fun p hp => ?_, fun p hp => ?_⟩, a3⟩
  · obtain ⟨_, o, ho, hz⟩ := tb p hp
    exact He.frT_none ho hz
  · obtain ⟨_, o, ho, hz⟩ := tb p hp
    rw [ho, He.emptyTab_eq hz]
def hookY (n : Nat) (fa : List He.Fa) (fn : List He.DefD) (tf : List He.Defn) (ex : PySem.W.Frag → Bool) (ins : List Str) (vs : List InW) : PySem.W.Hook where
  α := AlY
  obs := fun s => obsY n fa fn tf ex ins s.heap.get?
  val := fun w => valY fn vs w
  says := fun w h => ∃ K : PySem.W.Frag, K.In h ∧ SaysY fa fn tf ex ins vs w h K
  of := fun _ _ e => ⟨_, He.frT_in, saysY_of e⟩
  keeps := fun _ _ _ ⟨K, hK, c⟩ k => ⟨K, hK.keeps k, ⟨c.x.t, c.x.more, c.x.hd, c.x.out, fun p hp => k _ _ (c.x.empty p hp)⟩, c.ini⟩
theorem obsY_eq {n : Nat} {fa : List He.Fa} {fn : List He.DefD} {tf : List He.Defn} {ex : PySem.W.Frag → Bool} {ins : List Str} {vs : List InW} {g : Addr → Option Obj} {s : Shared} (h : ∀ a, g a = s.heap.get? a) : obsY n fa fn tf ex ins g = (hookY n fa fn tf ex ins vs).obs s := by
  rw [show g = s.heap.get? from funext h]
  rfl

/-! ### the end -/
section
variable {P : Program} {w : World} {K : PySem.W.Frag} {mg mb : Str → Option Value} {k : Nat} {fa a : Addr} {cs : List (Addr × Addr)} {fd : FuncData} {x : Str} {sp : Sp} {s : Shared} {vs : List Value} {ns : List Int}
/-- the heap as the law's call sees it: the script is frozen, the tables are empty -/
def endHp (K : PySem.W.Frag) (a : Addr) (vs : List Value) (ns : List Int) (ts : List Addr) : Hp := fun b => if b = a ∧ K.lookup a = none then some (.frz { cls := .type "list", data := .seq vs.toArray } (.lst (ns.map V.int))) else if b ∈ ts then some (.tbl #[]) else none
theorem law_callY (KX : K.In s.heap) (G : s.heap.Ns mainGlobals mg) (hb : s.heap.Ns builtinsNs mb) (hbb : ∀ x : Str, x ≠ "__name__" → mb x = bootBuiltins x) (lim : s.heap.NoLimit) (hg : s.gens = #[])
    (em : ∀ p ∈ cs, s.heap.get? p.2 = some { cls := .none, data := .fields #[] }) (nK : ∀ p ∈ cs, K.lookup p.2 = none) (C : ∀ p ∈ cs, PySem.W.CodeHd s.heap p.1 p.2)
    (hbm : ∃ (bm : Addr) (ob : Obj), mg "__builtins__" = some (.ref bm) ∧ bm ≠ builtinsNs ∧ s.heap.get? bm = some ob ∧ ob.cls = .type "module" ∧ ob.dict = some builtinsNs ∧ ob.data = .plain)
    (ha : s.heap.get? a = some { cls := .type "list", data := .seq vs.toArray }) (hi : IntsAre vs ns) (hl : ns.length ≤ sizeLine) (hr : Room k callerA)
    (F : ∀ base : Heap, K.In base → base.Ns mainGlobals mg → (∀ p ∈ cs, TabB base mg p.1 p.2) → FnG P w K mg base k fa fd [x] sp) (hbind : ∀ (s : Shared) (u : Value), BindsTo s fd ⟨[u], []⟩ [(x, u)])
    (hsp : ∀ H : Hp, (∀ p ∈ cs, H p.2 = some (.tbl #[])) → FzL K H a (ns.map V.int) → sp [.ref a] H (fun v _ => v = .bl true) fun _ _ _ => False) :
    codeAny (model P w) callerA (.call (.ref fa) ⟨[.ref a], []⟩) (fun r s' => r = .ok (.ret (.bool true)) ∧ OldK s.heap s'.heap ∧ s'.os = s.os ∧ AllBare s'.gens) s := by
  have rv := vals_ints hi
  have tab : ∀ b ∈ cs.map (·.2), s.heap.get? b = some { cls := .none, data := .fields #[] } ∧ K.lookup b = none := fun b hb => by
    obtain ⟨p, hp, rfl⟩ := List.mem_map.mp hb
    exact ⟨em p hp, nK p hp⟩
  have aNo : a ∉ cs.map (·.2) := fun z => by
    have q := (tab a z).1
    rw [ha] at q
    have q2 : Data.seq vs.toArray _ = Data.fields #[] := congrArg Obj.data (Option.some.inj q)
    cases q2
  obtain ⟨H, hH⟩ : ∃ H, H = endHp K a vs ns (cs.map (·.2)) := ⟨_, rfl⟩
  have Hat : ∀ b u, H b = some u → (b = a ∧ K.lookup a = none ∧ u = .frz { cls := .type "list", data := .seq vs.toArray } (.lst (ns.map V.int))) ∨ (b ∈ cs.map (·.2) ∧ u = .tbl #[]) := fun b u e => by
    rw [hH] at e
    unfold endHp at e
    split at e
    · rename_i z; cases e; exact .inl ⟨z.1, z.2, rfl⟩
    · split at e
      · rename_i z; cases e; exact .inr ⟨z, rfl⟩
      · cases e
  have Htab : ∀ p ∈ cs, H p.2 = some (.tbl #[]) := fun p hp => by
    have m : p.2 ∈ cs.map (·.2) := List.mem_map.mpr ⟨p, hp, rfl⟩
    rw [hH]
    unfold endHp
    rw [if_neg (fun z => aNo (by rw [← z.1]; exact m)), if_pos m]
  have Hfz : FzL K H a (ns.map V.int) := by
    cases hk : K.lookup a with
    | none => exact .inl ⟨_, by rw [hH]; unfold endHp; rw [if_pos ⟨rfl, hk⟩]⟩
    | some o =>
      have e := KX a o hk
      rw [ha] at e
      cases e
      exact .inr ⟨_, vs.toArray, _, hk, rfl, rfl, rfl, by rw [List.size_toArray, hi.length]; exact hl, by simpa using rv⟩
  have ok : HOk P w H s.heap := fun b u e => by
    rcases Hat b u e with ⟨rfl, _, rfl⟩ | ⟨m, rfl⟩
    · exact ⟨ha, by rw [List.length_map]; exact hl, vs, _, rv, ha⟩
    · exact (tab b m).1
  have none_of : ∀ {b : Addr} {o : Obj}, s.heap.get? b = some o → (∀ us n, o.data ≠ .seq us n) → o.data ≠ .fields #[] → H b = none := fun {b o} e h1 h2 => by
    cases q : H b with
    | none => rfl
    | some u =>
      rcases Hat b u q with ⟨rfl, _, _⟩ | ⟨m, _⟩
      · rw [ha] at e; cases e; exact (h1 _ _ rfl).elim
      · rw [(tab b m).1] at e; cases e; exact (h2 rfl).elim
  have Hdict : ∀ {b : Addr} {m : Str → Option Value}, s.heap.Ns b m → (hidT s.heap H).Ns b m := fun {b m} ⟨o, es, ep, e, d, r⟩ => ⟨o, es, ep, hidT_get e (none_of e (fun _ _ z => by rw [d] at z; cases z) (fun z => by rw [d] at z; cases z)), d, r⟩
  have KB : K.In (hidT s.heap H) := fun b o e => by
    refine hidT_get (KX b o e) ?_
    cases q : H b with
    | none => rfl
    | some u =>
      rcases Hat b u q with ⟨rfl, z, _⟩ | ⟨m, _⟩
      · rw [z] at e; cases e
      · rw [(tab b m).2] at e; cases e
  have md : L2.Mod K mg (hidT s.heap H) := ⟨KB, Hdict G, ⟨mb, Hdict hb, hbb⟩, by
    obtain ⟨mc, z1, z2⟩ := lim
    exact ⟨mc, Hdict z1, z2⟩⟩
  have TB : ∀ p ∈ cs, TabB (hidT s.heap H) mg p.1 p.2 := fun p hp => by
    have ep := em p hp
    refine ⟨?_, ?_, fun z => ?_⟩
    · obtain ⟨o, us, file, tf, flags, tg, inF, text, tt, e1, r1, r2, r3, r⟩ := C p hp
      refine ⟨o, us, file, tf, flags, tg, inF, text, tt, hidT_get e1 (none_of e1 (fun _ _ z => by rw [r2] at z; cases z) (fun z => ?_)), r1, r2, r3, r⟩
      rw [r2] at z
      cases z
      simp at r3
    · obtain ⟨bm, ob, b1, b2, b3, b4, b5, b6⟩ := hbm
      have pl : ∀ us : Array Value, ∀ n, ob.data ≠ .seq us n := fun _ _ z => by rw [b6] at z; cases z
      refine ⟨bm, ob, b1, b2, fun q => ?_, fun q => ?_, hidT_get b3 (none_of b3 pl (fun z => by rw [b6] at z; cases z)), b4, b5, b6⟩
      · obtain ⟨o, es, n, e, d, _⟩ := G
        rw [q, e] at b3; cases b3
        rw [d] at b6; cases b6
      · rw [q, ep] at b3; cases b3; cases b6
    · obtain ⟨o, es, n, e, d, _⟩ := G
      rw [z, ep] at e; cases e; cases d
  have e0 : Env0 P w K mg (hidT s.heap H) callerA [] s H := ⟨rfl, md, fun b o e => of_hidT e, Nat.le_of_eq (hidT_size _ _), trivial, (fun b hb => by cases hb), ok, .of_eq hg⟩
  refine codeAny_mono ((F _ KB (Hdict G) TB).run callerA [] s H ⟨[.ref a], []⟩ [.ref a] [.ref a] _ _ rfl hr e0 (hbind s (.ref a)) (.cons rfl .nil) (hsp H Htab Hfz)) fun r s' z => ?_
  cases r with
  | error e =>
    obtain ⟨_, _, _, _, _, _, _, _, _, _, _, _, f⟩ := z
    exact f.elim
  | ok fl =>
    cases fl with
    | next => exact z.elim
    | brk => exact z.elim
    | cont => exact z.elim
    | ret u =>
      obtain ⟨v, H2, eo, bare, un, ok2, rv2, rfl⟩ := z
      obtain rfl : u = Value.bool true := rv2
      have kept : ∀ b o, b ∉ cs.map (·.2) → s.heap.get? b = some o → s'.heap.get? b = some o := fun b o nb e => by
        cases q : H b with
        | none => exact un.keep b o e q (fun m => by cases m) (fun m => by cases m)
        | some u =>
          rcases Hat b u q with ⟨rfl, _, rfl⟩ | ⟨m, _⟩
          · have z2 := ok2 b _ (un.frzs b _ _ q)
            rw [ha] at e; cases e
            exact z2.1
          · exact absurd m nb
      have grew : ∀ p ∈ cs, ∃ more : Array Value, s'.heap.get? p.2 = some { cls := .none, data := .fields more } := fun p hp => by
        obtain ⟨more, z⟩ := un.tbls p.2 #[] (Htab p hp)
        exact ⟨_, ok2 p.2 _ z⟩
      refine ⟨rfl, ⟨fun b o e => ?_, fun b o e => ?_⟩, eo, bare⟩
      · by_cases m : b ∈ cs.map (·.2)
        · obtain ⟨p, hp, rfl⟩ := List.mem_map.mp m
          obtain ⟨more, hm⟩ := grew p hp
          rw [em p hp] at e
          cases e
          exact .inr (.inl ⟨((C p hp).tab (em p hp)).isCodeTable, rfl, #[], more, rfl, by rw [Array.empty_append]; exact hm⟩)
        · exact .inl (kept b o m e)
      · by_cases m : b ∈ cs.map (·.2)
        · obtain ⟨p, hp, rfl⟩ := List.mem_map.mp m
          obtain ⟨more, hm⟩ := grew p hp
          exact ⟨_, hm⟩
        · exact ⟨o, kept b o m e⟩
end
theorem walk_ofY {l : PySem.W.OpenLaw} {n k : Nat} {q : Program} {loose : List Str} {XP : (Str → Option Value) → Heap → Prop} {YP : World → Heap → Prop} {d : DefRec} {x : Str}
    (hn : l.most = some n) (hn2 : n ≤ sizeLine) (hdf : d.params.defaults = []) (hr : Room k callerA)
    (F : ∀ (w : World) (mg : Str → Option Value) (fa : Addr) (h : Heap), YP w h → h.Ns mainGlobals mg → mg d.name = some (.ref fa) →
      ∃ (K : PySem.W.Frag) (fd : FuncData) (cs : List (Addr × Addr)) (sp : Sp), K.In h ∧ (∀ p ∈ cs, h.get? p.2 = some { cls := .none, data := .fields #[] }) ∧ (∀ p ∈ cs, K.lookup p.2 = none) ∧ (∀ p ∈ cs, PySem.W.CodeHd h p.1 p.2) ∧ (∀ (s : Shared) (u : Value), BindsTo s fd ⟨[u], []⟩ [(x, u)]) ∧
        (∀ (H : Hp) (a : Addr) (ns : List Int), ns.length ≤ n → (∀ p ∈ cs, H p.2 = some (.tbl #[])) → FzL K H a (ns.map V.int) → sp [.ref a] H (fun v _ => v = .bl true) fun _ _ _ => False) ∧
        ∀ base : Heap, K.In base → base.Ns mainGlobals mg → (∀ p ∈ cs, TabB base mg p.1 p.2) → FnG l.prog w K mg base k fa fd [x] sp) :
    PySem.W.WalkO q loose XP YP l.row.toRowW d [] (fun f vs => PySem.call f vs) := by
  refine Att.attach_callB hn hdf fun w s₀ s₁ mg mb fa o pm cd doc a vs ns G Y ho hd hcd hmg hobj hints hlen hbits hg => ?_
  obtain ⟨K, fd, cs, sp, KX, em, nK, C, hb, hsp, hF⟩ := F w mg fa _ Y G.T.g hmg
  exact law_callY KX G.T.g G.T.b G.T.builtins G.T.nolimit hg em nK C G.T.bmain hobj hints (Nat.le_trans hlen hn2) hr hF hb fun H h1 h2 => hsp H a ns hlen h1 h2
end MP
set_option Elab.async false
set_option linter.all false
set_option maxRecDepth 100000
set_option maxHeartbeats 4000000
/-! Defs as values, and what the head gives of defs that make lambdas. -/
namespace MP
open PySem PySem.Spec PyProof.Rows L2 MX LamX

theorem Room.u200 {k : Nat} {A : Around} (r : Room k A) : A.units + 200 < cLine := by have := r.un; omega

/-! ### defs as values -/
structure KnV (P : Program) (w : World) (mg : Str → Option Value) (base : Heap) (M : Md) (c k n : Nat) (F : FN) : Prop where
  ex : ∃ (fd : FuncData) (ps : List Str), FnOk P w M.K mg base (L2.CX P w) k (M.fa c) fd ps (spF M n F) ∧ PySem.W.keepIn M.K (.ref (M.fa c)) = true ∧ Binds M.K fd ps []
theorem Kn.val {P : Program} {w : World} {mg : Str → Option Value} {base : Heap} {M : Md} {x : Str} {c k n : Nat} {F : FN} (K : Kn P w mg base M x k n F) (h : mg x = some (.ref (M.fa c))) : KnV P w mg base M c k n F := by
  obtain ⟨f, fd, ps, h1, h2, h3, h4⟩ := K.ex
  rw [h] at h2
  cases h2
  exact ⟨fd, ps, h1, h3, h4⟩
theorem KnV.mono {P : Program} {w : World} {mg : Str → Option Value} {base : Heap} {M : Md} {c k j n : Nat} {F : FN} (K : KnV P w mg base M c k n F) (h : k ≤ j) : ∃ (fd : FuncData) (ps : List Str), FnOk P w M.K mg base (L2.CX P w) k (M.fa c) fd ps (spF M n F) ∧ PySem.W.keepIn M.K (.ref (M.fa c)) = true ∧ Binds M.K fd ps [] := K.ex
section
variable {M : Md} {X : Cx} {W : WX}
theorem me_fn {x : Str} {c : Nat} {pos : Pos} (hm : X.mg x = some (.ref (M.fa c))) (hg : Gl X x := by rfl) (hdb : (x == ("__debug__" : Str)) = false := by decide) : ME M X W (.Name x pos) (dC (.fn c)) := me_glob (v := .ref (M.fa c)) hg hm rfl (fun _ => .fn c) hdb
/-- x(..), x a name of the def that holds one of these defs -/
def dCallV (tab : List (FN × Nat)) (i : Nat) (a : Fs) : Fe := fun ρ S => match ρ[i]? with
  | some (some (.fn c)) => match tab[c]? with
    | some (F, n) => (a ρ S).bind fun ds S1 => if ds.length = n then F ds S1 else .stuck
    | none => .stuck
  | _ => .stuck
theorem me_callV {x : Str} {p pos : Pos} {e : Expr} {es : List Expr} {i j : Nat} {tab : List (FN × Nat)} {a : Fs} (hK : X.K = M.K) (tk : Takes X W) (K : ∀ c F n, tab[c]? = some (F, n) → ∃ k, k ≤ j ∧ KnV X.prog X.w X.mg X.base M c k n F) (hr : Room j X.A) (ha : MA M X W (e :: es) a)
    (hN : X.N[i]? = some x := by rfl) (hv : Vis X.env.scope x := by first | exact Or.inl rfl | exact Or.inr (Or.inl rfl) | exact Or.inr (Or.inr rfl)) (hdb : (x == ("__debug__" : Str)) = false := by decide) (hcd : (x == ("__classdict__" : Str)) = false := by decide)
    (he : starEach (e :: es) X.env = (false, eval e X.env) :: starEach es X.env := by rfl) (hpl : (backTo pos (starEach es X.env)).any (·.1) = false := by rfl) : ME M X W (.Call (.Name x p) (e :: es) [] pos) (dCallV tab i a) := by
  refine ⟨fun pins s σ H Q I q => ?_⟩
  obtain ⟨g, ρ, rfl, rp, en, q⟩ := q
  unfold dCallV at q
  split at q
  · rename_i c hc
    split at q
    · rename_i F n ht
      obtain ⟨k, hkj, KV⟩ := K c F n ht
      obtain ⟨fd, ps, FK, hkp, hb⟩ := KV.ex
      rw [← hK] at FK hkp hb
      obtain ⟨v, h1, h2⟩ := en.at_ i _ hc
      cases h2
      have q := Aft.bind (α := List D) (k := fun ds S1 => if ds.length = n then F ds S1 else .stuck) q
      refine wpAny_Call_Name_kw (thn ((pe_var (pos := p) (i := i) hN hv hdb hcd).run pins s σ g.H (fun v H1 => v = .ref (M.fa c) ∧ H1 = g.H) I ⟨.ref (M.fa c), h1, rfl, rfl⟩) fun u s1 ⟨v, H1, I1, r1, q1⟩ => ?_)
      obtain ⟨ev, eH⟩ := q1
      subst ev
      rw [eH] at I1
      obtain rfl : u = Value.ref (M.fa c) := r1
      refine PySem.W.callWith_K (h₀ := X.base) I1.ok.mod.kin hkp (thn (ha.run pos pins s1 σ g.H (fun vs H1 => spF M n F vs H1 Q (WE W σ)) I1 (tA.go rp en (q.mono (fun ds g1 k1 r1 q1 vs hvs => ?_) fun _ _ _ _ z => z))) fun us s2 ⟨vs, H2, I2, r2, z⟩ => ⟨I2.kIn, run_fnS FK (hr.mono hkj) hb (passAt tk σ) I2 r2 z⟩) he hpl
      split at q1
      · rename_i hl
        exact ⟨by rw [← hvs.length]; exact hl, g1, ds, rfl, r1, hvs, q1⟩
      · exact q1.elim
    · exact q.elim
  · exact q.elim
end

/-! ### the __init__ of a class of the text -/
def cinit : Stmt → Stmt
  | .ClassDef _ _ _ body _ _ _ _ _ _ _ => (body.find? fun st => match st with
    | .FunctionDef n _ _ _ _ _ _ _ _ _ => decide (n = ("__init__" : Str))
    | _ => false).getD (.Pass ⟨0, 0, 0, 0⟩)
  | st => st

/-! ### defs that make lambdas -/
abbrev lamQ (x : Str) : Str := (x ++ ".<locals>.") ++ "<lambda>"
def csOf (K : PySem.W.Frag) (tf : List He.Defn) : List (Addr × Addr) := tf.map (He.cT K)
def tsOf (K : PySem.W.Frag) (tf : List He.Defn) : List (Addr × Str) := tf.map fun p => ((He.cT K p).2, lamQ p.1)
def uqB (K : PySem.W.Frag) (tf : List He.Defn) : Bool := tf.all fun p => tf.all fun q => !decide ((He.cT K p).2 = (He.cT K q).2) || decide (p.1 = q.1)
theorem uqB_ok {K : PySem.W.Frag} {tf : List He.Defn} (e : uqB K tf = true) {p : He.Defn} (hp : p ∈ tf) : ∀ q ∈ tsOf K tf, q.1 = (He.cT K p).2 → q.2 = lamQ p.1 := by
  intro q hq e2
  obtain ⟨r, hr, rfl⟩ := List.mem_map.mp hq
  have z := List.all_eq_true.mp (List.all_eq_true.mp e r hr) p hp
  have e2 : (He.cT K r).2 = (He.cT K p).2 := e2
  simp only [e2, decide_true, Bool.not_true, Bool.false_or, decide_eq_true_eq] at z
  show lamQ r.1 = lamQ p.1
  rw [z]
theorem csOf_mem {K : PySem.W.Frag} {tf : List He.Defn} {p : He.Defn} (hp : p ∈ tf) : He.cT K p ∈ csOf K tf := List.mem_map.mpr ⟨p, hp, rfl⟩
theorem tsOf_mem {K : PySem.W.Frag} {tf : List He.Defn} {p : He.Defn} (hp : p ∈ tf) : ((He.cT K p).2, lamQ p.1) ∈ tsOf K tf := List.mem_map.mpr ⟨p, hp, rfl⟩
theorem tabs_nil {K : PySem.W.Frag} {tf : List He.Defn} {H : Hp} (h : ∀ p ∈ csOf K tf, H p.2 = some (.tbl #[])) : Tabs (tsOf K tf) H := fun q hq => by
  obtain ⟨p, hp, rfl⟩ := List.mem_map.mp hq
  exact TabS.nil (h _ (csOf_mem hp))
/-- a def that makes lambdas: its code object c, its table Pt -/
structure DefG (mg : Str → Option Value) (M : Md) (x : Str) (params : Arguments) (body : List Stmt) (scope : Scope) : Prop where
  ex : ∃ (f : Addr) (fd : FuncData) (c Pt : Addr), FunD M.K x x params body scope [] [] f fd ∧ fd.code = .ref c ∧ mg x = some (.ref f) ∧ (c, Pt) ∈ M.cs ∧ (Pt, lamQ x) ∈ M.T ∧ ∀ p ∈ M.T, p.1 = Pt → p.2 = lamQ x
theorem defG_of {K : PySem.W.Frag} {tf : List He.Defn} {mg : Str → Option Value} {M : Md} {x : Str} {params : Arguments} {body : List Stmt} {scope : Scope} {fd : FuncData} (hK : M.K = K) (hT : M.T = tsOf K tf) (hc : M.cs = csOf K tf) (F : FunD K x x params body scope [] [] (He.fAd K (x, none)) fd) (hm : mg x = some (.ref (He.fAd K (x, none)))) (hp : (x, none) ∈ tf) (u : uqB K tf = true) : DefG mg M x params body scope := by
  subst hK
  obtain ⟨oc, od, dV, kV, doc, pm, an, cdv, ct, osl, e, lk, hcd, _, _⟩ := id F.ex
  obtain ⟨c, rfl⟩ := He.codeIn_ref hcd
  have e2 : fd.code = .ref c := by rw [e]
  have e3 : He.codeOf M.K (x, none) = c := He.codeOf_eq (p := (x, none)) lk e2
  refine ⟨_, fd, c, (He.cT M.K (x, none)).2, F, e2, hm, ?_, ?_, ?_⟩
  · rw [hc]
    have z := csOf_mem (K := M.K) hp
    have z2 : (He.cT M.K (x, none)) = (c, (He.cT M.K (x, none)).2) := Prod.ext (show He.codeOf M.K (x, none) = c from e3) rfl
    rw [z2] at z
    exact z
  · rw [hT]; exact tsOf_mem hp
  · rw [hT]; exact uqB_ok u hp
end MP
set_option Elab.async false
set_option linter.all false
set_option maxRecDepth 100000
set_option maxHeartbeats 4000000
/-! 'x' * k -/
namespace MP
open PySem PySem.Spec PyProof.Rows L2 MX LamX
def repS (z : Str) (k : Int) : Str := ⟨(List.replicate k.toNat z.cps).foldl (· ++ ·) #[]⟩
def rRepS : R2 := fun x y H Q => ∃ z k, x = .str z ∧ y = .int k ∧ 2 ≤ k ∧ k ≤ 1000 ∧ z.length ≠ 0 ∧ z.length ≤ 1000 ∧ (repS z k).length ≤ sizeLine ∧ Q (.str (repS z k)) H
theorem op_repS {X : Cx} : OpR X (binaryOp .Mult) rRepS := by
  intro pins s σ H x y v u Q I rx ry h
  obtain ⟨z, k, rfl, rfl, h1, h2, h3, h4, h5, q⟩ := h
  obtain ⟨t, rfl⟩ := rx
  obtain ⟨t2, rfl⟩ := ry
  have hb1 : (k == 1) = false := beq_eq_false_iff_ne.mpr (by omega)
  have hb2 : (z.length == 0) = false := beq_eq_false_iff_ne.mpr h3
  refine PySem.P.mul_str (by rw [decide_eq_false (by omega), decide_eq_false (by omega)] <;> rfl) (fun _ _ => ?_) (fun _ _ => ?_) ?_
  · have : (1000 : Int) ≤ (2 ^ 63 - 1) / k := by
      refine (Int.le_ediv_iff_mul_le (by omega)).mpr ?_
      omega
    omega
  · have a1 : z.length * k.toNat ≤ 1000 * 1000 := Nat.mul_le_mul h4 (by omega)
    unfold PySem.Builtin.Str.tooLong
    rw [sizeLine_eq]
    exact decide_eq_false (by omega)
  · rw [if_neg (by omega), hb1, hb2, if_neg (by decide)]
    exact ⟨h5, .str _, H, I.tok _, ⟨_, rfl⟩, q⟩
def dRepS : F2 := fun x y S => match x, y with
  | .str z, .int k => if 2 ≤ k ∧ k ≤ 1000 ∧ z.length ≠ 0 ∧ z.length ≤ 1000 ∧ (repS z k).length ≤ sizeLine then .ok (.str (repS z k)) S else .stuck
  | _, _ => .stuck
theorem o2_repS {M : Md} : Op2 M rRepS dRepS := by
  intro g x y v u Q E r hx hy h
  unfold dRepS at h
  split at h
  · split at h
    · rename_i hz
      cases hx
      rw [hy.intI]
      exact ⟨_, _, rfl, rfl, hz.1, hz.2.1, hz.2.2.1, hz.2.2.2.1, hz.2.2.2.2, h.here r _ (.str _)⟩
    · exact h.elim
  · exact h.elim
end MP
set_option Elab.async false
set_option linter.all false
set_option maxRecDepth 100000
set_option maxHeartbeats 4000000
/-! min of a pair of ints -/
namespace MP
open PySem PySem.Spec PyProof.Rows L2 MX LamX
theorem call_minT {X : Cx} (hc : X.calm = true) (un : X.A.units + 200 < cLine) : CallR X (.builtin "min") (fun xs H Q => ∃ a i j, xs = [.ref a] ∧ SqT X.K H a [.int i, .int j] ∧ Q (.int (if j < i then j else i)) H) := by
  intro pins s σ H xs us Q I r h
  obtain ⟨a, i, j, rfl, hT, q⟩ := h
  obtain ⟨its, rv, hl, _⟩ := I.tuple hT
  obtain ⟨t, u, rfl⟩ := Vals.int2 rv
  rw [Vals.ref1 r]
  refine PySem.W.min_tuple_datum (α := Int) (x := i) (xs := [j]) (I.ok.hd hc) hl ⟨_, .cons (.int i t) (.cons (.int j u) .nil)⟩ ?_ fun k v h' tk _ hv kk => ?_
  · have : PySem.W.Datum.depth Int ≤ 100 := by decide
    omega
  · obtain ⟨bs, hr⟩ := hv
    have e : PySem.W.minOf i [j] = if j < i then j else i := by
      show (if decide (j < i) = true then j else i) = _
      simp
    rw [e] at hr
    cases hr with
    | int _ t2 => exact ⟨.int _, H, I.kept kk, ⟨_, rfl⟩, q⟩
def nMinT : FN := fun ds S => match ds with
  | [.tup [.int i, .int j]] => .ok (.int (if j < i then j else i)) S
  | _ => .stuck
theorem on_minT {M : Md} : OpN M (fun xs H Q => ∃ a i j, xs = [.ref a] ∧ SqT M.K H a [.int i, .int j] ∧ Q (.int (if j < i then j else i)) H) nMinT := by
  intro g ds vs Q E r hv h
  unfold nMinT at h
  split at h
  · rename_i i j
    obtain ⟨v, rfl, h1⟩ := hv.one
    obtain ⟨a, xs, rfl, ha, hxs⟩ := h1.tupI
    cases hxs with
    | cons x1 x2 =>
      cases x2 with
      | cons y1 y2 =>
        cases y2
        rw [x1.intI, y1.intI] at ha
        exact ⟨a, i, j, rfl, ha, h.here r _ (.int _)⟩
  · exact h.elim
end MP
set_option Elab.async false
set_option linter.all false
set_option maxRecDepth 100000
set_option maxHeartbeats 4000000
/-! next((i for i, x in enumerate(xs) if test), None) -/
namespace MP
open PySem PySem.Spec PyProof.Rows L2 MX LamX

section
variable {X : Cx} {pins : List (Addr × Obj)} {σ : L2.St} {H : Hp} {s : Shared}
/-- the table's object is written, the code object at c is new; the generators have moved -/
theorem inv_tabG {P c : Addr} {q : Str} {ps more : Array Value} {h' : Heap} {g' : Array GenState} {d' : Drawn} {t' : Nat} (I : L2.Inv X pins σ H s) (hP : H P = some (.tbl ps)) (k : ∀ b o, b ≠ P → s.heap.get? b = some o → h'.get? b = some o)
    (hm : h'.get? P = some { cls := .none, data := .fields (ps ++ more) }) (hc : s.heap.objs.size ≤ c) (ho : ∃ (oc : Obj) (vs : Array Value) (t : Tok), h'.get? c = some oc ∧ oc.data = .fields vs ∧ vs[1]? = some (.str q t)) (hg : AllBare g') :
    L2.Inv X pins σ (upd (upd H P (.tbl (ps ++ more))) c (CodeO c q)) { s with heap := h', gens := g', drawn := d', toks := t' } := by
  have nC : H c = none := I.hok.fresh hc
  have nPc : P ≠ c := ne_of_none hP nC
  have at_ : ∀ b, b ≠ P → b ≠ c → upd (upd H P (.tbl (ps ++ more))) c (CodeO c q) b = H b := fun b h1 h2 => by rw [upd_ne h2, upd_ne h1]
  have atP : upd (upd H P (.tbl (ps ++ more))) c (CodeO c q) P = some (.tbl (ps ++ more)) := by rw [upd_ne nPc, upd_same]
  have nP : ∀ b u, H b = some u → (∀ q, u ≠ .tbl q) → b ≠ P := fun b u e q z => by
    rw [z, hP] at e
    exact q ps (Option.some.inj e).symm
  have nN : ∀ b, H b = none → b ≠ P := fun b e z => by
    rw [z, hP] at e
    cases e
  have lt' : ∀ b o, s.heap.get? b = some o → b ≠ c := fun b o e z => by
    rw [z] at e
    exact Nat.lt_irrefl _ (Nat.lt_of_lt_of_le (Heap.lt_size e) hc)
  have sm : ∀ b u, H b = some u → b ≠ c := fun b u e => ne_of_none e nC
  refine I.step (g' := g') (d' := d') (ch := []) (fun b hb => absurd hb (by simp)) (fun b o _ _ _ e n => k b o (nN b n) e) (fun b o _ _ _ e n => ⟨o.slots, k b o (nN b n) e⟩)
    (fun b o _ e n => by rw [at_ b (nN b n) (lt' b o e)]; exact n) (fun b o _ e => ?_) (fun b xs e => by rw [at_ b (nP b _ e (fun q z => by cases z)) (sm b _ e)]; exact e) (fun b o u e => by rw [at_ b (nP b _ e (fun q z => by cases z)) (sm b _ e)]; exact e) (fun b qs e => ?_) (fun m hn => ?_) (fun b u e => ?_) hg
  · by_cases hb : b = P
    · rw [hb]
      exact ⟨_, hm⟩
    · exact ⟨o, k b o hb e⟩
  · by_cases hb : b = P
    · rw [hb, hP] at e
      cases e
      rw [hb, atP]
      exact ⟨more, rfl⟩
    · rw [at_ b hb (sm b _ e), e]
      exact ⟨#[], by simp⟩
  · obtain ⟨ob, es, ep, ho, r⟩ := hn
    exact ⟨ob, es, ep, k _ ob (nN _ I.free) ho, r⟩
  · by_cases hb : b = c
    · rw [hb, upd_same] at e
      cases e
      rw [hb]
      obtain ⟨oc, vs, t, e1, e2, e3⟩ := ho
      exact ⟨⟨oc, vs, t, e1, e2, e3⟩, ⟨oc, e1⟩, fun h1 h2 ⟨oc, vs, t, a, b, c⟩ st => ⟨oc, vs, t, st _ a, b, c⟩⟩
    · by_cases hb2 : b = P
      · rw [hb2, atP] at e
        cases e
        rw [hb2]
        exact hm
      · rw [at_ b hb2 hb] at e
        refine (I.hok b u e).stay (fun d v hd q => k d v ?_ q) (fun d q => by rw [at_ d (nP d _ q (fun q z => by cases z)) (sm d _ q)]; exact q) fun d xs q => by rw [at_ d (nP d _ q (fun q z => by cases z)) (sm d _ q)]; exact q
        rcases hd with z | z
        · rw [z]
          exact hb2
        · exact nP d _ z (fun q z => by cases z)
end

/-- the generator expression's scope: two names of its own, the walked thing at «.0», captured names -/
structure GenS2 (env : Env) (scope : Scope) (xa xb : Str) : Prop where
  kind : scope.kind = .function
  co : scope.isCoroutine = false
  cell : ∀ y ∈ scope.names, y.2 ≠ .cell
  dot : scope.names.lookup (".0" : Str) = some NameKind.local
  la : scope.names.lookup xa = some .local
  lb : scope.names.lookup xb = some .local
  ab : xa ≠ xb
  free : ∀ y ∈ scope.names, y.2 = .free → env.scope.names.lookup y.1 = some .cell ∨ env.scope.names.lookup y.1 = some .free

/-- the test c of the second name: told by Ts -/
def TestOk (X : Cx) (scope : Scope) (xb : Str) (c : Expr) (Ts : L2.St → Hp → V → Bool → Prop) : Prop :=
  ∀ (pins : List (Addr × Obj)) (σ : L2.St) (H : Hp) (s : Shared) (v : V) (u : Value) (b : Bool) (C bi : Addr) (code : Value) (A' : Around) (E' : Value → Shared → Prop) (s₂ : Shared) (m₂ : Str → Option Value),
    L2.Inv X pins σ H s → RelV v u → Ts σ H v b → s₂.heap.Ns C m₂ → m₂ xb = some u → (∀ d o, (∀ ps, H d ≠ some (.tbl ps)) → s.heap.get? d = some o → s₂.heap.get? d = some o) →
    wpAny (model X.prog X.w) A' (isTrue c (genEnv scope (cloFrom X.env.cells scope.names []) C code bi X.env) (eval c (genEnv scope (cloFrom X.env.cells scope.names []) C code bi X.env))) (fun ok s₃ => ok = b ∧ Keeps s₂ s₃) E' s₂
section
variable {X : Cx} {pins : List (Addr × Obj)} {σ : L2.St} {H : Hp} {s : Shared}
def ReadyG (X : Cx) (T : List (Addr × Str)) (pins : List (Addr × Obj)) (σ : L2.St) (H1 : Hp) (n : Nat) (pz : Nat → Bool) (g : Addr) (s5 : Shared) : Prop :=
  ∃ (fp wr : List Addr) (G : Array GenState → Array GenState → Prop) (St : Nat → Shared → Prop),
    WalksS X.prog X.w X.A.in1 g fp wr G (passing pz n 0).length (fun j y => ∃ i, (passing pz n 0)[j]? = some i ∧ ∃ t, y = .int (i : Nat) t) St ∧ St 0 s5 ∧ s5.TypeIs (.ref g) "generator" ∧
    ∀ s', Moved wr G s5 s' → ∃ H2, ExtN H1 H2 ∧ Tabs T H2 ∧ L2.Inv X pins σ H2 s'
theorem gen_enum {T : List (Addr × Str)} {c P : Addr} {e cd : Expr} {xa xb : Str} {pa pb pt pe p1 p2 gpos : Pos} {kt k : Nat} {scope : Scope} {ta : TA} {Q' : Value → Shared → Prop} {R : Nat → (Nat → Bool) → Hp → Prop} {Ts : L2.St → Hp → V → Bool → Prop}
    (hr : Room k X.A) (TB : LamX.TabB X.base X.mg c P) (hcode : X.env.code = .ref c) (hmT : (P, X.env.qual ++ "<genexpr>") ∈ T) (hu : ∀ p ∈ T, p.1 = P → p.2 = X.env.qual ++ "<genexpr>") (S : GenS2 X.env scope xa xb)
    (hge : Gl X "enumerate") (hme : X.mg "enumerate" = none) (ha : PA X [e] ta) (hst : starEach [e] X.env = [(false, eval e X.env)]) (htest : TestOk X scope xb cd Ts)
    (hs : ∀ v, genFold (.Call (.Name "enumerate" p1) [e] [] p2) X.env v = pure v) (hda : (xa == ("__debug__" : Str)) = false) (I : L2.Inv X pins σ H s)
    (h : ta σ H fun vs H1 => ∃ a xs pz, vs = [.ref a] ∧ (SqL X.K H1 a xs ∨ SqT X.K H1 a xs) ∧ Tabs T H1 ∧ (∀ i v, xs[i]? = some v → Ts σ H1 v (pz i)) ∧ R xs.length pz H1)
    (hQ : ∀ n pz H1 g s5, R n pz H1 → ReadyG X T pins σ H1 n pz g s5 → Q' (.ref g) s5) :
    wpAny (model X.prog X.w) X.A (eval (.GeneratorExp (.Name xa pe) [⟨.Tuple [.Name xa pa, .Name xb pb] kt pt, .Call (.Name "enumerate" p1) [e] [] p2, [cd], 0⟩] scope gpos) X.env) Q' X.xe s := by
  have hfree : ∀ y ∈ scope.names, y.2 = .free → ∃ c, X.env.cells.lookup y.1 = some c := fun y hy e => by
    rcases S.free y hy e with k | k
    · exact I.ok.has _ (.inl k)
    · exact I.ok.has _ (.inr k)
  refine wpAny_GeneratorExp_walksQT hr.hd S.co (closure_ok hfree) S.cell S.dot S.la S.lb S.ab S.kind (by have := hr.dp; omega) ?_ hs
  refine Call_ (ld_blt I hge hme boot_enumerate (PyProof.Rows.callWith_type1 (thn (ha.run p2 pins s σ H _ I h) fun us s1 ⟨vs, H1, I1, r1, q1⟩ => ?_) hst rfl))
  obtain ⟨a, xs, pz, ex, hq, hT, hts, hR⟩ := q1
  subst ex
  have ru : us = [Value.ref a] := Vals.ref1 r1
  subst ru
  obtain ⟨ps, hP, ht, hcs⟩ := hT _ hmT
  have hPs : s1.heap.get? P = some { cls := .none, data := .fields ps } := I1.hok P _ hP
  have hPlt : P < s1.heap.objs.size := Heap.lt_size hPs
  have main : ∀ (h' : Heap) (its : List Value) (St : Nat → Heap → Prop) (Mid : Nat → Addr → Heap → Prop), Vals xs its → a < s1.heap.objs.size → a ≠ P → h'.objs.size = s1.heap.objs.size + 2 → (∀ b o, s1.heap.get? b = some o → h'.get? b = some o) →
      (∀ A' : Around, A'.handled = none → WalksU X.prog X.w A' (s1.heap.objs.size + 1) [s1.heap.objs.size + 1, s1.heap.objs.size, a] [s1.heap.objs.size + 1, s1.heap.objs.size] its.toArray.size (fun i vals => ∃ t x, its.toArray[i]? = some x ∧ vals = #[.int (i : Nat) t, x]) St Mid) → St 0 h' →
      ({ s1 with heap := h' } : Shared).heap.NoLimit ∧
        wpAny (model X.prog X.w) X.A (genexprCode X.env gpos (X.env.qual ++ "<genexpr>") scope) (fun code s₃ => wpAny (model X.prog X.w) X.A (builtinsFor X.env.globals X.env.builtins) (fun bi s₄ =>
        ∃ Ia fp wr n₀ Pt St₀ Mid pz F, Value.ref (s1.heap.objs.size + 1) = .ref Ia ∧ (∀ A' : Around, A'.handled = none → WalksU X.prog X.w A' Ia fp wr n₀ Pt St₀ Mid) ∧ (∀ i vals, Pt i vals → ∃ va vb, vals = #[va, vb]) ∧ St₀ 0 s₄.heap ∧ (∀ b ∈ fp, b < s₄.heap.objs.size) ∧ s₄.heap.NoLimit ∧ cStatics ∉ wr ∧
          (∀ href : Heap, (∀ b o, s₄.heap.get? b = some o → href.get? b = some o) →
            QuietGenT X.prog X.w (genEnv scope (cloFrom X.env.cells scope.names []) s₄.heap.objs.size code bi X.env) xa xb [cd] (.Name xa pe) (List.range s₄.heap.objs.size) wr Pt pz F href) ∧
          (∀ a h₅ tk gs, gs.bare = true → s₄.heap.objs.size < a → h₅.objs.size = a + 1 → (∀ b o, s₄.heap.get? b = some o → h₅.get? b = some o) →
            WalksS X.prog X.w X.A.in4 a (a :: s₄.heap.objs.size :: List.range s₄.heap.objs.size) (s₄.heap.objs.size :: wr) (GenOnlyQ s₄.gens.size) (passing pz n₀ 0).length
              (fun j y => ∃ i, (passing pz n₀ 0)[j]? = some i ∧ F i y) (GenAt X.prog X.w X.A.in4 a s₄.gens.size s₄.heap.objs.size (List.range s₄.heap.objs.size) wr pz n₀ F) →
            GenAt X.prog X.w X.A.in4 a s₄.gens.size s₄.heap.objs.size (List.range s₄.heap.objs.size) wr pz n₀ F 0 { s₄ with gens := s₄.gens.push gs, toks := tk, heap := h₅ } →
            Q' (.ref a) { s₄ with gens := s₄.gens.push gs, toks := tk, heap := h₅ })) X.xe s₃) X.xe { s1 with heap := h' } := by
    intro h' its St Mid rv hal haP hsz2 hk2 W hst0
    have hP2 : h'.get? P = some { cls := .none, data := .fields ps } := hk2 _ _ hPs
    have cdh : PySem.W.CodeHd h' c P := TB.code.keeps fun b u e => hk2 _ _ (I1.bk b u e)
    have lim2 : h'.NoLimit := I1.nolimit.keeps hk2
    have hl : its.length = xs.length := rv.length.symm
    have cont : ∀ (code : Value) (h3 : Heap) (tk : Nat) (H2 : Hp), Heap.ExtBut P h' h3 → h'.objs.size ≤ h3.objs.size → ExtN H1 H2 → Tabs T H2 →
        (∀ (s' : Shared), (∀ b o, b ∉ h3.objs.size :: [s1.heap.objs.size + 1, s1.heap.objs.size] → h3.get? b = some o → s'.heap.get? b = some o) → AllBare s'.gens → s'.os = s1.os → L2.Inv X pins σ H2 s') →
        wpAny (model X.prog X.w) X.A (builtinsFor X.env.globals X.env.builtins) (fun bi s₄ =>
        ∃ Ia fp wr n₀ Pt St₀ Mid pz F, Value.ref (s1.heap.objs.size + 1) = .ref Ia ∧ (∀ A' : Around, A'.handled = none → WalksU X.prog X.w A' Ia fp wr n₀ Pt St₀ Mid) ∧ (∀ i vals, Pt i vals → ∃ va vb, vals = #[va, vb]) ∧ St₀ 0 s₄.heap ∧ (∀ b ∈ fp, b < s₄.heap.objs.size) ∧ s₄.heap.NoLimit ∧ cStatics ∉ wr ∧
          (∀ href : Heap, (∀ b o, s₄.heap.get? b = some o → href.get? b = some o) →
            QuietGenT X.prog X.w (genEnv scope (cloFrom X.env.cells scope.names []) s₄.heap.objs.size code bi X.env) xa xb [cd] (.Name xa pe) (List.range s₄.heap.objs.size) wr Pt pz F href) ∧
          (∀ a h₅ tk gs, gs.bare = true → s₄.heap.objs.size < a → h₅.objs.size = a + 1 → (∀ b o, s₄.heap.get? b = some o → h₅.get? b = some o) →
            WalksS X.prog X.w X.A.in4 a (a :: s₄.heap.objs.size :: List.range s₄.heap.objs.size) (s₄.heap.objs.size :: wr) (GenOnlyQ s₄.gens.size) (passing pz n₀ 0).length
              (fun j y => ∃ i, (passing pz n₀ 0)[j]? = some i ∧ F i y) (GenAt X.prog X.w X.A.in4 a s₄.gens.size s₄.heap.objs.size (List.range s₄.heap.objs.size) wr pz n₀ F) →
            GenAt X.prog X.w X.A.in4 a s₄.gens.size s₄.heap.objs.size (List.range s₄.heap.objs.size) wr pz n₀ F 0 { s₄ with gens := s₄.gens.push gs, toks := tk, heap := h₅ } →
            Q' (.ref a) { s₄ with gens := s₄.gens.push gs, toks := tk, heap := h₅ })) X.xe { s1 with heap := h3, toks := tk } := by
      intro code h3 tk H2 hx hsz hE hT2 hInv
      obtain ⟨bm, ob, e1, e2, e3, e4, e5, e6, e7, e8⟩ := TB.bm
      have hcP : cStatics ≠ P := fun e => by
        obtain ⟨_, hns, _⟩ := I1.nolimit
        obtain ⟨o', es, ep, ho, hd, _⟩ := hns
        rw [e, hPs] at ho
        cases ho
        cases hd
      have hcl : cStatics < s1.heap.objs.size := let ⟨_, hns, _⟩ := I1.nolimit; hns.lt
      have keep3 : ∀ b u, b ≠ P → s1.heap.get? b = some u → h3.get? b = some u := fun b u hb e => hx b u hb (hk2 _ _ e)
      refine wpAny_builtinsFor (m := X.mg) (by rw [I1.ok.glob]; exact ((I1.mod.glob.keeps I1.bk).keeps hk2).extBut hx TB.gP) e1 e2 (keep3 _ _ e4 (I1.bk _ _ e5)) e6 e7 e8 ?_
      refine ⟨s1.heap.objs.size + 1, [s1.heap.objs.size + 1, s1.heap.objs.size, a], [s1.heap.objs.size + 1, s1.heap.objs.size], its.toArray.size, _, St, Mid, pz, (fun i y => ∃ t, y = .int (i : Nat) t), rfl, W, ?_, ?_, ?_, lim2.extBut hx hcP, ?_, ?_, ?_⟩
      · rintro i vals ⟨t, x, _, rfl⟩
        exact ⟨_, _, rfl⟩
      · refine (W X.A hr.hd).frame _ _ _ hst0 fun b hb o e => hx b o (fun z => ?_) e
        rcases List.mem_cons.mp hb with z2 | hb
        · rw [z2] at z; exact absurd hPlt (by rw [← z]; exact Nat.not_lt.mpr (Nat.le_succ _))
        · rcases List.mem_cons.mp hb with z2 | hb
          · rw [z2] at z; exact absurd hPlt (by rw [← z]; exact Nat.lt_irrefl _)
          · rcases List.mem_cons.mp hb with z2 | hb
            · exact haP (z2.symm.trans z)
            · cases hb
      · intro b hb
        show b < h3.objs.size
        rcases List.mem_cons.mp hb with z | hb
        · rw [z]; show s1.heap.objs.size + 1 < h3.objs.size; omega
        · rcases List.mem_cons.mp hb with z | hb
          · rw [z]; show s1.heap.objs.size < h3.objs.size; omega
          · rcases List.mem_cons.mp hb with z | hb
            · rw [z]
              exact Nat.lt_of_lt_of_le hal (by omega)
            · cases hb
      · intro z
        rcases List.mem_cons.mp z with z | z
        · rw [z] at hcl; exact absurd hcl (Nat.not_lt.mpr (Nat.le_succ _))
        · rcases List.mem_cons.mp z with z | z
          · rw [z] at hcl; exact Nat.lt_irrefl _ hcl
          · cases z
      · intro href hhref
        have old : ∀ (s₂ : Shared), (∀ b ∈ List.range h3.objs.size, b ∉ [s1.heap.objs.size + 1, s1.heap.objs.size] → ∀ o, href.get? b = some o → s₂.heap.get? b = some o) → ∀ b o, b ≠ P → s1.heap.get? b = some o → s₂.heap.get? b = some o := fun s₂ hk b o hb e => by
          have hlt : (b : Nat) < s1.heap.objs.size := Heap.lt_size e
          refine hk b (List.mem_range.mpr (Nat.lt_of_lt_of_le hlt (by omega))) (fun z => ?_) o (hhref b o (keep3 b o hb e))
          rcases List.mem_cons.mp z with z | z
          · rw [z] at hlt; exact absurd hlt (Nat.not_lt.mpr (Nat.le_succ _))
          · rcases List.mem_cons.mp z with z | z
            · rw [z] at hlt; exact Nat.lt_irrefl _ hlt
            · cases z
        refine ⟨fun A' E' i va vb s₂ m₂ hA hPv hn hm1 hm2 hk => ?_, fun A' E' i va vb s₂ m₂ hA hPv hp hn hm1 hm2 hk => ?_⟩
        · obtain ⟨t, x, hx2, ev⟩ := hPv
          have ev1 : va = .int (i : Nat) t := congrArg (fun z : Array Value => z.getD 0 .none) ev
          have ev2 : vb = x := congrArg (fun z : Array Value => z.getD 1 .none) ev
          subst ev1 ev2
          obtain ⟨v, hv1, hv2⟩ : ∃ v, xs[i]? = some v ∧ RelV v vb := by
            have hx3 : its[i]? = some vb := by simpa using hx2
            have hi : i < xs.length := by rw [← hl]; exact (List.getElem?_eq_some_iff.mp hx3).1
            obtain ⟨w, w1, w2⟩ := rv.get (List.getElem?_eq_getElem hi)
            rw [hx3] at w1
            cases w1
            exact ⟨_, List.getElem?_eq_getElem hi, w2⟩
          show wpAny _ _ (forIn [cd] true _) _ _ _
          rw [List.forIn_cons]
          refine wpAny_bind (show wpAny (model X.prog X.w) A' (do let ok ← isTrue cd (genEnv scope (cloFrom X.env.cells scope.names []) h3.objs.size code builtinsNs X.env) (eval cd (genEnv scope (cloFrom X.env.cells scope.names []) h3.objs.size code builtinsNs X.env)); pure (ForInStep.yield ok)) _ _ _ from wpAny_bind (wpAny_mono (htest pins σ H1 s1 v vb (pz i) h3.objs.size builtinsNs code A' E' s₂ m₂ I1 hv2 (hts i v hv1) hn hm2 fun d o hd e => old s₂ hk d o (fun z => hd ps (by rw [z]; exact hP)) e) (fun ok s₃ hok => wpAny_pure ?_) fun _ _ e => e))
          show wpAny _ _ (forIn [] ok _) _ _ _
          simp only [List.forIn_nil]
          exact wpAny_pure hok
        · obtain ⟨t, x, hx2, ev⟩ := hPv
          have ev1 : va = .int (i : Nat) t := congrArg (fun z : Array Value => z.getD 0 .none) ev
          refine wpAny_Name (wpAny_loadName_local S.kind S.la hn hm1 ⟨⟨t, ev1⟩, GxR.keeps_refl _⟩) hda
      · intro g h5 tk5 gs hgb hag hsz5 hk5 W5 hat
        have e9 : its.toArray.size = xs.length := by rw [List.size_toArray, hl]
        rw [e9] at W5 hat
        exact hQ xs.length pz H1 g _ hR ⟨_, _, _, _, W5.in4_1, hat, hat.1.typeIs, fun s' hm => ⟨H2, hE, hT2, hInv s' (fun b o hb e => hm.heap b o hb (hk5 b o e)) (AllBare.movedS (I1.bare.push hgb) hm) hm.os⟩⟩
    refine ⟨lim2, ?_⟩
    cases hf : codeAmong gpos ps.toList with
    | none =>
      refine wpAny_genexprCodeX hcode (cdh.code hP2 ht) (cdh.tab hP2) hf fun c' h3 tk hx hge hlt hco' hrec' htab' _ => ?_
      obtain ⟨o1, vs1, f1, tf, fl, tg, inF, tx, tt, op, _, _, _, _, _, _, _, _, _, htr, _⟩ := hco'
      obtain ⟨c2, oc, vs, t, e2, hoc, hd, hv⟩ := hrec'
      cases e2
      have hge' : s1.heap.objs.size ≤ c' := Nat.le_trans (show s1.heap.objs.size ≤ h'.objs.size by omega) hge
      have nC : H1 c' = none := I1.hok.fresh hge'
      have hE : ExtN H1 (upd (upd H1 P (.tbl (ps ++ #[rawInt gpos.line, rawInt gpos.col, .ref c']))) c' (CodeO c' (X.env.qual ++ "<genexpr>"))) := fun b o e n => by
        rw [upd_ne (ne_of_none e nC), upd_ne (fun z => n ps (Option.some.inj (e.symm.trans (by rw [z]; exact hP))))]
        exact e
      have eL : (ps ++ #[rawInt gpos.line, rawInt gpos.col, .ref c']).toList = ps.toList ++ [rawInt gpos.line, rawInt gpos.col, .ref c'] := by simp
      refine cont (.ref c') h3 tk _ hx (Nat.le_trans hge (Nat.le_of_lt hlt)) hE (fun p hp => ?_) fun s' hk hg hos => ?_
      · by_cases hb : p.1 = P
        · rw [hu p hp hb, hb]
          refine ⟨_, by rw [upd_ne (ne_of_none hP nC), upd_same], by rw [eL]; exact PySem.TriplesOk_snoc _ _ _ _ ht, fun p' cv hcv => ?_⟩
          rw [eL] at hcv
          rcases LamX.among_app _ ht hcv with z | z
          · obtain ⟨c0, e1, e2⟩ := hcs p' cv z
            exact ⟨c0, e1, hE _ _ e2 codeO_ne⟩
          · exact ⟨c', z, upd_same⟩
        · obtain ⟨ps', a1, a2, a3⟩ := hT p hp
          refine ⟨ps', by rw [upd_ne (ne_of_none a1 nC), upd_ne hb]; exact a1, a2, fun p' cv hcv => ?_⟩
          obtain ⟨c0, e1, e2⟩ := a3 p' cv hcv
          exact ⟨c0, e1, hE _ _ e2 codeO_ne⟩
      · have nwr : ∀ b u, s1.heap.get? b = some u → b ∉ h3.objs.size :: [s1.heap.objs.size + 1, s1.heap.objs.size] := fun b u e hb => by
          have hl := Heap.lt_size e
          have h9 : s1.heap.objs.size ≤ h3.objs.size := by
            have := Nat.le_trans hge (Nat.le_of_lt hlt)
            omega
          rcases List.mem_cons.mp hb with z | hb
          · rw [z] at hl; exact absurd hl (Nat.not_lt.mpr h9)
          · rcases List.mem_cons.mp hb with z | hb
            · rw [z] at hl; exact absurd hl (Nat.not_lt.mpr (Nat.le_succ _))
            · rcases List.mem_cons.mp hb with z | hb
              · rw [z] at hl; exact Nat.lt_irrefl _ hl
              · cases hb
        have nc : c' ∉ h3.objs.size :: [s1.heap.objs.size + 1, s1.heap.objs.size] := fun hb => by
          have hge2 : s1.heap.objs.size + 2 ≤ c' := by rw [← hsz2]; exact hge
          rcases List.mem_cons.mp hb with z | hb
          · rw [z] at hlt; exact Nat.lt_irrefl _ hlt
          · rcases List.mem_cons.mp hb with z | hb
            · rw [z] at hge2; exact absurd hge2 (Nat.not_succ_le_self _)
            · rcases List.mem_cons.mp hb with z | hb
              · rw [z] at hge2; exact absurd (Nat.le_of_succ_le hge2) (Nat.not_succ_le_self _)
              · cases hb
        have J := inv_tabG (q := X.env.qual ++ "<genexpr>") (more := #[rawInt gpos.line, rawInt gpos.col, .ref c']) (h' := s'.heap) (g' := s'.gens) (d' := s'.drawn) (t' := s'.toks) I1 hP
          (fun b u hb e => hk b u (nwr b u e) (hx b u hb (hk2 _ _ e))) (hk P _ (nwr P _ hPs) htab'.2) hge' ⟨oc, vs, t, hk c' _ nc hoc, hd, hv⟩ hg
        rw [GxR.sh_eta s1 s' hos] at J
        exact J
    | some cv =>
      refine wpAny_genexprCode_hit hcode (cdh.code hP2 ht) hf ?_
      refine cont cv h' s1.toks H1 (Heap.ExtBut.refl _ _) (Nat.le_refl _) (ExtN.refl _) hT fun s' hk hg hos => ?_
      have nwr : ∀ b u, s1.heap.get? b = some u → b ∉ h'.objs.size :: [s1.heap.objs.size + 1, s1.heap.objs.size] := fun b u e hb => by
        have hl := Heap.lt_size e
        rcases List.mem_cons.mp hb with z | hb
        · rw [z] at hl; exact absurd hl (Nat.not_lt.mpr (by omega))
        · rcases List.mem_cons.mp hb with z | hb
          · rw [z] at hl; exact absurd hl (Nat.not_lt.mpr (Nat.le_succ _))
          · rcases List.mem_cons.mp hb with z | hb
            · rw [z] at hl; exact Nat.lt_irrefl _ hl
            · cases hb
      have J := GxR.inv_tab (more := #[]) (h' := s'.heap) (g' := s'.gens) (d' := s'.drawn) (t' := s'.toks) I1 hP (fun b u hb e => hk b u (nwr b u e) (hk2 _ _ e))
        (by rw [Array.append_empty]; exact hk P _ (nwr P _ hPs) hP2) hg
      rw [GxR.sh_eta s1 s' hos] at J
      have eH : upd H1 P (.tbl (ps ++ #[])) = H1 := by
        funext b
        by_cases hb : b = P
        · rw [hb, upd_same, hP, Array.append_empty]
        · rw [upd_ne hb]
      rw [eH] at J
      exact J
  rcases hq with hq | hq
  · obtain ⟨its, rv, p', hz⟩ := I1.list hq
    obtain ⟨o, ho, hc, n, hd⟩ := p'.isList
    have hal : a < s1.heap.objs.size := Heap.lt_size ho
    have haP : a ≠ P := fun z => by
      rw [z, hPs] at ho
      cases ho
      cases hd
    refine call_enumerate_list p'.isList fun h' he hit hsz hk => wpAny_pyIter_enum he ?_
    have hne : a ≠ s1.heap.objs.size := Nat.ne_of_lt hal
    exact main h' its _ _ rv hal haP hsz hk (fun A' hA => (WalksT.enumerateD (Draws.list (prog := X.prog) (w := X.w) (A := A'.in1) hA s1.heap.objs.size a hne its.toArray) (s1.heap.objs.size + 1) (Nat.succ_ne_self _) (fun z => by
      rcases List.mem_cons.mp z with z | z
      · exact Nat.succ_ne_self _ z
      · rcases List.mem_cons.mp z with z | z
        · rw [← z] at hal; exact absurd hal (Nat.not_lt.mpr (Nat.le_succ _))
        · cases z) List.mem_cons_self).toU) ⟨⟨.none, he⟩, hit, p'.isList.at fun o e => hk _ _ e⟩
  · obtain ⟨its, rv, p', hz⟩ := I1.tuple hq
    obtain ⟨o, ho, hc, n, hd⟩ := id p'
    have hal : a < s1.heap.objs.size := Heap.lt_size ho
    have haP : a ≠ P := fun z => by
      rw [z, hPs] at ho
      cases ho
      cases hd
    refine call_enumT (show s1.heap.IsTuple a its.toArray from p') fun h' he hit hsz hk => wpAny_pyIter_enum he ?_
    have hne : a ≠ s1.heap.objs.size := Nat.ne_of_lt hal
    exact main h' its _ _ rv hal haP hsz hk (fun A' hA => (WalksT.enumerateD (Draws.tuple (prog := X.prog) (w := X.w) (A := A'.in1) hA s1.heap.objs.size a hne its.toArray) (s1.heap.objs.size + 1) (Nat.succ_ne_self _) (fun z => by
      rcases List.mem_cons.mp z with z | z
      · exact Nat.succ_ne_self _ z
      · rcases List.mem_cons.mp z with z | z
        · rw [← z] at hal; exact absurd hal (Nat.not_lt.mpr (Nat.le_succ _))
        · cases z) List.mem_cons_self).toU) ⟨⟨.none, he⟩, hit, (show s1.heap.IsTuple a its.toArray from p').at fun o e => hk _ _ e⟩
end
end MP
set_option Elab.async false
set_option linter.all false
set_option maxRecDepth 100000
set_option maxHeartbeats 4000000
/-! next((i for i, x in enumerate(xs) if test), None) -/
namespace MP
open PySem PySem.Spec PyProof.Rows L2 MX LamX
section
variable {prog : Program} {w : World} {A : Around} {E : Value → Shared → Prop} {s : Shared}
theorem call_next2 {g : Addr} {d : Value} {Q : Value → Shared → Prop} (hT : s.TypeIs (.ref g) "generator") (h : wpAny (model prog w) A.in1 (pyNext (.ref g)) (fun r s' => Q (r.getD d) s') E s) :
    wpAny (model prog w) A (call (.builtin "next") [.ref g, d]) Q E s := by
  refine Calls.call_function_entry (by decide +kernel) (by decide +kernel) PySem.W.kdk_entry_next (PySem.W.kdk_args_next2 _ _) ?_
  unfold Builtin.«next»
  refine wpAny_bind (m := someArgs "next" 1 2 _) (wpAny_of_eq (a := [Value.ref g, d]) (by first | rfl | kernel_rfl!) ?_)
  dsimp only
  refine wpAny_bind (wpAny_specialOf (name := Str.ofString "__next__") hT slot_gen_next.lookup ?_)
  refine wpAny_ite_split (fun hab => absurd hab (by decide)) (fun _ => ?_)
  exact wpAny_bind (wpAny_mono h (fun r s' q => wpAny_pure ⟨_, rfl, q⟩) fun _ _ z => z)
theorem tail_tup {value slice : Expr} {a : Addr} {its : List Value} {xs : List V} {i : Int} {u : Tok} {z : V} {Q : Value → Shared → Prop} (pl : IsTup s.heap a its.toArray) (r : Vals xs its) (hz : xs.length ≤ sizeLine) (he : atI xs i = some z)
    (hs : PlainIx slice) (h : ∀ w', RelV z w' → Q w' s) : wpAny (model prog w) A (subscriptTail value slice (.ref a) (.int i u)) Q E s := by
  obtain ⟨j, h1, h2, h3, h4, h5⟩ := atI_get he
  obtain ⟨w', ew, rw'⟩ := r.get h2
  have hl := r.length
  have hn := line63
  exact subscriptTail_builtinR (x := w') pl.typeIs slot_tuple_getitem.lookup
    (getItem_tuple (j := j) (Q := fun r s' => r = w' ∧ Q r s') pl (by omega) (by omega) (by rw [List.size_toArray, ← hl]; exact h1) (by simpa using ew) ⟨rfl, h w' rw'⟩) (hs _ _)
end
theorem boot_next : bootBuiltins "next" = some (.builtin "next") := by decide +kernel

/-! ### the tests -/
section
variable {X : Cx}
theorem tup_at {pins : List (Addr × Obj)} {σ : L2.St} {H : Hp} {s s₂ : Shared} {a : Addr} {xs : List V} (I : L2.Inv X pins σ H s) (h : SqT X.K H a xs) (k : ∀ d o, (∀ ps, H d ≠ some (.tbl ps)) → s.heap.get? d = some o → s₂.heap.get? d = some o) : ∃ its, Vals xs its ∧ IsTup s₂.heap a its.toArray ∧ xs.length ≤ sizeLine := by
  obtain ⟨its, r, p, z⟩ := I.tuple h
  obtain ⟨o, ho, hc, n, hd⟩ := id p
  refine ⟨its, r, ⟨o, k a o (fun ps e => ?_) ho, hc, n, hd⟩, z⟩
  have q := I.hok a _ e
  rw [show s.heap.get? a = _ from q] at ho
  cases ho
  cases hd
/-- x[k] != 0 -/
def Ts2 (X : Cx) (k : Int) (σ : L2.St) (H : Hp) (v : V) (b : Bool) : Prop := ∃ a xs x, v = .ref a ∧ SqT X.K H a xs ∧ atI xs k = some (.int x) ∧ b = (x != 0)
theorem ts2_ok {scope : Scope} {xb : Str} {k : Int} {j j2 : Nat} {p1 p2 p3 p4 p5 : Pos} (hk : scope.kind = .function) (hl : scope.names.lookup xb = some .local) (hd : (xb == ("__debug__" : Str)) = false) :
    TestOk X scope xb (.Compare (.Subscript (.Name xb p1) (.Constant (.int k) j p2) p3) [.NotEq] [.Constant (.int 0) j2 p4] p5) (Ts2 X k) := by
  intro pins σ H s v u b C bi code A' E' s₂ m₂ I rv ht hns hm hkeep
  obtain ⟨a, xs, x, rfl, hT, hat, rfl⟩ := ht
  obtain ⟨its, r, pl, hz⟩ := tup_at I hT hkeep
  have ru : u = Value.ref a := rv
  subst ru
  refine wpAny_isTrue_Compare1 (Subscript_ (wpAny_Name (wpAny_loadName_local hk hl hns hm ?_) hd)) rfl
  refine wpAny_Constant_int ?_
  refine tail_tup (s := { s₂ with toks := s₂.toks + 1 }) pl r hz hat (fun _ _ => rfl) fun w' rw' => ?_
  obtain ⟨t, rfl⟩ := rw'
  refine wpAny_Constant_int ?_
  refine PySem.P.ne_int (wpAny_truthy_bool ⟨rfl, ?_⟩)
  exact GxR.keeps_tok s₂ _
/-- row[place][k] != 0, place captured: the i-th name -/
def Ts1 (X : Cx) (i : Nat) (k : Int) (σ : L2.St) (H : Hp) (v : V) (b : Bool) : Prop := ∃ a xs pl c ys x, σ[i]? = some (some (.int pl)) ∧ v = .ref a ∧ SqT X.K H a xs ∧ atI xs pl = some (.ref c) ∧ SqT X.K H c ys ∧ atI ys k = some (.int x) ∧ b = (x != 0)
theorem free_look {xa xb : Str} {scope : Scope} {pins : List (Addr × Obj)} {σ : L2.St} {H : Hp} {s : Shared} {i : Nat} {y : Str} {v : V} (S : GenS2 X.env scope xa xb) (I : L2.Inv X pins σ H s) (hN : X.N[i]? = some y) (hf : scope.names.lookup y = some .free) (hs : σ[i]? = some (some v)) :
    ∃ c u, RelV v u ∧ (cloFrom X.env.cells scope.names []).lookup y = some c ∧ s.heap.IsCell c (some u) ∧ H c = none := by
  have hfree : ∀ y ∈ scope.names, y.2 = .free → ∃ c, X.env.cells.lookup y.1 = some c := fun y hy e => by
    rcases S.free y hy e with k | k
    · exact I.ok.has _ (.inl k)
    · exact I.ok.has _ (.inr k)
  have cm : ∀ {y c}, (cloFrom X.env.cells scope.names []).lookup y = some c → X.env.cells.lookup y = some c := fun {y c} e => by
    rcases cloFrom_mem (PySem.mem_of_lookup e) with hm | ⟨h1, h2⟩
    · cases hm
    · obtain ⟨c1, hc⟩ := hfree _ h1 rfl
      have hc : X.env.cells.lookup y = some c1 := hc
      have e2 : c = c1 := by
        rw [h2, hc] <;> rfl
      rw [e2]
      exact hc
  have hy : (y, NameKind.free) ∈ scope.names := PySem.mem_of_lookup hf
  obtain ⟨c2, h2⟩ := mem_lookup (cloFrom_has (cells := X.env.cells) (acc := []) hy)
  have c1 := cm h2
  obtain ⟨m, hn, hl⟩ := I.loc
  have hvis : Vis X.env.scope y := (S.free _ hy rfl).elim (fun k => .inr (.inl k)) (fun k => .inr (.inr k))
  obtain ⟨u, r, q⟩ := hl i y v hN hs hvis
  rcases q with ⟨k', _⟩ | ⟨_, c3, e', z⟩
  · have k' : X.env.scope.names.lookup y = some .local := k'
    rcases S.free _ hy rfl with k2 | k2 <;> rw [show X.env.scope.names.lookup y = _ from k2] at k' <;> cases k'
  · rw [c1] at e'
    cases e'
    exact ⟨c2, u, r, h2, z, I.freeC y c2 c1⟩
theorem ts1_ok {scope : Scope} {xa xb y : Str} {k : Int} {i j j2 : Nat} {p1 p2 p3 p4 p5 p6 p7 : Pos} (S : GenS2 X.env scope xa xb) (hN : X.N[i]? = some y) (hf : scope.names.lookup y = some .free) (hd : (xb == ("__debug__" : Str)) = false) (hd2 : (y == ("__debug__" : Str)) = false) (hcd : (y == ("__classdict__" : Str)) = false) :
    TestOk X scope xb (.Compare (.Subscript (.Subscript (.Name xb p1) (.Name y p2) p3) (.Constant (.int k) j p4) p5) [.NotEq] [.Constant (.int 0) j2 p6] p7) (Ts1 X i k) := by
  intro pins σ H s v u b C bi code A' E' s₂ m₂ I rv ht hns hm hkeep
  obtain ⟨a, xs, pl, c, ys, x, hs, rfl, hT, hat, hT2, hat2, rfl⟩ := ht
  obtain ⟨its, r, pt, hz⟩ := tup_at I hT hkeep
  obtain ⟨its2, r2, pt2, hz2⟩ := tup_at I hT2 hkeep
  have ru : u = Value.ref a := rv
  subst ru
  obtain ⟨cc, uy, ruy, hcl, hcell, hnc⟩ := free_look S I hN hf hs
  obtain ⟨tt, rfl⟩ := ruy
  have hcell2 : s₂.heap.IsCell cc (some (.int pl tt)) := by
    obtain ⟨o, ho, hd⟩ := hcell
    exact ⟨o, hkeep cc o (fun ps e => by rw [hnc] at e; cases e) ho, hd⟩
  refine wpAny_isTrue_Compare1 (Subscript_ (Subscript_ (wpAny_Name (wpAny_loadName_local S.kind S.lb hns hm ?_) hd))) rfl
  refine wpAny_Name (wpAny_loadName_free S.kind hf hcl hcell2 ?_ hcd) hd2
  refine tail_tup pt r hz hat (fun _ _ => rfl) fun w' rw' => ?_
  obtain rfl : w' = Value.ref c := rw'
  refine wpAny_Constant_int ?_
  refine tail_tup (s := { s₂ with toks := s₂.toks + 1 }) pt2 r2 hz2 hat2 (fun _ _ => rfl) fun w' rw' => ?_
  obtain ⟨t, rfl⟩ := rw'
  refine wpAny_Constant_int ?_
  refine PySem.P.ne_int (wpAny_truthy_bool ⟨rfl, ?_⟩)
  exact GxR.keeps_tok s₂ _
end

/-! ### next over plain data -/
def firstI (t : D → Option Bool) (ds : List D) : Option D := if ds.all (fun x => (t x).isSome) then some (match ds.findIdx? (fun x => t x == some true) with | some i => .int i | none => .non) else none
def dNextE (t : Rho → Sto → D → Option Bool) (src : Fe) : Fe := fun ρ S => (src ρ S).bind fun d S1 => match itemsD d S1 with
  | some ds => match firstI (t ρ S1) ds with | some r => .ok r S1 | none => .stuck
  | none => .stuck
theorem passing_first {pz : Nat → Bool} {n : Nat} : (passing pz n 0)[0]? = (List.range n).find? pz := by
  unfold passing
  rw [List.drop_zero, ← List.head?_eq_getElem?, List.head?_filter]
def hitAt {α : Type} (p : α → Bool) (ds : List α) (i : Nat) : Bool := ((ds[i]?).map p).getD false
theorem find_range {α : Type} {p : α → Bool} : ∀ (ds : List α), (List.range ds.length).find? (hitAt p ds) = ds.findIdx? p
  | [] => rfl
  | d :: ds => by
    have h0 : hitAt p (d :: ds) 0 = p d := rfl
    have h1 : hitAt p (d :: ds) ∘ Nat.succ = hitAt p ds := rfl
    rw [List.length_cons, List.range_succ_eq_map, List.find?_cons, List.findIdx?_cons, h0]
    cases h : p d with
    | true => simp
    | false =>
      rw [List.find?_map, h1, find_range ds]
      rfl
section
variable {M : Md} {X : Cx} {W : WX}
theorem me_nextE {c P : Addr} {e cd : Expr} {xa xb : Str} {p pos pa pb pt pe p1 p2 pn gpos : Pos} {kt k j : Nat} {scope : Scope} {fe : Fe} {Ts : L2.St → Hp → V → Bool → Prop} {t : Rho → Sto → D → Option Bool}
    (hr : Room k X.A) (hK : X.K = M.K) (TB : LamX.TabB X.base X.mg c P) (hcode : X.env.code = .ref c) (hmT : (P, X.env.qual ++ "<genexpr>") ∈ M.T) (hu : ∀ p ∈ M.T, p.1 = P → p.2 = X.env.qual ++ "<genexpr>") (S : GenS2 X.env scope xa xb)
    (hge : Gl X "enumerate") (hme : X.mg "enumerate" = none) (hgn : Gl X "next") (hmn : X.mg "next" = none) (he : ME M X W e fe) (htest : TestOk X scope xb cd Ts)
    (hT : ∀ (g : Wd) (ρ : Rho) (σ : L2.St) (d : D) (v : V) (b : Bool), Rep M g → EnvOk M g ρ σ → DV M g d v → t ρ g.S d = some b → Ts σ g.H v b)
    (hst : starEach [e] X.env = [(false, eval e X.env)] := by rfl)
    (hs : ∀ v, genFold (.Call (.Name "enumerate" p1) [e] [] p2) X.env v = pure v := by intro v; rfl) (hda : (xa == ("__debug__" : Str)) = false := by decide)
    (hst2 : starEach [.GeneratorExp (.Name xa pe) [⟨.Tuple [.Name xa pa, .Name xb pb] kt pt, .Call (.Name "enumerate" p1) [e] [] p2, [cd], 0⟩] scope gpos, .Constant .none j pn] X.env = (false, eval (.GeneratorExp (.Name xa pe) [⟨.Tuple [.Name xa pa, .Name xb pb] kt pt, .Call (.Name "enumerate" p1) [e] [] p2, [cd], 0⟩] scope gpos) X.env) :: starEach [.Constant .none j pn] X.env := by rfl)
    (hst3 : starEach [.Constant .none j pn] X.env = (false, eval (.Constant .none j pn) X.env) :: starEach [] X.env := by rfl) (hpl : (backTo pos (starEach [.Constant .none j pn] X.env)).any (·.1) = false := by rfl) :
    ME M X W (.Call (.Name "next" p) [.GeneratorExp (.Name xa pe) [⟨.Tuple [.Name xa pa, .Name xb pb] kt pt, .Call (.Name "enumerate" p1) [e] [] p2, [cd], 0⟩] scope gpos, .Constant .none j pn] [] pos) (dNextE t fe) := by
  refine ⟨fun pins s σ H Q I q => ?_⟩
  obtain ⟨g, ρ, rfl, rp, en, q⟩ := q
  have q := Aft.bind (α := D) (k := fun d S1 => match itemsD d S1 with | some ds => (match firstI (t ρ S1) ds with | some r => (Rs.ok r S1 : Rs D) | none => .stuck) | none => .stuck) q
  refine wpAny_Call_Name_kw (ld_blt (u := .builtin "next") I hgn hmn boot_next ?_ (by decide) (by decide))
  refine PyProof.Rows.callWith_builtin1 (args_cons ?_ hst2) hst2 hpl
  refine gen_enum (T := M.T) (c := c) (P := P) (ta := tCons (tE M W fe) tNil)
    (R := fun n pz H1 => ∃ g1, g1.H = H1 ∧ Rep M g1 ∧ Aft M g1 (Rs.ok (match (passing pz n 0)[0]? with | some i => D.int (i : Nat) | none => .non) g1.S) (PD M Q) (XD M W σ)) hr TB hcode hmT hu S hge hme (pa_cons he pa_nil hst) hst htest hs hda I ?_ ?_
  · refine tE.go rp en (q.mono (fun d g1 k1 r1 q1 v hv => ?_) fun _ _ _ _ z => z)
    have q1 : Aft M g1 (match itemsD d g1.S with | some ds => (match firstI (t ρ g1.S) ds with | some r => (Rs.ok r g1.S : Rs D) | none => .stuck) | none => .stuck) (PD M Q) (XD M W σ) := q1
    cases hi : itemsD d g1.S with
    | none => rw [hi] at q1; exact q1.elim
    | some ds =>
      rw [hi] at q1
      have q1 : Aft M g1 (match firstI (t ρ g1.S) ds with | some r => (Rs.ok r g1.S : Rs D) | none => .stuck) (PD M Q) (XD M W σ) := q1
      unfold firstI at q1
      by_cases ha : ds.all (fun x => (t ρ g1.S x).isSome) = true
      · rw [if_pos ha] at q1
        obtain ⟨a, xs, rfl, hx, hxs⟩ := itemsD_v r1 hv hi
        have hlen := hxs.length
        have hx' : SqL X.K g1.H a xs ∨ SqT X.K g1.H a xs := by
          rw [hK]
          exact hx.symm
        have en1 := en.mono rp k1
        have sm : ∀ d, d ∈ ds → ∃ b, t ρ g1.S d = some b := fun d hd => Option.isSome_iff_exists.mp (List.all_eq_true.mp ha d hd)
        refine ⟨a, xs, hitAt (fun x => t ρ g1.S x == some true) ds, rfl, hx', r1.tabs, fun i v hv => ?_, g1, rfl, r1, ?_⟩
        · obtain ⟨d, hd, hdv⟩ := hxs.getV hv
          obtain ⟨b, hb⟩ := sm d (List.mem_of_getElem? hd)
          have e : hitAt (fun x => t ρ g1.S x == some true) ds i = b := by
            unfold hitAt
            rw [hd]
            show (t ρ g1.S d == some true) = b
            rw [hb]
            cases b <;> rfl
          rw [e]
          exact hT g1 ρ σ d v b r1 en1 hdv hb
        · rw [passing_first, ← hlen, find_range]
          exact q1
      · rw [if_neg ha] at q1
        exact q1.elim
  · rintro n pz H1 gg s5 ⟨g1, rfl, r1, q1⟩ ⟨fp, wr, G, St, Wk, hst0, hty, hmv⟩
    refine args_cons (wpAny_Constant_none (args_nil ?_)) hst3
    refine call_next2 hty ?_
    cases hp : (passing pz n 0)[0]? with
    | none =>
      rw [hp] at q1
      have hl : (passing pz n 0).length = 0 := by
        rw [List.getElem?_eq_none_iff] at hp
        omega
      refine Wk.done s5 _ _ (by rw [hl]; exact hst0) fun s' hm => ?_
      obtain ⟨H2, ex, t2, I2⟩ := hmv s' hm
      obtain ⟨kk, r2⟩ := ext_rep r1 ex t2
      exact ⟨.non, H2, I2, rfl, q1 ⟨g1.μ, g1.S, H2⟩ rfl kk r2 _ .non⟩
    | some i =>
      rw [hp] at q1
      have hl : 0 < (passing pz n 0).length := (List.getElem?_eq_some_iff.mp hp).1
      refine Wk.item 0 s5 _ _ hl hst0 fun v s' hv _ hm => ?_
      obtain ⟨i', hi', tt, rfl⟩ := hv
      rw [hp] at hi'
      cases hi'
      obtain ⟨H2, ex, t2, I2⟩ := hmv s' hm
      obtain ⟨kk, r2⟩ := ext_rep r1 ex t2
      exact ⟨.int i, H2, I2, ⟨tt, rfl⟩, q1 ⟨g1.μ, g1.S, H2⟩ rfl kk r2 _ (.int _)⟩
end
end MP
set_option Elab.async false
set_option linter.all false
set_option maxRecDepth 100000
set_option maxHeartbeats 4000000
/-! The tests of next(..) over plain data; list(range(n)). -/
namespace MP
open PySem PySem.Spec PyProof.Rows L2 MX LamX
def neI (k : Int) (ds : List D) : Option Bool := match atI ds k with
  | some (.int x) => some (x != 0)
  | _ => none
def dTs2 (k : Int) : Rho → Sto → D → Option Bool := fun _ _ d => match d with
  | .tup ds => neI k ds
  | _ => none
def dTs1 (i : Nat) (k : Int) : Rho → Sto → D → Option Bool := fun ρ _ d => match ρ[i]?, d with
  | some (some (.int pl)), .tup ds => (match atI ds pl with | some (.tup es) => neI k es | _ => none)
  | _, _ => none
section
variable {M : Md} {X : Cx} {W : WX}
theorem neI_v {g : Wd} {k : Int} {ds : List D} {vs : List V} {b : Bool} (h : DVs M g ds vs) (e : neI k ds = some b) : ∃ x, atI vs k = some (.int x) ∧ b = (x != 0) := by
  unfold neI at e
  split at e
  · rename_i x hx
    obtain ⟨w, h1, h2⟩ := atI_dv h hx
    cases e
    rw [h2.intI] at h1
    exact ⟨x, h1, rfl⟩
  · cases e
theorem dTs2_ok {k : Int} (hK : X.K = M.K) (g : Wd) (ρ : Rho) (σ : L2.St) (d : D) (v : V) (b : Bool) (_ : Rep M g) (_ : EnvOk M g ρ σ) (hv : DV M g d v) (e : dTs2 k ρ g.S d = some b) : Ts2 X k σ g.H v b := by
  unfold dTs2 at e
  split at e
  · rename_i ds
    obtain ⟨a, xs, rfl, ha, hxs⟩ := hv.tupI
    obtain ⟨x, h1, h2⟩ := neI_v hxs e
    exact ⟨a, xs, x, rfl, by rw [hK]; exact ha, h1, h2⟩
  · cases e
theorem dTs1_ok {i : Nat} {k : Int} (hK : X.K = M.K) (g : Wd) (ρ : Rho) (σ : L2.St) (d : D) (v : V) (b : Bool) (_ : Rep M g) (en : EnvOk M g ρ σ) (hv : DV M g d v) (e : dTs1 i k ρ g.S d = some b) : Ts1 X i k σ g.H v b := by
  unfold dTs1 at e
  split at e
  · rename_i pl ds hi
    split at e
    · rename_i es hp
      obtain ⟨a, xs, rfl, ha, hxs⟩ := hv.tupI
      obtain ⟨w, h1, h2⟩ := atI_dv hxs hp
      obtain ⟨c, ys, rfl, hc, hys⟩ := h2.tupI
      obtain ⟨x, h3, h4⟩ := neI_v hys e
      obtain ⟨z, h5, h6⟩ := en.at_ i _ hi
      rw [h6.intI] at h5
      exact ⟨a, xs, pl, c, ys, x, h5, rfl, by rw [hK]; exact ha, h1, by rw [hK]; exact hc, h3, h4⟩
    · cases e
  · cases e
/-- list(range(n)) -/
def dListR (fe : Fe) : Fe := fun ρ S => (fe ρ S).bind fun d S1 => match d with
  | .int n => if 0 ≤ n ∧ n ≤ 16777216 then .ok (.ref S1.length) (S1 ++ [.lst ((List.range n.toNat).map fun i => D.int (i : Nat))]) else .stuck
  | _ => .stuck
theorem dvs_rg {g : Wd} : ∀ (l : List Nat), DVs M g (l.map fun i => D.int (i : Nat)) (l.map fun i => V.int (0 + (i : Nat)))
  | [] => .nil
  | i :: l => .cons (by show DV M g (D.int (i : Nat)) (V.int (0 + (i : Nat))); rw [Int.zero_add]; exact .int _) (dvs_rg l)
theorem me_listR {e : Expr} {fe : Fe} {p p2 pos pos2 : Pos} (hc : X.calm = true) (hg : Gl X "list") (hm : X.mg "list" = none) (hg2 : Gl X "range") (hm2 : X.mg "range" = none) (he : ME M X W e fe) (na : starEach [e] X.env = (false, eval e X.env) :: starEach [] X.env := by rfl)
    (na2 : starEach [.Call (.Name "range" p2) [e] [] pos2] X.env = (false, eval (.Call (.Name "range" p2) [e] [] pos2) X.env) :: starEach [] X.env := by rfl) :
    ME M X W (.Call (.Name "list" p) [.Call (.Name "range" p2) [e] [] pos2] [] pos) (dListR fe) := by
  refine PE.imp (pe_listRg hc hg hm (prg_1 hg2 hm2 he na) na2) fun σ H Q q => ?_
  obtain ⟨g, ρ, rfl, rp, en, q⟩ := q
  have q := Aft.bind (α := D) (k := fun d S1 => match d with | .int n => (if 0 ≤ n ∧ n ≤ 16777216 then Rs.ok (.ref S1.length) (S1 ++ [.lst ((List.range n.toNat).map fun i => D.int (i : Nat))]) else .stuck : Rs D) | _ => .stuck) q
  refine tE.go rp en (q.mono (fun d g1 k1 r1 q1 v hv => ?_) fun _ _ _ _ z => z)
  split at q1
  · rename_i n
    split at q1
    · rename_i hn
      refine ⟨n, hv.intI, RgOk.of_le (by omega) hn.2 (by omega) hn.1, fun p hp => ?_⟩
      have e0 : rgV 0 n = (List.range n.toNat).map fun i => V.int (0 + (i : Nat)) := by
        unfold rgV
        rw [Int.sub_zero]
      rw [e0]
      exact new_lst r1 q1 hp (dvs_rg _) _ .newRef
    · exact q1.elim
  · exact q1.elim
end
end MP
set_option Elab.async false
set_option linter.all false
set_option maxRecDepth 100000
set_option maxHeartbeats 4000000
/-! Defs that make generators: their tables. -/
namespace MP
open PySem PySem.Spec PyProof.Rows L2 MX LamX
abbrev genQ (x : Str) : Str := (x ++ ".<locals>.") ++ "<genexpr>"
def tsOf2 (K : PySem.W.Frag) (tf : List (He.Defn × Str)) : List (Addr × Str) := tf.map fun p => ((He.cT K p.1).2, p.2)
def uqB2 (K : PySem.W.Frag) (tf : List (He.Defn × Str)) : Bool := tf.all fun p => tf.all fun q => !decide ((He.cT K p.1).2 = (He.cT K q.1).2) || decide (p.2 = q.2)
theorem uqB2_ok {K : PySem.W.Frag} {tf : List (He.Defn × Str)} (e : uqB2 K tf = true) {p : He.Defn × Str} (hp : p ∈ tf) : ∀ q ∈ tsOf2 K tf, q.1 = (He.cT K p.1).2 → q.2 = p.2 := by
  intro q hq e2
  obtain ⟨r, hr, rfl⟩ := List.mem_map.mp hq
  have z := List.all_eq_true.mp (List.all_eq_true.mp e r hr) p hp
  have e2 : (He.cT K r.1).2 = (He.cT K p.1).2 := e2
  simp only [e2, decide_true, Bool.not_true, Bool.false_or, decide_eq_true_eq] at z
  exact z
theorem tsOf2_mem {K : PySem.W.Frag} {tf : List (He.Defn × Str)} {p : He.Defn × Str} (hp : p ∈ tf) : ((He.cT K p.1).2, p.2) ∈ tsOf2 K tf := List.mem_map.mpr ⟨p, hp, rfl⟩
theorem tabs_nil2 {K : PySem.W.Frag} {tf : List (He.Defn × Str)} {H : Hp} (h : ∀ p ∈ csOf K (tf.map (·.1)), H p.2 = some (.tbl #[])) : Tabs (tsOf2 K tf) H := fun q hq => by
  obtain ⟨p, hp, rfl⟩ := List.mem_map.mp hq
  exact TabS.nil (h _ (csOf_mem (List.mem_map.mpr ⟨p, hp, rfl⟩)))
/-- a def that makes things named q: its code object c, its table Pt -/
structure DefQ (mg : Str → Option Value) (M : Md) (x q : Str) (params : Arguments) (body : List Stmt) (scope : Scope) : Prop where
  ex : ∃ (f : Addr) (fd : FuncData) (c Pt : Addr), FunD M.K x x params body scope [] [] f fd ∧ fd.code = .ref c ∧ mg x = some (.ref f) ∧ (c, Pt) ∈ M.cs ∧ (Pt, q) ∈ M.T ∧ ∀ p ∈ M.T, p.1 = Pt → p.2 = q
theorem DefQ.g {mg : Str → Option Value} {M : Md} {x : Str} {params : Arguments} {body : List Stmt} {scope : Scope} (h : DefQ mg M x (lamQ x) params body scope) : DefG mg M x params body scope := ⟨h.ex⟩
theorem defQ_of {K : PySem.W.Frag} {tf : List (He.Defn × Str)} {mg : Str → Option Value} {M : Md} {x q : Str} {params : Arguments} {body : List Stmt} {scope : Scope} {fd : FuncData} (hK : M.K = K) (hT : M.T = tsOf2 K tf) (hc : M.cs = csOf K (tf.map (·.1))) (F : FunD K x x params body scope [] [] (He.fAd K (x, none)) fd) (hm : mg x = some (.ref (He.fAd K (x, none)))) (hp : ((x, none), q) ∈ tf) (u : uqB2 K tf = true) : DefQ mg M x q params body scope := by
  subst hK
  obtain ⟨oc, od, dV, kV, doc, pm, an, cdv, ct, osl, e, lk, hcd, _, _⟩ := id F.ex
  obtain ⟨c, rfl⟩ := He.codeIn_ref hcd
  have e2 : fd.code = .ref c := by rw [e]
  have e3 : He.codeOf M.K (x, none) = c := He.codeOf_eq (p := (x, none)) lk e2
  refine ⟨_, fd, c, (He.cT M.K (x, none)).2, F, e2, hm, ?_, ?_, ?_⟩
  · rw [hc]
    have z := csOf_mem (K := M.K) (tf := tf.map (·.1)) (p := (x, none)) (List.mem_map.mpr ⟨_, hp, rfl⟩)
    have z2 : (He.cT M.K (x, none)) = (c, (He.cT M.K (x, none)).2) := Prod.ext (show He.codeOf M.K (x, none) = c from e3) rfl
    rw [z2] at z
    exact z
  · rw [hT]; exact tsOf2_mem hp
  · rw [hT]; exact uqB2_ok u hp
section
variable {P : Program} {w : World} {mg : Str → Option Value} {base : Heap} {M : Md}
/-- a def whose code object is known -/
theorem kt_of {x qual : Str} {params : Arguments} {body : List Stmt} {scope : Scope} {f c : Addr} {fd : FuncData} {N ps : List Str} {k : Nat} {b : Fst} (F : FunD M.K x qual params body scope [] [] f fd) (hc : fd.code = .ref c) (S : FnScope N ps scope) (hm : mg x = some (.ref f)) (hb : Binds M.K fd ps [])
    (hbody : ∀ (A : Around) (outer : List Env) (s : Shared) (H : Hp) (E : XK), Room k (A.deeper (envOfC qual scope s.heap.objs.size f (.ref c))) →
      MSs M (cxOf (L2.CX P w) P w M.K mg base N qual scope f (.ref c) A outer s H E) (WD E) body b) : Kn P w mg base M x (k + 1) ps.length (runF N.length b) := by
  refine ⟨f, fd, ps, ?_, hm, F.kp, hb⟩
  obtain ⟨oc, od, dV, kV, doc, pm, an, cdv, ct, osl, rfl, lk, hcd, _, _⟩ := F.ex
  obtain rfl : cdv = .ref c := hc
  refine ⟨fun vs H Q E h => h.1, fun A outer s H args us vs Q E hr e0 hb rv h => run_ofS lk hcd S hr e0 hb rv h.1 fun hr' => ⟨tS M (WD E) b, hbody A outer s H E hr', ?_⟩⟩
  obtain ⟨_, g, ds, rfl, rp, hvs, q⟩ := h
  refine tS.go rp (entry_ok hvs) ?_
  unfold runF at q
  split at q
  · rename_i e
    rw [e]
    exact fun g1 e1 k1 r1 σ1 _ => q g1 e1 k1 r1 _ .non
  · rename_i e
    rw [e]
    exact fun g1 e1 k1 r1 v hv => q g1 e1 k1 r1 v hv
  · rename_i e
    rw [e]
    exact fun g1 e1 k1 r1 σ1 _ cls dx hx => q g1 e1 k1 r1 cls dx hx
  · exact q.elim
end
def genSB (sc scope : Scope) (xa xb : Str) : Bool :=
  decide (scope.kind = .function) && (!scope.isCoroutine && (decide (scope.names.lookup (".0" : Str) = some NameKind.local) && (decide (scope.names.lookup xa = some .local) && (decide (scope.names.lookup xb = some .local) && (!decide (xa = xb) &&
    scope.names.all fun y => !decide (y.2 = .cell) && (!decide (y.2 = .free) || decide (sc.names.lookup y.1 = some .cell) || decide (sc.names.lookup y.1 = some .free)))))))
theorem genS_by {env : Env} {scope : Scope} {xa xb : Str} (h : genSB env.scope scope xa xb = true) : GenS2 env scope xa xb := by
  unfold genSB at h
  simp only [Bool.and_eq_true, Bool.or_eq_true, Bool.not_eq_true', decide_eq_true_eq, decide_eq_false_iff_not, List.all_eq_true] at h
  obtain ⟨h1, h2, h3, h4, h5, h6, h7⟩ := h
  refine ⟨h1, h2, fun y hy => (h7 y hy).1, h3, h4, h5, h6, fun y hy e => ?_⟩
  rcases (h7 y hy).2 with (z | z) | z
  · exact absurd e z
  · exact .inl z
  · exact .inr z
end MP
set_option Elab.async false
set_option linter.all false
set_option maxRecDepth 100000
set_option maxHeartbeats 4000000
namespace K07
open PySem PySem.Spec PyProof.Rows L2 MP MX LamX
def top (i : Nat) : Stmt := PySem.Challenge.pw_thirdcounts_k07_errors_of_tables.main.body.getD i (.Pass ⟨0, 0, 0, 0⟩)
def c_BOUND : D := (.int 1000000000000000000000000000000000000000000000000000000000000)
def c_DETERMINANT : D := (.str "determinant")
def c_MAX_SIDE : D := (.int 40)
def c_ONE : D := (.tup [(.int 1), (.int 1)])
def c_ZERO : D := (.tup [(.int 0), (.int 1)])
abbrev st_is_whole : Stmt := top 9
abbrev st_is_integer : Stmt := top 10
abbrev st_is_within : Stmt := top 11
abbrev st_is_fraction : Stmt := top 12
abbrev st_is_number : Stmt := top 13
abbrev st_require_within : Stmt := top 14
abbrev st_require_number : Stmt := top 15
abbrev st_fraction_in : Stmt := top 16
abbrev st_pair_of : Stmt := top 17
abbrev st_sum_in : Stmt := top 18
abbrev st_less_in : Stmt := top 19
abbrev st_product_in : Stmt := top 20
abbrev st_quotient_in : Stmt := top 21
abbrev st_total_in : Stmt := top 22
abbrev st_is_row : Stmt := top 28
abbrev st_is_table : Stmt := top 29
abbrev st_require_table : Stmt := top 30
abbrev st_require_tables : Stmt := top 31
abbrev st_require_row : Stmt := top 32
abbrev st_require_square : Stmt := top 33
abbrev st_row_told : Stmt := top 34
abbrev st_table_told : Stmt := top 35
abbrev st_idle_in : Stmt := top 36
abbrev st_turned_in : Stmt := top 37
abbrev st_dot_in : Stmt := top 38
abbrev st_table_product_in : Stmt := top 39
abbrev st_row_scaled : Stmt := top 40
abbrev st_row_sum : Stmt := top 41
abbrev st_row_cleared : Stmt := top 42
abbrev st_first_at : Stmt := top 43
abbrev st_echelon_in : Stmt := top 44
abbrev st_leads_of : Stmt := top 45
abbrev st_free_row : Stmt := top 46
abbrev st_kernel_in : Stmt := top 47
abbrev st_determinant_in : Stmt := top 48
abbrev st_undone_in : Stmt := top 49
abbrev st_solved_in : Stmt := top 50
abbrev st_idle_table : Stmt := top 51
abbrev st_table_turned : Stmt := top 52
abbrev st_table_sum : Stmt := top 53
abbrev st_table_scaled : Stmt := top 54
abbrev st_table_product : Stmt := top 55
abbrev st_row_times : Stmt := top 56
abbrev st_table_trace : Stmt := top 57
abbrev st_determinant : Stmt := top 58
abbrev st_table_undone : Stmt := top 59
abbrev st_table_rank : Stmt := top 60
abbrev st_table_echelon : Stmt := top 61
abbrev st_table_kernel : Stmt := top 62
abbrev st_table_solved : Stmt := top 63
abbrev st__law_dice : Stmt := top 65
abbrev st__law_roll : Stmt := top 66
abbrev st__law_pick : Stmt := top 67
abbrev st__law_met : Stmt := top 68
abbrev st__law_right : Stmt := top 69
abbrev st_law : Stmt := top 70
/-- which class is below which -/
def subX (i j : Nat) : Bool := [(0, 0), (1, 0), (1, 1), (2, 0), (2, 2), (3, 3), (4, 4)].contains (i, j)
/-- what the head told of the module -/
structure Mo (P : Program) (mg : Str → Option Value) (M : Md) : Prop where
  f_abs : mg "abs" = none
  f_all : mg "all" = none
  f_bool : mg "bool" = none
  f_enumerate : mg "enumerate" = none
  f_int : mg "int" = none
  f_isinstance : mg "isinstance" = none
  f_len : mg "len" = none
  f_list : mg "list" = none
  f_max : mg "max" = none
  f_min : mg "min" = none
  f_next : mg "next" = none
  f_range : mg "range" = none
  f_repr : mg "repr" = none
  f_tuple : mg "tuple" = none
  f_zip : mg "zip" = none
  g_BOUND : KonG M mg "BOUND" c_BOUND
  g_DETERMINANT : KonG M mg "DETERMINANT" c_DETERMINANT
  g_MAX_SIDE : KonG M mg "MAX_SIDE" c_MAX_SIDE
  g_ONE : KonG M mg "ONE" c_ONE
  g_ZERO : KonG M mg "ZERO" c_ZERO
  g_gcd : mg "gcd" = some (.builtin "math.gcd")
  k_InvalidTable : Kc0 mg M "InvalidTable" 1
  k_InvalidOperation : Kc0 mg M "InvalidOperation" 2
  k_InvalidNumber : Kc1 P mg M "InvalidNumber" 3 "given"
  k_Refused : Kc1 P mg M "Refused" 4 "reason"
  c_Refused : mg "Refused" = some (.ref (M.ca 4))
  c_InvalidNumber : mg "InvalidNumber" = some (.ref (M.ca 3))
  c_InvalidOperation : mg "InvalidOperation" = some (.ref (M.ca 2))
  c_InvalidTable : mg "InvalidTable" = some (.ref (M.ca 1))
  kf_Refused : Kf M 4 "reason"
  kf_InvalidNumber : Kf M 3 "given"
  kx : Kx M 5 subX
  v_table_kernel : mg "table_kernel" = some (.ref (M.fa 6))
  v_table_echelon : mg "table_echelon" = some (.ref (M.fa 5))
  v_table_rank : mg "table_rank" = some (.ref (M.fa 4))
  v_table_undone : mg "table_undone" = some (.ref (M.fa 3))
  v_determinant : mg "determinant" = some (.ref (M.fa 2))
  v_table_trace : mg "table_trace" = some (.ref (M.fa 1))
  v_table_turned : mg "table_turned" = some (.ref (M.fa 0))
  v_table_product : mg "table_product" = some (.ref (M.fa 8))
  v_table_sum : mg "table_sum" = some (.ref (M.fa 7))
  d_is_whole : ∃ f fd, FunD M.K "is_whole" "is_whole" (defArgs st_is_whole) (defBody st_is_whole) (defScope st_is_whole) [] [] f fd ∧ mg "is_whole" = some (.ref f)
  d_is_integer : ∃ f fd, FunD M.K "is_integer" "is_integer" (defArgs st_is_integer) (defBody st_is_integer) (defScope st_is_integer) [] [] f fd ∧ mg "is_integer" = some (.ref f)
  d_is_within : ∃ f fd, FunD M.K "is_within" "is_within" (defArgs st_is_within) (defBody st_is_within) (defScope st_is_within) [] [] f fd ∧ mg "is_within" = some (.ref f)
  d_is_fraction : ∃ f fd, FunD M.K "is_fraction" "is_fraction" (defArgs st_is_fraction) (defBody st_is_fraction) (defScope st_is_fraction) [] [] f fd ∧ mg "is_fraction" = some (.ref f)
  d_is_number : ∃ f fd, FunD M.K "is_number" "is_number" (defArgs st_is_number) (defBody st_is_number) (defScope st_is_number) [] [] f fd ∧ mg "is_number" = some (.ref f)
  d_require_within : ∃ f fd, FunD M.K "require_within" "require_within" (defArgs st_require_within) (defBody st_require_within) (defScope st_require_within) [] [] f fd ∧ mg "require_within" = some (.ref f)
  d_require_number : ∃ f fd, FunD M.K "require_number" "require_number" (defArgs st_require_number) (defBody st_require_number) (defScope st_require_number) [] [] f fd ∧ mg "require_number" = some (.ref f)
  d_fraction_in : ∃ f fd, FunD M.K "fraction_in" "fraction_in" (defArgs st_fraction_in) (defBody st_fraction_in) (defScope st_fraction_in) [] [] f fd ∧ mg "fraction_in" = some (.ref f)
  d_pair_of : ∃ f fd, FunD M.K "pair_of" "pair_of" (defArgs st_pair_of) (defBody st_pair_of) (defScope st_pair_of) [] [] f fd ∧ mg "pair_of" = some (.ref f)
  d_sum_in : ∃ f fd, FunD M.K "sum_in" "sum_in" (defArgs st_sum_in) (defBody st_sum_in) (defScope st_sum_in) [] [] f fd ∧ mg "sum_in" = some (.ref f)
  d_less_in : ∃ f fd, FunD M.K "less_in" "less_in" (defArgs st_less_in) (defBody st_less_in) (defScope st_less_in) [] [] f fd ∧ mg "less_in" = some (.ref f)
  d_product_in : ∃ f fd, FunD M.K "product_in" "product_in" (defArgs st_product_in) (defBody st_product_in) (defScope st_product_in) [] [] f fd ∧ mg "product_in" = some (.ref f)
  d_quotient_in : ∃ f fd, FunD M.K "quotient_in" "quotient_in" (defArgs st_quotient_in) (defBody st_quotient_in) (defScope st_quotient_in) [] [] f fd ∧ mg "quotient_in" = some (.ref f)
  d_total_in : ∃ f fd, FunD M.K "total_in" "total_in" (defArgs st_total_in) (defBody st_total_in) (defScope st_total_in) [] [] f fd ∧ mg "total_in" = some (.ref f)
  d_is_row : ∃ f fd, FunD M.K "is_row" "is_row" (defArgs st_is_row) (defBody st_is_row) (defScope st_is_row) [] [] f fd ∧ mg "is_row" = some (.ref f)
  d_is_table : ∃ f fd, FunD M.K "is_table" "is_table" (defArgs st_is_table) (defBody st_is_table) (defScope st_is_table) [] [] f fd ∧ mg "is_table" = some (.ref f)
  d_require_table : ∃ f fd, FunD M.K "require_table" "require_table" (defArgs st_require_table) (defBody st_require_table) (defScope st_require_table) [] [] f fd ∧ mg "require_table" = some (.ref f)
  d_require_tables : ∃ f fd, FunD M.K "require_tables" "require_tables" (defArgs st_require_tables) (defBody st_require_tables) (defScope st_require_tables) [] [] f fd ∧ mg "require_tables" = some (.ref f)
  d_require_row : ∃ f fd, FunD M.K "require_row" "require_row" (defArgs st_require_row) (defBody st_require_row) (defScope st_require_row) [] [] f fd ∧ mg "require_row" = some (.ref f)
  d_require_square : ∃ f fd, FunD M.K "require_square" "require_square" (defArgs st_require_square) (defBody st_require_square) (defScope st_require_square) [] [] f fd ∧ mg "require_square" = some (.ref f)
  d_row_told : ∃ f fd, FunD M.K "row_told" "row_told" (defArgs st_row_told) (defBody st_row_told) (defScope st_row_told) [] [] f fd ∧ mg "row_told" = some (.ref f)
  d_table_told : ∃ f fd, FunD M.K "table_told" "table_told" (defArgs st_table_told) (defBody st_table_told) (defScope st_table_told) [] [] f fd ∧ mg "table_told" = some (.ref f)
  d_idle_in : ∃ f fd, FunD M.K "idle_in" "idle_in" (defArgs st_idle_in) (defBody st_idle_in) (defScope st_idle_in) [] [] f fd ∧ mg "idle_in" = some (.ref f)
  d_turned_in : ∃ f fd, FunD M.K "turned_in" "turned_in" (defArgs st_turned_in) (defBody st_turned_in) (defScope st_turned_in) [] [] f fd ∧ mg "turned_in" = some (.ref f)
  d_dot_in : ∃ f fd, FunD M.K "dot_in" "dot_in" (defArgs st_dot_in) (defBody st_dot_in) (defScope st_dot_in) [] [] f fd ∧ mg "dot_in" = some (.ref f)
  d_table_product_in : ∃ f fd, FunD M.K "table_product_in" "table_product_in" (defArgs st_table_product_in) (defBody st_table_product_in) (defScope st_table_product_in) [] [] f fd ∧ mg "table_product_in" = some (.ref f)
  d_row_scaled : ∃ f fd, FunD M.K "row_scaled" "row_scaled" (defArgs st_row_scaled) (defBody st_row_scaled) (defScope st_row_scaled) [] [] f fd ∧ mg "row_scaled" = some (.ref f)
  d_row_sum : ∃ f fd, FunD M.K "row_sum" "row_sum" (defArgs st_row_sum) (defBody st_row_sum) (defScope st_row_sum) [] [] f fd ∧ mg "row_sum" = some (.ref f)
  d_row_cleared : ∃ f fd, FunD M.K "row_cleared" "row_cleared" (defArgs st_row_cleared) (defBody st_row_cleared) (defScope st_row_cleared) [] [] f fd ∧ mg "row_cleared" = some (.ref f)
  d_first_at : DefQ mg M "first_at" (genQ "first_at") (defArgs st_first_at) (defBody st_first_at) (defScope st_first_at)
  d_echelon_in : ∃ f fd, FunD M.K "echelon_in" "echelon_in" (defArgs st_echelon_in) (defBody st_echelon_in) (defScope st_echelon_in) [] [] f fd ∧ mg "echelon_in" = some (.ref f)
  d_leads_of : DefQ mg M "leads_of" (genQ "leads_of") (defArgs st_leads_of) (defBody st_leads_of) (defScope st_leads_of)
  d_free_row : ∃ f fd, FunD M.K "free_row" "free_row" (defArgs st_free_row) (defBody st_free_row) (defScope st_free_row) [] [] f fd ∧ mg "free_row" = some (.ref f)
  d_kernel_in : ∃ f fd, FunD M.K "kernel_in" "kernel_in" (defArgs st_kernel_in) (defBody st_kernel_in) (defScope st_kernel_in) [] [] f fd ∧ mg "kernel_in" = some (.ref f)
  d_determinant_in : ∃ f fd, FunD M.K "determinant_in" "determinant_in" (defArgs st_determinant_in) (defBody st_determinant_in) (defScope st_determinant_in) [] [] f fd ∧ mg "determinant_in" = some (.ref f)
  d_undone_in : ∃ f fd, FunD M.K "undone_in" "undone_in" (defArgs st_undone_in) (defBody st_undone_in) (defScope st_undone_in) [] [] f fd ∧ mg "undone_in" = some (.ref f)
  d_solved_in : ∃ f fd, FunD M.K "solved_in" "solved_in" (defArgs st_solved_in) (defBody st_solved_in) (defScope st_solved_in) [] [] f fd ∧ mg "solved_in" = some (.ref f)
  d_idle_table : ∃ f fd, FunD M.K "idle_table" "idle_table" (defArgs st_idle_table) (defBody st_idle_table) (defScope st_idle_table) [] [] f fd ∧ mg "idle_table" = some (.ref f)
  d_table_turned : ∃ f fd, FunD M.K "table_turned" "table_turned" (defArgs st_table_turned) (defBody st_table_turned) (defScope st_table_turned) [] [] f fd ∧ mg "table_turned" = some (.ref f)
  d_table_sum : ∃ f fd, FunD M.K "table_sum" "table_sum" (defArgs st_table_sum) (defBody st_table_sum) (defScope st_table_sum) [] [] f fd ∧ mg "table_sum" = some (.ref f)
  d_table_scaled : ∃ f fd, FunD M.K "table_scaled" "table_scaled" (defArgs st_table_scaled) (defBody st_table_scaled) (defScope st_table_scaled) [] [] f fd ∧ mg "table_scaled" = some (.ref f)
  d_table_product : ∃ f fd, FunD M.K "table_product" "table_product" (defArgs st_table_product) (defBody st_table_product) (defScope st_table_product) [] [] f fd ∧ mg "table_product" = some (.ref f)
  d_row_times : ∃ f fd, FunD M.K "row_times" "row_times" (defArgs st_row_times) (defBody st_row_times) (defScope st_row_times) [] [] f fd ∧ mg "row_times" = some (.ref f)
  d_table_trace : ∃ f fd, FunD M.K "table_trace" "table_trace" (defArgs st_table_trace) (defBody st_table_trace) (defScope st_table_trace) [] [] f fd ∧ mg "table_trace" = some (.ref f)
  d_determinant : ∃ f fd, FunD M.K "determinant" "determinant" (defArgs st_determinant) (defBody st_determinant) (defScope st_determinant) [] [] f fd ∧ mg "determinant" = some (.ref f)
  d_table_undone : ∃ f fd, FunD M.K "table_undone" "table_undone" (defArgs st_table_undone) (defBody st_table_undone) (defScope st_table_undone) [] [] f fd ∧ mg "table_undone" = some (.ref f)
  d_table_rank : ∃ f fd, FunD M.K "table_rank" "table_rank" (defArgs st_table_rank) (defBody st_table_rank) (defScope st_table_rank) [] [] f fd ∧ mg "table_rank" = some (.ref f)
  d_table_echelon : ∃ f fd, FunD M.K "table_echelon" "table_echelon" (defArgs st_table_echelon) (defBody st_table_echelon) (defScope st_table_echelon) [] [] f fd ∧ mg "table_echelon" = some (.ref f)
  d_table_kernel : ∃ f fd, FunD M.K "table_kernel" "table_kernel" (defArgs st_table_kernel) (defBody st_table_kernel) (defScope st_table_kernel) [] [] f fd ∧ mg "table_kernel" = some (.ref f)
  d_table_solved : ∃ f fd, FunD M.K "table_solved" "table_solved" (defArgs st_table_solved) (defBody st_table_solved) (defScope st_table_solved) [] [] f fd ∧ mg "table_solved" = some (.ref f)
  d__law_dice : ∃ f fd, FunD M.K "_law_dice" "_law_dice" (defArgs st__law_dice) (defBody st__law_dice) (defScope st__law_dice) [] [] f fd ∧ mg "_law_dice" = some (.ref f)
  d__law_roll : ∃ f fd, FunD M.K "_law_roll" "_law_roll" (defArgs st__law_roll) (defBody st__law_roll) (defScope st__law_roll) [] [] f fd ∧ mg "_law_roll" = some (.ref f)
  d__law_pick : ∃ f fd, FunD M.K "_law_pick" "_law_pick" (defArgs st__law_pick) (defBody st__law_pick) (defScope st__law_pick) [] [] f fd ∧ mg "_law_pick" = some (.ref f)
  d__law_met : ∃ f fd, FunD M.K "_law_met" "_law_met" (defArgs st__law_met) (defBody st__law_met) (defScope st__law_met) [] [] f fd ∧ mg "_law_met" = some (.ref f)
  d__law_right : DefG mg M "_law_right" (defArgs st__law_right) (defBody st__law_right) (defScope st__law_right)
  d_law : DefG mg M "law" (defArgs st_law) (defBody st_law) (defScope st_law)
/-! ### what they do, and that they do it -/
def b_is_whole : Fst := (sRet (dAnd (dIsi .int (dVar 0)) (dNot (dIsi .bool (dVar 0)))))
def F_is_whole : FN := runF 1 b_is_whole
theorem sc_is_whole : FnScope ["value"] ["value"] (defScope st_is_whole) := ⟨rfl, rfl, rfl, by decide +kernel, rfl, by decide +kernel, by decide +kernel⟩
theorem kn_is_whole {P : Program} {w : World} {mg : Str → Option Value} {base : Heap} {M : Md} (m : Mo P mg M) (tb : ∀ p ∈ M.cs, TabB base mg p.1 p.2) : Kn P w mg base M "is_whole" 1 1 F_is_whole := by
  obtain ⟨f, fd, F, hm⟩ := m.d_is_whole
  exact kn_of (k := 0) F sc_is_whole hm (F.bindsN fun _ _ _ _ _ _ us hl => match us, hl with | [_], _ => rfl) fun cdv A outer s H E hr => (mss_one (ms_ret (me_and (me_isi rfl m.f_isinstance m.f_int rfl (by decide) me_var) (me_one (me_not (me_isi rfl m.f_isinstance m.f_bool rfl (by decide) me_var))))))
def b_is_integer : Fst := (sRet (dAnd (dCall F_is_whole 1 (aCons (dVar 0) aNil)) (dChain dLt dLt (dNeg (dC c_BOUND)) (dVar 0) (dC c_BOUND))))
def F_is_integer : FN := runF 1 b_is_integer
theorem sc_is_integer : FnScope ["value"] ["value"] (defScope st_is_integer) := ⟨rfl, rfl, rfl, by decide +kernel, rfl, by decide +kernel, by decide +kernel⟩
theorem kn_is_integer {P : Program} {w : World} {mg : Str → Option Value} {base : Heap} {M : Md} (m : Mo P mg M) (tb : ∀ p ∈ M.cs, TabB base mg p.1 p.2) : Kn P w mg base M "is_integer" 2 1 F_is_integer := by
  obtain ⟨f, fd, F, hm⟩ := m.d_is_integer
  exact kn_of (k := 1) F sc_is_integer hm (F.bindsN fun _ _ _ _ _ _ us hl => match us, hl with | [_], _ => rfl) fun cdv A outer s H E hr => (mss_one (ms_ret (me_and (me_call rfl (takes_of rfl rfl rfl rfl) (kn_is_whole m tb) hr (ma_cons me_var ma_nil)) (me_one (me_chain op_lt o2_lt op_lt o2_lt (me_neg (me_con m.g_BOUND (by rfl))) me_var (me_con m.g_BOUND (by rfl)))))))
def b_is_within : Fst := (sRet (dAnd (dCall F_is_integer 1 (aCons (dVar 0) aNil)) (dChain dLe dLe (dVar 1) (dVar 0) (dVar 2))))
def F_is_within : FN := runF 3 b_is_within
theorem sc_is_within : FnScope ["value", "least", "most"] ["value", "least", "most"] (defScope st_is_within) := ⟨rfl, rfl, rfl, by decide +kernel, rfl, by decide +kernel, by decide +kernel⟩
theorem kn_is_within {P : Program} {w : World} {mg : Str → Option Value} {base : Heap} {M : Md} (m : Mo P mg M) (tb : ∀ p ∈ M.cs, TabB base mg p.1 p.2) : Kn P w mg base M "is_within" 3 3 F_is_within := by
  obtain ⟨f, fd, F, hm⟩ := m.d_is_within
  exact kn_of (k := 2) F sc_is_within hm (F.bindsN fun _ _ _ _ _ _ us hl => match us, hl with | [_, _, _], _ => rfl) fun cdv A outer s H E hr => (mss_one (ms_ret (me_and (me_call rfl (takes_of rfl rfl rfl rfl) (kn_is_integer m tb) hr (ma_cons me_var ma_nil)) (me_one (me_chain op_le o2_le op_le o2_le me_var me_var me_var)))))
def b_is_fraction : Fst := (sSeq (sIf (fOr (fNot (fTru (dIsi .tuple (dVar 0)))) (fOr (fB (d2 dNe (dN nLen (aCons (dVar 0) aNil)) (dC (.int 2)))) (fNot (fTru (dN nAll (aCons (dLc (iD (dVar 0)) (.nm 1) fYes (dCall F_is_whole 1 (aCons (dVar 1) aNil)) [1]) aNil)))))) (sRet (dC (.bl false))) sNil) (sRet (dAnd (d2 dGe (d2 dAt (dVar 0) (dC (.int 1))) (dC (.int 1))) (d2 dEq (dN nGcd (aCons (d2 dAt (dVar 0) (dC (.int 0))) (aCons (d2 dAt (dVar 0) (dC (.int 1))) aNil))) (dC (.int 1))))))
def F_is_fraction : FN := runF 2 b_is_fraction
theorem sc_is_fraction : FnScope ["value", "entry"] ["value"] (defScope st_is_fraction) := ⟨rfl, rfl, rfl, by decide +kernel, rfl, by decide +kernel, by decide +kernel⟩
theorem kn_is_fraction {P : Program} {w : World} {mg : Str → Option Value} {base : Heap} {M : Md} (m : Mo P mg M) (tb : ∀ p ∈ M.cs, TabB base mg p.1 p.2) : Kn P w mg base M "is_fraction" 2 1 F_is_fraction := by
  obtain ⟨f, fd, F, hm⟩ := m.d_is_fraction
  exact kn_of (k := 1) F sc_is_fraction hm (F.bindsN fun _ _ _ _ _ _ us hl => match us, hl with | [_], _ => rfl) fun cdv A outer s H E hr => (mss_cons (ms_if (PW.pt (mw_or (mt_not (mt_tru rfl (me_isi rfl m.f_isinstance m.f_tuple rfl (by decide) me_var))) (mw_or (mt_cmp (op_neD hr.units) o2_ne (me_callB call_len on_len (by rfl) m.f_len boot_len (ma_cons me_var ma_nil)) me_int (nobehind _ (by decide) (by decide))) (mw_or1 (mt_not (mt_tru rfl (me_callB (cr_all rfl) on_all (by rfl) m.f_all boot_all (ma_cons (me_lc (own := [("entry", 1)]) rfl rfl sc_is_fraction.nd (mi_d rfl me_var) (by first | rfl | decide +kernel) (fun _ _ _ _ _ => (mg_nm sc_is_fraction.nd)) (fun _ _ _ _ _ => mts_nil) (fun _ _ _ _ _ => (me_call rfl L2.takes0 (kn_is_whole m tb) hr (ma_cons me_var ma_nil)))) ma_nil)))))))) (mss_one (ms_ret me_bl)) mss_nil) (mss_one (ms_ret (me_and (me_cmp op_ge o2_ge (me_ix ix_seq o2_at me_var me_int (fun _ _ => rfl)) me_int (nobehind _ (by decide) (by decide))) (me_one (me_cmp (op_eqD hr.units) o2_eq (me_callBfun cr_gcd on_gcd m.g_gcd (ma_cons (me_ix ix_seq o2_at me_var me_int (fun _ _ => rfl)) (ma_cons (me_ix ix_seq o2_at me_var me_int (fun _ _ => rfl)) ma_nil))) me_int (nobehind _ (by decide) (by decide))))))))
def b_is_number : Fst := (sRet (dOr (dCall F_is_integer 1 (aCons (dVar 0) aNil)) (dCall F_is_fraction 1 (aCons (dVar 0) aNil))))
def F_is_number : FN := runF 1 b_is_number
theorem sc_is_number : FnScope ["value"] ["value"] (defScope st_is_number) := ⟨rfl, rfl, rfl, by decide +kernel, rfl, by decide +kernel, by decide +kernel⟩
theorem kn_is_number {P : Program} {w : World} {mg : Str → Option Value} {base : Heap} {M : Md} (m : Mo P mg M) (tb : ∀ p ∈ M.cs, TabB base mg p.1 p.2) : Kn P w mg base M "is_number" 3 1 F_is_number := by
  obtain ⟨f, fd, F, hm⟩ := m.d_is_number
  exact kn_of (k := 2) F sc_is_number hm (F.bindsN fun _ _ _ _ _ _ us hl => match us, hl with | [_], _ => rfl) fun cdv A outer s H E hr => (mss_one (ms_ret (me_or (me_call rfl (takes_of rfl rfl rfl rfl) (kn_is_integer m tb) hr (ma_cons me_var ma_nil)) (me_one (me_call rfl (takes_of rfl rfl rfl rfl) (kn_is_fraction m tb) hr (ma_cons me_var ma_nil))))))
def b_require_within : Fst := (sIf (fNot (fTru (dCall F_is_within 3 (aCons (dVar 0) (aCons (dVar 1) (aCons (dVar 2) aNil)))))) (sRaise1 3 "given" (dVar 0)) sNil)
def F_require_within : FN := runF 3 b_require_within
theorem sc_require_within : FnScope ["value", "least", "most"] ["value", "least", "most"] (defScope st_require_within) := ⟨rfl, rfl, rfl, by decide +kernel, rfl, by decide +kernel, by decide +kernel⟩
theorem kn_require_within {P : Program} {w : World} {mg : Str → Option Value} {base : Heap} {M : Md} (m : Mo P mg M) (tb : ∀ p ∈ M.cs, TabB base mg p.1 p.2) : Kn P w mg base M "require_within" 4 3 F_require_within := by
  obtain ⟨f, fd, F, hm⟩ := m.d_require_within
  exact kn_of (k := 3) F sc_require_within hm (F.bindsN fun _ _ _ _ _ _ us hl => match us, hl with | [_, _, _], _ => rfl) fun cdv A outer s H E hr => (mss_one (ms_if (mt_not (mt_tru rfl (me_call rfl (takes_of rfl rfl rfl rfl) (kn_is_within m tb) hr (ma_cons me_var (ma_cons me_var (ma_cons me_var ma_nil)))))) (mss_one (ms_raise1 rfl rfl (takes_of rfl rfl rfl rfl) m.k_InvalidNumber hr me_var)) mss_nil))
def b_require_number : Fst := (sIf (fNot (fTru (dCall F_is_number 1 (aCons (dVar 0) aNil)))) (sRaise1 3 "given" (dVar 0)) sNil)
def F_require_number : FN := runF 1 b_require_number
theorem sc_require_number : FnScope ["value"] ["value"] (defScope st_require_number) := ⟨rfl, rfl, rfl, by decide +kernel, rfl, by decide +kernel, by decide +kernel⟩
theorem kn_require_number {P : Program} {w : World} {mg : Str → Option Value} {base : Heap} {M : Md} (m : Mo P mg M) (tb : ∀ p ∈ M.cs, TabB base mg p.1 p.2) : Kn P w mg base M "require_number" 4 1 F_require_number := by
  obtain ⟨f, fd, F, hm⟩ := m.d_require_number
  exact kn_of (k := 3) F sc_require_number hm (F.bindsN fun _ _ _ _ _ _ us hl => match us, hl with | [_], _ => rfl) fun cdv A outer s H E hr => (mss_one (ms_if (mt_not (mt_tru rfl (me_call rfl (takes_of rfl rfl rfl rfl) (kn_is_number m tb) hr (ma_cons me_var ma_nil)))) (mss_one (ms_raise1 rfl rfl (takes_of rfl rfl rfl rfl) m.k_InvalidNumber hr me_var)) mss_nil))
def b_fraction_in : Fst := (sSeq (sSet 2 (dIf (fB (d2 dGt (dVar 1) (dC (.int 0)))) (dN nGcd (aCons (dVar 0) (aCons (dVar 1) aNil))) (dNeg (dN nGcd (aCons (dVar 0) (aCons (dVar 1) aNil)))))) (sRet (mkTup (aCons (d2 dFdiv (dVar 0) (dVar 2)) (aCons (d2 dFdiv (dVar 1) (dVar 2)) aNil)))))
def F_fraction_in : FN := runF 3 b_fraction_in
theorem sc_fraction_in : FnScope ["top", "bottom", "share"] ["top", "bottom"] (defScope st_fraction_in) := ⟨rfl, rfl, rfl, by decide +kernel, rfl, by decide +kernel, by decide +kernel⟩
theorem kn_fraction_in {P : Program} {w : World} {mg : Str → Option Value} {base : Heap} {M : Md} (m : Mo P mg M) (tb : ∀ p ∈ M.cs, TabB base mg p.1 p.2) : Kn P w mg base M "fraction_in" 1 2 F_fraction_in := by
  obtain ⟨f, fd, F, hm⟩ := m.d_fraction_in
  exact kn_of (k := 0) F sc_fraction_in hm (F.bindsN fun _ _ _ _ _ _ us hl => match us, hl with | [_, _], _ => rfl) fun cdv A outer s H E hr => (mss_cons (ms_set sc_fraction_in.nd (me_if (mt_cmp op_gt o2_gt me_var me_int (nobehind _ (by decide) (by decide))) (me_callBfun cr_gcd on_gcd m.g_gcd (ma_cons me_var (ma_cons me_var ma_nil))) (me_neg (me_callBfun cr_gcd on_gcd m.g_gcd (ma_cons me_var (ma_cons me_var ma_nil)))))) (mss_one (ms_ret (me_tup (ma_cons (me_bin op_fdivD o2_fdiv me_var me_var) (ma_cons (me_bin op_fdivD o2_fdiv me_var me_var) ma_nil))))))
def b_pair_of : Fst := (sRet (dIf (fTru (dIsi .tuple (dVar 0))) (dVar 0) (mkTup (aCons (dVar 0) (aCons (dC (.int 1)) aNil)))))
def F_pair_of : FN := runF 1 b_pair_of
theorem sc_pair_of : FnScope ["number"] ["number"] (defScope st_pair_of) := ⟨rfl, rfl, rfl, by decide +kernel, rfl, by decide +kernel, by decide +kernel⟩
theorem kn_pair_of {P : Program} {w : World} {mg : Str → Option Value} {base : Heap} {M : Md} (m : Mo P mg M) (tb : ∀ p ∈ M.cs, TabB base mg p.1 p.2) : Kn P w mg base M "pair_of" 1 1 F_pair_of := by
  obtain ⟨f, fd, F, hm⟩ := m.d_pair_of
  exact kn_of (k := 0) F sc_pair_of hm (F.bindsN fun _ _ _ _ _ _ us hl => match us, hl with | [_], _ => rfl) fun cdv A outer s H E hr => (mss_one (ms_ret (me_if (mt_tru rfl (me_isi rfl m.f_isinstance m.f_tuple rfl (by decide) me_var)) me_var (me_tup (ma_cons me_var (ma_cons me_int ma_nil))))))
def b_sum_in : Fst := (sSeq (sIf (fAnd (fB (d2 dEq (d2 dAt (dVar 0) (dC (.int 1))) (dC (.int 1)))) (fB (d2 dEq (d2 dAt (dVar 1) (dC (.int 1))) (dC (.int 1))))) (sRet (mkTup (aCons (d2 dAdd (d2 dAt (dVar 0) (dC (.int 0))) (d2 dAt (dVar 1) (dC (.int 0)))) (aCons (dC (.int 1)) aNil)))) sNil) (sRet (dCall F_fraction_in 2 (aCons (d2 dAdd (d2 dMul (d2 dAt (dVar 0) (dC (.int 0))) (d2 dAt (dVar 1) (dC (.int 1)))) (d2 dMul (d2 dAt (dVar 1) (dC (.int 0))) (d2 dAt (dVar 0) (dC (.int 1))))) (aCons (d2 dMul (d2 dAt (dVar 0) (dC (.int 1))) (d2 dAt (dVar 1) (dC (.int 1)))) aNil)))))
def F_sum_in : FN := runF 2 b_sum_in
theorem sc_sum_in : FnScope ["one", "other"] ["one", "other"] (defScope st_sum_in) := ⟨rfl, rfl, rfl, by decide +kernel, rfl, by decide +kernel, by decide +kernel⟩
theorem kn_sum_in {P : Program} {w : World} {mg : Str → Option Value} {base : Heap} {M : Md} (m : Mo P mg M) (tb : ∀ p ∈ M.cs, TabB base mg p.1 p.2) : Kn P w mg base M "sum_in" 2 2 F_sum_in := by
  obtain ⟨f, fd, F, hm⟩ := m.d_sum_in
  exact kn_of (k := 1) F sc_sum_in hm (F.bindsN fun _ _ _ _ _ _ us hl => match us, hl with | [_, _], _ => rfl) fun cdv A outer s H E hr => (mss_cons (ms_if (PW.pt (mw_and (mt_cmp (op_eqD hr.units) o2_eq (me_ix ix_seq o2_at me_var me_int (fun _ _ => rfl)) me_int (nobehind _ (by decide) (by decide))) (mw_and1 (mt_cmp (op_eqD hr.units) o2_eq (me_ix ix_seq o2_at me_var me_int (fun _ _ => rfl)) me_int (nobehind _ (by decide) (by decide)))))) (mss_one (ms_ret (me_tup (ma_cons (me_bin op_addA o2_add (me_ix ix_seq o2_at me_var me_int (fun _ _ => rfl)) (me_ix ix_seq o2_at me_var me_int (fun _ _ => rfl))) (ma_cons me_int ma_nil))))) mss_nil) (mss_one (ms_ret (me_call rfl (takes_of rfl rfl rfl rfl) (kn_fraction_in m tb) hr (ma_cons (me_bin op_addA o2_add (me_bin op_mulA o2_mul (me_ix ix_seq o2_at me_var me_int (fun _ _ => rfl)) (me_ix ix_seq o2_at me_var me_int (fun _ _ => rfl))) (me_bin op_mulA o2_mul (me_ix ix_seq o2_at me_var me_int (fun _ _ => rfl)) (me_ix ix_seq o2_at me_var me_int (fun _ _ => rfl)))) (ma_cons (me_bin op_mulA o2_mul (me_ix ix_seq o2_at me_var me_int (fun _ _ => rfl)) (me_ix ix_seq o2_at me_var me_int (fun _ _ => rfl))) ma_nil))))))
def b_less_in : Fst := (sRet (dCall F_sum_in 2 (aCons (dVar 0) (aCons (mkTup (aCons (dNeg (d2 dAt (dVar 1) (dC (.int 0)))) (aCons (d2 dAt (dVar 1) (dC (.int 1))) aNil))) aNil))))
def F_less_in : FN := runF 2 b_less_in
theorem sc_less_in : FnScope ["one", "other"] ["one", "other"] (defScope st_less_in) := ⟨rfl, rfl, rfl, by decide +kernel, rfl, by decide +kernel, by decide +kernel⟩
theorem kn_less_in {P : Program} {w : World} {mg : Str → Option Value} {base : Heap} {M : Md} (m : Mo P mg M) (tb : ∀ p ∈ M.cs, TabB base mg p.1 p.2) : Kn P w mg base M "less_in" 3 2 F_less_in := by
  obtain ⟨f, fd, F, hm⟩ := m.d_less_in
  exact kn_of (k := 2) F sc_less_in hm (F.bindsN fun _ _ _ _ _ _ us hl => match us, hl with | [_, _], _ => rfl) fun cdv A outer s H E hr => (mss_one (ms_ret (me_call rfl (takes_of rfl rfl rfl rfl) (kn_sum_in m tb) hr (ma_cons me_var (ma_cons (me_tup (ma_cons (me_neg (me_ix ix_seq o2_at me_var me_int (fun _ _ => rfl))) (ma_cons (me_ix ix_seq o2_at me_var me_int (fun _ _ => rfl)) ma_nil))) ma_nil)))))
def b_product_in : Fst := (sSeq (sIf (fAnd (fB (d2 dEq (d2 dAt (dVar 0) (dC (.int 1))) (dC (.int 1)))) (fB (d2 dEq (d2 dAt (dVar 1) (dC (.int 1))) (dC (.int 1))))) (sRet (mkTup (aCons (d2 dMul (d2 dAt (dVar 0) (dC (.int 0))) (d2 dAt (dVar 1) (dC (.int 0)))) (aCons (dC (.int 1)) aNil)))) sNil) (sRet (dCall F_fraction_in 2 (aCons (d2 dMul (d2 dAt (dVar 0) (dC (.int 0))) (d2 dAt (dVar 1) (dC (.int 0)))) (aCons (d2 dMul (d2 dAt (dVar 0) (dC (.int 1))) (d2 dAt (dVar 1) (dC (.int 1)))) aNil)))))
def F_product_in : FN := runF 2 b_product_in
theorem sc_product_in : FnScope ["one", "other"] ["one", "other"] (defScope st_product_in) := ⟨rfl, rfl, rfl, by decide +kernel, rfl, by decide +kernel, by decide +kernel⟩
theorem kn_product_in {P : Program} {w : World} {mg : Str → Option Value} {base : Heap} {M : Md} (m : Mo P mg M) (tb : ∀ p ∈ M.cs, TabB base mg p.1 p.2) : Kn P w mg base M "product_in" 2 2 F_product_in := by
  obtain ⟨f, fd, F, hm⟩ := m.d_product_in
  exact kn_of (k := 1) F sc_product_in hm (F.bindsN fun _ _ _ _ _ _ us hl => match us, hl with | [_, _], _ => rfl) fun cdv A outer s H E hr => (mss_cons (ms_if (PW.pt (mw_and (mt_cmp (op_eqD hr.units) o2_eq (me_ix ix_seq o2_at me_var me_int (fun _ _ => rfl)) me_int (nobehind _ (by decide) (by decide))) (mw_and1 (mt_cmp (op_eqD hr.units) o2_eq (me_ix ix_seq o2_at me_var me_int (fun _ _ => rfl)) me_int (nobehind _ (by decide) (by decide)))))) (mss_one (ms_ret (me_tup (ma_cons (me_bin op_mulA o2_mul (me_ix ix_seq o2_at me_var me_int (fun _ _ => rfl)) (me_ix ix_seq o2_at me_var me_int (fun _ _ => rfl))) (ma_cons me_int ma_nil))))) mss_nil) (mss_one (ms_ret (me_call rfl (takes_of rfl rfl rfl rfl) (kn_fraction_in m tb) hr (ma_cons (me_bin op_mulA o2_mul (me_ix ix_seq o2_at me_var me_int (fun _ _ => rfl)) (me_ix ix_seq o2_at me_var me_int (fun _ _ => rfl))) (ma_cons (me_bin op_mulA o2_mul (me_ix ix_seq o2_at me_var me_int (fun _ _ => rfl)) (me_ix ix_seq o2_at me_var me_int (fun _ _ => rfl))) ma_nil))))))
def b_quotient_in : Fst := (sRet (dCall F_fraction_in 2 (aCons (d2 dMul (d2 dAt (dVar 0) (dC (.int 0))) (d2 dAt (dVar 1) (dC (.int 1)))) (aCons (d2 dMul (d2 dAt (dVar 0) (dC (.int 1))) (d2 dAt (dVar 1) (dC (.int 0)))) aNil))))
def F_quotient_in : FN := runF 2 b_quotient_in
theorem sc_quotient_in : FnScope ["one", "other"] ["one", "other"] (defScope st_quotient_in) := ⟨rfl, rfl, rfl, by decide +kernel, rfl, by decide +kernel, by decide +kernel⟩
theorem kn_quotient_in {P : Program} {w : World} {mg : Str → Option Value} {base : Heap} {M : Md} (m : Mo P mg M) (tb : ∀ p ∈ M.cs, TabB base mg p.1 p.2) : Kn P w mg base M "quotient_in" 2 2 F_quotient_in := by
  obtain ⟨f, fd, F, hm⟩ := m.d_quotient_in
  exact kn_of (k := 1) F sc_quotient_in hm (F.bindsN fun _ _ _ _ _ _ us hl => match us, hl with | [_, _], _ => rfl) fun cdv A outer s H E hr => (mss_one (ms_ret (me_call rfl (takes_of rfl rfl rfl rfl) (kn_fraction_in m tb) hr (ma_cons (me_bin op_mulA o2_mul (me_ix ix_seq o2_at me_var me_int (fun _ _ => rfl)) (me_ix ix_seq o2_at me_var me_int (fun _ _ => rfl))) (ma_cons (me_bin op_mulA o2_mul (me_ix ix_seq o2_at me_var me_int (fun _ _ => rfl)) (me_ix ix_seq o2_at me_var me_int (fun _ _ => rfl))) ma_nil)))))
def b_total_in : Fst := (sSeq (sSet 1 (mkTup (aCons (dC (.int 0)) (aCons (dC (.int 1)) aNil)))) (sSeq (sFor (iD (dVar 0)) (.nm 2) (sSet 1 (dCall F_sum_in 2 (aCons (dVar 1) (aCons (dVar 2) aNil))))) (sRet (dVar 1))))
def F_total_in : FN := runF 3 b_total_in
theorem sc_total_in : FnScope ["fractions", "found", "one"] ["fractions"] (defScope st_total_in) := ⟨rfl, rfl, rfl, by decide +kernel, rfl, by decide +kernel, by decide +kernel⟩
theorem kn_total_in {P : Program} {w : World} {mg : Str → Option Value} {base : Heap} {M : Md} (m : Mo P mg M) (tb : ∀ p ∈ M.cs, TabB base mg p.1 p.2) : Kn P w mg base M "total_in" 3 1 F_total_in := by
  obtain ⟨f, fd, F, hm⟩ := m.d_total_in
  exact kn_of (k := 2) F sc_total_in hm (F.bindsN fun _ _ _ _ _ _ us hl => match us, hl with | [_], _ => rfl) fun cdv A outer s H E hr => (mss_cons (ms_set sc_total_in.nd (me_tup (ma_cons me_int (ma_cons me_int ma_nil)))) (mss_cons (ms_for rfl (passes_of rfl) rfl (mi_d rfl me_var) (mg_nm sc_total_in.nd) (mss_one (ms_set sc_total_in.nd (me_call rfl (takes_of rfl rfl rfl rfl) (kn_sum_in m tb) hr (ma_cons me_var (ma_cons me_var ma_nil)))))) (mss_one (ms_ret me_var))))
def b_is_row : Fst := (sRet (dAnd (dIsi .tuple (dVar 0)) (dAnd (dChain dLe dLe (dC (.int 1)) (dN nLen (aCons (dVar 0) aNil)) (dC c_MAX_SIDE)) (dN nAll (aCons (dLc (iD (dVar 0)) (.nm 1) fYes (dCall F_is_number 1 (aCons (dVar 1) aNil)) [1]) aNil)))))
def F_is_row : FN := runF 2 b_is_row
theorem sc_is_row : FnScope ["value", "entry"] ["value"] (defScope st_is_row) := ⟨rfl, rfl, rfl, by decide +kernel, rfl, by decide +kernel, by decide +kernel⟩
theorem kn_is_row {P : Program} {w : World} {mg : Str → Option Value} {base : Heap} {M : Md} (m : Mo P mg M) (tb : ∀ p ∈ M.cs, TabB base mg p.1 p.2) : Kn P w mg base M "is_row" 4 1 F_is_row := by
  obtain ⟨f, fd, F, hm⟩ := m.d_is_row
  exact kn_of (k := 3) F sc_is_row hm (F.bindsN fun _ _ _ _ _ _ us hl => match us, hl with | [_], _ => rfl) fun cdv A outer s H E hr => (mss_one (ms_ret (me_and (me_isi rfl m.f_isinstance m.f_tuple rfl (by decide) me_var) (me_and (me_chain op_le o2_le op_le o2_le me_int (me_callB call_len on_len (by rfl) m.f_len boot_len (ma_cons me_var ma_nil)) (me_con m.g_MAX_SIDE (by rfl))) (me_one (me_callB (cr_all rfl) on_all (by rfl) m.f_all boot_all (ma_cons (me_lc (own := [("entry", 1)]) rfl rfl sc_is_row.nd (mi_d rfl me_var) (by first | rfl | decide +kernel) (fun _ _ _ _ _ => (mg_nm sc_is_row.nd)) (fun _ _ _ _ _ => mts_nil) (fun _ _ _ _ _ => (me_call rfl L2.takes0 (kn_is_number m tb) hr (ma_cons me_var ma_nil)))) ma_nil)))))))
def b_is_table : Fst := (sSeq (sIf (fOr (fNot (fTru (dIsi .tuple (dVar 0)))) (fOr (fNot (fB (dChain dLe dLe (dC (.int 1)) (dN nLen (aCons (dVar 0) aNil)) (dC c_MAX_SIDE)))) (fNot (fTru (dN nAll (aCons (dLc (iD (dVar 0)) (.nm 1) fYes (dCall F_is_row 1 (aCons (dVar 1) aNil)) [1]) aNil)))))) (sRet (dC (.bl false))) sNil) (sRet (dN nAll (aCons (dLc (iD (dVar 0)) (.nm 1) fYes (d2 dEq (dN nLen (aCons (dVar 1) aNil)) (dN nLen (aCons (d2 dAt (dVar 0) (dC (.int 0))) aNil))) [1]) aNil))))
def F_is_table : FN := runF 2 b_is_table
theorem sc_is_table : FnScope ["value", "row"] ["value"] (defScope st_is_table) := ⟨rfl, rfl, rfl, by decide +kernel, rfl, by decide +kernel, by decide +kernel⟩
theorem kn_is_table {P : Program} {w : World} {mg : Str → Option Value} {base : Heap} {M : Md} (m : Mo P mg M) (tb : ∀ p ∈ M.cs, TabB base mg p.1 p.2) : Kn P w mg base M "is_table" 5 1 F_is_table := by
  obtain ⟨f, fd, F, hm⟩ := m.d_is_table
  exact kn_of (k := 4) F sc_is_table hm (F.bindsN fun _ _ _ _ _ _ us hl => match us, hl with | [_], _ => rfl) fun cdv A outer s H E hr => (mss_cons (ms_if (PW.pt (mw_or (mt_not (mt_tru rfl (me_isi rfl m.f_isinstance m.f_tuple rfl (by decide) me_var))) (mw_or (mt_not (mt_chain op_le o2_le op_le o2_le me_int (me_callB call_len on_len (by rfl) m.f_len boot_len (ma_cons me_var ma_nil)) (me_con m.g_MAX_SIDE (by rfl)))) (mw_or1 (mt_not (mt_tru rfl (me_callB (cr_all rfl) on_all (by rfl) m.f_all boot_all (ma_cons (me_lc (own := [("row", 1)]) rfl rfl sc_is_table.nd (mi_d rfl me_var) (by first | rfl | decide +kernel) (fun _ _ _ _ _ => (mg_nm sc_is_table.nd)) (fun _ _ _ _ _ => mts_nil) (fun _ _ _ _ _ => (me_call rfl L2.takes0 (kn_is_row m tb) hr (ma_cons me_var ma_nil)))) ma_nil)))))))) (mss_one (ms_ret me_bl)) mss_nil) (mss_one (ms_ret (me_callB (cr_all rfl) on_all (by rfl) m.f_all boot_all (ma_cons (me_lc (own := [("row", 1)]) rfl rfl sc_is_table.nd (mi_d rfl me_var) (by first | rfl | decide +kernel) (fun _ _ _ _ _ => (mg_nm sc_is_table.nd)) (fun _ _ _ _ _ => mts_nil) (fun _ _ _ _ _ => (me_cmp (op_eqD hr.units) o2_eq (me_callB call_len on_len (by rfl) m.f_len boot_len (ma_cons me_var ma_nil)) (me_callB call_len on_len (by rfl) m.f_len boot_len (ma_cons (me_ix ix_seq o2_at me_var me_int (fun _ _ => rfl)) ma_nil)) (nobehind _ (by decide) (by decide))))) ma_nil)))))
def b_require_table : Fst := (sIf (fNot (fTru (dCall F_is_table 1 (aCons (dVar 0) aNil)))) (sRaise0 1) sNil)
def F_require_table : FN := runF 1 b_require_table
theorem sc_require_table : FnScope ["value"] ["value"] (defScope st_require_table) := ⟨rfl, rfl, rfl, by decide +kernel, rfl, by decide +kernel, by decide +kernel⟩
theorem kn_require_table {P : Program} {w : World} {mg : Str → Option Value} {base : Heap} {M : Md} (m : Mo P mg M) (tb : ∀ p ∈ M.cs, TabB base mg p.1 p.2) : Kn P w mg base M "require_table" 6 1 F_require_table := by
  obtain ⟨f, fd, F, hm⟩ := m.d_require_table
  exact kn_of (k := 5) F sc_require_table hm (F.bindsN fun _ _ _ _ _ _ us hl => match us, hl with | [_], _ => rfl) fun cdv A outer s H E hr => (mss_one (ms_if (mt_not (mt_tru rfl (me_call rfl (takes_of rfl rfl rfl rfl) (kn_is_table m tb) hr (ma_cons me_var ma_nil)))) (mss_one (ms_raise0 rfl rfl (takes_of rfl rfl rfl rfl) m.k_InvalidTable)) mss_nil))
def b_require_tables : Fst := (sSeq (sExpr (dCall F_require_table 1 (aCons (dVar 0) aNil))) (sExpr (dCall F_require_table 1 (aCons (dVar 1) aNil))))
def F_require_tables : FN := runF 2 b_require_tables
theorem sc_require_tables : FnScope ["one", "other"] ["one", "other"] (defScope st_require_tables) := ⟨rfl, rfl, rfl, by decide +kernel, rfl, by decide +kernel, by decide +kernel⟩
theorem kn_require_tables {P : Program} {w : World} {mg : Str → Option Value} {base : Heap} {M : Md} (m : Mo P mg M) (tb : ∀ p ∈ M.cs, TabB base mg p.1 p.2) : Kn P w mg base M "require_tables" 7 2 F_require_tables := by
  obtain ⟨f, fd, F, hm⟩ := m.d_require_tables
  exact kn_of (k := 6) F sc_require_tables hm (F.bindsN fun _ _ _ _ _ _ us hl => match us, hl with | [_, _], _ => rfl) fun cdv A outer s H E hr => (mss_cons (ms_expr (me_call rfl (takes_of rfl rfl rfl rfl) (kn_require_table m tb) hr (ma_cons me_var ma_nil))) (mss_one (ms_expr (me_call rfl (takes_of rfl rfl rfl rfl) (kn_require_table m tb) hr (ma_cons me_var ma_nil)))))
def b_require_row : Fst := (sIf (fNot (fTru (dCall F_is_row 1 (aCons (dVar 0) aNil)))) (sRaise0 1) sNil)
def F_require_row : FN := runF 1 b_require_row
theorem sc_require_row : FnScope ["value"] ["value"] (defScope st_require_row) := ⟨rfl, rfl, rfl, by decide +kernel, rfl, by decide +kernel, by decide +kernel⟩
theorem kn_require_row {P : Program} {w : World} {mg : Str → Option Value} {base : Heap} {M : Md} (m : Mo P mg M) (tb : ∀ p ∈ M.cs, TabB base mg p.1 p.2) : Kn P w mg base M "require_row" 5 1 F_require_row := by
  obtain ⟨f, fd, F, hm⟩ := m.d_require_row
  exact kn_of (k := 4) F sc_require_row hm (F.bindsN fun _ _ _ _ _ _ us hl => match us, hl with | [_], _ => rfl) fun cdv A outer s H E hr => (mss_one (ms_if (mt_not (mt_tru rfl (me_call rfl (takes_of rfl rfl rfl rfl) (kn_is_row m tb) hr (ma_cons me_var ma_nil)))) (mss_one (ms_raise0 rfl rfl (takes_of rfl rfl rfl rfl) m.k_InvalidTable)) mss_nil))
def b_require_square : Fst := (sIf (fB (d2 dNe (dN nLen (aCons (dVar 0) aNil)) (dN nLen (aCons (d2 dAt (dVar 0) (dC (.int 0))) aNil)))) (sRaise0 2) sNil)
def F_require_square : FN := runF 1 b_require_square
theorem sc_require_square : FnScope ["table"] ["table"] (defScope st_require_square) := ⟨rfl, rfl, rfl, by decide +kernel, rfl, by decide +kernel, by decide +kernel⟩
theorem kn_require_square {P : Program} {w : World} {mg : Str → Option Value} {base : Heap} {M : Md} (m : Mo P mg M) (tb : ∀ p ∈ M.cs, TabB base mg p.1 p.2) : Kn P w mg base M "require_square" 1 1 F_require_square := by
  obtain ⟨f, fd, F, hm⟩ := m.d_require_square
  exact kn_of (k := 0) F sc_require_square hm (F.bindsN fun _ _ _ _ _ _ us hl => match us, hl with | [_], _ => rfl) fun cdv A outer s H E hr => (mss_one (ms_if (mt_cmp (op_neD hr.units) o2_ne (me_callB call_len on_len (by rfl) m.f_len boot_len (ma_cons me_var ma_nil)) (me_callB call_len on_len (by rfl) m.f_len boot_len (ma_cons (me_ix ix_seq o2_at me_var me_int (fun _ _ => rfl)) ma_nil)) (nobehind _ (by decide) (by decide))) (mss_one (ms_raise0 rfl rfl (takes_of rfl rfl rfl rfl) m.k_InvalidOperation)) mss_nil))
def b_row_told : Fst := (sRet (dN nTuple (aCons (dLc (iD (dVar 0)) (.nm 1) fYes (dCall F_pair_of 1 (aCons (dVar 1) aNil)) [1]) aNil)))
def F_row_told : FN := runF 2 b_row_told
theorem sc_row_told : FnScope ["row", "entry"] ["row"] (defScope st_row_told) := ⟨rfl, rfl, rfl, by decide +kernel, rfl, by decide +kernel, by decide +kernel⟩
theorem kn_row_told {P : Program} {w : World} {mg : Str → Option Value} {base : Heap} {M : Md} (m : Mo P mg M) (tb : ∀ p ∈ M.cs, TabB base mg p.1 p.2) : Kn P w mg base M "row_told" 2 1 F_row_told := by
  obtain ⟨f, fd, F, hm⟩ := m.d_row_told
  exact kn_of (k := 1) F sc_row_told hm (F.bindsN fun _ _ _ _ _ _ us hl => match us, hl with | [_], _ => rfl) fun cdv A outer s H E hr => (mss_one (ms_ret (me_callTy call_tuple_of on_tuple (by rfl) m.f_tuple PyProof.Rows.boot_tuple (ma_cons (me_lc (own := [("entry", 1)]) rfl rfl sc_row_told.nd (mi_d rfl me_var) (by first | rfl | decide +kernel) (fun _ _ _ _ _ => (mg_nm sc_row_told.nd)) (fun _ _ _ _ _ => mts_nil) (fun _ _ _ _ _ => (me_call rfl L2.takes0 (kn_pair_of m tb) hr (ma_cons me_var ma_nil)))) ma_nil))))
def b_table_told : Fst := (sRet (dN nTuple (aCons (dLc (iD (dVar 0)) (.nm 1) fYes (dCall F_row_told 1 (aCons (dVar 1) aNil)) [1]) aNil)))
def F_table_told : FN := runF 2 b_table_told
theorem sc_table_told : FnScope ["table", "row"] ["table"] (defScope st_table_told) := ⟨rfl, rfl, rfl, by decide +kernel, rfl, by decide +kernel, by decide +kernel⟩
theorem kn_table_told {P : Program} {w : World} {mg : Str → Option Value} {base : Heap} {M : Md} (m : Mo P mg M) (tb : ∀ p ∈ M.cs, TabB base mg p.1 p.2) : Kn P w mg base M "table_told" 3 1 F_table_told := by
  obtain ⟨f, fd, F, hm⟩ := m.d_table_told
  exact kn_of (k := 2) F sc_table_told hm (F.bindsN fun _ _ _ _ _ _ us hl => match us, hl with | [_], _ => rfl) fun cdv A outer s H E hr => (mss_one (ms_ret (me_callTy call_tuple_of on_tuple (by rfl) m.f_tuple PyProof.Rows.boot_tuple (ma_cons (me_lc (own := [("row", 1)]) rfl rfl sc_table_told.nd (mi_d rfl me_var) (by first | rfl | decide +kernel) (fun _ _ _ _ _ => (mg_nm sc_table_told.nd)) (fun _ _ _ _ _ => mts_nil) (fun _ _ _ _ _ => (me_call rfl L2.takes0 (kn_row_told m tb) hr (ma_cons me_var ma_nil)))) ma_nil))))
def b_idle_in : Fst := (sRet (dN nTuple (aCons (dLc (iR1 (aCons (dVar 0) aNil)) (.nm 1) fYes (dN nTuple (aCons (dLc (iR1 (aCons (dVar 0) aNil)) (.nm 2) fYes (dIf (fB (d2 dEq (dVar 1) (dVar 2))) (dC c_ONE) (dC c_ZERO)) [2]) aNil)) [1]) aNil)))
def F_idle_in : FN := runF 3 b_idle_in
theorem sc_idle_in : FnScope ["size", "place", "spot"] ["size"] (defScope st_idle_in) := ⟨rfl, rfl, rfl, by decide +kernel, rfl, by decide +kernel, by decide +kernel⟩
theorem kn_idle_in {P : Program} {w : World} {mg : Str → Option Value} {base : Heap} {M : Md} (m : Mo P mg M) (tb : ∀ p ∈ M.cs, TabB base mg p.1 p.2) : Kn P w mg base M "idle_in" 1 1 F_idle_in := by
  obtain ⟨f, fd, F, hm⟩ := m.d_idle_in
  exact kn_of (k := 0) F sc_idle_in hm (F.bindsN fun _ _ _ _ _ _ us hl => match us, hl with | [_], _ => rfl) fun cdv A outer s H E hr => (mss_one (ms_ret (me_callTy call_tuple_of on_tuple (by rfl) m.f_tuple PyProof.Rows.boot_tuple (ma_cons (me_lc (own := [("place", 1)]) rfl rfl sc_idle_in.nd (mi_range1 m.f_range (ma_cons me_var ma_nil)) (by first | rfl | decide +kernel) (fun _ _ _ _ _ => (mg_nm sc_idle_in.nd)) (fun _ _ _ _ _ => mts_nil) (fun _ _ _ _ _ => (me_callTy call_tuple_of on_tuple (by rfl) m.f_tuple PyProof.Rows.boot_tuple (ma_cons (me_lc (own := [("spot", 2)]) rfl rfl sc_idle_in.nd (mi_range1 m.f_range (ma_cons me_var ma_nil)) (by first | rfl | decide +kernel) (fun _ _ _ _ _ => (mg_nm sc_idle_in.nd)) (fun _ _ _ _ _ => mts_nil) (fun _ _ _ _ _ => (me_if (mt_cmp (op_eqD hr.units) o2_eq me_var me_var (nobehind _ (by decide) (by decide))) (me_con m.g_ONE (by rfl)) (me_con m.g_ZERO (by rfl))))) ma_nil)))) ma_nil))))
def b_turned_in : Fst := (sRet (dN nTuple (aCons (dLc (iR1 (aCons (dN nLen (aCons (d2 dAt (dVar 0) (dC (.int 0))) aNil)) aNil)) (.nm 1) fYes (dN nTuple (aCons (dLc (iD (dVar 0)) (.nm 2) fYes (d2 dAt (dVar 2) (dVar 1)) [2]) aNil)) [1]) aNil)))
def F_turned_in : FN := runF 3 b_turned_in
theorem sc_turned_in : FnScope ["table", "spot", "row"] ["table"] (defScope st_turned_in) := ⟨rfl, rfl, rfl, by decide +kernel, rfl, by decide +kernel, by decide +kernel⟩
theorem kn_turned_in {P : Program} {w : World} {mg : Str → Option Value} {base : Heap} {M : Md} (m : Mo P mg M) (tb : ∀ p ∈ M.cs, TabB base mg p.1 p.2) : Kn P w mg base M "turned_in" 1 1 F_turned_in := by
  obtain ⟨f, fd, F, hm⟩ := m.d_turned_in
  exact kn_of (k := 0) F sc_turned_in hm (F.bindsN fun _ _ _ _ _ _ us hl => match us, hl with | [_], _ => rfl) fun cdv A outer s H E hr => (mss_one (ms_ret (me_callTy call_tuple_of on_tuple (by rfl) m.f_tuple PyProof.Rows.boot_tuple (ma_cons (me_lc (own := [("spot", 1)]) rfl rfl sc_turned_in.nd (mi_range1 m.f_range (ma_cons (me_callB call_len on_len (by rfl) m.f_len boot_len (ma_cons (me_ix ix_seq o2_at me_var me_int (fun _ _ => rfl)) ma_nil)) ma_nil)) (by first | rfl | decide +kernel) (fun _ _ _ _ _ => (mg_nm sc_turned_in.nd)) (fun _ _ _ _ _ => mts_nil) (fun _ _ _ _ _ => (me_callTy call_tuple_of on_tuple (by rfl) m.f_tuple PyProof.Rows.boot_tuple (ma_cons (me_lc (own := [("row", 2)]) rfl rfl sc_turned_in.nd (mi_d rfl me_var) (by first | rfl | decide +kernel) (fun _ _ _ _ _ => (mg_nm sc_turned_in.nd)) (fun _ _ _ _ _ => mts_nil) (fun _ _ _ _ _ => (me_ix ix_seq o2_at me_var me_var (fun _ _ => rfl)))) ma_nil)))) ma_nil))))
def b_dot_in : Fst := (sRet (dCall F_total_in 1 (aCons (dLc (iZp (aCons (dVar 0) (aCons (dVar 1) aNil))) (.tp (.cons (.nm 2) (.cons (.nm 3) .nil))) fYes (dCall F_product_in 2 (aCons (dVar 2) (aCons (dVar 3) aNil))) [2, 3]) aNil)))
def F_dot_in : FN := runF 4 b_dot_in
theorem sc_dot_in : FnScope ["one", "other", "first", "second"] ["one", "other"] (defScope st_dot_in) := ⟨rfl, rfl, rfl, by decide +kernel, rfl, by decide +kernel, by decide +kernel⟩
theorem kn_dot_in {P : Program} {w : World} {mg : Str → Option Value} {base : Heap} {M : Md} (m : Mo P mg M) (tb : ∀ p ∈ M.cs, TabB base mg p.1 p.2) : Kn P w mg base M "dot_in" 4 2 F_dot_in := by
  obtain ⟨f, fd, F, hm⟩ := m.d_dot_in
  exact kn_of (k := 3) F sc_dot_in hm (F.bindsN fun _ _ _ _ _ _ us hl => match us, hl with | [_, _], _ => rfl) fun cdv A outer s H E hr => (mss_one (ms_ret (me_call rfl (takes_of rfl rfl rfl rfl) (kn_total_in m tb) hr (ma_cons (me_lc (own := [("first", 2), ("second", 3)]) rfl rfl sc_dot_in.nd (mi_zip rfl m.f_zip (ma_cons me_var (ma_cons me_var ma_nil))) (by first | rfl | decide +kernel) (fun _ _ _ _ _ => (mg_tp rfl (mgs_cons (mg_nm sc_dot_in.nd) (mgs_cons (mg_nm sc_dot_in.nd) mgs_nil)))) (fun _ _ _ _ _ => mts_nil) (fun _ _ _ _ _ => (me_call rfl L2.takes0 (kn_product_in m tb) hr (ma_cons me_var (ma_cons me_var ma_nil))))) ma_nil))))
def b_table_product_in : Fst := (sSeq (sSet 2 (dCall F_turned_in 1 (aCons (dVar 1) aNil))) (sRet (dN nTuple (aCons (dLc (iD (dVar 0)) (.nm 3) fYes (dN nTuple (aCons (dLc (iD (dVar 2)) (.nm 4) fYes (dCall F_dot_in 2 (aCons (dVar 3) (aCons (dVar 4) aNil))) [4]) aNil)) [3]) aNil))))
def F_table_product_in : FN := runF 5 b_table_product_in
theorem sc_table_product_in : FnScope ["one", "other", "columns", "row", "column"] ["one", "other"] (defScope st_table_product_in) := ⟨rfl, rfl, rfl, by decide +kernel, rfl, by decide +kernel, by decide +kernel⟩
theorem kn_table_product_in {P : Program} {w : World} {mg : Str → Option Value} {base : Heap} {M : Md} (m : Mo P mg M) (tb : ∀ p ∈ M.cs, TabB base mg p.1 p.2) : Kn P w mg base M "table_product_in" 5 2 F_table_product_in := by
  obtain ⟨f, fd, F, hm⟩ := m.d_table_product_in
  exact kn_of (k := 4) F sc_table_product_in hm (F.bindsN fun _ _ _ _ _ _ us hl => match us, hl with | [_, _], _ => rfl) fun cdv A outer s H E hr => (mss_cons (ms_set sc_table_product_in.nd (me_call rfl (takes_of rfl rfl rfl rfl) (kn_turned_in m tb) hr (ma_cons me_var ma_nil))) (mss_one (ms_ret (me_callTy call_tuple_of on_tuple (by rfl) m.f_tuple PyProof.Rows.boot_tuple (ma_cons (me_lc (own := [("row", 3)]) rfl rfl sc_table_product_in.nd (mi_d rfl me_var) (by first | rfl | decide +kernel) (fun _ _ _ _ _ => (mg_nm sc_table_product_in.nd)) (fun _ _ _ _ _ => mts_nil) (fun _ _ _ _ _ => (me_callTy call_tuple_of on_tuple (by rfl) m.f_tuple PyProof.Rows.boot_tuple (ma_cons (me_lc (own := [("column", 4)]) rfl rfl sc_table_product_in.nd (mi_d rfl me_var) (by first | rfl | decide +kernel) (fun _ _ _ _ _ => (mg_nm sc_table_product_in.nd)) (fun _ _ _ _ _ => mts_nil) (fun _ _ _ _ _ => (me_call rfl L2.takes0 (kn_dot_in m tb) hr (ma_cons me_var (ma_cons me_var ma_nil))))) ma_nil)))) ma_nil)))))
def b_row_scaled : Fst := (sRet (dN nTuple (aCons (dLc (iD (dVar 0)) (.nm 2) fYes (dCall F_product_in 2 (aCons (dVar 2) (aCons (dVar 1) aNil))) [2]) aNil)))
def F_row_scaled : FN := runF 3 b_row_scaled
theorem sc_row_scaled : FnScope ["row", "number", "entry"] ["row", "number"] (defScope st_row_scaled) := ⟨rfl, rfl, rfl, by decide +kernel, rfl, by decide +kernel, by decide +kernel⟩
theorem kn_row_scaled {P : Program} {w : World} {mg : Str → Option Value} {base : Heap} {M : Md} (m : Mo P mg M) (tb : ∀ p ∈ M.cs, TabB base mg p.1 p.2) : Kn P w mg base M "row_scaled" 3 2 F_row_scaled := by
  obtain ⟨f, fd, F, hm⟩ := m.d_row_scaled
  exact kn_of (k := 2) F sc_row_scaled hm (F.bindsN fun _ _ _ _ _ _ us hl => match us, hl with | [_, _], _ => rfl) fun cdv A outer s H E hr => (mss_one (ms_ret (me_callTy call_tuple_of on_tuple (by rfl) m.f_tuple PyProof.Rows.boot_tuple (ma_cons (me_lc (own := [("entry", 2)]) rfl rfl sc_row_scaled.nd (mi_d rfl me_var) (by first | rfl | decide +kernel) (fun _ _ _ _ _ => (mg_nm sc_row_scaled.nd)) (fun _ _ _ _ _ => mts_nil) (fun _ _ _ _ _ => (me_call rfl L2.takes0 (kn_product_in m tb) hr (ma_cons me_var (ma_cons me_var ma_nil))))) ma_nil))))
def b_row_sum : Fst := (sRet (dN nTuple (aCons (dLc (iZp (aCons (dVar 0) (aCons (dVar 1) aNil))) (.tp (.cons (.nm 2) (.cons (.nm 3) .nil))) fYes (dCall F_sum_in 2 (aCons (dVar 2) (aCons (dVar 3) aNil))) [2, 3]) aNil)))
def F_row_sum : FN := runF 4 b_row_sum
theorem sc_row_sum : FnScope ["one", "other", "first", "second"] ["one", "other"] (defScope st_row_sum) := ⟨rfl, rfl, rfl, by decide +kernel, rfl, by decide +kernel, by decide +kernel⟩
theorem kn_row_sum {P : Program} {w : World} {mg : Str → Option Value} {base : Heap} {M : Md} (m : Mo P mg M) (tb : ∀ p ∈ M.cs, TabB base mg p.1 p.2) : Kn P w mg base M "row_sum" 3 2 F_row_sum := by
  obtain ⟨f, fd, F, hm⟩ := m.d_row_sum
  exact kn_of (k := 2) F sc_row_sum hm (F.bindsN fun _ _ _ _ _ _ us hl => match us, hl with | [_, _], _ => rfl) fun cdv A outer s H E hr => (mss_one (ms_ret (me_callTy call_tuple_of on_tuple (by rfl) m.f_tuple PyProof.Rows.boot_tuple (ma_cons (me_lc (own := [("first", 2), ("second", 3)]) rfl rfl sc_row_sum.nd (mi_zip rfl m.f_zip (ma_cons me_var (ma_cons me_var ma_nil))) (by first | rfl | decide +kernel) (fun _ _ _ _ _ => (mg_tp rfl (mgs_cons (mg_nm sc_row_sum.nd) (mgs_cons (mg_nm sc_row_sum.nd) mgs_nil)))) (fun _ _ _ _ _ => mts_nil) (fun _ _ _ _ _ => (me_call rfl L2.takes0 (kn_sum_in m tb) hr (ma_cons me_var (ma_cons me_var ma_nil))))) ma_nil))))
def b_row_cleared : Fst := (sSeq (sSet 3 (d2 dAt (dVar 0) (dVar 2))) (sSeq (sIf (fB (d2 dEq (d2 dAt (dVar 3) (dC (.int 0))) (dC (.int 0)))) (sRet (dVar 0)) sNil) (sRet (dN nTuple (aCons (dLc (iZp (aCons (dVar 0) (aCons (dVar 1) aNil))) (.tp (.cons (.nm 4) (.cons (.nm 5) .nil))) fYes (dCall F_less_in 2 (aCons (dVar 4) (aCons (dCall F_product_in 2 (aCons (dVar 3) (aCons (dVar 5) aNil))) aNil))) [4, 5]) aNil)))))
def F_row_cleared : FN := runF 6 b_row_cleared
theorem sc_row_cleared : FnScope ["row", "lead", "place", "factor", "entry", "more"] ["row", "lead", "place"] (defScope st_row_cleared) := ⟨rfl, rfl, rfl, by decide +kernel, rfl, by decide +kernel, by decide +kernel⟩
theorem kn_row_cleared {P : Program} {w : World} {mg : Str → Option Value} {base : Heap} {M : Md} (m : Mo P mg M) (tb : ∀ p ∈ M.cs, TabB base mg p.1 p.2) : Kn P w mg base M "row_cleared" 4 3 F_row_cleared := by
  obtain ⟨f, fd, F, hm⟩ := m.d_row_cleared
  exact kn_of (k := 3) F sc_row_cleared hm (F.bindsN fun _ _ _ _ _ _ us hl => match us, hl with | [_, _, _], _ => rfl) fun cdv A outer s H E hr => (mss_cons (ms_set sc_row_cleared.nd (me_ix ix_seq o2_at me_var me_var (fun _ _ => rfl))) (mss_cons (ms_if (mt_cmp (op_eqD hr.units) o2_eq (me_ix ix_seq o2_at me_var me_int (fun _ _ => rfl)) me_int (nobehind _ (by decide) (by decide))) (mss_one (ms_ret me_var)) mss_nil) (mss_one (ms_ret (me_callTy call_tuple_of on_tuple (by rfl) m.f_tuple PyProof.Rows.boot_tuple (ma_cons (me_lc (own := [("entry", 4), ("more", 5)]) rfl rfl sc_row_cleared.nd (mi_zip rfl m.f_zip (ma_cons me_var (ma_cons me_var ma_nil))) (by first | rfl | decide +kernel) (fun _ _ _ _ _ => (mg_tp rfl (mgs_cons (mg_nm sc_row_cleared.nd) (mgs_cons (mg_nm sc_row_cleared.nd) mgs_nil)))) (fun _ _ _ _ _ => mts_nil) (fun _ _ _ _ _ => (me_call rfl L2.takes0 (kn_less_in m tb) hr (ma_cons me_var (ma_cons (me_call rfl L2.takes0 (kn_product_in m tb) hr (ma_cons me_var (ma_cons me_var ma_nil))) ma_nil))))) ma_nil))))))
def b_first_at : Fst := (sRet (dNextE (dTs1 1 0) (dVar 0)))
def F_first_at : FN := runF 4 b_first_at
theorem sc_first_at : FnScope ["rows", "place", "spot", "row"] ["rows", "place"] (defScope st_first_at) := ⟨rfl, rfl, rfl, by decide +kernel, rfl, by decide +kernel, by decide +kernel⟩
theorem kn_first_at {P : Program} {w : World} {mg : Str → Option Value} {base : Heap} {M : Md} (m : Mo P mg M) (tb : ∀ p ∈ M.cs, TabB base mg p.1 p.2) : Kn P w mg base M "first_at" 1 2 F_first_at := by
  obtain ⟨f, fd, c, Pt, F, hc, hm, hmc, hT, hu⟩ := m.d_first_at.ex
  exact kt_of (k := 0) F hc sc_first_at hm (F.bindsN fun _ _ _ _ _ _ us hl => match us, hl with | [_, _], _ => rfl) fun A outer s H E hr => (mss_one (ms_ret (me_nextE hr rfl (tb _ hmc) rfl hT hu (genS_by (by first | rfl | decide +kernel)) (by rfl) m.f_enumerate (by rfl) m.f_next me_var (ts1_ok (xa := "spot") (i := 1) (genS_by (by first | rfl | decide +kernel)) rfl rfl rfl rfl rfl) (dTs1_ok rfl))))
def b_echelon_in : Fst := (sSeq (sPar 1 2 (aCons (dN nList (aCons (dVar 0) aNil)) (aCons (mkLst aNil) aNil))) (sSeq (sFor (iR1 (aCons (dN nLen (aCons (d2 dAt (dVar 0) (dC (.int 0))) aNil)) aNil)) (.nm 3) (sSeq (sSet 4 (dCall F_first_at 2 (aCons (dVar 1) (aCons (dVar 3) aNil)))) (sIf (fB (dIsN true (dVar 4))) (sSeq (sSet 5 (dCall F_row_scaled 2 (aCons (d2 dAt (dVar 1) (dVar 4)) (aCons (dCall F_quotient_in 2 (aCons (dC c_ONE) (aCons (d2 dAt (d2 dAt (dVar 1) (dVar 4)) (dVar 3)) aNil))) aNil)))) (sSeq (sSet 6 (mkLst (aStar (dSlice (dVar 1) oNone (oSome (dVar 4))) (aStar (dSlice (dVar 1) (oSome (d2 dAdd (dVar 4) (dC (.int 1)))) oNone) aNil)))) (sSeq (sSet 1 (dLc (iD (dVar 6)) (.nm 7) fYes (dCall F_row_cleared 3 (aCons (dVar 7) (aCons (dVar 5) (aCons (dVar 3) aNil)))) [7])) (sSet 2 (mkLst (aStar (dLc (iD (dVar 2)) (.nm 7) fYes (dCall F_row_cleared 3 (aCons (dVar 7) (aCons (dVar 5) (aCons (dVar 3) aNil)))) [7]) (aCons (dVar 5) aNil))))))) sNil))) (sRet (dVar 2))))
def F_echelon_in : FN := runF 8 b_echelon_in
theorem sc_echelon_in : FnScope ["rows", "left", "found", "place", "spot", "lead", "rest", "row"] ["rows"] (defScope st_echelon_in) := ⟨rfl, rfl, rfl, by decide +kernel, rfl, by decide +kernel, by decide +kernel⟩
theorem kn_echelon_in {P : Program} {w : World} {mg : Str → Option Value} {base : Heap} {M : Md} (m : Mo P mg M) (tb : ∀ p ∈ M.cs, TabB base mg p.1 p.2) : Kn P w mg base M "echelon_in" 5 1 F_echelon_in := by
  obtain ⟨f, fd, F, hm⟩ := m.d_echelon_in
  exact kn_of (k := 4) F sc_echelon_in hm (F.bindsN fun _ _ _ _ _ _ us hl => match us, hl with | [_], _ => rfl) fun cdv A outer s H E hr => (mss_cons (ms_par rfl sc_echelon_in.nd (ma_cons (me_callTy call_list_of on_list (by rfl) m.f_list PyProof.Rows.boot_list (ma_cons me_var ma_nil)) (ma_cons (me_lst ma_nil) ma_nil))) (mss_cons (ms_for rfl (passes_of rfl) rfl (mi_range1 m.f_range (ma_cons (me_callB call_len on_len (by rfl) m.f_len boot_len (ma_cons (me_ix ix_seq o2_at me_var me_int (fun _ _ => rfl)) ma_nil)) ma_nil)) (mg_nm sc_echelon_in.nd) (mss_cons (ms_set sc_echelon_in.nd (me_call rfl (takes_of rfl rfl rfl rfl) (kn_first_at m tb) hr (ma_cons me_var (ma_cons me_var ma_nil)))) (mss_one (ms_if (mt_isnt me_var) (mss_cons (ms_set sc_echelon_in.nd (me_call rfl (takes_of rfl rfl rfl rfl) (kn_row_scaled m tb) hr (ma_cons (me_ix ix_seq o2_at me_var me_var (fun _ _ => rfl)) (ma_cons (me_call rfl (takes_of rfl rfl rfl rfl) (kn_quotient_in m tb) hr (ma_cons (me_con m.g_ONE (by rfl)) (ma_cons (me_ix ix_seq o2_at (me_ix ix_seq o2_at me_var me_var (fun _ _ => rfl)) me_var (fun _ _ => rfl)) ma_nil))) ma_nil)))) (mss_cons (ms_set sc_echelon_in.nd (me_lst (ma_star rfl (me_slice rfl me_var mo_none (mo_some me_var)) (ma_star rfl (me_slice rfl me_var (mo_some (me_bin op_addA o2_add me_var me_int)) mo_none) ma_nil)))) (mss_cons (ms_setLc (own := [("row", 7)]) rfl rfl sc_echelon_in.nd (mi_d rfl me_var) (by first | rfl | decide +kernel) (fun _ _ _ _ _ => (mg_nm sc_echelon_in.nd)) (fun _ _ _ _ _ => mts_nil) (fun _ _ _ _ _ => (me_call rfl L2.takes0 (kn_row_cleared m tb) hr (ma_cons me_var (ma_cons me_var (ma_cons me_var ma_nil))))) (by first | rfl | decide +kernel)) (mss_one (ms_set sc_echelon_in.nd (me_lst (ma_star rfl (me_lc (own := [("row", 7)]) rfl rfl sc_echelon_in.nd (mi_d rfl me_var) (by first | rfl | decide +kernel) (fun _ _ _ _ _ => (mg_nm sc_echelon_in.nd)) (fun _ _ _ _ _ => mts_nil) (fun _ _ _ _ _ => (me_call rfl L2.takes0 (kn_row_cleared m tb) hr (ma_cons me_var (ma_cons me_var (ma_cons me_var ma_nil)))))) (ma_cons me_var ma_nil)))))))) mss_nil)))) (mss_one (ms_ret me_var))))
def b_leads_of : Fst := (sRet (dLc (iD (dVar 0)) (.nm 1) fYes (dNextE (dTs2 0) (dVar 1)) [1]))
def F_leads_of : FN := runF 4 b_leads_of
theorem sc_leads_of : FnScope ["echelon", "row", "place", "entry"] ["echelon"] (defScope st_leads_of) := ⟨rfl, rfl, rfl, by decide +kernel, rfl, by decide +kernel, by decide +kernel⟩
theorem kn_leads_of {P : Program} {w : World} {mg : Str → Option Value} {base : Heap} {M : Md} (m : Mo P mg M) (tb : ∀ p ∈ M.cs, TabB base mg p.1 p.2) : Kn P w mg base M "leads_of" 1 1 F_leads_of := by
  obtain ⟨f, fd, c, Pt, F, hc, hm, hmc, hT, hu⟩ := m.d_leads_of.ex
  exact kt_of (k := 0) F hc sc_leads_of hm (F.bindsN fun _ _ _ _ _ _ us hl => match us, hl with | [_], _ => rfl) fun A outer s H E hr => (mss_one (ms_ret (me_lc (own := [("row", 1)]) rfl rfl sc_leads_of.nd (mi_d rfl me_var) (by first | rfl | decide +kernel) (fun _ _ _ _ _ => (mg_nm sc_leads_of.nd)) (fun _ _ _ _ _ => mts_nil) (fun _ _ _ _ _ => (me_nextE hr rfl (tb _ hmc) rfl hT hu (genS_by (by first | rfl | decide +kernel)) (by rfl) m.f_enumerate (by rfl) m.f_next me_var (ts2_ok rfl rfl rfl) (dTs2_ok rfl))))))
def b_free_row : Fst := (sSeq (sSet 4 (d2 dMul (mkLst (aCons (dC c_ZERO) aNil)) (dVar 2))) (sSeq (sPut (dC c_ONE) (dVar 4) (dVar 3)) (sSeq (sFor (iZp (aCons (dVar 0) (aCons (dVar 1) aNil))) (.tp (.cons (.nm 5) (.cons (.nm 6) .nil))) (sPut (dCall F_less_in 2 (aCons (dC c_ZERO) (aCons (d2 dAt (dVar 5) (dVar 3)) aNil))) (dVar 4) (dVar 6))) (sRet (dN nTuple (aCons (dVar 4) aNil))))))
def F_free_row : FN := runF 7 b_free_row
theorem sc_free_row : FnScope ["echelon", "leads", "width", "free", "found", "row", "place"] ["echelon", "leads", "width", "free"] (defScope st_free_row) := ⟨rfl, rfl, rfl, by decide +kernel, rfl, by decide +kernel, by decide +kernel⟩
theorem kn_free_row {P : Program} {w : World} {mg : Str → Option Value} {base : Heap} {M : Md} (m : Mo P mg M) (tb : ∀ p ∈ M.cs, TabB base mg p.1 p.2) : Kn P w mg base M "free_row" 4 4 F_free_row := by
  obtain ⟨f, fd, F, hm⟩ := m.d_free_row
  exact kn_of (k := 3) F sc_free_row hm (F.bindsN fun _ _ _ _ _ _ us hl => match us, hl with | [_, _, _, _], _ => rfl) fun cdv A outer s H E hr => (mss_cons (ms_set sc_free_row.nd (me_bin op_mulA o2_mul (me_lst (ma_cons (me_con m.g_ZERO (by rfl)) ma_nil)) me_var)) (mss_cons (ms_put (me_con m.g_ONE (by rfl)) me_var me_var) (mss_cons (ms_for rfl (passes_of rfl) rfl (mi_zip rfl m.f_zip (ma_cons me_var (ma_cons me_var ma_nil))) (mg_tp rfl (mgs_cons (mg_nm sc_free_row.nd) (mgs_cons (mg_nm sc_free_row.nd) mgs_nil))) (mss_one (ms_put (me_call rfl (takes_of rfl rfl rfl rfl) (kn_less_in m tb) hr (ma_cons (me_con m.g_ZERO (by rfl)) (ma_cons (me_ix ix_seq o2_at me_var me_var (fun _ _ => rfl)) ma_nil))) me_var me_var))) (mss_one (ms_ret (me_callTy call_tuple_of on_tuple (by rfl) m.f_tuple PyProof.Rows.boot_tuple (ma_cons me_var ma_nil)))))))
def b_kernel_in : Fst := (sSeq (sAsg (.tp (.cons (.nm 1) (.cons (.nm 2) .nil))) (mkTup (aCons (dCall F_echelon_in 1 (aCons (dVar 0) aNil)) (aCons (dN nLen (aCons (d2 dAt (dVar 0) (dC (.int 0))) aNil)) aNil)))) (sSeq (sSet 3 (dCall F_leads_of 1 (aCons (dVar 1) aNil))) (sSeq (sSet 4 (dLc (iR1 (aCons (dVar 2) aNil)) (.nm 5) (fB (d2 dNotIn (dVar 5) (dVar 3))) (dCall F_free_row 4 (aCons (dVar 1) (aCons (dVar 3) (aCons (dVar 2) (aCons (dVar 5) aNil))))) [5])) (sRet (dIf (fB (d2 dNe (dVar 4) (mkLst aNil))) (dCall F_echelon_in 1 (aCons (dVar 4) aNil)) (mkLst aNil))))))
def F_kernel_in : FN := runF 6 b_kernel_in
theorem sc_kernel_in : FnScope ["table", "echelon", "width", "leads", "found", "free"] ["table"] (defScope st_kernel_in) := ⟨rfl, rfl, rfl, by decide +kernel, rfl, by decide +kernel, by decide +kernel⟩
theorem kn_kernel_in {P : Program} {w : World} {mg : Str → Option Value} {base : Heap} {M : Md} (m : Mo P mg M) (tb : ∀ p ∈ M.cs, TabB base mg p.1 p.2) : Kn P w mg base M "kernel_in" 6 1 F_kernel_in := by
  obtain ⟨f, fd, F, hm⟩ := m.d_kernel_in
  exact kn_of (k := 5) F sc_kernel_in hm (F.bindsN fun _ _ _ _ _ _ us hl => match us, hl with | [_], _ => rfl) fun cdv A outer s H E hr => (mss_cons (ms_asg rfl (me_tup (ma_cons (me_call rfl (takes_of rfl rfl rfl rfl) (kn_echelon_in m tb) hr (ma_cons me_var ma_nil)) (ma_cons (me_callB call_len on_len (by rfl) m.f_len boot_len (ma_cons (me_ix ix_seq o2_at me_var me_int (fun _ _ => rfl)) ma_nil)) ma_nil))) (mg_tp rfl (mgs_cons (mg_nm sc_kernel_in.nd) (mgs_cons (mg_nm sc_kernel_in.nd) mgs_nil)))) (mss_cons (ms_set sc_kernel_in.nd (me_call rfl (takes_of rfl rfl rfl rfl) (kn_leads_of m tb) hr (ma_cons me_var ma_nil))) (mss_cons (ms_setLc (own := [("free", 5)]) rfl rfl sc_kernel_in.nd (mi_range1 m.f_range (ma_cons me_var ma_nil)) (by first | rfl | decide +kernel) (fun _ _ _ _ _ => (mg_nm sc_kernel_in.nd)) (fun _ _ _ _ _ => (mts_one (mt_cmp (op_notInA hr.u65) o2_notIn me_var me_var rfl))) (fun _ _ _ _ _ => (me_call rfl L2.takes0 (kn_free_row m tb) hr (ma_cons me_var (ma_cons me_var (ma_cons me_var (ma_cons me_var ma_nil)))))) (by first | rfl | decide +kernel)) (mss_one (ms_ret (me_if (mt_cmp (op_neD hr.units) o2_ne me_var (me_lst ma_nil) (nobehind _ (by decide) (by decide))) (me_call rfl (takes_of rfl rfl rfl rfl) (kn_echelon_in m tb) hr (ma_cons me_var ma_nil)) (me_lst ma_nil)))))))
def b_determinant_in : Fst := (sSeq (sPar 1 2 (aCons (dN nList (aCons (dVar 0) aNil)) (aCons (dC c_ONE) aNil))) (sSeq (sFor (iR1 (aCons (dN nLen (aCons (dVar 0) aNil)) aNil)) (.nm 3) (sSeq (sSet 4 (dCall F_first_at 2 (aCons (dVar 1) (aCons (dVar 3) aNil)))) (sSeq (sIf (fB (dIsN false (dVar 4))) (sRet (dC c_ZERO)) sNil) (sSeq (sSet 2 (dCall F_product_in 2 (aCons (dVar 2) (aCons (dIf (fB (d2 dEq (d2 dMod (dVar 4) (dC (.int 2))) (dC (.int 0)))) (d2 dAt (d2 dAt (dVar 1) (dVar 4)) (dVar 3)) (dCall F_less_in 2 (aCons (dC c_ZERO) (aCons (d2 dAt (d2 dAt (dVar 1) (dVar 4)) (dVar 3)) aNil)))) aNil)))) (sSeq (sSet 5 (dCall F_row_scaled 2 (aCons (d2 dAt (dVar 1) (dVar 4)) (aCons (dCall F_quotient_in 2 (aCons (dC c_ONE) (aCons (d2 dAt (d2 dAt (dVar 1) (dVar 4)) (dVar 3)) aNil))) aNil)))) (sSeq (sSet 6 (mkLst (aStar (dSlice (dVar 1) oNone (oSome (dVar 4))) (aStar (dSlice (dVar 1) (oSome (d2 dAdd (dVar 4) (dC (.int 1)))) oNone) aNil)))) (sSet 1 (dLc (iD (dVar 6)) (.nm 7) fYes (dCall F_row_cleared 3 (aCons (dVar 7) (aCons (dVar 5) (aCons (dVar 3) aNil)))) [7])))))))) (sRet (dVar 2))))
def F_determinant_in : FN := runF 8 b_determinant_in
theorem sc_determinant_in : FnScope ["table", "left", "found", "place", "spot", "lead", "rest", "row"] ["table"] (defScope st_determinant_in) := ⟨rfl, rfl, rfl, by decide +kernel, rfl, by decide +kernel, by decide +kernel⟩
theorem kn_determinant_in {P : Program} {w : World} {mg : Str → Option Value} {base : Heap} {M : Md} (m : Mo P mg M) (tb : ∀ p ∈ M.cs, TabB base mg p.1 p.2) : Kn P w mg base M "determinant_in" 5 1 F_determinant_in := by
  obtain ⟨f, fd, F, hm⟩ := m.d_determinant_in
  exact kn_of (k := 4) F sc_determinant_in hm (F.bindsN fun _ _ _ _ _ _ us hl => match us, hl with | [_], _ => rfl) fun cdv A outer s H E hr => (mss_cons (ms_par rfl sc_determinant_in.nd (ma_cons (me_callTy call_list_of on_list (by rfl) m.f_list PyProof.Rows.boot_list (ma_cons me_var ma_nil)) (ma_cons (me_con m.g_ONE (by rfl)) ma_nil))) (mss_cons (ms_for rfl (passes_of rfl) rfl (mi_range1 m.f_range (ma_cons (me_callB call_len on_len (by rfl) m.f_len boot_len (ma_cons me_var ma_nil)) ma_nil)) (mg_nm sc_determinant_in.nd) (mss_cons (ms_set sc_determinant_in.nd (me_call rfl (takes_of rfl rfl rfl rfl) (kn_first_at m tb) hr (ma_cons me_var (ma_cons me_var ma_nil)))) (mss_cons (ms_if (mt_isn me_var) (mss_one (ms_ret (me_con m.g_ZERO (by rfl)))) mss_nil) (mss_cons (ms_set sc_determinant_in.nd (me_call rfl (takes_of rfl rfl rfl rfl) (kn_product_in m tb) hr (ma_cons me_var (ma_cons (me_if (mt_cmp (op_eqD hr.units) o2_eq (me_bin op_modN o2_mod me_var me_int) me_int (nobehind _ (by decide) (by decide))) (me_ix ix_seq o2_at (me_ix ix_seq o2_at me_var me_var (fun _ _ => rfl)) me_var (fun _ _ => rfl)) (me_call rfl (takes_of rfl rfl rfl rfl) (kn_less_in m tb) hr (ma_cons (me_con m.g_ZERO (by rfl)) (ma_cons (me_ix ix_seq o2_at (me_ix ix_seq o2_at me_var me_var (fun _ _ => rfl)) me_var (fun _ _ => rfl)) ma_nil)))) ma_nil)))) (mss_cons (ms_set sc_determinant_in.nd (me_call rfl (takes_of rfl rfl rfl rfl) (kn_row_scaled m tb) hr (ma_cons (me_ix ix_seq o2_at me_var me_var (fun _ _ => rfl)) (ma_cons (me_call rfl (takes_of rfl rfl rfl rfl) (kn_quotient_in m tb) hr (ma_cons (me_con m.g_ONE (by rfl)) (ma_cons (me_ix ix_seq o2_at (me_ix ix_seq o2_at me_var me_var (fun _ _ => rfl)) me_var (fun _ _ => rfl)) ma_nil))) ma_nil)))) (mss_cons (ms_set sc_determinant_in.nd (me_lst (ma_star rfl (me_slice rfl me_var mo_none (mo_some me_var)) (ma_star rfl (me_slice rfl me_var (mo_some (me_bin op_addA o2_add me_var me_int)) mo_none) ma_nil)))) (mss_one (ms_setLc (own := [("row", 7)]) rfl rfl sc_determinant_in.nd (mi_d rfl me_var) (by first | rfl | decide +kernel) (fun _ _ _ _ _ => (mg_nm sc_determinant_in.nd)) (fun _ _ _ _ _ => mts_nil) (fun _ _ _ _ _ => (me_call rfl L2.takes0 (kn_row_cleared m tb) hr (ma_cons me_var (ma_cons me_var (ma_cons me_var ma_nil))))) (by first | rfl | decide +kernel))))))))) (mss_one (ms_ret me_var))))
def b_undone_in : Fst := (sSeq (sSet 1 (dN nLen (aCons (dVar 0) aNil))) (sSeq (sSet 2 (dCall F_echelon_in 1 (aCons (dLc (iZp (aCons (dVar 0) (aCons (dCall F_idle_in 1 (aCons (dVar 1) aNil)) aNil))) (.tp (.cons (.nm 3) (.cons (.nm 4) .nil))) fYes (mkTup (aStar (dVar 3) (aStar (dVar 4) aNil))) [3, 4]) aNil))) (sSeq (sIf (fB (d2 dNe (dCall F_leads_of 1 (aCons (dVar 2) aNil)) (dListR (dVar 1)))) (sRet (dC .non)) sNil) (sRet (dN nTuple (aCons (dLc (iD (dVar 2)) (.nm 3) fYes (dSlice (dVar 3) (oSome (dVar 1)) oNone) [3]) aNil))))))
def F_undone_in : FN := runF 5 b_undone_in
theorem sc_undone_in : FnScope ["table", "size", "echelon", "row", "idle"] ["table"] (defScope st_undone_in) := ⟨rfl, rfl, rfl, by decide +kernel, rfl, by decide +kernel, by decide +kernel⟩
theorem kn_undone_in {P : Program} {w : World} {mg : Str → Option Value} {base : Heap} {M : Md} (m : Mo P mg M) (tb : ∀ p ∈ M.cs, TabB base mg p.1 p.2) : Kn P w mg base M "undone_in" 6 1 F_undone_in := by
  obtain ⟨f, fd, F, hm⟩ := m.d_undone_in
  exact kn_of (k := 5) F sc_undone_in hm (F.bindsN fun _ _ _ _ _ _ us hl => match us, hl with | [_], _ => rfl) fun cdv A outer s H E hr => (mss_cons (ms_set sc_undone_in.nd (me_callB call_len on_len (by rfl) m.f_len boot_len (ma_cons me_var ma_nil))) (mss_cons (ms_set sc_undone_in.nd (me_call rfl (takes_of rfl rfl rfl rfl) (kn_echelon_in m tb) hr (ma_cons (me_lc (own := [("row", 3), ("idle", 4)]) rfl rfl sc_undone_in.nd (mi_zip rfl m.f_zip (ma_cons me_var (ma_cons (me_call rfl (takes_of rfl rfl rfl rfl) (kn_idle_in m tb) hr (ma_cons me_var ma_nil)) ma_nil))) (by first | rfl | decide +kernel) (fun _ _ _ _ _ => (mg_tp rfl (mgs_cons (mg_nm sc_undone_in.nd) (mgs_cons (mg_nm sc_undone_in.nd) mgs_nil)))) (fun _ _ _ _ _ => mts_nil) (fun _ _ _ _ _ => (me_tup (ma_star rfl me_var (ma_star rfl me_var ma_nil))))) ma_nil))) (mss_cons (ms_if (mt_cmp (op_neD hr.units) o2_ne (me_call rfl (takes_of rfl rfl rfl rfl) (kn_leads_of m tb) hr (ma_cons me_var ma_nil)) (me_listR rfl (by rfl) m.f_list (by rfl) m.f_range me_var) (nobehind _ (by decide) (by decide))) (mss_one (ms_ret me_non)) mss_nil) (mss_one (ms_ret (me_callTy call_tuple_of on_tuple (by rfl) m.f_tuple PyProof.Rows.boot_tuple (ma_cons (me_lc (own := [("row", 3)]) rfl rfl sc_undone_in.nd (mi_d rfl me_var) (by first | rfl | decide +kernel) (fun _ _ _ _ _ => (mg_nm sc_undone_in.nd)) (fun _ _ _ _ _ => mts_nil) (fun _ _ _ _ _ => (me_slice rfl me_var (mo_some me_var) mo_none))) ma_nil)))))))
def b_solved_in : Fst := (sSeq (sSet 2 (dN nLen (aCons (d2 dAt (dVar 0) (dC (.int 0))) aNil))) (sSeq (sSet 3 (dCall F_echelon_in 1 (aCons (dLc (iZp (aCons (dVar 0) (aCons (dVar 1) aNil))) (.tp (.cons (.nm 4) (.cons (.nm 5) .nil))) fYes (mkTup (aStar (dVar 4) (aCons (dVar 5) aNil))) [4, 5]) aNil))) (sSeq (sSet 6 (dCall F_leads_of 1 (aCons (dVar 3) aNil))) (sSeq (sIf (fB (d2 dIn (dVar 2) (dVar 6))) (sRet (dC .non)) sNil) (sSeq (sSet 7 (d2 dMul (mkLst (aCons (dC c_ZERO) aNil)) (dVar 2))) (sSeq (sFor (iZp (aCons (dVar 3) (aCons (dVar 6) aNil))) (.tp (.cons (.nm 4) (.cons (.nm 8) .nil))) (sPut (d2 dAt (dVar 4) (dVar 2)) (dVar 7) (dVar 8))) (sRet (dN nTuple (aCons (dVar 7) aNil)))))))))
def F_solved_in : FN := runF 9 b_solved_in
theorem sc_solved_in : FnScope ["table", "row", "width", "echelon", "line", "entry", "leads", "found", "place"] ["table", "row"] (defScope st_solved_in) := ⟨rfl, rfl, rfl, by decide +kernel, rfl, by decide +kernel, by decide +kernel⟩
theorem kn_solved_in {P : Program} {w : World} {mg : Str → Option Value} {base : Heap} {M : Md} (m : Mo P mg M) (tb : ∀ p ∈ M.cs, TabB base mg p.1 p.2) : Kn P w mg base M "solved_in" 6 2 F_solved_in := by
  obtain ⟨f, fd, F, hm⟩ := m.d_solved_in
  exact kn_of (k := 5) F sc_solved_in hm (F.bindsN fun _ _ _ _ _ _ us hl => match us, hl with | [_, _], _ => rfl) fun cdv A outer s H E hr => (mss_cons (ms_set sc_solved_in.nd (me_callB call_len on_len (by rfl) m.f_len boot_len (ma_cons (me_ix ix_seq o2_at me_var me_int (fun _ _ => rfl)) ma_nil))) (mss_cons (ms_set sc_solved_in.nd (me_call rfl (takes_of rfl rfl rfl rfl) (kn_echelon_in m tb) hr (ma_cons (me_lc (own := [("line", 4), ("entry", 5)]) rfl rfl sc_solved_in.nd (mi_zip rfl m.f_zip (ma_cons me_var (ma_cons me_var ma_nil))) (by first | rfl | decide +kernel) (fun _ _ _ _ _ => (mg_tp rfl (mgs_cons (mg_nm sc_solved_in.nd) (mgs_cons (mg_nm sc_solved_in.nd) mgs_nil)))) (fun _ _ _ _ _ => mts_nil) (fun _ _ _ _ _ => (me_tup (ma_star rfl me_var (ma_cons me_var ma_nil))))) ma_nil))) (mss_cons (ms_set sc_solved_in.nd (me_call rfl (takes_of rfl rfl rfl rfl) (kn_leads_of m tb) hr (ma_cons me_var ma_nil))) (mss_cons (ms_if (mt_cmp (op_inA hr.u65) o2_in me_var me_var rfl) (mss_one (ms_ret me_non)) mss_nil) (mss_cons (ms_set sc_solved_in.nd (me_bin op_mulA o2_mul (me_lst (ma_cons (me_con m.g_ZERO (by rfl)) ma_nil)) me_var)) (mss_cons (ms_for rfl (passes_of rfl) rfl (mi_zip rfl m.f_zip (ma_cons me_var (ma_cons me_var ma_nil))) (mg_tp rfl (mgs_cons (mg_nm sc_solved_in.nd) (mgs_cons (mg_nm sc_solved_in.nd) mgs_nil))) (mss_one (ms_put (me_ix ix_seq o2_at me_var me_var (fun _ _ => rfl)) me_var me_var))) (mss_one (ms_ret (me_callTy call_tuple_of on_tuple (by rfl) m.f_tuple PyProof.Rows.boot_tuple (ma_cons me_var ma_nil))))))))))
def b_idle_table : Fst := (sSeq (sExpr (dCall F_require_within 3 (aCons (dVar 0) (aCons (dC (.int 1)) (aCons (dC c_MAX_SIDE) aNil))))) (sRet (dCall F_idle_in 1 (aCons (dVar 0) aNil))))
def F_idle_table : FN := runF 1 b_idle_table
theorem sc_idle_table : FnScope ["size"] ["size"] (defScope st_idle_table) := ⟨rfl, rfl, rfl, by decide +kernel, rfl, by decide +kernel, by decide +kernel⟩
theorem kn_idle_table {P : Program} {w : World} {mg : Str → Option Value} {base : Heap} {M : Md} (m : Mo P mg M) (tb : ∀ p ∈ M.cs, TabB base mg p.1 p.2) : Kn P w mg base M "idle_table" 5 1 F_idle_table := by
  obtain ⟨f, fd, F, hm⟩ := m.d_idle_table
  exact kn_of (k := 4) F sc_idle_table hm (F.bindsN fun _ _ _ _ _ _ us hl => match us, hl with | [_], _ => rfl) fun cdv A outer s H E hr => (mss_cons (ms_expr (me_call rfl (takes_of rfl rfl rfl rfl) (kn_require_within m tb) hr (ma_cons me_var (ma_cons me_int (ma_cons (me_con m.g_MAX_SIDE (by rfl)) ma_nil))))) (mss_one (ms_ret (me_call rfl (takes_of rfl rfl rfl rfl) (kn_idle_in m tb) hr (ma_cons me_var ma_nil)))))
def b_table_turned : Fst := (sSeq (sExpr (dCall F_require_table 1 (aCons (dVar 0) aNil))) (sRet (dCall F_turned_in 1 (aCons (dCall F_table_told 1 (aCons (dVar 0) aNil)) aNil))))
def F_table_turned : FN := runF 1 b_table_turned
theorem sc_table_turned : FnScope ["table"] ["table"] (defScope st_table_turned) := ⟨rfl, rfl, rfl, by decide +kernel, rfl, by decide +kernel, by decide +kernel⟩
theorem kn_table_turned {P : Program} {w : World} {mg : Str → Option Value} {base : Heap} {M : Md} (m : Mo P mg M) (tb : ∀ p ∈ M.cs, TabB base mg p.1 p.2) : Kn P w mg base M "table_turned" 7 1 F_table_turned := by
  obtain ⟨f, fd, F, hm⟩ := m.d_table_turned
  exact kn_of (k := 6) F sc_table_turned hm (F.bindsN fun _ _ _ _ _ _ us hl => match us, hl with | [_], _ => rfl) fun cdv A outer s H E hr => (mss_cons (ms_expr (me_call rfl (takes_of rfl rfl rfl rfl) (kn_require_table m tb) hr (ma_cons me_var ma_nil))) (mss_one (ms_ret (me_call rfl (takes_of rfl rfl rfl rfl) (kn_turned_in m tb) hr (ma_cons (me_call rfl (takes_of rfl rfl rfl rfl) (kn_table_told m tb) hr (ma_cons me_var ma_nil)) ma_nil)))))
def b_table_sum : Fst := (sSeq (sExpr (dCall F_require_tables 2 (aCons (dVar 0) (aCons (dVar 1) aNil)))) (sSeq (sIf (fOr (fB (d2 dNe (dN nLen (aCons (dVar 0) aNil)) (dN nLen (aCons (dVar 1) aNil)))) (fB (d2 dNe (dN nLen (aCons (d2 dAt (dVar 0) (dC (.int 0))) aNil)) (dN nLen (aCons (d2 dAt (dVar 1) (dC (.int 0))) aNil))))) (sRaise0 2) sNil) (sSeq (sPar 2 3 (aCons (dCall F_table_told 1 (aCons (dVar 0) aNil)) (aCons (dCall F_table_told 1 (aCons (dVar 1) aNil)) aNil))) (sRet (dN nTuple (aCons (dLc (iZp (aCons (dVar 2) (aCons (dVar 3) aNil))) (.tp (.cons (.nm 4) (.cons (.nm 5) .nil))) fYes (dCall F_row_sum 2 (aCons (dVar 4) (aCons (dVar 5) aNil))) [4, 5]) aNil))))))
def F_table_sum : FN := runF 6 b_table_sum
theorem sc_table_sum : FnScope ["one", "other", "first", "second", "row", "more"] ["one", "other"] (defScope st_table_sum) := ⟨rfl, rfl, rfl, by decide +kernel, rfl, by decide +kernel, by decide +kernel⟩
theorem kn_table_sum {P : Program} {w : World} {mg : Str → Option Value} {base : Heap} {M : Md} (m : Mo P mg M) (tb : ∀ p ∈ M.cs, TabB base mg p.1 p.2) : Kn P w mg base M "table_sum" 8 2 F_table_sum := by
  obtain ⟨f, fd, F, hm⟩ := m.d_table_sum
  exact kn_of (k := 7) F sc_table_sum hm (F.bindsN fun _ _ _ _ _ _ us hl => match us, hl with | [_, _], _ => rfl) fun cdv A outer s H E hr => (mss_cons (ms_expr (me_call rfl (takes_of rfl rfl rfl rfl) (kn_require_tables m tb) hr (ma_cons me_var (ma_cons me_var ma_nil)))) (mss_cons (ms_if (PW.pt (mw_or (mt_cmp (op_neD hr.units) o2_ne (me_callB call_len on_len (by rfl) m.f_len boot_len (ma_cons me_var ma_nil)) (me_callB call_len on_len (by rfl) m.f_len boot_len (ma_cons me_var ma_nil)) (nobehind _ (by decide) (by decide))) (mw_or1 (mt_cmp (op_neD hr.units) o2_ne (me_callB call_len on_len (by rfl) m.f_len boot_len (ma_cons (me_ix ix_seq o2_at me_var me_int (fun _ _ => rfl)) ma_nil)) (me_callB call_len on_len (by rfl) m.f_len boot_len (ma_cons (me_ix ix_seq o2_at me_var me_int (fun _ _ => rfl)) ma_nil)) (nobehind _ (by decide) (by decide)))))) (mss_one (ms_raise0 rfl rfl (takes_of rfl rfl rfl rfl) m.k_InvalidOperation)) mss_nil) (mss_cons (ms_par rfl sc_table_sum.nd (ma_cons (me_call rfl (takes_of rfl rfl rfl rfl) (kn_table_told m tb) hr (ma_cons me_var ma_nil)) (ma_cons (me_call rfl (takes_of rfl rfl rfl rfl) (kn_table_told m tb) hr (ma_cons me_var ma_nil)) ma_nil))) (mss_one (ms_ret (me_callTy call_tuple_of on_tuple (by rfl) m.f_tuple PyProof.Rows.boot_tuple (ma_cons (me_lc (own := [("row", 4), ("more", 5)]) rfl rfl sc_table_sum.nd (mi_zip rfl m.f_zip (ma_cons me_var (ma_cons me_var ma_nil))) (by first | rfl | decide +kernel) (fun _ _ _ _ _ => (mg_tp rfl (mgs_cons (mg_nm sc_table_sum.nd) (mgs_cons (mg_nm sc_table_sum.nd) mgs_nil)))) (fun _ _ _ _ _ => mts_nil) (fun _ _ _ _ _ => (me_call rfl L2.takes0 (kn_row_sum m tb) hr (ma_cons me_var (ma_cons me_var ma_nil))))) ma_nil)))))))
def b_table_scaled : Fst := (sSeq (sExpr (dCall F_require_table 1 (aCons (dVar 0) aNil))) (sSeq (sExpr (dCall F_require_number 1 (aCons (dVar 1) aNil))) (sRet (dN nTuple (aCons (dLc (iD (dCall F_table_told 1 (aCons (dVar 0) aNil))) (.nm 2) fYes (dCall F_row_scaled 2 (aCons (dVar 2) (aCons (dCall F_pair_of 1 (aCons (dVar 1) aNil)) aNil))) [2]) aNil)))))
def F_table_scaled : FN := runF 3 b_table_scaled
theorem sc_table_scaled : FnScope ["table", "number", "row"] ["table", "number"] (defScope st_table_scaled) := ⟨rfl, rfl, rfl, by decide +kernel, rfl, by decide +kernel, by decide +kernel⟩
theorem kn_table_scaled {P : Program} {w : World} {mg : Str → Option Value} {base : Heap} {M : Md} (m : Mo P mg M) (tb : ∀ p ∈ M.cs, TabB base mg p.1 p.2) : Kn P w mg base M "table_scaled" 7 2 F_table_scaled := by
  obtain ⟨f, fd, F, hm⟩ := m.d_table_scaled
  exact kn_of (k := 6) F sc_table_scaled hm (F.bindsN fun _ _ _ _ _ _ us hl => match us, hl with | [_, _], _ => rfl) fun cdv A outer s H E hr => (mss_cons (ms_expr (me_call rfl (takes_of rfl rfl rfl rfl) (kn_require_table m tb) hr (ma_cons me_var ma_nil))) (mss_cons (ms_expr (me_call rfl (takes_of rfl rfl rfl rfl) (kn_require_number m tb) hr (ma_cons me_var ma_nil))) (mss_one (ms_ret (me_callTy call_tuple_of on_tuple (by rfl) m.f_tuple PyProof.Rows.boot_tuple (ma_cons (me_lc (own := [("row", 2)]) rfl rfl sc_table_scaled.nd (mi_d rfl (me_call rfl (takes_of rfl rfl rfl rfl) (kn_table_told m tb) hr (ma_cons me_var ma_nil))) (by first | rfl | decide +kernel) (fun _ _ _ _ _ => (mg_nm sc_table_scaled.nd)) (fun _ _ _ _ _ => mts_nil) (fun _ _ _ _ _ => (me_call rfl L2.takes0 (kn_row_scaled m tb) hr (ma_cons me_var (ma_cons (me_call rfl L2.takes0 (kn_pair_of m tb) hr (ma_cons me_var ma_nil)) ma_nil))))) ma_nil))))))
def b_table_product : Fst := (sSeq (sExpr (dCall F_require_tables 2 (aCons (dVar 0) (aCons (dVar 1) aNil)))) (sSeq (sIf (fB (d2 dNe (dN nLen (aCons (d2 dAt (dVar 0) (dC (.int 0))) aNil)) (dN nLen (aCons (dVar 1) aNil)))) (sRaise0 2) sNil) (sRet (dCall F_table_product_in 2 (aCons (dCall F_table_told 1 (aCons (dVar 0) aNil)) (aCons (dCall F_table_told 1 (aCons (dVar 1) aNil)) aNil))))))
def F_table_product : FN := runF 2 b_table_product
theorem sc_table_product : FnScope ["one", "other"] ["one", "other"] (defScope st_table_product) := ⟨rfl, rfl, rfl, by decide +kernel, rfl, by decide +kernel, by decide +kernel⟩
theorem kn_table_product {P : Program} {w : World} {mg : Str → Option Value} {base : Heap} {M : Md} (m : Mo P mg M) (tb : ∀ p ∈ M.cs, TabB base mg p.1 p.2) : Kn P w mg base M "table_product" 8 2 F_table_product := by
  obtain ⟨f, fd, F, hm⟩ := m.d_table_product
  exact kn_of (k := 7) F sc_table_product hm (F.bindsN fun _ _ _ _ _ _ us hl => match us, hl with | [_, _], _ => rfl) fun cdv A outer s H E hr => (mss_cons (ms_expr (me_call rfl (takes_of rfl rfl rfl rfl) (kn_require_tables m tb) hr (ma_cons me_var (ma_cons me_var ma_nil)))) (mss_cons (ms_if (mt_cmp (op_neD hr.units) o2_ne (me_callB call_len on_len (by rfl) m.f_len boot_len (ma_cons (me_ix ix_seq o2_at me_var me_int (fun _ _ => rfl)) ma_nil)) (me_callB call_len on_len (by rfl) m.f_len boot_len (ma_cons me_var ma_nil)) (nobehind _ (by decide) (by decide))) (mss_one (ms_raise0 rfl rfl (takes_of rfl rfl rfl rfl) m.k_InvalidOperation)) mss_nil) (mss_one (ms_ret (me_call rfl (takes_of rfl rfl rfl rfl) (kn_table_product_in m tb) hr (ma_cons (me_call rfl (takes_of rfl rfl rfl rfl) (kn_table_told m tb) hr (ma_cons me_var ma_nil)) (ma_cons (me_call rfl (takes_of rfl rfl rfl rfl) (kn_table_told m tb) hr (ma_cons me_var ma_nil)) ma_nil)))))))
def b_row_times : Fst := (sSeq (sExpr (dCall F_require_row 1 (aCons (dVar 0) aNil))) (sSeq (sExpr (dCall F_require_table 1 (aCons (dVar 1) aNil))) (sSeq (sIf (fB (d2 dNe (dN nLen (aCons (dVar 0) aNil)) (dN nLen (aCons (dVar 1) aNil)))) (sRaise0 2) sNil) (sRet (d2 dAt (dCall F_table_product_in 2 (aCons (mkTup (aCons (dCall F_row_told 1 (aCons (dVar 0) aNil)) aNil)) (aCons (dCall F_table_told 1 (aCons (dVar 1) aNil)) aNil))) (dC (.int 0)))))))
def F_row_times : FN := runF 2 b_row_times
theorem sc_row_times : FnScope ["row", "table"] ["row", "table"] (defScope st_row_times) := ⟨rfl, rfl, rfl, by decide +kernel, rfl, by decide +kernel, by decide +kernel⟩
theorem kn_row_times {P : Program} {w : World} {mg : Str → Option Value} {base : Heap} {M : Md} (m : Mo P mg M) (tb : ∀ p ∈ M.cs, TabB base mg p.1 p.2) : Kn P w mg base M "row_times" 7 2 F_row_times := by
  obtain ⟨f, fd, F, hm⟩ := m.d_row_times
  exact kn_of (k := 6) F sc_row_times hm (F.bindsN fun _ _ _ _ _ _ us hl => match us, hl with | [_, _], _ => rfl) fun cdv A outer s H E hr => (mss_cons (ms_expr (me_call rfl (takes_of rfl rfl rfl rfl) (kn_require_row m tb) hr (ma_cons me_var ma_nil))) (mss_cons (ms_expr (me_call rfl (takes_of rfl rfl rfl rfl) (kn_require_table m tb) hr (ma_cons me_var ma_nil))) (mss_cons (ms_if (mt_cmp (op_neD hr.units) o2_ne (me_callB call_len on_len (by rfl) m.f_len boot_len (ma_cons me_var ma_nil)) (me_callB call_len on_len (by rfl) m.f_len boot_len (ma_cons me_var ma_nil)) (nobehind _ (by decide) (by decide))) (mss_one (ms_raise0 rfl rfl (takes_of rfl rfl rfl rfl) m.k_InvalidOperation)) mss_nil) (mss_one (ms_ret (me_ix ix_seq o2_at (me_call rfl (takes_of rfl rfl rfl rfl) (kn_table_product_in m tb) hr (ma_cons (me_tup (ma_cons (me_call rfl (takes_of rfl rfl rfl rfl) (kn_row_told m tb) hr (ma_cons me_var ma_nil)) ma_nil)) (ma_cons (me_call rfl (takes_of rfl rfl rfl rfl) (kn_table_told m tb) hr (ma_cons me_var ma_nil)) ma_nil))) me_int (fun _ _ => rfl)))))))
def b_table_trace : Fst := (sSeq (sExpr (dCall F_require_table 1 (aCons (dVar 0) aNil))) (sSeq (sExpr (dCall F_require_square 1 (aCons (dVar 0) aNil))) (sRet (dCall F_total_in 1 (aCons (dLc (iEn (aCons (dVar 0) aNil)) (.tp (.cons (.nm 1) (.cons (.nm 2) .nil))) fYes (dCall F_pair_of 1 (aCons (d2 dAt (dVar 2) (dVar 1)) aNil)) [1, 2]) aNil)))))
def F_table_trace : FN := runF 3 b_table_trace
theorem sc_table_trace : FnScope ["table", "place", "row"] ["table"] (defScope st_table_trace) := ⟨rfl, rfl, rfl, by decide +kernel, rfl, by decide +kernel, by decide +kernel⟩
theorem kn_table_trace {P : Program} {w : World} {mg : Str → Option Value} {base : Heap} {M : Md} (m : Mo P mg M) (tb : ∀ p ∈ M.cs, TabB base mg p.1 p.2) : Kn P w mg base M "table_trace" 7 1 F_table_trace := by
  obtain ⟨f, fd, F, hm⟩ := m.d_table_trace
  exact kn_of (k := 6) F sc_table_trace hm (F.bindsN fun _ _ _ _ _ _ us hl => match us, hl with | [_], _ => rfl) fun cdv A outer s H E hr => (mss_cons (ms_expr (me_call rfl (takes_of rfl rfl rfl rfl) (kn_require_table m tb) hr (ma_cons me_var ma_nil))) (mss_cons (ms_expr (me_call rfl (takes_of rfl rfl rfl rfl) (kn_require_square m tb) hr (ma_cons me_var ma_nil))) (mss_one (ms_ret (me_call rfl (takes_of rfl rfl rfl rfl) (kn_total_in m tb) hr (ma_cons (me_lc (own := [("place", 1), ("row", 2)]) rfl rfl sc_table_trace.nd (mi_enum rfl m.f_enumerate (ma_cons me_var ma_nil)) (by first | rfl | decide +kernel) (fun _ _ _ _ _ => (mg_tp rfl (mgs_cons (mg_nm sc_table_trace.nd) (mgs_cons (mg_nm sc_table_trace.nd) mgs_nil)))) (fun _ _ _ _ _ => mts_nil) (fun _ _ _ _ _ => (me_call rfl L2.takes0 (kn_pair_of m tb) hr (ma_cons (me_ix ix_seq o2_at me_var me_var (fun _ _ => rfl)) ma_nil)))) ma_nil))))))
def b_determinant : Fst := (sSeq (sExpr (dCall F_require_table 1 (aCons (dVar 0) aNil))) (sSeq (sExpr (dCall F_require_square 1 (aCons (dVar 0) aNil))) (sRet (dCall F_determinant_in 1 (aCons (dCall F_table_told 1 (aCons (dVar 0) aNil)) aNil)))))
def F_determinant : FN := runF 1 b_determinant
theorem sc_determinant : FnScope ["table"] ["table"] (defScope st_determinant) := ⟨rfl, rfl, rfl, by decide +kernel, rfl, by decide +kernel, by decide +kernel⟩
theorem kn_determinant {P : Program} {w : World} {mg : Str → Option Value} {base : Heap} {M : Md} (m : Mo P mg M) (tb : ∀ p ∈ M.cs, TabB base mg p.1 p.2) : Kn P w mg base M "determinant" 7 1 F_determinant := by
  obtain ⟨f, fd, F, hm⟩ := m.d_determinant
  exact kn_of (k := 6) F sc_determinant hm (F.bindsN fun _ _ _ _ _ _ us hl => match us, hl with | [_], _ => rfl) fun cdv A outer s H E hr => (mss_cons (ms_expr (me_call rfl (takes_of rfl rfl rfl rfl) (kn_require_table m tb) hr (ma_cons me_var ma_nil))) (mss_cons (ms_expr (me_call rfl (takes_of rfl rfl rfl rfl) (kn_require_square m tb) hr (ma_cons me_var ma_nil))) (mss_one (ms_ret (me_call rfl (takes_of rfl rfl rfl rfl) (kn_determinant_in m tb) hr (ma_cons (me_call rfl (takes_of rfl rfl rfl rfl) (kn_table_told m tb) hr (ma_cons me_var ma_nil)) ma_nil))))))
def b_table_undone : Fst := (sSeq (sExpr (dCall F_require_table 1 (aCons (dVar 0) aNil))) (sSeq (sExpr (dCall F_require_square 1 (aCons (dVar 0) aNil))) (sSeq (sSet 1 (dCall F_undone_in 1 (aCons (dCall F_table_told 1 (aCons (dVar 0) aNil)) aNil))) (sSeq (sIf (fB (dIsN false (dVar 1))) (sRaise1 4 "reason" (mkTup (aCons (dC c_DETERMINANT) aNil))) sNil) (sRet (dVar 1))))))
def F_table_undone : FN := runF 2 b_table_undone
theorem sc_table_undone : FnScope ["table", "found"] ["table"] (defScope st_table_undone) := ⟨rfl, rfl, rfl, by decide +kernel, rfl, by decide +kernel, by decide +kernel⟩
theorem kn_table_undone {P : Program} {w : World} {mg : Str → Option Value} {base : Heap} {M : Md} (m : Mo P mg M) (tb : ∀ p ∈ M.cs, TabB base mg p.1 p.2) : Kn P w mg base M "table_undone" 7 1 F_table_undone := by
  obtain ⟨f, fd, F, hm⟩ := m.d_table_undone
  exact kn_of (k := 6) F sc_table_undone hm (F.bindsN fun _ _ _ _ _ _ us hl => match us, hl with | [_], _ => rfl) fun cdv A outer s H E hr => (mss_cons (ms_expr (me_call rfl (takes_of rfl rfl rfl rfl) (kn_require_table m tb) hr (ma_cons me_var ma_nil))) (mss_cons (ms_expr (me_call rfl (takes_of rfl rfl rfl rfl) (kn_require_square m tb) hr (ma_cons me_var ma_nil))) (mss_cons (ms_set sc_table_undone.nd (me_call rfl (takes_of rfl rfl rfl rfl) (kn_undone_in m tb) hr (ma_cons (me_call rfl (takes_of rfl rfl rfl rfl) (kn_table_told m tb) hr (ma_cons me_var ma_nil)) ma_nil))) (mss_cons (ms_if (mt_isn me_var) (mss_one (ms_raise1 rfl rfl (takes_of rfl rfl rfl rfl) m.k_Refused hr (me_tup (ma_cons (me_con m.g_DETERMINANT (by rfl)) ma_nil)))) mss_nil) (mss_one (ms_ret me_var))))))
def b_table_rank : Fst := (sSeq (sExpr (dCall F_require_table 1 (aCons (dVar 0) aNil))) (sRet (dN nLen (aCons (dCall F_echelon_in 1 (aCons (dCall F_table_told 1 (aCons (dVar 0) aNil)) aNil)) aNil))))
def F_table_rank : FN := runF 1 b_table_rank
theorem sc_table_rank : FnScope ["table"] ["table"] (defScope st_table_rank) := ⟨rfl, rfl, rfl, by decide +kernel, rfl, by decide +kernel, by decide +kernel⟩
theorem kn_table_rank {P : Program} {w : World} {mg : Str → Option Value} {base : Heap} {M : Md} (m : Mo P mg M) (tb : ∀ p ∈ M.cs, TabB base mg p.1 p.2) : Kn P w mg base M "table_rank" 7 1 F_table_rank := by
  obtain ⟨f, fd, F, hm⟩ := m.d_table_rank
  exact kn_of (k := 6) F sc_table_rank hm (F.bindsN fun _ _ _ _ _ _ us hl => match us, hl with | [_], _ => rfl) fun cdv A outer s H E hr => (mss_cons (ms_expr (me_call rfl (takes_of rfl rfl rfl rfl) (kn_require_table m tb) hr (ma_cons me_var ma_nil))) (mss_one (ms_ret (me_callB call_len on_len (by rfl) m.f_len boot_len (ma_cons (me_call rfl (takes_of rfl rfl rfl rfl) (kn_echelon_in m tb) hr (ma_cons (me_call rfl (takes_of rfl rfl rfl rfl) (kn_table_told m tb) hr (ma_cons me_var ma_nil)) ma_nil)) ma_nil)))))
def b_table_echelon : Fst := (sSeq (sExpr (dCall F_require_table 1 (aCons (dVar 0) aNil))) (sRet (dN nTuple (aCons (dCall F_echelon_in 1 (aCons (dCall F_table_told 1 (aCons (dVar 0) aNil)) aNil)) aNil))))
def F_table_echelon : FN := runF 1 b_table_echelon
theorem sc_table_echelon : FnScope ["table"] ["table"] (defScope st_table_echelon) := ⟨rfl, rfl, rfl, by decide +kernel, rfl, by decide +kernel, by decide +kernel⟩
theorem kn_table_echelon {P : Program} {w : World} {mg : Str → Option Value} {base : Heap} {M : Md} (m : Mo P mg M) (tb : ∀ p ∈ M.cs, TabB base mg p.1 p.2) : Kn P w mg base M "table_echelon" 7 1 F_table_echelon := by
  obtain ⟨f, fd, F, hm⟩ := m.d_table_echelon
  exact kn_of (k := 6) F sc_table_echelon hm (F.bindsN fun _ _ _ _ _ _ us hl => match us, hl with | [_], _ => rfl) fun cdv A outer s H E hr => (mss_cons (ms_expr (me_call rfl (takes_of rfl rfl rfl rfl) (kn_require_table m tb) hr (ma_cons me_var ma_nil))) (mss_one (ms_ret (me_callTy call_tuple_of on_tuple (by rfl) m.f_tuple PyProof.Rows.boot_tuple (ma_cons (me_call rfl (takes_of rfl rfl rfl rfl) (kn_echelon_in m tb) hr (ma_cons (me_call rfl (takes_of rfl rfl rfl rfl) (kn_table_told m tb) hr (ma_cons me_var ma_nil)) ma_nil)) ma_nil)))))
def b_table_kernel : Fst := (sSeq (sExpr (dCall F_require_table 1 (aCons (dVar 0) aNil))) (sRet (dN nTuple (aCons (dCall F_kernel_in 1 (aCons (dCall F_table_told 1 (aCons (dVar 0) aNil)) aNil)) aNil))))
def F_table_kernel : FN := runF 1 b_table_kernel
theorem sc_table_kernel : FnScope ["table"] ["table"] (defScope st_table_kernel) := ⟨rfl, rfl, rfl, by decide +kernel, rfl, by decide +kernel, by decide +kernel⟩
theorem kn_table_kernel {P : Program} {w : World} {mg : Str → Option Value} {base : Heap} {M : Md} (m : Mo P mg M) (tb : ∀ p ∈ M.cs, TabB base mg p.1 p.2) : Kn P w mg base M "table_kernel" 7 1 F_table_kernel := by
  obtain ⟨f, fd, F, hm⟩ := m.d_table_kernel
  exact kn_of (k := 6) F sc_table_kernel hm (F.bindsN fun _ _ _ _ _ _ us hl => match us, hl with | [_], _ => rfl) fun cdv A outer s H E hr => (mss_cons (ms_expr (me_call rfl (takes_of rfl rfl rfl rfl) (kn_require_table m tb) hr (ma_cons me_var ma_nil))) (mss_one (ms_ret (me_callTy call_tuple_of on_tuple (by rfl) m.f_tuple PyProof.Rows.boot_tuple (ma_cons (me_call rfl (takes_of rfl rfl rfl rfl) (kn_kernel_in m tb) hr (ma_cons (me_call rfl (takes_of rfl rfl rfl rfl) (kn_table_told m tb) hr (ma_cons me_var ma_nil)) ma_nil)) ma_nil)))))
def b_table_solved : Fst := (sSeq (sExpr (dCall F_require_table 1 (aCons (dVar 0) aNil))) (sSeq (sExpr (dCall F_require_row 1 (aCons (dVar 1) aNil))) (sSeq (sIf (fB (d2 dNe (dN nLen (aCons (dVar 1) aNil)) (dN nLen (aCons (dVar 0) aNil)))) (sRaise0 2) sNil) (sRet (dCall F_solved_in 2 (aCons (dCall F_table_told 1 (aCons (dVar 0) aNil)) (aCons (dCall F_row_told 1 (aCons (dVar 1) aNil)) aNil)))))))
def F_table_solved : FN := runF 2 b_table_solved
theorem sc_table_solved : FnScope ["table", "row"] ["table", "row"] (defScope st_table_solved) := ⟨rfl, rfl, rfl, by decide +kernel, rfl, by decide +kernel, by decide +kernel⟩
theorem kn_table_solved {P : Program} {w : World} {mg : Str → Option Value} {base : Heap} {M : Md} (m : Mo P mg M) (tb : ∀ p ∈ M.cs, TabB base mg p.1 p.2) : Kn P w mg base M "table_solved" 7 2 F_table_solved := by
  obtain ⟨f, fd, F, hm⟩ := m.d_table_solved
  exact kn_of (k := 6) F sc_table_solved hm (F.bindsN fun _ _ _ _ _ _ us hl => match us, hl with | [_, _], _ => rfl) fun cdv A outer s H E hr => (mss_cons (ms_expr (me_call rfl (takes_of rfl rfl rfl rfl) (kn_require_table m tb) hr (ma_cons me_var ma_nil))) (mss_cons (ms_expr (me_call rfl (takes_of rfl rfl rfl rfl) (kn_require_row m tb) hr (ma_cons me_var ma_nil))) (mss_cons (ms_if (mt_cmp (op_neD hr.units) o2_ne (me_callB call_len on_len (by rfl) m.f_len boot_len (ma_cons me_var ma_nil)) (me_callB call_len on_len (by rfl) m.f_len boot_len (ma_cons me_var ma_nil)) (nobehind _ (by decide) (by decide))) (mss_one (ms_raise0 rfl rfl (takes_of rfl rfl rfl rfl) m.k_InvalidOperation)) mss_nil) (mss_one (ms_ret (me_call rfl (takes_of rfl rfl rfl rfl) (kn_solved_in m tb) hr (ma_cons (me_call rfl (takes_of rfl rfl rfl rfl) (kn_table_told m tb) hr (ma_cons me_var ma_nil)) (ma_cons (me_call rfl (takes_of rfl rfl rfl rfl) (kn_row_told m tb) hr (ma_cons me_var ma_nil)) ma_nil))))))))
def b__law_dice : Fst := (sSeq (sSet 2 (dIf (fB (d2 dLt (dVar 1) (dN nLen (aCons (dVar 0) aNil)))) (dN nInt (aCons (d2 dAt (dVar 0) (dVar 1)) aNil)) (d2 dAdd (d2 dMul (dC (.int 89)) (dVar 1)) (dC (.int 53))))) (sSeq (sSet 3 (d2 dMod (dN nMax2 (aCons (dC (.int 0)) (aCons (d2 dSub (dN nAbs (aCons (dVar 2) aNil)) (d2 dPow (dC (.int 10)) (dC (.int 16)))) aNil))) (d2 dMul (d2 dPow (dC (.int 10)) (dC (.int 56))) (d2 dPow (dC (.int 10)) (dC (.int 60)))))) (sRet (mkLst (aCons (dVar 3) (aCons (d2 dAdd (d2 dAdd (d2 dAdd (d2 dMul (d2 dMod (dN nAbs (aCons (dVar 2) aNil)) (dC (.int 1152921504606846869))) (dC (.int 61))) (d2 dMul (dC (.int 1009)) (dVar 1))) (d2 dMul (dC (.int 43)) (dN nInt (aCons (d2 dLt (dVar 2) (dC (.int 0))) aNil)))) (dC (.int 17))) (aCons (dC (.int 0)) aNil)))))))
def F__law_dice : FN := runF 4 b__law_dice
theorem sc__law_dice : FnScope ["_law_script", "_law_spot", "_law_cell", "_law_left"] ["_law_script", "_law_spot"] (defScope st__law_dice) := ⟨rfl, rfl, rfl, by decide +kernel, rfl, by decide +kernel, by decide +kernel⟩
theorem kn__law_dice {P : Program} {w : World} {mg : Str → Option Value} {base : Heap} {M : Md} (m : Mo P mg M) (tb : ∀ p ∈ M.cs, TabB base mg p.1 p.2) : Kn P w mg base M "_law_dice" 1 2 F__law_dice := by
  obtain ⟨f, fd, F, hm⟩ := m.d__law_dice
  exact kn_of (k := 0) F sc__law_dice hm (F.bindsN fun _ _ _ _ _ _ us hl => match us, hl with | [_, _], _ => rfl) fun cdv A outer s H E hr => (mss_cons (ms_set sc__law_dice.nd (me_if (mt_cmp op_lt o2_lt me_var (me_callB call_len on_len (by rfl) m.f_len boot_len (ma_cons me_var ma_nil)) (nobehind _ (by decide) (by decide))) (me_callTy call_int1 on_int (by rfl) m.f_int PyProof.Rows.boot_int (ma_cons (me_ix ix_seq o2_at me_var me_var (fun _ _ => rfl)) ma_nil)) (me_bin op_addA o2_add (me_bin op_mulA o2_mul me_int me_var) me_int))) (mss_cons (ms_set sc__law_dice.nd (me_bin op_modN o2_mod (me_callB (call_max2 rfl) on_max2 (by rfl) m.f_max boot_max (ma_cons me_int (ma_cons (me_bin op_sub o2_sub (me_callB call_abs on_abs (by rfl) m.f_abs PyProof.Rows.boot_abs (ma_cons me_var ma_nil)) (me_bin op_pow o2_pow me_int me_int)) ma_nil))) (me_bin op_mulA o2_mul (me_bin op_pow o2_pow me_int me_int) (me_bin op_pow o2_pow me_int me_int)))) (mss_one (ms_ret (me_lst (ma_cons me_var (ma_cons (me_bin op_addA o2_add (me_bin op_addA o2_add (me_bin op_addA o2_add (me_bin op_mulA o2_mul (me_bin op_modN o2_mod (me_callB call_abs on_abs (by rfl) m.f_abs PyProof.Rows.boot_abs (ma_cons me_var ma_nil)) me_int) me_int) (me_bin op_mulA o2_mul me_int me_var)) (me_bin op_mulA o2_mul me_int (me_callTy call_int1 on_int (by rfl) m.f_int PyProof.Rows.boot_int (ma_cons (me_cmp op_lt o2_lt me_var me_int (nobehind _ (by decide) (by decide))) ma_nil)))) me_int) (ma_cons me_int ma_nil))))))))
def b__law_roll : Fst := (sSeq (sIf (fB (d2 dGt (d2 dAt (dVar 0) (dC (.int 0))) (dC (.int 0)))) (sSeq (sSet 2 (d2 dMod (dN nInt (aCons (d2 dAt (dVar 0) (dC (.int 0))) aNil)) (dVar 1))) (sSeq (sPut (d2 dFdiv (d2 dAt (dVar 0) (dC (.int 0))) (dVar 1)) (dVar 0) (dC (.int 0))) (sRet (dVar 2)))) sNil) (sSeq (sPut (d2 dAdd (d2 dAt (dVar 0) (dC (.int 2))) (dC (.int 1))) (dVar 0) (dC (.int 2))) (sSeq (sSet 3 (d2 dMod (dN nInt (aCons (d2 dAdd (d2 dAt (dVar 0) (dC (.int 1))) (d2 dMul (dC (.int 99990067)) (d2 dAt (dVar 0) (dC (.int 2))))) aNil)) (dC (.int 2305843009213693381)))) (sSeq (sSet 4 (d2 dAdd (d2 dMul (d2 dMod (dN nInt (aCons (d2 dAdd (d2 dMul (dVar 3) (dVar 3)) (d2 dMul (dC (.int 89)) (d2 dAt (dVar 0) (dC (.int 2))))) aNil)) (dC (.int 2305843009213693343))) (dC (.int 8675309))) (dVar 3))) (sRet (d2 dMod (dN nInt (aCons (d2 dFdiv (dVar 4) (dC (.int 65551))) aNil)) (dVar 1)))))))
def F__law_roll : FN := runF 5 b__law_roll
theorem sc__law_roll : FnScope ["_law_dice_here", "_law_total", "_law_found", "_law_one", "_law_two"] ["_law_dice_here", "_law_total"] (defScope st__law_roll) := ⟨rfl, rfl, rfl, by decide +kernel, rfl, by decide +kernel, by decide +kernel⟩
theorem kn__law_roll {P : Program} {w : World} {mg : Str → Option Value} {base : Heap} {M : Md} (m : Mo P mg M) (tb : ∀ p ∈ M.cs, TabB base mg p.1 p.2) : Kn P w mg base M "_law_roll" 1 2 F__law_roll := by
  obtain ⟨f, fd, F, hm⟩ := m.d__law_roll
  exact kn_of (k := 0) F sc__law_roll hm (F.bindsN fun _ _ _ _ _ _ us hl => match us, hl with | [_, _], _ => rfl) fun cdv A outer s H E hr => (mss_cons (ms_if (mt_cmp op_gt o2_gt (me_ix ix_seq o2_at me_var me_int (fun _ _ => rfl)) me_int (nobehind _ (by decide) (by decide))) (mss_cons (ms_set sc__law_roll.nd (me_bin op_modN o2_mod (me_callTy call_int1 on_int (by rfl) m.f_int PyProof.Rows.boot_int (ma_cons (me_ix ix_seq o2_at me_var me_int (fun _ _ => rfl)) ma_nil)) me_var)) (mss_cons (ms_put (me_bin op_fdivD o2_fdiv (me_ix ix_seq o2_at me_var me_int (fun _ _ => rfl)) me_var) me_var me_int) (mss_one (ms_ret me_var)))) mss_nil) (mss_cons (ms_put (me_bin op_addA o2_add (me_ix ix_seq o2_at me_var me_int (fun _ _ => rfl)) me_int) me_var me_int) (mss_cons (ms_set sc__law_roll.nd (me_bin op_modN o2_mod (me_callTy call_int1 on_int (by rfl) m.f_int PyProof.Rows.boot_int (ma_cons (me_bin op_addA o2_add (me_ix ix_seq o2_at me_var me_int (fun _ _ => rfl)) (me_bin op_mulA o2_mul me_int (me_ix ix_seq o2_at me_var me_int (fun _ _ => rfl)))) ma_nil)) me_int)) (mss_cons (ms_set sc__law_roll.nd (me_bin op_addA o2_add (me_bin op_mulA o2_mul (me_bin op_modN o2_mod (me_callTy call_int1 on_int (by rfl) m.f_int PyProof.Rows.boot_int (ma_cons (me_bin op_addA o2_add (me_bin op_mulA o2_mul me_var me_var) (me_bin op_mulA o2_mul me_int (me_ix ix_seq o2_at me_var me_int (fun _ _ => rfl)))) ma_nil)) me_int) me_int) me_var)) (mss_one (ms_ret (me_bin op_modN o2_mod (me_callTy call_int1 on_int (by rfl) m.f_int PyProof.Rows.boot_int (ma_cons (me_bin op_fdivD o2_fdiv me_var me_int) ma_nil)) me_var)))))))
def b__law_pick : Fst := (sRet (d2 dAt (dVar 1) (dCall F__law_roll 2 (aCons (dVar 0) (aCons (dN nLen (aCons (dVar 1) aNil)) aNil)))))
def F__law_pick : FN := runF 2 b__law_pick
theorem sc__law_pick : FnScope ["_law_dice_here", "_law_items"] ["_law_dice_here", "_law_items"] (defScope st__law_pick) := ⟨rfl, rfl, rfl, by decide +kernel, rfl, by decide +kernel, by decide +kernel⟩
theorem kn__law_pick {P : Program} {w : World} {mg : Str → Option Value} {base : Heap} {M : Md} (m : Mo P mg M) (tb : ∀ p ∈ M.cs, TabB base mg p.1 p.2) : Kn P w mg base M "_law_pick" 2 2 F__law_pick := by
  obtain ⟨f, fd, F, hm⟩ := m.d__law_pick
  exact kn_of (k := 1) F sc__law_pick hm (F.bindsN fun _ _ _ _ _ _ us hl => match us, hl with | [_, _], _ => rfl) fun cdv A outer s H E hr => (mss_one (ms_ret (me_ix ix_seq o2_at me_var (me_call rfl (takes_of rfl rfl rfl rfl) (kn__law_roll m tb) hr (ma_cons me_var (ma_cons (me_callB call_len on_len (by rfl) m.f_len boot_len (ma_cons me_var ma_nil)) ma_nil))) (fun _ _ => rfl))))
def met__law_met : FTh → FTh := metF 5 subX [⟨1, none, fun _ S => (mkTup (aCons (dC (.str "refused")) (aCons (dC (.str "table")) aNil))) [] S⟩, ⟨2, none, fun _ S => (mkTup (aCons (dC (.str "refused")) (aCons (dC (.str "operation")) aNil))) [] S⟩, ⟨3, some 1, (fSu3 "refused" "number " 3 "given")⟩, ⟨4, some 1, (fSu2 "refused" 4 "reason")⟩] 2 (fun _ S => (dC (.str "fine")) [] S)
theorem sc__law_met : FnScope ["_law_call", "error"] ["_law_call"] (defScope st__law_met) := ⟨rfl, rfl, rfl, by decide +kernel, rfl, by decide +kernel, by decide +kernel⟩
theorem mt__law_met {M : Md} {X : Cx} {k : Nat} {q : Str} (m : Mo X.prog X.mg M) (hK : X.K = M.K) (hg : X.A.guards = some []) (hr : Room (k + 1) X.A) : MetOk M X "_law_met" met__law_met q := by
  obtain ⟨f, fd, F, hm⟩ := m.d__law_met
  obtain ⟨oc, od, dV, kV, doc, pm, an, cdv, ct, osl, rfl, lk, hcd, _, _⟩ := id F.ex
  have hb := F.bindsN (ps := ["_law_call"]) fun _ _ _ _ _ _ us hl => match us, hl with | [_], _ => rfl
  have kp := F.kp
  rw [← hK] at lk hcd hb kp
  refine ⟨f, "_law_call", defArgs st__law_met, defBody st__law_met, defScope st__law_met, dV, kV, doc, pm, cdv, ct, oc, an, od, osl, ["_law_call", "error"], hm, kp, lk, hcd, hb, sc__law_met, rfl, .inl rfl, by decide, by decide, ?_⟩
  exact met_expr hK m.kx (fun _ => ⟨rfl, rfl⟩) (fun s H => (.plain (by decide) m.c_InvalidTable rfl (by decide) (su_pure (fun _ _ => (me_tup (ma_cons me_str (ma_cons me_str ma_nil)))) (fun _ _ => rfl)) (.plain (by decide) m.c_InvalidOperation rfl (by decide) (su_pure (fun _ _ => (me_tup (ma_cons me_str (ma_cons me_str ma_nil)))) (fun _ _ => rfl)) (.named (by decide) m.c_InvalidNumber rfl (by decide) sc__law_met.nd rfl rfl (su_3 hK hg (MP.Room.u200 (Room.deeper hr _)) rfl m.f_repr m.kf_InvalidNumber rfl (.inl rfl)) (.named (by decide) m.c_Refused rfl (by decide) sc__law_met.nd rfl rfl (su_2 hK m.kf_Refused rfl (.inl rfl)) Dcs.nil))))) (fun _ _ => me_str) (fun _ _ => rfl) (fun _ _ => rfl)
def tabV : List (FN × Nat) := [(F_table_turned, 1), (F_table_trace, 1), (F_determinant, 1), (F_table_undone, 1), (F_table_rank, 1), (F_table_echelon, 1), (F_table_kernel, 1), (F_table_sum, 2), (F_table_product, 2)]
theorem kv_tab {P : Program} {w : World} {mg : Str → Option Value} {base : Heap} {M : Md} (m : Mo P mg M) (tb : ∀ p ∈ M.cs, TabB base mg p.1 p.2) : ∀ c F n, tabV[c]? = some (F, n) → ∃ k, k ≤ 8 ∧ KnV P w mg base M c k n F := by
  intro c F n h
  match c, h with
  | 0, h =>
    have h : some (F_table_turned, 1) = some (F, n) := h
    cases h
    exact ⟨7, by decide, (kn_table_turned m tb).val m.v_table_turned⟩
  | 1, h =>
    have h : some (F_table_trace, 1) = some (F, n) := h
    cases h
    exact ⟨7, by decide, (kn_table_trace m tb).val m.v_table_trace⟩
  | 2, h =>
    have h : some (F_determinant, 1) = some (F, n) := h
    cases h
    exact ⟨7, by decide, (kn_determinant m tb).val m.v_determinant⟩
  | 3, h =>
    have h : some (F_table_undone, 1) = some (F, n) := h
    cases h
    exact ⟨7, by decide, (kn_table_undone m tb).val m.v_table_undone⟩
  | 4, h =>
    have h : some (F_table_rank, 1) = some (F, n) := h
    cases h
    exact ⟨7, by decide, (kn_table_rank m tb).val m.v_table_rank⟩
  | 5, h =>
    have h : some (F_table_echelon, 1) = some (F, n) := h
    cases h
    exact ⟨7, by decide, (kn_table_echelon m tb).val m.v_table_echelon⟩
  | 6, h =>
    have h : some (F_table_kernel, 1) = some (F, n) := h
    cases h
    exact ⟨7, by decide, (kn_table_kernel m tb).val m.v_table_kernel⟩
  | 7, h =>
    have h : some (F_table_sum, 2) = some (F, n) := h
    cases h
    exact ⟨8, by decide, (kn_table_sum m tb).val m.v_table_sum⟩
  | 8, h =>
    have h : some (F_table_product, 2) = some (F, n) := h
    cases h
    exact ⟨8, by decide, (kn_table_product m tb).val m.v_table_product⟩
  | _ + 9, h => cases h
def b__law_right : Fst := (sSeq (sSet 1 (dCall F__law_pick 2 (aCons (dVar 0) (aCons (mkLst (aCons (dC .non) (aCons (mkTup aNil) (aCons (mkTup (aCons (mkTup aNil) aNil)) (aCons (mkLst (aCons (mkTup (aCons (dC (.int 1)) aNil)) aNil)) (aCons (dC (.int 5)) (aCons (dC (.str "1")) (aCons (mkTup (aCons (mkTup (aCons (dC (.int 1)) aNil)) (aCons (mkTup (aCons (dC (.int 1)) (aCons (dC (.int 2)) aNil))) aNil))) (aCons (mkTup (aCons (mkTup (aCons (dC (.bl true)) aNil)) aNil)) (aCons (mkTup (aCons (mkTup (aCons (dC .non) aNil)) aNil)) (aCons (mkTup (aCons (mkTup (aCons (mkTup (aCons (dC (.int 2)) (aCons (dC (.int 4)) aNil))) aNil)) aNil)) (aCons (mkTup (aCons (mkTup (aCons (mkTup (aCons (dC (.int 1)) (aCons (dC (.int 0)) aNil))) aNil)) aNil)) (aCons dEmpty aNil))))))))))))) aNil)))) (sSeq (sSet 1 (dCall F__law_pick 2 (aCons (dVar 0) (aCons (mkLst (aCons (dVar 1) (aCons (dVar 1) (aCons (d2 dMul (mkTup (aCons (mkTup (aCons (dC (.int 1)) aNil)) aNil)) (dC (.int 41))) (aCons (mkTup (aCons (d2 dMul (mkTup (aCons (dC (.int 1)) aNil)) (dC (.int 41))) aNil)) (aCons (mkTup (aCons (mkTup (aCons (mkTup (aCons (dC (.int 1)) (aCons (dNeg (dC (.int 1))) aNil))) aNil)) aNil)) (aCons (mkTup (aCons (mkLst (aCons (dC (.int 1)) aNil)) aNil)) (aCons (mkTup (aCons (mkTup (aCons (dC (.str "1")) aNil)) aNil)) aNil)))))))) aNil)))) (sSeq (sSet 2 (dCall F__law_pick 2 (aCons (dVar 0) (aCons (mkLst (aCons (dC .non) (aCons (mkTup aNil) (aCons (mkLst (aCons (dC (.int 1)) aNil)) (aCons (dC (.int 5)) (aCons (dC (.str "1")) (aCons (mkTup (aCons (dC (.bl true)) aNil)) (aCons (mkTup (aCons (dC .non) aNil)) (aCons (mkTup (aCons (mkTup (aCons (dC (.int 2)) (aCons (dC (.int 4)) aNil))) aNil)) (aCons (mkTup (aCons (mkTup (aCons (dC (.int 1)) (aCons (dC (.int 0)) aNil))) aNil)) (aCons (d2 dMul (mkTup (aCons (dC (.int 1)) aNil)) (dC (.int 41))) (aCons dEmpty (aCons (mkTup (aCons (mkTup (aCons (dC (.int 1)) (aCons (dC (.int 2)) (aCons (dC (.int 3)) aNil)))) aNil)) aNil))))))))))))) aNil)))) (sSeq (sSet 3 (dCall F__law_pick 2 (aCons (dVar 0) (aCons (mkLst (aCons (dC .non) (aCons (dC (.str "1")) (aCons (dC (.bl true)) (aCons (mkTup (aCons (dC (.int 2)) (aCons (dC (.int 4)) aNil))) (aCons (mkTup (aCons (dC (.int 1)) (aCons (dC (.int 0)) aNil))) (aCons (mkTup (aCons (dC (.int 1)) aNil)) (aCons (mkLst (aCons (dC (.int 1)) (aCons (dC (.int 2)) aNil))) (aCons dEmpty (aCons (mkTup (aCons (dC (.int 1)) (aCons (dC (.int 2)) (aCons (dC (.int 3)) aNil)))) aNil)))))))))) aNil)))) (sSeq (sSet 4 (dCall F__law_pick 2 (aCons (dVar 0) (aCons (mkLst (aCons (dC .non) (aCons (dC (.int 0)) (aCons (dC (.int 41)) (aCons (dNeg (dC (.int 1))) (aCons (dC (.bl true)) (aCons (dC (.str "2")) (aCons (mkTup (aCons (dC (.int 2)) aNil)) (aCons (d2 dPow (dC (.int 10)) (dC (.int 60))) aNil))))))))) aNil)))) (sSeq (sAsg (.tp (.cons (.nm 5) (.cons (.nm 6) .nil))) (mkTup (aCons (mkTup (aCons (mkTup (aCons (dC (.int 1)) (aCons (dC (.int 2)) (aCons (dC (.int 3)) aNil)))) (aCons (mkTup (aCons (dC (.int 4)) (aCons (dC (.int 5)) (aCons (dC (.int 6)) aNil)))) aNil))) (aCons (mkTup (aCons (mkTup (aCons (dC (.int 1)) (aCons (dC (.int 2)) aNil))) (aCons (mkTup (aCons (dC (.int 3)) (aCons (dC (.int 4)) aNil))) (aCons (mkTup (aCons (dC (.int 5)) (aCons (mkTup (aCons (dC (.int 1)) (aCons (dC (.int 2)) aNil))) aNil))) aNil)))) aNil)))) (sSeq (sSet 7 (mkLst (aCons (dLam met__law_met (dCall F_idle_table 1 (aCons (dVar 4) aNil))) aNil))) (sSeq (sFor (iD (mkTup (aCons (dC (.fn 0)) (aCons (dC (.fn 1)) (aCons (dC (.fn 2)) (aCons (dC (.fn 3)) (aCons (dC (.fn 4)) (aCons (dC (.fn 5)) (aCons (dC (.fn 6)) aNil))))))))) (.nm 8) (sExpr (dML mAppend (dVar 7) (aCons (dLam met__law_met (dCallV tabV 8 (aCons (dVar 1) aNil))) aNil)))) (sSeq (sFor (iD (mkTup (aCons (dC (.fn 7)) (aCons (dC (.fn 8)) aNil)))) (.nm 8) (sSeq (sExpr (dML mAppend (dVar 7) (aCons (dLam met__law_met (dCallV tabV 8 (aCons (dVar 1) (aCons (dVar 1) aNil)))) aNil))) (sExpr (dML mAppend (dVar 7) (aCons (dLam met__law_met (dCallV tabV 8 (aCons (dVar 5) (aCons (dVar 1) aNil)))) aNil))))) (sSeq (sExpr (dML mAppend (dVar 7) (aCons (dLam met__law_met (dCall F_table_sum 2 (aCons (dVar 5) (aCons (dVar 6) aNil)))) aNil))) (sSeq (sExpr (dML mAppend (dVar 7) (aCons (dLam met__law_met (dCall F_table_product 2 (aCons (dVar 5) (aCons (dVar 5) aNil)))) aNil))) (sSeq (sExpr (dML mAppend (dVar 7) (aCons (dLam met__law_met (dCall F_table_scaled 2 (aCons (dVar 1) (aCons (dVar 3) aNil)))) aNil))) (sSeq (sExpr (dML mAppend (dVar 7) (aCons (dLam met__law_met (dCall F_table_scaled 2 (aCons (dVar 5) (aCons (dVar 3) aNil)))) aNil))) (sSeq (sExpr (dML mAppend (dVar 7) (aCons (dLam met__law_met (dCall F_row_times 2 (aCons (dVar 2) (aCons (dVar 1) aNil)))) aNil))) (sSeq (sExpr (dML mAppend (dVar 7) (aCons (dLam met__law_met (dCall F_row_times 2 (aCons (dVar 2) (aCons (dVar 5) aNil)))) aNil))) (sSeq (sExpr (dML mAppend (dVar 7) (aCons (dLam met__law_met (dCall F_row_times 2 (aCons (mkTup (aCons (dC (.int 1)) (aCons (dC (.int 2)) (aCons (dC (.int 3)) aNil)))) (aCons (dVar 1) aNil)))) aNil))) (sSeq (sExpr (dML mAppend (dVar 7) (aCons (dLam met__law_met (dCall F_row_times 2 (aCons (mkTup (aCons (dC (.int 1)) (aCons (dC (.int 2)) (aCons (dC (.int 3)) aNil)))) (aCons (dVar 5) aNil)))) aNil))) (sSeq (sExpr (dML mAppend (dVar 7) (aCons (dLam met__law_met (dCall F_table_solved 2 (aCons (dVar 1) (aCons (dVar 2) aNil)))) aNil))) (sSeq (sExpr (dML mAppend (dVar 7) (aCons (dLam met__law_met (dCall F_table_solved 2 (aCons (dVar 5) (aCons (dVar 2) aNil)))) aNil))) (sSeq (sExpr (dML mAppend (dVar 7) (aCons (dLam met__law_met (dCall F_table_solved 2 (aCons (dVar 5) (aCons (mkTup (aCons (dC (.int 1)) (aCons (dC (.int 2)) (aCons (dC (.int 3)) aNil)))) aNil)))) aNil))) (sSeq (sSet 9 (d2 dAdd (d2 dAdd (d2 dAdd (mkLst (aCons (d2 dAdd (dC (.str "number ")) (dN nRepr (aCons (dVar 4) aNil))) aNil)) (d2 dMul (mkLst (aCons (dC (.str "table")) aNil)) (dC (.int 11)))) (d2 dMul (mkLst (aCons (dC (.str "operation")) aNil)) (dC (.int 2)))) (mkLst (aCons (dC (.str "table")) (aCons (d2 dAdd (dC (.str "number ")) (dN nRepr (aCons (dVar 3) aNil))) aNil))))) (sSeq (sSet 9 (d2 dAdd (d2 dAdd (dVar 9) (d2 dMul (mkLst (aCons (dC (.str "table")) aNil)) (dC (.int 3)))) (mkLst (aCons (dC (.str "operation")) (aCons (dC (.str "table")) (aCons (dC (.str "table")) (aCons (dC (.str "operation")) aNil))))))) (sSeq (sIf (fB (d2 dNe (dVar 7) (dLc (iD (dVar 9)) (.nm 10) fYes (mkTup (aCons (dC (.str "refused")) (aCons (dVar 10) aNil))) [10]))) (sRet (dC (.bl false))) sNil) (sSeq (sSet 7 (mkLst aNil)) (sSeq (sFor (iD (mkTup (aCons (dC (.fn 1)) (aCons (dC (.fn 2)) (aCons (dC (.fn 3)) aNil))))) (.nm 8) (sSeq (sExpr (dML mAppend (dVar 7) (aCons (dLam met__law_met (dCallV tabV 8 (aCons (dVar 5) aNil))) aNil))) (sExpr (dML mAppend (dVar 7) (aCons (dLam met__law_met (dCallV tabV 8 (aCons (dVar 6) aNil))) aNil))))) (sRet (d2 dEq (dVar 7) (d2 dMul (mkLst (aCons (mkTup (aCons (dC (.str "refused")) (aCons (dC (.str "operation")) aNil))) aNil)) (dC (.int 6))))))))))))))))))))))))))))))
def F__law_right : FN := runF 11 b__law_right
theorem sc__law_right : FnScope ["_law_dice_here", "_law_none", "_law_row", "_law_number", "_law_size", "_law_wide", "_law_tall", "_law_told", "_law_call", "_law_due", "_law_word"] ["_law_dice_here"] (defScope st__law_right) := ⟨rfl, rfl, rfl, by decide +kernel, rfl, by decide +kernel, by decide +kernel⟩
theorem kg__law_right {P : Program} {w : World} {mg : Str → Option Value} {base : Heap} {M : Md} (m : Mo P mg M) (tb : ∀ p ∈ M.cs, TabB base mg p.1 p.2) : KnG P w mg base M "_law_right" 11 1 F__law_right := by
  obtain ⟨f, fd, c, Pt, F, hc, hm, hmc, hT, hu⟩ := m.d__law_right.ex
  exact kg_of (k := 10) F hc sc__law_right hm (F.bindsN fun _ _ _ _ _ _ us hl => match us, hl with | [_], _ => rfl) fun A outer s H E hg hr => (mss_cons (ms_set sc__law_right.nd (me_call rfl (takes_of rfl rfl rfl rfl) (kn__law_pick m tb) hr (ma_cons me_var (ma_cons (me_lst (ma_cons me_non (ma_cons (me_tup ma_nil) (ma_cons (me_tup (ma_cons (me_tup ma_nil) ma_nil)) (ma_cons (me_lst (ma_cons (me_tup (ma_cons me_int ma_nil)) ma_nil)) (ma_cons me_int (ma_cons me_str (ma_cons (me_tup (ma_cons (me_tup (ma_cons me_int ma_nil)) (ma_cons (me_tup (ma_cons me_int (ma_cons me_int ma_nil))) ma_nil))) (ma_cons (me_tup (ma_cons (me_tup (ma_cons me_bl ma_nil)) ma_nil)) (ma_cons (me_tup (ma_cons (me_tup (ma_cons me_non ma_nil)) ma_nil)) (ma_cons (me_tup (ma_cons (me_tup (ma_cons (me_tup (ma_cons me_int (ma_cons me_int ma_nil))) ma_nil)) ma_nil)) (ma_cons (me_tup (ma_cons (me_tup (ma_cons (me_tup (ma_cons me_int (ma_cons me_int ma_nil))) ma_nil)) ma_nil)) (ma_cons me_empty ma_nil))))))))))))) ma_nil)))) (mss_cons (ms_set sc__law_right.nd (me_call rfl (takes_of rfl rfl rfl rfl) (kn__law_pick m tb) hr (ma_cons me_var (ma_cons (me_lst (ma_cons me_var (ma_cons me_var (ma_cons (me_bin op_mulA o2_mul (me_tup (ma_cons (me_tup (ma_cons me_int ma_nil)) ma_nil)) me_int) (ma_cons (me_tup (ma_cons (me_bin op_mulA o2_mul (me_tup (ma_cons me_int ma_nil)) me_int) ma_nil)) (ma_cons (me_tup (ma_cons (me_tup (ma_cons (me_tup (ma_cons me_int (ma_cons (me_neg me_int) ma_nil))) ma_nil)) ma_nil)) (ma_cons (me_tup (ma_cons (me_lst (ma_cons me_int ma_nil)) ma_nil)) (ma_cons (me_tup (ma_cons (me_tup (ma_cons me_str ma_nil)) ma_nil)) ma_nil)))))))) ma_nil)))) (mss_cons (ms_set sc__law_right.nd (me_call rfl (takes_of rfl rfl rfl rfl) (kn__law_pick m tb) hr (ma_cons me_var (ma_cons (me_lst (ma_cons me_non (ma_cons (me_tup ma_nil) (ma_cons (me_lst (ma_cons me_int ma_nil)) (ma_cons me_int (ma_cons me_str (ma_cons (me_tup (ma_cons me_bl ma_nil)) (ma_cons (me_tup (ma_cons me_non ma_nil)) (ma_cons (me_tup (ma_cons (me_tup (ma_cons me_int (ma_cons me_int ma_nil))) ma_nil)) (ma_cons (me_tup (ma_cons (me_tup (ma_cons me_int (ma_cons me_int ma_nil))) ma_nil)) (ma_cons (me_bin op_mulA o2_mul (me_tup (ma_cons me_int ma_nil)) me_int) (ma_cons me_empty (ma_cons (me_tup (ma_cons (me_tup (ma_cons me_int (ma_cons me_int (ma_cons me_int ma_nil)))) ma_nil)) ma_nil))))))))))))) ma_nil)))) (mss_cons (ms_set sc__law_right.nd (me_call rfl (takes_of rfl rfl rfl rfl) (kn__law_pick m tb) hr (ma_cons me_var (ma_cons (me_lst (ma_cons me_non (ma_cons me_str (ma_cons me_bl (ma_cons (me_tup (ma_cons me_int (ma_cons me_int ma_nil))) (ma_cons (me_tup (ma_cons me_int (ma_cons me_int ma_nil))) (ma_cons (me_tup (ma_cons me_int ma_nil)) (ma_cons (me_lst (ma_cons me_int (ma_cons me_int ma_nil))) (ma_cons me_empty (ma_cons (me_tup (ma_cons me_int (ma_cons me_int (ma_cons me_int ma_nil)))) ma_nil)))))))))) ma_nil)))) (mss_cons (ms_set sc__law_right.nd (me_call rfl (takes_of rfl rfl rfl rfl) (kn__law_pick m tb) hr (ma_cons me_var (ma_cons (me_lst (ma_cons me_non (ma_cons me_int (ma_cons me_int (ma_cons (me_neg me_int) (ma_cons me_bl (ma_cons me_str (ma_cons (me_tup (ma_cons me_int ma_nil)) (ma_cons (me_bin op_pow o2_pow me_int me_int) ma_nil))))))))) ma_nil)))) (mss_cons (ms_asg rfl (me_tup (ma_cons (me_tup (ma_cons (me_tup (ma_cons me_int (ma_cons me_int (ma_cons me_int ma_nil)))) (ma_cons (me_tup (ma_cons me_int (ma_cons me_int (ma_cons me_int ma_nil)))) ma_nil))) (ma_cons (me_tup (ma_cons (me_tup (ma_cons me_int (ma_cons me_int ma_nil))) (ma_cons (me_tup (ma_cons me_int (ma_cons me_int ma_nil))) (ma_cons (me_tup (ma_cons me_int (ma_cons (me_tup (ma_cons me_int (ma_cons me_int ma_nil))) ma_nil))) ma_nil)))) ma_nil))) (mg_tp rfl (mgs_cons (mg_nm sc__law_right.nd) (mgs_cons (mg_nm sc__law_right.nd) mgs_nil)))) (mss_cons (ms_set sc__law_right.nd (me_lst (ma_cons (me_lam (k := 5) (mt__law_met m rfl hg hr) rfl (tb _ hmc) rfl hT hu (hr.mono (by decide)) (lamS_by rfl) rfl (fun _ _ _ _ _ => rfl) (fun _ _ _ _ _ _ _ hr => (me_call rfl (takes_of rfl rfl rfl rfl) (kn_idle_table m tb) hr (ma_cons me_var ma_nil)))) ma_nil))) (mss_cons (ms_for rfl (passes_of rfl) rfl (mi_d rfl (me_tup (ma_cons (me_fn m.v_table_turned) (ma_cons (me_fn m.v_table_trace) (ma_cons (me_fn m.v_determinant) (ma_cons (me_fn m.v_table_undone) (ma_cons (me_fn m.v_table_rank) (ma_cons (me_fn m.v_table_echelon) (ma_cons (me_fn m.v_table_kernel) ma_nil))))))))) (mg_nm sc__law_right.nd) (mss_one (ms_expr (me_append rfl me_var (ma_cons (me_lam (k := 8) (mt__law_met m rfl hg hr) rfl (tb _ hmc) rfl hT hu (hr.mono (by decide)) (lamS_by rfl) rfl (fun _ _ _ _ _ => rfl) (fun _ _ _ _ _ _ _ hr => (me_callV rfl (takes_of rfl rfl rfl rfl) (kv_tab m tb) (hr.mono (by decide)) (ma_cons me_var ma_nil)))) ma_nil))))) (mss_cons (ms_for rfl (passes_of rfl) rfl (mi_d rfl (me_tup (ma_cons (me_fn m.v_table_sum) (ma_cons (me_fn m.v_table_product) ma_nil)))) (mg_nm sc__law_right.nd) (mss_cons (ms_expr (me_append rfl me_var (ma_cons (me_lam (k := 8) (mt__law_met m rfl hg hr) rfl (tb _ hmc) rfl hT hu (hr.mono (by decide)) (lamS_by rfl) rfl (fun _ _ _ _ _ => rfl) (fun _ _ _ _ _ _ _ hr => (me_callV rfl (takes_of rfl rfl rfl rfl) (kv_tab m tb) (hr.mono (by decide)) (ma_cons me_var (ma_cons me_var ma_nil))))) ma_nil))) (mss_one (ms_expr (me_append rfl me_var (ma_cons (me_lam (k := 8) (mt__law_met m rfl hg hr) rfl (tb _ hmc) rfl hT hu (hr.mono (by decide)) (lamS_by rfl) rfl (fun _ _ _ _ _ => rfl) (fun _ _ _ _ _ _ _ hr => (me_callV rfl (takes_of rfl rfl rfl rfl) (kv_tab m tb) (hr.mono (by decide)) (ma_cons me_var (ma_cons me_var ma_nil))))) ma_nil)))))) (mss_cons (ms_expr (me_append rfl me_var (ma_cons (me_lam (k := 8) (mt__law_met m rfl hg hr) rfl (tb _ hmc) rfl hT hu (hr.mono (by decide)) (lamS_by rfl) rfl (fun _ _ _ _ _ => rfl) (fun _ _ _ _ _ _ _ hr => (me_call rfl (takes_of rfl rfl rfl rfl) (kn_table_sum m tb) hr (ma_cons me_var (ma_cons me_var ma_nil))))) ma_nil))) (mss_cons (ms_expr (me_append rfl me_var (ma_cons (me_lam (k := 8) (mt__law_met m rfl hg hr) rfl (tb _ hmc) rfl hT hu (hr.mono (by decide)) (lamS_by rfl) rfl (fun _ _ _ _ _ => rfl) (fun _ _ _ _ _ _ _ hr => (me_call rfl (takes_of rfl rfl rfl rfl) (kn_table_product m tb) hr (ma_cons me_var (ma_cons me_var ma_nil))))) ma_nil))) (mss_cons (ms_expr (me_append rfl me_var (ma_cons (me_lam (k := 7) (mt__law_met m rfl hg hr) rfl (tb _ hmc) rfl hT hu (hr.mono (by decide)) (lamS_by rfl) rfl (fun _ _ _ _ _ => rfl) (fun _ _ _ _ _ _ _ hr => (me_call rfl (takes_of rfl rfl rfl rfl) (kn_table_scaled m tb) hr (ma_cons me_var (ma_cons me_var ma_nil))))) ma_nil))) (mss_cons (ms_expr (me_append rfl me_var (ma_cons (me_lam (k := 7) (mt__law_met m rfl hg hr) rfl (tb _ hmc) rfl hT hu (hr.mono (by decide)) (lamS_by rfl) rfl (fun _ _ _ _ _ => rfl) (fun _ _ _ _ _ _ _ hr => (me_call rfl (takes_of rfl rfl rfl rfl) (kn_table_scaled m tb) hr (ma_cons me_var (ma_cons me_var ma_nil))))) ma_nil))) (mss_cons (ms_expr (me_append rfl me_var (ma_cons (me_lam (k := 7) (mt__law_met m rfl hg hr) rfl (tb _ hmc) rfl hT hu (hr.mono (by decide)) (lamS_by rfl) rfl (fun _ _ _ _ _ => rfl) (fun _ _ _ _ _ _ _ hr => (me_call rfl (takes_of rfl rfl rfl rfl) (kn_row_times m tb) hr (ma_cons me_var (ma_cons me_var ma_nil))))) ma_nil))) (mss_cons (ms_expr (me_append rfl me_var (ma_cons (me_lam (k := 7) (mt__law_met m rfl hg hr) rfl (tb _ hmc) rfl hT hu (hr.mono (by decide)) (lamS_by rfl) rfl (fun _ _ _ _ _ => rfl) (fun _ _ _ _ _ _ _ hr => (me_call rfl (takes_of rfl rfl rfl rfl) (kn_row_times m tb) hr (ma_cons me_var (ma_cons me_var ma_nil))))) ma_nil))) (mss_cons (ms_expr (me_append rfl me_var (ma_cons (me_lam (k := 7) (mt__law_met m rfl hg hr) rfl (tb _ hmc) rfl hT hu (hr.mono (by decide)) (lamS_by rfl) rfl (fun _ _ _ _ _ => rfl) (fun _ _ _ _ _ _ _ hr => (me_call rfl (takes_of rfl rfl rfl rfl) (kn_row_times m tb) hr (ma_cons (me_tup (ma_cons me_int (ma_cons me_int (ma_cons me_int ma_nil)))) (ma_cons me_var ma_nil))))) ma_nil))) (mss_cons (ms_expr (me_append rfl me_var (ma_cons (me_lam (k := 7) (mt__law_met m rfl hg hr) rfl (tb _ hmc) rfl hT hu (hr.mono (by decide)) (lamS_by rfl) rfl (fun _ _ _ _ _ => rfl) (fun _ _ _ _ _ _ _ hr => (me_call rfl (takes_of rfl rfl rfl rfl) (kn_row_times m tb) hr (ma_cons (me_tup (ma_cons me_int (ma_cons me_int (ma_cons me_int ma_nil)))) (ma_cons me_var ma_nil))))) ma_nil))) (mss_cons (ms_expr (me_append rfl me_var (ma_cons (me_lam (k := 7) (mt__law_met m rfl hg hr) rfl (tb _ hmc) rfl hT hu (hr.mono (by decide)) (lamS_by rfl) rfl (fun _ _ _ _ _ => rfl) (fun _ _ _ _ _ _ _ hr => (me_call rfl (takes_of rfl rfl rfl rfl) (kn_table_solved m tb) hr (ma_cons me_var (ma_cons me_var ma_nil))))) ma_nil))) (mss_cons (ms_expr (me_append rfl me_var (ma_cons (me_lam (k := 7) (mt__law_met m rfl hg hr) rfl (tb _ hmc) rfl hT hu (hr.mono (by decide)) (lamS_by rfl) rfl (fun _ _ _ _ _ => rfl) (fun _ _ _ _ _ _ _ hr => (me_call rfl (takes_of rfl rfl rfl rfl) (kn_table_solved m tb) hr (ma_cons me_var (ma_cons me_var ma_nil))))) ma_nil))) (mss_cons (ms_expr (me_append rfl me_var (ma_cons (me_lam (k := 7) (mt__law_met m rfl hg hr) rfl (tb _ hmc) rfl hT hu (hr.mono (by decide)) (lamS_by rfl) rfl (fun _ _ _ _ _ => rfl) (fun _ _ _ _ _ _ _ hr => (me_call rfl (takes_of rfl rfl rfl rfl) (kn_table_solved m tb) hr (ma_cons me_var (ma_cons (me_tup (ma_cons me_int (ma_cons me_int (ma_cons me_int ma_nil)))) ma_nil))))) ma_nil))) (mss_cons (ms_set sc__law_right.nd (me_bin op_addA o2_add (me_bin op_addA o2_add (me_bin op_addA o2_add (me_lst (ma_cons (me_bin op_addA o2_add me_str (me_callB (call_reprD rfl hg (MP.Room.u200 hr)) on_repr (by rfl) m.f_repr boot_repr (ma_cons me_var ma_nil))) ma_nil)) (me_bin op_mulA o2_mul (me_lst (ma_cons me_str ma_nil)) me_int)) (me_bin op_mulA o2_mul (me_lst (ma_cons me_str ma_nil)) me_int)) (me_lst (ma_cons me_str (ma_cons (me_bin op_addA o2_add me_str (me_callB (call_reprD rfl hg (MP.Room.u200 hr)) on_repr (by rfl) m.f_repr boot_repr (ma_cons me_var ma_nil))) ma_nil))))) (mss_cons (ms_set sc__law_right.nd (me_bin op_addA o2_add (me_bin op_addA o2_add me_var (me_bin op_mulA o2_mul (me_lst (ma_cons me_str ma_nil)) me_int)) (me_lst (ma_cons me_str (ma_cons me_str (ma_cons me_str (ma_cons me_str ma_nil))))))) (mss_cons (ms_if (mt_cmp (op_neD hr.units) o2_ne me_var (me_lc (own := [("_law_word", 10)]) rfl rfl sc__law_right.nd (mi_d rfl me_var) (by first | rfl | decide +kernel) (fun _ _ _ _ _ => (mg_nm sc__law_right.nd)) (fun _ _ _ _ _ => mts_nil) (fun _ _ _ _ _ => (me_tup (ma_cons me_str (ma_cons me_var ma_nil))))) (nobehind _ (by decide) (by decide))) (mss_one (ms_ret me_bl)) mss_nil) (mss_cons (ms_set sc__law_right.nd (me_lst ma_nil)) (mss_cons (ms_for rfl (passes_of rfl) rfl (mi_d rfl (me_tup (ma_cons (me_fn m.v_table_trace) (ma_cons (me_fn m.v_determinant) (ma_cons (me_fn m.v_table_undone) ma_nil))))) (mg_nm sc__law_right.nd) (mss_cons (ms_expr (me_append rfl me_var (ma_cons (me_lam (k := 8) (mt__law_met m rfl hg hr) rfl (tb _ hmc) rfl hT hu (hr.mono (by decide)) (lamS_by rfl) rfl (fun _ _ _ _ _ => rfl) (fun _ _ _ _ _ _ _ hr => (me_callV rfl (takes_of rfl rfl rfl rfl) (kv_tab m tb) (hr.mono (by decide)) (ma_cons me_var ma_nil)))) ma_nil))) (mss_one (ms_expr (me_append rfl me_var (ma_cons (me_lam (k := 8) (mt__law_met m rfl hg hr) rfl (tb _ hmc) rfl hT hu (hr.mono (by decide)) (lamS_by rfl) rfl (fun _ _ _ _ _ => rfl) (fun _ _ _ _ _ _ _ hr => (me_callV rfl (takes_of rfl rfl rfl rfl) (kv_tab m tb) (hr.mono (by decide)) (ma_cons me_var ma_nil)))) ma_nil)))))) (mss_one (ms_ret (me_cmp (op_eqD hr.units) o2_eq me_var (me_bin op_mulA o2_mul (me_lst (ma_cons (me_tup (ma_cons me_str (ma_cons me_str ma_nil))) ma_nil)) me_int) (nobehind _ (by decide) (by decide))))))))))))))))))))))))))))))
def b_law : Fst := (sSeq (sFor (iR1 (aCons (dN nMax2 (aCons (dC (.int 1)) (aCons (dN nMin2 (aCons (dC (.int 4)) (aCons (dN nLen (aCons (dVar 0) aNil)) aNil))) aNil))) aNil)) (.nm 1) (sIf (fNot (fTru (dCall F__law_right 1 (aCons (dCall F__law_dice 2 (aCons (dVar 0) (aCons (dVar 1) aNil))) aNil)))) (sRet (dC (.bl false))) sNil)) (sSeq (sSet 2 (mkLst (aCons (dLam met__law_met (dCall F_table_undone 1 (aCons (mkTup (aCons (mkTup (aCons (dC (.int 0)) aNil)) aNil)) aNil))) aNil))) (sSeq (sExpr (dML mAppend (dVar 2) (aCons (dLam met__law_met (dCall F_idle_table 1 (aCons (dC (.int 40)) aNil))) aNil))) (sSeq (sExpr (dML mAppend (dVar 2) (aCons (dLam met__law_met (dCall F_table_scaled 2 (aCons (mkTup (aCons (mkTup (aCons (dC (.int 1)) aNil)) aNil)) (aCons (mkTup (aCons (d2 dMul (d2 dPow (dC (.int 10)) (dC (.int 40))) (d2 dPow (dC (.int 10)) (dC (.int 40)))) (aCons (dC (.int 7)) aNil))) aNil)))) aNil))) (sSeq (sExpr (dML mAppend (dVar 2) (aCons (dLam met__law_met (dCall F_table_product 2 (aCons (d2 dMul (mkTup (aCons (mkTup (aCons (dC (.int 1)) aNil)) aNil)) (dC (.int 40))) (aCons (mkTup (aCons (d2 dMul (mkTup (aCons (dC (.int 1)) aNil)) (dC (.int 40))) aNil)) aNil)))) aNil))) (sSeq (sExpr (dML mAppend (dVar 2) (aCons (dLam met__law_met (dCall F_table_sum 2 (aCons (mkTup (aCons (mkTup (aCons (mkTup (aCons (d2 dMul (d2 dPow (dC (.int 10)) (dC (.int 40))) (d2 dPow (dC (.int 10)) (dC (.int 40)))) (aCons (dC (.int 1)) aNil))) aNil)) aNil)) (aCons (mkTup (aCons (mkTup (aCons (dC (.int 1)) aNil)) aNil)) aNil)))) aNil))) (sSeq (sExpr (dML mAppend (dVar 2) (aCons (dLam met__law_met (dCall F_table_sum 2 (aCons (mkTup (aCons (mkTup (aCons (d2 dMul (d2 dPow (dC (.int 10)) (dC (.int 40))) (d2 dPow (dC (.int 10)) (dC (.int 40)))) aNil)) aNil)) (aCons (mkTup (aCons (mkTup (aCons (dC (.int 1)) aNil)) aNil)) aNil)))) aNil))) (sRet (d2 dEq (dVar 2) (mkLst (aCons (mkTup (aCons (dC (.str "refused")) (aCons (mkTup (aCons (dC (.str "determinant")) aNil)) aNil))) (aCons (dC (.str "fine")) (aCons (dC (.str "fine")) (aCons (dC (.str "fine")) (aCons (dC (.str "fine")) (aCons (mkTup (aCons (dC (.str "refused")) (aCons (dC (.str "table")) aNil))) aNil))))))))))))))))
def F_law : FN := runF 3 b_law
theorem sc_law : FnScope ["_law_script", "_law_spot", "_law_told"] ["_law_script"] (defScope st_law) := ⟨rfl, rfl, rfl, by decide +kernel, rfl, by decide +kernel, by decide +kernel⟩
theorem fo_law {P : Program} {w : World} {mg : Str → Option Value} {base : Heap} {M : Md} (m : Mo P mg M) (tb : ∀ p ∈ M.cs, TabB base mg p.1 p.2) {f : Addr} {fd : FuncData} {c Pt : Addr} (F : FunD M.K "law" "law" (defArgs st_law) (defBody st_law) (defScope st_law) [] [] f fd) (hc : fd.code = .ref c) (hmc : (c, Pt) ∈ M.cs) (hT : (Pt, lamQ "law") ∈ M.T) (hu : ∀ p ∈ M.T, p.1 = Pt → p.2 = lamQ "law") : FnG P w M.K mg base 12 f fd ["_law_script"] (spF M 1 F_law) :=
  fg_of (k := 11) F hc sc_law fun A outer s H E hg hr => (mss_cons (ms_for rfl (passes_of rfl) rfl (mi_range1 m.f_range (ma_cons (me_callB (call_max2 rfl) on_max2 (by rfl) m.f_max boot_max (ma_cons me_int (ma_cons (me_callB (call_min2 rfl) on_min2 (by rfl) m.f_min boot_min (ma_cons me_int (ma_cons (me_callB call_len on_len (by rfl) m.f_len boot_len (ma_cons me_var ma_nil)) ma_nil))) ma_nil))) ma_nil)) (mg_nm sc_law.nd) (mss_one (ms_if (mt_not (mt_tru rfl (me_callG rfl (takes_of rfl rfl rfl rfl) (kg__law_right m tb) hg hr (ma_cons (me_call rfl (takes_of rfl rfl rfl rfl) (kn__law_dice m tb) hr (ma_cons me_var (ma_cons me_var ma_nil))) ma_nil)))) (mss_one (ms_ret me_bl)) mss_nil))) (mss_cons (ms_set sc_law.nd (me_lst (ma_cons (me_lam (k := 7) (mt__law_met m rfl hg hr) rfl (tb _ hmc) rfl hT hu (hr.mono (by decide)) (lamS_by rfl) rfl (fun _ _ _ _ _ => rfl) (fun _ _ _ _ _ _ _ hr => (me_call rfl (takes_of rfl rfl rfl rfl) (kn_table_undone m tb) hr (ma_cons (me_tup (ma_cons (me_tup (ma_cons me_int ma_nil)) ma_nil)) ma_nil)))) ma_nil))) (mss_cons (ms_expr (me_append rfl me_var (ma_cons (me_lam (k := 5) (mt__law_met m rfl hg hr) rfl (tb _ hmc) rfl hT hu (hr.mono (by decide)) (lamS_by rfl) rfl (fun _ _ _ _ _ => rfl) (fun _ _ _ _ _ _ _ hr => (me_call rfl (takes_of rfl rfl rfl rfl) (kn_idle_table m tb) hr (ma_cons me_int ma_nil)))) ma_nil))) (mss_cons (ms_expr (me_append rfl me_var (ma_cons (me_lam (k := 7) (mt__law_met m rfl hg hr) rfl (tb _ hmc) rfl hT hu (hr.mono (by decide)) (lamS_by rfl) rfl (fun _ _ _ _ _ => rfl) (fun _ _ _ _ _ _ _ hr => (me_call rfl (takes_of rfl rfl rfl rfl) (kn_table_scaled m tb) hr (ma_cons (me_tup (ma_cons (me_tup (ma_cons me_int ma_nil)) ma_nil)) (ma_cons (me_tup (ma_cons (me_bin op_mulA o2_mul (me_bin op_pow o2_pow me_int me_int) (me_bin op_pow o2_pow me_int me_int)) (ma_cons me_int ma_nil))) ma_nil))))) ma_nil))) (mss_cons (ms_expr (me_append rfl me_var (ma_cons (me_lam (k := 8) (mt__law_met m rfl hg hr) rfl (tb _ hmc) rfl hT hu (hr.mono (by decide)) (lamS_by rfl) rfl (fun _ _ _ _ _ => rfl) (fun _ _ _ _ _ _ _ hr => (me_call rfl (takes_of rfl rfl rfl rfl) (kn_table_product m tb) hr (ma_cons (me_bin op_mulA o2_mul (me_tup (ma_cons (me_tup (ma_cons me_int ma_nil)) ma_nil)) me_int) (ma_cons (me_tup (ma_cons (me_bin op_mulA o2_mul (me_tup (ma_cons me_int ma_nil)) me_int) ma_nil)) ma_nil))))) ma_nil))) (mss_cons (ms_expr (me_append rfl me_var (ma_cons (me_lam (k := 8) (mt__law_met m rfl hg hr) rfl (tb _ hmc) rfl hT hu (hr.mono (by decide)) (lamS_by rfl) rfl (fun _ _ _ _ _ => rfl) (fun _ _ _ _ _ _ _ hr => (me_call rfl (takes_of rfl rfl rfl rfl) (kn_table_sum m tb) hr (ma_cons (me_tup (ma_cons (me_tup (ma_cons (me_tup (ma_cons (me_bin op_mulA o2_mul (me_bin op_pow o2_pow me_int me_int) (me_bin op_pow o2_pow me_int me_int)) (ma_cons me_int ma_nil))) ma_nil)) ma_nil)) (ma_cons (me_tup (ma_cons (me_tup (ma_cons me_int ma_nil)) ma_nil)) ma_nil))))) ma_nil))) (mss_cons (ms_expr (me_append rfl me_var (ma_cons (me_lam (k := 8) (mt__law_met m rfl hg hr) rfl (tb _ hmc) rfl hT hu (hr.mono (by decide)) (lamS_by rfl) rfl (fun _ _ _ _ _ => rfl) (fun _ _ _ _ _ _ _ hr => (me_call rfl (takes_of rfl rfl rfl rfl) (kn_table_sum m tb) hr (ma_cons (me_tup (ma_cons (me_tup (ma_cons (me_bin op_mulA o2_mul (me_bin op_pow o2_pow me_int me_int) (me_bin op_pow o2_pow me_int me_int)) ma_nil)) ma_nil)) (ma_cons (me_tup (ma_cons (me_tup (ma_cons me_int ma_nil)) ma_nil)) ma_nil))))) ma_nil))) (mss_one (ms_ret (me_cmp (op_eqD hr.units) o2_eq me_var (me_lst (ma_cons (me_tup (ma_cons me_str (ma_cons (me_tup (ma_cons me_str ma_nil)) ma_nil))) (ma_cons me_str (ma_cons me_str (ma_cons me_str (ma_cons me_str (ma_cons (me_tup (ma_cons me_str (ma_cons me_str ma_nil))) ma_nil))))))) (nobehind _ (by decide) (by decide))))))))))))
end K07
set_option Elab.async false
set_option linter.all false
set_option maxRecDepth 100000
set_option maxHeartbeats 4000000
/-! Reasoning about the plain functions. -/
namespace MP
open PySem

def Wp {α : Type} (r : Rs α) (Q : α → Sto → Prop) : Prop := match r with
  | .ok a S => Q a S
  | _ => False
section
variable {α β : Type} {r : Rs α} {Q Q' : α → Sto → Prop} {R : β → Sto → Prop}
@[simp] theorem wp_ok {a : α} {S : Sto} : Wp (.ok a S) Q = Q a S := rfl
@[simp] theorem wp_stuck : Wp (α := α) .stuck Q = False := rfl
@[simp] theorem wp_exc {x : Xn} {S : Sto} : Wp (α := α) (.exc x S) Q = False := rfl
@[simp] theorem wp_bind {k : α → Sto → Rs β} : Wp (r.bind k) R = Wp r (fun a S => Wp (k a S) R) := by cases r <;> rfl
theorem Wp.mono (h : Wp r Q) (i : ∀ a S, Q a S → Q' a S) : Wp r Q' := by
  cases r with
  | ok a S => exact i a S h
  | _ => exact h.elim
theorem Wp.out (h : Wp r Q) : ∃ a S, r = .ok a S ∧ Q a S := by
  cases r with
  | ok a S => exact ⟨a, S, rfl, h⟩
  | _ => exact h.elim
theorem wp_of {a : α} {S : Sto} (e : r = .ok a S) (h : Q a S) : Wp r Q := by rw [e]; exact h
end
def WpS (r : RsS) (Q : Fl → Sto → Prop) : Prop := match r with
  | .fl f S => Q f S
  | _ => False
def sq (h : Fst) (Q : Fl → Sto → Prop) : Fl → Sto → Prop := fun fl S => match fl with
  | .nx ρ => WpS (h ρ S) Q
  | x => Q x S
def rn (Q : D → Sto → Prop) : Fl → Sto → Prop := fun fl S => match fl with
  | .nx _ => Q .non S
  | .ret d => Q d S
  | _ => False
section
variable {Q Q' : Fl → Sto → Prop} {h f : Fst} {ρ : Rho} {S : Sto} {d : D}
@[simp] theorem wps_fl {x : Fl} : WpS (.fl x S) Q = Q x S := rfl
@[simp] theorem wps_stuck : WpS .stuck Q = False := rfl
@[simp] theorem wps_exc {x : Xn} : WpS (.exc x ρ S) Q = False := rfl
@[simp] theorem sq_nx : sq h Q (.nx ρ) S = WpS (h ρ S) Q := rfl
@[simp] theorem sq_ret : sq h Q (.ret d) S = Q (.ret d) S := rfl
@[simp] theorem sq_brk : sq h Q (.brk ρ) S = Q (.brk ρ) S := rfl
@[simp] theorem sq_ct : sq h Q (.ct ρ) S = Q (.ct ρ) S := rfl
@[simp] theorem rn_nx {P : D → Sto → Prop} : rn P (.nx ρ) S = P .non S := rfl
@[simp] theorem rn_ret {P : D → Sto → Prop} : rn P (.ret d) S = P d S := rfl
@[simp] theorem wps_then {α : Type} {r : Rs α} {k : α → Sto → RsS} : WpS (thenS r ρ k) Q = Wp r (fun a S => WpS (k a S) Q) := by cases r <;> rfl
@[simp] theorem wps_seq : WpS (sSeq f h ρ S) Q = WpS (f ρ S) (sq h Q) := by
  unfold sSeq
  cases e : f ρ S with
  | fl x T => cases x <;> rfl
  | _ => rfl
@[simp] theorem wp_run {N : Nat} {b : Fst} {ds : List D} {P : D → Sto → Prop} : Wp (runF N b ds S) P = WpS (b (entry N ds) S) (rn P) := by
  unfold runF
  cases e : b (entry N ds) S with
  | fl x T => cases x <;> rfl
  | _ => rfl
theorem WpS.mono {r : RsS} (h : WpS r Q) (i : ∀ a S, Q a S → Q' a S) : WpS r Q' := by
  cases r with
  | fl a S => exact i a S h
  | _ => exact h.elim
@[simp] theorem wps_nil : WpS (sNil ρ S) Q = Q (.nx ρ) S := rfl
@[simp] theorem wps_brk : WpS (sBrk ρ S) Q = Q (.brk ρ) S := rfl
@[simp] theorem wps_ct : WpS (sCt ρ S) Q = Q (.ct ρ) S := rfl
@[simp] theorem wps_retN : WpS (sRetN ρ S) Q = Q (.ret .non) S := rfl
@[simp] theorem wps_ret {e : Fe} : WpS (sRet e ρ S) Q = Wp (e ρ S) (fun d S1 => Q (.ret d) S1) := by unfold sRet; rw [wps_then]; rfl
@[simp] theorem wps_expr {e : Fe} : WpS (sExpr e ρ S) Q = Wp (e ρ S) (fun d S1 => Q (.nx ρ) S1) := by unfold sExpr; rw [wps_then]; rfl
@[simp] theorem wps_set {i : Nat} {e : Fe} : WpS (sSet i e ρ S) Q = Wp (e ρ S) (fun d S1 => Q (.nx (ρ.set i (some d))) S1) := by unfold sSet; rw [wps_then]; rfl
@[simp] theorem wps_asg {t : Tg} {e : Fe} : WpS (sAsg t e ρ S) Q = Wp (e ρ S) (fun d S1 => match setT t d ρ with
  | some ρ1 => Q (.nx ρ1) S1
  | none => False) := by
  unfold sAsg
  rw [wps_then]
  congr 1
  funext d S1
  cases setT t d ρ <;> rfl
@[simp] theorem wps_par {i j : Nat} {e : Fs} : WpS (sPar i j e ρ S) Q = Wp (e ρ S) (fun ds S1 => match ds with
  | [a, b] => Q (.nx ((ρ.set i (some a)).set j (some b))) S1
  | _ => False) := by
  unfold sPar
  rw [wps_then]
  congr 1
  funext d S1
  exact match d with
    | [] => rfl
    | [_] => rfl
    | [_, _] => rfl
    | _ :: _ :: _ :: _ => rfl
@[simp] theorem wps_par3 {i j l : Nat} {e : Fs} : WpS (sPar3 i j l e ρ S) Q = Wp (e ρ S) (fun ds S1 => match ds with
  | [a, b, c] => Q (.nx (((ρ.set i (some a)).set j (some b)).set l (some c))) S1
  | _ => False) := by
  unfold sPar3
  rw [wps_then]
  congr 1
  funext d S1
  exact match d with
    | [] => rfl
    | [_] => rfl
    | [_, _] => rfl
    | [_, _, _] => rfl
    | _ :: _ :: _ :: _ :: _ => rfl
@[simp] theorem wps_iteR {c : Prop} [Decidable c] {a b : RsS} : WpS (if c then a else b) Q = if c then WpS a Q else WpS b Q := by split <;> rfl
@[simp] theorem wps_if {c : Ft} : WpS (sIf c f h ρ S) Q = Wp (c ρ S) (fun k S1 => if k = true then WpS (f ρ S1) Q else WpS (h ρ S1) Q) := by
  unfold sIf
  rw [wps_then]
  congr 1
  funext k S1
  rw [wps_iteR]
@[simp] theorem wps_aug {i : Nat} {op : F2} {e : Fe} : WpS (sAug i op e ρ S) Q = match ρ[i]? with
  | some (some x) => Wp (e ρ S) (fun y S1 => Wp (op x y S1) fun d S2 => Q (.nx (ρ.set i (some d))) S2)
  | _ => False := by
  unfold sAug
  cases ρ[i]? with
  | none => rfl
  | some x =>
    cases x with
    | none => rfl
    | some x =>
      show WpS (thenS _ ρ _) Q = _
      rw [wps_then, wp_bind]
      rfl
@[simp] theorem wps_put {e o i : Fe} : WpS (sPut e o i ρ S) Q = Wp (e ρ S) (fun d S1 => Wp (o ρ S1) fun x S2 => Wp (i ρ S2) fun y S3 => Wp (putD x y d S3) fun _ S4 => Q (.nx ρ) S4) := by
  unfold sPut
  simp only [wps_then]
  rfl
end

/-! ### expressions -/
section
variable {Q : D → Sto → Prop} {ρ : Rho} {S : Sto}
@[simp] theorem wp_ite {α : Type} {c : Prop} [Decidable c] {a b : Rs α} {P : α → Sto → Prop} : Wp (if c then a else b) P = if c then Wp a P else Wp b P := by split <;> rfl
@[simp] theorem wp_var {i : Nat} : Wp (dVar i ρ S) Q = match ρ[i]? with
  | some (some d) => Q d S
  | _ => False := by
  unfold dVar
  cases ρ[i]? with
  | none => rfl
  | some x => cases x <;> rfl
@[simp] theorem wp_c {d : D} : Wp (dC d ρ S) Q = Q d S := rfl
@[simp] theorem wp_d2 {op : F2} {a b : Fe} : Wp (d2 op a b ρ S) Q = Wp (a ρ S) (fun x S1 => Wp (b ρ S1) fun y S2 => Wp (op x y S2) Q) := by unfold d2; simp only [wp_bind]
@[simp] theorem wp_if {c : Ft} {a b : Fe} : Wp (dIf c a b ρ S) Q = Wp (c ρ S) (fun k S1 => if k = true then Wp (a ρ S1) Q else Wp (b ρ S1) Q) := by
  unfold dIf; rw [wp_bind]
  congr 1
  funext k S1
  rw [wp_ite]
@[simp] theorem wp_neg {a : Fe} : Wp (dNeg a ρ S) Q = Wp (a ρ S) (fun d S1 => match d with
  | .int i => Q (.int (-i)) S1
  | _ => False) := by
  unfold dNeg; rw [wp_bind]
  congr 1
  funext d S1
  cases d <;> rfl
@[simp] theorem wp_isn {n : Bool} {a : Fe} : Wp (dIsN n a ρ S) Q = Wp (a ρ S) (fun d S1 => Q (.bl (if n then !isNonD d else isNonD d)) S1) := by unfold dIsN; rw [wp_bind]; rfl
@[simp] theorem wp_and {a b : Fe} : Wp (dAnd a b ρ S) Q = Wp (a ρ S) (fun d S1 => match d with
  | .bl true => Wp (b ρ S1) Q
  | .bl false => Q (.bl false) S1
  | _ => False) := by
  unfold dAnd; rw [wp_bind]
  congr 1
  funext d S1
  cases d with
  | bl k => cases k <;> rfl
  | _ => rfl
@[simp] theorem wp_or {a b : Fe} : Wp (dOr a b ρ S) Q = Wp (a ρ S) (fun d S1 => match d with
  | .bl true => Q (.bl true) S1
  | .bl false => Wp (b ρ S1) Q
  | _ => False) := by
  unfold dOr; rw [wp_bind]
  congr 1
  funext d S1
  cases d with
  | bl k => cases k <;> rfl
  | _ => rfl
@[simp] theorem wp_not {a : Fe} : Wp (dNot a ρ S) Q = Wp (a ρ S) (fun d S1 => match d with
  | .bl k => Q (.bl (!k)) S1
  | _ => False) := by
  unfold dNot; rw [wp_bind]
  congr 1
  funext d S1
  cases d <;> rfl
@[simp] theorem wp_chain {op op' : F2} {a b c : Fe} : Wp (dChain op op' a b c ρ S) Q = Wp (a ρ S) (fun x S1 => Wp (b ρ S1) fun y S2 => Wp (op x y S2) fun z S3 => match z with
  | .bl true => Wp (c ρ S3) (fun w S4 => Wp (op' y w S4) Q)
  | .bl false => Q (.bl false) S3
  | _ => False) := by
  unfold dChain; simp only [wp_bind]
  congr 1; funext x S1; congr 1; funext y S2; congr 1; funext z S3
  cases z with
  | bl k => cases k <;> simp
  | _ => rfl
@[simp] theorem wp_tup {f : Fs} : Wp (mkTup f ρ S) Q = Wp (f ρ S) (fun ds S1 => if ds.length ≤ sizeLine then Q (.tup ds) S1 else False) := by
  unfold mkTup; rw [wp_bind]
  congr 1; funext ds S1
  rw [wp_ite]; rfl
@[simp] theorem wp_lst {f : Fs} : Wp (mkLst f ρ S) Q = Wp (f ρ S) (fun ds S1 => if ds.length ≤ sizeLine then Q (.ref S1.length) (S1 ++ [.lst ds]) else False) := by
  unfold mkLst; rw [wp_bind]
  congr 1; funext ds S1
  rw [wp_ite]; rfl
@[simp] theorem wp_dN {f : FN} {a : Fs} : Wp (dN f a ρ S) Q = Wp (a ρ S) (fun ds S1 => Wp (f ds S1) Q) := by unfold dN; rw [wp_bind]
@[simp] theorem wp_call {f : FN} {n : Nat} {a : Fs} : Wp (dCall f n a ρ S) Q = Wp (a ρ S) (fun ds S1 => if ds.length = n then Wp (f ds S1) Q else False) := by
  unfold dCall; rw [wp_bind]
  congr 1; funext ds S1
  rw [wp_ite]; rfl
@[simp] theorem wp_isi {b : Ty} {f : Fe} : Wp (dIsi b f ρ S) Q = Wp (f ρ S) (fun d S1 => match tyD d S1 with
  | some a => Q (.bl (Ty.sub a b)) S1
  | Option.none => False) := by
  unfold dIsi; rw [wp_bind]
  congr 1; funext d S1
  cases tyD d S1 <;> rfl
@[simp] theorem wp_sl {a : Fe} {lo hi : Fo} : Wp (dSlice a lo hi ρ S) Q = Wp (a ρ S) (fun d S1 => Wp (lo ρ S1) fun l S2 => Wp (hi ρ S2) fun h S3 => Wp (sliceD d l h S3) Q) := by unfold dSlice; simp only [wp_bind]
@[simp] theorem wp_oN {P : Option Int → Sto → Prop} : Wp (oNone ρ S) P = P none S := rfl
@[simp] theorem wp_oS {a : Fe} {P : Option Int → Sto → Prop} : Wp (oSome a ρ S) P = Wp (a ρ S) (fun d S1 => match d with
  | .int i => P (some i) S1
  | _ => False) := by
  unfold oSome; rw [wp_bind]
  congr 1; funext d S1
  cases d <;> rfl
@[simp] theorem wp_rev {f : Fe} : Wp (dRev f ρ S) Q = Wp (f ρ S) (fun d S1 => Wp (revD d S1) Q) := by unfold dRev; rw [wp_bind]
@[simp] theorem wp_empty : Wp (dEmpty ρ S) Q = Q (.ref S.length) (S ++ [.dk []]) := rfl
@[simp] theorem wp_ml {f : FM} {o : Fe} {a : Fs} : Wp (dML f o a ρ S) Q = Wp (o ρ S) (fun d S1 => if isLstD d S1 = true then Wp (a ρ S1) (fun ds S2 => Wp (f d ds S2) Q) else False) := by
  unfold dML; rw [wp_bind]
  congr 1; funext d S1
  rw [wp_ite]; simp
@[simp] theorem wp_ml0 {f : FM} {o : Fe} : Wp (dML0 f o ρ S) Q = Wp (o ρ S) (fun d S1 => if isLstD d S1 = true then Wp (f d [] S1) Q else False) := by
  unfold dML0; rw [wp_bind]
  congr 1; funext d S1
  rw [wp_ite]; rfl
end
section
variable {P : List D → Sto → Prop} {ρ : Rho} {S : Sto}
@[simp] theorem wp_nil : Wp (aNil ρ S) P = P [] S := rfl
@[simp] theorem wp_cons {a : Fe} {r : Fs} : Wp (aCons a r ρ S) P = Wp (a ρ S) (fun d S1 => Wp (r ρ S1) fun ds S2 => P (d :: ds) S2) := by unfold aCons; simp only [wp_bind, wp_ok]
@[simp] theorem wp_star {a : Fe} {r : Fs} : Wp (aStar a r ρ S) P = Wp (a ρ S) (fun d S1 => match itemsD d S1 with
  | some es => Wp (r ρ S1) (fun ds S2 => P (es ++ ds) S2)
  | none => False) := by
  unfold aStar; rw [wp_bind]
  congr 1; funext d S1
  cases itemsD d S1 with
  | none => rfl
  | some es =>
    show Wp ((r ρ S1).bind _) P = _
    rw [wp_bind]
    rfl
end
section
variable {P : Bool → Sto → Prop} {ρ : Rho} {S : Sto}
@[simp] theorem wp_fB {f : Fe} : Wp (fB f ρ S) P = Wp (f ρ S) (fun d S1 => match d with
  | .bl k => P k S1
  | _ => False) := by
  unfold fB; rw [wp_bind]
  congr 1; funext d S1
  cases d <;> rfl
@[simp] theorem wp_fT {f : Fe} : Wp (fTru f ρ S) P = Wp (f ρ S) (fun d S1 => Wp (truD d S1) P) := by unfold fTru; rw [wp_bind]
@[simp] theorem wp_fAnd {a b : Ft} : Wp (fAnd a b ρ S) P = Wp (a ρ S) (fun k S1 => if k = true then Wp (b ρ S1) P else P false S1) := by
  unfold fAnd; rw [wp_bind]
  congr 1; funext d S1
  rw [wp_ite]; rfl
@[simp] theorem wp_fOr {a b : Ft} : Wp (fOr a b ρ S) P = Wp (a ρ S) (fun k S1 => if k = true then P true S1 else Wp (b ρ S1) P) := by
  unfold fOr; rw [wp_bind]
  congr 1; funext d S1
  rw [wp_ite]; rfl
@[simp] theorem wp_fNot {a : Ft} : Wp (fNot a ρ S) P = Wp (a ρ S) (fun k S1 => P (!k) S1) := by unfold fNot; rw [wp_bind]; rfl
@[simp] theorem wp_yes : Wp (fYes ρ S) P = P true S := rfl
end

/-! ### operators on plain values -/
section
variable {S : Sto} {i j : Int}
@[simp] theorem dAdd_int : dAdd (.int i) (.int j) S = .ok (.int (i + j)) S := rfl
@[simp] theorem dAdd_tup {a b : List D} : dAdd (.tup a) (.tup b) S = if a.length + b.length ≤ sizeLine then .ok (.tup (a ++ b)) S else .stuck := rfl
@[simp] theorem dSub_int : dSub (.int i) (.int j) S = .ok (.int (i - j)) S := rfl
@[simp] theorem dMul_int : dMul (.int i) (.int j) S = if szMul i j = true then .ok (.int (i * j)) S else .stuck := rfl
@[simp] theorem dIMul_int : dIMul (.int i) (.int j) S = if szMul i j = true then .ok (.int (i * j)) S else .stuck := rfl
@[simp] theorem dIAdd_int : dIAdd (.int i) (.int j) S = .ok (.int (i + j)) S := rfl
@[simp] theorem dFdiv_int : dFdiv (.int i) (.int j) S = if szDiv j = true then .ok (.int (i.fdiv j)) S else .stuck := rfl
@[simp] theorem dMod_int : dMod (.int i) (.int j) S = if j = 0 then .stuck else .ok (.int (i.fmod j)) S := rfl
@[simp] theorem dPow_int : dPow (.int i) (.int j) S = if 0 ≤ j ∧ j ≤ 1000000 ∧ i.natAbs < 2 ^ 64 then .ok (.int (i ^ j.toNat)) S else .stuck := rfl
@[simp] theorem dIB_int {p : Int → Int → Bool} : dIB p (.int i) (.int j) S = .ok (.bl (p i j)) S := rfl
@[simp] theorem truD_bl {b : Bool} : truD (.bl b) S = .ok b S := rfl
@[simp] theorem truD_int : truD (.int i) S = .ok (i != 0) S := rfl
@[simp] theorem isNon_int : isNonD (.int i) = false := rfl
@[simp] theorem isNon_tup {a : List D} : isNonD (.tup a) = false := rfl
@[simp] theorem isNon_non : isNonD .non = true := rfl
@[simp] theorem nLen_tup {a : List D} : nLen [.tup a] S = .ok (.int (a.length : Nat)) S := rfl
@[simp] theorem nLen_fl {a : List D} : nLen [.fl a] S = .ok (.int (a.length : Nat)) S := rfl
theorem nLen_ref {n : Nat} {a : List D} (h : S[n]? = some (.lst a)) : nLen [.ref n] S = .ok (.int (a.length : Nat)) S := by
  unfold nLen itemsD; simp [h]
@[simp] theorem nAbs_int : nAbs [.int i] S = .ok (.int (if i < 0 then -i else i)) S := rfl
@[simp] theorem nMax_int : nMax2 [.int i, .int j] S = .ok (.int (if j > i then j else i)) S := rfl
@[simp] theorem nMin_int : nMin2 [.int i, .int j] S = .ok (.int (if j < i then j else i)) S := rfl
@[simp] theorem nInt_int : nInt [.int i] S = .ok (.int i) S := rfl
@[simp] theorem nInt_bl {k : Bool} : nInt [.bl k] S = .ok (.int (if k then 1 else 0)) S := rfl
@[simp] theorem nGcd_int : nGcd [.int i, .int j] S = .ok (.int ((Nat.gcd i.natAbs j.natAbs : Nat) : Int)) S := rfl
@[simp] theorem nTuple_tup {a : List D} : nTuple [.tup a] S = .ok (.tup a) S := rfl
theorem nTuple_ref {n : Nat} {a : List D} (h : S[n]? = some (.lst a)) : nTuple [.ref n] S = .ok (.tup a) S := by
  unfold nTuple lstD; simp [h]
@[simp] theorem nList_tup {a : List D} : nList [.tup a] S = .ok (.ref S.length) (S ++ [.lst a]) := rfl
theorem nList_ref {n : Nat} {a : List D} (h : S[n]? = some (.lst a)) : nList [.ref n] S = .ok (.ref S.length) (S ++ [.lst a]) := by
  unfold nList itemsD; simp [h]
@[simp] theorem items_tup {a : List D} : itemsD (.tup a) S = some a := rfl
theorem items_ref {n : Nat} {a : List D} (h : S[n]? = some (.lst a)) : itemsD (.ref n) S = some a := by
  unfold itemsD; simp [h]
@[simp] theorem dAt_tup {a : List D} : dAt (.tup a) (.int i) S = match L2.atI a i with
  | some d => .ok d S
  | none => .stuck := rfl
@[simp] theorem dAt_fl {a : List D} : dAt (.fl a) (.int i) S = match L2.atI a i with
  | some d => .ok d S
  | none => .stuck := rfl
theorem dAt_ref {n : Nat} {a : List D} (h : S[n]? = some (.lst a)) : dAt (.ref n) (.int i) S = match L2.atI a i with
  | some d => .ok d S
  | none => .stuck := by
  unfold dAt
  simp only [h]
  try rfl
@[simp] theorem ty_int : tyD (.int i) S = some .int := rfl
@[simp] theorem ty_tup {a : List D} : tyD (.tup a) S = some .tuple := rfl
@[simp] theorem ty_bl {b : Bool} : tyD (.bl b) S = some .bool := rfl
@[simp] theorem ty_str {b : Str} : tyD (.str b) S = some .str := rfl
@[simp] theorem ty_non : tyD .non S = some .none := rfl
@[simp] theorem ty_fl {a : List D} : tyD (.fl a) S = some .list := rfl
theorem ty_ref {n : Nat} {a : List D} (h : S[n]? = some (.lst a)) : tyD (.ref n) S = some .list := by unfold tyD; simp [h]
theorem ty_dk {n : Nat} {a : List (L2.Key × D)} (h : S[n]? = some (.dk a)) : tyD (.ref n) S = some .dict := by unfold tyD; simp [h]
theorem isLst_ref {n : Nat} {a : List D} (h : S[n]? = some (.lst a)) : isLstD (.ref n) S = true := by unfold isLstD lstD; simp [h]
end
/-! ### items of literal lists -/
theorem atI_nat {α : Type} {xs : List α} {k : Nat} : L2.atI xs (k : Int) = xs[k]? := by
  unfold L2.atI L2.ixN
  by_cases h : k < xs.length
  · simp [h]
  · simp [h]
theorem atI_last {α : Type} {xs : List α} {k : Nat} (h : k < xs.length) : L2.atI xs (-((k : Int) + 1)) = xs[xs.length - 1 - k]? := by
  unfold L2.atI L2.ixN
  have h1 : ¬ (0 ≤ -((k : Int) + 1)) := by omega
  have h2 : -(xs.length : Int) ≤ -((k : Int) + 1) := by omega
  rw [if_neg h1, if_pos h2]
  have e : (-((k : Int) + 1) + (xs.length : Int)).toNat = xs.length - 1 - k := by omega
  simp [e]

/-! ### stores that only grow -/
structure Ex (S T : Sto) : Prop where
  len : S.length ≤ T.length
  at_ : ∀ n, n < S.length → T[n]? = S[n]?
theorem Ex.refl {S : Sto} : Ex S S := ⟨Nat.le_refl _, fun _ _ => rfl⟩
theorem Ex.trans {S T U : Sto} (a : Ex S T) (b : Ex T U) : Ex S U := ⟨Nat.le_trans a.len b.len, fun n h => (b.at_ n (Nat.lt_of_lt_of_le h a.len)).trans (a.at_ n h)⟩
theorem Ex.app {S T : Sto} (R : Sto) (a : Ex S T) : Ex S (T ++ R) := ⟨by rw [List.length_append]; have := a.len; omega, fun n h => by rw [List.getElem?_append_left (Nat.lt_of_lt_of_le h a.len)]; exact a.at_ n h⟩
theorem Ex.set {S T : Sto} {n : Nat} {o : SO} (a : Ex S T) (h : S.length ≤ n) : Ex S (T.set n o) := ⟨by rw [List.length_set]; exact a.len, fun m hm => by rw [List.getElem?_set_ne (by omega)]; exact a.at_ m hm⟩
theorem Ex.get {S T : Sto} (a : Ex S T) {n : Nat} {o : SO} (h : S[n]? = some o) : T[n]? = some o := by
  rw [a.at_ n (List.getElem?_eq_some_iff.mp h).1]; exact h

/-! ### comprehensions -/
/-- every item's element is there, by f, the store only growing -/
theorem lc_map {α : Type} {ok : Sto → Bool} {t : Tg} {e : Fe} {ρ : Rho} {enc : α → D} {f : α → D} {Q : List D → Sto → Prop} : ∀ {xs : List α} {S0 S : Sto}, Ex S0 S →
    (∀ x, x ∈ xs → ∀ T, Ex S0 T → ∃ ρ1, setT t (enc x) ρ = some ρ1 ∧ Wp (e ρ1 T) fun y U => y = f x ∧ Ex T U) → (∀ T, Ex S0 T → ok T = true) →
    (∀ T, Ex S T → Q (xs.map f) T) → Wp (lcL ok t fYes e ρ (xs.map enc) S) Q
  | [], S0, S, h0, he, hok, hq => by exact hq S Ex.refl
  | x :: xs, S0, S, h0, he, hok, hq => by
    obtain ⟨ρ1, h1, h2⟩ := he x (List.mem_cons_self) S h0
    obtain ⟨y, U, h3, rfl, h5⟩ := h2.out
    show Wp (lcL ok t fYes e ρ (enc x :: xs.map enc) S) Q
    unfold lcL
    rw [h1]
    show Wp (match e ρ1 S with
      | .ok y S2 => if ok S2 = true then (lcL ok t fYes e ρ (xs.map enc) S2).bind fun ys S3 => .ok (y :: ys) S3 else .stuck
      | _ => .stuck) Q
    rw [h3]
    show Wp (if ok U = true then _ else _) Q
    rw [if_pos (hok U (h0.trans h5)), wp_bind]
    exact lc_map (h0.trans h5) (fun z hz => he z (List.mem_cons_of_mem _ hz)) hok fun T hT => hq T (h5.trans hT)
/-- with a condition -/
theorem lc_filter {α : Type} {ok : Sto → Bool} {t : Tg} {c : Ft} {e : Fe} {ρ : Rho} {enc : α → D} {p : α → Bool} {f : α → D} {Q : List D → Sto → Prop} : ∀ {xs : List α} {S0 S : Sto}, Ex S0 S →
    (∀ x, x ∈ xs → ∀ T, Ex S0 T → ∃ ρ1, setT t (enc x) ρ = some ρ1 ∧ Wp (c ρ1 T) fun k U => k = p x ∧ Ex T U ∧ (k = true → Wp (e ρ1 U) fun y V => y = f x ∧ Ex U V)) → (∀ T, Ex S0 T → ok T = true) →
    (∀ T, Ex S T → Q ((xs.filter p).map f) T) → Wp (lcL ok t c e ρ (xs.map enc) S) Q
  | [], S0, S, h0, he, hok, hq => by exact hq S Ex.refl
  | x :: xs, S0, S, h0, he, hok, hq => by
    obtain ⟨ρ1, h1, h2⟩ := he x (List.mem_cons_self) S h0
    obtain ⟨k, U, h3, rfl, h5, h6⟩ := h2.out
    show Wp (lcL ok t c e ρ (enc x :: xs.map enc) S) Q
    unfold lcL
    rw [h1]
    show Wp (match c ρ1 S with
      | .ok true S1 => (match e ρ1 S1 with
        | .ok y S2 => if ok S2 = true then (lcL ok t c e ρ (xs.map enc) S2).bind fun ys S3 => .ok (y :: ys) S3 else .stuck
        | _ => .stuck)
      | .ok false S1 => if ok S1 = true then lcL ok t c e ρ (xs.map enc) S1 else .stuck
      | _ => .stuck) Q
    rw [h3]
    cases hp : p x with
    | false =>
      show Wp (if ok U = true then _ else _) Q
      rw [if_pos (hok U (h0.trans h5))]
      refine lc_filter (h0.trans h5) (fun z hz => he z (List.mem_cons_of_mem _ hz)) hok fun T hT => ?_
      have := hq T (h5.trans hT)
      rwa [List.filter_cons_of_neg (by simp [hp])] at this
    | true =>
      obtain ⟨y, V, h7, rfl, h8⟩ := (h6 hp).out
      show Wp (match e ρ1 U with
        | .ok y S2 => if ok S2 = true then (lcL ok t c e ρ (xs.map enc) S2).bind fun ys S3 => .ok (y :: ys) S3 else .stuck
        | _ => .stuck) Q
      rw [h7]
      show Wp (if ok V = true then _ else _) Q
      have h9 := h5.trans h8
      rw [if_pos (hok V (h0.trans h9)), wp_bind]
      refine lc_filter (h0.trans h9) (fun z hz => he z (List.mem_cons_of_mem _ hz)) hok fun T hT => ?_
      have := hq T (h9.trans hT)
      rwa [List.filter_cons_of_pos (by simp [hp])] at this
theorem wp_lc {f : Fi} {t : Tg} {c : Ft} {e : Fe} {vs : List Nat} {ρ : Rho} {S : Sto} {Q : D → Sto → Prop} : Wp (dLc f t c e vs ρ S) Q = Wp (f ρ S) (fun src S1 => Wp (lcL src.ok t c e (wipeR ρ vs) src.its S1) fun ys T => if ys.length ≤ sizeLine then Q (.ref T.length) (T ++ [.lst ys]) else False) := by
  unfold dLc
  rw [wp_bind]
  congr 1; funext src S1
  rw [wp_bind]
  congr 1; funext ys T
  unfold lcFin
  rw [wp_ite]; rfl
/-- one turn of a loop at a time -/
theorem for_inv {ok : Sto → Bool} {t : Tg} {b : Fst} {Q : Fl → Sto → Prop} (I : List D → Rho → Sto → Prop) (hs : ∀ d ds ρ S, I (d :: ds) ρ S → ∃ ρ1, setT t d ρ = some ρ1 ∧ WpS (b ρ1 S) fun fl T => match fl with
      | .nx ρ2 => ok T = true ∧ I ds ρ2 T
      | .ct ρ2 => ok T = true ∧ I ds ρ2 T
      | .brk ρ2 => Q (.nx ρ2) T
      | .ret d => Q (.ret d) T) (hq : ∀ ρ S, I [] ρ S → Q (.nx ρ) S) : ∀ {ds : List D} {ρ : Rho} {S : Sto}, I ds ρ S → WpS (forL ok t b ds ρ S) Q
  | [], ρ, S, h => hq ρ S h
  | d :: ds, ρ, S, h => by
    obtain ⟨ρ1, h1, h2⟩ := hs d ds ρ S h
    unfold forL
    rw [h1]
    show WpS (match b ρ1 S with
      | .fl (.nx ρ2) S2 => if ok S2 = true then forL ok t b ds ρ2 S2 else .stuck
      | .fl (.ct ρ2) S2 => if ok S2 = true then forL ok t b ds ρ2 S2 else .stuck
      | .fl (.brk ρ2) S2 => .fl (.nx ρ2) S2
      | r => r) Q
    cases hb : b ρ1 S with
    | stuck => rw [hb] at h2; exact h2.elim
    | exc x ρ S => rw [hb] at h2; exact h2.elim
    | fl fl T =>
      rw [hb] at h2
      cases fl with
      | nx ρ2 =>
        show WpS (if ok T = true then _ else _) Q
        obtain ⟨h3, h4⟩ := h2
        rw [if_pos h3]
        exact for_inv I hs hq h4
      | ct ρ2 =>
        show WpS (if ok T = true then _ else _) Q
        obtain ⟨h3, h4⟩ := h2
        rw [if_pos h3]
        exact for_inv I hs hq h4
      | brk ρ2 => exact h2
      | ret d => exact h2
theorem wps_for {f : Fi} {t : Tg} {b : Fst} {ρ : Rho} {S : Sto} {Q : Fl → Sto → Prop} : WpS (sFor f t b ρ S) Q = Wp (f ρ S) (fun src S1 => WpS (forL src.ok t b src.its ρ S1) Q) := by unfold sFor; rw [wps_then]
/-- a loop with a measure -/
theorem while_inv {c : Ft} {b : Fst} {Q : Fl → Sto → Prop} (I : Nat → Rho → Sto → Prop) (hs : ∀ m ρ S, I m ρ S → Wp (c ρ S) fun k T => if k = true then ∃ m', m = m' + 1 ∧ WpS (b ρ T) (fun fl U => match fl with
      | .nx ρ2 => I m' ρ2 U
      | .ct ρ2 => I m' ρ2 U
      | .brk ρ2 => Q (.nx ρ2) U
      | .ret d => Q (.ret d) U) else Q (.nx ρ) T) : ∀ {n m : Nat} {ρ : Rho} {S : Sto}, m < n → I m ρ S → WpS (whL c b n ρ S) Q
  | 0, m, ρ, S, hm, h => absurd hm (Nat.not_lt_zero _)
  | n + 1, m, ρ, S, hm, h => by
    obtain ⟨k, T, h1, h2⟩ := (hs m ρ S h).out
    unfold whL
    rw [h1]
    show WpS (if k = true then _ else _) Q
    cases k with
    | false => exact h2
    | true =>
      obtain ⟨m', rfl, h3⟩ := h2
      show WpS (match b ρ T with
        | .fl (.nx ρ2) S2 => whL c b n ρ2 S2
        | .fl (.ct ρ2) S2 => whL c b n ρ2 S2
        | .fl (.brk ρ2) S2 => .fl (.nx ρ2) S2
        | r => r) Q
      cases hb : b ρ T with
      | stuck => rw [hb] at h3; exact h3.elim
      | exc x ρ S => rw [hb] at h3; exact h3.elim
      | fl fl U =>
        rw [hb] at h3
        cases fl with
        | nx ρ2 => exact while_inv I hs (by omega) h3
        | ct ρ2 => exact while_inv I hs (by omega) h3
        | brk ρ2 => exact h3
        | ret d => exact h3
theorem wps_while {c : Ft} {b : Fst} {ρ : Rho} {S : Sto} {Q : Fl → Sto → Prop} : WpS (sWhile c b ρ S) Q = WpS (whL c b whMost ρ S) Q := rfl

/-! ### encodings, equality -/
class En (α : Type) where
  d : α → D
  p : α → PyData
  dep : Nat
  hp : ∀ a n S, toPy (dep + n) S (d a) = some (p a)
  lay : ∀ a, (p a).canLay0 = true
  hd : ∀ a, (p a).depth ≤ dep
  eq : ∀ a b, PyData.eqv (p a) (p b) = true ↔ a = b
theorem toPy_up {n : Nat} {S : Sto} {d : D} {m : Nat} (h : m + 1 = n) : toPy n S d = toPy (m + 1) S d := by rw [h]
theorem en_py {α : Type} [En α] (a : α) {n : Nat} {S : Sto} (h : En.dep α ≤ n) : toPy n S (En.d a) = some (En.p a) := by
  obtain ⟨m, rfl⟩ : ∃ m, n = En.dep α + m := ⟨n - En.dep α, by omega⟩
  exact En.hp a m S
theorem en_pys {α : Type} [En α] (l : List α) {n : Nat} {S : Sto} (h : En.dep α ≤ n) : toPyL (toPy n S) (l.map En.d) = some (l.map En.p) := by
  induction l with
  | nil => rfl
  | cons a l ih =>
    show (match toPy n S (En.d a), toPyL (toPy n S) (l.map En.d) with
      | some a, some as => some (a :: as)
      | _, _ => none) = _
    rw [en_py a h, ih]
    rfl
theorem en_lay {α : Type} [En α] (l : List α) : PyData.canLayAll0 (l.map En.p) = true := by
  induction l with
  | nil => simp [PyData.canLayAll0]
  | cons a l ih => simp [PyData.canLayAll0, En.lay a, ih]
theorem en_eqs {α : Type} [En α] (l m : List α) : PyData.eqvAll (l.map En.p) (m.map En.p) = true ↔ l = m := by
  induction l generalizing m with
  | nil => cases m <;> simp [PyData.eqvAll]
  | cons a l ih =>
    cases m with
    | nil => simp [PyData.eqvAll]
    | cons b m => simp [PyData.eqvAll, En.eq a b, ih m]
theorem en_dep {α : Type} [En α] (l : List α) : PyData.depthAll (l.map En.p) ≤ En.dep α := by
  induction l with
  | nil => simp [PyData.depthAll]
  | cons a l ih =>
    have := En.hd a
    simp [PyData.depthAll]; omega
instance : En Int where
  d := .int
  p := .int
  dep := 1
  hp := fun a n S => by rw [toPy_up (Nat.add_comm n 1)]; rfl
  lay := fun a => by simp [PyData.canLay0]
  hd := fun a => by simp [PyData.depth]
  eq := fun a b => by simp [PyData.eqv]
instance {α : Type} [En α] : En (List α) where
  d := fun l => .tup (l.map En.d)
  p := fun l => .tuple (l.map En.p)
  dep := En.dep α + 1
  hp := fun l n S => by
    rw [toPy_up (m := En.dep α + n) (by omega)]
    show (toPyL (toPy (En.dep α + n) S) (l.map En.d)).map PyData.tuple = _
    rw [en_pys l (Nat.le_add_right _ _)]
    rfl
  lay := fun l => by simp [PyData.canLay0, en_lay]
  hd := fun l => by have := en_dep l; simp [PyData.depth]; omega
  eq := fun l m => by simp [PyData.eqv, en_eqs]
def fr (q : Rat) : D := .tup [.int q.num, .int q.den]
instance : En Rat where
  d := fr
  p := fun q => .tuple [.int q.num, .int q.den]
  dep := 2
  hp := fun q n S => by
    rw [toPy_up (m := 1 + n) (by omega)]
    show (toPyL (toPy (1 + n) S) [.int q.num, .int q.den]).map PyData.tuple = _
    have := en_pys (α := Int) [q.num, (q.den : Int)] (S := S) (n := 1 + n) (Nat.le_add_right _ _)
    simp only [List.map] at this
    exact congrArg _ this
  lay := fun q => by simp [PyData.canLay0, PyData.canLayAll0]
  hd := fun q => by simp [PyData.depth, PyData.depthAll]
  eq := fun a b => by
    simp [PyData.eqv, PyData.eqvAll]
    constructor
    · rintro ⟨h1, h2⟩
      exact Rat.ext h1 (by omega)
    · rintro rfl
      exact ⟨rfl, rfl⟩
theorem shaped_en {α : Type} [En α] (a : α) (h : En.dep α ≤ 60) : SeqAt.shaped (En.p a) = true := by
  have := En.hd a
  unfold SeqAt.shaped
  rw [En.lay a, Bool.true_and, decide_eq_true_eq]
  omega
theorem shaped_ens {α : Type} [En α] (l : List α) (h : En.dep α ≤ 60) : SeqAt.shaped (.list (l.map En.p)) = true := by
  have := en_dep l
  unfold SeqAt.shaped
  simp [PyData.canLay0, en_lay, PyData.depth]
  omega
theorem dEqB_en {α : Type} [En α] [DecidableEq α] {n : Bool} (a b : α) {S : Sto} (h : En.dep α ≤ 60) : dEqB n (En.d a) (En.d b) S = .ok (.bl (if n then !decide (a = b) else decide (a = b))) S := by
  unfold dEqB
  rw [en_py a h, en_py b h]
  show (if (SeqAt.shaped (En.p a) && SeqAt.shaped (En.p b)) = true then _ else _) = _
  rw [shaped_en a h, shaped_en b h, Bool.and_self, if_pos rfl]
  have e : PyData.eqv (En.p a) (En.p b) = decide (a = b) := by
    rw [Bool.eq_iff_iff, En.eq, decide_eq_true_eq]
  rw [e]
/-- lists of the store -/
theorem dEqB_ens {α : Type} [En α] [DecidableEq α] {n : Bool} (l m : List α) {S : Sto} {i j : Nat} (hi : S[i]? = some (.lst (l.map En.d))) (hj : S[j]? = some (.lst (m.map En.d))) (h : En.dep α ≤ 59) : dEqB n (.ref i) (.ref j) S = .ok (.bl (if n then !decide (l = m) else decide (l = m))) S := by
  have key : ∀ (l : List α) (i : Nat), S[i]? = some (.lst (l.map En.d)) → toPy 60 S (.ref i) = some (.list (l.map En.p)) := fun l i hi => by
    show (match S[i]? with
      | some (.lst ds) => (toPyL (toPy 59 S) ds).map PyData.list
      | _ => none) = _
    rw [hi]
    show (toPyL (toPy 59 S) (l.map En.d)).map PyData.list = _
    rw [en_pys l h]
    rfl
  unfold dEqB
  rw [key l i hi, key m j hj]
  show (if (SeqAt.shaped (.list (l.map En.p)) && SeqAt.shaped (.list (m.map En.p))) = true then _ else _) = _
  rw [shaped_ens l (by omega), shaped_ens m (by omega), Bool.and_self, if_pos rfl]
  have e : PyData.eqv (.list (l.map En.p)) (.list (m.map En.p)) = decide (l = m) := by
    rw [Bool.eq_iff_iff, decide_eq_true_eq]
    simp [PyData.eqv, en_eqs]
  rw [e]
@[simp] theorem dEqB_int {n : Bool} {i j : Int} {S : Sto} : dEqB n (.int i) (.int j) S = .ok (.bl (if n then !decide (i = j) else decide (i = j))) S := dEqB_en (α := Int) i j (by decide)
end MP
set_option Elab.async false
set_option linter.all false
set_option maxRecDepth 100000
set_option maxHeartbeats 4000000
/-! Fractions: the arithmetic behind them. -/
namespace MP
open PySem

/-- the divisor by which a fraction is shortened -/
def shar (t b : Int) : Int := if 0 < b then ((Nat.gcd t.natAbs b.natAbs : Nat) : Int) else -((Nat.gcd t.natAbs b.natAbs : Nat) : Int)
theorem gcd_pos {t b : Int} (hb : b ≠ 0) : 0 < Nat.gcd t.natAbs b.natAbs := Nat.gcd_pos_of_pos_right _ (by omega)
theorem shar_ne {t b : Int} (hb : b ≠ 0) : shar t b ≠ 0 := by
  have := gcd_pos (t := t) hb
  unfold shar
  split <;> omega
theorem shar_num {t b : Int} (hb : b ≠ 0) : t.fdiv (shar t b) = (Rat.divInt t b).num := by
  have hg := gcd_pos (t := t) hb
  have hd : ((Nat.gcd t.natAbs b.natAbs : Nat) : Int) ∣ t := Int.ofNat_dvd_left.mpr (Nat.gcd_dvd_left ..)
  rw [Rat.num_divInt]
  have eg : b.gcd t = Nat.gcd t.natAbs b.natAbs := by rw [Int.gcd, Nat.gcd_comm]
  rw [eg]
  unfold shar
  by_cases h : 0 < b
  · rw [if_pos h, Int.sign_eq_one_of_pos h, Int.one_mul, Int.fdiv_eq_ediv_of_nonneg _ (by omega)]
  · rw [if_neg h, Int.sign_eq_neg_one_of_neg (by omega)]
    obtain ⟨c, hc⟩ := hd
    generalize hgg : ((Nat.gcd t.natAbs b.natAbs : Nat) : Int) = g at *
    have hg0 : g ≠ 0 := by omega
    rw [hc]
    have e1 : g * c = (-g) * (-c) := by rw [Int.neg_mul_neg]
    rw [e1, Int.mul_fdiv_cancel_left _ (by omega : (-g) ≠ 0)]
    rw [Int.neg_mul_neg, show (-1 : Int) * (g * c) = g * (-c) by rw [Int.neg_one_mul, Int.mul_neg], Int.mul_ediv_cancel_left _ hg0]
theorem shar_den {t b : Int} (hb : b ≠ 0) : b.fdiv (shar t b) = ((Rat.divInt t b).den : Int) := by
  have hg := gcd_pos (t := t) hb
  have hd : ((Nat.gcd t.natAbs b.natAbs : Nat) : Int) ∣ b := Int.ofNat_dvd_left.mpr (Nat.gcd_dvd_right ..)
  rw [Rat.den_divInt, if_neg hb]
  have eg : b.gcd t = Nat.gcd t.natAbs b.natAbs := by rw [Int.gcd, Nat.gcd_comm]
  rw [eg]
  unfold shar
  by_cases h : 0 < b
  · rw [if_pos h, Int.fdiv_eq_ediv_of_nonneg _ (by omega), Int.natCast_ediv]
    congr 1
    omega
  · rw [if_neg h]
    have e : b = -((b.natAbs : Nat) : Int) := by omega
    obtain ⟨c, hc⟩ := Nat.gcd_dvd_right t.natAbs b.natAbs
    generalize Nat.gcd t.natAbs b.natAbs = g at *
    rw [hc] at e
    have e2 : b = (-(g : Int)) * (c : Int) := by rw [e, Int.natCast_mul, Int.neg_mul]
    rw [hc]
    conv => lhs; rw [e2]
    rw [Int.mul_fdiv_cancel_left _ (by omega), Nat.mul_div_cancel_left _ hg]
theorem shar_log {t b : Int} (hb : b ≠ 0) : (shar t b).natAbs.log2 ≤ b.natAbs.log2 := by
  have h : (shar t b).natAbs ≤ b.natAbs := by
    have := Nat.le_of_dvd (by omega : 0 < b.natAbs) (Nat.gcd_dvd_right t.natAbs b.natAbs)
    unfold shar
    split <;> omega
  rw [Nat.le_log2 (by omega)]
  exact Nat.le_trans (Nat.log2_self_le (by have := shar_ne (t := t) hb; omega)) h
theorem szDiv_of {j : Int} {k : Nat} (h0 : j ≠ 0) (h : j.natAbs < 2 ^ k) (hk : k ≤ 9000) : szDiv j = true := by
  unfold szDiv
  rw [Bool.and_eq_true, decide_eq_true_eq, decide_eq_true_eq]
  refine ⟨h0, ?_⟩
  have := (Nat.log2_lt (by omega)).mpr h
  omega
theorem szMul_of {i j : Int} {k l : Nat} (h1 : i.natAbs < 2 ^ k) (h2 : j.natAbs < 2 ^ l) (hk : k + l ≤ 100000000) : szMul i j = true := by
  unfold szMul
  rw [decide_eq_true_eq]
  have lg : ∀ (n m : Nat), n < 2 ^ m → n.log2 ≤ m := fun n m h => by
    by_cases h0 : n = 0
    · subst h0; rw [Nat.log2_zero]; omega
    · have := (Nat.log2_lt h0).mpr h; omega
  have lg2 : ∀ (n m : Nat), n < 2 ^ m → 0 < m → n.log2 < m := fun n m h hm => by
    by_cases h0 : n = 0
    · subst h0; rw [Nat.log2_zero]; omega
    · exact (Nat.log2_lt h0).mpr h
  have a := lg _ _ h1
  have b := lg _ _ h2
  by_cases hk0 : 0 < k
  · have := lg2 _ _ h1 hk0; omega
  · by_cases hl0 : 0 < l
    · have := lg2 _ _ h2 hl0; omega
    · omega

/-! ### the weight of a fraction -/
/-- q's numerator has at most 110 k bits, its denominator at most 4 k bits -/
structure Sz (k : Nat) (q : Rat) : Prop where
  n : q.num.natAbs < 2 ^ (110 * k)
  d : q.den < 2 ^ (4 * k)
theorem Sz.up {k l : Nat} {q : Rat} (h : Sz k q) (hkl : k ≤ l) : Sz l q :=
  ⟨Nat.lt_of_lt_of_le h.n (Nat.pow_le_pow_right (by decide) (by omega)), Nat.lt_of_lt_of_le h.d (Nat.pow_le_pow_right (by decide) (by omega))⟩
theorem Sz.zero : Sz 1 0 := ⟨by decide, by decide⟩
theorem Sz.neg {k : Nat} {q : Rat} (h : Sz k q) : Sz k (-q) := ⟨by rw [Rat.neg_num, Int.natAbs_neg]; exact h.n, h.d⟩
theorem divInt_num_le (a b : Int) : (Rat.divInt a b).num.natAbs ≤ a.natAbs := by
  rw [Rat.num_divInt]
  refine Nat.le_trans (Int.natAbs_ediv_le_natAbs ..) ?_
  rw [Int.natAbs_mul]
  have : b.sign.natAbs ≤ 1 := by rw [Int.natAbs_sign]; split <;> omega
  exact Nat.le_trans (Nat.mul_le_mul_right _ this) (by omega)
theorem divInt_den_le (a b : Int) (hb : b ≠ 0) : (Rat.divInt a b).den ≤ b.natAbs := by
  rw [Rat.den_divInt, if_neg hb]
  exact Nat.div_le_self ..
theorem add_eq (a b : Rat) : a + b = Rat.divInt (a.num * b.den + b.num * a.den) (a.den * b.den : Int) := by
  rw [Rat.add_def', ← Rat.divInt_ofNat]; simp
theorem mul_eq (a b : Rat) : a * b = Rat.divInt (a.num * b.num) (a.den * b.den : Int) := by
  rw [Rat.mul_def', ← Rat.divInt_ofNat]; simp
theorem den0 (a b : Rat) : (a.den * b.den : Int) ≠ 0 := by
  have h1 := a.den_pos
  have h2 := b.den_pos
  have := Nat.mul_pos h1 h2
  have e : ((a.den * b.den : Nat) : Int) = (a.den * b.den : Int) := by simp
  omega
theorem den_abs (a b : Rat) : ((a.den : Int) * (b.den : Int)).natAbs = a.den * b.den := by rw [Int.natAbs_mul]; simp
theorem den_sz {k l : Nat} {a b : Rat} (ha : Sz k a) (hb : Sz l b) : ((a.den : Int) * (b.den : Int)).natAbs < 2 ^ (4 * (k + l)) := by
  rw [den_abs, Nat.mul_add, Nat.pow_add]
  exact Nat.mul_lt_mul'' ha.d hb.d
theorem mulnum_sz {k l : Nat} {a b : Rat} (ha : Sz k a) (hb : Sz l b) : (a.num * b.num).natAbs < 2 ^ (110 * (k + l)) := by
  rw [Int.natAbs_mul, Nat.mul_add, Nat.pow_add]
  exact Nat.mul_lt_mul'' ha.n hb.n
theorem addnum_sz {k l : Nat} {a b : Rat} (ha : Sz k a) (hb : Sz l b) (hk : 1 ≤ k) (hl : 1 ≤ l) : (a.num * b.den + b.num * a.den).natAbs < 2 ^ (110 * (k + l)) := by
  have h1 : (a.num * b.den).natAbs < 2 ^ (110 * k + 4 * l) := by
    rw [Int.natAbs_mul, Nat.pow_add]
    exact Nat.mul_lt_mul'' ha.n (by simpa using hb.d)
  have h2 : (b.num * a.den).natAbs < 2 ^ (110 * l + 4 * k) := by
    rw [Int.natAbs_mul, Nat.pow_add]
    exact Nat.mul_lt_mul'' hb.n (by simpa using ha.d)
  have p1 : 2 ^ (110 * k + 4 * l) ≤ 2 ^ (110 * (k + l) - 1) := Nat.pow_le_pow_right (by decide) (by omega)
  have p2 : 2 ^ (110 * l + 4 * k) ≤ 2 ^ (110 * (k + l) - 1) := Nat.pow_le_pow_right (by decide) (by omega)
  have p3 : 2 ^ (110 * (k + l)) = 2 * 2 ^ (110 * (k + l) - 1) := by rw [← Nat.pow_succ']; congr 1; omega
  have := Int.natAbs_add_le (a.num * b.den) (b.num * a.den)
  omega
theorem Sz.mul {k l : Nat} {a b : Rat} (ha : Sz k a) (hb : Sz l b) : Sz (k + l) (a * b) := by
  rw [mul_eq]
  exact ⟨Nat.lt_of_le_of_lt (divInt_num_le ..) (mulnum_sz ha hb), Nat.lt_of_le_of_lt (divInt_den_le _ _ (den0 a b)) (den_sz ha hb)⟩
theorem Sz.add {k l : Nat} {a b : Rat} (ha : Sz k a) (hb : Sz l b) (hk : 1 ≤ k) (hl : 1 ≤ l) : Sz (k + l) (a + b) := by
  rw [add_eq]
  exact ⟨Nat.lt_of_le_of_lt (divInt_num_le ..) (addnum_sz ha hb hk hl), Nat.lt_of_le_of_lt (divInt_den_le _ _ (den0 a b)) (den_sz ha hb)⟩
theorem Sz.int {i : Int} (h : i.natAbs < 2 ^ 110) : Sz 1 (i : Rat) := ⟨by simpa using h, by simp⟩

/-! ### Euclid's turns -/
/-- one turn of a, b = b, a mod b -/
theorem eu_half {a b : Nat} (hb : 0 < b) (h : b ≤ a) : a % b ≤ a / 2 := by
  have h1 := Nat.mod_lt a hb
  have h2 := Nat.div_add_mod a b
  have h3 : 1 ≤ a / b := (Nat.one_le_div_iff hb).mpr h
  have h4 : b * 1 ≤ b * (a / b) := Nat.mul_le_mul_left b h3
  omega
end MP
set_option Elab.async false
set_option linter.all false
set_option maxRecDepth 100000
set_option maxHeartbeats 4000000
/-! The dice. -/
namespace MP
open PySem

/-- all but the place nd is as it was -/
structure Ed (nd : Nat) (S T : Sto) : Prop where
  len : S.length ≤ T.length
  at_ : ∀ n, n < S.length → n ≠ nd → T[n]? = S[n]?
theorem Ed.refl {nd : Nat} {S : Sto} : Ed nd S S := ⟨Nat.le_refl _, fun _ _ _ => rfl⟩
theorem Ed.trans {nd : Nat} {S T U : Sto} (a : Ed nd S T) (b : Ed nd T U) : Ed nd S U := ⟨Nat.le_trans a.len b.len, fun n h e => (b.at_ n (Nat.lt_of_lt_of_le h a.len) e).trans (a.at_ n h e)⟩
theorem Ex.ed {nd : Nat} {S T : Sto} (a : Ex S T) : Ed nd S T := ⟨a.len, fun n h _ => a.at_ n h⟩
theorem Ed.app {nd : Nat} {S T : Sto} (R : Sto) (a : Ed nd S T) : Ed nd S (T ++ R) := a.trans (Ex.refl.app R).ed
theorem Ed.put {nd : Nat} {S T : Sto} {o : SO} (a : Ed nd S T) : Ed nd S (T.set nd o) := ⟨by rw [List.length_set]; exact a.len, fun n h e => by rw [List.getElem?_set_ne (Ne.symm e)]; exact a.at_ n h e⟩
theorem Ed.get {nd : Nat} {S T : Sto} (a : Ed nd S T) {n : Nat} {o : SO} (h : S[n]? = some o) (e : n ≠ nd) : T[n]? = some o := by
  rw [a.at_ n (List.getElem?_eq_some_iff.mp h).1 e]; exact h
structure Dice (S : Sto) (nd : Nat) (c : Nat) : Prop where
  ex : ∃ (a b : Int) (k : Nat), S[nd]? = some (.lst [.int a, .int b, .int (k : Int)]) ∧ k ≤ c
theorem Dice.lt {S : Sto} {nd c : Nat} (h : Dice S nd c) : nd < S.length := by
  obtain ⟨a, b, k, h, _⟩ := h.ex
  exact (List.getElem?_eq_some_iff.mp h).1
theorem Dice.up {S T : Sto} {nd c c' : Nat} (h : Dice S nd c) (e : Ex S T) (hc : c ≤ c') : Dice T nd c' := by
  obtain ⟨a, b, k, h, hk⟩ := h.ex
  exact ⟨a, b, k, e.get h, by omega⟩
theorem set_get {S : Sto} {n : Nat} {o o' : SO} (h : S[n]? = some o) : (S.set n o')[n]? = some o' := by
  rw [List.getElem?_set_self (List.getElem?_eq_some_iff.mp h).1]
theorem putD_ref {S : Sto} {n : Nat} {ds : List D} {k : Int} {d : D} (h : S[n]? = some (.lst ds)) : putD (.ref n) (.int k) d S = match L2.ixN ds.length k with
  | some j => .ok () (S.set n (.lst (ds.set j d)))
  | none => .stuck := by
  unfold putD
  simp only [h]
  try rfl
theorem szMul_small {i j : Int} (hi : i.natAbs < 2 ^ 200) (hj : j.natAbs < 2 ^ 200) : szMul i j = true := szMul_of hi hj (by decide)

/-! ### membership in a tuple -/
theorem dInB_en {α : Type} [En α] [DecidableEq α] {n : Bool} (a : α) (l : List α) {S : Sto} (h : En.dep α ≤ 59) : dInB n (En.d a) (.tup (l.map En.d)) S = .ok (.bl (if n then !decide (a ∈ l) else decide (a ∈ l))) S := by
  have e1 : toPy 60 S (.tup (l.map En.d)) = some (.tuple (l.map En.p)) := en_py (α := List α) l (by show En.dep α + 1 ≤ 60; omega)
  have e2 : SeqAt.shaped (.tuple (l.map En.p)) = true := shaped_en (α := List α) l (by show En.dep α + 1 ≤ 60; omega)
  unfold dInB
  rw [en_py a (by omega), e1]
  show (if (SeqAt.shaped (En.p a) && SeqAt.shaped (.tuple (l.map En.p))) = true then _ else _) = _
  rw [shaped_en a (by omega), e2, Bool.and_self, if_pos rfl]
  have e : ((l.map En.p).any fun z => PyData.eqv z (En.p a)) = decide (a ∈ l) := by
    rw [Bool.eq_iff_iff, decide_eq_true_eq, List.any_eq_true]
    constructor
    · rintro ⟨z, hz, e⟩
      obtain ⟨b, hb, rfl⟩ := List.mem_map.mp hz
      rw [En.eq] at e
      exact e ▸ hb
    · intro hm
      exact ⟨_, List.mem_map_of_mem hm, (En.eq _ _).mpr rfl⟩
  rw [e]
/-! ### comprehensions, in general -/
theorem lc_gen {ok : Sto → Bool} {t : Tg} {c : Ft} {e : Fe} {ρ : Rho} (I : List D → List D → Sto → Prop)
    (hs : ∀ d ds acc S, I (d :: ds) acc S → ∃ ρ1, setT t d ρ = some ρ1 ∧ Wp (c ρ1 S) fun k U => if k = true then Wp (e ρ1 U) (fun y V => ok V = true ∧ I ds (acc ++ [y]) V) else ok U = true ∧ I ds acc U) :
    ∀ {ds acc : List D} {S : Sto}, I ds acc S → Wp (lcL ok t c e ρ ds S) fun ys T => I [] (acc ++ ys) T
  | [], acc, S, h => by
    show I [] (acc ++ []) S
    rw [List.append_nil]; exact h
  | d :: ds, acc, S, h => by
    obtain ⟨ρ1, h1, h2⟩ := hs d ds acc S h
    obtain ⟨k, U, h3, h4⟩ := h2.out
    unfold lcL
    rw [h1]
    show Wp (match c ρ1 S with
      | .ok true S1 => (match e ρ1 S1 with
        | .ok y S2 => if ok S2 = true then (lcL ok t c e ρ ds S2).bind fun ys S3 => .ok (y :: ys) S3 else .stuck
        | _ => .stuck)
      | .ok false S1 => if ok S1 = true then lcL ok t c e ρ ds S1 else .stuck
      | _ => .stuck) _
    rw [h3]
    cases k with
    | false =>
      show Wp (if ok U = true then _ else _) _
      obtain ⟨h5, h6⟩ := h4
      rw [if_pos h5]
      exact lc_gen I hs h6
    | true =>
      obtain ⟨y, V, h7, h8, h9⟩ := (show Wp (e ρ1 U) (fun y V => ok V = true ∧ I ds (acc ++ [y]) V) from h4).out
      show Wp (match e ρ1 U with
        | .ok y S2 => if ok S2 = true then (lcL ok t c e ρ ds S2).bind fun ys S3 => .ok (y :: ys) S3 else .stuck
        | _ => .stuck) _
      rw [h7]
      show Wp (if ok V = true then _ else _) _
      rw [if_pos h8, wp_bind]
      refine (lc_gen I hs h9).mono fun ys T hT => ?_
      show I [] (acc ++ y :: ys) T
      rw [show acc ++ y :: ys = (acc ++ [y]) ++ ys by simp]
      exact hT

/-! ### a number as the package takes it: whole, or a fraction -/
inductive Num where
  | i (n : Int)
  | f (q : Rat)
  deriving DecidableEq
def Num.q : Num → Rat
  | .i n => (n : Rat)
  | .f q => q
def Num.d : Num → D
  | .i n => .int n
  | .f q => fr q
def Num.p : Num → PyData
  | .i n => .int n
  | .f q => .tuple [.int q.num, .int q.den]
instance : En Num where
  d := Num.d
  p := Num.p
  dep := 2
  hp := fun a n S => by
    cases a with
    | i k => exact en_py (α := Int) k (show 1 ≤ 2 + n by omega)
    | f q => exact en_py (α := Rat) q (show 2 ≤ 2 + n by omega)
  lay := fun a => by
    cases a with
    | i k => exact En.lay (α := Int) k
    | f q => exact En.lay (α := Rat) q
  hd := fun a => by
    cases a with
    | i k => exact Nat.le_trans (En.hd (α := Int) k) (by decide)
    | f q => exact En.hd (α := Rat) q
  eq := fun a b => by
    cases a with
    | i k =>
      cases b with
      | i j => simp [Num.p, PyData.eqv]
      | f q => simp [Num.p, PyData.eqv]
    | f q =>
      cases b with
      | i j => simp [Num.p, PyData.eqv]
      | f r =>
        have := En.eq (α := Rat) q r
        simp only [Num.f.injEq]
        exact this
/-- accepted by is_number; of weight 1 -/
structure Num.Ok (x : Num) : Prop where
  sz : Sz 1 x.q
  lt : ∀ n, x = .i n → n.natAbs < 10 ^ 60
def Num.z (x : Num) : Bool := decide (x.q = 0)

theorem get_app {T R : Sto} {n : Nat} {o : SO} (h : T[n]? = some o) : (T ++ R)[n]? = some o := by
  rw [List.getElem?_append_left (List.getElem?_eq_some_iff.mp h).1]; exact h
@[simp] theorem get_new {T : Sto} {o : SO} : (T ++ [o])[T.length]? = some o := by simp
theorem Ed.set {nd : Nat} {S T : Sto} {n : Nat} {o : SO} (a : Ed nd S T) (h : S.length ≤ n) : Ed nd S (T.set n o) := ⟨by rw [List.length_set]; exact a.len, fun m hm e => by rw [List.getElem?_set_ne (by omega)]; exact a.at_ m hm e⟩
theorem Dice.set {T : Sto} {nd c n : Nat} {o : SO} (h : Dice T nd c) (e : n ≠ nd) : Dice (T.set n o) nd c := by
  obtain ⟨a, b, k, h, hk⟩ := h.ex
  exact ⟨a, b, k, by rw [List.getElem?_set_ne e]; exact h, hk⟩
theorem Dice.app {T R : Sto} {nd c : Nat} (h : Dice T nd c) : Dice (T ++ R) nd c := h.up (Ex.refl.app R) (Nat.le_refl _)
theorem mPop_ref {T : Sto} {n : Nat} {ds : List D} (h : T[n]? = some (.lst ds)) : mPop (.ref n) [] T = match ds[ds.length - 1]? with
  | some y => .ok y (T.set n (.lst ds.dropLast))
  | none => .stuck := by
  unfold mPop
  simp only [h]
  try rfl
/-! ### what loops walk -/
section
variable {ρ : Rho} {S : Sto} {Q : Src → Sto → Prop}
@[simp] theorem src_ok0 {l : List D} : (Src.mk l []).ok S = true := rfl
theorem fitI_no {j : Int} (h : ¬ j.natAbs ≤ 4000000000000000000) : fitI j = false := by
  cases e : fitI j with
  | false => rfl
  | true => exact absurd (Nat.le_of_ble_eq_true e) h
@[simp] theorem wp_iR1 {f : Fs} : Wp (iR1 f ρ S) Q = Wp (f ρ S) (fun ds S1 => match ds with
  | [.int j] => if j.natAbs ≤ 4000000000000000000 then Q ⟨rngD 0 j.toNat, []⟩ S1 else False
  | _ => False) := by
  unfold iR1
  rw [wp_bind]
  congr 1; funext ds S1
  exact match ds with
    | [] => rfl
    | [.int j] => by
      by_cases h : j.natAbs ≤ 4000000000000000000
      · have e := fitI_ok h
        simp [e, h]
      · have e : fitI j = false := fitI_no h
        simp [e, h]
    | [.non] => rfl
    | [.bl _] => rfl
    | [.str _] => rfl
    | [.tup _] => rfl
    | [.fl _] => rfl
    | [.ref _] => rfl
    | [.fn _] => rfl
    | _ :: _ :: _ => by simp
@[simp] theorem wp_iR2 {f : Fs} : Wp (iR2 f ρ S) Q = Wp (f ρ S) (fun ds S1 => match ds with
  | [.int i, .int j] => if i.natAbs ≤ 4000000000000000000 ∧ j.natAbs ≤ 4000000000000000000 then Q ⟨rngD i (j - i).toNat, []⟩ S1 else False
  | _ => False) := by
  unfold iR2
  rw [wp_bind]
  congr 1; funext ds S1
  exact match ds with
    | [] => rfl
    | [x] => by cases x <;> rfl
    | [.int i, .int j] => by
      by_cases h : i.natAbs ≤ 4000000000000000000
      · by_cases h' : j.natAbs ≤ 4000000000000000000
        · have e := fitI_ok h
          have e' := fitI_ok h'
          simp [e, e', h, h']
        · have e' : fitI j = false := fitI_no h'
          simp [e', h']
      · have e : fitI i = false := fitI_no h
        simp [e, h]
    | [.non, _] => rfl
    | [.bl _, _] => rfl
    | [.str _, _] => rfl
    | [.tup _, _] => rfl
    | [.fl _, _] => rfl
    | [.ref _, _] => rfl
    | [.fn _, _] => rfl
    | [.int _, .non] => rfl
    | [.int _, .bl _] => rfl
    | [.int _, .str _] => rfl
    | [.int _, .tup _] => rfl
    | [.int _, .fl _] => rfl
    | [.int _, .ref _] => rfl
    | [.int _, .fn _] => rfl
    | x :: y :: z :: l => by cases x <;> first | rfl | (cases y <;> rfl)
@[simp] theorem wp_iD {f : Fe} : Wp (iD f ρ S) Q = Wp (f ρ S) (fun d S1 => Wp (srcD d S1) Q) := by unfold iD; rw [wp_bind]
@[simp] theorem wp_iEn {f : Fs} : Wp (iEn f ρ S) Q = Wp (f ρ S) (fun d S1 => Wp (enumS d S1) Q) := by unfold iEn; rw [wp_bind]
@[simp] theorem wp_iZp {f : Fs} : Wp (iZp f ρ S) Q = Wp (f ρ S) (fun d S1 => Wp (zipS d S1) Q) := by unfold iZp; rw [wp_bind]
@[simp] theorem srcD_tup {l : List D} : srcD (.tup l) S = .ok ⟨l, []⟩ S := rfl
@[simp] theorem srcD_fl {l : List D} : srcD (.fl l) S = .ok ⟨l, []⟩ S := rfl
theorem srcD_ref {n : Nat} {l : List D} (h : S[n]? = some (.lst l)) : srcD (.ref n) S = .ok ⟨l, [(n, l)]⟩ S := by unfold srcD; simp only [h]
@[simp] theorem enumS_tup {l : List D} : enumS [.tup l] S = .ok ⟨enumD l, []⟩ S := rfl
@[simp] theorem zipS_tup {l m : List D} : zipS [.tup l, .tup m] S = .ok ⟨zipD l m, []⟩ S := rfl
theorem zipS_ref {n k : Nat} {l m : List D} (h : S[n]? = some (.lst l)) (h' : S[k]? = some (.lst m)) : zipS [.ref n, .ref k] S = .ok ⟨zipD l m, [(n, l), (k, m)]⟩ S := by
  unfold zipS lstG
  simp [h, h']
theorem rngD_cons {lo : Int} {n : Nat} : rngD lo (n + 1) = .int lo :: rngD (lo + 1) n := by
  unfold rngD
  rw [List.range_succ_eq_map, List.map_cons, List.map_map]
  simp only [List.cons.injEq, D.int.injEq]
  refine ⟨by simp, List.map_congr_left fun i _ => ?_⟩
  show D.int (lo + ((i + 1 : Nat) : Int)) = D.int (lo + 1 + i)
  congr 1; omega
@[simp] theorem rngD_zero {lo : Int} : rngD lo 0 = [] := rfl
@[simp] theorem rngD_length {lo : Int} {n : Nat} : (rngD lo n).length = n := by unfold rngD; simp
end
theorem Num.z_in {x : Num} : decide (x ∈ [Num.i 0, Num.f 0]) = decide (x.q = 0) := by
  cases x with
  | i n =>
    rw [Bool.eq_iff_iff, decide_eq_true_eq, decide_eq_true_eq]
    simp only [List.mem_cons, Num.i.injEq, List.not_mem_nil, or_false, reduceCtorEq]
    show n = 0 ↔ (n : Rat) = 0
    exact Rat.intCast_eq_zero_iff.symm
  | f q =>
    rw [Bool.eq_iff_iff, decide_eq_true_eq, decide_eq_true_eq]
    simp only [List.mem_cons, Num.f.injEq, List.not_mem_nil, or_false, reduceCtorEq, false_or]
    exact Iff.rfl
end MP
set_option Elab.async false
set_option linter.all false
set_option maxRecDepth 100000
set_option maxHeartbeats 4000000
/-! What is a number, a polynomial. -/
namespace MP
open PySem

/-! ### more -/
theorem lc_mapD {ok : Sto → Bool} {t : Tg} {e : Fe} {ρ : Rho} {f : D → D} {Q : List D → Sto → Prop} {ds : List D} {S : Sto}
    (he : ∀ x, x ∈ ds → ∀ T, Ex S T → ∃ ρ1, setT t x ρ = some ρ1 ∧ Wp (e ρ1 T) fun y U => y = f x ∧ Ex T U) (hok : ∀ T, Ex S T → ok T = true)
    (hq : ∀ T, Ex S T → Q (ds.map f) T) : Wp (lcL ok t fYes e ρ ds S) Q := by
  have := lc_map (α := D) (enc := fun d => d) (xs := ds) (S0 := S) (S := S) (ok := ok) (t := t) (e := e) (ρ := ρ) (f := f) (Q := Q) Ex.refl he hok hq
  simpa using this
theorem asBls_map {bs : List Bool} : asBls (bs.map D.bl) = some bs := by
  induction bs with
  | nil => rfl
  | cons b bs ih =>
    show (asBls (bs.map D.bl)).map (b :: ·) = _
    rw [ih]; rfl
theorem nAll_ref {n : Nat} {bs : List Bool} {S : Sto} (h : S[n]? = some (.lst (bs.map D.bl))) : nAll [.ref n] S = .ok (.bl (bs.all id)) S := by
  unfold nAll lstD
  simp only [h]
  rw [asBls_map]
/-! ### what is_number, is_poly tell -/
/-- d's type is known, and its items' -/
structure Td (S : Sto) (d : D) : Prop where
  ty : ∃ a, tyD d S = some a
  its : ∀ ds, d = .tup ds → ∀ e ∈ ds, ∃ a, tyD e S = some a
theorem ty_ex {S T : Sto} {d : D} {a : Ty} (h : tyD d S = some a) (e : Ex S T) : tyD d T = some a := by
  cases d with
  | ref n =>
    unfold tyD at h ⊢
    simp only at h ⊢
    split at h
    · rename_i ds q
      rw [e.get q]; exact h
    · rename_i ds q
      rw [e.get q]; exact h
    · cases h
  | _ => exact h
theorem Td.up {S T : Sto} {d : D} (h : Td S d) (e : Ex S T) : Td T d :=
  ⟨let ⟨a, q⟩ := h.ty; ⟨a, ty_ex q e⟩, fun ds hd x hx => let ⟨a, q⟩ := h.its ds hd x hx; ⟨a, ty_ex q e⟩⟩
theorem Td.num {S : Sto} (x : Num) : Td S x.d := by
  cases x with
  | i n => exact ⟨⟨_, rfl⟩, fun ds h => by cases h⟩
  | f q =>
    refine ⟨⟨_, rfl⟩, fun ds h e he => ?_⟩
    cases (show D.tup [.int q.num, .int q.den] = .tup ds from h)
    simp at he
    rcases he with rfl | rfl
    · exact ⟨_, rfl⟩
    · exact ⟨_, rfl⟩
def wholeB : D → Bool
  | .int _ => true
  | _ => false
def integerB : D → Bool
  | .int i => decide (-1000000000000000000000000000000000000000000000000000000000000 < i) && decide (i < 1000000000000000000000000000000000000000000000000000000000000)
  | _ => false
def fractionB : D → Bool
  | .tup [.int t, .int u] => decide (1 ≤ u) && decide (((Nat.gcd t.natAbs u.natAbs : Nat) : Int) = 1)
  | _ => false
def numberB (d : D) : Bool := integerB d || fractionB d
def topD : D → Int
  | .int i => i
  | .tup (.int t :: _) => t
  | _ => 0
def polyB (ds : List D) : Bool := decide (ds.length ≤ 41) && (ds.all numberB && (match ds.getLast? with
  | none => true
  | some d => decide (topD d ≠ 0)))
theorem whole_ty {d : D} {S : Sto} {a : Ty} (h : tyD d S = some a) : wholeB d = decide (a = .int) := by
  unfold tyD at h
  cases d with
  | ref n =>
    simp only at h
    split at h
    · cases h; rfl
    · cases h; rfl
    · cases h
  | fn i => cases h
  | _ => cases h; rfl
theorem numberB_num {x : Num} (h : x.Ok) : numberB x.d = true := by
  cases x with
  | i n =>
    have := h.lt n rfl
    unfold numberB integerB
    rw [Bool.or_eq_true]
    left
    show (decide _ && decide _) = true
    rw [Bool.and_eq_true, decide_eq_true_eq, decide_eq_true_eq]
    omega
  | f q =>
    unfold numberB
    rw [Bool.or_eq_true]
    right
    show (decide (1 ≤ (q.den : Int)) && decide (((Nat.gcd q.num.natAbs (q.den : Int).natAbs : Nat) : Int) = 1)) = true
    have h1 := q.den_pos
    have h2 := q.reduced
    rw [Bool.and_eq_true, decide_eq_true_eq, decide_eq_true_eq, Int.natAbs_natCast]
    exact ⟨by omega, by rw [show Nat.gcd q.num.natAbs q.den = 1 from h2]; rfl⟩
theorem topD_num {x : Num} : topD x.d ≠ 0 ↔ x.q ≠ 0 := by
  cases x with
  | i n =>
    show n ≠ 0 ↔ (n : Rat) ≠ 0
    exact not_congr Rat.intCast_eq_zero_iff.symm
  | f q =>
    show q.num ≠ 0 ↔ q ≠ 0
    exact not_congr Rat.num_eq_zero

theorem number_num {d : D} (h : numberB d = true) : ∃ x : Num, d = x.d ∧ ∀ n, x = .i n → n.natAbs < 10 ^ 60 := by
  unfold numberB at h
  rw [Bool.or_eq_true] at h
  rcases h with h | h
  · unfold integerB at h
    split at h
    · rename_i i
      rw [Bool.and_eq_true, decide_eq_true_eq, decide_eq_true_eq] at h
      refine ⟨.i i, rfl, fun n e => ?_⟩
      cases e
      omega
    · cases h
  · unfold fractionB at h
    split at h
    · rename_i t u
      rw [Bool.and_eq_true, decide_eq_true_eq, decide_eq_true_eq] at h
      obtain ⟨h1, h2⟩ := h
      refine ⟨.f ⟨t, u.natAbs, by omega, by show Nat.gcd t.natAbs u.natAbs = 1; omega⟩, ?_, fun n e => by cases e⟩
      show D.tup [.int t, .int u] = D.tup [.int t, .int (u.natAbs : Int)]
      have e : (u.natAbs : Int) = u := by omega
      rw [e]
    · cases h
theorem numbers_nums : ∀ {ds : List D}, (∀ d ∈ ds, numberB d = true) → ∃ xs : List Num, ds = xs.map Num.d
  | [], _ => ⟨[], rfl⟩
  | d :: ds, h => by
    obtain ⟨x, rfl, _⟩ := number_num (h d List.mem_cons_self)
    obtain ⟨xs, rfl⟩ := numbers_nums fun e he => h e (List.mem_cons_of_mem _ he)
    exact ⟨x :: xs, rfl⟩
theorem atI_getLast {α : Type} {xs : List α} {x : α} (h : xs.getLast? = some x) : L2.atI xs (-1) = some x := by
  cases xs with
  | nil => cases h
  | cons a l =>
    have := atI_last (xs := a :: l) (k := 0) (by simp)
    rw [List.getLast?_eq_getElem?] at h
    have e : L2.atI (a :: l) (-1) = (a :: l)[(a :: l).length - 1 - 0]? := this
    rw [e]
    exact h
end MP
set_option Elab.async false
set_option linter.all false
set_option maxRecDepth 100000
set_option maxHeartbeats 4000000
/-! Polynomials as lists of fractions: what the loops make of them. -/
namespace MP
open PySem

/-! ### without the zeros at the end -/
def trim : List Rat → List Rat
  | [] => []
  | a :: l => if trim l = [] ∧ a = 0 then [] else a :: trim l
theorem trim_zero : ∀ l : List Rat, trim (l ++ [0]) = trim l
  | [] => by simp [trim]
  | a :: l => by
    show trim (a :: (l ++ [0])) = trim (a :: l)
    unfold trim
    rw [trim_zero l]
theorem trim_ne {x : Rat} (h : x ≠ 0) : ∀ l : List Rat, trim (l ++ [x]) = l ++ [x]
  | [] => by simp [trim, h]
  | a :: l => by
    show trim (a :: (l ++ [x])) = a :: (l ++ [x])
    unfold trim
    rw [trim_ne h l]
    simp
theorem trim_last {l : List Rat} (h : ∀ x, l.getLast? = some x → x ≠ 0) : trim l = l := by
  rcases List.eq_nil_or_concat l with rfl | ⟨pre, x, rfl⟩
  · rfl
  · rw [List.concat_eq_append] at *
    exact trim_ne (h x (by simp)) pre
theorem trim_sub : ∀ {l : List Rat} {x : Rat}, x ∈ trim l → x ∈ l
  | [], x, h => h
  | a :: l, x, h => by
    unfold trim at h
    split at h
    · cases h
    · rcases List.mem_cons.mp h with rfl | h
      · exact List.mem_cons_self
      · exact List.mem_cons_of_mem _ (trim_sub h)
theorem trim_len : ∀ l : List Rat, (trim l).length ≤ l.length
  | [] => Nat.le_refl _
  | a :: l => by
    unfold trim
    split
    · simp
    · have := trim_len l
      simp
      omega
theorem trim_end : ∀ {l : List Rat} {x : Rat}, (trim l).getLast? = some x → x ≠ 0
  | [], x, h => by cases h
  | a :: l, x, h => by
    unfold trim at h
    split at h
    · cases h
    · rename_i hn
      cases ht : trim l with
      | nil =>
        rw [ht] at h hn
        simp at h hn
        subst h
        exact hn
      | cons b m =>
        refine trim_end (l := l) ?_
        rw [ht] at h ⊢
        simpa using h
theorem take_one {α : Type} {l : List α} {k : Nat} {x : α} (h : l[k]? = some x) : l.take (k + 1) = l.take k ++ [x] := by
  rw [List.take_add_one, h]
  rfl

/-! ### the fractions' functions -/
structure Ops (fs ft : FN) : Prop where
  s : ∀ (a b : Rat) (S : Sto) (k l : Nat), Sz k a → Sz l b → 1 ≤ k → 1 ≤ l → k + l ≤ 2000 → fs [fr a, fr b] S = .ok (fr (a + b)) S
  t : ∀ (a b : Rat) (S : Sto) (k l : Nat), Sz k a → Sz l b → k + l ≤ 2000 → ft [fr a, fr b] S = .ok (fr (a * b)) S

/-! ### the product's loops -/
def rowAdd : List Rat → Rat → List Rat → List Rat
  | f :: fs, a, m :: ms => (f + a * m) :: rowAdd fs a ms
  | [], _, _ => []
  | f :: fs, _, [] => f :: fs
theorem rowAdd_nil (fs : List Rat) (a : Rat) : rowAdd fs a [] = fs := by cases fs <;> rfl
theorem rowAdd_len : ∀ (fs : List Rat) (a : Rat) (ms : List Rat), (rowAdd fs a ms).length = fs.length
  | [], _, _ => rfl
  | f :: fs, a, [] => rfl
  | f :: fs, a, m :: ms => by simp [rowAdd, rowAdd_len fs a ms]
theorem rowAdd_sz {c w : Nat} {a : Rat} : ∀ {fs ms : List Rat}, (∀ x ∈ fs, Sz c x) → (∀ m ∈ ms, Sz w (a * m)) → 1 ≤ c → 1 ≤ w → ∀ x ∈ rowAdd fs a ms, Sz (c + w) x
  | [], _, _, _, _, _, x, hx => by cases hx
  | f :: fs, [], h1, h2, hc, hw, x, hx => (h1 x hx).up (by omega)
  | f :: fs, m :: ms, h1, h2, hc, hw, x, hx => by
    rcases List.mem_cons.mp hx with rfl | hx
    · exact (h1 f List.mem_cons_self).add (h2 m List.mem_cons_self) hc hw
    · exact rowAdd_sz (fun y hy => h1 y (List.mem_cons_of_mem _ hy)) (fun y hy => h2 y (List.mem_cons_of_mem _ hy)) hc hw x hx
def row (found : List Rat) (p : Nat) (a : Rat) (ms : List Rat) : List Rat := found.take p ++ rowAdd (found.drop p) a ms
theorem row_len {found : List Rat} {p : Nat} {a : Rat} {ms : List Rat} : (row found p a ms).length = found.length := by
  unfold row
  rw [List.length_append, rowAdd_len, List.length_take, List.length_drop]
  omega
theorem row_step {found : List Rat} {p : Nat} {a f m : Rat} {ms : List Rat} (h : found[p]? = some f) : row found p a (m :: ms) = row (found.set p (f + a * m)) (p + 1) a ms := by
  have hp := (List.getElem?_eq_some_iff.mp h).1
  have e1 : found.drop p = f :: found.drop (p + 1) := by
    rw [List.drop_eq_getElem_cons hp]
    rw [List.getElem?_eq_getElem hp] at h
    cases h
    rfl
  have e2 : (found.set p (f + a * m)).take (p + 1) = found.take p ++ [f + a * m] := by
    rw [take_one (x := f + a * m) (by rw [List.getElem?_set_self hp])]
    rw [List.take_set_of_le (Nat.le_refl _)]
  have e3 : (found.set p (f + a * m)).drop (p + 1) = found.drop (p + 1) := by rw [List.drop_set_of_lt (by omega)]
  unfold row
  rw [e1, e2, e3]
  simp [rowAdd]
def enumF (j : Nat) : List D → List D
  | [] => []
  | d :: ds => pairD (.int (j : Nat)) d :: enumF (j + 1) ds
theorem enumF_get : ∀ (ds : List D) (j i : Nat), (enumF j ds)[i]? = (ds[i]?).map fun d => pairD (.int ((j + i : Nat) : Int)) d
  | [], _, _ => by simp [enumF]
  | d :: ds, j, 0 => by simp [enumF]
  | d :: ds, j, i + 1 => by
    show (enumF (j + 1) ds)[i]? = _
    rw [enumF_get ds (j + 1) i, show j + 1 + i = j + (i + 1) by omega]
    rfl
theorem enumD_F (ds : List D) : enumD ds = enumF 0 ds := by
  apply List.ext_getElem?
  intro i
  rw [enumF_get]
  cases h : ds[i]? with
  | none =>
    rw [List.getElem?_eq_none (by rw [enumD_len]; exact List.getElem?_eq_none_iff.mp h)]
    rfl
  | some d =>
    rw [enumD_get h]
    simp
section
variable {fs ft : FN}
abbrev mBody (fs ft : FN) : Fst := sPut (dCall fs 2 (aCons (d2 dAt (dVar 2) (d2 dAdd (dVar 3) (dVar 5))) (aCons (dCall ft 2 (aCons (dVar 4) (aCons (dVar 6) aNil))) aNil))) (dVar 2) (d2 dAdd (dVar 3) (dVar 5))
theorem inner_ok (O : Ops fs ft) {n i c k l : Nat} {a : Rat} {A B : Option D} {ok : Sto → Bool} {Q : Fl → Sto → Prop} (ha : Sz k a) (hk : 1 ≤ k) (hc : 1 ≤ c) (hckl : c + (k + l) ≤ 2000) (hok : ∀ T, ok T = true) :
    ∀ {ms found : List Rat} {j : Nat} {S : Sto} {x y : Option D}, S[n]? = some (.lst (found.map fr)) → (∀ m ∈ ms, Sz l m) → (∀ z ∈ found.drop (i + j), Sz c z) → i + j + ms.length ≤ found.length →
      (∀ x y, Q (.nx [A, B, some (.ref n), some (.int (i : Int)), some (fr a), x, y]) (S.set n (.lst ((row found (i + j) a ms).map fr)))) →
      WpS (forL ok (.tp (.cons (.nm 5) (.cons (.nm 6) .nil))) (mBody fs ft) (enumF j (ms.map fr)) [A, B, some (.ref n), some (.int (i : Int)), some (fr a), x, y] S) Q
  | [], found, j, S, x, y, hS, hm, hf, hl, hq => by
    show Q (.nx _) S
    have := hq x y
    have e : row found (i + j) a [] = found := by unfold row; rw [rowAdd_nil, List.take_append_drop]
    rw [e] at this
    have es : S.set n (.lst (found.map fr)) = S := by
      apply List.ext_getElem?
      intro p
      by_cases hp : p = n
      · subst hp; rw [set_get hS, hS]
      · rw [List.getElem?_set_ne (Ne.symm hp)]
    rw [es] at this
    exact this
  | m :: ms, found, j, S, x, y, hS, hm, hf, hl, hq => by
    have hp : i + j < found.length := by simp at hl; omega
    obtain ⟨f, hfp⟩ : ∃ f, found[i + j]? = some f := ⟨_, List.getElem?_eq_getElem hp⟩
    have hfm : (found.map fr)[i + j]? = some (fr f) := by rw [List.getElem?_map, hfp]; rfl
    have szf : Sz c f := hf f (by
      rw [List.drop_eq_getElem_cons hp]
      rw [List.getElem?_eq_getElem hp] at hfp
      cases hfp
      exact List.mem_cons_self)
    have szm : Sz l m := hm m List.mem_cons_self
    have ht := O.t a m S k l ha szm (by omega)
    have hs := O.s f (a * m) S c (k + l) szf (ha.mul szm) hc (by omega) hckl
    have ej : ((i : Int) + (j : Int)) = ((i + j : Nat) : Int) := by omega
    have hat : L2.atI (found.map fr) ((i + j : Nat) : Int) = some (fr f) := by rw [atI_nat, hfm]
    have hix : L2.ixN (found.map fr).length ((i + j : Nat) : Int) = some (i + j) := by
      unfold L2.ixN
      have : ((i + j : Nat) : Int) < ((found.map fr).length : Int) := by rw [List.length_map]; omega
      rw [if_pos (by omega), if_pos this, Int.toNat_natCast]
    show WpS (forL ok _ (mBody fs ft) (pairD (.int (j : Nat)) (fr m) :: enumF (j + 1) (ms.map fr)) _ S) Q
    unfold forL
    show WpS (match mBody fs ft [A, B, some (.ref n), some (.int (i : Int)), some (fr a), some (.int (j : Int)), some (fr m)] S with
      | .fl (.nx ρ2) S2 => if ok S2 = true then forL ok (.tp (.cons (.nm 5) (.cons (.nm 6) .nil))) (mBody fs ft) (enumF (j + 1) (ms.map fr)) ρ2 S2 else .stuck
      | .fl (.ct ρ2) S2 => if ok S2 = true then forL ok (.tp (.cons (.nm 5) (.cons (.nm 6) .nil))) (mBody fs ft) (enumF (j + 1) (ms.map fr)) ρ2 S2 else .stuck
      | .fl (.brk ρ2) S2 => .fl (.nx ρ2) S2
      | r => r) Q
    have eb : mBody fs ft [A, B, some (.ref n), some (.int (i : Int)), some (fr a), some (.int (j : Int)), some (fr m)] S =
        .fl (.nx [A, B, some (.ref n), some (.int (i : Int)), some (fr a), some (.int (j : Int)), some (fr m)]) (S.set n (.lst ((found.set (i + j) (f + a * m)).map fr))) := by
      have key : WpS (mBody fs ft [A, B, some (.ref n), some (.int (i : Int)), some (fr a), some (.int (j : Int)), some (fr m)] S) fun fl T =>
          fl = .nx [A, B, some (.ref n), some (.int (i : Int)), some (fr a), some (.int (j : Int)), some (fr m)] ∧ T = S.set n (.lst ((found.set (i + j) (f + a * m)).map fr)) := by
        rw [← ej] at hat hix
        rw [List.length_map] at hix
        simp [dAt_ref hS, hat, ht, hs, putD_ref hS, hix, List.map_set]
      generalize hr : mBody fs ft [A, B, some (.ref n), some (.int (i : Int)), some (fr a), some (.int (j : Int)), some (fr m)] S = r at key
      cases r with
      | fl x T => obtain ⟨rfl, rfl⟩ := key; rfl
      | exc x ρ T => exact key.elim
      | stuck => exact key.elim
    rw [eb]
    show WpS (if ok _ = true then _ else _) Q
    rw [if_pos (hok _)]
    have hS2 := set_get (o' := SO.lst ((found.set (i + j) (f + a * m)).map fr)) hS
    refine inner_ok O ha hk hc hckl hok (j := j + 1) hS2 (fun z hz => hm z (List.mem_cons_of_mem _ hz)) (fun z hz => ?_) (by simp at hl ⊢; omega) fun x y => ?_
    · rw [show i + (j + 1) = i + j + 1 by omega, List.drop_set_of_lt (by omega)] at hz
      exact hf z (List.mem_of_mem_drop (i := 1) (by rw [List.drop_drop]; exact hz))
    · rw [List.set_set, show i + (j + 1) = i + j + 1 by omega, ← row_step hfp]
      exact hq x y
def mulL (i : Nat) : List Rat → List Rat → List Rat → List Rat
  | [], _, found => found
  | a :: l, ms, found => mulL (i + 1) l ms (row found i a ms)
theorem mulL_len : ∀ (l : List Rat) (i : Nat) (ms found : List Rat), (mulL i l ms found).length = found.length
  | [], _, _, _ => rfl
  | a :: l, i, ms, found => by
    show (mulL (i + 1) l ms (row found i a ms)).length = _
    rw [mulL_len l, row_len]
theorem row_sz {c w p : Nat} {a : Rat} {found ms : List Rat} (h1 : ∀ x ∈ found, Sz c x) (h2 : ∀ m ∈ ms, Sz w (a * m)) (hc : 1 ≤ c) (hw : 1 ≤ w) : ∀ x ∈ row found p a ms, Sz (c + w) x := by
  intro x hx
  rcases List.mem_append.mp hx with hx | hx
  · exact (h1 x (List.mem_of_mem_take hx)).up (by omega)
  · exact rowAdd_sz (fun y hy => h1 y (List.mem_of_mem_drop hy)) h2 hc hw x hx
theorem mulL_sz {k l : Nat} {ms : List Rat} (hm : ∀ m ∈ ms, Sz l m) (hk : 1 ≤ k) : ∀ {as found : List Rat} {i c : Nat}, (∀ a ∈ as, Sz k a) → (∀ x ∈ found, Sz c x) → 1 ≤ c → ∀ x ∈ mulL i as ms found, Sz (c + (k + l) * as.length) x
  | [], found, i, c, _, hf, _, x, hx => by simpa using hf x hx
  | a :: as, found, i, c, ha, hf, hc, x, hx => by
    have h1 := row_sz (p := i) (a := a) hf (fun m hmm => (ha a List.mem_cons_self).mul (hm m hmm)) hc (by omega)
    have := mulL_sz hm hk (fun y hy => ha y (List.mem_cons_of_mem _ hy)) h1 (by omega) x hx
    refine this.up ?_
    rw [List.length_cons, Nat.mul_succ]
    omega
abbrev mOuter (fs ft : FN) : Fst := sFor (iEn (aCons (dVar 1) aNil)) (.tp (.cons (.nm 5) (.cons (.nm 6) .nil))) (mBody fs ft)
theorem outer_ok (O : Ops fs ft) {n k l : Nat} {ms : List Rat} {A : Option D} {ok : Sto → Bool} {Q : Fl → Sto → Prop} (hk : 1 ≤ k) (hl : 1 ≤ l) (hm : ∀ m ∈ ms, Sz l m) (hok : ∀ T, ok T = true) :
    ∀ {as found : List Rat} {i c : Nat} {S : Sto} {u v x y : Option D}, S[n]? = some (.lst (found.map fr)) → (∀ a ∈ as, Sz k a) → (∀ z ∈ found, Sz c z) → 1 ≤ c → c + (k + l) * as.length ≤ 2000 → i + as.length + ms.length ≤ found.length →
      (∀ u v x y, Q (.nx [A, some (.tup (ms.map fr)), some (.ref n), u, v, x, y]) (S.set n (.lst ((mulL i as ms found).map fr)))) →
      WpS (forL ok (.tp (.cons (.nm 3) (.cons (.nm 4) .nil))) (mOuter fs ft) (enumF i (as.map fr)) [A, some (.tup (ms.map fr)), some (.ref n), u, v, x, y] S) Q
  | [], found, i, c, S, u, v, x, y, hS, ha, hf, hc, hw, hlen, hq => by
    show Q (.nx _) S
    have := hq u v x y
    have es : S.set n (.lst (found.map fr)) = S := by
      apply List.ext_getElem?
      intro p
      by_cases hp : p = n
      · subst hp; rw [set_get hS, hS]
      · rw [List.getElem?_set_ne (Ne.symm hp)]
    rw [show mulL i [] ms found = found from rfl, es] at this
    exact this
  | a :: as, found, i, c, S, u, v, x, y, hS, ha, hf, hc, hw, hlen, hq => by
    have sza : Sz k a := ha a List.mem_cons_self
    rw [List.length_cons, Nat.mul_succ] at hw
    have eb : ∃ x y, mOuter fs ft [A, some (.tup (ms.map fr)), some (.ref n), some (.int (i : Int)), some (fr a), x, y] S = mOuter fs ft [A, some (.tup (ms.map fr)), some (.ref n), some (.int (i : Int)), some (fr a), x, y] S := ⟨x, y, rfl⟩
    have key : WpS (mOuter fs ft [A, some (.tup (ms.map fr)), some (.ref n), some (.int (i : Int)), some (fr a), x, y] S) fun fl T =>
        ∃ x y, fl = .nx [A, some (.tup (ms.map fr)), some (.ref n), some (.int (i : Int)), some (fr a), x, y] ∧ T = S.set n (.lst ((row found i a ms).map fr)) := by
      unfold mOuter
      rw [wps_for]
      simp only [wp_iEn, wp_cons, wp_nil, wp_var, List.getElem?_cons_zero, List.getElem?_cons_succ, enumS_tup, wp_ok]
      rw [enumD_F]
      refine inner_ok O sza hk hc (by omega) (fun _ => rfl) (j := 0) hS hm (fun z hz => hf z (List.mem_of_mem_drop hz)) (by simp at hlen; omega) fun x y => ⟨x, y, rfl, rfl⟩
    show WpS (forL ok _ (mOuter fs ft) (pairD (.int (i : Nat)) (fr a) :: enumF (i + 1) (as.map fr)) _ S) Q
    unfold forL
    show WpS (match mOuter fs ft [A, some (.tup (ms.map fr)), some (.ref n), some (.int (i : Int)), some (fr a), x, y] S with
      | .fl (.nx ρ2) S2 => if ok S2 = true then forL ok (.tp (.cons (.nm 3) (.cons (.nm 4) .nil))) (mOuter fs ft) (enumF (i + 1) (as.map fr)) ρ2 S2 else .stuck
      | .fl (.ct ρ2) S2 => if ok S2 = true then forL ok (.tp (.cons (.nm 3) (.cons (.nm 4) .nil))) (mOuter fs ft) (enumF (i + 1) (as.map fr)) ρ2 S2 else .stuck
      | .fl (.brk ρ2) S2 => .fl (.nx ρ2) S2
      | r => r) Q
    generalize hr : mOuter fs ft [A, some (.tup (ms.map fr)), some (.ref n), some (.int (i : Int)), some (fr a), x, y] S = r at key
    cases r with
    | exc x ρ T => exact key.elim
    | stuck => exact key.elim
    | fl fl T =>
      obtain ⟨x, y, rfl, rfl⟩ := key
      show WpS (if ok _ = true then _ else _) Q
      rw [if_pos (hok _)]
      refine outer_ok O hk hl hm hok (i := i + 1) (c := c + (k + l)) (set_get hS) (fun z hz => ha z (List.mem_cons_of_mem _ hz)) (row_sz hf (fun m hmm => sza.mul (hm m hmm)) hc (by omega)) (by omega) (by omega) (by rw [row_len]; simp at hlen; omega) fun u v x y => ?_
      rw [List.set_set]
      exact hq u v x y

/-! ### the value's loop -/
theorem value_ok (O : Ops fs ft) {k l : Nat} {X : Rat} {A : Option D} {ok : Sto → Bool} {Q : Fl → Sto → Prop} (hx : Sz k X) (hl : 1 ≤ l) (hok : ∀ T, ok T = true) :
    ∀ {as : List Rat} {f : Rat} {c : Nat} {S : Sto} {x : Option D}, (∀ a ∈ as, Sz l a) → Sz c f → 1 ≤ c → c + (k + l) * as.length ≤ 2000 →
      (∀ x, Q (.nx [A, some (fr X), some (fr (as.foldl (fun g e => g * X + e) f)), x]) S) →
      WpS (forL ok (.nm 3) (sSet 2 (dCall fs 2 (aCons (dCall ft 2 (aCons (dVar 2) (aCons (dVar 1) aNil))) (aCons (dVar 3) aNil)))) (as.map fr) [A, some (fr X), some (fr f), x] S) Q
  | [], f, c, S, x, ha, hf, hc, hw, hq => hq x
  | a :: as, f, c, S, x, ha, hf, hc, hw, hq => by
    have sza : Sz l a := ha a List.mem_cons_self
    rw [List.length_cons, Nat.mul_succ] at hw
    have ht := O.t f X S c k hf hx (by omega)
    have hs := O.s (f * X) a S (c + k) l (hf.mul hx) sza (by omega) hl (by omega)
    show WpS (forL ok _ _ (fr a :: as.map fr) _ S) Q
    unfold forL
    have eb : sSet 2 (dCall fs 2 (aCons (dCall ft 2 (aCons (dVar 2) (aCons (dVar 1) aNil))) (aCons (dVar 3) aNil))) [A, some (fr X), some (fr f), some (fr a)] S = .fl (.nx [A, some (fr X), some (fr (f * X + a)), some (fr a)]) S := by
      have key : WpS (sSet 2 (dCall fs 2 (aCons (dCall ft 2 (aCons (dVar 2) (aCons (dVar 1) aNil))) (aCons (dVar 3) aNil))) [A, some (fr X), some (fr f), some (fr a)] S) fun fl T => fl = .nx [A, some (fr X), some (fr (f * X + a)), some (fr a)] ∧ T = S := by
        simp [ht, hs]
      generalize hr : sSet 2 (dCall fs 2 (aCons (dCall ft 2 (aCons (dVar 2) (aCons (dVar 1) aNil))) (aCons (dVar 3) aNil))) [A, some (fr X), some (fr f), some (fr a)] S = r at key
      cases r with
      | fl x T => obtain ⟨rfl, rfl⟩ := key; rfl
      | exc x ρ T => exact key.elim
      | stuck => exact key.elim
    show WpS (match sSet 2 (dCall fs 2 (aCons (dCall ft 2 (aCons (dVar 2) (aCons (dVar 1) aNil))) (aCons (dVar 3) aNil))) [A, some (fr X), some (fr f), some (fr a)] S with
      | .fl (.nx ρ2) S2 => if ok S2 = true then forL ok (.nm 3) (sSet 2 (dCall fs 2 (aCons (dCall ft 2 (aCons (dVar 2) (aCons (dVar 1) aNil))) (aCons (dVar 3) aNil)))) (as.map fr) ρ2 S2 else .stuck
      | .fl (.ct ρ2) S2 => if ok S2 = true then forL ok (.nm 3) (sSet 2 (dCall fs 2 (aCons (dCall ft 2 (aCons (dVar 2) (aCons (dVar 1) aNil))) (aCons (dVar 3) aNil)))) (as.map fr) ρ2 S2 else .stuck
      | .fl (.brk ρ2) S2 => .fl (.nx ρ2) S2
      | r => r) Q
    rw [eb]
    show WpS (if ok _ = true then _ else _) Q
    rw [if_pos (hok _)]
    exact value_ok O hx hl hok (c := c + k + l) (fun z hz => ha z (List.mem_cons_of_mem _ hz)) ((hf.mul hx).add sza (by omega) hl) (by omega) (by omega) hq
end
theorem fold_sz {k l : Nat} {X : Rat} (hx : Sz k X) (hl : 1 ≤ l) : ∀ {as : List Rat} {f : Rat} {c : Nat}, (∀ a ∈ as, Sz l a) → Sz c f → 1 ≤ c → Sz (c + (k + l) * as.length) (as.foldl (fun g e => g * X + e) f)
  | [], f, c, _, hf, _ => by simpa using hf
  | a :: as, f, c, ha, hf, hc => by
    have := fold_sz hx hl (fun z hz => ha z (List.mem_cons_of_mem _ hz)) ((hf.mul hx).add (ha a List.mem_cons_self) (by omega) hl) (by omega)
    refine this.up ?_
    rw [List.length_cons, Nat.mul_succ]
    omega
end MP
set_option Elab.async false
set_option linter.all false
set_option maxRecDepth 100000
set_option maxHeartbeats 4000000
/-! Polynomials: the algebra, by sums with weights. -/
namespace MP
open PySem

/-- the sum of l's items, each with its place's weight -/
def phi (w : Nat → Rat) : List Rat → Rat
  | [] => 0
  | a :: l => a * w 0 + phi (fun i => w (i + 1)) l
theorem phi_cons {w : Nat → Rat} {a : Rat} {l : List Rat} : phi w (a :: l) = a * w 0 + phi (fun i => w (i + 1)) l := rfl
theorem phi_nil {w : Nat → Rat} : phi w [] = 0 := rfl
theorem pow_add' (X : Rat) (i : Nat) : ∀ j : Nat, X ^ (i + j) = X ^ i * X ^ j
  | 0 => by rw [Nat.add_zero, Rat.pow_zero, Rat.mul_one]
  | j + 1 => by rw [← Nat.add_assoc, Rat.pow_succ, Rat.pow_succ, pow_add' X i j]; grind
theorem phi_congr {u w : Nat → Rat} (h : ∀ i, u i = w i) (l : List Rat) : phi u l = phi w l := by rw [show u = w from funext h]
theorem phi_add : ∀ (l : List Rat) (u v : Nat → Rat), phi (fun i => u i + v i) l = phi u l + phi v l
  | [], u, v => by simp only [phi_nil]; grind
  | a :: l, u, v => by
    unfold phi
    rw [phi_add l]
    grind
theorem phi_mul : ∀ (l : List Rat) (c : Rat) (u : Nat → Rat), phi (fun i => c * u i) l = c * phi u l
  | [], c, u => by simp [phi]
  | a :: l, c, u => by
    unfold phi
    rw [phi_mul l]
    grind
theorem phi_zero : ∀ (l : List Rat), phi (fun _ => 0) l = 0
  | [] => rfl
  | a :: l => by
    rw [phi_cons, phi_zero l]
    grind
theorem phi_app : ∀ (l m : List Rat) (w : Nat → Rat), phi w (l ++ m) = phi w l + phi (fun i => w (l.length + i)) m
  | [], m, w => by
    show phi w m = 0 + phi (fun i => w (0 + i)) m
    rw [phi_congr (fun i => by rw [Nat.zero_add] : ∀ i, w (0 + i) = w i)]
    grind
  | a :: l, m, w => by
    show a * w 0 + phi (fun i => w (i + 1)) (l ++ m) = (a * w 0 + phi (fun i => w (i + 1)) l) + phi (fun i => w ((a :: l).length + i)) m
    rw [phi_app l m]
    have : phi (fun i => w (l.length + i + 1)) m = phi (fun i => w ((a :: l).length + i)) m := phi_congr (fun i => by rw [List.length_cons, show l.length + i + 1 = l.length + 1 + i by omega]) m
    rw [this]
    grind
theorem phi_rep : ∀ (n : Nat) (w : Nat → Rat), phi w (List.replicate n 0) = 0
  | 0, w => rfl
  | n + 1, w => by
    rw [List.replicate_succ]
    rw [phi_cons, phi_rep n]
    grind
theorem phi_trim : ∀ (l : List Rat) (w : Nat → Rat), phi w (trim l) = phi w l
  | [], w => rfl
  | a :: l, w => by
    have ih := phi_trim l (fun i => w (i + 1))
    unfold trim
    split
    · rename_i h
      show 0 = a * w 0 + phi (fun i => w (i + 1)) l
      rw [← ih, h.1, h.2, phi_nil]
      grind
    · show a * w 0 + phi (fun i => w (i + 1)) (trim l) = a * w 0 + phi (fun i => w (i + 1)) l
      rw [ih]
theorem phi_zip : ∀ (l m : List Rat) (w : Nat → Rat), l.length = m.length → phi w (List.zipWith (· + ·) l m) = phi w l + phi w m
  | [], [], w, _ => by simp only [List.zipWith_nil_left, phi_nil]; grind
  | [], _ :: _, w, h => by cases h
  | _ :: _, [], w, h => by cases h
  | a :: l, b :: m, w, h => by
    rw [List.zipWith_cons_cons]
    unfold phi
    rw [phi_zip l m _ (by simpa using h)]
    grind
theorem phi_rowAdd : ∀ (fs ms : List Rat) (a : Rat) (w : Nat → Rat), ms.length ≤ fs.length → phi w (rowAdd fs a ms) = phi w fs + a * phi w ms
  | [], [], a, w, _ => by simp only [rowAdd, phi_nil]; grind
  | [], _ :: _, a, w, h => by simp at h
  | f :: fs, [], a, w, _ => by simp only [rowAdd, phi_nil]; grind
  | f :: fs, m :: ms, a, w, h => by
    unfold rowAdd phi
    rw [phi_rowAdd fs ms a _ (by simpa using h)]
    grind
theorem phi_row {found ms : List Rat} {p : Nat} {a : Rat} {w : Nat → Rat} (h : p + ms.length ≤ found.length) : phi w (row found p a ms) = phi w found + a * phi (fun j => w (p + j)) ms := by
  unfold row
  have hl : (found.take p).length = p := by rw [List.length_take]; omega
  rw [phi_app, hl, phi_rowAdd _ _ _ _ (by rw [List.length_drop]; omega)]
  have : phi w found = phi w (found.take p ++ found.drop p) := by rw [List.take_append_drop]
  rw [this, phi_app, hl]
  grind
theorem phi_mulL : ∀ (as : List Rat) (i : Nat) (ms found : List Rat) (w : Nat → Rat), i + as.length + ms.length ≤ found.length → phi w (mulL i as ms found) = phi w found + phi (fun k => phi (fun j => w (i + k + j)) ms) as
  | [], i, ms, found, w, h => by
    show phi w found = phi w found + 0
    grind
  | a :: as, i, ms, found, w, h => by
    show phi w (mulL (i + 1) as ms (row found i a ms)) = _
    simp at h
    rw [phi_mulL as (i + 1) ms _ w (by rw [row_len]; omega), phi_row (by omega)]
    have e1 : phi (fun k => phi (fun j => w (i + 1 + k + j)) ms) as = phi (fun k => phi (fun j => w (i + (k + 1) + j)) ms) as := phi_congr (fun k => phi_congr (fun j => by rw [show i + 1 + k + j = i + (k + 1) + j by omega]) ms) as
    have e2 : phi (fun k => phi (fun j => w (i + k + j)) ms) (a :: as) = a * phi (fun j => w (i + 0 + j)) ms + phi (fun k => phi (fun j => w (i + (k + 1) + j)) ms) as := rfl
    rw [e1, e2, Nat.add_zero]
    grind
/-- the sums may be swapped -/
theorem phi_swap : ∀ (l m : List Rat) (W : Nat → Nat → Rat), phi (fun i => phi (fun j => W i j) m) l = phi (fun j => phi (fun i => W i j) l) m
  | [], m, W => by
    show (0 : Rat) = phi (fun _ => 0) m
    rw [phi_zero]
  | a :: l, m, W => by
    have e1 : phi (fun i => phi (fun j => W i j) m) (a :: l) = a * phi (fun j => W 0 j) m + phi (fun i => phi (fun j => W (i + 1) j) m) l := rfl
    have e2 : phi (fun j => phi (fun i => W i j) (a :: l)) m = phi (fun j => a * W 0 j + phi (fun i => W (i + 1) j) l) m := rfl
    rw [e1, e2, phi_add, phi_mul, phi_swap l m fun i j => W (i + 1) j]

/-! ### trimmed lists are told by their sums -/
theorem phi_delta : ∀ (l : List Rat) (k : Nat), phi (fun i => if i = k then 1 else 0) l = l.getD k 0
  | [], k => by simp [phi]
  | a :: l, 0 => by
    unfold phi
    rw [phi_congr (w := fun _ => 0) (fun i => by simp), phi_zero]
    simp
    grind
  | a :: l, k + 1 => by
    unfold phi
    have := phi_delta l k
    simp
    simp at this
    rw [this]
    grind
theorem trim_all0 : ∀ (l : List Rat), (∀ k, l.getD k 0 = 0) → trim l = []
  | [], _ => rfl
  | a :: l, h => by
    have h0 : a = 0 := by simpa using h 0
    have := trim_all0 l fun k => by simpa using h (k + 1)
    unfold trim
    rw [if_pos ⟨this, h0⟩]
theorem trim_getD : ∀ (l m : List Rat), (∀ k, l.getD k 0 = m.getD k 0) → trim l = trim m
  | [], m, h => by rw [trim_all0 m fun k => by simpa using (h k).symm]; rfl
  | a :: l, [], h => trim_all0 (a :: l) fun k => by simpa using h k
  | a :: l, b :: m, h => by
    have h0 : a = b := by simpa using h 0
    have := trim_getD l m fun k => by simpa using h (k + 1)
    unfold trim
    rw [this, h0]
theorem trim_phi {l m : List Rat} (h : ∀ w, phi w l = phi w m) : trim l = trim m := trim_getD l m fun k => by rw [← phi_delta, ← phi_delta, h]

/-! ### sum, product, value, derivative -/
def pad (n : Nat) (l : List Rat) : List Rat := l ++ List.replicate (n - l.length) 0
def sumL (l m : List Rat) : List Rat := List.zipWith (· + ·) (pad (max l.length m.length) l) (pad (max l.length m.length) m)
def prodL (l m : List Rat) : List Rat := mulL 0 l m (List.replicate (l.length + m.length) 0)
def valL (X : Rat) (l : List Rat) : Rat := l.reverse.foldl (fun g e => g * X + e) 0
def der (j : Nat) : List Rat → List Rat
  | [] => []
  | a :: l => (a * (j : Rat)) :: der (j + 1) l
def derL (l : List Rat) : List Rat := (der 0 l).drop 1
theorem phi_pad {n : Nat} {l : List Rat} {w : Nat → Rat} : phi w (pad n l) = phi w l := by
  unfold pad
  rw [phi_app, phi_rep]
  grind
theorem phi_sum (l m : List Rat) (w : Nat → Rat) : phi w (sumL l m) = phi w l + phi w m := by
  unfold sumL
  rw [phi_zip _ _ _ (by unfold pad; simp; omega), phi_pad, phi_pad]
theorem phi_prod (l m : List Rat) (w : Nat → Rat) : phi w (prodL l m) = phi (fun i => phi (fun j => w (i + j)) m) l := by
  unfold prodL
  rw [phi_mulL _ _ _ _ _ (by simp), phi_rep]
  have : phi (fun k => phi (fun j => w (0 + k + j)) m) l = phi (fun i => phi (fun j => w (i + j)) m) l := phi_congr (fun k => by rw [Nat.zero_add]) l
  rw [this]
  grind
theorem phi_val (X : Rat) : ∀ l : List Rat, valL X l = phi (fun i => X ^ i) l := by
  intro l
  unfold valL
  rw [List.foldl_reverse]
  induction l with
  | nil => rfl
  | cons a l ih =>
    rw [List.foldr_cons, ih, phi_cons]
    have : phi (fun i => X ^ (i + 1)) l = X * phi (fun i => X ^ i) l := by
      rw [← phi_mul]
      exact phi_congr (fun i => by rw [Rat.pow_succ]; grind) l
    rw [this, Rat.pow_zero]
    grind
theorem phi_der : ∀ (l : List Rat) (j : Nat) (w : Nat → Rat), phi w (der j l) = phi (fun i => ((j + i : Nat) : Rat) * w i) l
  | [], _, _ => rfl
  | a :: l, j, w => by
    unfold der phi
    rw [phi_der l (j + 1)]
    have : phi (fun i => ((j + 1 + i : Nat) : Rat) * w (i + 1)) l = phi (fun i => ((j + (i + 1) : Nat) : Rat) * w (i + 1)) l := phi_congr (fun i => by rw [show j + 1 + i = j + (i + 1) by omega]) l
    rw [this, Nat.add_zero]
    grind
/-- the derivative's weights -/
def wd (w : Nat → Rat) (i : Nat) : Rat := (i : Rat) * w (i - 1)
theorem phi_derL (l : List Rat) (w : Nat → Rat) : phi w (derL l) = phi (wd w) l := by
  unfold derL
  cases l with
  | nil => rfl
  | cons a l =>
    show phi w (der (0 + 1) l) = a * wd w 0 + phi (fun i => wd w (i + 1)) l
    rw [phi_der]
    have e0 : wd w 0 = 0 := by unfold wd; simp
    have : phi (fun i => ((0 + 1 + i : Nat) : Rat) * w i) l = phi (fun i => wd w (i + 1)) l := phi_congr (fun i => by unfold wd; rw [show 0 + 1 + i = i + 1 by omega]; simp) l
    rw [this, e0]
    grind

/-! ### the laws -/
theorem sum_comm (l m : List Rat) : trim (sumL l m) = trim (sumL m l) := trim_phi fun w => by rw [phi_sum, phi_sum]; grind
theorem prod_comm (l m : List Rat) : trim (prodL l m) = trim (prodL m l) := trim_phi fun w => by
  rw [phi_prod, phi_prod, phi_swap l m fun i j => w (i + j)]
  exact phi_congr (fun j => phi_congr (fun i => by rw [Nat.add_comm]) l) m
theorem val_sum (X : Rat) (l m : List Rat) : valL X (trim (sumL l m)) = valL X l + valL X m := by
  rw [phi_val, phi_val, phi_val, phi_trim, phi_sum]
theorem val_prod (X : Rat) (l m : List Rat) : valL X (trim (prodL l m)) = valL X l * valL X m := by
  rw [phi_val, phi_val, phi_val, phi_trim, phi_prod]
  have : phi (fun i => phi (fun j => X ^ (i + j)) m) l = phi (fun i => phi (fun j => X ^ j) m * X ^ i) l := phi_congr (fun i => by
    have : phi (fun j => X ^ (i + j)) m = X ^ i * phi (fun j => X ^ j) m := by
      rw [← phi_mul]
      exact phi_congr (fun j => by rw [pow_add']) m
    rw [this]
    grind) l
  rw [this, phi_mul]
  grind
theorem wd_add (w : Nat → Rat) (i j : Nat) : wd w (i + j) = wd (fun k => w (k + j)) i + wd (fun k => w (i + k)) j := by
  unfold wd
  cases i with
  | zero => simp; grind
  | succ i =>
    cases j with
    | zero => simp; grind
    | succ j =>
      show ((i + 1 + (j + 1) : Nat) : Rat) * w (i + 1 + (j + 1) - 1) = ((i + 1 : Nat) : Rat) * w (i + 1 - 1 + (j + 1)) + ((j + 1 : Nat) : Rat) * w (i + 1 + (j + 1 - 1))
      rw [show i + 1 + (j + 1) - 1 = i + j + 1 by omega, show i + 1 - 1 + (j + 1) = i + j + 1 by omega, show i + 1 + (j + 1 - 1) = i + j + 1 by omega, Rat.natCast_add]
      grind
/-- the derivative of a product -/
theorem leibniz (l m : List Rat) : trim (derL (trim (prodL l m))) = trim (sumL (trim (prodL (trim (derL l)) m)) (trim (prodL l (trim (derL m))))) := trim_phi fun w => by
  rw [phi_derL, phi_trim, phi_prod, phi_sum, phi_trim, phi_trim, phi_prod, phi_prod, phi_trim, phi_derL]
  have e1 : phi (fun i => phi (fun j => w (i + j)) (trim (derL m))) l = phi (fun i => phi (wd fun j => w (i + j)) m) l := phi_congr (fun i => by rw [phi_trim, phi_derL]) l
  rw [e1, ← phi_add]
  refine phi_congr (fun i => ?_) l
  have e2 : wd (fun i => phi (fun j => w (i + j)) m) i = phi (fun j => wd (fun k => w (k + j)) i) m := by
    unfold wd
    rw [← phi_mul]
  rw [e2, ← phi_add]
  exact phi_congr (fun j => wd_add w i j) m
theorem sum_neg (l : List Rat) : trim (sumL l (l.map fun q => q * (-1))) = [] := by
  have h : ∀ w, phi w (l.map fun q => q * (-1)) = - phi w l := by
    induction l with
    | nil => intro w; simp [phi]
    | cons a l ih =>
      intro w
      rw [List.map_cons]
      unfold phi
      rw [ih]
      grind
  have : trim (sumL l (l.map fun q => q * (-1))) = trim [] := trim_phi fun w => by
    rw [phi_sum, h]
    show _ = (0 : Rat)
    grind
  rw [this]; rfl
theorem val_less (X : Rat) (l m : List Rat) : valL X (trim (sumL l (m.map fun q => q * (-1)))) = valL X l + -(valL X m) := by
  have h : ∀ (m : List Rat) w, phi w (m.map fun q => q * (-1)) = - phi w m := by
    intro m
    induction m with
    | nil => intro w; simp [phi]
    | cons a l ih =>
      intro w
      rw [List.map_cons]
      unfold phi
      rw [ih]
      grind
  rw [phi_val, phi_val, phi_val, phi_trim, phi_sum, h]
end MP
set_option Elab.async false
set_option linter.all false
set_option maxRecDepth 100000
set_option maxHeartbeats 4000000
/-! Tables: comprehensions of rows; the algebra of tables by functions of two places. -/
namespace MP
open PySem

/-! ### comprehensions, each element told by a relation that lasts -/
inductive A2 {α β : Type} (P : α → β → Prop) : List α → List β → Prop where
  | nil : A2 P [] []
  | cons {a : α} {b : β} {as : List α} {bs : List β} : P a b → A2 P as bs → A2 P (a :: as) (b :: bs)
theorem A2.length {α β : Type} {P : α → β → Prop} : ∀ {as : List α} {bs : List β}, A2 P as bs → as.length = bs.length
  | _, _, .nil => rfl
  | _, _, .cons _ t => by simp [t.length]
theorem A2.mono {α β : Type} {P P' : α → β → Prop} (h : ∀ a b, P a b → P' a b) : ∀ {as : List α} {bs : List β}, A2 P as bs → A2 P' as bs
  | _, _, .nil => .nil
  | _, _, .cons p t => .cons (h _ _ p) (A2.mono h t)
theorem A2.get {α β : Type} {P : α → β → Prop} : ∀ {as : List α} {bs : List β} {i : Nat} {a : α}, A2 P as bs → as[i]? = some a → ∃ b, bs[i]? = some b ∧ P a b
  | _, _, 0, _, .cons p t, h => by
    cases (show some _ = some _ from h)
    exact ⟨_, rfl, p⟩
  | _, _, i + 1, _, .cons p t, h => A2.get (i := i) t h
theorem A2.map_eq {α β : Type} {g : α → β} : ∀ {as : List α} {bs : List β}, A2 (fun a b => b = g a) as bs → bs = as.map g
  | _, _, .nil => rfl
  | _, _, .cons p t => by rw [List.map_cons, ← p, ← t.map_eq]
theorem lc_rel {α : Type} {P : α → D → Sto → Prop} {ok : Sto → Bool} {t : Tg} {e : Fe} {ρ : Rho} {enc : α → D} {Q : List D → Sto → Prop} (mono : ∀ x y T U, P x y T → Ex T U → P x y U) : ∀ {xs : List α} {S0 S : Sto}, Ex S0 S →
    (∀ x, x ∈ xs → ∀ T, Ex S0 T → ∃ ρ1, setT t (enc x) ρ = some ρ1 ∧ Wp (e ρ1 T) fun y U => P x y U ∧ Ex T U) → (∀ T, Ex S0 T → ok T = true) →
    (∀ ys T, Ex S T → A2 (fun x y => P x y T) xs ys → Q ys T) → Wp (lcL ok t fYes e ρ (xs.map enc) S) Q
  | [], S0, S, h0, he, hok, hq => hq [] S Ex.refl .nil
  | x :: xs, S0, S, h0, he, hok, hq => by
    obtain ⟨ρ1, h1, h2⟩ := he x List.mem_cons_self S h0
    obtain ⟨y, U, h3, h4, h5⟩ := h2.out
    show Wp (lcL ok t fYes e ρ (enc x :: xs.map enc) S) Q
    unfold lcL
    rw [h1]
    show Wp (match e ρ1 S with
      | .ok y S2 => if ok S2 = true then (lcL ok t fYes e ρ (xs.map enc) S2).bind fun ys S3 => .ok (y :: ys) S3 else .stuck
      | _ => .stuck) Q
    rw [h3]
    show Wp (if ok U = true then _ else _) Q
    rw [if_pos (hok U (h0.trans h5)), wp_bind]
    exact lc_rel mono (h0.trans h5) (fun z hz => he z (List.mem_cons_of_mem _ hz)) hok fun ys T hT hys => hq (y :: ys) T (h5.trans hT) (.cons (mono _ _ _ _ h4 hT) hys)
section
variable {α : Type} {f : Fi} {t : Tg} {e : Fe} {vs : List Nat} {ρ : Rho} {S : Sto} {enc : α → D} {g : α → D} {xs : List α} {gd : List (Nat × List D)} {Q : D → Sto → Prop}
/-- tuple([e for t in f]) -/
theorem tup_comp (hf : f ρ S = .ok ⟨xs.map enc, gd⟩ S) (hg : ∀ T, Ex S T → (Src.mk (xs.map enc) gd).ok T = true) (hl : xs.length ≤ 1000000)
    (he : ∀ x, x ∈ xs → ∀ T, Ex S T → ∃ ρ1, setT t (enc x) (wipeR ρ vs) = some ρ1 ∧ Wp (e ρ1 T) fun y U => y = g x ∧ Ex T U) (hq : ∀ T, Ex S T → Q (.tup (xs.map g)) T) :
    Wp (dN nTuple (aCons (dLc f t fYes e vs) aNil) ρ S) Q := by
  rw [wp_dN, wp_cons, wp_lc, hf, wp_ok]
  refine lc_map (S0 := S) Ex.refl he hg fun T hT => ?_
  rw [if_pos (by rw [List.length_map]; unfold sizeLine; omega), wp_nil, nTuple_ref get_new, wp_ok]
  exact hq _ (hT.app _)
/-- [e for t in f], a new list -/
theorem lst_comp (hf : f ρ S = .ok ⟨xs.map enc, gd⟩ S) (hg : ∀ T, Ex S T → (Src.mk (xs.map enc) gd).ok T = true) (hl : xs.length ≤ 1000000)
    (he : ∀ x, x ∈ xs → ∀ T, Ex S T → ∃ ρ1, setT t (enc x) (wipeR ρ vs) = some ρ1 ∧ Wp (e ρ1 T) fun y U => y = g x ∧ Ex T U) (hq : ∀ T n, Ex S T → S.length ≤ n → T[n]? = some (.lst (xs.map g)) → Q (.ref n) T) :
    Wp (dLc f t fYes e vs ρ S) Q := by
  rw [wp_lc, hf, wp_ok]
  refine lc_map (S0 := S) Ex.refl he hg fun T hT => ?_
  rw [if_pos (by rw [List.length_map]; unfold sizeLine; omega)]
  exact hq _ _ (hT.app _) hT.len get_new
/-- .. of places -/
theorem lst_rel {P : α → D → Sto → Prop} (mono : ∀ x y T U, P x y T → Ex T U → P x y U) (hf : f ρ S = .ok ⟨xs.map enc, gd⟩ S) (hg : ∀ T, Ex S T → (Src.mk (xs.map enc) gd).ok T = true) (hl : xs.length ≤ 1000000)
    (he : ∀ x, x ∈ xs → ∀ T, Ex S T → ∃ ρ1, setT t (enc x) (wipeR ρ vs) = some ρ1 ∧ Wp (e ρ1 T) fun y U => P x y U ∧ Ex T U) (hq : ∀ T n ys, Ex S T → S.length ≤ n → T[n]? = some (.lst ys) → A2 (fun x y => P x y T) xs ys → Q (.ref n) T) :
    Wp (dLc f t fYes e vs ρ S) Q := by
  rw [wp_lc, hf, wp_ok]
  refine lc_rel mono (S0 := S) Ex.refl he hg fun ys T hT hys => ?_
  rw [if_pos (by rw [← hys.length]; unfold sizeLine; omega)]
  exact hq _ _ ys (hT.app _) hT.len get_new (hys.mono fun x y h => mono _ _ _ _ h (Ex.refl.app _))
end

/-! ### sums -/
def sumN (h : Nat → Rat) : Nat → Rat
  | 0 => 0
  | n + 1 => sumN h n + h n
theorem sumN_congr {h h' : Nat → Rat} : ∀ {n : Nat}, (∀ i, i < n → h i = h' i) → sumN h n = sumN h' n
  | 0, _ => rfl
  | n + 1, e => by
    show sumN h n + h n = sumN h' n + h' n
    rw [sumN_congr fun i hi => e i (Nat.lt_succ_of_lt hi), e n (Nat.lt_succ_self n)]
theorem sumN_add (h h' : Nat → Rat) : ∀ n : Nat, sumN (fun i => h i + h' i) n = sumN h n + sumN h' n
  | 0 => by show (0 : Rat) = 0 + 0; grind
  | n + 1 => by
    show sumN _ n + (h n + h' n) = sumN h n + h n + (sumN h' n + h' n)
    rw [sumN_add h h' n]
    grind
theorem sumN_mul (c : Rat) (h : Nat → Rat) : ∀ n : Nat, sumN (fun i => c * h i) n = c * sumN h n
  | 0 => by show (0 : Rat) = c * 0; grind
  | n + 1 => by
    show sumN _ n + c * h n = c * (sumN h n + h n)
    rw [sumN_mul c h n]
    grind
theorem sumN_zero : ∀ n : Nat, sumN (fun _ => 0) n = 0
  | 0 => rfl
  | n + 1 => by
    show sumN _ n + 0 = 0
    rw [sumN_zero n]
    grind
theorem sumN_swap (W : Nat → Nat → Rat) (m : Nat) : ∀ n : Nat, sumN (fun i => sumN (fun j => W i j) m) n = sumN (fun j => sumN (fun i => W i j) n) m
  | 0 => by
    show (0 : Rat) = sumN (fun _ => 0) m
    rw [sumN_zero]
  | n + 1 => by
    show sumN _ n + sumN (fun j => W n j) m = sumN (fun j => sumN (fun i => W i j) n + W n j) m
    rw [sumN_swap W m n, sumN_add]
theorem sumN_one (h : Nat → Rat) (k : Nat) : ∀ n : Nat, sumN (fun i => (if k = i then 1 else 0) * h i) n = if k < n then h k else 0
  | 0 => by simp [sumN]
  | n + 1 => by
    show sumN _ n + (if k = n then 1 else 0) * h n = _
    rw [sumN_one h k n]
    by_cases h1 : k = n
    · subst h1
      rw [if_neg (Nat.lt_irrefl k), if_pos rfl, if_pos (Nat.lt_succ_self k)]
      grind
    · by_cases h2 : k < n
      · rw [if_pos h2, if_neg h1, if_pos (by omega)]
        grind
      · rw [if_neg h2, if_neg h1, if_neg (by omega)]
        grind

/-! ### tables by functions -/
def rw_ (c : Nat) (f : Nat → Rat) : List Rat := (List.range c).map f
def tab (r c : Nat) (f : Nat → Nat → Rat) : List (List Rat) := (List.range r).map fun i => rw_ c (f i)
theorem rw_congr {c : Nat} {f g : Nat → Rat} (h : ∀ i, i < c → f i = g i) : rw_ c f = rw_ c g := List.map_congr_left fun i hi => h i (List.mem_range.mp hi)
theorem tab_congr {r c : Nat} {f g : Nat → Nat → Rat} (h : ∀ i j, i < r → j < c → f i j = g i j) : tab r c f = tab r c g := List.map_congr_left fun i hi => rw_congr fun j hj => h i j (List.mem_range.mp hi) hj
theorem rw_of {c : Nat} {l : List Rat} (h : l.length = c) : l = rw_ c fun j => l.getD j 0 := by
  apply List.ext_getElem?
  intro i
  unfold rw_
  by_cases hi : i < c
  · rw [List.getElem?_map, List.getElem?_range hi]
    simp [List.getD, List.getElem?_eq_getElem (h ▸ hi)]
  · rw [List.getElem?_eq_none (by omega), List.getElem?_eq_none (by simp; omega)]
theorem tab_of {r c : Nat} {t : List (List Rat)} (h : t.length = r) (h2 : ∀ l ∈ t, l.length = c) : t = tab r c fun i j => (t.getD i []).getD j 0 := by
  apply List.ext_getElem?
  intro i
  unfold tab
  by_cases hi : i < r
  · have hi' : i < t.length := h ▸ hi
    rw [List.getElem?_map, List.getElem?_range hi, List.getElem?_eq_getElem hi']
    simp only [Option.map_some, Option.some.injEq]
    have := rw_of (h2 t[i] (List.getElem_mem _))
    rw [this]
    refine rw_congr fun j hj => ?_
    simp [List.getD, List.getElem?_eq_getElem hi']
  · rw [List.getElem?_eq_none (by omega), List.getElem?_eq_none (by simp; omega)]
/-- one after another, from 0 -/
theorem fold_rw (f : Nat → Rat) : ∀ c : Nat, (rw_ c f).foldl (· + ·) 0 = sumN f c
  | 0 => rfl
  | c + 1 => by
    unfold rw_
    rw [List.range_succ, List.map_append, List.foldl_append]
    show (rw_ c f).foldl (· + ·) 0 + f c = _
    rw [fold_rw f c]
    rfl
def dotL (a b : List Rat) : Rat := (List.zipWith (· * ·) a b).foldl (· + ·) 0
def turnL (c : Nat) (t : List (List Rat)) : List (List Rat) := (List.range c).map fun j => t.map fun row => row.getD j 0
def mulL2 (c : Nat) (a b : List (List Rat)) : List (List Rat) := a.map fun row => (turnL c b).map fun col => dotL row col
theorem zip_rw (f g : Nat → Rat) (op : Rat → Rat → Rat) (c : Nat) : List.zipWith op (rw_ c f) (rw_ c g) = rw_ c fun i => op (f i) (g i) := by
  unfold rw_
  rw [List.zipWith_map, List.zipWith_self]
theorem dot_rw (f g : Nat → Rat) (c : Nat) : dotL (rw_ c f) (rw_ c g) = sumN (fun i => f i * g i) c := by
  unfold dotL
  rw [zip_rw, fold_rw]
theorem getD_rw {c j : Nat} {f : Nat → Rat} (h : j < c) : (rw_ c f).getD j 0 = f j := by
  unfold rw_
  simp [List.getD, h]
theorem turn_tab {r c : Nat} {f : Nat → Nat → Rat} : turnL c (tab r c f) = tab c r fun j i => f i j := by
  unfold turnL tab
  refine List.map_congr_left fun j hj => ?_
  rw [List.map_map]
  unfold rw_
  refine List.map_congr_left fun i hi => ?_
  exact getD_rw (List.mem_range.mp hj)
theorem mul_tab {r n c : Nat} {f g : Nat → Nat → Rat} : mulL2 c (tab r n f) (tab n c g) = tab r c fun i j => sumN (fun k => f i k * g k j) n := by
  unfold mulL2
  rw [turn_tab]
  unfold tab
  rw [List.map_map]
  refine List.map_congr_left fun i _ => ?_
  show (List.map _ (List.map _ _)) = _
  rw [List.map_map]
  unfold rw_
  refine List.map_congr_left fun j _ => ?_
  exact dot_rw (f i) (fun k => g k j) n
end MP
set_option Elab.async false
set_option linter.all false
set_option maxRecDepth 100000
set_option maxHeartbeats 4000000
namespace K07
open PySem MP
/-! ### fractions -/
theorem fraction_in_ok {t b : Int} {S : Sto} (hb : b ≠ 0) (hl : b.natAbs < 2 ^ 9000) : F_fraction_in [.int t, .int b] S = .ok (fr (Rat.divInt t b)) S := by
  have h1 := shar_ne (t := t) hb
  have h2 : szDiv (shar t b) = true := by
    unfold szDiv
    rw [Bool.and_eq_true, decide_eq_true_eq, decide_eq_true_eq]
    have := shar_log (t := t) hb
    have := (Nat.log2_lt (by omega)).mpr hl
    exact ⟨h1, by omega⟩
  have key : Wp (F_fraction_in [.int t, .int b] S) fun d T => d = fr (Rat.divInt t b) ∧ T = S := by
    unfold F_fraction_in b_fraction_in
    simp [entry, sizeLine]
    by_cases h : 0 < b
    · have e : shar t b = ((Nat.gcd t.natAbs b.natAbs : Nat) : Int) := by unfold shar; rw [if_pos h]
      rw [e] at h2
      have n1 := shar_num (t := t) hb
      have n2 := shar_den (t := t) hb
      rw [e] at n1 n2
      simp [h, h2, fr, n1, n2]
    · have e : shar t b = -((Nat.gcd t.natAbs b.natAbs : Nat) : Int) := by unfold shar; rw [if_neg h]
      rw [e] at h2
      have n1 := shar_num (t := t) hb
      have n2 := shar_den (t := t) hb
      rw [e] at n1 n2
      simp [h, h2, fr, n1, n2]
  obtain ⟨d, T, e, rfl, rfl⟩ := key.out
  exact e


theorem whole_add {a b : Rat} (ha : a.den = 1) (hb : b.den = 1) : fr (a + b) = .tup [.int (a.num + b.num), .int 1] := by
  rw [add_eq, ha, hb]
  unfold fr
  rw [Rat.num_divInt, Rat.den_divInt]
  simp
theorem whole_mul {a b : Rat} (ha : a.den = 1) (hb : b.den = 1) : fr (a * b) = .tup [.int (a.num * b.num), .int 1] := by
  rw [mul_eq, ha, hb]
  unfold fr
  rw [Rat.num_divInt, Rat.den_divInt]
  simp
theorem sum_in_ok {a b : Rat} {S : Sto} {k l : Nat} (ha : Sz k a) (hb : Sz l b) (hk : 1 ≤ k) (hl : 1 ≤ l) (hkl : k + l ≤ 2000) : F_sum_in [fr a, fr b] S = .ok (fr (a + b)) S := by
  have key : Wp (F_sum_in [fr a, fr b] S) fun d T => d = fr (a + b) ∧ T = S := by
    unfold F_sum_in b_sum_in
    simp [entry, sizeLine, fr, L2.atI, L2.ixN]
    have m1 : szMul a.num b.den = true := szMul_of (l := 4 * l) ha.n (by simpa using hb.d) (by omega)
    have m2 : szMul b.num a.den = true := szMul_of (l := 4 * k) hb.n (by simpa using ha.d) (by omega)
    have m3 : szMul a.den b.den = true := szMul_of (k := 4 * k) (l := 4 * l) (by simpa using ha.d) (by simpa using hb.d) (by omega)
    have fx := fraction_in_ok (t := a.num * b.den + b.num * a.den) (S := S) (den0 a b) (Nat.lt_of_lt_of_le (den_sz ha hb) (Nat.pow_le_pow_right (by decide) (by omega)))
    rw [← add_eq] at fx
    by_cases h1 : a.den = 1
    · by_cases h2 : b.den = 1
      · have := whole_add h1 h2
        simp [fr] at this
        have h1' : (a.den : Int) = 1 := by omega
        have h2' : (b.den : Int) = 1 := by omega
        simp [h1', h2', this.1, this.2]
      · have h1' : (a.den : Int) = 1 := by omega
        have h2' : ¬ (b.den : Int) = 1 := by omega
        rw [h1'] at m2 m3 fx
        simp [h1', h2', m1, m2, m3]
        simp at fx
        rw [fx]
        simp [fr]
    · have h1' : ¬ (a.den : Int) = 1 := by omega
      simp [h1', m1, m2, m3]
      rw [fx]
      simp [fr]
  obtain ⟨d, T, e, rfl, rfl⟩ := key.out
  exact e
theorem product_in_ok {a b : Rat} {S : Sto} {k l : Nat} (ha : Sz k a) (hb : Sz l b) (hkl : k + l ≤ 2000) : F_product_in [fr a, fr b] S = .ok (fr (a * b)) S := by
  have key : Wp (F_product_in [fr a, fr b] S) fun d T => d = fr (a * b) ∧ T = S := by
    unfold F_product_in b_product_in
    simp [entry, sizeLine, fr, L2.atI, L2.ixN]
    have m1 : szMul a.num b.num = true := szMul_of ha.n hb.n (by omega)
    have m3 : szMul a.den b.den = true := szMul_of (k := 4 * k) (l := 4 * l) (by simpa using ha.d) (by simpa using hb.d) (by omega)
    have fx := fraction_in_ok (t := a.num * b.num) (S := S) (den0 a b) (Nat.lt_of_lt_of_le (den_sz ha hb) (Nat.pow_le_pow_right (by decide) (by omega)))
    rw [← mul_eq] at fx
    by_cases h1 : a.den = 1
    · by_cases h2 : b.den = 1
      · have := whole_mul h1 h2
        simp [fr] at this
        have h1' : (a.den : Int) = 1 := by omega
        have h2' : (b.den : Int) = 1 := by omega
        simp [h1', h2', m1, this.1, this.2]
      · have h1' : (a.den : Int) = 1 := by omega
        have h2' : ¬ (b.den : Int) = 1 := by omega
        rw [h1'] at m3 fx
        simp [h1', h2', m1, m3]
        simp at fx
        rw [fx]
        simp [fr]
    · have h1' : ¬ (a.den : Int) = 1 := by omega
      simp [h1', m1, m3]
      rw [fx]
      simp [fr]
  obtain ⟨d, T, e, rfl, rfl⟩ := key.out
  exact e
theorem pair_of_int {i : Int} {S : Sto} : F_pair_of [.int i] S = .ok (fr (i : Rat)) S := by
  have key : Wp (F_pair_of [.int i] S) fun d T => d = fr (i : Rat) ∧ T = S := by
    unfold F_pair_of b_pair_of
    simp [entry, sizeLine, fr, Ty.sub]
  obtain ⟨d, T, e, rfl, rfl⟩ := key.out
  exact e
theorem pair_of_tup {ds : List D} {S : Sto} : F_pair_of [.tup ds] S = .ok (.tup ds) S := by
  have key : Wp (F_pair_of [.tup ds] S) fun d T => d = .tup ds ∧ T = S := by
    unfold F_pair_of b_pair_of
    simp [entry, Ty.sub]
  obtain ⟨d, T, e, rfl, rfl⟩ := key.out
  exact e


/-! ### the law's own fractions -/
end K07
set_option Elab.async false
set_option linter.all false
set_option maxRecDepth 100000
set_option maxHeartbeats 4000000
namespace K07
open PySem MP
/-! ### what is a number, a polynomial -/
theorem is_whole_ok {d : D} {S : Sto} (h : ∃ a, tyD d S = some a) : F_is_whole [d] S = .ok (.bl (wholeB d)) S := by
  obtain ⟨a, h⟩ := h
  have key : Wp (F_is_whole [d] S) fun r T => r = .bl (wholeB d) ∧ T = S := by
    unfold F_is_whole b_is_whole
    rw [whole_ty h]
    simp [entry, h]
    cases a <;> simp [Ty.sub, h]
  obtain ⟨d, T, e, rfl, rfl⟩ := key.out
  exact e
theorem is_integer_ok {d : D} {S : Sto} (h : ∃ a, tyD d S = some a) : F_is_integer [d] S = .ok (.bl (integerB d)) S := by
  have key : Wp (F_is_integer [d] S) fun r T => r = .bl (integerB d) ∧ T = S := by
    unfold F_is_integer b_is_integer
    simp [entry, is_whole_ok h]
    cases d with
    | int i =>
      simp [wholeB, integerB, c_BOUND]
      by_cases h1 : -1000000000000000000000000000000000000000000000000000000000000 < i <;> simp [h1]
    | _ => simp [wholeB, integerB]
  obtain ⟨d, T, e, rfl, rfl⟩ := key.out
  exact e
theorem is_fraction_ok {d : D} {S : Sto} {Q : D → Sto → Prop} (h : Td S d) (hq : ∀ T, Ex S T → Q (.bl (fractionB d)) T) : Wp (F_is_fraction [d] S) Q := by
  unfold F_is_fraction b_is_fraction
  obtain ⟨a, ha⟩ := h.ty
  by_cases ht : ∃ ds, d = .tup ds
  · obtain ⟨ds, rfl⟩ := ht
    simp [entry, Ty.sub]
    by_cases hl : ds.length = 2
    · obtain ⟨x, y, rfl⟩ : ∃ x y, ds = [x, y] := by
        match ds, hl with
        | [x, y], _ => exact ⟨x, y, rfl⟩
      simp [wp_lc, wipeR]
      refine lc_mapD (f := fun e => .bl (wholeB e)) (fun e he T hT => ⟨_, rfl, ?_⟩) (fun _ _ => rfl) fun T hT => ?_
      · obtain ⟨b, hb⟩ := h.its _ rfl e he
        simp
        rw [is_whole_ok ⟨b, ty_ex hb hT⟩]
        exact ⟨rfl, Ex.refl⟩
      · have hn : (T ++ [SO.lst [D.bl (wholeB x), D.bl (wholeB y)]])[T.length]? = some (.lst ([wholeB x, wholeB y].map D.bl)) := by simp
        simp [sizeLine, nAll_ref hn]
        have hE : Ex S (T ++ [SO.lst [D.bl (wholeB x), D.bl (wholeB y)]]) := hT.app _
        by_cases hx : wholeB x = true
        · by_cases hy : wholeB y = true
          · cases x <;> simp [wholeB] at hx
            cases y <;> simp [wholeB] at hy
            rename_i t u
            have := hq _ hE
            simp [wholeB, L2.atI, L2.ixN]
            simp [fractionB] at this
            by_cases hu : 1 ≤ u
            · simp [hu] at this ⊢
              exact this
            · simp [hu] at this ⊢
              exact this
          · have := hq _ hE
            simp [hx, hy]
            have e : fractionB (.tup [x, y]) = false := by cases x <;> cases y <;> simp_all [wholeB, fractionB]
            rw [e] at this
            simpa [hx, hy] using this
        · have := hq _ hE
          simp [hx]
          have e : fractionB (.tup [x, y]) = false := by cases x <;> simp_all [wholeB, fractionB]
          rw [e] at this
          simpa [hx] using this
    · have hl' : ¬ ((ds.length : Int) = 2) := by omega
      simp [hl']
      have e : fractionB (.tup ds) = false := by
        unfold fractionB
        split
        · rename_i z; cases z; simp at hl
        · rfl
      have := hq S Ex.refl
      rw [e] at this
      exact this
  · have e : fractionB d = false := by
      unfold fractionB
      split
      · exact absurd ⟨_, rfl⟩ ht
      · rfl
    have ea : Ty.sub a .tuple = false := by
      have : a ≠ .tuple := fun z => by
        subst z
        cases d with
        | tup ds => exact ht ⟨ds, rfl⟩
        | ref n =>
          unfold tyD at ha
          simp only at ha
          split at ha <;> cases ha
        | _ => cases ha
      cases a <;> simp_all [Ty.sub]
    simp [entry, ha, ea]
    have := hq S Ex.refl
    rw [e] at this
    exact this
theorem is_number_ok {d : D} {S : Sto} {Q : D → Sto → Prop} (h : Td S d) (hq : ∀ T, Ex S T → Q (.bl (numberB d)) T) : Wp (F_is_number [d] S) Q := by
  unfold F_is_number b_is_number
  simp [entry, is_integer_ok h.ty]
  unfold numberB at hq
  cases hi : integerB d with
  | true =>
    simp [hi] at hq ⊢
    exact hq S Ex.refl
  | false =>
    simp [hi] at hq ⊢
    exact is_fraction_ok h hq

theorem td_non {S : Sto} : Td S .non := ⟨⟨_, rfl⟩, fun ds h => by cases h⟩
theorem td_str {S : Sto} {x : Str} : Td S (.str x) := ⟨⟨_, rfl⟩, fun ds h => by cases h⟩
theorem td_int {S : Sto} {i : Int} : Td S (.int i) := ⟨⟨_, rfl⟩, fun ds h => by cases h⟩
theorem td_bl {S : Sto} {i : Bool} : Td S (.bl i) := ⟨⟨_, rfl⟩, fun ds h => by cases h⟩
theorem td_lst {S : Sto} {n : Nat} {l : List D} (h : S[n]? = some (.lst l)) : Td S (.ref n) := ⟨⟨_, ty_ref h⟩, fun ds h => by cases h⟩
theorem td_ints {S : Sto} {l : List Int} : Td S (.tup (l.map D.int)) := ⟨⟨_, rfl⟩, fun ds h e he => by
  cases h
  obtain ⟨i, _, rfl⟩ := List.mem_map.mp he
  exact ⟨_, rfl⟩⟩
/-- a thing whose items' items are known -/
structure Jd (S : Sto) (d : D) : Prop where
  ty : ∃ a, tyD d S = some a
  its : ∀ ds, d = .tup ds → ∀ e ∈ ds, Td S e
theorem Jd.up {S T : Sto} {d : D} (h : Jd S d) (e : Ex S T) : Jd T d :=
  ⟨let ⟨a, q⟩ := h.ty; ⟨a, ty_ex q e⟩, fun ds hd x hx => (h.its ds hd x hx).up e⟩
theorem jd_tup {S : Sto} {ds : List D} (h : ∀ e ∈ ds, Td S e) : Jd S (.tup ds) := ⟨⟨_, rfl⟩, fun es he => by cases he; exact h⟩
theorem jd_of {S : Sto} {d : D} {a : Ty} (h : tyD d S = some a) (hn : ∀ ds, d ≠ .tup ds) : Jd S d := ⟨⟨a, h⟩, fun ds hd => absurd hd (hn ds)⟩
theorem sl0 : (0 ≤ sizeLine) = True := eq_true (by decide)
theorem sl1 : (1 ≤ sizeLine) = True := eq_true (by decide)
theorem sl2 : (2 ≤ sizeLine) = True := eq_true (by decide)
theorem sl3 : (3 ≤ sizeLine) = True := eq_true (by decide)
theorem sl4 : (4 ≤ sizeLine) = True := eq_true (by decide)
theorem sl6 : (6 ≤ sizeLine) = True := eq_true (by decide)
theorem sl10 : (10 ≤ sizeLine) = True := eq_true (by decide)
theorem sl14 : (14 ≤ sizeLine) = True := eq_true (by decide)

/-! ### the dice -/
theorem roll_ok {nd c : Nat} {t : Int} {S : Sto} {Q : D → Sto → Prop} (h : Dice S nd c) (ht : 0 < t) (hs : t.natAbs < 2 ^ 200) (hc : c ≤ 1000000)
    (hq : ∀ (r : Int) (T : Sto), 0 ≤ r → r < t → Dice T nd (c + 1) → Ed nd S T → T.length = S.length → Q (.int r) T) : Wp (F__law_roll [.ref nd, .int t] S) Q := by
  obtain ⟨a, b, k, hS, hk⟩ := h.ex
  have sd : szDiv t = true := szDiv_of (k := 200) (by omega) hs (by decide)
  have t0 : t ≠ 0 := by omega
  unfold F__law_roll b__law_roll
  simp [entry, dAt_ref hS, L2.atI, L2.ixN]
  by_cases ha : 0 < a
  · simp [ha, dAt_ref hS, L2.atI, L2.ixN, t0, sd, putD_ref hS]
    refine hq _ _ (Int.fmod_nonneg_of_pos _ ht) (Int.fmod_lt_of_pos _ ht) ?_ Ed.refl.put (by simp)
    exact ⟨_, b, k, set_get hS, by omega⟩
  · have hS2 := set_get (o' := .lst [.int a, .int b, .int ((k : Int) + 1)]) hS
    have k1 : szMul 99990067 ((k : Int) + 1) = true := szMul_small (by decide) (by
      have : ((k : Int) + 1).natAbs < 2 ^ 30 := by omega
      exact Nat.lt_of_lt_of_le this (Nat.pow_le_pow_right (by decide) (by decide)))
    have k2 : szMul 89 ((k : Int) + 1) = true := szMul_small (by decide) (by
      have : ((k : Int) + 1).natAbs < 2 ^ 30 := by omega
      exact Nat.lt_of_lt_of_le this (Nat.pow_le_pow_right (by decide) (by decide)))
    simp [ha, dAt_ref hS, L2.atI, L2.ixN, putD_ref hS]
    simp [dAt_ref hS2, L2.atI, L2.ixN, k1]
    generalize ho : (b + 99990067 * ((k : Int) + 1)).fmod 2305843009213693381 = one
    have o1 : 0 ≤ one := by rw [← ho]; exact Int.fmod_nonneg_of_pos _ (by decide)
    have o2 : one < 2305843009213693381 := by rw [← ho]; exact Int.fmod_lt_of_pos _ (by decide)
    have k3 : szMul one one = true := szMul_small (by
      have : one.natAbs < 2 ^ 64 := by omega
      exact Nat.lt_of_lt_of_le this (Nat.pow_le_pow_right (by decide) (by decide))) (by
      have : one.natAbs < 2 ^ 64 := by omega
      exact Nat.lt_of_lt_of_le this (Nat.pow_le_pow_right (by decide) (by decide)))
    simp [dAt_ref hS2, L2.atI, L2.ixN, k2, k3]
    generalize hw : (one * one + 89 * ((k : Int) + 1)).fmod 2305843009213693343 = two
    have w1 : 0 ≤ two := by rw [← hw]; exact Int.fmod_nonneg_of_pos _ (by decide)
    have w2 : two < 2305843009213693343 := by rw [← hw]; exact Int.fmod_lt_of_pos _ (by decide)
    have k4 : szMul two 8675309 = true := szMul_small (by
      have : two.natAbs < 2 ^ 64 := by omega
      exact Nat.lt_of_lt_of_le this (Nat.pow_le_pow_right (by decide) (by decide))) (by decide)
    have k5 : szDiv 65551 = true := by decide +kernel
    simp [k4, k5, t0]
    refine hq _ _ (Int.fmod_nonneg_of_pos _ ht) (Int.fmod_lt_of_pos _ ht) ?_ Ed.refl.put (by simp)
    exact ⟨a, b, k + 1, by rw [hS2]; rfl, by omega⟩

theorem dice_ok {ns : List Int} {spot : Nat} {S : Sto} {Q : D → Sto → Prop} (hsp : spot ≤ 1000) (hq : ∀ a b : Int, Q (.ref S.length) (S ++ [.lst [.int a, .int b, .int 0]])) : Wp (F__law_dice [law_D ns, .int (spot : Int)] S) Q := by
  unfold F__law_dice b__law_dice
  rw [wp_run, wps_seq]
  have c4 : ∀ k : Int, k.natAbs < 2 ^ 20 → szMul k (spot : Int) = true := fun k hk => szMul_of hk (show (spot : Int).natAbs < 2 ^ 20 by omega) (by decide)
  refine WpS.mono (Q := fun fl T => ∃ cell : Int, fl = .nx [some (law_D ns), some (.int (spot : Int)), some (.int cell), none] ∧ T = S) ?_ ?_
  · simp [entry, law_D, c4]
    by_cases h : spot < ns.length
    · simp [h, atI_nat]
    · simp [h, c4]
  · rintro fl T ⟨cell, rfl, rfl⟩
    have c1 : (10 : Int).natAbs < 2 ^ 64 := by decide
    have c2 : szMul (10 ^ 56) (10 ^ 60) = true := by decide +kernel
    have m0 : ¬ ((10 : Int) ^ 56 * 10 ^ 60 = 0) := by decide +kernel
    have c5 : ∀ k : Bool, szMul 43 (if k = true then 1 else 0) = true := by decide +kernel
    have c3 : ∀ x : Int, szMul (x.fmod 1152921504606846869) 61 = true := fun x => by
      have r1 : 0 ≤ x.fmod 1152921504606846869 := Int.fmod_nonneg_of_pos _ (by decide)
      have r2 : x.fmod 1152921504606846869 < 1152921504606846869 := Int.fmod_lt_of_pos _ (by decide)
      exact szMul_of (k := 64) (l := 20) (by omega) (by decide) (by decide)
    have c6 : szMul 1009 (spot : Int) = true := c4 _ (by decide)
    simp only [sq_nx, wps_seq, wps_set, wp_d2, wp_dN, wp_cons, wp_nil, wp_c, wp_var, List.getElem?_cons_zero, List.getElem?_cons_succ, nAbs_int, wp_ok, dPow_int, dSub_int, nMax_int, wps_ret, wp_lst, dMod_int, dMul_int, dAdd_int, dIB_int, nInt_bl, wp_ite, wp_stuck, List.set_cons_succ, List.set_cons_zero, c1, c2, c3, c5, c6, m0, rn_ret]
    simp [c1, c2, c3, c5, c6, m0, sizeLine]
    exact ⟨by decide +kernel, hq _ _⟩

theorem pick_ok {nd c n : Nat} {ys : List D} {S : Sto} {Q : D → Sto → Prop} (h : Dice S nd c) (hn : S[n]? = some (.lst ys)) (hne : n ≠ nd) (h0 : 1 ≤ ys.length) (hl : ys.length ≤ 1000) (hc : c ≤ 1000000)
    (hq : ∀ y T, y ∈ ys → Dice T nd (c + 1) → Ed nd S T → T.length = S.length → Q y T) : Wp (F__law_pick [.ref nd, .ref n] S) Q := by
  unfold F__law_pick b__law_pick
  rw [wp_run, wps_ret, wp_d2, wp_var]
  simp only [entry, wp_call, wp_cons, wp_nil, wp_var, wp_c, wp_ok, List.map_cons, List.map_nil, List.cons_append, List.nil_append, List.getElem?_cons_zero, List.getElem?_cons_succ, List.length_cons, List.length_nil, if_true, wp_dN, nLen_ref hn]
  refine roll_ok h (by omega) (Nat.lt_of_lt_of_le (show ((ys.length : Nat) : Int).natAbs < 2 ^ 20 by omega) (Nat.pow_le_pow_right (by decide) (by decide))) hc fun r T r0 r1 hT eT lT => ?_
  have hr : r = ((r.toNat : Nat) : Int) := by omega
  have hlt : r.toNat < ys.length := by omega
  rw [hr, dAt_ref (eT.get hn hne), atI_nat, List.getElem?_eq_getElem hlt]
  simp only [wp_ok]
  exact hq _ T (List.getElem_mem _) hT eT lT

end K07
set_option Elab.async false
set_option linter.all false
set_option maxRecDepth 100000
set_option maxHeartbeats 4000000
namespace K07
open PySem MP
/-! ### rows and tables judged -/
def rowB : D → Bool
  | .tup ds => decide (1 ≤ ds.length) && (decide (ds.length ≤ 40) && ds.all numberB)
  | _ => false
def lenD : D → Nat
  | .tup ds => ds.length
  | _ => 0
def tableB : D → Bool
  | .tup rs => decide (1 ≤ rs.length) && (decide (rs.length ≤ 40) && (rs.all rowB && rs.all fun r => decide (lenD r = lenD (rs.headD .non))))
  | _ => false
theorem dec_nat (a b : Nat) : decide ((a : Int) = (b : Int)) = decide (a = b) := by
  rw [Bool.eq_iff_iff, decide_eq_true_eq, decide_eq_true_eq]
  omega
theorem not_tup {d : D} {a : Ty} {S : Sto} (h : tyD d S = some a) (hd : ∀ ds, d ≠ .tup ds) : Ty.sub a .tuple = false := by
  have hne : a ≠ .tuple := fun z => by
    subst z
    cases d with
    | tup ds => exact hd ds rfl
    | ref n =>
      unfold tyD at h
      simp only at h
      split at h <;> cases h
    | _ => cases h
  cases a <;> simp_all [Ty.sub]
theorem is_row_ok {d : D} {S : Sto} {Q : D → Sto → Prop} (h : Jd S d) (hq : ∀ T, Ex S T → Q (.bl (rowB d)) T) : Wp (F_is_row [d] S) Q := by
  obtain ⟨a, ha⟩ := h.ty
  unfold F_is_row b_is_row
  by_cases ht : ∃ ds, d = .tup ds
  · obtain ⟨ds, rfl⟩ := ht
    have hI := h.its ds rfl
    unfold rowB at hq
    simp [entry, Ty.sub, c_MAX_SIDE]
    by_cases h1 : 1 ≤ ds.length
    · have h1' : (1 : Int) ≤ (ds.length : Int) := by omega
      by_cases h2 : ds.length ≤ 40
      · have h2' : (ds.length : Int) ≤ 40 := by omega
        simp [h1', h2', wp_lc, wipeR]
        refine lc_mapD (f := fun e => .bl (numberB e)) (fun e he T hT => ⟨_, rfl, ?_⟩) (fun _ _ => rfl) fun T hT => ?_
        · simp only [entry, wp_call, wp_cons, wp_nil, wp_var, wp_c, wp_ok, List.map_cons, List.map_nil, List.cons_append, List.nil_append, List.getElem?_cons_zero, List.getElem?_cons_succ, List.length_cons, List.length_nil, if_true]
          exact is_number_ok ((hI e he).up hT) fun U hU => ⟨rfl, hU⟩
        · have em : ds.map (fun e => D.bl (numberB e)) = (ds.map numberB).map D.bl := by simp
          rw [em, List.length_map, List.length_map]
          refine ⟨by unfold sizeLine; omega, ?_⟩
          rw [nAll_ref get_new]
          have := hq _ (hT.app [SO.lst ((ds.map numberB).map D.bl)])
          simp [h1, h2] at this ⊢
          exact this
      · have h2' : ¬ (ds.length : Int) ≤ 40 := by omega
        simp [h1', h2']
        have := hq S Ex.refl
        simp [h1, h2] at this
        exact this
    · have h1' : ¬ (1 : Int) ≤ (ds.length : Int) := by omega
      simp [h1']
      have := hq S Ex.refl
      simp [h1] at this
      exact this
  · have e : rowB d = false := by
      cases d with
      | tup ds => exact absurd ⟨ds, rfl⟩ ht
      | _ => rfl
    have ea := not_tup ha fun ds z => ht ⟨ds, z⟩
    simp [entry, ha, ea]
    have := hq S Ex.refl
    rw [e] at this
    exact this
/-- a thing whose items are such -/
structure Jt (S : Sto) (d : D) : Prop where
  ty : ∃ a, tyD d S = some a
  its : ∀ ds, d = .tup ds → ∀ e ∈ ds, Jd S e
theorem rowB_tup {d : D} (h : rowB d = true) : ∃ ds, d = .tup ds := by
  cases d with
  | tup ds => exact ⟨ds, rfl⟩
  | _ => cases h
theorem is_table_ok {d : D} {S : Sto} {Q : D → Sto → Prop} (h : Jt S d) (hq : ∀ T, Ex S T → Q (.bl (tableB d)) T) : Wp (F_is_table [d] S) Q := by
  obtain ⟨a, ha⟩ := h.ty
  unfold F_is_table b_is_table
  by_cases ht : ∃ ds, d = .tup ds
  · obtain ⟨ds, rfl⟩ := ht
    have hI := h.its ds rfl
    have tb : tableB (.tup ds) = (decide (1 ≤ ds.length) && (decide (ds.length ≤ 40) && (ds.all rowB && ds.all fun r => decide (lenD r = lenD (ds.headD .non))))) := rfl
    rw [tb] at hq
    simp [entry, Ty.sub, c_MAX_SIDE]
    by_cases h1 : 1 ≤ ds.length
    · have h1' : (1 : Int) ≤ (ds.length : Int) := by omega
      by_cases h2 : ds.length ≤ 40
      · have h2' : (ds.length : Int) ≤ 40 := by omega
        simp [h1', h2', wp_lc, wipeR]
        refine lc_mapD (f := fun e => .bl (rowB e)) (fun e he T hT => ⟨_, rfl, ?_⟩) (fun _ _ => rfl) fun T hT => ?_
        · simp only [entry, wp_call, wp_cons, wp_nil, wp_var, wp_c, wp_ok, List.map_cons, List.map_nil, List.cons_append, List.nil_append, List.getElem?_cons_zero, List.getElem?_cons_succ, List.length_cons, List.length_nil, if_true]
          exact is_row_ok ((hI e he).up hT) fun U hU => ⟨rfl, hU⟩
        · have em : ds.map (fun e => D.bl (rowB e)) = (ds.map rowB).map D.bl := by simp
          rw [em, List.length_map, List.length_map]
          refine ⟨by unfold sizeLine; omega, ?_⟩
          rw [nAll_ref get_new]
          have hE : Ex S (T ++ [SO.lst ((ds.map rowB).map D.bl)]) := hT.app _
          generalize hU : T ++ [SO.lst ((ds.map rowB).map D.bl)] = U at *
          simp only [wp_ok, truD_bl]
          by_cases hall : ds.all rowB = true
          · have hall2 : (ds.map rowB).all id = true := by simpa using hall
            rw [hall2]
            have hrow : ∀ x ∈ ds, rowB x = true := by simpa using hall
            obtain ⟨hd, tl, rfl⟩ : ∃ x l, ds = x :: l := by
              cases ds with
              | nil => simp at h1
              | cons x l => exact ⟨x, l, rfl⟩
            obtain ⟨hs, rfl⟩ := rowB_tup (hrow hd List.mem_cons_self)
            simp [wp_lc, wipeR]
            refine lc_mapD (f := fun e => .bl (decide (lenD e = hs.length))) (fun e he V hV => ⟨_, rfl, ?_⟩) (fun _ _ => rfl) fun V hV => ?_
            · obtain ⟨es, rfl⟩ := rowB_tup (hrow e he)
              simp [L2.atI, L2.ixN, lenD]
              exact ⟨dec_nat _ _, Ex.refl⟩
            · have em2 : (D.tup hs :: tl).map (fun e => D.bl (decide (lenD e = hs.length))) = ((D.tup hs :: tl).map fun e => decide (lenD e = hs.length)).map D.bl := by rw [List.map_map]; rfl
              rw [em2, List.length_map, List.length_map]
              refine ⟨by unfold sizeLine; omega, ?_⟩
              rw [nAll_ref get_new]
              have := hq _ ((hE.trans hV).app [SO.lst (((D.tup hs :: tl).map fun e => decide (lenD e = hs.length)).map D.bl)])
              rw [hall] at this
              simp only [wp_ok]
              have e3 : ((D.tup hs :: tl).map fun e => decide (lenD e = hs.length)).all id = ((D.tup hs :: tl).all fun r => decide (lenD r = lenD ((D.tup hs :: tl).headD .non))) := by
                rw [List.all_map]
                rfl
              rw [e3]
              simp only [decide_eq_true h1, decide_eq_true h2, Bool.true_and] at this
              exact this
          · have hall' : ds.all rowB = false := by simpa using hall
            have hall2 : (ds.map rowB).all id = false := by rw [← hall', List.all_map]; rfl
            rw [hall2]
            have := hq U hE
            rw [hall'] at this
            simp [h1, h2] at this ⊢
            exact this
      · have h2' : ¬ (ds.length : Int) ≤ 40 := by omega
        simp [h1', h2']
        have := hq S Ex.refl
        simp [h1, h2] at this
        exact this
    · have h1' : ¬ (1 : Int) ≤ (ds.length : Int) := by omega
      simp [h1']
      have := hq S Ex.refl
      simp [h1] at this
      exact this
  · have e : tableB d = false := by
      cases d with
      | tup ds => exact absurd ⟨ds, rfl⟩ ht
      | _ => rfl
    have ea := not_tup ha fun ds z => ht ⟨ds, z⟩
    simp [entry, ha, ea]
    have := hq S Ex.refl
    rw [e] at this
    exact this
end K07
set_option Elab.async false
set_option linter.all false
set_option maxRecDepth 100000
set_option maxHeartbeats 4000000
/-! Tables as data. -/
namespace MP
open PySem
def encR (l : List Rat) : D := .tup (l.map fr)
def encT (t : List (List Rat)) : D := .tup (t.map encR)
def numR (l : List Num) : D := .tup (l.map Num.d)
def numT (t : List (List Num)) : D := .tup (t.map numR)
def qR (l : List Num) : List Rat := l.map Num.q
def qT (t : List (List Num)) : List (List Rat) := t.map qR
/-- every entry of weight k -/
def TS (k : Nat) (t : List (List Rat)) : Prop := ∀ r ∈ t, ∀ x ∈ r, Sz k x
def RS (k : Nat) (r : List Rat) : Prop := ∀ x ∈ r, Sz k x
theorem TS.up {k c : Nat} {t : List (List Rat)} (h : TS k t) (hc : k ≤ c) : TS c t := fun r hr x hx => (h r hr x hx).up hc
theorem rng0 (n : Nat) : rngD 0 n = (List.range n).map fun (i : Nat) => D.int (i : Int) := by
  unfold rngD
  exact List.map_congr_left fun i _ => by rw [Int.zero_add]
theorem encR_at {l : List Rat} {j : Nat} {S : Sto} (h : j < l.length) : dAt (encR l) (.int (j : Int)) S = .ok (fr (l.getD j 0)) S := by
  unfold encR
  rw [dAt_tup, atI_nat, List.getElem?_map, List.getElem?_eq_getElem h]
  simp [List.getD, List.getElem?_eq_getElem h]
section
variable {fs : FN}
/-- found = 0; for one in ..: found = found + one -/
theorem total_loop (O : ∀ (a b : Rat) (S : Sto) (k l : Nat), Sz k a → Sz l b → 1 ≤ k → 1 ≤ l → k + l ≤ 2000 → fs [fr a, fr b] S = .ok (fr (a + b)) S) {k : Nat} (hk : 1 ≤ k) {A : Option D} {ok : Sto → Bool} {S : Sto} (hok : ok S = true) {Q : Fl → Sto → Prop} :
    ∀ {l : List Rat} {f : Rat} {c : Nat} {x : Option D}, (∀ a ∈ l, Sz k a) → Sz c f → 1 ≤ c → c + k * l.length ≤ 2000 → (∀ x, Q (.nx [A, some (fr (l.foldl (· + ·) f)), x]) S) →
      WpS (forL ok (.nm 2) (sSet 1 (dCall fs 2 (aCons (dVar 1) (aCons (dVar 2) aNil)))) (l.map fr) [A, some (fr f), x] S) Q
  | [], f, c, x, ha, hf, hc, hw, hq => hq x
  | a :: l, f, c, x, ha, hf, hc, hw, hq => by
    rw [List.length_cons, Nat.mul_succ] at hw
    have sza := ha a List.mem_cons_self
    have hs := O f a S c k hf sza hc hk (by omega)
    have eb : sSet 1 (dCall fs 2 (aCons (dVar 1) (aCons (dVar 2) aNil))) [A, some (fr f), some (fr a)] S = .fl (.nx [A, some (fr (f + a)), some (fr a)]) S := by
      have key : WpS (sSet 1 (dCall fs 2 (aCons (dVar 1) (aCons (dVar 2) aNil))) [A, some (fr f), some (fr a)] S) fun fl T => fl = .nx [A, some (fr (f + a)), some (fr a)] ∧ T = S := by
        simp [hs]
      generalize sSet 1 (dCall fs 2 (aCons (dVar 1) (aCons (dVar 2) aNil))) [A, some (fr f), some (fr a)] S = r at key
      cases r with
      | fl x T => obtain ⟨rfl, rfl⟩ := key; rfl
      | exc x ρ T => exact key.elim
      | stuck => exact key.elim
    show WpS (forL ok _ _ (fr a :: l.map fr) _ S) Q
    unfold forL
    show WpS (match sSet 1 (dCall fs 2 (aCons (dVar 1) (aCons (dVar 2) aNil))) [A, some (fr f), some (fr a)] S with
      | .fl (.nx ρ2) S2 => if ok S2 = true then forL ok (.nm 2) (sSet 1 (dCall fs 2 (aCons (dVar 1) (aCons (dVar 2) aNil)))) (l.map fr) ρ2 S2 else .stuck
      | .fl (.ct ρ2) S2 => if ok S2 = true then forL ok (.nm 2) (sSet 1 (dCall fs 2 (aCons (dVar 1) (aCons (dVar 2) aNil)))) (l.map fr) ρ2 S2 else .stuck
      | .fl (.brk ρ2) S2 => .fl (.nx ρ2) S2
      | r => r) Q
    rw [eb]
    show WpS (if ok S = true then _ else _) Q
    rw [if_pos hok]
    exact total_loop O hk hok (c := c + k) (fun z hz => ha z (List.mem_cons_of_mem _ hz)) (hf.add sza hc hk) (by omega) (by omega) hq
end
theorem fold_add_sz {k : Nat} (hk : 1 ≤ k) : ∀ {l : List Rat} {f : Rat} {c : Nat}, (∀ a ∈ l, Sz k a) → Sz c f → 1 ≤ c → Sz (c + k * l.length) (l.foldl (· + ·) f)
  | [], f, c, _, hf, _ => by simpa using hf
  | a :: l, f, c, ha, hf, hc => by
    have := fold_add_sz hk (fun z hz => ha z (List.mem_cons_of_mem _ hz)) (hf.add (ha a List.mem_cons_self) hc hk) (by omega)
    refine this.up ?_
    rw [List.length_cons, Nat.mul_succ]
    omega
theorem zip_mul_sz {k l : Nat} {a b : List Rat} (h1 : RS k a) (h2 : RS l b) : ∀ x ∈ List.zipWith (· * ·) a b, Sz (k + l) x := fun x hx => by
  obtain ⟨i, hi, rfl⟩ := List.mem_iff_getElem.mp hx
  rw [List.getElem_zipWith]
  exact (h1 _ (List.getElem_mem _)).mul (h2 _ (List.getElem_mem _))
theorem dot_sz {k l n : Nat} {a b : List Rat} (h1 : RS k a) (h2 : RS l b) (hk : 1 ≤ k) (hn : a.length ≤ n) : Sz (1 + (k + l) * n) (dotL a b) := by
  have := fold_add_sz (show 1 ≤ k + l by omega) (zip_mul_sz h1 h2) Sz.zero (Nat.le_refl _)
  refine this.up ?_
  have h : (List.zipWith (· * ·) a b).length ≤ n := by rw [List.length_zipWith]; omega
  have := Nat.mul_le_mul_left (k + l) h
  omega
theorem turn_sz {k c : Nat} {t : List (List Rat)} (h : TS k t) (hk : 1 ≤ k) : TS k (turnL c t) := fun r hr x hx => by
  obtain ⟨j, _, rfl⟩ := List.mem_map.mp hr
  obtain ⟨row, hrow, rfl⟩ := List.mem_map.mp hx
  by_cases hj : j < row.length
  · rw [show row.getD j 0 = row[j] by simp [List.getD, List.getElem?_eq_getElem hj]]
    exact h row hrow _ (List.getElem_mem _)
  · rw [show row.getD j 0 = 0 by simp [List.getD, List.getElem?_eq_none (Nat.le_of_not_lt hj)]]
    exact Sz.zero.up hk
theorem mul_sz {k l n c : Nat} {a b : List (List Rat)} (h1 : TS k a) (h2 : TS l b) (hk : 1 ≤ k) (hl : 1 ≤ l) (hn : ∀ r ∈ a, r.length ≤ n) : TS (1 + (k + l) * n) (mulL2 c a b) := fun r hr x hx => by
  obtain ⟨row, hrow, rfl⟩ := List.mem_map.mp hr
  obtain ⟨col, hcol, rfl⟩ := List.mem_map.mp hx
  exact dot_sz (h1 row hrow) (turn_sz h2 hl col hcol) hk (hn row hrow)
end MP
set_option Elab.async false
set_option linter.all false
set_option maxRecDepth 100000
set_option maxHeartbeats 4000000
namespace K07
open PySem MP
/-! ### tables told, turned, multiplied -/
theorem pair_num {x : Num} {S : Sto} : F_pair_of [x.d] S = .ok (fr x.q) S := by
  cases x with
  | i n => exact pair_of_int
  | f q => exact pair_of_tup
theorem row_told_ok {xs : List Num} {S : Sto} {Q : D → Sto → Prop} (hl : xs.length ≤ 1000) (hq : ∀ T, Ex S T → Q (encR (qR xs)) T) : Wp (F_row_told [numR xs] S) Q := by
  unfold F_row_told b_row_told
  rw [wp_run, wps_ret]
  refine tup_comp (xs := xs) (enc := Num.d) (g := fun x => fr x.q) (gd := []) rfl (fun _ _ => rfl) (by omega) (fun x hx T hT => ⟨_, rfl, ?_⟩) fun T hT => ?_
  · simp only [entry, wp_call, wp_cons, wp_nil, wp_var, wp_c, wp_ok, List.map_cons, List.map_nil, List.cons_append, List.nil_append, List.getElem?_cons_zero, List.getElem?_cons_succ, List.length_cons, List.length_nil, if_true, wipeR]
    simp [pair_num]
    exact Ex.refl
  · have := hq T hT
    unfold encR qR at this
    rw [List.map_map] at this
    exact this
theorem table_told_ok {t : List (List Num)} {S : Sto} {Q : D → Sto → Prop} (hl : t.length ≤ 1000) (hl2 : ∀ r ∈ t, r.length ≤ 1000) (hq : ∀ T, Ex S T → Q (encT (qT t)) T) : Wp (F_table_told [numT t] S) Q := by
  unfold F_table_told b_table_told
  rw [wp_run, wps_ret]
  refine tup_comp (xs := t) (enc := numR) (g := fun r => encR (qR r)) (gd := []) rfl (fun _ _ => rfl) (by omega) (fun r hr T hT => ⟨_, rfl, ?_⟩) fun T hT => ?_
  · simp only [wp_call, wp_cons, wp_nil, wp_var]
    exact row_told_ok (hl2 r hr) fun U hU => ⟨rfl, hU⟩
  · have := hq T hT
    unfold encT qT at this
    rw [List.map_map] at this
    exact this
theorem turned_in_ok {t : List (List Rat)} {c : Nat} {S : Sto} {Q : D → Sto → Prop} (h0 : 1 ≤ t.length) (hc : ∀ r ∈ t, r.length = c) (hl : t.length ≤ 1000) (hl2 : c ≤ 1000) (hq : ∀ T, Ex S T → Q (encT (turnL c t)) T) : Wp (F_turned_in [encT t] S) Q := by
  unfold F_turned_in b_turned_in
  rw [wp_run, wps_ret]
  obtain ⟨r0, tl, rfl⟩ : ∃ x l, t = x :: l := by
    cases t with
    | nil => simp at h0
    | cons x l => exact ⟨x, l, rfl⟩
  have hr0 : r0.length = c := hc r0 List.mem_cons_self
  have hsrc : ∀ ρ : Rho, ρ = entry 3 [encT (r0 :: tl)] → iR1 (aCons (dN nLen (aCons (d2 dAt (dVar 0) (dC (.int 0))) aNil)) aNil) ρ S = .ok ⟨(List.range c).map (fun (i : Nat) => D.int (i : Int)), []⟩ S := fun ρ hρ => by
    subst hρ
    have key : Wp (iR1 (aCons (dN nLen (aCons (d2 dAt (dVar 0) (dC (.int 0))) aNil)) aNil) (entry 3 [encT (r0 :: tl)]) S) fun s T => s = ⟨(List.range c).map (fun (i : Nat) => D.int (i : Int)), []⟩ ∧ T = S := by
      simp [entry, encT, encR, L2.atI, L2.ixN, hr0, rng0]
      try omega
    obtain ⟨s, T, e, rfl, rfl⟩ := key.out
    exact e
  refine tup_comp (xs := List.range c) (enc := fun (i : Nat) => .int (i : Int)) (g := fun j => encR ((r0 :: tl).map fun row => row.getD j 0)) (gd := []) (hsrc _ rfl) (fun _ _ => rfl) (by simp; omega) (fun j hj T hT => ⟨_, rfl, ?_⟩) fun T hT => ?_
  · have hj' := List.mem_range.mp hj
    refine tup_comp (xs := r0 :: tl) (enc := encR) (g := fun row => fr (row.getD j 0)) (gd := []) rfl (fun _ _ => rfl) (by simp at hl ⊢; omega) (fun row hrow U hU => ⟨_, rfl, ?_⟩) fun U hU => ⟨?_, hU⟩
    · show Wp (d2 dAt (dVar 2) (dVar 1) [_, some (.int (j : Int)), some (encR row)] U) _
      simp only [wp_d2, wp_var, List.getElem?_cons_zero, List.getElem?_cons_succ]
      rw [encR_at (by rw [hc row hrow]; exact hj')]
      exact ⟨rfl, Ex.refl⟩
    · unfold encR
      rw [List.map_map]
      rfl
  · have := hq T hT
    unfold encT turnL at this
    rw [List.map_map] at this
    exact this
theorem total_in_ok {n k : Nat} {l : List Rat} {S : Sto} (h : S[n]? = some (.lst (l.map fr))) (hs : RS k l) (hk : 1 ≤ k) (hw : 1 + k * l.length ≤ 2000) : F_total_in [.ref n] S = .ok (fr (l.foldl (· + ·) 0)) S := by
  have key : Wp (F_total_in [.ref n] S) fun d T => d = fr (l.foldl (· + ·) 0) ∧ T = S := by
    unfold F_total_in b_total_in
    rw [wp_run, wps_seq, wps_set]
    have hz2 : 2 ≤ sizeLine := by decide
    simp only [wp_tup, wp_cons, wp_c, wp_nil, List.length_cons, List.length_nil]
    rw [if_pos hz2, sq_nx, wps_seq, wps_for]
    simp only [entry, wp_iD, wp_var, List.map_cons, List.map_nil, List.cons_append, List.nil_append, List.getElem?_cons_zero, List.replicate, List.length_cons, List.length_nil, Nat.reduceAdd, Nat.reduceSub, List.set_cons_succ, List.set_cons_zero, srcD_ref h, wp_ok]
    refine total_loop (fun a b S k l => sum_in_ok) hk (guard_one h) hs Sz.zero (Nat.le_refl _) hw fun x => ?_
    simp only [sq_nx, wps_ret, wp_var, List.getElem?_cons_zero, List.getElem?_cons_succ, rn_ret, and_self]
  obtain ⟨d, T, e, rfl, rfl⟩ := key.out
  exact e
end K07
set_option Elab.async false
set_option linter.all false
set_option maxRecDepth 100000
set_option maxHeartbeats 4000000
namespace K07
open PySem MP
theorem zip_enc (a b : List Rat) : zipD (a.map fr) (b.map fr) = (List.zip a b).map fun p => pairD (fr p.1) (fr p.2) := by
  unfold zipD
  rw [List.zipWith_map, List.zip, List.map_zipWith]
theorem zip_src {ρ : Rho} {i j : Nat} {a b : List Rat} {S : Sto} (h1 : ρ[i]? = some (some (encR a))) (h2 : ρ[j]? = some (some (encR b))) : iZp (aCons (dVar i) (aCons (dVar j) aNil)) ρ S = .ok ⟨(List.zip a b).map fun p => pairD (fr p.1) (fr p.2), []⟩ S := by
  have key : Wp (iZp (aCons (dVar i) (aCons (dVar j) aNil)) ρ S) fun s T => s = ⟨(List.zip a b).map fun p => pairD (fr p.1) (fr p.2), []⟩ ∧ T = S := by
    simp only [wp_iZp, wp_cons, wp_nil, wp_var, h1, h2]
    unfold encR
    simp only [zipS_tup, wp_ok, zip_enc, and_self]
  obtain ⟨s, T, e, rfl, rfl⟩ := key.out
  exact e
theorem zip_map_eq (op : Rat → Rat → Rat) (a b : List Rat) : (List.zip a b).map (fun p => fr (op p.1 p.2)) = (List.zipWith op a b).map fr := by
  rw [List.zip, List.map_zipWith, List.map_zipWith]
theorem dot_in_ok {a b : List Rat} {k l : Nat} {S : Sto} {Q : D → Sto → Prop} (h1 : RS k a) (h2 : RS l b) (hk : 1 ≤ k) (hl : 1 ≤ l) (hn : a.length ≤ 1000) (hw : 1 + (k + l) * a.length ≤ 2000) (hkl : k + l ≤ 2000) (hq : ∀ T, Ex S T → Q (fr (dotL a b)) T) : Wp (F_dot_in [encR a, encR b] S) Q := by
  unfold F_dot_in b_dot_in
  rw [wp_run, wps_ret, wp_call, wp_cons]
  refine lst_comp (xs := List.zip a b) (enc := fun p => pairD (fr p.1) (fr p.2)) (g := fun p => fr (p.1 * p.2)) (gd := []) (zip_src rfl rfl) (fun _ _ => rfl) (by rw [List.length_zip]; omega) (fun p hp T hT => ⟨_, rfl, ?_⟩) fun T n hT _ hn2 => ?_
  · have hm := List.of_mem_zip hp
    have := product_in_ok (S := T) (h1 _ hm.1) (h2 _ hm.2) hkl
    show Wp (dCall F_product_in 2 (aCons (dVar 2) (aCons (dVar 3) aNil)) [_, _, some (fr p.1), some (fr p.2)] T) _
    simp only [wp_call, wp_cons, wp_nil, wp_var, List.getElem?_cons_zero, List.getElem?_cons_succ, List.length_cons, List.length_nil, if_true]
    rw [this]
    exact ⟨rfl, Ex.refl⟩
  · rw [zip_map_eq] at hn2
    have hz : (List.zipWith (· * ·) a b).length ≤ a.length := by rw [List.length_zipWith]; omega
    have := Nat.mul_le_mul_left (k + l) hz
    simp only [wp_nil, List.length_cons, List.length_nil, if_true]
    rw [total_in_ok (l := List.zipWith (· * ·) a b) hn2 (zip_mul_sz h1 h2) (by omega) (by omega)]
    exact hq T hT
theorem row_scaled_ok {l : List Rat} {x : Rat} {k c : Nat} {S : Sto} {Q : D → Sto → Prop} (h1 : RS k l) (hx : Sz c x) (hkc : k + c ≤ 2000) (hl : l.length ≤ 1000) (hq : ∀ T, Ex S T → Q (encR (l.map fun q => q * x)) T) : Wp (F_row_scaled [encR l, fr x] S) Q := by
  unfold F_row_scaled b_row_scaled
  rw [wp_run, wps_ret]
  refine tup_comp (xs := l) (enc := fr) (g := fun q => fr (q * x)) (gd := []) rfl (fun _ _ => rfl) (by omega) (fun y hy T hT => ⟨_, rfl, ?_⟩) fun T hT => ?_
  · simp [product_in_ok (S := T) (h1 y hy) hx hkc, entry, wipeR]
    exact Ex.refl
  · have := hq T hT
    unfold encR at this
    rw [List.map_map] at this
    exact this
theorem row_sum_ok {a b : List Rat} {k l : Nat} {S : Sto} {Q : D → Sto → Prop} (h1 : RS k a) (h2 : RS l b) (hk : 1 ≤ k) (hl : 1 ≤ l) (hn : a.length ≤ 1000) (hkl : k + l ≤ 2000) (hq : ∀ T, Ex S T → Q (encR (List.zipWith (· + ·) a b)) T) : Wp (F_row_sum [encR a, encR b] S) Q := by
  unfold F_row_sum b_row_sum
  rw [wp_run, wps_ret]
  refine tup_comp (xs := List.zip a b) (enc := fun p => pairD (fr p.1) (fr p.2)) (g := fun p => fr (p.1 + p.2)) (gd := []) (zip_src rfl rfl) (fun _ _ => rfl) (by rw [List.length_zip]; omega) (fun p hp T hT => ⟨_, rfl, ?_⟩) fun T hT => ?_
  · have hm := List.of_mem_zip hp
    show Wp (dCall F_sum_in 2 (aCons (dVar 2) (aCons (dVar 3) aNil)) [_, _, some (fr p.1), some (fr p.2)] T) _
    simp only [wp_call, wp_cons, wp_nil, wp_var, List.getElem?_cons_zero, List.getElem?_cons_succ, List.length_cons, List.length_nil, if_true]
    rw [sum_in_ok (S := T) (h1 _ hm.1) (h2 _ hm.2) hk hl hkl]
    exact ⟨rfl, Ex.refl⟩
  · rw [zip_map_eq]
    exact hq T hT
theorem table_product_in_ok {a b : List (List Rat)} {k l n c : Nat} {S : Sto} {Q : D → Sto → Prop} (h1 : TS k a) (h2 : TS l b) (hk : 1 ≤ k) (hl : 1 ≤ l) (ha : ∀ r ∈ a, r.length = n) (hb : ∀ r ∈ b, r.length = c) (hb0 : 1 ≤ b.length) (la : a.length ≤ 1000) (lb : b.length ≤ 1000) (hn : n ≤ 1000) (hc : c ≤ 1000) (hw : 1 + (k + l) * n ≤ 2000) (hkl : k + l ≤ 2000)
    (hq : ∀ T, Ex S T → Q (encT (mulL2 c a b)) T) : Wp (F_table_product_in [encT a, encT b] S) Q := by
  unfold F_table_product_in b_table_product_in
  rw [wp_run, wps_seq, wps_set]
  simp only [entry, wp_call, wp_cons, wp_nil, wp_var, wp_c, wp_ok, List.map_cons, List.map_nil, List.cons_append, List.nil_append, List.getElem?_cons_zero, List.getElem?_cons_succ, List.length_cons, List.length_nil, if_true]
  refine turned_in_ok hb0 hb lb hc fun T hT => ?_
  rw [sq_nx, wps_ret]
  have st := turn_sz (c := c) h2 hl
  refine tup_comp (xs := a) (enc := encR) (g := fun row => encR ((turnL c b).map fun col => dotL row col)) (gd := []) rfl (fun _ _ => rfl) (by omega) (fun row hrow U hU => ⟨_, rfl, ?_⟩) fun U hU => ?_
  · have lt : (turnL c b).length = c := by unfold turnL; simp
    refine tup_comp (xs := turnL c b) (enc := encR) (g := fun col => fr (dotL row col)) (gd := []) rfl (fun _ _ => rfl) (by omega) (fun col hcol V hV => ⟨_, rfl, ?_⟩) fun V hV => ⟨?_, hV⟩
    · have hr := ha row hrow
      show Wp (dCall F_dot_in 2 (aCons (dVar 3) (aCons (dVar 4) aNil)) [_, _, _, some (encR row), some (encR col)] V) _
      simp only [wp_call, wp_cons, wp_nil, wp_var, List.getElem?_cons_zero, List.getElem?_cons_succ, List.length_cons, List.length_nil, if_true]
      exact dot_in_ok (h1 row hrow) (st col hcol) hk hl (by omega) (by rw [hr]; exact hw) hkl fun W hW => ⟨rfl, hW⟩
    · unfold encR
      rw [List.map_map]
      rfl
  · have := hq U (hT.trans hU)
    unfold encT mulL2 at this
    rw [List.map_map] at this
    exact this
end K07
set_option Elab.async false
set_option linter.all false
set_option maxRecDepth 100000
set_option maxHeartbeats 4000000
namespace K07
open PySem MP
/-! ### the package's own functions of tables -/
theorem jt_num {ts : List (List Num)} {S : Sto} : Jt S (numT ts) := ⟨⟨_, rfl⟩, fun ds hd e he => by
  cases (show D.tup (ts.map numR) = .tup ds from hd)
  obtain ⟨r, _, rfl⟩ := List.mem_map.mp he
  exact jd_tup fun x hx => by
    obtain ⟨y, _, rfl⟩ := List.mem_map.mp hx
    exact Td.num y⟩
theorem require_table_ok {ts : List (List Num)} {S : Sto} {Q : D → Sto → Prop} (hb : tableB (numT ts) = true) (hq : ∀ T, Ex S T → Q .non T) : Wp (F_require_table [numT ts] S) Q := by
  unfold F_require_table b_require_table
  rw [wp_run, wps_if, wp_fNot, wp_fT, wp_call]
  simp only [entry, wp_call, wp_cons, wp_nil, wp_var, wp_c, wp_ok, List.map_cons, List.map_nil, List.cons_append, List.nil_append, List.getElem?_cons_zero, List.getElem?_cons_succ, List.length_cons, List.length_nil, if_true]
  refine is_table_ok jt_num fun T hT => ?_
  rw [hb]
  simp only [truD_bl, wp_ok, Bool.not_true, Bool.false_eq_true, if_false, wps_nil, rn_nx]
  exact hq T hT
theorem require_tables_ok {ts us : List (List Num)} {S : Sto} {Q : D → Sto → Prop} (hb : tableB (numT ts) = true) (hb2 : tableB (numT us) = true) (hq : ∀ T, Ex S T → Q .non T) : Wp (F_require_tables [numT ts, numT us] S) Q := by
  unfold F_require_tables b_require_tables
  rw [wp_run, wps_seq, wps_expr, wp_call]
  simp only [entry, wp_call, wp_cons, wp_nil, wp_var, wp_c, wp_ok, List.map_cons, List.map_nil, List.cons_append, List.nil_append, List.getElem?_cons_zero, List.getElem?_cons_succ, List.length_cons, List.length_nil, if_true]
  refine require_table_ok hb fun T hT => ?_
  rw [sq_nx, wps_expr, wp_call]
  simp only [entry, wp_call, wp_cons, wp_nil, wp_var, wp_c, wp_ok, List.map_cons, List.map_nil, List.cons_append, List.nil_append, List.getElem?_cons_zero, List.getElem?_cons_succ, List.length_cons, List.length_nil, if_true]
  refine require_table_ok hb2 fun U hU => ?_
  rw [rn_nx]
  exact hq U (hT.trans hU)
/-- shape, and at most 40 either way -/
structure Sh (r c : Nat) (ts : List (List Num)) : Prop where
  len : ts.length = r
  row : ∀ l ∈ ts, l.length = c
  r1 : 1 ≤ r
  r2 : r ≤ 40
  c1 : 1 ≤ c
  c2 : c ≤ 40
theorem Sh.q {r c : Nat} {ts : List (List Num)} (h : Sh r c ts) : (qT ts).length = r ∧ ∀ l ∈ qT ts, l.length = c := by
  refine ⟨by unfold qT; rw [List.length_map]; exact h.len, fun l hl => ?_⟩
  obtain ⟨x, hx, rfl⟩ := List.mem_map.mp hl
  unfold qR
  rw [List.length_map]
  exact h.row x hx
theorem tableB_sh {r c : Nat} {ts : List (List Num)} (h : Sh r c ts) (hn : ∀ l ∈ ts, ∀ x ∈ l, numberB x.d = true) : tableB (numT ts) = true := by
  have h1 := h.r1
  have h2 := h.r2
  have hl := h.len
  show (decide (1 ≤ (ts.map numR).length) && (decide ((ts.map numR).length ≤ 40) && ((ts.map numR).all rowB && (ts.map numR).all fun r => decide (lenD r = lenD ((ts.map numR).headD .non))))) = true
  rw [List.length_map, Bool.and_eq_true, Bool.and_eq_true, Bool.and_eq_true, decide_eq_true_eq, decide_eq_true_eq]
  have hlen : ∀ d ∈ ts.map numR, lenD d = c := fun d hd => by
    obtain ⟨l, hl, rfl⟩ := List.mem_map.mp hd
    show (l.map Num.d).length = c
    rw [List.length_map]
    exact h.row l hl
  refine ⟨by omega, by omega, List.all_eq_true.mpr fun d hd => ?_, List.all_eq_true.mpr fun d hd => ?_⟩
  · obtain ⟨l, hl, rfl⟩ := List.mem_map.mp hd
    show (decide (1 ≤ (l.map Num.d).length) && (decide ((l.map Num.d).length ≤ 40) && (l.map Num.d).all numberB)) = true
    have e := h.row l hl
    have c1 := h.c1
    have c2 := h.c2
    rw [List.length_map, Bool.and_eq_true, Bool.and_eq_true, decide_eq_true_eq, decide_eq_true_eq]
    refine ⟨by omega, by omega, List.all_eq_true.mpr fun d hd => ?_⟩
    obtain ⟨x, hx, rfl⟩ := List.mem_map.mp hd
    exact hn l hl x hx
  · rw [decide_eq_true_eq, hlen d hd]
    cases hz : ts.map numR with
    | nil =>
      rw [hz] at hd
      cases hd
    | cons x l =>
      show c = lenD x
      exact (hlen x (by rw [hz]; exact List.mem_cons_self)).symm
theorem table_turned_ok {r c : Nat} {ts : List (List Num)} {S : Sto} {Q : D → Sto → Prop} (hb : tableB (numT ts) = true) (h : Sh r c ts) (hq : ∀ T, Ex S T → Q (encT (turnL c (qT ts))) T) : Wp (F_table_turned [numT ts] S) Q := by
  have r1 := h.r1
  have r2 := h.r2
  have c2 := h.c2
  have hl := h.len
  unfold F_table_turned b_table_turned
  rw [wp_run, wps_seq, wps_expr, wp_call]
  simp only [entry, wp_call, wp_cons, wp_nil, wp_var, wp_c, wp_ok, List.map_cons, List.map_nil, List.cons_append, List.nil_append, List.getElem?_cons_zero, List.getElem?_cons_succ, List.length_cons, List.length_nil, if_true]
  refine require_table_ok hb fun T hT => ?_
  rw [sq_nx, wps_ret, wp_call]
  simp only [entry, wp_call, wp_cons, wp_nil, wp_var, wp_c, wp_ok, List.map_cons, List.map_nil, List.cons_append, List.nil_append, List.getElem?_cons_zero, List.getElem?_cons_succ, List.length_cons, List.length_nil, if_true]
  refine table_told_ok (by omega) (fun l hl => by rw [h.row l hl]; omega) fun U hU => ?_
  exact turned_in_ok (by rw [h.q.1]; omega) h.q.2 (by rw [h.q.1]; omega) (by omega) fun V hV => hq V (hT.trans (hU.trans hV))
theorem headlen {r c : Nat} {ts : List (List Num)} {S : Sto} (h : Sh r c ts) : ∃ d, dAt (numT ts) (.int 0) S = .ok d S ∧ nLen [d] S = .ok (.int (c : Nat)) S := by
  have hl := h.len
  have r1 := h.r1
  obtain ⟨x, l, rfl⟩ : ∃ x l, ts = x :: l := by
    cases ts with
    | nil => simp at hl; omega
    | cons x l => exact ⟨x, l, rfl⟩
  refine ⟨numR x, ?_, ?_⟩
  · show dAt (.tup (numR x :: l.map numR)) (.int 0) S = _
    rw [dAt_tup]
    simp [L2.atI, L2.ixN]
  · unfold numR
    rw [nLen_tup, List.length_map, h.row x List.mem_cons_self]
theorem lenT {r c : Nat} {ts : List (List Num)} {S : Sto} (h : Sh r c ts) : nLen [numT ts] S = .ok (.int (r : Nat)) S := by
  unfold numT
  rw [nLen_tup, List.length_map, h.len]
theorem table_product_ok {r n c k l : Nat} {ts us : List (List Num)} {S : Sto} {Q : D → Sto → Prop} (hb : tableB (numT ts) = true) (hb2 : tableB (numT us) = true) (h : Sh r n ts) (h' : Sh n c us) (h1 : TS k (qT ts)) (h2 : TS l (qT us)) (hk : 1 ≤ k) (hl : 1 ≤ l) (hw : 1 + (k + l) * n ≤ 2000) (hkl : k + l ≤ 2000)
    (hq : ∀ T, Ex S T → Q (encT (mulL2 c (qT ts) (qT us))) T) : Wp (F_table_product [numT ts, numT us] S) Q := by
  have a1 := h.r1
  have a2 := h.r2
  have a3 := h.c2
  have b1 := h'.r1
  have b2 := h'.r2
  have b3 := h'.c2
  have e1 := h.len
  have e2 := h'.len
  unfold F_table_product b_table_product
  rw [wp_run, wps_seq, wps_expr, wp_call]
  simp only [entry, wp_call, wp_cons, wp_nil, wp_var, wp_c, wp_ok, List.map_cons, List.map_nil, List.cons_append, List.nil_append, List.getElem?_cons_zero, List.getElem?_cons_succ, List.length_cons, List.length_nil, if_true]
  refine require_tables_ok hb hb2 fun T hT => ?_
  rw [sq_nx, wps_seq, wps_if, wp_fB, wp_d2, wp_dN, wp_cons, wp_d2]
  obtain ⟨d, g1, g2⟩ := headlen (S := T) h
  simp only [entry, wp_call, wp_cons, wp_nil, wp_var, wp_c, wp_ok, List.map_cons, List.map_nil, List.cons_append, List.nil_append, List.getElem?_cons_zero, List.getElem?_cons_succ, List.length_cons, List.length_nil, if_true, wp_dN, g1, g2, lenT h', dEqB_int, if_true, decide_true, Bool.not_true, Bool.false_eq_true, if_false, wps_nil]
  rw [sq_nx, wps_ret, wp_call]
  simp only [entry, wp_call, wp_cons, wp_nil, wp_var, wp_c, wp_ok, List.map_cons, List.map_nil, List.cons_append, List.nil_append, List.getElem?_cons_zero, List.getElem?_cons_succ, List.length_cons, List.length_nil, if_true]
  refine table_told_ok (by omega) (fun l hl => by rw [h.row l hl]; omega) fun U hU => ?_
  refine table_told_ok (by omega) (fun l hl => by rw [h'.row l hl]; omega) fun V hV => ?_
  exact table_product_in_ok h1 h2 hk hl h.q.2 h'.q.2 (by rw [h'.q.1]; omega) (by rw [h.q.1]; omega) (by rw [h'.q.1]; omega) (by omega) (by omega) hw hkl fun W hW => hq W (hT.trans (hU.trans (hV.trans hW)))
end K07
set_option Elab.async false
set_option linter.all false
set_option maxRecDepth 100000
set_option maxHeartbeats 4000000
/-! Lists of rows in the store; comprehensions that roll the dice. -/
namespace MP
open PySem

theorem guard_two {n k : Nat} {ds es its : List D} {S : Sto} (h : S[n]? = some (.lst ds)) (h' : S[k]? = some (.lst es)) : (Src.mk its [(n, ds), (k, es)]).ok S = true := by
  show ((match S[n]? with | some (.lst e) => beqDs e ds | _ => false) && ((match S[k]? with | some (.lst e) => beqDs e es | _ => false) && true)) = true
  rw [h, h']
  simp [beqDs_refl]
theorem Ed.up {nd : Nat} {S T : Sto} (h : Ed nd S T) (hd : nd < S.length) : nd < T.length := Nat.lt_of_lt_of_le hd h.len
/-- a row in the store, not at the place nd -/
def LR (nd : Nat) (l : List Rat) (d : D) (S : Sto) : Prop := ∃ k, d = .ref k ∧ k ≠ nd ∧ S[k]? = some (.lst (l.map fr))
theorem LR.ed {nd : Nat} {l : List Rat} {d : D} {S T : Sto} (h : LR nd l d S) (e : Ed nd S T) : LR nd l d T := by
  obtain ⟨k, h1, h2, h3⟩ := h
  exact ⟨k, h1, h2, e.get h3 h2⟩
/-- rows in the store -/
def LL (nd : Nat) (t : List (List Rat)) (d : D) (S : Sto) : Prop := ∃ (n : Nat) (ps : List (List Rat × D)), d = .ref n ∧ n ≠ nd ∧ S[n]? = some (.lst (ps.map Prod.snd)) ∧ ps.map Prod.fst = t ∧ ∀ p ∈ ps, LR nd p.1 p.2 S
theorem LL.ed {nd : Nat} {t : List (List Rat)} {d : D} {S T : Sto} (h : LL nd t d S) (e : Ed nd S T) : LL nd t d T := by
  obtain ⟨n, ps, h1, h2, h3, h4, h5⟩ := h
  exact ⟨n, ps, h1, h2, e.get h3 h2, h4, fun p hp => (h5 p hp).ed e⟩
theorem A2.pairs {α : Type} {P : List Rat → D → Prop} {g : α → List Rat} : ∀ {xs : List α} {ys : List D}, A2 (fun x y => P (g x) y) xs ys → ∃ ps : List (List Rat × D), ps.map Prod.snd = ys ∧ ps.map Prod.fst = xs.map g ∧ ∀ p ∈ ps, P p.1 p.2
  | _, _, .nil => ⟨[], rfl, rfl, by simp⟩
  | x :: xs, y :: ys, .cons h t => by
    obtain ⟨ps, h1, h2, h3⟩ := t.pairs
    refine ⟨(g x, y) :: ps, by simp [h1], by simp [h2], fun p hp => ?_⟩
    rcases List.mem_cons.mp hp with rfl | hp
    · exact h
    · exact h3 p hp
theorem LL.of {α : Type} {nd n : Nat} {xs : List α} {ys : List D} {g : α → List Rat} {S : Sto} (hn : n ≠ nd) (h : S[n]? = some (.lst ys)) (h2 : A2 (fun x y => LR nd (g x) y S) xs ys) : LL nd (xs.map g) (.ref n) S := by
  obtain ⟨ps, e1, e2, e3⟩ := A2.pairs (P := fun l y => LR nd l y S) h2
  exact ⟨n, ps, rfl, hn, by rw [e1]; exact h, e2, e3⟩
theorem lc_dice {α : Type} {P : α → D → Sto → Prop} {nd w m : Nat} {ok : Sto → Bool} {t : Tg} {e : Fe} {ρ : Rho} {enc : α → D} {Q : List D → Sto → Prop} (mono : ∀ x y T U, P x y T → Ed nd T U → P x y U) : ∀ {xs : List α} {S0 S : Sto} {c : Nat}, Ed nd S0 S → Dice S nd c → c + w * xs.length ≤ m →
    (∀ x, x ∈ xs → ∀ T k, Ed nd S0 T → Dice T nd k → k + w ≤ m → ∃ ρ1, setT t (enc x) ρ = some ρ1 ∧ Wp (e ρ1 T) fun y U => P x y U ∧ Ed nd T U ∧ Dice U nd (k + w)) → (∀ T, Ed nd S0 T → ok T = true) →
    (∀ ys T, Ed nd S T → A2 (fun x y => P x y T) xs ys → Dice T nd (c + w * xs.length) → Q ys T) → Wp (lcL ok t fYes e ρ (xs.map enc) S) Q
  | [], S0, S, c, h0, hd, hm, he, hok, hq => hq [] S Ed.refl .nil hd
  | x :: xs, S0, S, c, h0, hd, hm, he, hok, hq => by
    rw [List.length_cons, Nat.mul_succ] at hm
    obtain ⟨ρ1, h1, h2⟩ := he x List.mem_cons_self S c h0 hd (by omega)
    obtain ⟨y, U, h3, h4, h5, h6⟩ := h2.out
    show Wp (lcL ok t fYes e ρ (enc x :: xs.map enc) S) Q
    unfold lcL
    rw [h1]
    show Wp (match e ρ1 S with
      | .ok y S2 => if ok S2 = true then (lcL ok t fYes e ρ (xs.map enc) S2).bind fun ys S3 => .ok (y :: ys) S3 else .stuck
      | _ => .stuck) Q
    rw [h3]
    show Wp (if ok U = true then _ else _) Q
    rw [if_pos (hok U (h0.trans h5)), wp_bind]
    refine lc_dice mono (h0.trans h5) h6 (by omega) (fun z hz => he z (List.mem_cons_of_mem _ hz)) hok fun ys T hT hys hD => hq (y :: ys) T (h5.trans hT) (.cons (mono _ _ _ _ h4 hT) hys) ?_
    rw [List.length_cons, Nat.mul_succ]
    exact hD.up Ex.refl (by omega)
section
variable {α : Type} {f : Fi} {t : Tg} {e : Fe} {vs : List Nat} {ρ : Rho} {S : Sto} {enc : α → D} {xs : List α} {gd : List (Nat × List D)} {Q : D → Sto → Prop} {P : α → D → Sto → Prop} {nd w m c : Nat}
theorem lst_dice (mono : ∀ x y T U, P x y T → Ed nd T U → P x y U) (hf : f ρ S = .ok ⟨xs.map enc, gd⟩ S) (hg : ∀ T, Ed nd S T → (Src.mk (xs.map enc) gd).ok T = true) (hl : xs.length ≤ 1000000) (hD : Dice S nd c) (hm : c + w * xs.length ≤ m)
    (he : ∀ x, x ∈ xs → ∀ T k, Ed nd S T → Dice T nd k → k + w ≤ m → ∃ ρ1, setT t (enc x) (wipeR ρ vs) = some ρ1 ∧ Wp (e ρ1 T) fun y U => P x y U ∧ Ed nd T U ∧ Dice U nd (k + w))
    (hq : ∀ T n ys, Ed nd S T → S.length ≤ n → T[n]? = some (.lst ys) → A2 (fun x y => P x y T) xs ys → Dice T nd (c + w * xs.length) → Q (.ref n) T) : Wp (dLc f t fYes e vs ρ S) Q := by
  rw [wp_lc, hf, wp_ok]
  refine lc_dice mono (S0 := S) Ed.refl hD hm he hg fun ys T hT hys hD' => ?_
  rw [if_pos (by rw [← hys.length]; unfold sizeLine; omega)]
  exact hq _ _ ys (hT.app _) hT.len get_new (hys.mono fun x y h => mono _ _ _ _ h (Ed.refl.app _)) hD'.app
theorem tup_dice (mono : ∀ x y T U, P x y T → Ed nd T U → P x y U) (hf : f ρ S = .ok ⟨xs.map enc, gd⟩ S) (hg : ∀ T, Ed nd S T → (Src.mk (xs.map enc) gd).ok T = true) (hl : xs.length ≤ 1000000) (hD : Dice S nd c) (hm : c + w * xs.length ≤ m)
    (he : ∀ x, x ∈ xs → ∀ T k, Ed nd S T → Dice T nd k → k + w ≤ m → ∃ ρ1, setT t (enc x) (wipeR ρ vs) = some ρ1 ∧ Wp (e ρ1 T) fun y U => P x y U ∧ Ed nd T U ∧ Dice U nd (k + w))
    (hq : ∀ T ys, Ed nd S T → A2 (fun x y => P x y T) xs ys → Dice T nd (c + w * xs.length) → Q (.tup ys) T) : Wp (dN nTuple (aCons (dLc f t fYes e vs) aNil) ρ S) Q := by
  rw [wp_dN, wp_cons]
  refine lst_dice mono hf hg hl hD hm he fun T n ys hT _ hn hys hD' => ?_
  rw [wp_nil, nTuple_ref hn]
  exact hq T ys hT hys hD'
end
/-! ### bounds of drawn entries -/
structure Bd (n d : Nat) (q : Rat) : Prop where
  n : q.num.natAbs ≤ n
  d : q.den ≤ d
theorem Bd.up {n d n' d' : Nat} {q : Rat} (h : Bd n d q) (hn : n ≤ n') (hd : d ≤ d') : Bd n' d' q := ⟨Nat.le_trans h.n hn, Nat.le_trans h.d hd⟩
theorem Bd.zero {n d : Nat} (hd : 1 ≤ d) : Bd n d 0 := ⟨by simp, by simpa using hd⟩
theorem Bd.int {n d : Nat} {i : Int} (h : i.natAbs ≤ n) (hd : 1 ≤ d) : Bd n d (i : Rat) := ⟨by simpa using h, by simpa using hd⟩
theorem Bd.frac {n d : Nat} {t b : Int} (ht : t.natAbs ≤ n) (hb : b ≠ 0) (h : b.natAbs ≤ d) : Bd n d (Rat.divInt t b) := ⟨Nat.le_trans (divInt_num_le ..) ht, Nat.le_trans (divInt_den_le _ _ hb) h⟩
theorem Bd.mulI {n d k : Nat} {f : Int} {b : Rat} (hb : Bd n d b) (hf : f.natAbs ≤ k) : Bd (k * n) d ((f : Rat) * b) := by
  rw [mul_eq]
  refine ⟨Nat.le_trans (divInt_num_le ..) ?_, Nat.le_trans (divInt_den_le _ _ (den0 _ _)) ?_⟩
  · rw [Int.natAbs_mul]
    exact Nat.mul_le_mul (by simpa using hf) hb.n
  · have := hb.d
    have e : (((f : Rat).den : Int) * (b.den : Int)).natAbs = b.den := by simp
    rw [e]; exact this
theorem Bd.add {n d m e : Nat} {a b : Rat} (ha : Bd n d a) (hb : Bd m e b) : Bd (n * e + m * d) (d * e) (a + b) := by
  rw [add_eq]
  refine ⟨Nat.le_trans (divInt_num_le ..) (Nat.le_trans (Int.natAbs_add_le ..) ?_), Nat.le_trans (divInt_den_le _ _ (den0 _ _)) ?_⟩
  · rw [Int.natAbs_mul, Int.natAbs_mul, Int.natAbs_natCast, Int.natAbs_natCast]
    exact Nat.add_le_add (Nat.mul_le_mul ha.n hb.d) (Nat.mul_le_mul hb.n ha.d)
  · rw [Int.natAbs_mul, Int.natAbs_natCast, Int.natAbs_natCast]
    exact Nat.mul_le_mul ha.d hb.d
theorem Bd.sz {n d k : Nat} {q : Rat} (h : Bd n d q) (hn : n < 2 ^ (110 * k)) (hd : d < 2 ^ (4 * k)) : Sz k q := ⟨Nat.lt_of_le_of_lt h.n hn, Nat.lt_of_le_of_lt h.d hd⟩
/-- the bounds of m drawn rows -/
def bN (m : Nat) : Nat := if m ≤ 2 then 10 ^ 15 else if m = 3 then 12 * 10 ^ 15 else 576 * 10 ^ 15
def bD (m : Nat) : Nat := if m ≤ 2 then 4 else if m = 3 then 16 else 256
theorem Bd.one {m : Nat} {q : Rat} (h : Bd (10 ^ 15) 4 q) : Bd (bN m) (bD m) q := by
  refine h.up ?_ ?_
  · unfold bN; split
    · exact Nat.le_refl _
    · split <;> decide
  · unfold bD; split
    · exact Nat.le_refl _
    · split <;> decide
theorem Bd.next {m : Nat} {q : Rat} (hm : m < 4) (h : Bd (bN m) (bD m) q) : Bd (bN (m + 1)) (bD (m + 1)) q := by
  refine h.up ?_ ?_
  · match m, hm with
    | 0, _ => decide
    | 1, _ => decide
    | 2, _ => decide
    | 3, _ => decide
  · match m, hm with
    | 0, _ => decide
    | 1, _ => decide
    | 2, _ => decide
    | 3, _ => decide
theorem Bd.comb {m : Nat} {a b : Rat} {f : Int} (h1 : 1 < m) (hm : m < 4) (ha : Bd (bN m) (bD m) a) (hb : Bd (bN m) (bD m) b) (hf : f.natAbs ≤ 2) : Bd (bN (m + 1)) (bD (m + 1)) (a + (f : Rat) * b) := by
  refine (ha.add (hb.mulI hf)).up ?_ ?_
  · match m, h1, hm with
    | 2, _, _ => decide
    | 3, _, _ => decide
  · match m, h1, hm with
    | 2, _, _ => decide
    | 3, _, _ => decide
theorem Bd.last {m : Nat} {q : Rat} (h : Bd (bN m) (bD m) q) : Bd (576 * 10 ^ 15) 256 q := by
  refine h.up ?_ ?_
  · unfold bN; split
    · decide
    · split <;> decide
  · unfold bD; split
    · decide
    · split <;> decide
theorem Bd.sz3 {q : Rat} (h : Bd (576 * 10 ^ 15) 256 q) : Sz 3 q := h.sz (by decide +kernel) (by decide +kernel)
/-! ### tables of fractions as tables of numbers -/
def nf (t : List (List Rat)) : List (List Num) := t.map fun r => r.map Num.f
theorem nf_q (t : List (List Rat)) : qT (nf t) = t := by
  unfold qT nf
  rw [List.map_map]
  conv => rhs; rw [← List.map_id t]
  refine List.map_congr_left fun r _ => ?_
  show qR (r.map Num.f) = r
  unfold qR
  rw [List.map_map]
  exact List.map_id r
theorem nf_d (t : List (List Rat)) : numT (nf t) = encT t := by
  unfold numT nf encT
  rw [List.map_map]
  congr 1
  refine List.map_congr_left fun r _ => ?_
  show numR (r.map Num.f) = encR r
  unfold numR encR
  rw [List.map_map]
  rfl
theorem dEq_encT {n : Bool} (a b : List (List Rat)) {S : Sto} : dEqB n (encT a) (encT b) S = .ok (.bl (if n then !decide (a = b) else decide (a = b))) S := dEqB_en (α := List (List Rat)) a b (by decide)
theorem dEq_encR {n : Bool} (a b : List Rat) {S : Sto} : dEqB n (encR a) (encR b) S = .ok (.bl (if n then !decide (a = b) else decide (a = b))) S := dEqB_en (α := List Rat) a b (by decide)
theorem dEq_fr {n : Bool} (a b : Rat) {S : Sto} : dEqB n (fr a) (fr b) S = .ok (.bl (if n then !decide (a = b) else decide (a = b))) S := dEqB_en (α := Rat) a b (by decide)
end MP
set_option Elab.async false
set_option linter.all false
set_option maxRecDepth 100000
set_option maxHeartbeats 4000000
/-! The algebra of tables. -/
namespace MP
open PySem
def idT (n : Nat) : List (List Rat) := tab n n fun i j => if i = j then 1 else 0
def addT (a b : List (List Rat)) : List (List Rat) := List.zipWith (fun x y => List.zipWith (· + ·) x y) a b
def sclT (x : Rat) (t : List (List Rat)) : List (List Rat) := t.map fun row => row.map fun q => q * x
structure ShQ (r c : Nat) (t : List (List Rat)) : Prop where
  len : t.length = r
  row : ∀ l ∈ t, l.length = c
theorem ShQ.tab {r c : Nat} {f : Nat → Nat → Rat} : ShQ r c (tab r c f) := ⟨by unfold MP.tab; simp, fun l hl => by
  unfold MP.tab at hl
  obtain ⟨i, _, rfl⟩ := List.mem_map.mp hl
  unfold rw_; simp⟩
theorem ShQ.eq {r c : Nat} {t : List (List Rat)} (h : ShQ r c t) : ∃ f, t = MP.tab r c f := ⟨_, tab_of h.len h.row⟩
theorem add_tab {r c : Nat} {f g : Nat → Nat → Rat} : addT (tab r c f) (tab r c g) = tab r c fun i j => f i j + g i j := by
  unfold addT tab
  rw [List.zipWith_map, List.zipWith_self]
  refine List.map_congr_left fun i _ => ?_
  exact zip_rw (f i) (g i) (· + ·) c
theorem ShQ.turn {r c : Nat} {t : List (List Rat)} (h : ShQ r c t) : ShQ c r (turnL c t) := by
  obtain ⟨f, rfl⟩ := h.eq
  rw [turn_tab]
  exact .tab
theorem ShQ.mul {r n c : Nat} {t u : List (List Rat)} (h : ShQ r n t) (h' : ShQ n c u) : ShQ r c (mulL2 c t u) := by
  obtain ⟨f, rfl⟩ := h.eq
  obtain ⟨g, rfl⟩ := h'.eq
  rw [mul_tab]
  exact .tab
theorem ShQ.add {r c : Nat} {t u : List (List Rat)} (h : ShQ r c t) (h' : ShQ r c u) : ShQ r c (addT t u) := by
  obtain ⟨f, rfl⟩ := h.eq
  obtain ⟨g, rfl⟩ := h'.eq
  rw [add_tab]
  exact .tab
theorem turn_mul {r n c : Nat} {t u : List (List Rat)} (h : ShQ r n t) (h' : ShQ n c u) : mulL2 r (turnL c u) (turnL n t) = turnL c (mulL2 c t u) := by
  obtain ⟨f, rfl⟩ := h.eq
  obtain ⟨g, rfl⟩ := h'.eq
  rw [turn_tab, turn_tab, mul_tab, mul_tab, turn_tab]
  exact tab_congr fun i j _ _ => sumN_congr fun k _ => Rat.mul_comm ..
theorem mul_add {r n c : Nat} {t s u : List (List Rat)} (h : ShQ r n t) (h1 : ShQ r n s) (h' : ShQ n c u) : mulL2 c (addT t s) u = addT (mulL2 c t u) (mulL2 c s u) := by
  obtain ⟨f, rfl⟩ := h.eq
  obtain ⟨e, rfl⟩ := h1.eq
  obtain ⟨g, rfl⟩ := h'.eq
  rw [add_tab, mul_tab, mul_tab, mul_tab, add_tab]
  refine tab_congr fun i j _ _ => ?_
  rw [← sumN_add]
  exact sumN_congr fun k _ => Rat.add_mul ..
theorem mul_mul {r n c m : Nat} {t u w : List (List Rat)} (h : ShQ r n t) (h1 : ShQ n c u) (h' : ShQ c m w) : mulL2 m (mulL2 c t u) w = mulL2 m t (mulL2 m u w) := by
  obtain ⟨f, rfl⟩ := h.eq
  obtain ⟨g, rfl⟩ := h1.eq
  obtain ⟨e, rfl⟩ := h'.eq
  rw [mul_tab, mul_tab, mul_tab, mul_tab]
  refine tab_congr fun i j _ _ => ?_
  have e1 : sumN (fun k => sumN (fun k_1 => f i k_1 * g k_1 k) n * e k j) c = sumN (fun k => sumN (fun l => f i l * g l k * e k j) n) c := sumN_congr fun k _ => by
    rw [Rat.mul_comm, ← sumN_mul]
    exact sumN_congr fun l _ => Rat.mul_comm ..
  rw [e1, ← sumN_swap]
  refine sumN_congr fun l _ => ?_
  rw [← sumN_mul]
  exact sumN_congr fun k _ => Rat.mul_assoc ..
theorem id_mul {r n : Nat} {t : List (List Rat)} (h : ShQ r n t) : mulL2 n (idT r) t = t := by
  obtain ⟨f, rfl⟩ := h.eq
  unfold idT
  rw [mul_tab]
  refine tab_congr fun i j hi _ => ?_
  rw [sumN_one (fun k => f k j), if_pos hi]
theorem mul_id {r n : Nat} {t : List (List Rat)} (h : ShQ r n t) : mulL2 n t (idT n) = t := by
  obtain ⟨f, rfl⟩ := h.eq
  unfold idT
  rw [mul_tab]
  refine tab_congr fun i j _ hj => ?_
  have e : sumN (fun k => f i k * (if k = j then 1 else 0)) n = sumN (fun k => (if j = k then 1 else 0) * f i k) n := sumN_congr fun k _ => by
    by_cases hk : k = j
    · subst hk; rw [if_pos rfl, Rat.mul_comm]
    · rw [if_neg hk, if_neg (Ne.symm hk), Rat.mul_comm]
  rw [e, sumN_one (fun k => f i k), if_pos hj]
/-- a table of weight k, r rows and c columns -/
structure Tb (k r c : Nat) (t : List (List Rat)) : Prop where
  sh : ShQ r c t
  sz : TS k t
  r1 : 1 ≤ r
  r2 : r ≤ 40
  c1 : 1 ≤ c
  c2 : c ≤ 40
  k1 : 1 ≤ k
theorem Tb.turn {k r c : Nat} {t : List (List Rat)} (h : Tb k r c t) : Tb k c r (turnL c t) := ⟨h.sh.turn, turn_sz h.sz h.k1, h.c1, h.c2, h.r1, h.r2, h.k1⟩
theorem Tb.mul {k l r n c : Nat} {t u : List (List Rat)} (h : Tb k r n t) (h' : Tb l n c u) : Tb (1 + (k + l) * n) r c (mulL2 c t u) := ⟨h.sh.mul h'.sh, mul_sz h.sz h'.sz h.k1 h'.k1 (fun r hr => Nat.le_of_eq (h.sh.row r hr)), h.r1, h.r2, h'.c1, h'.c2, by omega⟩
theorem Tb.up {k l r n : Nat} {t : List (List Rat)} (h : Tb k r n t) (e : k ≤ l) : Tb l r n t := ⟨h.sh, h.sz.up e, h.r1, h.r2, h.c1, h.c2, Nat.le_trans h.k1 e⟩
theorem Tb.add {k l r c : Nat} {t u : List (List Rat)} (h : Tb k r c t) (h' : Tb l r c u) : Tb (k + l) r c (addT t u) := ⟨h.sh.add h'.sh, fun x hx y hy => by
  unfold addT at hx
  obtain ⟨i, hi, rfl⟩ := List.mem_iff_getElem.mp hx
  rw [List.getElem_zipWith] at hy
  obtain ⟨j, hj, rfl⟩ := List.mem_iff_getElem.mp hy
  rw [List.getElem_zipWith]
  exact (h.sz _ (List.getElem_mem _) _ (List.getElem_mem _)).add (h'.sz _ (List.getElem_mem _) _ (List.getElem_mem _)) h.k1 h'.k1, h.r1, h.r2, h.c1, h.c2, by have := h.k1; omega⟩
theorem Tb.id {n : Nat} (h1 : 1 ≤ n) (h2 : n ≤ 40) : Tb 1 n n (idT n) := ⟨.tab, fun r hr x hx => by
  unfold idT tab at hr
  obtain ⟨i, _, rfl⟩ := List.mem_map.mp hr
  unfold rw_ at hx
  obtain ⟨j, _, rfl⟩ := List.mem_map.mp hx
  show Sz 1 (if i = j then 1 else 0)
  split
  · exact ⟨by decide, by decide⟩
  · exact Sz.zero, h1, h2, h1, h2, Nat.le_refl _⟩
end MP
set_option Elab.async false
set_option linter.all false
set_option maxRecDepth 100000
set_option maxHeartbeats 4000000
namespace K07
open PySem MP
/-- tuple([e for t in f]), f laying things -/
theorem tup_compW {α : Type} {f : Fi} {t : Tg} {e : Fe} {vs : List Nat} {ρ : Rho} {S : Sto} {enc : α → D} {g : α → D} {xs : List α} {Q : D → Sto → Prop} (hf : ∀ R : Src → Sto → Prop, (∀ T, Ex S T → R ⟨xs.map enc, []⟩ T) → Wp (f ρ S) R) (hl : xs.length ≤ 1000000)
    (he : ∀ x, x ∈ xs → ∀ T, Ex S T → ∃ ρ1, setT t (enc x) (wipeR ρ vs) = some ρ1 ∧ Wp (e ρ1 T) fun y U => y = g x ∧ Ex T U) (hq : ∀ T, Ex S T → Q (.tup (xs.map g)) T) :
    Wp (dN nTuple (aCons (dLc f t fYes e vs) aNil) ρ S) Q := by
  rw [wp_dN, wp_cons, wp_lc]
  refine hf _ fun T hT => ?_
  refine lc_map (S0 := S) hT he (fun _ _ => rfl) fun U hU => ?_
  rw [if_pos (by rw [List.length_map]; unfold sizeLine; omega), wp_nil, nTuple_ref get_new, wp_ok]
  exact hq _ ((hT.trans hU).app _)
theorem zipT_src {ρ : Rho} {i j : Nat} {a b : List (List Rat)} {S : Sto} (h1 : ρ[i]? = some (some (encT a))) (h2 : ρ[j]? = some (some (encT b))) : iZp (aCons (dVar i) (aCons (dVar j) aNil)) ρ S = .ok ⟨(List.zip a b).map fun p => pairD (encR p.1) (encR p.2), []⟩ S := by
  have ez : zipD (a.map encR) (b.map encR) = (List.zip a b).map fun p => pairD (encR p.1) (encR p.2) := by
    unfold zipD
    rw [List.zipWith_map, List.zip, List.map_zipWith]
  have key : Wp (iZp (aCons (dVar i) (aCons (dVar j) aNil)) ρ S) fun s T => s = ⟨(List.zip a b).map fun p => pairD (encR p.1) (encR p.2), []⟩ ∧ T = S := by
    simp only [wp_iZp, wp_cons, wp_nil, wp_var, h1, h2]
    unfold encT
    simp only [zipS_tup, wp_ok, ez, and_self]
  obtain ⟨s, T, e, rfl, rfl⟩ := key.out
  exact e
theorem table_sum_ok {r c k l : Nat} {ts us : List (List Num)} {S : Sto} {Q : D → Sto → Prop} (hb : tableB (numT ts) = true) (hb2 : tableB (numT us) = true) (h : Sh r c ts) (h' : Sh r c us) (h1 : TS k (qT ts)) (h2 : TS l (qT us)) (hk : 1 ≤ k) (hl : 1 ≤ l) (hkl : k + l ≤ 2000)
    (hq : ∀ T, Ex S T → Q (encT (addT (qT ts) (qT us))) T) : Wp (F_table_sum [numT ts, numT us] S) Q := by
  have a2 := h.r2
  have a3 := h.c2
  have e1 := h.len
  have e2 := h'.len
  unfold F_table_sum b_table_sum
  rw [wp_run, wps_seq, wps_expr, wp_call]
  simp only [entry, wp_call, wp_cons, wp_nil, wp_var, wp_c, wp_ok, List.map_cons, List.map_nil, List.cons_append, List.nil_append, List.getElem?_cons_zero, List.getElem?_cons_succ, List.length_cons, List.length_nil, if_true]
  refine require_tables_ok hb hb2 fun T hT => ?_
  obtain ⟨d, g1, g2⟩ := headlen (S := T) h
  obtain ⟨d', g1', g2'⟩ := headlen (S := T) h'
  rw [sq_nx, wps_seq, wps_if, wp_fOr, wp_fB, wp_d2, wp_dN, wp_cons]
  simp only [entry, wp_call, wp_cons, wp_nil, wp_var, wp_c, wp_ok, List.map_cons, List.map_nil, List.cons_append, List.nil_append, List.getElem?_cons_zero, List.getElem?_cons_succ, List.length_cons, List.length_nil, if_true, wp_dN, wp_fB, wp_d2, g1, g2, g1', g2', lenT h, lenT h', dEqB_int, if_true, decide_true, Bool.not_true, Bool.false_eq_true, if_false, wps_nil]
  rw [sq_nx, wps_seq, wps_par, wp_cons, wp_call]
  simp only [entry, wp_call, wp_cons, wp_nil, wp_var, wp_c, wp_ok, List.map_cons, List.map_nil, List.cons_append, List.nil_append, List.getElem?_cons_zero, List.getElem?_cons_succ, List.length_cons, List.length_nil, if_true]
  refine table_told_ok (by omega) (fun l hl => by rw [h.row l hl]; omega) fun U hU => ?_
  refine table_told_ok (by omega) (fun l hl => by rw [h'.row l hl]; omega) fun V hV => ?_
  rw [sq_nx, wps_ret]
  refine tup_comp (xs := List.zip (qT ts) (qT us)) (enc := fun p => pairD (encR p.1) (encR p.2)) (g := fun p => encR (List.zipWith (· + ·) p.1 p.2)) (gd := []) (zipT_src rfl rfl) (fun _ _ => rfl) (by rw [List.length_zip, h.q.1]; omega) (fun p hp W hW => ⟨_, rfl, ?_⟩) fun W hW => ?_
  · have hm := List.of_mem_zip hp
    show Wp (dCall F_row_sum 2 (aCons (dVar 4) (aCons (dVar 5) aNil)) [_, _, _, _, some (encR p.1), some (encR p.2)] W) _
    simp only [wp_call, wp_cons, wp_nil, wp_var, List.getElem?_cons_zero, List.getElem?_cons_succ, List.length_cons, List.length_nil, if_true]
    exact row_sum_ok (h1 _ hm.1) (h2 _ hm.2) hk hl (by rw [h.q.2 _ hm.1]; omega) hkl fun X hX => ⟨rfl, hX⟩
  · have := hq W (hT.trans (hU.trans (hV.trans hW)))
    unfold encT addT at this
    rw [List.map_zipWith] at this
    rw [List.zip, List.map_zipWith]
    exact this
theorem require_ok {x : Num} {S : Sto} {Q : D → Sto → Prop} (h : numberB x.d = true) (hq : ∀ T, Ex S T → Q .non T) : Wp (F_require_number [x.d] S) Q := by
  unfold F_require_number b_require_number
  simp [entry]
  refine is_number_ok (Td.num x) fun T hT => ?_
  simp [h]
  exact hq T hT
theorem table_scaled_ok {r c k l : Nat} {ts : List (List Num)} {x : Num} {S : Sto} {Q : D → Sto → Prop} (hb : tableB (numT ts) = true) (hx : numberB x.d = true) (h : Sh r c ts) (h1 : TS k (qT ts)) (h2 : Sz l x.q) (hkl : k + l ≤ 2000)
    (hq : ∀ T, Ex S T → Q (encT ((qT ts).map fun row => row.map fun q => q * x.q)) T) : Wp (F_table_scaled [numT ts, x.d] S) Q := by
  have a2 := h.r2
  have a3 := h.c2
  have e1 := h.len
  unfold F_table_scaled b_table_scaled
  rw [wp_run, wps_seq, wps_expr, wp_call]
  simp only [entry, wp_call, wp_cons, wp_nil, wp_var, wp_c, wp_ok, List.map_cons, List.map_nil, List.cons_append, List.nil_append, List.getElem?_cons_zero, List.getElem?_cons_succ, List.length_cons, List.length_nil, if_true]
  refine require_table_ok hb fun T hT => ?_
  rw [sq_nx, wps_seq, wps_expr, wp_call]
  simp only [entry, wp_call, wp_cons, wp_nil, wp_var, wp_c, wp_ok, List.map_cons, List.map_nil, List.cons_append, List.nil_append, List.getElem?_cons_zero, List.getElem?_cons_succ, List.length_cons, List.length_nil, if_true]
  refine require_ok hx fun U hU => ?_
  rw [sq_nx, wps_ret]
  refine tup_compW (xs := qT ts) (enc := encR) (g := fun row => encR (row.map fun q => q * x.q)) (fun R hR => ?_) (by rw [h.q.1]; omega) (fun row hrow V hV => ⟨_, rfl, ?_⟩) fun V hV => ?_
  · rw [wp_iD, wp_call]
    simp only [entry, wp_call, wp_cons, wp_nil, wp_var, wp_c, wp_ok, List.map_cons, List.map_nil, List.cons_append, List.nil_append, List.getElem?_cons_zero, List.getElem?_cons_succ, List.length_cons, List.length_nil, if_true]
    exact table_told_ok (by omega) (fun l hl => by rw [h.row l hl]; omega) fun V hV => hR V hV
  · show Wp (dCall F_row_scaled 2 (aCons (dVar 2) (aCons (dCall F_pair_of 1 (aCons (dVar 1) aNil)) aNil)) [_, some x.d, some (encR row)] V) _
    simp only [wp_call, wp_cons, wp_nil, wp_var, List.getElem?_cons_zero, List.getElem?_cons_succ, List.length_cons, List.length_nil, if_true]
    rw [pair_num]
    simp only [wp_ok, wp_cons, wp_nil, List.length_cons, List.length_nil, if_true]
    exact row_scaled_ok (h1 row hrow) h2 hkl (by rw [h.q.2 row hrow]; omega) fun W hW => ⟨rfl, hW⟩
  · have := hq V (hT.trans (hU.trans hV))
    unfold encT at this
    rw [List.map_map] at this
    exact this
end K07
set_option Elab.async false
set_option linter.all false
set_option maxRecDepth 100000
set_option maxHeartbeats 4000000
namespace K07
open PySem MP
theorem row_times_ok {n c k l : Nat} {xs : List Num} {ts : List (List Num)} {S : Sto} {Q : D → Sto → Prop} (hr : rowB (numR xs) = true) (hb : tableB (numT ts) = true) (hx : xs.length = n) (h : Sh n c ts) (h1 : RS k (qR xs)) (h2 : TS l (qT ts)) (hk : 1 ≤ k) (hl : 1 ≤ l) (hw : 1 + (k + l) * n ≤ 2000) (hkl : k + l ≤ 2000)
    (hq : ∀ T, Ex S T → Q (encR ((turnL c (qT ts)).map fun col => dotL (qR xs) col)) T) : Wp (F_row_times [numR xs, numT ts] S) Q := by
  have a1 := h.r1
  have a2 := h.r2
  have a3 := h.c2
  have e1 := h.len
  have lx : ∀ T, nLen [numR xs] T = .ok (.int (n : Nat)) T := fun T => by unfold numR; rw [nLen_tup, List.length_map, hx]
  unfold F_row_times b_row_times
  rw [wp_run, wps_seq, wps_expr, wp_call]
  simp only [entry, wp_call, wp_cons, wp_nil, wp_var, wp_c, wp_ok, List.map_cons, List.map_nil, List.cons_append, List.nil_append, List.getElem?_cons_zero, List.getElem?_cons_succ, List.length_cons, List.length_nil, if_true]
  unfold F_require_row b_require_row
  rw [wp_run, wps_if, wp_fNot, wp_fT, wp_call]
  simp only [entry, wp_call, wp_cons, wp_nil, wp_var, wp_c, wp_ok, List.map_cons, List.map_nil, List.cons_append, List.nil_append, List.getElem?_cons_zero, List.getElem?_cons_succ, List.length_cons, List.length_nil, if_true]
  refine is_row_ok (jd_tup fun e he => by
    obtain ⟨y, _, rfl⟩ := List.mem_map.mp he
    exact Td.num y) fun T hT => ?_
  rw [hr]
  simp only [truD_bl, wp_ok, Bool.not_true, Bool.false_eq_true, if_false, wps_nil, rn_nx]
  rw [sq_nx, wps_seq, wps_expr, wp_call]
  simp only [entry, wp_call, wp_cons, wp_nil, wp_var, wp_c, wp_ok, List.map_cons, List.map_nil, List.cons_append, List.nil_append, List.getElem?_cons_zero, List.getElem?_cons_succ, List.length_cons, List.length_nil, if_true]
  refine require_table_ok hb fun U hU => ?_
  rw [sq_nx, wps_seq, wps_if, wp_fB, wp_d2, wp_dN, wp_cons]
  simp only [entry, wp_call, wp_cons, wp_nil, wp_var, wp_c, wp_ok, List.map_cons, List.map_nil, List.cons_append, List.nil_append, List.getElem?_cons_zero, List.getElem?_cons_succ, List.length_cons, List.length_nil, if_true, wp_dN, lx, lenT h, dEqB_int, if_true, decide_true, Bool.not_true, Bool.false_eq_true, if_false, wps_nil]
  rw [sq_nx, wps_ret, wp_d2, wp_call, wp_cons, wp_tup, wp_cons, wp_call]
  simp only [entry, wp_call, wp_cons, wp_nil, wp_var, wp_c, wp_ok, List.map_cons, List.map_nil, List.cons_append, List.nil_append, List.getElem?_cons_zero, List.getElem?_cons_succ, List.length_cons, List.length_nil, if_true]
  refine row_told_ok (by omega) fun V hV => ?_
  have hz1 : 1 ≤ sizeLine := by decide
  have hz01 : 0 + 1 ≤ sizeLine := by decide
  simp only [entry, wp_call, wp_cons, wp_nil, wp_var, wp_c, wp_ok, List.map_cons, List.map_nil, List.cons_append, List.nil_append, List.getElem?_cons_zero, List.getElem?_cons_succ, List.length_cons, List.length_nil, if_true, hz1, hz01]
  refine table_told_ok (by omega) (fun l hl => by rw [h.row l hl]; omega) fun W hW => ?_
  refine table_product_in_ok (a := [qR xs]) (n := n) (k := k) (l := l) (c := c) (fun r hr => by rw [List.mem_singleton.mp hr]; exact h1) h2 hk hl (fun r hr => by rw [List.mem_singleton.mp hr]; unfold qR; rw [List.length_map, hx]) h.q.2 (by rw [h.q.1]; omega) (by simp) (by rw [h.q.1]; omega) (by omega) (by omega) hw hkl fun X hX => ?_
  try simp only [entry, wp_call, wp_cons, wp_nil, wp_var, wp_c, wp_ok, List.map_cons, List.map_nil, List.cons_append, List.nil_append, List.getElem?_cons_zero, List.getElem?_cons_succ, List.length_cons, List.length_nil, if_true]
  show Wp (dAt (.tup [encR ((turnL c (qT ts)).map fun col => dotL (qR xs) col)]) (.int 0) X) _
  rw [dAt_tup]
  simp only [L2.atI, L2.ixN, List.length_cons, List.length_nil]
  exact hq X (hT.trans (hU.trans (hV.trans (hW.trans hX))))
theorem integerB_small {i : Int} (h : i.natAbs ≤ 1000000) : integerB (.int i) = true := by
  show (decide (_ < i) && decide (i < _)) = true
  rw [Bool.and_eq_true, decide_eq_true_eq, decide_eq_true_eq]
  omega
theorem rng_len (n : Nat) (h : n ≤ 1000) : (List.range n).length ≤ 1000000 := by rw [List.length_range]; omega
/-! ### the idle table -/
theorem rng_src {i n : Nat} {ρ : Rho} {S : Sto} (h : ρ[i]? = some (some (.int (n : Int)))) (hn : n ≤ 1000) : iR1 (aCons (dVar i) aNil) ρ S = .ok ⟨(List.range n).map (fun (i : Nat) => D.int (i : Int)), []⟩ S := by
  have key : Wp (iR1 (aCons (dVar i) aNil) ρ S) fun s T => s = ⟨(List.range n).map (fun (i : Nat) => D.int (i : Int)), []⟩ ∧ T = S := by
    simp only [wp_iR1, wp_cons, wp_nil, wp_var, h]
    rw [if_pos (by omega), ← rng0, Int.toNat_natCast]
    simp only [and_self]
  obtain ⟨s, T, e, rfl, rfl⟩ := key.out
  exact e
theorem idle_el {i j : Nat} {S : Sto} {A : Option D} : Wp (dIf (fB (d2 dEq (dVar 1) (dVar 2))) (dC c_ONE) (dC c_ZERO) [A, some (.int (i : Int)), some (.int (j : Int))] S) fun y U => y = fr (if i = j then 1 else 0) ∧ Ex S U := by
  simp only [wp_if, wp_fB, wp_d2, wp_var, List.getElem?_cons_zero, List.getElem?_cons_succ, dEqB_int, wp_ok, wp_c, Bool.false_eq_true, if_false]
  rw [dec_nat]
  by_cases hij : i = j
  · rw [if_pos (by simpa using hij), if_pos hij]
    exact ⟨rfl, Ex.refl⟩
  · rw [if_neg (by simpa using hij), if_neg hij]
    exact ⟨rfl, Ex.refl⟩
theorem idT_eq (n : Nat) : encT (idT n) = .tup ((List.range n).map fun i => .tup ((List.range n).map fun j => fr (if i = j then 1 else 0))) := by
  unfold encT idT tab
  rw [List.map_map]
  congr 1
  refine List.map_congr_left fun i _ => ?_
  show encR (rw_ n _) = _
  unfold encR rw_
  rw [List.map_map]
  rfl
theorem idle_in_eq {n : Nat} {S : Sto} (hn : n ≤ 1000) : ∃ d T, F_idle_in [.int (n : Int)] S = .ok d T ∧ (d = encT (idT n) ∧ Ex S T) := by
  rw [idT_eq]
  unfold F_idle_in b_idle_in
  have hs0 : ∀ (ρ : Rho) (S : Sto), ρ[0]? = some (some (.int (n : Int))) → iR1 (aCons (dVar 0) aNil) ρ S = .ok ⟨(List.range n).map (fun (i : Nat) => D.int (i : Int)), []⟩ S := fun ρ S h => rng_src h hn
  have hl := rng_len n hn
  clear hn
  generalize iR1 (aCons (dVar 0) aNil) = src at hs0 ⊢
  apply Wp.out
  rw [wp_run, wps_ret]
  refine tup_comp (g := fun i => D.tup ((List.range n).map fun j => fr (if i = j then 1 else 0))) (hs0 _ _ rfl) (fun _ _ => rfl) hl ?_ (fun T hT => ⟨rfl, hT⟩)
  intro i hi T hT
  refine ⟨[some (.int (n : Int)), some (.int (i : Int)), none], rfl, ?_⟩
  refine tup_comp (g := fun j => fr (if i = j then 1 else 0)) (hs0 _ _ rfl) (fun _ _ => rfl) hl ?_ ?_
  · intro j hj U hU
    exact ⟨[some (.int (n : Int)), some (.int (i : Int)), some (.int (j : Int))], rfl, idle_el⟩
  · exact fun U hU => ⟨rfl, hU⟩
theorem idle_within_ok {n : Nat} {S : Sto} (h1 : 1 ≤ n) (hn : n ≤ 40) : F_require_within [.int (n : Int), .int 1, c_MAX_SIDE] S = .ok .non S := by
  have k1 : Wp (F_require_within [.int (n : Int), .int 1, c_MAX_SIDE] S) fun d T => d = .non ∧ T = S := by
    unfold F_require_within b_require_within
    have w1 : F_is_within [.int (n : Int), .int 1, c_MAX_SIDE] S = .ok (.bl true) S := by
      have k2 : Wp (F_is_within [.int (n : Int), .int 1, c_MAX_SIDE] S) fun d T => d = .bl true ∧ T = S := by
        unfold F_is_within b_is_within
        have hi := is_integer_ok (d := .int (n : Int)) (S := S) ⟨_, rfl⟩
        have hI : integerB (.int (n : Int)) = true := integerB_small (by omega)
        rw [hI] at hi
        have g1 : (1 : Int) ≤ (n : Int) := by omega
        have g2 : (n : Int) ≤ 40 := by omega
        simp [entry, hi, c_MAX_SIDE, g1, g2]
      obtain ⟨d, T, e, rfl, rfl⟩ := k2.out
      exact e
    simp [entry, w1]
  obtain ⟨d, T, e, rfl, rfl⟩ := k1.out
  exact e
end K07
set_option Elab.async false
set_option linter.all false
set_option maxRecDepth 100000
set_option maxHeartbeats 4000000
namespace K07
open PySem MP
theorem idle_table_gen {n : Nat} {P : D → Sto → Sto → Prop} (fw fi : FN) (key : ∀ S, fw [.int (n : Int), .int 1, c_MAX_SIDE] S = .ok .non S) (hI : ∀ S, ∃ d T, fi [.int (n : Int)] S = .ok d T ∧ P d S T) (S : Sto) : ∃ d T, runF 1 (sSeq (sExpr (dCall fw 3 (aCons (dVar 0) (aCons (dC (.int 1)) (aCons (dC c_MAX_SIDE) aNil))))) (sRet (dCall fi 1 (aCons (dVar 0) aNil)))) [.int (n : Int)] S = .ok d T ∧ P d S T := by
  apply Wp.out
  rw [wp_run, wps_seq, wps_expr, wp_call]
  simp only [entry, wp_call, wp_cons, wp_nil, wp_var, wp_c, wp_ok, List.map_cons, List.map_nil, List.cons_append, List.nil_append, List.getElem?_cons_zero, List.getElem?_cons_succ, List.length_cons, List.length_nil, if_true]
  rw [key]
  simp only [entry, wp_call, wp_cons, wp_nil, wp_var, wp_c, wp_ok, List.map_cons, List.map_nil, List.cons_append, List.nil_append, List.getElem?_cons_zero, List.getElem?_cons_succ, List.length_cons, List.length_nil, if_true, sq_nx, wps_ret]
  obtain ⟨d, T, e, hT⟩ := hI S
  simp only [e, wp_ok, rn_ret]
  exact hT
theorem idle_table_eq {n : Nat} {S : Sto} (h1 : 1 ≤ n) (hn : n ≤ 40) : ∃ d T, F_idle_table [.int (n : Int)] S = .ok d T ∧ (d = encT (idT n) ∧ Ex S T) :=
  idle_table_gen (P := fun d S T => d = encT (idT n) ∧ Ex S T) F_require_within F_idle_in (fun S => idle_within_ok h1 hn) (fun S => idle_in_eq (by omega)) S
end K07
set_option Elab.async false
set_option linter.all false
set_option maxRecDepth 100000
set_option maxHeartbeats 4000000
namespace K07
open PySem MP
/-! ### what is refused -/
def xN (d : D) : Xn := ⟨3, some ("given", d)⟩
def Rz (r : Rs D) (T : Sto) (x : Xn) : Prop := ∃ U, Ex T U ∧ r = .exc x U
theorem Jt.up {S T : Sto} {d : D} (h : Jt S d) (e : Ex S T) : Jt T d := ⟨let ⟨a, q⟩ := h.ty; ⟨a, ty_ex q e⟩, fun ds hd x hx => (h.its ds hd x hx).up e⟩
theorem is_num {d : D} {T : Sto} (h : Td T d) : ∃ U, Ex T U ∧ F_is_number [d] T = .ok (.bl (numberB d)) U := by
  obtain ⟨r, U, e, rfl, hU⟩ := (is_number_ok h (Q := fun r U => r = .bl (numberB d) ∧ Ex T U) fun U hU => ⟨rfl, hU⟩).out
  exact ⟨U, hU, e⟩
theorem is_rw {d : D} {T : Sto} (h : Jd T d) : ∃ U, Ex T U ∧ F_is_row [d] T = .ok (.bl (rowB d)) U := by
  obtain ⟨r, U, e, rfl, hU⟩ := (is_row_ok h (Q := fun r U => r = .bl (rowB d) ∧ Ex T U) fun U hU => ⟨rfl, hU⟩).out
  exact ⟨U, hU, e⟩
theorem is_tb {d : D} {T : Sto} (h : Jt T d) : ∃ U, Ex T U ∧ F_is_table [d] T = .ok (.bl (tableB d)) U := by
  obtain ⟨r, U, e, rfl, hU⟩ := (is_table_ok h (Q := fun r U => r = .bl (tableB d) ∧ Ex T U) fun U hU => ⟨rfl, hU⟩).out
  exact ⟨U, hU, e⟩
theorem reqN_bad {d : D} {T : Sto} (h : Td T d) (hb : numberB d = false) : Rz (F_require_number [d] T) T (xN d) := by
  obtain ⟨U, hU, e⟩ := is_num h
  refine ⟨U, hU, ?_⟩
  unfold F_require_number b_require_number runF sIf
  simp [entry, fNot, fTru, dCall, aCons, aNil, dVar, e, hb, Rs.bind, thenS, sRaise1, xN]
theorem reqR_bad {d : D} {T : Sto} (h : Jd T d) (hb : rowB d = false) : Rz (F_require_row [d] T) T ⟨1, none⟩ := by
  obtain ⟨U, hU, e⟩ := is_rw h
  refine ⟨U, hU, ?_⟩
  unfold F_require_row b_require_row runF sIf
  simp [entry, fNot, fTru, dCall, aCons, aNil, dVar, e, hb, Rs.bind, thenS, sRaise0]
theorem reqR_good {d : D} {T : Sto} (h : Jd T d) (hb : rowB d = true) : ∃ U, Ex T U ∧ F_require_row [d] T = .ok .non U := by
  obtain ⟨U, hU, e⟩ := is_rw h
  refine ⟨U, hU, ?_⟩
  unfold F_require_row b_require_row runF sIf
  simp [entry, fNot, fTru, dCall, aCons, aNil, dVar, e, hb, Rs.bind, thenS, sRaise0, sNil]
theorem reqT_bad {d : D} {T : Sto} (h : Jt T d) (hb : tableB d = false) : Rz (F_require_table [d] T) T ⟨1, none⟩ := by
  obtain ⟨U, hU, e⟩ := is_tb h
  refine ⟨U, hU, ?_⟩
  unfold F_require_table b_require_table runF sIf
  simp [entry, fNot, fTru, dCall, aCons, aNil, dVar, e, hb, Rs.bind, thenS, sRaise0]
theorem reqT_good {d : D} {T : Sto} (h : Jt T d) (hb : tableB d = true) : ∃ U, Ex T U ∧ F_require_table [d] T = .ok .non U := by
  obtain ⟨U, hU, e⟩ := is_tb h
  refine ⟨U, hU, ?_⟩
  unfold F_require_table b_require_table runF sIf
  simp [entry, fNot, fTru, dCall, aCons, aNil, dVar, e, hb, Rs.bind, thenS, sRaise0, sNil]
theorem reqTs1 {a b : D} {T : Sto} (h : Jt T a) (hb : tableB a = false) : Rz (F_require_tables [a, b] T) T ⟨1, none⟩ := by
  obtain ⟨U, hU, e⟩ := reqT_bad h hb
  refine ⟨U, hU, ?_⟩
  unfold F_require_tables b_require_tables runF sSeq sExpr
  simp [entry, dCall, aCons, aNil, dVar, e, Rs.bind, thenS]
theorem reqTs2 {a b : D} {T : Sto} (h : Jt T a) (hb : tableB a = true) (h' : Jt T b) (hb' : tableB b = false) : Rz (F_require_tables [a, b] T) T ⟨1, none⟩ := by
  obtain ⟨V, hV, e0⟩ := reqT_good h hb
  obtain ⟨U, hU, e⟩ := reqT_bad (h'.up hV) hb'
  refine ⟨U, hV.trans hU, ?_⟩
  unfold F_require_tables b_require_tables runF sSeq sExpr
  simp [entry, dCall, aCons, aNil, dVar, e0, e, Rs.bind, thenS]
theorem reqTs3 {a b : D} {T : Sto} (h : Jt T a) (hb : tableB a = true) (h' : Jt T b) (hb' : tableB b = true) : ∃ U, Ex T U ∧ F_require_tables [a, b] T = .ok .non U := by
  obtain ⟨V, hV, e0⟩ := reqT_good h hb
  obtain ⟨U, hU, e⟩ := reqT_good (h'.up hV) hb'
  refine ⟨U, hV.trans hU, ?_⟩
  unfold F_require_tables b_require_tables runF sSeq sExpr
  simp [entry, dCall, aCons, aNil, dVar, e0, e, Rs.bind, thenS]
theorem tab_exc1 {c n : Nat} {F : FN} {a : D} {T U : Sto} {x : Xn} (hc : c ≤ 6) (h : tabV[c]? = some (F, n)) (e : F_require_table [a] T = .exc x U) : n = 1 ∧ F [a] T = .exc x U := by
  match c, h, hc with
  | 0, h, _ =>
    have h : some (F_table_turned, 1) = some (F, n) := h
    cases h
    refine ⟨rfl, ?_⟩
    unfold F_table_turned b_table_turned runF sSeq sExpr
    simp [entry, dCall, aCons, aNil, dVar, e, Rs.bind, thenS]
  | 1, h, _ =>
    have h : some (F_table_trace, 1) = some (F, n) := h
    cases h
    refine ⟨rfl, ?_⟩
    unfold F_table_trace b_table_trace runF sSeq sExpr
    simp [entry, dCall, aCons, aNil, dVar, e, Rs.bind, thenS]
  | 2, h, _ =>
    have h : some (F_determinant, 1) = some (F, n) := h
    cases h
    refine ⟨rfl, ?_⟩
    unfold F_determinant b_determinant runF sSeq sExpr
    simp [entry, dCall, aCons, aNil, dVar, e, Rs.bind, thenS]
  | 3, h, _ =>
    have h : some (F_table_undone, 1) = some (F, n) := h
    cases h
    refine ⟨rfl, ?_⟩
    unfold F_table_undone b_table_undone runF sSeq sExpr
    simp [entry, dCall, aCons, aNil, dVar, e, Rs.bind, thenS]
  | 4, h, _ =>
    have h : some (F_table_rank, 1) = some (F, n) := h
    cases h
    refine ⟨rfl, ?_⟩
    unfold F_table_rank b_table_rank runF sSeq sExpr
    simp [entry, dCall, aCons, aNil, dVar, e, Rs.bind, thenS]
  | 5, h, _ =>
    have h : some (F_table_echelon, 1) = some (F, n) := h
    cases h
    refine ⟨rfl, ?_⟩
    unfold F_table_echelon b_table_echelon runF sSeq sExpr
    simp [entry, dCall, aCons, aNil, dVar, e, Rs.bind, thenS]
  | 6, h, _ =>
    have h : some (F_table_kernel, 1) = some (F, n) := h
    cases h
    refine ⟨rfl, ?_⟩
    unfold F_table_kernel b_table_kernel runF sSeq sExpr
    simp [entry, dCall, aCons, aNil, dVar, e, Rs.bind, thenS]
theorem tab_exc2 {c n : Nat} {F : FN} {a b : D} {T U : Sto} {x : Xn} (hc : c = 7 ∨ c = 8) (h : tabV[c]? = some (F, n)) (e : F_require_tables [a, b] T = .exc x U) : n = 2 ∧ F [a, b] T = .exc x U := by
  rcases hc with rfl | rfl
  · have h : some (F_table_sum, 2) = some (F, n) := h
    cases h
    refine ⟨rfl, ?_⟩
    unfold F_table_sum b_table_sum runF sSeq sExpr
    simp [entry, dCall, aCons, aNil, dVar, e, Rs.bind, thenS]
  · have h : some (F_table_product, 2) = some (F, n) := h
    cases h
    refine ⟨rfl, ?_⟩
    unfold F_table_product b_table_product runF sSeq sExpr
    simp [entry, dCall, aCons, aNil, dVar, e, Rs.bind, thenS]
/-! ### the sizes -/
def withinB (a b : Int) : D → Bool
  | .int i => integerB (.int i) && (decide (a ≤ i) && decide (i ≤ b))
  | _ => false
theorem is_within_gen {d : D} {a b : Int} {S : Sto} (h : ∃ a, tyD d S = some a) : F_is_within [d, .int a, .int b] S = .ok (.bl (withinB a b d)) S := by
  have key : Wp (F_is_within [d, .int a, .int b] S) fun r T => r = .bl (withinB a b d) ∧ T = S := by
    unfold F_is_within b_is_within
    simp [entry, is_integer_ok h]
    cases d with
    | int i =>
      unfold withinB
      by_cases h1 : integerB (.int i) = true
      · by_cases h2 : a ≤ i
        · by_cases h3 : i ≤ b
          · simp [h1, h2, h3]
          · simp [h1, h2, h3]
        · simp [h1, h2]
      · simp [h1]
    | _ => simp [integerB, withinB]
  obtain ⟨d, T, e, rfl, rfl⟩ := key.out
  exact e
theorem th_idle {d : D} {T : Sto} (h : ∃ a, tyD d T = some a) (hb : withinB 1 40 d = false) : F_idle_table [d] T = .exc (xN d) T := by
  have e : F_require_within [d, .int 1, .int 40] T = .exc (xN d) T := by
    unfold F_require_within b_require_within runF sIf
    simp [entry, fNot, fTru, dCall, aCons, aNil, dVar, is_within_gen h, hb, Rs.bind, thenS, sRaise1, xN]
  unfold F_idle_table b_idle_table runF sSeq sExpr
  simp [entry, dCall, aCons, aNil, dVar, dC, c_MAX_SIDE, e, Rs.bind, thenS]
/-! ### the thunks -/
def wideD : D := .tup [.tup [.int 1, .int 2, .int 3], .tup [.int 4, .int 5, .int 6]]
def tallD : D := .tup [.tup [.int 1, .int 2], .tup [.int 3, .int 4], .tup [.int 5, .tup [.int 1, .int 2]]]
def r123 : D := .tup [.int 1, .int 2, .int 3]
theorem wide_b : tableB wideD = true := by decide +kernel
theorem tall_b : tableB tallD = true := by decide +kernel
theorem r123_b : rowB r123 = true := by decide +kernel
def flat : D → Bool
  | .non => true
  | .bl _ => true
  | .int _ => true
  | .str _ => true
  | .tup _ => true
  | _ => false
theorem flat_ty {d : D} (h : flat d = true) (S : Sto) : ∃ a, tyD d S = some a := by
  cases d with
  | non => exact ⟨_, rfl⟩
  | bl _ => exact ⟨_, rfl⟩
  | int _ => exact ⟨_, rfl⟩
  | str _ => exact ⟨_, rfl⟩
  | tup _ => exact ⟨_, rfl⟩
  | _ => cases h
def clo1 : D → Bool
  | .tup ds => ds.all flat
  | d => flat d
def clo2 : D → Bool
  | .tup ds => ds.all clo1
  | d => flat d
def clo3 : D → Bool
  | .tup ds => ds.all clo2
  | d => flat d
theorem td_clo {S : Sto} {d : D} (h : clo1 d = true) : Td S d := by
  by_cases ht : ∃ ds, d = .tup ds
  · obtain ⟨ds, rfl⟩ := ht
    refine ⟨⟨_, rfl⟩, fun es he e hm => ?_⟩
    cases he
    exact flat_ty (List.all_eq_true.mp h e hm) S
  · have hf : flat d = true := by
      cases d with
      | tup ds => exact absurd ⟨ds, rfl⟩ ht
      | _ => exact h
    exact ⟨flat_ty hf S, fun es he => absurd ⟨es, he⟩ ht⟩
theorem jd_clo {S : Sto} {d : D} (h : clo2 d = true) : Jd S d := by
  by_cases ht : ∃ ds, d = .tup ds
  · obtain ⟨ds, rfl⟩ := ht
    refine ⟨⟨_, rfl⟩, fun es he e hm => ?_⟩
    cases he
    exact td_clo (List.all_eq_true.mp h e hm)
  · have hf : flat d = true := by
      cases d with
      | tup ds => exact absurd ⟨ds, rfl⟩ ht
      | _ => exact h
    exact ⟨flat_ty hf S, fun es he => absurd ⟨es, he⟩ ht⟩
theorem jt_clo {S : Sto} {d : D} (h : clo3 d = true) : Jt S d := by
  by_cases ht : ∃ ds, d = .tup ds
  · obtain ⟨ds, rfl⟩ := ht
    refine ⟨⟨_, rfl⟩, fun es he e hm => ?_⟩
    cases he
    exact jd_clo (List.all_eq_true.mp h e hm)
  · have hf : flat d = true := by
      cases d with
      | tup ds => exact absurd ⟨ds, rfl⟩ ht
      | _ => exact h
    exact ⟨flat_ty hf S, fun es he => absurd ⟨es, he⟩ ht⟩
theorem jt_wide {S : Sto} : Jt S wideD := jt_clo rfl
theorem jt_tall {S : Sto} : Jt S tallD := jt_clo rfl
theorem jd_123 {S : Sto} : Jd S r123 := jd_clo rfl
theorem th_sum {T : Sto} : Rz (F_table_sum [wideD, tallD] T) T ⟨2, none⟩ := by
  obtain ⟨U, hU, e⟩ := reqTs3 (T := T) jt_wide wide_b jt_tall tall_b
  refine ⟨U, hU, ?_⟩
  unfold F_table_sum b_table_sum runF sSeq sExpr
  simp [entry, dCall, aCons, aNil, dVar, e, Rs.bind, thenS]
  rfl
theorem th_prod {T : Sto} : Rz (F_table_product [wideD, wideD] T) T ⟨2, none⟩ := by
  obtain ⟨U, hU, e⟩ := reqTs3 (T := T) jt_wide wide_b jt_wide wide_b
  refine ⟨U, hU, ?_⟩
  unfold F_table_product b_table_product runF sSeq sExpr
  simp [entry, dCall, aCons, aNil, dVar, e, Rs.bind, thenS]
  rfl
theorem th_scal1 {x z : D} {T : Sto} (h : Jt T x) (hb : tableB x = false) : Rz (F_table_scaled [x, z] T) T ⟨1, none⟩ := by
  obtain ⟨U, hU, e⟩ := reqT_bad h hb
  refine ⟨U, hU, ?_⟩
  unfold F_table_scaled b_table_scaled runF sSeq sExpr
  simp [entry, dCall, aCons, aNil, dVar, e, Rs.bind, thenS]
theorem th_scal2 {z : D} {T : Sto} (h : Td T z) (hb : numberB z = false) : Rz (F_table_scaled [wideD, z] T) T (xN z) := by
  obtain ⟨V, hV, e0⟩ := reqT_good (T := T) jt_wide wide_b
  obtain ⟨U, hU, e⟩ := reqN_bad (h.up hV) hb
  refine ⟨U, hV.trans hU, ?_⟩
  unfold F_table_scaled b_table_scaled runF sSeq sExpr
  simp [entry, dCall, aCons, aNil, dVar, e0, e, Rs.bind, thenS, sSeq, sExpr]
theorem th_row1 {r y : D} {T : Sto} (h : Jd T r) (hb : rowB r = false) : Rz (F_row_times [r, y] T) T ⟨1, none⟩ := by
  obtain ⟨U, hU, e⟩ := reqR_bad h hb
  refine ⟨U, hU, ?_⟩
  unfold F_row_times b_row_times runF sSeq sExpr
  simp [entry, dCall, aCons, aNil, dVar, e, Rs.bind, thenS]
theorem th_row2 {y : D} {T : Sto} (h : Jt T y) (hb : tableB y = false) : Rz (F_row_times [r123, y] T) T ⟨1, none⟩ := by
  obtain ⟨V, hV, e0⟩ := reqR_good (T := T) jd_123 r123_b
  obtain ⟨U, hU, e⟩ := reqT_bad (h.up hV) hb
  refine ⟨U, hV.trans hU, ?_⟩
  unfold F_row_times b_row_times runF sSeq sExpr
  simp [entry, dCall, aCons, aNil, dVar, e0, e, Rs.bind, thenS, sSeq, sExpr]
theorem th_row3 {T : Sto} : Rz (F_row_times [r123, wideD] T) T ⟨2, none⟩ := by
  obtain ⟨V, hV, e0⟩ := reqR_good (T := T) jd_123 r123_b
  obtain ⟨U, hU, e⟩ := reqT_good (T := V) jt_wide wide_b
  refine ⟨U, hV.trans hU, ?_⟩
  unfold F_row_times b_row_times runF sSeq sExpr
  simp [entry, dCall, aCons, aNil, dVar, e0, e, Rs.bind, thenS, sSeq, sExpr]
  rfl
theorem th_sol1 {x r : D} {T : Sto} (h : Jt T x) (hb : tableB x = false) : Rz (F_table_solved [x, r] T) T ⟨1, none⟩ := by
  obtain ⟨U, hU, e⟩ := reqT_bad h hb
  refine ⟨U, hU, ?_⟩
  unfold F_table_solved b_table_solved runF sSeq sExpr
  simp [entry, dCall, aCons, aNil, dVar, e, Rs.bind, thenS]
theorem th_sol2 {r : D} {T : Sto} (h : Jd T r) (hb : rowB r = false) : Rz (F_table_solved [wideD, r] T) T ⟨1, none⟩ := by
  obtain ⟨V, hV, e0⟩ := reqT_good (T := T) jt_wide wide_b
  obtain ⟨U, hU, e⟩ := reqR_bad (h.up hV) hb
  refine ⟨U, hV.trans hU, ?_⟩
  unfold F_table_solved b_table_solved runF sSeq sExpr
  simp [entry, dCall, aCons, aNil, dVar, e0, e, Rs.bind, thenS, sSeq, sExpr]
theorem th_sol3 {T : Sto} : Rz (F_table_solved [wideD, r123] T) T ⟨2, none⟩ := by
  obtain ⟨V, hV, e0⟩ := reqT_good (T := T) jt_wide wide_b
  obtain ⟨U, hU, e⟩ := reqR_good (T := V) jd_123 r123_b
  refine ⟨U, hV.trans hU, ?_⟩
  unfold F_table_solved b_table_solved runF sSeq sExpr
  simp [entry, dCall, aCons, aNil, dVar, e0, e, Rs.bind, thenS, sSeq, sExpr]
  rfl
theorem sq_wide {T : Sto} : F_require_square [wideD] T = .exc ⟨2, none⟩ T := rfl
theorem sq_tall {T : Sto} : F_require_square [tallD] T = .exc ⟨2, none⟩ T := rfl
theorem tab_sq {c n : Nat} {F : FN} {a : D} {T : Sto} (ha : a = wideD ∨ a = tallD) (hc : c = 1 ∨ c = 2 ∨ c = 3) (h : tabV[c]? = some (F, n)) : n = 1 ∧ Rz (F [a] T) T ⟨2, none⟩ := by
  have hs : ∀ U : Sto, F_require_square [a] U = .exc ⟨2, none⟩ U := by
    rcases ha with rfl | rfl
    · exact fun U => sq_wide
    · exact fun U => sq_tall
  obtain ⟨U, hU, e⟩ : ∃ U, Ex T U ∧ F_require_table [a] T = .ok .non U := by
    rcases ha with rfl | rfl
    · exact reqT_good jt_wide wide_b
    · exact reqT_good jt_tall tall_b
  rcases hc with rfl | rfl | rfl
  · have h : some (F_table_trace, 1) = some (F, n) := h
    cases h
    refine ⟨rfl, U, hU, ?_⟩
    unfold F_table_trace b_table_trace runF sSeq sExpr
    simp [entry, dCall, aCons, aNil, dVar, e, hs, Rs.bind, thenS, sSeq, sExpr]
  · have h : some (F_determinant, 1) = some (F, n) := h
    cases h
    refine ⟨rfl, U, hU, ?_⟩
    unfold F_determinant b_determinant runF sSeq sExpr
    simp [entry, dCall, aCons, aNil, dVar, e, hs, Rs.bind, thenS, sSeq, sExpr]
  · have h : some (F_table_undone, 1) = some (F, n) := h
    cases h
    refine ⟨rfl, U, hU, ?_⟩
    unfold F_table_undone b_table_undone runF sSeq sExpr
    simp [entry, dCall, aCons, aNil, dVar, e, hs, Rs.bind, thenS, sSeq, sExpr]
end K07
set_option Elab.async false
set_option linter.all false
set_option maxRecDepth 100000
set_option maxHeartbeats 4000000
namespace K07
open PySem MP
/-! ### the words -/
abbrev WT : Type := { x : Str // PyData.strOk x = true }
instance : En WT where
  d := fun x => .str x.1
  p := fun x => .str x.1
  dep := 1
  hp := fun a n S => by rw [toPy_up (Nat.add_comm n 1)]; rfl
  lay := fun a => by simp [PyData.canLay0, a.2]
  hd := fun a => by simp [PyData.depth]
  eq := fun a b => by simp [PyData.eqv, Subtype.ext_iff]
def refW : WT := ⟨"refused", by decide +kernel⟩
def opW : WT := ⟨"operation", by decide +kernel⟩
def tabW : WT := ⟨"table", by decide +kernel⟩
def word (w : WT) : D := En.d ([refW, w] : List WT)
theorem word_eq (w : WT) : word w = .tup [.str "refused", .str w.1] := rfl
def W1 (S : Sto) (d : D) (w : WT) : Prop := ∃ x : Str, (∀ T, Ex S T → nRepr [d] T = .ok (.str x) T) ∧ x.length ≤ 1000 ∧ w.1 = "number " ++ x
theorem w1_of {S : Sto} {d : D} {p : PyData} (h : ∀ T, Ex S T → pyT T d = some p) (hc : (p.showable && decide (p.shown.length ≤ 1000)) = true) (ho : PyData.strOk ("number " ++ p.shown) = true) : ∃ w, W1 S d w := by
  simp only [Bool.and_eq_true, decide_eq_true_eq] at hc
  refine ⟨⟨"number " ++ p.shown, ho⟩, p.shown, fun T hT => ?_, hc.2, rfl⟩
  have h2 : p.shown.length ≤ sizeLine := Nat.le_trans hc.2 (by decide)
  unfold nRepr
  simp [h T hT, hc.1, h2]
theorem len_num : ("number " : Str).length = 7 := by decide +kernel
theorem dAdd_w {x : Str} {S : Sto} (h : x.length ≤ 1000) : dAdd (.str "number ") (.str x) S = .ok (.str ("number " ++ x)) S := by
  unfold dAdd
  have : ("number " : Str).length + x.length ≤ sizeLine := by
    rw [len_num]
    exact Nat.le_trans (show 7 + x.length ≤ 1007 by omega) (by decide)
  simp [this]
theorem met_num {S T U : Sto} {d : D} {w : WT} {th : FTh} (hw : W1 S d w) (he : th T = .exc (xN d) U) (hU : Ex S U) : met__law_met th T = .ok (word w) U := by
  obtain ⟨x, h1, h2, h3⟩ := hw
  unfold met__law_met metF
  simp only [he]
  simp [xN, pickCl, subX, fSu3, kept, h1 U hU, Rs.bind, dAdd_w h2, word_eq, h3]
theorem met_op {T U : Sto} {th : FTh} (he : th T = .exc ⟨2, none⟩ U) : met__law_met th T = .ok (word opW) U := by
  unfold met__law_met metF
  simp only [he]
  rfl
theorem met_tab {T U : Sto} {th : FTh} (he : th T = .exc ⟨1, none⟩ U) : met__law_met th T = .ok (word tabW) U := by
  unfold met__law_met metF
  simp only [he]
  rfl
theorem met_fine {T U : Sto} {d : D} {th : FTh} (he : th T = .ok d U) : met__law_met th T = .ok (.str "fine") U := by
  unfold met__law_met metF
  simp only [he]
  rfl
theorem met_why {T U : Sto} {d : D} {th : FTh} (he : th T = .exc ⟨4, some ("reason", d)⟩ U) : met__law_met th T = .ok (.tup [.str "refused", d]) U := by
  unfold met__law_met metF
  simp only [he]
  simp [pickCl, subX, fSu2, kept]
def Lm (fe : Fe) (ρ : Rho) (T : Sto) (d : D) : Prop := ∃ U, Ex T U ∧ dLam met__law_met fe ρ T = .ok d U
theorem lm_of {fe : Fe} {ρ : Rho} {T U : Sto} {d : D} (hU : Ex T U) (h : met__law_met (fun S' => fe ρ S') T = .ok d U) : Lm fe ρ T d := by
  refine ⟨U, hU, ?_⟩
  unfold dLam
  rw [h]
  rfl
theorem lm_num {fe : Fe} {ρ : Rho} {S0 T : Sto} {d : D} {w : WT} (hw : W1 S0 d w) (hT : Ex S0 T) (h : Rz (fe ρ T) T (xN d)) : Lm fe ρ T (word w) := let ⟨_, hU, e⟩ := h; lm_of hU (met_num hw e (hT.trans hU))
theorem lm_op {fe : Fe} {ρ : Rho} {T : Sto} (h : Rz (fe ρ T) T ⟨2, none⟩) : Lm fe ρ T (word opW) := let ⟨_, hU, e⟩ := h; lm_of hU (met_op e)
theorem lm_tab {fe : Fe} {ρ : Rho} {T : Sto} (h : Rz (fe ρ T) T ⟨1, none⟩) : Lm fe ρ T (word tabW) := let ⟨_, hU, e⟩ := h; lm_of hU (met_tab e)
theorem lm_why {fe : Fe} {ρ : Rho} {T : Sto} {d : D} (h : Rz (fe ρ T) T ⟨4, some ("reason", d)⟩) : Lm fe ρ T (.tup [.str "refused", d]) := let ⟨_, hU, e⟩ := h; lm_of hU (met_why e)
theorem lm_fine {fe : Fe} {ρ : Rho} {T : Sto} (h : ∃ d U, Ex T U ∧ fe ρ T = .ok d U) : Lm fe ρ T (.str "fine") := let ⟨_, _, hU, e⟩ := h; lm_of hU (met_fine e)
/-! ### the list told -/
structure St (S0 : Sto) (m : Nat) (ws : List WT) (T : Sto) : Prop where
  ex : Ex S0 T
  lo : S0.length ≤ m
  told : T[m]? = some (.lst ((ws.map fun w => [refW, w]).map En.d))
theorem St.grow {S0 T U : Sto} {m : Nat} {ws : List WT} (h : St S0 m ws T) (e : Ex T U) : St S0 m ws U := ⟨h.ex.trans e, h.lo, e.get h.told⟩
theorem line_600 : 600 ≤ sizeLine := by decide
theorem tl_step {S0 T : Sto} {m : Nat} {ws : List WT} {ρ : Rho} {fe : Fe} {w : WT} {Q : Fl → Sto → Prop} (hs : St S0 m ws T) (hn : ws.length ≤ 100) (h7 : ρ[7]? = some (some (.ref m))) (hm : Lm fe ρ T (word w))
    (hq : ∀ U, St S0 m (ws ++ [w]) U → Q (.nx ρ) U) : WpS (sExpr (dML mAppend (dVar 7) (aCons (dLam met__law_met fe) aNil)) ρ T) Q := by
  obtain ⟨U, hU, hl⟩ := hm
  have h1 := hs.grow hU
  rw [wps_expr, wp_ml, wp_var]
  simp only [h7, isLst_ref hs.told, if_true, wp_cons, wp_nil, hl, wp_ok]
  unfold mAppend
  have z : ((ws.map fun w => [refW, w]).map (En.d : List WT → D)).length < sizeLine := by
    rw [List.length_map, List.length_map]
    exact Nat.lt_of_lt_of_le (show ws.length < 600 by omega) line_600
  simp only [h1.told, z, if_true, wp_ok]
  refine hq _ ⟨h1.ex.set hs.lo, hs.lo, ?_⟩
  rw [set_get h1.told, List.map_append, List.map_append]
  rfl
/-! ### list expressions -/
def Lk (f : Fe) (ρ : Rho) (T : Sto) (l : List D) : Prop := ∃ U n, Ex T U ∧ f ρ T = .ok (.ref n) U ∧ U[n]? = some (.lst l)
theorem lk_var {ρ : Rho} {i n : Nat} {T : Sto} {l : List D} (h : ρ[i]? = some (some (.ref n))) (g : T[n]? = some (.lst l)) : Lk (dVar i) ρ T l := ⟨T, n, Ex.refl, by unfold dVar; rw [h], g⟩
theorem lk_lst {fs : Fs} {ρ : Rho} {T : Sto} {l : List D} (h : fs ρ T = .ok l T) (hl : l.length ≤ 100) : Lk (mkLst fs) ρ T l := by
  refine ⟨T ++ [.lst l], T.length, Ex.refl.app _, ?_, get_new⟩
  unfold mkLst
  rw [h]
  show (if l.length ≤ sizeLine then _ else _) = _
  rw [if_pos (Nat.le_trans hl (by decide))]
theorem lk_add {f g : Fe} {ρ : Rho} {T : Sto} {a b : List D} (hf : Lk f ρ T a) (hg : ∀ U, Ex T U → Lk g ρ U b) (hl : a.length + b.length ≤ 600) : Lk (d2 dAdd f g) ρ T (a ++ b) := by
  obtain ⟨U, n, hU, e1, g1⟩ := hf
  obtain ⟨V, k, hV, e2, g2⟩ := hg U hU
  refine ⟨V ++ [.lst (a ++ b)], V.length, (hU.trans hV).app _, ?_, get_new⟩
  unfold d2
  rw [e1]
  show (Rs.bind (g ρ U) fun y S2 => dAdd (.ref n) y S2) = _
  rw [e2]
  show dAdd (.ref n) (.ref k) V = _
  unfold dAdd
  simp only [hV.get g1, g2]
  rw [if_pos (Nat.le_trans hl line_600)]
theorem lk_mul {f : Fe} {ρ : Rho} {T : Sto} {a : List D} {k : Nat} (hf : Lk f ρ T a) (hk : k ≤ 1000) (hl : a.length * k ≤ 600) : Lk (d2 dMul f (dC (.int (k : Nat)))) ρ T (List.replicate k a).flatten := by
  obtain ⟨U, n, hU, e1, g1⟩ := hf
  refine ⟨U ++ [.lst (List.replicate k a).flatten], U.length, hU.app _, ?_, get_new⟩
  unfold d2
  rw [e1]
  show dMul (.ref n) (.int (k : Nat)) U = _
  unfold dMul
  simp only [g1, Int.toNat_natCast]
  rw [if_pos ⟨by omega, by omega, Nat.le_trans hl line_600⟩]
theorem lk_set {f : Fe} {ρ : Rho} {i : Nat} {T : Sto} {l : List D} {Q : Fl → Sto → Prop} (h : Lk f ρ T l) (hq : ∀ U n, Ex T U → U[n]? = some (.lst l) → Q (.nx (ρ.set i (some (.ref n)))) U) : WpS (sSet i f ρ T) Q := by
  obtain ⟨U, n, hU, e, g⟩ := h
  rw [wps_set, e, wp_ok]
  exact hq U n hU g
/-- the words of the due ones -/
def wordF : Fe := mkTup (aCons (dC (.str "refused")) (aCons (dVar 10) aNil))
theorem words_lc {ok : Sto → Bool} {ρ : Rho} {T : Sto} (h10 : 10 < ρ.length) (hok : ok T = true) {Q : List D → Sto → Prop} : ∀ {l : List WT}, Q ((l.map fun w => [refW, w]).map En.d) T → Wp (lcL ok (.nm 10) fYes wordF ρ (l.map En.d) T) Q
  | [], hq => hq
  | w :: l, hq => by
    have hr : ∃ ρ1, setT (.nm 10) (En.d w) ρ = some ρ1 ∧ ρ1[10]? = some (some (En.d w)) := ⟨ρ.set 10 (some (En.d w)), rfl, by rw [List.getElem?_set_self h10]⟩
    obtain ⟨ρ1, hr1, hr2⟩ := hr
    have he : wordF ρ1 T = .ok (word w) T := by
      have z : Wp (wordF ρ1 T) fun r U => r = word w ∧ U = T := by
        unfold wordF
        rw [wp_tup]
        simp only [wp_cons, wp_nil, wp_c, wp_var, hr2]
        have s2 : (2 ≤ sizeLine) = True := eq_true (by decide)
        simp only [List.length_cons, List.length_nil, Nat.zero_add, Nat.reduceAdd, s2, if_true]
        exact ⟨rfl, trivial⟩
      obtain ⟨r, U, e, rfl, rfl⟩ := z.out
      exact e
    show Wp (lcL ok (.nm 10) fYes wordF ρ (En.d w :: l.map En.d) T) Q
    unfold lcL
    rw [hr1]
    show Wp (match wordF ρ1 T with
      | .ok y S2 => if ok S2 = true then (lcL ok (.nm 10) fYes wordF ρ (l.map En.d) S2).bind fun ys S3 => .ok (y :: ys) S3 else .stuck
      | _ => .stuck) Q
    rw [he]
    show Wp (if ok T = true then _ else _) Q
    rw [if_pos hok, wp_bind]
    exact words_lc h10 hok hq
theorem cmp_step {T : Sto} {ws : List WT} {m k : Nat} {ρ : Rho} {a b : Fst} {Q : Fl → Sto → Prop} (hs : T[m]? = some (.lst ((ws.map fun w => [refW, w]).map En.d))) (hd : T[k]? = some (.lst (ws.map En.d))) (hn : ws.length ≤ 500) (h7 : ρ[7]? = some (some (.ref m))) (h9 : ρ[9]? = some (some (.ref k))) (h10 : 10 < ρ.length)
    (hq : ∀ U, Ex T U → WpS (b ρ U) Q) : WpS (sIf (fB (d2 dNe (dVar 7) (dLc (iD (dVar 9)) (.nm 10) fYes wordF [10]))) a b ρ T) Q := by
  have z : ((ws.map fun w => [refW, w]).map (En.d : List WT → D)).length ≤ sizeLine := by
    rw [List.length_map, List.length_map]
    exact Nat.le_trans (show ws.length ≤ 600 by omega) line_600
  rw [wps_if, wp_fB, wp_d2, wp_var]
  simp only [h7, wp_lc, wp_iD, wp_var, h9, srcD_ref hd, wp_ok]
  have okT : (Src.mk (ws.map En.d) [(k, ws.map En.d)]).ok T = true := by
    unfold Src.ok
    simp [hd, beqDs_refl]
  refine words_lc (by simpa [wipeR] using h10) okT ?_
  rw [if_pos z]
  have e := dEqB_ens (α := List WT) (n := true) (ws.map fun w => [refW, w]) (ws.map fun w => [refW, w]) (S := T ++ [.lst ((ws.map fun w => [refW, w]).map En.d)]) (get_app hs) get_new (by decide)
  show Wp (dEqB true (.ref m) (.ref T.length) _) _
  rw [e]
  simp
  exact hq _ (Ex.refl.app _)
end K07
set_option Elab.async false
set_option linter.all false
set_option maxRecDepth 100000
set_option maxHeartbeats 4000000
namespace K07
open PySem MP
/-! ### the picked values -/
def PT (nd : Nat) (S : Sto) (x : D) : Prop := (∀ T, Ed nd S T → Jt T x) ∧ tableB x = false
def PR (nd : Nat) (S : Sto) (x : D) : Prop := (∀ T, Ed nd S T → Jd T x) ∧ rowB x = false
theorem PT.up {nd : Nat} {S T : Sto} {x : D} (h : PT nd S x) (e : Ed nd S T) : PT nd T x := ⟨fun U hU => h.1 U (e.trans hU), h.2⟩
theorem PR.up {nd : Nat} {S T : Sto} {x : D} (h : PR nd S x) (e : Ed nd S T) : PR nd T x := ⟨fun U hU => h.1 U (e.trans hU), h.2⟩
theorem pt_clo {nd : Nat} {S : Sto} {d : D} (h : (clo3 d && !tableB d) = true) : PT nd S d := by
  rw [Bool.and_eq_true, Bool.not_eq_true'] at h
  exact ⟨fun T _ => jt_clo h.1, h.2⟩
theorem pr_clo {nd : Nat} {S : Sto} {d : D} (h : (clo2 d && !rowB d) = true) : PR nd S d := by
  rw [Bool.and_eq_true, Bool.not_eq_true'] at h
  exact ⟨fun T _ => jd_clo h.1, h.2⟩
theorem pt_lst {nd k : Nat} {S : Sto} {l : List D} (h : S[k]? = some (.lst l)) (hk : k ≠ nd) : PT nd S (.ref k) := ⟨fun T hT => ⟨⟨_, ty_ref (hT.get h hk)⟩, fun ds z => by cases z⟩, rfl⟩
theorem pt_dk {nd k : Nat} {S : Sto} {l : List (L2.Key × D)} (h : S[k]? = some (.dk l)) (hk : k ≠ nd) : PT nd S (.ref k) := ⟨fun T hT => ⟨⟨_, ty_dk (hT.get h hk)⟩, fun ds z => by cases z⟩, rfl⟩
theorem pr_lst {nd k : Nat} {S : Sto} {l : List D} (h : S[k]? = some (.lst l)) (hk : k ≠ nd) : PR nd S (.ref k) := ⟨fun T hT => ⟨⟨_, ty_ref (hT.get h hk)⟩, fun ds z => by cases z⟩, rfl⟩
theorem pr_dk {nd k : Nat} {S : Sto} {l : List (L2.Key × D)} (h : S[k]? = some (.dk l)) (hk : k ≠ nd) : PR nd S (.ref k) := ⟨fun T hT => ⟨⟨_, ty_dk (hT.get h hk)⟩, fun ds z => by cases z⟩, rfl⟩
theorem pt_in {nd k : Nat} {S : Sto} {l : List D} (h : S[k]? = some (.lst l)) (hk : k ≠ nd) : PT nd S (.tup [.ref k]) := ⟨fun T hT => ⟨⟨_, rfl⟩, fun ds z e he => by
  cases z
  obtain rfl : e = .ref k := by simpa using he
  exact ⟨⟨_, ty_ref (hT.get h hk)⟩, fun ds z => by cases z⟩⟩, rfl⟩
def cloA : List D := [.non, .tup [], .tup [.tup []], .int 5, .str "1", .tup [.tup [.int 1], .tup [.int 1, .int 2]], .tup [.tup [.bl true]], .tup [.tup [.non]], .tup [.tup [.tup [.int 2, .int 4]]], .tup [.tup [.tup [.int 1, .int 0]]]]
def badA (k1 k2 : Nat) : List D := [.non, .tup [], .tup [.tup []], .ref k1, .int 5, .str "1", .tup [.tup [.int 1], .tup [.int 1, .int 2]], .tup [.tup [.bl true]], .tup [.tup [.non]], .tup [.tup [.tup [.int 2, .int 4]]], .tup [.tup [.tup [.int 1, .int 0]]], .ref k2]
theorem badA_mem {k1 k2 : Nat} {y : D} (h : y ∈ badA k1 k2) : y ∈ cloA ∨ y = .ref k1 ∨ y = .ref k2 := by
  simp only [badA, List.mem_cons, List.not_mem_nil, or_false] at h
  rcases h with rfl | rfl | rfl | rfl | rfl | rfl | rfl | rfl | rfl | rfl | rfl | rfl <;> simp [cloA]
theorem cloA_b : ∀ d ∈ cloA, (clo3 d && !tableB d) = true := by decide +kernel
def t41 : D := .tup (List.replicate 41 (.tup [.int 1]))
def r41 : D := .tup (List.replicate 41 (.int 1))
def cloB : List D := [t41, .tup [r41], .tup [.tup [.tup [.int 1, .int (-1)]]], .tup [.tup [.str "1"]]]
def badB (x : D) (k : Nat) : List D := [x, x, t41, .tup [r41], .tup [.tup [.tup [.int 1, .int (-1)]]], .tup [.ref k], .tup [.tup [.str "1"]]]
theorem badB_mem {x y : D} {k : Nat} (h : y ∈ badB x k) : y = x ∨ y ∈ cloB ∨ y = .tup [.ref k] := by
  simp only [badB, List.mem_cons, List.not_mem_nil, or_false] at h
  rcases h with rfl | rfl | rfl | rfl | rfl | rfl | rfl <;> simp [cloB]
theorem cloB_b : ∀ d ∈ cloB, (clo3 d && !tableB d) = true := by decide +kernel
def cloR : List D := [.non, .tup [], .int 5, .str "1", .tup [.bl true], .tup [.non], .tup [.tup [.int 2, .int 4]], .tup [.tup [.int 1, .int 0]], r41, .tup [.tup [.int 1, .int 2, .int 3]]]
def badR (k1 k2 : Nat) : List D := [.non, .tup [], .ref k1, .int 5, .str "1", .tup [.bl true], .tup [.non], .tup [.tup [.int 2, .int 4]], .tup [.tup [.int 1, .int 0]], r41, .ref k2, .tup [.tup [.int 1, .int 2, .int 3]]]
theorem badR_mem {k1 k2 : Nat} {y : D} (h : y ∈ badR k1 k2) : y ∈ cloR ∨ y = .ref k1 ∨ y = .ref k2 := by
  simp only [badR, List.mem_cons, List.not_mem_nil, or_false] at h
  rcases h with rfl | rfl | rfl | rfl | rfl | rfl | rfl | rfl | rfl | rfl | rfl | rfl <;> simp [cloR]
theorem cloR_b : ∀ d ∈ cloR, (clo2 d && !rowB d) = true := by decide +kernel
def cloN : List D := [.non, .str "1", .bl true, .tup [.int 2, .int 4], .tup [.int 1, .int 0], .tup [.int 1], .tup [.int 1, .int 2, .int 3]]
def badN (k1 k2 : Nat) : List D := [.non, .str "1", .bl true, .tup [.int 2, .int 4], .tup [.int 1, .int 0], .tup [.int 1], .ref k1, .ref k2, .tup [.int 1, .int 2, .int 3]]
theorem badN_mem {k1 k2 : Nat} {y : D} (h : y ∈ badN k1 k2) : y ∈ cloN ∨ y = .ref k1 ∨ y = .ref k2 := by
  simp only [badN, List.mem_cons, List.not_mem_nil, or_false] at h
  rcases h with rfl | rfl | rfl | rfl | rfl | rfl | rfl | rfl | rfl <;> simp [cloN]
theorem cloN_b : ∀ d ∈ cloN, numberB d = false ∧ clo1 d = true := by decide +kernel
def sizC : List D := [.non, .int 0, .int 41, .int (-1), .bl true, .str "2", .tup [.int 2], .int (10 ^ 60)]
theorem sizC_b : ∀ d ∈ sizC, withinB 1 40 d = false ∧ flat d = true := by decide +kernel
theorem w1_cl {S : Sto} {d : D} (h : ∀ T, pyT T d = some ((pyT [] d).getD .none)) (hc : (((pyT [] d).getD .none).showable && decide (((pyT [] d).getD .none).shown.length ≤ 1000)) = true) (ho : PyData.strOk ("number " ++ ((pyT [] d).getD .none).shown) = true) : ∃ w, W1 S d w := w1_of (fun T _ => h T) hc ho
theorem allC_w {S : Sto} : ∀ d ∈ cloN ++ sizC, ∃ w, W1 S d w := by
  intro d hd
  simp only [cloN, sizC, List.mem_append, List.mem_cons, List.not_mem_nil, or_false] at hd
  rcases hd with h | h <;> repeat' (rcases h with h | h)
  all_goals (refine w1_cl (fun T => rfl) ?_ ?_ <;> decide +kernel)
theorem pyT_lst {T : Sto} {k : Nat} {ds : List D} {ps : List PyData} (h : T[k]? = some (.lst ds)) (hp : optAll (pyN T 7) ds = some ps) : pyT T (.ref k) = some (.list ps) := by
  have e : pyN T 8 (.ref k) = some (.list ps) := by
    unfold pyN
    simp only [h, hp]
    rfl
  unfold pyT
  simp only [h]
  exact e
structure PN (S : Sto) (d : D) : Prop where
  td : Td S d
  nb : numberB d = false
  w : ∃ w, W1 S d w
def PNe (nd : Nat) (S : Sto) (d : D) : Prop := ∀ T, Ed nd S T → PN T d
theorem pn_clo {nd : Nat} {S : Sto} {d : D} (h : d ∈ cloN) : PNe nd S d := fun T _ => ⟨td_clo (cloN_b d h).2, (cloN_b d h).1, allC_w d (by simp [h])⟩
theorem pn_lst {nd k : Nat} {S : Sto} (h : S[k]? = some (.lst [.int 1, .int 2])) (hk : k ≠ nd) : PNe nd S (.ref k) := fun T hT => ⟨td_lst (hT.get h hk), rfl, w1_of (p := .list [.int 1, .int 2]) (fun U hU => pyT_lst (hU.get (hT.get h hk)) rfl) (by decide +kernel) (by decide +kernel)⟩
theorem td_dk {S : Sto} {n : Nat} {l : List (L2.Key × D)} (h : S[n]? = some (.dk l)) : Td S (.ref n) := ⟨⟨_, ty_dk h⟩, fun ds h => by cases h⟩
theorem pn_dk {nd k : Nat} {S : Sto} (h : S[k]? = some (.dk [])) (hk : k ≠ nd) : PNe nd S (.ref k) := fun T hT => ⟨td_dk (hT.get h hk), rfl, w1_of (p := .dict []) (fun U hU => by
    unfold pyT
    simp only [hU.get (hT.get h hk)]) (by decide +kernel) (by decide +kernel)⟩
structure PI (S : Sto) (d : D) : Prop where
  ty : ∃ a, tyD d S = some a
  nb : withinB 1 40 d = false
  w : ∃ w, W1 S d w
theorem pi_siz {S : Sto} {d : D} (h : d ∈ sizC) : PI S d := ⟨flat_ty (sizC_b d h).2 S, (sizC_b d h).1, allC_w d (by simp [h])⟩
theorem mulT (S : Sto) : dMul (.tup [.tup [.int 1]]) (.int 41) S = .ok t41 S := by kernel_rfl
theorem mulR (S : Sto) : dMul (.tup [.int 1]) (.int 41) S = .ok r41 S := by kernel_rfl
def Rs0 : Fst := (sSet 1 (dCall F__law_pick 2 (aCons (dVar 0) (aCons (mkLst (aCons (dC .non) (aCons (mkTup aNil) (aCons (mkTup (aCons (mkTup aNil) aNil)) (aCons (mkLst (aCons (mkTup (aCons (dC (.int 1)) aNil)) aNil)) (aCons (dC (.int 5)) (aCons (dC (.str "1")) (aCons (mkTup (aCons (mkTup (aCons (dC (.int 1)) aNil)) (aCons (mkTup (aCons (dC (.int 1)) (aCons (dC (.int 2)) aNil))) aNil))) (aCons (mkTup (aCons (mkTup (aCons (dC (.bl true)) aNil)) aNil)) (aCons (mkTup (aCons (mkTup (aCons (dC .non) aNil)) aNil)) (aCons (mkTup (aCons (mkTup (aCons (mkTup (aCons (dC (.int 2)) (aCons (dC (.int 4)) aNil))) aNil)) aNil)) (aCons (mkTup (aCons (mkTup (aCons (mkTup (aCons (dC (.int 1)) (aCons (dC (.int 0)) aNil))) aNil)) aNil)) (aCons dEmpty aNil))))))))))))) aNil))))
def Rs1 : Fst := (sSet 1 (dCall F__law_pick 2 (aCons (dVar 0) (aCons (mkLst (aCons (dVar 1) (aCons (dVar 1) (aCons (d2 dMul (mkTup (aCons (mkTup (aCons (dC (.int 1)) aNil)) aNil)) (dC (.int 41))) (aCons (mkTup (aCons (d2 dMul (mkTup (aCons (dC (.int 1)) aNil)) (dC (.int 41))) aNil)) (aCons (mkTup (aCons (mkTup (aCons (mkTup (aCons (dC (.int 1)) (aCons (dNeg (dC (.int 1))) aNil))) aNil)) aNil)) (aCons (mkTup (aCons (mkLst (aCons (dC (.int 1)) aNil)) aNil)) (aCons (mkTup (aCons (mkTup (aCons (dC (.str "1")) aNil)) aNil)) aNil)))))))) aNil))))
def Rs2 : Fst := (sSet 2 (dCall F__law_pick 2 (aCons (dVar 0) (aCons (mkLst (aCons (dC .non) (aCons (mkTup aNil) (aCons (mkLst (aCons (dC (.int 1)) aNil)) (aCons (dC (.int 5)) (aCons (dC (.str "1")) (aCons (mkTup (aCons (dC (.bl true)) aNil)) (aCons (mkTup (aCons (dC .non) aNil)) (aCons (mkTup (aCons (mkTup (aCons (dC (.int 2)) (aCons (dC (.int 4)) aNil))) aNil)) (aCons (mkTup (aCons (mkTup (aCons (dC (.int 1)) (aCons (dC (.int 0)) aNil))) aNil)) (aCons (d2 dMul (mkTup (aCons (dC (.int 1)) aNil)) (dC (.int 41))) (aCons dEmpty (aCons (mkTup (aCons (mkTup (aCons (dC (.int 1)) (aCons (dC (.int 2)) (aCons (dC (.int 3)) aNil)))) aNil)) aNil))))))))))))) aNil))))
def Rs3 : Fst := (sSet 3 (dCall F__law_pick 2 (aCons (dVar 0) (aCons (mkLst (aCons (dC .non) (aCons (dC (.str "1")) (aCons (dC (.bl true)) (aCons (mkTup (aCons (dC (.int 2)) (aCons (dC (.int 4)) aNil))) (aCons (mkTup (aCons (dC (.int 1)) (aCons (dC (.int 0)) aNil))) (aCons (mkTup (aCons (dC (.int 1)) aNil)) (aCons (mkLst (aCons (dC (.int 1)) (aCons (dC (.int 2)) aNil))) (aCons dEmpty (aCons (mkTup (aCons (dC (.int 1)) (aCons (dC (.int 2)) (aCons (dC (.int 3)) aNil)))) aNil)))))))))) aNil))))
def Rs4 : Fst := (sSet 4 (dCall F__law_pick 2 (aCons (dVar 0) (aCons (mkLst (aCons (dC .non) (aCons (dC (.int 0)) (aCons (dC (.int 41)) (aCons (dNeg (dC (.int 1))) (aCons (dC (.bl true)) (aCons (dC (.str "2")) (aCons (mkTup (aCons (dC (.int 2)) aNil)) (aCons (d2 dPow (dC (.int 10)) (dC (.int 60))) aNil))))))))) aNil))))
def Rs5 : Fst := (sAsg (.tp (.cons (.nm 5) (.cons (.nm 6) .nil))) (mkTup (aCons (mkTup (aCons (mkTup (aCons (dC (.int 1)) (aCons (dC (.int 2)) (aCons (dC (.int 3)) aNil)))) (aCons (mkTup (aCons (dC (.int 4)) (aCons (dC (.int 5)) (aCons (dC (.int 6)) aNil)))) aNil))) (aCons (mkTup (aCons (mkTup (aCons (dC (.int 1)) (aCons (dC (.int 2)) aNil))) (aCons (mkTup (aCons (dC (.int 3)) (aCons (dC (.int 4)) aNil))) (aCons (mkTup (aCons (dC (.int 5)) (aCons (mkTup (aCons (dC (.int 1)) (aCons (dC (.int 2)) aNil))) aNil))) aNil)))) aNil))))
def Rs6 : Fst := (sSet 7 (mkLst (aCons (dLam met__law_met (dCall F_idle_table 1 (aCons (dVar 4) aNil))) aNil)))
def Rs7 : Fst := (sFor (iD (mkTup (aCons (dC (.fn 0)) (aCons (dC (.fn 1)) (aCons (dC (.fn 2)) (aCons (dC (.fn 3)) (aCons (dC (.fn 4)) (aCons (dC (.fn 5)) (aCons (dC (.fn 6)) aNil))))))))) (.nm 8) (sExpr (dML mAppend (dVar 7) (aCons (dLam met__law_met (dCallV tabV 8 (aCons (dVar 1) aNil))) aNil))))
def Rs8 : Fst := (sFor (iD (mkTup (aCons (dC (.fn 7)) (aCons (dC (.fn 8)) aNil)))) (.nm 8) (sSeq (sExpr (dML mAppend (dVar 7) (aCons (dLam met__law_met (dCallV tabV 8 (aCons (dVar 1) (aCons (dVar 1) aNil)))) aNil))) (sExpr (dML mAppend (dVar 7) (aCons (dLam met__law_met (dCallV tabV 8 (aCons (dVar 5) (aCons (dVar 1) aNil)))) aNil)))))
def Rs9 : Fst := (sExpr (dML mAppend (dVar 7) (aCons (dLam met__law_met (dCall F_table_sum 2 (aCons (dVar 5) (aCons (dVar 6) aNil)))) aNil)))
def Rs10 : Fst := (sExpr (dML mAppend (dVar 7) (aCons (dLam met__law_met (dCall F_table_product 2 (aCons (dVar 5) (aCons (dVar 5) aNil)))) aNil)))
def Rs11 : Fst := (sExpr (dML mAppend (dVar 7) (aCons (dLam met__law_met (dCall F_table_scaled 2 (aCons (dVar 1) (aCons (dVar 3) aNil)))) aNil)))
def Rs12 : Fst := (sExpr (dML mAppend (dVar 7) (aCons (dLam met__law_met (dCall F_table_scaled 2 (aCons (dVar 5) (aCons (dVar 3) aNil)))) aNil)))
def Rs13 : Fst := (sExpr (dML mAppend (dVar 7) (aCons (dLam met__law_met (dCall F_row_times 2 (aCons (dVar 2) (aCons (dVar 1) aNil)))) aNil)))
def Rs14 : Fst := (sExpr (dML mAppend (dVar 7) (aCons (dLam met__law_met (dCall F_row_times 2 (aCons (dVar 2) (aCons (dVar 5) aNil)))) aNil)))
def Rs15 : Fst := (sExpr (dML mAppend (dVar 7) (aCons (dLam met__law_met (dCall F_row_times 2 (aCons (mkTup (aCons (dC (.int 1)) (aCons (dC (.int 2)) (aCons (dC (.int 3)) aNil)))) (aCons (dVar 1) aNil)))) aNil)))
def Rs16 : Fst := (sExpr (dML mAppend (dVar 7) (aCons (dLam met__law_met (dCall F_row_times 2 (aCons (mkTup (aCons (dC (.int 1)) (aCons (dC (.int 2)) (aCons (dC (.int 3)) aNil)))) (aCons (dVar 5) aNil)))) aNil)))
def Rs17 : Fst := (sExpr (dML mAppend (dVar 7) (aCons (dLam met__law_met (dCall F_table_solved 2 (aCons (dVar 1) (aCons (dVar 2) aNil)))) aNil)))
def Rs18 : Fst := (sExpr (dML mAppend (dVar 7) (aCons (dLam met__law_met (dCall F_table_solved 2 (aCons (dVar 5) (aCons (dVar 2) aNil)))) aNil)))
def Rs19 : Fst := (sExpr (dML mAppend (dVar 7) (aCons (dLam met__law_met (dCall F_table_solved 2 (aCons (dVar 5) (aCons (mkTup (aCons (dC (.int 1)) (aCons (dC (.int 2)) (aCons (dC (.int 3)) aNil)))) aNil)))) aNil)))
def Rs20 : Fst := (sSet 9 (d2 dAdd (d2 dAdd (d2 dAdd (mkLst (aCons (d2 dAdd (dC (.str "number ")) (dN nRepr (aCons (dVar 4) aNil))) aNil)) (d2 dMul (mkLst (aCons (dC (.str "table")) aNil)) (dC (.int 11)))) (d2 dMul (mkLst (aCons (dC (.str "operation")) aNil)) (dC (.int 2)))) (mkLst (aCons (dC (.str "table")) (aCons (d2 dAdd (dC (.str "number ")) (dN nRepr (aCons (dVar 3) aNil))) aNil)))))
def Rs21 : Fst := (sSet 9 (d2 dAdd (d2 dAdd (dVar 9) (d2 dMul (mkLst (aCons (dC (.str "table")) aNil)) (dC (.int 3)))) (mkLst (aCons (dC (.str "operation")) (aCons (dC (.str "table")) (aCons (dC (.str "table")) (aCons (dC (.str "operation")) aNil)))))))
def Rs22 : Fst := (sIf (fB (d2 dNe (dVar 7) (dLc (iD (dVar 9)) (.nm 10) fYes (mkTup (aCons (dC (.str "refused")) (aCons (dVar 10) aNil))) [10]))) (sRet (dC (.bl false))) sNil)
def Rs23 : Fst := (sSet 7 (mkLst aNil))
def Rs24 : Fst := (sFor (iD (mkTup (aCons (dC (.fn 1)) (aCons (dC (.fn 2)) (aCons (dC (.fn 3)) aNil))))) (.nm 8) (sSeq (sExpr (dML mAppend (dVar 7) (aCons (dLam met__law_met (dCallV tabV 8 (aCons (dVar 5) aNil))) aNil))) (sExpr (dML mAppend (dVar 7) (aCons (dLam met__law_met (dCallV tabV 8 (aCons (dVar 6) aNil))) aNil)))))
def Rs25 : Fst := (sRet (d2 dEq (dVar 7) (d2 dMul (mkLst (aCons (mkTup (aCons (dC (.str "refused")) (aCons (dC (.str "operation")) aNil))) aNil)) (dC (.int 6)))))
def Rr25 : Fst := Rs25
def Rr24 : Fst := sSeq Rs24 Rr25
def Rr23 : Fst := sSeq Rs23 Rr24
def Rr22 : Fst := sSeq Rs22 Rr23
def Rr21 : Fst := sSeq Rs21 Rr22
def Rr20 : Fst := sSeq Rs20 Rr21
def Rr19 : Fst := sSeq Rs19 Rr20
def Rr18 : Fst := sSeq Rs18 Rr19
def Rr17 : Fst := sSeq Rs17 Rr18
def Rr16 : Fst := sSeq Rs16 Rr17
def Rr15 : Fst := sSeq Rs15 Rr16
def Rr14 : Fst := sSeq Rs14 Rr15
def Rr13 : Fst := sSeq Rs13 Rr14
def Rr12 : Fst := sSeq Rs12 Rr13
def Rr11 : Fst := sSeq Rs11 Rr12
def Rr10 : Fst := sSeq Rs10 Rr11
def Rr9 : Fst := sSeq Rs9 Rr10
def Rr8 : Fst := sSeq Rs8 Rr9
def Rr7 : Fst := sSeq Rs7 Rr8
def Rr6 : Fst := sSeq Rs6 Rr7
def Rr5 : Fst := sSeq Rs5 Rr6
def Rr4 : Fst := sSeq Rs4 Rr5
def Rr3 : Fst := sSeq Rs3 Rr4
def Rr2 : Fst := sSeq Rs2 Rr3
def Rr1 : Fst := sSeq Rs1 Rr2
def Rr0 : Fst := sSeq Rs0 Rr1
theorem Rb_eq : b__law_right = Rr0 := rfl
theorem pow60 (S : Sto) : dPow (.int 10) (.int 60) S = .ok (.int (10 ^ 60)) S := by
  rw [dPow_int, if_pos (by decide)]
  rfl
theorem st0 {nd c : Nat} {S : Sto} {Q : Fl → Sto → Prop} (h : Dice S nd c) (hc : c + 100 ≤ 1000000) (hq : ∀ (T : Sto) (x : D), Dice T nd (c + 1) → PT nd T x → Q (.nx [some (.ref nd), some x, none, none, none, none, none, none, none, none, none]) T) : WpS (Rs0 (entry 11 [.ref nd]) S) Q := by
  have s0 : (0 ≤ sizeLine) = True := eq_true (by decide)
  have s2 : (2 ≤ sizeLine) = True := eq_true (by decide)
  have s1 : (1 ≤ sizeLine) = True := eq_true (by decide)
  have s12 : (12 ≤ sizeLine) = True := eq_true (by decide)
  have hl := h.lt
  unfold Rs0
  rw [wps_set, wp_call]
  simp only [entry, wp_call, wp_cons, wp_nil, wp_var, wp_c, wp_ok, List.map_cons, List.map_nil, List.cons_append, List.nil_append, List.getElem?_cons_zero, List.getElem?_cons_succ, List.length_cons, List.length_nil, if_true, wp_tup, wp_lst, wp_empty, Nat.zero_add, Nat.reduceAdd, s0, s1, s2, s12, List.replicate, Nat.reduceSub]
  refine pick_ok (ys := badA S.length (S ++ [SO.lst [.tup [.int 1]]]).length) (S := ((S ++ [SO.lst [.tup [.int 1]]]) ++ [SO.dk []]) ++ [SO.lst (badA S.length (S ++ [SO.lst [.tup [.int 1]]]).length)]) h.app.app.app get_new (by rw [List.length_append, List.length_append]; omega) (show 1 ≤ 12 by decide) (show 12 ≤ 1000 by decide) (by omega) fun y T hy d2' e2 l2 => ?_
  simp only [List.set_cons_succ, List.set_cons_zero]
  refine hq T y d2' ?_
  rcases badA_mem hy with z | rfl | rfl
  · exact pt_clo (cloA_b y z)
  · have nk : S.length ≠ nd := by omega
    exact pt_lst (e2.get (get_app (get_app get_new)) nk) nk
  · have nk : (S ++ [SO.lst [.tup [.int 1]]]).length ≠ nd := by rw [List.length_append]; omega
    exact pt_dk (e2.get (get_app get_new) nk) nk
theorem st1 {nd c : Nat} {S : Sto} {x : D} {Q : Fl → Sto → Prop} (h : Dice S nd c) (hc : c + 100 ≤ 1000000) (hx : PT nd S x) (hq : ∀ (T : Sto) (x : D), Dice T nd (c + 1) → PT nd T x → Q (.nx [some (.ref nd), some x, none, none, none, none, none, none, none, none, none]) T) :
    WpS (Rs1 [some (.ref nd), some x, none, none, none, none, none, none, none, none, none] S) Q := by
  have s2 : (2 ≤ sizeLine) = True := eq_true (by decide)
  have s1 : (1 ≤ sizeLine) = True := eq_true (by decide)
  have s7 : (7 ≤ sizeLine) = True := eq_true (by decide)
  have hl := h.lt
  unfold Rs1
  rw [wps_set, wp_call]
  simp only [entry, wp_call, wp_cons, wp_nil, wp_var, wp_c, wp_ok, List.map_cons, List.map_nil, List.cons_append, List.nil_append, List.getElem?_cons_zero, List.getElem?_cons_succ, List.length_cons, List.length_nil, if_true, wp_tup, wp_lst, wp_neg, wp_d2, mulT, mulR, Nat.zero_add, Nat.reduceAdd, s1, s2, s7]
  refine pick_ok (ys := badB x S.length) (S := (S ++ [SO.lst [.int 1]]) ++ [SO.lst (badB x S.length)]) h.app.app get_new (by rw [List.length_append]; omega) (show 1 ≤ 7 by decide) (show 7 ≤ 1000 by decide) (by omega) fun y T hy d2' e2 l2 => ?_
  simp only [List.set_cons_succ, List.set_cons_zero]
  refine hq T y d2' ?_
  have e3 : Ed nd S T := (Ex.refl.app _).ed.trans ((Ex.refl.app _).ed.trans e2)
  rcases badB_mem hy with rfl | z | rfl
  · exact hx.up e3
  · exact pt_clo (cloB_b y z)
  · have nk : S.length ≠ nd := by omega
    exact pt_in (e2.get (get_app get_new) nk) nk
theorem st2 {nd c : Nat} {S : Sto} {A : Option D} {Q : Fl → Sto → Prop} (h : Dice S nd c) (hc : c + 100 ≤ 1000000) (hq : ∀ (T : Sto) (x : D), Dice T nd (c + 1) → Ed nd S T → PR nd T x → Q (.nx [some (.ref nd), A, some x, none, none, none, none, none, none, none, none]) T) :
    WpS (Rs2 [some (.ref nd), A, none, none, none, none, none, none, none, none, none] S) Q := by
  have s0 : (0 ≤ sizeLine) = True := eq_true (by decide)
  have s2 : (2 ≤ sizeLine) = True := eq_true (by decide)
  have s1 : (1 ≤ sizeLine) = True := eq_true (by decide)
  have s3 : (3 ≤ sizeLine) = True := eq_true (by decide)
  have s12 : (12 ≤ sizeLine) = True := eq_true (by decide)
  have hl := h.lt
  unfold Rs2
  rw [wps_set, wp_call]
  simp only [entry, wp_call, wp_cons, wp_nil, wp_var, wp_c, wp_ok, List.map_cons, List.map_nil, List.cons_append, List.nil_append, List.getElem?_cons_zero, List.getElem?_cons_succ, List.length_cons, List.length_nil, if_true, wp_tup, wp_lst, wp_empty, wp_d2, mulR, Nat.zero_add, Nat.reduceAdd, s0, s1, s2, s3, s12]
  refine pick_ok (ys := badR S.length (S ++ [SO.lst [.int 1]]).length) (S := ((S ++ [SO.lst [.int 1]]) ++ [SO.dk []]) ++ [SO.lst (badR S.length (S ++ [SO.lst [.int 1]]).length)]) h.app.app.app get_new (by rw [List.length_append, List.length_append]; omega) (show 1 ≤ 12 by decide) (show 12 ≤ 1000 by decide) (by omega) fun y T hy d2' e2 l2 => ?_
  simp only [List.set_cons_succ, List.set_cons_zero]
  refine hq T y d2' ((Ex.refl.app _).ed.trans ((Ex.refl.app _).ed.trans ((Ex.refl.app _).ed.trans e2))) ?_
  rcases badR_mem hy with z | rfl | rfl
  · exact pr_clo (cloR_b y z)
  · have nk : S.length ≠ nd := by omega
    exact pr_lst (e2.get (get_app (get_app get_new)) nk) nk
  · have nk : (S ++ [SO.lst [.int 1]]).length ≠ nd := by rw [List.length_append]; omega
    exact pr_dk (e2.get (get_app get_new) nk) nk
theorem st3 {nd c : Nat} {S : Sto} {A B : Option D} {Q : Fl → Sto → Prop} (h : Dice S nd c) (hc : c + 100 ≤ 1000000) (hq : ∀ (T : Sto) (x : D), Dice T nd (c + 1) → Ed nd S T → PNe nd T x → Q (.nx [some (.ref nd), A, B, some x, none, none, none, none, none, none, none]) T) :
    WpS (Rs3 [some (.ref nd), A, B, none, none, none, none, none, none, none, none] S) Q := by
  have s0 : (0 ≤ sizeLine) = True := eq_true (by decide)
  have s2 : (2 ≤ sizeLine) = True := eq_true (by decide)
  have s1 : (1 ≤ sizeLine) = True := eq_true (by decide)
  have s3 : (3 ≤ sizeLine) = True := eq_true (by decide)
  have s9 : (9 ≤ sizeLine) = True := eq_true (by decide)
  have hl := h.lt
  unfold Rs3
  rw [wps_set, wp_call]
  simp only [entry, wp_call, wp_cons, wp_nil, wp_var, wp_c, wp_ok, List.map_cons, List.map_nil, List.cons_append, List.nil_append, List.getElem?_cons_zero, List.getElem?_cons_succ, List.length_cons, List.length_nil, if_true, wp_tup, wp_lst, wp_empty, Nat.zero_add, Nat.reduceAdd, s0, s1, s2, s3, s9]
  refine pick_ok (ys := badN S.length (S ++ [SO.lst [.int 1, .int 2]]).length) (S := ((S ++ [SO.lst [.int 1, .int 2]]) ++ [SO.dk []]) ++ [SO.lst (badN S.length (S ++ [SO.lst [.int 1, .int 2]]).length)]) h.app.app.app get_new (by rw [List.length_append, List.length_append]; omega) (show 1 ≤ 9 by decide) (show 9 ≤ 1000 by decide) (by omega) fun y T hy d2' e2 l2 => ?_
  simp only [List.set_cons_succ, List.set_cons_zero]
  refine hq T y d2' ((Ex.refl.app _).ed.trans ((Ex.refl.app _).ed.trans ((Ex.refl.app _).ed.trans e2))) ?_
  rcases badN_mem hy with z | rfl | rfl
  · exact pn_clo z
  · have nk : S.length ≠ nd := by omega
    exact pn_lst (e2.get (get_app (get_app get_new)) nk) nk
  · have nk : (S ++ [SO.lst [.int 1, .int 2]]).length ≠ nd := by rw [List.length_append]; omega
    exact pn_dk (e2.get (get_app get_new) nk) nk
theorem st4 {nd c : Nat} {S : Sto} {A B C : Option D} {Q : Fl → Sto → Prop} (h : Dice S nd c) (hc : c + 100 ≤ 1000000) (hq : ∀ (T : Sto) (x : D), Dice T nd (c + 1) → Ed nd S T → x ∈ sizC → Q (.nx [some (.ref nd), A, B, C, some x, none, none, none, none, none, none]) T) :
    WpS (Rs4 [some (.ref nd), A, B, C, none, none, none, none, none, none, none] S) Q := by
  have s2 : (2 ≤ sizeLine) = True := eq_true (by decide)
  have s1 : (1 ≤ sizeLine) = True := eq_true (by decide)
  have s8 : (8 ≤ sizeLine) = True := eq_true (by decide)
  have hl := h.lt
  unfold Rs4
  rw [wps_set, wp_call]
  simp only [entry, wp_call, wp_cons, wp_nil, wp_var, wp_c, wp_ok, List.map_cons, List.map_nil, List.cons_append, List.nil_append, List.getElem?_cons_zero, List.getElem?_cons_succ, List.length_cons, List.length_nil, if_true, wp_tup, wp_lst, wp_neg, wp_d2, pow60, Nat.zero_add, Nat.reduceAdd, s1, s2, s8]
  refine pick_ok (ys := sizC) (S := S ++ [SO.lst sizC]) h.app get_new (by omega) (by decide) (by decide) (by omega) fun y T hy d2' e2 l2 => ?_
  simp only [List.set_cons_succ, List.set_cons_zero]
  exact hq T y d2' ((Ex.refl.app _).ed.trans e2) hy
theorem st5 {S : Sto} {A0 A B C E : Option D} {Q : Fl → Sto → Prop} (hq : Q (.nx [A0, A, B, C, E, some wideD, some tallD, none, none, none, none]) S) :
    WpS (Rs5 [A0, A, B, C, E, none, none, none, none, none, none] S) Q := by
  have s2 : (2 ≤ sizeLine) = True := eq_true (by decide)
  have s3 : (3 ≤ sizeLine) = True := eq_true (by decide)
  unfold Rs5
  rw [wps_asg, wp_tup]
  simp only [entry, wp_call, wp_cons, wp_nil, wp_var, wp_c, wp_ok, List.map_cons, List.map_nil, List.cons_append, List.nil_append, List.getElem?_cons_zero, List.getElem?_cons_succ, List.length_cons, List.length_nil, if_true, wp_tup, Nat.zero_add, Nat.reduceAdd, s2, s3, setT, setTs, List.set_cons_succ, List.set_cons_zero]
  exact hq
end K07
set_option Elab.async false
set_option linter.all false
set_option maxRecDepth 100000
set_option maxHeartbeats 4000000
namespace K07
open PySem MP
/-! ### what is told -/
theorem th_tab1 {c n : Nat} {F : FN} {x : D} {A0 A2 A3 A4 A5 A6 A7 A9 A10 : Option D} {T : Sto} (hc : c ≤ 6) (ht : tabV[c]? = some (F, n)) (h : Jt T x) (hb : tableB x = false) :
    Rz (dCallV tabV 8 (aCons (dVar 1) aNil) [A0, some x, A2, A3, A4, A5, A6, A7, some (.fn c), A9, A10] T) T ⟨1, none⟩ := by
  obtain ⟨U, hU, e⟩ := reqT_bad h hb
  obtain ⟨rfl, e2⟩ := tab_exc1 hc ht e
  refine ⟨U, hU, ?_⟩
  unfold dCallV
  simp [ht, aCons, aNil, dVar, Rs.bind, e2]
theorem th_tab2 {c n : Nat} {F : FN} {x : D} {A0 A2 A3 A4 A5 A6 A7 A9 A10 : Option D} {T : Sto} (hc : c = 7 ∨ c = 8) (ht : tabV[c]? = some (F, n)) (h : Jt T x) (hb : tableB x = false) :
    Rz (dCallV tabV 8 (aCons (dVar 1) (aCons (dVar 1) aNil)) [A0, some x, A2, A3, A4, A5, A6, A7, some (.fn c), A9, A10] T) T ⟨1, none⟩ := by
  obtain ⟨U, hU, e⟩ := reqTs1 (b := x) h hb
  obtain ⟨rfl, e2⟩ := tab_exc2 hc ht e
  refine ⟨U, hU, ?_⟩
  unfold dCallV
  simp [ht, aCons, aNil, dVar, Rs.bind, e2]
theorem th_tab3 {c n : Nat} {F : FN} {x : D} {A0 A2 A3 A4 A6 A7 A9 A10 : Option D} {T : Sto} (hc : c = 7 ∨ c = 8) (ht : tabV[c]? = some (F, n)) (h : Jt T x) (hb : tableB x = false) :
    Rz (dCallV tabV 8 (aCons (dVar 5) (aCons (dVar 1) aNil)) [A0, some x, A2, A3, A4, some wideD, A6, A7, some (.fn c), A9, A10] T) T ⟨1, none⟩ := by
  obtain ⟨U, hU, e⟩ := reqTs2 (T := T) jt_wide wide_b h hb
  obtain ⟨rfl, e2⟩ := tab_exc2 hc ht e
  refine ⟨U, hU, ?_⟩
  unfold dCallV
  simp [ht, aCons, aNil, dVar, Rs.bind, e2]
theorem th_tab4 {c n : Nat} {F : FN} {A0 A1 A2 A3 A4 A6 A7 A9 A10 : Option D} {T : Sto} (hc : c = 1 ∨ c = 2 ∨ c = 3) (ht : tabV[c]? = some (F, n)) :
    Rz (dCallV tabV 8 (aCons (dVar 5) aNil) [A0, A1, A2, A3, A4, some wideD, A6, A7, some (.fn c), A9, A10] T) T ⟨2, none⟩ := by
  obtain ⟨rfl, U, hU, e2⟩ := tab_sq (T := T) (.inl rfl) hc ht
  refine ⟨U, hU, ?_⟩
  unfold dCallV
  simp [ht, aCons, aNil, dVar, Rs.bind, e2]
theorem th_tab5 {c n : Nat} {F : FN} {A0 A1 A2 A3 A4 A5 A7 A9 A10 : Option D} {T : Sto} (hc : c = 1 ∨ c = 2 ∨ c = 3) (ht : tabV[c]? = some (F, n)) :
    Rz (dCallV tabV 8 (aCons (dVar 6) aNil) [A0, A1, A2, A3, A4, A5, some tallD, A7, some (.fn c), A9, A10] T) T ⟨2, none⟩ := by
  obtain ⟨rfl, U, hU, e2⟩ := tab_sq (T := T) (.inr rfl) hc ht
  refine ⟨U, hU, ?_⟩
  unfold dCallV
  simp [ht, aCons, aNil, dVar, Rs.bind, e2]
theorem dCallA {F : FN} {i : Nat} {d : D} {ρ : Rho} {T : Sto} (h : ρ[i]? = some (some d)) : dCall F 1 (aCons (dVar i) aNil) ρ T = F [d] T := by
  unfold dCall aCons aNil dVar
  rw [h]
  rfl
theorem dCallB {F : FN} {i j : Nat} {d e : D} {ρ : Rho} {T : Sto} (h : ρ[i]? = some (some d)) (h' : ρ[j]? = some (some e)) : dCall F 2 (aCons (dVar i) (aCons (dVar j) aNil)) ρ T = F [d, e] T := by
  unfold dCall aCons aNil dVar
  rw [h, h']
  rfl
theorem ac_ok {f : Fe} {fs : Fs} {ρ : Rho} {T : Sto} {d : D} {l : List D} (hf : f ρ T = .ok d T) (hg : fs ρ T = .ok l T) : aCons f fs ρ T = .ok (d :: l) T := by
  unfold aCons
  rw [hf]
  show Rs.bind (fs ρ T) _ = _
  rw [hg]
  rfl
theorem e123 {ρ : Rho} {T : Sto} : mkTup (aCons (dC (.int 1)) (aCons (dC (.int 2)) (aCons (dC (.int 3)) aNil))) ρ T = .ok r123 T := rfl
theorem dCallC {F : FN} {j : Nat} {e : D} {ρ : Rho} {T : Sto} (h' : ρ[j]? = some (some e)) : dCall F 2 (aCons (mkTup (aCons (dC (.int 1)) (aCons (dC (.int 2)) (aCons (dC (.int 3)) aNil)))) (aCons (dVar j) aNil)) ρ T = F [r123, e] T := by
  unfold dCall
  rw [show aCons (mkTup (aCons (dC (.int 1)) (aCons (dC (.int 2)) (aCons (dC (.int 3)) aNil)))) (aCons (dVar j) aNil) ρ T = .ok [r123, e] T from by
    show (Rs.bind (mkTup (aCons (dC (.int 1)) (aCons (dC (.int 2)) (aCons (dC (.int 3)) aNil))) ρ T) _) = _
    rw [e123]
    unfold aCons aNil dVar
    simp only [Rs.bind, h']]
  rfl
theorem dCallD {F : FN} {i : Nat} {d : D} {ρ : Rho} {T : Sto} (h : ρ[i]? = some (some d)) : dCall F 2 (aCons (dVar i) (aCons (mkTup (aCons (dC (.int 1)) (aCons (dC (.int 2)) (aCons (dC (.int 3)) aNil)))) aNil)) ρ T = F [d, r123] T := by
  unfold dCall
  have e1 : dVar i ρ T = .ok d T := by unfold dVar; rw [h]
  rw [ac_ok e1 (ac_ok e123 rfl)]
  rfl
section
variable {S0 : Sto} {m : Nat} {x r z d : D} {wz wd : WT} {A0 : Option D}
theorem st6 {X : Option D} {Q : Fl → Sto → Prop} (hd : PI S0 d) (hw : W1 S0 d wd) (hq : ∀ (U : Sto) (m : Nat), St S0 m [wd] U → Q (.nx [A0, some x, some r, some z, some d, some wideD, some tallD, some (.ref m), none, none, none]) U) :
    WpS (Rs6 [A0, some x, some r, some z, some d, some wideD, some tallD, X, none, none, none] S0) Q := by
  have s1 : (1 ≤ sizeLine) = True := eq_true (by decide)
  have l1 : Lm (dCall F_idle_table 1 (aCons (dVar 4) aNil)) [A0, some x, some r, some z, some d, some wideD, some tallD, X, none, none, none] S0 (word wd) := lm_num hw Ex.refl (by rw [dCallA (d := d) rfl]; exact ⟨S0, Ex.refl, th_idle hd.ty hd.nb⟩)
  obtain ⟨U, hU, e⟩ := l1
  unfold Rs6
  rw [wps_set, wp_lst]
  simp only [wp_cons, wp_nil, e, wp_ok, List.length_cons, List.length_nil, Nat.zero_add, s1, if_true, List.set_cons_succ, List.set_cons_zero]
  exact hq _ U.length ⟨hU.app _, hU.len, get_new⟩
theorem tabs7 : ∀ d ∈ [D.fn 0, D.fn 1, D.fn 2, D.fn 3, D.fn 4, D.fn 5, D.fn 6], ∃ c F n, d = .fn c ∧ c ≤ 6 ∧ tabV[c]? = some (F, n) := by
  intro d hd
  simp only [List.mem_cons, List.not_mem_nil, or_false] at hd
  rcases hd with rfl | rfl | rfl | rfl | rfl | rfl | rfl
  · exact ⟨0, _, _, rfl, by decide, rfl⟩
  · exact ⟨1, _, _, rfl, by decide, rfl⟩
  · exact ⟨2, _, _, rfl, by decide, rfl⟩
  · exact ⟨3, _, _, rfl, by decide, rfl⟩
  · exact ⟨4, _, _, rfl, by decide, rfl⟩
  · exact ⟨5, _, _, rfl, by decide, rfl⟩
  · exact ⟨6, _, _, rfl, by decide, rfl⟩
theorem tabs2 : ∀ d ∈ [D.fn 7, D.fn 8], ∃ c F n, d = .fn c ∧ (c = 7 ∨ c = 8) ∧ tabV[c]? = some (F, n) := by
  intro d hd
  simp only [List.mem_cons, List.not_mem_nil, or_false] at hd
  rcases hd with rfl | rfl
  · exact ⟨7, _, _, rfl, .inl rfl, rfl⟩
  · exact ⟨8, _, _, rfl, .inr rfl, rfl⟩
theorem tabs3 : ∀ d ∈ [D.fn 1, D.fn 2, D.fn 3], ∃ c F n, d = .fn c ∧ (c = 1 ∨ c = 2 ∨ c = 3) ∧ tabV[c]? = some (F, n) := by
  intro d hd
  simp only [List.mem_cons, List.not_mem_nil, or_false] at hd
  rcases hd with rfl | rfl | rfl
  · exact ⟨1, _, _, rfl, .inl rfl, rfl⟩
  · exact ⟨2, _, _, rfl, .inr (.inl rfl), rfl⟩
  · exact ⟨3, _, _, rfl, .inr (.inr rfl), rfl⟩
theorem rep_snoc {α : Type} {a : α} {ws : List α} {k : Nat} : (ws ++ List.replicate k a) ++ [a] = ws ++ List.replicate (k + 1) a := by
  rw [List.append_assoc, ← List.replicate_succ']
theorem st7 {T : Sto} {ws : List WT} {Q : Fl → Sto → Prop} (hs : St S0 m ws T) (hn : ws.length ≤ 20) (hx : ∀ U, Ex S0 U → Jt U x) (hb : tableB x = false)
    (hq : ∀ (U : Sto) (X : Option D), St S0 m (ws ++ List.replicate 7 tabW) U → Q (.nx [A0, some x, some r, some z, some d, some wideD, some tallD, some (.ref m), X, none, none]) U) :
    WpS (Rs7 [A0, some x, some r, some z, some d, some wideD, some tallD, some (.ref m), none, none, none] T) Q := by
  have s7 : (7 ≤ sizeLine) = True := eq_true (by decide)
  unfold Rs7
  rw [wps_for, wp_iD, wp_tup]
  simp only [entry, wp_call, wp_cons, wp_nil, wp_var, wp_c, wp_ok, List.map_cons, List.map_nil, List.cons_append, List.nil_append, List.getElem?_cons_zero, List.getElem?_cons_succ, List.length_cons, List.length_nil, if_true, Nat.zero_add, Nat.reduceAdd, s7, srcD_tup]
  refine for_inv (fun ds ρ T => (∀ d ∈ ds, ∃ c F n, d = .fn c ∧ c ≤ 6 ∧ tabV[c]? = some (F, n)) ∧ (∃ X, ρ = [A0, some x, some r, some z, some d, some wideD, some tallD, some (.ref m), X, none, none]) ∧ ∃ k, k + ds.length = 7 ∧ St S0 m (ws ++ List.replicate k tabW) T) ?_ ?_ ⟨tabs7, ⟨none, rfl⟩, 0, rfl, by simpa using hs⟩
  · rintro f ds ρ T ⟨hf, ⟨X, rfl⟩, k, hk, hs⟩
    obtain ⟨c, F, n, rfl, hc, ht⟩ := hf f List.mem_cons_self
    refine ⟨_, rfl, ?_⟩
    simp only [List.length_cons] at hk
    simp only [List.set_cons_succ, List.set_cons_zero]
    refine tl_step hs (by rw [List.length_append, List.length_replicate]; omega) rfl (lm_tab (th_tab1 hc ht (hx _ hs.ex) hb)) fun U h1 => ?_
    rw [rep_snoc] at h1
    exact ⟨rfl, fun e he => hf e (List.mem_cons_of_mem _ he), ⟨_, rfl⟩, k + 1, by omega, h1⟩
  · rintro ρ T ⟨_, ⟨X, rfl⟩, k, hk, hs⟩
    obtain rfl : k = 7 := by simpa using hk
    exact hq T X hs
theorem st8 {T : Sto} {ws : List WT} {X : Option D} {Q : Fl → Sto → Prop} (hs : St S0 m ws T) (hn : ws.length ≤ 20) (hx : ∀ U, Ex S0 U → Jt U x) (hb : tableB x = false)
    (hq : ∀ (U : Sto) (X : Option D), St S0 m (ws ++ List.replicate 4 tabW) U → Q (.nx [A0, some x, some r, some z, some d, some wideD, some tallD, some (.ref m), X, none, none]) U) :
    WpS (Rs8 [A0, some x, some r, some z, some d, some wideD, some tallD, some (.ref m), X, none, none] T) Q := by
  have s2 : (2 ≤ sizeLine) = True := eq_true (by decide)
  unfold Rs8
  rw [wps_for, wp_iD, wp_tup]
  simp only [entry, wp_call, wp_cons, wp_nil, wp_var, wp_c, wp_ok, List.map_cons, List.map_nil, List.cons_append, List.nil_append, List.getElem?_cons_zero, List.getElem?_cons_succ, List.length_cons, List.length_nil, if_true, Nat.zero_add, Nat.reduceAdd, s2, srcD_tup]
  refine for_inv (fun ds ρ T => (∀ d ∈ ds, ∃ c F n, d = .fn c ∧ (c = 7 ∨ c = 8) ∧ tabV[c]? = some (F, n)) ∧ (∃ X, ρ = [A0, some x, some r, some z, some d, some wideD, some tallD, some (.ref m), X, none, none]) ∧ ∃ k, k + 2 * ds.length = 4 ∧ St S0 m (ws ++ List.replicate k tabW) T) ?_ ?_ ⟨tabs2, ⟨X, rfl⟩, 0, rfl, by simpa using hs⟩
  · rintro f ds ρ T ⟨hf, ⟨X, rfl⟩, k, hk, hs⟩
    obtain ⟨c, F, n, rfl, hc, ht⟩ := hf f List.mem_cons_self
    refine ⟨_, rfl, ?_⟩
    simp only [List.length_cons] at hk
    simp only [List.set_cons_succ, List.set_cons_zero]
    rw [wps_seq]
    refine tl_step hs (by rw [List.length_append, List.length_replicate]; omega) rfl (lm_tab (th_tab2 hc ht (hx _ hs.ex) hb)) fun U h1 => ?_
    rw [rep_snoc] at h1
    rw [sq_nx]
    refine tl_step h1 (by rw [List.length_append, List.length_replicate]; omega) rfl (lm_tab (th_tab3 hc ht (hx _ h1.ex) hb)) fun V h2 => ?_
    rw [rep_snoc] at h2
    exact ⟨rfl, fun e he => hf e (List.mem_cons_of_mem _ he), ⟨_, rfl⟩, k + 1 + 1, by omega, h2⟩
  · rintro ρ T ⟨_, ⟨X, rfl⟩, k, hk, hs⟩
    obtain rfl : k = 4 := by simpa using hk
    exact hq T X hs
theorem st24 {T : Sto} {X Y : Option D} {Q : Fl → Sto → Prop} (hs : St S0 m [] T)
    (hq : ∀ (U : Sto) (X : Option D), St S0 m (List.replicate 6 opW) U → Q (.nx [A0, some x, some r, some z, some d, some wideD, some tallD, some (.ref m), X, Y, none]) U) :
    WpS (Rs24 [A0, some x, some r, some z, some d, some wideD, some tallD, some (.ref m), X, Y, none] T) Q := by
  have s3 : (3 ≤ sizeLine) = True := eq_true (by decide)
  unfold Rs24
  rw [wps_for, wp_iD, wp_tup]
  simp only [entry, wp_call, wp_cons, wp_nil, wp_var, wp_c, wp_ok, List.map_cons, List.map_nil, List.cons_append, List.nil_append, List.getElem?_cons_zero, List.getElem?_cons_succ, List.length_cons, List.length_nil, if_true, Nat.zero_add, Nat.reduceAdd, s3, srcD_tup]
  refine for_inv (fun ds ρ T => (∀ d ∈ ds, ∃ c F n, d = .fn c ∧ (c = 1 ∨ c = 2 ∨ c = 3) ∧ tabV[c]? = some (F, n)) ∧ (∃ X, ρ = [A0, some x, some r, some z, some d, some wideD, some tallD, some (.ref m), X, Y, none]) ∧ ∃ k, k + 2 * ds.length = 6 ∧ St S0 m ([] ++ List.replicate k opW) T) ?_ ?_ ⟨tabs3, ⟨X, rfl⟩, 0, rfl, by simpa using hs⟩
  · rintro f ds ρ T ⟨hf, ⟨X, rfl⟩, k, hk, hs⟩
    obtain ⟨c, F, n, rfl, hc, ht⟩ := hf f List.mem_cons_self
    refine ⟨_, rfl, ?_⟩
    simp only [List.length_cons] at hk
    simp only [List.set_cons_succ, List.set_cons_zero]
    rw [wps_seq]
    refine tl_step hs (by rw [List.length_append, List.length_replicate]; simp; omega) rfl (lm_op (th_tab4 hc ht)) fun U h1 => ?_
    rw [rep_snoc] at h1
    rw [sq_nx]
    refine tl_step h1 (by rw [List.length_append, List.length_replicate]; simp; omega) rfl (lm_op (th_tab5 hc ht)) fun V h2 => ?_
    rw [rep_snoc] at h2
    exact ⟨rfl, fun e he => hf e (List.mem_cons_of_mem _ he), ⟨_, rfl⟩, k + 1 + 1, by omega, h2⟩
  · rintro ρ T ⟨_, ⟨X, rfl⟩, k, hk, hs⟩
    obtain rfl : k = 6 := by simpa using hk
    exact hq T X hs
end
end K07
set_option Elab.async false
set_option linter.all false
set_option maxRecDepth 100000
set_option maxHeartbeats 4000000
namespace K07
open PySem MP
/-! ### all of it -/
theorem w_fe {S : Sto} {d : D} {w : WT} {i : Nat} {ρ : Rho} (h : W1 S d w) (hi : ρ[i]? = some (some d)) {T : Sto} (hT : Ex S T) : d2 dAdd (dC (.str "number ")) (dN nRepr (aCons (dVar i) aNil)) ρ T = .ok (.str w.1) T := by
  obtain ⟨x, h1, h2, h3⟩ := h
  have e1 : dVar i ρ T = .ok d T := by unfold dVar; rw [hi]
  have e2 : dN nRepr (aCons (dVar i) aNil) ρ T = .ok (.str x) T := by
    unfold dN
    rw [ac_ok e1 (l := []) rfl]
    exact h1 T hT
  show Rs.bind (dN nRepr (aCons (dVar i) aNil) ρ T) (fun y S2 => dAdd (.str "number ") y S2) = _
  rw [e2]
  show dAdd (.str "number ") (.str x) T = _
  rw [dAdd_w h2, h3]
def wsAll (a b : WT) : List WT := [a, tabW, tabW, tabW, tabW, tabW, tabW, tabW, tabW, tabW, tabW, tabW, opW, opW, tabW, b, tabW, tabW, tabW, opW, tabW, tabW, opW]
section
variable {S0 : Sto} {x r z d : D} {wz wd : WT} {A0 A7 A8 A10 : Option D}
theorem st20 {T : Sto} {Q : Fl → Sto → Prop} (hT : Ex S0 T) (hd : W1 S0 d wd) (hz : W1 S0 z wz)
    (hq : ∀ (U : Sto) (k : Nat), Ex T U → U[k]? = some (.lst ([D.str wd.1] ++ (List.replicate 11 [D.str "table"]).flatten ++ (List.replicate 2 [D.str "operation"]).flatten ++ [D.str "table", D.str wz.1])) → Q (.nx [A0, some x, some r, some z, some d, some wideD, some tallD, A7, A8, some (.ref k), A10]) U) :
    WpS (Rs20 [A0, some x, some r, some z, some d, some wideD, some tallD, A7, A8, none, A10] T) Q := by
  unfold Rs20
  refine lk_set (lk_add (lk_add (lk_add (lk_lst (l := [D.str wd.1]) (ac_ok (w_fe hd rfl hT) rfl) (show 1 ≤ 100 by decide)) (fun U hU => lk_mul (k := 11) (lk_lst (l := [D.str "table"]) rfl (show 1 ≤ 100 by decide)) (by decide) (by decide)) (Nat.le_of_ble_eq_true rfl)) (fun U hU => lk_mul (k := 2) (lk_lst (l := [D.str "operation"]) rfl (show 1 ≤ 100 by decide)) (by decide) (by decide)) (Nat.le_of_ble_eq_true rfl))
    (fun U hU => lk_lst (l := [D.str "table", D.str wz.1]) (ac_ok rfl (ac_ok (w_fe hz rfl (hT.trans hU)) rfl)) (show 2 ≤ 100 by decide)) (Nat.le_of_ble_eq_true rfl)) fun U n hU g => ?_
  simp only [List.set_cons_succ, List.set_cons_zero]
  exact hq U n hU g
theorem st21 {T : Sto} {k : Nat} {l : List D} {Q : Fl → Sto → Prop} (hl : l.length ≤ 100) (hk : T[k]? = some (.lst l))
    (hq : ∀ (U : Sto) (n : Nat), Ex T U → U[n]? = some (.lst (l ++ (List.replicate 3 [D.str "table"]).flatten ++ [D.str "operation", .str "table", .str "table", .str "operation"])) → Q (.nx [A0, some x, some r, some z, some d, some wideD, some tallD, A7, A8, some (.ref n), A10]) U) :
    WpS (Rs21 [A0, some x, some r, some z, some d, some wideD, some tallD, A7, A8, some (.ref k), A10] T) Q := by
  unfold Rs21
  refine lk_set (lk_add (lk_add (lk_var rfl hk) (fun U hU => lk_mul (k := 3) (lk_lst (l := [D.str "table"]) rfl (show 1 ≤ 100 by decide)) (by decide) (by decide)) ?_) (fun U hU => lk_lst (l := [D.str "operation", .str "table", .str "table", .str "operation"]) rfl (show 4 ≤ 100 by decide)) ?_) fun U n hU g => ?_
  · have : ((List.replicate 3 [D.str "table"]).flatten).length = 3 := rfl
    omega
  · have : ((List.replicate 3 [D.str "table"]).flatten).length = 3 := rfl
    rw [List.length_append, this]
    show l.length + 3 + 4 ≤ 600
    omega
  simp only [List.set_cons_succ, List.set_cons_zero]
  exact hq U n hU g
end
theorem PN.up {S T : Sto} {d : D} (h : PN S d) (e : Ex S T) : Td T d ∧ numberB d = false := ⟨h.td.up e, h.nb⟩
theorem st_due {nd c : Nat} {S0 T : Sto} {m : Nat} {x r z d : D} {wz wd : WT} {A0 X : Option D} {Q : D → Sto → Prop} (hD : Dice S0 nd c) (s19 : St S0 m (wsAll wd wz) T) (hwd : W1 S0 d wd) (hwz : W1 S0 z wz) (hq : ∀ T, Dice T nd c → Q (.bl true) T) :
    WpS (Rr20 [A0, some x, some r, some z, some d, some wideD, some tallD, some (.ref m), X, none, none] T) (rn Q) := by
  have s0 : (0 ≤ sizeLine) = True := eq_true (by decide)
  have s1 : (1 ≤ sizeLine) = True := eq_true (by decide)
  have s2 : (2 ≤ sizeLine) = True := eq_true (by decide)
  unfold Rr20; rw [wps_seq]
  refine st20 s19.ex hwd hwz fun U1 k1 e1 g1 => ?_
  rw [sq_nx]; unfold Rr21; rw [wps_seq]
  refine st21 (Nat.le_of_ble_eq_true rfl) g1 fun U2 k2 e2 g2 => ?_
  rw [sq_nx]; unfold Rr22 Rs22; rw [wps_seq]
  refine cmp_step (ws := wsAll wd wz) (m := m) (k := k2) ((e1.trans e2).get s19.told) g2 (show 23 ≤ 500 by decide) rfl rfl (show 10 < 11 by decide) fun U3 e3 => ?_
  rw [wps_nil, sq_nx]
  unfold Rr23 Rs23
  have eU : Ex S0 U3 := s19.ex.trans (e1.trans (e2.trans e3))
  rw [wps_seq, wps_set, wp_lst]
  simp only [wp_nil, List.length_nil, s0, if_true, List.set_cons_succ, List.set_cons_zero]
  have t0 : St U3 U3.length [] (U3 ++ [SO.lst []]) := ⟨Ex.refl.app _, Nat.le_refl _, get_new⟩
  rw [sq_nx]; unfold Rr24; rw [wps_seq]
  refine st24 t0 fun U4 X' t1 => ?_
  rw [sq_nx]; unfold Rr25 Rs25
  rw [wps_ret, wp_d2, wp_var]
  simp only [entry, wp_call, wp_cons, wp_nil, wp_var, wp_c, wp_ok, List.map_cons, List.map_nil, List.cons_append, List.nil_append, List.getElem?_cons_zero, List.getElem?_cons_succ, List.length_cons, List.length_nil, if_true, wp_d2, wp_lst, wp_tup, Nat.zero_add, Nat.reduceAdd, s1, s2]
  have e3 : dMul (.ref U4.length) (.int 6) (U4 ++ [SO.lst [D.tup [.str "refused", .str "operation"]]]) = .ok (.ref (U4 ++ [SO.lst [D.tup [.str "refused", .str "operation"]]]).length) ((U4 ++ [SO.lst [D.tup [.str "refused", .str "operation"]]]) ++ [SO.lst (((List.replicate 6 opW).map fun w => [refW, w]).map En.d)]) := by
    unfold dMul
    simp only [get_new]
    rw [if_pos (by decide)]
    rfl
  rw [e3, wp_ok]
  have e4 := dEqB_ens (α := List WT) (n := false) ((List.replicate 6 opW).map fun w => [refW, w]) ((List.replicate 6 opW).map fun w => [refW, w]) (S := (U4 ++ [SO.lst [D.tup [.str "refused", .str "operation"]]]) ++ [SO.lst (((List.replicate 6 opW).map fun w => [refW, w]).map En.d)]) (i := U3.length) (j := (U4 ++ [SO.lst [D.tup [.str "refused", .str "operation"]]]).length) (get_app (get_app t1.told)) get_new (by decide)
  show Wp (dEqB false _ _ _) _
  rw [e4]
  simp
  exact hq _ ((hD.up (eU.trans t1.ex) (Nat.le_refl _)).app)
theorem right_ok {nd c : Nat} {S : Sto} {Q : D → Sto → Prop} (h : Dice S nd c) (hc : c + 200 ≤ 1000000) (hq : ∀ T, Dice T nd (c + 5) → Q (.bl true) T) : Wp (F__law_right [.ref nd] S) Q := by
  unfold F__law_right
  rw [wp_run, Rb_eq]
  unfold Rr0
  rw [wps_seq]
  refine st0 h (by omega) fun T1 x0 d1 p1 => ?_
  rw [sq_nx]; unfold Rr1; rw [wps_seq]
  refine st1 d1 (by omega) p1 fun T2 x d2' px => ?_
  rw [sq_nx]; unfold Rr2; rw [wps_seq]
  refine st2 d2' (by omega) fun T3 r d3 e3 pr => ?_
  rw [sq_nx]; unfold Rr3; rw [wps_seq]
  refine st3 d3 (by omega) fun T4 z d4 e4 pz => ?_
  rw [sq_nx]; unfold Rr4; rw [wps_seq]
  refine st4 d4 (by omega) fun S0 d d5 e5 hd => ?_
  have jx : ∀ U, Ex S0 U → Jt U x := fun U hU => px.1 U (e3.trans (e4.trans (e5.trans hU.ed)))
  have jr : ∀ U, Ex S0 U → Jd U r := fun U hU => pr.1 U (e4.trans (e5.trans hU.ed))
  have hx := px.2
  have hr := pr.2
  have nz : PN S0 z := pz S0 e5
  have sd : PI S0 d := pi_siz hd
  obtain ⟨wz, hwz⟩ := nz.w
  obtain ⟨wd, hwd⟩ := sd.w
  clear px pr pz p1 d1 d2' d3 d4 e3 e4 e5 hd
  rw [sq_nx]; unfold Rr5; rw [wps_seq]
  refine st5 ?_
  rw [sq_nx]; unfold Rr6; rw [wps_seq]
  refine st6 sd hwd fun U6 m s6 => ?_
  rw [sq_nx]; unfold Rr7; rw [wps_seq]
  refine st7 s6 (Nat.le_of_ble_eq_true rfl) jx hx fun U7 X7 s7 => ?_
  rw [sq_nx]; unfold Rr8; rw [wps_seq]
  refine st8 s7 (Nat.le_of_ble_eq_true rfl) jx hx fun U8 X8 s8 => ?_
  rw [sq_nx]; unfold Rr9 Rs9; rw [wps_seq]
  refine tl_step s8 (Nat.le_of_ble_eq_true rfl) rfl (lm_op (by rw [dCallB (d := wideD) (e := tallD) rfl rfl]; exact th_sum)) fun U9 s9 => ?_
  rw [sq_nx]; unfold Rr10 Rs10; rw [wps_seq]
  refine tl_step s9 (Nat.le_of_ble_eq_true rfl) rfl (lm_op (by rw [dCallB (d := wideD) (e := wideD) rfl rfl]; exact th_prod)) fun U10 s10 => ?_
  rw [sq_nx]; unfold Rr11 Rs11; rw [wps_seq]
  refine tl_step s10 (Nat.le_of_ble_eq_true rfl) rfl (lm_tab (by rw [dCallB (d := x) (e := z) rfl rfl]; exact th_scal1 (jx _ s10.ex) hx)) fun U11 s11 => ?_
  rw [sq_nx]; unfold Rr12 Rs12; rw [wps_seq]
  refine tl_step s11 (Nat.le_of_ble_eq_true rfl) rfl (lm_num hwz s11.ex (by rw [dCallB (d := wideD) (e := z) rfl rfl]; exact th_scal2 (nz.td.up s11.ex) nz.nb)) fun U12 s12 => ?_
  rw [sq_nx]; unfold Rr13 Rs13; rw [wps_seq]
  refine tl_step s12 (Nat.le_of_ble_eq_true rfl) rfl (lm_tab (by rw [dCallB (d := r) (e := x) rfl rfl]; exact th_row1 (jr _ s12.ex) hr)) fun U13 s13 => ?_
  rw [sq_nx]; unfold Rr14 Rs14; rw [wps_seq]
  refine tl_step s13 (Nat.le_of_ble_eq_true rfl) rfl (lm_tab (by rw [dCallB (d := r) (e := wideD) rfl rfl]; exact th_row1 (jr _ s13.ex) hr)) fun U14 s14 => ?_
  rw [sq_nx]; unfold Rr15 Rs15; rw [wps_seq]
  refine tl_step s14 (Nat.le_of_ble_eq_true rfl) rfl (lm_tab (by rw [dCallC (e := x) rfl]; exact th_row2 (jx _ s14.ex) hx)) fun U15 s15 => ?_
  rw [sq_nx]; unfold Rr16 Rs16; rw [wps_seq]
  refine tl_step s15 (Nat.le_of_ble_eq_true rfl) rfl (lm_op (by rw [dCallC (e := wideD) rfl]; exact th_row3)) fun U16 s16 => ?_
  rw [sq_nx]; unfold Rr17 Rs17; rw [wps_seq]
  refine tl_step s16 (Nat.le_of_ble_eq_true rfl) rfl (lm_tab (by rw [dCallB (d := x) (e := r) rfl rfl]; exact th_sol1 (jx _ s16.ex) hx)) fun U17 s17 => ?_
  rw [sq_nx]; unfold Rr18 Rs18; rw [wps_seq]
  refine tl_step s17 (Nat.le_of_ble_eq_true rfl) rfl (lm_tab (by rw [dCallB (d := wideD) (e := r) rfl rfl]; exact th_sol2 (jr _ s17.ex) hr)) fun U18 s18 => ?_
  rw [sq_nx]; unfold Rr19 Rs19; rw [wps_seq]
  refine tl_step s18 (Nat.le_of_ble_eq_true rfl) rfl (lm_op (by rw [dCallD (d := wideD) rfl]; exact th_sol3)) fun U19 s19 => ?_
  rw [sq_nx]
  exact st_due d5 s19 hwd hwz fun V hV => hq V hV
end K07
set_option Elab.async false
set_option linter.all false
set_option maxRecDepth 100000
set_option maxHeartbeats 4000000
namespace K07
open PySem MP
/-! ### a table that cannot be undone -/
def o1 : D := .tup [.int 1, .int 1]
def rw01 : D := .tup [.tup [.int 0, .int 1], o1]
theorem first0 {k : Nat} {T : Sto} (h : T[k]? = some (.lst [rw01])) : F_first_at [.ref k, .int 0] T = .ok .non T := by
  have e : dNextE (dTs1 1 0) (dVar 0) (entry 4 [.ref k, .int 0]) T = .ok .non T := by
    show (match itemsD (.ref k) T with | some ds => (match firstI (dTs1 1 0 (entry 4 [.ref k, .int 0]) T) ds with | some r => (Rs.ok r T : Rs D) | none => .stuck) | none => .stuck) = _
    rw [items_ref h]
    rfl
  unfold F_first_at b_first_at runF sRet
  rw [e]
  rfl
theorem first1 {k : Nat} {T : Sto} (h : T[k]? = some (.lst [rw01])) : F_first_at [.ref k, .int 1] T = .ok (.int 0) T := by
  have e : dNextE (dTs1 1 0) (dVar 0) (entry 4 [.ref k, .int 1]) T = .ok (.int 0) T := by
    show (match itemsD (.ref k) T with | some ds => (match firstI (dTs1 1 0 (entry 4 [.ref k, .int 1]) T) ds with | some r => (Rs.ok r T : Rs D) | none => .stuck) | none => .stuck) = _
    rw [items_ref h]
    rfl
  unfold F_first_at b_first_at runF sRet
  rw [e]
  rfl
theorem dlc_one {f : Fi} {t : Tg} {e : Fe} {vs : List Nat} {ρ ρ1 : Rho} {S T : Sto} {d y : D} {rs : List (Nat × List D)} (hf : f ρ S = .ok ⟨[d], rs⟩ T) (h1 : setT t d (wipeR ρ vs) = some ρ1) (h2 : e ρ1 T = .ok y T) (h3 : (Src.mk [d] rs).ok T = true) :
    dLc f t fYes e vs ρ S = .ok (.ref T.length) (T ++ [.lst [y]]) := by
  have z : lcL (Src.mk [d] rs).ok t fYes e (wipeR ρ vs) [d] T = .ok [y] T := by
    unfold lcL
    rw [h1]
    show (match e ρ1 T with
      | .ok y S2 => if (Src.mk [d] rs).ok S2 = true then (lcL (Src.mk [d] rs).ok t fYes e (wipeR ρ vs) [] S2).bind fun ys S3 => .ok (y :: ys) S3 else .stuck
      | _ => .stuck) = _
    rw [h2]
    show (if (Src.mk [d] rs).ok T = true then (Rs.ok [] T).bind (fun ys S3 => (Rs.ok (y :: ys) S3 : Rs (List D))) else .stuck) = _
    rw [if_pos h3]
    rfl
  unfold dLc
  rw [hf]
  show Rs.bind (lcL (Src.mk [d] rs).ok t fYes e (wipeR ρ vs) [d] T) lcFin = _
  rw [z]
  show (if 1 ≤ sizeLine then (Rs.ok (.ref T.length) (T ++ [.lst [y]]) : Rs D) else .stuck) = _
  rw [if_pos (show 1 ≤ sizeLine by decide)]
theorem dlc_nil {f : Fi} {t : Tg} {e : Fe} {vs : List Nat} {ρ : Rho} {S T : Sto} {rs : List (Nat × List D)} (hf : f ρ S = .ok ⟨[], rs⟩ T) : dLc f t fYes e vs ρ S = .ok (.ref T.length) (T ++ [.lst []]) := by
  unfold dLc
  rw [hf]
  show (if 0 ≤ sizeLine then (Rs.ok (.ref T.length) (T ++ [.lst []]) : Rs D) else .stuck) = _
  rw [if_pos (show 0 ≤ sizeLine by decide)]
theorem iD_ref {ρ : Rho} {i k : Nat} {l : List D} {T : Sto} (hi : ρ[i]? = some (some (.ref k))) (h : T[k]? = some (.lst l)) : iD (dVar i) ρ T = .ok ⟨l, [(k, l)]⟩ T := by
  have e1 : dVar i ρ T = .ok (.ref k) T := by unfold dVar; rw [hi]
  unfold iD
  rw [e1]
  exact srcD_ref h
theorem src_ok {k : Nat} {l : List D} {T : Sto} (h : T[k]? = some (.lst l)) : (Src.mk l [(k, l)]).ok T = true := by
  unfold Src.ok
  simp [h, beqDs_refl]
theorem leads01 {k : Nat} {T : Sto} (h : T[k]? = some (.lst [rw01])) : F_leads_of [.ref k] T = .ok (.ref T.length) (T ++ [SO.lst [.int 1]]) := by
  have e := dlc_one (t := .nm 1) (e := dNextE (dTs2 0) (dVar 1)) (vs := [1]) (ρ := entry 4 [.ref k]) (y := .int 1) (iD_ref (i := 0) rfl h) rfl rfl (src_ok h)
  unfold F_leads_of b_leads_of runF sRet
  have e' : dLc (iD (dVar 0)) (.nm 1) fYes (dNextE (dTs2 0) (dVar 1)) [1] (entry 4 [.ref k]) T = .ok (.ref T.length) (T ++ [SO.lst [.int 1]]) := e
  rw [e']
  rfl
theorem undone_leads {k : Nat} {T : Sto} (h : T[k]? = some (.lst [rw01])) {A B C : Option D} : ∃ U, Ex T U ∧ d2 dNe (dCall F_leads_of 1 (aCons (dVar 2) aNil)) (dListR (dVar 1)) [A, some (.int 1), some (.ref k), B, C] T = .ok (.bl true) U := by
  have e1 : dCall F_leads_of 1 (aCons (dVar 2) aNil) [A, some (.int 1), some (.ref k), B, C] T = F_leads_of [.ref k] T := rfl
  refine ⟨(T ++ [SO.lst [.int 1]]) ++ [SO.lst [.int 0]], (Ex.refl.app _).app _, ?_⟩
  unfold d2
  rw [e1, leads01 h]
  show Rs.bind (dListR (dVar 1) [A, some (.int 1), some (.ref k), B, C] (T ++ [SO.lst [.int 1]])) (fun y S2 => dNe (.ref T.length) y S2) = _
  have e2 : dListR (dVar 1) [A, some (.int 1), some (.ref k), B, C] (T ++ [SO.lst [.int 1]]) = .ok (.ref (T ++ [SO.lst [.int 1]]).length) ((T ++ [SO.lst [.int 1]]) ++ [SO.lst [.int 0]]) := rfl
  rw [e2]
  show dNe (.ref T.length) (.ref (T ++ [SO.lst [.int 1]]).length) ((T ++ [SO.lst [.int 1]]) ++ [SO.lst [.int 0]]) = _
  have e3 := dEqB_ens (α := Int) (n := true) [1] [0] (S := (T ++ [SO.lst [.int 1]]) ++ [SO.lst [.int 0]]) (i := T.length) (j := (T ++ [SO.lst [D.int 1]]).length) (get_app get_new) get_new (by decide)
  exact e3
def Es0 : Fst := (sPar 1 2 (aCons (dN nList (aCons (dVar 0) aNil)) (aCons (mkLst aNil) aNil)))
def Eb : Fst := (sSeq (sSet 4 (dCall F_first_at 2 (aCons (dVar 1) (aCons (dVar 3) aNil)))) (sIf (fB (dIsN true (dVar 4))) (sSeq (sSet 5 (dCall F_row_scaled 2 (aCons (d2 dAt (dVar 1) (dVar 4)) (aCons (dCall F_quotient_in 2 (aCons (dC c_ONE) (aCons (d2 dAt (d2 dAt (dVar 1) (dVar 4)) (dVar 3)) aNil))) aNil)))) (sSeq (sSet 6 (mkLst (aStar (dSlice (dVar 1) oNone (oSome (dVar 4))) (aStar (dSlice (dVar 1) (oSome (d2 dAdd (dVar 4) (dC (.int 1)))) oNone) aNil)))) (sSeq (sSet 1 (dLc (iD (dVar 6)) (.nm 7) fYes (dCall F_row_cleared 3 (aCons (dVar 7) (aCons (dVar 5) (aCons (dVar 3) aNil)))) [7])) (sSet 2 (mkLst (aStar (dLc (iD (dVar 2)) (.nm 7) fYes (dCall F_row_cleared 3 (aCons (dVar 7) (aCons (dVar 5) (aCons (dVar 3) aNil)))) [7]) (aCons (dVar 5) aNil))))))) sNil))
def Es1 : Fst := (sFor (iR1 (aCons (dN nLen (aCons (d2 dAt (dVar 0) (dC (.int 0))) aNil)) aNil)) (.nm 3) Eb)
def Es2 : Fst := (sRet (dVar 2))
theorem Eb_eq : b_echelon_in = sSeq Es0 (sSeq Es1 Es2) := rfl
theorem quot11 (T : Sto) : F_quotient_in [c_ONE, o1] T = .ok o1 T := by kernel_rfl
theorem scaled01 (T : Sto) : ∃ U, Ex T U ∧ F_row_scaled [rw01, o1] T = .ok rw01 U := by
  have h := (row_scaled_ok (l := [0, 1]) (x := 1) (k := 1) (c := 1) (S := T) (Q := fun r U => r = encR ([0, 1].map fun q => q * 1) ∧ Ex T U) (fun x hx => by
    simp only [List.mem_cons, List.not_mem_nil, or_false] at hx
    rcases hx with rfl | rfl
    · exact ⟨by decide +kernel, by decide +kernel⟩
    · exact ⟨by decide +kernel, by decide +kernel⟩) ⟨by decide +kernel, by decide +kernel⟩ (by decide) (by decide) fun U hU => ⟨rfl, hU⟩).out
  obtain ⟨d, U, e, rfl, hU⟩ := h
  refine ⟨U, hU, ?_⟩
  have e1 : encR [0, 1] = rw01 := by kernel_rfl
  have e2 : encR ([0, 1].map fun q : Rat => q * 1) = rw01 := by kernel_rfl
  have e3 : fr 1 = o1 := by kernel_rfl
  rw [e2] at e
  rw [e1, e3] at e
  exact e
end K07
set_option Elab.async false
set_option linter.all false
set_option maxRecDepth 100000
set_option maxHeartbeats 4000000
namespace K07
open PySem MP
theorem slice_ref {n : Nat} {l : List D} {lo hi : Option Int} {T : Sto} (h : T[n]? = some (.lst l)) : sliceD (.ref n) lo hi T = .ok (.ref T.length) (T ++ [SO.lst (cutD l lo hi)]) := by
  show (match T[n]? with | some (.lst ds) => (Rs.ok (.ref T.length) (T ++ [SO.lst (cutD ds lo hi)]) : Rs D) | _ => .stuck) = _
  rw [h]
theorem Eb_0 {n k1 k2 : Nat} {b : Option D} {T : Sto} {Q : Fl → Sto → Prop} (g1 : T[k1]? = some (.lst [rw01])) (hq : Q (.nx [some (.ref n), some (.ref k1), some (.ref k2), some (.int 0), some .non, none, none, none]) T) :
    WpS (Eb [some (.ref n), some (.ref k1), some (.ref k2), some (.int 0), b, none, none, none] T) Q := by
  unfold Eb
  rw [wps_seq, wps_set, wp_call]
  simp only [entry, wp_call, wp_cons, wp_nil, wp_var, wp_c, wp_ok, List.map_cons, List.map_nil, List.cons_append, List.nil_append, List.getElem?_cons_zero, List.getElem?_cons_succ, List.length_cons, List.length_nil, if_true, first0 g1, List.set_cons_succ, List.set_cons_zero]
  rw [sq_nx, wps_if, wp_fB, wp_isn, wp_var]
  simp only [entry, wp_call, wp_cons, wp_nil, wp_var, wp_c, wp_ok, List.map_cons, List.map_nil, List.cons_append, List.nil_append, List.getElem?_cons_zero, List.getElem?_cons_succ, List.length_cons, List.length_nil, if_true]
  exact hq
theorem Eb_1 {n k1 k2 : Nat} {b : Option D} {T : Sto} {Q : Fl → Sto → Prop} (g1 : T[k1]? = some (.lst [rw01])) (g2 : T[k2]? = some (.lst []))
    (hq : ∀ (U : Sto) (k : Nat) (a c d e : Option D), Ex T U → U[k]? = some (.lst [rw01]) → Q (.nx [some (.ref n), a, some (.ref k), some (.int 1), c, d, e, none]) U) :
    WpS (Eb [some (.ref n), some (.ref k1), some (.ref k2), some (.int 1), b, none, none, none] T) Q := by
  have s0 : (0 ≤ sizeLine) = True := eq_true (by decide)
  have s1 : (1 ≤ sizeLine) = True := eq_true (by decide)
  have a1 : dAt (.ref k1) (.int 0) T = .ok rw01 T := (dAt_ref g1).trans rfl
  have a2 : dAt rw01 (.int 1) T = .ok o1 T := rfl
  unfold Eb
  rw [wps_seq, wps_set, wp_call]
  simp only [entry, wp_call, wp_cons, wp_nil, wp_var, wp_c, wp_ok, List.map_cons, List.map_nil, List.cons_append, List.nil_append, List.getElem?_cons_zero, List.getElem?_cons_succ, List.length_cons, List.length_nil, if_true, first1 g1, List.set_cons_succ, List.set_cons_zero]
  rw [sq_nx, wps_if, wp_fB, wp_isn, wp_var]
  simp only [entry, wp_call, wp_cons, wp_nil, wp_var, wp_c, wp_ok, List.map_cons, List.map_nil, List.cons_append, List.nil_append, List.getElem?_cons_zero, List.getElem?_cons_succ, List.length_cons, List.length_nil, if_true]
  show WpS (sSeq (sSet 5 _) _ _ _) _
  rw [wps_seq, wps_set, wp_call]
  simp only [entry, wp_call, wp_cons, wp_nil, wp_var, wp_c, wp_ok, List.map_cons, List.map_nil, List.cons_append, List.nil_append, List.getElem?_cons_zero, List.getElem?_cons_succ, List.length_cons, List.length_nil, if_true, wp_d2, a1, a2, quot11]
  obtain ⟨U, hU, e⟩ := scaled01 T
  simp only [e, wp_ok, List.set_cons_succ, List.set_cons_zero]
  rw [sq_nx, wps_seq, wps_set, wp_lst]
  have b1 := slice_ref (lo := none) (hi := some 0) (hU.get g1)
  have c1 : cutD [rw01] none (some 0) = [] := rfl
  rw [c1] at b1
  have i1 : itemsD (.ref U.length) (U ++ [SO.lst []]) = some [] := items_ref get_new
  have b2 := slice_ref (lo := some 1) (hi := none) (T := U ++ [SO.lst []]) (get_app (hU.get g1))
  have c2 : cutD [rw01] (some 1) none = [] := rfl
  rw [c2] at b2
  have i2 : itemsD (.ref (U ++ [SO.lst []]).length) ((U ++ [SO.lst []]) ++ [SO.lst []]) = some [] := items_ref get_new
  have ad : ∀ V : Sto, dAdd (.int 0) (.int 1) V = .ok (.int 1) V := fun V => rfl
  simp only [entry, wp_call, wp_cons, wp_nil, wp_var, wp_c, wp_ok, List.map_cons, List.map_nil, List.cons_append, List.nil_append, List.getElem?_cons_zero, List.getElem?_cons_succ, List.length_cons, List.length_nil, if_true, wp_star, wp_sl, wp_oN, wp_oS, wp_d2, b1, i1, ad, b2, i2, List.append_nil, s0, List.set_cons_succ, List.set_cons_zero]
  have e3 : Ex T (((U ++ [SO.lst []]) ++ [SO.lst []]) ++ [SO.lst []]) := ((hU.app _).app _).app _
  have g3 : (((U ++ [SO.lst []]) ++ [SO.lst []]) ++ [SO.lst []])[((U ++ [SO.lst []]) ++ [SO.lst []]).length]? = some (.lst []) := get_new
  generalize ((U ++ [SO.lst []]) ++ [SO.lst []]).length = k6 at g3 ⊢
  generalize ((U ++ [SO.lst []]) ++ [SO.lst []]) ++ [SO.lst []] = V at e3 g3 ⊢
  rw [sq_nx, wps_seq, wps_set, dlc_nil (iD_ref (i := 6) rfl g3)]
  simp only [entry, wp_call, wp_cons, wp_nil, wp_var, wp_c, wp_ok, List.map_cons, List.map_nil, List.cons_append, List.nil_append, List.getElem?_cons_zero, List.getElem?_cons_succ, List.length_cons, List.length_nil, if_true, List.set_cons_succ, List.set_cons_zero]
  rw [sq_nx, wps_set, wp_lst, wp_star]
  have g4 : (V ++ [SO.lst []])[k2]? = some (.lst []) := get_app (e3.get g2)
  rw [dlc_nil (iD_ref (i := 2) rfl g4)]
  have i3 : itemsD (.ref (V ++ [SO.lst []]).length) ((V ++ [SO.lst []]) ++ [SO.lst []]) = some [] := items_ref get_new
  simp only [entry, wp_call, wp_cons, wp_nil, wp_var, wp_c, wp_ok, List.map_cons, List.map_nil, List.cons_append, List.nil_append, List.getElem?_cons_zero, List.getElem?_cons_succ, List.length_cons, List.length_nil, if_true, i3, s1, Nat.zero_add, List.set_cons_succ, List.set_cons_zero]
  exact hq _ _ _ _ _ _ (((e3.app _).app _).app _) get_new
theorem ech01 {n : Nat} {S : Sto} (h : S[n]? = some (.lst [rw01])) : ∃ U k, Ex S U ∧ F_echelon_in [.ref n] S = .ok (.ref k) U ∧ U[k]? = some (.lst [rw01]) := by
  have s0 : (0 ≤ sizeLine) = True := eq_true (by decide)
  have key : Wp (F_echelon_in [.ref n] S) fun d U => ∃ k, d = .ref k ∧ Ex S U ∧ U[k]? = some (.lst [rw01]) := by
    unfold F_echelon_in
    rw [Eb_eq, wp_run, wps_seq]
    unfold Es0
    rw [wps_par]
    simp only [entry, wp_call, wp_cons, wp_nil, wp_var, wp_c, wp_ok, List.map_cons, List.map_nil, List.cons_append, List.nil_append, List.getElem?_cons_zero, List.getElem?_cons_succ, List.length_cons, List.length_nil, if_true, wp_dN, nList_ref h, wp_lst, s0, List.replicate, Nat.reduceAdd, Nat.reduceSub, List.set_cons_succ, List.set_cons_zero]
    have g1 : ((S ++ [SO.lst [rw01]]) ++ [SO.lst []])[S.length]? = some (.lst [rw01]) := get_app get_new
    have g2 : ((S ++ [SO.lst [rw01]]) ++ [SO.lst []])[(S ++ [SO.lst [rw01]]).length]? = some (.lst []) := get_new
    have e1 : Ex S ((S ++ [SO.lst [rw01]]) ++ [SO.lst []]) := (Ex.refl.app _).app _
    generalize (S ++ [SO.lst [rw01]]).length = k2 at g2 ⊢
    generalize S.length = k1 at g1 ⊢
    generalize (S ++ [SO.lst [rw01]]) ++ [SO.lst []] = T at g1 g2 e1 ⊢
    rw [sq_nx, wps_seq]
    unfold Es1
    have a1 : dAt (.ref n) (.int 0) T = .ok rw01 T := (dAt_ref (e1.get h)).trans rfl
    have l1 : nLen [rw01] T = .ok (.int 2) T := rfl
    rw [wps_for, wp_iR1]
    simp only [entry, wp_call, wp_cons, wp_nil, wp_var, wp_c, wp_ok, List.map_cons, List.map_nil, List.cons_append, List.nil_append, List.getElem?_cons_zero, List.getElem?_cons_succ, List.length_cons, List.length_nil, if_true, wp_dN, wp_d2, a1, l1]
    rw [if_pos (by decide)]
    refine for_inv (fun ds ρ V => (∃ a b, ρ = [some (.ref n), some (.ref k1), some (.ref k2), a, b, none, none, none] ∧ Ex T V ∧ (ds = [.int 0, .int 1] ∨ ds = [.int 1])) ∨ (ds = [] ∧ ∃ a c d e f g k, ρ = [some (.ref n), a, some (.ref k), c, d, e, f, g] ∧ Ex T V ∧ V[k]? = some (.lst [rw01]))) ?_ ?_ (ds := rngD 0 2) (.inl ⟨_, _, rfl, Ex.refl, .inl rfl⟩)
    · rintro d ds ρ V (⟨a, b, rfl, eV, hds | hds⟩ | ⟨hds, _⟩)
      · cases hds
        refine ⟨_, rfl, ?_⟩
        simp only [List.set_cons_succ, List.set_cons_zero]
        refine Eb_0 (eV.get g1) ?_
        exact ⟨rfl, .inl ⟨_, _, rfl, eV, .inr trivial⟩⟩
      · cases hds
        refine ⟨_, rfl, ?_⟩
        simp only [List.set_cons_succ, List.set_cons_zero]
        refine Eb_1 (eV.get g1) (eV.get g2) fun U k a c d e hU g => ?_
        exact ⟨rfl, .inr ⟨trivial, _, _, _, _, _, _, k, rfl, eV.trans hU, g⟩⟩
      · cases hds
    · rintro ρ V (⟨a, b, rfl, eV, hds | hds⟩ | ⟨_, a, c, d, e, f, g, k, rfl, eV, gk⟩)
      · cases hds
      · cases hds
      · rw [sq_nx]
        unfold Es2
        rw [wps_ret, wp_var]
        simp only [entry, wp_call, wp_cons, wp_nil, wp_var, wp_c, wp_ok, List.map_cons, List.map_nil, List.cons_append, List.nil_append, List.getElem?_cons_zero, List.getElem?_cons_succ, List.length_cons, List.length_nil, if_true, rn_ret]
        exact ⟨k, rfl, e1.trans eV, gk⟩
  obtain ⟨d, U, e, k, rfl, hU, g⟩ := key.out
  exact ⟨U, k, hU, e, g⟩
/-! ### undone -/
def t0 : D := .tup [.tup [.tup [.int 0, .int 1]]]
def Ns0 : Fst := (sSet 1 (dN nLen (aCons (dVar 0) aNil)))
def Ns1 : Fst := (sSet 2 (dCall F_echelon_in 1 (aCons (dLc (iZp (aCons (dVar 0) (aCons (dCall F_idle_in 1 (aCons (dVar 1) aNil)) aNil))) (.tp (.cons (.nm 3) (.cons (.nm 4) .nil))) fYes (mkTup (aStar (dVar 3) (aStar (dVar 4) aNil))) [3, 4]) aNil)))
def Ns2 : Fst := (sIf (fB (d2 dNe (dCall F_leads_of 1 (aCons (dVar 2) aNil)) (dListR (dVar 1)))) (sRet (dC .non)) sNil)
def Ns3 : Fst := (sRet (dN nTuple (aCons (dLc (iD (dVar 2)) (.nm 3) fYes (dSlice (dVar 3) (oSome (dVar 1)) oNone) [3]) aNil)))
theorem Nb_eq : b_undone_in = sSeq Ns0 (sSeq Ns1 (sSeq Ns2 Ns3)) := rfl
theorem undone0 (S : Sto) : ∃ U, Ex S U ∧ F_undone_in [t0] S = .ok .non U := by
  have key : Wp (F_undone_in [t0] S) fun d U => d = .non ∧ Ex S U := by
    unfold F_undone_in
    rw [Nb_eq, wp_run, wps_seq]
    unfold Ns0
    have l1 : nLen [t0] S = .ok (.int 1) S := rfl
    rw [wps_set, wp_dN]
    simp only [entry, wp_call, wp_cons, wp_nil, wp_var, wp_c, wp_ok, List.map_cons, List.map_nil, List.cons_append, List.nil_append, List.getElem?_cons_zero, List.getElem?_cons_succ, List.length_cons, List.length_nil, if_true, l1, List.replicate, Nat.reduceAdd, Nat.reduceSub, List.set_cons_succ, List.set_cons_zero]
    rw [sq_nx, wps_seq]
    unfold Ns1
    rw [wps_set, wp_call]
    obtain ⟨d, U, e, rfl, hU⟩ := idle_in_eq (n := 1) (S := S) (by decide)
    have e1 : encT (idT 1) = .tup [.tup [o1]] := by kernel_rfl
    rw [e1] at e
    have ez : iZp (aCons (dVar 0) (aCons (dCall F_idle_in 1 (aCons (dVar 1) aNil)) aNil)) [some t0, some (.int 1), none, none, none] S = .ok ⟨[.tup [.tup [.tup [.int 0, .int 1]], .tup [o1]]], []⟩ U := by
      have ea : aCons (dVar 0) (aCons (dCall F_idle_in 1 (aCons (dVar 1) aNil)) aNil) [some t0, some (.int 1), none, none, none] S = .ok [t0, .tup [.tup [o1]]] U := by
        show Rs.bind (Rs.bind (F_idle_in [.int 1] S) (fun d S1 => Rs.ok [d] S1)) (fun ds S2 => (Rs.ok (t0 :: ds) S2 : Rs (List D))) = _
        have e' : F_idle_in [.int 1] S = .ok (.tup [.tup [o1]]) U := e
        rw [e']
        rfl
      unfold iZp
      rw [ea]
      rfl
    have el := dlc_one (t := .tp (.cons (.nm 3) (.cons (.nm 4) .nil))) (e := mkTup (aStar (dVar 3) (aStar (dVar 4) aNil))) (vs := [3, 4]) (y := rw01) ez rfl (by kernel_rfl) rfl
    simp only [entry, wp_call, wp_cons, wp_nil, wp_var, wp_c, wp_ok, List.map_cons, List.map_nil, List.cons_append, List.nil_append, List.getElem?_cons_zero, List.getElem?_cons_succ, List.length_cons, List.length_nil, if_true, el]
    obtain ⟨V, k, hV, e2, g2⟩ := ech01 (n := U.length) (S := U ++ [SO.lst [rw01]]) get_new
    simp only [e2, wp_ok, List.set_cons_succ, List.set_cons_zero]
    rw [sq_nx, wps_seq]
    unfold Ns2
    obtain ⟨X, hX, e3⟩ := undone_leads (A := some t0) (B := none) (C := none) g2
    rw [wps_if, wp_fB, e3]
    simp only [wp_ok]
    rw [if_pos trivial, wps_ret, wp_c]
    exact ⟨rfl, hU.trans ((Ex.refl.app _).trans (hV.trans hX))⟩
  obtain ⟨d, U, e, rfl, hU⟩ := key.out
  exact ⟨U, hU, e⟩
theorem th_undone {T : Sto} : Rz (F_table_undone [.tup [.tup [.int 0]]] T) T ⟨4, some ("reason", .tup [.str "determinant"])⟩ := by
  obtain ⟨U, hU, e1⟩ := reqT_good (T := T) (d := .tup [.tup [.int 0]]) (jt_clo rfl) (by decide +kernel)
  have e2 : F_require_square [.tup [.tup [.int 0]]] U = .ok .non U := rfl
  obtain ⟨V, hV, e3⟩ : ∃ V, Ex U V ∧ F_table_told [.tup [.tup [.int 0]]] U = .ok t0 V := by
    obtain ⟨d, V, e, rfl, hV⟩ := (table_told_ok (t := [[.i 0]]) (S := U) (Q := fun d V => d = encT (qT [[.i 0]]) ∧ Ex U V) (by decide) (by decide) fun V hV => ⟨rfl, hV⟩).out
    have e' : encT (qT [[.i 0]]) = t0 := by kernel_rfl
    rw [e'] at e
    exact ⟨V, hV, e⟩
  obtain ⟨W, hW, e4⟩ := undone0 V
  refine ⟨W, hU.trans (hV.trans hW), ?_⟩
  have dd : c_DETERMINANT = .str "determinant" := rfl
  unfold F_table_undone b_table_undone runF sSeq sExpr
  simp [entry, dCall, aCons, aNil, dVar, e1, e2, e3, e4, Rs.bind, thenS, sSeq, sExpr, sSet, sIf, fB, dIsN, isNonD, asB, sRaise1, mkTup, dC, dd, sizeLine]
end K07
set_option Elab.async false
set_option linter.all false
set_option maxRecDepth 100000
set_option maxHeartbeats 4000000
namespace K07
open PySem MP
/-! ### the end -/
theorem of_wp {α : Type} {r : Rs α} {T : Sto} (h : Wp r fun _ U => Ex T U) : ∃ d U, Ex T U ∧ r = .ok d U := by
  obtain ⟨d, U, e, hU⟩ := h.out
  exact ⟨d, U, hU, e⟩
theorem sz_one : Sz 1 (1 : Rat) := ⟨by decide +kernel, by decide +kernel⟩
def n7 : Num := .f ⟨10 ^ 40 * 10 ^ 40, 7, by decide, by decide +kernel⟩
def n1 : Num := .f ⟨10 ^ 40 * 10 ^ 40, 1, by decide, by decide +kernel⟩
theorem sh11 (x : Num) : Sh 1 1 [[x]] := ⟨rfl, fun l hl => by
  obtain rfl : l = [x] := by simpa using hl
  rfl, by decide, by decide, by decide, by decide⟩
theorem ts11 {k : Nat} {x : Num} (h : Sz k x.q) : TS k (qT [[x]]) := fun r hr y hy => by
  obtain rfl : r = [x.q] := by simpa [qT, qR] using hr
  obtain rfl : y = x.q := by simpa using hy
  exact h
theorem f2 (T : Sto) : ∃ d U, Ex T U ∧ F_idle_table [.int 40] T = .ok d U := by
  obtain ⟨d, U, e, _, hU⟩ := idle_table_eq (n := 40) (S := T) (by decide) (by decide)
  exact ⟨d, U, hU, e⟩
theorem f3 (T : Sto) : ∃ d U, Ex T U ∧ F_table_scaled [.tup [.tup [.int 1]], .tup [.int (10 ^ 40 * 10 ^ 40), .int 7]] T = .ok d U := by
  have z : Sz 4 n7.q := ⟨by decide +kernel, by decide +kernel⟩
  exact of_wp (table_scaled_ok (ts := [[.i 1]]) (x := n7) (k := 1) (l := 4) (by decide +kernel) (by decide +kernel) (sh11 _) (ts11 sz_one) z (by decide) fun U hU => hU)
theorem f5 (T : Sto) : ∃ d U, Ex T U ∧ F_table_sum [.tup [.tup [.tup [.int (10 ^ 40 * 10 ^ 40), .int 1]]], .tup [.tup [.int 1]]] T = .ok d U := by
  have z : Sz 4 n1.q := ⟨by decide +kernel, by decide +kernel⟩
  exact of_wp (table_sum_ok (ts := [[n1]]) (us := [[.i 1]]) (k := 4) (l := 1) (by decide +kernel) (by decide +kernel) (sh11 _) (sh11 _) (ts11 z) (ts11 sz_one) (by decide) (by decide) (by decide) fun U hU => hU)
def u40 : D := .tup (List.replicate 40 (.tup [.int 1]))
def v40 : D := .tup [.tup (List.replicate 40 (.int 1))]
theorem f4 (T : Sto) : ∃ d U, Ex T U ∧ F_table_product [u40, v40] T = .ok d U := by
  have hu : numT (List.replicate 40 [.i 1]) = u40 := by kernel_rfl
  have hv : numT [List.replicate 40 (.i 1)] = v40 := by kernel_rfl
  have bu : tableB u40 = true := by decide +kernel
  have bv : tableB v40 = true := by decide +kernel
  have su : Sh 40 1 (List.replicate 40 [Num.i 1]) := ⟨rfl, fun l hl => by rw [(List.mem_replicate.mp hl).2]; rfl, by decide, by decide, by decide, by decide⟩
  have sv : Sh 1 40 [List.replicate 40 (Num.i 1)] := ⟨rfl, fun l hl => by
    obtain rfl : l = List.replicate 40 (Num.i 1) := List.mem_singleton.mp hl
    rfl, by decide, by decide, by decide, by decide⟩
  have tu : TS 1 (qT (List.replicate 40 [Num.i 1])) := fun r hr y hy => by
    obtain ⟨l, hl, rfl⟩ := List.mem_map.mp hr
    rw [(List.mem_replicate.mp hl).2] at hy
    obtain rfl : y = (Num.i 1).q := by simpa [qR] using hy
    exact sz_one
  have tv : TS 1 (qT [List.replicate 40 (Num.i 1)]) := fun r hr y hy => by
    obtain ⟨l, hl, rfl⟩ := List.mem_map.mp hr
    obtain rfl : l = List.replicate 40 (Num.i 1) := List.mem_singleton.mp hl
    obtain ⟨x, hx, rfl⟩ := List.mem_map.mp hy
    rw [(List.mem_replicate.mp hx).2]
    exact sz_one
  rw [← hu] at bu
  rw [← hv] at bv
  have h := of_wp (table_product_ok (S := T) (Q := fun _ U => Ex T U) (k := 1) (l := 1) bu bv su sv tu tv (by decide) (by decide) (by decide) (by decide) fun U hU => hU)
  rw [hu, hv] at h
  exact h
theorem f6 (T : Sto) : Rz (F_table_sum [.tup [.tup [.int (10 ^ 40 * 10 ^ 40)]], .tup [.tup [.int 1]]] T) T ⟨1, none⟩ := by
  obtain ⟨U, hU, e⟩ := reqTs1 (T := T) (a := .tup [.tup [.int (10 ^ 40 * 10 ^ 40)]]) (b := .tup [.tup [.int 1]]) (jt_clo rfl) (by decide +kernel)
  exact ⟨U, hU, (tab_exc2 (c := 7) (.inl rfl) rfl e).2⟩
theorem app_d {m : Nat} {l : List D} {fe : Fe} {ρ : Rho} {T : Sto} {d : D} {Q : Fl → Sto → Prop} (hl : T[m]? = some (.lst l)) (hz : l.length ≤ 100) (h2 : ρ[2]? = some (some (.ref m))) (h : Lm fe ρ T d) (hq : ∀ V : Sto, V[m]? = some (.lst (l ++ [d])) → Q (.nx ρ) V) :
    WpS (sExpr (dML mAppend (dVar 2) (aCons (dLam met__law_met fe) aNil)) ρ T) Q := by
  obtain ⟨U, hU, e⟩ := h
  rw [wps_expr, wp_ml, wp_var]
  simp only [h2, isLst_ref hl, if_true, wp_cons, wp_nil, e, wp_ok]
  unfold mAppend
  have z : l.length < sizeLine := Nat.lt_of_le_of_lt hz (by decide)
  simp only [hU.get hl, z, if_true, wp_ok]
  exact hq _ (set_get (hU.get hl))
theorem eq_same {S : Sto} {i j : Nat} {l : List D} {ps : List PyData} (hi : S[i]? = some (.lst l)) (hj : S[j]? = some (.lst l)) (h : toPyL (toPy 59 S) l = some ps) (hs : SeqAt.shaped (.list ps) = true) (he : PyData.eqv (.list ps) (.list ps) = true) : dEq (.ref i) (.ref j) S = .ok (.bl true) S := by
  have k : ∀ n : Nat, S[n]? = some (.lst l) → toPy 60 S (.ref n) = some (.list ps) := fun n hn => by
    show (match S[n]? with
      | some (.lst ds) => (toPyL (toPy 59 S) ds).map PyData.list
      | _ => none) = _
    rw [hn]
    show (toPyL (toPy 59 S) l).map PyData.list = _
    rw [h]
    rfl
  show (match toPy 60 S (.ref i), toPy 60 S (.ref j) with
    | some a, some b => if SeqAt.shaped a && SeqAt.shaped b then (Rs.ok (.bl (if false then !PyData.eqv a b else PyData.eqv a b)) S : Rs D) else .stuck
    | _, _ => .stuck) = _
  rw [k i hi, k j hj]
  show (if SeqAt.shaped (.list ps) && SeqAt.shaped (.list ps) then (Rs.ok (.bl (PyData.eqv (.list ps) (.list ps))) S : Rs D) else .stuck) = _
  rw [hs, he]
  rfl
def Ls0 : Fst := (sFor (iR1 (aCons (dN nMax2 (aCons (dC (.int 1)) (aCons (dN nMin2 (aCons (dC (.int 4)) (aCons (dN nLen (aCons (dVar 0) aNil)) aNil))) aNil))) aNil)) (.nm 1) (sIf (fNot (fTru (dCall F__law_right 1 (aCons (dCall F__law_dice 2 (aCons (dVar 0) (aCons (dVar 1) aNil))) aNil)))) (sRet (dC (.bl false))) sNil))
def Ls1 : Fst := (sSet 2 (mkLst (aCons (dLam met__law_met (dCall F_table_undone 1 (aCons (mkTup (aCons (mkTup (aCons (dC (.int 0)) aNil)) aNil)) aNil))) aNil)))
def Ls2 : Fst := (sExpr (dML mAppend (dVar 2) (aCons (dLam met__law_met (dCall F_idle_table 1 (aCons (dC (.int 40)) aNil))) aNil)))
def Ls3 : Fst := (sExpr (dML mAppend (dVar 2) (aCons (dLam met__law_met (dCall F_table_scaled 2 (aCons (mkTup (aCons (mkTup (aCons (dC (.int 1)) aNil)) aNil)) (aCons (mkTup (aCons (d2 dMul (d2 dPow (dC (.int 10)) (dC (.int 40))) (d2 dPow (dC (.int 10)) (dC (.int 40)))) (aCons (dC (.int 7)) aNil))) aNil)))) aNil)))
def Ls4 : Fst := (sExpr (dML mAppend (dVar 2) (aCons (dLam met__law_met (dCall F_table_product 2 (aCons (d2 dMul (mkTup (aCons (mkTup (aCons (dC (.int 1)) aNil)) aNil)) (dC (.int 40))) (aCons (mkTup (aCons (d2 dMul (mkTup (aCons (dC (.int 1)) aNil)) (dC (.int 40))) aNil)) aNil)))) aNil)))
def Ls5 : Fst := (sExpr (dML mAppend (dVar 2) (aCons (dLam met__law_met (dCall F_table_sum 2 (aCons (mkTup (aCons (mkTup (aCons (mkTup (aCons (d2 dMul (d2 dPow (dC (.int 10)) (dC (.int 40))) (d2 dPow (dC (.int 10)) (dC (.int 40)))) (aCons (dC (.int 1)) aNil))) aNil)) aNil)) (aCons (mkTup (aCons (mkTup (aCons (dC (.int 1)) aNil)) aNil)) aNil)))) aNil)))
def Ls6 : Fst := (sExpr (dML mAppend (dVar 2) (aCons (dLam met__law_met (dCall F_table_sum 2 (aCons (mkTup (aCons (mkTup (aCons (d2 dMul (d2 dPow (dC (.int 10)) (dC (.int 40))) (d2 dPow (dC (.int 10)) (dC (.int 40)))) aNil)) aNil)) (aCons (mkTup (aCons (mkTup (aCons (dC (.int 1)) aNil)) aNil)) aNil)))) aNil)))
def Ls7 : Fst := (sRet (d2 dEq (dVar 2) (mkLst (aCons (mkTup (aCons (dC (.str "refused")) (aCons (mkTup (aCons (dC (.str "determinant")) aNil)) aNil))) (aCons (dC (.str "fine")) (aCons (dC (.str "fine")) (aCons (dC (.str "fine")) (aCons (dC (.str "fine")) (aCons (mkTup (aCons (dC (.str "refused")) (aCons (dC (.str "table")) aNil))) aNil)))))))))
def Lr7 : Fst := Ls7
def Lr6 : Fst := sSeq Ls6 Lr7
def Lr5 : Fst := sSeq Ls5 Lr6
def Lr4 : Fst := sSeq Ls4 Lr5
def Lr3 : Fst := sSeq Ls3 Lr4
def Lr2 : Fst := sSeq Ls2 Lr3
def Lr1 : Fst := sSeq Ls1 Lr2
def Lr0 : Fst := sSeq Ls0 Lr1
theorem Lb_eq : b_law = Lr0 := rfl
def fin6 : List D := [.tup [.str "refused", .tup [.str "determinant"]], .str "fine", .str "fine", .str "fine", .str "fine", .tup [.str "refused", .str "table"]]
theorem fin_eq {ρ : Rho} {T : Sto} : mkLst (aCons (mkTup (aCons (dC (.str "refused")) (aCons (mkTup (aCons (dC (.str "determinant")) aNil)) aNil))) (aCons (dC (.str "fine")) (aCons (dC (.str "fine")) (aCons (dC (.str "fine")) (aCons (dC (.str "fine")) (aCons (mkTup (aCons (dC (.str "refused")) (aCons (dC (.str "table")) aNil))) aNil)))))) ρ T = .ok (.ref T.length) (T ++ [SO.lst fin6]) := by kernel_rfl
theorem e80 {ρ : Rho} {T : Sto} : d2 dMul (d2 dPow (dC (.int 10)) (dC (.int 40))) (d2 dPow (dC (.int 10)) (dC (.int 40))) ρ T = .ok (.int (10 ^ 40 * 10 ^ 40)) T := by
  have p40 : dPow (.int 10) (.int 40) T = .ok (.int (10 ^ 40)) T := by
    rw [dPow_int, if_pos (by decide)]
    rfl
  show Rs.bind (Rs.bind (Rs.ok (.int 10) T) fun x S1 => Rs.bind (Rs.ok (.int 40) S1) fun y S2 => dPow x y S2) (fun x S1 => Rs.bind (Rs.bind (Rs.ok (.int 10) S1) fun x S1 => Rs.bind (Rs.ok (.int 40) S1) fun y S2 => dPow x y S2) fun y S2 => dMul x y S2) = _
  show Rs.bind (dPow (.int 10) (.int 40) T) (fun x S1 => Rs.bind (dPow (.int 10) (.int 40) S1) fun y S2 => dMul x y S2) = _
  rw [p40]
  show Rs.bind (dPow (.int 10) (.int 40) T) (fun y S2 => dMul (.int (10 ^ 40)) y S2) = _
  rw [p40]
  show dMul (.int (10 ^ 40)) (.int (10 ^ 40)) T = _
  rw [dMul_int, if_pos (by decide +kernel)]
theorem tup_ok {fs : Fs} {ρ : Rho} {T : Sto} {l : List D} (h : fs ρ T = .ok l T) (hl : l.length ≤ 100) : mkTup fs ρ T = .ok (.tup l) T := by
  show Rs.bind (fs ρ T) _ = _
  rw [h]
  show (if l.length ≤ sizeLine then (Rs.ok (.tup l) T : Rs D) else .stuck) = _
  rw [if_pos (Nat.le_trans hl (by decide))]
theorem call2_ok {F : FN} {f g : Fe} {ρ : Rho} {T : Sto} {x y : D} (hf : f ρ T = .ok x T) (hg : g ρ T = .ok y T) : dCall F 2 (aCons f (aCons g aNil)) ρ T = F [x, y] T := by
  unfold dCall
  rw [ac_ok hf (ac_ok hg rfl)]
  rfl
theorem mulU (ρ : Rho) (T : Sto) : d2 dMul (mkTup (aCons (mkTup (aCons (dC (.int 1)) aNil)) aNil)) (dC (.int 40)) ρ T = .ok u40 T := by kernel_rfl
theorem mulV (ρ : Rho) (T : Sto) : mkTup (aCons (d2 dMul (mkTup (aCons (dC (.int 1)) aNil)) (dC (.int 40))) aNil) ρ T = .ok v40 T := by kernel_rfl
theorem e11 (ρ : Rho) (T : Sto) : mkTup (aCons (mkTup (aCons (dC (.int 1)) aNil)) aNil) ρ T = .ok (.tup [.tup [.int 1]]) T := by kernel_rfl
theorem e00 (ρ : Rho) (T : Sto) : mkTup (aCons (mkTup (aCons (dC (.int 0)) aNil)) aNil) ρ T = .ok (.tup [.tup [.int 0]]) T := by kernel_rfl
theorem end_ok {A B : Option D} {D2 : Option D} {T : Sto} : WpS (Lr1 [A, B, D2] T) (rn fun d _ => d = .bl true) := by
  have s1 : (1 ≤ sizeLine) = True := eq_true (by decide)
  unfold Lr1 Ls1
  have r1 : Lm (dCall F_table_undone 1 (aCons (mkTup (aCons (mkTup (aCons (dC (.int 0)) aNil)) aNil)) aNil)) [A, B, D2] T (.tup [.str "refused", .tup [.str "determinant"]]) := by
    refine lm_why ?_
    have e : dCall F_table_undone 1 (aCons (mkTup (aCons (mkTup (aCons (dC (.int 0)) aNil)) aNil)) aNil) [A, B, D2] T = F_table_undone [.tup [.tup [.int 0]]] T := by
      unfold dCall
      rw [ac_ok (e00 _ _) (l := []) rfl]
      rfl
    rw [e]
    exact th_undone
  obtain ⟨U, hU, e⟩ := r1
  rw [wps_seq, wps_set, wp_lst]
  simp only [wp_cons, wp_nil, e, wp_ok, List.length_cons, List.length_nil, Nat.zero_add, s1, if_true, List.set_cons_succ, List.set_cons_zero]
  have g1 : (U ++ [SO.lst [D.tup [.str "refused", .tup [.str "determinant"]]]])[U.length]? = some (.lst [D.tup [.str "refused", .tup [.str "determinant"]]]) := get_new
  generalize U ++ [SO.lst [D.tup [.str "refused", .tup [.str "determinant"]]]] = T1 at g1 ⊢
  generalize U.length = m at g1 ⊢
  rw [sq_nx]; unfold Lr2 Ls2; rw [wps_seq]
  refine app_d g1 (by decide) rfl (lm_fine (f2 T1)) fun T2 g2 => ?_
  rw [sq_nx]; unfold Lr3 Ls3; rw [wps_seq]
  refine app_d g2 (by decide) rfl (lm_fine (by rw [call2_ok (e11 _ _) (tup_ok (ac_ok e80 (ac_ok (d := .int 7) rfl rfl)) (by decide))]; exact f3 T2)) fun T3 g3 => ?_
  rw [sq_nx]; unfold Lr4 Ls4; rw [wps_seq]
  refine app_d g3 (by decide) rfl (lm_fine (by rw [call2_ok (mulU _ _) (mulV _ _)]; exact f4 T3)) fun T4 g4 => ?_
  rw [sq_nx]; unfold Lr5 Ls5; rw [wps_seq]
  refine app_d g4 (by decide) rfl (lm_fine (by rw [call2_ok (tup_ok (ac_ok (tup_ok (ac_ok (tup_ok (ac_ok e80 (ac_ok (d := .int 1) rfl rfl)) (by decide)) rfl) (by decide)) rfl) (by decide)) (e11 _ _)]; exact f5 T4)) fun T5 g5 => ?_
  rw [sq_nx]; unfold Lr6 Ls6; rw [wps_seq]
  refine app_d g5 (by decide) rfl (lm_tab (by rw [call2_ok (tup_ok (ac_ok (tup_ok (ac_ok e80 rfl) (by decide)) rfl) (by decide)) (e11 _ _)]; exact f6 T5)) fun T6 g6 => ?_
  rw [sq_nx]; unfold Lr7 Ls7
  rw [wps_ret, wp_d2, wp_var]
  simp only [entry, wp_call, wp_cons, wp_nil, wp_var, wp_c, wp_ok, List.map_cons, List.map_nil, List.cons_append, List.nil_append, List.getElem?_cons_zero, List.getElem?_cons_succ, List.length_cons, List.length_nil, if_true]
  rw [fin_eq, wp_ok]
  have g6' : T6[m]? = some (.lst fin6) := g6
  have e4 := eq_same (S := T6 ++ [SO.lst fin6]) (i := m) (j := T6.length) (l := fin6) (ps := [.tuple [.str "refused", .tuple [.str "determinant"]], .str "fine", .str "fine", .str "fine", .str "fine", .tuple [.str "refused", .str "table"]]) (get_app g6') get_new rfl (by decide +kernel) (by decide +kernel)
  rw [e4, wp_ok]
  rfl
theorem law_true (ns : List Int) (hns : ns.length ≤ 63) : ∃ S, F_law [law_D ns] [] = .ok (.bl true) S := by
  have key : Wp (F_law [law_D ns] []) fun d _ => d = .bl true := by
    unfold F_law
    rw [Lb_eq, wp_run]
    unfold Lr0 Ls0
    rw [wps_seq, wps_for]
    have hlen : ∀ T : Sto, nLen [law_D ns] T = .ok (.int (ns.length : Nat)) T := fun T => by
      unfold law_D
      rw [nLen_fl, List.length_map]
    simp only [entry, wp_call, wp_cons, wp_nil, wp_var, wp_c, wp_ok, List.map_cons, List.map_nil, List.cons_append, List.nil_append, List.getElem?_cons_zero, List.getElem?_cons_succ, List.length_cons, List.length_nil, if_true, wp_iR1, wp_dN, hlen, nMin_int, nMax_int, List.replicate, Nat.reduceAdd, Nat.reduceSub]
    generalize hk : (if (if (ns.length : Int) < 4 then (ns.length : Int) else 4) > 1 then (if (ns.length : Int) < 4 then (ns.length : Int) else 4) else 1) = k
    have hk1 : 0 ≤ k ∧ k ≤ 4 := by
      rw [← hk]
      split <;> split <;> omega
    rw [if_pos (by omega)]
    refine for_inv (fun ds ρ S => (∃ a b, ρ = [some (law_D ns), a, b]) ∧ ∀ d ∈ ds, ∃ i : Nat, d = .int (i : Int) ∧ i ≤ 10) (fun d ds ρ S hI => ?_) (fun ρ S hI => ?_) (ds := rngD 0 k.toNat) ⟨⟨_, _, rfl⟩, fun d hd => ?_⟩
    · obtain ⟨⟨a, b, rfl⟩, hd⟩ := hI
      obtain ⟨i, rfl, hi⟩ := hd d List.mem_cons_self
      refine ⟨_, rfl, ?_⟩
      rw [wps_if, wp_fNot, wp_fT, wp_call]
      simp only [entry, wp_call, wp_cons, wp_nil, wp_var, wp_c, wp_ok, List.map_cons, List.map_nil, List.cons_append, List.nil_append, List.getElem?_cons_zero, List.getElem?_cons_succ, List.length_cons, List.length_nil, if_true, List.set_cons_succ, List.set_cons_zero]
      refine dice_ok (by omega) fun x y => ?_
      have hD : Dice (S ++ [SO.lst [.int x, .int y, .int 0]]) S.length 0 := ⟨x, y, 0, get_new, Nat.le_refl _⟩
      generalize S ++ [SO.lst [.int x, .int y, .int 0]] = S1 at hD ⊢
      generalize S.length = nd at hD ⊢
      refine right_ok hD (by omega) fun T1 d1 => ?_
      simp only [truD_bl, wp_ok, Bool.not_true, Bool.false_eq_true, if_false, wps_nil]
      exact ⟨rfl, ⟨_, _, rfl⟩, fun e he => hd e (List.mem_cons_of_mem _ he)⟩
    · obtain ⟨⟨a, b, rfl⟩, _⟩ := hI
      rw [sq_nx]
      exact end_ok
    · unfold rngD at hd
      obtain ⟨i, hi, rfl⟩ := List.mem_map.mp hd
      exact ⟨i, by simp, by have := List.mem_range.mp hi; omega⟩
  obtain ⟨d, T, e, rfl⟩ := key.out
  exact ⟨T, e⟩
end K07
set_option Elab.async false
set_option linter.all false
set_option maxRecDepth 100000
set_option maxHeartbeats 0
namespace K07
open PySem PySem.Spec PyProof.Rows L2 MP MX LamX
def dd_is_whole : He.DefD := ⟨("is_whole", none), "is_whole", "is_whole", defArgs st_is_whole, defBody st_is_whole, defScope st_is_whole, [], []⟩
def dd_is_integer : He.DefD := ⟨("is_integer", none), "is_integer", "is_integer", defArgs st_is_integer, defBody st_is_integer, defScope st_is_integer, [], []⟩
def dd_is_within : He.DefD := ⟨("is_within", none), "is_within", "is_within", defArgs st_is_within, defBody st_is_within, defScope st_is_within, [], []⟩
def dd_is_fraction : He.DefD := ⟨("is_fraction", none), "is_fraction", "is_fraction", defArgs st_is_fraction, defBody st_is_fraction, defScope st_is_fraction, [], []⟩
def dd_is_number : He.DefD := ⟨("is_number", none), "is_number", "is_number", defArgs st_is_number, defBody st_is_number, defScope st_is_number, [], []⟩
def dd_require_within : He.DefD := ⟨("require_within", none), "require_within", "require_within", defArgs st_require_within, defBody st_require_within, defScope st_require_within, [], []⟩
def dd_require_number : He.DefD := ⟨("require_number", none), "require_number", "require_number", defArgs st_require_number, defBody st_require_number, defScope st_require_number, [], []⟩
def dd_fraction_in : He.DefD := ⟨("fraction_in", none), "fraction_in", "fraction_in", defArgs st_fraction_in, defBody st_fraction_in, defScope st_fraction_in, [], []⟩
def dd_pair_of : He.DefD := ⟨("pair_of", none), "pair_of", "pair_of", defArgs st_pair_of, defBody st_pair_of, defScope st_pair_of, [], []⟩
def dd_sum_in : He.DefD := ⟨("sum_in", none), "sum_in", "sum_in", defArgs st_sum_in, defBody st_sum_in, defScope st_sum_in, [], []⟩
def dd_less_in : He.DefD := ⟨("less_in", none), "less_in", "less_in", defArgs st_less_in, defBody st_less_in, defScope st_less_in, [], []⟩
def dd_product_in : He.DefD := ⟨("product_in", none), "product_in", "product_in", defArgs st_product_in, defBody st_product_in, defScope st_product_in, [], []⟩
def dd_quotient_in : He.DefD := ⟨("quotient_in", none), "quotient_in", "quotient_in", defArgs st_quotient_in, defBody st_quotient_in, defScope st_quotient_in, [], []⟩
def dd_total_in : He.DefD := ⟨("total_in", none), "total_in", "total_in", defArgs st_total_in, defBody st_total_in, defScope st_total_in, [], []⟩
def dd_is_row : He.DefD := ⟨("is_row", none), "is_row", "is_row", defArgs st_is_row, defBody st_is_row, defScope st_is_row, [], []⟩
def dd_is_table : He.DefD := ⟨("is_table", none), "is_table", "is_table", defArgs st_is_table, defBody st_is_table, defScope st_is_table, [], []⟩
def dd_require_table : He.DefD := ⟨("require_table", none), "require_table", "require_table", defArgs st_require_table, defBody st_require_table, defScope st_require_table, [], []⟩
def dd_require_tables : He.DefD := ⟨("require_tables", none), "require_tables", "require_tables", defArgs st_require_tables, defBody st_require_tables, defScope st_require_tables, [], []⟩
def dd_require_row : He.DefD := ⟨("require_row", none), "require_row", "require_row", defArgs st_require_row, defBody st_require_row, defScope st_require_row, [], []⟩
def dd_require_square : He.DefD := ⟨("require_square", none), "require_square", "require_square", defArgs st_require_square, defBody st_require_square, defScope st_require_square, [], []⟩
def dd_row_told : He.DefD := ⟨("row_told", none), "row_told", "row_told", defArgs st_row_told, defBody st_row_told, defScope st_row_told, [], []⟩
def dd_table_told : He.DefD := ⟨("table_told", none), "table_told", "table_told", defArgs st_table_told, defBody st_table_told, defScope st_table_told, [], []⟩
def dd_idle_in : He.DefD := ⟨("idle_in", none), "idle_in", "idle_in", defArgs st_idle_in, defBody st_idle_in, defScope st_idle_in, [], []⟩
def dd_turned_in : He.DefD := ⟨("turned_in", none), "turned_in", "turned_in", defArgs st_turned_in, defBody st_turned_in, defScope st_turned_in, [], []⟩
def dd_dot_in : He.DefD := ⟨("dot_in", none), "dot_in", "dot_in", defArgs st_dot_in, defBody st_dot_in, defScope st_dot_in, [], []⟩
def dd_table_product_in : He.DefD := ⟨("table_product_in", none), "table_product_in", "table_product_in", defArgs st_table_product_in, defBody st_table_product_in, defScope st_table_product_in, [], []⟩
def dd_row_scaled : He.DefD := ⟨("row_scaled", none), "row_scaled", "row_scaled", defArgs st_row_scaled, defBody st_row_scaled, defScope st_row_scaled, [], []⟩
def dd_row_sum : He.DefD := ⟨("row_sum", none), "row_sum", "row_sum", defArgs st_row_sum, defBody st_row_sum, defScope st_row_sum, [], []⟩
def dd_row_cleared : He.DefD := ⟨("row_cleared", none), "row_cleared", "row_cleared", defArgs st_row_cleared, defBody st_row_cleared, defScope st_row_cleared, [], []⟩
def dd_first_at : He.DefD := ⟨("first_at", none), "first_at", "first_at", defArgs st_first_at, defBody st_first_at, defScope st_first_at, [], []⟩
def dd_echelon_in : He.DefD := ⟨("echelon_in", none), "echelon_in", "echelon_in", defArgs st_echelon_in, defBody st_echelon_in, defScope st_echelon_in, [], []⟩
def dd_leads_of : He.DefD := ⟨("leads_of", none), "leads_of", "leads_of", defArgs st_leads_of, defBody st_leads_of, defScope st_leads_of, [], []⟩
def dd_free_row : He.DefD := ⟨("free_row", none), "free_row", "free_row", defArgs st_free_row, defBody st_free_row, defScope st_free_row, [], []⟩
def dd_kernel_in : He.DefD := ⟨("kernel_in", none), "kernel_in", "kernel_in", defArgs st_kernel_in, defBody st_kernel_in, defScope st_kernel_in, [], []⟩
def dd_determinant_in : He.DefD := ⟨("determinant_in", none), "determinant_in", "determinant_in", defArgs st_determinant_in, defBody st_determinant_in, defScope st_determinant_in, [], []⟩
def dd_undone_in : He.DefD := ⟨("undone_in", none), "undone_in", "undone_in", defArgs st_undone_in, defBody st_undone_in, defScope st_undone_in, [], []⟩
def dd_solved_in : He.DefD := ⟨("solved_in", none), "solved_in", "solved_in", defArgs st_solved_in, defBody st_solved_in, defScope st_solved_in, [], []⟩
def dd_idle_table : He.DefD := ⟨("idle_table", none), "idle_table", "idle_table", defArgs st_idle_table, defBody st_idle_table, defScope st_idle_table, [], []⟩
def dd_table_turned : He.DefD := ⟨("table_turned", none), "table_turned", "table_turned", defArgs st_table_turned, defBody st_table_turned, defScope st_table_turned, [], []⟩
def dd_table_sum : He.DefD := ⟨("table_sum", none), "table_sum", "table_sum", defArgs st_table_sum, defBody st_table_sum, defScope st_table_sum, [], []⟩
def dd_table_scaled : He.DefD := ⟨("table_scaled", none), "table_scaled", "table_scaled", defArgs st_table_scaled, defBody st_table_scaled, defScope st_table_scaled, [], []⟩
def dd_table_product : He.DefD := ⟨("table_product", none), "table_product", "table_product", defArgs st_table_product, defBody st_table_product, defScope st_table_product, [], []⟩
def dd_row_times : He.DefD := ⟨("row_times", none), "row_times", "row_times", defArgs st_row_times, defBody st_row_times, defScope st_row_times, [], []⟩
def dd_table_trace : He.DefD := ⟨("table_trace", none), "table_trace", "table_trace", defArgs st_table_trace, defBody st_table_trace, defScope st_table_trace, [], []⟩
def dd_determinant : He.DefD := ⟨("determinant", none), "determinant", "determinant", defArgs st_determinant, defBody st_determinant, defScope st_determinant, [], []⟩
def dd_table_undone : He.DefD := ⟨("table_undone", none), "table_undone", "table_undone", defArgs st_table_undone, defBody st_table_undone, defScope st_table_undone, [], []⟩
def dd_table_rank : He.DefD := ⟨("table_rank", none), "table_rank", "table_rank", defArgs st_table_rank, defBody st_table_rank, defScope st_table_rank, [], []⟩
def dd_table_echelon : He.DefD := ⟨("table_echelon", none), "table_echelon", "table_echelon", defArgs st_table_echelon, defBody st_table_echelon, defScope st_table_echelon, [], []⟩
def dd_table_kernel : He.DefD := ⟨("table_kernel", none), "table_kernel", "table_kernel", defArgs st_table_kernel, defBody st_table_kernel, defScope st_table_kernel, [], []⟩
def dd_table_solved : He.DefD := ⟨("table_solved", none), "table_solved", "table_solved", defArgs st_table_solved, defBody st_table_solved, defScope st_table_solved, [], []⟩
def dd__law_dice : He.DefD := ⟨("_law_dice", none), "_law_dice", "_law_dice", defArgs st__law_dice, defBody st__law_dice, defScope st__law_dice, [], []⟩
def dd__law_roll : He.DefD := ⟨("_law_roll", none), "_law_roll", "_law_roll", defArgs st__law_roll, defBody st__law_roll, defScope st__law_roll, [], []⟩
def dd__law_pick : He.DefD := ⟨("_law_pick", none), "_law_pick", "_law_pick", defArgs st__law_pick, defBody st__law_pick, defScope st__law_pick, [], []⟩
def dd__law_met : He.DefD := ⟨("_law_met", none), "_law_met", "_law_met", defArgs st__law_met, defBody st__law_met, defScope st__law_met, [], []⟩
def dd__law_right : He.DefD := ⟨("_law_right", none), "_law_right", "_law_right", defArgs st__law_right, defBody st__law_right, defScope st__law_right, [], []⟩
def dd_law : He.DefD := ⟨("law", none), "law", "law", defArgs st_law, defBody st_law, defScope st_law, [], []⟩
def fn0 : List He.DefD := [dd_is_whole, dd_is_integer, dd_is_within, dd_is_fraction, dd_is_number, dd_require_within, dd_require_number, dd_fraction_in, dd_pair_of, dd_sum_in, dd_less_in, dd_product_in, dd_quotient_in, dd_total_in, dd_is_row, dd_is_table, dd_require_table, dd_require_tables, dd_require_row, dd_require_square]
def fn1 : List He.DefD := [dd_row_told, dd_table_told, dd_idle_in, dd_turned_in, dd_dot_in, dd_table_product_in, dd_row_scaled, dd_row_sum, dd_row_cleared, dd_first_at, dd_echelon_in, dd_leads_of, dd_free_row, dd_kernel_in, dd_determinant_in, dd_undone_in, dd_solved_in, dd_idle_table, dd_table_turned, dd_table_sum]
def fn2 : List He.DefD := [dd_table_scaled, dd_table_product, dd_row_times, dd_table_trace, dd_determinant, dd_table_undone, dd_table_rank, dd_table_echelon, dd_table_kernel, dd_table_solved, dd__law_dice, dd__law_roll, dd__law_pick, dd__law_met, dd__law_right, dd_law]
def fn : List He.DefD := fn0 ++ fn1 ++ fn2
def tf : List He.Defn := [("first_at", none), ("leads_of", none), ("_law_right", none), ("law", none)]
def tf2 : List (He.Defn × Str) := [(("first_at", none), genQ "first_at"), (("leads_of", none), genQ "leads_of"), (("_law_right", none), lamQ "_law_right"), (("law", none), lamQ "law")]
def fnvN : List Str := ["table_turned", "table_trace", "determinant", "table_undone", "table_rank", "table_echelon", "table_kernel", "table_sum", "table_product"]
def clsN : List Str := ["ThirdError", "InvalidTable", "InvalidOperation", "InvalidNumber", "Refused"]
def MM (K : PySem.W.Frag) : Md := ⟨K, fun i => He.ga K (fnvN.getD i ""), fun i => He.ga K (clsN.getD i ""), tsOf2 K tf2, csOf K (tf2.map (·.1))⟩
def fa0 : List He.Fa := [.glo "is_whole", .glo "is_integer", .glo "is_within", .glo "is_fraction", .glo "is_number", .glo "require_within", .glo "require_number", .glo "fraction_in", .glo "pair_of", .glo "sum_in", .glo "less_in", .glo "product_in", .glo "quotient_in", .glo "total_in", .glo "is_row", .glo "is_table", .glo "require_table", .glo "require_tables", .glo "require_row", .glo "require_square", .glo "row_told", .glo "table_told", .glo "idle_in", .glo "turned_in", .glo "dot_in", .glo "table_product_in", .glo "row_scaled", .glo "row_sum", .glo "row_cleared", .glo "first_at"]
def fa1 : List He.Fa := [.glo "echelon_in", .glo "leads_of", .glo "free_row", .glo "kernel_in", .glo "determinant_in", .glo "undone_in", .glo "solved_in", .glo "idle_table", .glo "table_turned", .glo "table_sum", .glo "table_scaled", .glo "table_product", .glo "row_times", .glo "table_trace", .glo "determinant", .glo "table_undone", .glo "table_rank", .glo "table_echelon", .glo "table_kernel", .glo "table_solved", .glo "_law_dice", .glo "_law_roll", .glo "_law_pick", .glo "_law_met", .glo "_law_right", .glo "law", .glo "ThirdError", .glo "InvalidTable", .glo "InvalidOperation", .glo "InvalidNumber"]
def fa2 : List He.Fa := [.glo "Refused", .free "abs", .free "all", .free "bool", .free "enumerate", .free "int", .free "isinstance", .free "len", .free "list", .free "max", .free "min", .free "next", .free "range", .free "repr", .free "tuple", .free "zip"]
def fa : List He.Fa := fa0 ++ fa1 ++ fa2
abbrev cst_InvalidNumber : Stmt := top 5
theorem init_InvalidNumber : InitSh "given" (defArgs (cinit cst_InvalidNumber)) (defBody (cinit cst_InvalidNumber)) (defScope (cinit cst_InvalidNumber)) "InvalidNumber.__init__" "self" "given" "a number within the told bounds is expected" := ⟨⟨_, _, _, _, _, _, _, _, _, _, _, rfl, by decide +kernel, rfl, rfl, rfl, rfl, rfl, rfl, rfl, ⟨_, rfl, rfl⟩, ⟨_, fun env => rfl⟩⟩, fun _ _ _ _ _ _ _ _ => rfl, by decide, by decide, by decide⟩
abbrev cst_Refused : Stmt := top 6
theorem init_Refused : InitSh "reason" (defArgs (cinit cst_Refused)) (defBody (cinit cst_Refused)) (defScope (cinit cst_Refused)) "Refused.__init__" "self" "reason" "something is refused" := ⟨⟨_, _, _, _, _, _, _, _, _, _, _, rfl, by decide +kernel, rfl, rfl, rfl, rfl, rfl, rfl, rfl, ⟨_, rfl, rfl⟩, ⟨_, fun env => rfl⟩⟩, fun _ _ _ _ _ _ _ _ => rfl, by decide, by decide, by decide⟩
def ins : List Str := ["InvalidNumber", "Refused"]
def insV : List InW := [some ("__init__", "InvalidNumber.__init__", defArgs (cinit cst_InvalidNumber), .stmts (defBody (cinit cst_InvalidNumber)), defScope (cinit cst_InvalidNumber), mainGlobals, builtinsNs), some ("__init__", "Refused.__init__", defArgs (cinit cst_Refused), .stmts (defBody (cinit cst_Refused)), defScope (cinit cst_Refused), mainGlobals, builtinsNs)]
def exL (K : PySem.W.Frag) : List Bool := [konB K "BOUND" c_BOUND,
  konB K "DETERMINANT" c_DETERMINANT,
  konB K "MAX_SIDE" c_MAX_SIDE,
  konB K "ONE" c_ONE,
  konB K "ZERO" c_ZERO,
  bltB K "gcd" "math.gcd",
  k0B K "InvalidTable" [.type "ValueError", .type "Exception", .type "BaseException", .type "object"] "ValueError.__new__",
  k0B K "InvalidOperation" [.type "ValueError", .type "Exception", .type "BaseException", .type "object"] "ValueError.__new__",
  k1B K "InvalidNumber" "given" "IndexError" "IndexError.__new__" "IndexError.__init__" [.type "IndexError", .type "LookupError", .type "Exception", .type "BaseException", .type "object"] PySem.Challenge.pw_thirdcounts_k07_errors_of_tables.main.file "InvalidNumber.__init__",
  k1B K "Refused" "reason" "ArithmeticError" "ArithmeticError.__new__" "ArithmeticError.__init__" [.type "ArithmeticError", .type "Exception", .type "BaseException", .type "object"] PySem.Challenge.pw_thirdcounts_k07_errors_of_tables.main.file "Refused.__init__",
  kfB K "Refused" "reason",
  kfB K "InvalidNumber" "given",
  kxB K (fun i => He.ga K (clsN.getD i "")) 5 subX,
  uqB2 K tf2]
def exB (K : PySem.W.Frag) : Bool := (exL K).all id
def loose0 : List Str := ["ThirdError", "InvalidTable", "InvalidOperation", "InvalidNumber", "Refused", "BOUND", "is_whole", "is_integer", "is_within", "is_fraction", "is_number", "require_within", "require_number", "fraction_in", "pair_of", "sum_in", "less_in", "product_in", "quotient_in", "total_in", "MAX_SIDE", "ZERO", "ONE", "DETERMINANT", "is_row", "is_table", "require_table", "require_tables", "require_row", "require_square"]
def loose1 : List Str := ["row_told", "table_told", "idle_in", "turned_in", "dot_in", "table_product_in", "row_scaled", "row_sum", "row_cleared", "first_at", "echelon_in", "leads_of", "free_row", "kernel_in", "determinant_in", "undone_in", "solved_in", "idle_table", "table_turned", "table_sum", "table_scaled", "table_product", "row_times", "table_trace", "determinant", "table_undone", "table_rank", "table_echelon", "table_kernel", "table_solved"]
def loose2 : List Str := ["_law_dice", "_law_roll", "_law_pick", "_law_met", "_law_right"]
def loose : List Str := loose0 ++ loose1 ++ loose2
abbrev R : PySem.W.OpenRow := PySem.W.OpenLaw.row PySem.Challenge.rw_thirdcounts_k07_errors_of_tables
abbrev hk : PySem.W.Hook := hookY 4 fa fn tf exB ins insV
def ob (s : PySem.W.SharedT) : AlY := obsY 4 fa fn tf exB ins (HandSHeadRun.getT s)
theorem ob_eq (s : PySem.W.SharedT) : ob s = hk.obs s.abs := obsY_eq (HandSHeadRun.getT_eq s)
theorem run (w : World) : HandSHeadRun.RunEqI R (PySem.W.view R.prog [0, 70]) hk ob 4000 loose w := by
  unfold HandSHeadRun.RunEqI
  kernel_rfl
theorem mo_of {w : World} {K : PySem.W.Frag} {h : Heap} {mg : Str → Option Value} (KX : K.In h) (G : h.Ns mainGlobals mg) (c : SaysY fa fn tf exB ins insV w h K) : Mo PySem.Challenge.pw_thirdcounts_k07_errors_of_tables mg (MM K) := by
  have cd := c.x.t.d
  have ex : ∀ i, (h : i < (exL K).length) → (exL K)[i] = true := fun i h => List.all_eq_true.mp c.x.more _ (List.getElem_mem h)
  have uq : uqB2 K tf2 = true := ex 13 (show 13 < 14 by decide)
  refine {
    f_abs := He.free_ok KX G (cd.fact 61 rfl)
    f_all := He.free_ok KX G (cd.fact 62 rfl)
    f_bool := He.free_ok KX G (cd.fact 63 rfl)
    f_enumerate := He.free_ok KX G (cd.fact 64 rfl)
    f_int := He.free_ok KX G (cd.fact 65 rfl)
    f_isinstance := He.free_ok KX G (cd.fact 66 rfl)
    f_len := He.free_ok KX G (cd.fact 67 rfl)
    f_list := He.free_ok KX G (cd.fact 68 rfl)
    f_max := He.free_ok KX G (cd.fact 69 rfl)
    f_min := He.free_ok KX G (cd.fact 70 rfl)
    f_next := He.free_ok KX G (cd.fact 71 rfl)
    f_range := He.free_ok KX G (cd.fact 72 rfl)
    f_repr := He.free_ok KX G (cd.fact 73 rfl)
    f_tuple := He.free_ok KX G (cd.fact 74 rfl)
    f_zip := He.free_ok KX G (cd.fact 75 rfl)
    g_BOUND := konB_ok KX G (ex 0 (show 0 < 14 by decide))
    g_DETERMINANT := konB_ok KX G (ex 1 (show 1 < 14 by decide))
    g_MAX_SIDE := konB_ok KX G (ex 2 (show 2 < 14 by decide))
    g_ONE := konB_ok KX G (ex 3 (show 3 < 14 by decide))
    g_ZERO := konB_ok KX G (ex 4 (show 4 < 14 by decide))
    g_gcd := bltB_ok KX G (ex 5 (show 5 < 14 by decide))
    k_InvalidTable := k0B_ok KX G PySem.F.excBase_ValueError rfl (ex 6 (show 6 < 14 by decide))
    k_InvalidOperation := k0B_ok KX G PySem.F.excBase_ValueError rfl (ex 7 (show 7 < 14 by decide))
    k_InvalidNumber := k1B_ok KX G sup_IndexError rfl (ex 8 (show 8 < 14 by decide)) (congrArg (fun z : List InW => z.getD 0 none) c.ini) init_InvalidNumber (by kernel_rfl)
    k_Refused := k1B_ok KX G sup_ArithmeticError rfl (ex 9 (show 9 < 14 by decide)) (congrArg (fun z : List InW => z.getD 1 none) c.ini) init_Refused (by kernel_rfl)
    kf_Refused := kfB_ok rfl (ex 10 (show 10 < 14 by decide))
    kf_InvalidNumber := kfB_ok rfl (ex 11 (show 11 < 14 by decide))
    kx := kxB_ok (ex 12 (show 12 < 14 by decide))
    c_Refused := He.glo_ok KX G (x := "Refused") (cd.fact 60 rfl)
    c_InvalidNumber := He.glo_ok KX G (x := "InvalidNumber") (cd.fact 59 rfl)
    c_InvalidOperation := He.glo_ok KX G (x := "InvalidOperation") (cd.fact 58 rfl)
    c_InvalidTable := He.glo_ok KX G (x := "InvalidTable") (cd.fact 57 rfl)
    v_table_kernel := He.glo_ok KX G (x := "table_kernel") (cd.fact 48 rfl)
    v_table_echelon := He.glo_ok KX G (x := "table_echelon") (cd.fact 47 rfl)
    v_table_rank := He.glo_ok KX G (x := "table_rank") (cd.fact 46 rfl)
    v_table_undone := He.glo_ok KX G (x := "table_undone") (cd.fact 45 rfl)
    v_determinant := He.glo_ok KX G (x := "determinant") (cd.fact 44 rfl)
    v_table_trace := He.glo_ok KX G (x := "table_trace") (cd.fact 43 rfl)
    v_table_turned := He.glo_ok KX G (x := "table_turned") (cd.fact 38 rfl)
    v_table_product := He.glo_ok KX G (x := "table_product") (cd.fact 41 rfl)
    v_table_sum := He.glo_ok KX G (x := "table_sum") (cd.fact 39 rfl)
    d_is_whole := (cd.def_ 0 (d := dd_is_whole) rfl).elim fun fd F => ⟨_, fd, F, He.glo_ok KX G (cd.fact 0 rfl)⟩
    d_is_integer := (cd.def_ 1 (d := dd_is_integer) rfl).elim fun fd F => ⟨_, fd, F, He.glo_ok KX G (cd.fact 1 rfl)⟩
    d_is_within := (cd.def_ 2 (d := dd_is_within) rfl).elim fun fd F => ⟨_, fd, F, He.glo_ok KX G (cd.fact 2 rfl)⟩
    d_is_fraction := (cd.def_ 3 (d := dd_is_fraction) rfl).elim fun fd F => ⟨_, fd, F, He.glo_ok KX G (cd.fact 3 rfl)⟩
    d_is_number := (cd.def_ 4 (d := dd_is_number) rfl).elim fun fd F => ⟨_, fd, F, He.glo_ok KX G (cd.fact 4 rfl)⟩
    d_require_within := (cd.def_ 5 (d := dd_require_within) rfl).elim fun fd F => ⟨_, fd, F, He.glo_ok KX G (cd.fact 5 rfl)⟩
    d_require_number := (cd.def_ 6 (d := dd_require_number) rfl).elim fun fd F => ⟨_, fd, F, He.glo_ok KX G (cd.fact 6 rfl)⟩
    d_fraction_in := (cd.def_ 7 (d := dd_fraction_in) rfl).elim fun fd F => ⟨_, fd, F, He.glo_ok KX G (cd.fact 7 rfl)⟩
    d_pair_of := (cd.def_ 8 (d := dd_pair_of) rfl).elim fun fd F => ⟨_, fd, F, He.glo_ok KX G (cd.fact 8 rfl)⟩
    d_sum_in := (cd.def_ 9 (d := dd_sum_in) rfl).elim fun fd F => ⟨_, fd, F, He.glo_ok KX G (cd.fact 9 rfl)⟩
    d_less_in := (cd.def_ 10 (d := dd_less_in) rfl).elim fun fd F => ⟨_, fd, F, He.glo_ok KX G (cd.fact 10 rfl)⟩
    d_product_in := (cd.def_ 11 (d := dd_product_in) rfl).elim fun fd F => ⟨_, fd, F, He.glo_ok KX G (cd.fact 11 rfl)⟩
    d_quotient_in := (cd.def_ 12 (d := dd_quotient_in) rfl).elim fun fd F => ⟨_, fd, F, He.glo_ok KX G (cd.fact 12 rfl)⟩
    d_total_in := (cd.def_ 13 (d := dd_total_in) rfl).elim fun fd F => ⟨_, fd, F, He.glo_ok KX G (cd.fact 13 rfl)⟩
    d_is_row := (cd.def_ 14 (d := dd_is_row) rfl).elim fun fd F => ⟨_, fd, F, He.glo_ok KX G (cd.fact 14 rfl)⟩
    d_is_table := (cd.def_ 15 (d := dd_is_table) rfl).elim fun fd F => ⟨_, fd, F, He.glo_ok KX G (cd.fact 15 rfl)⟩
    d_require_table := (cd.def_ 16 (d := dd_require_table) rfl).elim fun fd F => ⟨_, fd, F, He.glo_ok KX G (cd.fact 16 rfl)⟩
    d_require_tables := (cd.def_ 17 (d := dd_require_tables) rfl).elim fun fd F => ⟨_, fd, F, He.glo_ok KX G (cd.fact 17 rfl)⟩
    d_require_row := (cd.def_ 18 (d := dd_require_row) rfl).elim fun fd F => ⟨_, fd, F, He.glo_ok KX G (cd.fact 18 rfl)⟩
    d_require_square := (cd.def_ 19 (d := dd_require_square) rfl).elim fun fd F => ⟨_, fd, F, He.glo_ok KX G (cd.fact 19 rfl)⟩
    d_row_told := (cd.def_ 20 (d := dd_row_told) rfl).elim fun fd F => ⟨_, fd, F, He.glo_ok KX G (cd.fact 20 rfl)⟩
    d_table_told := (cd.def_ 21 (d := dd_table_told) rfl).elim fun fd F => ⟨_, fd, F, He.glo_ok KX G (cd.fact 21 rfl)⟩
    d_idle_in := (cd.def_ 22 (d := dd_idle_in) rfl).elim fun fd F => ⟨_, fd, F, He.glo_ok KX G (cd.fact 22 rfl)⟩
    d_turned_in := (cd.def_ 23 (d := dd_turned_in) rfl).elim fun fd F => ⟨_, fd, F, He.glo_ok KX G (cd.fact 23 rfl)⟩
    d_dot_in := (cd.def_ 24 (d := dd_dot_in) rfl).elim fun fd F => ⟨_, fd, F, He.glo_ok KX G (cd.fact 24 rfl)⟩
    d_table_product_in := (cd.def_ 25 (d := dd_table_product_in) rfl).elim fun fd F => ⟨_, fd, F, He.glo_ok KX G (cd.fact 25 rfl)⟩
    d_row_scaled := (cd.def_ 26 (d := dd_row_scaled) rfl).elim fun fd F => ⟨_, fd, F, He.glo_ok KX G (cd.fact 26 rfl)⟩
    d_row_sum := (cd.def_ 27 (d := dd_row_sum) rfl).elim fun fd F => ⟨_, fd, F, He.glo_ok KX G (cd.fact 27 rfl)⟩
    d_row_cleared := (cd.def_ 28 (d := dd_row_cleared) rfl).elim fun fd F => ⟨_, fd, F, He.glo_ok KX G (cd.fact 28 rfl)⟩
    d_first_at := (cd.def_ 29 (d := dd_first_at) rfl).elim fun fd F => defQ_of (tf := tf2) rfl rfl rfl F (He.glo_ok KX G (cd.fact 29 rfl)) (by decide) uq
    d_echelon_in := (cd.def_ 30 (d := dd_echelon_in) rfl).elim fun fd F => ⟨_, fd, F, He.glo_ok KX G (cd.fact 30 rfl)⟩
    d_leads_of := (cd.def_ 31 (d := dd_leads_of) rfl).elim fun fd F => defQ_of (tf := tf2) rfl rfl rfl F (He.glo_ok KX G (cd.fact 31 rfl)) (by decide) uq
    d_free_row := (cd.def_ 32 (d := dd_free_row) rfl).elim fun fd F => ⟨_, fd, F, He.glo_ok KX G (cd.fact 32 rfl)⟩
    d_kernel_in := (cd.def_ 33 (d := dd_kernel_in) rfl).elim fun fd F => ⟨_, fd, F, He.glo_ok KX G (cd.fact 33 rfl)⟩
    d_determinant_in := (cd.def_ 34 (d := dd_determinant_in) rfl).elim fun fd F => ⟨_, fd, F, He.glo_ok KX G (cd.fact 34 rfl)⟩
    d_undone_in := (cd.def_ 35 (d := dd_undone_in) rfl).elim fun fd F => ⟨_, fd, F, He.glo_ok KX G (cd.fact 35 rfl)⟩
    d_solved_in := (cd.def_ 36 (d := dd_solved_in) rfl).elim fun fd F => ⟨_, fd, F, He.glo_ok KX G (cd.fact 36 rfl)⟩
    d_idle_table := (cd.def_ 37 (d := dd_idle_table) rfl).elim fun fd F => ⟨_, fd, F, He.glo_ok KX G (cd.fact 37 rfl)⟩
    d_table_turned := (cd.def_ 38 (d := dd_table_turned) rfl).elim fun fd F => ⟨_, fd, F, He.glo_ok KX G (cd.fact 38 rfl)⟩
    d_table_sum := (cd.def_ 39 (d := dd_table_sum) rfl).elim fun fd F => ⟨_, fd, F, He.glo_ok KX G (cd.fact 39 rfl)⟩
    d_table_scaled := (cd.def_ 40 (d := dd_table_scaled) rfl).elim fun fd F => ⟨_, fd, F, He.glo_ok KX G (cd.fact 40 rfl)⟩
    d_table_product := (cd.def_ 41 (d := dd_table_product) rfl).elim fun fd F => ⟨_, fd, F, He.glo_ok KX G (cd.fact 41 rfl)⟩
    d_row_times := (cd.def_ 42 (d := dd_row_times) rfl).elim fun fd F => ⟨_, fd, F, He.glo_ok KX G (cd.fact 42 rfl)⟩
    d_table_trace := (cd.def_ 43 (d := dd_table_trace) rfl).elim fun fd F => ⟨_, fd, F, He.glo_ok KX G (cd.fact 43 rfl)⟩
    d_determinant := (cd.def_ 44 (d := dd_determinant) rfl).elim fun fd F => ⟨_, fd, F, He.glo_ok KX G (cd.fact 44 rfl)⟩
    d_table_undone := (cd.def_ 45 (d := dd_table_undone) rfl).elim fun fd F => ⟨_, fd, F, He.glo_ok KX G (cd.fact 45 rfl)⟩
    d_table_rank := (cd.def_ 46 (d := dd_table_rank) rfl).elim fun fd F => ⟨_, fd, F, He.glo_ok KX G (cd.fact 46 rfl)⟩
    d_table_echelon := (cd.def_ 47 (d := dd_table_echelon) rfl).elim fun fd F => ⟨_, fd, F, He.glo_ok KX G (cd.fact 47 rfl)⟩
    d_table_kernel := (cd.def_ 48 (d := dd_table_kernel) rfl).elim fun fd F => ⟨_, fd, F, He.glo_ok KX G (cd.fact 48 rfl)⟩
    d_table_solved := (cd.def_ 49 (d := dd_table_solved) rfl).elim fun fd F => ⟨_, fd, F, He.glo_ok KX G (cd.fact 49 rfl)⟩
    d__law_dice := (cd.def_ 50 (d := dd__law_dice) rfl).elim fun fd F => ⟨_, fd, F, He.glo_ok KX G (cd.fact 50 rfl)⟩
    d__law_roll := (cd.def_ 51 (d := dd__law_roll) rfl).elim fun fd F => ⟨_, fd, F, He.glo_ok KX G (cd.fact 51 rfl)⟩
    d__law_pick := (cd.def_ 52 (d := dd__law_pick) rfl).elim fun fd F => ⟨_, fd, F, He.glo_ok KX G (cd.fact 52 rfl)⟩
    d__law_met := (cd.def_ 53 (d := dd__law_met) rfl).elim fun fd F => ⟨_, fd, F, He.glo_ok KX G (cd.fact 53 rfl)⟩
    d__law_right := (cd.def_ 54 (d := dd__law_right) rfl).elim fun fd F => DefQ.g <| defQ_of (tf := tf2) rfl rfl rfl F (He.glo_ok KX G (cd.fact 54 rfl)) (by decide) uq
    d_law := (cd.def_ 55 (d := dd_law) rfl).elim fun fd F => DefQ.g <| defQ_of (tf := tf2) rfl rfl rfl F (He.glo_ok KX G (cd.fact 55 rfl)) (by decide) uq
  }
end K07
open PySem PySem.W PySem.Calls PyProof.Rows
theorem PySem.Challenge.cw_thirdcounts_k07_errors_of_tables_holds : PySem.Challenge.rw_thirdcounts_k07_errors_of_tables.Holds := by
  w_on; o_law
  refine HandSHeadRun.head_imp (r := OpenLaw.row PySem.Challenge.rw_thirdcounts_k07_errors_of_tables) (q := view (OpenLaw.row PySem.Challenge.rw_thirdcounts_k07_errors_of_tables).prog [0, 70]) (H := K07.hk) (ob := K07.ob) (M := 4000) (loose := K07.loose) (d := HandSHeadRun.topDef (OpenLaw.row PySem.Challenge.rw_thirdcounts_k07_errors_of_tables).prog 70) (kwd := []) K07.ob_eq
    K07.run (by kernel_rfl) (by kernel_rfl) (by kernel_rfl) (by rfl) (by first | assumption | decide +kernel) (by decide +kernel) ⟨rfl, rfl, rfl, rfl, rfl, by decide +kernel⟩ ?hw ?hc
  case hw => w_witness2
  case hc =>
    refine MP.walk_ofY (l := PySem.Challenge.rw_thirdcounts_k07_errors_of_tables) (n := 63) (k := 12) (x := "_law_script") rfl (by decide) (by kernel_rfl) ⟨rfl, by decide, by decide⟩ ?F
    intro w mg fa h Y G hmg0
    obtain ⟨K, KX, c⟩ := Y
    have hmg : mg ("law" : PySem.Str) = some (.ref fa) := by
      have e : (HandSHeadRun.topDef (OpenLaw.row PySem.Challenge.rw_thirdcounts_k07_errors_of_tables).prog 70).name = ("law" : PySem.Str) := by kernel_rfl
      rw [← e]
      exact hmg0
    have m : K07.Mo PySem.Challenge.rw_thirdcounts_k07_errors_of_tables.prog mg (K07.MM K) := K07.mo_of KX G c
    obtain ⟨f, fd, c', Pt, F, hc', hf, hmc, hT, hu⟩ := m.d_law.ex
    have ef : f = fa := by
      have z := hf.symm.trans hmg
      cases z
      rfl
    subst ef
    have b := L2.FunD.bindsA (ps := ["_law_script"]) F fun _ _ _ _ _ _ us hl => match us, hl with | [_], _ => rfl
    have qs : ∀ p ∈ MP.csOf K K07.tf, ∃ q ∈ K07.tf, He.cT K q = p := fun p hp => List.mem_map.mp hp
    refine ⟨K, fd, MP.csOf K K07.tf, MP.spF (K07.MM K) 1 K07.F_law, KX, fun p hp => ?_, fun p hp => ?_, fun p hp => ?_, fun s v => b s [v] rfl, fun H a ns hl hO hS => ?_, fun base _ _ tb => ?_⟩
    · obtain ⟨q, hq, rfl⟩ := qs p hp
      exact c.x.empty q hq
    · obtain ⟨q, hq, rfl⟩ := qs p hp
      exact c.x.out q hq
    · obtain ⟨q, hq, rfl⟩ := qs p hp
      exact PySem.W.codeHd_of_K KX (c.x.hd q hq)
    · obtain ⟨S, e⟩ := K07.law_true ns hl
      exact MP.law_spT (M := K07.MM K) e hS (MP.tabs_nil2 hO)
    · exact K07.fo_law m tb F hc' hmc hT hu
