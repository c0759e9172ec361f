import PyProof.Rows.All
import Wide.All
import OpenK.AllK
import Wide.FinOn
import HandS.ForMost
import HandS.ForExc
import HandS.Walk
import HandS.TupAny
import HandS.TupMul
import HandS.Wide
import HandS.WideBits
import HandS.Deep
import HandS.IsInst
import HandS.Style
import HandS.Star
import HandS.Zip
import HandS.Gcd
import HandS.Defaults
import KE.GoesMore
import KE.GoesEnum
import HandS.HeadHook4
import HandS.Head3
import HandS.HeadEnd
import HandS.HeadWalk
import PySem.Challenge.RW_thirdcounts_k08_whole_sums_and_products
set_option Elab.async false
set_option linter.all false
set_option maxRecDepth 100000
set_option maxHeartbeats 4000000
/-! Plain data over the hand layer: values as data, lists as places of a store; what an expression, a statement, a def is told by. -/
namespace MP
open PySem PySem.Spec PyProof.Rows L2

inductive D where
  | non | bl (b : Bool) | int (i : Int) | str (x : Str) | tup (ds : List D) | fl (ds : List D) | ref (n : Nat) | fn (i : Nat)
  deriving Inhabited

inductive SO where
  | lst (ds : List D)
  | dk (kvs : List (Key × D))
abbrev Sto := List SO
abbrev Rho := List (Option D)

/-- an exception: its class, its own field and what it keeps -/
structure Xn where
  c : Nat
  arg : Option (Str × D)

inductive Rs (α : Type) where
  | ok (a : α) (S : Sto)
  | exc (x : Xn) (S : Sto)
  | stuck
def Rs.bind {α β : Type} (r : Rs α) (k : α → Sto → Rs β) : Rs β := match r with
  | .ok a S => k a S
  | .exc x S => .exc x S
  | .stuck => .stuck

/-- the module: its written part, where its functions and classes stand -/
structure Md where
  K : PySem.W.Frag
  fa : Nat → Addr
  ca : Nat → Addr

structure Wd where
  μ : Nat → Addr
  S : Sto
  H : Hp

/-- a list that nobody writes -/
def FzL (K : PySem.W.Frag) (H : Hp) (a : Addr) (xs : List V) : Prop :=
  (∃ o, H a = some (.frz o (.lst xs))) ∨
    ∃ (o : Obj) (its : Array Value) (n : Nat), K.lookup a = some o ∧ o.cls = .type "list" ∧ o.dict = none ∧ o.data = .seq its n ∧ its.size ≤ sizeLine ∧ Vals xs its.toList

mutual
inductive DV (M : Md) (g : Wd) : D → V → Prop where
  | non : DV M g .non .non
  | bl (b : Bool) : DV M g (.bl b) (.bl b)
  | int (i : Int) : DV M g (.int i) (.int i)
  | str (x : Str) : DV M g (.str x) (.str x)
  | tup {a : Addr} {ds : List D} {xs : List V} : SqT M.K g.H a xs → DVs M g ds xs → DV M g (.tup ds) (.ref a)
  | fl {a : Addr} {ds : List D} {xs : List V} : FzL M.K g.H a xs → DVs M g ds xs → DV M g (.fl ds) (.ref a)
  | ref {n : Nat} : n < g.S.length → DV M g (.ref n) (.ref (g.μ n))
  | fn (i : Nat) : DV M g (.fn i) (.ref (M.fa i))
inductive DVs (M : Md) (g : Wd) : List D → List V → Prop where
  | nil : DVs M g [] []
  | cons {d : D} {ds : List D} {v : V} {vs : List V} : DV M g d v → DVs M g ds vs → DVs M g (d :: ds) (v :: vs)
end

def KDs (M : Md) (g : Wd) : List (Key × D) → List (Key × V) → Prop := Paired fun p q => p.1 = q.1 ∧ DV M g p.2 q.2

def OR (M : Md) (g : Wd) (a : Addr) : SO → Prop
  | .lst ds => ∃ xs, g.H a = some (.lst xs) ∧ DVs M g ds xs
  | .dk kvs => ∃ ws, g.H a = some (.dK ws) ∧ KDs M g kvs ws

structure Rep (M : Md) (g : Wd) : Prop where
  inj : ∀ i j, i < g.S.length → j < g.S.length → g.μ i = g.μ j → i = j
  obj : ∀ i o, g.S[i]? = some o → OR M g (g.μ i) o

structure Gr (g g' : Wd) : Prop where
  len : g.S.length ≤ g'.S.length
  same : ∀ n, n < g.S.length → g'.μ n = g.μ n
  fresh : ∀ n, g.S.length ≤ n → n < g'.S.length → g.H (g'.μ n) = none
  keep : ∀ a o, g.H a = some o → (∀ n, n < g.S.length → g.μ n ≠ a) → g'.H a = some o

section
variable {M : Md} {g g' g1 g2 : Wd}

theorem OR.there {a : Addr} {o : SO} (h : OR M g a o) : (∃ xs, g.H a = some (.lst xs)) ∨ ∃ ws, g.H a = some (.dK ws) := by
  cases o with
  | lst ds => obtain ⟨xs, h, _⟩ := h; exact .inl ⟨xs, h⟩
  | dk kvs => obtain ⟨ws, h, _⟩ := h; exact .inr ⟨ws, h⟩
theorem Rep.at (r : Rep M g) {n : Nat} (h : n < g.S.length) : (∃ xs, g.H (g.μ n) = some (.lst xs)) ∨ ∃ ws, g.H (g.μ n) = some (.dK ws) :=
  (r.obj n _ (List.getElem?_eq_getElem h)).there
theorem Rep.not_tup (r : Rep M g) {n : Nat} (h : n < g.S.length) {xs : List V} : g.H (g.μ n) ≠ some (.tup xs) := fun e => by
  rcases r.at h with ⟨_, q⟩ | ⟨_, q⟩ <;> (rw [q] at e; cases e)
theorem Rep.not_frz (r : Rep M g) {n : Nat} (h : n < g.S.length) {o : Obj} {u : HO} : g.H (g.μ n) ≠ some (.frz o u) := fun e => by
  rcases r.at h with ⟨_, q⟩ | ⟨_, q⟩ <;> (rw [q] at e; cases e)
theorem Rep.not_xd (r : Rep M g) {n : Nat} (h : n < g.S.length) {fs : List (Str × V)} : g.H (g.μ n) ≠ some (.xd fs) := fun e => by
  rcases r.at h with ⟨_, q⟩ | ⟨_, q⟩ <;> (rw [q] at e; cases e)
theorem Rep.not_none (r : Rep M g) {n : Nat} (h : n < g.S.length) : g.H (g.μ n) ≠ none := fun e => by
  rcases r.at h with ⟨_, q⟩ | ⟨_, q⟩ <;> (rw [q] at e; cases e)

theorem Gr.refl : Gr g g := ⟨Nat.le_refl _, fun _ _ => rfl, fun n h1 h2 => absurd h2 (by omega), fun _ _ h _ => h⟩
theorem Gr.trans (r1 : Rep M g1) (a : Gr g g1) (b : Gr g1 g2) : Gr g g2 where
  len := Nat.le_trans a.len b.len
  same := fun n h => (b.same n (Nat.lt_of_lt_of_le h a.len)).trans (a.same n h)
  fresh := fun n h1 h2 => by
    by_cases h : n < g1.S.length
    · rw [b.same n h]; exact a.fresh n h1 h
    · have z := b.fresh n (by omega) h2
      cases e : g.H (g2.μ n) with
      | none => rfl
      | some o =>
        by_cases hm : ∃ m, m < g.S.length ∧ g.μ m = g2.μ n
        · obtain ⟨m, h3, h4⟩ := hm
          have h5 := a.same m h3
          exact absurd (by rw [h5, h4]; exact z) (r1.not_none (n := m) (Nat.lt_of_lt_of_le h3 a.len))
        · rw [a.keep _ o e fun m h3 h4 => hm ⟨m, h3, h4⟩] at z; cases z
  keep := fun c o e h => by
    refine b.keep c o (a.keep c o e h) fun n hn z => ?_
    by_cases hl : n < g.S.length
    · exact h n hl (by rw [← a.same n hl]; exact z)
    · have q := a.fresh n (by omega) hn
      rw [z, e] at q; cases q

theorem Gr.tup (r : Rep M g) (k : Gr g g') {a : Addr} {xs : List V} (h : SqT M.K g.H a xs) : SqT M.K g'.H a xs := by
  rcases h with (h | ⟨o, h⟩) | h
  · exact .inl (.inl (k.keep _ _ h fun n hn e => r.not_tup hn (by rw [e]; exact h)))
  · exact .inl (.inr ⟨o, k.keep _ _ h fun n hn e => r.not_frz hn (by rw [e]; exact h)⟩)
  · exact .inr h
theorem Gr.fzl (r : Rep M g) (k : Gr g g') {a : Addr} {xs : List V} (h : FzL M.K g.H a xs) : FzL M.K g'.H a xs := by
  rcases h with ⟨o, h⟩ | h
  · exact .inl ⟨o, k.keep _ _ h fun n hn e => r.not_frz hn (by rw [e]; exact h)⟩
  · exact .inr h

mutual
theorem DV.mono (r : Rep M g) (k : Gr g g') : ∀ {d : D} {v : V}, DV M g d v → DV M g' d v
  | _, _, .non => .non
  | _, _, .bl b => .bl b
  | _, _, .int i => .int i
  | _, _, .str x => .str x
  | _, _, .tup h hs => .tup (k.tup r h) (DVs.mono r k hs)
  | _, _, .fl h hs => .fl (k.fzl r h) (DVs.mono r k hs)
  | _, _, .ref (n := n) h => by rw [← k.same n h]; exact .ref (Nat.lt_of_lt_of_le h k.len)
  | _, _, .fn i => .fn i
theorem DVs.mono (r : Rep M g) (k : Gr g g') : ∀ {ds : List D} {vs : List V}, DVs M g ds vs → DVs M g' ds vs
  | _, _, .nil => .nil
  | _, _, .cons h hs => .cons (DV.mono r k h) (DVs.mono r k hs)
end
theorem KDs.mono (r : Rep M g) (k : Gr g g') {a : List (Key × D)} {b : List (Key × V)} (h : KDs M g a b) : KDs M g' a b :=
  Paired.mapP h fun _ _ z => ⟨z.1, z.2.mono r k⟩

theorem DVs.length : ∀ {ds : List D} {vs : List V}, DVs M g ds vs → ds.length = vs.length
  | _, _, .nil => rfl
  | _, _, .cons _ t => by simp [DVs.length t]
theorem DVs.get : ∀ {ds : List D} {vs : List V} {i : Nat} {d : D}, DVs M g ds vs → ds[i]? = some d → ∃ v, vs[i]? = some v ∧ DV M g d v
  | _, _, _, _, .nil, e => by simp at e
  | _, _, 0, _, .cons h _, e => by simp at e; subst e; exact ⟨_, rfl, h⟩
  | _, _, i + 1, d, .cons _ t, e => by
    obtain ⟨u, h1, h2⟩ := DVs.get (i := i) (d := d) t (by simpa using e)
    exact ⟨u, by simpa using h1, h2⟩
theorem DVs.getV : ∀ {ds : List D} {vs : List V} {i : Nat} {v : V}, DVs M g ds vs → vs[i]? = some v → ∃ d, ds[i]? = some d ∧ DV M g d v
  | _, _, _, _, .nil, e => by simp at e
  | _, _, 0, _, .cons h _, e => by simp at e; subst e; exact ⟨_, rfl, h⟩
  | _, _, i + 1, d, .cons _ t, e => by
    obtain ⟨u, h1, h2⟩ := DVs.getV (i := i) (v := d) t (by simpa using e)
    exact ⟨u, by simpa using h1, h2⟩
theorem DVs.append : ∀ {a b : List D} {u v : List V}, DVs M g a u → DVs M g b v → DVs M g (a ++ b) (u ++ v)
  | _, _, _, _, .nil, s => s
  | _, _, _, _, .cons r t, s => .cons r (DVs.append t s)
theorem DVs.take : ∀ {a : List D} {u : List V} (n : Nat), DVs M g a u → DVs M g (a.take n) (u.take n)
  | _, _, 0, _ => .nil
  | _, _, _ + 1, .nil => .nil
  | _, _, n + 1, .cons r t => .cons r (DVs.take n t)
theorem DVs.drop : ∀ {a : List D} {u : List V} (n : Nat), DVs M g a u → DVs M g (a.drop n) (u.drop n)
  | _, _, 0, r => r
  | _, _, _ + 1, .nil => .nil
  | _, _, n + 1, .cons _ t => DVs.drop n t
theorem DVs.set {d : D} {v : V} (r : DV M g d v) : ∀ {a : List D} {u : List V} (n : Nat), DVs M g a u → DVs M g (a.set n d) (u.set n v)
  | _, _, _, .nil => .nil
  | _, _, 0, .cons _ t => .cons r t
  | _, _, n + 1, .cons q t => .cons q (DVs.set r n t)
theorem DVs.eraseIdx : ∀ {a : List D} {u : List V} (n : Nat), DVs M g a u → DVs M g (a.eraseIdx n) (u.eraseIdx n)
  | _, _, _, .nil => .nil
  | _, _, 0, .cons _ t => t
  | _, _, n + 1, .cons q t => .cons q (DVs.eraseIdx n t)
theorem DVs.dropLast {a : List D} {u : List V} (r : DVs M g a u) : DVs M g a.dropLast u.dropLast := by
  have h := r.take (a.length - 1)
  rw [List.dropLast_eq_take, List.dropLast_eq_take, ← r.length]
  exact h
theorem DVs.reverse : ∀ {a : List D} {u : List V}, DVs M g a u → DVs M g a.reverse u.reverse
  | _, _, .nil => .nil
  | _, _, .cons h t => by rw [List.reverse_cons, List.reverse_cons]; exact (DVs.reverse t).append (.cons h .nil)
theorem DVs.rep {a : List D} {u : List V} (r : DVs M g a u) : ∀ k : Nat, DVs M g (List.replicate k a).flatten (List.replicate k u).flatten
  | 0 => .nil
  | k + 1 => by rw [List.replicate_succ, List.replicate_succ, List.flatten_cons, List.flatten_cons]; exact r.append (DVs.rep r k)

/-! ### objects laid, written -/
/-- a new object that is no place of the store -/
theorem Gr.laid {p : Addr} {o : HO} (h : g.H p = none) : Gr g ⟨g.μ, g.S, upd g.H p o⟩ :=
  ⟨Nat.le_refl _, fun _ _ => rfl, fun n h1 h2 => absurd h2 (by show ¬ n < g.S.length; omega), fun a u e _ => by
    show upd g.H p o a = some u
    rw [upd_ne (ne_of_none e h)]; exact e⟩
theorem OR.of {a : Addr} {o : SO} (r : Rep M g) (k : Gr g g') (h : OR M g a o) (e : ∀ u, g.H a = some u → g'.H a = some u) : OR M g' a o := by
  cases o with
  | lst ds => obtain ⟨xs, h1, h2⟩ := h; exact ⟨xs, e _ h1, h2.mono r k⟩
  | dk kvs => obtain ⟨xs, h1, h2⟩ := h; exact ⟨xs, e _ h1, h2.mono r k⟩
theorem Rep.laid (r : Rep M g) {p : Addr} {o : HO} (h : g.H p = none) : Rep M ⟨g.μ, g.S, upd g.H p o⟩ :=
  ⟨r.inj, fun i u e => OR.of r (Gr.laid h) (r.obj i u e) fun w z => by
    show upd g.H p o _ = some w
    rw [upd_ne (ne_of_none z h)]; exact z⟩
/-- a new place of the store -/
def Wd.new (g : Wd) (p : Addr) (o : SO) (u : HO) : Wd := ⟨fun n => if n = g.S.length then p else g.μ n, g.S ++ [o], upd g.H p u⟩
theorem Gr.new {p : Addr} {o : SO} {u : HO} (h : g.H p = none) : Gr g (g.new p o u) where
  len := by show g.S.length ≤ (g.S ++ [o]).length; simp
  same := fun n hn => by show (if n = g.S.length then p else g.μ n) = g.μ n; rw [if_neg (by omega)]
  fresh := fun n h1 h2 => by
    have h2 : n < (g.S ++ [o]).length := h2
    rw [List.length_append, List.length_singleton] at h2
    have e : n = g.S.length := by omega
    show g.H (if n = g.S.length then p else g.μ n) = none
    rw [if_pos e]; exact h
  keep := fun a w e _ => by
    show upd g.H p u a = some w
    rw [upd_ne (ne_of_none e h)]; exact e
theorem Rep.new (r : Rep M g) {p : Addr} {o : SO} {u : HO} (h : g.H p = none) (ho : OR M (g.new p o u) p o) : Rep M (g.new p o u) := by
  have k : Gr g (g.new p o u) := Gr.new h
  have hl : (g.new p o u).S.length = g.S.length + 1 := by show (g.S ++ [o]).length = _; simp
  have hp : ∀ n, n < g.S.length → g.μ n ≠ p := fun n hn e => r.not_none hn (by rw [e]; exact h)
  refine ⟨fun i j hi hj e => ?_, fun i w e => ?_⟩
  · rw [hl] at hi hj
    have e : (if i = g.S.length then p else g.μ i) = (if j = g.S.length then p else g.μ j) := e
    by_cases h1 : i = g.S.length
    · by_cases h2 : j = g.S.length
      · omega
      · rw [if_pos h1, if_neg h2] at e; exact absurd e.symm (hp j (by omega))
    · by_cases h2 : j = g.S.length
      · rw [if_neg h1, if_pos h2] at e; exact absurd e (hp i (by omega))
      · rw [if_neg h1, if_neg h2] at e; exact r.inj i j (by omega) (by omega) e
  · have e : (g.S ++ [o])[i]? = some w := e
    by_cases h1 : i < g.S.length
    · rw [List.getElem?_append_left h1] at e
      have q := OR.of r k (r.obj i w e) fun z hz => by
        show upd g.H p u _ = some z
        rw [upd_ne (ne_of_none hz h)]; exact hz
      have e2 : (g.new p o u).μ i = g.μ i := k.same i h1
      rw [e2]; exact q
    · have h2 : i = g.S.length := by
        have := (List.getElem?_eq_some_iff.mp e).1
        rw [List.length_append, List.length_singleton] at this
        omega
      subst h2
      rw [List.getElem?_append_right (Nat.le_refl _), Nat.sub_self] at e
      have e : some o = some w := e
      cases e
      have e2 : (g.new p o u).μ g.S.length = p := by show (if g.S.length = g.S.length then p else _) = p; rw [if_pos rfl]
      rw [e2]; exact ho
theorem DV.newRef {p : Addr} {o : SO} {u : HO} : DV M (g.new p o u) (.ref g.S.length) (.ref p) := by
  have e2 : (g.new p o u).μ g.S.length = p := by show (if g.S.length = g.S.length then p else _) = p; rw [if_pos rfl]
  have h : g.S.length < (g.new p o u).S.length := by show _ < (g.S ++ [o]).length; simp
  have q := DV.ref (M := M) (g := g.new p o u) h
  rw [e2] at q; exact q
/-- a place of the store is written -/
def Wd.put (g : Wd) (n : Nat) (o : SO) (u : HO) : Wd := ⟨g.μ, g.S.set n o, upd g.H (g.μ n) u⟩
theorem Gr.put {n : Nat} {o : SO} {u : HO} (hn : n < g.S.length) : Gr g (g.put n o u) where
  len := by show g.S.length ≤ (g.S.set n o).length; simp
  same := fun _ _ => rfl
  fresh := fun m h1 h2 => by
    have h2 : m < (g.S.set n o).length := h2
    rw [List.length_set] at h2
    omega
  keep := fun a w e h => by
    show upd g.H (g.μ n) u a = some w
    rw [upd_ne fun z => h n hn z.symm]; exact e
theorem Rep.put (r : Rep M g) {n : Nat} {o : SO} {u : HO} (hn : n < g.S.length) (ho : OR M (g.put n o u) (g.μ n) o) : Rep M (g.put n o u) := by
  have k : Gr g (g.put n o u) := Gr.put hn
  have hl : (g.put n o u).S.length = g.S.length := by show (g.S.set n o).length = _; simp
  refine ⟨fun i j hi hj e => r.inj i j (by omega) (by omega) e, fun i w e => ?_⟩
  have e : (g.S.set n o)[i]? = some w := e
  by_cases h1 : i = n
  · subst h1
    rw [List.getElem?_set_self hn] at e
    cases e
    exact ho
  · rw [List.getElem?_set_ne (Ne.symm h1)] at e
    have hi : i < g.S.length := (List.getElem?_eq_some_iff.mp e).1
    refine OR.of r k (r.obj i w e) fun z hz => ?_
    show upd g.H (g.μ n) u (g.μ i) = some z
    rw [upd_ne fun q => h1 (r.inj i n hi hn q)]; exact hz
end

/-! ### what is wanted behind -/
def Aft (M : Md) {α : Type} (g : Wd) (r : Rs α) (P : α → Wd → Prop) (E : Xn → Wd → Prop) : Prop := match r with
  | .ok a S => ∀ g', g'.S = S → Gr g g' → Rep M g' → P a g'
  | .exc x S => ∀ g', g'.S = S → Gr g g' → Rep M g' → E x g'
  | .stuck => False
theorem Aft.bind {M : Md} {α β : Type} {g : Wd} {r : Rs α} {k : α → Sto → Rs β} {P : β → Wd → Prop} {E : Xn → Wd → Prop} (h : Aft M g (r.bind k) P E) : Aft M g r (fun a g1 => Aft M g1 (k a g1.S) P E) E := by
  cases r with
  | stuck => exact h
  | exc x S => exact h
  | ok a S =>
    intro g1 e1 k1 r1
    have h : Aft M g (k a S) P E := h
    rw [e1]
    cases hk : k a S with
    | stuck => rw [hk] at h; exact h
    | exc x S2 => rw [hk] at h; exact fun g2 e2 k2 r2 => h g2 e2 (k1.trans r1 k2) r2
    | ok b S2 => rw [hk] at h; exact fun g2 e2 k2 r2 => h g2 e2 (k1.trans r1 k2) r2
theorem Aft.mono {M : Md} {α : Type} {g : Wd} {r : Rs α} {P P' : α → Wd → Prop} {E E' : Xn → Wd → Prop} (h : Aft M g r P E) (hp : ∀ a g', Gr g g' → Rep M g' → P a g' → P' a g') (he : ∀ x g', Gr g g' → Rep M g' → E x g' → E' x g') : Aft M g r P' E' := by
  cases r with
  | stuck => exact h
  | exc x S => exact fun g1 e1 k1 r1 => he x g1 k1 r1 (h g1 e1 k1 r1)
  | ok a S => exact fun g1 e1 k1 r1 => hp a g1 k1 r1 (h g1 e1 k1 r1)
/-- nothing was laid or written -/
theorem Aft.here {M : Md} {α : Type} {g : Wd} {a : α} {P : α → Wd → Prop} {E : Xn → Wd → Prop} (r : Rep M g) (h : Aft M g (.ok a g.S) P E) : P a g := h g rfl Gr.refl r

/-- the slots -/
structure EnvOk (M : Md) (g : Wd) (ρ : Rho) (σ : L2.St) : Prop where
  len : ρ.length = σ.length
  at_ : ∀ (i : Nat) d, ρ[i]? = some (some d) → ∃ v, σ[i]? = some (some v) ∧ DV M g d v
theorem EnvOk.mono {M : Md} {g g' : Wd} {ρ : Rho} {σ : L2.St} (e : EnvOk M g ρ σ) (r : Rep M g) (k : Gr g g') : EnvOk M g' ρ σ :=
  ⟨e.len, fun i d h => let ⟨v, h1, h2⟩ := e.at_ i d h; ⟨v, h1, h2.mono r k⟩⟩
theorem EnvOk.set {M : Md} {g : Wd} {ρ : Rho} {σ : L2.St} {i : Nat} {d : D} {v : V} (e : EnvOk M g ρ σ) (h : DV M g d v) : EnvOk M g (ρ.set i (some d)) (σ.set i (some v)) := by
  refine ⟨by simp [e.len], fun j d' hj => ?_⟩
  by_cases hji : j = i
  · subst hji
    by_cases hl : j < ρ.length
    · rw [List.getElem?_set_self hl] at hj
      cases hj
      exact ⟨v, by rw [List.getElem?_set_self (by rw [← e.len]; exact hl)], h⟩
    · rw [List.getElem?_eq_none (by simpa using hl)] at hj; cases hj
  · rw [List.getElem?_set_ne (Ne.symm hji)] at hj
    obtain ⟨w, h1, h2⟩ := e.at_ j d' hj
    exact ⟨w, by rw [List.getElem?_set_ne (Ne.symm hji)]; exact h1, h2⟩

/-- what an exception is -/
def XV (M : Md) (g : Wd) (x : Xn) (cls : Value) (dx : Option Addr) : Prop :=
  cls = .ref (M.ca x.c) ∧ match x.arg with
    | none => dx = none
    | some (f, d) => ∃ a v, dx = some a ∧ g.H a = some (.xd [(f, v)]) ∧ DV M g d v

/-! ### expressions -/
abbrev Fe := Rho → Sto → Rs D
abbrev PD (M : Md) (Q : VK) : D → Wd → Prop := fun d g => ∀ v, DV M g d v → Q v g.H
abbrev XD (M : Md) (W : WX) (σ : L2.St) : Xn → Wd → Prop := fun x g => ∀ cls dx, XV M g x cls dx → W cls dx σ g.H
def tE (M : Md) (W : WX) (f : Fe) : TE := fun σ H Q => ∃ g ρ, g.H = H ∧ Rep M g ∧ EnvOk M g ρ σ ∧ Aft M g (f ρ g.S) (PD M Q) (XD M W σ)
/-- the expression e is told by f -/
abbrev ME (M : Md) (X : Cx) (W : WX) (e : Expr) (f : Fe) : Prop := PE X e (tE M W f)
theorem PE.imp {X : Cx} {e : Expr} {t t' : TE} (h : PE X e t) (i : ∀ σ H Q, t' σ H Q → t σ H Q) : PE X e t' := ⟨fun pins s σ H Q I h' => h.run pins s σ H Q I (i σ H Q h')⟩
theorem PT.imp {X : Cx} {e : Expr} {t t' : TT} (h : PT X e t) (i : ∀ σ H Q, t' σ H Q → t σ H Q) : PT X e t' := ⟨fun pins s σ H Q I h' => h.run pins s σ H Q I (i σ H Q h')⟩
theorem PS.imp {X : Cx} {e : Stmt} {t t' : TS} (h : PS X e t) (i : ∀ Dn σ H, t' Dn σ H → t Dn σ H) : PS X e t' := ⟨fun pins s σ H Dn I h' => h.run pins s σ H Dn I (i Dn σ H h')⟩
theorem PSs.imp {X : Cx} {e : List Stmt} {t t' : TS} (h : PSs X e t) (i : ∀ Dn σ H, t' Dn σ H → t Dn σ H) : PSs X e t' := ⟨fun pins s σ H Dn I h' => h.run pins s σ H Dn I (i Dn σ H h')⟩
theorem PA.imp {X : Cx} {e : List Expr} {t t' : TA} (h : PA X e t) (i : ∀ σ H Q, t' σ H Q → t σ H Q) : PA X e t' := ⟨fun pos pins s σ H Q I h' => h.run pos pins s σ H Q I (i σ H Q h')⟩

/-- from the reading of the one to the reading of the other: the way in -/
theorem tE.go {M : Md} {W : WX} {f : Fe} {σ : L2.St} {g : Wd} {ρ : Rho} {Q : VK} (r : Rep M g) (e : EnvOk M g ρ σ) (h : Aft M g (f ρ g.S) (PD M Q) (XD M W σ)) : tE M W f σ g.H Q := ⟨g, ρ, rfl, r, e, h⟩

section
variable {M : Md} {X : Cx} {W : WX}

def dVar (i : Nat) : Fe := fun ρ S => match ρ[i]? with
  | some (some d) => .ok d S
  | _ => .stuck
def dC (d : D) : Fe := fun _ S => .ok d S
theorem me_var {i : Nat} {x : Str} {pos : Pos} (hN : X.N[i]? = some x := by rfl) (hv : Vis X.env.scope x := by first | exact Or.inl rfl | exact Or.inr (Or.inl rfl) | exact Or.inr (Or.inr rfl)) (hd : (x == ("__debug__" : Str)) = false := by decide) (hcd : (x == ("__classdict__" : Str)) = false := by decide) : ME M X W (.Name x pos) (dVar i) := by
  refine PE.imp (pe_var hN hv hd hcd) fun σ H Q h => ?_
  obtain ⟨g, ρ, rfl, r, e, h⟩ := h
  unfold dVar at h
  split at h
  · rename_i d hd
    obtain ⟨v, h1, h2⟩ := e.at_ i d hd
    exact ⟨v, h1, h.here r v h2⟩
  · exact h.elim
theorem me_c {e : Expr} {v : V} {d : D} (h : PE X e (tC v)) (hd : ∀ g, DV M g d v) : ME M X W e (dC d) :=
  PE.imp h fun σ H Q h => by
    obtain ⟨g, ρ, rfl, r, e, h⟩ := h
    exact h.here r v (hd g)
theorem me_int {i : Int} {j : Nat} {pos : Pos} : ME M X W (.Constant (.int i) j pos) (dC (.int i)) := me_c pe_int fun _ => .int i
theorem me_bl {b : Bool} {j : Nat} {pos : Pos} : ME M X W (.Constant (.bool b) j pos) (dC (.bl b)) := me_c pe_bl fun _ => .bl b
theorem me_non {j : Nat} {pos : Pos} : ME M X W (.Constant .none j pos) (dC .non) := me_c pe_non fun _ => .non
theorem me_str {x : Str} {j : Nat} {pos : Pos} : ME M X W (.Constant (.str x) j pos) (dC (.str x)) := me_c pe_str fun _ => .str x
theorem me_glob {x : Str} {v : V} {d : D} {u : Value} {pos : Pos} (hg : Gl X x) (hm : X.mg x = some u) (r : RelV v u) (hd : ∀ g, DV M g d v) (hdb : (x == ("__debug__" : Str)) = false := by decide) : ME M X W (.Name x pos) (dC d) :=
  me_c (pe_glob hg hm r hdb) hd

/-! ### two operands -/
abbrev F2 := D → D → Sto → Rs D
def d2 (op : F2) (fa fb : Fe) : Fe := fun ρ S => (fa ρ S).bind fun x S1 => (fb ρ S1).bind fun y S2 => op x y S2
/-- an operation by values is told by op -/
def Op2 (M : Md) (r : R2) (op : F2) : Prop := ∀ (g : Wd) (x y : D) (v u : V) (Q : VK) (E : Xn → Wd → Prop), Rep M g → DV M g x v → DV M g y u → Aft M g (op x y g.S) (PD M Q) E → r v u g.H Q
theorem two {fa fb : Fe} {op : F2} {r : R2} (h : Op2 M r op) {σ : L2.St} {H : Hp} {Q : VK} (q : tE M W (d2 op fa fb) σ H Q) : tOp r (tE M W fa) (tE M W fb) σ H Q := by
  obtain ⟨g, ρ, rfl, rp, en, q⟩ := q
  have q := Aft.bind (k := fun x S1 => (fb ρ S1).bind fun y S2 => op x y S2) q
  refine tE.go rp en (q.mono (fun x g1 k1 r1 q1 v hv => ?_) fun _ _ _ _ z => z)
  have q1 := Aft.bind (k := fun y S2 => op x y S2) q1
  refine tE.go r1 (en.mono rp k1) (q1.mono (fun y g2 k2 r2 q2 u hu => ?_) fun _ _ _ _ z => z)
  exact h g2 x y v u Q _ r2 (hv.mono r1 k2) hu q2
theorem me_bin {a b : Expr} {op : Operator} {pos : Pos} {r : R2} {f : F2} {fa fb : Fe} (ho : OpR X (binaryOp op) r) (h : Op2 M r f) (ha : ME M X W a fa) (hb : ME M X W b fb) : ME M X W (.BinOp a op b pos) (d2 f fa fb) :=
  PE.imp (pe_op ho ha hb) fun _ _ _ q => two h q
theorem me_cmp {a b : Expr} {op : CmpOp} {pos : Pos} {r : R2} {f : F2} {fa fb : Fe} (ho : OpR X (compareOp op) r) (h : Op2 M r f) (ha : ME M X W a fa) (hb : ME M X W b fb) (hm : behindInMarks op b = false) : ME M X W (.Compare a [op] [b] pos) (d2 f fa fb) :=
  PE.imp (pe_cmpR ho ha hb hm) fun _ _ _ q => two h q
theorem me_ix {a b : Expr} {pos : Pos} {r : R2} {f : F2} {fa fb : Fe} (ho : IxR X r) (h : Op2 M r f) (ha : ME M X W a fa) (hb : ME M X W b fb) (hs : PlainIx b) : ME M X W (.Subscript a b pos) (d2 f fa fb) :=
  PE.imp (pe_ix ho ha hb hs) fun _ _ _ q => two h q
end
end MP
set_option Elab.async false
set_option linter.all false
set_option maxRecDepth 100000
set_option maxHeartbeats 4000000
/-! Operators by values. -/
namespace MP
open PySem PySem.Spec PyProof.Rows L2

section
variable {M : Md} {g : Wd}
theorem DV.tupI {ds : List D} {v : V} (h : DV M g (.tup ds) v) : ∃ a xs, v = .ref a ∧ SqT M.K g.H a xs ∧ DVs M g ds xs := by
  cases h with
  | tup h1 h2 => exact ⟨_, _, rfl, h1, h2⟩
theorem DV.refI {n : Nat} {v : V} (h : DV M g (.ref n) v) : v = .ref (g.μ n) ∧ n < g.S.length := by
  cases h with
  | ref h => exact ⟨rfl, h⟩
theorem DV.intI {i : Int} {v : V} (h : DV M g (.int i) v) : v = .int i := by cases h; rfl
theorem DV.blI {i : Bool} {v : V} (h : DV M g (.bl i) v) : v = .bl i := by cases h; rfl
theorem DV.strI {i : Str} {v : V} (h : DV M g (.str i) v) : v = .str i := by cases h; rfl
theorem Rep.lst (r : Rep M g) {n : Nat} {ds : List D} (h : g.S[n]? = some (.lst ds)) : ∃ xs, g.H (g.μ n) = some (.lst xs) ∧ DVs M g ds xs := r.obj n _ h
/-- a new list -/
theorem new_lst {ds : List D} {P : D → Wd → Prop} {E : Xn → Wd → Prop} (r : Rep M g) (h : Aft M g (.ok (.ref g.S.length) (g.S ++ [.lst ds])) P E) {xs : List V} {p : Addr} (hp : g.H p = none) (hx : DVs M g ds xs) :
    P (.ref g.S.length) (g.new p (.lst ds) (.lst xs)) :=
  h _ rfl (Gr.new hp) (r.new hp ⟨xs, upd_same, hx.mono r (Gr.new hp)⟩)
theorem new_tup {ds : List D} {P : D → Wd → Prop} {E : Xn → Wd → Prop} (r : Rep M g) (h : Aft M g (.ok (.tup ds) g.S) P E) {p : Addr} {o : HO} (hp : g.H p = none) : P (.tup ds) ⟨g.μ, g.S, upd g.H p o⟩ :=
  h _ rfl (Gr.laid hp) (r.laid hp)
theorem dv_new {ds : List D} {xs : List V} (r : Rep M g) {p : Addr} (hp : g.H p = none) (hx : DVs M g ds xs) : DV M ⟨g.μ, g.S, upd g.H p (.tup xs)⟩ (.tup ds) (.ref p) :=
  .tup (.inl (.inl upd_same)) (hx.mono r (Gr.laid hp))
/-- a list is written -/
theorem put_lst {α : Type} {a : α} {n : Nat} {ds ds' : List D} {P : α → Wd → Prop} {E : Xn → Wd → Prop} (r : Rep M g) (hn : g.S[n]? = some (.lst ds)) (h : Aft M g (.ok a (g.S.set n (.lst ds'))) P E) {xs' : List V} (hx : DVs M g ds' xs') :
    P a (g.put n (.lst ds') (.lst xs')) := by
  have hl : n < g.S.length := (List.getElem?_eq_some_iff.mp hn).1
  exact h _ rfl (Gr.put hl) (r.put hl ⟨xs', upd_same, hx.mono r (Gr.put hl)⟩)
end

/-! ### + -/
def dAdd : F2 := fun x y S => match x, y with
  | .int i, .int j => .ok (.int (i + j)) S
  | .str a, .str b => if a.length + b.length ≤ sizeLine then .ok (.str (a ++ b)) S else .stuck
  | .tup a, .tup b => if a.length + b.length ≤ sizeLine then .ok (.tup (a ++ b)) S else .stuck
  | .ref a, .ref b => match S[a]?, S[b]? with
    | some (.lst ds), some (.lst es) => if ds.length + es.length ≤ sizeLine then .ok (.ref S.length) (S ++ [.lst (ds ++ es)]) else .stuck
    | _, _ => .stuck
  | _, _ => .stuck
def rAddA (K : PySem.W.Frag) : R2 := fun x y H Q => (∃ i j, x = .int i ∧ y = .int j ∧ Q (.int (i + j)) H) ∨ ((∃ i j, x = .str i ∧ y = .str j ∧ i.length + j.length ≤ sizeLine ∧ Q (.str (i ++ j)) H) ∨ (rCatA K x y H Q ∨ rCat x y H Q))
theorem op_addA {X : Cx} : OpR X (binaryOp .Add) (rAddA X.K) := op_add.or (op_add_str.or (op_catA.or op_cat))
theorem o2_add {M : Md} : Op2 M (rAddA M.K) dAdd := by
  intro g x y v u Q E r hx hy h
  unfold dAdd at h
  split at h
  · rw [hx.intI, hy.intI]
    exact .inl ⟨_, _, rfl, rfl, h.here r _ (.int _)⟩
  · split at h
    · rename_i hz
      rw [hx.strI, hy.strI]
      exact .inr (.inl ⟨_, _, rfl, rfl, hz, h.here r _ (.str _)⟩)
    · exact h.elim
  · split at h
    · rename_i ds es hz
      obtain ⟨a, xs, rfl, ha, hxs⟩ := hx.tupI
      obtain ⟨b, ys, rfl, hb, hys⟩ := hy.tupI
      refine .inr (.inr (.inl ⟨a, b, xs, ys, rfl, rfl, ha, hb, by rw [← hxs.length, ← hys.length]; exact hz, fun e => ?_, fun _ e => ?_, fun _ _ p hp => ?_⟩))
      · subst e
        cases hxs
        exact h.here r _ hy
      · subst e
        cases hys
        have q := h.here r
        rw [List.append_nil] at q
        exact q _ hx
      · exact new_tup r h hp _ (dv_new r hp (hxs.append hys))
    · exact h.elim
  · split at h
    · rename_i a b _ _ ds es ha hb
      split at h
      · rename_i hz
        obtain ⟨rfl, _⟩ := hx.refI
        obtain ⟨rfl, _⟩ := hy.refI
        obtain ⟨xs, h1, hxs⟩ := r.lst ha
        obtain ⟨ys, h2, hys⟩ := r.lst hb
        refine .inr (.inr (.inr ⟨_, _, xs, ys, rfl, rfl, h1, h2, by rw [← hxs.length, ← hys.length]; exact hz, fun p hp => ?_⟩))
        exact new_lst r h hp (hxs.append hys) _ .newRef
      · exact h.elim
    · exact h.elim
  · exact h.elim

/-! ### - -/
def dSub : F2 := fun x y S => match x, y with
  | .int i, .int j => .ok (.int (i - j)) S
  | _, _ => .stuck
theorem o2_sub {M : Md} : Op2 M (rI0 fun i j => .int (i - j)) dSub := by
  intro g x y v u Q E r hx hy h
  unfold dSub at h
  split at h
  · rw [hx.intI, hy.intI]
    exact ⟨_, _, rfl, rfl, h.here r _ (.int _)⟩
  · exact h.elim

/-! ### * -/
def szMul (i j : Int) : Bool := decide (i.natAbs.log2 + j.natAbs.log2 < 100000000)
theorem szMul.ok {i j : Int} (h : szMul i j = true) : IntMulOk i j := by
  have h3 : i.natAbs.log2 + j.natAbs.log2 < 100000000 := of_decide_eq_true h
  have b : ∀ x : Int, Builtin.Int.intBits x ≤ x.natAbs.log2 + 1 := fun x => by
    unfold Builtin.Int.intBits
    split <;> omega
  have h1 := b i
  have h2 := b j
  have e : bitsLine = 134217728 := by decide
  unfold IntMulOk
  intro z
  rw [Bool.and_eq_true] at z
  have z2 := z.2
  unfold Builtin.Int.intTooBig at z2
  have z3 := of_decide_eq_true z2
  rw [e] at z3
  omega
theorem op_mulD {X : Cx} : OpR X (binaryOp .Mult) (rI (fun i j => szMul i j = true) fun i j => .int (i * j)) := opI fun _ _ _ _ _ _ _ hc q => mul_int q (szMul.ok hc)
def dMul : F2 := fun x y S => match x, y with
  | .int i, .int j => if szMul i j = true then .ok (.int (i * j)) S else .stuck
  | .ref a, .int k => match S[a]? with
    | some (.lst ds) => if -(2 ^ 63) ≤ k ∧ k < 2 ^ 63 ∧ ds.length * k.toNat ≤ sizeLine then .ok (.ref S.length) (S ++ [.lst (List.replicate k.toNat ds).flatten]) else .stuck
    | _ => .stuck
  | .tup ds, .int k => if ds ≠ [] ∧ 2 ≤ k ∧ k ≤ 1000 ∧ ds.length ≤ 1000 then .ok (.tup (List.replicate k.toNat ds).flatten) S else .stuck
  | _, _ => .stuck
def rMulA (K : PySem.W.Frag) : R2 := fun x y H Q => rI (fun i j => szMul i j = true) (fun i j => .int (i * j)) x y H Q ∨ (rRep x y H Q ∨ rRepT K x y H Q)
theorem op_mulA {X : Cx} : OpR X (binaryOp .Mult) (rMulA X.K) := op_mulD.or (op_rep.or op_repT)
theorem o2_mul {M : Md} : Op2 M (rMulA M.K) dMul := by
  intro g x y v u Q E r hx hy h
  unfold dMul at h
  split at h
  · split at h
    · rename_i hz
      rw [hx.intI, hy.intI]
      exact .inl ⟨_, _, rfl, rfl, hz, h.here r _ (.int _)⟩
    · exact h.elim
  · split at h
    · rename_i ds ha
      split at h
      · rename_i hz
        obtain ⟨rfl, _⟩ := hx.refI
        rw [hy.intI]
        obtain ⟨xs, h1, hxs⟩ := r.lst ha
        refine .inr (.inl ⟨_, _, xs, rfl, rfl, h1, hz.1, hz.2.1, by rw [← hxs.length]; exact hz.2.2, fun p hp => ?_⟩)
        exact new_lst r h hp (hxs.rep _) _ .newRef
      · exact h.elim
    · exact h.elim
  · split at h
    · rename_i ds k hz
      obtain ⟨a, xs, rfl, ha, hxs⟩ := hx.tupI
      rw [hy.intI]
      refine .inr (.inr ⟨a, _, xs, rfl, rfl, ha, fun e => hz.1 (by subst e; cases hxs; rfl), hz.2.1, hz.2.2.1, by rw [← hxs.length]; exact hz.2.2.2, fun p hp => ?_⟩)
      exact new_tup r h hp _ (dv_new r hp (hxs.rep _))
    · exact h.elim
  · exact h.elim

/-! ### // % ** -/
def szDiv (j : Int) : Bool := decide (j ≠ 0) && decide (j.natAbs.log2 < 9000)
theorem op_fdivD {X : Cx} : OpR X (binaryOp .FloorDiv) (rI (fun _ j => szDiv j = true) fun i j => .int (i.fdiv j)) := opI fun i j _ _ _ _ _ hc q => by
  have h := Bool.and_eq_true_iff.mp hc
  exact floordiv_int (of_decide_eq_true h.1) q (.inl (PyProof.noPylong_of_log2 (of_decide_eq_true h.2)))
def dFdiv : F2 := fun x y S => match x, y with
  | .int i, .int j => if szDiv j = true then .ok (.int (i.fdiv j)) S else .stuck
  | _, _ => .stuck
theorem o2_fdiv {M : Md} : Op2 M (rI (fun _ j => szDiv j = true) fun i j => .int (i.fdiv j)) dFdiv := by
  intro g x y v u Q E r hx hy h
  unfold dFdiv at h
  split at h
  · split at h
    · rename_i hz
      rw [hx.intI, hy.intI]
      exact ⟨_, _, rfl, rfl, hz, h.here r _ (.int _)⟩
    · exact h.elim
  · exact h.elim
def dMod : F2 := fun x y S => match x, y with
  | .int i, .int j => if j = 0 then .stuck else .ok (.int (i.fmod j)) S
  | _, _ => .stuck
theorem o2_mod {M : Md} : Op2 M (rI (fun _ j => j ≠ 0) fun i j => .int (i.fmod j)) dMod := by
  intro g x y v u Q E r hx hy h
  unfold dMod at h
  split at h
  · split at h
    · exact h.elim
    · rename_i hz
      rw [hx.intI, hy.intI]
      exact ⟨_, _, rfl, rfl, hz, h.here r _ (.int _)⟩
  · exact h.elim
def dPow : F2 := fun x y S => match x, y with
  | .int i, .int j => if 0 ≤ j ∧ j ≤ 1000000 ∧ i.natAbs < 2 ^ 64 then .ok (.int (i ^ j.toNat)) S else .stuck
  | _, _ => .stuck
theorem o2_pow {M : Md} : Op2 M (rI CPow fun i j => .int (i ^ j.toNat)) dPow := by
  intro g x y v u Q E r hx hy h
  unfold dPow at h
  split at h
  · split at h
    · rename_i hz
      rw [hx.intI, hy.intI]
      exact ⟨_, _, rfl, rfl, hz, h.here r _ (.int _)⟩
    · exact h.elim
  · exact h.elim

/-! ### orders of ints -/
def dIB (p : Int → Int → Bool) : F2 := fun x y S => match x, y with
  | .int i, .int j => .ok (.bl (p i j)) S
  | _, _ => .stuck
theorem o2_ib {M : Md} {p : Int → Int → Bool} : Op2 M (rI0 fun i j => .bl (p i j)) (dIB p) := by
  intro g x y v u Q E r hx hy h
  unfold dIB at h
  split at h
  · rw [hx.intI, hy.intI]
    exact ⟨_, _, rfl, rfl, h.here r _ (.bl _)⟩
  · exact h.elim
abbrev dLt : F2 := dIB fun i j => decide (i < j)
abbrev dLe : F2 := dIB fun i j => decide (i ≤ j)
abbrev dGt : F2 := dIB fun i j => decide (j < i)
abbrev dGe : F2 := dIB fun i j => decide (j ≤ i)

/-! ### == of data -/
def toPyL (f : D → Option PyData) : List D → Option (List PyData)
  | [] => some []
  | d :: ds => match f d, toPyL f ds with
    | some a, some as => some (a :: as)
    | _, _ => none
def toPy : Nat → Sto → D → Option PyData
  | 0, _, _ => none
  | n + 1, S, d => match d with
    | .non => some .none
    | .bl b => some (.bool b)
    | .int i => some (.int i)
    | .str x => some (.str x)
    | .tup ds => (toPyL (toPy n S) ds).map .tuple
    | .fl ds => (toPyL (toPy n S) ds).map .list
    | .ref k => match S[k]? with
      | some (.lst ds) => (toPyL (toPy n S) ds).map .list
      | _ => none
    | .fn _ => none
theorem FzL.sql {K : PySem.W.Frag} {H : Hp} {a : Addr} {xs : List V} (h : FzL K H a xs) : SqL K H a xs := by
  rcases h with ⟨o, h⟩ | h
  · exact .inl (.inr ⟨o, h⟩)
  · exact .inr h
theorem toPyL_dp {M : Md} {g : Wd} {f : D → Option PyData} (hf : ∀ d v p, DV M g d v → f d = some p → Dp M.K g.H v p) : ∀ {ds : List D} {vs : List V} {ps : List PyData}, DVs M g ds vs → toPyL f ds = some ps → DpAll M.K g.H vs ps
  | [], _, _, h, e => by
    cases h
    cases (show some [] = some _ from e)
    exact .nil
  | d :: ds, _, _, h, e => by
    cases h with
    | cons h1 h2 =>
      unfold toPyL at e
      split at e
      · rename_i a as e1 e2
        cases e
        exact .cons (hf _ _ _ h1 e1) (toPyL_dp hf h2 e2)
      · cases e
theorem toPy_dp {M : Md} {g : Wd} (r : Rep M g) : ∀ (n : Nat) {d : D} {v : V} {p : PyData}, DV M g d v → toPy n g.S d = some p → Dp M.K g.H v p
  | 0, _, _, _, _, e => by cases e
  | n + 1, d, v, p, h, e => by
    have ih : ∀ d v p, DV M g d v → toPy n g.S d = some p → Dp M.K g.H v p := fun d v p => toPy_dp r n
    unfold toPy at e
    cases h with
    | non => cases e; exact .non
    | bl b => cases e; exact .bl b
    | int i => cases e; exact .int i
    | str x => cases e; exact .str x
    | tup h1 h2 =>
      simp only [Option.map_eq_some_iff] at e
      obtain ⟨ps, e1, rfl⟩ := e
      exact .tup h1 (toPyL_dp ih h2 e1)
    | fl h1 h2 =>
      simp only [Option.map_eq_some_iff] at e
      obtain ⟨ps, e1, rfl⟩ := e
      exact .lst h1.sql (toPyL_dp ih h2 e1)
    | ref h1 =>
      simp only at e
      split at e
      · rename_i ds hk
        simp only [Option.map_eq_some_iff] at e
        obtain ⟨ps, e1, rfl⟩ := e
        obtain ⟨xs, hx, hxs⟩ := r.lst hk
        exact .lst (.inl (.inl hx)) (toPyL_dp ih hxs e1)
      · cases e
    | fn i => cases e
def dEqB (neg : Bool) : F2 := fun x y S => match toPy 60 S x, toPy 60 S y with
  | some a, some b => if SeqAt.shaped a && SeqAt.shaped b then .ok (.bl (if neg then !PyData.eqv a b else PyData.eqv a b)) S else .stuck
  | _, _ => .stuck
abbrev dEq : F2 := dEqB false
abbrev dNe : F2 := dEqB true
theorem o2_eq {M : Md} : Op2 M (rEqD M.K) dEq := by
  intro g x y v u Q E r hx hy h
  unfold dEq dEqB at h
  split at h
  · rename_i a b ea eb
    split at h
    · rename_i hz
      rw [Bool.and_eq_true] at hz
      exact ⟨a, b, toPy_dp r _ hx ea, toPy_dp r _ hy eb, hz.1, hz.2, h.here r _ (.bl _)⟩
    · exact h.elim
  · exact h.elim
theorem o2_ne {M : Md} : Op2 M (rNeD M.K) dNe := by
  intro g x y v u Q E r hx hy h
  unfold dNe dEqB at h
  split at h
  · rename_i a b ea eb
    split at h
    · rename_i hz
      rw [Bool.and_eq_true] at hz
      exact ⟨a, b, toPy_dp r _ hx ea, toPy_dp r _ hy eb, hz.1, hz.2, h.here r _ (.bl _)⟩
    · exact h.elim
  · exact h.elim

/-! ### x in xs -/
def rInTD (K : PySem.W.Frag) (neg : Bool) : R2 := fun x y H Q => ∃ d ds, Dp K H x d ∧ Dp K H y (.tuple ds) ∧ SeqAt.shaped d = true ∧ SeqAt.shaped (.tuple ds) = true ∧ Q (.bl (if neg then !(ds.any fun z => PyData.eqv z d) else ds.any fun z => PyData.eqv z d)) H
theorem op_inTD {X : Cx} (hu : X.A.units + 65 < cLine) : OpR X (compareOp .In) (rInTD X.K false) := by
  intro pins s σ H x y v u Q I rx ry h
  obtain ⟨d, ds, hd, he, sd, se, q⟩ := h
  obtain ⟨as, r1⟩ := Dp.reads I d x v hd rx
  obtain ⟨bs, r2⟩ := Dp.reads I (.tuple ds) y u he ry
  exact SeqAt.in_tuple_reads r2 r1 (SeqAt.canLay_of_shaped se) (SeqAt.canLay_of_shaped sd) (room_in_shaped sd hu) ⟨.bl _, H, I, rfl, q⟩
theorem op_notInTD {X : Cx} (hu : X.A.units + 65 < cLine) : OpR X (compareOp .NotIn) (rInTD X.K true) := by
  intro pins s σ H x y v u Q I rx ry h
  obtain ⟨d, ds, hd, he, sd, se, q⟩ := h
  obtain ⟨as, r1⟩ := Dp.reads I d x v hd rx
  obtain ⟨bs, r2⟩ := Dp.reads I (.tuple ds) y u he ry
  exact SeqAt.notIn_tuple_reads r2 r1 (SeqAt.canLay_of_shaped se) (SeqAt.canLay_of_shaped sd) (room_in_shaped sd hu) ⟨.bl _, H, I, rfl, q⟩
def dInB (neg : Bool) : F2 := fun x y S => match toPy 60 S x, toPy 60 S y with
  | some a, some (.tuple ds) => if SeqAt.shaped a && SeqAt.shaped (.tuple ds) then .ok (.bl (if neg then !(ds.any fun z => PyData.eqv z a) else ds.any fun z => PyData.eqv z a)) S else .stuck
  | some a, some (.list ds) => if SeqAt.shaped a && SeqAt.shaped (.list ds) then .ok (.bl (if neg then !(ds.any fun z => PyData.eqv z a) else ds.any fun z => PyData.eqv z a)) S else .stuck
  | _, _ => .stuck
abbrev dIn : F2 := dInB false
abbrev dNotIn : F2 := dInB true
def rInA (K : PySem.W.Frag) : R2 := fun x y H Q => rInTD K false x y H Q ∨ rInD K x y H Q
def rNotInA (K : PySem.W.Frag) : R2 := fun x y H Q => rInTD K true x y H Q ∨ rNotInD K x y H Q
theorem op_inA {X : Cx} (hu : X.A.units + 65 < cLine) : OpR X (compareOp .In) (rInA X.K) := (op_inTD hu).or (op_inD hu)
theorem op_notInA {X : Cx} (hu : X.A.units + 65 < cLine) : OpR X (compareOp .NotIn) (rNotInA X.K) := (op_notInTD hu).or (op_notInD hu)
theorem o2_in {M : Md} : Op2 M (rInA M.K) dIn := by
  intro g x y v u Q E r hx hy h
  unfold dIn dInB at h
  split at h
  · rename_i a ds ea eb
    split at h
    · rename_i hz
      rw [Bool.and_eq_true] at hz
      exact .inl ⟨a, ds, toPy_dp r _ hx ea, toPy_dp r _ hy eb, hz.1, hz.2, h.here r _ (.bl _)⟩
    · exact h.elim
  · rename_i a ds ea eb
    split at h
    · rename_i hz
      rw [Bool.and_eq_true] at hz
      exact .inr ⟨a, ds, toPy_dp r _ hx ea, toPy_dp r _ hy eb, hz.1, hz.2, h.here r _ (.bl _)⟩
    · exact h.elim
  · exact h.elim
theorem o2_notIn {M : Md} : Op2 M (rNotInA M.K) dNotIn := by
  intro g x y v u Q E r hx hy h
  unfold dNotIn dInB at h
  split at h
  · rename_i a ds ea eb
    split at h
    · rename_i hz
      rw [Bool.and_eq_true] at hz
      exact .inl ⟨a, ds, toPy_dp r _ hx ea, toPy_dp r _ hy eb, hz.1, hz.2, h.here r _ (.bl _)⟩
    · exact h.elim
  · rename_i a ds ea eb
    split at h
    · rename_i hz
      rw [Bool.and_eq_true] at hz
      exact .inr ⟨a, ds, toPy_dp r _ hx ea, toPy_dp r _ hy eb, hz.1, hz.2, h.here r _ (.bl _)⟩
    · exact h.elim
  · exact h.elim

/-! ### items, slices -/
def dAt : F2 := fun x y S => match x, y with
  | .tup ds, .int i => match atI ds i with
    | some d => .ok d S
    | none => .stuck
  | .fl ds, .int i => match atI ds i with
    | some d => .ok d S
    | none => .stuck
  | .ref a, .int i => match S[a]? with
    | some (.lst ds) => match atI ds i with
      | some d => .ok d S
      | none => .stuck
    | _ => .stuck
  | _, _ => .stuck
theorem atI_dv {M : Md} {g : Wd} {ds : List D} {vs : List V} {i : Int} {d : D} (h : DVs M g ds vs) (e : atI ds i = some d) : ∃ v, atI vs i = some v ∧ DV M g d v := by
  unfold atI at e ⊢
  rw [← h.length]
  cases q : ixN ds.length i with
  | none => rw [q] at e; cases e
  | some j =>
    rw [q] at e
    exact h.get (show ds[j]? = some d from e)
theorem o2_at {M : Md} : Op2 M (rIx M.K) dAt := by
  intro g x y v u Q E r hx hy h
  unfold dAt at h
  split at h
  · split at h
    · rename_i d e
      obtain ⟨a, xs, rfl, ha, hxs⟩ := hx.tupI
      obtain ⟨w, h1, h2⟩ := atI_dv hxs e
      rw [hy.intI]
      exact .inr (.inl ⟨a, xs, _, w, rfl, rfl, ha, h1, h.here r _ h2⟩)
    · exact h.elim
  · split at h
    · rename_i d e
      cases hx with
      | fl ha hxs =>
        obtain ⟨w, h1, h2⟩ := atI_dv hxs e
        rw [hy.intI]
        exact .inl ⟨_, _, _, w, rfl, rfl, ha.sql, h1, h.here r _ h2⟩
    · exact h.elim
  · split at h
    · rename_i ds hk
      split at h
      · rename_i d e
        obtain ⟨rfl, _⟩ := hx.refI
        obtain ⟨xs, ha, hxs⟩ := r.lst hk
        obtain ⟨w, h1, h2⟩ := atI_dv hxs e
        rw [hy.intI]
        exact .inl ⟨_, _, _, w, rfl, rfl, .inl (.inl ha), h1, h.here r _ h2⟩
      · exact h.elim
    · exact h.elim
  · exact h.elim
end MP
set_option Elab.async false
set_option linter.all false
set_option maxRecDepth 100000
set_option maxHeartbeats 4000000
/-! Tests, displays, slices, calls. -/
namespace MP
open PySem PySem.Spec PyProof.Rows L2

/-! ### tests -/
abbrev Ft := Rho → Sto → Rs Bool
def tT (M : Md) (W : WX) (f : Ft) : TT := fun σ H Q => ∃ g ρ, g.H = H ∧ Rep M g ∧ EnvOk M g ρ σ ∧ Aft M g (f ρ g.S) (fun b g' => Q b g'.H) (XD M W σ)
abbrev MT (M : Md) (X : Cx) (W : WX) (e : Expr) (f : Ft) : Prop := PT X e (tT M W f)
theorem tT.go {M : Md} {W : WX} {f : Ft} {σ : L2.St} {g : Wd} {ρ : Rho} {Q : Bool → Hp → Prop} (r : Rep M g) (e : EnvOk M g ρ σ) (h : Aft M g (f ρ g.S) (fun b g' => Q b g'.H) (XD M W σ)) : tT M W f σ g.H Q := ⟨g, ρ, rfl, r, e, h⟩
def asB : D → Sto → Rs Bool := fun d S => match d with
  | .bl b => .ok b S
  | _ => .stuck
/-- a value that is a truth value, as a test -/
def fB (f : Fe) : Ft := fun ρ S => (f ρ S).bind asB
def truD : D → Sto → Rs Bool := fun d S => match d with
  | .non => .ok false S
  | .bl b => .ok b S
  | .int i => .ok (i != 0) S
  | .str x => if x.length ≤ sizeLine then .ok ((x.length : Int) != 0) S else .stuck
  | .tup ds => .ok (!ds.isEmpty) S
  | .fl ds => .ok (!ds.isEmpty) S
  | .ref n => match S[n]? with
    | some (.lst ds) => .ok (!ds.isEmpty) S
    | some (.dk kvs) => .ok (!kvs.isEmpty) S
    | _ => .stuck
  | .fn _ => .stuck
/-- any value as a test -/
def fTru (f : Fe) : Ft := fun ρ S => (f ρ S).bind truD
theorem isEmpty_dvs {M : Md} {g : Wd} {ds : List D} {xs : List V} (h : DVs M g ds xs) : ds.isEmpty = xs.isEmpty := by
  cases h <;> rfl
section
variable {M : Md} {X : Cx} {W : WX}
theorem asB_q {g : Wd} {d : D} {v : V} {Q : Bool → Hp → Prop} {E : Xn → Wd → Prop} (r : Rep M g) (hv : DV M g d v) (h : Aft M g (asB d g.S) (fun b g' => Q b g'.H) E) : ∃ k, v = .bl k ∧ Q k g.H := by
  unfold asB at h
  split at h
  · exact ⟨_, hv.blI, h.here r⟩
  · exact h.elim
theorem fB_t {f : Fe} {σ : L2.St} {H : Hp} {Q : Bool → Hp → Prop} (q : tT M W (fB f) σ H Q) : tE M W f σ H fun x H1 => ∃ k, x = .bl k ∧ Q k H1 := by
  obtain ⟨g, ρ, rfl, rp, en, q⟩ := q
  have q := Aft.bind (k := asB) q
  exact tE.go rp en (q.mono (fun d g1 k1 r1 q1 v hv => asB_q r1 hv q1) fun _ _ _ _ z => z)
theorem mt_val {e : Expr} {f : Fe} (h : ME M X W e f) (he : ∀ whole, isTrue e X.env whole = (do let v ← whole; standAt e.pos; holding [v] (truthy v)) := by intro _; rfl) : MT M X W e (fB f) :=
  PT.imp (pt_val h he) fun _ _ _ q => fB_t q
theorem mt_cmp {a b : Expr} {op : CmpOp} {pos : Pos} {r : R2} {f : F2} {fa fb : Fe} (ho : OpR X (compareOp op) r) (h : Op2 M r f) (ha : ME M X W a fa) (hb : ME M X W b fb) (hm : behindInMarks op b = false) : MT M X W (.Compare a [op] [b] pos) (fB (d2 f fa fb)) :=
  PT.imp (pt_cmpR ho ha hb hm) fun _ _ _ q => two h (fB_t q)
theorem truD_q {g : Wd} {d : D} {v : V} {Q : Bool → Hp → Prop} {E : Xn → Wd → Prop} (r : Rep M g) (hv : DV M g d v) (h : Aft M g (truD d g.S) (fun b g' => Q b g'.H) E) : ∃ k, TruV M.K v g.H k ∧ Q k g.H := by
  unfold truD at h
  cases hv with
  | non => exact ⟨_, rfl, h.here r⟩
  | bl b => exact ⟨_, rfl, h.here r⟩
  | int i => exact ⟨_, rfl, h.here r⟩
  | str x =>
    simp only at h
    split at h
    · rename_i hz; exact ⟨_, ⟨hz, rfl⟩, h.here r⟩
    · exact h.elim
  | tup h1 h2 => exact ⟨_, .inr (.inl ⟨_, h1, rfl⟩), by rw [← isEmpty_dvs h2]; exact h.here r⟩
  | fl h1 h2 => exact ⟨_, .inl ⟨_, h1.sql, rfl⟩, by rw [← isEmpty_dvs h2]; exact h.here r⟩
  | ref hn =>
    simp only at h
    split at h
    · rename_i ds hk
      obtain ⟨xs, hx, hxs⟩ := r.lst hk
      exact ⟨_, .inl ⟨xs, .inl (.inl hx), rfl⟩, by rw [← isEmpty_dvs hxs]; exact h.here r⟩
    · rename_i kvs hk
      obtain ⟨ws, hx, hxs⟩ := r.obj _ _ hk
      refine ⟨_, .inr (.inr ⟨ws, hx, rfl⟩), ?_⟩
      have e : kvs.isEmpty = ws.isEmpty := by cases hxs <;> rfl
      rw [← e]; exact h.here r
    · exact h.elim
  | fn i => exact h.elim
theorem mt_tru (hK : X.K = M.K) {e : Expr} {f : Fe} (h : ME M X W e f) (he : ∀ whole, isTrue e X.env whole = (do let v ← whole; standAt e.pos; holding [v] (truthy v)) := by intro _; rfl) : MT M X W e (fTru f) :=
  PT.imp (pt_truth h he) fun σ H Q q => by
    obtain ⟨g, ρ, rfl, rp, en, q⟩ := q
    have q := Aft.bind (k := truD) q
    rw [hK]
    exact tE.go rp en (q.mono (fun d g1 k1 r1 q1 v hv => truD_q r1 hv q1) fun _ _ _ _ z => z)

/-! ### and, or, not -/
abbrev MW (M : Md) (X : Cx) (W : WX) (e : Expr) (f : Ft) : Prop := PW X e (tT M W f)
theorem PW.imp {e : Expr} {t t' : TT} (h : PW X e t) (i : ∀ σ H Q, t' σ H Q → t σ H Q) : PW X e t' := ⟨fun wh pins s σ H Q I h' => h.run wh pins s σ H Q I (i σ H Q h')⟩
def fAnd (a b : Ft) : Ft := fun ρ S => (a ρ S).bind fun c S1 => if c = true then b ρ S1 else .ok false S1
def fOr (a b : Ft) : Ft := fun ρ S => (a ρ S).bind fun c S1 => if c = true then .ok true S1 else b ρ S1
def fNot (a : Ft) : Ft := fun ρ S => (a ρ S).bind fun c S1 => .ok (!c) S1
theorem mw_and1 {a : Expr} {pos : Pos} {fa : Ft} (ha : MT M X W a fa) : MW M X W (.BoolOp .And [a] pos) fa := pw_and1 ha
theorem mw_or1 {a : Expr} {pos : Pos} {fa : Ft} (ha : MT M X W a fa) : MW M X W (.BoolOp .Or [a] pos) fa := pw_or1 ha
theorem mw_and {a b : Expr} {rest : List Expr} {pos : Pos} {fa fb : Ft} (ha : MT M X W a fa) (hb : MW M X W (.BoolOp .And (b :: rest) pos) fb) : MW M X W (.BoolOp .And (a :: b :: rest) pos) (fAnd fa fb) :=
  PW.imp (pw_and ha hb) fun σ H Q q => by
    obtain ⟨g, ρ, rfl, rp, en, q⟩ := q
    have q := Aft.bind (k := fun c S1 => if c = true then fb ρ S1 else .ok false S1) q
    refine tT.go rp en (q.mono (fun c g1 k1 r1 q1 => ?_) fun _ _ _ _ z => z)
    cases c with
    | true => exact iteT (tT.go r1 (en.mono rp k1) q1)
    | false => exact iteF (Aft.here r1 q1)
theorem mw_or {a b : Expr} {rest : List Expr} {pos : Pos} {fa fb : Ft} (ha : MT M X W a fa) (hb : MW M X W (.BoolOp .Or (b :: rest) pos) fb) : MW M X W (.BoolOp .Or (a :: b :: rest) pos) (fOr fa fb) :=
  PW.imp (pw_or ha hb) fun σ H Q q => by
    obtain ⟨g, ρ, rfl, rp, en, q⟩ := q
    have q := Aft.bind (k := fun c S1 => if c = true then .ok true S1 else fb ρ S1) q
    refine tT.go rp en (q.mono (fun c g1 k1 r1 q1 => ?_) fun _ _ _ _ z => z)
    cases c with
    | true => exact iteT (Aft.here r1 q1)
    | false => exact iteF (tT.go r1 (en.mono rp k1) q1)
theorem mt_not {a : Expr} {pos : Pos} {fa : Ft} (ha : MT M X W a fa) : MT M X W (.UnaryOp .Not a pos) (fNot fa) :=
  PT.imp (pt_not ha) fun σ H Q q => by
    obtain ⟨g, ρ, rfl, rp, en, q⟩ := q
    have q := Aft.bind (k := fun c S1 => .ok (!c) S1) q
    exact tT.go rp en (q.mono (fun c g1 k1 r1 q1 => Aft.here r1 q1) fun _ _ _ _ z => z)
/-- as values -/
def dAnd (a b : Fe) : Fe := fun ρ S => (a ρ S).bind fun d S1 => match d with
  | .bl true => b ρ S1
  | .bl false => .ok (.bl false) S1
  | _ => .stuck
def dOr (a b : Fe) : Fe := fun ρ S => (a ρ S).bind fun d S1 => match d with
  | .bl true => .ok (.bl true) S1
  | .bl false => b ρ S1
  | _ => .stuck
def dNot (a : Fe) : Fe := fun ρ S => (a ρ S).bind fun d S1 => match d with
  | .bl b => .ok (.bl (!b)) S1
  | _ => .stuck
theorem me_one {a : Expr} {op : BoolOp} {pos : Pos} {fa : Fe} (ha : ME M X W a fa) : ME M X W (.BoolOp op [a] pos) fa := pe_one ha
theorem me_and {a b : Expr} {rest : List Expr} {pos : Pos} {fa fb : Fe} (ha : ME M X W a fa) (hb : ME M X W (.BoolOp .And (b :: rest) pos) fb) : ME M X W (.BoolOp .And (a :: b :: rest) pos) (dAnd fa fb) :=
  PE.imp (pe_and ha hb) fun σ H Q q => by
    obtain ⟨g, ρ, rfl, rp, en, q⟩ := q
    have q := Aft.bind (β := D) (k := fun (d : D) S1 => match d with
      | .bl true => fb ρ S1
      | .bl false => .ok (.bl false) S1
      | _ => .stuck) q
    refine tE.go rp en (q.mono (fun d g1 k1 r1 q1 v hv => ?_) fun _ _ _ _ z => z)
    split at q1
    · exact ⟨true, hv.blI, iteT (tE.go r1 (en.mono rp k1) q1)⟩
    · exact ⟨false, hv.blI, iteF (Aft.here r1 q1 _ (.bl _))⟩
    · exact q1.elim
theorem me_or {a b : Expr} {rest : List Expr} {pos : Pos} {fa fb : Fe} (ha : ME M X W a fa) (hb : ME M X W (.BoolOp .Or (b :: rest) pos) fb) : ME M X W (.BoolOp .Or (a :: b :: rest) pos) (dOr fa fb) :=
  PE.imp (pe_or ha hb) fun σ H Q q => by
    obtain ⟨g, ρ, rfl, rp, en, q⟩ := q
    have q := Aft.bind (β := D) (k := fun (d : D) S1 => match d with
      | .bl true => .ok (.bl true) S1
      | .bl false => fb ρ S1
      | _ => .stuck) q
    refine tE.go rp en (q.mono (fun d g1 k1 r1 q1 v hv => ?_) fun _ _ _ _ z => z)
    split at q1
    · exact ⟨true, hv.blI, iteT (Aft.here r1 q1 _ (.bl _))⟩
    · exact ⟨false, hv.blI, iteF (tE.go r1 (en.mono rp k1) q1)⟩
    · exact q1.elim
theorem me_not {a : Expr} {pos : Pos} {fa : Fe} (ha : ME M X W a fa) : ME M X W (.UnaryOp .Not a pos) (dNot fa) :=
  PE.imp (pe_not ha) fun σ H Q q => by
    obtain ⟨g, ρ, rfl, rp, en, q⟩ := q
    have q := Aft.bind (β := D) (k := fun (d : D) S1 => match d with
      | .bl b => .ok (.bl (!b)) S1
      | _ => .stuck) q
    refine tE.go rp en (q.mono (fun d g1 k1 r1 q1 v hv => ?_) fun _ _ _ _ z => z)
    split at q1
    · exact ⟨_, hv.blI, Aft.here r1 q1 _ (.bl _)⟩
    · exact q1.elim
def dIf (c : Ft) (a b : Fe) : Fe := fun ρ S => (c ρ S).bind fun k S1 => if k = true then a ρ S1 else b ρ S1
theorem me_if {c a b : Expr} {pos : Pos} {fc : Ft} {fa fb : Fe} (hc : MT M X W c fc) (ha : ME M X W a fa) (hb : ME M X W b fb) : ME M X W (.IfExp c a b pos) (dIf fc fa fb) :=
  PE.imp (pe_ifExp hc ha hb) fun σ H Q q => by
    obtain ⟨g, ρ, rfl, rp, en, q⟩ := q
    have q := Aft.bind (k := fun k S1 => if k = true then fa ρ S1 else fb ρ S1) q
    refine tT.go rp en (q.mono (fun c g1 k1 r1 q1 => ?_) fun _ _ _ _ z => z)
    cases c with
    | true => exact iteT (tE.go r1 (en.mono rp k1) q1)
    | false => exact iteF (tE.go r1 (en.mono rp k1) q1)
def dNeg : Fe → Fe := fun a ρ S => (a ρ S).bind fun d S1 => match d with
  | .int i => .ok (.int (-i)) S1
  | _ => .stuck
theorem me_neg {a : Expr} {pos : Pos} {fa : Fe} (ha : ME M X W a fa) : ME M X W (.UnaryOp .USub a pos) (dNeg fa) :=
  PE.imp (pe_un un_neg ha) fun σ H Q q => by
    obtain ⟨g, ρ, rfl, rp, en, q⟩ := q
    have q := Aft.bind (β := D) (k := fun (d : D) S1 => match d with
      | .int i => .ok (.int (-i)) S1
      | _ => .stuck) q
    refine tE.go rp en (q.mono (fun d g1 k1 r1 q1 v hv => ?_) fun _ _ _ _ z => z)
    split at q1
    · exact ⟨_, hv.intI, Aft.here r1 q1 _ (.int _)⟩
    · exact q1.elim
/-- is None -/
def isNonD : D → Bool
  | .non => true
  | _ => false
theorem isNonD_v {g : Wd} {d : D} {v : V} (h : DV M g d v) : isNonD d = decide (v = .non) := by
  cases h <;> rfl
def dIsN (neg : Bool) (a : Fe) : Fe := fun ρ S => (a ρ S).bind fun d S1 => .ok (.bl (if neg then !isNonD d else isNonD d)) S1
theorem isn_t {a : Fe} {σ : L2.St} {H : Hp} {Q : VK} (q : tE M W (dIsN false a) σ H Q) : tIsN (tE M W a) σ H Q := by
  obtain ⟨g, ρ, rfl, rp, en, q⟩ := q
  have q := Aft.bind (β := D) (k := fun (d : D) S1 => .ok (.bl (if false then !isNonD d else isNonD d)) S1) q
  refine tE.go rp en (q.mono (fun d g1 k1 r1 q1 v hv => ?_) fun _ _ _ _ z => z)
  show Q (V.bl (decide (v = V.non))) g1.H
  rw [← isNonD_v hv]
  exact Aft.here r1 q1 _ (.bl _)
theorem isnt_t {a : Fe} {σ : L2.St} {H : Hp} {Q : VK} (q : tE M W (dIsN true a) σ H Q) : tNotN (tE M W a) σ H Q := by
  obtain ⟨g, ρ, rfl, rp, en, q⟩ := q
  have q := Aft.bind (β := D) (k := fun (d : D) S1 => .ok (.bl (if true then !isNonD d else isNonD d)) S1) q
  refine tE.go rp en (q.mono (fun d g1 k1 r1 q1 v hv => ?_) fun _ _ _ _ z => z)
  show Q (V.bl (!decide (v = V.non))) g1.H
  rw [← isNonD_v hv]
  exact Aft.here r1 q1 _ (.bl _)
theorem me_isn {a : Expr} {j : Nat} {pos pos' : Pos} {fa : Fe} (ha : ME M X W a fa) : ME M X W (.Compare a [.Is] [.Constant .none j pos'] pos) (dIsN false fa) := PE.imp (pe_cmp (pc_isN ha) rfl) fun _ _ _ q => isn_t q
theorem me_isnt {a : Expr} {j : Nat} {pos pos' : Pos} {fa : Fe} (ha : ME M X W a fa) : ME M X W (.Compare a [.IsNot] [.Constant .none j pos'] pos) (dIsN true fa) := PE.imp (pe_cmp (pc_notN ha) rfl) fun _ _ _ q => isnt_t q
theorem mt_isn {a : Expr} {j : Nat} {pos pos' : Pos} {fa : Fe} (ha : ME M X W a fa) : MT M X W (.Compare a [.Is] [.Constant .none j pos'] pos) (fB (dIsN false fa)) := PT.imp (pt_cmp (pc_isN ha) rfl) fun _ _ _ q => isn_t (fB_t q)
theorem mt_isnt {a : Expr} {j : Nat} {pos pos' : Pos} {fa : Fe} (ha : ME M X W a fa) : MT M X W (.Compare a [.IsNot] [.Constant .none j pos'] pos) (fB (dIsN true fa)) := PT.imp (pt_cmp (pc_notN ha) rfl) fun _ _ _ q => isnt_t (fB_t q)

/-! ### a op b op' c -/
def dChain (op op' : F2) (fa fb fc : Fe) : Fe := fun ρ S => (fa ρ S).bind fun x S1 => (fb ρ S1).bind fun y S2 => (op x y S2).bind fun z S3 => match z with
  | .bl true => (fc ρ S3).bind fun w S4 => op' y w S4
  | .bl false => .ok (.bl false) S3
  | _ => .stuck
theorem chain_t {fa fb fc : Fe} {op op' : F2} {r r' : R2} (h : Op2 M r op) (h' : Op2 M r' op') {σ : L2.St} {H : Hp} {Q : VK} (q : tE M W (dChain op op' fa fb fc) σ H Q) : tChain r r' (tE M W fa) (tE M W fb) (tE M W fc) σ H Q := by
  obtain ⟨g, ρ, rfl, rp, en, q⟩ := q
  have q := Aft.bind (k := fun x S1 => (fb ρ S1).bind fun y S2 => (op x y S2).bind fun z S3 => match z with
    | .bl true => (fc ρ S3).bind fun w S4 => op' y w S4
    | .bl false => .ok (.bl false) S3
    | _ => .stuck) q
  refine tE.go rp en (q.mono (fun x g1 k1 r1 q1 v hv => ?_) fun _ _ _ _ z => z)
  have q1 := Aft.bind (k := fun y S2 => (op x y S2).bind fun z S3 => match z with
    | .bl true => (fc ρ S3).bind fun w S4 => op' y w S4
    | .bl false => .ok (.bl false) S3
    | _ => .stuck) q1
  refine tE.go r1 (en.mono rp k1) (q1.mono (fun y g2 k2 r2 q2 u hu => ?_) fun _ _ _ _ z => z)
  have q2 := Aft.bind (β := D) (k := fun (z : D) S3 => match z with
    | .bl true => (fc ρ S3).bind fun w S4 => op' y w S4
    | .bl false => .ok (.bl false) S3
    | _ => .stuck) q2
  refine h g2 x y v u _ _ r2 (hv.mono r1 k2) hu (q2.mono (fun z g3 k3 r3 q3 zv hz => ?_) fun _ _ _ _ z => z)
  split at q3
  · refine ⟨true, hz.blI, iteT ?_⟩
    have q3 := Aft.bind (k := fun w S4 => op' y w S4) q3
    refine tE.go r3 (((en.mono rp k1).mono r1 k2).mono r2 k3) (q3.mono (fun w g4 k4 r4 q4 wv hw => ?_) fun _ _ _ _ z => z)
    exact h' g4 y w u wv _ _ r4 ((hu.mono r2 k3).mono r3 k4) hw q4
  · exact ⟨false, hz.blI, iteF (Aft.here r3 q3 _ (.bl _))⟩
  · exact q3.elim
theorem me_chain {a b c : Expr} {op op' : CmpOp} {pos : Pos} {r r' : R2} {f f' : F2} {fa fb fc : Fe} (ho : OpR X (compareOp op) r) (h : Op2 M r f) (ho' : OpR X (compareOp op') r') (h' : Op2 M r' f') (ha : ME M X W a fa) (hb : ME M X W b fb) (hc : ME M X W c fc)
    (hm : lastMarks [op, op'] [b, c] = false := by with_unfolding_all rfl) : ME M X W (.Compare a [op, op'] [b, c] pos) (dChain f f' fa fb fc) :=
  PE.imp (pe_chain ho ho' ha hb hc hm) fun _ _ _ q => chain_t h h' q
theorem mt_chain {a b c : Expr} {op op' : CmpOp} {pos : Pos} {r r' : R2} {f f' : F2} {fa fb fc : Fe} (ho : OpR X (compareOp op) r) (h : Op2 M r f) (ho' : OpR X (compareOp op') r') (h' : Op2 M r' f') (ha : ME M X W a fa) (hb : ME M X W b fb) (hc : ME M X W c fc)
    (hm : lastMarks [op, op'] [b, c] = false := by with_unfolding_all rfl) : MT M X W (.Compare a [op, op'] [b, c] pos) (fB (dChain f f' fa fb fc)) :=
  PT.imp (pt_chain ho ho' ha hb hc hm) fun _ _ _ q => chain_t h h' (fB_t q)

/-! ### lists of expressions, displays -/
abbrev Fs := Rho → Sto → Rs (List D)
abbrev PDs (M : Md) (Q : List V → Hp → Prop) : List D → Wd → Prop := fun ds g => ∀ vs, DVs M g ds vs → Q vs g.H
def tA (M : Md) (W : WX) (f : Fs) : TA := fun σ H Q => ∃ g ρ, g.H = H ∧ Rep M g ∧ EnvOk M g ρ σ ∧ Aft M g (f ρ g.S) (PDs M Q) (XD M W σ)
abbrev MA (M : Md) (X : Cx) (W : WX) (es : List Expr) (f : Fs) : Prop := PA X es (tA M W f)
theorem tA.go {f : Fs} {σ : L2.St} {g : Wd} {ρ : Rho} {Q : List V → Hp → Prop} (r : Rep M g) (e : EnvOk M g ρ σ) (h : Aft M g (f ρ g.S) (PDs M Q) (XD M W σ)) : tA M W f σ g.H Q := ⟨g, ρ, rfl, r, e, h⟩
def aNil : Fs := fun _ S => .ok [] S
def aCons (a : Fe) (r : Fs) : Fs := fun ρ S => (a ρ S).bind fun d S1 => (r ρ S1).bind fun ds S2 => .ok (d :: ds) S2
def itemsD : D → Sto → Option (List D) := fun d S => match d with
  | .tup ds => some ds
  | .fl ds => some ds
  | .ref n => match S[n]? with
    | some (.lst ds) => some ds
    | _ => none
  | _ => none
theorem itemsD_v {g : Wd} {d : D} {v : V} {ds : List D} (r : Rep M g) (h : DV M g d v) (e : itemsD d g.S = some ds) : ∃ a xs, v = .ref a ∧ (SqT M.K g.H a xs ∨ SqL M.K g.H a xs) ∧ DVs M g ds xs := by
  unfold itemsD at e
  cases h with
  | tup h1 h2 => cases e; exact ⟨_, _, rfl, .inl h1, h2⟩
  | fl h1 h2 => cases e; exact ⟨_, _, rfl, .inr h1.sql, h2⟩
  | ref hn =>
    simp only at e
    split at e
    · rename_i es hk
      cases e
      obtain ⟨xs, hx, hxs⟩ := r.lst hk
      exact ⟨_, xs, rfl, .inr (.inl (.inl hx)), hxs⟩
    · cases e
  | _ => cases e
def aStar (a : Fe) (r : Fs) : Fs := fun ρ S => (a ρ S).bind fun d S1 => match itemsD d S1 with
  | some es => (r ρ S1).bind fun ds S2 => .ok (es ++ ds) S2
  | none => .stuck
theorem ma_nil : MA M X W [] aNil := PA.imp pa_nil fun σ H Q q => by
  obtain ⟨g, ρ, rfl, rp, en, q⟩ := q
  exact Aft.here rp q _ .nil
theorem ma_cons {e : Expr} {es : List Expr} {fa : Fe} {fr : Fs} (ha : ME M X W e fa) (hr : MA M X W es fr) (hs : starEach (e :: es) X.env = (false, eval e X.env) :: starEach es X.env := by rfl) : MA M X W (e :: es) (aCons fa fr) :=
  PA.imp (pa_cons ha hr hs) fun σ H Q q => by
    obtain ⟨g, ρ, rfl, rp, en, q⟩ := q
    have q := Aft.bind (k := fun d S1 => (fr ρ S1).bind fun ds S2 => .ok (d :: ds) S2) q
    refine tE.go rp en (q.mono (fun x g1 k1 r1 q1 v hv => ?_) fun _ _ _ _ z => z)
    have q1 := Aft.bind (k := fun ds S2 => .ok (x :: ds) S2) q1
    refine tA.go r1 (en.mono rp k1) (q1.mono (fun ds g2 k2 r2 q2 vs hvs => ?_) fun _ _ _ _ z => z)
    exact Aft.here r2 q2 _ (.cons (hv.mono r1 k2) hvs)
theorem ma_star (hK : X.K = M.K) {e : Expr} {p : Pos} {es : List Expr} {fa : Fe} {fr : Fs} (ha : ME M X W e fa) (hr : MA M X W es fr) (hs : starEach (.Starred e p :: es) X.env = (true, eval e X.env) :: starEach es X.env := by rfl) : MA M X W (.Starred e p :: es) (aStar fa fr) :=
  PA.imp (StX.pa_star ha hr hs) fun σ H Q q => by
    obtain ⟨g, ρ, rfl, rp, en, q⟩ := q
    have q := Aft.bind (β := List D) (k := fun (d : D) S1 => match itemsD d S1 with
      | some es => (fr ρ S1).bind fun ds S2 => .ok (es ++ ds) S2
      | none => .stuck) q
    refine tE.go rp en (q.mono (fun x g1 k1 r1 q1 v hv => ?_) fun _ _ _ _ z => z)
    split at q1
    · rename_i es he
      obtain ⟨a, xs, rfl, hx, hxs⟩ := itemsD_v r1 hv he
      rw [hK]
      refine ⟨a, xs, rfl, hx, ?_⟩
      have q1 := Aft.bind (k := fun ds S2 => .ok (es ++ ds) S2) q1
      refine tA.go r1 (en.mono rp k1) (q1.mono (fun ds g2 k2 r2 q2 vs hvs => ?_) fun _ _ _ _ z => z)
      exact Aft.here r2 q2 _ ((DVs.mono r1 k2 hxs).append hvs)
    · exact q1.elim
def mkTup (f : Fs) : Fe := fun ρ S => (f ρ S).bind fun ds S1 => if ds.length ≤ sizeLine then .ok (.tup ds) S1 else .stuck
def mkLst (f : Fs) : Fe := fun ρ S => (f ρ S).bind fun ds S1 => if ds.length ≤ sizeLine then .ok (.ref S1.length) (S1 ++ [.lst ds]) else .stuck
theorem me_tup {es : List Expr} {k : Nat} {pos : Pos} {f : Fs} (h : MA M X W es f) : ME M X W (.Tuple es k pos) (mkTup f) :=
  PE.imp (pe_tup h) fun σ H Q q => by
    obtain ⟨g, ρ, rfl, rp, en, q⟩ := q
    have q := Aft.bind (β := D) (k := fun (ds : List D) S1 => if ds.length ≤ sizeLine then .ok (.tup ds) S1 else .stuck) q
    refine tA.go rp en (q.mono (fun ds g1 k1 r1 q1 vs hvs => ?_) fun _ _ _ _ z => z)
    split at q1
    · rename_i hz
      exact ⟨by rw [← hvs.length]; exact hz, fun p hp => new_tup r1 q1 hp _ (dv_new r1 hp hvs)⟩
    · exact q1.elim
theorem me_lst {es : List Expr} {pos : Pos} {f : Fs} (h : MA M X W es f) : ME M X W (.List es pos) (mkLst f) :=
  PE.imp (pe_lst h) fun σ H Q q => by
    obtain ⟨g, ρ, rfl, rp, en, q⟩ := q
    have q := Aft.bind (β := D) (k := fun (ds : List D) S1 => if ds.length ≤ sizeLine then .ok (.ref S1.length) (S1 ++ [.lst ds]) else .stuck) q
    refine tA.go rp en (q.mono (fun ds g1 k1 r1 q1 vs hvs => ?_) fun _ _ _ _ z => z)
    split at q1
    · rename_i hz
      exact ⟨by rw [← hvs.length]; exact hz, fun p hp => new_lst r1 q1 hp hvs _ .newRef⟩
    · exact q1.elim

/-! ### slices -/
abbrev Fo := Rho → Sto → Rs (Option Int)
def tO (M : Md) (W : WX) (f : Fo) : TO := fun σ H Q => ∃ g ρ, g.H = H ∧ Rep M g ∧ EnvOk M g ρ σ ∧ Aft M g (f ρ g.S) (fun o g' => Q o g'.H) (XD M W σ)
theorem PO.imp {e : Option Expr} {t t' : TO} (h : PO X e t) (i : ∀ σ H Q, t' σ H Q → t σ H Q) : PO X e t' := ⟨fun pins s σ H Q I h' => h.run pins s σ H Q I (i σ H Q h')⟩
def oNone : Fo := fun _ S => .ok none S
def oSome (a : Fe) : Fo := fun ρ S => (a ρ S).bind fun d S1 => match d with
  | .int i => .ok (some i) S1
  | _ => .stuck
theorem mo_none : PO X none (tO M W oNone) := PO.imp po_none fun σ H Q q => by
  obtain ⟨g, ρ, rfl, rp, en, q⟩ := q
  exact Aft.here rp q
theorem mo_some {e : Expr} {fa : Fe} (h : ME M X W e fa) : PO X (some e) (tO M W (oSome fa)) := PO.imp (po_some h) fun σ H Q q => by
  obtain ⟨g, ρ, rfl, rp, en, q⟩ := q
  have q := Aft.bind (β := Option Int) (k := fun (d : D) S1 => match d with
    | .int i => .ok (some i) S1
    | _ => .stuck) q
  refine tE.go rp en (q.mono (fun x g1 k1 r1 q1 v hv => ?_) fun _ _ _ _ z => z)
  split at q1
  · exact ⟨_, hv.intI, Aft.here r1 q1⟩
  · exact q1.elim
def cutD (ds : List D) (lo hi : Option Int) : List D := (ds.drop (HT.sIx ds.length 0 lo)).take (HT.sIx ds.length ds.length hi - HT.sIx ds.length 0 lo)
theorem cut_dv {g : Wd} {ds : List D} {xs : List V} (h : DVs M g ds xs) (lo hi : Option Int) : DVs M g (cutD ds lo hi) (cutV xs lo hi) := by
  unfold cutD cutV
  rw [h.length]
  exact (h.drop _).take _
def sliceD : D → Option Int → Option Int → Sto → Rs D := fun d lo hi S => match d with
  | .tup ds => .ok (.tup (cutD ds lo hi)) S
  | .fl ds => .ok (.ref S.length) (S ++ [.lst (cutD ds lo hi)])
  | .ref n => match S[n]? with
    | some (.lst ds) => .ok (.ref S.length) (S ++ [.lst (cutD ds lo hi)])
    | _ => .stuck
  | .str z => if z.length ≤ sizeLine then .ok (.str (cutS z lo hi)) S else .stuck
  | _ => .stuck
def dSlice (a : Fe) (lo hi : Fo) : Fe := fun ρ S => (a ρ S).bind fun d S1 => (lo ρ S1).bind fun l S2 => (hi ρ S2).bind fun h S3 => sliceD d l h S3
def rSlX (K : PySem.W.Frag) : V → Option Int → Option Int → Hp → VK → Prop := fun x lo hi H Q => rSlA K x lo hi H Q ∨ (rSlL K x lo hi H Q ∨ rSlS x lo hi H Q)
theorem sl_any : SlR X (rSlX X.K) := sl_tupA.or (sl_list.or sl_str)
theorem me_slice (hK : X.K = M.K) {a : Expr} {lo hi : Option Expr} {pos p2 : Pos} {fa : Fe} {fl fh : Fo} (ha : ME M X W a fa) (hl : PO X lo (tO M W fl)) (hh : PO X hi (tO M W fh)) : ME M X W (.Subscript a (.Slice lo hi none p2) pos) (dSlice fa fl fh) :=
  PE.imp (pe_slice sl_any ha hl hh) fun σ H Q q => by
    obtain ⟨g, ρ, rfl, rp, en, q⟩ := q
    have q := Aft.bind (k := fun d S1 => (fl ρ S1).bind fun l S2 => (fh ρ S2).bind fun h S3 => sliceD d l h S3) q
    refine tE.go rp en (q.mono (fun x g1 k1 r1 q1 v hv => ?_) fun _ _ _ _ z => z)
    have q1 := Aft.bind (k := fun l S2 => (fh ρ S2).bind fun h S3 => sliceD x l h S3) q1
    refine ⟨g1, ρ, rfl, r1, en.mono rp k1, q1.mono (fun l g2 k2 r2 q2 => ?_) fun _ _ _ _ z => z⟩
    have q2 := Aft.bind (k := fun h S3 => sliceD x l h S3) q2
    refine ⟨g2, ρ, rfl, r2, (en.mono rp k1).mono r1 k2, q2.mono (fun h g3 k3 r3 q3 => ?_) fun _ _ _ _ z => z⟩
    have hv3 := (hv.mono r1 k2).mono r2 k3
    rw [hK]
    unfold sliceD at q3
    split at q3
    · obtain ⟨a, xs, rfl, hx, hxs⟩ := hv3.tupI
      refine .inl ⟨a, xs, rfl, hx, fun e => ?_, fun _ p hp => new_tup r3 q3 hp _ (dv_new r3 hp (cut_dv hxs l h))⟩
      have e2 : ∀ ds : List D, DVs M g3 ds xs → cutD ds l h = ds := fun ds hd => by
        unfold cutD
        rw [hd.length, e.1, e.2, List.drop_zero, Nat.sub_zero, ← hd.length, List.take_length]
      rw [e2 _ hxs] at q3
      exact Aft.here r3 q3 _ hv3
    · cases hv3 with
      | fl hx hxs => exact .inr (.inl ⟨_, _, rfl, hx.sql, fun p hp => new_lst r3 q3 hp (cut_dv hxs l h) _ .newRef⟩)
    · split at q3
      · rename_i ds hk
        obtain ⟨rfl, _⟩ := hv3.refI
        obtain ⟨xs, hx, hxs⟩ := r3.lst hk
        exact .inr (.inl ⟨_, xs, rfl, .inl (.inl hx), fun p hp => new_lst r3 q3 hp (cut_dv hxs l h) _ .newRef⟩)
      · exact q3.elim
    · split at q3
      · rename_i z hz
        rw [hv3.strI]
        exact .inr (.inr ⟨_, rfl, hz, Aft.here r3 q3 _ (.str _)⟩)
      · exact q3.elim
    · exact q3.elim

/-! ### calls of built-in functions -/
abbrev FN := List D → Sto → Rs D
def OpN (M : Md) (r : List V → Hp → VK → Prop) (f : FN) : Prop := ∀ (g : Wd) (ds : List D) (vs : List V) (Q : VK) (E : Xn → Wd → Prop), Rep M g → DVs M g ds vs → Aft M g (f ds g.S) (PD M Q) E → r vs g.H Q
def dN (f : FN) (a : Fs) : Fe := fun ρ S => (a ρ S).bind fun ds S1 => f ds S1
theorem callN_t {r : List V → Hp → VK → Prop} {f : FN} {a : Fs} (h : OpN M r f) {σ : L2.St} {H : Hp} {Q : VK} (q : tE M W (dN f a) σ H Q) : tCB r (tA M W a) σ H Q := by
  obtain ⟨g, ρ, rfl, rp, en, q⟩ := q
  have q := Aft.bind (k := fun ds S1 => f ds S1) q
  exact tA.go rp en (q.mono (fun ds g1 k1 r1 q1 vs hvs => h g1 ds vs Q _ r1 hvs q1) fun _ _ _ _ z => z)
theorem me_callB {x : Str} {p pos : Pos} {e : Expr} {es : List Expr} {id : String} {r : List V → Hp → VK → Prop} {f : FN} {a : Fs} (hc : CallR X (.builtin id) r) (h : OpN M r f) (hg : Gl X x) (hm : X.mg x = none) (hv : bootBuiltins x = some (.builtin id)) (ha : MA M X W (e :: es) a) (hn : x ≠ "__name__" := by decide) (hdb : (x == ("__debug__" : Str)) = false := by decide)
    (he : starEach (e :: es) X.env = (false, eval e X.env) :: starEach es X.env := by rfl) (hpl : (backTo pos (starEach es X.env)).any (·.1) = false := by rfl) : ME M X W (.Call (.Name x p) (e :: es) [] pos) (dN f a) :=
  PE.imp (pe_callB hc hg hm hv ha hn hdb he hpl) fun _ _ _ q => callN_t h q
theorem me_callTy {x : Str} {p pos : Pos} {e : Expr} {es : List Expr} {T : String} {r : List V → Hp → VK → Prop} {f : FN} {a : Fs} (hc : CallR X (.type T) r) (h : OpN M r f) (hg : Gl X x) (hm : X.mg x = none) (hv : bootBuiltins x = some (.type T)) (ha : MA M X W (e :: es) a) (hn : x ≠ "__name__" := by decide) (hdb : (x == ("__debug__" : Str)) = false := by decide)
    (he : starEach (e :: es) X.env = (false, eval e X.env) :: starEach es X.env := by rfl) (hpl : (backTo pos (starEach es X.env)).any (·.1) = false := by rfl) : ME M X W (.Call (.Name x p) (e :: es) [] pos) (dN f a) :=
  PE.imp (pe_callTy hc hg hm hv ha hn hdb he hpl) fun _ _ _ q => callN_t h q
end
end MP
set_option Elab.async false
set_option linter.all false
set_option maxRecDepth 100000
set_option maxHeartbeats 4000000
/-! Statements, targets, loops, comprehensions, defs. -/
namespace MP
open PySem PySem.Spec PyProof.Rows L2

inductive Fl where
  | nx (ρ : Rho) | ret (d : D) | brk (ρ : Rho) | ct (ρ : Rho)
inductive RsS where
  | fl (f : Fl) (S : Sto)
  | exc (x : Xn) (ρ : Rho) (S : Sto)
  | stuck
abbrev Fst := Rho → Sto → RsS
def AftS (M : Md) (g : Wd) (r : RsS) (Dn : Ends) (W : WX) : Prop := match r with
  | .fl (.nx ρ) S => ∀ g', g'.S = S → Gr g g' → Rep M g' → ∀ σ', EnvOk M g' ρ σ' → Dn.nx σ' g'.H
  | .fl (.ret d) S => ∀ g', g'.S = S → Gr g g' → Rep M g' → ∀ v, DV M g' d v → Dn.rt v g'.H
  | .fl (.brk ρ) S => ∀ g', g'.S = S → Gr g g' → Rep M g' → ∀ σ', EnvOk M g' ρ σ' → Dn.bk σ' g'.H
  | .fl (.ct ρ) S => ∀ g', g'.S = S → Gr g g' → Rep M g' → ∀ σ', EnvOk M g' ρ σ' → Dn.ct σ' g'.H
  | .exc x ρ S => ∀ g', g'.S = S → Gr g g' → Rep M g' → ∀ σ', EnvOk M g' ρ σ' → ∀ cls dx, XV M g' x cls dx → W cls dx σ' g'.H
  | .stuck => False
theorem AftS.up {M : Md} {g g1 : Wd} {r : RsS} {Dn : Ends} {W : WX} (h : AftS M g r Dn W) (k : Gr g g1) (r1 : Rep M g1) : AftS M g1 r Dn W := by
  cases r with
  | stuck => exact h
  | exc x ρ S => exact fun g' e k' r' => h g' e (k.trans r1 k') r'
  | fl f S =>
    cases f with
    | nx ρ => exact fun g' e k' r' => h g' e (k.trans r1 k') r'
    | ret d => exact fun g' e k' r' => h g' e (k.trans r1 k') r'
    | brk ρ => exact fun g' e k' r' => h g' e (k.trans r1 k') r'
    | ct ρ => exact fun g' e k' r' => h g' e (k.trans r1 k') r'
def tS (M : Md) (W : WX) (f : Fst) : TS := fun Dn σ H => ∃ g ρ, g.H = H ∧ Rep M g ∧ EnvOk M g ρ σ ∧ AftS M g (f ρ g.S) Dn W
abbrev MS (M : Md) (X : Cx) (W : WX) (st : Stmt) (f : Fst) : Prop := PS X st (tS M W f)
abbrev MSs (M : Md) (X : Cx) (W : WX) (st : List Stmt) (f : Fst) : Prop := PSs X st (tS M W f)
theorem tS.go {M : Md} {W : WX} {f : Fst} {σ : L2.St} {g : Wd} {ρ : Rho} {Dn : Ends} (r : Rep M g) (e : EnvOk M g ρ σ) (h : AftS M g (f ρ g.S) Dn W) : tS M W f Dn σ g.H := ⟨g, ρ, rfl, r, e, h⟩
/-- an expression's value, then a statement's work -/
def thenS {α : Type} (r : Rs α) (ρ : Rho) (k : α → Sto → RsS) : RsS := match r with
  | .ok a S => k a S
  | .exc x S => .exc x ρ S
  | .stuck => .stuck
theorem AftS.ofE {M : Md} {α : Type} {g : Wd} {r : Rs α} {ρ : Rho} {k : α → Sto → RsS} {Dn : Ends} {W : WX} {σ : L2.St} (rp : Rep M g) (en : EnvOk M g ρ σ) (h : AftS M g (thenS r ρ k) Dn W) : Aft M g r (fun a g1 => AftS M g1 (k a g1.S) Dn W) (XD M W σ) := by
  cases r with
  | stuck => exact h
  | exc x S => exact fun g1 e1 k1 r1 => h g1 e1 k1 r1 σ (en.mono rp k1)
  | ok a S =>
    intro g1 e1 k1 r1
    have h : AftS M g (k a S) Dn W := h
    rw [e1]
    exact h.up k1 r1
section
variable {M : Md} {X : Cx} {W : WX}

def sNil : Fst := fun ρ S => .fl (.nx ρ) S
def sSeq (f h : Fst) : Fst := fun ρ S => match f ρ S with
  | .fl (.nx ρ1) S1 => h ρ1 S1
  | r => r
theorem mss_nil : MSs M X W [] sNil := PSs.imp pss_nil fun Dn σ H q => by
  obtain ⟨g, ρ, rfl, rp, en, q⟩ := q
  exact q g rfl Gr.refl rp σ en
theorem mss_cons {st : Stmt} {rest : List Stmt} {f h : Fst} (h1 : MS M X W st f) (h2 : MSs M X W rest h) : MSs M X W (st :: rest) (sSeq f h) := PSs.imp (pss_cons h1 h2) fun Dn σ H q => by
  obtain ⟨g, ρ, rfl, rp, en, q⟩ := q
  refine tS.go rp en ?_
  unfold sSeq at q
  split at q
  · rename_i ρ1 S1 e
    rw [e]
    intro g1 e1 k1 r1 σ1 en1
    exact tS.go r1 en1 (by rw [e1]; exact q.up k1 r1)
  · rename_i e
    cases hr : f ρ g.S with
    | stuck => rw [hr] at q; exact q
    | exc x ρ1 S1 => rw [hr] at q; exact q
    | fl fl S1 =>
      rw [hr] at q
      cases fl with
      | nx ρ1 => exact (e ρ1 S1 hr).elim
      | ret d => exact q
      | brk ρ1 => exact q
      | ct ρ1 => exact q
theorem mss_one {st : Stmt} {f : Fst} (h1 : MS M X W st f) : MSs M X W [st] f := pss_one h1
theorem ms_pass {pos : Pos} : MS M X W (.Pass pos) sNil := PS.imp ps_pass fun Dn σ H q => by
  obtain ⟨g, ρ, rfl, rp, en, q⟩ := q
  exact q g rfl Gr.refl rp σ en
def sBrk : Fst := fun ρ S => .fl (.brk ρ) S
def sCt : Fst := fun ρ S => .fl (.ct ρ) S
theorem ms_break {pos : Pos} : MS M X W (.Break pos) sBrk := PS.imp ps_break fun Dn σ H q => by
  obtain ⟨g, ρ, rfl, rp, en, q⟩ := q
  exact q g rfl Gr.refl rp σ en
theorem ms_continue {pos : Pos} : MS M X W (.Continue pos) sCt := PS.imp ps_continue fun Dn σ H q => by
  obtain ⟨g, ρ, rfl, rp, en, q⟩ := q
  exact q g rfl Gr.refl rp σ en
/-- a statement that no run comes to -/
def sNo : Fst := fun _ _ => .stuck
theorem ms_no {st : Stmt} : MS M X W st sNo := PS.imp ps_never fun Dn σ H q => by
  obtain ⟨g, ρ, rfl, rp, en, q⟩ := q
  exact q
def sExpr (f : Fe) : Fst := fun ρ S => thenS (f ρ S) ρ fun _ S1 => .fl (.nx ρ) S1
theorem ms_expr {e : Expr} {pos : Pos} {f : Fe} (h : ME M X W e f) (hs : swapsWith e none pos.line X.env = pure false := by rfl) : MS M X W (.Expr e pos) (sExpr f) := PS.imp (ps_expr h hs) fun Dn σ H q => by
  obtain ⟨g, ρ, rfl, rp, en, q⟩ := q
  have q := AftS.ofE rp en q
  exact tE.go rp en (q.mono (fun d g1 k1 r1 q1 v hv => q1 g1 rfl Gr.refl r1 σ (en.mono rp k1)) fun _ _ _ _ z => z)
def sRet (f : Fe) : Fst := fun ρ S => thenS (f ρ S) ρ fun d S1 => .fl (.ret d) S1
theorem ms_ret {e : Expr} {pos : Pos} {f : Fe} (h : ME M X W e f) : MS M X W (.Return (some e) pos) (sRet f) := PS.imp (ps_ret h) fun Dn σ H q => by
  obtain ⟨g, ρ, rfl, rp, en, q⟩ := q
  have q := AftS.ofE rp en q
  exact tE.go rp en (q.mono (fun d g1 k1 r1 q1 v hv => q1 g1 rfl Gr.refl r1 v hv) fun _ _ _ _ z => z)
def sRetN : Fst := fun _ S => .fl (.ret .non) S
theorem ms_retN {pos : Pos} : MS M X W (.Return none pos) sRetN := PS.imp ps_retN fun Dn σ H q => by
  obtain ⟨g, ρ, rfl, rp, en, q⟩ := q
  exact q g rfl Gr.refl rp _ .non
def sIf (c : Ft) (a b : Fst) : Fst := fun ρ S => thenS (c ρ S) ρ fun k S1 => if k = true then a ρ S1 else b ρ S1
theorem ms_if {c : Expr} {a b : List Stmt} {pos : Pos} {fc : Ft} {fa fb : Fst} (hc : MT M X W c fc) (ha : MSs M X W a fa) (hb : MSs M X W b fb) : MS M X W (.If c a b pos) (sIf fc fa fb) := PS.imp (ps_if hc ha hb) fun Dn σ H q => by
  obtain ⟨g, ρ, rfl, rp, en, q⟩ := q
  have q := AftS.ofE (k := fun k S1 => if k = true then fa ρ S1 else fb ρ S1) rp en q
  refine tT.go rp en (q.mono (fun c g1 k1 r1 q1 => ?_) fun _ _ _ _ z => z)
  cases c with
  | true => exact iteT (tS.go r1 (en.mono rp k1) q1)
  | false => exact iteF (tS.go r1 (en.mono rp k1) q1)

/-! ### targets of names -/
end
mutual
inductive Tg where
  | nm (i : Nat)
  | tp (l : Tgs)
inductive Tgs where
  | nil
  | cons (t : Tg) (l : Tgs)
end
def Tgs.len : Tgs → Nat
  | .nil => 0
  | .cons _ l => l.len + 1
mutual
/-- the reading -/
def gT (K : PySem.W.Frag) : Tg → TG
  | .nm i => gName i
  | .tp l => gTup K l.len (gTs K l)
def gTs (K : PySem.W.Frag) : Tgs → TGs
  | .nil => gNil
  | .cons t l => gCons (gT K t) (gTs K l)
end
mutual
def setT : Tg → D → Rho → Option Rho
  | .nm i, d, ρ => some (ρ.set i (some d))
  | .tp l, d, ρ => match d with
    | .tup ds => setTs l ds ρ
    | _ => none
def setTs : Tgs → List D → Rho → Option Rho
  | .nil, ds, ρ => match ds with
    | [] => some ρ
    | _ => none
  | .cons t l, ds, ρ => match ds with
    | d :: ds => match setT t d ρ with
      | some ρ1 => setTs l ds ρ1
      | none => none
    | [] => none
end
mutual
def Tg.in_ (vs : List Nat) : Tg → Bool
  | .nm i => vs.contains i
  | .tp l => l.in_ vs
def Tgs.in_ (vs : List Nat) : Tgs → Bool
  | .nil => true
  | .cons t l => t.in_ vs && l.in_ vs
end
theorem wipe_get {σ : L2.St} : ∀ (vs : List Nat) (j : Nat), (wipe σ vs)[j]? = if j ∈ vs ∧ j < σ.length then some none else σ[j]?
  | [], j => by simp [wipe]
  | v :: vs, j => by
    have ih := wipe_get (σ := σ) vs j
    show ((wipe σ vs).set v none)[j]? = _
    have hl : (wipe σ vs).length = σ.length := wipe_length σ vs
    by_cases hv : v = j
    · subst hv
      by_cases hj : v < σ.length
      · rw [List.getElem?_set_self (by rw [hl]; exact hj), if_pos ⟨List.mem_cons_self, hj⟩]
      · rw [List.getElem?_eq_none (by rw [List.length_set, hl]; omega), if_neg (fun z => hj z.2), List.getElem?_eq_none (by omega)]
    · rw [List.getElem?_set_ne hv, ih]
      have e : (j ∈ v :: vs ∧ j < σ.length) ↔ (j ∈ vs ∧ j < σ.length) := by
        rw [List.mem_cons]
        exact ⟨fun ⟨a, b⟩ => ⟨a.resolve_left fun z => hv z.symm, b⟩, fun ⟨a, b⟩ => ⟨.inr a, b⟩⟩
      by_cases h : j ∈ vs ∧ j < σ.length
      · rw [if_pos h, if_pos (e.mpr h)]
      · rw [if_neg h, if_neg (fun z => h (e.mp z))]
theorem wipe_set {σ : L2.St} {vs : List Nat} {i : Nat} {x : Option V} (h : i ∈ vs) : wipe (σ.set i x) vs = wipe σ vs := by
  apply List.ext_getElem?
  intro j
  rw [wipe_get, wipe_get, List.length_set]
  by_cases hj : j ∈ vs ∧ j < σ.length
  · rw [if_pos hj, if_pos hj]
  · rw [if_neg hj, if_neg hj]
    by_cases hij : i = j
    · subst hij
      have : σ.length ≤ i := Nat.le_of_not_lt fun z => hj ⟨h, z⟩
      rw [List.getElem?_eq_none (by rw [List.length_set]; exact this), List.getElem?_eq_none this]
    · rw [List.getElem?_set_ne hij]
section
variable {M : Md} {X : Cx} {W : WX}
mutual
theorem gT_ok {g : Wd} (hK : X.K = M.K) (vs : List Nat) : ∀ (t : Tg) (d : D) (v : V) (ρ ρ' : Rho) (σ : L2.St) (Q : L2.St → Hp → Prop), EnvOk M g ρ σ → DV M g d v → setT t d ρ = some ρ' →
    (∀ σ', EnvOk M g ρ' σ' → (t.in_ vs = true → wipe σ' vs = wipe σ vs) → Q σ' g.H) → gT X.K t v σ g.H Q
  | .nm i, d, v, ρ, ρ', σ, Q, en, hv, e, h => by
    cases (show some (ρ.set i (some d)) = some ρ' from e)
    exact h _ (en.set hv) fun z => wipe_set (by simpa [Tg.in_] using z)
  | .tp l, d, v, ρ, ρ', σ, Q, en, hv, e, h => by
    unfold setT at e
    split at e
    · obtain ⟨a, xs, rfl, hx, hxs⟩ := hv.tupI
      refine ⟨a, xs, rfl, by rw [hK]; exact hx, ?_, gTs_ok hK vs l _ xs ρ ρ' σ Q en hxs e h⟩
      rw [← hxs.length]
      exact setTs_len e
    · cases e
theorem gTs_ok {g : Wd} (hK : X.K = M.K) (vs : List Nat) : ∀ (l : Tgs) (ds : List D) (us : List V) (ρ ρ' : Rho) (σ : L2.St) (Q : L2.St → Hp → Prop), EnvOk M g ρ σ → DVs M g ds us → setTs l ds ρ = some ρ' →
    (∀ σ', EnvOk M g ρ' σ' → (l.in_ vs = true → wipe σ' vs = wipe σ vs) → Q σ' g.H) → gTs X.K l us σ g.H Q
  | .nil, ds, us, ρ, ρ', σ, Q, en, hv, e, h => by
    unfold setTs at e
    split at e
    · cases e
      cases hv
      exact ⟨rfl, h σ en fun _ => rfl⟩
    · cases e
  | .cons t l, ds, us, ρ, ρ', σ, Q, en, hv, e, h => by
    unfold setTs at e
    split at e
    · rename_i d ds
      split at e
      · rename_i ρ1 e1
        cases hv with
        | cons h1 h2 =>
          refine ⟨_, _, rfl, gT_ok hK vs t d _ ρ ρ1 σ _ en h1 e1 fun σ1 en1 w1 => ?_⟩
          refine gTs_ok hK vs l ds _ ρ1 ρ' σ1 Q en1 h2 e fun σ2 en2 w2 => h σ2 en2 fun z => ?_
          have z := Bool.and_eq_true_iff.mp (show (t.in_ vs && l.in_ vs) = true from z)
          exact (w2 z.2).trans (w1 z.1)
      · cases e
    · cases e
theorem setTs_len : ∀ {l : Tgs} {ds : List D} {ρ ρ' : Rho}, setTs l ds ρ = some ρ' → ds.length = l.len
  | .nil, ds, ρ, ρ', e => by
    unfold setTs at e
    split at e
    · rfl
    · cases e
  | .cons t l, ds, ρ, ρ', e => by
    unfold setTs at e
    split at e
    · rename_i d ds
      split at e
      · rename_i ρ1 e1
        show ds.length + 1 = l.len + 1
        rw [setTs_len e]
      · cases e
    · cases e
end
/-- a target: its form in the text -/
abbrev MG (X : Cx) (tg : Expr) (t : Tg) : Prop := PG X tg (gT X.K t)
abbrev MGs (X : Cx) (tgs : List Expr) (l : Tgs) : Prop := PGs X tgs (gTs X.K l)
theorem mg_nm {i : Nat} {x : Str} {pos : Pos} (hN : X.N.Nodup) (hi : X.N[i]? = some x := by rfl) (hx : Loc X.env.scope x := by first | exact Or.inl rfl | exact Or.inr rfl) (hf : X.fn x = true ∨ X.env.scope.names.lookup x = some .local := by first | exact .inl rfl | exact .inr rfl) : MG X (.Name x pos) (.nm i) := pg_name hN hi hx hf
theorem mgs_nil : MGs X [] .nil := pgs_nil
theorem mgs_cons {e : Expr} {es : List Expr} {t : Tg} {l : Tgs} (h1 : MG X e t) (h2 : MGs X es l) (hs : (assignEach (e :: es) X.env).map (·.2) = assign e X.env :: (assignEach es X.env).map (·.2) := by rfl) : MGs X (e :: es) (.cons t l) := pgs_cons h1 h2 hs
theorem mg_tp {es : List Expr} {k : Nat} {pos : Pos} {l : Tgs} (hc : X.calm = true) (h : MGs X es l) (hn : (assignEach es X.env).length = l.len := by rfl) (hst : (assignEach es X.env).findIdx? (·.1) = none := by rfl) : MG X (.Tuple es k pos) (.tp l) := pg_tup hc h hn hst

/-- target = e -/
def sAsg (t : Tg) (f : Fe) : Fst := fun ρ S => thenS (f ρ S) ρ fun d S1 => match setT t d ρ with
  | some ρ1 => .fl (.nx ρ1) S1
  | none => .stuck
theorem asg_t (hK : X.K = M.K) {t : Tg} {f : Fe} {Dn : Ends} {σ : L2.St} {H : Hp} (q : tS M W (sAsg t f) Dn σ H) : tAsg (tE M W f) (gT X.K t) Dn σ H := by
  obtain ⟨g, ρ, rfl, rp, en, q⟩ := q
  have q := AftS.ofE (k := fun d S1 => match setT t d ρ with
    | some ρ1 => .fl (.nx ρ1) S1
    | none => .stuck) rp en q
  refine tE.go rp en (q.mono (fun d g1 k1 r1 q1 v hv => ?_) fun _ _ _ _ z => z)
  split at q1
  · rename_i ρ1 e
    exact gT_ok hK [] t d v ρ ρ1 σ _ (en.mono rp k1) hv e fun σ' en' _ => q1 g1 rfl Gr.refl r1 σ' en'
  · exact q1.elim
theorem ms_asg (hK : X.K = M.K) {tg e : Expr} {pos : Pos} {t : Tg} {f : Fe} (he : ME M X W e f) (hg : MG X tg t) (hs : swapsWithSole [tg] e pos.line X.env = pure false := by rfl) (hw : swappedStores [tg] e X.env = pure none := by rfl)
    (h1 : (assignEach [tg] X.env).map (·.2) = [assign tg X.env] := by rfl) : MS M X W (.Assign [tg] e pos) (sAsg t f) := PS.imp (ps_asg he hg hs hw h1) fun _ _ _ q => asg_t hK q
/-- name = e -/
def sSet (i : Nat) (f : Fe) : Fst := fun ρ S => thenS (f ρ S) ρ fun d S1 => .fl (.nx (ρ.set i (some d))) S1
theorem set_t {i : Nat} {f : Fe} {Dn : Ends} {σ : L2.St} {H : Hp} (q : tS M W (sSet i f) Dn σ H) : tAsg (tE M W f) (gName i) Dn σ H := by
  obtain ⟨g, ρ, rfl, rp, en, q⟩ := q
  have q := AftS.ofE (k := fun d S1 => .fl (.nx (ρ.set i (some d))) S1) rp en q
  exact tE.go rp en (q.mono (fun d g1 k1 r1 q1 v hv => q1 g1 rfl Gr.refl r1 _ ((en.mono rp k1).set hv)) fun _ _ _ _ z => z)
theorem ms_set {i : Nat} {x : Str} {e : Expr} {pos pos' : Pos} {f : Fe} (hN : X.N.Nodup) (he : ME M X W e f) (hi : X.N[i]? = some x := by rfl) (hx : Loc X.env.scope x := by first | exact Or.inl rfl | exact Or.inr rfl) (hs : swapsWith e (some (.Name x pos')) pos.line X.env = pure false := by rfl)
    (hf : X.fn x = true ∨ X.env.scope.names.lookup x = some .local := by first | exact .inl rfl | exact .inr rfl) : MS M X W (.Assign [.Name x pos'] e pos) (sSet i f) := PS.imp (ps_set hN hi hx he hs hf) fun _ _ _ q => set_t q
/-- a, b = x, y -/
def sPar (i j : Nat) (f : Fs) : Fst := fun ρ S => thenS (f ρ S) ρ fun ds S1 => match ds with
  | [d, e] => .fl (.nx ((ρ.set i (some d)).set j (some e))) S1
  | _ => .stuck
theorem ms_par {i j : Nat} {x y : Str} {a b : Expr} {f : Fs} {px py pt pos : Pos} {kt k2 : Nat} {pt2 : Pos} (hc : X.calm = true) (hN : X.N.Nodup) (ha : MA M X W [a, b] f) (hi : X.N[i]? = some x := by rfl) (hj : X.N[j]? = some y := by rfl) (hij : i ≠ j := by decide)
    (hx : X.env.scope.names.lookup x = some .local := by rfl) (hy : X.env.scope.names.lookup y = some .local := by rfl)
    (hw : swappedStores [.Tuple [.Name x px, .Name y py] kt pt] (.Tuple [a, b] k2 pt2) X.env = pure (some [x, y]) := by rfl)
    (hs : swapsWithSole [.Tuple [.Name x px, .Name y py] kt pt] (.Tuple [a, b] k2 pt2) pos.line X.env = pure false := by rfl) :
    MS M X W (.Assign [.Tuple [.Name x px, .Name y py] kt pt] (.Tuple [a, b] k2 pt2) pos) (sPar i j f) := PS.imp (ps_par hc hN hi hj hij hx hy ha hw hs) fun Dn σ H q => by
  obtain ⟨g, ρ, rfl, rp, en, q⟩ := q
  have q := AftS.ofE (α := List D) (k := fun (ds : List D) S1 => match ds with
    | [d, e] => .fl (.nx ((ρ.set i (some d)).set j (some e))) S1
    | _ => .stuck) rp en q
  refine tA.go rp en (q.mono (fun ds g1 k1 r1 q1 vs hvs => ?_) fun _ _ _ _ z => z)
  split at q1
  · cases hvs with
    | cons h1 h2 =>
      cases h2 with
      | cons h2 h3 =>
        cases h3
        exact ⟨_, _, rfl, q1 g1 rfl Gr.refl r1 _ (((en.mono rp k1).set h1).set h2)⟩
  · exact q1.elim
/-- a, b, c = x, y, z -/
def sPar3 (i j l : Nat) (f : Fs) : Fst := fun ρ S => thenS (f ρ S) ρ fun ds S1 => match ds with
  | [d, e, h] => .fl (.nx (((ρ.set i (some d)).set j (some e)).set l (some h))) S1
  | _ => .stuck
theorem ms_par3 {i j l : Nat} {x y z : Str} {a b c : Expr} {f : Fs} {px py pz pt pos : Pos} {kt k2 : Nat} {pt2 : Pos} (hc : X.calm = true) (hN : X.N.Nodup) (ha : MA M X W [a, b, c] f) (hi : X.N[i]? = some x := by rfl) (hj : X.N[j]? = some y := by rfl) (hl : X.N[l]? = some z := by rfl) (hij : i ≠ j := by decide) (hil : i ≠ l := by decide) (hjl : j ≠ l := by decide)
    (hx : X.env.scope.names.lookup x = some .local := by rfl) (hy : X.env.scope.names.lookup y = some .local := by rfl) (hz : X.env.scope.names.lookup z = some .local := by rfl)
    (hw : swappedStores [.Tuple [.Name x px, .Name y py, .Name z pz] kt pt] (.Tuple [a, b, c] k2 pt2) X.env = pure (some [x, y, z]) := by rfl)
    (hs : swapsWithSole [.Tuple [.Name x px, .Name y py, .Name z pz] kt pt] (.Tuple [a, b, c] k2 pt2) pos.line X.env = pure false := by rfl) :
    MS M X W (.Assign [.Tuple [.Name x px, .Name y py, .Name z pz] kt pt] (.Tuple [a, b, c] k2 pt2) pos) (sPar3 i j l f) := PS.imp (ps_par3 hc hN hi hj hl hij hil hjl hx hy hz ha hw hs) fun Dn σ H q => by
  obtain ⟨g, ρ, rfl, rp, en, q⟩ := q
  have q := AftS.ofE (α := List D) (k := fun (ds : List D) S1 => match ds with
    | [d, e, h] => .fl (.nx (((ρ.set i (some d)).set j (some e)).set l (some h))) S1
    | _ => .stuck) rp en q
  refine tA.go rp en (q.mono (fun ds g1 k1 r1 q1 vs hvs => ?_) fun _ _ _ _ z => z)
  split at q1
  · cases hvs with
    | cons h1 h2 =>
      cases h2 with
      | cons h2 h3 =>
        cases h3 with
        | cons h3 h4 =>
          cases h4
          exact ⟨_, _, _, rfl, q1 g1 rfl Gr.refl r1 _ ((((en.mono rp k1).set h1).set h2).set h3)⟩
  · exact q1.elim
/-- x op= e -/
def sAug (i : Nat) (op : F2) (f : Fe) : Fst := fun ρ S => match ρ[i]? with
  | some (some x) => thenS ((f ρ S).bind fun y S1 => op x y S1) ρ fun d S2 => .fl (.nx (ρ.set i (some d))) S2
  | _ => .stuck
theorem ms_aug {i : Nat} {x : Str} {e : Expr} {op : Operator} {r : R2} {fo : F2} {pos pos' : Pos} {f : Fe} (hN : X.N.Nodup) (ho : OpR X (inplaceOp op) r) (h : Op2 M r fo) (he : ME M X W e f) (hi : X.N[i]? = some x := by rfl) (hx : Loc X.env.scope x := by first | exact Or.inl rfl | exact Or.inr rfl)
    (hf : X.fn x = true ∨ X.env.scope.names.lookup x = some .local := by first | exact .inl rfl | exact .inr rfl) : MS M X W (.AugAssign (.Name x pos') op e pos) (sAug i fo f) := PS.imp (ps_aug hN hi hx he (ti := r) ho hf) fun Dn σ H q => by
  obtain ⟨g, ρ, rfl, rp, en, q⟩ := q
  unfold sAug at q
  split at q
  · rename_i d hd
    obtain ⟨v, hv1, hv⟩ := en.at_ i d hd
    refine ⟨v, hv1, ?_⟩
    have q := AftS.ofE (k := fun d S2 => .fl (.nx (ρ.set i (some d))) S2) rp en q
    have q := Aft.bind (k := fun y S1 => fo d y S1) q
    refine tE.go rp en (q.mono (fun y g1 k1 r1 q1 u hu => ?_) fun _ _ _ _ z => z)
    refine h g1 d y v u _ _ r1 (hv.mono rp k1) hu (q1.mono (fun z g2 k2 r2 q2 w hw => ?_) fun _ _ _ _ z => z)
    exact q2 g2 rfl Gr.refl r2 _ (((en.mono rp k1).mono r1 k2).set hw)
  · exact q.elim
/-- o[i] = e, o a list -/
def putD (o i d : D) (S : Sto) : Rs Unit := match o, i with
  | .ref n, .int k => match S[n]? with
    | some (.lst ds) => match ixN ds.length k with
      | some j => .ok () (S.set n (.lst (ds.set j d)))
      | none => .stuck
    | _ => .stuck
  | _, _ => .stuck
theorem put_q {g : Wd} {o i d : D} {ov iv v : V} {Q : Hp → Prop} {E : Xn → Wd → Prop} (r : Rep M g) (ho : DV M g o ov) (hi : DV M g i iv) (hv : DV M g d v) (h : Aft M g (putD o i d g.S) (fun _ g' => Q g'.H) E) : rSetL ov iv v g.H Q := by
  unfold putD at h
  split at h
  · rename_i n k
    split at h
    · rename_i ds hk
      split at h
      · rename_i j hj
        obtain ⟨rfl, hn⟩ := ho.refI
        obtain ⟨xs, hx, hxs⟩ := r.lst hk
        exact ⟨_, xs, k, j, rfl, hi.intI, hx, by rw [← hxs.length]; exact hj, put_lst r hk h (hxs.set hv j)⟩
      · exact h.elim
    · exact h.elim
  · exact h.elim
def sPut (f fo fi : Fe) : Fst := fun ρ S => thenS (f ρ S) ρ fun d S1 => thenS (fo ρ S1) ρ fun o S2 => thenS (fi ρ S2) ρ fun i S3 => thenS (putD o i d S3) ρ fun _ S4 => .fl (.nx ρ) S4
theorem ms_put {o i e : Expr} {p pos : Pos} {f fo fi : Fe} (he : ME M X W e f) (ho : ME M X W o fo) (hi : ME M X W i fi) (ha : ∀ v, assign (.Subscript o i p) X.env v = (do
      let ov ← holding [v] (eval o X.env)
      let iv ← holding [v, ov] (eval i X.env)
      standAt p
      holding [v, ov, iv] (setItem ov iv v)
      release [v, ov, iv] []) := by intro _; rfl) (hs : swapsWithSole [.Subscript o i p] e pos.line X.env = pure false := by rfl) (hw : swappedStores [.Subscript o i p] e X.env = pure none := by rfl)
    (h1 : (assignEach [.Subscript o i p] X.env).map (·.2) = [assign (.Subscript o i p) X.env] := by rfl) : MS M X W (.Assign [.Subscript o i p] e pos) (sPut f fo fi) := PS.imp (ps_asg he (pg_sub ho hi set_list ha) hs hw h1) fun Dn σ H q => by
  obtain ⟨g, ρ, rfl, rp, en, q⟩ := q
  have q := AftS.ofE (α := D) (k := fun (d : D) S1 => thenS (fo ρ S1) ρ fun o S2 => thenS (fi ρ S2) ρ fun i S3 => thenS (putD o i d S3) ρ fun _ S4 => .fl (.nx ρ) S4) rp en q
  refine tE.go rp en (q.mono (fun d g1 k1 r1 q1 v hv => ?_) fun _ _ _ _ z => z)
  have en1 := en.mono rp k1
  have q1 := AftS.ofE (α := D) (k := fun (o : D) S2 => thenS (fi ρ S2) ρ fun i S3 => thenS (putD o i d S3) ρ fun _ S4 => .fl (.nx ρ) S4) r1 en1 q1
  refine tE.go r1 en1 (q1.mono (fun o g2 k2 r2 q2 ov ho => ?_) fun _ _ _ _ z => z)
  have en2 := en1.mono r1 k2
  have q2 := AftS.ofE (α := D) (k := fun (i : D) S3 => thenS (putD o i d S3) ρ fun _ S4 => .fl (.nx ρ) S4) r2 en2 q2
  refine tE.go r2 en2 (q2.mono (fun i g3 k3 r3 q3 iv hi => ?_) fun _ _ _ _ z => z)
  have en3 := en2.mono r2 k3
  have hv3 := (hv.mono r1 k2).mono r2 k3
  have ho3 := ho.mono r2 k3
  have q3 := AftS.ofE (α := Unit) (k := fun _ S4 => .fl (.nx ρ) S4) r3 en3 q3
  exact put_q r3 ho3 hi hv3 (q3.mono (fun _ g4 k4 r4 q4 => q4 g4 rfl Gr.refl r4 σ (en3.mono r3 k4)) fun _ _ _ _ z => z)
end
end MP
set_option Elab.async false
set_option linter.all false
set_option maxRecDepth 100000
set_option maxHeartbeats 4000000
/-! Loops and comprehensions. -/
namespace MP
open PySem PySem.Spec PyProof.Rows L2

mutual
def beqD : D → D → Bool
  | .non, .non => true
  | .bl a, .bl b => a == b
  | .int a, .int b => a == b
  | .str a, .str b => a == b
  | .tup a, .tup b => beqDs a b
  | .fl a, .fl b => beqDs a b
  | .ref a, .ref b => a == b
  | .fn a, .fn b => a == b
  | _, _ => false
def beqDs : List D → List D → Bool
  | [], [] => true
  | x :: xs, y :: ys => beqD x y && beqDs xs ys
  | _, _ => false
end
mutual
theorem beqD_eq : ∀ (a b : D), beqD a b = true → a = b
  | .non, b, h => by cases b <;> simp_all [beqD]
  | .bl x, b, h => by cases b <;> simp_all [beqD]
  | .int x, b, h => by cases b <;> simp_all [beqD]
  | .str x, b, h => by cases b <;> simp_all [beqD]
  | .ref x, b, h => by cases b <;> simp_all [beqD]
  | .fn x, b, h => by cases b <;> simp_all [beqD]
  | .tup x, b, h => by
    cases b with
    | tup y => rw [beqDs_eq x y (by simpa [beqD] using h)]
    | _ => simp [beqD] at h
  | .fl x, b, h => by
    cases b with
    | fl y => rw [beqDs_eq x y (by simpa [beqD] using h)]
    | _ => simp [beqD] at h
theorem beqDs_eq : ∀ (a b : List D), beqDs a b = true → a = b
  | [], b, h => by cases b <;> simp_all [beqDs]
  | x :: xs, b, h => by
    cases b with
    | nil => simp [beqDs] at h
    | cons y ys =>
      have h := Bool.and_eq_true_iff.mp (show (beqD x y && beqDs xs ys) = true by simpa [beqDs] using h)
      rw [beqD_eq x y h.1, beqDs_eq xs ys h.2]
end
mutual
theorem beqD_refl : ∀ a : D, beqD a a = true
  | .non => by simp [beqD]
  | .bl x => by simp [beqD]
  | .int x => by simp [beqD]
  | .str x => by simp [beqD]
  | .ref x => by simp [beqD]
  | .fn x => by simp [beqD]
  | .tup x => by simp [beqD, beqDs_refl x]
  | .fl x => by simp [beqD, beqDs_refl x]
theorem beqDs_refl : ∀ a : List D, beqDs a a = true
  | [] => by simp [beqDs]
  | x :: xs => by simp [beqDs, beqD_refl x, beqDs_refl xs]
end

/-- what a loop walks: its items, and the lists that must stay as they are -/
structure Src where
  its : List D
  gd : List (Nat × List D)
def Src.ok (s : Src) (S : Sto) : Bool := s.gd.all fun p => match S[p.1]? with
  | some (.lst ds) => beqDs ds p.2
  | _ => false
def SrcOk (M : Md) (g0 : Wd) (src : Src) (J : It) : Prop := ∃ (G : Hp → Prop) (Y : Nat → Hp → V → Hp → Prop), Walk J src.its.length G Y ∧ src.ok g0.S = true ∧
  (∀ g1, Rep M g1 → Gr g0 g1 → src.ok g1.S = true → G g1.H) ∧
  ∀ i g1 x H', i < src.its.length → Rep M g1 → Gr g0 g1 → src.ok g1.S = true → Y i g1.H x H' → ∃ d g2, src.its[i]? = some d ∧ g2.H = H' ∧ g2.S = g1.S ∧ Gr g1 g2 ∧ Rep M g2 ∧ DV M g2 d x
abbrev Fi := Rho → Sto → Rs Src
def tI (M : Md) (W : WX) (f : Fi) : TI := fun σ H R => ∃ g ρ, g.H = H ∧ Rep M g ∧ EnvOk M g ρ σ ∧ Aft M g (f ρ g.S) (fun src g' => ∀ J, SrcOk M g' src J → R J g'.H) (XD M W σ)
abbrev MI (M : Md) (X : Cx) (W : WX) (tg e : Expr) (f : Fi) : Prop := PI X tg e (tI M W f)
theorem PI.imp {X : Cx} {tg e : Expr} {t t' : TI} (h : PI X tg e t) (i : ∀ σ H R, t' σ H R → t σ H R) : PI X tg e t' := ⟨fun pins s σ H R I h' => h.run pins s σ H R I (i σ H R h')⟩

/-! ### list or tuple -/
section
variable {X : Cx} {tg : Expr}
def iSeq (K : PySem.W.Frag) (tl : TE) : TI := fun σ H R => tl σ H fun x H1 => ∃ a, x = .ref a ∧ (((∃ xs, SqL K H1 a xs) ∧ R (Itl K a) H1) ∨ ((∃ xs, SqT K H1 a xs) ∧ R (Itt K a) H1))
theorem pi_seq {l : Expr} {tl : TE} (hl : PE X l tl) : PI X tg l (iSeq X.K tl) := by
  refine ⟨fun pins s σ H R I h => ?_⟩
  refine thn (hl.run pins s σ H _ I h) fun v s1 ⟨x, H1, I1, r1, q1⟩ => ?_
  obtain ⟨a, e, q⟩ := q1
  subst e
  cases r1
  have fp : ∀ b ∈ [s1.heap.objs.size], FpOk X pins H1 b := fun b hb => by
    have e : b = s1.heap.objs.size := by simpa using hb
    subst e
    exact I1.fpOk (Nat.le_refl _) (I1.hok.fresh (Nat.le_refl _))
  rcases q with ⟨⟨xs, hq⟩, q⟩ | ⟨⟨xs, hq⟩, q⟩
  · obtain ⟨its, rv, p, hz⟩ := I1.list hq
    refine wpAny_pyIter_list p.isList ?_
    exact ⟨s1.heap.objs.size, [s1.heap.objs.size], _, _, H1, rfl, I1.kept (t' := s1.toks) fun b o e => Heap.get?_push_of_some _ e, turn_list a _, ⟨_, Heap.get?_push_size _ rfl, rfl, rfl⟩, fp, q⟩
  · obtain ⟨its, rv, p, hz⟩ := I1.tuple hq
    refine wpAny_pyIter_tuple (show s1.heap.IsTuple a its.toArray from p) ?_
    exact ⟨s1.heap.objs.size, [s1.heap.objs.size], _, _, H1, rfl, I1.kept (t' := s1.toks) fun b o e => Heap.get?_push_of_some _ e, turn_tuple a _, ⟨_, Heap.get?_push_size _ rfl, rfl, rfl⟩, fp, q⟩
end
def srcD : D → Sto → Rs Src := fun d S => match d with
  | .tup ds => .ok ⟨ds, []⟩ S
  | .fl ds => .ok ⟨ds, []⟩ S
  | .ref n => match S[n]? with
    | some (.lst ds) => .ok ⟨ds, [(n, ds)]⟩ S
    | _ => .stuck
  | _ => .stuck
def iD (f : Fe) : Fi := fun ρ S => (f ρ S).bind srcD
section
variable {M : Md} {g0 : Wd}
/-- the list at place n, as long as it stays -/
theorem Src.at_ {src : Src} {S : Sto} (h : src.ok S = true) {n : Nat} {ds : List D} (hm : (n, ds) ∈ src.gd) : S[n]? = some (.lst ds) := by
  have z := List.all_eq_true.mp h _ hm
  simp only at z
  split at z
  · rename_i es e
    rw [e, beqDs_eq _ _ z]
  · cases z
theorem srcOk_tup {a : Addr} {ds : List D} {xs : List V} (r0 : Rep M g0) (h : SqT M.K g0.H a xs) (hd : DVs M g0 ds xs) : SrcOk M g0 ⟨ds, []⟩ (Itt M.K a) := by
  refine ⟨fun H => SqT M.K H a xs, YAt xs, by rw [show (Src.mk ds []).its.length = xs.length from hd.length]; exact walk_tup, rfl, fun g1 r1 k _ => k.tup r0 h, fun i g1 x H' hi r1 k _ y => ?_⟩
  obtain ⟨e, hx⟩ := y
  subst e
  obtain ⟨d, h1, h2⟩ := (hd.mono r0 k).getV hx
  exact ⟨d, g1, h1, rfl, rfl, Gr.refl, r1, h2⟩
theorem srcOk_fl {a : Addr} {ds : List D} {xs : List V} (r0 : Rep M g0) (h : FzL M.K g0.H a xs) (hd : DVs M g0 ds xs) : SrcOk M g0 ⟨ds, []⟩ (Itl M.K a) := by
  refine ⟨fun H => SqL M.K H a xs, YAt xs, by rw [show (Src.mk ds []).its.length = xs.length from hd.length]; exact walk_list, rfl, fun g1 r1 k _ => (k.fzl r0 h).sql, fun i g1 x H' hi r1 k _ y => ?_⟩
  obtain ⟨e, hx⟩ := y
  subst e
  obtain ⟨d, h1, h2⟩ := (hd.mono r0 k).getV hx
  exact ⟨d, g1, h1, rfl, rfl, Gr.refl, r1, h2⟩
theorem lst_at {g1 : Wd} (r0 : Rep M g0) (r1 : Rep M g1) (k : Gr g0 g1) {n : Nat} {ds : List D} (h0 : n < g0.S.length) (h : g1.S[n]? = some (.lst ds)) : ∃ xs, SqL M.K g1.H (g0.μ n) xs ∧ DVs M g1 ds xs := by
  obtain ⟨xs, h1, h2⟩ := r1.lst h
  rw [k.same n h0] at h1
  exact ⟨xs, .inl (.inl h1), h2⟩
theorem srcOk_ref {n : Nat} {ds : List D} (r0 : Rep M g0) (h : g0.S[n]? = some (.lst ds)) : SrcOk M g0 ⟨ds, [(n, ds)]⟩ (Itl M.K (g0.μ n)) := by
  have hn : n < g0.S.length := (List.getElem?_eq_some_iff.mp h).1
  refine ⟨fun H => ∃ xs, SqL M.K H (g0.μ n) xs ∧ xs.length = ds.length, fun i H x H' => H' = H ∧ ∀ xs, SqL M.K H (g0.μ n) xs → xs[i]? = some x, ⟨fun i H hi ⟨xs, q, e⟩ => ⟨xs, xs[i]'(by rw [e]; exact hi), q, by simp [e, hi]⟩, fun H ⟨xs, q, e⟩ => ⟨xs, q, by rw [e]; exact Nat.le_refl _⟩, fun i H x H' hi _ y => y⟩, ?_, fun g1 r1 k ok => ?_, fun i g1 x H' hi r1 k ok y => ?_⟩
  · show (match g0.S[n]? with | some (.lst es) => beqDs es ds | _ => false) && true = true
    rw [h]
    simp [beqDs_refl]
  · obtain ⟨xs, h1, h2⟩ := lst_at r0 r1 k hn (Src.at_ ok (List.mem_singleton.mpr rfl))
    exact ⟨xs, h1, h2.length.symm⟩
  · obtain ⟨e, hx⟩ := y
    subst e
    obtain ⟨xs, h1, h2⟩ := lst_at r0 r1 k hn (Src.at_ ok (List.mem_singleton.mpr rfl))
    obtain ⟨d, h3, h4⟩ := h2.getV (hx xs h1)
    exact ⟨d, g1, h3, rfl, rfl, Gr.refl, r1, h4⟩
end
section
variable {M : Md} {X : Cx} {W : WX} {tg : Expr}
theorem mi_d (hK : X.K = M.K) {e : Expr} {f : Fe} (h : ME M X W e f) : MI M X W tg e (iD f) := PI.imp (pi_seq h) fun σ H R q => by
  obtain ⟨g, ρ, rfl, rp, en, q⟩ := q
  have q := Aft.bind (k := srcD) q
  refine tE.go rp en (q.mono (fun d g1 k1 r1 q1 v hv => ?_) fun _ _ _ _ z => z)
  rw [hK]
  unfold srcD at q1
  cases hv with
  | tup h1 h2 => exact ⟨_, rfl, .inr ⟨⟨_, h1⟩, Aft.here r1 q1 _ (srcOk_tup r1 h1 h2)⟩⟩
  | fl h1 h2 => exact ⟨_, rfl, .inl ⟨⟨_, h1.sql⟩, Aft.here r1 q1 _ (srcOk_fl r1 h1 h2)⟩⟩
  | ref hn =>
    simp only at q1
    split at q1
    · rename_i ds hk
      obtain ⟨xs, hx, hxs⟩ := r1.lst hk
      exact ⟨_, rfl, .inl ⟨⟨xs, .inl (.inl hx)⟩, Aft.here r1 q1 _ (srcOk_ref r1 hk)⟩⟩
    · exact q1.elim
  | _ => exact q1.elim

/-! ### ranges -/
def rngD (lo : Int) (n : Nat) : List D := (List.range n).map fun (i : Nat) => .int (lo + (i : Int))
theorem srcOk_rng {g0 : Wd} {lo : Int} {n : Nat} : SrcOk M g0 ⟨rngD lo n, []⟩ (Itr lo n) := by
  have hl : (Src.mk (rngD lo n) []).its.length = n := by show (rngD lo n).length = n; unfold rngD; simp
  refine ⟨fun _ => True, YFn fun i => .int (lo + i), by rw [hl]; exact walk_range, rfl, fun _ _ _ _ => True.intro, fun i g1 x H' hi r1 k _ y => ?_⟩
  obtain ⟨e, hx⟩ := y
  subst e hx
  rw [hl] at hi
  exact ⟨.int (lo + i), g1, by show (rngD lo n)[i]? = _; unfold rngD; simp [hi], rfl, rfl, Gr.refl, r1, .int _⟩
def iR1 (f : Fs) : Fi := fun ρ S => (f ρ S).bind fun ds S1 => match ds with
  | [.int j] => if -(2 ^ 62) ≤ j ∧ j < 2 ^ 62 then .ok ⟨rngD 0 j.toNat, []⟩ S1 else .stuck
  | _ => .stuck
theorem mi_range1 {a : Expr} {p pos : Pos} {f : Fs} (hm : X.mg "range" = none) (ha : MA M X W [a] f) (hg : Gl X "range" := by rfl) (hs : starEach [a] X.env = [(false, eval a X.env)] := by rfl) : MI M X W tg (.Call (.Name "range" p) [a] [] pos) (iR1 f) := PI.imp (pi_range1 hg hm ha hs) fun σ H R q => by
  obtain ⟨g, ρ, rfl, rp, en, q⟩ := q
  have q := Aft.bind (α := List D) (β := Src) (k := fun ds S1 => match ds with
    | [.int j] => if -(2 ^ 62) ≤ j ∧ j < 2 ^ 62 then .ok ⟨rngD 0 j.toNat, []⟩ S1 else .stuck
    | _ => .stuck) q
  refine tA.go rp en (q.mono (fun ds g1 k1 r1 q1 vs hvs => ?_) fun _ _ _ _ z => z)
  split at q1
  · split at q1
    · rename_i hz
      cases hvs with
      | cons h1 h2 =>
        cases h2
        exact ⟨_, by rw [h1.intI], hz.1, hz.2, Aft.here r1 q1 _ srcOk_rng⟩
    · exact q1.elim
  · exact q1.elim
def iR2 (f : Fs) : Fi := fun ρ S => (f ρ S).bind fun ds S1 => match ds with
  | [.int i, .int j] => if -(2 ^ 62) ≤ i ∧ i < 2 ^ 62 ∧ -(2 ^ 62) ≤ j ∧ j < 2 ^ 62 then .ok ⟨rngD i (j - i).toNat, []⟩ S1 else .stuck
  | _ => .stuck
theorem mi_range2 {a b : Expr} {p pos : Pos} {f : Fs} (hm : X.mg "range" = none) (ha : MA M X W [a, b] f) (hg : Gl X "range" := by rfl) (hs : starEach [a, b] X.env = [(false, eval a X.env), (false, eval b X.env)] := by rfl) (hs2 : starEach [b] X.env = [(false, eval b X.env)] := by rfl) : MI M X W tg (.Call (.Name "range" p) [a, b] [] pos) (iR2 f) := PI.imp (pi_range2 hg hm ha hs hs2) fun σ H R q => by
  obtain ⟨g, ρ, rfl, rp, en, q⟩ := q
  have q := Aft.bind (α := List D) (β := Src) (k := fun ds S1 => match ds with
    | [.int i, .int j] => if -(2 ^ 62) ≤ i ∧ i < 2 ^ 62 ∧ -(2 ^ 62) ≤ j ∧ j < 2 ^ 62 then .ok ⟨rngD i (j - i).toNat, []⟩ S1 else .stuck
    | _ => .stuck) q
  refine tA.go rp en (q.mono (fun ds g1 k1 r1 q1 vs hvs => ?_) fun _ _ _ _ z => z)
  split at q1
  · split at q1
    · rename_i hz
      cases hvs with
      | cons h1 h2 =>
        cases h2 with
        | cons h2 h3 =>
          cases h3
          exact ⟨_, _, by rw [h1.intI, h2.intI], hz, Aft.here r1 q1 _ srcOk_rng⟩
    · exact q1.elim
  · exact q1.elim

/-! ### for -/
def forL (ok : Sto → Bool) (t : Tg) (b : Fst) : List D → Rho → Sto → RsS
  | [], ρ, S => .fl (.nx ρ) S
  | d :: ds, ρ, S => match setT t d ρ with
    | none => .stuck
    | some ρ1 => match b ρ1 S with
      | .fl (.nx ρ2) S2 => if ok S2 = true then forL ok t b ds ρ2 S2 else .stuck
      | .fl (.ct ρ2) S2 => if ok S2 = true then forL ok t b ds ρ2 S2 else .stuck
      | .fl (.brk ρ2) S2 => .fl (.nx ρ2) S2
      | r => r
def sFor (f : Fi) (t : Tg) (b : Fst) : Fst := fun ρ S => thenS (f ρ S) ρ fun src S1 => forL src.ok t b src.its ρ S1
theorem for_t (hK : X.K = M.K) {f : Fi} {t : Tg} {b : Fst} {Dn : Ends} {σ : L2.St} {H : Hp} (q : tS M W (sFor f t b) Dn σ H) : tFor (tI M W f) (gT X.K t) (tS M W b) Dn σ H := by
  obtain ⟨g, ρ, rfl, rp, en, q⟩ := q
  have q := AftS.ofE (α := Src) (k := fun (src : Src) S1 => forL src.ok t b src.its ρ S1) rp en q
  refine ⟨g, ρ, rfl, rp, en, q.mono (fun src g0 k0 r0 q0 J hJ => ?_) fun _ _ _ _ z => z⟩
  obtain ⟨G, Y, w, ok0, hG, hY⟩ := hJ
  refine for_it w (fun i σ H => ∃ g1 ρ1, g1.H = H ∧ Rep M g1 ∧ EnvOk M g1 ρ1 σ ∧ Gr g0 g1 ∧ src.ok g1.S = true ∧ AftS M g1 (forL src.ok t b (src.its.drop i) ρ1 g1.S) Dn W)
    ⟨g0, ρ, rfl, r0, en.mono rp k0, Gr.refl, ok0, q0⟩ (fun i σ H hi p => ?_) (fun i x σ H H' hi p y => ?_) fun σ H p => ?_
  · obtain ⟨g1, ρ1, rfl, r1, en1, k1, ok1, q1⟩ := p
    exact hG g1 r1 k1 ok1
  · obtain ⟨g1, ρ1, rfl, r1, en1, k1, ok1, q1⟩ := p
    obtain ⟨d, g2, hd, rfl, e2, k2, r2, hx⟩ := hY i g1 x H' hi r1 k1 ok1 y
    have ed : src.its.drop i = d :: src.its.drop (i + 1) := by
      rw [List.drop_eq_getElem_cons hi]
      rw [List.getElem?_eq_getElem hi] at hd
      cases hd
      rfl
    rw [ed] at q1
    have q1 := q1.up k2 r2
    rw [← e2] at q1 ok1
    unfold forL at q1
    split at q1
    · exact q1.elim
    · rename_i ρ2 e
      refine gT_ok hK [] t d x ρ1 ρ2 σ _ (en1.mono r1 k2) hx e fun σ2 en2 _ => tS.go r2 en2 ?_
      have k02 := k1.trans r1 k2
      cases hb : b ρ2 g2.S with
      | stuck => rw [hb] at q1; exact q1
      | exc x ρ3 S3 => rw [hb] at q1; exact q1
      | fl fl S3 =>
        rw [hb] at q1
        have go : ∀ ρ3 : Rho, AftS M g2 (if src.ok S3 = true then forL src.ok t b (src.its.drop (i + 1)) ρ3 S3 else .stuck) Dn W → ∀ g', g'.S = S3 → Gr g2 g' → Rep M g' → ∀ σ', EnvOk M g' ρ3 σ' →
            ∃ g1 ρ1, g1.H = g'.H ∧ Rep M g1 ∧ EnvOk M g1 ρ1 σ' ∧ Gr g0 g1 ∧ src.ok g1.S = true ∧ AftS M g1 (forL src.ok t b (src.its.drop (i + 1)) ρ1 g1.S) Dn W := fun ρ3 q3 g' e3 k3 r3 σ' en3 => by
          split at q3
          · rename_i ok3
            refine ⟨g', ρ3, rfl, r3, en3, k02.trans r2 k3, by rw [e3]; exact ok3, ?_⟩
            rw [e3]
            exact q3.up k3 r3
          · exact q3.elim
        cases fl with
        | nx ρ3 => exact go ρ3 q1
        | ct ρ3 => exact go ρ3 q1
        | brk ρ3 => exact q1
        | ret d3 => exact q1
  · obtain ⟨g1, ρ1, rfl, r1, en1, k1, ok1, q1⟩ := p
    rw [List.drop_length] at q1
    exact q1 g1 rfl Gr.refl r1 σ en1
theorem ms_for (hK : X.K = M.K) {iter : Expr} {body : List Stmt} {pos : Pos} {f : Fi} {t : Tg} {b : Fst} (hp : PassesOwn (model X.prog X.w) X.A X.env X.xe) (hc : X.calm = true) (hi : MI M X W tg iter f) (hg : MG X tg t) (hb : MSs M X W body b)
    (hs : ∀ x, foldedSetIterable iter X.env x = pure x := by intro _; rfl) : MS M X W (.For tg iter body [] pos) (sFor f t b) := PS.imp (ps_for hp hc hi hg hb hs) fun _ _ _ q => for_t hK q

/-! ### while -/
def whL (c : Ft) (b : Fst) : Nat → Rho → Sto → RsS
  | 0, _, _ => .stuck
  | n + 1, ρ, S => thenS (c ρ S) ρ fun k S1 => if k = true then (match b ρ S1 with
      | .fl (.nx ρ2) S2 => whL c b n ρ2 S2
      | .fl (.ct ρ2) S2 => whL c b n ρ2 S2
      | .fl (.brk ρ2) S2 => .fl (.nx ρ2) S2
      | r => r) else .fl (.nx ρ) S1
def whMost : Nat := 1000000
def sWhile (c : Ft) (b : Fst) : Fst := fun ρ S => whL c b whMost ρ S
theorem while_t {c : Ft} {b : Fst} {Dn : Ends} {σ : L2.St} {H : Hp} (q : tS M W (sWhile c b) Dn σ H) : tWhile (tT M W c) (tS M W b) Dn σ H := by
  obtain ⟨g, ρ, rfl, rp, en, q⟩ := q
  refine ⟨fun m σ H => ∃ g ρ, g.H = H ∧ Rep M g ∧ EnvOk M g ρ σ ∧ AftS M g (whL c b m ρ g.S) Dn W, ⟨whMost, g, ρ, rfl, rp, en, q⟩, fun m σ H p => ?_⟩
  obtain ⟨g, ρ, rfl, rp, en, q⟩ := p
  cases m with
  | zero => exact q.elim
  | succ n =>
    have q := AftS.ofE (α := Bool) (k := fun k S1 => if k = true then (match b ρ S1 with
      | .fl (.nx ρ2) S2 => whL c b n ρ2 S2
      | .fl (.ct ρ2) S2 => whL c b n ρ2 S2
      | .fl (.brk ρ2) S2 => .fl (.nx ρ2) S2
      | r => r) else .fl (.nx ρ) S1) rp en q
    refine tT.go rp en (q.mono (fun k g1 k1 r1 q1 => ?_) fun _ _ _ _ z => z)
    cases k with
    | false => exact iteF (q1 g1 rfl Gr.refl r1 σ (en.mono rp k1))
    | true =>
      refine iteT ⟨fun σ' H' => ∃ g ρ, g.H = H' ∧ Rep M g ∧ EnvOk M g ρ σ' ∧ AftS M g (whL c b n ρ g.S) Dn W, fun σ' H' p => ⟨n, Nat.lt_succ_self n, p⟩, tS.go r1 (en.mono rp k1) ?_⟩
      have q1 : AftS M g1 (match b ρ g1.S with
        | .fl (.nx ρ2) S2 => whL c b n ρ2 S2
        | .fl (.ct ρ2) S2 => whL c b n ρ2 S2
        | .fl (.brk ρ2) S2 => .fl (.nx ρ2) S2
        | r => r) Dn W := q1
      cases hb : b ρ g1.S with
      | stuck => rw [hb] at q1; exact q1
      | exc x ρ3 S3 => rw [hb] at q1; exact q1
      | fl fl S3 =>
        rw [hb] at q1
        cases fl with
        | nx ρ3 => exact fun g' e3 k3 r3 σ' en3 => ⟨g', ρ3, rfl, r3, en3, by rw [e3]; exact q1.up k3 r3⟩
        | ct ρ3 => exact fun g' e3 k3 r3 σ' en3 => ⟨g', ρ3, rfl, r3, en3, by rw [e3]; exact q1.up k3 r3⟩
        | brk ρ3 => exact q1
        | ret d3 => exact q1
theorem ms_while {c : Expr} {body : List Stmt} {pos : Pos} {fc : Ft} {b : Fst} (hp : PassesOwn (model X.prog X.w) X.A X.env X.xe) (hc : MT M X W c fc) (hb : MSs M X W body b) : MS M X W (.While c body [] pos) (sWhile fc b) := PS.imp (ps_while hp hc hb) fun _ _ _ q => while_t q
end
end MP
set_option Elab.async false
set_option linter.all false
set_option maxRecDepth 100000
set_option maxHeartbeats 4000000
/-! Comprehensions. -/
namespace MP
open PySem PySem.Spec PyProof.Rows L2

def wipeR (ρ : Rho) : List Nat → Rho
  | [] => ρ
  | v :: vs => (wipeR ρ vs).set v none
theorem wipeR_env {M : Md} {g : Wd} {ρ : Rho} {σ : L2.St} (en : EnvOk M g ρ σ) : ∀ vs : List Nat, EnvOk M g (wipeR ρ vs) (wipe σ vs)
  | [] => en
  | v :: vs => by
    have ih := wipeR_env en vs
    refine ⟨by show ((wipeR ρ vs).set v none).length = ((wipe σ vs).set v none).length; simp [ih.len], fun i d hi => ?_⟩
    have hi : ((wipeR ρ vs).set v none)[i]? = some (some d) := hi
    by_cases hv : v = i
    · subst hv
      by_cases hl : v < (wipeR ρ vs).length
      · rw [List.getElem?_set_self hl] at hi; cases hi
      · rw [List.getElem?_eq_none (by simpa using hl)] at hi; cases hi
    · rw [List.getElem?_set_ne hv] at hi
      obtain ⟨w, h1, h2⟩ := ih.at_ i d hi
      exact ⟨w, by show ((wipe σ vs).set v none)[i]? = _; rw [List.getElem?_set_ne hv]; exact h1, h2⟩

/-- the items, one after another: each in the slots ρ -/
def lcL (ok : Sto → Bool) (t : Tg) (c : Ft) (e : Fe) (ρ : Rho) : List D → Sto → Rs (List D)
  | [], S => .ok [] S
  | d :: ds, S => match setT t d ρ with
    | none => .stuck
    | some ρ1 => match c ρ1 S with
      | .ok true S1 => match e ρ1 S1 with
        | .ok y S2 => if ok S2 = true then (lcL ok t c e ρ ds S2).bind fun ys S3 => .ok (y :: ys) S3 else .stuck
        | _ => .stuck
      | .ok false S1 => if ok S1 = true then lcL ok t c e ρ ds S1 else .stuck
      | _ => .stuck
def lcFin : List D → Sto → Rs D := fun ys S => if ys.length ≤ sizeLine then .ok (.ref S.length) (S ++ [.lst ys]) else .stuck
def dLc (f : Fi) (t : Tg) (c : Ft) (e : Fe) (vs : List Nat) : Fe := fun ρ S => (f ρ S).bind fun src S1 => (lcL src.ok t c e (wipeR ρ vs) src.its S1).bind lcFin
def fYes : Ft := fun _ S => .ok true S

/-- an object of the heap becomes a place of the store -/
def Wd.adopt (g : Wd) (p : Addr) (o : SO) : Wd := ⟨fun n => if n = g.S.length then p else g.μ n, g.S ++ [o], g.H⟩
section
variable {M : Md} {g g0 g1 : Wd}
theorem adopt_len {p : Addr} {o : SO} : (g.adopt p o).S.length = g.S.length + 1 := by show (g.S ++ [o]).length = _; simp
theorem adopt_old {p : Addr} {o : SO} {n : Nat} (h : n < g.S.length) : (g.adopt p o).μ n = g.μ n := by show (if n = g.S.length then p else g.μ n) = _; rw [if_neg (by omega)]
theorem adopt_new {p : Addr} {o : SO} : (g.adopt p o).μ g.S.length = p := by show (if g.S.length = g.S.length then p else _) = p; rw [if_pos rfl]
mutual
theorem DV.adopt {p : Addr} {o : SO} : ∀ {d : D} {v : V}, DV M g d v → DV M (g.adopt p o) d v
  | _, _, .non => .non
  | _, _, .bl b => .bl b
  | _, _, .int i => .int i
  | _, _, .str x => .str x
  | _, _, .tup h hs => .tup h (DVs.adopt hs)
  | _, _, .fl h hs => .fl h (DVs.adopt hs)
  | _, _, .ref (n := n) h => by
    have q := DV.ref (M := M) (g := g.adopt p o) (n := n) (by rw [adopt_len]; omega)
    rw [adopt_old h] at q; exact q
  | _, _, .fn i => .fn i
theorem DVs.adopt {p : Addr} {o : SO} : ∀ {ds : List D} {vs : List V}, DVs M g ds vs → DVs M (g.adopt p o) ds vs
  | _, _, .nil => .nil
  | _, _, .cons h hs => .cons (DV.adopt h) (DVs.adopt hs)
end
theorem KDs.adopt {p : Addr} {o : SO} {a : List (Key × D)} {b : List (Key × V)} (h : KDs M g a b) : KDs M (g.adopt p o) a b := Paired.mapP h fun _ _ z => ⟨z.1, z.2.adopt⟩
theorem Rep.adopt (r : Rep M g) {p : Addr} {ds : List D} {xs : List V} (hp : ∀ n, n < g.S.length → g.μ n ≠ p) (h : g.H p = some (.lst xs)) (hd : DVs M g ds xs) : Rep M (g.adopt p (.lst ds)) := by
  refine ⟨fun i j hi hj e => ?_, fun i w e => ?_⟩
  · rw [adopt_len] at hi hj
    by_cases h1 : i = g.S.length
    · by_cases h2 : j = g.S.length
      · omega
      · rw [h1, adopt_new, adopt_old (by omega)] at e; exact absurd e.symm (hp j (by omega))
    · by_cases h2 : j = g.S.length
      · rw [h2, adopt_new, adopt_old (by omega)] at e; exact absurd e (hp i (by omega))
      · rw [adopt_old (by omega), adopt_old (by omega)] at e; exact r.inj i j (by omega) (by omega) e
  · have e : (g.S ++ [.lst ds])[i]? = some w := e
    by_cases h1 : i < g.S.length
    · rw [List.getElem?_append_left h1] at e
      rw [adopt_old h1]
      have q := r.obj i w e
      cases w with
      | lst es => obtain ⟨ys, h3, h4⟩ := q; exact ⟨ys, h3, h4.adopt⟩
      | dk kvs => obtain ⟨ys, h3, h4⟩ := q; exact ⟨ys, h3, h4.adopt⟩
    · have h2 : i = g.S.length := by
        have := (List.getElem?_eq_some_iff.mp e).1
        rw [List.length_append, List.length_singleton] at this
        omega
      subst h2
      rw [List.getElem?_append_right (Nat.le_refl _), Nat.sub_self] at e
      cases (show some (SO.lst ds) = some w from e)
      rw [adopt_new]
      exact ⟨xs, h, hd.adopt⟩
/-- from the world ahead of the object -/
theorem Gr.adopt {p : Addr} {o : SO} (hp : g0.H p = none) (k : Gr g0 g1) : Gr g0 (g1.adopt p o) where
  len := by rw [adopt_len]; exact Nat.le_succ_of_le k.len
  same := fun n hn => by rw [adopt_old (Nat.lt_of_lt_of_le hn k.len)]; exact k.same n hn
  fresh := fun n h1 h2 => by
    rw [adopt_len] at h2
    by_cases h : n < g1.S.length
    · rw [adopt_old h]; exact k.fresh n h1 h
    · have e : n = g1.S.length := by omega
      subst e
      rw [adopt_new]; exact hp
  keep := k.keep
/-- no place of the store stands at p -/
def Off (g : Wd) (p : Addr) : Prop := ∀ n, n < g.S.length → g.μ n ≠ p
theorem Off.up {p : Addr} {o : HO} (h : Off g p) (hp : g.H p = some o) (k : Gr g g1) : Off g1 p := fun n hn e => by
  by_cases hl : n < g.S.length
  · rw [k.same n hl] at e; exact h n hl e
  · have z := k.fresh n (Nat.le_of_not_lt hl) hn
    rw [e, hp] at z; cases z
theorem Gr.side {p : Addr} {u : HO} (hp : g0.H p = none) (k : Gr g0 g1) : Gr g0 ⟨g1.μ, g1.S, upd g1.H p u⟩ :=
  ⟨k.len, k.same, k.fresh, fun a w e hn => by
    show upd g1.H p u a = some w
    rw [upd_ne (ne_of_none e hp)]; exact k.keep a w e hn⟩
end

/-- the list at p is lengthened: no place of the store, no tuple, no frozen list -/
theorem DVs.side {M : Md} {g : Wd} {p : Addr} {u : HO} {ys : List V} (h : g.H p = some (.lst ys)) : ∀ {ds : List D} {vs : List V}, DVs M g ds vs → DVs M ⟨g.μ, g.S, upd g.H p u⟩ ds vs := by
  have ht : ∀ {a : Addr} {xs : List V}, SqT M.K g.H a xs → SqT M.K (upd g.H p u) a xs := fun {a xs} z => by
    rcases z with (z | ⟨o, z⟩) | z
    · exact .inl (.inl (by rw [upd_ne (ne_of z h (by intro q; cases q))]; exact z))
    · exact .inl (.inr ⟨o, by rw [upd_ne (ne_of z h (by intro q; cases q))]; exact z⟩)
    · exact .inr z
  have hf : ∀ {a : Addr} {xs : List V}, FzL M.K g.H a xs → FzL M.K (upd g.H p u) a xs := fun {a xs} z => by
    rcases z with ⟨o, z⟩ | z
    · exact .inl ⟨o, by rw [upd_ne (ne_of z h (by intro q; cases q))]; exact z⟩
    · exact .inr z
  have go : (∀ {d : D} {v : V}, DV M g d v → DV M ⟨g.μ, g.S, upd g.H p u⟩ d v) ∧ ∀ {ds : List D} {vs : List V}, DVs M g ds vs → DVs M ⟨g.μ, g.S, upd g.H p u⟩ ds vs := by
    refine ⟨fun {d v} z => ?_, fun {ds vs} z => ?_⟩
    · exact DV.rec (motive_1 := fun d v _ => DV M ⟨g.μ, g.S, upd g.H p u⟩ d v) (motive_2 := fun ds vs _ => DVs M ⟨g.μ, g.S, upd g.H p u⟩ ds vs) .non (fun b => .bl b) (fun i => .int i) (fun x => .str x) (fun h1 _ ih => .tup (ht h1) ih) (fun h1 _ ih => .fl (hf h1) ih) (fun hn => .ref hn) (fun i => .fn i) .nil (fun _ _ i1 i2 => .cons i1 i2) z
    · exact DVs.rec (motive_1 := fun d v _ => DV M ⟨g.μ, g.S, upd g.H p u⟩ d v) (motive_2 := fun ds vs _ => DVs M ⟨g.μ, g.S, upd g.H p u⟩ ds vs) .non (fun b => .bl b) (fun i => .int i) (fun x => .str x) (fun h1 _ ih => .tup (ht h1) ih) (fun h1 _ ih => .fl (hf h1) ih) (fun hn => .ref hn) (fun i => .fn i) .nil (fun _ _ i1 i2 => .cons i1 i2) z
  exact fun {ds vs} z => go.2 z
theorem DVs.side1 {M : Md} {g : Wd} {p : Addr} {u : HO} {ys : List V} (h : g.H p = some (.lst ys)) {d : D} {v : V} (z : DV M g d v) : DV M ⟨g.μ, g.S, upd g.H p u⟩ d v := by
  cases DVs.side (u := u) h (.cons z .nil) with
  | cons h1 _ => exact h1
theorem Rep.side {M : Md} {g : Wd} (r : Rep M g) {p : Addr} {ys zs : List V} (h : g.H p = some (.lst ys)) (hp : ∀ n, n < g.S.length → g.μ n ≠ p) : Rep M ⟨g.μ, g.S, upd g.H p (.lst zs)⟩ := by
  refine ⟨r.inj, fun i w e => ?_⟩
  have hi : i < g.S.length := (List.getElem?_eq_some_iff.mp e).1
  have q := r.obj i w e
  have ne : g.μ i ≠ p := hp i hi
  cases w with
  | lst es =>
    obtain ⟨xs, h1, h2⟩ := q
    exact ⟨xs, by show upd g.H p _ (g.μ i) = _; rw [upd_ne ne]; exact h1, DVs.side h h2⟩
  | dk kvs =>
    obtain ⟨xs, h1, h2⟩ := q
    exact ⟨xs, by show upd g.H p _ (g.μ i) = _; rw [upd_ne ne]; exact h1, Paired.mapP h2 fun _ _ z => ⟨z.1, DVs.side1 h z.2⟩⟩

theorem wipe_wipe (σ : L2.St) (vs : List Nat) : wipe (wipe σ vs) vs = wipe σ vs := by
  apply List.ext_getElem?
  intro j
  rw [wipe_get, wipe_length, wipe_get]
  by_cases h : j ∈ vs ∧ j < σ.length
  · rw [if_pos h, if_pos h]
  · rw [if_neg h]
theorem lcL_cons {ok : Sto → Bool} {t : Tg} {c : Ft} {e : Fe} {ρ : Rho} {d : D} {ds : List D} {S S' : Sto} {ys : List D} (h : lcL ok t c e ρ (d :: ds) S = .ok ys S') :
    ∃ ρ1, setT t d ρ = some ρ1 ∧ ((∃ S1 y S2 ys', c ρ1 S = .ok true S1 ∧ e ρ1 S1 = .ok y S2 ∧ ok S2 = true ∧ lcL ok t c e ρ ds S2 = .ok ys' S' ∧ ys = y :: ys') ∨
      ∃ S1, c ρ1 S = .ok false S1 ∧ ok S1 = true ∧ lcL ok t c e ρ ds S1 = .ok ys S') := by
  unfold lcL at h
  split at h
  · cases h
  · rename_i ρ1 e1
    refine ⟨ρ1, e1, ?_⟩
    split at h
    · rename_i S1 e2
      split at h
      · rename_i y S2 e3
        split at h
        · rename_i e4
          cases q : lcL ok t c e ρ ds S2 with
          | stuck => rw [q] at h; cases h
          | exc x S3 => rw [q] at h; cases h
          | ok ys' S3 =>
            rw [q] at h
            have h : Rs.ok (y :: ys') S3 = .ok ys S' := h
            cases h
            exact .inl ⟨S1, y, S2, ys', e2, e3, e4, q, rfl⟩
        · cases h
      · cases h
    · rename_i S1 e2
      split at h
      · rename_i e4
        exact .inr ⟨S1, e2, e4, h⟩
      · cases h
    · cases h
theorem lcL_noexc {ok : Sto → Bool} {t : Tg} {c : Ft} {e : Fe} {ρ : Rho} {x : Xn} : ∀ {ds : List D} {S S' : Sto}, lcL ok t c e ρ ds S ≠ .exc x S'
  | [], S, S', h => by cases h
  | d :: ds, S, S', h => by
    unfold lcL at h
    split at h
    · cases h
    · split at h
      · split at h
        · split at h
          · rename_i S2 _ _
            cases q : lcL ok t c e ρ ds S2 with
            | stuck => rw [q] at h; cases h
            | exc x S3 => exact lcL_noexc q
            | ok ys' S3 => rw [q] at h; cases h
          · cases h
        · cases h
      · split at h
        · exact lcL_noexc h
        · cases h
      · cases h
abbrev WF : WX := fun _ _ _ _ => False
theorem lc_t {M : Md} {X : Cx} {W : WX} (hK : X.K = M.K) {f : Fi} {t : Tg} {c : Ft} {e : Fe} {vs : List Nat} (hv : t.in_ vs = true) {σ : L2.St} {H : Hp} {Q : VK} (q : tE M W (dLc f t c e vs) σ H Q) : tLc (tI M W f) (gT X.K t) (tT M WF c) (tE M WF e) vs σ H Q := by
  obtain ⟨g, ρ, rfl, rp, en, q⟩ := q
  have q := Aft.bind (α := Src) (β := D) (k := fun src S1 => (lcL src.ok t c e (wipeR ρ vs) src.its S1).bind lcFin) q
  refine ⟨g, ρ, rfl, rp, en, q.mono (fun src g0 k0 r0 q0 J hJ Dl hD => ?_) fun _ _ _ _ z => z⟩
  obtain ⟨G, Y, w, ok0, hG, hY⟩ := hJ
  cases hall : lcL src.ok t c e (wipeR ρ vs) src.its g0.S with
  | stuck => rw [hall] at q0; exact q0.elim
  | exc x S3 => exact (lcL_noexc hall).elim
  | ok all Sall =>
    rw [hall] at q0
    have q0 : Aft M g0 (lcFin all Sall) (PD M Q) (XD M W σ) := q0
    unfold lcFin at q0
    split at q0
    · rename_i hz
      have rl : Rep M ⟨g0.μ, g0.S, upd g0.H Dl (.lst [])⟩ := r0.laid hD
      have kl : Gr g0 ⟨g0.μ, g0.S, upd g0.H Dl (.lst [])⟩ := Gr.laid hD
      have en0 := wipeR_env (en.mono rp k0) vs
      refine lc_it w (fun i H => ∃ g1 acc accv ys, g1.H = H ∧ Rep M g1 ∧ Gr g0 g1 ∧ Off g1 Dl ∧ src.ok g1.S = true ∧ H Dl = some (.lst accv) ∧ DVs M g1 acc accv ∧
          lcL src.ok t c e (wipeR ρ vs) (src.its.drop i) g1.S = .ok ys Sall ∧ all = acc ++ ys)
        ⟨_, [], [], all, rfl, rl, kl, fun n hn e => r0.not_none hn (by rw [show g0.μ n = Dl from e]; exact hD), ok0, upd_same, .nil, hall, rfl⟩ (fun i H hi p => ?_) (fun i x H H' hi p y => ?_) fun H p => ?_
      · obtain ⟨g1, acc, accv, ys, rfl, r1, k01, _, ok1, _⟩ := p
        exact hG g1 r1 k01 ok1
      · obtain ⟨g1, acc, accv, ys, rfl, r1, k01, off1, ok1, hDl, hacc, hys, hal⟩ := p
        obtain ⟨d, g2, hd, rfl, e2, k2, r2, hx⟩ := hY i g1 x H' hi r1 k01 ok1 y
        have ed : src.its.drop i = d :: src.its.drop (i + 1) := by
          rw [List.drop_eq_getElem_cons hi]
          rw [List.getElem?_eq_getElem hi] at hd
          cases hd
          rfl
        rw [ed, ← e2] at hys
        obtain ⟨ρ1, eT, hys⟩ := lcL_cons hys
        have k02 := k01.trans r1 k2
        have off2 := off1.up hDl k2
        have hD2 := k2.keep _ _ hDl off1
        refine gT_ok hK vs t d x _ ρ1 _ _ (en0.mono r0 k02) hx eT fun σ2 en2 w2 => ⟨(w2 hv).trans (wipe_wipe σ vs), tT.go r2 en2 ?_⟩
        rcases hys with ⟨S1, y, S2, ys', h1, h2, ok2, h3, rfl⟩ | ⟨S1, h1, ok2, h3⟩
        · rw [h1]
          intro g3 e3 k3 r3
          refine iteT (tE.go r3 (en2.mono r2 k3) ?_)
          rw [e3, h2]
          intro g4 e4 k4 r4 v hv4
          have off3 := off2.up hD2 k3
          have hD3 := k3.keep _ _ hD2 off2
          have off4 := off3.up hD3 k4
          have hD4 : g4.H Dl = some (.lst accv) := k4.keep _ _ hD3 off3
          have hacc4 : DVs M g4 acc accv := ((hacc.mono r1 k2).mono r2 k3).mono r3 k4
          have hlen : acc.length + (ys'.length + 1) ≤ sizeLine := by rw [hal, List.length_append, List.length_cons] at hz; exact hz
          have k04 := (k02.trans r2 k3).trans r3 k4
          exact ⟨accv, hD4, by rw [← hacc4.length]; omega, ⟨g4.μ, g4.S, upd g4.H Dl (.lst (accv ++ [v]))⟩, acc ++ [y], accv ++ [v], ys', rfl, r4.side hD4 off4, k04.side hD, off4, by show src.ok g4.S = true; rw [e4]; exact ok2, upd_same,
            DVs.side hD4 (hacc4.append (.cons hv4 .nil)), by show lcL _ _ _ _ _ _ g4.S = _; rw [e4]; exact h3, by rw [hal, List.append_assoc]; rfl⟩
        · rw [h1]
          intro g3 e3 k3 r3
          exact iteF ⟨g3, acc, accv, ys, rfl, r3, k02.trans r2 k3, off2.up hD2 k3, by rw [e3]; exact ok2, k3.keep _ _ hD2 off2, (hacc.mono r1 k2).mono r2 k3, by rw [e3]; exact h3, hal⟩
      · obtain ⟨g1, acc, accv, ys, rfl, r1, k01, off1, ok1, hDl, hacc, hys, hal⟩ := p
        rw [List.drop_length] at hys
        cases (show Rs.ok [] g1.S = .ok ys Sall from hys)
        rw [List.append_nil] at hal
        subst hal
        have z := q0 (g1.adopt Dl (.lst all)) rfl (Gr.adopt hD k01) (r1.adopt off1 hDl hacc) (.ref Dl)
        have z2 : DV M (g1.adopt Dl (.lst all)) (.ref g1.S.length) (.ref Dl) := by
          have q := DV.ref (M := M) (g := g1.adopt Dl (.lst all)) (n := g1.S.length) (by rw [adopt_len]; omega)
          rw [adopt_new] at q; exact q
        exact z z2
    · exact q0.elim

section
variable {M : Md} {X : Cx} {W : WX}
/-- [e for t in iter if c] -/
theorem me_lc (hK : X.K = M.K) {elt tg iter : Expr} {ifs : List Expr} {scope : Scope} {own : List (Str × Nat)} {pos : Pos} {f : Fi} {t : Tg} {c : Ft} {e : Fe} (hc : X.calm = true) (hN : X.N.Nodup) (hi : MI M X W tg iter f) (hb : blkC X.N X.env.scope scope own = true)
    (hg : ∀ (s : Shared) (H : Hp) (C : Addr) (cl : List (Str × Addr)) (fp : List Addr), MG (X.blk s H scope (compEnvC scope cl C X.env) fp) tg t)
    (ht : ∀ (s : Shared) (H : Hp) (C : Addr) (cl : List (Str × Addr)) (fp : List Addr), PTs (X.blk s H scope (compEnvC scope cl C X.env) fp) ifs (tT M WF c))
    (he : ∀ (s : Shared) (H : Hp) (C : Addr) (cl : List (Str × Addr)) (fp : List Addr), ME M (X.blk s H scope (compEnvC scope cl C X.env) fp) WF elt e) (hv : t.in_ (own.map (·.2)) = true := by rfl) (hs : ∀ x, foldedSetIterable iter X.env x = pure x := by intro _; rfl) :
    ME M X W (.ListComp elt [⟨tg, iter, ifs, 0⟩] scope pos) (dLc f t c e (own.map (·.2))) :=
  PE.imp (pe_lc hc hN hi (blkOk_by hb) hg ht he hs) fun _ _ _ q => lc_t hK hv q
theorem mts_nil : PTs X [] (tT M W fYes) := ⟨fun pins s σ H Q I h => by
  obtain ⟨g, ρ, rfl, rp, en, q⟩ := h
  exact pts_nil.run pins s σ g.H Q I (Aft.here rp q)⟩
theorem mts_one {c : Expr} {f : Ft} (h : MT M X W c f) : PTs X [c] (tT M W f) := pts_one h
/-- name = [..] on one line -/
theorem ms_setLc (hK : X.K = M.K) {i : Nat} {y : Str} {py : Pos} {elt tg iter : Expr} {ifs : List Expr} {scope : Scope} {own : List (Str × Nat)} {pos spos : Pos} {f : Fi} {t : Tg} {c : Ft} {e : Fe} (hc : X.calm = true) (hN : X.N.Nodup) (hi : MI M X W tg iter f) (hb : blkC X.N X.env.scope scope own = true)
    (hg : ∀ (s : Shared) (H : Hp) (C : Addr) (cl : List (Str × Addr)) (fp : List Addr), MG (X.blk s H scope (compEnvC scope cl C X.env) fp) tg t)
    (ht : ∀ (s : Shared) (H : Hp) (C : Addr) (cl : List (Str × Addr)) (fp : List Addr), PTs (X.blk s H scope (compEnvC scope cl C X.env) fp) ifs (tT M WF c))
    (he : ∀ (s : Shared) (H : Hp) (C : Addr) (cl : List (Str × Addr)) (fp : List Addr), ME M (X.blk s H scope (compEnvC scope cl C X.env) fp) WF elt e)
    (ha : (scope.names.any fun (n, k) => n == y && (k == .local || k == .cell)) = false) (hk : X.env.scope.kind = .function := by rfl) (hy : X.N[i]? = some y := by rfl) (hyl : X.env.scope.names.lookup y = some .local := by rfl) (hl : (py.line == pos.line) = true := by rfl)
    (hv : t.in_ (own.map (·.2)) = true := by rfl) (hs : ∀ x, foldedSetIterable iter X.env x = pure x := by intro _; rfl) :
    MS M X W (.Assign [.Name y py] (.ListComp elt [⟨tg, iter, ifs, 0⟩] scope pos) spos) (sSet i (dLc f t c e (own.map (·.2)))) :=
  PS.imp (ps_setLc hc hN hy hyl (sw_true hk hyl hl ha) hi (blkOk_by hb) hg ht he hs) fun Dn σ H q => by
    have q := set_t q
    exact lc_t hK hv q
end
end MP
set_option Elab.async false
set_option linter.all false
set_option maxRecDepth 100000
set_option maxHeartbeats 4000000
/-! Built-in functions, methods, defs. -/
namespace MP
open PySem PySem.Spec PyProof.Rows L2

/-! ### a slot's value, the items' kinds -/
def asInts : List D → Option (List Int)
  | [] => some []
  | .int i :: ds => (asInts ds).map (i :: ·)
  | _ => none
def asBls : List D → Option (List Bool)
  | [] => some []
  | .bl b :: ds => (asBls ds).map (b :: ·)
  | _ => none
section
variable {M : Md} {g : Wd}
theorem asInts_v : ∀ {ds : List D} {vs : List V} {ns : List Int}, DVs M g ds vs → asInts ds = some ns → vs = ns.map V.int
  | _, _, _, .nil, e => by cases (show some [] = some _ from e); rfl
  | d :: ds, _, ns, .cons h t, e => by
    cases h with
    | int i =>
      have e : (asInts ds).map (i :: ·) = some ns := e
      simp only [Option.map_eq_some_iff] at e
      obtain ⟨ms, e1, rfl⟩ := e
      rw [asInts_v t e1]; rfl
    | _ => cases e
theorem asBls_v : ∀ {ds : List D} {vs : List V} {ns : List Bool}, DVs M g ds vs → asBls ds = some ns → vs = ns.map V.bl
  | _, _, _, .nil, e => by cases (show some [] = some _ from e); rfl
  | d :: ds, _, ns, .cons h t, e => by
    cases h with
    | bl i =>
      have e : (asBls ds).map (i :: ·) = some ns := e
      simp only [Option.map_eq_some_iff] at e
      obtain ⟨ms, e1, rfl⟩ := e
      rw [asBls_v t e1]; rfl
    | _ => cases e
/-- the items of a list (no tuple) -/
def lstD : D → Sto → Option (List D) := fun d S => match d with
  | .fl ds => some ds
  | .ref n => match S[n]? with
    | some (.lst ds) => some ds
    | _ => none
  | _ => none
theorem lstD_v {d : D} {v : V} {ds : List D} (r : Rep M g) (h : DV M g d v) (e : lstD d g.S = some ds) : ∃ a xs, v = .ref a ∧ SqL M.K g.H a xs ∧ DVs M g ds xs := by
  unfold lstD at e
  cases h with
  | fl h1 h2 => cases e; exact ⟨_, _, rfl, h1.sql, h2⟩
  | ref hn =>
    simp only at e
    split at e
    · rename_i es hk
      cases e
      obtain ⟨xs, hx, hxs⟩ := r.lst hk
      exact ⟨_, xs, rfl, .inl (.inl hx), hxs⟩
    · cases e
  | _ => cases e
theorem DVs.one {d : D} {vs : List V} (h : DVs M g [d] vs) : ∃ v, vs = [v] ∧ DV M g d v := by
  cases h with
  | cons h t => cases t; exact ⟨_, rfl, h⟩
theorem DVs.two {d e : D} {vs : List V} (h : DVs M g [d, e] vs) : ∃ v u, vs = [v, u] ∧ DV M g d v ∧ DV M g e u := by
  cases h with
  | cons h t =>
    obtain ⟨u, rfl, hu⟩ := t.one
    exact ⟨_, _, rfl, h, hu⟩

/-! ### functions -/
def nLen : FN := fun ds S => match ds with
  | [.str z] => if z.length ≤ sizeLine then .ok (.int (z.length : Nat)) S else .stuck
  | [d] => match itemsD d S with
    | some es => .ok (.int (es.length : Nat)) S
    | none => .stuck
  | _ => .stuck
def rLenV (K : PySem.W.Frag) : List V → Hp → VK → Prop := fun xs H Q => ∃ x n, xs = [x] ∧ LenV K x H n ∧ Q (.int (n : Nat)) H
theorem on_len : OpN M (rLenV M.K) nLen := by
  intro g ds vs Q E r hv h
  unfold nLen at h
  split at h
  · split at h
    · rename_i z hz
      obtain ⟨v, rfl, h1⟩ := hv.one
      exact ⟨v, _, rfl, by rw [h1.strI]; exact ⟨hz, rfl⟩, h.here r _ (.int _)⟩
    · exact h.elim
  · split at h
    · rename_i es he
      obtain ⟨v, rfl, h1⟩ := hv.one
      obtain ⟨a, xs, rfl, hx, hxs⟩ := itemsD_v r h1 he
      refine ⟨_, xs.length, rfl, ?_, by rw [← hxs.length]; exact h.here r _ (.int _)⟩
      rcases hx with hx | hx
      · exact .inr ⟨xs, hx, rfl⟩
      · exact .inl ⟨xs, hx, rfl⟩
    · exact h.elim
  · exact h.elim
def nAbs : FN := fun ds S => match ds with
  | [.int i] => .ok (.int (if i < 0 then -i else i)) S
  | _ => .stuck
theorem on_abs : OpN M (fun xs H Q => ∃ i, xs = [.int i] ∧ Q (.int (if i < 0 then -i else i)) H) nAbs := by
  intro g ds vs Q E r hv h
  unfold nAbs at h
  split at h
  · obtain ⟨v, rfl, h1⟩ := hv.one
    exact ⟨_, by rw [h1.intI], h.here r _ (.int _)⟩
  · exact h.elim
def nMax2 : FN := fun ds S => match ds with
  | [.int i, .int j] => .ok (.int (if j > i then j else i)) S
  | _ => .stuck
theorem on_max2 : OpN M (fun xs H Q => ∃ i j, xs = [.int i, .int j] ∧ Q (.int (if j > i then j else i)) H) nMax2 := by
  intro g ds vs Q E r hv h
  unfold nMax2 at h
  split at h
  · obtain ⟨v, u, rfl, h1, h2⟩ := hv.two
    exact ⟨_, _, by rw [h1.intI, h2.intI], h.here r _ (.int _)⟩
  · exact h.elim
def nMin2 : FN := fun ds S => match ds with
  | [.int i, .int j] => .ok (.int (if j < i then j else i)) S
  | _ => .stuck
theorem on_min2 : OpN M (fun xs H Q => ∃ i j, xs = [.int i, .int j] ∧ Q (.int (if j < i then j else i)) H) nMin2 := by
  intro g ds vs Q E r hv h
  unfold nMin2 at h
  split at h
  · obtain ⟨v, u, rfl, h1, h2⟩ := hv.two
    exact ⟨_, _, by rw [h1.intI, h2.intI], h.here r _ (.int _)⟩
  · exact h.elim
def nInt : FN := fun ds S => match ds with
  | [.int i] => .ok (.int i) S
  | [.bl k] => .ok (.int (if k then 1 else 0)) S
  | _ => .stuck
theorem on_int : OpN M (fun xs H Q => (∃ i, xs = [.int i] ∧ Q (.int i) H) ∨ ∃ k, xs = [.bl k] ∧ Q (.int (if k then 1 else 0)) H) nInt := by
  intro g ds vs Q E r hv h
  unfold nInt at h
  split at h
  · obtain ⟨v, rfl, h1⟩ := hv.one
    exact .inl ⟨_, by rw [h1.intI], h.here r _ (.int _)⟩
  · obtain ⟨v, rfl, h1⟩ := hv.one
    exact .inr ⟨_, by rw [h1.blI], h.here r _ (.int _)⟩
  · exact h.elim
def nTuple : FN := fun ds S => match ds with
  | [d] => match d with
    | .tup es => .ok (.tup es) S
    | d => match lstD d S with
      | some es => .ok (.tup es) S
      | none => .stuck
  | _ => .stuck
def rTupleOf (K : PySem.W.Frag) : List V → Hp → VK → Prop := fun xs H Q => ∃ p ys, xs = [.ref p] ∧ ((SqL K H p ys ∧ ∀ l, H l = none → Q (.ref l) (upd H l (.tup ys))) ∨ (SqT K H p ys ∧ Q (.ref p) H))
theorem on_tuple : OpN M (rTupleOf M.K) nTuple := by
  intro g ds vs Q E r hv h
  unfold nTuple at h
  split at h
  · split at h
    · obtain ⟨v, rfl, h1⟩ := hv.one
      obtain ⟨a, xs, rfl, hx, hxs⟩ := h1.tupI
      exact ⟨a, xs, rfl, .inr ⟨hx, h.here r _ h1⟩⟩
    · split at h
      · rename_i es he
        obtain ⟨v, rfl, h1⟩ := hv.one
        obtain ⟨a, xs, rfl, hx, hxs⟩ := lstD_v r h1 he
        exact ⟨a, xs, rfl, .inl ⟨hx, fun p hp => new_tup r h hp _ (dv_new r hp hxs)⟩⟩
      · exact h.elim
  · exact h.elim
def nList : FN := fun ds S => match ds with
  | [d] => match itemsD d S with
    | some es => .ok (.ref S.length) (S ++ [.lst es])
    | none => .stuck
  | _ => .stuck
def rListOf (K : PySem.W.Frag) : List V → Hp → VK → Prop := fun xs H Q => ∃ p ys, xs = [.ref p] ∧ (SqL K H p ys ∨ SqT K H p ys) ∧ ∀ l, H l = none → Q (.ref l) (upd H l (.lst ys))
theorem on_list : OpN M (rListOf M.K) nList := by
  intro g ds vs Q E r hv h
  unfold nList at h
  split at h
  · split at h
    · rename_i es he
      obtain ⟨v, rfl, h1⟩ := hv.one
      obtain ⟨a, xs, rfl, hx, hxs⟩ := itemsD_v r h1 he
      exact ⟨a, xs, rfl, hx.symm, fun p hp => new_lst r h hp hxs _ .newRef⟩
    · exact h.elim
  · exact h.elim
def nAll : FN := fun ds S => match ds with
  | [d] => match lstD d S with
    | some es => match asBls es with
      | some bs => .ok (.bl (bs.all id)) S
      | none => .stuck
    | none => .stuck
  | _ => .stuck
theorem on_all : OpN M (rAll M.K) nAll := by
  intro g ds vs Q E r hv h
  unfold nAll at h
  split at h
  · split at h
    · rename_i es he
      split at h
      · rename_i bs hb
        obtain ⟨v, rfl, h1⟩ := hv.one
        obtain ⟨a, xs, rfl, hx, hxs⟩ := lstD_v r h1 he
        rw [asBls_v hxs hb] at hx
        exact ⟨a, bs, rfl, hx, h.here r _ (.bl _)⟩
      · exact h.elim
    · exact h.elim
  · exact h.elim
def nAny : FN := fun ds S => match ds with
  | [d] => match lstD d S with
    | some es => match asBls es with
      | some bs => .ok (.bl (bs.any id)) S
      | none => .stuck
    | none => .stuck
  | _ => .stuck
theorem on_any : OpN M (rAny M.K) nAny := by
  intro g ds vs Q E r hv h
  unfold nAny at h
  split at h
  · split at h
    · rename_i es he
      split at h
      · rename_i bs hb
        obtain ⟨v, rfl, h1⟩ := hv.one
        obtain ⟨a, xs, rfl, hx, hxs⟩ := lstD_v r h1 he
        rw [asBls_v hxs hb] at hx
        exact ⟨a, bs, rfl, hx, h.here r _ (.bl _)⟩
      · exact h.elim
    · exact h.elim
  · exact h.elim
def nSum : FN := fun ds S => match ds with
  | [d] => match lstD d S with
    | some es => match asInts es with
      | some ns => .ok (.int ns.sum) S
      | none => .stuck
    | none => .stuck
  | _ => .stuck
theorem on_sum : OpN M (rSum M.K) nSum := by
  intro g ds vs Q E r hv h
  unfold nSum at h
  split at h
  · split at h
    · rename_i es he
      split at h
      · rename_i bs hb
        obtain ⟨v, rfl, h1⟩ := hv.one
        obtain ⟨a, xs, rfl, hx, hxs⟩ := lstD_v r h1 he
        rw [asInts_v hxs hb] at hx
        exact ⟨a, bs, rfl, hx, h.here r _ (.int _)⟩
      · exact h.elim
    · exact h.elim
  · exact h.elim
def nGcd : FN := fun ds S => match ds with
  | [.int i, .int j] => .ok (.int ((Nat.gcd i.natAbs j.natAbs : Nat) : Int)) S
  | _ => .stuck
theorem on_gcd : OpN M rGcd nGcd := by
  intro g ds vs Q E r hv h
  unfold nGcd at h
  split at h
  · obtain ⟨v, u, rfl, h1, h2⟩ := hv.two
    exact ⟨_, _, by rw [h1.intI, h2.intI], h.here r _ (.int _)⟩
  · exact h.elim

/-! ### isinstance -/
end
inductive Ty where
  | none | bool | int | str | tuple | list | dict
  deriving DecidableEq
def Ty.nm : Ty → String
  | .none => "NoneType" | .bool => "bool" | .int => "int" | .str => "str" | .tuple => "tuple" | .list => "list" | .dict => "dict"
def Ty.sub (a b : Ty) : Bool := decide (a = b) || (decide (a = .bool) && decide (b = .int))
theorem Ty.kit (a b : Ty) (h : b ≠ .none) : kitB a.nm b.nm = some (Ty.sub a b) := by
  cases a <;> cases b <;> first | exact absurd rfl h | decide +kernel
def tyD : D → Sto → Option Ty := fun d S => match d with
  | .non => some .none
  | .bl _ => some .bool
  | .int _ => some .int
  | .str _ => some .str
  | .tup _ => some .tuple
  | .fl _ => some .list
  | .ref n => match S[n]? with
    | some (.lst _) => some .list
    | some (.dk _) => some .dict
    | _ => Option.none
  | .fn _ => Option.none
def dIsi (b : Ty) (f : Fe) : Fe := fun ρ S => (f ρ S).bind fun d S1 => match tyD d S1 with
  | some a => .ok (.bl (Ty.sub a b)) S1
  | Option.none => .stuck
section
variable {M : Md} {X : Cx} {W : WX}
theorem tyD_v {g : Wd} {d : D} {v : V} {a : Ty} (r : Rep M g) (h : DV M g d v) (e : tyD d g.S = some a) : TyX M.K g.H v (.type a.nm) := by
  unfold tyD at e
  cases h with
  | non => cases e; exact .base .non
  | bl b => cases e; exact .base (.bl b)
  | int i => cases e; exact .base (.int i)
  | str x => cases e; exact .base (.str x)
  | tup h1 h2 =>
    cases e
    rcases h1 with (h1 | ⟨o, h1⟩) | ⟨o, its, n, h1, h2, _⟩
    · exact .base (.tup h1)
    · exact .fTuple h1
    · exact .kTuple h1 h2
  | fl h1 h2 =>
    cases e
    rcases h1 with ⟨o, h1⟩ | ⟨o, its, n, h1, h2, _⟩
    · exact .base (.frz h1)
    · exact .kList h1 h2
  | ref hn =>
    simp only at e
    split at e
    · rename_i ds hk
      cases e
      obtain ⟨xs, hx, _⟩ := r.lst hk
      exact .base (.lst hx)
    · rename_i kvs hk
      cases e
      obtain ⟨ws, hx, _⟩ := r.obj _ _ hk
      exact .base (.dK hx)
    · cases e
  | fn i => cases e
theorem me_isi (hK : X.K = M.K) {e : Expr} {T : Str} {p p2 pos : Pos} {f : Fe} {b : Ty} (hm : X.mg "isinstance" = none) (hmT : X.mg T = none) (hvT : bootBuiltins T = some (.type b.nm)) (hb : b ≠ .none) (he : ME M X W e f) (hg : Gl X "isinstance" := by rfl) (hgT : Gl X T := by rfl)
    (hnT : T ≠ "__name__" := by decide) (hdT : (T == ("__debug__" : Str)) = false := by decide)
    (hs : starEach [e, .Name T p2] X.env = (false, eval e X.env) :: starEach [.Name T p2] X.env := by rfl) :
    ME M X W (.Call (.Name "isinstance" p) [e, .Name T p2] [] pos) (dIsi b f) :=
  PE.imp (pe_callB call_isi hg hm boot_isinstance (pa_cons he (pa_cons (pe_bltn (v := .ty b.nm) hgT hmT hvT rfl hnT hdT) pa_nil) hs) (he := hs)) fun σ H Q q => by
    obtain ⟨g, ρ, rfl, rp, en, q⟩ := q
    have q := Aft.bind (β := D) (k := fun (d : D) S1 => match tyD d S1 with
      | some a => .ok (.bl (Ty.sub a b)) S1
      | Option.none => .stuck) q
    refine tE.go rp en (q.mono (fun d g1 k1 r1 q1 v hv => ?_) fun _ _ _ _ z => z)
    split at q1
    · rename_i a ha
      rw [hK]
      exact ⟨v, .ty b.nm, _, _, _, rfl, .ty _, tyD_v r1 hv ha, kit_ty (Ty.kit a b hb), Aft.here r1 q1 _ (.bl _)⟩
    · exact q1.elim
/-- a module's name for a built-in function -/
theorem me_callBfun {x : Str} {p pos : Pos} {e : Expr} {es : List Expr} {id : String} {r : List V → Hp → VK → Prop} {f : FN} {a : Fs} (hc : CallR X (.builtin id) r) (h : OpN M r f) (hm : X.mg x = some (.builtin id)) (ha : MA M X W (e :: es) a) (hg : Gl X x := by rfl) (hdb : (x == ("__debug__" : Str)) = false := by decide)
    (he : starEach (e :: es) X.env = (false, eval e X.env) :: starEach es X.env := by rfl) (hpl : (backTo pos (starEach es X.env)).any (·.1) = false := by rfl) : ME M X W (.Call (.Name x p) (e :: es) [] pos) (dN f a) :=
  PE.imp (pe_callBfun hc hg hm ha hdb he hpl) fun _ _ _ q => callN_t h q

/-! ### methods of lists -/
abbrev FM := D → List D → Sto → Rs D
def dM0 (f : FM) (o : Fe) : Fe := fun ρ S => (o ρ S).bind fun d S1 => f d [] S1
def dM (f : FM) (o : Fe) (a : Fs) : Fe := fun ρ S => (o ρ S).bind fun d S1 => (a ρ S1).bind fun ds S2 => f d ds S2
/-- the receiver's type is there as soon as it is evaluated: it is a list, whatever the arguments do -/
def isLstD : D → Sto → Bool := fun d S => match lstD d S with
  | some _ => true
  | none => false
def dML (f : FM) (o : Fe) (a : Fs) : Fe := fun ρ S => (o ρ S).bind fun d S1 => if isLstD d S1 = true then (a ρ S1).bind fun ds S2 => f d ds S2 else .stuck
def OpM (M : Md) (r : V → List V → Hp → VK → Prop) (f : FM) : Prop := ∀ (g : Wd) (d : D) (v : V) (ds : List D) (vs : List V) (Q : VK) (E : Xn → Wd → Prop), Rep M g → DV M g d v → DVs M g ds vs → Aft M g (f d ds g.S) (PD M Q) E → r v vs g.H Q
theorem isLst_ty {g : Wd} {d : D} {v : V} (r : Rep M g) (hv : DV M g d v) (h : isLstD d g.S = true) : tyV M.K "list" v g.H := by
  unfold isLstD at h
  split at h
  · rename_i ds e
    obtain ⟨a, xs, rfl, hx, _⟩ := lstD_v r hv e
    exact .inl ⟨rfl, xs, hx⟩
  · cases h
theorem methL_t {r : V → List V → Hp → VK → Prop} {f : FM} {o : Fe} {a : Fs} (h : OpM M r f) {σ : L2.St} {H : Hp} {Q : VK} (q : tE M W (dML f o a) σ H Q) : tBM M.K "list" r (tE M W o) (tA M W a) σ H Q := by
  obtain ⟨g, ρ, rfl, rp, en, q⟩ := q
  have q := Aft.bind (α := D) (k := fun d S1 => if isLstD d S1 = true then (a ρ S1).bind fun ds S2 => f d ds S2 else .stuck) q
  refine tE.go rp en (q.mono (fun d g1 k1 r1 q1 v hv => ?_) fun _ _ _ _ z => z)
  split at q1
  · rename_i hl
    refine ⟨isLst_ty r1 hv hl, ?_⟩
    have q1 := Aft.bind (α := List D) (k := fun ds S2 => f d ds S2) q1
    exact tA.go r1 (en.mono rp k1) (q1.mono (fun ds g2 k2 r2 q2 vs hvs => h g2 d v ds vs Q _ r2 (hv.mono r1 k2) hvs q2) fun _ _ _ _ z => z)
  · exact q1.elim
def mAppend : FM := fun d ds S => match d, ds with
  | .ref n, [y] => match S[n]? with
    | some (.lst es) => if es.length < sizeLine then .ok .non (S.set n (.lst (es ++ [y]))) else .stuck
    | _ => .stuck
  | _, _ => .stuck
theorem om_append : OpM M rAppend mAppend := by
  intro g d v ds vs Q E r hv hvs h
  unfold mAppend at h
  split at h
  · rename_i n y
    split at h
    · rename_i es hk
      split at h
      · rename_i hz
        obtain ⟨rfl, _⟩ := hv.refI
        obtain ⟨u, rfl, hu⟩ := hvs.one
        obtain ⟨xs, hx, hxs⟩ := r.lst hk
        exact ⟨_, xs, u, rfl, rfl, hx, by rw [← hxs.length]; exact hz, put_lst r hk h (hxs.append (.cons hu .nil)) _ .non⟩
      · exact h.elim
    · exact h.elim
  · exact h.elim
def mExtend : FM := fun d ds S => match d, ds with
  | .ref n, [.ref m] => match S[n]?, S[m]? with
    | some (.lst es), some (.lst fs) => if es.length + fs.length ≤ sizeLine then .ok .non (S.set n (.lst (es ++ fs))) else .stuck
    | _, _ => .stuck
  | _, _ => .stuck
theorem om_extend : OpM M rExtend mExtend := by
  intro g d v ds vs Q E r hv hvs h
  unfold mExtend at h
  split at h
  · rename_i n m
    split at h
    · rename_i es fs hk hk2
      split at h
      · rename_i hz
        obtain ⟨rfl, _⟩ := hv.refI
        obtain ⟨u, rfl, hu⟩ := hvs.one
        obtain ⟨rfl, _⟩ := hu.refI
        obtain ⟨xs, hx, hxs⟩ := r.lst hk
        obtain ⟨ys, hy, hys⟩ := r.lst hk2
        exact ⟨_, _, xs, ys, rfl, rfl, hx, hy, by rw [← hxs.length, ← hys.length]; exact hz, put_lst r hk h (hxs.append hys) _ .non⟩
      · exact h.elim
    · exact h.elim
  · exact h.elim
def mPop : FM := fun d ds S => match d, ds with
  | .ref n, [] => match S[n]? with
    | some (.lst es) => match es[es.length - 1]? with
      | some y => .ok y (S.set n (.lst es.dropLast))
      | none => .stuck
    | _ => .stuck
  | _, _ => .stuck
theorem om_pop : OpM M rPop mPop := by
  intro g d v ds vs Q E r hv hvs h
  unfold mPop at h
  split at h
  · rename_i n
    split at h
    · rename_i es hk
      split at h
      · rename_i y hy
        obtain ⟨rfl, hn⟩ := hv.refI
        cases hvs
        obtain ⟨xs, hx, hxs⟩ := r.lst hk
        obtain ⟨u, hu, huv⟩ := hxs.get hy
        refine ⟨_, xs, u, rfl, rfl, hx, by rw [← hxs.length]; exact hu, ?_⟩
        have kk : Gr g (g.put n (.lst es.dropLast) (.lst xs.dropLast)) := Gr.put hn
        exact put_lst r hk h hxs.dropLast _ (huv.mono r kk)
      · exact h.elim
    · exact h.elim
  · exact h.elim
theorem me_append (hK : X.K = M.K) {o e : Expr} {es : List Expr} {apos cpos : Pos} {fo : Fe} {a : Fs} (ho : ME M X W o fo) (ha : MA M X W (e :: es) a) (hbase : attributeBase o "append" X.env (eval o X.env) = eval o X.env := by rfl)
    (hfew : ((backTo cpos (starEach (e :: es) X.env)).all (fun x => !x.1) && (backToKw cpos (keywordEach [] X.env)).all (fun x => x.1.isSome)
      && decide ((e :: es).length + ([] : List Keyword).length + (if ([] : List Keyword).isEmpty then 0 else 1) < 30)) = true := by rfl)
    (hline : (apos.endLine == cpos.line) = true := by rfl) (hs : starEach (e :: es) X.env = (false, eval e X.env) :: starEach es X.env := by rfl) (hplain : (backTo cpos (starEach es X.env)).any (·.1) = false := by rfl) :
    ME M X W (.Call (.Attribute o "append" apos) (e :: es) [] cpos) (dML mAppend fo a) :=
  PE.imp (pe_bm PySem.F.plainAttrs_list PySem.F.slot_list_append PySem.F.type_list_append mt_append ho ha hbase hfew hline hs hplain) fun _ _ _ q => by rw [hK]; exact methL_t om_append q
theorem me_extend (hK : X.K = M.K) {o e : Expr} {es : List Expr} {apos cpos : Pos} {fo : Fe} {a : Fs} (ho : ME M X W o fo) (ha : MA M X W (e :: es) a) (hbase : attributeBase o "extend" X.env (eval o X.env) = eval o X.env := by rfl)
    (hfew : ((backTo cpos (starEach (e :: es) X.env)).all (fun x => !x.1) && (backToKw cpos (keywordEach [] X.env)).all (fun x => x.1.isSome)
      && decide ((e :: es).length + ([] : List Keyword).length + (if ([] : List Keyword).isEmpty then 0 else 1) < 30)) = true := by rfl)
    (hline : (apos.endLine == cpos.line) = true := by rfl) (hs : starEach (e :: es) X.env = (false, eval e X.env) :: starEach es X.env := by rfl) (hplain : (backTo cpos (starEach es X.env)).any (·.1) = false := by rfl) :
    ME M X W (.Call (.Attribute o "extend" apos) (e :: es) [] cpos) (dML mExtend fo a) :=
  PE.imp (pe_bm PySem.F.plainAttrs_list PySem.F.slot_list_extend PySem.F.type_list_extend mt_extend ho ha hbase hfew hline hs hplain) fun _ _ _ q => by rw [hK]; exact methL_t om_extend q
def dML0 (f : FM) (o : Fe) : Fe := fun ρ S => (o ρ S).bind fun d S1 => if isLstD d S1 = true then f d [] S1 else .stuck
theorem me_pop (hK : X.K = M.K) {o : Expr} {apos cpos : Pos} {fo : Fe} (ho : ME M X W o fo) (hbase : attributeBase o "pop" X.env (eval o X.env) = eval o X.env := by rfl) (hline : (apos.endLine == cpos.line) = true := by rfl) :
    ME M X W (.Call (.Attribute o "pop" apos) [] [] cpos) (dML0 mPop fo) :=
  PE.imp (pe_bm0 PySem.F.plainAttrs_list PySem.F.slot_list_pop PySem.F.type_list_pop mt_pop ho hbase hline) fun σ H Q q => by
    rw [hK]
    obtain ⟨g, ρ, rfl, rp, en, q⟩ := q
    have q := Aft.bind (α := D) (k := fun d S1 => if isLstD d S1 = true then mPop d [] S1 else .stuck) q
    refine tE.go rp en (q.mono (fun d g1 k1 r1 q1 v hv => ?_) fun _ _ _ _ z => z)
    split at q1
    · rename_i hl
      exact ⟨isLst_ty r1 hv hl, om_pop g1 d v [] [] Q _ r1 hv .nil q1⟩
    · exact q1.elim

/-! ### {} -/
def dEmpty : Fe := fun _ S => .ok (.ref S.length) (S ++ [.dk []])
theorem me_empty {pos : Pos} : ME M X W (.Dict [] [] pos) dEmpty := PE.imp pe_dnewK fun σ H Q q => by
  obtain ⟨g, ρ, rfl, rp, en, q⟩ := q
  intro d hd
  have hd : g.H d = none := hd
  exact q (g.new d (.dk []) (.dK [])) rfl (Gr.new hd) (rp.new hd ⟨[], upd_same, .nil⟩) _ .newRef
end

/-! ### defs -/
/-- what a def promises: n arguments, told by F -/
def spF (M : Md) (n : Nat) (F : FN) : Sp := fun vs H Q E => vs.length = n ∧ ∃ g ds, g.H = H ∧ Rep M g ∧ DVs M g ds vs ∧ Aft M g (F ds g.S) (PD M Q) (fun x g' => ∀ cls dx, XV M g' x cls dx → E cls dx g'.H)
abbrev WD (E : XK) : WX := fun cls d _ H => E cls d H
def entry (N : Nat) (ds : List D) : Rho := ds.map some ++ List.replicate (N - ds.length) none
def runF (N : Nat) (b : Fst) : FN := fun ds S => match b (entry N ds) S with
  | .fl (.nx _) S1 => .ok .non S1
  | .fl (.ret d) S1 => .ok d S1
  | .exc x _ S1 => .exc x S1
  | _ => .stuck
theorem entry_ok {M : Md} {g : Wd} {N : List Str} : ∀ {ds : List D} {vs : List V}, DVs M g ds vs → EnvOk M g (entry N.length ds) (L2.start N vs) := fun {ds vs} h => by
  refine ⟨by unfold entry L2.start; simp [h.length], fun i d e => ?_⟩
  unfold entry at e
  by_cases hi : i < ds.length
  · rw [List.getElem?_append_left (by simpa using hi), List.getElem?_map] at e
    cases q : ds[i]? with
    | none => rw [q] at e; cases e
    | some a =>
      rw [q] at e
      cases e
      obtain ⟨v, h1, h2⟩ := h.get q
      refine ⟨v, ?_, h2⟩
      unfold L2.start
      rw [List.getElem?_append_left (by simpa [← h.length] using hi), List.getElem?_map, h1]
      rfl
  · rw [List.getElem?_append_right (by simpa using hi), List.getElem?_replicate] at e
    split at e <;> cases e
/-- a def of the text: x, told by F at the level k -/
structure Kn (P : Program) (w : World) (mg : Str → Option Value) (base : Heap) (M : Md) (x : Str) (k n : Nat) (F : FN) : Prop where
  ex : ∃ (f : Addr) (fd : FuncData) (ps : List Str), FnOk P w M.K mg base (L2.CX P w) k f fd ps (spF M n F) ∧ mg x = some (.ref f) ∧ PySem.W.keepIn M.K (.ref f) = true ∧ Binds M.K fd ps []
section
variable {P : Program} {w : World} {mg : Str → Option Value} {base : Heap} {M : Md}
theorem fok_of {x qual : Str} {params : Arguments} {body : List Stmt} {scope : Scope} {f : Addr} {fd : FuncData} {N ps : List Str} {k : Nat} {b : Fst} (F : FunD M.K x qual params body scope [] [] f fd) (S : FnScope N ps scope)
    (hbody : ∀ (cdv : Value) (A : Around) (outer : List Env) (s : Shared) (H : Hp) (E : XK), Room k (A.deeper (envOfC qual scope s.heap.objs.size f cdv)) →
      MSs M (cxOf (L2.CX P w) P w M.K mg base N qual scope f cdv A outer s H E) (WD E) body b) : FnOk P w M.K mg base (L2.CX P w) (k + 1) f fd ps (spF M ps.length (runF N.length b)) := by
  refine F.ok S (fun vs H Q E h => h.1) (fun cdv A outer s H vs Q E hr h => ⟨tS M (WD E) b, hbody cdv A outer s H E hr, ?_⟩)
  obtain ⟨_, g, ds, rfl, rp, hvs, q⟩ := h
  refine tS.go rp (entry_ok hvs) ?_
  unfold runF at q
  split at q
  · rename_i e
    rw [e]
    exact fun g1 e1 k1 r1 σ1 _ => q g1 e1 k1 r1 _ .non
  · rename_i e
    rw [e]
    exact fun g1 e1 k1 r1 v hv => q g1 e1 k1 r1 v hv
  · rename_i e
    rw [e]
    exact fun g1 e1 k1 r1 σ1 _ cls dx hx => q g1 e1 k1 r1 cls dx hx
  · exact q.elim
theorem kn_of {x qual : Str} {params : Arguments} {body : List Stmt} {scope : Scope} {f : Addr} {fd : FuncData} {N ps : List Str} {k : Nat} {b : Fst} (F : FunD M.K x qual params body scope [] [] f fd) (S : FnScope N ps scope) (hm : mg x = some (.ref f)) (hb : Binds M.K fd ps [])
    (hbody : ∀ (cdv : Value) (A : Around) (outer : List Env) (s : Shared) (H : Hp) (E : XK), Room k (A.deeper (envOfC qual scope s.heap.objs.size f cdv)) →
      MSs M (cxOf (L2.CX P w) P w M.K mg base N qual scope f cdv A outer s H E) (WD E) body b) : Kn P w mg base M x (k + 1) ps.length (runF N.length b) :=
  ⟨f, fd, ps, fok_of F S hbody, hm, F.kp, hb⟩
end
section
variable {M : Md} {X : Cx} {W : WX}
def dCall (F : FN) (n : Nat) (a : Fs) : Fe := fun ρ S => (a ρ S).bind fun ds S1 => if ds.length = n then F ds S1 else .stuck
theorem me_call {x : Str} {p pos : Pos} {e : Expr} {es : List Expr} {k j n : Nat} {F : FN} {a : Fs} (hK : X.K = M.K) (tk : Takes X W) (K : Kn X.prog X.w X.mg X.base M x k n F) (hr : Room j X.A) (ha : MA M X W (e :: es) a) (hkj : k ≤ j := by decide) (hg : Gl X x := by rfl) (hdb : (x == ("__debug__" : Str)) = false := by decide)
    (he : starEach (e :: es) X.env = (false, eval e X.env) :: starEach es X.env := by rfl) (hpl : (backTo pos (starEach es X.env)).any (·.1) = false := by rfl) : ME M X W (.Call (.Name x p) (e :: es) [] pos) (dCall F n a) := by
  obtain ⟨f, fd, ps, FK, hm, hkp, hb⟩ := K.ex
  rw [← hK] at FK hkp hb
  refine PE.imp (pe_callS FK (hr.mono hkj) hg hm hkp hb (fun σ => passAt tk σ) ha hdb he hpl) fun σ H Q q => ?_
  obtain ⟨g, ρ, rfl, rp, en, q⟩ := q
  have q := Aft.bind (α := List D) (k := fun ds S1 => if ds.length = n then F ds S1 else .stuck) q
  refine tA.go rp en (q.mono (fun ds g1 k1 r1 q1 vs hvs => ?_) fun _ _ _ _ z => z)
  split at q1
  · rename_i hl
    exact ⟨by rw [← hvs.length]; exact hl, g1, ds, rfl, r1, hvs, q1⟩
  · exact q1.elim
theorem me_call0 {x : Str} {p pos : Pos} {k j : Nat} {F : FN} (hK : X.K = M.K) (tk : Takes X W) (K : Kn X.prog X.w X.mg X.base M x k 0 F) (hr : Room j X.A) (hkj : k ≤ j := by decide) (hg : Gl X x := by rfl) (hdb : (x == ("__debug__" : Str)) = false := by decide) :
    ME M X W (.Call (.Name x p) [] [] pos) (fun _ S => F [] S) := by
  obtain ⟨f, fd, ps, FK, hm, hkp, hb⟩ := K.ex
  rw [← hK] at FK hkp hb
  refine ⟨fun pins s σ H Q I q => ?_⟩
  obtain ⟨g, ρ, rfl, rp, en, q⟩ := q
  refine wpAny_Call_Name_kw (ld_glob I hg hm ?_ hdb)
  exact PySem.W.callWith_K0 I.kIn hkp (run_fnS (us := []) FK (hr.mono hkj) hb (passAt tk σ) I .nil ⟨rfl, g, [], rfl, rp, .nil, q⟩)
end
end MP
set_option Elab.async false
set_option linter.all false
set_option maxRecDepth 100000
set_option maxHeartbeats 4000000
/-! enumerate, zip, reversed slices. -/
namespace MP
open PySem PySem.Spec PyProof.Rows L2

/-! ### enumerate of a tuple, at the library's level -/
theorem meets_enumT (l : Addr) (items : Array Value) (n : Nat) (dct : Option Addr) (sl : Array (Option Value)) :
    Meets (Builtin.«enumerate.__new__» ⟨[.type "enumerate", .ref l], []⟩) (fun _ R s => s.heap.get? l = some { cls := .type "tuple", dict := dct, data := .seq items n, slots := sl } ∧
      R (.ok (.ret (.ref (s.heap.push { cls := .type "tuple_iterator", data := .fields #[.ref l, .int 0 0] }).objs.size)))
        { s with heap := (s.heap.push { cls := .type "tuple_iterator", data := .fields #[.ref l, .int 0 0] }).push { cls := .type "enumerate", data := .fields #[.none, .bool false, .ref s.heap.objs.size, rawInt 0, .none, .none] } }) :=
  .of_wp fun prog w A R s h => by
    obtain ⟨hp, g, d, tk, os⟩ := s; obtain ⟨hl, h⟩ := h
    have hsub := sub_enumerate
    have hL : Heap.IsTuple (Shared.heap ⟨hp, g, d, tk, os⟩) l items := ⟨_, hl, rfl, n, rfl⟩
    wp_walk using AutoSeq1.wpAny_loadPart' hl
    refine wpAny_stack_any fun st => wpAny_pure ?_
    split
    · rename_i c _ _ _ _ _
      cases (c == Value.type "enumerate")
      · wp_walk using AutoSeq1.wpAny_loadPart' hl, wpAny_pyIter_tuple hL
        exact ⟨_, rfl, h⟩
      · wp_walk using AutoSeq1.wpAny_loadPart' hl, wpAny_pyIter_tuple hL
        exact ⟨_, rfl, h⟩
    · wp_walk using AutoSeq1.wpAny_loadPart' hl, wpAny_pyIter_tuple hL
      exact ⟨_, rfl, h⟩
section
variable {prog : Program} {w : World} {A : Around} {E : Value → Shared → Prop} {s : Shared}
theorem call_enumT {l : Addr} {items : Array Value} {Q : Value → Shared → Prop} (hL : s.heap.IsTuple l items)
    (h : ∀ h', IsEnum h' (s.heap.objs.size + 1) s.heap.objs.size 0 .none → h'.IsTupleIter s.heap.objs.size l 0 → h'.objs.size = s.heap.objs.size + 2 →
      (∀ b o, s.heap.get? b = some o → h'.get? b = some o) → Q (.ref (s.heap.objs.size + 1)) { s with heap := h' }) :
    wpAny (model prog w) A (call (.type "enumerate") [.ref l]) Q E s := by
  obtain ⟨⟨c, dct, dt, sl⟩, hl, hc, n, hd⟩ := hL
  replace hc : c = .type "tuple" := hc
  replace hd : dt = .seq items n := hd
  subst hc hd
  refine callType_new F.called_enumerate (by decide) (F.typeCall_enumerate_1 _) (F.newCall_enumerate_1 _) (fun obj => F.args_object_init_2 obj _) F.entry_enumerate_new
    (meets_enumT l items n dct sl) ⟨hl, ?_⟩
  have hz : (s.heap.push { cls := .type "tuple_iterator", data := .fields #[.ref l, .int 0 0] }).objs.size = s.heap.objs.size + 1 := Heap.size_push ..
  show _ ∧ _
  rw [hz]
  have he : IsEnum ((s.heap.push { cls := .type "tuple_iterator", data := .fields #[.ref l, .int 0 0] }).push
      { cls := .type "enumerate", data := .fields #[.none, .bool false, .ref s.heap.objs.size, rawInt 0, .none, .none] }) (s.heap.objs.size + 1) s.heap.objs.size 0 .none := by
    have := Heap.get?_push_size (s.heap.push { cls := .type "tuple_iterator", data := .fields #[.ref l, .int 0 0] })
      (o := { cls := .type "enumerate", data := .fields #[.none, .bool false, .ref s.heap.objs.size, rawInt 0, .none, .none] }) rfl
    rw [hz] at this; exact this
  refine ⟨⟨_, he, rfl⟩, h _ he ⟨_, Heap.get?_push_of_some _ (Heap.get?_push_size _ rfl), rfl, rfl⟩ (by rw [Heap.size_push, hz]) fun b o x => Heap.get?_push_of_some _ (Heap.get?_push_of_some _ x)⟩
end

def ItEt (K : PySem.W.Frag) (a : Addr) : It :=
  ⟨fun i H => ∃ (xs : List V) (x : V), SqT K H a xs ∧ xs[i]? = some x, fun i H v H' => ∃ T x, v = .ref T ∧ H T = none ∧ H' = upd H T (.tup [.int (i : Nat), x]) ∧ ∀ xs, SqT K H a xs → xs[i]? = some x, fun i H => ∃ xs : List V, SqT K H a xs ∧ xs.length ≤ i⟩
theorem turn_enumT {P : Program} {w : World} {K : PySem.W.Frag} {elts : List Expr} {kk : Nat} {tpos : Pos} (a e it : Addr) :
    Turn P w K (.Tuple elts kk tpos) (ItEt K a) [e, it] e (fun i h => (∃ old, IsEnum h e it ((i : Nat) : Int) old) ∧ h.IsTupleIter it a i ∧ e ≠ it ∧ e ≠ a ∧ a ≠ it) where
  mem := by simp
  obj := fun i h st b hb => by
    obtain ⟨⟨old, he⟩, ⟨o, ho, hc, hd⟩, _⟩ := st
    have e' : b = e ∨ b = it := by simpa using hb
    rcases e' with z | z
    · rw [z]; exact ⟨_, he, fun v q => nomatch q⟩
    · rw [z]; exact ⟨o, ho, fun v q => by rw [hd] at q; cases q⟩
  keep := fun i h h' st k => let ⟨⟨old, he⟩, hi, hne⟩ := st; ⟨⟨old, k e (by simp) _ he⟩, hi.at fun o q => k it (by simp) o q, hne⟩
  item := by
    intro X hP hw hK hc i pins s σ H E I hf st hg
    subst hP hw hK
    obtain ⟨⟨old, he⟩, hit, hne, hea, hai⟩ := st
    obtain ⟨xs, x, hq, hx⟩ := hg
    obtain ⟨its, rv, p, hz⟩ := I.tuple hq
    obtain ⟨u, hu, ru⟩ := rv.get hx
    have hel : e < s.heap.objs.size := Heap.lt_size he
    have hil : it < s.heap.objs.size := by obtain ⟨_, q, _⟩ := hit; exact Heap.lt_size q
    have hui : its.toArray[i]? = some u := by simpa using hu
    have hlt : i < its.toArray.size := (Array.getElem?_eq_some_iff.mp hui).1
    refine wpAny_pyNext_enum_itemD (Draws.tuple (prog := X.prog) (w := X.w) (A := X.A.in1) (I.ok.hd hc) it a hai its.toArray) he ⟨hit, show s.heap.IsTuple a its.toArray from p⟩ hlt hne (by simp [hne, hea]) fun u' h' tk hu' ho hit' hT hsz hk => ?_
    have eu : u' = u := by rw [hui] at hu'; cases hu'; rfl
    subst eu
    refine ⟨_, rfl, wpAny_letOwnedTupleGo_enum (s := { s with heap := h', toks := tk + 1 }) ho fun h'' he' sb => ?_⟩
    have hT2 : h''.get? s.heap.objs.size = some { cls := .type "tuple", data := .seq #[.int i tk, u'] } := (sb.2 _ (Nat.ne_of_gt hel)).trans hT
    have new : ObjOk X.prog X.w (upd H s.heap.objs.size (.tup [.int (i : Nat), x])) h'' s.heap.objs.size (.tup [.int (i : Nat), x]) :=
      ⟨by show 2 ≤ sizeLine; decide, [.int i tk, u'], .cons ⟨_, rfl⟩ (.cons ru .nil), ⟨_, hT2, rfl, _, rfl⟩⟩
    have I1 : Inv X pins σ (upd H s.heap.objs.size (.tup [.int (i : Nat), x])) { s with heap := h'', toks := tk + 1 } :=
      I.turnedNew (ch := [e, it]) (fun b ob hb q => (sb.2 b (fun z => hb (by simp [z]))).trans (hk b ob (fun z => hb (by simp [z])) (fun z => hb (by simp [z])) q)) hf (Nat.le_refl _) new
    refine ⟨.ref s.heap.objs.size, _, I1, rfl, ⟨_, x, rfl, I.hok.fresh (Nat.le_refl _), rfl, fun ys hy => by rw [I.tuple_inj hy hq]; exact hx⟩, ⟨⟨u', ?_⟩, hit'.1.at fun o q => (sb.2 it (Ne.symm hne)).trans q, hne, hea, hai⟩, fun b hb => ?_⟩
    · have e1 : ((i + 1 : Nat) : Int) = (i : Int) + 1 := by omega
      rw [e1]; exact he'
    · have hb' : b < s.heap.objs.size := by
        have e' : b = e ∨ b = it := by simpa using hb
        rcases e' with z | z
        · rw [z]; exact hel
        · rw [z]; exact hil
      rw [upd_ne (Nat.ne_of_lt hb')]
      exact (hf b hb).1
  done := by
    intro X hP hw hK hc i pins s σ H E I hf st hg
    subst hP hw hK
    obtain ⟨⟨old, he⟩, hit, hne, hea, hai⟩ := st
    obtain ⟨xs, hq, hx⟩ := hg
    obtain ⟨its, rv, p, hz⟩ := I.tuple hq
    obtain ⟨f0, f1, f2, f3, f4, f5⟩ := hf it (by simp)
    have hl := rv.length
    have hh : X.A.in1.handled = none := I.ok.hd hc
    have D : Draws X.prog X.w X.A.in1 it [it, a] 0 (fun _ _ => True) (fun j h => h.IsTupleIter it a (j + i) ∧ h.IsTuple a its.toArray) :=
      { live := fun _ _ st => let ⟨o, ho, _⟩ := st.1; ⟨o, ho⟩
        frame := fun _ _ _ st hk => ⟨st.1.at fun o e => hk it (by simp) o e, st.2.at fun o e => hk a (by simp) o e⟩
        item := fun j s' Q' E' hj => absurd hj (Nat.not_lt_zero _)
        done := fun s' Q' E' st' hE' => wpAny_nextOf_tuple_end hh st'.1 st'.2 (by simp; omega) hE' }
    exact wpAny_pyNext_enum_endD D he ⟨by rw [Nat.zero_add]; exact hit, show s.heap.IsTuple a its.toArray from p⟩ fun h' eb => ⟨rfl, I.turned (t' := s.toks) (fun b o hb q => eb b o hb q) f0 f1 f3 f4 f5⟩
  self := fun A i s Q E st h => let ⟨⟨_, he⟩, _⟩ := st; wpAny_pyIter_enum he h

def iEnumA (K : PySem.W.Frag) (ta : TA) : TI := fun σ H R => ta σ H fun vs H1 => ∃ a xs, vs = [.ref a] ∧ ((SqL K H1 a xs ∧ R (Ite K a) H1) ∨ (SqT K H1 a xs ∧ R (ItEt K a) H1))
theorem pi_enumA {X : Cx} {e : Expr} {ta : TA} {p pos tpos : Pos} {elts : List Expr} {kk : Nat} (hg : Gl X "enumerate") (hm : X.mg "enumerate" = none) (ha : PA X [e] ta) (hs : starEach [e] X.env = [(false, eval e X.env)] := by rfl) :
    PI X (.Tuple elts kk tpos) (.Call (.Name "enumerate" p) [e] [] pos) (iEnumA X.K ta) := by
  refine ⟨fun pins s σ H R I h => ?_⟩
  refine Call_ (ld_blt I hg hm boot_enumerate (PyProof.Rows.callWith_type1 (thn (ha.run pos pins s σ H _ I h) fun us s1 ⟨vs, H1, I1, r1, q1⟩ => ?_) hs rfl))
  obtain ⟨a, xs, ex, q⟩ := q1
  subst ex
  cases r1 with
  | cons r rr =>
    cases rr
    cases r
    have fp : ∀ b ∈ [s1.heap.objs.size + 1, s1.heap.objs.size], FpOk X pins H1 b := fun b hb => by
      have e' : b = s1.heap.objs.size + 1 ∨ b = s1.heap.objs.size := by simpa using hb
      have hle : s1.heap.objs.size ≤ b := by
        rcases e' with z | z
        · rw [z]; exact Nat.le_add_right _ _
        · rw [z]; exact Nat.le_refl _
      exact I1.fpOk hle (I1.hok.fresh hle)
    rcases q with ⟨hq, q⟩ | ⟨hq, q⟩
    · obtain ⟨its, rv, p', hz⟩ := I1.list hq
      refine call_enumerate_list p'.isList fun h' he hit hsz hk => wpAny_pyIter_enum he ?_
      have I2 : Inv X pins σ H1 { s1 with heap := h' } := I1.kept (t' := s1.toks) hk
      exact ⟨s1.heap.objs.size + 1, [s1.heap.objs.size + 1, s1.heap.objs.size], _, _, H1, rfl, I2, turn_enum a (s1.heap.objs.size + 1) s1.heap.objs.size, ⟨⟨.none, he⟩, hit, Nat.succ_ne_self _⟩, fp, q⟩
    · obtain ⟨its, rv, p', hz⟩ := I1.tuple hq
      obtain ⟨o1, ho1, _⟩ := id p'
      have hal : a < s1.heap.objs.size := Heap.lt_size ho1
      refine call_enumT (show s1.heap.IsTuple a its.toArray from p') fun h' he hit hsz hk => wpAny_pyIter_enum he ?_
      have I2 : Inv X pins σ H1 { s1 with heap := h' } := I1.kept (t' := s1.toks) hk
      exact ⟨s1.heap.objs.size + 1, [s1.heap.objs.size + 1, s1.heap.objs.size], _, _, H1, rfl, I2, turn_enumT a (s1.heap.objs.size + 1) s1.heap.objs.size, ⟨⟨.none, he⟩, hit, Nat.succ_ne_self _, Nat.ne_of_gt (Nat.lt_succ_of_lt hal), Nat.ne_of_lt hal⟩, fp, q⟩

/-! ### as plain data -/
def pairD (x y : D) : D := .tup [x, y]
def enumD (ds : List D) : List D := (List.range ds.length).map fun i => pairD (.int (i : Nat)) (ds[i]?.getD .non)
theorem enumD_len {ds : List D} : (enumD ds).length = ds.length := by unfold enumD; simp
theorem enumD_get {ds : List D} {i : Nat} {d : D} (h : ds[i]? = some d) : (enumD ds)[i]? = some (pairD (.int (i : Nat)) d) := by
  have hi := (List.getElem?_eq_some_iff.mp h).1
  have e := (List.getElem?_eq_some_iff.mp h).2
  unfold enumD
  simp [hi, e]
def zipD (a b : List D) : List D := List.zipWith pairD a b
theorem zipD_get {a b : List D} {i : Nat} {x y : D} (h1 : a[i]? = some x) (h2 : b[i]? = some y) : (zipD a b)[i]? = some (pairD x y) := by
  unfold zipD
  rw [List.getElem?_zipWith, h1, h2]
theorem dv_pair {M : Md} {g : Wd} {x y : D} {v u : V} (r : Rep M g) {p : Addr} (hp : g.H p = none) (hx : DV M g x v) (hy : DV M g y u) : DV M ⟨g.μ, g.S, upd g.H p (.tup [v, u])⟩ (pairD x y) (.ref p) :=
  dv_new r hp (.cons hx (.cons hy .nil))
section
variable {M : Md} {g0 : Wd}
theorem srcOk_enumT {a : Addr} {ds : List D} {xs : List V} (r0 : Rep M g0) (h : SqT M.K g0.H a xs) (hd : DVs M g0 ds xs) : SrcOk M g0 ⟨enumD ds, []⟩ (ItEt M.K a) := by
  refine ⟨fun H => SqT M.K H a xs, fun i H v H' => ∃ T x, v = .ref T ∧ H T = none ∧ H' = upd H T (.tup [.int (i : Nat), x]) ∧ xs[i]? = some x,
    ⟨fun i H hi q => ?_, fun H q => ⟨xs, q, ?_⟩, fun i H x H' hi q y => ?_⟩, rfl, fun g1 r1 k _ => k.tup r0 h, fun i g1 v H' hi r1 k _ y => ?_⟩
  · have hi : i < xs.length := by rw [← hd.length]; simpa [enumD_len] using hi
    exact ⟨xs, xs[i], q, by simp [hi]⟩
  · rw [← hd.length]; simp [enumD_len]
  · obtain ⟨T, z, e1, e2, e3, e4⟩ := y
    exact ⟨T, z, e1, e2, e3, e4 xs q⟩
  · obtain ⟨T, z, rfl, e2, rfl, e4⟩ := y
    obtain ⟨d, h1, h2⟩ := (hd.mono r0 k).getV e4
    exact ⟨_, ⟨g1.μ, g1.S, _⟩, enumD_get h1, rfl, rfl, Gr.laid e2, r1.laid e2, dv_pair r1 e2 (.int _) h2⟩
theorem srcOk_enumF {a : Addr} {ds : List D} {xs : List V} (r0 : Rep M g0) (h : FzL M.K g0.H a xs) (hd : DVs M g0 ds xs) : SrcOk M g0 ⟨enumD ds, []⟩ (Ite M.K a) := by
  refine ⟨fun H => SqL M.K H a xs, fun i H v H' => ∃ T x, v = .ref T ∧ H T = none ∧ H' = upd H T (.tup [.int (i : Nat), x]) ∧ xs[i]? = some x,
    ⟨fun i H hi q => ?_, fun H q => ⟨xs, q, ?_⟩, fun i H x H' hi q y => ?_⟩, rfl, fun g1 r1 k _ => (k.fzl r0 h).sql, fun i g1 v H' hi r1 k _ y => ?_⟩
  · have hi : i < xs.length := by rw [← hd.length]; simpa [enumD_len] using hi
    exact ⟨xs, xs[i], q, by simp [hi]⟩
  · rw [← hd.length]; simp [enumD_len]
  · obtain ⟨T, z, e1, e2, e3, e4⟩ := y
    exact ⟨T, z, e1, e2, e3, e4 xs q⟩
  · obtain ⟨T, z, rfl, e2, rfl, e4⟩ := y
    obtain ⟨d, h1, h2⟩ := (hd.mono r0 k).getV e4
    exact ⟨_, ⟨g1.μ, g1.S, _⟩, enumD_get h1, rfl, rfl, Gr.laid e2, r1.laid e2, dv_pair r1 e2 (.int _) h2⟩
theorem guard_one {n : Nat} {ds its : List D} {S : Sto} (h : S[n]? = some (.lst ds)) : (Src.mk its [(n, ds)]).ok S = true := by
  show (match S[n]? with | some (.lst es) => beqDs es ds | _ => false) && true = true
  rw [h]
  simp [beqDs_refl]
theorem srcOk_enumR {n : Nat} {ds : List D} (r0 : Rep M g0) (h : g0.S[n]? = some (.lst ds)) : SrcOk M g0 ⟨enumD ds, [(n, ds)]⟩ (Ite M.K (g0.μ n)) := by
  have hn : n < g0.S.length := (List.getElem?_eq_some_iff.mp h).1
  refine ⟨fun H => ∃ xs, SqL M.K H (g0.μ n) xs ∧ xs.length = ds.length, fun i H v H' => ∃ T x, v = .ref T ∧ H T = none ∧ H' = upd H T (.tup [.int (i : Nat), x]) ∧ ∀ xs, SqL M.K H (g0.μ n) xs → xs[i]? = some x,
    ⟨fun i H hi q => ?_, fun H q => ?_, fun i H x H' hi q y => y⟩, guard_one h, fun g1 r1 k ok => ?_, fun i g1 v H' hi r1 k ok y => ?_⟩
  · obtain ⟨xs, q, e⟩ := q
    have hi : i < xs.length := by rw [e]; simpa [enumD_len] using hi
    exact ⟨xs, xs[i], q, by simp [hi]⟩
  · obtain ⟨xs, q, e⟩ := q
    exact ⟨xs, q, by rw [e]; simp [enumD_len]⟩
  · obtain ⟨xs, h1, h2⟩ := lst_at r0 r1 k hn (Src.at_ ok (List.mem_singleton.mpr rfl))
    exact ⟨xs, h1, h2.length.symm⟩
  · obtain ⟨T, z, rfl, e2, rfl, e4⟩ := y
    obtain ⟨xs, h1, h2⟩ := lst_at r0 r1 k hn (Src.at_ ok (List.mem_singleton.mpr rfl))
    obtain ⟨d, h3, h4⟩ := h2.getV (e4 xs h1)
    exact ⟨_, ⟨g1.μ, g1.S, _⟩, enumD_get h3, rfl, rfl, Gr.laid e2, r1.laid e2, dv_pair r1 e2 (.int _) h4⟩
end
def enumS : List D → Sto → Rs Src := fun ds S => match ds with
  | [.tup ds] => .ok ⟨enumD ds, []⟩ S
  | [.fl ds] => .ok ⟨enumD ds, []⟩ S
  | [.ref n] => match S[n]? with
    | some (.lst ds) => .ok ⟨enumD ds, [(n, ds)]⟩ S
    | _ => .stuck
  | _ => .stuck
def iEn (f : Fs) : Fi := fun ρ S => (f ρ S).bind enumS
section
variable {M : Md} {X : Cx} {W : WX}
theorem mi_enum (hK : X.K = M.K) {e : Expr} {f : Fs} {p pos tpos : Pos} {elts : List Expr} {kk : Nat} (hm : X.mg "enumerate" = none) (ha : MA M X W [e] f) (hg : Gl X "enumerate" := by rfl) (hs : starEach [e] X.env = [(false, eval e X.env)] := by rfl) :
    MI M X W (.Tuple elts kk tpos) (.Call (.Name "enumerate" p) [e] [] pos) (iEn f) := PI.imp (pi_enumA hg hm ha hs) fun σ H R q => by
  obtain ⟨g, ρ, rfl, rp, en, q⟩ := q
  have q := Aft.bind (k := enumS) q
  refine tA.go rp en (q.mono (fun ds g1 k1 r1 q1 vs hvs => ?_) fun _ _ _ _ z => z)
  rw [hK]
  unfold enumS at q1
  split at q1
  · obtain ⟨v, rfl, hv⟩ := hvs.one
    obtain ⟨a, xs, rfl, h1, h2⟩ := hv.tupI
    exact ⟨_, xs, rfl, .inr ⟨h1, Aft.here r1 q1 _ (srcOk_enumT r1 h1 h2)⟩⟩
  · obtain ⟨v, rfl, hv⟩ := hvs.one
    cases hv with
    | fl h1 h2 => exact ⟨_, _, rfl, .inl ⟨h1.sql, Aft.here r1 q1 _ (srcOk_enumF r1 h1 h2)⟩⟩
  · split at q1
    · rename_i n ds hk
      obtain ⟨v, rfl, hv⟩ := hvs.one
      obtain ⟨rfl, _⟩ := hv.refI
      obtain ⟨xs, hx, hxs⟩ := r1.lst hk
      exact ⟨_, xs, rfl, .inl ⟨.inl (.inl hx), Aft.here r1 q1 _ (srcOk_enumR r1 hk)⟩⟩
    · exact q1.elim
  · exact q1.elim

/-! ### zip -/
def gdOk (gd : List (Nat × List D)) (S : Sto) : Bool := (Src.mk [] gd).ok S
theorem gdOk_app {a b : List (Nat × List D)} {S : Sto} {its : List D} : (Src.mk its (a ++ b)).ok S = (gdOk a S && gdOk b S) := by
  unfold gdOk Src.ok
  simp only [List.all_append]
def lstG : D → Sto → Option (List D × List (Nat × List D)) := fun d S => match d with
  | .fl ds => some (ds, [])
  | .ref n => match S[n]? with
    | some (.lst ds) => some (ds, [(n, ds)])
    | _ => none
  | _ => none
theorem lstG_v {g0 : Wd} {d : D} {v : V} {ds : List D} {gd : List (Nat × List D)} (r0 : Rep M g0) (h : DV M g0 d v) (e : lstG d g0.S = some (ds, gd)) :
    ∃ a xs, v = .ref a ∧ SqL M.K g0.H a xs ∧ gdOk gd g0.S = true ∧ ∀ g1, Rep M g1 → Gr g0 g1 → gdOk gd g1.S = true → ∃ xs, SqL M.K g1.H a xs ∧ DVs M g1 ds xs := by
  unfold lstG at e
  split at e
  · cases e
    cases h with
    | fl h1 h2 => exact ⟨_, _, rfl, h1.sql, rfl, fun g1 r1 k _ => ⟨_, (k.fzl r0 h1).sql, h2.mono r0 k⟩⟩
  · split at e
    · rename_i n es hk
      cases e
      obtain ⟨rfl, hn⟩ := h.refI
      obtain ⟨xs, hx, hxs⟩ := r0.lst hk
      exact ⟨_, xs, rfl, .inl (.inl hx), guard_one hk, fun g1 r1 k ok => lst_at r0 r1 k hn (Src.at_ ok (List.mem_singleton.mpr rfl))⟩
    · cases e
  · cases e
def zipS : List D → Sto → Rs Src := fun ds S => match ds with
  | [.tup a, .tup b] => .ok ⟨zipD a b, []⟩ S
  | [x, y] => match lstG x S, lstG y S with
    | some (a, ga), some (b, gb) => .ok ⟨zipD a b, ga ++ gb⟩ S
    | _, _ => .stuck
  | _ => .stuck
def iZp (f : Fs) : Fi := fun ρ S => (f ρ S).bind zipS
theorem srcOk_zipT {g0 : Wd} {a b : Addr} {ds es : List D} {xs ys : List V} (r0 : Rep M g0) (h : SqT M.K g0.H a xs) (hd : DVs M g0 ds xs) (h' : SqT M.K g0.H b ys) (hd' : DVs M g0 es ys) : SrcOk M g0 ⟨zipD ds es, []⟩ (RZ.ItzT M.K a b) := by
  have hl : (zipD ds es).length = min xs.length ys.length := by unfold zipD; simp [hd.length, hd'.length]
  refine ⟨fun H => SqT M.K H a xs ∧ SqT M.K H b ys, fun i H v H' => ∃ T x y, v = .ref T ∧ H T = none ∧ H' = upd H T (.tup [x, y]) ∧ xs[i]? = some x ∧ ys[i]? = some y,
    ⟨fun i H hi q => ?_, fun H q => ⟨xs, ys, q.1, q.2, ?_⟩, fun i H x H' hi q y => ?_⟩, rfl, fun g1 r1 k _ => ⟨k.tup r0 h, k.tup r0 h'⟩, fun i g1 v H' hi r1 k _ y => ?_⟩
  · have hi : i < (zipD ds es).length := hi
    rw [hl] at hi
    have h1 : i < xs.length := by omega
    have h2 : i < ys.length := by omega
    exact ⟨xs, ys, xs[i], ys[i], q.1, q.2, by simp [h1], by simp [h2]⟩
  · show xs.length ≤ (zipD ds es).length ∨ ys.length ≤ (zipD ds es).length
    omega
  · obtain ⟨T, z, z', e1, e2, e3, e4, e5⟩ := y
    exact ⟨T, z, z', e1, e2, e3, e4 xs q.1, e5 ys q.2⟩
  · obtain ⟨T, z, z', rfl, e2, rfl, e4, e5⟩ := y
    obtain ⟨d, h1, h2⟩ := (hd.mono r0 k).getV e4
    obtain ⟨d', h1', h2'⟩ := (hd'.mono r0 k).getV e5
    exact ⟨_, ⟨g1.μ, g1.S, _⟩, zipD_get h1 h1', rfl, rfl, Gr.laid e2, r1.laid e2, dv_pair r1 e2 h2 h2'⟩
theorem srcOk_zipL {g0 : Wd} {a b : Addr} {ds es : List D} {ga gb : List (Nat × List D)} (r0 : Rep M g0) (oa : gdOk ga g0.S = true) (ob : gdOk gb g0.S = true)
    (ha : ∀ g1, Rep M g1 → Gr g0 g1 → gdOk ga g1.S = true → ∃ xs, SqL M.K g1.H a xs ∧ DVs M g1 ds xs) (hb : ∀ g1, Rep M g1 → Gr g0 g1 → gdOk gb g1.S = true → ∃ xs, SqL M.K g1.H b xs ∧ DVs M g1 es xs) :
    SrcOk M g0 ⟨zipD ds es, ga ++ gb⟩ (Itz M.K a b) := by
  have hl : (zipD ds es).length = min ds.length es.length := by unfold zipD; simp
  refine ⟨fun H => (∃ xs, SqL M.K H a xs ∧ xs.length = ds.length) ∧ ∃ ys, SqL M.K H b ys ∧ ys.length = es.length,
    fun i H v H' => ∃ T x y, v = .ref T ∧ H T = none ∧ H' = upd H T (.tup [x, y]) ∧ (∀ xs, SqL M.K H a xs → xs[i]? = some x) ∧ ∀ ys, SqL M.K H b ys → ys[i]? = some y,
    ⟨fun i H hi q => ?_, fun H q => ?_, fun i H x H' hi q y => y⟩, by rw [gdOk_app, oa, ob]; rfl, fun g1 r1 k ok => ?_, fun i g1 v H' hi r1 k ok y => ?_⟩
  · obtain ⟨⟨xs, q1, e1⟩, ys, q2, e2⟩ := q
    have hi : i < (zipD ds es).length := hi
    rw [hl] at hi
    have h1 : i < xs.length := by omega
    have h2 : i < ys.length := by omega
    exact ⟨xs, ys, xs[i], ys[i], q1, q2, by simp [h1], by simp [h2]⟩
  · obtain ⟨⟨xs, q1, e1⟩, ys, q2, e2⟩ := q
    refine ⟨xs, ys, q1, q2, ?_⟩
    show xs.length ≤ (zipD ds es).length ∨ ys.length ≤ (zipD ds es).length
    omega
  · rw [gdOk_app, Bool.and_eq_true] at ok
    obtain ⟨xs, h1, h2⟩ := ha g1 r1 k ok.1
    obtain ⟨ys, h3, h4⟩ := hb g1 r1 k ok.2
    exact ⟨⟨xs, h1, h2.length.symm⟩, ys, h3, h4.length.symm⟩
  · obtain ⟨T, z, z', rfl, e2, rfl, e4, e5⟩ := y
    rw [gdOk_app, Bool.and_eq_true] at ok
    obtain ⟨xs, h1, h2⟩ := ha g1 r1 k ok.1
    obtain ⟨ys, h3, h4⟩ := hb g1 r1 k ok.2
    obtain ⟨d, h5, h6⟩ := h2.getV (e4 xs h1)
    obtain ⟨d', h5', h6'⟩ := h4.getV (e5 ys h3)
    exact ⟨_, ⟨g1.μ, g1.S, _⟩, zipD_get h5 h5', rfl, rfl, Gr.laid e2, r1.laid e2, dv_pair r1 e2 h6 h6'⟩
theorem mi_zip (hK : X.K = M.K) {e e2 : Expr} {f : Fs} {p pos tpos : Pos} {elts : List Expr} {kk : Nat} (hm : X.mg "zip" = none) (ha : MA M X W [e, e2] f) (hg : Gl X "zip" := by rfl)
    (hs : starEach [e, e2] X.env = (false, eval e X.env) :: starEach [e2] X.env := by rfl) (hpl : (backTo pos (starEach [e2] X.env)).any (·.1) = false := by rfl) :
    MI M X W (.Tuple elts kk tpos) (.Call (.Name "zip" p) [e, e2] [] pos) (iZp f) := PI.imp (RZ.pi_zipA hg hm ha hs hpl) fun σ H R q => by
  obtain ⟨g, ρ, rfl, rp, en, q⟩ := q
  have q := Aft.bind (k := zipS) q
  refine tA.go rp en (q.mono (fun ds g1 k1 r1 q1 vs hvs => ?_) fun _ _ _ _ z => z)
  rw [hK]
  unfold zipS at q1
  split at q1
  · obtain ⟨v, u, rfl, hv, hu⟩ := hvs.two
    obtain ⟨a, xs, rfl, h1, h2⟩ := hv.tupI
    obtain ⟨b, ys, rfl, h3, h4⟩ := hu.tupI
    exact ⟨_, _, xs, ys, rfl, .inr ⟨h1, h3, Aft.here r1 q1 _ (srcOk_zipT r1 h1 h2 h3 h4)⟩⟩
  · split at q1
    · rename_i ea eb
      obtain ⟨v, u, rfl, hv, hu⟩ := hvs.two
      obtain ⟨a, xs, rfl, h1, h2, h3⟩ := lstG_v r1 hv ea
      obtain ⟨b, ys, rfl, h4, h5, h6⟩ := lstG_v r1 hu eb
      exact ⟨_, _, xs, ys, rfl, .inl ⟨h1, h4, Aft.here r1 q1 _ (srcOk_zipL r1 h2 h5 h3 h6)⟩⟩
    · exact q1.elim
  · exact q1.elim
end

/-! ### xs[::-1] -/
section
variable {prog : Program} {w : World} {A : Around} {E : Value → Shared → Prop} {s : Shared}
theorem rev_places (n : Nat) : Builtin.Slice.slicePlaces ((n : Int) - 1) (-1) (-1) = n := by
  unfold Builtin.Slice.slicePlaces
  rw [if_neg (by decide)]
  split <;> simp <;> omega
theorem rev_pick (xs : Array Value) : ((List.range xs.size).filterMap fun (k : Nat) => xs[(((xs.size : Int) - 1) + (k : Int) * -1).toNat]?).toArray = xs.toList.reverse.toArray := by
  congr 1
  apply List.ext_getElem?
  intro i
  have e : (List.range xs.size).filterMap (fun (k : Nat) => xs[(((xs.size : Int) - 1) + (k : Int) * -1).toNat]?) = (List.range xs.size).map fun k => xs.toList.reverse[k]?.getD .none := by
    have gen : ∀ (l : List Nat), (∀ k ∈ l, k < xs.size) → l.filterMap (fun (k : Nat) => xs[(((xs.size : Int) - 1) + (k : Int) * -1).toNat]?) = l.map fun k => xs.toList.reverse[k]?.getD .none := by
      intro l
      induction l with
      | nil => intro _; rfl
      | cons k l ih =>
        intro hl
        have hk : k < xs.size := hl k (List.mem_cons_self ..)
        have e1 : (((xs.size : Int) - 1) + (k : Int) * -1).toNat = xs.size - 1 - k := by omega
        have h1 : xs.size - 1 - k < xs.size := by omega
        have h2 : k < xs.toList.reverse.length := by simpa using hk
        rw [List.filterMap_cons, e1, Array.getElem?_eq_getElem h1, ih fun j hj => hl j (List.mem_cons_of_mem _ hj), List.map_cons, List.getElem?_eq_getElem h2]
        simp
    exact gen _ fun k hk => List.mem_range.mp hk
  rw [e]
  by_cases hi : i < xs.size
  · have h2 : i < xs.toList.reverse.length := by simpa using hi
    rw [List.getElem?_map, List.getElem?_range hi, List.getElem?_eq_getElem h2]
    simp [hi]
  · rw [List.getElem?_eq_none (by simp; omega), List.getElem?_eq_none (by simp; omega)]
theorem getItem_tuple_rev {t sl : Addr} {items : Array Value} {vs : Value} {Q : Value → Shared → Prop} (ht : IsTup s.heap t items) (hs : s.heap.IsSliceOf sl .none .none vs) (ps : IsPart vs (some (-1)))
    (h : Q (.ref s.heap.objs.size) { s with heap := s.heap.push { cls := .type "tuple", data := .seq items.toList.reverse.toArray } })
    (hsz : items.size ≤ sizeLine) : wpAny (model prog w) A (getItem (.ref t) (.ref sl)) Q E s := by
  have htake : sizeOk (.seq items.toList.reverse.toArray) := by
    show items.toList.reverse.toArray.size ≤ sizeLine
    simpa using hsz
  obtain ⟨os, hos, hcs, hds⟩ := id hs
  have hTs : s.TypeIs (.ref sl) "slice" := ⟨os, hos, hcs⟩
  unfold getItem
  try with_reducible refine wpAny_holding ?_
  first | refine wpAny_bind (wpAny_pure ?_) | skip
  refine wpAny_bind (wpAny_sequenceKey ht.typeIs (by decide) ?_)
  refine wpAny_bind (wpAny_callSpecial?_slot (name := Str.ofString "__getitem__") ht.typeIs PyProof.Rows.slot_tuple_getitem
    (wpAny_call_entry PyProof.Rows.slot_tuple_getitem ht.typeIs entry_tuple_getitem ?_ (args_tuple_getitem _ _)))
  show wpAny _ _ (Builtin.Tuple.tupleItemsOf (.ref t) >>= _) _ _ s
  refine wpAny_bind (PyProof.Rows.tupleItemsOf_ ht ?_)
  refine wpAny_bind (wpAny_typeOf hTs ?_)
  rw [if_pos (by decide)]
  refine wpAny_bind (m := Builtin.Slice.sliceApplied _ _) ?_
  · unfold Builtin.Slice.sliceApplied Builtin.Slice.sliceFields
    refine wpAny_bind (wpAny_bind (wpAny_field hos hds (x := .none) rfl (wpAny_bind (wpAny_field hos hds (x := .none) rfl (wpAny_bind (wpAny_field hos hds (x := vs) rfl (wpAny_pure ?_)))))))
    refine wpAny_bind (HT.slicePart_ ps ?_)
    show wpAny _ _ (if ((-1 : Int) == 0) = true then _ else _) _ _ s
    rw [if_neg (by decide)]
    refine wpAny_bind (HT.slicePart_ .none (wpAny_bind (HT.slicePart_ .none (wpAny_bind (wpAny_pure ?_)))))
    show wpAny _ _ (pure (((items.size : Int) - 1), (-1 : Int), Builtin.Slice.slicePlaces ((items.size : Int) - 1) (-1) (-1))) _ _ s
    rw [rev_places]
    refine wpAny_pure ?_
    have hno : ¬ ((((items.size : Int) - 1) == 0 && (-1 : Int) == 1 && items.size == items.size) = true) := by
      intro q
      rw [Bool.and_eq_true, Bool.and_eq_true] at q
      exact absurd q.1.2 (by decide)
    show wpAny _ _ (if (((items.size : Int) - 1) == 0 && (-1 : Int) == 1 && items.size == items.size) = true then _ else _) _ _ s
    rw [if_neg hno, rev_pick]
    first
      | exact wpAny_bind (m := Builtin.Tuple.tupleExact _) (wpAny_newObj_type (wpAny_pure ⟨_, rfl, wpAny_pure h⟩) htake)
      | exact wpAny_bind (m := Builtin.Tuple.tupleExact _) (wpAny_newObj_type (wpAny_bind (wpAny_pure (wpAny_pure ⟨_, rfl, wpAny_pure h⟩))) htake)
      | exact wpAny_bind (wpAny_bind (m := Builtin.Tuple.tupleExact _) (wpAny_newObj_type (wpAny_pure (wpAny_pure ⟨_, rfl, wpAny_pure h⟩)) htake))
      | exact wpAny_bind (wpAny_bind (m := Builtin.Tuple.tupleExact _) (wpAny_newObj_type (wpAny_pure ⟨_, rfl, wpAny_pure h⟩) htake))
end
def tRevA (K : PySem.W.Frag) (te : TE) : TE := fun σ H Q => te σ H fun x H1 => ∃ a xs, x = .ref a ∧ ((SqL K H1 a xs ∧ ∀ p, H1 p = none → Q (.ref p) (upd H1 p (.lst xs.reverse))) ∨ (SqT K H1 a xs ∧ ∀ p, H1 p = none → Q (.ref p) (upd H1 p (.tup xs.reverse))))
theorem pe_revA {X : Cx} {e : Expr} {te : TE} {k : Nat} {p1 p2 p3 pos : Pos} (he : PE X e te) : PE X (.Subscript e (.Slice none none (some (.UnaryOp .USub (.Constant (.int 1) k p1) p2)) p3) pos) (tRevA X.K te) := by
  refine ⟨fun pins s σ H Q I h => ?_⟩
  refine Subscript_ (thn (he.run pins s σ H _ I h) fun v s1 ⟨x, H1, I1, r1, q1⟩ => ?_)
  obtain ⟨a, xs, ex, q⟩ := q1
  subst ex
  cases r1
  have hst : PO X (some (.UnaryOp .USub (.Constant (.int 1) k p1) p2)) (tPart (tUn (rU fun i => .int (-i)) (tC (.int 1)))) := po_some (pe_un un_neg pe_int)
  refine wpAny_Slice (thn (po_none.run pins s1 σ H1 (fun o H2 => o = none ∧ H2 = H1) I1 ⟨rfl, rfl⟩) fun vl s2 ⟨l, H2, I2, pl, el, e2⟩ => ?_)
  subst el e2
  refine thn (po_none.run pins s2 σ H2 (fun o H3 => o = none ∧ H3 = H2) I2 ⟨rfl, rfl⟩) fun vu s3 ⟨u, H3, I3, pu, eu, e3⟩ => ?_
  subst eu e3
  refine thn (hst.run pins s3 σ H3 (fun o H4 => o = some (-1) ∧ H4 = H3) I3 ⟨1, rfl, -1, rfl, rfl, rfl⟩) fun vs s4 ⟨o, H4, I4, ps, eo, e4⟩ => ?_
  subst eo e4
  have I5 : Inv X pins σ H4 { s4 with heap := s4.heap.push { cls := .type "slice", data := .fields #[vl, vu, vs] } } := I4.kept (t' := s4.toks) fun b ob q => Heap.get?_push_of_some _ q
  show wpAny (model X.prog X.w) X.A (subscriptTail e (.Slice none none (some (.UnaryOp .USub (.Constant (.int 1) k p1) p2)) p3) (.ref a) (.ref s4.heap.objs.size)) (EP X pins σ Q) X.xe { s4 with heap := s4.heap.push { cls := .type "slice", data := .fields #[vl, vu, vs] } }
  rcases q with ⟨hx, q⟩ | ⟨hx, q⟩
  · obtain ⟨its, r, ht, hz⟩ := I5.list hx
    have hlen := r.length
    refine tail_any (ops := [.ref a, .ref s4.heap.objs.size]) ht.isList.typeIs (PySem.slot_list_getitem.lookup) ?_ (by with_unfolding_all rfl)
    refine wpAny_getItem_list_slice ht.isList (Heap.IsSliceOf.new _ vl vu vs) pl pu ps (by decide) ?_ (by rw [List.size_toArray]; omega)
    rw [PySem.W.krv_pick]
    refine ⟨.ref _, _, I5.laid (t' := s4.toks) (o := .lst xs.reverse) (fun b ob q => Heap.get?_push_of_some _ q) (Nat.le_refl _) ?_, rfl, q _ (I5.hok.fresh (Nat.le_refl _))⟩
    exact ⟨by rw [List.length_reverse]; exact hz, _, 0, r.reverse, Heap.get?_push_size _ rfl⟩
  · obtain ⟨its, r, ht, hz⟩ := I5.tuple hx
    have hlen := r.length
    cases pl
    cases pu
    refine tail_any (ops := [.ref a, .ref s4.heap.objs.size]) ht.typeIs (PyProof.Rows.slot_tuple_getitem.lookup) ?_ (by with_unfolding_all rfl)
    refine getItem_tuple_rev ht (Heap.IsSliceOf.new _ .none .none vs) ps ?_ (by rw [List.size_toArray]; omega)
    refine ⟨.ref _, _, I5.laid (t' := s4.toks) (o := .tup xs.reverse) (fun b ob q => Heap.get?_push_of_some _ q) (Nat.le_refl _) ?_, rfl, q _ (I5.hok.fresh (Nat.le_refl _))⟩
    exact ⟨by rw [List.length_reverse]; exact hz, _, r.reverse, IsTup.new _ _⟩
def revD : D → Sto → Rs D := fun d S => match d with
  | .tup ds => .ok (.tup ds.reverse) S
  | d => match lstD d S with
    | some ds => .ok (.ref S.length) (S ++ [.lst ds.reverse])
    | none => .stuck
def dRev (f : Fe) : Fe := fun ρ S => (f ρ S).bind revD
theorem me_rev {M : Md} {X : Cx} {W : WX} (hK : X.K = M.K) {e : Expr} {f : Fe} {k : Nat} {p1 p2 p3 pos : Pos} (he : ME M X W e f) : ME M X W (.Subscript e (.Slice none none (some (.UnaryOp .USub (.Constant (.int 1) k p1) p2)) p3) pos) (dRev f) := PE.imp (pe_revA he) fun σ H Q q => by
  obtain ⟨g, ρ, rfl, rp, en, q⟩ := q
  have q := Aft.bind (k := revD) q
  refine tE.go rp en (q.mono (fun d g1 k1 r1 q1 v hv => ?_) fun _ _ _ _ z => z)
  rw [hK]
  unfold revD at q1
  split at q1
  · obtain ⟨a, xs, rfl, h1, h2⟩ := hv.tupI
    exact ⟨a, xs, rfl, .inr ⟨h1, fun p hp => new_tup r1 q1 hp _ (dv_new r1 hp h2.reverse)⟩⟩
  · split at q1
    · rename_i ds hd
      obtain ⟨a, xs, rfl, h1, h2⟩ := lstD_v r1 hv hd
      exact ⟨a, xs, rfl, .inl ⟨h1, fun p hp => new_lst r1 q1 hp h2.reverse _ .newRef⟩⟩
    · exact q1.elim
end MP
set_option Elab.async false
set_option linter.all false
set_option maxRecDepth 100000
set_option maxHeartbeats 4000000
/-! Constants of the module, updates, the end. -/
namespace MP
open PySem PySem.Spec PyProof.Rows L2

theorem _root_.L2.Room.u65 {k : Nat} {A : Around} (r : Room k A) : A.units + 65 < cLine := by have := r.un; omega

/-! ### constants -/
def dvName : D → Value → Bool := fun _ _ => true
mutual
/-- u, as it stands among the module's objects, is the plain value d -/
def dvK (K : PySem.W.Frag) : D → Value → Bool
  | .non, .none => true
  | .bl b, .bool c => b == c
  | .int i, .int j _ => decide (i = j)
  | .str x, .str y _ => decide (x = y)
  | .tup ds, .ref a => match K.lookup a with
    | some ⟨.type c, _, .seq its _, _⟩ => decide (c = "tuple") && (decide (its.size ≤ sizeLine) && dvKs K ds its.toList)
    | _ => false
  | .fl ds, .ref a => match K.lookup a with
    | some ⟨.type c, none, .seq its _, _⟩ => decide (c = "list") && (decide (its.size ≤ sizeLine) && dvKs K ds its.toList)
    | _ => false
  | _, _ => false
def dvKs (K : PySem.W.Frag) : List D → List Value → Bool
  | [], [] => true
  | d :: ds, u :: us => dvK K d u && dvKs K ds us
  | _, _ => false
end
mutual
theorem dvK_ok {M : Md} : ∀ {d : D} {u : Value}, dvK M.K d u = true → ∃ v, RelV v u ∧ ∀ g, DV M g d v
  | .non, u, h => by
    cases u <;> simp [dvK] at h
    exact ⟨.non, rfl, fun _ => .non⟩
  | .bl b, u, h => by
    cases u <;> simp [dvK] at h
    subst h
    exact ⟨.bl b, rfl, fun _ => .bl _⟩
  | .int i, u, h => by
    cases u <;> simp [dvK] at h
    subst h
    exact ⟨.int i, ⟨_, rfl⟩, fun _ => .int _⟩
  | .str i, u, h => by
    cases u <;> simp [dvK] at h
    subst h
    exact ⟨.str i, ⟨_, rfl⟩, fun _ => .str _⟩
  | .ref i, u, h => by cases u <;> simp [dvK] at h
  | .fn i, u, h => by cases u <;> simp [dvK] at h
  | .tup ds, u, h => by
    cases u with
    | ref a =>
      unfold dvK at h
      split at h
      · rename_i c od its n sl e
        simp only [Bool.and_eq_true, decide_eq_true_eq] at h
        obtain ⟨h1, h2, h3⟩ := h
        obtain ⟨vs, h4, h5⟩ := dvKs_ok h3
        subst h1
        exact ⟨.ref a, rfl, fun g => .tup (.inr ⟨_, its, n, e, rfl, rfl, h2, h4⟩) (h5 g)⟩
      · cases h
    | _ => simp [dvK] at h
  | .fl ds, u, h => by
    cases u with
    | ref a =>
      unfold dvK at h
      split at h
      · rename_i c its n sl e
        simp only [Bool.and_eq_true, decide_eq_true_eq] at h
        obtain ⟨h1, h2, h3⟩ := h
        obtain ⟨vs, h4, h5⟩ := dvKs_ok h3
        subst h1
        exact ⟨.ref a, rfl, fun g => .fl (.inr ⟨_, its, n, e, rfl, rfl, rfl, h2, h4⟩) (h5 g)⟩
      · cases h
    | _ => simp [dvK] at h
theorem dvKs_ok {M : Md} : ∀ {ds : List D} {us : List Value}, dvKs M.K ds us = true → ∃ vs, Vals vs us ∧ ∀ g, DVs M g ds vs
  | [], us, h => by
    cases us with
    | nil => exact ⟨[], .nil, fun _ => .nil⟩
    | cons _ _ => simp [dvKs] at h
  | d :: ds, us, h => by
    cases us with
    | nil => simp [dvKs] at h
    | cons u us =>
      have h := Bool.and_eq_true_iff.mp (show (dvK M.K d u && dvKs M.K ds us) = true by simpa [dvKs] using h)
      obtain ⟨v, h1, h2⟩ := dvK_ok h.1
      obtain ⟨vs, h3, h4⟩ := dvKs_ok h.2
      exact ⟨v :: vs, .cons h1 h3, fun g => .cons (h2 g) (h4 g)⟩
end
/-- the module's name x stands for the plain value d -/
def KonG (M : Md) (mg : Str → Option Value) (x : Str) (d : D) : Prop := ∃ u v, mg x = some u ∧ RelV v u ∧ ∀ g, DV M g d v
theorem me_con {M : Md} {X : Cx} {W : WX} {x : Str} {d : D} {pos : Pos} (h : KonG M X.mg x d) (hg : Gl X x) (hdb : (x == ("__debug__" : Str)) = false := by decide) : ME M X W (.Name x pos) (dC d) := by
  obtain ⟨u, v, h1, h2, h3⟩ := h
  exact me_glob hg h1 h2 h3 hdb
/-- what the head looks at: constants, built-in functions by the module's names -/
def konB (K : PySem.W.Frag) (x : Str) (d : D) : Bool := match PySem.W.nsIn K mainGlobals x with
  | some (some u) => dvK K d u
  | _ => false
theorem konB_ok {M : Md} {h : Heap} {mg : Str → Option Value} (KX : M.K.In h) (G : h.Ns mainGlobals mg) {x : Str} {d : D} (c : konB M.K x d = true) : KonG M mg x d := by
  unfold konB at c
  split at c
  · rename_i u e
    obtain ⟨v, h1, h2⟩ := dvK_ok c
    exact ⟨u, v, PySem.W.mg_of KX G e, h1, h2⟩
  · cases c
def bltB (K : PySem.W.Frag) (x : Str) (id : String) : Bool := He.eqO (PySem.W.nsIn K mainGlobals x) (some (some (.builtin id)))
theorem bltB_ok {K : PySem.W.Frag} {h : Heap} {mg : Str → Option Value} (KX : K.In h) (G : h.Ns mainGlobals mg) {x : Str} {id : String} (c : bltB K x id = true) : mg x = some (.builtin id) := PySem.W.mg_of KX G (He.eqO_ok c)

/-! ### x op= e -/
def dIAdd : F2 := fun x y S => match x, y with
  | .int i, .int j => .ok (.int (i + j)) S
  | .str i, .str j => if i.length + j.length ≤ sizeLine then .ok (.str (i ++ j)) S else .stuck
  | _, _ => .stuck
abbrev rIAdd : R2 := fun x y H Q => rI0 (fun i j => .int (i + j)) x y H Q ∨ ∃ i j, x = .str i ∧ y = .str j ∧ i.length + j.length ≤ sizeLine ∧ Q (.str (i ++ j)) H
theorem iop_addD {X : Cx} : OpR X (inplaceOp .Add) rIAdd := iop_add.or iop_add_str
theorem o2_iadd {M : Md} : Op2 M rIAdd dIAdd := by
  intro g x y v u Q E r hx hy h
  unfold dIAdd at h
  split at h
  · rw [hx.intI, hy.intI]
    exact .inl ⟨_, _, rfl, rfl, h.here r _ (.int _)⟩
  · split at h
    · rename_i hz
      rw [hx.strI, hy.strI]
      exact .inr ⟨_, _, rfl, rfl, hz, h.here r _ (.str _)⟩
    · exact h.elim
  · exact h.elim
def dIMul : F2 := fun x y S => match x, y with
  | .int i, .int j => if szMul i j = true then .ok (.int (i * j)) S else .stuck
  | _, _ => .stuck
theorem iop_mulD {X : Cx} : OpR X (inplaceOp .Mult) (rI (fun i j => szMul i j = true) fun i j => .int (i * j)) := opI fun _ _ _ _ _ _ _ hc q => imul_int q (szMul.ok hc)
theorem o2_imul {M : Md} : Op2 M (rI (fun i j => szMul i j = true) fun i j => .int (i * j)) dIMul := by
  intro g x y v u Q E r hx hy h
  unfold dIMul at h
  split at h
  · split at h
    · rename_i hz
      rw [hx.intI, hy.intI]
      exact ⟨_, _, rfl, rfl, hz, h.here r _ (.int _)⟩
    · exact h.elim
  · exact h.elim

/-! ### the law's end -/
/-- the law's list, as told by walk's end: a list of ints, nothing else tracked -/
def law_D (ns : List Int) : D := .fl (ns.map D.int)
end MP
set_option Elab.async false
set_option linter.all false
set_option maxRecDepth 100000
set_option maxHeartbeats 4000000
/-! The law's end over a head by facts. -/
namespace MP
open PySem PySem.Spec PyProof.Rows L2

theorem walk_ofW {l : PySem.W.OpenLaw} {n k : Nat} {q : Program} {loose : List Str} {XP : (Str → Option Value) → Heap → Prop} {YP : World → Heap → Prop} {d : DefRec} {x : Str}
    (hn : l.most = some n) (hn2 : n ≤ sizeLine) (hdf : d.params.defaults = []) (hr : Room k callerA)
    (F : ∀ (w : World) (mg : Str → Option Value) (fa : Addr) (h : Heap), YP w h → h.Ns mainGlobals mg → mg d.name = some (.ref fa) →
      ∃ (K : PySem.W.Frag) (fd : FuncData) (sp : Sp), K.In h ∧ (∀ (s : Shared) (u : Value), BindsTo s fd ⟨[u], []⟩ [(x, u)]) ∧
        (∀ (H : Hp) (a : Addr) (ns : List Int), ns.length ≤ n → Only H → SqL K H a (ns.map V.int) → sp [.ref a] H (fun v _ => v = .bl true) fun _ _ _ => False) ∧
        ∀ base : Heap, K.In base → base.Ns mainGlobals mg → FnOk l.prog w K mg base (L2.CX l.prog w) k fa fd [x] sp) :
    PySem.W.WalkO q loose XP YP l.row.toRowW d [] (fun f vs => PySem.call f vs) := by
  refine Att.attach_call hn hdf fun w s₀ s₁ mg mb fa o pm cd doc a vs ns G Y ho hd hcd hmg hobj hints hlen hg => ?_
  obtain ⟨K, fd, sp, KX, hb, hsp, hF⟩ := F w mg fa _ Y G.T.g hmg
  exact law_call KX G.T.g G.T.b G.T.builtins G.T.nolimit hg hobj hints (Nat.le_trans hlen hn2) hr hF hb (fun H hO hS => hsp H a ns hlen hO hS) fun H e s' z => by
    obtain ⟨_, _, _, _, _, _, _, _, _, _, _, _, h⟩ := z
    exact h
theorem ints_dvs {M : Md} {g : Wd} : ∀ ns : List Int, DVs M g (ns.map D.int) (ns.map V.int)
  | [] => .nil
  | n :: ns => .cons (.int n) (ints_dvs ns)
theorem law_sp {M : Md} {F : FN} {H : Hp} {a : Addr} {ns : List Int} {S : Sto} (hF : F [law_D ns] [] = .ok (.bl true) S) (hO : Only H) (hS : SqL M.K H a (ns.map V.int)) : spF M 1 F [.ref a] H (fun v _ => v = .bl true) fun _ _ _ => False := by
  refine ⟨rfl, ⟨fun _ => 0, [], H⟩, [law_D ns], rfl, ⟨fun i j hi => absurd hi (Nat.not_lt_zero _), fun i o e => by cases e⟩, .cons (.fl ?_ (ints_dvs ns)) .nil, ?_⟩
  · rcases hS with (h | ⟨o, h⟩) | h
    · rcases hO a with z | ⟨o, xs, z⟩
      · rw [h] at z; cases z
      · rw [h] at z; cases z
    · exact .inl ⟨o, h⟩
    · exact .inr h
  · show Aft M _ (F [law_D ns] []) _ _
    rw [hF]
    intro g1 e1 k1 r1 v hv
    exact hv.blI
end MP
set_option Elab.async false
set_option linter.all false
set_option maxRecDepth 100000
set_option maxHeartbeats 4000000
namespace K08
open PySem PySem.Spec PyProof.Rows L2 MP
def top (i : Nat) : Stmt := PySem.Challenge.pw_thirdcounts_k08_whole_sums_and_products.main.body.getD i (.Pass ⟨0, 0, 0, 0⟩)
def c_BOUND : D := (.int 1000000000000000000000000000000000000000000000000000000000000)
def c_MAX_DEGREE : D := (.int 40)
def c_ZERO : D := (.tup [(.int 0), (.int 1)])
abbrev st_is_whole : Stmt := top 8
abbrev st_is_integer : Stmt := top 9
abbrev st_is_fraction : Stmt := top 10
abbrev st_is_number : Stmt := top 11
abbrev st_require_number : Stmt := top 12
abbrev st_fraction_in : Stmt := top 13
abbrev st_pair_of : Stmt := top 14
abbrev st_sum_in : Stmt := top 15
abbrev st_product_in : Stmt := top 16
abbrev st_is_poly : Stmt := top 20
abbrev st_poly_told : Stmt := top 21
abbrev st_both_polys : Stmt := top 22
abbrev st_without_end : Stmt := top 23
abbrev st_added_in : Stmt := top 24
abbrev st_scaled_in : Stmt := top 25
abbrev st_taken_in : Stmt := top 26
abbrev st_times_in : Stmt := top 27
abbrev st_value_in : Stmt := top 28
abbrev st_derived_in : Stmt := top 29
abbrev st_poly_sum : Stmt := top 30
abbrev st_poly_less : Stmt := top 31
abbrev st_poly_product : Stmt := top 32
abbrev st_poly_value : Stmt := top 33
abbrev st_derived : Stmt := top 34
abbrev st__law_dice : Stmt := top 36
abbrev st__law_roll : Stmt := top 37
abbrev st__law_gcd : Stmt := top 38
abbrev st__law_fraction : Stmt := top 39
abbrev st__law_plus : Stmt := top 40
abbrev st__law_times : Stmt := top 41
abbrev st__law_less : Stmt := top 42
abbrev st__law_py_made : Stmt := top 43
abbrev st__law_py_pairs : Stmt := top 44
abbrev st__law_py_sum : Stmt := top 45
abbrev st__law_py_times : Stmt := top 46
abbrev st__law_py_back : Stmt := top 47
abbrev st__law_py_value : Stmt := top 48
abbrev st__law_py_number : Stmt := top 49
abbrev st__law_py_drawn : Stmt := top 50
abbrev st__law_derived : Stmt := top 51
abbrev st__law_right : Stmt := top 52
abbrev st__law_judged_right : Stmt := top 53
abbrev st_law : Stmt := top 54
/-- what the head told of the module -/
structure Mo (mg : Str → Option Value) (M : Md) : Prop where
  f_abs : mg "abs" = none
  f_all : mg "all" = none
  f_bool : mg "bool" = none
  f_enumerate : mg "enumerate" = none
  f_int : mg "int" = none
  f_isinstance : mg "isinstance" = none
  f_len : mg "len" = none
  f_list : mg "list" = none
  f_max : mg "max" = none
  f_min : mg "min" = none
  f_range : mg "range" = none
  f_tuple : mg "tuple" = none
  f_zip : mg "zip" = none
  g_BOUND : KonG M mg "BOUND" c_BOUND
  g_MAX_DEGREE : KonG M mg "MAX_DEGREE" c_MAX_DEGREE
  g_ZERO : KonG M mg "ZERO" c_ZERO
  g_gcd : mg "gcd" = some (.builtin "math.gcd")
  d_is_whole : ∃ f fd, FunD M.K "is_whole" "is_whole" (defArgs st_is_whole) (defBody st_is_whole) (defScope st_is_whole) [] [] f fd ∧ mg "is_whole" = some (.ref f)
  d_is_integer : ∃ f fd, FunD M.K "is_integer" "is_integer" (defArgs st_is_integer) (defBody st_is_integer) (defScope st_is_integer) [] [] f fd ∧ mg "is_integer" = some (.ref f)
  d_is_fraction : ∃ f fd, FunD M.K "is_fraction" "is_fraction" (defArgs st_is_fraction) (defBody st_is_fraction) (defScope st_is_fraction) [] [] f fd ∧ mg "is_fraction" = some (.ref f)
  d_is_number : ∃ f fd, FunD M.K "is_number" "is_number" (defArgs st_is_number) (defBody st_is_number) (defScope st_is_number) [] [] f fd ∧ mg "is_number" = some (.ref f)
  d_require_number : ∃ f fd, FunD M.K "require_number" "require_number" (defArgs st_require_number) (defBody st_require_number) (defScope st_require_number) [] [] f fd ∧ mg "require_number" = some (.ref f)
  d_fraction_in : ∃ f fd, FunD M.K "fraction_in" "fraction_in" (defArgs st_fraction_in) (defBody st_fraction_in) (defScope st_fraction_in) [] [] f fd ∧ mg "fraction_in" = some (.ref f)
  d_pair_of : ∃ f fd, FunD M.K "pair_of" "pair_of" (defArgs st_pair_of) (defBody st_pair_of) (defScope st_pair_of) [] [] f fd ∧ mg "pair_of" = some (.ref f)
  d_sum_in : ∃ f fd, FunD M.K "sum_in" "sum_in" (defArgs st_sum_in) (defBody st_sum_in) (defScope st_sum_in) [] [] f fd ∧ mg "sum_in" = some (.ref f)
  d_product_in : ∃ f fd, FunD M.K "product_in" "product_in" (defArgs st_product_in) (defBody st_product_in) (defScope st_product_in) [] [] f fd ∧ mg "product_in" = some (.ref f)
  d_is_poly : ∃ f fd, FunD M.K "is_poly" "is_poly" (defArgs st_is_poly) (defBody st_is_poly) (defScope st_is_poly) [] [] f fd ∧ mg "is_poly" = some (.ref f)
  d_poly_told : ∃ f fd, FunD M.K "poly_told" "poly_told" (defArgs st_poly_told) (defBody st_poly_told) (defScope st_poly_told) [] [] f fd ∧ mg "poly_told" = some (.ref f)
  d_both_polys : ∃ f fd, FunD M.K "both_polys" "both_polys" (defArgs st_both_polys) (defBody st_both_polys) (defScope st_both_polys) [] [] f fd ∧ mg "both_polys" = some (.ref f)
  d_without_end : ∃ f fd, FunD M.K "without_end" "without_end" (defArgs st_without_end) (defBody st_without_end) (defScope st_without_end) [] [] f fd ∧ mg "without_end" = some (.ref f)
  d_added_in : ∃ f fd, FunD M.K "added_in" "added_in" (defArgs st_added_in) (defBody st_added_in) (defScope st_added_in) [] [] f fd ∧ mg "added_in" = some (.ref f)
  d_scaled_in : ∃ f fd, FunD M.K "scaled_in" "scaled_in" (defArgs st_scaled_in) (defBody st_scaled_in) (defScope st_scaled_in) [] [] f fd ∧ mg "scaled_in" = some (.ref f)
  d_taken_in : ∃ f fd, FunD M.K "taken_in" "taken_in" (defArgs st_taken_in) (defBody st_taken_in) (defScope st_taken_in) [] [] f fd ∧ mg "taken_in" = some (.ref f)
  d_times_in : ∃ f fd, FunD M.K "times_in" "times_in" (defArgs st_times_in) (defBody st_times_in) (defScope st_times_in) [] [] f fd ∧ mg "times_in" = some (.ref f)
  d_value_in : ∃ f fd, FunD M.K "value_in" "value_in" (defArgs st_value_in) (defBody st_value_in) (defScope st_value_in) [] [] f fd ∧ mg "value_in" = some (.ref f)
  d_derived_in : ∃ f fd, FunD M.K "derived_in" "derived_in" (defArgs st_derived_in) (defBody st_derived_in) (defScope st_derived_in) [] [] f fd ∧ mg "derived_in" = some (.ref f)
  d_poly_sum : ∃ f fd, FunD M.K "poly_sum" "poly_sum" (defArgs st_poly_sum) (defBody st_poly_sum) (defScope st_poly_sum) [] [] f fd ∧ mg "poly_sum" = some (.ref f)
  d_poly_less : ∃ f fd, FunD M.K "poly_less" "poly_less" (defArgs st_poly_less) (defBody st_poly_less) (defScope st_poly_less) [] [] f fd ∧ mg "poly_less" = some (.ref f)
  d_poly_product : ∃ f fd, FunD M.K "poly_product" "poly_product" (defArgs st_poly_product) (defBody st_poly_product) (defScope st_poly_product) [] [] f fd ∧ mg "poly_product" = some (.ref f)
  d_poly_value : ∃ f fd, FunD M.K "poly_value" "poly_value" (defArgs st_poly_value) (defBody st_poly_value) (defScope st_poly_value) [] [] f fd ∧ mg "poly_value" = some (.ref f)
  d_derived : ∃ f fd, FunD M.K "derived" "derived" (defArgs st_derived) (defBody st_derived) (defScope st_derived) [] [] f fd ∧ mg "derived" = some (.ref f)
  d__law_dice : ∃ f fd, FunD M.K "_law_dice" "_law_dice" (defArgs st__law_dice) (defBody st__law_dice) (defScope st__law_dice) [] [] f fd ∧ mg "_law_dice" = some (.ref f)
  d__law_roll : ∃ f fd, FunD M.K "_law_roll" "_law_roll" (defArgs st__law_roll) (defBody st__law_roll) (defScope st__law_roll) [] [] f fd ∧ mg "_law_roll" = some (.ref f)
  d__law_gcd : ∃ f fd, FunD M.K "_law_gcd" "_law_gcd" (defArgs st__law_gcd) (defBody st__law_gcd) (defScope st__law_gcd) [] [] f fd ∧ mg "_law_gcd" = some (.ref f)
  d__law_fraction : ∃ f fd, FunD M.K "_law_fraction" "_law_fraction" (defArgs st__law_fraction) (defBody st__law_fraction) (defScope st__law_fraction) [] [] f fd ∧ mg "_law_fraction" = some (.ref f)
  d__law_plus : ∃ f fd, FunD M.K "_law_plus" "_law_plus" (defArgs st__law_plus) (defBody st__law_plus) (defScope st__law_plus) [] [] f fd ∧ mg "_law_plus" = some (.ref f)
  d__law_times : ∃ f fd, FunD M.K "_law_times" "_law_times" (defArgs st__law_times) (defBody st__law_times) (defScope st__law_times) [] [] f fd ∧ mg "_law_times" = some (.ref f)
  d__law_less : ∃ f fd, FunD M.K "_law_less" "_law_less" (defArgs st__law_less) (defBody st__law_less) (defScope st__law_less) [] [] f fd ∧ mg "_law_less" = some (.ref f)
  d__law_py_made : ∃ f fd, FunD M.K "_law_py_made" "_law_py_made" (defArgs st__law_py_made) (defBody st__law_py_made) (defScope st__law_py_made) [] [] f fd ∧ mg "_law_py_made" = some (.ref f)
  d__law_py_pairs : ∃ f fd, FunD M.K "_law_py_pairs" "_law_py_pairs" (defArgs st__law_py_pairs) (defBody st__law_py_pairs) (defScope st__law_py_pairs) [] [] f fd ∧ mg "_law_py_pairs" = some (.ref f)
  d__law_py_sum : ∃ f fd, FunD M.K "_law_py_sum" "_law_py_sum" (defArgs st__law_py_sum) (defBody st__law_py_sum) (defScope st__law_py_sum) [] [] f fd ∧ mg "_law_py_sum" = some (.ref f)
  d__law_py_times : ∃ f fd, FunD M.K "_law_py_times" "_law_py_times" (defArgs st__law_py_times) (defBody st__law_py_times) (defScope st__law_py_times) [] [] f fd ∧ mg "_law_py_times" = some (.ref f)
  d__law_py_back : ∃ f fd, FunD M.K "_law_py_back" "_law_py_back" (defArgs st__law_py_back) (defBody st__law_py_back) (defScope st__law_py_back) [] [] f fd ∧ mg "_law_py_back" = some (.ref f)
  d__law_py_value : ∃ f fd, FunD M.K "_law_py_value" "_law_py_value" (defArgs st__law_py_value) (defBody st__law_py_value) (defScope st__law_py_value) [] [] f fd ∧ mg "_law_py_value" = some (.ref f)
  d__law_py_number : ∃ f fd, FunD M.K "_law_py_number" "_law_py_number" (defArgs st__law_py_number) (defBody st__law_py_number) (defScope st__law_py_number) [] [] f fd ∧ mg "_law_py_number" = some (.ref f)
  d__law_py_drawn : ∃ f fd, FunD M.K "_law_py_drawn" "_law_py_drawn" (defArgs st__law_py_drawn) (defBody st__law_py_drawn) (defScope st__law_py_drawn) [] [] f fd ∧ mg "_law_py_drawn" = some (.ref f)
  d__law_derived : ∃ f fd, FunD M.K "_law_derived" "_law_derived" (defArgs st__law_derived) (defBody st__law_derived) (defScope st__law_derived) [] [] f fd ∧ mg "_law_derived" = some (.ref f)
  d__law_right : ∃ f fd, FunD M.K "_law_right" "_law_right" (defArgs st__law_right) (defBody st__law_right) (defScope st__law_right) [] [] f fd ∧ mg "_law_right" = some (.ref f)
  d__law_judged_right : ∃ f fd, FunD M.K "_law_judged_right" "_law_judged_right" (defArgs st__law_judged_right) (defBody st__law_judged_right) (defScope st__law_judged_right) [] [] f fd ∧ mg "_law_judged_right" = some (.ref f)
  d_law : ∃ f fd, FunD M.K "law" "law" (defArgs st_law) (defBody st_law) (defScope st_law) [] [] f fd ∧ mg "law" = some (.ref f)
/-! ### what they do -/
def b_is_whole : Fst := (sRet (dAnd (dIsi .int (dVar 0)) (dNot (dIsi .bool (dVar 0)))))
def F_is_whole : FN := runF 1 b_is_whole
def b_is_integer : Fst := (sRet (dAnd (dCall F_is_whole 1 (aCons (dVar 0) aNil)) (dChain dLt dLt (dNeg (dC c_BOUND)) (dVar 0) (dC c_BOUND))))
def F_is_integer : FN := runF 1 b_is_integer
def b_is_fraction : Fst := (sSeq (sIf (fOr (fNot (fTru (dIsi .tuple (dVar 0)))) (fOr (fB (d2 dNe (dN nLen (aCons (dVar 0) aNil)) (dC (.int 2)))) (fNot (fTru (dN nAll (aCons (dLc (iD (dVar 0)) (.nm 1) fYes (dCall F_is_whole 1 (aCons (dVar 1) aNil)) [1]) aNil)))))) (sRet (dC (.bl false))) sNil) (sRet (dAnd (d2 dGe (d2 dAt (dVar 0) (dC (.int 1))) (dC (.int 1))) (d2 dEq (dN nGcd (aCons (d2 dAt (dVar 0) (dC (.int 0))) (aCons (d2 dAt (dVar 0) (dC (.int 1))) aNil))) (dC (.int 1))))))
def F_is_fraction : FN := runF 2 b_is_fraction
def b_is_number : Fst := (sRet (dOr (dCall F_is_integer 1 (aCons (dVar 0) aNil)) (dCall F_is_fraction 1 (aCons (dVar 0) aNil))))
def F_is_number : FN := runF 1 b_is_number
def b_require_number : Fst := (sIf (fNot (fTru (dCall F_is_number 1 (aCons (dVar 0) aNil)))) sNo sNil)
def F_require_number : FN := runF 1 b_require_number
def b_fraction_in : Fst := (sSeq (sSet 2 (dIf (fB (d2 dGt (dVar 1) (dC (.int 0)))) (dN nGcd (aCons (dVar 0) (aCons (dVar 1) aNil))) (dNeg (dN nGcd (aCons (dVar 0) (aCons (dVar 1) aNil)))))) (sRet (mkTup (aCons (d2 dFdiv (dVar 0) (dVar 2)) (aCons (d2 dFdiv (dVar 1) (dVar 2)) aNil)))))
def F_fraction_in : FN := runF 3 b_fraction_in
def b_pair_of : Fst := (sRet (dIf (fTru (dIsi .tuple (dVar 0))) (dVar 0) (mkTup (aCons (dVar 0) (aCons (dC (.int 1)) aNil)))))
def F_pair_of : FN := runF 1 b_pair_of
def b_sum_in : Fst := (sSeq (sIf (fAnd (fB (d2 dEq (d2 dAt (dVar 0) (dC (.int 1))) (dC (.int 1)))) (fB (d2 dEq (d2 dAt (dVar 1) (dC (.int 1))) (dC (.int 1))))) (sRet (mkTup (aCons (d2 dAdd (d2 dAt (dVar 0) (dC (.int 0))) (d2 dAt (dVar 1) (dC (.int 0)))) (aCons (dC (.int 1)) aNil)))) sNil) (sRet (dCall F_fraction_in 2 (aCons (d2 dAdd (d2 dMul (d2 dAt (dVar 0) (dC (.int 0))) (d2 dAt (dVar 1) (dC (.int 1)))) (d2 dMul (d2 dAt (dVar 1) (dC (.int 0))) (d2 dAt (dVar 0) (dC (.int 1))))) (aCons (d2 dMul (d2 dAt (dVar 0) (dC (.int 1))) (d2 dAt (dVar 1) (dC (.int 1)))) aNil)))))
def F_sum_in : FN := runF 2 b_sum_in
def b_product_in : Fst := (sSeq (sIf (fAnd (fB (d2 dEq (d2 dAt (dVar 0) (dC (.int 1))) (dC (.int 1)))) (fB (d2 dEq (d2 dAt (dVar 1) (dC (.int 1))) (dC (.int 1))))) (sRet (mkTup (aCons (d2 dMul (d2 dAt (dVar 0) (dC (.int 0))) (d2 dAt (dVar 1) (dC (.int 0)))) (aCons (dC (.int 1)) aNil)))) sNil) (sRet (dCall F_fraction_in 2 (aCons (d2 dMul (d2 dAt (dVar 0) (dC (.int 0))) (d2 dAt (dVar 1) (dC (.int 0)))) (aCons (d2 dMul (d2 dAt (dVar 0) (dC (.int 1))) (d2 dAt (dVar 1) (dC (.int 1)))) aNil)))))
def F_product_in : FN := runF 2 b_product_in
def b_is_poly : Fst := (sSeq (sIf (fOr (fNot (fTru (dIsi .tuple (dVar 0)))) (fOr (fB (d2 dGt (dN nLen (aCons (dVar 0) aNil)) (d2 dAdd (dC c_MAX_DEGREE) (dC (.int 1))))) (fNot (fTru (dN nAll (aCons (dLc (iD (dVar 0)) (.nm 1) fYes (dCall F_is_number 1 (aCons (dVar 1) aNil)) [1]) aNil)))))) (sRet (dC (.bl false))) sNil) (sRet (dOr (d2 dEq (dVar 0) (mkTup aNil)) (d2 dNe (d2 dAt (dCall F_pair_of 1 (aCons (d2 dAt (dVar 0) (dNeg (dC (.int 1)))) aNil)) (dC (.int 0))) (dC (.int 0))))))
def F_is_poly : FN := runF 2 b_is_poly
def b_poly_told : Fst := (sSeq (sIf (fNot (fTru (dCall F_is_poly 1 (aCons (dVar 0) aNil)))) sNo sNil) (sRet (dN nTuple (aCons (dLc (iD (dVar 0)) (.nm 1) fYes (dCall F_pair_of 1 (aCons (dVar 1) aNil)) [1]) aNil))))
def F_poly_told : FN := runF 2 b_poly_told
def b_both_polys : Fst := (sRet (mkTup (aCons (dCall F_poly_told 1 (aCons (dVar 0) aNil)) (aCons (dCall F_poly_told 1 (aCons (dVar 1) aNil)) aNil))))
def F_both_polys : FN := runF 2 b_both_polys
def b_without_end : Fst := (sSeq (sSet 1 (dN nLen (aCons (dVar 0) aNil))) (sSeq (sWhile (fAnd (fB (d2 dGt (dVar 1) (dC (.int 0)))) (fB (d2 dEq (d2 dAt (d2 dAt (dVar 0) (d2 dSub (dVar 1) (dC (.int 1)))) (dC (.int 0))) (dC (.int 0))))) (sAug 1 dSub (dC (.int 1)))) (sRet (dN nTuple (aCons (dSlice (dVar 0) oNone (oSome (dVar 1))) aNil)))))
def F_without_end : FN := runF 2 b_without_end
def b_added_in : Fst := (sSeq (sSet 2 (dN nMax2 (aCons (dN nLen (aCons (dVar 0) aNil)) (aCons (dN nLen (aCons (dVar 1) aNil)) aNil)))) (sSeq (sPar 3 4 (aCons (mkLst (aStar (dVar 0) (aStar (d2 dMul (mkLst (aCons (dC c_ZERO) aNil)) (d2 dSub (dVar 2) (dN nLen (aCons (dVar 0) aNil)))) aNil))) (aCons (mkLst (aStar (dVar 1) (aStar (d2 dMul (mkLst (aCons (dC c_ZERO) aNil)) (d2 dSub (dVar 2) (dN nLen (aCons (dVar 1) aNil)))) aNil))) aNil))) (sRet (dCall F_without_end 1 (aCons (dLc (iZp (aCons (dVar 3) (aCons (dVar 4) aNil))) (.tp (.cons (.nm 5) (.cons (.nm 6) .nil))) fYes (dCall F_sum_in 2 (aCons (dVar 5) (aCons (dVar 6) aNil))) [5, 6]) aNil)))))
def F_added_in : FN := runF 7 b_added_in
def b_scaled_in : Fst := (sRet (dCall F_without_end 1 (aCons (dLc (iD (dVar 0)) (.nm 2) fYes (dCall F_product_in 2 (aCons (dVar 2) (aCons (dVar 1) aNil))) [2]) aNil)))
def F_scaled_in : FN := runF 3 b_scaled_in
def b_taken_in : Fst := (sRet (dCall F_added_in 2 (aCons (dVar 0) (aCons (dCall F_scaled_in 2 (aCons (dVar 1) (aCons (mkTup (aCons (dNeg (dC (.int 1))) (aCons (dC (.int 1)) aNil))) aNil))) aNil))))
def F_taken_in : FN := runF 2 b_taken_in
def b_times_in : Fst := (sSeq (sSet 2 (d2 dMul (mkLst (aCons (dC c_ZERO) aNil)) (d2 dAdd (dN nLen (aCons (dVar 0) aNil)) (dN nLen (aCons (dVar 1) aNil))))) (sSeq (sFor (iEn (aCons (dVar 0) aNil)) (.tp (.cons (.nm 3) (.cons (.nm 4) .nil))) (sFor (iEn (aCons (dVar 1) aNil)) (.tp (.cons (.nm 5) (.cons (.nm 6) .nil))) (sPut (dCall F_sum_in 2 (aCons (d2 dAt (dVar 2) (d2 dAdd (dVar 3) (dVar 5))) (aCons (dCall F_product_in 2 (aCons (dVar 4) (aCons (dVar 6) aNil))) aNil))) (dVar 2) (d2 dAdd (dVar 3) (dVar 5))))) (sRet (dCall F_without_end 1 (aCons (dVar 2) aNil)))))
def F_times_in : FN := runF 7 b_times_in
def b_value_in : Fst := (sSeq (sSet 2 (dC c_ZERO)) (sSeq (sFor (iD (dRev (dVar 0))) (.nm 3) (sSet 2 (dCall F_sum_in 2 (aCons (dCall F_product_in 2 (aCons (dVar 2) (aCons (dVar 1) aNil))) (aCons (dVar 3) aNil))))) (sRet (dVar 2))))
def F_value_in : FN := runF 4 b_value_in
def b_derived_in : Fst := (sRet (dCall F_without_end 1 (aCons (dSlice (dLc (iEn (aCons (dVar 0) aNil)) (.tp (.cons (.nm 1) (.cons (.nm 2) .nil))) fYes (dCall F_product_in 2 (aCons (dVar 2) (aCons (mkTup (aCons (dVar 1) (aCons (dC (.int 1)) aNil))) aNil))) [1, 2]) (oSome (dC (.int 1))) oNone) aNil)))
def F_derived_in : FN := runF 3 b_derived_in
def b_poly_sum : Fst := (sSeq (sAsg (.tp (.cons (.nm 2) (.cons (.nm 3) .nil))) (dCall F_both_polys 2 (aCons (dVar 0) (aCons (dVar 1) aNil)))) (sRet (dCall F_added_in 2 (aCons (dVar 2) (aCons (dVar 3) aNil)))))
def F_poly_sum : FN := runF 4 b_poly_sum
def b_poly_less : Fst := (sSeq (sAsg (.tp (.cons (.nm 2) (.cons (.nm 3) .nil))) (dCall F_both_polys 2 (aCons (dVar 0) (aCons (dVar 1) aNil)))) (sRet (dCall F_taken_in 2 (aCons (dVar 2) (aCons (dVar 3) aNil)))))
def F_poly_less : FN := runF 4 b_poly_less
def b_poly_product : Fst := (sSeq (sAsg (.tp (.cons (.nm 2) (.cons (.nm 3) .nil))) (dCall F_both_polys 2 (aCons (dVar 0) (aCons (dVar 1) aNil)))) (sSeq (sIf (fAnd (fB (d2 dNe (dVar 2) (mkTup aNil))) (fAnd (fB (d2 dNe (dVar 3) (mkTup aNil))) (fB (d2 dGt (d2 dSub (d2 dAdd (dN nLen (aCons (dVar 2) aNil)) (dN nLen (aCons (dVar 3) aNil))) (dC (.int 2))) (dC c_MAX_DEGREE))))) sNo sNil) (sRet (dCall F_times_in 2 (aCons (dVar 2) (aCons (dVar 3) aNil))))))
def F_poly_product : FN := runF 4 b_poly_product
def b_poly_value : Fst := (sSeq (sSet 2 (dCall F_poly_told 1 (aCons (dVar 0) aNil))) (sSeq (sExpr (dCall F_require_number 1 (aCons (dVar 1) aNil))) (sRet (dCall F_value_in 2 (aCons (dVar 2) (aCons (dCall F_pair_of 1 (aCons (dVar 1) aNil)) aNil))))))
def F_poly_value : FN := runF 3 b_poly_value
def b_derived : Fst := (sRet (dCall F_derived_in 1 (aCons (dCall F_poly_told 1 (aCons (dVar 0) aNil)) aNil)))
def F_derived : FN := runF 1 b_derived
def b__law_dice : Fst := (sSeq (sSet 2 (dIf (fB (d2 dLt (dVar 1) (dN nLen (aCons (dVar 0) aNil)))) (dN nInt (aCons (d2 dAt (dVar 0) (dVar 1)) aNil)) (d2 dAdd (d2 dMul (dC (.int 89)) (dVar 1)) (dC (.int 53))))) (sSeq (sSet 3 (d2 dMod (dN nMax2 (aCons (dC (.int 0)) (aCons (d2 dSub (dN nAbs (aCons (dVar 2) aNil)) (d2 dPow (dC (.int 10)) (dC (.int 16)))) aNil))) (d2 dMul (d2 dPow (dC (.int 10)) (dC (.int 56))) (d2 dPow (dC (.int 10)) (dC (.int 60)))))) (sRet (mkLst (aCons (dVar 3) (aCons (d2 dAdd (d2 dAdd (d2 dAdd (d2 dMul (d2 dMod (dN nAbs (aCons (dVar 2) aNil)) (dC (.int 1152921504606846869))) (dC (.int 61))) (d2 dMul (dC (.int 1009)) (dVar 1))) (d2 dMul (dC (.int 43)) (dN nInt (aCons (d2 dLt (dVar 2) (dC (.int 0))) aNil)))) (dC (.int 17))) (aCons (dC (.int 0)) aNil)))))))
def F__law_dice : FN := runF 4 b__law_dice
def b__law_roll : Fst := (sSeq (sIf (fB (d2 dGt (d2 dAt (dVar 0) (dC (.int 0))) (dC (.int 0)))) (sSeq (sSet 2 (d2 dMod (dN nInt (aCons (d2 dAt (dVar 0) (dC (.int 0))) aNil)) (dVar 1))) (sSeq (sPut (d2 dFdiv (d2 dAt (dVar 0) (dC (.int 0))) (dVar 1)) (dVar 0) (dC (.int 0))) (sRet (dVar 2)))) sNil) (sSeq (sPut (d2 dAdd (d2 dAt (dVar 0) (dC (.int 2))) (dC (.int 1))) (dVar 0) (dC (.int 2))) (sSeq (sSet 3 (d2 dMod (dN nInt (aCons (d2 dAdd (d2 dAt (dVar 0) (dC (.int 1))) (d2 dMul (dC (.int 99990067)) (d2 dAt (dVar 0) (dC (.int 2))))) aNil)) (dC (.int 2305843009213693381)))) (sSeq (sSet 4 (d2 dAdd (d2 dMul (d2 dMod (dN nInt (aCons (d2 dAdd (d2 dMul (dVar 3) (dVar 3)) (d2 dMul (dC (.int 89)) (d2 dAt (dVar 0) (dC (.int 2))))) aNil)) (dC (.int 2305843009213693343))) (dC (.int 8675309))) (dVar 3))) (sRet (d2 dMod (dN nInt (aCons (d2 dFdiv (dVar 4) (dC (.int 65551))) aNil)) (dVar 1)))))))
def F__law_roll : FN := runF 5 b__law_roll
def b__law_gcd : Fst := (sSeq (sPar 0 1 (aCons (dN nAbs (aCons (dVar 0) aNil)) (aCons (dN nAbs (aCons (dVar 1) aNil)) aNil))) (sSeq (sWhile (fB (d2 dGt (dVar 1) (dC (.int 0)))) (sPar 0 1 (aCons (dVar 1) (aCons (d2 dMod (dN nInt (aCons (dVar 0) aNil)) (dVar 1)) aNil)))) (sRet (dVar 0))))
def F__law_gcd : FN := runF 2 b__law_gcd
def b__law_fraction : Fst := (sSeq (sSet 2 (dCall F__law_gcd 2 (aCons (dVar 0) (aCons (dVar 1) aNil)))) (sSeq (sIf (fB (d2 dLt (dVar 1) (dC (.int 0)))) (sSet 2 (dNeg (dVar 2))) sNil) (sRet (mkTup (aCons (d2 dFdiv (dVar 0) (dVar 2)) (aCons (d2 dFdiv (dVar 1) (dVar 2)) aNil))))))
def F__law_fraction : FN := runF 3 b__law_fraction
def b__law_plus : Fst := (sRet (dCall F__law_fraction 2 (aCons (d2 dAdd (d2 dMul (d2 dAt (dVar 0) (dC (.int 0))) (d2 dAt (dVar 1) (dC (.int 1)))) (d2 dMul (d2 dAt (dVar 1) (dC (.int 0))) (d2 dAt (dVar 0) (dC (.int 1))))) (aCons (d2 dMul (d2 dAt (dVar 0) (dC (.int 1))) (d2 dAt (dVar 1) (dC (.int 1)))) aNil))))
def F__law_plus : FN := runF 2 b__law_plus
def b__law_times : Fst := (sRet (dCall F__law_fraction 2 (aCons (d2 dMul (d2 dAt (dVar 0) (dC (.int 0))) (d2 dAt (dVar 1) (dC (.int 0)))) (aCons (d2 dMul (d2 dAt (dVar 0) (dC (.int 1))) (d2 dAt (dVar 1) (dC (.int 1)))) aNil))))
def F__law_times : FN := runF 2 b__law_times
def b__law_less : Fst := (sRet (dCall F__law_plus 2 (aCons (dVar 0) (aCons (mkTup (aCons (d2 dSub (dC (.int 0)) (d2 dAt (dVar 1) (dC (.int 0)))) (aCons (d2 dAt (dVar 1) (dC (.int 1))) aNil))) aNil))))
def F__law_less : FN := runF 2 b__law_less
def b__law_py_made : Fst := (sSeq (sSet 1 (dN nList (aCons (dVar 0) aNil))) (sSeq (sWhile (fAnd (fB (d2 dNe (dVar 1) (mkLst aNil))) (fB (d2 dEq (d2 dAt (d2 dAt (dVar 1) (dNeg (dC (.int 1)))) (dC (.int 0))) (dC (.int 0))))) (sExpr (dML0 mPop (dVar 1)))) (sRet (dN nTuple (aCons (dVar 1) aNil)))))
def F__law_py_made : FN := runF 2 b__law_py_made
def b__law_py_pairs : Fst := (sRet (dN nTuple (aCons (dLc (iD (dVar 0)) (.nm 1) fYes (dIf (fTru (dIsi .tuple (dVar 1))) (dVar 1) (mkTup (aCons (dVar 1) (aCons (dC (.int 1)) aNil)))) [1]) aNil)))
def F__law_py_pairs : FN := runF 2 b__law_py_pairs
def b__law_py_sum : Fst := (sSeq (sSet 2 (dN nMax2 (aCons (dN nLen (aCons (dVar 0) aNil)) (aCons (dN nLen (aCons (dVar 1) aNil)) aNil)))) (sSeq (sSet 3 (d2 dAdd (dN nList (aCons (dVar 0) aNil)) (d2 dMul (mkLst (aCons (mkTup (aCons (dC (.int 0)) (aCons (dC (.int 1)) aNil))) aNil)) (d2 dSub (dVar 2) (dN nLen (aCons (dVar 0) aNil)))))) (sSeq (sSet 4 (d2 dAdd (dN nList (aCons (dVar 1) aNil)) (d2 dMul (mkLst (aCons (mkTup (aCons (dC (.int 0)) (aCons (dC (.int 1)) aNil))) aNil)) (d2 dSub (dVar 2) (dN nLen (aCons (dVar 1) aNil)))))) (sRet (dCall F__law_py_made 1 (aCons (dLc (iZp (aCons (dVar 3) (aCons (dVar 4) aNil))) (.tp (.cons (.nm 5) (.cons (.nm 6) .nil))) fYes (dCall F__law_plus 2 (aCons (dVar 5) (aCons (dVar 6) aNil))) [5, 6]) aNil))))))
def F__law_py_sum : FN := runF 7 b__law_py_sum
def b__law_py_times : Fst := (sSeq (sSet 2 (d2 dMul (mkLst (aCons (mkTup (aCons (dC (.int 0)) (aCons (dC (.int 1)) aNil))) aNil)) (d2 dAdd (dN nLen (aCons (dVar 0) aNil)) (dN nLen (aCons (dVar 1) aNil))))) (sSeq (sFor (iEn (aCons (dVar 0) aNil)) (.tp (.cons (.nm 3) (.cons (.nm 4) .nil))) (sFor (iEn (aCons (dVar 1) aNil)) (.tp (.cons (.nm 5) (.cons (.nm 6) .nil))) (sPut (dCall F__law_plus 2 (aCons (d2 dAt (dVar 2) (d2 dAdd (dVar 3) (dVar 5))) (aCons (dCall F__law_times 2 (aCons (dVar 4) (aCons (dVar 6) aNil))) aNil))) (dVar 2) (d2 dAdd (dVar 3) (dVar 5))))) (sRet (dCall F__law_py_made 1 (aCons (dVar 2) aNil)))))
def F__law_py_times : FN := runF 7 b__law_py_times
def b__law_py_back : Fst := (sRet (dN nTuple (aCons (dLc (iD (dVar 0)) (.nm 1) fYes (mkTup (aCons (d2 dSub (dC (.int 0)) (d2 dAt (dVar 1) (dC (.int 0)))) (aCons (d2 dAt (dVar 1) (dC (.int 1))) aNil))) [1]) aNil)))
def F__law_py_back : FN := runF 2 b__law_py_back
def b__law_py_value : Fst := (sSeq (sSet 2 (mkTup (aCons (dC (.int 0)) (aCons (dC (.int 1)) aNil)))) (sSeq (sFor (iD (dRev (dVar 0))) (.nm 3) (sSet 2 (dCall F__law_plus 2 (aCons (dCall F__law_times 2 (aCons (dVar 2) (aCons (dVar 1) aNil))) (aCons (dVar 3) aNil))))) (sRet (dVar 2))))
def F__law_py_value : FN := runF 4 b__law_py_value
def b__law_py_number : Fst := (sSeq (sSet 1 (dCall F__law_roll 2 (aCons (dVar 0) (aCons (dC (.int 8)) aNil)))) (sSeq (sIf (fB (d2 dLt (dVar 1) (dC (.int 4)))) (sRet (d2 dSub (dCall F__law_roll 2 (aCons (dVar 0) (aCons (dC (.int 9)) aNil))) (dC (.int 4)))) sNil) (sSeq (sIf (fB (d2 dEq (dVar 1) (dC (.int 7)))) (sRet (d2 dSub (dCall F__law_roll 2 (aCons (dVar 0) (aCons (d2 dPow (dC (.int 10)) (dC (.int 30))) aNil))) (d2 dPow (dC (.int 10)) (dC (.int 29))))) sNil) (sSeq (sSet 2 (dCall F__law_fraction 2 (aCons (d2 dSub (dCall F__law_roll 2 (aCons (dVar 0) (aCons (dC (.int 41)) aNil))) (dC (.int 20))) (aCons (d2 dAdd (dC (.int 1)) (dCall F__law_roll 2 (aCons (dVar 0) (aCons (dC (.int 12)) aNil)))) aNil)))) (sRet (dIf (fAnd (fB (d2 dEq (d2 dAt (dVar 2) (dC (.int 1))) (dC (.int 1)))) (fB (d2 dEq (dVar 1) (dC (.int 4))))) (d2 dAt (dVar 2) (dC (.int 0))) (dVar 2)))))))
def F__law_py_number : FN := runF 3 b__law_py_number
def b__law_py_drawn : Fst := (sSeq (sSet 2 (dLc (iR1 (aCons (dCall F__law_roll 2 (aCons (dVar 0) (aCons (d2 dAdd (dVar 1) (dC (.int 2))) aNil))) aNil)) (.nm 3) fYes (dCall F__law_py_number 1 (aCons (dVar 0) aNil)) [3])) (sSeq (sWhile (fAnd (fB (d2 dNe (dVar 2) (mkLst aNil))) (fB (d2 dIn (d2 dAt (dVar 2) (dNeg (dC (.int 1)))) (mkTup (aCons (dC (.int 0)) (aCons (mkTup (aCons (dC (.int 0)) (aCons (dC (.int 1)) aNil))) aNil)))))) (sExpr (dML0 mPop (dVar 2)))) (sRet (dN nTuple (aCons (dVar 2) aNil)))))
def F__law_py_drawn : FN := runF 4 b__law_py_drawn
def b__law_derived : Fst := (sRet (dCall F__law_py_made 1 (aCons (dLc (iEn (aCons (dVar 0) aNil)) (.tp (.cons (.nm 1) (.cons (.nm 2) .nil))) (fB (d2 dGt (dVar 1) (dC (.int 0)))) (dCall F__law_times 2 (aCons (dVar 2) (aCons (mkTup (aCons (dVar 1) (aCons (dC (.int 1)) aNil))) aNil))) [1, 2]) aNil)))
def F__law_derived : FN := runF 3 b__law_derived
def b__law_right : Fst := (sSeq (sPar 1 2 (aCons (dCall F__law_py_drawn 2 (aCons (dVar 0) (aCons (dC (.int 8)) aNil))) (aCons (dCall F__law_py_drawn 2 (aCons (dVar 0) (aCons (dC (.int 8)) aNil))) aNil))) (sSeq (sPar 3 4 (aCons (dCall F__law_py_pairs 1 (aCons (dVar 1) aNil)) (aCons (dCall F__law_py_pairs 1 (aCons (dVar 2) aNil)) aNil))) (sSeq (sPar3 5 6 7 (aCons (dCall F_poly_sum 2 (aCons (dVar 1) (aCons (dVar 2) aNil))) (aCons (dCall F_poly_less 2 (aCons (dVar 1) (aCons (dVar 2) aNil))) (aCons (dCall F_poly_product 2 (aCons (dVar 1) (aCons (dVar 2) aNil))) aNil)))) (sSeq (sIf (fOr (fB (d2 dNe (dVar 5) (dCall F__law_py_sum 2 (aCons (dVar 3) (aCons (dVar 4) aNil))))) (fB (d2 dNe (dVar 6) (dCall F__law_py_sum 2 (aCons (dVar 3) (aCons (dCall F__law_py_back 1 (aCons (dVar 4) aNil)) aNil)))))) (sRet (dC (.bl false))) sNil) (sSeq (sIf (fOr (fB (d2 dNe (dVar 7) (dCall F__law_py_times 2 (aCons (dVar 3) (aCons (dVar 4) aNil))))) (fOr (fB (d2 dNe (dCall F_poly_product 2 (aCons (dVar 2) (aCons (dVar 1) aNil))) (dVar 7))) (fB (d2 dNe (dCall F_poly_sum 2 (aCons (dVar 2) (aCons (dVar 1) aNil))) (dVar 5))))) (sRet (dC (.bl false))) sNil) (sSeq (sSet 8 (dCall F__law_py_number 1 (aCons (dVar 0) aNil))) (sSeq (sSet 9 (dIf (fTru (dIsi .tuple (dVar 8))) (dVar 8) (mkTup (aCons (dVar 8) (aCons (dC (.int 1)) aNil))))) (sSeq (sPar 10 11 (aCons (dCall F_poly_value 2 (aCons (dVar 1) (aCons (dVar 8) aNil))) (aCons (dCall F_poly_value 2 (aCons (dVar 2) (aCons (dVar 8) aNil))) aNil))) (sSeq (sIf (fOr (fB (d2 dNe (dVar 10) (dCall F__law_py_value 2 (aCons (dVar 3) (aCons (dVar 9) aNil))))) (fB (d2 dNe (dCall F_poly_value 2 (aCons (dVar 5) (aCons (dVar 8) aNil))) (dCall F__law_plus 2 (aCons (dVar 10) (aCons (dVar 11) aNil)))))) (sRet (dC (.bl false))) sNil) (sSeq (sIf (fOr (fB (d2 dNe (dCall F_poly_value 2 (aCons (dVar 7) (aCons (dVar 8) aNil))) (dCall F__law_times 2 (aCons (dVar 10) (aCons (dVar 11) aNil))))) (fB (d2 dNe (dCall F_poly_value 2 (aCons (dVar 6) (aCons (dVar 8) aNil))) (dCall F__law_less 2 (aCons (dVar 10) (aCons (dVar 11) aNil)))))) (sRet (dC (.bl false))) sNil) (sSeq (sIf (fB (d2 dNe (dCall F_derived 1 (aCons (dVar 1) aNil)) (dCall F__law_derived 1 (aCons (dVar 3) aNil)))) (sRet (dC (.bl false))) sNil) (sSeq (sSet 12 (dCall F__law_py_sum 2 (aCons (dCall F__law_py_times 2 (aCons (dCall F_derived 1 (aCons (dVar 1) aNil)) (aCons (dVar 4) aNil))) (aCons (dCall F__law_py_times 2 (aCons (dVar 3) (aCons (dCall F_derived 1 (aCons (dVar 2) aNil)) aNil))) aNil)))) (sRet (dAnd (d2 dEq (dCall F_derived 1 (aCons (dVar 7) aNil)) (dVar 12)) (dAnd (dCall F_is_poly 1 (aCons (dVar 1) aNil)) (dAnd (dCall F_is_poly 1 (aCons (dVar 7) aNil)) (d2 dEq (dCall F_poly_less 2 (aCons (dVar 1) (aCons (dVar 1) aNil))) (mkTup aNil))))))))))))))))))
def F__law_right : FN := runF 13 b__law_right
def b__law_judged_right : Fst := (sSeq (sSet 1 (d2 dAdd (dCall F__law_py_drawn 2 (aCons (dVar 0) (aCons (dC (.int 6)) aNil))) (mkTup (aCons (dC (.int 1)) aNil)))) (sSeq (sSet 2 (dCall F__law_roll 2 (aCons (dVar 0) (aCons (dN nLen (aCons (dVar 1) aNil)) aNil)))) (sSeq (sSet 3 (mkLst (aCons (dVar 1) (aCons (dCall F__law_py_pairs 1 (aCons (dVar 1) aNil)) (aCons (mkTup aNil) (aCons (d2 dAdd (dVar 1) (mkTup (aCons (dC (.int 0)) aNil))) (aCons (d2 dAdd (dVar 1) (mkTup (aCons (mkTup (aCons (dC (.int 0)) (aCons (dC (.int 1)) aNil))) aNil))) (aCons (dN nList (aCons (dVar 1) aNil)) (aCons (dC .non) (aCons (dC (.int 3)) (aCons (dC (.str "x")) (aCons dEmpty (aCons (mkTup (aCons (dC (.int 0)) aNil)) (aCons (mkTup (aCons (dC (.bl true)) aNil)) (aCons (mkTup (aCons (mkTup (aCons (dC (.int 2)) (aCons (dC (.int 4)) aNil))) aNil)) (aCons (mkTup (aCons (mkTup (aCons (dC (.int 1)) (aCons (dC (.int 0)) aNil))) aNil)) aNil)))))))))))))))) (sSeq (sSet 3 (d2 dAdd (dVar 3) (mkLst (aCons (d2 dAdd (d2 dAdd (dSlice (dVar 1) oNone (oSome (dVar 2))) (mkTup (aCons (dC .non) aNil))) (dSlice (dVar 1) (oSome (d2 dAdd (dVar 2) (dC (.int 1)))) oNone)) (aCons (d2 dAdd (d2 dAdd (dSlice (dVar 1) oNone (oSome (dVar 2))) (mkTup (aCons (dC (.str "1")) aNil))) (dSlice (dVar 1) (oSome (d2 dAdd (dVar 2) (dC (.int 1)))) oNone)) (aCons (d2 dMul (mkTup (aCons (dC (.int 1)) aNil)) (dC (.int 41))) (aCons (d2 dMul (mkTup (aCons (dC (.int 1)) aNil)) (dC (.int 42))) (aCons (mkTup (aCons (mkTup (aCons (dC (.int 1)) (aCons (dC (.int 2)) (aCons (dC (.int 3)) aNil)))) aNil)) (aCons (mkTup (aCons (mkLst (aCons (dC (.int 1)) (aCons (dC (.int 2)) aNil))) aNil)) aNil))))))))) (sSeq (sSet 3 (d2 dAdd (dVar 3) (mkLst (aCons (d2 dAdd (d2 dAdd (dSlice (dVar 1) oNone (oSome (dVar 2))) (mkTup (aCons (mkTup (aCons (dC (.int 1)) (aCons (dNeg (dC (.int 2))) aNil))) aNil))) (dSlice (dVar 1) (oSome (d2 dAdd (dVar 2) (dC (.int 1)))) oNone)) (aCons (mkTup (aCons (d2 dPow (dC (.int 10)) (dC (.int 60))) aNil)) (aCons (mkTup (aCons (d2 dSub (d2 dPow (dC (.int 10)) (dC (.int 60))) (dC (.int 1))) aNil)) (aCons (mkTup (aCons (mkTup (aCons (d2 dPow (dC (.int 10)) (dC (.int 60))) (aCons (dC (.int 1)) aNil))) aNil)) aNil))))))) (sSeq (sSet 4 (mkLst (aCons (dC (.bl true)) (aCons (dC (.bl true)) (aCons (dC (.bl true)) (aCons (dC (.bl false)) (aCons (dC (.bl false)) (aCons (dC (.bl false)) (aCons (dC (.bl false)) (aCons (dC (.bl false)) (aCons (dC (.bl false)) (aCons (dC (.bl false)) (aCons (dC (.bl false)) (aCons (dC (.bl false)) (aCons (dC (.bl false)) (aCons (dC (.bl false)) aNil)))))))))))))))) (sSeq (sSet 4 (d2 dAdd (dVar 4) (mkLst (aCons (dC (.bl false)) (aCons (dC (.bl false)) (aCons (dC (.bl true)) (aCons (dC (.bl false)) (aCons (dC (.bl false)) (aCons (dC (.bl false)) (aCons (dC (.bl false)) (aCons (dC (.bl false)) (aCons (dC (.bl true)) (aCons (dC (.bl true)) aNil))))))))))))) (sRet (d2 dEq (dLc (iD (dVar 3)) (.nm 5) fYes (dCall F_is_poly 1 (aCons (dVar 5) aNil)) [5]) (dVar 4))))))))))
def F__law_judged_right : FN := runF 6 b__law_judged_right
def b_law : Fst := (sSeq (sFor (iR1 (aCons (dN nMax2 (aCons (dC (.int 1)) (aCons (dN nMin2 (aCons (dC (.int 3)) (aCons (dN nLen (aCons (dVar 0) aNil)) aNil))) aNil))) aNil)) (.nm 1) (sSeq (sSet 2 (dCall F__law_dice 2 (aCons (dVar 0) (aCons (dVar 1) aNil)))) (sIf (fOr (fNot (fTru (dCall F__law_right 1 (aCons (dVar 2) aNil)))) (fOr (fNot (fTru (dCall F__law_right 1 (aCons (dVar 2) aNil)))) (fOr (fNot (fTru (dCall F__law_right 1 (aCons (dVar 2) aNil)))) (fNot (fTru (dCall F__law_judged_right 1 (aCons (dVar 2) aNil))))))) (sRet (dC (.bl false))) sNil))) (sSeq (sSet 3 (mkLst (aCons (dCall F_poly_sum 2 (aCons (mkTup (aCons (dNeg (dC (.int 2))) (aCons (dC (.int 1)) (aCons (dC (.int 1)) aNil)))) (aCons (mkTup (aCons (dC (.int 2)) (aCons (dNeg (dC (.int 1))) aNil))) aNil))) (aCons (dCall F_poly_product 2 (aCons (mkTup (aCons (dNeg (dC (.int 2))) (aCons (dC (.int 1)) (aCons (dC (.int 1)) aNil)))) (aCons (mkTup (aCons (dC (.int 0)) (aCons (mkTup (aCons (dC (.int 1)) (aCons (dC (.int 2)) aNil))) aNil))) aNil))) (aCons (dCall F_derived 1 (aCons (mkTup (aCons (dNeg (dC (.int 2))) (aCons (dC (.int 1)) (aCons (dC (.int 1)) aNil)))) aNil)) (aCons (dCall F_derived 1 (aCons (mkTup (aCons (dC (.int 5)) aNil)) aNil)) (aCons (dCall F_poly_sum 2 (aCons (mkTup aNil) (aCons (mkTup aNil) aNil))) aNil))))))) (sSeq (sIf (fB (d2 dNe (dVar 3) (mkLst (aCons (mkTup (aCons (mkTup (aCons (dC (.int 0)) (aCons (dC (.int 1)) aNil))) (aCons (mkTup (aCons (dC (.int 0)) (aCons (dC (.int 1)) aNil))) (aCons (mkTup (aCons (dC (.int 1)) (aCons (dC (.int 1)) aNil))) aNil)))) (aCons (mkTup (aCons (mkTup (aCons (dC (.int 0)) (aCons (dC (.int 1)) aNil))) (aCons (mkTup (aCons (dNeg (dC (.int 1))) (aCons (dC (.int 1)) aNil))) (aCons (mkTup (aCons (dC (.int 1)) (aCons (dC (.int 2)) aNil))) (aCons (mkTup (aCons (dC (.int 1)) (aCons (dC (.int 2)) aNil))) aNil))))) (aCons (mkTup (aCons (mkTup (aCons (dC (.int 1)) (aCons (dC (.int 1)) aNil))) (aCons (mkTup (aCons (dC (.int 2)) (aCons (dC (.int 1)) aNil))) aNil))) (aCons (mkTup aNil) (aCons (mkTup aNil) aNil)))))))) (sRet (dC (.bl false))) sNil) (sRet (d2 dEq (mkLst (aCons (dCall F_poly_value 2 (aCons (mkTup (aCons (dNeg (dC (.int 2))) (aCons (dC (.int 1)) (aCons (dC (.int 1)) aNil)))) (aCons (mkTup (aCons (dC (.int 1)) (aCons (dC (.int 2)) aNil))) aNil))) (aCons (dCall F_poly_value 2 (aCons (mkTup aNil) (aCons (dC (.int 7)) aNil))) (aCons (dCall F_poly_product 2 (aCons (mkTup aNil) (aCons (mkTup (aCons (dC (.int 1)) (aCons (dC (.int 1)) aNil))) aNil))) aNil)))) (mkLst (aCons (mkTup (aCons (dNeg (dC (.int 5))) (aCons (dC (.int 4)) aNil))) (aCons (mkTup (aCons (dC (.int 0)) (aCons (dC (.int 1)) aNil))) (aCons (mkTup aNil) aNil)))))))))
def F_law : FN := runF 4 b_law
/-! ### each def does it -/
theorem sc_is_whole : FnScope ["value"] ["value"] (defScope st_is_whole) := ⟨rfl, rfl, rfl, by decide +kernel, rfl, by decide +kernel, by decide +kernel⟩
theorem kn_is_whole {P : Program} {w : World} {mg : Str → Option Value} {base : Heap} {M : Md} (m : Mo mg M) : Kn P w mg base M "is_whole" 1 1 F_is_whole := by
  obtain ⟨f, fd, F, hm⟩ := m.d_is_whole
  exact kn_of (k := 0) F sc_is_whole hm (F.bindsN fun _ _ _ _ _ _ us hl => match us, hl with | [_], _ => rfl) fun cdv A outer s H E hr => (mss_one (ms_ret (me_and (me_isi rfl m.f_isinstance m.f_int rfl (by decide) me_var) (me_one (me_not (me_isi rfl m.f_isinstance m.f_bool rfl (by decide) me_var))))))
theorem sc_is_integer : FnScope ["value"] ["value"] (defScope st_is_integer) := ⟨rfl, rfl, rfl, by decide +kernel, rfl, by decide +kernel, by decide +kernel⟩
theorem kn_is_integer {P : Program} {w : World} {mg : Str → Option Value} {base : Heap} {M : Md} (m : Mo mg M) : Kn P w mg base M "is_integer" 2 1 F_is_integer := by
  obtain ⟨f, fd, F, hm⟩ := m.d_is_integer
  exact kn_of (k := 1) F sc_is_integer hm (F.bindsN fun _ _ _ _ _ _ us hl => match us, hl with | [_], _ => rfl) fun cdv A outer s H E hr => (mss_one (ms_ret (me_and (me_call rfl (takes_of rfl rfl rfl rfl) (kn_is_whole m) hr (ma_cons me_var ma_nil)) (me_one (me_chain op_lt o2_ib op_lt o2_ib (me_neg (me_con m.g_BOUND (by rfl))) me_var (me_con m.g_BOUND (by rfl)))))))
theorem sc_is_fraction : FnScope ["value", "entry"] ["value"] (defScope st_is_fraction) := ⟨rfl, rfl, rfl, by decide +kernel, rfl, by decide +kernel, by decide +kernel⟩
theorem kn_is_fraction {P : Program} {w : World} {mg : Str → Option Value} {base : Heap} {M : Md} (m : Mo mg M) : Kn P w mg base M "is_fraction" 2 1 F_is_fraction := by
  obtain ⟨f, fd, F, hm⟩ := m.d_is_fraction
  exact kn_of (k := 1) F sc_is_fraction hm (F.bindsN fun _ _ _ _ _ _ us hl => match us, hl with | [_], _ => rfl) fun cdv A outer s H E hr => (mss_cons (ms_if (PW.pt (mw_or (mt_not (mt_tru rfl (me_isi rfl m.f_isinstance m.f_tuple rfl (by decide) me_var))) (mw_or (mt_cmp (op_neD hr.units) o2_ne (me_callB call_len on_len (by rfl) m.f_len boot_len (ma_cons me_var ma_nil)) me_int (nobehind _ (by decide) (by decide))) (mw_or1 (mt_not (mt_tru rfl (me_callB (cr_all rfl) on_all (by rfl) m.f_all boot_all (ma_cons (me_lc (own := [("entry", 1)]) rfl rfl sc_is_fraction.nd (mi_d rfl me_var) (by first | rfl | decide +kernel) (fun _ _ _ _ _ => (mg_nm sc_is_fraction.nd)) (fun _ _ _ _ _ => mts_nil) (fun _ _ _ _ _ => (me_call rfl L2.takes0 (kn_is_whole m) hr (ma_cons me_var ma_nil)))) ma_nil)))))))) (mss_one (ms_ret me_bl)) mss_nil) (mss_one (ms_ret (me_and (me_cmp op_ge o2_ib (me_ix ix_seq o2_at me_var me_int (fun _ _ => rfl)) me_int (nobehind _ (by decide) (by decide))) (me_one (me_cmp (op_eqD hr.units) o2_eq (me_callBfun cr_gcd on_gcd m.g_gcd (ma_cons (me_ix ix_seq o2_at me_var me_int (fun _ _ => rfl)) (ma_cons (me_ix ix_seq o2_at me_var me_int (fun _ _ => rfl)) ma_nil))) me_int (nobehind _ (by decide) (by decide))))))))
theorem sc_is_number : FnScope ["value"] ["value"] (defScope st_is_number) := ⟨rfl, rfl, rfl, by decide +kernel, rfl, by decide +kernel, by decide +kernel⟩
theorem kn_is_number {P : Program} {w : World} {mg : Str → Option Value} {base : Heap} {M : Md} (m : Mo mg M) : Kn P w mg base M "is_number" 3 1 F_is_number := by
  obtain ⟨f, fd, F, hm⟩ := m.d_is_number
  exact kn_of (k := 2) F sc_is_number hm (F.bindsN fun _ _ _ _ _ _ us hl => match us, hl with | [_], _ => rfl) fun cdv A outer s H E hr => (mss_one (ms_ret (me_or (me_call rfl (takes_of rfl rfl rfl rfl) (kn_is_integer m) hr (ma_cons me_var ma_nil)) (me_one (me_call rfl (takes_of rfl rfl rfl rfl) (kn_is_fraction m) hr (ma_cons me_var ma_nil))))))
theorem sc_require_number : FnScope ["value"] ["value"] (defScope st_require_number) := ⟨rfl, rfl, rfl, by decide +kernel, rfl, by decide +kernel, by decide +kernel⟩
theorem kn_require_number {P : Program} {w : World} {mg : Str → Option Value} {base : Heap} {M : Md} (m : Mo mg M) : Kn P w mg base M "require_number" 4 1 F_require_number := by
  obtain ⟨f, fd, F, hm⟩ := m.d_require_number
  exact kn_of (k := 3) F sc_require_number hm (F.bindsN fun _ _ _ _ _ _ us hl => match us, hl with | [_], _ => rfl) fun cdv A outer s H E hr => (mss_one (ms_if (mt_not (mt_tru rfl (me_call rfl (takes_of rfl rfl rfl rfl) (kn_is_number m) hr (ma_cons me_var ma_nil)))) (mss_one ms_no) mss_nil))
theorem sc_fraction_in : FnScope ["top", "bottom", "share"] ["top", "bottom"] (defScope st_fraction_in) := ⟨rfl, rfl, rfl, by decide +kernel, rfl, by decide +kernel, by decide +kernel⟩
theorem kn_fraction_in {P : Program} {w : World} {mg : Str → Option Value} {base : Heap} {M : Md} (m : Mo mg M) : Kn P w mg base M "fraction_in" 1 2 F_fraction_in := by
  obtain ⟨f, fd, F, hm⟩ := m.d_fraction_in
  exact kn_of (k := 0) F sc_fraction_in hm (F.bindsN fun _ _ _ _ _ _ us hl => match us, hl with | [_, _], _ => rfl) fun cdv A outer s H E hr => (mss_cons (ms_set sc_fraction_in.nd (me_if (mt_cmp op_gt o2_ib me_var me_int (nobehind _ (by decide) (by decide))) (me_callBfun cr_gcd on_gcd m.g_gcd (ma_cons me_var (ma_cons me_var ma_nil))) (me_neg (me_callBfun cr_gcd on_gcd m.g_gcd (ma_cons me_var (ma_cons me_var ma_nil)))))) (mss_one (ms_ret (me_tup (ma_cons (me_bin op_fdivD o2_fdiv me_var me_var) (ma_cons (me_bin op_fdivD o2_fdiv me_var me_var) ma_nil))))))
theorem sc_pair_of : FnScope ["number"] ["number"] (defScope st_pair_of) := ⟨rfl, rfl, rfl, by decide +kernel, rfl, by decide +kernel, by decide +kernel⟩
theorem kn_pair_of {P : Program} {w : World} {mg : Str → Option Value} {base : Heap} {M : Md} (m : Mo mg M) : Kn P w mg base M "pair_of" 1 1 F_pair_of := by
  obtain ⟨f, fd, F, hm⟩ := m.d_pair_of
  exact kn_of (k := 0) F sc_pair_of hm (F.bindsN fun _ _ _ _ _ _ us hl => match us, hl with | [_], _ => rfl) fun cdv A outer s H E hr => (mss_one (ms_ret (me_if (mt_tru rfl (me_isi rfl m.f_isinstance m.f_tuple rfl (by decide) me_var)) me_var (me_tup (ma_cons me_var (ma_cons me_int ma_nil))))))
theorem sc_sum_in : FnScope ["one", "other"] ["one", "other"] (defScope st_sum_in) := ⟨rfl, rfl, rfl, by decide +kernel, rfl, by decide +kernel, by decide +kernel⟩
theorem kn_sum_in {P : Program} {w : World} {mg : Str → Option Value} {base : Heap} {M : Md} (m : Mo mg M) : Kn P w mg base M "sum_in" 2 2 F_sum_in := by
  obtain ⟨f, fd, F, hm⟩ := m.d_sum_in
  exact kn_of (k := 1) F sc_sum_in hm (F.bindsN fun _ _ _ _ _ _ us hl => match us, hl with | [_, _], _ => rfl) fun cdv A outer s H E hr => (mss_cons (ms_if (PW.pt (mw_and (mt_cmp (op_eqD hr.units) o2_eq (me_ix ix_seq o2_at me_var me_int (fun _ _ => rfl)) me_int (nobehind _ (by decide) (by decide))) (mw_and1 (mt_cmp (op_eqD hr.units) o2_eq (me_ix ix_seq o2_at me_var me_int (fun _ _ => rfl)) me_int (nobehind _ (by decide) (by decide)))))) (mss_one (ms_ret (me_tup (ma_cons (me_bin op_addA o2_add (me_ix ix_seq o2_at me_var me_int (fun _ _ => rfl)) (me_ix ix_seq o2_at me_var me_int (fun _ _ => rfl))) (ma_cons me_int ma_nil))))) mss_nil) (mss_one (ms_ret (me_call rfl (takes_of rfl rfl rfl rfl) (kn_fraction_in m) hr (ma_cons (me_bin op_addA o2_add (me_bin op_mulA o2_mul (me_ix ix_seq o2_at me_var me_int (fun _ _ => rfl)) (me_ix ix_seq o2_at me_var me_int (fun _ _ => rfl))) (me_bin op_mulA o2_mul (me_ix ix_seq o2_at me_var me_int (fun _ _ => rfl)) (me_ix ix_seq o2_at me_var me_int (fun _ _ => rfl)))) (ma_cons (me_bin op_mulA o2_mul (me_ix ix_seq o2_at me_var me_int (fun _ _ => rfl)) (me_ix ix_seq o2_at me_var me_int (fun _ _ => rfl))) ma_nil))))))
theorem sc_product_in : FnScope ["one", "other"] ["one", "other"] (defScope st_product_in) := ⟨rfl, rfl, rfl, by decide +kernel, rfl, by decide +kernel, by decide +kernel⟩
theorem kn_product_in {P : Program} {w : World} {mg : Str → Option Value} {base : Heap} {M : Md} (m : Mo mg M) : Kn P w mg base M "product_in" 2 2 F_product_in := by
  obtain ⟨f, fd, F, hm⟩ := m.d_product_in
  exact kn_of (k := 1) F sc_product_in hm (F.bindsN fun _ _ _ _ _ _ us hl => match us, hl with | [_, _], _ => rfl) fun cdv A outer s H E hr => (mss_cons (ms_if (PW.pt (mw_and (mt_cmp (op_eqD hr.units) o2_eq (me_ix ix_seq o2_at me_var me_int (fun _ _ => rfl)) me_int (nobehind _ (by decide) (by decide))) (mw_and1 (mt_cmp (op_eqD hr.units) o2_eq (me_ix ix_seq o2_at me_var me_int (fun _ _ => rfl)) me_int (nobehind _ (by decide) (by decide)))))) (mss_one (ms_ret (me_tup (ma_cons (me_bin op_mulA o2_mul (me_ix ix_seq o2_at me_var me_int (fun _ _ => rfl)) (me_ix ix_seq o2_at me_var me_int (fun _ _ => rfl))) (ma_cons me_int ma_nil))))) mss_nil) (mss_one (ms_ret (me_call rfl (takes_of rfl rfl rfl rfl) (kn_fraction_in m) hr (ma_cons (me_bin op_mulA o2_mul (me_ix ix_seq o2_at me_var me_int (fun _ _ => rfl)) (me_ix ix_seq o2_at me_var me_int (fun _ _ => rfl))) (ma_cons (me_bin op_mulA o2_mul (me_ix ix_seq o2_at me_var me_int (fun _ _ => rfl)) (me_ix ix_seq o2_at me_var me_int (fun _ _ => rfl))) ma_nil))))))
theorem sc_is_poly : FnScope ["value", "entry"] ["value"] (defScope st_is_poly) := ⟨rfl, rfl, rfl, by decide +kernel, rfl, by decide +kernel, by decide +kernel⟩
theorem kn_is_poly {P : Program} {w : World} {mg : Str → Option Value} {base : Heap} {M : Md} (m : Mo mg M) : Kn P w mg base M "is_poly" 4 1 F_is_poly := by
  obtain ⟨f, fd, F, hm⟩ := m.d_is_poly
  exact kn_of (k := 3) F sc_is_poly hm (F.bindsN fun _ _ _ _ _ _ us hl => match us, hl with | [_], _ => rfl) fun cdv A outer s H E hr => (mss_cons (ms_if (PW.pt (mw_or (mt_not (mt_tru rfl (me_isi rfl m.f_isinstance m.f_tuple rfl (by decide) me_var))) (mw_or (mt_cmp op_gt o2_ib (me_callB call_len on_len (by rfl) m.f_len boot_len (ma_cons me_var ma_nil)) (me_bin op_addA o2_add (me_con m.g_MAX_DEGREE (by rfl)) me_int) (nobehind _ (by decide) (by decide))) (mw_or1 (mt_not (mt_tru rfl (me_callB (cr_all rfl) on_all (by rfl) m.f_all boot_all (ma_cons (me_lc (own := [("entry", 1)]) rfl rfl sc_is_poly.nd (mi_d rfl me_var) (by first | rfl | decide +kernel) (fun _ _ _ _ _ => (mg_nm sc_is_poly.nd)) (fun _ _ _ _ _ => mts_nil) (fun _ _ _ _ _ => (me_call rfl L2.takes0 (kn_is_number m) hr (ma_cons me_var ma_nil)))) ma_nil)))))))) (mss_one (ms_ret me_bl)) mss_nil) (mss_one (ms_ret (me_or (me_cmp (op_eqD hr.units) o2_eq me_var (me_tup ma_nil) (nobehind _ (by decide) (by decide))) (me_one (me_cmp (op_neD hr.units) o2_ne (me_ix ix_seq o2_at (me_call rfl (takes_of rfl rfl rfl rfl) (kn_pair_of m) hr (ma_cons (me_ix ix_seq o2_at me_var (me_neg me_int) (fun _ _ => rfl)) ma_nil)) me_int (fun _ _ => rfl)) me_int (nobehind _ (by decide) (by decide))))))))
theorem sc_poly_told : FnScope ["value", "entry"] ["value"] (defScope st_poly_told) := ⟨rfl, rfl, rfl, by decide +kernel, rfl, by decide +kernel, by decide +kernel⟩
theorem kn_poly_told {P : Program} {w : World} {mg : Str → Option Value} {base : Heap} {M : Md} (m : Mo mg M) : Kn P w mg base M "poly_told" 5 1 F_poly_told := by
  obtain ⟨f, fd, F, hm⟩ := m.d_poly_told
  exact kn_of (k := 4) F sc_poly_told hm (F.bindsN fun _ _ _ _ _ _ us hl => match us, hl with | [_], _ => rfl) fun cdv A outer s H E hr => (mss_cons (ms_if (mt_not (mt_tru rfl (me_call rfl (takes_of rfl rfl rfl rfl) (kn_is_poly m) hr (ma_cons me_var ma_nil)))) (mss_one ms_no) mss_nil) (mss_one (ms_ret (me_callTy call_tuple_of on_tuple (by rfl) m.f_tuple PyProof.Rows.boot_tuple (ma_cons (me_lc (own := [("entry", 1)]) rfl rfl sc_poly_told.nd (mi_d rfl me_var) (by first | rfl | decide +kernel) (fun _ _ _ _ _ => (mg_nm sc_poly_told.nd)) (fun _ _ _ _ _ => mts_nil) (fun _ _ _ _ _ => (me_call rfl L2.takes0 (kn_pair_of m) hr (ma_cons me_var ma_nil)))) ma_nil)))))
theorem sc_both_polys : FnScope ["one", "other"] ["one", "other"] (defScope st_both_polys) := ⟨rfl, rfl, rfl, by decide +kernel, rfl, by decide +kernel, by decide +kernel⟩
theorem kn_both_polys {P : Program} {w : World} {mg : Str → Option Value} {base : Heap} {M : Md} (m : Mo mg M) : Kn P w mg base M "both_polys" 6 2 F_both_polys := by
  obtain ⟨f, fd, F, hm⟩ := m.d_both_polys
  exact kn_of (k := 5) F sc_both_polys hm (F.bindsN fun _ _ _ _ _ _ us hl => match us, hl with | [_, _], _ => rfl) fun cdv A outer s H E hr => (mss_one (ms_ret (me_tup (ma_cons (me_call rfl (takes_of rfl rfl rfl rfl) (kn_poly_told m) hr (ma_cons me_var ma_nil)) (ma_cons (me_call rfl (takes_of rfl rfl rfl rfl) (kn_poly_told m) hr (ma_cons me_var ma_nil)) ma_nil)))))
theorem sc_without_end : FnScope ["entries", "size"] ["entries"] (defScope st_without_end) := ⟨rfl, rfl, rfl, by decide +kernel, rfl, by decide +kernel, by decide +kernel⟩
theorem kn_without_end {P : Program} {w : World} {mg : Str → Option Value} {base : Heap} {M : Md} (m : Mo mg M) : Kn P w mg base M "without_end" 1 1 F_without_end := by
  obtain ⟨f, fd, F, hm⟩ := m.d_without_end
  exact kn_of (k := 0) F sc_without_end hm (F.bindsN fun _ _ _ _ _ _ us hl => match us, hl with | [_], _ => rfl) fun cdv A outer s H E hr => (mss_cons (ms_set sc_without_end.nd (me_callB call_len on_len (by rfl) m.f_len boot_len (ma_cons me_var ma_nil))) (mss_cons (ms_while (passes_of rfl) (PW.pt (mw_and (mt_cmp op_gt o2_ib me_var me_int (nobehind _ (by decide) (by decide))) (mw_and1 (mt_cmp (op_eqD hr.units) o2_eq (me_ix ix_seq o2_at (me_ix ix_seq o2_at me_var (me_bin op_sub o2_sub me_var me_int) (fun _ _ => rfl)) me_int (fun _ _ => rfl)) me_int (nobehind _ (by decide) (by decide)))))) (mss_one (ms_aug sc_without_end.nd iop_sub o2_sub me_int))) (mss_one (ms_ret (me_callTy call_tuple_of on_tuple (by rfl) m.f_tuple PyProof.Rows.boot_tuple (ma_cons (me_slice rfl me_var mo_none (mo_some me_var)) ma_nil))))))
theorem sc_added_in : FnScope ["one", "other", "size", "left", "right", "first", "second"] ["one", "other"] (defScope st_added_in) := ⟨rfl, rfl, rfl, by decide +kernel, rfl, by decide +kernel, by decide +kernel⟩
theorem kn_added_in {P : Program} {w : World} {mg : Str → Option Value} {base : Heap} {M : Md} (m : Mo mg M) : Kn P w mg base M "added_in" 3 2 F_added_in := by
  obtain ⟨f, fd, F, hm⟩ := m.d_added_in
  exact kn_of (k := 2) F sc_added_in hm (F.bindsN fun _ _ _ _ _ _ us hl => match us, hl with | [_, _], _ => rfl) fun cdv A outer s H E hr => (mss_cons (ms_set sc_added_in.nd (me_callB (call_max2 rfl) on_max2 (by rfl) m.f_max boot_max (ma_cons (me_callB call_len on_len (by rfl) m.f_len boot_len (ma_cons me_var ma_nil)) (ma_cons (me_callB call_len on_len (by rfl) m.f_len boot_len (ma_cons me_var ma_nil)) ma_nil)))) (mss_cons (ms_par rfl sc_added_in.nd (ma_cons (me_lst (ma_star rfl me_var (ma_star rfl (me_bin op_mulA o2_mul (me_lst (ma_cons (me_con m.g_ZERO (by rfl)) ma_nil)) (me_bin op_sub o2_sub me_var (me_callB call_len on_len (by rfl) m.f_len boot_len (ma_cons me_var ma_nil)))) ma_nil))) (ma_cons (me_lst (ma_star rfl me_var (ma_star rfl (me_bin op_mulA o2_mul (me_lst (ma_cons (me_con m.g_ZERO (by rfl)) ma_nil)) (me_bin op_sub o2_sub me_var (me_callB call_len on_len (by rfl) m.f_len boot_len (ma_cons me_var ma_nil)))) ma_nil))) ma_nil))) (mss_one (ms_ret (me_call rfl (takes_of rfl rfl rfl rfl) (kn_without_end m) hr (ma_cons (me_lc (own := [("first", 5), ("second", 6)]) rfl rfl sc_added_in.nd (mi_zip rfl m.f_zip (ma_cons me_var (ma_cons me_var ma_nil))) (by first | rfl | decide +kernel) (fun _ _ _ _ _ => (mg_tp rfl (mgs_cons (mg_nm sc_added_in.nd) (mgs_cons (mg_nm sc_added_in.nd) mgs_nil)))) (fun _ _ _ _ _ => mts_nil) (fun _ _ _ _ _ => (me_call rfl L2.takes0 (kn_sum_in m) hr (ma_cons me_var (ma_cons me_var ma_nil))))) ma_nil))))))
theorem sc_scaled_in : FnScope ["poly", "number", "entry"] ["poly", "number"] (defScope st_scaled_in) := ⟨rfl, rfl, rfl, by decide +kernel, rfl, by decide +kernel, by decide +kernel⟩
theorem kn_scaled_in {P : Program} {w : World} {mg : Str → Option Value} {base : Heap} {M : Md} (m : Mo mg M) : Kn P w mg base M "scaled_in" 3 2 F_scaled_in := by
  obtain ⟨f, fd, F, hm⟩ := m.d_scaled_in
  exact kn_of (k := 2) F sc_scaled_in hm (F.bindsN fun _ _ _ _ _ _ us hl => match us, hl with | [_, _], _ => rfl) fun cdv A outer s H E hr => (mss_one (ms_ret (me_call rfl (takes_of rfl rfl rfl rfl) (kn_without_end m) hr (ma_cons (me_lc (own := [("entry", 2)]) rfl rfl sc_scaled_in.nd (mi_d rfl me_var) (by first | rfl | decide +kernel) (fun _ _ _ _ _ => (mg_nm sc_scaled_in.nd)) (fun _ _ _ _ _ => mts_nil) (fun _ _ _ _ _ => (me_call rfl L2.takes0 (kn_product_in m) hr (ma_cons me_var (ma_cons me_var ma_nil))))) ma_nil))))
theorem sc_taken_in : FnScope ["one", "other"] ["one", "other"] (defScope st_taken_in) := ⟨rfl, rfl, rfl, by decide +kernel, rfl, by decide +kernel, by decide +kernel⟩
theorem kn_taken_in {P : Program} {w : World} {mg : Str → Option Value} {base : Heap} {M : Md} (m : Mo mg M) : Kn P w mg base M "taken_in" 4 2 F_taken_in := by
  obtain ⟨f, fd, F, hm⟩ := m.d_taken_in
  exact kn_of (k := 3) F sc_taken_in hm (F.bindsN fun _ _ _ _ _ _ us hl => match us, hl with | [_, _], _ => rfl) fun cdv A outer s H E hr => (mss_one (ms_ret (me_call rfl (takes_of rfl rfl rfl rfl) (kn_added_in m) hr (ma_cons me_var (ma_cons (me_call rfl (takes_of rfl rfl rfl rfl) (kn_scaled_in m) hr (ma_cons me_var (ma_cons (me_tup (ma_cons (me_neg me_int) (ma_cons me_int ma_nil))) ma_nil))) ma_nil)))))
theorem sc_times_in : FnScope ["one", "other", "found", "place", "first", "step", "second"] ["one", "other"] (defScope st_times_in) := ⟨rfl, rfl, rfl, by decide +kernel, rfl, by decide +kernel, by decide +kernel⟩
theorem kn_times_in {P : Program} {w : World} {mg : Str → Option Value} {base : Heap} {M : Md} (m : Mo mg M) : Kn P w mg base M "times_in" 3 2 F_times_in := by
  obtain ⟨f, fd, F, hm⟩ := m.d_times_in
  exact kn_of (k := 2) F sc_times_in hm (F.bindsN fun _ _ _ _ _ _ us hl => match us, hl with | [_, _], _ => rfl) fun cdv A outer s H E hr => (mss_cons (ms_set sc_times_in.nd (me_bin op_mulA o2_mul (me_lst (ma_cons (me_con m.g_ZERO (by rfl)) ma_nil)) (me_bin op_addA o2_add (me_callB call_len on_len (by rfl) m.f_len boot_len (ma_cons me_var ma_nil)) (me_callB call_len on_len (by rfl) m.f_len boot_len (ma_cons me_var ma_nil))))) (mss_cons (ms_for rfl (passes_of rfl) rfl (mi_enum rfl m.f_enumerate (ma_cons me_var ma_nil)) (mg_tp rfl (mgs_cons (mg_nm sc_times_in.nd) (mgs_cons (mg_nm sc_times_in.nd) mgs_nil))) (mss_one (ms_for rfl (passes_of rfl) rfl (mi_enum rfl m.f_enumerate (ma_cons me_var ma_nil)) (mg_tp rfl (mgs_cons (mg_nm sc_times_in.nd) (mgs_cons (mg_nm sc_times_in.nd) mgs_nil))) (mss_one (ms_put (me_call rfl (takes_of rfl rfl rfl rfl) (kn_sum_in m) hr (ma_cons (me_ix ix_seq o2_at me_var (me_bin op_addA o2_add me_var me_var) (fun _ _ => rfl)) (ma_cons (me_call rfl (takes_of rfl rfl rfl rfl) (kn_product_in m) hr (ma_cons me_var (ma_cons me_var ma_nil))) ma_nil))) me_var (me_bin op_addA o2_add me_var me_var)))))) (mss_one (ms_ret (me_call rfl (takes_of rfl rfl rfl rfl) (kn_without_end m) hr (ma_cons me_var ma_nil))))))
theorem sc_value_in : FnScope ["poly", "number", "found", "entry"] ["poly", "number"] (defScope st_value_in) := ⟨rfl, rfl, rfl, by decide +kernel, rfl, by decide +kernel, by decide +kernel⟩
theorem kn_value_in {P : Program} {w : World} {mg : Str → Option Value} {base : Heap} {M : Md} (m : Mo mg M) : Kn P w mg base M "value_in" 3 2 F_value_in := by
  obtain ⟨f, fd, F, hm⟩ := m.d_value_in
  exact kn_of (k := 2) F sc_value_in hm (F.bindsN fun _ _ _ _ _ _ us hl => match us, hl with | [_, _], _ => rfl) fun cdv A outer s H E hr => (mss_cons (ms_set sc_value_in.nd (me_con m.g_ZERO (by rfl))) (mss_cons (ms_for rfl (passes_of rfl) rfl (mi_d rfl (me_rev rfl me_var)) (mg_nm sc_value_in.nd) (mss_one (ms_set sc_value_in.nd (me_call rfl (takes_of rfl rfl rfl rfl) (kn_sum_in m) hr (ma_cons (me_call rfl (takes_of rfl rfl rfl rfl) (kn_product_in m) hr (ma_cons me_var (ma_cons me_var ma_nil))) (ma_cons me_var ma_nil)))))) (mss_one (ms_ret me_var))))
theorem sc_derived_in : FnScope ["poly", "place", "entry"] ["poly"] (defScope st_derived_in) := ⟨rfl, rfl, rfl, by decide +kernel, rfl, by decide +kernel, by decide +kernel⟩
theorem kn_derived_in {P : Program} {w : World} {mg : Str → Option Value} {base : Heap} {M : Md} (m : Mo mg M) : Kn P w mg base M "derived_in" 3 1 F_derived_in := by
  obtain ⟨f, fd, F, hm⟩ := m.d_derived_in
  exact kn_of (k := 2) F sc_derived_in hm (F.bindsN fun _ _ _ _ _ _ us hl => match us, hl with | [_], _ => rfl) fun cdv A outer s H E hr => (mss_one (ms_ret (me_call rfl (takes_of rfl rfl rfl rfl) (kn_without_end m) hr (ma_cons (me_slice rfl (me_lc (own := [("place", 1), ("entry", 2)]) rfl rfl sc_derived_in.nd (mi_enum rfl m.f_enumerate (ma_cons me_var ma_nil)) (by first | rfl | decide +kernel) (fun _ _ _ _ _ => (mg_tp rfl (mgs_cons (mg_nm sc_derived_in.nd) (mgs_cons (mg_nm sc_derived_in.nd) mgs_nil)))) (fun _ _ _ _ _ => mts_nil) (fun _ _ _ _ _ => (me_call rfl L2.takes0 (kn_product_in m) hr (ma_cons me_var (ma_cons (me_tup (ma_cons me_var (ma_cons me_int ma_nil))) ma_nil))))) (mo_some me_int) mo_none) ma_nil))))
theorem sc_poly_sum : FnScope ["one", "other", "first", "second"] ["one", "other"] (defScope st_poly_sum) := ⟨rfl, rfl, rfl, by decide +kernel, rfl, by decide +kernel, by decide +kernel⟩
theorem kn_poly_sum {P : Program} {w : World} {mg : Str → Option Value} {base : Heap} {M : Md} (m : Mo mg M) : Kn P w mg base M "poly_sum" 7 2 F_poly_sum := by
  obtain ⟨f, fd, F, hm⟩ := m.d_poly_sum
  exact kn_of (k := 6) F sc_poly_sum hm (F.bindsN fun _ _ _ _ _ _ us hl => match us, hl with | [_, _], _ => rfl) fun cdv A outer s H E hr => (mss_cons (ms_asg rfl (me_call rfl (takes_of rfl rfl rfl rfl) (kn_both_polys m) hr (ma_cons me_var (ma_cons me_var ma_nil))) (mg_tp rfl (mgs_cons (mg_nm sc_poly_sum.nd) (mgs_cons (mg_nm sc_poly_sum.nd) mgs_nil)))) (mss_one (ms_ret (me_call rfl (takes_of rfl rfl rfl rfl) (kn_added_in m) hr (ma_cons me_var (ma_cons me_var ma_nil))))))
theorem sc_poly_less : FnScope ["one", "other", "first", "second"] ["one", "other"] (defScope st_poly_less) := ⟨rfl, rfl, rfl, by decide +kernel, rfl, by decide +kernel, by decide +kernel⟩
theorem kn_poly_less {P : Program} {w : World} {mg : Str → Option Value} {base : Heap} {M : Md} (m : Mo mg M) : Kn P w mg base M "poly_less" 7 2 F_poly_less := by
  obtain ⟨f, fd, F, hm⟩ := m.d_poly_less
  exact kn_of (k := 6) F sc_poly_less hm (F.bindsN fun _ _ _ _ _ _ us hl => match us, hl with | [_, _], _ => rfl) fun cdv A outer s H E hr => (mss_cons (ms_asg rfl (me_call rfl (takes_of rfl rfl rfl rfl) (kn_both_polys m) hr (ma_cons me_var (ma_cons me_var ma_nil))) (mg_tp rfl (mgs_cons (mg_nm sc_poly_less.nd) (mgs_cons (mg_nm sc_poly_less.nd) mgs_nil)))) (mss_one (ms_ret (me_call rfl (takes_of rfl rfl rfl rfl) (kn_taken_in m) hr (ma_cons me_var (ma_cons me_var ma_nil))))))
theorem sc_poly_product : FnScope ["one", "other", "first", "second"] ["one", "other"] (defScope st_poly_product) := ⟨rfl, rfl, rfl, by decide +kernel, rfl, by decide +kernel, by decide +kernel⟩
theorem kn_poly_product {P : Program} {w : World} {mg : Str → Option Value} {base : Heap} {M : Md} (m : Mo mg M) : Kn P w mg base M "poly_product" 7 2 F_poly_product := by
  obtain ⟨f, fd, F, hm⟩ := m.d_poly_product
  exact kn_of (k := 6) F sc_poly_product hm (F.bindsN fun _ _ _ _ _ _ us hl => match us, hl with | [_, _], _ => rfl) fun cdv A outer s H E hr => (mss_cons (ms_asg rfl (me_call rfl (takes_of rfl rfl rfl rfl) (kn_both_polys m) hr (ma_cons me_var (ma_cons me_var ma_nil))) (mg_tp rfl (mgs_cons (mg_nm sc_poly_product.nd) (mgs_cons (mg_nm sc_poly_product.nd) mgs_nil)))) (mss_cons (ms_if (PW.pt (mw_and (mt_cmp (op_neD hr.units) o2_ne me_var (me_tup ma_nil) (nobehind _ (by decide) (by decide))) (mw_and (mt_cmp (op_neD hr.units) o2_ne me_var (me_tup ma_nil) (nobehind _ (by decide) (by decide))) (mw_and1 (mt_cmp op_gt o2_ib (me_bin op_sub o2_sub (me_bin op_addA o2_add (me_callB call_len on_len (by rfl) m.f_len boot_len (ma_cons me_var ma_nil)) (me_callB call_len on_len (by rfl) m.f_len boot_len (ma_cons me_var ma_nil))) me_int) (me_con m.g_MAX_DEGREE (by rfl)) (nobehind _ (by decide) (by decide))))))) (mss_one ms_no) mss_nil) (mss_one (ms_ret (me_call rfl (takes_of rfl rfl rfl rfl) (kn_times_in m) hr (ma_cons me_var (ma_cons me_var ma_nil)))))))
theorem sc_poly_value : FnScope ["poly", "number", "told"] ["poly", "number"] (defScope st_poly_value) := ⟨rfl, rfl, rfl, by decide +kernel, rfl, by decide +kernel, by decide +kernel⟩
theorem kn_poly_value {P : Program} {w : World} {mg : Str → Option Value} {base : Heap} {M : Md} (m : Mo mg M) : Kn P w mg base M "poly_value" 6 2 F_poly_value := by
  obtain ⟨f, fd, F, hm⟩ := m.d_poly_value
  exact kn_of (k := 5) F sc_poly_value hm (F.bindsN fun _ _ _ _ _ _ us hl => match us, hl with | [_, _], _ => rfl) fun cdv A outer s H E hr => (mss_cons (ms_set sc_poly_value.nd (me_call rfl (takes_of rfl rfl rfl rfl) (kn_poly_told m) hr (ma_cons me_var ma_nil))) (mss_cons (ms_expr (me_call rfl (takes_of rfl rfl rfl rfl) (kn_require_number m) hr (ma_cons me_var ma_nil))) (mss_one (ms_ret (me_call rfl (takes_of rfl rfl rfl rfl) (kn_value_in m) hr (ma_cons me_var (ma_cons (me_call rfl (takes_of rfl rfl rfl rfl) (kn_pair_of m) hr (ma_cons me_var ma_nil)) ma_nil)))))))
theorem sc_derived : FnScope ["poly"] ["poly"] (defScope st_derived) := ⟨rfl, rfl, rfl, by decide +kernel, rfl, by decide +kernel, by decide +kernel⟩
theorem kn_derived {P : Program} {w : World} {mg : Str → Option Value} {base : Heap} {M : Md} (m : Mo mg M) : Kn P w mg base M "derived" 6 1 F_derived := by
  obtain ⟨f, fd, F, hm⟩ := m.d_derived
  exact kn_of (k := 5) F sc_derived hm (F.bindsN fun _ _ _ _ _ _ us hl => match us, hl with | [_], _ => rfl) fun cdv A outer s H E hr => (mss_one (ms_ret (me_call rfl (takes_of rfl rfl rfl rfl) (kn_derived_in m) hr (ma_cons (me_call rfl (takes_of rfl rfl rfl rfl) (kn_poly_told m) hr (ma_cons me_var ma_nil)) ma_nil))))
theorem sc__law_dice : FnScope ["_law_script", "_law_spot", "_law_cell", "_law_left"] ["_law_script", "_law_spot"] (defScope st__law_dice) := ⟨rfl, rfl, rfl, by decide +kernel, rfl, by decide +kernel, by decide +kernel⟩
theorem kn__law_dice {P : Program} {w : World} {mg : Str → Option Value} {base : Heap} {M : Md} (m : Mo mg M) : Kn P w mg base M "_law_dice" 1 2 F__law_dice := by
  obtain ⟨f, fd, F, hm⟩ := m.d__law_dice
  exact kn_of (k := 0) F sc__law_dice hm (F.bindsN fun _ _ _ _ _ _ us hl => match us, hl with | [_, _], _ => rfl) fun cdv A outer s H E hr => (mss_cons (ms_set sc__law_dice.nd (me_if (mt_cmp op_lt o2_ib me_var (me_callB call_len on_len (by rfl) m.f_len boot_len (ma_cons me_var ma_nil)) (nobehind _ (by decide) (by decide))) (me_callTy call_int1 on_int (by rfl) m.f_int PyProof.Rows.boot_int (ma_cons (me_ix ix_seq o2_at me_var me_var (fun _ _ => rfl)) ma_nil)) (me_bin op_addA o2_add (me_bin op_mulA o2_mul me_int me_var) me_int))) (mss_cons (ms_set sc__law_dice.nd (me_bin op_modN o2_mod (me_callB (call_max2 rfl) on_max2 (by rfl) m.f_max boot_max (ma_cons me_int (ma_cons (me_bin op_sub o2_sub (me_callB call_abs on_abs (by rfl) m.f_abs PyProof.Rows.boot_abs (ma_cons me_var ma_nil)) (me_bin op_pow o2_pow me_int me_int)) ma_nil))) (me_bin op_mulA o2_mul (me_bin op_pow o2_pow me_int me_int) (me_bin op_pow o2_pow me_int me_int)))) (mss_one (ms_ret (me_lst (ma_cons me_var (ma_cons (me_bin op_addA o2_add (me_bin op_addA o2_add (me_bin op_addA o2_add (me_bin op_mulA o2_mul (me_bin op_modN o2_mod (me_callB call_abs on_abs (by rfl) m.f_abs PyProof.Rows.boot_abs (ma_cons me_var ma_nil)) me_int) me_int) (me_bin op_mulA o2_mul me_int me_var)) (me_bin op_mulA o2_mul me_int (me_callTy call_int1 on_int (by rfl) m.f_int PyProof.Rows.boot_int (ma_cons (me_cmp op_lt o2_ib me_var me_int (nobehind _ (by decide) (by decide))) ma_nil)))) me_int) (ma_cons me_int ma_nil))))))))
theorem sc__law_roll : FnScope ["_law_dice_here", "_law_total", "_law_found", "_law_one", "_law_two"] ["_law_dice_here", "_law_total"] (defScope st__law_roll) := ⟨rfl, rfl, rfl, by decide +kernel, rfl, by decide +kernel, by decide +kernel⟩
theorem kn__law_roll {P : Program} {w : World} {mg : Str → Option Value} {base : Heap} {M : Md} (m : Mo mg M) : Kn P w mg base M "_law_roll" 1 2 F__law_roll := by
  obtain ⟨f, fd, F, hm⟩ := m.d__law_roll
  exact kn_of (k := 0) F sc__law_roll hm (F.bindsN fun _ _ _ _ _ _ us hl => match us, hl with | [_, _], _ => rfl) fun cdv A outer s H E hr => (mss_cons (ms_if (mt_cmp op_gt o2_ib (me_ix ix_seq o2_at me_var me_int (fun _ _ => rfl)) me_int (nobehind _ (by decide) (by decide))) (mss_cons (ms_set sc__law_roll.nd (me_bin op_modN o2_mod (me_callTy call_int1 on_int (by rfl) m.f_int PyProof.Rows.boot_int (ma_cons (me_ix ix_seq o2_at me_var me_int (fun _ _ => rfl)) ma_nil)) me_var)) (mss_cons (ms_put (me_bin op_fdivD o2_fdiv (me_ix ix_seq o2_at me_var me_int (fun _ _ => rfl)) me_var) me_var me_int) (mss_one (ms_ret me_var)))) mss_nil) (mss_cons (ms_put (me_bin op_addA o2_add (me_ix ix_seq o2_at me_var me_int (fun _ _ => rfl)) me_int) me_var me_int) (mss_cons (ms_set sc__law_roll.nd (me_bin op_modN o2_mod (me_callTy call_int1 on_int (by rfl) m.f_int PyProof.Rows.boot_int (ma_cons (me_bin op_addA o2_add (me_ix ix_seq o2_at me_var me_int (fun _ _ => rfl)) (me_bin op_mulA o2_mul me_int (me_ix ix_seq o2_at me_var me_int (fun _ _ => rfl)))) ma_nil)) me_int)) (mss_cons (ms_set sc__law_roll.nd (me_bin op_addA o2_add (me_bin op_mulA o2_mul (me_bin op_modN o2_mod (me_callTy call_int1 on_int (by rfl) m.f_int PyProof.Rows.boot_int (ma_cons (me_bin op_addA o2_add (me_bin op_mulA o2_mul me_var me_var) (me_bin op_mulA o2_mul me_int (me_ix ix_seq o2_at me_var me_int (fun _ _ => rfl)))) ma_nil)) me_int) me_int) me_var)) (mss_one (ms_ret (me_bin op_modN o2_mod (me_callTy call_int1 on_int (by rfl) m.f_int PyProof.Rows.boot_int (ma_cons (me_bin op_fdivD o2_fdiv me_var me_int) ma_nil)) me_var)))))))
theorem sc__law_gcd : FnScope ["_law_one", "_law_other"] ["_law_one", "_law_other"] (defScope st__law_gcd) := ⟨rfl, rfl, rfl, by decide +kernel, rfl, by decide +kernel, by decide +kernel⟩
theorem kn__law_gcd {P : Program} {w : World} {mg : Str → Option Value} {base : Heap} {M : Md} (m : Mo mg M) : Kn P w mg base M "_law_gcd" 1 2 F__law_gcd := by
  obtain ⟨f, fd, F, hm⟩ := m.d__law_gcd
  exact kn_of (k := 0) F sc__law_gcd hm (F.bindsN fun _ _ _ _ _ _ us hl => match us, hl with | [_, _], _ => rfl) fun cdv A outer s H E hr => (mss_cons (ms_par rfl sc__law_gcd.nd (ma_cons (me_callB call_abs on_abs (by rfl) m.f_abs PyProof.Rows.boot_abs (ma_cons me_var ma_nil)) (ma_cons (me_callB call_abs on_abs (by rfl) m.f_abs PyProof.Rows.boot_abs (ma_cons me_var ma_nil)) ma_nil))) (mss_cons (ms_while (passes_of rfl) (mt_cmp op_gt o2_ib me_var me_int (nobehind _ (by decide) (by decide))) (mss_one (ms_par rfl sc__law_gcd.nd (ma_cons me_var (ma_cons (me_bin op_modN o2_mod (me_callTy call_int1 on_int (by rfl) m.f_int PyProof.Rows.boot_int (ma_cons me_var ma_nil)) me_var) ma_nil))))) (mss_one (ms_ret me_var))))
theorem sc__law_fraction : FnScope ["_law_top", "_law_bottom", "_law_shared"] ["_law_top", "_law_bottom"] (defScope st__law_fraction) := ⟨rfl, rfl, rfl, by decide +kernel, rfl, by decide +kernel, by decide +kernel⟩
theorem kn__law_fraction {P : Program} {w : World} {mg : Str → Option Value} {base : Heap} {M : Md} (m : Mo mg M) : Kn P w mg base M "_law_fraction" 2 2 F__law_fraction := by
  obtain ⟨f, fd, F, hm⟩ := m.d__law_fraction
  exact kn_of (k := 1) F sc__law_fraction hm (F.bindsN fun _ _ _ _ _ _ us hl => match us, hl with | [_, _], _ => rfl) fun cdv A outer s H E hr => (mss_cons (ms_set sc__law_fraction.nd (me_call rfl (takes_of rfl rfl rfl rfl) (kn__law_gcd m) hr (ma_cons me_var (ma_cons me_var ma_nil)))) (mss_cons (ms_if (mt_cmp op_lt o2_ib me_var me_int (nobehind _ (by decide) (by decide))) (mss_one (ms_set sc__law_fraction.nd (me_neg me_var))) mss_nil) (mss_one (ms_ret (me_tup (ma_cons (me_bin op_fdivD o2_fdiv me_var me_var) (ma_cons (me_bin op_fdivD o2_fdiv me_var me_var) ma_nil)))))))
theorem sc__law_plus : FnScope ["_law_one", "_law_other"] ["_law_one", "_law_other"] (defScope st__law_plus) := ⟨rfl, rfl, rfl, by decide +kernel, rfl, by decide +kernel, by decide +kernel⟩
theorem kn__law_plus {P : Program} {w : World} {mg : Str → Option Value} {base : Heap} {M : Md} (m : Mo mg M) : Kn P w mg base M "_law_plus" 3 2 F__law_plus := by
  obtain ⟨f, fd, F, hm⟩ := m.d__law_plus
  exact kn_of (k := 2) F sc__law_plus hm (F.bindsN fun _ _ _ _ _ _ us hl => match us, hl with | [_, _], _ => rfl) fun cdv A outer s H E hr => (mss_one (ms_ret (me_call rfl (takes_of rfl rfl rfl rfl) (kn__law_fraction m) hr (ma_cons (me_bin op_addA o2_add (me_bin op_mulA o2_mul (me_ix ix_seq o2_at me_var me_int (fun _ _ => rfl)) (me_ix ix_seq o2_at me_var me_int (fun _ _ => rfl))) (me_bin op_mulA o2_mul (me_ix ix_seq o2_at me_var me_int (fun _ _ => rfl)) (me_ix ix_seq o2_at me_var me_int (fun _ _ => rfl)))) (ma_cons (me_bin op_mulA o2_mul (me_ix ix_seq o2_at me_var me_int (fun _ _ => rfl)) (me_ix ix_seq o2_at me_var me_int (fun _ _ => rfl))) ma_nil)))))
theorem sc__law_times : FnScope ["_law_one", "_law_other"] ["_law_one", "_law_other"] (defScope st__law_times) := ⟨rfl, rfl, rfl, by decide +kernel, rfl, by decide +kernel, by decide +kernel⟩
theorem kn__law_times {P : Program} {w : World} {mg : Str → Option Value} {base : Heap} {M : Md} (m : Mo mg M) : Kn P w mg base M "_law_times" 3 2 F__law_times := by
  obtain ⟨f, fd, F, hm⟩ := m.d__law_times
  exact kn_of (k := 2) F sc__law_times hm (F.bindsN fun _ _ _ _ _ _ us hl => match us, hl with | [_, _], _ => rfl) fun cdv A outer s H E hr => (mss_one (ms_ret (me_call rfl (takes_of rfl rfl rfl rfl) (kn__law_fraction m) hr (ma_cons (me_bin op_mulA o2_mul (me_ix ix_seq o2_at me_var me_int (fun _ _ => rfl)) (me_ix ix_seq o2_at me_var me_int (fun _ _ => rfl))) (ma_cons (me_bin op_mulA o2_mul (me_ix ix_seq o2_at me_var me_int (fun _ _ => rfl)) (me_ix ix_seq o2_at me_var me_int (fun _ _ => rfl))) ma_nil)))))
theorem sc__law_less : FnScope ["_law_one", "_law_other"] ["_law_one", "_law_other"] (defScope st__law_less) := ⟨rfl, rfl, rfl, by decide +kernel, rfl, by decide +kernel, by decide +kernel⟩
theorem kn__law_less {P : Program} {w : World} {mg : Str → Option Value} {base : Heap} {M : Md} (m : Mo mg M) : Kn P w mg base M "_law_less" 4 2 F__law_less := by
  obtain ⟨f, fd, F, hm⟩ := m.d__law_less
  exact kn_of (k := 3) F sc__law_less hm (F.bindsN fun _ _ _ _ _ _ us hl => match us, hl with | [_, _], _ => rfl) fun cdv A outer s H E hr => (mss_one (ms_ret (me_call rfl (takes_of rfl rfl rfl rfl) (kn__law_plus m) hr (ma_cons me_var (ma_cons (me_tup (ma_cons (me_bin op_sub o2_sub me_int (me_ix ix_seq o2_at me_var me_int (fun _ _ => rfl))) (ma_cons (me_ix ix_seq o2_at me_var me_int (fun _ _ => rfl)) ma_nil))) ma_nil)))))
theorem sc__law_py_made : FnScope ["_law_entries", "_law_found"] ["_law_entries"] (defScope st__law_py_made) := ⟨rfl, rfl, rfl, by decide +kernel, rfl, by decide +kernel, by decide +kernel⟩
theorem kn__law_py_made {P : Program} {w : World} {mg : Str → Option Value} {base : Heap} {M : Md} (m : Mo mg M) : Kn P w mg base M "_law_py_made" 1 1 F__law_py_made := by
  obtain ⟨f, fd, F, hm⟩ := m.d__law_py_made
  exact kn_of (k := 0) F sc__law_py_made hm (F.bindsN fun _ _ _ _ _ _ us hl => match us, hl with | [_], _ => rfl) fun cdv A outer s H E hr => (mss_cons (ms_set sc__law_py_made.nd (me_callTy call_list_of on_list (by rfl) m.f_list PyProof.Rows.boot_list (ma_cons me_var ma_nil))) (mss_cons (ms_while (passes_of rfl) (PW.pt (mw_and (mt_cmp (op_neD hr.units) o2_ne me_var (me_lst ma_nil) (nobehind _ (by decide) (by decide))) (mw_and1 (mt_cmp (op_eqD hr.units) o2_eq (me_ix ix_seq o2_at (me_ix ix_seq o2_at me_var (me_neg me_int) (fun _ _ => rfl)) me_int (fun _ _ => rfl)) me_int (nobehind _ (by decide) (by decide)))))) (mss_one (ms_expr (me_pop rfl me_var)))) (mss_one (ms_ret (me_callTy call_tuple_of on_tuple (by rfl) m.f_tuple PyProof.Rows.boot_tuple (ma_cons me_var ma_nil))))))
theorem sc__law_py_pairs : FnScope ["_law_poly", "_law_one"] ["_law_poly"] (defScope st__law_py_pairs) := ⟨rfl, rfl, rfl, by decide +kernel, rfl, by decide +kernel, by decide +kernel⟩
theorem kn__law_py_pairs {P : Program} {w : World} {mg : Str → Option Value} {base : Heap} {M : Md} (m : Mo mg M) : Kn P w mg base M "_law_py_pairs" 1 1 F__law_py_pairs := by
  obtain ⟨f, fd, F, hm⟩ := m.d__law_py_pairs
  exact kn_of (k := 0) F sc__law_py_pairs hm (F.bindsN fun _ _ _ _ _ _ us hl => match us, hl with | [_], _ => rfl) fun cdv A outer s H E hr => (mss_one (ms_ret (me_callTy call_tuple_of on_tuple (by rfl) m.f_tuple PyProof.Rows.boot_tuple (ma_cons (me_lc (own := [("_law_one", 1)]) rfl rfl sc__law_py_pairs.nd (mi_d rfl me_var) (by first | rfl | decide +kernel) (fun _ _ _ _ _ => (mg_nm sc__law_py_pairs.nd)) (fun _ _ _ _ _ => mts_nil) (fun _ _ _ _ _ => (me_if (mt_tru rfl (me_isi rfl m.f_isinstance m.f_tuple rfl (by decide) me_var)) me_var (me_tup (ma_cons me_var (ma_cons me_int ma_nil)))))) ma_nil))))
theorem sc__law_py_sum : FnScope ["_law_one", "_law_other", "_law_most", "_law_left", "_law_right_here", "_law_first", "_law_second"] ["_law_one", "_law_other"] (defScope st__law_py_sum) := ⟨rfl, rfl, rfl, by decide +kernel, rfl, by decide +kernel, by decide +kernel⟩
theorem kn__law_py_sum {P : Program} {w : World} {mg : Str → Option Value} {base : Heap} {M : Md} (m : Mo mg M) : Kn P w mg base M "_law_py_sum" 4 2 F__law_py_sum := by
  obtain ⟨f, fd, F, hm⟩ := m.d__law_py_sum
  exact kn_of (k := 3) F sc__law_py_sum hm (F.bindsN fun _ _ _ _ _ _ us hl => match us, hl with | [_, _], _ => rfl) fun cdv A outer s H E hr => (mss_cons (ms_set sc__law_py_sum.nd (me_callB (call_max2 rfl) on_max2 (by rfl) m.f_max boot_max (ma_cons (me_callB call_len on_len (by rfl) m.f_len boot_len (ma_cons me_var ma_nil)) (ma_cons (me_callB call_len on_len (by rfl) m.f_len boot_len (ma_cons me_var ma_nil)) ma_nil)))) (mss_cons (ms_set sc__law_py_sum.nd (me_bin op_addA o2_add (me_callTy call_list_of on_list (by rfl) m.f_list PyProof.Rows.boot_list (ma_cons me_var ma_nil)) (me_bin op_mulA o2_mul (me_lst (ma_cons (me_tup (ma_cons me_int (ma_cons me_int ma_nil))) ma_nil)) (me_bin op_sub o2_sub me_var (me_callB call_len on_len (by rfl) m.f_len boot_len (ma_cons me_var ma_nil)))))) (mss_cons (ms_set sc__law_py_sum.nd (me_bin op_addA o2_add (me_callTy call_list_of on_list (by rfl) m.f_list PyProof.Rows.boot_list (ma_cons me_var ma_nil)) (me_bin op_mulA o2_mul (me_lst (ma_cons (me_tup (ma_cons me_int (ma_cons me_int ma_nil))) ma_nil)) (me_bin op_sub o2_sub me_var (me_callB call_len on_len (by rfl) m.f_len boot_len (ma_cons me_var ma_nil)))))) (mss_one (ms_ret (me_call rfl (takes_of rfl rfl rfl rfl) (kn__law_py_made m) hr (ma_cons (me_lc (own := [("_law_first", 5), ("_law_second", 6)]) rfl rfl sc__law_py_sum.nd (mi_zip rfl m.f_zip (ma_cons me_var (ma_cons me_var ma_nil))) (by first | rfl | decide +kernel) (fun _ _ _ _ _ => (mg_tp rfl (mgs_cons (mg_nm sc__law_py_sum.nd) (mgs_cons (mg_nm sc__law_py_sum.nd) mgs_nil)))) (fun _ _ _ _ _ => mts_nil) (fun _ _ _ _ _ => (me_call rfl L2.takes0 (kn__law_plus m) hr (ma_cons me_var (ma_cons me_var ma_nil))))) ma_nil)))))))
theorem sc__law_py_times : FnScope ["_law_one", "_law_other", "_law_found", "_law_at", "_law_first", "_law_to", "_law_second"] ["_law_one", "_law_other"] (defScope st__law_py_times) := ⟨rfl, rfl, rfl, by decide +kernel, rfl, by decide +kernel, by decide +kernel⟩
theorem kn__law_py_times {P : Program} {w : World} {mg : Str → Option Value} {base : Heap} {M : Md} (m : Mo mg M) : Kn P w mg base M "_law_py_times" 4 2 F__law_py_times := by
  obtain ⟨f, fd, F, hm⟩ := m.d__law_py_times
  exact kn_of (k := 3) F sc__law_py_times hm (F.bindsN fun _ _ _ _ _ _ us hl => match us, hl with | [_, _], _ => rfl) fun cdv A outer s H E hr => (mss_cons (ms_set sc__law_py_times.nd (me_bin op_mulA o2_mul (me_lst (ma_cons (me_tup (ma_cons me_int (ma_cons me_int ma_nil))) ma_nil)) (me_bin op_addA o2_add (me_callB call_len on_len (by rfl) m.f_len boot_len (ma_cons me_var ma_nil)) (me_callB call_len on_len (by rfl) m.f_len boot_len (ma_cons me_var ma_nil))))) (mss_cons (ms_for rfl (passes_of rfl) rfl (mi_enum rfl m.f_enumerate (ma_cons me_var ma_nil)) (mg_tp rfl (mgs_cons (mg_nm sc__law_py_times.nd) (mgs_cons (mg_nm sc__law_py_times.nd) mgs_nil))) (mss_one (ms_for rfl (passes_of rfl) rfl (mi_enum rfl m.f_enumerate (ma_cons me_var ma_nil)) (mg_tp rfl (mgs_cons (mg_nm sc__law_py_times.nd) (mgs_cons (mg_nm sc__law_py_times.nd) mgs_nil))) (mss_one (ms_put (me_call rfl (takes_of rfl rfl rfl rfl) (kn__law_plus m) hr (ma_cons (me_ix ix_seq o2_at me_var (me_bin op_addA o2_add me_var me_var) (fun _ _ => rfl)) (ma_cons (me_call rfl (takes_of rfl rfl rfl rfl) (kn__law_times m) hr (ma_cons me_var (ma_cons me_var ma_nil))) ma_nil))) me_var (me_bin op_addA o2_add me_var me_var)))))) (mss_one (ms_ret (me_call rfl (takes_of rfl rfl rfl rfl) (kn__law_py_made m) hr (ma_cons me_var ma_nil))))))
theorem sc__law_py_back : FnScope ["_law_poly", "_law_one"] ["_law_poly"] (defScope st__law_py_back) := ⟨rfl, rfl, rfl, by decide +kernel, rfl, by decide +kernel, by decide +kernel⟩
theorem kn__law_py_back {P : Program} {w : World} {mg : Str → Option Value} {base : Heap} {M : Md} (m : Mo mg M) : Kn P w mg base M "_law_py_back" 1 1 F__law_py_back := by
  obtain ⟨f, fd, F, hm⟩ := m.d__law_py_back
  exact kn_of (k := 0) F sc__law_py_back hm (F.bindsN fun _ _ _ _ _ _ us hl => match us, hl with | [_], _ => rfl) fun cdv A outer s H E hr => (mss_one (ms_ret (me_callTy call_tuple_of on_tuple (by rfl) m.f_tuple PyProof.Rows.boot_tuple (ma_cons (me_lc (own := [("_law_one", 1)]) rfl rfl sc__law_py_back.nd (mi_d rfl me_var) (by first | rfl | decide +kernel) (fun _ _ _ _ _ => (mg_nm sc__law_py_back.nd)) (fun _ _ _ _ _ => mts_nil) (fun _ _ _ _ _ => (me_tup (ma_cons (me_bin op_sub o2_sub me_int (me_ix ix_seq o2_at me_var me_int (fun _ _ => rfl))) (ma_cons (me_ix ix_seq o2_at me_var me_int (fun _ _ => rfl)) ma_nil))))) ma_nil))))
theorem sc__law_py_value : FnScope ["_law_poly", "_law_number", "_law_found", "_law_entry"] ["_law_poly", "_law_number"] (defScope st__law_py_value) := ⟨rfl, rfl, rfl, by decide +kernel, rfl, by decide +kernel, by decide +kernel⟩
theorem kn__law_py_value {P : Program} {w : World} {mg : Str → Option Value} {base : Heap} {M : Md} (m : Mo mg M) : Kn P w mg base M "_law_py_value" 4 2 F__law_py_value := by
  obtain ⟨f, fd, F, hm⟩ := m.d__law_py_value
  exact kn_of (k := 3) F sc__law_py_value hm (F.bindsN fun _ _ _ _ _ _ us hl => match us, hl with | [_, _], _ => rfl) fun cdv A outer s H E hr => (mss_cons (ms_set sc__law_py_value.nd (me_tup (ma_cons me_int (ma_cons me_int ma_nil)))) (mss_cons (ms_for rfl (passes_of rfl) rfl (mi_d rfl (me_rev rfl me_var)) (mg_nm sc__law_py_value.nd) (mss_one (ms_set sc__law_py_value.nd (me_call rfl (takes_of rfl rfl rfl rfl) (kn__law_plus m) hr (ma_cons (me_call rfl (takes_of rfl rfl rfl rfl) (kn__law_times m) hr (ma_cons me_var (ma_cons me_var ma_nil))) (ma_cons me_var ma_nil)))))) (mss_one (ms_ret me_var))))
theorem sc__law_py_number : FnScope ["_law_dice_here", "_law_way", "_law_found"] ["_law_dice_here"] (defScope st__law_py_number) := ⟨rfl, rfl, rfl, by decide +kernel, rfl, by decide +kernel, by decide +kernel⟩
theorem kn__law_py_number {P : Program} {w : World} {mg : Str → Option Value} {base : Heap} {M : Md} (m : Mo mg M) : Kn P w mg base M "_law_py_number" 3 1 F__law_py_number := by
  obtain ⟨f, fd, F, hm⟩ := m.d__law_py_number
  exact kn_of (k := 2) F sc__law_py_number hm (F.bindsN fun _ _ _ _ _ _ us hl => match us, hl with | [_], _ => rfl) fun cdv A outer s H E hr => (mss_cons (ms_set sc__law_py_number.nd (me_call rfl (takes_of rfl rfl rfl rfl) (kn__law_roll m) hr (ma_cons me_var (ma_cons me_int ma_nil)))) (mss_cons (ms_if (mt_cmp op_lt o2_ib me_var me_int (nobehind _ (by decide) (by decide))) (mss_one (ms_ret (me_bin op_sub o2_sub (me_call rfl (takes_of rfl rfl rfl rfl) (kn__law_roll m) hr (ma_cons me_var (ma_cons me_int ma_nil))) me_int))) mss_nil) (mss_cons (ms_if (mt_cmp (op_eqD hr.units) o2_eq me_var me_int (nobehind _ (by decide) (by decide))) (mss_one (ms_ret (me_bin op_sub o2_sub (me_call rfl (takes_of rfl rfl rfl rfl) (kn__law_roll m) hr (ma_cons me_var (ma_cons (me_bin op_pow o2_pow me_int me_int) ma_nil))) (me_bin op_pow o2_pow me_int me_int)))) mss_nil) (mss_cons (ms_set sc__law_py_number.nd (me_call rfl (takes_of rfl rfl rfl rfl) (kn__law_fraction m) hr (ma_cons (me_bin op_sub o2_sub (me_call rfl (takes_of rfl rfl rfl rfl) (kn__law_roll m) hr (ma_cons me_var (ma_cons me_int ma_nil))) me_int) (ma_cons (me_bin op_addA o2_add me_int (me_call rfl (takes_of rfl rfl rfl rfl) (kn__law_roll m) hr (ma_cons me_var (ma_cons me_int ma_nil)))) ma_nil)))) (mss_one (ms_ret (me_if (PW.pt (mw_and (mt_cmp (op_eqD hr.units) o2_eq (me_ix ix_seq o2_at me_var me_int (fun _ _ => rfl)) me_int (nobehind _ (by decide) (by decide))) (mw_and1 (mt_cmp (op_eqD hr.units) o2_eq me_var me_int (nobehind _ (by decide) (by decide)))))) (me_ix ix_seq o2_at me_var me_int (fun _ _ => rfl)) me_var)))))))
theorem sc__law_py_drawn : FnScope ["_law_dice_here", "_law_most", "_law_found", "_law_turn"] ["_law_dice_here", "_law_most"] (defScope st__law_py_drawn) := ⟨rfl, rfl, rfl, by decide +kernel, rfl, by decide +kernel, by decide +kernel⟩
theorem kn__law_py_drawn {P : Program} {w : World} {mg : Str → Option Value} {base : Heap} {M : Md} (m : Mo mg M) : Kn P w mg base M "_law_py_drawn" 4 2 F__law_py_drawn := by
  obtain ⟨f, fd, F, hm⟩ := m.d__law_py_drawn
  exact kn_of (k := 3) F sc__law_py_drawn hm (F.bindsN fun _ _ _ _ _ _ us hl => match us, hl with | [_, _], _ => rfl) fun cdv A outer s H E hr => (mss_cons (ms_setLc (own := [("_law_turn", 3)]) rfl rfl sc__law_py_drawn.nd (mi_range1 m.f_range (ma_cons (me_call rfl (takes_of rfl rfl rfl rfl) (kn__law_roll m) hr (ma_cons me_var (ma_cons (me_bin op_addA o2_add me_var me_int) ma_nil))) ma_nil)) (by first | rfl | decide +kernel) (fun _ _ _ _ _ => (mg_nm sc__law_py_drawn.nd)) (fun _ _ _ _ _ => mts_nil) (fun _ _ _ _ _ => (me_call rfl L2.takes0 (kn__law_py_number m) hr (ma_cons me_var ma_nil))) (by first | rfl | decide +kernel)) (mss_cons (ms_while (passes_of rfl) (PW.pt (mw_and (mt_cmp (op_neD hr.units) o2_ne me_var (me_lst ma_nil) (nobehind _ (by decide) (by decide))) (mw_and1 (mt_cmp (op_inA hr.u65) o2_in (me_ix ix_seq o2_at me_var (me_neg me_int) (fun _ _ => rfl)) (me_tup (ma_cons me_int (ma_cons (me_tup (ma_cons me_int (ma_cons me_int ma_nil))) ma_nil))) rfl)))) (mss_one (ms_expr (me_pop rfl me_var)))) (mss_one (ms_ret (me_callTy call_tuple_of on_tuple (by rfl) m.f_tuple PyProof.Rows.boot_tuple (ma_cons me_var ma_nil))))))
theorem sc__law_derived : FnScope ["_law_poly", "_law_at", "_law_entry"] ["_law_poly"] (defScope st__law_derived) := ⟨rfl, rfl, rfl, by decide +kernel, rfl, by decide +kernel, by decide +kernel⟩
theorem kn__law_derived {P : Program} {w : World} {mg : Str → Option Value} {base : Heap} {M : Md} (m : Mo mg M) : Kn P w mg base M "_law_derived" 4 1 F__law_derived := by
  obtain ⟨f, fd, F, hm⟩ := m.d__law_derived
  exact kn_of (k := 3) F sc__law_derived hm (F.bindsN fun _ _ _ _ _ _ us hl => match us, hl with | [_], _ => rfl) fun cdv A outer s H E hr => (mss_one (ms_ret (me_call rfl (takes_of rfl rfl rfl rfl) (kn__law_py_made m) hr (ma_cons (me_lc (own := [("_law_at", 1), ("_law_entry", 2)]) rfl rfl sc__law_derived.nd (mi_enum rfl m.f_enumerate (ma_cons me_var ma_nil)) (by first | rfl | decide +kernel) (fun _ _ _ _ _ => (mg_tp rfl (mgs_cons (mg_nm sc__law_derived.nd) (mgs_cons (mg_nm sc__law_derived.nd) mgs_nil)))) (fun _ _ _ _ _ => (mts_one (mt_cmp op_gt o2_ib me_var me_int (nobehind _ (by decide) (by decide))))) (fun _ _ _ _ _ => (me_call rfl L2.takes0 (kn__law_times m) hr (ma_cons me_var (ma_cons (me_tup (ma_cons me_var (ma_cons me_int ma_nil))) ma_nil))))) ma_nil))))
theorem sc__law_right : FnScope ["_law_dice_here", "_law_one", "_law_other", "_law_first", "_law_second", "_law_whole", "_law_apart", "_law_times_here", "_law_number", "_law_at", "_law_left", "_law_right_here", "_law_due"] ["_law_dice_here"] (defScope st__law_right) := ⟨rfl, rfl, rfl, by decide +kernel, rfl, by decide +kernel, by decide +kernel⟩
theorem kn__law_right {P : Program} {w : World} {mg : Str → Option Value} {base : Heap} {M : Md} (m : Mo mg M) : Kn P w mg base M "_law_right" 8 1 F__law_right := by
  obtain ⟨f, fd, F, hm⟩ := m.d__law_right
  exact kn_of (k := 7) F sc__law_right hm (F.bindsN fun _ _ _ _ _ _ us hl => match us, hl with | [_], _ => rfl) fun cdv A outer s H E hr => (mss_cons (ms_par rfl sc__law_right.nd (ma_cons (me_call rfl (takes_of rfl rfl rfl rfl) (kn__law_py_drawn m) hr (ma_cons me_var (ma_cons me_int ma_nil))) (ma_cons (me_call rfl (takes_of rfl rfl rfl rfl) (kn__law_py_drawn m) hr (ma_cons me_var (ma_cons me_int ma_nil))) ma_nil))) (mss_cons (ms_par rfl sc__law_right.nd (ma_cons (me_call rfl (takes_of rfl rfl rfl rfl) (kn__law_py_pairs m) hr (ma_cons me_var ma_nil)) (ma_cons (me_call rfl (takes_of rfl rfl rfl rfl) (kn__law_py_pairs m) hr (ma_cons me_var ma_nil)) ma_nil))) (mss_cons (ms_par3 rfl sc__law_right.nd (ma_cons (me_call rfl (takes_of rfl rfl rfl rfl) (kn_poly_sum m) hr (ma_cons me_var (ma_cons me_var ma_nil))) (ma_cons (me_call rfl (takes_of rfl rfl rfl rfl) (kn_poly_less m) hr (ma_cons me_var (ma_cons me_var ma_nil))) (ma_cons (me_call rfl (takes_of rfl rfl rfl rfl) (kn_poly_product m) hr (ma_cons me_var (ma_cons me_var ma_nil))) ma_nil)))) (mss_cons (ms_if (PW.pt (mw_or (mt_cmp (op_neD hr.units) o2_ne me_var (me_call rfl (takes_of rfl rfl rfl rfl) (kn__law_py_sum m) hr (ma_cons me_var (ma_cons me_var ma_nil))) (nobehind _ (by decide) (by decide))) (mw_or1 (mt_cmp (op_neD hr.units) o2_ne me_var (me_call rfl (takes_of rfl rfl rfl rfl) (kn__law_py_sum m) hr (ma_cons me_var (ma_cons (me_call rfl (takes_of rfl rfl rfl rfl) (kn__law_py_back m) hr (ma_cons me_var ma_nil)) ma_nil))) (nobehind _ (by decide) (by decide)))))) (mss_one (ms_ret me_bl)) mss_nil) (mss_cons (ms_if (PW.pt (mw_or (mt_cmp (op_neD hr.units) o2_ne me_var (me_call rfl (takes_of rfl rfl rfl rfl) (kn__law_py_times m) hr (ma_cons me_var (ma_cons me_var ma_nil))) (nobehind _ (by decide) (by decide))) (mw_or (mt_cmp (op_neD hr.units) o2_ne (me_call rfl (takes_of rfl rfl rfl rfl) (kn_poly_product m) hr (ma_cons me_var (ma_cons me_var ma_nil))) me_var (nobehind _ (by decide) (by decide))) (mw_or1 (mt_cmp (op_neD hr.units) o2_ne (me_call rfl (takes_of rfl rfl rfl rfl) (kn_poly_sum m) hr (ma_cons me_var (ma_cons me_var ma_nil))) me_var (nobehind _ (by decide) (by decide))))))) (mss_one (ms_ret me_bl)) mss_nil) (mss_cons (ms_set sc__law_right.nd (me_call rfl (takes_of rfl rfl rfl rfl) (kn__law_py_number m) hr (ma_cons me_var ma_nil))) (mss_cons (ms_set sc__law_right.nd (me_if (mt_tru rfl (me_isi rfl m.f_isinstance m.f_tuple rfl (by decide) me_var)) me_var (me_tup (ma_cons me_var (ma_cons me_int ma_nil))))) (mss_cons (ms_par rfl sc__law_right.nd (ma_cons (me_call rfl (takes_of rfl rfl rfl rfl) (kn_poly_value m) hr (ma_cons me_var (ma_cons me_var ma_nil))) (ma_cons (me_call rfl (takes_of rfl rfl rfl rfl) (kn_poly_value m) hr (ma_cons me_var (ma_cons me_var ma_nil))) ma_nil))) (mss_cons (ms_if (PW.pt (mw_or (mt_cmp (op_neD hr.units) o2_ne me_var (me_call rfl (takes_of rfl rfl rfl rfl) (kn__law_py_value m) hr (ma_cons me_var (ma_cons me_var ma_nil))) (nobehind _ (by decide) (by decide))) (mw_or1 (mt_cmp (op_neD hr.units) o2_ne (me_call rfl (takes_of rfl rfl rfl rfl) (kn_poly_value m) hr (ma_cons me_var (ma_cons me_var ma_nil))) (me_call rfl (takes_of rfl rfl rfl rfl) (kn__law_plus m) hr (ma_cons me_var (ma_cons me_var ma_nil))) (nobehind _ (by decide) (by decide)))))) (mss_one (ms_ret me_bl)) mss_nil) (mss_cons (ms_if (PW.pt (mw_or (mt_cmp (op_neD hr.units) o2_ne (me_call rfl (takes_of rfl rfl rfl rfl) (kn_poly_value m) hr (ma_cons me_var (ma_cons me_var ma_nil))) (me_call rfl (takes_of rfl rfl rfl rfl) (kn__law_times m) hr (ma_cons me_var (ma_cons me_var ma_nil))) (nobehind _ (by decide) (by decide))) (mw_or1 (mt_cmp (op_neD hr.units) o2_ne (me_call rfl (takes_of rfl rfl rfl rfl) (kn_poly_value m) hr (ma_cons me_var (ma_cons me_var ma_nil))) (me_call rfl (takes_of rfl rfl rfl rfl) (kn__law_less m) hr (ma_cons me_var (ma_cons me_var ma_nil))) (nobehind _ (by decide) (by decide)))))) (mss_one (ms_ret me_bl)) mss_nil) (mss_cons (ms_if (mt_cmp (op_neD hr.units) o2_ne (me_call rfl (takes_of rfl rfl rfl rfl) (kn_derived m) hr (ma_cons me_var ma_nil)) (me_call rfl (takes_of rfl rfl rfl rfl) (kn__law_derived m) hr (ma_cons me_var ma_nil)) (nobehind _ (by decide) (by decide))) (mss_one (ms_ret me_bl)) mss_nil) (mss_cons (ms_set sc__law_right.nd (me_call rfl (takes_of rfl rfl rfl rfl) (kn__law_py_sum m) hr (ma_cons (me_call rfl (takes_of rfl rfl rfl rfl) (kn__law_py_times m) hr (ma_cons (me_call rfl (takes_of rfl rfl rfl rfl) (kn_derived m) hr (ma_cons me_var ma_nil)) (ma_cons me_var ma_nil))) (ma_cons (me_call rfl (takes_of rfl rfl rfl rfl) (kn__law_py_times m) hr (ma_cons me_var (ma_cons (me_call rfl (takes_of rfl rfl rfl rfl) (kn_derived m) hr (ma_cons me_var ma_nil)) ma_nil))) ma_nil)))) (mss_one (ms_ret (me_and (me_cmp (op_eqD hr.units) o2_eq (me_call rfl (takes_of rfl rfl rfl rfl) (kn_derived m) hr (ma_cons me_var ma_nil)) me_var (nobehind _ (by decide) (by decide))) (me_and (me_call rfl (takes_of rfl rfl rfl rfl) (kn_is_poly m) hr (ma_cons me_var ma_nil)) (me_and (me_call rfl (takes_of rfl rfl rfl rfl) (kn_is_poly m) hr (ma_cons me_var ma_nil)) (me_one (me_cmp (op_eqD hr.units) o2_eq (me_call rfl (takes_of rfl rfl rfl rfl) (kn_poly_less m) hr (ma_cons me_var (ma_cons me_var ma_nil))) (me_tup ma_nil) (nobehind _ (by decide) (by decide)))))))))))))))))))))
theorem sc__law_judged_right : FnScope ["_law_dice_here", "_law_one", "_law_at", "_law_found", "_law_due", "_law_value"] ["_law_dice_here"] (defScope st__law_judged_right) := ⟨rfl, rfl, rfl, by decide +kernel, rfl, by decide +kernel, by decide +kernel⟩
theorem kn__law_judged_right {P : Program} {w : World} {mg : Str → Option Value} {base : Heap} {M : Md} (m : Mo mg M) : Kn P w mg base M "_law_judged_right" 5 1 F__law_judged_right := by
  obtain ⟨f, fd, F, hm⟩ := m.d__law_judged_right
  exact kn_of (k := 4) F sc__law_judged_right hm (F.bindsN fun _ _ _ _ _ _ us hl => match us, hl with | [_], _ => rfl) fun cdv A outer s H E hr => (mss_cons (ms_set sc__law_judged_right.nd (me_bin op_addA o2_add (me_call rfl (takes_of rfl rfl rfl rfl) (kn__law_py_drawn m) hr (ma_cons me_var (ma_cons me_int ma_nil))) (me_tup (ma_cons me_int ma_nil)))) (mss_cons (ms_set sc__law_judged_right.nd (me_call rfl (takes_of rfl rfl rfl rfl) (kn__law_roll m) hr (ma_cons me_var (ma_cons (me_callB call_len on_len (by rfl) m.f_len boot_len (ma_cons me_var ma_nil)) ma_nil)))) (mss_cons (ms_set sc__law_judged_right.nd (me_lst (ma_cons me_var (ma_cons (me_call rfl (takes_of rfl rfl rfl rfl) (kn__law_py_pairs m) hr (ma_cons me_var ma_nil)) (ma_cons (me_tup ma_nil) (ma_cons (me_bin op_addA o2_add me_var (me_tup (ma_cons me_int ma_nil))) (ma_cons (me_bin op_addA o2_add me_var (me_tup (ma_cons (me_tup (ma_cons me_int (ma_cons me_int ma_nil))) ma_nil))) (ma_cons (me_callTy call_list_of on_list (by rfl) m.f_list PyProof.Rows.boot_list (ma_cons me_var ma_nil)) (ma_cons me_non (ma_cons me_int (ma_cons me_str (ma_cons me_empty (ma_cons (me_tup (ma_cons me_int ma_nil)) (ma_cons (me_tup (ma_cons me_bl ma_nil)) (ma_cons (me_tup (ma_cons (me_tup (ma_cons me_int (ma_cons me_int ma_nil))) ma_nil)) (ma_cons (me_tup (ma_cons (me_tup (ma_cons me_int (ma_cons me_int ma_nil))) ma_nil)) ma_nil)))))))))))))))) (mss_cons (ms_set sc__law_judged_right.nd (me_bin op_addA o2_add me_var (me_lst (ma_cons (me_bin op_addA o2_add (me_bin op_addA o2_add (me_slice rfl me_var mo_none (mo_some me_var)) (me_tup (ma_cons me_non ma_nil))) (me_slice rfl me_var (mo_some (me_bin op_addA o2_add me_var me_int)) mo_none)) (ma_cons (me_bin op_addA o2_add (me_bin op_addA o2_add (me_slice rfl me_var mo_none (mo_some me_var)) (me_tup (ma_cons me_str ma_nil))) (me_slice rfl me_var (mo_some (me_bin op_addA o2_add me_var me_int)) mo_none)) (ma_cons (me_bin op_mulA o2_mul (me_tup (ma_cons me_int ma_nil)) me_int) (ma_cons (me_bin op_mulA o2_mul (me_tup (ma_cons me_int ma_nil)) me_int) (ma_cons (me_tup (ma_cons (me_tup (ma_cons me_int (ma_cons me_int (ma_cons me_int ma_nil)))) ma_nil)) (ma_cons (me_tup (ma_cons (me_lst (ma_cons me_int (ma_cons me_int ma_nil))) ma_nil)) ma_nil))))))))) (mss_cons (ms_set sc__law_judged_right.nd (me_bin op_addA o2_add me_var (me_lst (ma_cons (me_bin op_addA o2_add (me_bin op_addA o2_add (me_slice rfl me_var mo_none (mo_some me_var)) (me_tup (ma_cons (me_tup (ma_cons me_int (ma_cons (me_neg me_int) ma_nil))) ma_nil))) (me_slice rfl me_var (mo_some (me_bin op_addA o2_add me_var me_int)) mo_none)) (ma_cons (me_tup (ma_cons (me_bin op_pow o2_pow me_int me_int) ma_nil)) (ma_cons (me_tup (ma_cons (me_bin op_sub o2_sub (me_bin op_pow o2_pow me_int me_int) me_int) ma_nil)) (ma_cons (me_tup (ma_cons (me_tup (ma_cons (me_bin op_pow o2_pow me_int me_int) (ma_cons me_int ma_nil))) ma_nil)) ma_nil))))))) (mss_cons (ms_set sc__law_judged_right.nd (me_lst (ma_cons me_bl (ma_cons me_bl (ma_cons me_bl (ma_cons me_bl (ma_cons me_bl (ma_cons me_bl (ma_cons me_bl (ma_cons me_bl (ma_cons me_bl (ma_cons me_bl (ma_cons me_bl (ma_cons me_bl (ma_cons me_bl (ma_cons me_bl ma_nil)))))))))))))))) (mss_cons (ms_set sc__law_judged_right.nd (me_bin op_addA o2_add me_var (me_lst (ma_cons me_bl (ma_cons me_bl (ma_cons me_bl (ma_cons me_bl (ma_cons me_bl (ma_cons me_bl (ma_cons me_bl (ma_cons me_bl (ma_cons me_bl (ma_cons me_bl ma_nil))))))))))))) (mss_one (ms_ret (me_cmp (op_eqD hr.units) o2_eq (me_lc (own := [("_law_value", 5)]) rfl rfl sc__law_judged_right.nd (mi_d rfl me_var) (by first | rfl | decide +kernel) (fun _ _ _ _ _ => (mg_nm sc__law_judged_right.nd)) (fun _ _ _ _ _ => mts_nil) (fun _ _ _ _ _ => (me_call rfl L2.takes0 (kn_is_poly m) hr (ma_cons me_var ma_nil)))) me_var (nobehind _ (by decide) (by decide))))))))))))
theorem sc_law : FnScope ["_law_script", "_law_spot", "_law_dice_here", "_law_told"] ["_law_script"] (defScope st_law) := ⟨rfl, rfl, rfl, by decide +kernel, rfl, by decide +kernel, by decide +kernel⟩
theorem fo_law {P : Program} {w : World} {mg : Str → Option Value} {base : Heap} {M : Md} (m : Mo mg M) {f : Addr} {fd : FuncData} (F : FunD M.K "law" "law" (defArgs st_law) (defBody st_law) (defScope st_law) [] [] f fd) : FnOk P w M.K mg base (L2.CX P w) 9 f fd ["_law_script"] (spF M 1 F_law) :=
  fok_of (k := 8) F sc_law fun cdv A outer s H E hr => (mss_cons (ms_for rfl (passes_of rfl) rfl (mi_range1 m.f_range (ma_cons (me_callB (call_max2 rfl) on_max2 (by rfl) m.f_max boot_max (ma_cons me_int (ma_cons (me_callB (call_min2 rfl) on_min2 (by rfl) m.f_min boot_min (ma_cons me_int (ma_cons (me_callB call_len on_len (by rfl) m.f_len boot_len (ma_cons me_var ma_nil)) ma_nil))) ma_nil))) ma_nil)) (mg_nm sc_law.nd) (mss_cons (ms_set sc_law.nd (me_call rfl (takes_of rfl rfl rfl rfl) (kn__law_dice m) hr (ma_cons me_var (ma_cons me_var ma_nil)))) (mss_one (ms_if (PW.pt (mw_or (mt_not (mt_tru rfl (me_call rfl (takes_of rfl rfl rfl rfl) (kn__law_right m) hr (ma_cons me_var ma_nil)))) (mw_or (mt_not (mt_tru rfl (me_call rfl (takes_of rfl rfl rfl rfl) (kn__law_right m) hr (ma_cons me_var ma_nil)))) (mw_or (mt_not (mt_tru rfl (me_call rfl (takes_of rfl rfl rfl rfl) (kn__law_right m) hr (ma_cons me_var ma_nil)))) (mw_or1 (mt_not (mt_tru rfl (me_call rfl (takes_of rfl rfl rfl rfl) (kn__law_judged_right m) hr (ma_cons me_var ma_nil))))))))) (mss_one (ms_ret me_bl)) mss_nil)))) (mss_cons (ms_set sc_law.nd (me_lst (ma_cons (me_call rfl (takes_of rfl rfl rfl rfl) (kn_poly_sum m) hr (ma_cons (me_tup (ma_cons (me_neg me_int) (ma_cons me_int (ma_cons me_int ma_nil)))) (ma_cons (me_tup (ma_cons me_int (ma_cons (me_neg me_int) ma_nil))) ma_nil))) (ma_cons (me_call rfl (takes_of rfl rfl rfl rfl) (kn_poly_product m) hr (ma_cons (me_tup (ma_cons (me_neg me_int) (ma_cons me_int (ma_cons me_int ma_nil)))) (ma_cons (me_tup (ma_cons me_int (ma_cons (me_tup (ma_cons me_int (ma_cons me_int ma_nil))) ma_nil))) ma_nil))) (ma_cons (me_call rfl (takes_of rfl rfl rfl rfl) (kn_derived m) hr (ma_cons (me_tup (ma_cons (me_neg me_int) (ma_cons me_int (ma_cons me_int ma_nil)))) ma_nil)) (ma_cons (me_call rfl (takes_of rfl rfl rfl rfl) (kn_derived m) hr (ma_cons (me_tup (ma_cons me_int ma_nil)) ma_nil)) (ma_cons (me_call rfl (takes_of rfl rfl rfl rfl) (kn_poly_sum m) hr (ma_cons (me_tup ma_nil) (ma_cons (me_tup ma_nil) ma_nil))) ma_nil))))))) (mss_cons (ms_if (mt_cmp (op_neD hr.units) o2_ne me_var (me_lst (ma_cons (me_tup (ma_cons (me_tup (ma_cons me_int (ma_cons me_int ma_nil))) (ma_cons (me_tup (ma_cons me_int (ma_cons me_int ma_nil))) (ma_cons (me_tup (ma_cons me_int (ma_cons me_int ma_nil))) ma_nil)))) (ma_cons (me_tup (ma_cons (me_tup (ma_cons me_int (ma_cons me_int ma_nil))) (ma_cons (me_tup (ma_cons (me_neg me_int) (ma_cons me_int ma_nil))) (ma_cons (me_tup (ma_cons me_int (ma_cons me_int ma_nil))) (ma_cons (me_tup (ma_cons me_int (ma_cons me_int ma_nil))) ma_nil))))) (ma_cons (me_tup (ma_cons (me_tup (ma_cons me_int (ma_cons me_int ma_nil))) (ma_cons (me_tup (ma_cons me_int (ma_cons me_int ma_nil))) ma_nil))) (ma_cons (me_tup ma_nil) (ma_cons (me_tup ma_nil) ma_nil)))))) (nobehind _ (by decide) (by decide))) (mss_one (ms_ret me_bl)) mss_nil) (mss_one (ms_ret (me_cmp (op_eqD hr.units) o2_eq (me_lst (ma_cons (me_call rfl (takes_of rfl rfl rfl rfl) (kn_poly_value m) hr (ma_cons (me_tup (ma_cons (me_neg me_int) (ma_cons me_int (ma_cons me_int ma_nil)))) (ma_cons (me_tup (ma_cons me_int (ma_cons me_int ma_nil))) ma_nil))) (ma_cons (me_call rfl (takes_of rfl rfl rfl rfl) (kn_poly_value m) hr (ma_cons (me_tup ma_nil) (ma_cons me_int ma_nil))) (ma_cons (me_call rfl (takes_of rfl rfl rfl rfl) (kn_poly_product m) hr (ma_cons (me_tup ma_nil) (ma_cons (me_tup (ma_cons me_int (ma_cons me_int ma_nil))) ma_nil))) ma_nil)))) (me_lst (ma_cons (me_tup (ma_cons (me_neg me_int) (ma_cons me_int ma_nil))) (ma_cons (me_tup (ma_cons me_int (ma_cons me_int ma_nil))) (ma_cons (me_tup ma_nil) ma_nil)))) (nobehind _ (by decide) (by decide))))))))
end K08
set_option Elab.async false
set_option linter.all false
set_option maxRecDepth 100000
set_option maxHeartbeats 4000000
/-! Reasoning about the plain functions. -/
namespace MP
open PySem

def Wp {α : Type} (r : Rs α) (Q : α → Sto → Prop) : Prop := match r with
  | .ok a S => Q a S
  | _ => False
section
variable {α β : Type} {r : Rs α} {Q Q' : α → Sto → Prop} {R : β → Sto → Prop}
@[simp] theorem wp_ok {a : α} {S : Sto} : Wp (.ok a S) Q = Q a S := rfl
@[simp] theorem wp_stuck : Wp (α := α) .stuck Q = False := rfl
@[simp] theorem wp_exc {x : Xn} {S : Sto} : Wp (α := α) (.exc x S) Q = False := rfl
@[simp] theorem wp_bind {k : α → Sto → Rs β} : Wp (r.bind k) R = Wp r (fun a S => Wp (k a S) R) := by cases r <;> rfl
theorem Wp.mono (h : Wp r Q) (i : ∀ a S, Q a S → Q' a S) : Wp r Q' := by
  cases r with
  | ok a S => exact i a S h
  | _ => exact h.elim
theorem Wp.out (h : Wp r Q) : ∃ a S, r = .ok a S ∧ Q a S := by
  cases r with
  | ok a S => exact ⟨a, S, rfl, h⟩
  | _ => exact h.elim
theorem wp_of {a : α} {S : Sto} (e : r = .ok a S) (h : Q a S) : Wp r Q := by rw [e]; exact h
end
def WpS (r : RsS) (Q : Fl → Sto → Prop) : Prop := match r with
  | .fl f S => Q f S
  | _ => False
def sq (h : Fst) (Q : Fl → Sto → Prop) : Fl → Sto → Prop := fun fl S => match fl with
  | .nx ρ => WpS (h ρ S) Q
  | x => Q x S
def rn (Q : D → Sto → Prop) : Fl → Sto → Prop := fun fl S => match fl with
  | .nx _ => Q .non S
  | .ret d => Q d S
  | _ => False
section
variable {Q Q' : Fl → Sto → Prop} {h f : Fst} {ρ : Rho} {S : Sto} {d : D}
@[simp] theorem wps_fl {x : Fl} : WpS (.fl x S) Q = Q x S := rfl
@[simp] theorem wps_stuck : WpS .stuck Q = False := rfl
@[simp] theorem wps_exc {x : Xn} : WpS (.exc x ρ S) Q = False := rfl
@[simp] theorem sq_nx : sq h Q (.nx ρ) S = WpS (h ρ S) Q := rfl
@[simp] theorem sq_ret : sq h Q (.ret d) S = Q (.ret d) S := rfl
@[simp] theorem sq_brk : sq h Q (.brk ρ) S = Q (.brk ρ) S := rfl
@[simp] theorem sq_ct : sq h Q (.ct ρ) S = Q (.ct ρ) S := rfl
@[simp] theorem rn_nx {P : D → Sto → Prop} : rn P (.nx ρ) S = P .non S := rfl
@[simp] theorem rn_ret {P : D → Sto → Prop} : rn P (.ret d) S = P d S := rfl
@[simp] theorem wps_then {α : Type} {r : Rs α} {k : α → Sto → RsS} : WpS (thenS r ρ k) Q = Wp r (fun a S => WpS (k a S) Q) := by cases r <;> rfl
@[simp] theorem wps_seq : WpS (sSeq f h ρ S) Q = WpS (f ρ S) (sq h Q) := by
  unfold sSeq
  cases e : f ρ S with
  | fl x T => cases x <;> rfl
  | _ => rfl
@[simp] theorem wp_run {N : Nat} {b : Fst} {ds : List D} {P : D → Sto → Prop} : Wp (runF N b ds S) P = WpS (b (entry N ds) S) (rn P) := by
  unfold runF
  cases e : b (entry N ds) S with
  | fl x T => cases x <;> rfl
  | _ => rfl
theorem WpS.mono {r : RsS} (h : WpS r Q) (i : ∀ a S, Q a S → Q' a S) : WpS r Q' := by
  cases r with
  | fl a S => exact i a S h
  | _ => exact h.elim
@[simp] theorem wps_nil : WpS (sNil ρ S) Q = Q (.nx ρ) S := rfl
@[simp] theorem wps_brk : WpS (sBrk ρ S) Q = Q (.brk ρ) S := rfl
@[simp] theorem wps_ct : WpS (sCt ρ S) Q = Q (.ct ρ) S := rfl
@[simp] theorem wps_retN : WpS (sRetN ρ S) Q = Q (.ret .non) S := rfl
@[simp] theorem wps_ret {e : Fe} : WpS (sRet e ρ S) Q = Wp (e ρ S) (fun d S1 => Q (.ret d) S1) := by unfold sRet; rw [wps_then]; rfl
@[simp] theorem wps_expr {e : Fe} : WpS (sExpr e ρ S) Q = Wp (e ρ S) (fun d S1 => Q (.nx ρ) S1) := by unfold sExpr; rw [wps_then]; rfl
@[simp] theorem wps_set {i : Nat} {e : Fe} : WpS (sSet i e ρ S) Q = Wp (e ρ S) (fun d S1 => Q (.nx (ρ.set i (some d))) S1) := by unfold sSet; rw [wps_then]; rfl
@[simp] theorem wps_asg {t : Tg} {e : Fe} : WpS (sAsg t e ρ S) Q = Wp (e ρ S) (fun d S1 => match setT t d ρ with
  | some ρ1 => Q (.nx ρ1) S1
  | none => False) := by
  unfold sAsg
  rw [wps_then]
  congr 1
  funext d S1
  cases setT t d ρ <;> rfl
@[simp] theorem wps_par {i j : Nat} {e : Fs} : WpS (sPar i j e ρ S) Q = Wp (e ρ S) (fun ds S1 => match ds with
  | [a, b] => Q (.nx ((ρ.set i (some a)).set j (some b))) S1
  | _ => False) := by
  unfold sPar
  rw [wps_then]
  congr 1
  funext d S1
  exact match d with
    | [] => rfl
    | [_] => rfl
    | [_, _] => rfl
    | _ :: _ :: _ :: _ => rfl
@[simp] theorem wps_par3 {i j l : Nat} {e : Fs} : WpS (sPar3 i j l e ρ S) Q = Wp (e ρ S) (fun ds S1 => match ds with
  | [a, b, c] => Q (.nx (((ρ.set i (some a)).set j (some b)).set l (some c))) S1
  | _ => False) := by
  unfold sPar3
  rw [wps_then]
  congr 1
  funext d S1
  exact match d with
    | [] => rfl
    | [_] => rfl
    | [_, _] => rfl
    | [_, _, _] => rfl
    | _ :: _ :: _ :: _ :: _ => rfl
@[simp] theorem wps_iteR {c : Prop} [Decidable c] {a b : RsS} : WpS (if c then a else b) Q = if c then WpS a Q else WpS b Q := by split <;> rfl
@[simp] theorem wps_if {c : Ft} : WpS (sIf c f h ρ S) Q = Wp (c ρ S) (fun k S1 => if k = true then WpS (f ρ S1) Q else WpS (h ρ S1) Q) := by
  unfold sIf
  rw [wps_then]
  congr 1
  funext k S1
  rw [wps_iteR]
@[simp] theorem wps_aug {i : Nat} {op : F2} {e : Fe} : WpS (sAug i op e ρ S) Q = match ρ[i]? with
  | some (some x) => Wp (e ρ S) (fun y S1 => Wp (op x y S1) fun d S2 => Q (.nx (ρ.set i (some d))) S2)
  | _ => False := by
  unfold sAug
  cases ρ[i]? with
  | none => rfl
  | some x =>
    cases x with
    | none => rfl
    | some x =>
      show WpS (thenS _ ρ _) Q = _
      rw [wps_then, wp_bind]
      rfl
@[simp] theorem wps_put {e o i : Fe} : WpS (sPut e o i ρ S) Q = Wp (e ρ S) (fun d S1 => Wp (o ρ S1) fun x S2 => Wp (i ρ S2) fun y S3 => Wp (putD x y d S3) fun _ S4 => Q (.nx ρ) S4) := by
  unfold sPut
  simp only [wps_then]
  rfl
end

/-! ### expressions -/
section
variable {Q : D → Sto → Prop} {ρ : Rho} {S : Sto}
@[simp] theorem wp_ite {α : Type} {c : Prop} [Decidable c] {a b : Rs α} {P : α → Sto → Prop} : Wp (if c then a else b) P = if c then Wp a P else Wp b P := by split <;> rfl
@[simp] theorem wp_var {i : Nat} : Wp (dVar i ρ S) Q = match ρ[i]? with
  | some (some d) => Q d S
  | _ => False := by
  unfold dVar
  cases ρ[i]? with
  | none => rfl
  | some x => cases x <;> rfl
@[simp] theorem wp_c {d : D} : Wp (dC d ρ S) Q = Q d S := rfl
@[simp] theorem wp_d2 {op : F2} {a b : Fe} : Wp (d2 op a b ρ S) Q = Wp (a ρ S) (fun x S1 => Wp (b ρ S1) fun y S2 => Wp (op x y S2) Q) := by unfold d2; simp only [wp_bind]
@[simp] theorem wp_if {c : Ft} {a b : Fe} : Wp (dIf c a b ρ S) Q = Wp (c ρ S) (fun k S1 => if k = true then Wp (a ρ S1) Q else Wp (b ρ S1) Q) := by
  unfold dIf; rw [wp_bind]
  congr 1
  funext k S1
  rw [wp_ite]
@[simp] theorem wp_neg {a : Fe} : Wp (dNeg a ρ S) Q = Wp (a ρ S) (fun d S1 => match d with
  | .int i => Q (.int (-i)) S1
  | _ => False) := by
  unfold dNeg; rw [wp_bind]
  congr 1
  funext d S1
  cases d <;> rfl
@[simp] theorem wp_isn {n : Bool} {a : Fe} : Wp (dIsN n a ρ S) Q = Wp (a ρ S) (fun d S1 => Q (.bl (if n then !isNonD d else isNonD d)) S1) := by unfold dIsN; rw [wp_bind]; rfl
@[simp] theorem wp_and {a b : Fe} : Wp (dAnd a b ρ S) Q = Wp (a ρ S) (fun d S1 => match d with
  | .bl true => Wp (b ρ S1) Q
  | .bl false => Q (.bl false) S1
  | _ => False) := by
  unfold dAnd; rw [wp_bind]
  congr 1
  funext d S1
  cases d with
  | bl k => cases k <;> rfl
  | _ => rfl
@[simp] theorem wp_or {a b : Fe} : Wp (dOr a b ρ S) Q = Wp (a ρ S) (fun d S1 => match d with
  | .bl true => Q (.bl true) S1
  | .bl false => Wp (b ρ S1) Q
  | _ => False) := by
  unfold dOr; rw [wp_bind]
  congr 1
  funext d S1
  cases d with
  | bl k => cases k <;> rfl
  | _ => rfl
@[simp] theorem wp_not {a : Fe} : Wp (dNot a ρ S) Q = Wp (a ρ S) (fun d S1 => match d with
  | .bl k => Q (.bl (!k)) S1
  | _ => False) := by
  unfold dNot; rw [wp_bind]
  congr 1
  funext d S1
  cases d <;> rfl
@[simp] theorem wp_chain {op op' : F2} {a b c : Fe} : Wp (dChain op op' a b c ρ S) Q = Wp (a ρ S) (fun x S1 => Wp (b ρ S1) fun y S2 => Wp (op x y S2) fun z S3 => match z with
  | .bl true => Wp (c ρ S3) (fun w S4 => Wp (op' y w S4) Q)
  | .bl false => Q (.bl false) S3
  | _ => False) := by
  unfold dChain; simp only [wp_bind]
  congr 1; funext x S1; congr 1; funext y S2; congr 1; funext z S3
  cases z with
  | bl k => cases k <;> simp
  | _ => rfl
@[simp] theorem wp_tup {f : Fs} : Wp (mkTup f ρ S) Q = Wp (f ρ S) (fun ds S1 => if ds.length ≤ sizeLine then Q (.tup ds) S1 else False) := by
  unfold mkTup; rw [wp_bind]
  congr 1; funext ds S1
  rw [wp_ite]; rfl
@[simp] theorem wp_lst {f : Fs} : Wp (mkLst f ρ S) Q = Wp (f ρ S) (fun ds S1 => if ds.length ≤ sizeLine then Q (.ref S1.length) (S1 ++ [.lst ds]) else False) := by
  unfold mkLst; rw [wp_bind]
  congr 1; funext ds S1
  rw [wp_ite]; rfl
@[simp] theorem wp_dN {f : FN} {a : Fs} : Wp (dN f a ρ S) Q = Wp (a ρ S) (fun ds S1 => Wp (f ds S1) Q) := by unfold dN; rw [wp_bind]
@[simp] theorem wp_call {f : FN} {n : Nat} {a : Fs} : Wp (dCall f n a ρ S) Q = Wp (a ρ S) (fun ds S1 => if ds.length = n then Wp (f ds S1) Q else False) := by
  unfold dCall; rw [wp_bind]
  congr 1; funext ds S1
  rw [wp_ite]; rfl
@[simp] theorem wp_isi {b : Ty} {f : Fe} : Wp (dIsi b f ρ S) Q = Wp (f ρ S) (fun d S1 => match tyD d S1 with
  | some a => Q (.bl (Ty.sub a b)) S1
  | Option.none => False) := by
  unfold dIsi; rw [wp_bind]
  congr 1; funext d S1
  cases tyD d S1 <;> rfl
@[simp] theorem wp_sl {a : Fe} {lo hi : Fo} : Wp (dSlice a lo hi ρ S) Q = Wp (a ρ S) (fun d S1 => Wp (lo ρ S1) fun l S2 => Wp (hi ρ S2) fun h S3 => Wp (sliceD d l h S3) Q) := by unfold dSlice; simp only [wp_bind]
@[simp] theorem wp_oN {P : Option Int → Sto → Prop} : Wp (oNone ρ S) P = P none S := rfl
@[simp] theorem wp_oS {a : Fe} {P : Option Int → Sto → Prop} : Wp (oSome a ρ S) P = Wp (a ρ S) (fun d S1 => match d with
  | .int i => P (some i) S1
  | _ => False) := by
  unfold oSome; rw [wp_bind]
  congr 1; funext d S1
  cases d <;> rfl
@[simp] theorem wp_rev {f : Fe} : Wp (dRev f ρ S) Q = Wp (f ρ S) (fun d S1 => Wp (revD d S1) Q) := by unfold dRev; rw [wp_bind]
@[simp] theorem wp_empty : Wp (dEmpty ρ S) Q = Q (.ref S.length) (S ++ [.dk []]) := rfl
@[simp] theorem wp_ml {f : FM} {o : Fe} {a : Fs} : Wp (dML f o a ρ S) Q = Wp (o ρ S) (fun d S1 => if isLstD d S1 = true then Wp (a ρ S1) (fun ds S2 => Wp (f d ds S2) Q) else False) := by
  unfold dML; rw [wp_bind]
  congr 1; funext d S1
  rw [wp_ite]; simp
@[simp] theorem wp_ml0 {f : FM} {o : Fe} : Wp (dML0 f o ρ S) Q = Wp (o ρ S) (fun d S1 => if isLstD d S1 = true then Wp (f d [] S1) Q else False) := by
  unfold dML0; rw [wp_bind]
  congr 1; funext d S1
  rw [wp_ite]; rfl
end
section
variable {P : List D → Sto → Prop} {ρ : Rho} {S : Sto}
@[simp] theorem wp_nil : Wp (aNil ρ S) P = P [] S := rfl
@[simp] theorem wp_cons {a : Fe} {r : Fs} : Wp (aCons a r ρ S) P = Wp (a ρ S) (fun d S1 => Wp (r ρ S1) fun ds S2 => P (d :: ds) S2) := by unfold aCons; simp only [wp_bind, wp_ok]
@[simp] theorem wp_star {a : Fe} {r : Fs} : Wp (aStar a r ρ S) P = Wp (a ρ S) (fun d S1 => match itemsD d S1 with
  | some es => Wp (r ρ S1) (fun ds S2 => P (es ++ ds) S2)
  | none => False) := by
  unfold aStar; rw [wp_bind]
  congr 1; funext d S1
  cases itemsD d S1 with
  | none => rfl
  | some es =>
    show Wp ((r ρ S1).bind _) P = _
    rw [wp_bind]
    rfl
end
section
variable {P : Bool → Sto → Prop} {ρ : Rho} {S : Sto}
@[simp] theorem wp_fB {f : Fe} : Wp (fB f ρ S) P = Wp (f ρ S) (fun d S1 => match d with
  | .bl k => P k S1
  | _ => False) := by
  unfold fB; rw [wp_bind]
  congr 1; funext d S1
  cases d <;> rfl
@[simp] theorem wp_fT {f : Fe} : Wp (fTru f ρ S) P = Wp (f ρ S) (fun d S1 => Wp (truD d S1) P) := by unfold fTru; rw [wp_bind]
@[simp] theorem wp_fAnd {a b : Ft} : Wp (fAnd a b ρ S) P = Wp (a ρ S) (fun k S1 => if k = true then Wp (b ρ S1) P else P false S1) := by
  unfold fAnd; rw [wp_bind]
  congr 1; funext d S1
  rw [wp_ite]; rfl
@[simp] theorem wp_fOr {a b : Ft} : Wp (fOr a b ρ S) P = Wp (a ρ S) (fun k S1 => if k = true then P true S1 else Wp (b ρ S1) P) := by
  unfold fOr; rw [wp_bind]
  congr 1; funext d S1
  rw [wp_ite]; rfl
@[simp] theorem wp_fNot {a : Ft} : Wp (fNot a ρ S) P = Wp (a ρ S) (fun k S1 => P (!k) S1) := by unfold fNot; rw [wp_bind]; rfl
@[simp] theorem wp_yes : Wp (fYes ρ S) P = P true S := rfl
end

/-! ### operators on plain values -/
section
variable {S : Sto} {i j : Int}
@[simp] theorem dAdd_int : dAdd (.int i) (.int j) S = .ok (.int (i + j)) S := rfl
@[simp] theorem dAdd_tup {a b : List D} : dAdd (.tup a) (.tup b) S = if a.length + b.length ≤ sizeLine then .ok (.tup (a ++ b)) S else .stuck := rfl
@[simp] theorem dSub_int : dSub (.int i) (.int j) S = .ok (.int (i - j)) S := rfl
@[simp] theorem dMul_int : dMul (.int i) (.int j) S = if szMul i j = true then .ok (.int (i * j)) S else .stuck := rfl
@[simp] theorem dIMul_int : dIMul (.int i) (.int j) S = if szMul i j = true then .ok (.int (i * j)) S else .stuck := rfl
@[simp] theorem dIAdd_int : dIAdd (.int i) (.int j) S = .ok (.int (i + j)) S := rfl
@[simp] theorem dFdiv_int : dFdiv (.int i) (.int j) S = if szDiv j = true then .ok (.int (i.fdiv j)) S else .stuck := rfl
@[simp] theorem dMod_int : dMod (.int i) (.int j) S = if j = 0 then .stuck else .ok (.int (i.fmod j)) S := rfl
@[simp] theorem dPow_int : dPow (.int i) (.int j) S = if 0 ≤ j ∧ j ≤ 1000000 ∧ i.natAbs < 2 ^ 64 then .ok (.int (i ^ j.toNat)) S else .stuck := rfl
@[simp] theorem dIB_int {p : Int → Int → Bool} : dIB p (.int i) (.int j) S = .ok (.bl (p i j)) S := rfl
@[simp] theorem truD_bl {b : Bool} : truD (.bl b) S = .ok b S := rfl
@[simp] theorem truD_int : truD (.int i) S = .ok (i != 0) S := rfl
@[simp] theorem isNon_int : isNonD (.int i) = false := rfl
@[simp] theorem isNon_tup {a : List D} : isNonD (.tup a) = false := rfl
@[simp] theorem isNon_non : isNonD .non = true := rfl
@[simp] theorem nLen_tup {a : List D} : nLen [.tup a] S = .ok (.int (a.length : Nat)) S := rfl
@[simp] theorem nLen_fl {a : List D} : nLen [.fl a] S = .ok (.int (a.length : Nat)) S := rfl
theorem nLen_ref {n : Nat} {a : List D} (h : S[n]? = some (.lst a)) : nLen [.ref n] S = .ok (.int (a.length : Nat)) S := by
  unfold nLen itemsD; simp [h]
@[simp] theorem nAbs_int : nAbs [.int i] S = .ok (.int (if i < 0 then -i else i)) S := rfl
@[simp] theorem nMax_int : nMax2 [.int i, .int j] S = .ok (.int (if j > i then j else i)) S := rfl
@[simp] theorem nMin_int : nMin2 [.int i, .int j] S = .ok (.int (if j < i then j else i)) S := rfl
@[simp] theorem nInt_int : nInt [.int i] S = .ok (.int i) S := rfl
@[simp] theorem nInt_bl {k : Bool} : nInt [.bl k] S = .ok (.int (if k then 1 else 0)) S := rfl
@[simp] theorem nGcd_int : nGcd [.int i, .int j] S = .ok (.int ((Nat.gcd i.natAbs j.natAbs : Nat) : Int)) S := rfl
@[simp] theorem nTuple_tup {a : List D} : nTuple [.tup a] S = .ok (.tup a) S := rfl
theorem nTuple_ref {n : Nat} {a : List D} (h : S[n]? = some (.lst a)) : nTuple [.ref n] S = .ok (.tup a) S := by
  unfold nTuple lstD; simp [h]
@[simp] theorem nList_tup {a : List D} : nList [.tup a] S = .ok (.ref S.length) (S ++ [.lst a]) := rfl
theorem nList_ref {n : Nat} {a : List D} (h : S[n]? = some (.lst a)) : nList [.ref n] S = .ok (.ref S.length) (S ++ [.lst a]) := by
  unfold nList itemsD; simp [h]
@[simp] theorem items_tup {a : List D} : itemsD (.tup a) S = some a := rfl
theorem items_ref {n : Nat} {a : List D} (h : S[n]? = some (.lst a)) : itemsD (.ref n) S = some a := by
  unfold itemsD; simp [h]
@[simp] theorem dAt_tup {a : List D} : dAt (.tup a) (.int i) S = match L2.atI a i with
  | some d => .ok d S
  | none => .stuck := rfl
@[simp] theorem dAt_fl {a : List D} : dAt (.fl a) (.int i) S = match L2.atI a i with
  | some d => .ok d S
  | none => .stuck := rfl
theorem dAt_ref {n : Nat} {a : List D} (h : S[n]? = some (.lst a)) : dAt (.ref n) (.int i) S = match L2.atI a i with
  | some d => .ok d S
  | none => .stuck := by
  unfold dAt
  simp only [h]
  try rfl
@[simp] theorem ty_int : tyD (.int i) S = some .int := rfl
@[simp] theorem ty_tup {a : List D} : tyD (.tup a) S = some .tuple := rfl
@[simp] theorem ty_bl {b : Bool} : tyD (.bl b) S = some .bool := rfl
@[simp] theorem ty_str {b : Str} : tyD (.str b) S = some .str := rfl
@[simp] theorem ty_non : tyD .non S = some .none := rfl
@[simp] theorem ty_fl {a : List D} : tyD (.fl a) S = some .list := rfl
theorem ty_ref {n : Nat} {a : List D} (h : S[n]? = some (.lst a)) : tyD (.ref n) S = some .list := by unfold tyD; simp [h]
theorem ty_dk {n : Nat} {a : List (L2.Key × D)} (h : S[n]? = some (.dk a)) : tyD (.ref n) S = some .dict := by unfold tyD; simp [h]
theorem isLst_ref {n : Nat} {a : List D} (h : S[n]? = some (.lst a)) : isLstD (.ref n) S = true := by unfold isLstD lstD; simp [h]
end
/-! ### items of literal lists -/
theorem atI_nat {α : Type} {xs : List α} {k : Nat} : L2.atI xs (k : Int) = xs[k]? := by
  unfold L2.atI L2.ixN
  by_cases h : k < xs.length
  · simp [h]
  · simp [h]
theorem atI_last {α : Type} {xs : List α} {k : Nat} (h : k < xs.length) : L2.atI xs (-((k : Int) + 1)) = xs[xs.length - 1 - k]? := by
  unfold L2.atI L2.ixN
  have h1 : ¬ (0 ≤ -((k : Int) + 1)) := by omega
  have h2 : -(xs.length : Int) ≤ -((k : Int) + 1) := by omega
  rw [if_neg h1, if_pos h2]
  have e : (-((k : Int) + 1) + (xs.length : Int)).toNat = xs.length - 1 - k := by omega
  simp [e]

/-! ### stores that only grow -/
structure Ex (S T : Sto) : Prop where
  len : S.length ≤ T.length
  at_ : ∀ n, n < S.length → T[n]? = S[n]?
theorem Ex.refl {S : Sto} : Ex S S := ⟨Nat.le_refl _, fun _ _ => rfl⟩
theorem Ex.trans {S T U : Sto} (a : Ex S T) (b : Ex T U) : Ex S U := ⟨Nat.le_trans a.len b.len, fun n h => (b.at_ n (Nat.lt_of_lt_of_le h a.len)).trans (a.at_ n h)⟩
theorem Ex.app {S T : Sto} (R : Sto) (a : Ex S T) : Ex S (T ++ R) := ⟨by rw [List.length_append]; have := a.len; omega, fun n h => by rw [List.getElem?_append_left (Nat.lt_of_lt_of_le h a.len)]; exact a.at_ n h⟩
theorem Ex.set {S T : Sto} {n : Nat} {o : SO} (a : Ex S T) (h : S.length ≤ n) : Ex S (T.set n o) := ⟨by rw [List.length_set]; exact a.len, fun m hm => by rw [List.getElem?_set_ne (by omega)]; exact a.at_ m hm⟩
theorem Ex.get {S T : Sto} (a : Ex S T) {n : Nat} {o : SO} (h : S[n]? = some o) : T[n]? = some o := by
  rw [a.at_ n (List.getElem?_eq_some_iff.mp h).1]; exact h

/-! ### comprehensions -/
/-- every item's element is there, by f, the store only growing -/
theorem lc_map {α : Type} {ok : Sto → Bool} {t : Tg} {e : Fe} {ρ : Rho} {enc : α → D} {f : α → D} {Q : List D → Sto → Prop} : ∀ {xs : List α} {S0 S : Sto}, Ex S0 S →
    (∀ x, x ∈ xs → ∀ T, Ex S0 T → ∃ ρ1, setT t (enc x) ρ = some ρ1 ∧ Wp (e ρ1 T) fun y U => y = f x ∧ Ex T U) → (∀ T, Ex S0 T → ok T = true) →
    (∀ T, Ex S T → Q (xs.map f) T) → Wp (lcL ok t fYes e ρ (xs.map enc) S) Q
  | [], S0, S, h0, he, hok, hq => by exact hq S Ex.refl
  | x :: xs, S0, S, h0, he, hok, hq => by
    obtain ⟨ρ1, h1, h2⟩ := he x (List.mem_cons_self) S h0
    obtain ⟨y, U, h3, rfl, h5⟩ := h2.out
    show Wp (lcL ok t fYes e ρ (enc x :: xs.map enc) S) Q
    unfold lcL
    rw [h1]
    show Wp (match e ρ1 S with
      | .ok y S2 => if ok S2 = true then (lcL ok t fYes e ρ (xs.map enc) S2).bind fun ys S3 => .ok (y :: ys) S3 else .stuck
      | _ => .stuck) Q
    rw [h3]
    show Wp (if ok U = true then _ else _) Q
    rw [if_pos (hok U (h0.trans h5)), wp_bind]
    exact lc_map (h0.trans h5) (fun z hz => he z (List.mem_cons_of_mem _ hz)) hok fun T hT => hq T (h5.trans hT)
/-- with a condition -/
theorem lc_filter {α : Type} {ok : Sto → Bool} {t : Tg} {c : Ft} {e : Fe} {ρ : Rho} {enc : α → D} {p : α → Bool} {f : α → D} {Q : List D → Sto → Prop} : ∀ {xs : List α} {S0 S : Sto}, Ex S0 S →
    (∀ x, x ∈ xs → ∀ T, Ex S0 T → ∃ ρ1, setT t (enc x) ρ = some ρ1 ∧ Wp (c ρ1 T) fun k U => k = p x ∧ Ex T U ∧ (k = true → Wp (e ρ1 U) fun y V => y = f x ∧ Ex U V)) → (∀ T, Ex S0 T → ok T = true) →
    (∀ T, Ex S T → Q ((xs.filter p).map f) T) → Wp (lcL ok t c e ρ (xs.map enc) S) Q
  | [], S0, S, h0, he, hok, hq => by exact hq S Ex.refl
  | x :: xs, S0, S, h0, he, hok, hq => by
    obtain ⟨ρ1, h1, h2⟩ := he x (List.mem_cons_self) S h0
    obtain ⟨k, U, h3, rfl, h5, h6⟩ := h2.out
    show Wp (lcL ok t c e ρ (enc x :: xs.map enc) S) Q
    unfold lcL
    rw [h1]
    show Wp (match c ρ1 S with
      | .ok true S1 => (match e ρ1 S1 with
        | .ok y S2 => if ok S2 = true then (lcL ok t c e ρ (xs.map enc) S2).bind fun ys S3 => .ok (y :: ys) S3 else .stuck
        | _ => .stuck)
      | .ok false S1 => if ok S1 = true then lcL ok t c e ρ (xs.map enc) S1 else .stuck
      | _ => .stuck) Q
    rw [h3]
    cases hp : p x with
    | false =>
      show Wp (if ok U = true then _ else _) Q
      rw [if_pos (hok U (h0.trans h5))]
      refine lc_filter (h0.trans h5) (fun z hz => he z (List.mem_cons_of_mem _ hz)) hok fun T hT => ?_
      have := hq T (h5.trans hT)
      rwa [List.filter_cons_of_neg (by simp [hp])] at this
    | true =>
      obtain ⟨y, V, h7, rfl, h8⟩ := (h6 hp).out
      show Wp (match e ρ1 U with
        | .ok y S2 => if ok S2 = true then (lcL ok t c e ρ (xs.map enc) S2).bind fun ys S3 => .ok (y :: ys) S3 else .stuck
        | _ => .stuck) Q
      rw [h7]
      show Wp (if ok V = true then _ else _) Q
      have h9 := h5.trans h8
      rw [if_pos (hok V (h0.trans h9)), wp_bind]
      refine lc_filter (h0.trans h9) (fun z hz => he z (List.mem_cons_of_mem _ hz)) hok fun T hT => ?_
      have := hq T (h9.trans hT)
      rwa [List.filter_cons_of_pos (by simp [hp])] at this
theorem wp_lc {f : Fi} {t : Tg} {c : Ft} {e : Fe} {vs : List Nat} {ρ : Rho} {S : Sto} {Q : D → Sto → Prop} : Wp (dLc f t c e vs ρ S) Q = Wp (f ρ S) (fun src S1 => Wp (lcL src.ok t c e (wipeR ρ vs) src.its S1) fun ys T => if ys.length ≤ sizeLine then Q (.ref T.length) (T ++ [.lst ys]) else False) := by
  unfold dLc
  rw [wp_bind]
  congr 1; funext src S1
  rw [wp_bind]
  congr 1; funext ys T
  unfold lcFin
  rw [wp_ite]; rfl
/-- one turn of a loop at a time -/
theorem for_inv {ok : Sto → Bool} {t : Tg} {b : Fst} {Q : Fl → Sto → Prop} (I : List D → Rho → Sto → Prop) (hs : ∀ d ds ρ S, I (d :: ds) ρ S → ∃ ρ1, setT t d ρ = some ρ1 ∧ WpS (b ρ1 S) fun fl T => match fl with
      | .nx ρ2 => ok T = true ∧ I ds ρ2 T
      | .ct ρ2 => ok T = true ∧ I ds ρ2 T
      | .brk ρ2 => Q (.nx ρ2) T
      | .ret d => Q (.ret d) T) (hq : ∀ ρ S, I [] ρ S → Q (.nx ρ) S) : ∀ {ds : List D} {ρ : Rho} {S : Sto}, I ds ρ S → WpS (forL ok t b ds ρ S) Q
  | [], ρ, S, h => hq ρ S h
  | d :: ds, ρ, S, h => by
    obtain ⟨ρ1, h1, h2⟩ := hs d ds ρ S h
    unfold forL
    rw [h1]
    show WpS (match b ρ1 S with
      | .fl (.nx ρ2) S2 => if ok S2 = true then forL ok t b ds ρ2 S2 else .stuck
      | .fl (.ct ρ2) S2 => if ok S2 = true then forL ok t b ds ρ2 S2 else .stuck
      | .fl (.brk ρ2) S2 => .fl (.nx ρ2) S2
      | r => r) Q
    cases hb : b ρ1 S with
    | stuck => rw [hb] at h2; exact h2.elim
    | exc x ρ S => rw [hb] at h2; exact h2.elim
    | fl fl T =>
      rw [hb] at h2
      cases fl with
      | nx ρ2 =>
        show WpS (if ok T = true then _ else _) Q
        obtain ⟨h3, h4⟩ := h2
        rw [if_pos h3]
        exact for_inv I hs hq h4
      | ct ρ2 =>
        show WpS (if ok T = true then _ else _) Q
        obtain ⟨h3, h4⟩ := h2
        rw [if_pos h3]
        exact for_inv I hs hq h4
      | brk ρ2 => exact h2
      | ret d => exact h2
theorem wps_for {f : Fi} {t : Tg} {b : Fst} {ρ : Rho} {S : Sto} {Q : Fl → Sto → Prop} : WpS (sFor f t b ρ S) Q = Wp (f ρ S) (fun src S1 => WpS (forL src.ok t b src.its ρ S1) Q) := by unfold sFor; rw [wps_then]
/-- a loop with a measure -/
theorem while_inv {c : Ft} {b : Fst} {Q : Fl → Sto → Prop} (I : Nat → Rho → Sto → Prop) (hs : ∀ m ρ S, I m ρ S → Wp (c ρ S) fun k T => if k = true then ∃ m', m = m' + 1 ∧ WpS (b ρ T) (fun fl U => match fl with
      | .nx ρ2 => I m' ρ2 U
      | .ct ρ2 => I m' ρ2 U
      | .brk ρ2 => Q (.nx ρ2) U
      | .ret d => Q (.ret d) U) else Q (.nx ρ) T) : ∀ {n m : Nat} {ρ : Rho} {S : Sto}, m < n → I m ρ S → WpS (whL c b n ρ S) Q
  | 0, m, ρ, S, hm, h => absurd hm (Nat.not_lt_zero _)
  | n + 1, m, ρ, S, hm, h => by
    obtain ⟨k, T, h1, h2⟩ := (hs m ρ S h).out
    unfold whL
    rw [h1]
    show WpS (if k = true then _ else _) Q
    cases k with
    | false => exact h2
    | true =>
      obtain ⟨m', rfl, h3⟩ := h2
      show WpS (match b ρ T with
        | .fl (.nx ρ2) S2 => whL c b n ρ2 S2
        | .fl (.ct ρ2) S2 => whL c b n ρ2 S2
        | .fl (.brk ρ2) S2 => .fl (.nx ρ2) S2
        | r => r) Q
      cases hb : b ρ T with
      | stuck => rw [hb] at h3; exact h3.elim
      | exc x ρ S => rw [hb] at h3; exact h3.elim
      | fl fl U =>
        rw [hb] at h3
        cases fl with
        | nx ρ2 => exact while_inv I hs (by omega) h3
        | ct ρ2 => exact while_inv I hs (by omega) h3
        | brk ρ2 => exact h3
        | ret d => exact h3
theorem wps_while {c : Ft} {b : Fst} {ρ : Rho} {S : Sto} {Q : Fl → Sto → Prop} : WpS (sWhile c b ρ S) Q = WpS (whL c b whMost ρ S) Q := rfl

/-! ### encodings, equality -/
class En (α : Type) where
  d : α → D
  p : α → PyData
  dep : Nat
  hp : ∀ a n S, toPy (dep + n) S (d a) = some (p a)
  lay : ∀ a, (p a).canLay0 = true
  hd : ∀ a, (p a).depth ≤ dep
  eq : ∀ a b, PyData.eqv (p a) (p b) = true ↔ a = b
theorem toPy_up {n : Nat} {S : Sto} {d : D} {m : Nat} (h : m + 1 = n) : toPy n S d = toPy (m + 1) S d := by rw [h]
theorem en_py {α : Type} [En α] (a : α) {n : Nat} {S : Sto} (h : En.dep α ≤ n) : toPy n S (En.d a) = some (En.p a) := by
  obtain ⟨m, rfl⟩ : ∃ m, n = En.dep α + m := ⟨n - En.dep α, by omega⟩
  exact En.hp a m S
theorem en_pys {α : Type} [En α] (l : List α) {n : Nat} {S : Sto} (h : En.dep α ≤ n) : toPyL (toPy n S) (l.map En.d) = some (l.map En.p) := by
  induction l with
  | nil => rfl
  | cons a l ih =>
    show (match toPy n S (En.d a), toPyL (toPy n S) (l.map En.d) with
      | some a, some as => some (a :: as)
      | _, _ => none) = _
    rw [en_py a h, ih]
    rfl
theorem en_lay {α : Type} [En α] (l : List α) : PyData.canLayAll0 (l.map En.p) = true := by
  induction l with
  | nil => simp [PyData.canLayAll0]
  | cons a l ih => simp [PyData.canLayAll0, En.lay a, ih]
theorem en_eqs {α : Type} [En α] (l m : List α) : PyData.eqvAll (l.map En.p) (m.map En.p) = true ↔ l = m := by
  induction l generalizing m with
  | nil => cases m <;> simp [PyData.eqvAll]
  | cons a l ih =>
    cases m with
    | nil => simp [PyData.eqvAll]
    | cons b m => simp [PyData.eqvAll, En.eq a b, ih m]
theorem en_dep {α : Type} [En α] (l : List α) : PyData.depthAll (l.map En.p) ≤ En.dep α := by
  induction l with
  | nil => simp [PyData.depthAll]
  | cons a l ih =>
    have := En.hd a
    simp [PyData.depthAll]; omega
instance : En Int where
  d := .int
  p := .int
  dep := 1
  hp := fun a n S => by rw [toPy_up (Nat.add_comm n 1)]; rfl
  lay := fun a => by simp [PyData.canLay0]
  hd := fun a => by simp [PyData.depth]
  eq := fun a b => by simp [PyData.eqv]
instance {α : Type} [En α] : En (List α) where
  d := fun l => .tup (l.map En.d)
  p := fun l => .tuple (l.map En.p)
  dep := En.dep α + 1
  hp := fun l n S => by
    rw [toPy_up (m := En.dep α + n) (by omega)]
    show (toPyL (toPy (En.dep α + n) S) (l.map En.d)).map PyData.tuple = _
    rw [en_pys l (Nat.le_add_right _ _)]
    rfl
  lay := fun l => by simp [PyData.canLay0, en_lay]
  hd := fun l => by have := en_dep l; simp [PyData.depth]; omega
  eq := fun l m => by simp [PyData.eqv, en_eqs]
def fr (q : Rat) : D := .tup [.int q.num, .int q.den]
instance : En Rat where
  d := fr
  p := fun q => .tuple [.int q.num, .int q.den]
  dep := 2
  hp := fun q n S => by
    rw [toPy_up (m := 1 + n) (by omega)]
    show (toPyL (toPy (1 + n) S) [.int q.num, .int q.den]).map PyData.tuple = _
    have := en_pys (α := Int) [q.num, (q.den : Int)] (S := S) (n := 1 + n) (Nat.le_add_right _ _)
    simp only [List.map] at this
    exact congrArg _ this
  lay := fun q => by simp [PyData.canLay0, PyData.canLayAll0]
  hd := fun q => by simp [PyData.depth, PyData.depthAll]
  eq := fun a b => by
    simp [PyData.eqv, PyData.eqvAll]
    constructor
    · rintro ⟨h1, h2⟩
      exact Rat.ext h1 (by omega)
    · rintro rfl
      exact ⟨rfl, rfl⟩
theorem shaped_en {α : Type} [En α] (a : α) (h : En.dep α ≤ 60) : SeqAt.shaped (En.p a) = true := by
  have := En.hd a
  unfold SeqAt.shaped
  rw [En.lay a, Bool.true_and, decide_eq_true_eq]
  omega
theorem shaped_ens {α : Type} [En α] (l : List α) (h : En.dep α ≤ 60) : SeqAt.shaped (.list (l.map En.p)) = true := by
  have := en_dep l
  unfold SeqAt.shaped
  simp [PyData.canLay0, en_lay, PyData.depth]
  omega
theorem dEqB_en {α : Type} [En α] [DecidableEq α] {n : Bool} (a b : α) {S : Sto} (h : En.dep α ≤ 60) : dEqB n (En.d a) (En.d b) S = .ok (.bl (if n then !decide (a = b) else decide (a = b))) S := by
  unfold dEqB
  rw [en_py a h, en_py b h]
  show (if (SeqAt.shaped (En.p a) && SeqAt.shaped (En.p b)) = true then _ else _) = _
  rw [shaped_en a h, shaped_en b h, Bool.and_self, if_pos rfl]
  have e : PyData.eqv (En.p a) (En.p b) = decide (a = b) := by
    rw [Bool.eq_iff_iff, En.eq, decide_eq_true_eq]
  rw [e]
/-- lists of the store -/
theorem dEqB_ens {α : Type} [En α] [DecidableEq α] {n : Bool} (l m : List α) {S : Sto} {i j : Nat} (hi : S[i]? = some (.lst (l.map En.d))) (hj : S[j]? = some (.lst (m.map En.d))) (h : En.dep α ≤ 59) : dEqB n (.ref i) (.ref j) S = .ok (.bl (if n then !decide (l = m) else decide (l = m))) S := by
  have key : ∀ (l : List α) (i : Nat), S[i]? = some (.lst (l.map En.d)) → toPy 60 S (.ref i) = some (.list (l.map En.p)) := fun l i hi => by
    show (match S[i]? with
      | some (.lst ds) => (toPyL (toPy 59 S) ds).map PyData.list
      | _ => none) = _
    rw [hi]
    show (toPyL (toPy 59 S) (l.map En.d)).map PyData.list = _
    rw [en_pys l h]
    rfl
  unfold dEqB
  rw [key l i hi, key m j hj]
  show (if (SeqAt.shaped (.list (l.map En.p)) && SeqAt.shaped (.list (m.map En.p))) = true then _ else _) = _
  rw [shaped_ens l (by omega), shaped_ens m (by omega), Bool.and_self, if_pos rfl]
  have e : PyData.eqv (.list (l.map En.p)) (.list (m.map En.p)) = decide (l = m) := by
    rw [Bool.eq_iff_iff, decide_eq_true_eq]
    simp [PyData.eqv, en_eqs]
  rw [e]
@[simp] theorem dEqB_int {n : Bool} {i j : Int} {S : Sto} : dEqB n (.int i) (.int j) S = .ok (.bl (if n then !decide (i = j) else decide (i = j))) S := dEqB_en (α := Int) i j (by decide)
end MP
set_option Elab.async false
set_option linter.all false
set_option maxRecDepth 100000
set_option maxHeartbeats 4000000
/-! Fractions: the arithmetic behind them. -/
namespace MP
open PySem

/-- the divisor by which a fraction is shortened -/
def shar (t b : Int) : Int := if 0 < b then ((Nat.gcd t.natAbs b.natAbs : Nat) : Int) else -((Nat.gcd t.natAbs b.natAbs : Nat) : Int)
theorem gcd_pos {t b : Int} (hb : b ≠ 0) : 0 < Nat.gcd t.natAbs b.natAbs := Nat.gcd_pos_of_pos_right _ (by omega)
theorem shar_ne {t b : Int} (hb : b ≠ 0) : shar t b ≠ 0 := by
  have := gcd_pos (t := t) hb
  unfold shar
  split <;> omega
theorem shar_num {t b : Int} (hb : b ≠ 0) : t.fdiv (shar t b) = (Rat.divInt t b).num := by
  have hg := gcd_pos (t := t) hb
  have hd : ((Nat.gcd t.natAbs b.natAbs : Nat) : Int) ∣ t := Int.ofNat_dvd_left.mpr (Nat.gcd_dvd_left ..)
  rw [Rat.num_divInt]
  have eg : b.gcd t = Nat.gcd t.natAbs b.natAbs := by rw [Int.gcd, Nat.gcd_comm]
  rw [eg]
  unfold shar
  by_cases h : 0 < b
  · rw [if_pos h, Int.sign_eq_one_of_pos h, Int.one_mul, Int.fdiv_eq_ediv_of_nonneg _ (by omega)]
  · rw [if_neg h, Int.sign_eq_neg_one_of_neg (by omega)]
    obtain ⟨c, hc⟩ := hd
    generalize hgg : ((Nat.gcd t.natAbs b.natAbs : Nat) : Int) = g at *
    have hg0 : g ≠ 0 := by omega
    rw [hc]
    have e1 : g * c = (-g) * (-c) := by rw [Int.neg_mul_neg]
    rw [e1, Int.mul_fdiv_cancel_left _ (by omega : (-g) ≠ 0)]
    rw [Int.neg_mul_neg, show (-1 : Int) * (g * c) = g * (-c) by rw [Int.neg_one_mul, Int.mul_neg], Int.mul_ediv_cancel_left _ hg0]
theorem shar_den {t b : Int} (hb : b ≠ 0) : b.fdiv (shar t b) = ((Rat.divInt t b).den : Int) := by
  have hg := gcd_pos (t := t) hb
  have hd : ((Nat.gcd t.natAbs b.natAbs : Nat) : Int) ∣ b := Int.ofNat_dvd_left.mpr (Nat.gcd_dvd_right ..)
  rw [Rat.den_divInt, if_neg hb]
  have eg : b.gcd t = Nat.gcd t.natAbs b.natAbs := by rw [Int.gcd, Nat.gcd_comm]
  rw [eg]
  unfold shar
  by_cases h : 0 < b
  · rw [if_pos h, Int.fdiv_eq_ediv_of_nonneg _ (by omega), Int.natCast_ediv]
    congr 1
    omega
  · rw [if_neg h]
    have e : b = -((b.natAbs : Nat) : Int) := by omega
    obtain ⟨c, hc⟩ := Nat.gcd_dvd_right t.natAbs b.natAbs
    generalize Nat.gcd t.natAbs b.natAbs = g at *
    rw [hc] at e
    have e2 : b = (-(g : Int)) * (c : Int) := by rw [e, Int.natCast_mul, Int.neg_mul]
    rw [hc]
    conv => lhs; rw [e2]
    rw [Int.mul_fdiv_cancel_left _ (by omega), Nat.mul_div_cancel_left _ hg]
theorem shar_log {t b : Int} (hb : b ≠ 0) : (shar t b).natAbs.log2 ≤ b.natAbs.log2 := by
  have h : (shar t b).natAbs ≤ b.natAbs := by
    have := Nat.le_of_dvd (by omega : 0 < b.natAbs) (Nat.gcd_dvd_right t.natAbs b.natAbs)
    unfold shar
    split <;> omega
  rw [Nat.le_log2 (by omega)]
  exact Nat.le_trans (Nat.log2_self_le (by have := shar_ne (t := t) hb; omega)) h
theorem szDiv_of {j : Int} {k : Nat} (h0 : j ≠ 0) (h : j.natAbs < 2 ^ k) (hk : k ≤ 9000) : szDiv j = true := by
  unfold szDiv
  rw [Bool.and_eq_true, decide_eq_true_eq, decide_eq_true_eq]
  refine ⟨h0, ?_⟩
  have := (Nat.log2_lt (by omega)).mpr h
  omega
theorem szMul_of {i j : Int} {k l : Nat} (h1 : i.natAbs < 2 ^ k) (h2 : j.natAbs < 2 ^ l) (hk : k + l ≤ 100000000) : szMul i j = true := by
  unfold szMul
  rw [decide_eq_true_eq]
  have lg : ∀ (n m : Nat), n < 2 ^ m → n.log2 ≤ m := fun n m h => by
    by_cases h0 : n = 0
    · subst h0; rw [Nat.log2_zero]; omega
    · have := (Nat.log2_lt h0).mpr h; omega
  have lg2 : ∀ (n m : Nat), n < 2 ^ m → 0 < m → n.log2 < m := fun n m h hm => by
    by_cases h0 : n = 0
    · subst h0; rw [Nat.log2_zero]; omega
    · exact (Nat.log2_lt h0).mpr h
  have a := lg _ _ h1
  have b := lg _ _ h2
  by_cases hk0 : 0 < k
  · have := lg2 _ _ h1 hk0; omega
  · by_cases hl0 : 0 < l
    · have := lg2 _ _ h2 hl0; omega
    · omega

/-! ### the weight of a fraction -/
/-- q's numerator has at most 110 k bits, its denominator at most 4 k bits -/
structure Sz (k : Nat) (q : Rat) : Prop where
  n : q.num.natAbs < 2 ^ (110 * k)
  d : q.den < 2 ^ (4 * k)
theorem Sz.up {k l : Nat} {q : Rat} (h : Sz k q) (hkl : k ≤ l) : Sz l q :=
  ⟨Nat.lt_of_lt_of_le h.n (Nat.pow_le_pow_right (by decide) (by omega)), Nat.lt_of_lt_of_le h.d (Nat.pow_le_pow_right (by decide) (by omega))⟩
theorem Sz.zero : Sz 1 0 := ⟨by decide, by decide⟩
theorem Sz.neg {k : Nat} {q : Rat} (h : Sz k q) : Sz k (-q) := ⟨by rw [Rat.neg_num, Int.natAbs_neg]; exact h.n, h.d⟩
theorem divInt_num_le (a b : Int) : (Rat.divInt a b).num.natAbs ≤ a.natAbs := by
  rw [Rat.num_divInt]
  refine Nat.le_trans (Int.natAbs_ediv_le_natAbs ..) ?_
  rw [Int.natAbs_mul]
  have : b.sign.natAbs ≤ 1 := by rw [Int.natAbs_sign]; split <;> omega
  exact Nat.le_trans (Nat.mul_le_mul_right _ this) (by omega)
theorem divInt_den_le (a b : Int) (hb : b ≠ 0) : (Rat.divInt a b).den ≤ b.natAbs := by
  rw [Rat.den_divInt, if_neg hb]
  exact Nat.div_le_self ..
theorem add_eq (a b : Rat) : a + b = Rat.divInt (a.num * b.den + b.num * a.den) (a.den * b.den : Int) := by
  rw [Rat.add_def', ← Rat.divInt_ofNat]; simp
theorem mul_eq (a b : Rat) : a * b = Rat.divInt (a.num * b.num) (a.den * b.den : Int) := by
  rw [Rat.mul_def', ← Rat.divInt_ofNat]; simp
theorem den0 (a b : Rat) : (a.den * b.den : Int) ≠ 0 := by
  have h1 := a.den_pos
  have h2 := b.den_pos
  have := Nat.mul_pos h1 h2
  have e : ((a.den * b.den : Nat) : Int) = (a.den * b.den : Int) := by simp
  omega
theorem den_abs (a b : Rat) : ((a.den : Int) * (b.den : Int)).natAbs = a.den * b.den := by rw [Int.natAbs_mul]; simp
theorem den_sz {k l : Nat} {a b : Rat} (ha : Sz k a) (hb : Sz l b) : ((a.den : Int) * (b.den : Int)).natAbs < 2 ^ (4 * (k + l)) := by
  rw [den_abs, Nat.mul_add, Nat.pow_add]
  exact Nat.mul_lt_mul'' ha.d hb.d
theorem mulnum_sz {k l : Nat} {a b : Rat} (ha : Sz k a) (hb : Sz l b) : (a.num * b.num).natAbs < 2 ^ (110 * (k + l)) := by
  rw [Int.natAbs_mul, Nat.mul_add, Nat.pow_add]
  exact Nat.mul_lt_mul'' ha.n hb.n
theorem addnum_sz {k l : Nat} {a b : Rat} (ha : Sz k a) (hb : Sz l b) (hk : 1 ≤ k) (hl : 1 ≤ l) : (a.num * b.den + b.num * a.den).natAbs < 2 ^ (110 * (k + l)) := by
  have h1 : (a.num * b.den).natAbs < 2 ^ (110 * k + 4 * l) := by
    rw [Int.natAbs_mul, Nat.pow_add]
    exact Nat.mul_lt_mul'' ha.n (by simpa using hb.d)
  have h2 : (b.num * a.den).natAbs < 2 ^ (110 * l + 4 * k) := by
    rw [Int.natAbs_mul, Nat.pow_add]
    exact Nat.mul_lt_mul'' hb.n (by simpa using ha.d)
  have p1 : 2 ^ (110 * k + 4 * l) ≤ 2 ^ (110 * (k + l) - 1) := Nat.pow_le_pow_right (by decide) (by omega)
  have p2 : 2 ^ (110 * l + 4 * k) ≤ 2 ^ (110 * (k + l) - 1) := Nat.pow_le_pow_right (by decide) (by omega)
  have p3 : 2 ^ (110 * (k + l)) = 2 * 2 ^ (110 * (k + l) - 1) := by rw [← Nat.pow_succ']; congr 1; omega
  have := Int.natAbs_add_le (a.num * b.den) (b.num * a.den)
  omega
theorem Sz.mul {k l : Nat} {a b : Rat} (ha : Sz k a) (hb : Sz l b) : Sz (k + l) (a * b) := by
  rw [mul_eq]
  exact ⟨Nat.lt_of_le_of_lt (divInt_num_le ..) (mulnum_sz ha hb), Nat.lt_of_le_of_lt (divInt_den_le _ _ (den0 a b)) (den_sz ha hb)⟩
theorem Sz.add {k l : Nat} {a b : Rat} (ha : Sz k a) (hb : Sz l b) (hk : 1 ≤ k) (hl : 1 ≤ l) : Sz (k + l) (a + b) := by
  rw [add_eq]
  exact ⟨Nat.lt_of_le_of_lt (divInt_num_le ..) (addnum_sz ha hb hk hl), Nat.lt_of_le_of_lt (divInt_den_le _ _ (den0 a b)) (den_sz ha hb)⟩
theorem Sz.int {i : Int} (h : i.natAbs < 2 ^ 110) : Sz 1 (i : Rat) := ⟨by simpa using h, by simp⟩

/-! ### Euclid's turns -/
/-- one turn of a, b = b, a mod b -/
theorem eu_half {a b : Nat} (hb : 0 < b) (h : b ≤ a) : a % b ≤ a / 2 := by
  have h1 := Nat.mod_lt a hb
  have h2 := Nat.div_add_mod a b
  have h3 : 1 ≤ a / b := (Nat.one_le_div_iff hb).mpr h
  have h4 : b * 1 ≤ b * (a / b) := Nat.mul_le_mul_left b h3
  omega
end MP
set_option Elab.async false
set_option linter.all false
set_option maxRecDepth 100000
set_option maxHeartbeats 4000000
/-! The dice. -/
namespace MP
open PySem

/-- all but the place nd is as it was -/
structure Ed (nd : Nat) (S T : Sto) : Prop where
  len : S.length ≤ T.length
  at_ : ∀ n, n < S.length → n ≠ nd → T[n]? = S[n]?
theorem Ed.refl {nd : Nat} {S : Sto} : Ed nd S S := ⟨Nat.le_refl _, fun _ _ _ => rfl⟩
theorem Ed.trans {nd : Nat} {S T U : Sto} (a : Ed nd S T) (b : Ed nd T U) : Ed nd S U := ⟨Nat.le_trans a.len b.len, fun n h e => (b.at_ n (Nat.lt_of_lt_of_le h a.len) e).trans (a.at_ n h e)⟩
theorem Ex.ed {nd : Nat} {S T : Sto} (a : Ex S T) : Ed nd S T := ⟨a.len, fun n h _ => a.at_ n h⟩
theorem Ed.app {nd : Nat} {S T : Sto} (R : Sto) (a : Ed nd S T) : Ed nd S (T ++ R) := a.trans (Ex.refl.app R).ed
theorem Ed.put {nd : Nat} {S T : Sto} {o : SO} (a : Ed nd S T) : Ed nd S (T.set nd o) := ⟨by rw [List.length_set]; exact a.len, fun n h e => by rw [List.getElem?_set_ne (Ne.symm e)]; exact a.at_ n h e⟩
theorem Ed.get {nd : Nat} {S T : Sto} (a : Ed nd S T) {n : Nat} {o : SO} (h : S[n]? = some o) (e : n ≠ nd) : T[n]? = some o := by
  rw [a.at_ n (List.getElem?_eq_some_iff.mp h).1 e]; exact h
structure Dice (S : Sto) (nd : Nat) (c : Nat) : Prop where
  ex : ∃ (a b : Int) (k : Nat), S[nd]? = some (.lst [.int a, .int b, .int (k : Int)]) ∧ k ≤ c
theorem Dice.lt {S : Sto} {nd c : Nat} (h : Dice S nd c) : nd < S.length := by
  obtain ⟨a, b, k, h, _⟩ := h.ex
  exact (List.getElem?_eq_some_iff.mp h).1
theorem Dice.up {S T : Sto} {nd c c' : Nat} (h : Dice S nd c) (e : Ex S T) (hc : c ≤ c') : Dice T nd c' := by
  obtain ⟨a, b, k, h, hk⟩ := h.ex
  exact ⟨a, b, k, e.get h, by omega⟩
theorem set_get {S : Sto} {n : Nat} {o o' : SO} (h : S[n]? = some o) : (S.set n o')[n]? = some o' := by
  rw [List.getElem?_set_self (List.getElem?_eq_some_iff.mp h).1]
theorem putD_ref {S : Sto} {n : Nat} {ds : List D} {k : Int} {d : D} (h : S[n]? = some (.lst ds)) : putD (.ref n) (.int k) d S = match L2.ixN ds.length k with
  | some j => .ok () (S.set n (.lst (ds.set j d)))
  | none => .stuck := by
  unfold putD
  simp only [h]
  try rfl
theorem szMul_small {i j : Int} (hi : i.natAbs < 2 ^ 200) (hj : j.natAbs < 2 ^ 200) : szMul i j = true := szMul_of hi hj (by decide)

/-! ### membership in a tuple -/
theorem dInB_en {α : Type} [En α] [DecidableEq α] {n : Bool} (a : α) (l : List α) {S : Sto} (h : En.dep α ≤ 59) : dInB n (En.d a) (.tup (l.map En.d)) S = .ok (.bl (if n then !decide (a ∈ l) else decide (a ∈ l))) S := by
  have e1 : toPy 60 S (.tup (l.map En.d)) = some (.tuple (l.map En.p)) := en_py (α := List α) l (by show En.dep α + 1 ≤ 60; omega)
  have e2 : SeqAt.shaped (.tuple (l.map En.p)) = true := shaped_en (α := List α) l (by show En.dep α + 1 ≤ 60; omega)
  unfold dInB
  rw [en_py a (by omega), e1]
  show (if (SeqAt.shaped (En.p a) && SeqAt.shaped (.tuple (l.map En.p))) = true then _ else _) = _
  rw [shaped_en a (by omega), e2, Bool.and_self, if_pos rfl]
  have e : ((l.map En.p).any fun z => PyData.eqv z (En.p a)) = decide (a ∈ l) := by
    rw [Bool.eq_iff_iff, decide_eq_true_eq, List.any_eq_true]
    constructor
    · rintro ⟨z, hz, e⟩
      obtain ⟨b, hb, rfl⟩ := List.mem_map.mp hz
      rw [En.eq] at e
      exact e ▸ hb
    · intro hm
      exact ⟨_, List.mem_map_of_mem hm, (En.eq _ _).mpr rfl⟩
  rw [e]
/-! ### comprehensions, in general -/
theorem lc_gen {ok : Sto → Bool} {t : Tg} {c : Ft} {e : Fe} {ρ : Rho} (I : List D → List D → Sto → Prop)
    (hs : ∀ d ds acc S, I (d :: ds) acc S → ∃ ρ1, setT t d ρ = some ρ1 ∧ Wp (c ρ1 S) fun k U => if k = true then Wp (e ρ1 U) (fun y V => ok V = true ∧ I ds (acc ++ [y]) V) else ok U = true ∧ I ds acc U) :
    ∀ {ds acc : List D} {S : Sto}, I ds acc S → Wp (lcL ok t c e ρ ds S) fun ys T => I [] (acc ++ ys) T
  | [], acc, S, h => by
    show I [] (acc ++ []) S
    rw [List.append_nil]; exact h
  | d :: ds, acc, S, h => by
    obtain ⟨ρ1, h1, h2⟩ := hs d ds acc S h
    obtain ⟨k, U, h3, h4⟩ := h2.out
    unfold lcL
    rw [h1]
    show Wp (match c ρ1 S with
      | .ok true S1 => (match e ρ1 S1 with
        | .ok y S2 => if ok S2 = true then (lcL ok t c e ρ ds S2).bind fun ys S3 => .ok (y :: ys) S3 else .stuck
        | _ => .stuck)
      | .ok false S1 => if ok S1 = true then lcL ok t c e ρ ds S1 else .stuck
      | _ => .stuck) _
    rw [h3]
    cases k with
    | false =>
      show Wp (if ok U = true then _ else _) _
      obtain ⟨h5, h6⟩ := h4
      rw [if_pos h5]
      exact lc_gen I hs h6
    | true =>
      obtain ⟨y, V, h7, h8, h9⟩ := (show Wp (e ρ1 U) (fun y V => ok V = true ∧ I ds (acc ++ [y]) V) from h4).out
      show Wp (match e ρ1 U with
        | .ok y S2 => if ok S2 = true then (lcL ok t c e ρ ds S2).bind fun ys S3 => .ok (y :: ys) S3 else .stuck
        | _ => .stuck) _
      rw [h7]
      show Wp (if ok V = true then _ else _) _
      rw [if_pos h8, wp_bind]
      refine (lc_gen I hs h9).mono fun ys T hT => ?_
      show I [] (acc ++ y :: ys) T
      rw [show acc ++ y :: ys = (acc ++ [y]) ++ ys by simp]
      exact hT

/-! ### a number as the package takes it: whole, or a fraction -/
inductive Num where
  | i (n : Int)
  | f (q : Rat)
  deriving DecidableEq
def Num.q : Num → Rat
  | .i n => (n : Rat)
  | .f q => q
def Num.d : Num → D
  | .i n => .int n
  | .f q => fr q
def Num.p : Num → PyData
  | .i n => .int n
  | .f q => .tuple [.int q.num, .int q.den]
instance : En Num where
  d := Num.d
  p := Num.p
  dep := 2
  hp := fun a n S => by
    cases a with
    | i k => exact en_py (α := Int) k (show 1 ≤ 2 + n by omega)
    | f q => exact en_py (α := Rat) q (show 2 ≤ 2 + n by omega)
  lay := fun a => by
    cases a with
    | i k => exact En.lay (α := Int) k
    | f q => exact En.lay (α := Rat) q
  hd := fun a => by
    cases a with
    | i k => exact Nat.le_trans (En.hd (α := Int) k) (by decide)
    | f q => exact En.hd (α := Rat) q
  eq := fun a b => by
    cases a with
    | i k =>
      cases b with
      | i j => simp [Num.p, PyData.eqv]
      | f q => simp [Num.p, PyData.eqv]
    | f q =>
      cases b with
      | i j => simp [Num.p, PyData.eqv]
      | f r =>
        have := En.eq (α := Rat) q r
        simp only [Num.f.injEq]
        exact this
/-- accepted by is_number; of weight 1 -/
structure Num.Ok (x : Num) : Prop where
  sz : Sz 1 x.q
  lt : ∀ n, x = .i n → n.natAbs < 10 ^ 60
def Num.z (x : Num) : Bool := decide (x.q = 0)

theorem get_app {T R : Sto} {n : Nat} {o : SO} (h : T[n]? = some o) : (T ++ R)[n]? = some o := by
  rw [List.getElem?_append_left (List.getElem?_eq_some_iff.mp h).1]; exact h
@[simp] theorem get_new {T : Sto} {o : SO} : (T ++ [o])[T.length]? = some o := by simp
theorem Ed.set {nd : Nat} {S T : Sto} {n : Nat} {o : SO} (a : Ed nd S T) (h : S.length ≤ n) : Ed nd S (T.set n o) := ⟨by rw [List.length_set]; exact a.len, fun m hm e => by rw [List.getElem?_set_ne (by omega)]; exact a.at_ m hm e⟩
theorem Dice.set {T : Sto} {nd c n : Nat} {o : SO} (h : Dice T nd c) (e : n ≠ nd) : Dice (T.set n o) nd c := by
  obtain ⟨a, b, k, h, hk⟩ := h.ex
  exact ⟨a, b, k, by rw [List.getElem?_set_ne e]; exact h, hk⟩
theorem Dice.app {T R : Sto} {nd c : Nat} (h : Dice T nd c) : Dice (T ++ R) nd c := h.up (Ex.refl.app R) (Nat.le_refl _)
theorem mPop_ref {T : Sto} {n : Nat} {ds : List D} (h : T[n]? = some (.lst ds)) : mPop (.ref n) [] T = match ds[ds.length - 1]? with
  | some y => .ok y (T.set n (.lst ds.dropLast))
  | none => .stuck := by
  unfold mPop
  simp only [h]
  try rfl
/-! ### what loops walk -/
section
variable {ρ : Rho} {S : Sto} {Q : Src → Sto → Prop}
@[simp] theorem src_ok0 {l : List D} : (Src.mk l []).ok S = true := rfl
@[simp] theorem wp_iR1 {f : Fs} : Wp (iR1 f ρ S) Q = Wp (f ρ S) (fun ds S1 => match ds with
  | [.int j] => if -(2 ^ 62) ≤ j ∧ j < 2 ^ 62 then Q ⟨rngD 0 j.toNat, []⟩ S1 else False
  | _ => False) := by
  unfold iR1
  rw [wp_bind]
  congr 1; funext ds S1
  exact match ds with
    | [] => rfl
    | [.int j] => by simp
    | [.non] => rfl
    | [.bl _] => rfl
    | [.str _] => rfl
    | [.tup _] => rfl
    | [.fl _] => rfl
    | [.ref _] => rfl
    | [.fn _] => rfl
    | _ :: _ :: _ => by simp
@[simp] theorem wp_iD {f : Fe} : Wp (iD f ρ S) Q = Wp (f ρ S) (fun d S1 => Wp (srcD d S1) Q) := by unfold iD; rw [wp_bind]
@[simp] theorem wp_iEn {f : Fs} : Wp (iEn f ρ S) Q = Wp (f ρ S) (fun d S1 => Wp (enumS d S1) Q) := by unfold iEn; rw [wp_bind]
@[simp] theorem wp_iZp {f : Fs} : Wp (iZp f ρ S) Q = Wp (f ρ S) (fun d S1 => Wp (zipS d S1) Q) := by unfold iZp; rw [wp_bind]
@[simp] theorem srcD_tup {l : List D} : srcD (.tup l) S = .ok ⟨l, []⟩ S := rfl
@[simp] theorem srcD_fl {l : List D} : srcD (.fl l) S = .ok ⟨l, []⟩ S := rfl
theorem srcD_ref {n : Nat} {l : List D} (h : S[n]? = some (.lst l)) : srcD (.ref n) S = .ok ⟨l, [(n, l)]⟩ S := by unfold srcD; simp only [h]
@[simp] theorem enumS_tup {l : List D} : enumS [.tup l] S = .ok ⟨enumD l, []⟩ S := rfl
@[simp] theorem zipS_tup {l m : List D} : zipS [.tup l, .tup m] S = .ok ⟨zipD l m, []⟩ S := rfl
theorem zipS_ref {n k : Nat} {l m : List D} (h : S[n]? = some (.lst l)) (h' : S[k]? = some (.lst m)) : zipS [.ref n, .ref k] S = .ok ⟨zipD l m, [(n, l), (k, m)]⟩ S := by
  unfold zipS lstG
  simp [h, h']
theorem rngD_cons {lo : Int} {n : Nat} : rngD lo (n + 1) = .int lo :: rngD (lo + 1) n := by
  unfold rngD
  rw [List.range_succ_eq_map, List.map_cons, List.map_map]
  simp only [List.cons.injEq, D.int.injEq]
  refine ⟨by simp, List.map_congr_left fun i _ => ?_⟩
  show D.int (lo + ((i + 1 : Nat) : Int)) = D.int (lo + 1 + i)
  congr 1; omega
@[simp] theorem rngD_zero {lo : Int} : rngD lo 0 = [] := rfl
@[simp] theorem rngD_length {lo : Int} {n : Nat} : (rngD lo n).length = n := by unfold rngD; simp
end
theorem Num.z_in {x : Num} : decide (x ∈ [Num.i 0, Num.f 0]) = decide (x.q = 0) := by
  cases x with
  | i n =>
    rw [Bool.eq_iff_iff, decide_eq_true_eq, decide_eq_true_eq]
    simp only [List.mem_cons, Num.i.injEq, List.not_mem_nil, or_false, reduceCtorEq]
    show n = 0 ↔ (n : Rat) = 0
    exact Rat.intCast_eq_zero_iff.symm
  | f q =>
    rw [Bool.eq_iff_iff, decide_eq_true_eq, decide_eq_true_eq]
    simp only [List.mem_cons, Num.f.injEq, List.not_mem_nil, or_false, reduceCtorEq, false_or]
    exact Iff.rfl
end MP
set_option Elab.async false
set_option linter.all false
set_option maxRecDepth 100000
set_option maxHeartbeats 4000000
/-! What is a number, a polynomial. -/
namespace MP
open PySem

/-! ### more -/
theorem lc_mapD {ok : Sto → Bool} {t : Tg} {e : Fe} {ρ : Rho} {f : D → D} {Q : List D → Sto → Prop} {ds : List D} {S : Sto}
    (he : ∀ x, x ∈ ds → ∀ T, Ex S T → ∃ ρ1, setT t x ρ = some ρ1 ∧ Wp (e ρ1 T) fun y U => y = f x ∧ Ex T U) (hok : ∀ T, Ex S T → ok T = true)
    (hq : ∀ T, Ex S T → Q (ds.map f) T) : Wp (lcL ok t fYes e ρ ds S) Q := by
  have := lc_map (α := D) (enc := fun d => d) (xs := ds) (S0 := S) (S := S) (ok := ok) (t := t) (e := e) (ρ := ρ) (f := f) (Q := Q) Ex.refl he hok hq
  simpa using this
theorem asBls_map {bs : List Bool} : asBls (bs.map D.bl) = some bs := by
  induction bs with
  | nil => rfl
  | cons b bs ih =>
    show (asBls (bs.map D.bl)).map (b :: ·) = _
    rw [ih]; rfl
theorem nAll_ref {n : Nat} {bs : List Bool} {S : Sto} (h : S[n]? = some (.lst (bs.map D.bl))) : nAll [.ref n] S = .ok (.bl (bs.all id)) S := by
  unfold nAll lstD
  simp only [h]
  rw [asBls_map]
/-! ### what is_number, is_poly tell -/
/-- d's type is known, and its items' -/
structure Td (S : Sto) (d : D) : Prop where
  ty : ∃ a, tyD d S = some a
  its : ∀ ds, d = .tup ds → ∀ e ∈ ds, ∃ a, tyD e S = some a
theorem ty_ex {S T : Sto} {d : D} {a : Ty} (h : tyD d S = some a) (e : Ex S T) : tyD d T = some a := by
  cases d with
  | ref n =>
    unfold tyD at h ⊢
    simp only at h ⊢
    split at h
    · rename_i ds q
      rw [e.get q]; exact h
    · rename_i ds q
      rw [e.get q]; exact h
    · cases h
  | _ => exact h
theorem Td.up {S T : Sto} {d : D} (h : Td S d) (e : Ex S T) : Td T d :=
  ⟨let ⟨a, q⟩ := h.ty; ⟨a, ty_ex q e⟩, fun ds hd x hx => let ⟨a, q⟩ := h.its ds hd x hx; ⟨a, ty_ex q e⟩⟩
theorem Td.num {S : Sto} (x : Num) : Td S x.d := by
  cases x with
  | i n => exact ⟨⟨_, rfl⟩, fun ds h => by cases h⟩
  | f q =>
    refine ⟨⟨_, rfl⟩, fun ds h e he => ?_⟩
    cases (show D.tup [.int q.num, .int q.den] = .tup ds from h)
    simp at he
    rcases he with rfl | rfl
    · exact ⟨_, rfl⟩
    · exact ⟨_, rfl⟩
def wholeB : D → Bool
  | .int _ => true
  | _ => false
def integerB : D → Bool
  | .int i => decide (-1000000000000000000000000000000000000000000000000000000000000 < i) && decide (i < 1000000000000000000000000000000000000000000000000000000000000)
  | _ => false
def fractionB : D → Bool
  | .tup [.int t, .int u] => decide (1 ≤ u) && decide (((Nat.gcd t.natAbs u.natAbs : Nat) : Int) = 1)
  | _ => false
def numberB (d : D) : Bool := integerB d || fractionB d
def topD : D → Int
  | .int i => i
  | .tup (.int t :: _) => t
  | _ => 0
def polyB (ds : List D) : Bool := decide (ds.length ≤ 41) && (ds.all numberB && (match ds.getLast? with
  | none => true
  | some d => decide (topD d ≠ 0)))
theorem whole_ty {d : D} {S : Sto} {a : Ty} (h : tyD d S = some a) : wholeB d = decide (a = .int) := by
  unfold tyD at h
  cases d with
  | ref n =>
    simp only at h
    split at h
    · cases h; rfl
    · cases h; rfl
    · cases h
  | fn i => cases h
  | _ => cases h; rfl
theorem numberB_num {x : Num} (h : x.Ok) : numberB x.d = true := by
  cases x with
  | i n =>
    have := h.lt n rfl
    unfold numberB integerB
    rw [Bool.or_eq_true]
    left
    show (decide _ && decide _) = true
    rw [Bool.and_eq_true, decide_eq_true_eq, decide_eq_true_eq]
    omega
  | f q =>
    unfold numberB
    rw [Bool.or_eq_true]
    right
    show (decide (1 ≤ (q.den : Int)) && decide (((Nat.gcd q.num.natAbs (q.den : Int).natAbs : Nat) : Int) = 1)) = true
    have h1 := q.den_pos
    have h2 := q.reduced
    rw [Bool.and_eq_true, decide_eq_true_eq, decide_eq_true_eq, Int.natAbs_natCast]
    exact ⟨by omega, by rw [show Nat.gcd q.num.natAbs q.den = 1 from h2]; rfl⟩
theorem topD_num {x : Num} : topD x.d ≠ 0 ↔ x.q ≠ 0 := by
  cases x with
  | i n =>
    show n ≠ 0 ↔ (n : Rat) ≠ 0
    exact not_congr Rat.intCast_eq_zero_iff.symm
  | f q =>
    show q.num ≠ 0 ↔ q ≠ 0
    exact not_congr Rat.num_eq_zero

theorem number_num {d : D} (h : numberB d = true) : ∃ x : Num, d = x.d ∧ ∀ n, x = .i n → n.natAbs < 10 ^ 60 := by
  unfold numberB at h
  rw [Bool.or_eq_true] at h
  rcases h with h | h
  · unfold integerB at h
    split at h
    · rename_i i
      rw [Bool.and_eq_true, decide_eq_true_eq, decide_eq_true_eq] at h
      refine ⟨.i i, rfl, fun n e => ?_⟩
      cases e
      omega
    · cases h
  · unfold fractionB at h
    split at h
    · rename_i t u
      rw [Bool.and_eq_true, decide_eq_true_eq, decide_eq_true_eq] at h
      obtain ⟨h1, h2⟩ := h
      refine ⟨.f ⟨t, u.natAbs, by omega, by show Nat.gcd t.natAbs u.natAbs = 1; omega⟩, ?_, fun n e => by cases e⟩
      show D.tup [.int t, .int u] = D.tup [.int t, .int (u.natAbs : Int)]
      have e : (u.natAbs : Int) = u := by omega
      rw [e]
    · cases h
theorem numbers_nums : ∀ {ds : List D}, (∀ d ∈ ds, numberB d = true) → ∃ xs : List Num, ds = xs.map Num.d
  | [], _ => ⟨[], rfl⟩
  | d :: ds, h => by
    obtain ⟨x, rfl, _⟩ := number_num (h d List.mem_cons_self)
    obtain ⟨xs, rfl⟩ := numbers_nums fun e he => h e (List.mem_cons_of_mem _ he)
    exact ⟨x :: xs, rfl⟩
theorem atI_getLast {α : Type} {xs : List α} {x : α} (h : xs.getLast? = some x) : L2.atI xs (-1) = some x := by
  cases xs with
  | nil => cases h
  | cons a l =>
    have := atI_last (xs := a :: l) (k := 0) (by simp)
    rw [List.getLast?_eq_getElem?] at h
    have e : L2.atI (a :: l) (-1) = (a :: l)[(a :: l).length - 1 - 0]? := this
    rw [e]
    exact h
end MP
set_option Elab.async false
set_option linter.all false
set_option maxRecDepth 100000
set_option maxHeartbeats 4000000
/-! Polynomials as lists of fractions: what the loops make of them. -/
namespace MP
open PySem

/-! ### without the zeros at the end -/
def trim : List Rat → List Rat
  | [] => []
  | a :: l => if trim l = [] ∧ a = 0 then [] else a :: trim l
theorem trim_zero : ∀ l : List Rat, trim (l ++ [0]) = trim l
  | [] => by simp [trim]
  | a :: l => by
    show trim (a :: (l ++ [0])) = trim (a :: l)
    unfold trim
    rw [trim_zero l]
theorem trim_ne {x : Rat} (h : x ≠ 0) : ∀ l : List Rat, trim (l ++ [x]) = l ++ [x]
  | [] => by simp [trim, h]
  | a :: l => by
    show trim (a :: (l ++ [x])) = a :: (l ++ [x])
    unfold trim
    rw [trim_ne h l]
    simp
theorem trim_last {l : List Rat} (h : ∀ x, l.getLast? = some x → x ≠ 0) : trim l = l := by
  rcases List.eq_nil_or_concat l with rfl | ⟨pre, x, rfl⟩
  · rfl
  · rw [List.concat_eq_append] at *
    exact trim_ne (h x (by simp)) pre
theorem trim_sub : ∀ {l : List Rat} {x : Rat}, x ∈ trim l → x ∈ l
  | [], x, h => h
  | a :: l, x, h => by
    unfold trim at h
    split at h
    · cases h
    · rcases List.mem_cons.mp h with rfl | h
      · exact List.mem_cons_self
      · exact List.mem_cons_of_mem _ (trim_sub h)
theorem trim_len : ∀ l : List Rat, (trim l).length ≤ l.length
  | [] => Nat.le_refl _
  | a :: l => by
    unfold trim
    split
    · simp
    · have := trim_len l
      simp
      omega
theorem trim_end : ∀ {l : List Rat} {x : Rat}, (trim l).getLast? = some x → x ≠ 0
  | [], x, h => by cases h
  | a :: l, x, h => by
    unfold trim at h
    split at h
    · cases h
    · rename_i hn
      cases ht : trim l with
      | nil =>
        rw [ht] at h hn
        simp at h hn
        subst h
        exact hn
      | cons b m =>
        refine trim_end (l := l) ?_
        rw [ht] at h ⊢
        simpa using h
theorem take_one {α : Type} {l : List α} {k : Nat} {x : α} (h : l[k]? = some x) : l.take (k + 1) = l.take k ++ [x] := by
  rw [List.take_add_one, h]
  rfl

/-! ### the fractions' functions -/
structure Ops (fs ft : FN) : Prop where
  s : ∀ (a b : Rat) (S : Sto) (k l : Nat), Sz k a → Sz l b → 1 ≤ k → 1 ≤ l → k + l ≤ 2000 → fs [fr a, fr b] S = .ok (fr (a + b)) S
  t : ∀ (a b : Rat) (S : Sto) (k l : Nat), Sz k a → Sz l b → k + l ≤ 2000 → ft [fr a, fr b] S = .ok (fr (a * b)) S

/-! ### the product's loops -/
def rowAdd : List Rat → Rat → List Rat → List Rat
  | f :: fs, a, m :: ms => (f + a * m) :: rowAdd fs a ms
  | [], _, _ => []
  | f :: fs, _, [] => f :: fs
theorem rowAdd_nil (fs : List Rat) (a : Rat) : rowAdd fs a [] = fs := by cases fs <;> rfl
theorem rowAdd_len : ∀ (fs : List Rat) (a : Rat) (ms : List Rat), (rowAdd fs a ms).length = fs.length
  | [], _, _ => rfl
  | f :: fs, a, [] => rfl
  | f :: fs, a, m :: ms => by simp [rowAdd, rowAdd_len fs a ms]
theorem rowAdd_sz {c w : Nat} {a : Rat} : ∀ {fs ms : List Rat}, (∀ x ∈ fs, Sz c x) → (∀ m ∈ ms, Sz w (a * m)) → 1 ≤ c → 1 ≤ w → ∀ x ∈ rowAdd fs a ms, Sz (c + w) x
  | [], _, _, _, _, _, x, hx => by cases hx
  | f :: fs, [], h1, h2, hc, hw, x, hx => (h1 x hx).up (by omega)
  | f :: fs, m :: ms, h1, h2, hc, hw, x, hx => by
    rcases List.mem_cons.mp hx with rfl | hx
    · exact (h1 f List.mem_cons_self).add (h2 m List.mem_cons_self) hc hw
    · exact rowAdd_sz (fun y hy => h1 y (List.mem_cons_of_mem _ hy)) (fun y hy => h2 y (List.mem_cons_of_mem _ hy)) hc hw x hx
def row (found : List Rat) (p : Nat) (a : Rat) (ms : List Rat) : List Rat := found.take p ++ rowAdd (found.drop p) a ms
theorem row_len {found : List Rat} {p : Nat} {a : Rat} {ms : List Rat} : (row found p a ms).length = found.length := by
  unfold row
  rw [List.length_append, rowAdd_len, List.length_take, List.length_drop]
  omega
theorem row_step {found : List Rat} {p : Nat} {a f m : Rat} {ms : List Rat} (h : found[p]? = some f) : row found p a (m :: ms) = row (found.set p (f + a * m)) (p + 1) a ms := by
  have hp := (List.getElem?_eq_some_iff.mp h).1
  have e1 : found.drop p = f :: found.drop (p + 1) := by
    rw [List.drop_eq_getElem_cons hp]
    rw [List.getElem?_eq_getElem hp] at h
    cases h
    rfl
  have e2 : (found.set p (f + a * m)).take (p + 1) = found.take p ++ [f + a * m] := by
    rw [take_one (x := f + a * m) (by rw [List.getElem?_set_self hp])]
    rw [List.take_set_of_le (Nat.le_refl _)]
  have e3 : (found.set p (f + a * m)).drop (p + 1) = found.drop (p + 1) := by rw [List.drop_set_of_lt (by omega)]
  unfold row
  rw [e1, e2, e3]
  simp [rowAdd]
def enumF (j : Nat) : List D → List D
  | [] => []
  | d :: ds => pairD (.int (j : Nat)) d :: enumF (j + 1) ds
theorem enumF_get : ∀ (ds : List D) (j i : Nat), (enumF j ds)[i]? = (ds[i]?).map fun d => pairD (.int ((j + i : Nat) : Int)) d
  | [], _, _ => by simp [enumF]
  | d :: ds, j, 0 => by simp [enumF]
  | d :: ds, j, i + 1 => by
    show (enumF (j + 1) ds)[i]? = _
    rw [enumF_get ds (j + 1) i, show j + 1 + i = j + (i + 1) by omega]
    rfl
theorem enumD_F (ds : List D) : enumD ds = enumF 0 ds := by
  apply List.ext_getElem?
  intro i
  rw [enumF_get]
  cases h : ds[i]? with
  | none =>
    rw [List.getElem?_eq_none (by rw [enumD_len]; exact List.getElem?_eq_none_iff.mp h)]
    rfl
  | some d =>
    rw [enumD_get h]
    simp
section
variable {fs ft : FN}
abbrev mBody (fs ft : FN) : Fst := sPut (dCall fs 2 (aCons (d2 dAt (dVar 2) (d2 dAdd (dVar 3) (dVar 5))) (aCons (dCall ft 2 (aCons (dVar 4) (aCons (dVar 6) aNil))) aNil))) (dVar 2) (d2 dAdd (dVar 3) (dVar 5))
theorem inner_ok (O : Ops fs ft) {n i c k l : Nat} {a : Rat} {A B : Option D} {ok : Sto → Bool} {Q : Fl → Sto → Prop} (ha : Sz k a) (hk : 1 ≤ k) (hc : 1 ≤ c) (hckl : c + (k + l) ≤ 2000) (hok : ∀ T, ok T = true) :
    ∀ {ms found : List Rat} {j : Nat} {S : Sto} {x y : Option D}, S[n]? = some (.lst (found.map fr)) → (∀ m ∈ ms, Sz l m) → (∀ z ∈ found.drop (i + j), Sz c z) → i + j + ms.length ≤ found.length →
      (∀ x y, Q (.nx [A, B, some (.ref n), some (.int (i : Int)), some (fr a), x, y]) (S.set n (.lst ((row found (i + j) a ms).map fr)))) →
      WpS (forL ok (.tp (.cons (.nm 5) (.cons (.nm 6) .nil))) (mBody fs ft) (enumF j (ms.map fr)) [A, B, some (.ref n), some (.int (i : Int)), some (fr a), x, y] S) Q
  | [], found, j, S, x, y, hS, hm, hf, hl, hq => by
    show Q (.nx _) S
    have := hq x y
    have e : row found (i + j) a [] = found := by unfold row; rw [rowAdd_nil, List.take_append_drop]
    rw [e] at this
    have es : S.set n (.lst (found.map fr)) = S := by
      apply List.ext_getElem?
      intro p
      by_cases hp : p = n
      · subst hp; rw [set_get hS, hS]
      · rw [List.getElem?_set_ne (Ne.symm hp)]
    rw [es] at this
    exact this
  | m :: ms, found, j, S, x, y, hS, hm, hf, hl, hq => by
    have hp : i + j < found.length := by simp at hl; omega
    obtain ⟨f, hfp⟩ : ∃ f, found[i + j]? = some f := ⟨_, List.getElem?_eq_getElem hp⟩
    have hfm : (found.map fr)[i + j]? = some (fr f) := by rw [List.getElem?_map, hfp]; rfl
    have szf : Sz c f := hf f (by
      rw [List.drop_eq_getElem_cons hp]
      rw [List.getElem?_eq_getElem hp] at hfp
      cases hfp
      exact List.mem_cons_self)
    have szm : Sz l m := hm m List.mem_cons_self
    have ht := O.t a m S k l ha szm (by omega)
    have hs := O.s f (a * m) S c (k + l) szf (ha.mul szm) hc (by omega) hckl
    have ej : ((i : Int) + (j : Int)) = ((i + j : Nat) : Int) := by omega
    have hat : L2.atI (found.map fr) ((i + j : Nat) : Int) = some (fr f) := by rw [atI_nat, hfm]
    have hix : L2.ixN (found.map fr).length ((i + j : Nat) : Int) = some (i + j) := by
      unfold L2.ixN
      have : ((i + j : Nat) : Int) < ((found.map fr).length : Int) := by rw [List.length_map]; omega
      rw [if_pos (by omega), if_pos this, Int.toNat_natCast]
    show WpS (forL ok _ (mBody fs ft) (pairD (.int (j : Nat)) (fr m) :: enumF (j + 1) (ms.map fr)) _ S) Q
    unfold forL
    show WpS (match mBody fs ft [A, B, some (.ref n), some (.int (i : Int)), some (fr a), some (.int (j : Int)), some (fr m)] S with
      | .fl (.nx ρ2) S2 => if ok S2 = true then forL ok (.tp (.cons (.nm 5) (.cons (.nm 6) .nil))) (mBody fs ft) (enumF (j + 1) (ms.map fr)) ρ2 S2 else .stuck
      | .fl (.ct ρ2) S2 => if ok S2 = true then forL ok (.tp (.cons (.nm 5) (.cons (.nm 6) .nil))) (mBody fs ft) (enumF (j + 1) (ms.map fr)) ρ2 S2 else .stuck
      | .fl (.brk ρ2) S2 => .fl (.nx ρ2) S2
      | r => r) Q
    have eb : mBody fs ft [A, B, some (.ref n), some (.int (i : Int)), some (fr a), some (.int (j : Int)), some (fr m)] S =
        .fl (.nx [A, B, some (.ref n), some (.int (i : Int)), some (fr a), some (.int (j : Int)), some (fr m)]) (S.set n (.lst ((found.set (i + j) (f + a * m)).map fr))) := by
      have key : WpS (mBody fs ft [A, B, some (.ref n), some (.int (i : Int)), some (fr a), some (.int (j : Int)), some (fr m)] S) fun fl T =>
          fl = .nx [A, B, some (.ref n), some (.int (i : Int)), some (fr a), some (.int (j : Int)), some (fr m)] ∧ T = S.set n (.lst ((found.set (i + j) (f + a * m)).map fr)) := by
        rw [← ej] at hat hix
        rw [List.length_map] at hix
        simp [dAt_ref hS, hat, ht, hs, putD_ref hS, hix, List.map_set]
      generalize hr : mBody fs ft [A, B, some (.ref n), some (.int (i : Int)), some (fr a), some (.int (j : Int)), some (fr m)] S = r at key
      cases r with
      | fl x T => obtain ⟨rfl, rfl⟩ := key; rfl
      | exc x ρ T => exact key.elim
      | stuck => exact key.elim
    rw [eb]
    show WpS (if ok _ = true then _ else _) Q
    rw [if_pos (hok _)]
    have hS2 := set_get (o' := SO.lst ((found.set (i + j) (f + a * m)).map fr)) hS
    refine inner_ok O ha hk hc hckl hok (j := j + 1) hS2 (fun z hz => hm z (List.mem_cons_of_mem _ hz)) (fun z hz => ?_) (by simp at hl ⊢; omega) fun x y => ?_
    · rw [show i + (j + 1) = i + j + 1 by omega, List.drop_set_of_lt (by omega)] at hz
      exact hf z (List.mem_of_mem_drop (i := 1) (by rw [List.drop_drop]; exact hz))
    · rw [List.set_set, show i + (j + 1) = i + j + 1 by omega, ← row_step hfp]
      exact hq x y
def mulL (i : Nat) : List Rat → List Rat → List Rat → List Rat
  | [], _, found => found
  | a :: l, ms, found => mulL (i + 1) l ms (row found i a ms)
theorem mulL_len : ∀ (l : List Rat) (i : Nat) (ms found : List Rat), (mulL i l ms found).length = found.length
  | [], _, _, _ => rfl
  | a :: l, i, ms, found => by
    show (mulL (i + 1) l ms (row found i a ms)).length = _
    rw [mulL_len l, row_len]
theorem row_sz {c w p : Nat} {a : Rat} {found ms : List Rat} (h1 : ∀ x ∈ found, Sz c x) (h2 : ∀ m ∈ ms, Sz w (a * m)) (hc : 1 ≤ c) (hw : 1 ≤ w) : ∀ x ∈ row found p a ms, Sz (c + w) x := by
  intro x hx
  rcases List.mem_append.mp hx with hx | hx
  · exact (h1 x (List.mem_of_mem_take hx)).up (by omega)
  · exact rowAdd_sz (fun y hy => h1 y (List.mem_of_mem_drop hy)) h2 hc hw x hx
theorem mulL_sz {k l : Nat} {ms : List Rat} (hm : ∀ m ∈ ms, Sz l m) (hk : 1 ≤ k) : ∀ {as found : List Rat} {i c : Nat}, (∀ a ∈ as, Sz k a) → (∀ x ∈ found, Sz c x) → 1 ≤ c → ∀ x ∈ mulL i as ms found, Sz (c + (k + l) * as.length) x
  | [], found, i, c, _, hf, _, x, hx => by simpa using hf x hx
  | a :: as, found, i, c, ha, hf, hc, x, hx => by
    have h1 := row_sz (p := i) (a := a) hf (fun m hmm => (ha a List.mem_cons_self).mul (hm m hmm)) hc (by omega)
    have := mulL_sz hm hk (fun y hy => ha y (List.mem_cons_of_mem _ hy)) h1 (by omega) x hx
    refine this.up ?_
    rw [List.length_cons, Nat.mul_succ]
    omega
abbrev mOuter (fs ft : FN) : Fst := sFor (iEn (aCons (dVar 1) aNil)) (.tp (.cons (.nm 5) (.cons (.nm 6) .nil))) (mBody fs ft)
theorem outer_ok (O : Ops fs ft) {n k l : Nat} {ms : List Rat} {A : Option D} {ok : Sto → Bool} {Q : Fl → Sto → Prop} (hk : 1 ≤ k) (hl : 1 ≤ l) (hm : ∀ m ∈ ms, Sz l m) (hok : ∀ T, ok T = true) :
    ∀ {as found : List Rat} {i c : Nat} {S : Sto} {u v x y : Option D}, S[n]? = some (.lst (found.map fr)) → (∀ a ∈ as, Sz k a) → (∀ z ∈ found, Sz c z) → 1 ≤ c → c + (k + l) * as.length ≤ 2000 → i + as.length + ms.length ≤ found.length →
      (∀ u v x y, Q (.nx [A, some (.tup (ms.map fr)), some (.ref n), u, v, x, y]) (S.set n (.lst ((mulL i as ms found).map fr)))) →
      WpS (forL ok (.tp (.cons (.nm 3) (.cons (.nm 4) .nil))) (mOuter fs ft) (enumF i (as.map fr)) [A, some (.tup (ms.map fr)), some (.ref n), u, v, x, y] S) Q
  | [], found, i, c, S, u, v, x, y, hS, ha, hf, hc, hw, hlen, hq => by
    show Q (.nx _) S
    have := hq u v x y
    have es : S.set n (.lst (found.map fr)) = S := by
      apply List.ext_getElem?
      intro p
      by_cases hp : p = n
      · subst hp; rw [set_get hS, hS]
      · rw [List.getElem?_set_ne (Ne.symm hp)]
    rw [show mulL i [] ms found = found from rfl, es] at this
    exact this
  | a :: as, found, i, c, S, u, v, x, y, hS, ha, hf, hc, hw, hlen, hq => by
    have sza : Sz k a := ha a List.mem_cons_self
    rw [List.length_cons, Nat.mul_succ] at hw
    have eb : ∃ x y, mOuter fs ft [A, some (.tup (ms.map fr)), some (.ref n), some (.int (i : Int)), some (fr a), x, y] S = mOuter fs ft [A, some (.tup (ms.map fr)), some (.ref n), some (.int (i : Int)), some (fr a), x, y] S := ⟨x, y, rfl⟩
    have key : WpS (mOuter fs ft [A, some (.tup (ms.map fr)), some (.ref n), some (.int (i : Int)), some (fr a), x, y] S) fun fl T =>
        ∃ x y, fl = .nx [A, some (.tup (ms.map fr)), some (.ref n), some (.int (i : Int)), some (fr a), x, y] ∧ T = S.set n (.lst ((row found i a ms).map fr)) := by
      unfold mOuter
      rw [wps_for]
      simp only [wp_iEn, wp_cons, wp_nil, wp_var, List.getElem?_cons_zero, List.getElem?_cons_succ, enumS_tup, wp_ok]
      rw [enumD_F]
      refine inner_ok O sza hk hc (by omega) (fun _ => rfl) (j := 0) hS hm (fun z hz => hf z (List.mem_of_mem_drop hz)) (by simp at hlen; omega) fun x y => ⟨x, y, rfl, rfl⟩
    show WpS (forL ok _ (mOuter fs ft) (pairD (.int (i : Nat)) (fr a) :: enumF (i + 1) (as.map fr)) _ S) Q
    unfold forL
    show WpS (match mOuter fs ft [A, some (.tup (ms.map fr)), some (.ref n), some (.int (i : Int)), some (fr a), x, y] S with
      | .fl (.nx ρ2) S2 => if ok S2 = true then forL ok (.tp (.cons (.nm 3) (.cons (.nm 4) .nil))) (mOuter fs ft) (enumF (i + 1) (as.map fr)) ρ2 S2 else .stuck
      | .fl (.ct ρ2) S2 => if ok S2 = true then forL ok (.tp (.cons (.nm 3) (.cons (.nm 4) .nil))) (mOuter fs ft) (enumF (i + 1) (as.map fr)) ρ2 S2 else .stuck
      | .fl (.brk ρ2) S2 => .fl (.nx ρ2) S2
      | r => r) Q
    generalize hr : mOuter fs ft [A, some (.tup (ms.map fr)), some (.ref n), some (.int (i : Int)), some (fr a), x, y] S = r at key
    cases r with
    | exc x ρ T => exact key.elim
    | stuck => exact key.elim
    | fl fl T =>
      obtain ⟨x, y, rfl, rfl⟩ := key
      show WpS (if ok _ = true then _ else _) Q
      rw [if_pos (hok _)]
      refine outer_ok O hk hl hm hok (i := i + 1) (c := c + (k + l)) (set_get hS) (fun z hz => ha z (List.mem_cons_of_mem _ hz)) (row_sz hf (fun m hmm => sza.mul (hm m hmm)) hc (by omega)) (by omega) (by omega) (by rw [row_len]; simp at hlen; omega) fun u v x y => ?_
      rw [List.set_set]
      exact hq u v x y

/-! ### the value's loop -/
theorem value_ok (O : Ops fs ft) {k l : Nat} {X : Rat} {A : Option D} {ok : Sto → Bool} {Q : Fl → Sto → Prop} (hx : Sz k X) (hl : 1 ≤ l) (hok : ∀ T, ok T = true) :
    ∀ {as : List Rat} {f : Rat} {c : Nat} {S : Sto} {x : Option D}, (∀ a ∈ as, Sz l a) → Sz c f → 1 ≤ c → c + (k + l) * as.length ≤ 2000 →
      (∀ x, Q (.nx [A, some (fr X), some (fr (as.foldl (fun g e => g * X + e) f)), x]) S) →
      WpS (forL ok (.nm 3) (sSet 2 (dCall fs 2 (aCons (dCall ft 2 (aCons (dVar 2) (aCons (dVar 1) aNil))) (aCons (dVar 3) aNil)))) (as.map fr) [A, some (fr X), some (fr f), x] S) Q
  | [], f, c, S, x, ha, hf, hc, hw, hq => hq x
  | a :: as, f, c, S, x, ha, hf, hc, hw, hq => by
    have sza : Sz l a := ha a List.mem_cons_self
    rw [List.length_cons, Nat.mul_succ] at hw
    have ht := O.t f X S c k hf hx (by omega)
    have hs := O.s (f * X) a S (c + k) l (hf.mul hx) sza (by omega) hl (by omega)
    show WpS (forL ok _ _ (fr a :: as.map fr) _ S) Q
    unfold forL
    have eb : sSet 2 (dCall fs 2 (aCons (dCall ft 2 (aCons (dVar 2) (aCons (dVar 1) aNil))) (aCons (dVar 3) aNil))) [A, some (fr X), some (fr f), some (fr a)] S = .fl (.nx [A, some (fr X), some (fr (f * X + a)), some (fr a)]) S := by
      have key : WpS (sSet 2 (dCall fs 2 (aCons (dCall ft 2 (aCons (dVar 2) (aCons (dVar 1) aNil))) (aCons (dVar 3) aNil))) [A, some (fr X), some (fr f), some (fr a)] S) fun fl T => fl = .nx [A, some (fr X), some (fr (f * X + a)), some (fr a)] ∧ T = S := by
        simp [ht, hs]
      generalize hr : sSet 2 (dCall fs 2 (aCons (dCall ft 2 (aCons (dVar 2) (aCons (dVar 1) aNil))) (aCons (dVar 3) aNil))) [A, some (fr X), some (fr f), some (fr a)] S = r at key
      cases r with
      | fl x T => obtain ⟨rfl, rfl⟩ := key; rfl
      | exc x ρ T => exact key.elim
      | stuck => exact key.elim
    show WpS (match sSet 2 (dCall fs 2 (aCons (dCall ft 2 (aCons (dVar 2) (aCons (dVar 1) aNil))) (aCons (dVar 3) aNil))) [A, some (fr X), some (fr f), some (fr a)] S with
      | .fl (.nx ρ2) S2 => if ok S2 = true then forL ok (.nm 3) (sSet 2 (dCall fs 2 (aCons (dCall ft 2 (aCons (dVar 2) (aCons (dVar 1) aNil))) (aCons (dVar 3) aNil)))) (as.map fr) ρ2 S2 else .stuck
      | .fl (.ct ρ2) S2 => if ok S2 = true then forL ok (.nm 3) (sSet 2 (dCall fs 2 (aCons (dCall ft 2 (aCons (dVar 2) (aCons (dVar 1) aNil))) (aCons (dVar 3) aNil)))) (as.map fr) ρ2 S2 else .stuck
      | .fl (.brk ρ2) S2 => .fl (.nx ρ2) S2
      | r => r) Q
    rw [eb]
    show WpS (if ok _ = true then _ else _) Q
    rw [if_pos (hok _)]
    exact value_ok O hx hl hok (c := c + k + l) (fun z hz => ha z (List.mem_cons_of_mem _ hz)) ((hf.mul hx).add sza (by omega) hl) (by omega) (by omega) hq
end
theorem fold_sz {k l : Nat} {X : Rat} (hx : Sz k X) (hl : 1 ≤ l) : ∀ {as : List Rat} {f : Rat} {c : Nat}, (∀ a ∈ as, Sz l a) → Sz c f → 1 ≤ c → Sz (c + (k + l) * as.length) (as.foldl (fun g e => g * X + e) f)
  | [], f, c, _, hf, _ => by simpa using hf
  | a :: as, f, c, ha, hf, hc => by
    have := fold_sz hx hl (fun z hz => ha z (List.mem_cons_of_mem _ hz)) ((hf.mul hx).add (ha a List.mem_cons_self) (by omega) hl) (by omega)
    refine this.up ?_
    rw [List.length_cons, Nat.mul_succ]
    omega
end MP
set_option Elab.async false
set_option linter.all false
set_option maxRecDepth 100000
set_option maxHeartbeats 4000000
/-! Polynomials: the algebra, by sums with weights. -/
namespace MP
open PySem

/-- the sum of l's items, each with its place's weight -/
def phi (w : Nat → Rat) : List Rat → Rat
  | [] => 0
  | a :: l => a * w 0 + phi (fun i => w (i + 1)) l
theorem phi_cons {w : Nat → Rat} {a : Rat} {l : List Rat} : phi w (a :: l) = a * w 0 + phi (fun i => w (i + 1)) l := rfl
theorem phi_nil {w : Nat → Rat} : phi w [] = 0 := rfl
theorem pow_add' (X : Rat) (i : Nat) : ∀ j : Nat, X ^ (i + j) = X ^ i * X ^ j
  | 0 => by rw [Nat.add_zero, Rat.pow_zero, Rat.mul_one]
  | j + 1 => by rw [← Nat.add_assoc, Rat.pow_succ, Rat.pow_succ, pow_add' X i j]; grind
theorem phi_congr {u w : Nat → Rat} (h : ∀ i, u i = w i) (l : List Rat) : phi u l = phi w l := by rw [show u = w from funext h]
theorem phi_add : ∀ (l : List Rat) (u v : Nat → Rat), phi (fun i => u i + v i) l = phi u l + phi v l
  | [], u, v => by simp only [phi_nil]; grind
  | a :: l, u, v => by
    unfold phi
    rw [phi_add l]
    grind
theorem phi_mul : ∀ (l : List Rat) (c : Rat) (u : Nat → Rat), phi (fun i => c * u i) l = c * phi u l
  | [], c, u => by simp [phi]
  | a :: l, c, u => by
    unfold phi
    rw [phi_mul l]
    grind
theorem phi_zero : ∀ (l : List Rat), phi (fun _ => 0) l = 0
  | [] => rfl
  | a :: l => by
    rw [phi_cons, phi_zero l]
    grind
theorem phi_app : ∀ (l m : List Rat) (w : Nat → Rat), phi w (l ++ m) = phi w l + phi (fun i => w (l.length + i)) m
  | [], m, w => by
    show phi w m = 0 + phi (fun i => w (0 + i)) m
    rw [phi_congr (fun i => by rw [Nat.zero_add] : ∀ i, w (0 + i) = w i)]
    grind
  | a :: l, m, w => by
    show a * w 0 + phi (fun i => w (i + 1)) (l ++ m) = (a * w 0 + phi (fun i => w (i + 1)) l) + phi (fun i => w ((a :: l).length + i)) m
    rw [phi_app l m]
    have : phi (fun i => w (l.length + i + 1)) m = phi (fun i => w ((a :: l).length + i)) m := phi_congr (fun i => by rw [List.length_cons, show l.length + i + 1 = l.length + 1 + i by omega]) m
    rw [this]
    grind
theorem phi_rep : ∀ (n : Nat) (w : Nat → Rat), phi w (List.replicate n 0) = 0
  | 0, w => rfl
  | n + 1, w => by
    rw [List.replicate_succ]
    rw [phi_cons, phi_rep n]
    grind
theorem phi_trim : ∀ (l : List Rat) (w : Nat → Rat), phi w (trim l) = phi w l
  | [], w => rfl
  | a :: l, w => by
    have ih := phi_trim l (fun i => w (i + 1))
    unfold trim
    split
    · rename_i h
      show 0 = a * w 0 + phi (fun i => w (i + 1)) l
      rw [← ih, h.1, h.2, phi_nil]
      grind
    · show a * w 0 + phi (fun i => w (i + 1)) (trim l) = a * w 0 + phi (fun i => w (i + 1)) l
      rw [ih]
theorem phi_zip : ∀ (l m : List Rat) (w : Nat → Rat), l.length = m.length → phi w (List.zipWith (· + ·) l m) = phi w l + phi w m
  | [], [], w, _ => by simp only [List.zipWith_nil_left, phi_nil]; grind
  | [], _ :: _, w, h => by cases h
  | _ :: _, [], w, h => by cases h
  | a :: l, b :: m, w, h => by
    rw [List.zipWith_cons_cons]
    unfold phi
    rw [phi_zip l m _ (by simpa using h)]
    grind
theorem phi_rowAdd : ∀ (fs ms : List Rat) (a : Rat) (w : Nat → Rat), ms.length ≤ fs.length → phi w (rowAdd fs a ms) = phi w fs + a * phi w ms
  | [], [], a, w, _ => by simp only [rowAdd, phi_nil]; grind
  | [], _ :: _, a, w, h => by simp at h
  | f :: fs, [], a, w, _ => by simp only [rowAdd, phi_nil]; grind
  | f :: fs, m :: ms, a, w, h => by
    unfold rowAdd phi
    rw [phi_rowAdd fs ms a _ (by simpa using h)]
    grind
theorem phi_row {found ms : List Rat} {p : Nat} {a : Rat} {w : Nat → Rat} (h : p + ms.length ≤ found.length) : phi w (row found p a ms) = phi w found + a * phi (fun j => w (p + j)) ms := by
  unfold row
  have hl : (found.take p).length = p := by rw [List.length_take]; omega
  rw [phi_app, hl, phi_rowAdd _ _ _ _ (by rw [List.length_drop]; omega)]
  have : phi w found = phi w (found.take p ++ found.drop p) := by rw [List.take_append_drop]
  rw [this, phi_app, hl]
  grind
theorem phi_mulL : ∀ (as : List Rat) (i : Nat) (ms found : List Rat) (w : Nat → Rat), i + as.length + ms.length ≤ found.length → phi w (mulL i as ms found) = phi w found + phi (fun k => phi (fun j => w (i + k + j)) ms) as
  | [], i, ms, found, w, h => by
    show phi w found = phi w found + 0
    grind
  | a :: as, i, ms, found, w, h => by
    show phi w (mulL (i + 1) as ms (row found i a ms)) = _
    simp at h
    rw [phi_mulL as (i + 1) ms _ w (by rw [row_len]; omega), phi_row (by omega)]
    have e1 : phi (fun k => phi (fun j => w (i + 1 + k + j)) ms) as = phi (fun k => phi (fun j => w (i + (k + 1) + j)) ms) as := phi_congr (fun k => phi_congr (fun j => by rw [show i + 1 + k + j = i + (k + 1) + j by omega]) ms) as
    have e2 : phi (fun k => phi (fun j => w (i + k + j)) ms) (a :: as) = a * phi (fun j => w (i + 0 + j)) ms + phi (fun k => phi (fun j => w (i + (k + 1) + j)) ms) as := rfl
    rw [e1, e2, Nat.add_zero]
    grind
/-- the sums may be swapped -/
theorem phi_swap : ∀ (l m : List Rat) (W : Nat → Nat → Rat), phi (fun i => phi (fun j => W i j) m) l = phi (fun j => phi (fun i => W i j) l) m
  | [], m, W => by
    show (0 : Rat) = phi (fun _ => 0) m
    rw [phi_zero]
  | a :: l, m, W => by
    have e1 : phi (fun i => phi (fun j => W i j) m) (a :: l) = a * phi (fun j => W 0 j) m + phi (fun i => phi (fun j => W (i + 1) j) m) l := rfl
    have e2 : phi (fun j => phi (fun i => W i j) (a :: l)) m = phi (fun j => a * W 0 j + phi (fun i => W (i + 1) j) l) m := rfl
    rw [e1, e2, phi_add, phi_mul, phi_swap l m fun i j => W (i + 1) j]

/-! ### trimmed lists are told by their sums -/
theorem phi_delta : ∀ (l : List Rat) (k : Nat), phi (fun i => if i = k then 1 else 0) l = l.getD k 0
  | [], k => by simp [phi]
  | a :: l, 0 => by
    unfold phi
    rw [phi_congr (w := fun _ => 0) (fun i => by simp), phi_zero]
    simp
    grind
  | a :: l, k + 1 => by
    unfold phi
    have := phi_delta l k
    simp
    simp at this
    rw [this]
    grind
theorem trim_all0 : ∀ (l : List Rat), (∀ k, l.getD k 0 = 0) → trim l = []
  | [], _ => rfl
  | a :: l, h => by
    have h0 : a = 0 := by simpa using h 0
    have := trim_all0 l fun k => by simpa using h (k + 1)
    unfold trim
    rw [if_pos ⟨this, h0⟩]
theorem trim_getD : ∀ (l m : List Rat), (∀ k, l.getD k 0 = m.getD k 0) → trim l = trim m
  | [], m, h => by rw [trim_all0 m fun k => by simpa using (h k).symm]; rfl
  | a :: l, [], h => trim_all0 (a :: l) fun k => by simpa using h k
  | a :: l, b :: m, h => by
    have h0 : a = b := by simpa using h 0
    have := trim_getD l m fun k => by simpa using h (k + 1)
    unfold trim
    rw [this, h0]
theorem trim_phi {l m : List Rat} (h : ∀ w, phi w l = phi w m) : trim l = trim m := trim_getD l m fun k => by rw [← phi_delta, ← phi_delta, h]

/-! ### sum, product, value, derivative -/
def pad (n : Nat) (l : List Rat) : List Rat := l ++ List.replicate (n - l.length) 0
def sumL (l m : List Rat) : List Rat := List.zipWith (· + ·) (pad (max l.length m.length) l) (pad (max l.length m.length) m)
def prodL (l m : List Rat) : List Rat := mulL 0 l m (List.replicate (l.length + m.length) 0)
def valL (X : Rat) (l : List Rat) : Rat := l.reverse.foldl (fun g e => g * X + e) 0
def der (j : Nat) : List Rat → List Rat
  | [] => []
  | a :: l => (a * (j : Rat)) :: der (j + 1) l
def derL (l : List Rat) : List Rat := (der 0 l).drop 1
theorem phi_pad {n : Nat} {l : List Rat} {w : Nat → Rat} : phi w (pad n l) = phi w l := by
  unfold pad
  rw [phi_app, phi_rep]
  grind
theorem phi_sum (l m : List Rat) (w : Nat → Rat) : phi w (sumL l m) = phi w l + phi w m := by
  unfold sumL
  rw [phi_zip _ _ _ (by unfold pad; simp; omega), phi_pad, phi_pad]
theorem phi_prod (l m : List Rat) (w : Nat → Rat) : phi w (prodL l m) = phi (fun i => phi (fun j => w (i + j)) m) l := by
  unfold prodL
  rw [phi_mulL _ _ _ _ _ (by simp), phi_rep]
  have : phi (fun k => phi (fun j => w (0 + k + j)) m) l = phi (fun i => phi (fun j => w (i + j)) m) l := phi_congr (fun k => by rw [Nat.zero_add]) l
  rw [this]
  grind
theorem phi_val (X : Rat) : ∀ l : List Rat, valL X l = phi (fun i => X ^ i) l := by
  intro l
  unfold valL
  rw [List.foldl_reverse]
  induction l with
  | nil => rfl
  | cons a l ih =>
    rw [List.foldr_cons, ih, phi_cons]
    have : phi (fun i => X ^ (i + 1)) l = X * phi (fun i => X ^ i) l := by
      rw [← phi_mul]
      exact phi_congr (fun i => by rw [Rat.pow_succ]; grind) l
    rw [this, Rat.pow_zero]
    grind
theorem phi_der : ∀ (l : List Rat) (j : Nat) (w : Nat → Rat), phi w (der j l) = phi (fun i => ((j + i : Nat) : Rat) * w i) l
  | [], _, _ => rfl
  | a :: l, j, w => by
    unfold der phi
    rw [phi_der l (j + 1)]
    have : phi (fun i => ((j + 1 + i : Nat) : Rat) * w (i + 1)) l = phi (fun i => ((j + (i + 1) : Nat) : Rat) * w (i + 1)) l := phi_congr (fun i => by rw [show j + 1 + i = j + (i + 1) by omega]) l
    rw [this, Nat.add_zero]
    grind
/-- the derivative's weights -/
def wd (w : Nat → Rat) (i : Nat) : Rat := (i : Rat) * w (i - 1)
theorem phi_derL (l : List Rat) (w : Nat → Rat) : phi w (derL l) = phi (wd w) l := by
  unfold derL
  cases l with
  | nil => rfl
  | cons a l =>
    show phi w (der (0 + 1) l) = a * wd w 0 + phi (fun i => wd w (i + 1)) l
    rw [phi_der]
    have e0 : wd w 0 = 0 := by unfold wd; simp
    have : phi (fun i => ((0 + 1 + i : Nat) : Rat) * w i) l = phi (fun i => wd w (i + 1)) l := phi_congr (fun i => by unfold wd; rw [show 0 + 1 + i = i + 1 by omega]; simp) l
    rw [this, e0]
    grind

/-! ### the laws -/
theorem sum_comm (l m : List Rat) : trim (sumL l m) = trim (sumL m l) := trim_phi fun w => by rw [phi_sum, phi_sum]; grind
theorem prod_comm (l m : List Rat) : trim (prodL l m) = trim (prodL m l) := trim_phi fun w => by
  rw [phi_prod, phi_prod, phi_swap l m fun i j => w (i + j)]
  exact phi_congr (fun j => phi_congr (fun i => by rw [Nat.add_comm]) l) m
theorem val_sum (X : Rat) (l m : List Rat) : valL X (trim (sumL l m)) = valL X l + valL X m := by
  rw [phi_val, phi_val, phi_val, phi_trim, phi_sum]
theorem val_prod (X : Rat) (l m : List Rat) : valL X (trim (prodL l m)) = valL X l * valL X m := by
  rw [phi_val, phi_val, phi_val, phi_trim, phi_prod]
  have : phi (fun i => phi (fun j => X ^ (i + j)) m) l = phi (fun i => phi (fun j => X ^ j) m * X ^ i) l := phi_congr (fun i => by
    have : phi (fun j => X ^ (i + j)) m = X ^ i * phi (fun j => X ^ j) m := by
      rw [← phi_mul]
      exact phi_congr (fun j => by rw [pow_add']) m
    rw [this]
    grind) l
  rw [this, phi_mul]
  grind
theorem wd_add (w : Nat → Rat) (i j : Nat) : wd w (i + j) = wd (fun k => w (k + j)) i + wd (fun k => w (i + k)) j := by
  unfold wd
  cases i with
  | zero => simp; grind
  | succ i =>
    cases j with
    | zero => simp; grind
    | succ j =>
      show ((i + 1 + (j + 1) : Nat) : Rat) * w (i + 1 + (j + 1) - 1) = ((i + 1 : Nat) : Rat) * w (i + 1 - 1 + (j + 1)) + ((j + 1 : Nat) : Rat) * w (i + 1 + (j + 1 - 1))
      rw [show i + 1 + (j + 1) - 1 = i + j + 1 by omega, show i + 1 - 1 + (j + 1) = i + j + 1 by omega, show i + 1 + (j + 1 - 1) = i + j + 1 by omega, Rat.natCast_add]
      grind
/-- the derivative of a product -/
theorem leibniz (l m : List Rat) : trim (derL (trim (prodL l m))) = trim (sumL (trim (prodL (trim (derL l)) m)) (trim (prodL l (trim (derL m))))) := trim_phi fun w => by
  rw [phi_derL, phi_trim, phi_prod, phi_sum, phi_trim, phi_trim, phi_prod, phi_prod, phi_trim, phi_derL]
  have e1 : phi (fun i => phi (fun j => w (i + j)) (trim (derL m))) l = phi (fun i => phi (wd fun j => w (i + j)) m) l := phi_congr (fun i => by rw [phi_trim, phi_derL]) l
  rw [e1, ← phi_add]
  refine phi_congr (fun i => ?_) l
  have e2 : wd (fun i => phi (fun j => w (i + j)) m) i = phi (fun j => wd (fun k => w (k + j)) i) m := by
    unfold wd
    rw [← phi_mul]
  rw [e2, ← phi_add]
  exact phi_congr (fun j => wd_add w i j) m
theorem sum_neg (l : List Rat) : trim (sumL l (l.map fun q => q * (-1))) = [] := by
  have h : ∀ w, phi w (l.map fun q => q * (-1)) = - phi w l := by
    induction l with
    | nil => intro w; simp [phi]
    | cons a l ih =>
      intro w
      rw [List.map_cons]
      unfold phi
      rw [ih]
      grind
  have : trim (sumL l (l.map fun q => q * (-1))) = trim [] := trim_phi fun w => by
    rw [phi_sum, h]
    show _ = (0 : Rat)
    grind
  rw [this]; rfl
theorem val_less (X : Rat) (l m : List Rat) : valL X (trim (sumL l (m.map fun q => q * (-1)))) = valL X l + -(valL X m) := by
  have h : ∀ (m : List Rat) w, phi w (m.map fun q => q * (-1)) = - phi w m := by
    intro m
    induction m with
    | nil => intro w; simp [phi]
    | cons a l ih =>
      intro w
      rw [List.map_cons]
      unfold phi
      rw [ih]
      grind
  rw [phi_val, phi_val, phi_val, phi_trim, phi_sum, h]
end MP
set_option Elab.async false
set_option linter.all false
set_option maxRecDepth 100000
set_option maxHeartbeats 4000000
namespace K08
open PySem MP
/-! ### fractions -/
theorem fraction_in_ok {t b : Int} {S : Sto} (hb : b ≠ 0) (hl : b.natAbs < 2 ^ 9000) : F_fraction_in [.int t, .int b] S = .ok (fr (Rat.divInt t b)) S := by
  have h1 := shar_ne (t := t) hb
  have h2 : szDiv (shar t b) = true := by
    unfold szDiv
    rw [Bool.and_eq_true, decide_eq_true_eq, decide_eq_true_eq]
    have := shar_log (t := t) hb
    have := (Nat.log2_lt (by omega)).mpr hl
    exact ⟨h1, by omega⟩
  have key : Wp (F_fraction_in [.int t, .int b] S) fun d T => d = fr (Rat.divInt t b) ∧ T = S := by
    unfold F_fraction_in b_fraction_in
    simp [entry, sizeLine]
    by_cases h : 0 < b
    · have e : shar t b = ((Nat.gcd t.natAbs b.natAbs : Nat) : Int) := by unfold shar; rw [if_pos h]
      rw [e] at h2
      have n1 := shar_num (t := t) hb
      have n2 := shar_den (t := t) hb
      rw [e] at n1 n2
      simp [h, h2, fr, n1, n2]
    · have e : shar t b = -((Nat.gcd t.natAbs b.natAbs : Nat) : Int) := by unfold shar; rw [if_neg h]
      rw [e] at h2
      have n1 := shar_num (t := t) hb
      have n2 := shar_den (t := t) hb
      rw [e] at n1 n2
      simp [h, h2, fr, n1, n2]
  obtain ⟨d, T, e, rfl, rfl⟩ := key.out
  exact e

theorem whole_add {a b : Rat} (ha : a.den = 1) (hb : b.den = 1) : fr (a + b) = .tup [.int (a.num + b.num), .int 1] := by
  rw [add_eq, ha, hb]
  unfold fr
  rw [Rat.num_divInt, Rat.den_divInt]
  simp
theorem whole_mul {a b : Rat} (ha : a.den = 1) (hb : b.den = 1) : fr (a * b) = .tup [.int (a.num * b.num), .int 1] := by
  rw [mul_eq, ha, hb]
  unfold fr
  rw [Rat.num_divInt, Rat.den_divInt]
  simp
theorem sum_in_ok {a b : Rat} {S : Sto} {k l : Nat} (ha : Sz k a) (hb : Sz l b) (hk : 1 ≤ k) (hl : 1 ≤ l) (hkl : k + l ≤ 2000) : F_sum_in [fr a, fr b] S = .ok (fr (a + b)) S := by
  have key : Wp (F_sum_in [fr a, fr b] S) fun d T => d = fr (a + b) ∧ T = S := by
    unfold F_sum_in b_sum_in
    simp [entry, sizeLine, fr, L2.atI, L2.ixN]
    have m1 : szMul a.num b.den = true := szMul_of (l := 4 * l) ha.n (by simpa using hb.d) (by omega)
    have m2 : szMul b.num a.den = true := szMul_of (l := 4 * k) hb.n (by simpa using ha.d) (by omega)
    have m3 : szMul a.den b.den = true := szMul_of (k := 4 * k) (l := 4 * l) (by simpa using ha.d) (by simpa using hb.d) (by omega)
    have fx := fraction_in_ok (t := a.num * b.den + b.num * a.den) (S := S) (den0 a b) (Nat.lt_of_lt_of_le (den_sz ha hb) (Nat.pow_le_pow_right (by decide) (by omega)))
    rw [← add_eq] at fx
    by_cases h1 : a.den = 1
    · by_cases h2 : b.den = 1
      · have := whole_add h1 h2
        simp [fr] at this
        have h1' : (a.den : Int) = 1 := by omega
        have h2' : (b.den : Int) = 1 := by omega
        simp [h1', h2', this.1, this.2]
      · have h1' : (a.den : Int) = 1 := by omega
        have h2' : ¬ (b.den : Int) = 1 := by omega
        rw [h1'] at m2 m3 fx
        simp [h1', h2', m1, m2, m3]
        simp at fx
        rw [fx]
        simp [fr]
    · have h1' : ¬ (a.den : Int) = 1 := by omega
      simp [h1', m1, m2, m3]
      rw [fx]
      simp [fr]
  obtain ⟨d, T, e, rfl, rfl⟩ := key.out
  exact e
theorem product_in_ok {a b : Rat} {S : Sto} {k l : Nat} (ha : Sz k a) (hb : Sz l b) (hkl : k + l ≤ 2000) : F_product_in [fr a, fr b] S = .ok (fr (a * b)) S := by
  have key : Wp (F_product_in [fr a, fr b] S) fun d T => d = fr (a * b) ∧ T = S := by
    unfold F_product_in b_product_in
    simp [entry, sizeLine, fr, L2.atI, L2.ixN]
    have m1 : szMul a.num b.num = true := szMul_of ha.n hb.n (by omega)
    have m3 : szMul a.den b.den = true := szMul_of (k := 4 * k) (l := 4 * l) (by simpa using ha.d) (by simpa using hb.d) (by omega)
    have fx := fraction_in_ok (t := a.num * b.num) (S := S) (den0 a b) (Nat.lt_of_lt_of_le (den_sz ha hb) (Nat.pow_le_pow_right (by decide) (by omega)))
    rw [← mul_eq] at fx
    by_cases h1 : a.den = 1
    · by_cases h2 : b.den = 1
      · have := whole_mul h1 h2
        simp [fr] at this
        have h1' : (a.den : Int) = 1 := by omega
        have h2' : (b.den : Int) = 1 := by omega
        simp [h1', h2', m1, this.1, this.2]
      · have h1' : (a.den : Int) = 1 := by omega
        have h2' : ¬ (b.den : Int) = 1 := by omega
        rw [h1'] at m3 fx
        simp [h1', h2', m1, m3]
        simp at fx
        rw [fx]
        simp [fr]
    · have h1' : ¬ (a.den : Int) = 1 := by omega
      simp [h1', m1, m3]
      rw [fx]
      simp [fr]
  obtain ⟨d, T, e, rfl, rfl⟩ := key.out
  exact e
theorem pair_of_int {i : Int} {S : Sto} : F_pair_of [.int i] S = .ok (fr (i : Rat)) S := by
  have key : Wp (F_pair_of [.int i] S) fun d T => d = fr (i : Rat) ∧ T = S := by
    unfold F_pair_of b_pair_of
    simp [entry, sizeLine, fr, Ty.sub]
  obtain ⟨d, T, e, rfl, rfl⟩ := key.out
  exact e
theorem pair_of_tup {ds : List D} {S : Sto} : F_pair_of [.tup ds] S = .ok (.tup ds) S := by
  have key : Wp (F_pair_of [.tup ds] S) fun d T => d = .tup ds ∧ T = S := by
    unfold F_pair_of b_pair_of
    simp [entry, Ty.sub]
  obtain ⟨d, T, e, rfl, rfl⟩ := key.out
  exact e

/-! ### the law's own fractions -/
theorem law_gcd_ok {a b : Int} {S : Sto} {k : Nat} (h : a.natAbs * b.natAbs < 2 ^ k) (hk : k ≤ 900000) : F__law_gcd [.int a, .int b] S = .ok (.int ((Nat.gcd a.natAbs b.natAbs : Nat) : Int)) S := by
  have key : Wp (F__law_gcd [.int a, .int b] S) fun d T => d = .int ((Nat.gcd a.natAbs b.natAbs : Nat) : Int) ∧ T = S := by
    unfold F__law_gcd b__law_gcd
    simp [entry]
    have ea : (if a < 0 then -a else a) = (a.natAbs : Int) := by split <;> omega
    have eb : (if b < 0 then -b else b) = (b.natAbs : Int) := by split <;> omega
    rw [ea, eb, wps_while]
    refine while_inv (fun m ρ T => T = S ∧ ∃ x y : Nat, ρ = [some (.int (x : Int)), some (.int (y : Int))] ∧ Nat.gcd x y = Nat.gcd a.natAbs b.natAbs ∧ ((y ≤ x ∧ x * y < 2 ^ m) ∨ (1 ≤ m ∧ x * y < 2 ^ (m - 1)))) (fun m ρ T hI => ?_) (m := k + 1) (show k + 1 < whMost by unfold whMost; omega) ⟨rfl, _, _, rfl, rfl, .inr ⟨by omega, by simpa using h⟩⟩
    obtain ⟨rfl, x, y, rfl, hg, hm⟩ := hI
    simp
    by_cases hy : y = 0
    · subst hy
      simp
      rw [← hg, Nat.gcd_zero_right]
    · have hy' : 0 < y := by omega
      have hxy : 0 < (y : Int) := by omega
      have m1 : 1 ≤ m := by
        rcases hm with ⟨h1, h2⟩ | ⟨h1, _⟩
        · have : 1 * 1 ≤ x * y := Nat.mul_le_mul (by omega) hy'
          rcases m with _ | m
          · simp at h2; omega
          · omega
        · exact h1
      simp [hy']
      refine ⟨m - 1, by omega, ?_⟩
      simp [hy]
      have hmod : (x : Int).fmod (y : Int) = ((x % y : Nat) : Int) := by rw [Int.fmod_eq_emod_of_nonneg _ (by omega)]; simp
      refine ⟨y, x % y, ⟨rfl, hmod⟩, ?_, ?_⟩
      · rw [← hg, Nat.gcd_comm, ← Nat.gcd_rec, Nat.gcd_comm]
      · by_cases hxy2 : y ≤ x
        · left
          have hh := eu_half hy' hxy2
          refine ⟨Nat.le_of_lt (Nat.mod_lt _ hy'), ?_⟩
          have h2m : 2 ^ m = 2 * 2 ^ (m - 1) := by rw [← Nat.pow_succ']; congr 1; omega
          have hp : x * y < 2 ^ m := by
            rcases hm with ⟨_, h2⟩ | ⟨_, h2⟩
            · exact h2
            · exact Nat.lt_of_lt_of_le h2 (Nat.pow_le_pow_right (by decide) (by omega))
          have h3 : y * (x % y) ≤ y * (x / 2) := Nat.mul_le_mul_left _ hh
          have h4 : 2 * (y * (x / 2)) ≤ x * y := by
            rw [Nat.mul_left_comm, Nat.mul_comm x y]
            exact Nat.mul_le_mul_left _ (Nat.mul_div_le x 2)
          omega
        · left
          have e : x % y = x := Nat.mod_eq_of_lt (by omega)
          rw [e]
          refine ⟨by omega, ?_⟩
          rcases hm with ⟨h1, _⟩ | ⟨_, h2⟩
          · omega
          · rw [Nat.mul_comm]; exact h2
  obtain ⟨d, T, e, rfl, rfl⟩ := key.out
  exact e
theorem law_fraction_ok {t b : Int} {S : Sto} {k : Nat} (hb : b ≠ 0) (hl : b.natAbs < 2 ^ 9000) (ht : t.natAbs < 2 ^ k) (hk : k ≤ 800000) : F__law_fraction [.int t, .int b] S = .ok (fr (Rat.divInt t b)) S := by
  have h1 := shar_ne (t := t) hb
  have h2 : szDiv (shar t b) = true := by
    unfold szDiv
    rw [Bool.and_eq_true, decide_eq_true_eq, decide_eq_true_eq]
    have := shar_log (t := t) hb
    have := (Nat.log2_lt (by omega)).mpr hl
    exact ⟨h1, by omega⟩
  have hg : F__law_gcd [.int t, .int b] S = _ := law_gcd_ok (S := S) (k := k + 9000) (by rw [Nat.pow_add]; exact Nat.mul_lt_mul'' ht hl) (by omega)
  have key : Wp (F__law_fraction [.int t, .int b] S) fun d T => d = fr (Rat.divInt t b) ∧ T = S := by
    unfold F__law_fraction b__law_fraction
    have n1 := shar_num (t := t) hb
    have n2 := shar_den (t := t) hb
    simp [entry, sizeLine, hg]
    by_cases h : 0 < b
    · have e : shar t b = ((Nat.gcd t.natAbs b.natAbs : Nat) : Int) := by unfold shar; rw [if_pos h]
      rw [e] at h2 n1 n2
      simp [show ¬ b < 0 by omega, h2, fr, n1, n2]
    · have e : shar t b = -((Nat.gcd t.natAbs b.natAbs : Nat) : Int) := by unfold shar; rw [if_neg h]
      rw [e] at h2 n1 n2
      simp [show b < 0 by omega, h2, fr, n1, n2]
  obtain ⟨d, T, e, rfl, rfl⟩ := key.out
  exact e
theorem law_plus_ok {a b : Rat} {S : Sto} {k l : Nat} (ha : Sz k a) (hb : Sz l b) (hk : 1 ≤ k) (hl : 1 ≤ l) (hkl : k + l ≤ 2000) : F__law_plus [fr a, fr b] S = .ok (fr (a + b)) S := by
  have key : Wp (F__law_plus [fr a, fr b] S) fun d T => d = fr (a + b) ∧ T = S := by
    unfold F__law_plus b__law_plus
    have m1 : szMul a.num b.den = true := szMul_of (l := 4 * l) ha.n (by simpa using hb.d) (by omega)
    have m2 : szMul b.num a.den = true := szMul_of (l := 4 * k) hb.n (by simpa using ha.d) (by omega)
    have m3 : szMul a.den b.den = true := szMul_of (k := 4 * k) (l := 4 * l) (by simpa using ha.d) (by simpa using hb.d) (by omega)
    have fx := law_fraction_ok (S := S) (den0 a b) (Nat.lt_of_lt_of_le (den_sz ha hb) (Nat.pow_le_pow_right (by decide) (by omega))) (addnum_sz ha hb hk hl) (by omega)
    rw [← add_eq] at fx
    simp [entry, sizeLine, fr, L2.atI, L2.ixN, m1, m2, m3]
    rw [fx]
    simp [fr]
  obtain ⟨d, T, e, rfl, rfl⟩ := key.out
  exact e
theorem law_times_ok {a b : Rat} {S : Sto} {k l : Nat} (ha : Sz k a) (hb : Sz l b) (hkl : k + l ≤ 2000) : F__law_times [fr a, fr b] S = .ok (fr (a * b)) S := by
  have key : Wp (F__law_times [fr a, fr b] S) fun d T => d = fr (a * b) ∧ T = S := by
    unfold F__law_times b__law_times
    have m1 : szMul a.num b.num = true := szMul_of ha.n hb.n (by omega)
    have m3 : szMul a.den b.den = true := szMul_of (k := 4 * k) (l := 4 * l) (by simpa using ha.d) (by simpa using hb.d) (by omega)
    have fx := law_fraction_ok (S := S) (den0 a b) (Nat.lt_of_lt_of_le (den_sz ha hb) (Nat.pow_le_pow_right (by decide) (by omega))) (mulnum_sz ha hb) (by omega)
    rw [← mul_eq] at fx
    simp [entry, sizeLine, fr, L2.atI, L2.ixN, m1, m3]
    rw [fx]
    simp [fr]
  obtain ⟨d, T, e, rfl, rfl⟩ := key.out
  exact e
theorem law_less_ok {a b : Rat} {S : Sto} {k l : Nat} (ha : Sz k a) (hb : Sz l b) (hk : 1 ≤ k) (hl : 1 ≤ l) (hkl : k + l ≤ 2000) : F__law_less [fr a, fr b] S = .ok (fr (a + -b)) S := by
  have key : Wp (F__law_less [fr a, fr b] S) fun d T => d = fr (a + -b) ∧ T = S := by
    unfold F__law_less b__law_less
    have fx := law_plus_ok (S := S) ha hb.neg hk hl hkl
    have e : D.tup [.int (0 - b.num), .int b.den] = fr (-b) := by unfold fr; simp
    simp [fr] at fx
    simp [entry, sizeLine, fr, L2.atI, L2.ixN]
    rw [fx]
    simp
  obtain ⟨d, T, e, rfl, rfl⟩ := key.out
  exact e
end K08
set_option Elab.async false
set_option linter.all false
set_option maxRecDepth 100000
set_option maxHeartbeats 4000000
namespace K08
open PySem MP
/-! ### the dice -/
theorem roll_ok {nd c : Nat} {t : Int} {S : Sto} {Q : D → Sto → Prop} (h : Dice S nd c) (ht : 0 < t) (hs : t.natAbs < 2 ^ 200) (hc : c ≤ 1000000)
    (hq : ∀ (r : Int) (T : Sto), 0 ≤ r → r < t → Dice T nd (c + 1) → Ed nd S T → T.length = S.length → Q (.int r) T) : Wp (F__law_roll [.ref nd, .int t] S) Q := by
  obtain ⟨a, b, k, hS, hk⟩ := h.ex
  have sd : szDiv t = true := szDiv_of (k := 200) (by omega) hs (by decide)
  have t0 : t ≠ 0 := by omega
  unfold F__law_roll b__law_roll
  simp [entry, dAt_ref hS, L2.atI, L2.ixN]
  by_cases ha : 0 < a
  · simp [ha, dAt_ref hS, L2.atI, L2.ixN, t0, sd, putD_ref hS]
    refine hq _ _ (Int.fmod_nonneg_of_pos _ ht) (Int.fmod_lt_of_pos _ ht) ?_ Ed.refl.put (by simp)
    exact ⟨_, b, k, set_get hS, by omega⟩
  · have hS2 := set_get (o' := .lst [.int a, .int b, .int ((k : Int) + 1)]) hS
    have k1 : szMul 99990067 ((k : Int) + 1) = true := szMul_small (by decide) (by
      have : ((k : Int) + 1).natAbs < 2 ^ 30 := by omega
      exact Nat.lt_of_lt_of_le this (Nat.pow_le_pow_right (by decide) (by decide)))
    have k2 : szMul 89 ((k : Int) + 1) = true := szMul_small (by decide) (by
      have : ((k : Int) + 1).natAbs < 2 ^ 30 := by omega
      exact Nat.lt_of_lt_of_le this (Nat.pow_le_pow_right (by decide) (by decide)))
    simp [ha, dAt_ref hS, L2.atI, L2.ixN, putD_ref hS]
    simp [dAt_ref hS2, L2.atI, L2.ixN, k1]
    generalize ho : (b + 99990067 * ((k : Int) + 1)).fmod 2305843009213693381 = one
    have o1 : 0 ≤ one := by rw [← ho]; exact Int.fmod_nonneg_of_pos _ (by decide)
    have o2 : one < 2305843009213693381 := by rw [← ho]; exact Int.fmod_lt_of_pos _ (by decide)
    have k3 : szMul one one = true := szMul_small (by
      have : one.natAbs < 2 ^ 64 := by omega
      exact Nat.lt_of_lt_of_le this (Nat.pow_le_pow_right (by decide) (by decide))) (by
      have : one.natAbs < 2 ^ 64 := by omega
      exact Nat.lt_of_lt_of_le this (Nat.pow_le_pow_right (by decide) (by decide)))
    simp [dAt_ref hS2, L2.atI, L2.ixN, k2, k3]
    generalize hw : (one * one + 89 * ((k : Int) + 1)).fmod 2305843009213693343 = two
    have w1 : 0 ≤ two := by rw [← hw]; exact Int.fmod_nonneg_of_pos _ (by decide)
    have w2 : two < 2305843009213693343 := by rw [← hw]; exact Int.fmod_lt_of_pos _ (by decide)
    have k4 : szMul two 8675309 = true := szMul_small (by
      have : two.natAbs < 2 ^ 64 := by omega
      exact Nat.lt_of_lt_of_le this (Nat.pow_le_pow_right (by decide) (by decide))) (by decide)
    have k5 : szDiv 65551 = true := by decide +kernel
    simp [k4, k5, t0]
    refine hq _ _ (Int.fmod_nonneg_of_pos _ ht) (Int.fmod_lt_of_pos _ ht) ?_ Ed.refl.put (by simp)
    exact ⟨a, b, k + 1, by rw [hS2]; rfl, by omega⟩
theorem dice_ok {ns : List Int} {spot : Nat} {S : Sto} {Q : D → Sto → Prop} (hsp : spot ≤ 1000) (hq : ∀ a b : Int, Q (.ref S.length) (S ++ [.lst [.int a, .int b, .int 0]])) : Wp (F__law_dice [law_D ns, .int (spot : Int)] S) Q := by
  unfold F__law_dice b__law_dice
  rw [wp_run, wps_seq]
  have c4 : ∀ k : Int, k.natAbs < 2 ^ 20 → szMul k (spot : Int) = true := fun k hk => szMul_of hk (show (spot : Int).natAbs < 2 ^ 20 by omega) (by decide)
  refine WpS.mono (Q := fun fl T => ∃ cell : Int, fl = .nx [some (law_D ns), some (.int (spot : Int)), some (.int cell), none] ∧ T = S) ?_ ?_
  · simp [entry, law_D, c4]
    by_cases h : spot < ns.length
    · simp [h, atI_nat]
    · simp [h, c4]
  · rintro fl T ⟨cell, rfl, rfl⟩
    have c1 : (10 : Int).natAbs < 2 ^ 64 := by decide
    have c2 : szMul (10 ^ 56) (10 ^ 60) = true := by decide +kernel
    have m0 : ¬ ((10 : Int) ^ 56 * 10 ^ 60 = 0) := by decide +kernel
    have c5 : ∀ k : Bool, szMul 43 (if k = true then 1 else 0) = true := by decide +kernel
    have c3 : ∀ x : Int, szMul (x.fmod 1152921504606846869) 61 = true := fun x => by
      have r1 : 0 ≤ x.fmod 1152921504606846869 := Int.fmod_nonneg_of_pos _ (by decide)
      have r2 : x.fmod 1152921504606846869 < 1152921504606846869 := Int.fmod_lt_of_pos _ (by decide)
      exact szMul_of (k := 64) (l := 20) (by omega) (by decide) (by decide)
    have c6 : szMul 1009 (spot : Int) = true := c4 _ (by decide)
    simp only [sq_nx, wps_seq, wps_set, wp_d2, wp_dN, wp_cons, wp_nil, wp_c, wp_var, List.getElem?_cons_zero, List.getElem?_cons_succ, nAbs_int, wp_ok, dPow_int, dSub_int, nMax_int, wps_ret, wp_lst, dMod_int, dMul_int, dAdd_int, dIB_int, nInt_bl, wp_ite, wp_stuck, List.set_cons_succ, List.set_cons_zero, c1, c2, c3, c5, c6, m0, rn_ret]
    simp [c1, c2, c3, c5, c6, m0, sizeLine]
    exact ⟨by decide +kernel, hq _ _⟩
end K08
set_option Elab.async false
set_option linter.all false
set_option maxRecDepth 100000
set_option maxHeartbeats 4000000
namespace K08
open PySem MP
theorem frac_ok1 {t b : Int} (ht : t.natAbs < 2 ^ 110) (hb : b ≠ 0) (hb2 : b.natAbs < 2 ^ 4) : Sz 1 (Rat.divInt t b) :=
  ⟨Nat.lt_of_le_of_lt (divInt_num_le ..) ht, Nat.lt_of_le_of_lt (divInt_den_le _ _ hb) hb2⟩
theorem py_number_ok {nd c : Nat} {S : Sto} {Q : D → Sto → Prop} (h : Dice S nd c) (hc : c + 10 ≤ 1000000)
    (hq : ∀ (x : Num) (T : Sto), x.Ok → Dice T nd (c + 4) → Ed nd S T → T.length = S.length → Q x.d T) : Wp (F__law_py_number [.ref nd] S) Q := by
  unfold F__law_py_number b__law_py_number
  simp [entry]
  refine roll_ok h (by decide) (by decide) (by omega) fun way T w0 w1 hT eT lT => ?_
  simp
  by_cases h4 : way < 4
  · simp [h4]
    refine roll_ok hT (by decide) (by decide) (by omega) fun r U r0 r1 hU eU lU => ?_
    simp
    have hr : (r - 4).natAbs < 2 ^ 20 := by omega
    refine hq (.i (r - 4)) U ⟨Sz.int (Nat.lt_of_lt_of_le hr (by decide)), fun n e => ?_⟩ (hU.up Ex.refl (by omega)) (eT.trans eU) (by omega)
    cases e
    exact Nat.lt_of_lt_of_le hr (by decide)
  · simp [h4]
    by_cases h7 : way = 7
    · simp [h7]
      refine roll_ok hT (by decide) (by decide) (by omega) fun r U r0 r1 hU eU lU => ?_
      simp
      have hr : (r - 10 ^ 29).natAbs < 10 ^ 30 := by omega
      refine hq (.i (r - 10 ^ 29)) U ⟨Sz.int (Nat.lt_of_lt_of_le hr (by decide)), fun n e => ?_⟩ (hU.up Ex.refl (by omega)) (eT.trans eU) (by omega)
      cases e
      exact Nat.lt_of_lt_of_le hr (by decide)
    · simp [h7]
      refine roll_ok hT (by decide) (by decide) (by omega) fun r U r0 r1 hU eU lU => ?_
      simp
      refine roll_ok hU (by decide) (by decide) (by omega) fun s V s0 s1 hV eV lV => ?_
      simp
      have hb0 : (1 + s) ≠ 0 := by omega
      have hb1 : (1 + s).natAbs < 2 ^ 4 := by omega
      have ht1 : (r - 20).natAbs < 2 ^ 110 := Nat.lt_of_lt_of_le (show (r - 20).natAbs < 2 ^ 20 by omega) (by decide)
      have hsz := frac_ok1 ht1 hb0 hb1
      rw [law_fraction_ok hb0 (Nat.lt_of_lt_of_le hb1 (Nat.pow_le_pow_right (by decide) (by decide))) ht1 (by decide)]
      have e1 : Ed nd S V := (eT.trans eU).trans eV
      have l1 : V.length = S.length := by omega
      have d1 : Dice V nd (c + 4) := hV.up Ex.refl (by omega)
      generalize hq' : Rat.divInt (r - 20) (1 + s) = q at *
      have hf : Q (Num.f q).d V := hq (.f q) V ⟨hsz, fun n e => by cases e⟩ d1 e1 l1
      have hfr : Q (fr q) V := hf
      simp [fr, L2.atI, L2.ixN]
      by_cases hd : (q.den : Int) = 1
      · by_cases hw : way = 4
        · simp [hd, hw]
          have hn : (Rat.divInt (r - 20) (1 + s)).num.natAbs ≤ 20 := Nat.le_trans (divInt_num_le ..) (by omega)
          rw [hq'] at hn
          have e : (q.num : Rat) = q := Rat.ext rfl (by simp; omega)
          refine hq (.i q.num) V ⟨by show Sz 1 ((q.num : Int) : Rat); rw [e]; exact hsz, fun n e => ?_⟩ d1 e1 l1
          cases e
          exact Nat.lt_of_le_of_lt hn (by decide)
        · simp [hd, hw]
          rw [fr, hd] at hfr
          exact hfr
      · simp [hd]
        exact hfr
end K08
set_option Elab.async false
set_option linter.all false
set_option maxRecDepth 100000
set_option maxHeartbeats 4000000
namespace K08
open PySem MP
/-- the numbers of a polynomial as drawn: accepted, at most m, the last one not 0 -/
structure Pol (m : Nat) (xs : List Num) : Prop where
  ok : ∀ x ∈ xs, x.Ok
  len : xs.length ≤ m
  last : ∀ x, xs.getLast? = some x → x.q ≠ 0
theorem py_drawn_ok {nd c m : Nat} {S : Sto} {Q : D → Sto → Prop} (h : Dice S nd c) (hm : m ≤ 20) (hc : c + 100 ≤ 1000000)
    (hq : ∀ (xs : List Num) (T : Sto), Pol (m + 1) xs → Dice T nd (c + 100) → Ed nd S T → Q (.tup (xs.map Num.d)) T) : Wp (F__law_py_drawn [.ref nd, .int (m : Int)] S) Q := by
  unfold F__law_py_drawn b__law_py_drawn
  simp [entry, wp_lc]
  refine roll_ok h (by omega) (Nat.lt_of_lt_of_le (show ((m : Int) + 2).natAbs < 2 ^ 20 by omega) (by decide)) (by omega) fun r T r0 r1 hT eT lT => ?_
  have hr : -(2 ^ 62 : Int) ≤ r ∧ r < 2 ^ 62 := by omega
  simp [wipeR] at *
  refine ⟨by omega, ?_⟩
  refine (lc_gen (fun ds acc U => ∃ xs : List Num, acc = xs.map Num.d ∧ (∀ x ∈ xs, x.Ok) ∧ Dice U nd (c + 1 + 4 * xs.length) ∧ Ed nd S U ∧ xs.length + ds.length = r.toNat) (fun d ds acc U hI => ?_) (acc := []) ⟨[], rfl, by simp, hT, eT, by simp⟩).mono fun ys U hU => ?_
  · obtain ⟨xs, rfl, ok, hD, hE, hl⟩ := hI
    refine ⟨_, rfl, ?_⟩
    simp at hl
    simp
    refine py_number_ok hD (by omega) fun x V hx hV eV lV => ?_
    refine ⟨xs ++ [x], by simp, fun z hz => ?_, hV.up Ex.refl (by simp; omega), hE.trans eV, by simp; omega⟩
    rcases List.mem_append.mp hz with hz | hz
    · exact ok z hz
    · rw [List.mem_singleton.mp hz]; exact hx
  · obtain ⟨xs, e, ok, hD, hE, hl⟩ := hU
    simp at e hl
    subst e
    have hsz : xs.length ≤ sizeLine := by unfold sizeLine; omega
    simp [hsz]
    rw [wps_while]
    have hnd : nd < S.length := h.lt
    have hnU : U.length ≠ nd := by have := hE.len; omega
    refine while_inv (Q := sq _ (rn Q)) (fun k ρ V => ∃ zs : List Num, ρ = [some (.ref nd), some (.int (m : Int)), some (.ref U.length), none] ∧ V[U.length]? = some (.lst (zs.map Num.d)) ∧ (∀ x ∈ zs, x.Ok) ∧ zs.length ≤ m + 1 ∧ Dice V nd (c + 100) ∧ Ed nd S V ∧ zs.length = k)
      (fun k ρ V hI => ?_) (m := xs.length) (by unfold whMost; omega) ⟨xs, rfl, by simp, ok, by omega, (hD.app.up Ex.refl (by omega)), hE.app _, rfl⟩
    obtain ⟨zs, rfl, hV, okz, hlz, hDV, hEV, hk⟩ := hI
    simp [sizeLine]
    have hn : (V ++ [SO.lst []])[U.length]? = some (.lst (zs.map Num.d)) := get_app hV
    have hne := dEqB_ens (α := Num) (n := true) zs [] (S := V ++ [SO.lst []]) (i := U.length) (j := V.length) hn (by simp) (by decide)
    simp [hne]
    have fin : (∀ x, zs.getLast? = some x → x.q ≠ 0) → Q (.tup (zs.map Num.d)) (V ++ [SO.lst []]) := fun hl => hq zs _ ⟨okz, hlz, hl⟩ hDV.app (hEV.app _)
    by_cases hz : zs = []
    · subst hz
      simp [nTuple_ref hn]
      exact fin (by simp)
    · simp [hz, dAt_ref hn]
      obtain ⟨pre, x, rfl⟩ := List.eq_nil_or_concat zs |>.resolve_left hz
      have ha : L2.atI ((pre ++ [x]).map Num.d) (-1) = some x.d := by
        have := atI_last (xs := (pre ++ [x]).map Num.d) (k := 0) (by simp)
        simpa using this
      simp only [List.concat_eq_append, List.map_append, List.map_cons, List.map_nil] at *
      rw [ha]
      simp
      have hin := dInB_en (n := false) x [Num.i 0, Num.f 0] (S := V ++ [SO.lst []]) (by decide)
      rw [Num.z_in] at hin
      have hin' : dInB false x.d (.tup [.int 0, .tup [.int 0, .int 1]]) (V ++ [SO.lst []]) = .ok (.bl (decide (x.q = 0))) (V ++ [SO.lst []]) := hin
      simp [hin']
      by_cases hx : x.q = 0
      · simp [hx, isLst_ref hn, mPop_ref hn]
        refine ⟨k - 1, by simp at hk; omega, pre, ?_, fun z hz => okz z (List.mem_append_left _ hz), ?_, (hDV.app).set hnU, (hEV.app _).set hE.len, by simp at hk; omega⟩
        · rw [set_get hn]
        · simp at hlz; omega
      · simp [hx, nTuple_ref hn]
        have := fin (fun z hz => by simp at hz; rw [← hz]; exact hx)
        simpa using this
end K08
set_option Elab.async false
set_option linter.all false
set_option maxRecDepth 100000
set_option maxHeartbeats 4000000
namespace K08
open PySem MP
/-! ### what is a number, a polynomial -/
theorem is_whole_ok {d : D} {S : Sto} (h : ∃ a, tyD d S = some a) : F_is_whole [d] S = .ok (.bl (wholeB d)) S := by
  obtain ⟨a, h⟩ := h
  have key : Wp (F_is_whole [d] S) fun r T => r = .bl (wholeB d) ∧ T = S := by
    unfold F_is_whole b_is_whole
    rw [whole_ty h]
    simp [entry, h]
    cases a <;> simp [Ty.sub, h]
  obtain ⟨d, T, e, rfl, rfl⟩ := key.out
  exact e
theorem is_integer_ok {d : D} {S : Sto} (h : ∃ a, tyD d S = some a) : F_is_integer [d] S = .ok (.bl (integerB d)) S := by
  have key : Wp (F_is_integer [d] S) fun r T => r = .bl (integerB d) ∧ T = S := by
    unfold F_is_integer b_is_integer
    simp [entry, is_whole_ok h]
    cases d with
    | int i =>
      simp [wholeB, integerB, c_BOUND]
      by_cases h1 : -1000000000000000000000000000000000000000000000000000000000000 < i <;> simp [h1]
    | _ => simp [wholeB, integerB]
  obtain ⟨d, T, e, rfl, rfl⟩ := key.out
  exact e
theorem is_fraction_ok {d : D} {S : Sto} {Q : D → Sto → Prop} (h : Td S d) (hq : ∀ T, Ex S T → Q (.bl (fractionB d)) T) : Wp (F_is_fraction [d] S) Q := by
  unfold F_is_fraction b_is_fraction
  obtain ⟨a, ha⟩ := h.ty
  by_cases ht : ∃ ds, d = .tup ds
  · obtain ⟨ds, rfl⟩ := ht
    simp [entry, Ty.sub]
    by_cases hl : ds.length = 2
    · obtain ⟨x, y, rfl⟩ : ∃ x y, ds = [x, y] := by
        match ds, hl with
        | [x, y], _ => exact ⟨x, y, rfl⟩
      simp [wp_lc, wipeR]
      refine lc_mapD (f := fun e => .bl (wholeB e)) (fun e he T hT => ⟨_, rfl, ?_⟩) (fun _ _ => rfl) fun T hT => ?_
      · obtain ⟨b, hb⟩ := h.its _ rfl e he
        simp
        rw [is_whole_ok ⟨b, ty_ex hb hT⟩]
        exact ⟨rfl, Ex.refl⟩
      · have hn : (T ++ [SO.lst [D.bl (wholeB x), D.bl (wholeB y)]])[T.length]? = some (.lst ([wholeB x, wholeB y].map D.bl)) := by simp
        simp [sizeLine, nAll_ref hn]
        have hE : Ex S (T ++ [SO.lst [D.bl (wholeB x), D.bl (wholeB y)]]) := hT.app _
        by_cases hx : wholeB x = true
        · by_cases hy : wholeB y = true
          · cases x <;> simp [wholeB] at hx
            cases y <;> simp [wholeB] at hy
            rename_i t u
            have := hq _ hE
            simp [wholeB, L2.atI, L2.ixN]
            simp [fractionB] at this
            by_cases hu : 1 ≤ u
            · simp [hu] at this ⊢
              exact this
            · simp [hu] at this ⊢
              exact this
          · have := hq _ hE
            simp [hx, hy]
            have e : fractionB (.tup [x, y]) = false := by cases x <;> cases y <;> simp_all [wholeB, fractionB]
            rw [e] at this
            simpa [hx, hy] using this
        · have := hq _ hE
          simp [hx]
          have e : fractionB (.tup [x, y]) = false := by cases x <;> simp_all [wholeB, fractionB]
          rw [e] at this
          simpa [hx] using this
    · have hl' : ¬ ((ds.length : Int) = 2) := by omega
      simp [hl']
      have e : fractionB (.tup ds) = false := by
        unfold fractionB
        split
        · rename_i z; cases z; simp at hl
        · rfl
      have := hq S Ex.refl
      rw [e] at this
      exact this
  · have e : fractionB d = false := by
      unfold fractionB
      split
      · exact absurd ⟨_, rfl⟩ ht
      · rfl
    have ea : Ty.sub a .tuple = false := by
      have : a ≠ .tuple := fun z => by
        subst z
        cases d with
        | tup ds => exact ht ⟨ds, rfl⟩
        | ref n =>
          unfold tyD at ha
          simp only at ha
          split at ha <;> cases ha
        | _ => cases ha
      cases a <;> simp_all [Ty.sub]
    simp [entry, ha, ea]
    have := hq S Ex.refl
    rw [e] at this
    exact this
theorem is_number_ok {d : D} {S : Sto} {Q : D → Sto → Prop} (h : Td S d) (hq : ∀ T, Ex S T → Q (.bl (numberB d)) T) : Wp (F_is_number [d] S) Q := by
  unfold F_is_number b_is_number
  simp [entry, is_integer_ok h.ty]
  unfold numberB at hq
  cases hi : integerB d with
  | true =>
    simp [hi] at hq ⊢
    exact hq S Ex.refl
  | false =>
    simp [hi] at hq ⊢
    exact is_fraction_ok h hq
theorem is_poly_ok {ds : List D} {S : Sto} {Q : D → Sto → Prop} (h : ∀ d ∈ ds, Td S d) (hq : ∀ T, Ex S T → Q (.bl (polyB ds)) T) : Wp (F_is_poly [.tup ds] S) Q := by
  unfold F_is_poly b_is_poly
  simp [entry, Ty.sub, c_MAX_DEGREE]
  by_cases hl : 41 < (ds.length : Int)
  · simp [hl]
    have e : polyB ds = false := by unfold polyB; rw [show decide (ds.length ≤ 41) = false from decide_eq_false (by omega)]; rfl
    have := hq S Ex.refl
    rw [e] at this
    exact this
  · simp [hl, wp_lc, wipeR]
    have e41 : decide (ds.length ≤ 41) = true := decide_eq_true (by omega)
    refine lc_mapD (f := fun e => .bl (numberB e)) (fun e he T hT => ⟨_, rfl, ?_⟩) (fun _ _ => rfl) fun T hT => ?_
    · simp
      exact is_number_ok ((h e he).up hT) fun U hU => ⟨rfl, hU⟩
    · have em : ds.map (fun e => D.bl (numberB e)) = (ds.map numberB).map D.bl := by simp
      rw [em]
      have hn : (T ++ [SO.lst ((ds.map numberB).map D.bl)])[T.length]? = some (.lst ((ds.map numberB).map D.bl)) := by simp
      have hsz : ds.length ≤ sizeLine := by unfold sizeLine; omega
      have hE : Ex S (T ++ [SO.lst ((ds.map numberB).map D.bl)]) := hT.app _
      generalize hU : T ++ [SO.lst ((ds.map numberB).map D.bl)] = U at *
      simp only [List.length_map, hsz, true_and, if_true]
      simp [nAll_ref hn]
      have hqU := hq U hE
      unfold polyB at hqU
      rw [e41, Bool.true_and] at hqU
      have eall : (ds.map numberB).all id = ds.all numberB := by simp
      cases hall : ds.all numberB with
      | false =>
        rw [hall] at hqU
        have hno : ¬ ∀ x, x ∈ ds → numberB x = true := fun z => by
          have : ds.all numberB = true := by simpa using z
          rw [hall] at this
          cases this
        rw [if_neg hno]
        exact hqU
      | true =>
        rw [hall, Bool.true_and] at hqU
        have hall' : ∀ x, x ∈ ds → numberB x = true := by simpa using hall
        rw [if_pos hall']
        obtain ⟨xs, rfl⟩ := numbers_nums hall'
        have he : dEq (.tup (xs.map Num.d)) (.tup []) U = .ok (.bl (decide (xs = []))) U := dEqB_en (α := List Num) (n := false) xs [] (by decide)
        simp [he]
        cases hl : xs.getLast? with
        | none =>
          have : xs = [] := by simpa using hl
          subst this
          simp at hqU ⊢
          exact hqU
        | some x =>
          have hne : xs ≠ [] := fun z => by subst z; cases hl
          have hl' : (xs.map Num.d).getLast? = some x.d := by simp [List.getLast?_map, hl]
          rw [hl'] at hqU
          simp [hne, atI_getLast hl']
          have hp : F_pair_of [x.d] U = .ok (fr x.q) U := by
            cases x with
            | i n => exact pair_of_int
            | f q => exact pair_of_tup
          rw [hp]
          have ht : decide (topD x.d ≠ 0) = !decide (x.q.num = 0) := by
            rw [Bool.eq_iff_iff]
            simp only [decide_eq_true_eq, Bool.not_eq_true', decide_eq_false_iff_not]
            exact topD_num.trans (not_congr Rat.num_eq_zero.symm)
          have hqU : Q (.bl (decide (topD x.d ≠ 0))) U := hqU
          rw [ht] at hqU
          simp [fr, L2.atI, L2.ixN]
          simpa using hqU
theorem is_poly_other {d : D} {a : Ty} {S : Sto} (h : tyD d S = some a) (ha : a ≠ .tuple) : F_is_poly [d] S = .ok (.bl false) S := by
  have key : Wp (F_is_poly [d] S) fun r T => r = .bl false ∧ T = S := by
    unfold F_is_poly b_is_poly
    have ea : Ty.sub a .tuple = false := by cases a <;> simp_all [Ty.sub]
    simp [entry, h, ea]
  obtain ⟨d, T, e, rfl, rfl⟩ := key.out
  exact e
theorem polyB_pol {m : Nat} {xs : List Num} (h : Pol m xs) (hm : m ≤ 41) : polyB (xs.map Num.d) = true := by
  unfold polyB
  rw [Bool.and_eq_true, Bool.and_eq_true, decide_eq_true_eq]
  refine ⟨by simp; have := h.len; omega, ?_, ?_⟩
  · rw [List.all_eq_true]
    intro d hd
    obtain ⟨x, hx, rfl⟩ := List.mem_map.mp hd
    exact numberB_num (h.ok x hx)
  · cases hl : xs.getLast? with
    | none =>
      have : xs = [] := by simpa using hl
      subst this
      rfl
    | some x =>
      have hl' : (xs.map Num.d).getLast? = some x.d := by simp [List.getLast?_map, hl]
      rw [hl']
      show decide (topD x.d ≠ 0) = true
      rw [decide_eq_true_eq]
      exact topD_num.mpr (h.last x hl)
theorem poly_told_ok {xs : List Num} {S : Sto} {Q : D → Sto → Prop} (h : polyB (xs.map Num.d) = true) (hq : ∀ T, Ex S T → Q (.tup ((xs.map Num.q).map fr)) T) : Wp (F_poly_told [.tup (xs.map Num.d)] S) Q := by
  have hl : xs.length ≤ 41 := by
    unfold polyB at h
    rw [Bool.and_eq_true, decide_eq_true_eq] at h
    simpa using h.1
  unfold F_poly_told b_poly_told
  simp [entry]
  refine is_poly_ok (fun d hd => by obtain ⟨x, _, rfl⟩ := List.mem_map.mp hd; exact Td.num x) fun T hT => ?_
  simp [h, wp_lc, wipeR]
  refine lc_map (α := Num) (enc := Num.d) (f := fun x => fr x.q) (S0 := T) Ex.refl (fun x hx U hU => ⟨_, rfl, ?_⟩) (fun _ _ => rfl) fun U hU => ?_
  · have hp : F_pair_of [x.d] U = .ok (fr x.q) U := by
      cases x with
      | i n => exact pair_of_int
      | f q => exact pair_of_tup
    simp [hp]
    exact Ex.refl
  · have hn : (U ++ [SO.lst (xs.map fun x => fr x.q)])[U.length]? = some (.lst (xs.map fun x => fr x.q)) := by simp
    have hsz : xs.length ≤ sizeLine := by unfold sizeLine; omega
    simp [nTuple_ref hn, hsz]
    have := hq _ ((hT.trans hU).app [SO.lst (xs.map fun x => fr x.q)])
    rw [List.map_map] at this
    exact this
theorem py_pairs_ok {xs : List Num} {S : Sto} {Q : D → Sto → Prop} (hl : xs.length ≤ 1000) (hq : ∀ T, Ex S T → Q (.tup ((xs.map Num.q).map fr)) T) : Wp (F__law_py_pairs [.tup (xs.map Num.d)] S) Q := by
  unfold F__law_py_pairs b__law_py_pairs
  simp [entry, wp_lc, wipeR]
  refine lc_map (α := Num) (enc := Num.d) (f := fun x => fr x.q) (S0 := S) Ex.refl (fun x hx U hU => ⟨_, rfl, ?_⟩) (fun _ _ => rfl) fun U hU => ?_
  · cases x with
    | i n =>
      simp [Num.d, Num.q, Ty.sub, fr, sizeLine]
      exact Ex.refl
    | f q =>
      simp [Num.d, Num.q, Ty.sub, fr]
      exact Ex.refl
  · have hn : (U ++ [SO.lst (xs.map fun x => fr x.q)])[U.length]? = some (.lst (xs.map fun x => fr x.q)) := by simp
    have hsz : xs.length ≤ sizeLine := by unfold sizeLine; omega
    simp [nTuple_ref hn, hsz]
    have := hq _ (hU.app [SO.lst (xs.map fun x => fr x.q)])
    rw [List.map_map] at this
    exact this
end K08
set_option Elab.async false
set_option linter.all false
set_option maxRecDepth 100000
set_option maxHeartbeats 4000000
namespace K08
open PySem MP
/-! ### polynomials -/
theorem O_lib : Ops F_sum_in F_product_in := ⟨fun a b S k l h1 h2 h3 h4 h5 => sum_in_ok h1 h2 h3 h4 h5, fun a b S k l h1 h2 h3 => product_in_ok h1 h2 h3⟩
theorem O_law : Ops F__law_plus F__law_times := ⟨fun a b S k l h1 h2 h3 h4 h5 => law_plus_ok h1 h2 h3 h4 h5, fun a b S k l h1 h2 h3 => law_times_ok h1 h2 h3⟩
theorem num0 {x : Rat} : decide (x.num = 0) = decide (x = 0) := by
  rw [Bool.eq_iff_iff, decide_eq_true_eq, decide_eq_true_eq]
  exact Rat.num_eq_zero
theorem without_end_ok {n : Nat} {l : List Rat} {S : Sto} {Q : D → Sto → Prop} (h : S[n]? = some (.lst (l.map fr))) (hl : l.length ≤ 100000) (hq : ∀ T, Ex S T → Q (.tup ((trim l).map fr)) T) : Wp (F_without_end [.ref n] S) Q := by
  unfold F_without_end b_without_end
  simp [entry, nLen_ref h]
  rw [wps_while]
  refine while_inv (fun k ρ T => T = S ∧ ρ = [some (.ref n), some (.int (k : Int))] ∧ k ≤ l.length ∧ trim (l.take k) = trim l) (fun k ρ T hI => ?_) (m := l.length) (by unfold whMost; omega) ⟨rfl, rfl, Nat.le_refl _, by rw [List.take_length]⟩
  obtain ⟨rfl, rfl, hk, ht⟩ := hI
  have fin : (l.take k = trim l) → Q (.tup ((trim l).map fr)) (T ++ [.lst ((l.take k).map fr)]) := fun _ => hq _ (Ex.refl.app _)
  have cut : cutD (l.map fr) none (some (k : Int)) = (l.take k).map fr := by
    unfold cutD
    rw [HT.sIx_none, HT.sIx_nat]
    simp [Nat.min_eq_left hk]
  have out : l.take k = trim l → Wp (sliceD (.ref n) none (some (k : Int)) T) (fun a S => Wp (nTuple [a] S) fun d S1 => Q d S1) := fun e => by
    unfold sliceD
    simp [h, cut]
    have hn : (T ++ [SO.lst ((l.take k).map fr)])[T.length]? = some (.lst ((l.take k).map fr)) := by simp
    have hn2 := nTuple_ref hn
    simp only [List.map_take] at hn2 ⊢
    rw [hn2]
    have := fin e
    rw [← e, List.map_take] at this
    exact this
  cases k with
  | zero =>
    simp
    exact out (by rw [← ht]; rfl)
  | succ s =>
    obtain ⟨x, hx⟩ : ∃ x, l[s]? = some x := ⟨_, List.getElem?_eq_getElem (by omega)⟩
    have hxm : (l.map fr)[s]? = some (fr x) := by rw [List.getElem?_map, hx]; rfl
    have e1 : ((s : Int) + 1 - 1) = (s : Int) := by omega
    have hat : L2.atI (l.map fr) (s : Int) = some (fr x) := by rw [atI_nat, hxm]
    have h0 : (0 : Int) < (s : Int) + 1 := by omega
    have hlt : s < l.length := by omega
    have hg : l[s] = x := by
      rw [List.getElem?_eq_getElem hlt] at hx
      exact Option.some.inj hx
    simp [h0, e1, dAt_ref h, hlt, fr, L2.atI, L2.ixN, num0, hg]
    rw [take_one hx] at ht
    by_cases h0 : x = 0
    · subst h0
      simp
      refine ⟨by omega, ?_⟩
      rw [← ht, trim_zero]
    · simp [h0]
      have := out (by rw [take_one hx, ← ht, trim_ne h0])
      simpa using this
theorem made_loop {l : List Rat} {S : Sto} {n : Nat} {A : Option D} {Q : D → Sto → Prop} {S0 : Sto} (h : S[n]? = some (.lst (l.map fr))) (hl : l.length ≤ 100000) (hE : Ex S0 S) (hn : S0.length ≤ n) (hq : ∀ T, Ex S0 T → Q (.tup ((trim l).map fr)) T) :
    WpS (sWhile (fAnd (fB (d2 dNe (dVar 1) (mkLst aNil))) (fB (d2 dEq (d2 dAt (d2 dAt (dVar 1) (dNeg (dC (.int 1)))) (dC (.int 0))) (dC (.int 0))))) (sExpr (dML0 mPop (dVar 1))) [A, some (.ref n)] S) (sq (sRet (dN nTuple (aCons (dVar 1) aNil))) (rn Q)) := by
  rw [wps_while]
  refine while_inv (fun k ρ T => ∃ zs : List Rat, ρ = [A, some (.ref n)] ∧ T[n]? = some (.lst (zs.map fr)) ∧ zs.length = k ∧ trim zs = trim l ∧ Ex S0 T) (fun k ρ V hI => ?_) (m := l.length) (by unfold whMost; omega) ⟨l, rfl, h, rfl, rfl, hE⟩
  obtain ⟨zs, rfl, hV, hk, ht, hEV⟩ := hI
  have hnV : (V ++ [SO.lst []])[n]? = some (.lst (zs.map fr)) := get_app hV
  have hne : dNe (.ref n) (.ref V.length) (V ++ [SO.lst []]) = _ := dEqB_ens (α := Rat) (n := true) zs [] (S := V ++ [SO.lst []]) (i := n) (j := V.length) hnV (by simp) (by decide)
  simp [sizeLine, hne]
  have fin : zs = trim l → Q (.tup (zs.map fr)) (V ++ [SO.lst []]) := fun e => by rw [e]; exact hq _ (hEV.app _)
  by_cases hz : zs = []
  · subst hz
    simp [nTuple_ref hnV]
    exact fin (by rw [← ht]; rfl)
  · simp [hz, dAt_ref hnV]
    obtain ⟨pre, x, rfl⟩ := List.eq_nil_or_concat zs |>.resolve_left hz
    rw [List.concat_eq_append] at *
    have ha : L2.atI ((pre ++ [x]).map fr) (-1) = some (fr x) := atI_getLast (by simp)
    rw [ha]
    simp [fr, L2.atI, L2.ixN, num0]
    by_cases hx : x = 0
    · subst hx
      simp [isLst_ref hnV, mPop_ref hnV]
      refine ⟨k - 1, by simp at hk; omega, pre, ?_, by simp at hk; omega, by rw [← ht, trim_zero], (hEV.app _).set hn⟩
      rw [set_get hnV]
    · simp [hx, nTuple_ref hnV]
      have := fin (by rw [← ht, trim_ne hx])
      simpa [fr] using this
theorem made_ok {n : Nat} {l : List Rat} {S : Sto} {Q : D → Sto → Prop} (h : S[n]? = some (.lst (l.map fr))) (hl : l.length ≤ 100000) (hq : ∀ T, Ex S T → Q (.tup ((trim l).map fr)) T) : Wp (F__law_py_made [.ref n] S) Q := by
  unfold F__law_py_made b__law_py_made
  simp [entry, nList_ref h]
  exact made_loop (S := S ++ [SO.lst (l.map fr)]) (by simp) hl (Ex.refl.app _) (Nat.le_refl _) hq
theorem made_tup {l : List Rat} {S : Sto} {Q : D → Sto → Prop} (hl : l.length ≤ 100000) (hq : ∀ T, Ex S T → Q (.tup ((trim l).map fr)) T) : Wp (F__law_py_made [.tup (l.map fr)] S) Q := by
  unfold F__law_py_made b__law_py_made
  simp [entry]
  exact made_loop (S := S ++ [SO.lst (l.map fr)]) (by simp) hl (Ex.refl.app _) (Nat.le_refl _) hq
/-! ### sums -/
/-- [f(a, b) for a, b in zip(left, right)] -/
theorem zip_sum {fs ft : FN} (O : Ops fs ft) {l m : List Rat} {i j k c : Nat} {S : Sto} {ρ : Rho} {Q : List D → Sto → Prop} (hi : S[i]? = some (.lst (l.map fr))) (hj : S[j]? = some (.lst (m.map fr))) (h1 : ∀ x ∈ l, Sz k x) (h2 : ∀ x ∈ m, Sz c x) (hk : 1 ≤ k) (hc : 1 ≤ c) (hkc : k + c ≤ 2000)
    (hρ : ∃ A B C D E, ρ = [A, B, C, D, E, none, none]) (hq : ∀ T, Ex S T → Q ((List.zipWith (· + ·) l m).map fr) T) :
    Wp (lcL (Src.mk (zipD (l.map fr) (m.map fr)) [(i, l.map fr), (j, m.map fr)]).ok (.tp (.cons (.nm 5) (.cons (.nm 6) .nil))) fYes (dCall fs 2 (aCons (dVar 5) (aCons (dVar 6) aNil))) ρ (zipD (l.map fr) (m.map fr)) S) Q := by
  obtain ⟨A, B, C, D, E, rfl⟩ := hρ
  have ez : zipD (l.map fr) (m.map fr) = (List.zip l m).map fun p => pairD (fr p.1) (fr p.2) := by
    unfold zipD
    rw [List.zipWith_map, List.zip, List.map_zipWith]
  rw [ez]
  refine lc_map (α := Rat × Rat) (enc := fun p => pairD (fr p.1) (fr p.2)) (f := fun p => fr (p.1 + p.2)) (S0 := S) Ex.refl (fun p hp T hT => ?_) (fun T hT => ?_) fun T hT => ?_
  · refine ⟨_, rfl, ?_⟩
    have hm := List.of_mem_zip hp
    have := O.s p.1 p.2 T k c (h1 _ hm.1) (h2 _ hm.2) hk hc hkc
    simp [this]
    exact Ex.refl
  · have g1 := hT.get hi
    have g2 := hT.get hj
    show (Src.mk _ ([(i, l.map fr)] ++ [(j, m.map fr)])).ok T = true
    rw [gdOk_app]
    have o1 : gdOk [(i, l.map fr)] T = true := guard_one g1
    have o2 : gdOk [(j, m.map fr)] T = true := guard_one g2
    rw [o1, o2]; rfl
  · have e : (List.zip l m).map (fun p => fr (p.1 + p.2)) = (List.zipWith (· + ·) l m).map fr := by
      rw [List.zip, List.map_zipWith, List.map_zipWith]
    rw [e]
    exact hq T hT
theorem dMul_ref {S : Sto} {n : Nat} {ds : List D} {k : Int} (h : S[n]? = some (.lst ds)) : dMul (.ref n) (.int k) S = if -(2 ^ 63) ≤ k ∧ k < 2 ^ 63 ∧ ds.length * k.toNat ≤ sizeLine then .ok (.ref S.length) (S ++ [.lst (List.replicate k.toNat ds).flatten]) else .stuck := by
  unfold dMul
  simp only [h]
theorem rep_flat (k : Nat) (d : D) : (List.replicate k [d]).flatten = List.replicate k d := by
  induction k with
  | zero => rfl
  | succ k ih => rw [List.replicate_succ, List.flatten_cons, ih]; rfl
theorem dAdd_ref {S : Sto} {a b : Nat} {ds es : List D} (ha : S[a]? = some (.lst ds)) (hb : S[b]? = some (.lst es)) : dAdd (.ref a) (.ref b) S = if ds.length + es.length ≤ sizeLine then .ok (.ref S.length) (S ++ [.lst (ds ++ es)]) else .stuck := by
  unfold dAdd
  simp only [ha, hb]
theorem map_pad (n : Nat) (l : List Rat) : (pad n l).map fr = l.map fr ++ List.replicate (n - l.length) (.tup [.int 0, .int 1]) := by
  unfold pad
  rw [List.map_append, List.map_replicate]
  rfl
theorem pad_sz {n k : Nat} {l : List Rat} (h : ∀ x ∈ l, Sz k x) (hk : 1 ≤ k) : ∀ x ∈ pad n l, Sz k x := by
  intro x hx
  rcases List.mem_append.mp hx with hx | hx
  · exact h x hx
  · rw [(List.mem_replicate.mp hx).2]
    exact Sz.zero.up hk
theorem max_int (a b : Nat) : (if (b : Int) > (a : Int) then (b : Int) else (a : Int)) = ((max a b : Nat) : Int) := by
  split <;> omega
theorem pad_e {a N : Nat} {l : List Rat} {S : Sto} {ρ : Rho} {Q : D → Sto → Prop} (ha : ρ[a]? = some (some (.tup (l.map fr)))) (h2 : ρ[2]? = some (some (.int (N : Int)))) (hl : l.length ≤ N) (hN : N ≤ 1000)
    (hq : ∀ T i, Ex S T → T[i]? = some (.lst ((pad N l).map fr)) → Q (.ref i) T) :
    Wp (mkLst (aStar (dVar a) (aStar (d2 dMul (mkLst (aCons (dC c_ZERO) aNil)) (d2 dSub (dVar 2) (dN nLen (aCons (dVar a) aNil)))) aNil)) ρ S) Q := by
  have e1 : ((N : Int) - (l.length : Int)).toNat = N - l.length := by omega
  have g1 : (S ++ [SO.lst [c_ZERO]])[S.length]? = some (.lst [c_ZERO]) := by simp
  have z1 : -(2 ^ 63 : Int) ≤ (N : Int) - (l.length : Int) ∧ (N : Int) - (l.length : Int) < 2 ^ 63 ∧ [c_ZERO].length * ((N : Int) - (l.length : Int)).toNat ≤ sizeLine := by
    unfold sizeLine
    rw [e1]
    simp
    omega
  have m1 := dMul_ref (k := (N : Int) - (l.length : Int)) g1
  rw [if_pos z1, e1, rep_flat] at m1
  have g2 : (S ++ [SO.lst [c_ZERO]] ++ [SO.lst (List.replicate (N - l.length) c_ZERO)])[(S ++ [SO.lst [c_ZERO]]).length]? = some (.lst (List.replicate (N - l.length) c_ZERO)) := get_new
  have hz1 : 1 ≤ sizeLine := by decide
  have hz2 : (l.map fr ++ (List.replicate (N - l.length) c_ZERO ++ [])).length ≤ sizeLine := by
    unfold sizeLine
    simp
    omega
  rw [wp_lst, wp_star, wp_var, ha]
  show Wp _ _
  simp only [items_tup, wp_star, wp_d2, wp_lst, wp_cons, wp_c, wp_nil, List.length_cons, List.length_nil, wp_var, h2, wp_dN, ha, nLen_tup, wp_ok, dSub_int, List.length_map]
  rw [if_pos hz1, m1]
  simp only [wp_ok, items_ref g2]
  rw [if_pos hz2]
  refine hq _ _ (((Ex.refl.app _).app _).app _) ?_
  rw [get_new, map_pad, List.append_nil]
  rfl
theorem added_in_ok {l m : List Rat} {k c : Nat} {S : Sto} {Q : D → Sto → Prop} (h1 : ∀ x ∈ l, Sz k x) (h2 : ∀ x ∈ m, Sz c x) (hk : 1 ≤ k) (hc : 1 ≤ c) (hkc : k + c ≤ 2000) (hl : l.length ≤ 1000) (hm : m.length ≤ 1000)
    (hq : ∀ T, Ex S T → Q (.tup ((trim (sumL l m)).map fr)) T) : Wp (F_added_in [.tup (l.map fr), .tup (m.map fr)] S) Q := by
  unfold F_added_in b_added_in
  have hM : max l.length m.length ≤ 1000 := by omega
  have hmax := max_int l.length m.length
  rw [wp_run, wps_seq, wps_set]
  simp only [entry, wp_dN, wp_cons, wp_nil, wp_var, List.map_cons, List.map_nil, List.cons_append, List.nil_append, List.getElem?_cons_zero, List.getElem?_cons_succ, nLen_tup, wp_ok, nMax_int, List.length_map, hmax]
  rw [sq_nx, wps_seq, wps_par, wp_cons]
  refine pad_e (l := l) (N := max l.length m.length) rfl rfl (by omega) hM fun T i hT hi => ?_
  rw [wp_cons]
  refine pad_e (l := m) (N := max l.length m.length) rfl rfl (by omega) hM fun U j hU hj => ?_
  rw [wp_nil]
  have hi2 := hU.get hi
  have eS := hT.trans hU
  simp
  rw [wp_lc]
  simp [wipeR, zipS_ref hi2 hj]
  refine zip_sum O_lib (k := k) (c := c) hi2 hj (pad_sz h1 hk) (pad_sz h2 hc) hk hc hkc ⟨_, _, _, _, _, rfl⟩ fun V hV => ?_
  have lz : (List.zipWith (· + ·) (pad (max l.length m.length) l) (pad (max l.length m.length) m)).length ≤ 1000 := by unfold pad; simp; omega
  refine ⟨by unfold sizeLine; rw [List.length_map]; omega, ?_⟩
  refine without_end_ok (l := sumL l m) (by rw [get_new]; rfl) (by show (List.zipWith _ _ _).length ≤ _; omega) fun W hW => ?_
  exact hq W ((eS.trans hV).trans ((Ex.refl.app _).trans hW))
theorem pad_f {a N : Nat} {l : List Rat} {S : Sto} {ρ : Rho} {Q : D → Sto → Prop} (ha : ρ[a]? = some (some (.tup (l.map fr)))) (h2 : ρ[2]? = some (some (.int (N : Int)))) (hl : l.length ≤ N) (hN : N ≤ 1000)
    (hq : ∀ T i, Ex S T → T[i]? = some (.lst ((pad N l).map fr)) → Q (.ref i) T) :
    Wp (d2 dAdd (dN nList (aCons (dVar a) aNil)) (d2 dMul (mkLst (aCons (mkTup (aCons (dC (.int 0)) (aCons (dC (.int 1)) aNil))) aNil)) (d2 dSub (dVar 2) (dN nLen (aCons (dVar a) aNil)))) ρ S) Q := by
  have e1 : ((N : Int) - (l.length : Int)).toNat = N - l.length := by omega
  have g0 : (S ++ [SO.lst (l.map fr)])[S.length]? = some (.lst (l.map fr)) := by simp
  generalize hS1 : S ++ [SO.lst (l.map fr)] = S1 at g0
  have g1 : (S1 ++ [SO.lst [c_ZERO]])[S1.length]? = some (.lst [c_ZERO]) := by simp
  have z1 : -(2 ^ 63 : Int) ≤ (N : Int) - (l.length : Int) ∧ (N : Int) - (l.length : Int) < 2 ^ 63 ∧ [c_ZERO].length * ((N : Int) - (l.length : Int)).toNat ≤ sizeLine := by
    unfold sizeLine
    rw [e1]
    simp
    omega
  have m1 := dMul_ref (k := (N : Int) - (l.length : Int)) g1
  rw [if_pos z1, e1, rep_flat] at m1
  have g2 : (S1 ++ [SO.lst [c_ZERO]] ++ [SO.lst (List.replicate (N - l.length) c_ZERO)])[(S1 ++ [SO.lst [c_ZERO]]).length]? = some (.lst (List.replicate (N - l.length) c_ZERO)) := get_new
  have g3 : (S1 ++ [SO.lst [c_ZERO]] ++ [SO.lst (List.replicate (N - l.length) c_ZERO)])[S.length]? = some (.lst (l.map fr)) := get_app (get_app g0)
  have hz1 : 1 ≤ sizeLine := by decide
  have hz0 : 2 ≤ sizeLine := by decide
  have hz2 : (l.map fr).length + (List.replicate (N - l.length) c_ZERO).length ≤ sizeLine := by
    unfold sizeLine
    simp
    omega
  have a1 := dAdd_ref g3 g2
  rw [if_pos hz2] at a1
  simp only [wp_star, wp_d2, wp_lst, wp_tup, wp_cons, wp_c, wp_nil, List.length_cons, List.length_nil, wp_var, h2, wp_dN, ha, nLen_tup, nList_tup, wp_ok, dSub_int, List.length_map, hS1]
  rw [if_pos hz0, if_pos hz1]
  rw [show D.tup [.int 0, .int 1] = c_ZERO from rfl, m1]
  simp only [wp_ok]
  rw [a1]
  show Q _ _
  subst hS1
  refine hq _ _ ((((Ex.refl.app _).app _).app _).app _) ?_
  rw [get_new, map_pad]
  rfl
theorem py_sum_ok {l m : List Rat} {k c : Nat} {S : Sto} {Q : D → Sto → Prop} (h1 : ∀ x ∈ l, Sz k x) (h2 : ∀ x ∈ m, Sz c x) (hk : 1 ≤ k) (hc : 1 ≤ c) (hkc : k + c ≤ 2000) (hl : l.length ≤ 1000) (hm : m.length ≤ 1000)
    (hq : ∀ T, Ex S T → Q (.tup ((trim (sumL l m)).map fr)) T) : Wp (F__law_py_sum [.tup (l.map fr), .tup (m.map fr)] S) Q := by
  unfold F__law_py_sum b__law_py_sum
  have hM : max l.length m.length ≤ 1000 := by omega
  have hmax := max_int l.length m.length
  rw [wp_run, wps_seq, wps_set]
  simp only [entry, wp_dN, wp_cons, wp_nil, wp_var, List.map_cons, List.map_nil, List.cons_append, List.nil_append, List.getElem?_cons_zero, List.getElem?_cons_succ, nLen_tup, wp_ok, nMax_int, List.length_map, hmax]
  rw [sq_nx, wps_seq, wps_set]
  refine pad_f (l := l) (N := max l.length m.length) rfl rfl (by omega) hM fun T i hT hi => ?_
  rw [sq_nx, wps_seq, wps_set]
  refine pad_f (l := m) (N := max l.length m.length) rfl rfl (by omega) hM fun U j hU hj => ?_
  have hi2 := hU.get hi
  have eS := hT.trans hU
  simp
  rw [wp_lc]
  simp [wipeR, zipS_ref hi2 hj]
  refine zip_sum O_law (k := k) (c := c) hi2 hj (pad_sz h1 hk) (pad_sz h2 hc) hk hc hkc ⟨_, _, _, _, _, rfl⟩ fun V hV => ?_
  have lz : (List.zipWith (· + ·) (pad (max l.length m.length) l) (pad (max l.length m.length) m)).length ≤ 1000 := by unfold pad; simp; omega
  refine ⟨by unfold sizeLine; rw [List.length_map]; omega, ?_⟩
  refine made_ok (l := sumL l m) (by rw [get_new]; rfl) (by show (List.zipWith _ _ _).length ≤ _; omega) fun W hW => ?_
  exact hq W ((eS.trans hV).trans ((Ex.refl.app _).trans hW))
end K08
set_option Elab.async false
set_option linter.all false
set_option maxRecDepth 100000
set_option maxHeartbeats 4000000
namespace K08
open PySem MP
theorem neg_one_fr : D.tup [.int (-1), .int 1] = fr (-1) := rfl
theorem szNeg1 : Sz 1 (-1 : Rat) := ⟨by decide, by decide⟩
theorem scaled_in_ok {l : List Rat} {k c : Nat} {x : Rat} {S : Sto} {Q : D → Sto → Prop} (h1 : ∀ y ∈ l, Sz k y) (hx : Sz c x) (hkc : k + c ≤ 2000) (hl : l.length ≤ 1000) (hq : ∀ T, Ex S T → Q (.tup ((trim (l.map fun q => q * x)).map fr)) T) : Wp (F_scaled_in [.tup (l.map fr), fr x] S) Q := by
  unfold F_scaled_in b_scaled_in
  simp [entry, wp_lc, wipeR]
  refine lc_map (α := Rat) (enc := fr) (f := fun y => fr (y * x)) (S0 := S) Ex.refl (fun y hy T hT => ⟨_, rfl, ?_⟩) (fun _ _ => rfl) fun T hT => ?_
  · simp [product_in_ok (S := T) (h1 y hy) hx hkc]
    exact Ex.refl
  · refine ⟨by unfold sizeLine; simp; omega, ?_⟩
    have e : l.map (fun y => fr (y * x)) = (l.map fun q => q * x).map fr := by rw [List.map_map]; rfl
    rw [e]
    exact without_end_ok (l := l.map fun q => q * x) (by rw [get_new]) (by simp; omega) fun W hW => hq W (hT.trans ((Ex.refl.app _).trans hW))
theorem taken_in_ok {l m : List Rat} {k c : Nat} {S : Sto} {Q : D → Sto → Prop} (h1 : ∀ x ∈ l, Sz k x) (h2 : ∀ x ∈ m, Sz c x) (hk : 1 ≤ k) (hc : 1 ≤ c) (hkc : k + (c + 1) ≤ 2000) (hl : l.length ≤ 1000) (hm : m.length ≤ 1000)
    (hq : ∀ T, Ex S T → Q (.tup ((trim (sumL l (trim (m.map fun q => q * (-1))))).map fr)) T) : Wp (F_taken_in [.tup (l.map fr), .tup (m.map fr)] S) Q := by
  unfold F_taken_in b_taken_in
  simp [entry, sizeLine]
  rw [neg_one_fr]
  refine scaled_in_ok h2 szNeg1 (by omega) hm fun T hT => ?_
  have hs : ∀ x ∈ trim (m.map fun q => q * (-1)), Sz (c + 1) x := fun x hx => by
    obtain ⟨y, hy, rfl⟩ := List.mem_map.mp (trim_sub hx)
    exact (h2 y hy).mul szNeg1
  refine added_in_ok h1 hs hk (by omega) hkc hl ?_ fun U hU => hq U (hT.trans hU)
  have := trim_len (m.map fun q => q * (-1))
  rw [List.length_map] at this
  omega
theorem rep_zero (n : Nat) : List.replicate n (D.tup [.int 0, .int 1]) = (List.replicate n (0 : Rat)).map fr := by rw [List.map_replicate]; rfl
theorem zero_list {l m : List Rat} {S : Sto} (hl : l.length ≤ 1000) (hm : m.length ≤ 1000) :
    dMul (.ref S.length) (.int ((l.length : Int) + (m.length : Int))) (S ++ [SO.lst [.tup [.int 0, .int 1]]]) = .ok (.ref (S ++ [SO.lst [.tup [.int 0, .int 1]]]).length) (S ++ [SO.lst [.tup [.int 0, .int 1]]] ++ [SO.lst ((List.replicate (l.length + m.length) (0 : Rat)).map fr)]) := by
  have g1 : (S ++ [SO.lst [.tup [.int 0, .int 1]]])[S.length]? = some (.lst [.tup [.int 0, .int 1]]) := by simp
  have e1 : ((l.length : Int) + (m.length : Int)).toNat = l.length + m.length := by omega
  have m1 := dMul_ref (k := (l.length : Int) + (m.length : Int)) g1
  rw [e1, if_pos (by unfold sizeLine; simp; omega), rep_flat, rep_zero] at m1
  exact m1
theorem prod_body {fs ft fe : FN} (O : Ops fs ft) {l m : List Rat} {k c : Nat} {S : Sto} {Q : D → Sto → Prop} (h1 : ∀ x ∈ l, Sz k x) (h2 : ∀ x ∈ m, Sz c x) (hk : 1 ≤ k) (hc : 1 ≤ c) (hw : 1 + (k + c) * l.length ≤ 2000) (hl : l.length ≤ 1000) (hm : m.length ≤ 1000)
    (he : ∀ (n : Nat) (T : Sto), Ex S T → T[n]? = some (.lst ((prodL l m).map fr)) → Wp (fe [.ref n] T) Q) :
    WpS (sFor (iEn (aCons (dVar 0) aNil)) (.tp (.cons (.nm 3) (.cons (.nm 4) .nil))) (mOuter fs ft) [some (.tup (l.map fr)), some (.tup (m.map fr)), some (.ref (S ++ [SO.lst [.tup [.int 0, .int 1]]]).length), none, none, none, none] (S ++ [SO.lst [.tup [.int 0, .int 1]]] ++ [SO.lst ((List.replicate (l.length + m.length) (0 : Rat)).map fr)]))
      (sq (sRet (dCall fe 1 (aCons (dVar 2) aNil))) (rn Q)) := by
  rw [wps_for]
  simp only [wp_iEn, wp_cons, wp_nil, wp_var, List.getElem?_cons_zero, List.getElem?_cons_succ, enumS_tup, wp_ok]
  rw [enumD_F]
  refine outer_ok O (c := 1) hk hc h2 (fun _ => rfl) (found := List.replicate (l.length + m.length) 0) get_new h1 (fun z hz => by rw [(List.mem_replicate.mp hz).2]; exact Sz.zero) (Nat.le_refl _) hw (by simp) fun u v x y => ?_
  simp only [sq_nx, wps_ret, wp_call, wp_cons, wp_nil, wp_var, List.getElem?_cons_zero, List.getElem?_cons_succ, List.length_cons, List.length_nil, if_true, rn_ret]
  refine he _ _ (((Ex.refl.app _).app _).set (by simp)) ?_
  rw [set_get (get_new)]
  rfl
theorem times_in_ok {l m : List Rat} {k c : Nat} {S : Sto} {Q : D → Sto → Prop} (h1 : ∀ x ∈ l, Sz k x) (h2 : ∀ x ∈ m, Sz c x) (hk : 1 ≤ k) (hc : 1 ≤ c) (hw : 1 + (k + c) * l.length ≤ 2000) (hl : l.length ≤ 1000) (hm : m.length ≤ 1000)
    (hq : ∀ T, Ex S T → Q (.tup ((trim (prodL l m)).map fr)) T) : Wp (F_times_in [.tup (l.map fr), .tup (m.map fr)] S) Q := by
  unfold F_times_in b_times_in
  rw [wp_run, wps_seq, wps_set]
  have hz1 : 1 ≤ sizeLine := by decide
  simp only [entry, wp_d2, wp_lst, wp_c, wp_dN, wp_cons, wp_nil, wp_var, List.map_cons, List.map_nil, List.cons_append, List.nil_append, List.getElem?_cons_zero, List.getElem?_cons_succ, nLen_tup, wp_ok, dAdd_int, List.length_map, List.length_cons, List.length_nil]
  rw [if_pos hz1]
  simp only [c_ZERO]
  rw [zero_list hl hm]
  simp only [wp_ok]
  rw [sq_nx, wps_seq]
  exact prod_body O_lib h1 h2 hk hc hw hl hm fun n T hT hn => without_end_ok hn (by unfold prodL; rw [mulL_len]; simp; omega) fun U hU => hq U (hT.trans hU)
theorem py_times_ok {l m : List Rat} {k c : Nat} {S : Sto} {Q : D → Sto → Prop} (h1 : ∀ x ∈ l, Sz k x) (h2 : ∀ x ∈ m, Sz c x) (hk : 1 ≤ k) (hc : 1 ≤ c) (hw : 1 + (k + c) * l.length ≤ 2000) (hl : l.length ≤ 1000) (hm : m.length ≤ 1000)
    (hq : ∀ T, Ex S T → Q (.tup ((trim (prodL l m)).map fr)) T) : Wp (F__law_py_times [.tup (l.map fr), .tup (m.map fr)] S) Q := by
  unfold F__law_py_times b__law_py_times
  rw [wp_run, wps_seq, wps_set]
  have hz1 : 1 ≤ sizeLine := by decide
  have hz2 : 2 ≤ sizeLine := by decide
  simp only [entry, wp_d2, wp_lst, wp_tup, wp_c, wp_dN, wp_cons, wp_nil, wp_var, List.map_cons, List.map_nil, List.cons_append, List.nil_append, List.getElem?_cons_zero, List.getElem?_cons_succ, nLen_tup, wp_ok, dAdd_int, List.length_map, List.length_cons, List.length_nil]
  rw [if_pos hz2, if_pos hz1, zero_list hl hm]
  simp only [wp_ok]
  rw [sq_nx, wps_seq]
  exact prod_body O_law h1 h2 hk hc hw hl hm fun n T hT hn => made_ok hn (by unfold prodL; rw [mulL_len]; simp; omega) fun U hU => hq U (hT.trans hU)
theorem value_body {fs ft : FN} (O : Ops fs ft) {l : List Rat} {X : Rat} {k c : Nat} {S : Sto} {Q : D → Sto → Prop} (h1 : ∀ x ∈ l, Sz k x) (hX : Sz c X) (hk : 1 ≤ k) (hw : 1 + (c + k) * l.length ≤ 2000) (hq : Q (fr (valL X l)) S) :
    WpS (sFor (iD (dRev (dVar 0))) (.nm 3) (sSet 2 (dCall fs 2 (aCons (dCall ft 2 (aCons (dVar 2) (aCons (dVar 1) aNil))) (aCons (dVar 3) aNil)))) [some (.tup (l.map fr)), some (fr X), some (fr 0), none] S) (sq (sRet (dVar 2)) (rn Q)) := by
  rw [wps_for]
  simp only [wp_iD, wp_rev, wp_var, List.getElem?_cons_zero, revD, wp_ok, srcD_tup]
  rw [← List.map_reverse]
  refine value_ok O (c := 1) hX hk (fun _ => rfl) (fun a ha => h1 a (List.mem_reverse.mp ha)) Sz.zero (Nat.le_refl _) (by rw [List.length_reverse]; exact hw) fun x => ?_
  simp only [sq_nx, wps_ret, wp_var, List.getElem?_cons_zero, List.getElem?_cons_succ, rn_ret]
  exact hq
theorem value_in_ok {l : List Rat} {X : Rat} {k c : Nat} {S : Sto} (h1 : ∀ x ∈ l, Sz k x) (hX : Sz c X) (hk : 1 ≤ k) (hw : 1 + (c + k) * l.length ≤ 2000) : F_value_in [.tup (l.map fr), fr X] S = .ok (fr (valL X l)) S := by
  have key : Wp (F_value_in [.tup (l.map fr), fr X] S) fun d T => d = fr (valL X l) ∧ T = S := by
    unfold F_value_in b_value_in
    rw [wp_run, wps_seq, wps_set, wp_c, sq_nx, wps_seq]
    exact value_body O_lib h1 hX hk hw ⟨rfl, rfl⟩
  obtain ⟨d, T, e, rfl, rfl⟩ := key.out
  exact e
theorem py_value_ok {l : List Rat} {X : Rat} {k c : Nat} {S : Sto} (h1 : ∀ x ∈ l, Sz k x) (hX : Sz c X) (hk : 1 ≤ k) (hw : 1 + (c + k) * l.length ≤ 2000) : F__law_py_value [.tup (l.map fr), fr X] S = .ok (fr (valL X l)) S := by
  have key : Wp (F__law_py_value [.tup (l.map fr), fr X] S) fun d T => d = fr (valL X l) ∧ T = S := by
    unfold F__law_py_value b__law_py_value
    rw [wp_run, wps_seq, wps_set]
    have hz2 : 2 ≤ sizeLine := by decide
    simp only [wp_tup, wp_cons, wp_c, wp_nil, List.length_cons, List.length_nil]
    rw [if_pos hz2, sq_nx, wps_seq]
    exact value_body O_law h1 hX hk hw ⟨rfl, rfl⟩
  obtain ⟨d, T, e, rfl, rfl⟩ := key.out
  exact e
theorem py_back_ok {l : List Rat} {S : Sto} {Q : D → Sto → Prop} (hl : l.length ≤ 1000) (hq : ∀ T, Ex S T → Q (.tup ((l.map fun q => q * (-1)).map fr)) T) : Wp (F__law_py_back [.tup (l.map fr)] S) Q := by
  unfold F__law_py_back b__law_py_back
  simp [entry, wp_lc, wipeR]
  refine lc_map (α := Rat) (enc := fr) (f := fun y => fr (y * (-1))) (S0 := S) Ex.refl (fun y hy T hT => ⟨_, rfl, ?_⟩) (fun _ _ => rfl) fun T hT => ?_
  · have e : y * (-1) = -y := by grind
    simp [fr, L2.atI, L2.ixN, sizeLine, e]
    exact Ex.refl
  · have hn : (T ++ [SO.lst (l.map fun y => fr (y * (-1)))])[T.length]? = some (.lst (l.map fun y => fr (y * (-1)))) := by simp
    refine ⟨by unfold sizeLine; simp; omega, ?_⟩
    rw [nTuple_ref hn]
    have := hq _ (hT.app [SO.lst (l.map fun y => fr (y * (-1)))])
    rw [List.map_map] at this
    exact this
/-! ### derivatives -/
def idxL (j : Nat) : List Rat → List (Nat × Rat)
  | [] => []
  | a :: l => (j, a) :: idxL (j + 1) l
def encI (p : Nat × Rat) : D := pairD (.int (p.1 : Int)) (fr p.2)
theorem idx_enum : ∀ (l : List Rat) (j : Nat), enumF j (l.map fr) = (idxL j l).map encI
  | [], _ => rfl
  | a :: l, j => by
    show pairD _ _ :: enumF (j + 1) (l.map fr) = encI (j, a) :: (idxL (j + 1) l).map encI
    rw [idx_enum l (j + 1)]
    rfl
theorem idx_der : ∀ (l : List Rat) (j : Nat), (idxL j l).map (fun p => p.2 * (p.1 : Rat)) = der j l
  | [], _ => rfl
  | a :: l, j => by
    show _ :: (idxL (j + 1) l).map _ = _ :: der (j + 1) l
    rw [idx_der l (j + 1)]
theorem idx_mem : ∀ {l : List Rat} {j : Nat} {p : Nat × Rat}, p ∈ idxL j l → p.2 ∈ l ∧ p.1 < j + l.length
  | [], _, _, h => by cases h
  | a :: l, j, p, h => by
    rcases List.mem_cons.mp h with rfl | h
    · exact ⟨List.mem_cons_self, by simp⟩
    · have := idx_mem h
      exact ⟨List.mem_cons_of_mem _ this.1, by simp; omega⟩
theorem idx_pos : ∀ (l : List Rat) (j : Nat), 0 < j → (idxL j l).filter (fun p => decide (0 < p.1)) = idxL j l
  | [], _, _ => rfl
  | a :: l, j, h => by
    show ((j, a) :: idxL (j + 1) l).filter _ = _
    rw [List.filter_cons_of_pos (by simpa using h), idx_pos l (j + 1) (by omega)]
    rfl
theorem der_len : ∀ (l : List Rat) (j : Nat), (der j l).length = l.length
  | [], _ => rfl
  | a :: l, j => by simp [der, der_len l (j + 1)]
theorem derL_len (l : List Rat) : (derL l).length ≤ l.length := by
  unfold derL
  rw [List.length_drop, der_len]
  omega
theorem sz_nat {n : Nat} (h : n < 2 ^ 100) : Sz 1 (n : Rat) := ⟨by simpa using Nat.lt_of_lt_of_le h (by decide), by simp⟩
theorem der_sz {k : Nat} : ∀ {l : List Rat} {j : Nat}, (∀ x ∈ l, Sz k x) → j + l.length < 2 ^ 100 → ∀ x ∈ der j l, Sz (k + 1) x
  | [], _, _, _, x, hx => by cases hx
  | a :: l, j, h, hj, x, hx => by
    simp at hj
    rcases List.mem_cons.mp hx with rfl | hx
    · exact (h a List.mem_cons_self).mul (sz_nat (by omega))
    · exact der_sz (fun y hy => h y (List.mem_cons_of_mem _ hy)) (by omega) x hx
theorem derL_sz {k : Nat} {l : List Rat} (h : ∀ x ∈ l, Sz k x) (hl : l.length ≤ 1000) : ∀ x ∈ derL l, Sz (k + 1) x := fun x hx => der_sz h (Nat.lt_of_le_of_lt (show 0 + l.length ≤ 1000 by omega) (by decide)) x (List.mem_of_mem_drop hx)
theorem nat_fr (n : Nat) : D.tup [.int (n : Int), .int 1] = fr (n : Rat) := by unfold fr; simp
theorem derived_in_ok {l : List Rat} {k : Nat} {S : Sto} {Q : D → Sto → Prop} (h1 : ∀ x ∈ l, Sz k x) (hk : k + 1 ≤ 2000) (hl : l.length ≤ 1000) (hq : ∀ T, Ex S T → Q (.tup ((trim (derL l)).map fr)) T) : Wp (F_derived_in [.tup (l.map fr)] S) Q := by
  unfold F_derived_in b_derived_in
  simp [entry, wp_lc, wipeR]
  rw [enumD_F, idx_enum]
  refine lc_map (α := Nat × Rat) (enc := encI) (f := fun p => fr (p.2 * (p.1 : Rat))) (S0 := S) Ex.refl (fun p hp T hT => ⟨_, rfl, ?_⟩) (fun _ _ => rfl) fun T hT => ?_
  · have hm := idx_mem hp
    have szp : Sz 1 ((p.1 : Nat) : Rat) := sz_nat (Nat.lt_of_lt_of_le hm.2 (Nat.le_trans (show 0 + l.length ≤ 1000 by omega) (by decide)))
    have hz2 : 2 ≤ sizeLine := by decide
    simp [hz2]
    rw [nat_fr, product_in_ok (S := T) (h1 _ hm.1) szp hk]
    exact ⟨rfl, Ex.refl⟩
  · have e : (idxL 0 l).map (fun p => fr (p.2 * (p.1 : Rat))) = (der 0 l).map fr := by
      rw [← idx_der, List.map_map]; rfl
    rw [e]
    have hn : (T ++ [SO.lst ((der 0 l).map fr)])[T.length]? = some (.lst ((der 0 l).map fr)) := by simp
    refine ⟨by unfold sizeLine; simp [der_len]; omega, ?_⟩
    have cut : cutD ((der 0 l).map fr) (some 1) none = (derL l).map fr := by
      unfold cutD derL
      rw [HT.sIx_none, show (1 : Int) = ((1 : Nat) : Int) from rfl, HT.sIx_nat, List.map_drop]
      by_cases hz : l = []
      · subst hz; rfl
      · have : 1 ≤ ((der 0 l).map fr).length := by
          rw [List.length_map, der_len]
          exact List.length_pos_iff.mpr hz
        rw [Nat.min_eq_left this]
        rw [List.take_of_length_le (by rw [List.length_drop]; omega)]
    unfold sliceD
    simp only [hn, cut, wp_ok]
    exact without_end_ok (l := derL l) (by rw [get_new]) (by have := derL_len l; omega) fun W hW => hq W ((hT.app _).trans ((Ex.refl.app _).trans hW))
theorem law_derived_ok {l : List Rat} {k : Nat} {S : Sto} {Q : D → Sto → Prop} (h1 : ∀ x ∈ l, Sz k x) (hk : k + 1 ≤ 2000) (hl : l.length ≤ 1000) (hq : ∀ T, Ex S T → Q (.tup ((trim (derL l)).map fr)) T) : Wp (F__law_derived [.tup (l.map fr)] S) Q := by
  unfold F__law_derived b__law_derived
  simp [entry, wp_lc, wipeR]
  rw [enumD_F, idx_enum]
  refine lc_filter (α := Nat × Rat) (enc := encI) (p := fun p => decide (0 < p.1)) (f := fun p => fr (p.2 * (p.1 : Rat))) (S0 := S) Ex.refl (fun p hp T hT => ⟨_, rfl, ?_⟩) (fun _ _ => rfl) fun T hT => ?_
  · have hm := idx_mem hp
    have szp : Sz 1 ((p.1 : Nat) : Rat) := sz_nat (Nat.lt_of_lt_of_le hm.2 (Nat.le_trans (show 0 + l.length ≤ 1000 by omega) (by decide)))
    have hz2 : 2 ≤ sizeLine := by decide
    simp
    refine ⟨Ex.refl, fun _ => ?_⟩
    simp [hz2]
    rw [nat_fr, law_times_ok (S := T) (h1 _ hm.1) szp hk]
    exact ⟨rfl, Ex.refl⟩
  · have ef : (idxL 0 l).filter (fun p => decide (0 < p.1)) = idxL 1 l.tail := by
      cases l with
      | nil => rfl
      | cons a l =>
        show ((0, a) :: idxL 1 l).filter _ = _
        rw [List.filter_cons_of_neg (by simp), idx_pos l 1 (by omega)]
        rfl
    have ed : derL l = der 1 l.tail := by cases l <;> rfl
    have e : ((idxL 0 l).filter fun p => decide (0 < p.1)).map (fun p => fr (p.2 * (p.1 : Rat))) = (derL l).map fr := by
      rw [ef, ed, ← idx_der, List.map_map]; rfl
    rw [e]
    refine ⟨by unfold sizeLine; simp; have := derL_len l; omega, ?_⟩
    exact made_ok (l := derL l) (by rw [get_new]) (by have := derL_len l; omega) fun W hW => hq W (hT.trans ((Ex.refl.app _).trans hW))
end K08
set_option Elab.async false
set_option linter.all false
set_option maxRecDepth 100000
set_option maxHeartbeats 4000000
namespace K08
open PySem MP
/-! ### the package's own functions of polynomials -/

theorem both_ok {xs ys : List Num} {S : Sto} {Q : D → Sto → Prop} (hx : polyB (xs.map Num.d) = true) (hy : polyB (ys.map Num.d) = true)
    (hq : ∀ T, Ex S T → Q (.tup [.tup ((List.map Num.q xs).map fr), .tup ((List.map Num.q ys).map fr)]) T) : Wp (F_both_polys [.tup (xs.map Num.d), .tup (ys.map Num.d)] S) Q := by
  unfold F_both_polys b_both_polys
  rw [wp_run, wps_ret, wp_tup]
  simp only [entry, wp_call, wp_cons, wp_nil, wp_var, wp_c, wp_ok, List.map_cons, List.map_nil, List.cons_append, List.nil_append, List.getElem?_cons_zero, List.getElem?_cons_succ, List.length_cons, List.length_nil, if_true]
  refine poly_told_ok hx fun T hT => ?_
  refine poly_told_ok hy fun U hU => ?_
  rw [if_pos (by decide)]
  exact hq U (hT.trans hU)
theorem poly_sum_ok {xs ys : List Num} {k c : Nat} {S : Sto} {Q : D → Sto → Prop} (hx : polyB (xs.map Num.d) = true) (hy : polyB (ys.map Num.d) = true) (h1 : ∀ x ∈ List.map Num.q xs, Sz k x) (h2 : ∀ x ∈ List.map Num.q ys, Sz c x) (hk : 1 ≤ k) (hc : 1 ≤ c) (hkc : k + c ≤ 2000) (hl : xs.length ≤ 1000) (hm : ys.length ≤ 1000)
    (hq : ∀ T, Ex S T → Q (.tup ((trim (sumL (List.map Num.q xs) (List.map Num.q ys))).map fr)) T) : Wp (F_poly_sum [.tup (xs.map Num.d), .tup (ys.map Num.d)] S) Q := by
  unfold F_poly_sum b_poly_sum
  rw [wp_run, wps_seq, wps_asg]
  simp only [entry, wp_call, wp_cons, wp_nil, wp_var, wp_c, wp_ok, List.map_cons, List.map_nil, List.cons_append, List.nil_append, List.getElem?_cons_zero, List.getElem?_cons_succ, List.length_cons, List.length_nil, if_true]
  refine both_ok hx hy fun T hT => ?_
  show WpS (sRet _ [_, _, some (.tup ((List.map Num.q xs).map fr)), some (.tup ((List.map Num.q ys).map fr))] T) _
  rw [wps_ret]
  simp only [entry, wp_call, wp_cons, wp_nil, wp_var, wp_c, wp_ok, List.map_cons, List.map_nil, List.cons_append, List.nil_append, List.getElem?_cons_zero, List.getElem?_cons_succ, List.length_cons, List.length_nil, if_true]
  exact added_in_ok h1 h2 hk hc hkc (by simpa using hl) (by simpa using hm) fun U hU => hq U (hT.trans hU)
theorem poly_less_ok {xs ys : List Num} {k c : Nat} {S : Sto} {Q : D → Sto → Prop} (hx : polyB (xs.map Num.d) = true) (hy : polyB (ys.map Num.d) = true) (h1 : ∀ x ∈ List.map Num.q xs, Sz k x) (h2 : ∀ x ∈ List.map Num.q ys, Sz c x) (hk : 1 ≤ k) (hc : 1 ≤ c) (hkc : k + (c + 1) ≤ 2000) (hl : xs.length ≤ 1000) (hm : ys.length ≤ 1000)
    (hq : ∀ T, Ex S T → Q (.tup ((trim (sumL (List.map Num.q xs) (trim ((List.map Num.q ys).map fun q => q * (-1))))).map fr)) T) : Wp (F_poly_less [.tup (xs.map Num.d), .tup (ys.map Num.d)] S) Q := by
  unfold F_poly_less b_poly_less
  rw [wp_run, wps_seq, wps_asg]
  simp only [entry, wp_call, wp_cons, wp_nil, wp_var, wp_c, wp_ok, List.map_cons, List.map_nil, List.cons_append, List.nil_append, List.getElem?_cons_zero, List.getElem?_cons_succ, List.length_cons, List.length_nil, if_true]
  refine both_ok hx hy fun T hT => ?_
  show WpS (sRet _ [_, _, some (.tup ((List.map Num.q xs).map fr)), some (.tup ((List.map Num.q ys).map fr))] T) _
  rw [wps_ret]
  simp only [entry, wp_call, wp_cons, wp_nil, wp_var, wp_c, wp_ok, List.map_cons, List.map_nil, List.cons_append, List.nil_append, List.getElem?_cons_zero, List.getElem?_cons_succ, List.length_cons, List.length_nil, if_true]
  exact taken_in_ok h1 h2 hk hc hkc (by simpa using hl) (by simpa using hm) fun U hU => hq U (hT.trans hU)
theorem poly_product_ok {xs ys : List Num} {k c : Nat} {S : Sto} {Q : D → Sto → Prop} (hx : polyB (xs.map Num.d) = true) (hy : polyB (ys.map Num.d) = true) (h1 : ∀ x ∈ List.map Num.q xs, Sz k x) (h2 : ∀ x ∈ List.map Num.q ys, Sz c x) (hk : 1 ≤ k) (hc : 1 ≤ c) (hw : 1 + (k + c) * xs.length ≤ 2000) (hl : xs.length + ys.length ≤ 42)
    (hq : ∀ T, Ex S T → Q (.tup ((trim (prodL (List.map Num.q xs) (List.map Num.q ys))).map fr)) T) : Wp (F_poly_product [.tup (xs.map Num.d), .tup (ys.map Num.d)] S) Q := by
  unfold F_poly_product b_poly_product
  rw [wp_run, wps_seq, wps_asg]
  simp only [entry, wp_call, wp_cons, wp_nil, wp_var, wp_c, wp_ok, List.map_cons, List.map_nil, List.cons_append, List.nil_append, List.getElem?_cons_zero, List.getElem?_cons_succ, List.length_cons, List.length_nil, if_true]
  refine both_ok hx hy fun T hT => ?_
  show WpS (sSeq _ _ [_, _, some (.tup ((List.map Num.q xs).map fr)), some (.tup ((List.map Num.q ys).map fr))] T) _
  have n1 : dNe (.tup ((List.map Num.q xs).map fr)) (.tup []) T = .ok (.bl (!decide (List.map Num.q xs = []))) T := dEqB_en (α := List Rat) (n := true) (List.map Num.q xs) [] (by decide)
  have n2 : dNe (.tup ((List.map Num.q ys).map fr)) (.tup []) T = .ok (.bl (!decide (List.map Num.q ys = []))) T := dEqB_en (α := List Rat) (n := true) (List.map Num.q ys) [] (by decide)
  have hgt : ¬ (40 : Int) < (xs.length : Int) + (ys.length : Int) - 2 := by omega
  have last : WpS (sRet (dCall F_times_in 2 (aCons (dVar 2) (aCons (dVar 3) aNil))) [some (.tup (xs.map Num.d)), some (.tup (ys.map Num.d)), some (.tup ((List.map Num.q xs).map fr)), some (.tup ((List.map Num.q ys).map fr))] T) (rn Q) := by
    rw [wps_ret]
    simp only [entry, wp_call, wp_cons, wp_nil, wp_var, wp_c, wp_ok, List.map_cons, List.map_nil, List.cons_append, List.nil_append, List.getElem?_cons_zero, List.getElem?_cons_succ, List.length_cons, List.length_nil, if_true]
    exact times_in_ok h1 h2 hk hc (by simpa using hw) (by simp; omega) (by simp; omega) fun U hU => hq U (hT.trans hU)
  have l1 : nLen [.tup ((List.map Num.q xs).map fr)] T = .ok (.int (xs.length : Nat)) T := by rw [nLen_tup]; simp
  have l2 : nLen [.tup ((List.map Num.q ys).map fr)] T = .ok (.int (ys.length : Nat)) T := by rw [nLen_tup]; simp
  generalize D.tup ((List.map Num.q xs).map fr) = A at *
  generalize D.tup ((List.map Num.q ys).map fr) = B at *
  rw [wps_seq, wps_if]
  have hz0 : 0 ≤ sizeLine := Nat.zero_le _
  by_cases e1 : List.map Num.q xs = []
  · simp [e1] at n1
    simp [n1, c_MAX_DEGREE, hz0]
    simpa using last
  · by_cases e2 : List.map Num.q ys = []
    · simp [e1] at n1
      simp [e2] at n2
      simp [n1, n2, c_MAX_DEGREE, hz0]
      simpa using last
    · simp [e1] at n1
      simp [e2] at n2
      simp [n1, n2, l1, l2, hgt, c_MAX_DEGREE, hz0]
      simpa using last
theorem pair_num {x : Num} {S : Sto} : F_pair_of [x.d] S = .ok (fr x.q) S := by
  cases x with
  | i n => exact pair_of_int
  | f q => exact pair_of_tup
theorem require_ok {x : Num} {S : Sto} {Q : D → Sto → Prop} (h : numberB x.d = true) (hq : ∀ T, Ex S T → Q .non T) : Wp (F_require_number [x.d] S) Q := by
  unfold F_require_number b_require_number
  simp [entry]
  refine is_number_ok (Td.num x) fun T hT => ?_
  simp [h]
  exact hq T hT
theorem poly_value_ok {xs : List Num} {x : Num} {k c : Nat} {S : Sto} {Q : D → Sto → Prop} (hx : polyB (xs.map Num.d) = true) (hn : numberB x.d = true) (h1 : ∀ y ∈ List.map Num.q xs, Sz k y) (h2 : Sz c x.q) (hk : 1 ≤ k) (hw : 1 + (c + k) * xs.length ≤ 2000)
    (hq : ∀ T, Ex S T → Q (fr (valL x.q (List.map Num.q xs))) T) : Wp (F_poly_value [.tup (xs.map Num.d), x.d] S) Q := by
  unfold F_poly_value b_poly_value
  rw [wp_run, wps_seq, wps_set]
  simp only [entry, wp_call, wp_cons, wp_nil, wp_var, wp_c, wp_ok, List.map_cons, List.map_nil, List.cons_append, List.nil_append, List.getElem?_cons_zero, List.getElem?_cons_succ, List.length_cons, List.length_nil, if_true]
  refine poly_told_ok hx fun T hT => ?_
  show WpS (sSeq _ _ [some (.tup (xs.map Num.d)), some x.d, some (.tup ((List.map Num.q xs).map fr))] T) _
  rw [wps_seq, wps_expr]
  simp only [entry, wp_call, wp_cons, wp_nil, wp_var, wp_c, wp_ok, List.map_cons, List.map_nil, List.cons_append, List.nil_append, List.getElem?_cons_zero, List.getElem?_cons_succ, List.length_cons, List.length_nil, if_true]
  refine require_ok hn fun U hU => ?_
  rw [sq_nx, wps_ret]
  simp only [entry, wp_call, wp_cons, wp_nil, wp_var, wp_c, wp_ok, List.map_cons, List.map_nil, List.cons_append, List.nil_append, List.getElem?_cons_zero, List.getElem?_cons_succ, List.length_cons, List.length_nil, if_true]
  rw [pair_num]
  simp only [entry, wp_call, wp_cons, wp_nil, wp_var, wp_c, wp_ok, List.map_cons, List.map_nil, List.cons_append, List.nil_append, List.getElem?_cons_zero, List.getElem?_cons_succ, List.length_cons, List.length_nil, if_true]
  rw [value_in_ok h1 h2 hk (by simpa using hw)]
  exact hq U (hT.trans hU)
theorem derived_ok {xs : List Num} {k : Nat} {S : Sto} {Q : D → Sto → Prop} (hx : polyB (xs.map Num.d) = true) (h1 : ∀ y ∈ List.map Num.q xs, Sz k y) (hk : k + 1 ≤ 2000) (hl : xs.length ≤ 1000)
    (hq : ∀ T, Ex S T → Q (.tup ((trim (derL (List.map Num.q xs))).map fr)) T) : Wp (F_derived [.tup (xs.map Num.d)] S) Q := by
  unfold F_derived b_derived
  rw [wp_run, wps_ret]
  simp only [entry, wp_call, wp_cons, wp_nil, wp_var, wp_c, wp_ok, List.map_cons, List.map_nil, List.cons_append, List.nil_append, List.getElem?_cons_zero, List.getElem?_cons_succ, List.length_cons, List.length_nil, if_true]
  refine poly_told_ok hx fun T hT => ?_
  exact derived_in_ok h1 hk (by simpa using hl) fun U hU => hq U (hT.trans hU)
/-! ### what was made, as numbers again -/
def fs (l : List Rat) : List Num := l.map Num.f
theorem fs_d (l : List Rat) : (fs l).map Num.d = l.map fr := by unfold fs; rw [List.map_map]; rfl
theorem fs_q (l : List Rat) : List.map Num.q (fs l) = l := by
  unfold fs
  rw [List.map_map]
  show l.map (fun x => x) = l
  simp
theorem poly_trim {l : List Rat} (hl : l.length ≤ 41) : polyB ((fs (trim l)).map Num.d) = true := by
  unfold polyB
  rw [Bool.and_eq_true, Bool.and_eq_true, decide_eq_true_eq]
  have := trim_len l
  refine ⟨by unfold fs; simp; omega, ?_, ?_⟩
  · rw [List.all_eq_true]
    intro d hd
    obtain ⟨x, hx, rfl⟩ := List.mem_map.mp hd
    obtain ⟨q, _, rfl⟩ := List.mem_map.mp hx
    unfold numberB
    rw [Bool.or_eq_true]
    right
    show (decide (1 ≤ (q.den : Int)) && decide (((Nat.gcd q.num.natAbs (q.den : Int).natAbs : Nat) : Int) = 1)) = true
    have h1 := q.den_pos
    have h2 := q.reduced
    rw [Bool.and_eq_true, decide_eq_true_eq, decide_eq_true_eq, Int.natAbs_natCast]
    exact ⟨by omega, by rw [show Nat.gcd q.num.natAbs q.den = 1 from h2]; rfl⟩
  · cases hl : (trim l).getLast? with
    | none =>
      have : trim l = [] := by simpa using hl
      rw [this]
      rfl
    | some x =>
      have hl' : ((fs (trim l)).map Num.d).getLast? = some (Num.f x).d := by unfold fs; simp [List.getLast?_map, hl]
      rw [hl']
      show decide (topD (Num.f x).d ≠ 0) = true
      rw [decide_eq_true_eq]
      exact topD_num.mpr (trim_end hl)
theorem ne_list {l m : List Rat} {S : Sto} : dNe (.tup (l.map fr)) (.tup (m.map fr)) S = .ok (.bl (!decide (l = m))) S := dEqB_en (α := List Rat) (n := true) l m (by decide)
theorem eq_list {l m : List Rat} {S : Sto} : dEq (.tup (l.map fr)) (.tup (m.map fr)) S = .ok (.bl (decide (l = m))) S := dEqB_en (α := List Rat) (n := false) l m (by decide)
theorem ne_fr {a b : Rat} {S : Sto} : dNe (fr a) (fr b) S = .ok (.bl (!decide (a = b))) S := dEqB_en (α := Rat) (n := true) a b (by decide)
theorem sum_trim (l m : List Rat) : trim (sumL l (trim m)) = trim (sumL l m) := trim_phi fun w => by rw [phi_sum, phi_sum, phi_trim]
end K08
set_option Elab.async false
set_option linter.all false
set_option maxRecDepth 100000
set_option maxHeartbeats 4000000
namespace K08
open PySem MP
/-! ### the law's own look -/
theorem at_num {x : Num} {S : Sto} {ρ : Rho} {i : Nat} {Q : D → Sto → Prop} (h : ρ[i]? = some (some x.d)) (hq : Q (fr x.q) S) : Wp (dIf (fTru (dIsi .tuple (dVar i))) (dVar i) (mkTup (aCons (dVar i) (aCons (dC (.int 1)) aNil))) ρ S) Q := by
  cases x with
  | i n =>
    simp [h, Num.d, Ty.sub, sizeLine]
    have e : D.tup [.int n, .int 1] = fr (n : Rat) := by unfold fr; simp
    rw [e]
    exact hq
  | f q =>
    simp [h, Num.d, fr, Ty.sub]
    exact hq
theorem pol_sz {m : Nat} {xs : List Num} (h : Pol m xs) : ∀ x ∈ List.map Num.q xs, Sz 1 x := fun x hx => by
  obtain ⟨y, hy, rfl⟩ := List.mem_map.mp hx
  exact (h.ok y hy).sz
theorem trim_sz {k : Nat} {l : List Rat} (h : ∀ x ∈ l, Sz k x) : ∀ x ∈ trim l, Sz k x := fun x hx => h x (trim_sub hx)
theorem sumL_sz {k c : Nat} {l m : List Rat} (h1 : ∀ x ∈ l, Sz k x) (h2 : ∀ x ∈ m, Sz c x) (hk : 1 ≤ k) (hc : 1 ≤ c) : ∀ x ∈ sumL l m, Sz (k + c) x := by
  have a := pad_sz (n := max l.length m.length) h1 hk
  have b := pad_sz (n := max l.length m.length) h2 hc
  intro x hx
  unfold sumL at hx
  obtain ⟨i, hi, rfl⟩ := List.mem_iff_getElem.mp hx
  rw [List.getElem_zipWith]
  exact (a _ (List.getElem_mem _)).add (b _ (List.getElem_mem _)) hk hc
theorem prodL_sz {k c : Nat} {l m : List Rat} (h1 : ∀ x ∈ l, Sz k x) (h2 : ∀ x ∈ m, Sz c x) (hk : 1 ≤ k) : ∀ x ∈ prodL l m, Sz (1 + (k + c) * l.length) x :=
  mulL_sz h2 hk h1 (fun z hz => by rw [(List.mem_replicate.mp hz).2]; exact Sz.zero) (Nat.le_refl _)
theorem sumL_len (l m : List Rat) : (sumL l m).length = max l.length m.length := by unfold sumL pad; simp; omega
theorem prodL_len (l m : List Rat) : (prodL l m).length = l.length + m.length := by unfold prodL; rw [mulL_len]; simp
theorem neg_sz {k : Nat} {l : List Rat} (h : ∀ x ∈ l, Sz k x) : ∀ x ∈ l.map (fun q => q * (-1)), Sz (k + 1) x := fun x hx => by
  obtain ⟨y, hy, rfl⟩ := List.mem_map.mp hx
  exact (h y hy).mul szNeg1
theorem val_sz {k c n : Nat} {X : Rat} {l : List Rat} (h1 : ∀ x ∈ l, Sz k x) (hX : Sz c X) (hk : 1 ≤ k) (hn : l.length ≤ n) : Sz (1 + (c + k) * n) (valL X l) := by
  have := fold_sz hX hk (as := l.reverse) (f := 0) (c := 1) (fun a ha => h1 a (List.mem_reverse.mp ha)) Sz.zero (Nat.le_refl _)
  rw [List.length_reverse] at this
  exact this.up (by have := Nat.mul_le_mul_left (c + k) hn; omega)
theorem up_all {k c : Nat} {l : List Rat} (h : ∀ x ∈ l, Sz k x) (hc : k ≤ c) : ∀ x ∈ l, Sz c x := fun x hx => (h x hx).up hc
theorem right_ok {nd c : Nat} {S : Sto} {Q : D → Sto → Prop} (h : Dice S nd c) (hc : c + 1000 ≤ 1000000) (hq : ∀ T, Dice T nd (c + 300) → Ed nd S T → Q (.bl true) T) : Wp (F__law_right [.ref nd] S) Q := by
  unfold F__law_right b__law_right
  try simp only [entry, wp_call, wp_cons, wp_nil, wp_var, wp_c, wp_ok, List.map_cons, List.map_nil, List.cons_append, List.nil_append, List.getElem?_cons_zero, List.getElem?_cons_succ, List.length_cons, List.length_nil, if_true, wp_run, wps_seq, sq_nx, sq_ret, wps_set, wps_par, wps_par3, wps_if, wps_ret, wps_nil, wps_fl, rn_ret, rn_nx, wp_fOr, wp_fAnd, wp_fNot, wp_fB, wp_d2, wp_and, wp_or, wp_dN, List.set_cons_succ, List.set_cons_zero, List.replicate, Nat.reduceAdd, Nat.reduceSub, Bool.not_true, Bool.not_false, Bool.false_eq_true, if_false, decide_true, decide_false, dAdd_int]
  refine py_drawn_ok (m := 8) h (by decide) (by omega) fun xs T1 px d1 e1 => ?_
  refine py_drawn_ok (m := 8) d1 (by decide) (by omega) fun ys T2 py d2' e2 => ?_
  have lx : xs.length ≤ 9 := px.len
  have ly : ys.length ≤ 9 := py.len
  have bx := polyB_pol px (by decide)
  have bY := polyB_pol py (by decide)
  have sx := pol_sz px
  have sy := pol_sz py
  have lqx : (List.map Num.q xs).length ≤ 9 := by simpa using lx
  have lqy : (List.map Num.q ys).length ≤ 9 := by simpa using ly
  have E2 : Ed nd S T2 := e1.trans e2
  try simp only [entry, wp_call, wp_cons, wp_nil, wp_var, wp_c, wp_ok, List.map_cons, List.map_nil, List.cons_append, List.nil_append, List.getElem?_cons_zero, List.getElem?_cons_succ, List.length_cons, List.length_nil, if_true, wp_run, wps_seq, sq_nx, sq_ret, wps_set, wps_par, wps_par3, wps_if, wps_ret, wps_nil, wps_fl, rn_ret, rn_nx, wp_fOr, wp_fAnd, wp_fNot, wp_fB, wp_d2, wp_and, wp_or, wp_dN, List.set_cons_succ, List.set_cons_zero, List.replicate, Nat.reduceAdd, Nat.reduceSub, Bool.not_true, Bool.not_false, Bool.false_eq_true, if_false, decide_true, decide_false, dAdd_int]
  refine py_pairs_ok (by omega) fun T3 h3 => ?_
  refine py_pairs_ok (by omega) fun T4 h4 => ?_
  try simp only [entry, wp_call, wp_cons, wp_nil, wp_var, wp_c, wp_ok, List.map_cons, List.map_nil, List.cons_append, List.nil_append, List.getElem?_cons_zero, List.getElem?_cons_succ, List.length_cons, List.length_nil, if_true, wp_run, wps_seq, sq_nx, sq_ret, wps_set, wps_par, wps_par3, wps_if, wps_ret, wps_nil, wps_fl, rn_ret, rn_nx, wp_fOr, wp_fAnd, wp_fNot, wp_fB, wp_d2, wp_and, wp_or, wp_dN, List.set_cons_succ, List.set_cons_zero, List.replicate, Nat.reduceAdd, Nat.reduceSub, Bool.not_true, Bool.not_false, Bool.false_eq_true, if_false, decide_true, decide_false, dAdd_int]
  refine poly_sum_ok bx bY sx sy (Nat.le_refl _) (Nat.le_refl _) (by decide) (by omega) (by omega) fun T5 h5 => ?_
  refine poly_less_ok bx bY sx sy (Nat.le_refl _) (Nat.le_refl _) (by decide) (by omega) (by omega) fun T6 h6 => ?_
  refine poly_product_ok bx bY sx sy (Nat.le_refl _) (Nat.le_refl _) (by omega) (by omega) fun T7 h7 => ?_
  try simp only [entry, wp_call, wp_cons, wp_nil, wp_var, wp_c, wp_ok, List.map_cons, List.map_nil, List.cons_append, List.nil_append, List.getElem?_cons_zero, List.getElem?_cons_succ, List.length_cons, List.length_nil, if_true, wp_run, wps_seq, sq_nx, sq_ret, wps_set, wps_par, wps_par3, wps_if, wps_ret, wps_nil, wps_fl, rn_ret, rn_nx, wp_fOr, wp_fAnd, wp_fNot, wp_fB, wp_d2, wp_and, wp_or, wp_dN, List.set_cons_succ, List.set_cons_zero, List.replicate, Nat.reduceAdd, Nat.reduceSub, Bool.not_true, Bool.not_false, Bool.false_eq_true, if_false, decide_true, decide_false, dAdd_int]
  refine py_sum_ok sx sy (Nat.le_refl _) (Nat.le_refl _) (by decide) (by omega) (by omega) fun T8 h8 => ?_
  try simp only [entry, wp_call, wp_cons, wp_nil, wp_var, wp_c, wp_ok, List.map_cons, List.map_nil, List.cons_append, List.nil_append, List.getElem?_cons_zero, List.getElem?_cons_succ, List.length_cons, List.length_nil, if_true, wp_run, wps_seq, sq_nx, sq_ret, wps_set, wps_par, wps_par3, wps_if, wps_ret, wps_nil, wps_fl, rn_ret, rn_nx, wp_fOr, wp_fAnd, wp_fNot, wp_fB, wp_d2, wp_and, wp_or, wp_dN, List.set_cons_succ, List.set_cons_zero, List.replicate, Nat.reduceAdd, Nat.reduceSub, Bool.not_true, Bool.not_false, Bool.false_eq_true, if_false, decide_true, decide_false, dAdd_int, ne_list]
  refine py_back_ok (by omega) fun T9 h9 => ?_
  refine py_sum_ok sx (neg_sz sy) (Nat.le_refl _) (by decide) (by decide) (by omega) (by rw [List.length_map]; omega) fun T10 h10 => ?_
  try simp only [entry, wp_call, wp_cons, wp_nil, wp_var, wp_c, wp_ok, List.map_cons, List.map_nil, List.cons_append, List.nil_append, List.getElem?_cons_zero, List.getElem?_cons_succ, List.length_cons, List.length_nil, if_true, wp_run, wps_seq, sq_nx, sq_ret, wps_set, wps_par, wps_par3, wps_if, wps_ret, wps_nil, wps_fl, rn_ret, rn_nx, wp_fOr, wp_fAnd, wp_fNot, wp_fB, wp_d2, wp_and, wp_or, wp_dN, List.set_cons_succ, List.set_cons_zero, List.replicate, Nat.reduceAdd, Nat.reduceSub, Bool.not_true, Bool.not_false, Bool.false_eq_true, if_false, decide_true, decide_false, dAdd_int, ne_list, sum_trim]
  refine py_times_ok sx sy (Nat.le_refl _) (Nat.le_refl _) (by omega) (by omega) (by omega) fun T11 h11 => ?_
  try simp only [entry, wp_call, wp_cons, wp_nil, wp_var, wp_c, wp_ok, List.map_cons, List.map_nil, List.cons_append, List.nil_append, List.getElem?_cons_zero, List.getElem?_cons_succ, List.length_cons, List.length_nil, if_true, wp_run, wps_seq, sq_nx, sq_ret, wps_set, wps_par, wps_par3, wps_if, wps_ret, wps_nil, wps_fl, rn_ret, rn_nx, wp_fOr, wp_fAnd, wp_fNot, wp_fB, wp_d2, wp_and, wp_or, wp_dN, List.set_cons_succ, List.set_cons_zero, List.replicate, Nat.reduceAdd, Nat.reduceSub, Bool.not_true, Bool.not_false, Bool.false_eq_true, if_false, decide_true, decide_false, dAdd_int, ne_list]
  refine poly_product_ok bY bx sy sx (Nat.le_refl _) (Nat.le_refl _) (by omega) (by omega) fun T12 h12 => ?_
  rw [prod_comm (List.map Num.q ys) (List.map Num.q xs)]
  try simp only [entry, wp_call, wp_cons, wp_nil, wp_var, wp_c, wp_ok, List.map_cons, List.map_nil, List.cons_append, List.nil_append, List.getElem?_cons_zero, List.getElem?_cons_succ, List.length_cons, List.length_nil, if_true, wp_run, wps_seq, sq_nx, sq_ret, wps_set, wps_par, wps_par3, wps_if, wps_ret, wps_nil, wps_fl, rn_ret, rn_nx, wp_fOr, wp_fAnd, wp_fNot, wp_fB, wp_d2, wp_and, wp_or, wp_dN, List.set_cons_succ, List.set_cons_zero, List.replicate, Nat.reduceAdd, Nat.reduceSub, Bool.not_true, Bool.not_false, Bool.false_eq_true, if_false, decide_true, decide_false, dAdd_int, ne_list]
  refine poly_sum_ok bY bx sy sx (Nat.le_refl _) (Nat.le_refl _) (by decide) (by omega) (by omega) fun T13 h13 => ?_
  rw [sum_comm (List.map Num.q ys) (List.map Num.q xs)]
  try simp only [entry, wp_call, wp_cons, wp_nil, wp_var, wp_c, wp_ok, List.map_cons, List.map_nil, List.cons_append, List.nil_append, List.getElem?_cons_zero, List.getElem?_cons_succ, List.length_cons, List.length_nil, if_true, wp_run, wps_seq, sq_nx, sq_ret, wps_set, wps_par, wps_par3, wps_if, wps_ret, wps_nil, wps_fl, rn_ret, rn_nx, wp_fOr, wp_fAnd, wp_fNot, wp_fB, wp_d2, wp_and, wp_or, wp_dN, List.set_cons_succ, List.set_cons_zero, List.replicate, Nat.reduceAdd, Nat.reduceSub, Bool.not_true, Bool.not_false, Bool.false_eq_true, if_false, decide_true, decide_false, dAdd_int, ne_list]
  have X13 : Ex T2 T13 := h3.trans (h4.trans (h5.trans (h6.trans (h7.trans (h8.trans (h9.trans (h10.trans (h11.trans (h12.trans h13)))))))))
  refine py_number_ok (d2'.up X13 (Nat.le_refl _)) (by omega) fun x T14 ox d14 e14 _ => ?_
  try simp only [entry, wp_call, wp_cons, wp_nil, wp_var, wp_c, wp_ok, List.map_cons, List.map_nil, List.cons_append, List.nil_append, List.getElem?_cons_zero, List.getElem?_cons_succ, List.length_cons, List.length_nil, if_true, wp_run, wps_seq, sq_nx, sq_ret, wps_set, wps_par, wps_par3, wps_if, wps_ret, wps_nil, wps_fl, rn_ret, rn_nx, wp_fOr, wp_fAnd, wp_fNot, wp_fB, wp_d2, wp_and, wp_or, wp_dN, List.set_cons_succ, List.set_cons_zero, List.replicate, Nat.reduceAdd, Nat.reduceSub, Bool.not_true, Bool.not_false, Bool.false_eq_true, if_false, decide_true, decide_false, dAdd_int]
  refine at_num rfl ?_
  try simp only [entry, wp_call, wp_cons, wp_nil, wp_var, wp_c, wp_ok, List.map_cons, List.map_nil, List.cons_append, List.nil_append, List.getElem?_cons_zero, List.getElem?_cons_succ, List.length_cons, List.length_nil, if_true, wp_run, wps_seq, sq_nx, sq_ret, wps_set, wps_par, wps_par3, wps_if, wps_ret, wps_nil, wps_fl, rn_ret, rn_nx, wp_fOr, wp_fAnd, wp_fNot, wp_fB, wp_d2, wp_and, wp_or, wp_dN, List.set_cons_succ, List.set_cons_zero, List.replicate, Nat.reduceAdd, Nat.reduceSub, Bool.not_true, Bool.not_false, Bool.false_eq_true, if_false, decide_true, decide_false, dAdd_int]
  have nb := numberB_num ox
  have szx := ox.sz
  refine poly_value_ok bx nb sx szx (Nat.le_refl _) (by omega) fun T15 h15 => ?_
  refine poly_value_ok bY nb sy szx (Nat.le_refl _) (by omega) fun T16 h16 => ?_
  try simp only [entry, wp_call, wp_cons, wp_nil, wp_var, wp_c, wp_ok, List.map_cons, List.map_nil, List.cons_append, List.nil_append, List.getElem?_cons_zero, List.getElem?_cons_succ, List.length_cons, List.length_nil, if_true, wp_run, wps_seq, sq_nx, sq_ret, wps_set, wps_par, wps_par3, wps_if, wps_ret, wps_nil, wps_fl, rn_ret, rn_nx, wp_fOr, wp_fAnd, wp_fNot, wp_fB, wp_d2, wp_and, wp_or, wp_dN, List.set_cons_succ, List.set_cons_zero, List.replicate, Nat.reduceAdd, Nat.reduceSub, Bool.not_true, Bool.not_false, Bool.false_eq_true, if_false, decide_true, decide_false, dAdd_int]
  rw [py_value_ok sx szx (Nat.le_refl _) (by omega)]
  try simp only [entry, wp_call, wp_cons, wp_nil, wp_var, wp_c, wp_ok, List.map_cons, List.map_nil, List.cons_append, List.nil_append, List.getElem?_cons_zero, List.getElem?_cons_succ, List.length_cons, List.length_nil, if_true, wp_run, wps_seq, sq_nx, sq_ret, wps_set, wps_par, wps_par3, wps_if, wps_ret, wps_nil, wps_fl, rn_ret, rn_nx, wp_fOr, wp_fAnd, wp_fNot, wp_fB, wp_d2, wp_and, wp_or, wp_dN, List.set_cons_succ, List.set_cons_zero, List.replicate, Nat.reduceAdd, Nat.reduceSub, Bool.not_true, Bool.not_false, Bool.false_eq_true, if_false, decide_true, decide_false, dAdd_int, ne_fr]
  generalize hA : List.map Num.q xs = l at *
  generalize hB : List.map Num.q ys = m at *
  have sW := trim_sz (sumL_sz sx sy (Nat.le_refl _) (Nat.le_refl _))
  have lW : (trim (sumL l m)).length ≤ 9 := by have := trim_len (sumL l m); rw [sumL_len] at this; omega
  have sP0 := prodL_sz sx sy (Nat.le_refl _)
  have sP : ∀ z ∈ trim (prodL l m), Sz 19 z := up_all (trim_sz sP0) (by omega)
  have lP : (trim (prodL l m)).length ≤ 18 := by have := trim_len (prodL l m); rw [prodL_len] at this; omega
  have sA := trim_sz (sumL_sz sx (neg_sz sy) (Nat.le_refl _) (by decide))
  have lA : (trim (sumL l (m.map fun q => q * (-1)))).length ≤ 9 := by have := trim_len (sumL l (m.map fun q => q * (-1))); rw [sumL_len, List.length_map] at this; omega
  have vl := val_sz sx szx (Nat.le_refl _) lqx
  have vm := val_sz sy szx (Nat.le_refl _) lqy
  have bW := poly_trim (l := sumL l m) (by rw [sumL_len]; omega)
  have bP := poly_trim (l := prodL l m) (by rw [prodL_len]; omega)
  have bA := poly_trim (l := sumL l (m.map fun q => q * (-1))) (by rw [sumL_len, List.length_map]; omega)
  have lf : ∀ z : List Rat, (fs z).length = z.length := fun z => by unfold fs; simp
  rw [← fs_d (trim (sumL l m))]
  refine poly_value_ok bW nb (by rw [fs_q]; exact sW) szx (by decide) (by rw [lf]; omega) fun T17 h17 => ?_
  rw [law_plus_ok vl vm (by omega) (by omega) (by omega), fs_q, val_sum]
  try simp only [entry, wp_call, wp_cons, wp_nil, wp_var, wp_c, wp_ok, List.map_cons, List.map_nil, List.cons_append, List.nil_append, List.getElem?_cons_zero, List.getElem?_cons_succ, List.length_cons, List.length_nil, if_true, wp_run, wps_seq, sq_nx, sq_ret, wps_set, wps_par, wps_par3, wps_if, wps_ret, wps_nil, wps_fl, rn_ret, rn_nx, wp_fOr, wp_fAnd, wp_fNot, wp_fB, wp_d2, wp_and, wp_or, wp_dN, List.set_cons_succ, List.set_cons_zero, List.replicate, Nat.reduceAdd, Nat.reduceSub, Bool.not_true, Bool.not_false, Bool.false_eq_true, if_false, decide_true, decide_false, dAdd_int, ne_fr]
  rw [← fs_d (trim (prodL l m))]
  refine poly_value_ok bP nb (by rw [fs_q]; exact sP) szx (by decide) (by rw [lf]; omega) fun T18 h18 => ?_
  rw [law_times_ok vl vm (by omega), fs_q, val_prod]
  try simp only [entry, wp_call, wp_cons, wp_nil, wp_var, wp_c, wp_ok, List.map_cons, List.map_nil, List.cons_append, List.nil_append, List.getElem?_cons_zero, List.getElem?_cons_succ, List.length_cons, List.length_nil, if_true, wp_run, wps_seq, sq_nx, sq_ret, wps_set, wps_par, wps_par3, wps_if, wps_ret, wps_nil, wps_fl, rn_ret, rn_nx, wp_fOr, wp_fAnd, wp_fNot, wp_fB, wp_d2, wp_and, wp_or, wp_dN, List.set_cons_succ, List.set_cons_zero, List.replicate, Nat.reduceAdd, Nat.reduceSub, Bool.not_true, Bool.not_false, Bool.false_eq_true, if_false, decide_true, decide_false, dAdd_int, ne_fr]
  rw [← fs_d (trim (sumL l (m.map fun q => q * (-1))))]
  refine poly_value_ok bA nb (by rw [fs_q]; exact sA) szx (by decide) (by rw [lf]; omega) fun T19 h19 => ?_
  rw [law_less_ok vl vm (by omega) (by omega) (by omega), fs_q, val_less]
  try simp only [entry, wp_call, wp_cons, wp_nil, wp_var, wp_c, wp_ok, List.map_cons, List.map_nil, List.cons_append, List.nil_append, List.getElem?_cons_zero, List.getElem?_cons_succ, List.length_cons, List.length_nil, if_true, wp_run, wps_seq, sq_nx, sq_ret, wps_set, wps_par, wps_par3, wps_if, wps_ret, wps_nil, wps_fl, rn_ret, rn_nx, wp_fOr, wp_fAnd, wp_fNot, wp_fB, wp_d2, wp_and, wp_or, wp_dN, List.set_cons_succ, List.set_cons_zero, List.replicate, Nat.reduceAdd, Nat.reduceSub, Bool.not_true, Bool.not_false, Bool.false_eq_true, if_false, decide_true, decide_false, dAdd_int, ne_fr]
  subst hA
  subst hB
  refine derived_ok bx sx (by decide) (by omega) fun T20 h20 => ?_
  refine law_derived_ok sx (by decide) (by omega) fun T21 h21 => ?_
  try simp only [entry, wp_call, wp_cons, wp_nil, wp_var, wp_c, wp_ok, List.map_cons, List.map_nil, List.cons_append, List.nil_append, List.getElem?_cons_zero, List.getElem?_cons_succ, List.length_cons, List.length_nil, if_true, wp_run, wps_seq, sq_nx, sq_ret, wps_set, wps_par, wps_par3, wps_if, wps_ret, wps_nil, wps_fl, rn_ret, rn_nx, wp_fOr, wp_fAnd, wp_fNot, wp_fB, wp_d2, wp_and, wp_or, wp_dN, List.set_cons_succ, List.set_cons_zero, List.replicate, Nat.reduceAdd, Nat.reduceSub, Bool.not_true, Bool.not_false, Bool.false_eq_true, if_false, decide_true, decide_false, dAdd_int, ne_list]
  have sdx := trim_sz (derL_sz sx (by omega))
  have sdy := trim_sz (derL_sz sy (by omega))
  have ldx : (trim (derL (List.map Num.q xs))).length ≤ 9 := by have := trim_len (derL (List.map Num.q xs)); have := derL_len (List.map Num.q xs); omega
  have ldy : (trim (derL (List.map Num.q ys))).length ≤ 9 := by have := trim_len (derL (List.map Num.q ys)); have := derL_len (List.map Num.q ys); omega
  refine derived_ok bx sx (by decide) (by omega) fun T22 h22 => ?_
  try simp only [entry, wp_call, wp_cons, wp_nil, wp_var, wp_c, wp_ok, List.map_cons, List.map_nil, List.cons_append, List.nil_append, List.getElem?_cons_zero, List.getElem?_cons_succ, List.length_cons, List.length_nil, if_true, wp_run, wps_seq, sq_nx, sq_ret, wps_set, wps_par, wps_par3, wps_if, wps_ret, wps_nil, wps_fl, rn_ret, rn_nx, wp_fOr, wp_fAnd, wp_fNot, wp_fB, wp_d2, wp_and, wp_or, wp_dN, List.set_cons_succ, List.set_cons_zero, List.replicate, Nat.reduceAdd, Nat.reduceSub, Bool.not_true, Bool.not_false, Bool.false_eq_true, if_false, decide_true, decide_false, dAdd_int]
  refine py_times_ok sdx sy (by decide) (by decide) (by omega) (by omega) (by omega) fun T23 h23 => ?_
  refine derived_ok bY sy (by decide) (by omega) fun T24 h24 => ?_
  try simp only [entry, wp_call, wp_cons, wp_nil, wp_var, wp_c, wp_ok, List.map_cons, List.map_nil, List.cons_append, List.nil_append, List.getElem?_cons_zero, List.getElem?_cons_succ, List.length_cons, List.length_nil, if_true, wp_run, wps_seq, sq_nx, sq_ret, wps_set, wps_par, wps_par3, wps_if, wps_ret, wps_nil, wps_fl, rn_ret, rn_nx, wp_fOr, wp_fAnd, wp_fNot, wp_fB, wp_d2, wp_and, wp_or, wp_dN, List.set_cons_succ, List.set_cons_zero, List.replicate, Nat.reduceAdd, Nat.reduceSub, Bool.not_true, Bool.not_false, Bool.false_eq_true, if_false, decide_true, decide_false, dAdd_int]
  refine py_times_ok sx sdy (by decide) (by decide) (by omega) (by omega) (by omega) fun T25 h25 => ?_
  try simp only [entry, wp_call, wp_cons, wp_nil, wp_var, wp_c, wp_ok, List.map_cons, List.map_nil, List.cons_append, List.nil_append, List.getElem?_cons_zero, List.getElem?_cons_succ, List.length_cons, List.length_nil, if_true, wp_run, wps_seq, sq_nx, sq_ret, wps_set, wps_par, wps_par3, wps_if, wps_ret, wps_nil, wps_fl, rn_ret, rn_nx, wp_fOr, wp_fAnd, wp_fNot, wp_fB, wp_d2, wp_and, wp_or, wp_dN, List.set_cons_succ, List.set_cons_zero, List.replicate, Nat.reduceAdd, Nat.reduceSub, Bool.not_true, Bool.not_false, Bool.false_eq_true, if_false, decide_true, decide_false, dAdd_int]
  have s1 := up_all (c := 28) (trim_sz (prodL_sz sdx sy (by decide))) (by omega)
  have s2 := up_all (c := 28) (trim_sz (prodL_sz sx sdy (by decide))) (by omega)
  refine py_sum_ok s1 s2 (by decide) (by decide) (by decide) (by have := trim_len (prodL (trim (derL (List.map Num.q xs))) (List.map Num.q ys)); rw [prodL_len] at this; omega) (by have := trim_len (prodL (List.map Num.q xs) (trim (derL (List.map Num.q ys)))); rw [prodL_len] at this; omega) fun T26 h26 => ?_
  try simp only [entry, wp_call, wp_cons, wp_nil, wp_var, wp_c, wp_ok, List.map_cons, List.map_nil, List.cons_append, List.nil_append, List.getElem?_cons_zero, List.getElem?_cons_succ, List.length_cons, List.length_nil, if_true, wp_run, wps_seq, sq_nx, sq_ret, wps_set, wps_par, wps_par3, wps_if, wps_ret, wps_nil, wps_fl, rn_ret, rn_nx, wp_fOr, wp_fAnd, wp_fNot, wp_fB, wp_d2, wp_and, wp_or, wp_dN, List.set_cons_succ, List.set_cons_zero, List.replicate, Nat.reduceAdd, Nat.reduceSub, Bool.not_true, Bool.not_false, Bool.false_eq_true, if_false, decide_true, decide_false, dAdd_int]
  refine derived_ok bP (by rw [fs_q]; exact sP) (by decide) (by rw [lf]; omega) fun T27 h27 => ?_
  rw [fs_q, leibniz]
  try simp only [entry, wp_call, wp_cons, wp_nil, wp_var, wp_c, wp_ok, List.map_cons, List.map_nil, List.cons_append, List.nil_append, List.getElem?_cons_zero, List.getElem?_cons_succ, List.length_cons, List.length_nil, if_true, wp_run, wps_seq, sq_nx, sq_ret, wps_set, wps_par, wps_par3, wps_if, wps_ret, wps_nil, wps_fl, rn_ret, rn_nx, wp_fOr, wp_fAnd, wp_fNot, wp_fB, wp_d2, wp_and, wp_or, wp_dN, List.set_cons_succ, List.set_cons_zero, List.replicate, Nat.reduceAdd, Nat.reduceSub, Bool.not_true, Bool.not_false, Bool.false_eq_true, if_false, decide_true, decide_false, dAdd_int, eq_list]
  refine is_poly_ok (fun d hd => by obtain ⟨z, _, rfl⟩ := List.mem_map.mp hd; exact Td.num z) fun T28 h28 => ?_
  rw [bx]
  try simp only [entry, wp_call, wp_cons, wp_nil, wp_var, wp_c, wp_ok, List.map_cons, List.map_nil, List.cons_append, List.nil_append, List.getElem?_cons_zero, List.getElem?_cons_succ, List.length_cons, List.length_nil, if_true, wp_run, wps_seq, sq_nx, sq_ret, wps_set, wps_par, wps_par3, wps_if, wps_ret, wps_nil, wps_fl, rn_ret, rn_nx, wp_fOr, wp_fAnd, wp_fNot, wp_fB, wp_d2, wp_and, wp_or, wp_dN, List.set_cons_succ, List.set_cons_zero, List.replicate, Nat.reduceAdd, Nat.reduceSub, Bool.not_true, Bool.not_false, Bool.false_eq_true, if_false, decide_true, decide_false, dAdd_int]
  refine is_poly_ok (fun d hd => by obtain ⟨z, _, rfl⟩ := List.mem_map.mp hd; exact Td.num z) fun T29 h29 => ?_
  rw [bP]
  try simp only [entry, wp_call, wp_cons, wp_nil, wp_var, wp_c, wp_ok, List.map_cons, List.map_nil, List.cons_append, List.nil_append, List.getElem?_cons_zero, List.getElem?_cons_succ, List.length_cons, List.length_nil, if_true, wp_run, wps_seq, sq_nx, sq_ret, wps_set, wps_par, wps_par3, wps_if, wps_ret, wps_nil, wps_fl, rn_ret, rn_nx, wp_fOr, wp_fAnd, wp_fNot, wp_fB, wp_d2, wp_and, wp_or, wp_dN, List.set_cons_succ, List.set_cons_zero, List.replicate, Nat.reduceAdd, Nat.reduceSub, Bool.not_true, Bool.not_false, Bool.false_eq_true, if_false, decide_true, decide_false, dAdd_int]
  refine poly_less_ok bx bx sx sx (Nat.le_refl _) (Nat.le_refl _) (by decide) (by omega) (by omega) fun T30 h30 => ?_
  rw [sum_trim (List.map Num.q xs) ((List.map Num.q xs).map fun q => q * (-1)), sum_neg]
  have X30 : Ex T14 T30 := h15.trans (h16.trans (h17.trans (h18.trans (h19.trans (h20.trans (h21.trans (h22.trans (h23.trans (h24.trans (h25.trans (h26.trans (h27.trans (h28.trans (h29.trans h30))))))))))))))
  have last := hq T30 (d14.up X30 (by omega)) ((E2.trans X13.ed).trans (e14.trans X30.ed))
  have hz0 : 0 ≤ sizeLine := Nat.zero_le _
  have e0 : dEq (.tup []) (.tup []) T30 = .ok (.bl true) T30 := eq_list (l := []) (m := [])
  try simp only [entry, wp_call, wp_cons, wp_nil, wp_var, wp_c, wp_ok, List.map_cons, List.map_nil, List.cons_append, List.nil_append, List.getElem?_cons_zero, List.getElem?_cons_succ, List.length_cons, List.length_nil, if_true, wp_run, wps_seq, sq_nx, sq_ret, wps_set, wps_par, wps_par3, wps_if, wps_ret, wps_nil, wps_fl, rn_ret, rn_nx, wp_fOr, wp_fAnd, wp_fNot, wp_fB, wp_d2, wp_and, wp_or, wp_dN, List.set_cons_succ, List.set_cons_zero, List.replicate, Nat.reduceAdd, Nat.reduceSub, Bool.not_true, Bool.not_false, Bool.false_eq_true, if_false, decide_true, decide_false, dAdd_int, wp_tup]
  rw [if_pos hz0, e0]
  exact last
end K08
set_option Elab.async false
set_option linter.all false
set_option maxRecDepth 100000
set_option maxHeartbeats 4000000
namespace K08
open PySem MP
/-! ### the law's look at is_poly -/
instance : En Bool where
  d := .bl
  p := .bool
  dep := 1
  hp := fun a n S => by rw [toPy_up (Nat.add_comm n 1)]; rfl
  lay := fun a => by simp [PyData.canLay0]
  hd := fun a => by simp [PyData.depth]
  eq := fun a b => by simp [PyData.eqv]
def judge : D → Bool
  | .tup ds => polyB ds
  | _ => false
theorem polyB_bad {ds : List D} {x : D} (hx : x ∈ ds) (h : numberB x = false) : polyB ds = false := by
  unfold polyB
  have : ds.all numberB = false := by
    rw [List.all_eq_false]
    exact ⟨x, hx, by simp [h]⟩
  rw [this]
  simp
theorem polyB_end {ds : List D} {x : D} (h : topD x = 0) : polyB (ds ++ [x]) = false := by
  unfold polyB
  simp [h]
theorem td_non {S : Sto} : Td S .non := ⟨⟨_, rfl⟩, fun ds h => by cases h⟩
theorem td_str {S : Sto} {x : Str} : Td S (.str x) := ⟨⟨_, rfl⟩, fun ds h => by cases h⟩
theorem td_int {S : Sto} {i : Int} : Td S (.int i) := ⟨⟨_, rfl⟩, fun ds h => by cases h⟩
theorem td_bl {S : Sto} {i : Bool} : Td S (.bl i) := ⟨⟨_, rfl⟩, fun ds h => by cases h⟩
theorem td_lst {S : Sto} {n : Nat} {l : List D} (h : S[n]? = some (.lst l)) : Td S (.ref n) := ⟨⟨_, ty_ref h⟩, fun ds h => by cases h⟩
theorem td_ints {S : Sto} {l : List Int} : Td S (.tup (l.map D.int)) := ⟨⟨_, rfl⟩, fun ds h e he => by
  cases h
  obtain ⟨i, _, rfl⟩ := List.mem_map.mp he
  exact ⟨_, rfl⟩⟩
/-- is_poly of any of these -/
structure Jd (S : Sto) (d : D) : Prop where
  ty : ∃ a, tyD d S = some a
  its : ∀ ds, d = .tup ds → ∀ e ∈ ds, Td S e
theorem judge_ok {d : D} {S : Sto} {Q : D → Sto → Prop} (h : Jd S d) (hq : ∀ T, Ex S T → Q (.bl (judge d)) T) : Wp (F_is_poly [d] S) Q := by
  obtain ⟨a, ha⟩ := h.ty
  by_cases ht : ∃ ds, d = .tup ds
  · obtain ⟨ds, rfl⟩ := ht
    exact is_poly_ok (h.its ds rfl) hq
  · have hne : a ≠ .tuple := fun z => by
      subst z
      cases d with
      | tup ds => exact ht ⟨ds, rfl⟩
      | ref n =>
        unfold tyD at ha
        simp only at ha
        split at ha <;> cases ha
      | _ => cases ha
    rw [is_poly_other ha hne]
    have e : judge d = false := by
      cases d with
      | tup ds => exact absurd ⟨ds, rfl⟩ ht
      | _ => rfl
    have := hq S Ex.refl
    rw [e] at this
    exact this
theorem Jd.up {S T : Sto} {d : D} (h : Jd S d) (e : Ex S T) : Jd T d :=
  ⟨let ⟨a, q⟩ := h.ty; ⟨a, ty_ex q e⟩, fun ds hd x hx => (h.its ds hd x hx).up e⟩
theorem jd_tup {S : Sto} {ds : List D} (h : ∀ e ∈ ds, Td S e) : Jd S (.tup ds) := ⟨⟨_, rfl⟩, fun es he => by cases he; exact h⟩
theorem jd_of {S : Sto} {d : D} {a : Ty} (h : tyD d S = some a) (hn : ∀ ds, d ≠ .tup ds) : Jd S d := ⟨⟨a, h⟩, fun ds hd => absurd hd (hn ds)⟩
theorem sl0 : (0 ≤ sizeLine) = True := eq_true (by decide)
theorem sl1 : (1 ≤ sizeLine) = True := eq_true (by decide)
theorem sl2 : (2 ≤ sizeLine) = True := eq_true (by decide)
theorem sl3 : (3 ≤ sizeLine) = True := eq_true (by decide)
theorem sl4 : (4 ≤ sizeLine) = True := eq_true (by decide)
theorem sl6 : (6 ≤ sizeLine) = True := eq_true (by decide)
theorem sl10 : (10 ≤ sizeLine) = True := eq_true (by decide)
theorem sl14 : (14 ≤ sizeLine) = True := eq_true (by decide)
/-- the lists of things to be judged -/
def jl1 (ds ps : List D) (n1 n2 : Nat) : List D := [.tup ds, .tup ps, .tup [], .tup (ds ++ [.int 0]), .tup (ds ++ [.tup [.int 0, .int 1]]), .ref n1, .non, .int 3, .str "x", .ref n2, .tup [.int 0], .tup [.bl true], .tup [.tup [.int 2, .int 4]], .tup [.tup [.int 1, .int 0]]]
def swp (ds : List D) (p : Nat) (x : D) : List D := ds.take p ++ [x] ++ ds.drop (p + 1)
def jl2 (ds : List D) (p n3 : Nat) : List D := [.tup (swp ds p .non), .tup (swp ds p (.str "1")), .tup (List.replicate 41 (.int 1)), .tup (List.replicate 42 (.int 1)), .tup [.tup [.int 1, .int 2, .int 3]], .tup [.ref n3]]
def jl3 (ds : List D) (p : Nat) : List D := [.tup (swp ds p (.tup [.int 1, .int (-2)])), .tup [.int (10 ^ 60)], .tup [.int (10 ^ 60 - 1)], .tup [.tup [.int (10 ^ 60), .int 1]]]
def due1 : List Bool := [true, true, true, false, false, false, false, false, false, false, false, false, false, false]
def due2 : List Bool := [false, false, true, false, false, false, false, false, true, true]
theorem take_e {ds : List D} {p : Nat} (h : p ≤ ds.length) {S : Sto} : sliceD (.tup ds) none (some (p : Int)) S = .ok (.tup (ds.take p)) S := by
  unfold sliceD cutD
  simp only [HT.sIx_none, HT.sIx_nat, Nat.min_eq_left h, List.drop_zero, Nat.sub_zero]
theorem drop_e {ds : List D} {p : Nat} (h : p + 1 ≤ ds.length) {S : Sto} : sliceD (.tup ds) (some ((p : Int) + 1)) none S = .ok (.tup (ds.drop (p + 1))) S := by
  unfold sliceD cutD
  rw [show (p : Int) + 1 = ((p + 1 : Nat) : Int) by omega]
  simp only [HT.sIx_none, HT.sIx_nat, Nat.min_eq_left h]
  rw [List.take_of_length_le (by rw [List.length_drop]; omega)]
theorem swp_e {ds : List D} {p : Nat} {x : D} {S : Sto} (h : p + 1 ≤ ds.length) (hl : ds.length ≤ 1000) : dAdd (.tup (ds.take p ++ [x])) (.tup (ds.drop (p + 1))) S = .ok (.tup (swp ds p x)) S := by
  rw [dAdd_tup, if_pos (by unfold sizeLine; simp; omega)]
  rfl
theorem swp_e1 {ds : List D} {p : Nat} {x : D} {S : Sto} (hl : ds.length ≤ 1000) : dAdd (.tup (ds.take p)) (.tup [x]) S = .ok (.tup (ds.take p ++ [x])) S := by
  rw [dAdd_tup, if_pos (by unfold sizeLine; simp; omega)]
theorem app_e1 {ds : List D} {x : D} {S : Sto} (hl : ds.length ≤ 1000) : dAdd (.tup ds) (.tup [x]) S = .ok (.tup (ds ++ [x])) S := by
  rw [dAdd_tup, if_pos (by unfold sizeLine; simp; omega)]
theorem rep_e {k : Nat} {S : Sto} (hk : 2 ≤ k) (hk2 : k ≤ 1000) : dMul (.tup [.int 1]) (.int (k : Int)) S = .ok (.tup (List.replicate k (.int 1))) S := by
  unfold dMul
  simp only
  rw [if_pos ⟨by simp, by omega, by omega, by simp⟩, Int.toNat_natCast, rep_flat]
theorem st3 {nd p c : Nat} {zs : List Num} {S : Sto} {A B C : Option D} {Q : Fl → Sto → Prop} (hl : zs.length ≤ 100)
    (hq : ∀ T n n1 n2, Ex S T → T[n]? = some (.lst (jl1 (zs.map Num.d) ((zs.map Num.q).map fr) n1 n2)) → T[n1]? = some (.lst (zs.map Num.d)) → T[n2]? = some (.dk []) → Q (.nx [A, some (.tup (zs.map Num.d)), B, some (.ref n), none, none]) T) :
    WpS (sSet 3 (mkLst (aCons (dVar 1) (aCons (dCall F__law_py_pairs 1 (aCons (dVar 1) aNil)) (aCons (mkTup aNil) (aCons (d2 dAdd (dVar 1) (mkTup (aCons (dC (.int 0)) aNil))) (aCons (d2 dAdd (dVar 1) (mkTup (aCons (mkTup (aCons (dC (.int 0)) (aCons (dC (.int 1)) aNil))) aNil))) (aCons (dN nList (aCons (dVar 1) aNil)) (aCons (dC .non) (aCons (dC (.int 3)) (aCons (dC (.str "x")) (aCons dEmpty (aCons (mkTup (aCons (dC (.int 0)) aNil)) (aCons (mkTup (aCons (dC (.bl true)) aNil)) (aCons (mkTup (aCons (mkTup (aCons (dC (.int 2)) (aCons (dC (.int 4)) aNil))) aNil)) (aCons (mkTup (aCons (mkTup (aCons (dC (.int 1)) (aCons (dC (.int 0)) aNil))) aNil)) aNil))))))))))))))) [A, some (.tup (zs.map Num.d)), B, C, none, none] S) Q := by
  rw [wps_set, wp_lst]
  simp only [entry, wp_call, wp_cons, wp_nil, wp_var, wp_c, wp_ok, List.map_cons, List.map_nil, List.cons_append, List.nil_append, List.getElem?_cons_zero, List.getElem?_cons_succ, List.length_cons, List.length_nil, if_true]
  refine py_pairs_ok (by omega) fun T hT => ?_
  have hd : (zs.map Num.d).length ≤ 1000 := by rw [List.length_map]; omega
  generalize hds : zs.map Num.d = ds at *
  generalize hps : (zs.map Num.q).map fr = ps at *
  simp only [entry, wp_call, wp_cons, wp_nil, wp_var, wp_c, wp_ok, List.map_cons, List.map_nil, List.cons_append, List.nil_append, List.getElem?_cons_zero, List.getElem?_cons_succ, List.length_cons, List.length_nil, if_true, wp_tup, wp_d2, wp_dN, sl0, sl1, sl2, sl14, app_e1 hd, nList_tup, wp_empty, List.set_cons_succ, List.set_cons_zero]
  refine hq _ _ _ _ (((hT.app _).app _).app _) get_new (get_app (get_app get_new)) (get_app get_new)
theorem st4 {nd p n : Nat} {ds l : List D} {S : Sto} {A D2 D3 : Option D} {Q : Fl → Sto → Prop} (hS : S[n]? = some (.lst l)) (hl : ds.length ≤ 100) (hl2 : l.length ≤ 100) (hp : p < ds.length)
    (hq : ∀ T n' n3, Ex S T → T[n']? = some (.lst (l ++ jl2 ds p n3)) → T[n3]? = some (.lst [.int 1, .int 2]) → Q (.nx [A, some (.tup ds), some (.int (p : Int)), some (.ref n'), D2, D3]) T) :
    WpS (sSet 3 (d2 dAdd (dVar 3) (mkLst (aCons (d2 dAdd (d2 dAdd (dSlice (dVar 1) oNone (oSome (dVar 2))) (mkTup (aCons (dC .non) aNil))) (dSlice (dVar 1) (oSome (d2 dAdd (dVar 2) (dC (.int 1)))) oNone)) (aCons (d2 dAdd (d2 dAdd (dSlice (dVar 1) oNone (oSome (dVar 2))) (mkTup (aCons (dC (.str "1")) aNil))) (dSlice (dVar 1) (oSome (d2 dAdd (dVar 2) (dC (.int 1)))) oNone)) (aCons (d2 dMul (mkTup (aCons (dC (.int 1)) aNil)) (dC (.int 41))) (aCons (d2 dMul (mkTup (aCons (dC (.int 1)) aNil)) (dC (.int 42))) (aCons (mkTup (aCons (mkTup (aCons (dC (.int 1)) (aCons (dC (.int 2)) (aCons (dC (.int 3)) aNil)))) aNil)) (aCons (mkTup (aCons (mkLst (aCons (dC (.int 1)) (aCons (dC (.int 2)) aNil))) aNil)) aNil)))))))) [A, some (.tup ds), some (.int (p : Int)), some (.ref n), D2, D3] S) Q := by
  have r41 : ∀ T, dMul (.tup [.int 1]) (.int 41) T = .ok (.tup (List.replicate 41 (.int 1))) T := fun T => rep_e (k := 41) (by decide) (by decide)
  have r42 : ∀ T, dMul (.tup [.int 1]) (.int 42) T = .ok (.tup (List.replicate 42 (.int 1))) T := fun T => rep_e (k := 42) (by decide) (by decide)
  rw [wps_set]
  simp only [entry, wp_call, wp_cons, wp_nil, wp_var, wp_c, wp_ok, List.map_cons, List.map_nil, List.cons_append, List.nil_append, List.getElem?_cons_zero, List.getElem?_cons_succ, List.length_cons, List.length_nil, if_true, wp_tup, wp_lst, wp_d2, wp_sl, wp_oN, wp_oS, dAdd_int, take_e (Nat.le_of_lt hp), drop_e hp, swp_e1 (show ds.length ≤ 1000 by omega), swp_e hp (show ds.length ≤ 1000 by omega), r41, r42, sl0, sl1, sl2, sl3, sl6, List.set_cons_succ, List.set_cons_zero]
  have g1 : (S ++ [SO.lst [D.int 1, D.int 2]] ++ [SO.lst (jl2 ds p S.length)])[n]? = some (.lst l) := get_app (get_app hS)
  have g2 : (S ++ [SO.lst [D.int 1, D.int 2]] ++ [SO.lst (jl2 ds p S.length)])[(S ++ [SO.lst [D.int 1, D.int 2]]).length]? = some (.lst (jl2 ds p S.length)) := get_new
  have a1 := dAdd_ref g1 g2
  rw [if_pos (by unfold sizeLine jl2; simp; omega)] at a1
  unfold jl2 at a1
  rw [a1]
  exact hq _ _ S.length (((Ex.refl.app _).app _).app _) get_new (get_app (get_app get_new))
theorem st5 {p n : Nat} {ds l : List D} {S : Sto} {A D2 D3 : Option D} {Q : Fl → Sto → Prop} (hS : S[n]? = some (.lst l)) (hl : ds.length ≤ 100) (hl2 : l.length ≤ 100) (hp : p < ds.length)
    (hq : ∀ T n', Ex S T → T[n']? = some (.lst (l ++ jl3 ds p)) → Q (.nx [A, some (.tup ds), some (.int (p : Int)), some (.ref n'), D2, D3]) T) :
    WpS (sSet 3 (d2 dAdd (dVar 3) (mkLst (aCons (d2 dAdd (d2 dAdd (dSlice (dVar 1) oNone (oSome (dVar 2))) (mkTup (aCons (mkTup (aCons (dC (.int 1)) (aCons (dNeg (dC (.int 2))) aNil))) aNil))) (dSlice (dVar 1) (oSome (d2 dAdd (dVar 2) (dC (.int 1)))) oNone)) (aCons (mkTup (aCons (d2 dPow (dC (.int 10)) (dC (.int 60))) aNil)) (aCons (mkTup (aCons (d2 dSub (d2 dPow (dC (.int 10)) (dC (.int 60))) (dC (.int 1))) aNil)) (aCons (mkTup (aCons (mkTup (aCons (d2 dPow (dC (.int 10)) (dC (.int 60))) (aCons (dC (.int 1)) aNil))) aNil)) aNil)))))) [A, some (.tup ds), some (.int (p : Int)), some (.ref n), D2, D3] S) Q := by
  have pw : ∀ T, dPow (.int 10) (.int 60) T = .ok (.int (10 ^ 60)) T := fun T => by rw [dPow_int, if_pos (by decide)]; rfl
  rw [wps_set]
  simp only [entry, wp_call, wp_cons, wp_nil, wp_var, wp_c, wp_ok, List.map_cons, List.map_nil, List.cons_append, List.nil_append, List.getElem?_cons_zero, List.getElem?_cons_succ, List.length_cons, List.length_nil, if_true, wp_tup, wp_lst, wp_d2, wp_neg, wp_sl, wp_oN, wp_oS, dAdd_int, dSub_int, pw, take_e (Nat.le_of_lt hp), drop_e hp, swp_e1 (show ds.length ≤ 1000 by omega), swp_e hp (show ds.length ≤ 1000 by omega), sl0, sl1, sl2, sl4, List.set_cons_succ, List.set_cons_zero]
  have g1 : (S ++ [SO.lst (jl3 ds p)])[n]? = some (.lst l) := get_app hS
  have g2 : (S ++ [SO.lst (jl3 ds p)])[S.length]? = some (.lst (jl3 ds p)) := get_new
  have a1 := dAdd_ref g1 g2
  rw [if_pos (by unfold sizeLine jl3; simp; omega)] at a1
  unfold jl3 at a1
  rw [a1]
  exact hq _ _ ((Ex.refl.app _).app _) get_new
end K08
set_option Elab.async false
set_option linter.all false
set_option maxRecDepth 100000
set_option maxHeartbeats 4000000
namespace K08
open PySem MP
theorem st6 {S : Sto} {A B C D1 D3 : Option D} {Q : Fl → Sto → Prop} (hq : ∀ T n, Ex S T → T[n]? = some (.lst (due1.map D.bl)) → Q (.nx [A, B, C, D1, some (.ref n), D3]) T) :
    ∀ D2, WpS (sSet 4 (mkLst (aCons (dC (.bl true)) (aCons (dC (.bl true)) (aCons (dC (.bl true)) (aCons (dC (.bl false)) (aCons (dC (.bl false)) (aCons (dC (.bl false)) (aCons (dC (.bl false)) (aCons (dC (.bl false)) (aCons (dC (.bl false)) (aCons (dC (.bl false)) (aCons (dC (.bl false)) (aCons (dC (.bl false)) (aCons (dC (.bl false)) (aCons (dC (.bl false)) aNil))))))))))))))) [A, B, C, D1, D2, D3] S) Q := fun D2 => by
  rw [wps_set]
  simp only [entry, wp_call, wp_cons, wp_nil, wp_var, wp_c, wp_ok, List.map_cons, List.map_nil, List.cons_append, List.nil_append, List.getElem?_cons_zero, List.getElem?_cons_succ, List.length_cons, List.length_nil, if_true, wp_lst, sl14, List.set_cons_succ, List.set_cons_zero]
  exact hq _ _ (Ex.refl.app _) get_new
theorem st7 {S : Sto} {n : Nat} {A B C D1 D3 : Option D} {Q : Fl → Sto → Prop} (hS : S[n]? = some (.lst (due1.map D.bl))) (hq : ∀ T n', Ex S T → T[n']? = some (.lst ((due1 ++ due2).map D.bl)) → Q (.nx [A, B, C, D1, some (.ref n'), D3]) T) :
    WpS (sSet 4 (d2 dAdd (dVar 4) (mkLst (aCons (dC (.bl false)) (aCons (dC (.bl false)) (aCons (dC (.bl true)) (aCons (dC (.bl false)) (aCons (dC (.bl false)) (aCons (dC (.bl false)) (aCons (dC (.bl false)) (aCons (dC (.bl false)) (aCons (dC (.bl true)) (aCons (dC (.bl true)) aNil)))))))))))) [A, B, C, D1, some (.ref n), D3] S) Q := by
  rw [wps_set]
  simp only [entry, wp_call, wp_cons, wp_nil, wp_var, wp_c, wp_ok, List.map_cons, List.map_nil, List.cons_append, List.nil_append, List.getElem?_cons_zero, List.getElem?_cons_succ, List.length_cons, List.length_nil, if_true, wp_d2, wp_lst, sl10, List.set_cons_succ, List.set_cons_zero]
  have g1 : (S ++ [SO.lst (due2.map D.bl)])[n]? = some (.lst (due1.map D.bl)) := get_app hS
  have g2 : (S ++ [SO.lst (due2.map D.bl)])[S.length]? = some (.lst (due2.map D.bl)) := get_new
  have a1 := dAdd_ref g1 g2
  rw [if_pos (by decide), ← List.map_append] at a1
  have a2 : dAdd (.ref n) (.ref S.length) (S ++ [SO.lst [.bl false, .bl false, .bl true, .bl false, .bl false, .bl false, .bl false, .bl false, .bl true, .bl true]]) = _ := a1
  rw [a2]
  exact hq _ _ ((Ex.refl.app _).app _) get_new
theorem td_map {S : Sto} {zs : List Num} : ∀ e ∈ zs.map Num.d, Td S e := fun e he => by
  obtain ⟨x, _, rfl⟩ := List.mem_map.mp he
  exact Td.num x
theorem td_swp {S : Sto} {zs : List Num} {p : Nat} {x : D} (hx : Td S x) : Jd S (.tup (swp (zs.map Num.d) p x)) := jd_tup fun e he => by
  rcases List.mem_append.mp he with he | he
  · rcases List.mem_append.mp he with he | he
    · exact td_map e (List.mem_of_mem_take he)
    · rw [List.mem_singleton.mp he]; exact hx
  · exact td_map e (List.mem_of_mem_drop he)
theorem td_pair {S : Sto} {i j : Int} : Td S (.tup [.int i, .int j]) := td_ints (l := [i, j])
theorem jd_all {S : Sto} {zs : List Num} {p n1 n2 n3 : Nat} {l1 l3 : List D} {k2 : List (L2.Key × D)} (h1 : S[n1]? = some (.lst l1)) (h2 : S[n2]? = some (.dk k2)) (h3 : S[n3]? = some (.lst l3)) :
    ∀ d ∈ jl1 (zs.map Num.d) ((zs.map Num.q).map fr) n1 n2 ++ jl2 (zs.map Num.d) p n3 ++ jl3 (zs.map Num.d) p, Jd S d := by
  intro d hd
  have one : ∀ {x : D}, Td S x → Jd S (.tup [x]) := fun h => jd_tup fun e he => by rw [List.mem_singleton.mp he]; exact h
  have app : ∀ {x : D}, Td S x → Jd S (.tup (zs.map Num.d ++ [x])) := fun h => jd_tup fun e he => by
    rcases List.mem_append.mp he with he | he
    · exact td_map e he
    · rw [List.mem_singleton.mp he]; exact h
  have rep : ∀ k : Nat, Jd S (.tup (List.replicate k (.int 1))) := fun k => jd_tup fun e he => by rw [(List.mem_replicate.mp he).2]; exact td_int
  have ps : Jd S (.tup ((zs.map Num.q).map fr)) := jd_tup fun e he => by
    obtain ⟨q, _, rfl⟩ := List.mem_map.mp he
    exact td_pair
  simp only [jl1, jl2, jl3, List.mem_append, List.mem_cons, List.not_mem_nil, or_false, or_assoc] at hd
  rcases hd with rfl | rfl | rfl | rfl | rfl | rfl | rfl | rfl | rfl | rfl | rfl | rfl | rfl | rfl | rfl | rfl | rfl | rfl | rfl | rfl | rfl | rfl | rfl | rfl
  · exact jd_tup td_map
  · exact ps
  · exact jd_tup fun e he => by cases he
  · exact app td_int
  · exact app td_pair
  · exact jd_of (ty_ref h1) fun ds h => by cases h
  · exact jd_of rfl fun ds h => by cases h
  · exact jd_of rfl fun ds h => by cases h
  · exact jd_of rfl fun ds h => by cases h
  · exact jd_of (ty_dk h2) fun ds h => by cases h
  · exact one td_int
  · exact one td_bl
  · exact one td_pair
  · exact one td_pair
  · exact td_swp td_non
  · exact td_swp td_str
  · exact rep 41
  · exact rep 42
  · exact one (td_ints (l := [1, 2, 3]))
  · exact one (td_lst h3)
  · exact td_swp td_pair
  · exact one td_int
  · exact one td_int
  · exact one td_pair
theorem bad_swp {ds : List D} {p : Nat} {x : D} (h : numberB x = false) : polyB (swp ds p x) = false := polyB_bad (x := x) (List.mem_append_left _ (List.mem_append_right _ List.mem_cons_self)) h
theorem judge_all {zs : List Num} {p n1 n2 n3 m : Nat} (h : Pol m zs) (hm : m ≤ 41) : (jl1 (zs.map Num.d) ((zs.map Num.q).map fr) n1 n2 ++ jl2 (zs.map Num.d) p n3 ++ jl3 (zs.map Num.d) p).map judge = due1 ++ due2 := by
  have b1 : polyB (zs.map Num.d) = true := polyB_pol h hm
  have b2 : polyB ((zs.map Num.q).map fr) = true := by
    have hl : trim (zs.map Num.q) = zs.map Num.q := trim_last fun x hx => by
      rw [List.getLast?_map] at hx
      cases hz : zs.getLast? with
      | none => rw [hz] at hx; cases hx
      | some y =>
        rw [hz] at hx
        cases hx
        exact h.last y hz
    have := poly_trim (l := zs.map Num.q) (by have := h.len; simp; omega)
    rw [hl, fs_d] at this
    exact this
  have b4 : polyB (zs.map Num.d ++ [.int 0]) = false := polyB_end rfl
  have b5 : polyB (zs.map Num.d ++ [.tup [.int 0, .int 1]]) = false := polyB_end rfl
  have s1 : polyB (swp (zs.map Num.d) p .non) = false := bad_swp rfl
  have s2 : polyB (swp (zs.map Num.d) p (.str "1")) = false := bad_swp rfl
  have s3 : polyB (swp (zs.map Num.d) p (.tup [.int 1, .int (-2)])) = false := bad_swp (by decide +kernel)
  have c1 : polyB [] = true := by decide +kernel
  have c2 : polyB [.int 0] = false := by decide +kernel
  have c3 : polyB [.bl true] = false := by decide +kernel
  have c4 : polyB [.tup [.int 2, .int 4]] = false := by decide +kernel
  have c5 : polyB [.tup [.int 1, .int 0]] = false := by decide +kernel
  have c6 : polyB (List.replicate 41 (.int 1)) = true := by decide +kernel
  have c7 : polyB (List.replicate 42 (.int 1)) = false := by decide +kernel
  have c8 : polyB [.tup [.int 1, .int 2, .int 3]] = false := by decide +kernel
  have c9 : ∀ n, polyB [.ref n] = false := fun n => polyB_bad List.mem_cons_self rfl
  have c10 : polyB [.int (10 ^ 60)] = false := by decide +kernel
  have c11 : polyB [.int (10 ^ 60 - 1)] = true := by decide +kernel
  have c12 : polyB [.tup [.int (10 ^ 60), .int 1]] = true := by decide +kernel
  simp only [jl1, jl2, jl3, due1, due2, List.map_cons, List.map_nil, List.cons_append, List.nil_append, judge, b1, b2, b4, b5, s1, s2, s3, c1, c2, c3, c4, c5, c6, c7, c8, c9, c10, c11, c12]
theorem judged_ok {nd c : Nat} {S : Sto} {Q : D → Sto → Prop} (h : Dice S nd c) (hc : c + 1000 ≤ 1000000) (hq : ∀ T, Dice T nd (c + 200) → Ed nd S T → Q (.bl true) T) : Wp (F__law_judged_right [.ref nd] S) Q := by
  unfold F__law_judged_right b__law_judged_right
  rw [wp_run, wps_seq, wps_set]
  simp only [entry, wp_call, wp_cons, wp_nil, wp_var, wp_c, wp_ok, List.map_cons, List.map_nil, List.cons_append, List.nil_append, List.getElem?_cons_zero, List.getElem?_cons_succ, List.length_cons, List.length_nil, if_true, wp_d2]
  refine py_drawn_ok (m := 6) h (by decide) (by omega) fun xs T1 px d1 e1 => ?_
  have lx : xs.length ≤ 7 := px.len
  have pz : Pol 8 (xs ++ [Num.i 1]) := ⟨fun x hx => by
      rcases List.mem_append.mp hx with hx | hx
      · exact px.ok x hx
      · rw [List.mem_singleton.mp hx]
        exact ⟨Sz.int (by decide), fun n e => by cases e; decide⟩, by simp; omega, fun x hx => by
      simp at hx
      rw [← hx]
      decide⟩
  have ez : xs.map Num.d ++ [D.int 1] = (xs ++ [Num.i 1]).map Num.d := by rw [List.map_append]; rfl
  have lz0 : (xs ++ [Num.i 1]).length = xs.length + 1 := by simp
  generalize hz : xs ++ [Num.i 1] = zs at *
  have lz : zs.length ≤ 8 := pz.len
  simp only [entry, wp_call, wp_cons, wp_nil, wp_var, wp_c, wp_ok, List.map_cons, List.map_nil, List.cons_append, List.nil_append, List.getElem?_cons_zero, List.getElem?_cons_succ, List.length_cons, List.length_nil, if_true, wp_tup, sl1]
  rw [app_e1 (by rw [List.length_map]; omega), ez]
  simp only [entry, wp_call, wp_cons, wp_nil, wp_var, wp_c, wp_ok, List.map_cons, List.map_nil, List.cons_append, List.nil_append, List.getElem?_cons_zero, List.getElem?_cons_succ, List.length_cons, List.length_nil, if_true, List.replicate, Nat.reduceAdd, Nat.reduceSub, List.set_cons_succ, List.set_cons_zero]
  rw [sq_nx, wps_seq, wps_set]
  simp only [entry, wp_call, wp_cons, wp_nil, wp_var, wp_c, wp_ok, List.map_cons, List.map_nil, List.cons_append, List.nil_append, List.getElem?_cons_zero, List.getElem?_cons_succ, List.length_cons, List.length_nil, if_true, wp_dN, nLen_tup, List.length_map]
  refine roll_ok d1 (by omega) (Nat.lt_of_lt_of_le (show ((zs.length : Nat) : Int).natAbs < 2 ^ 20 by omega) (by decide)) (by omega) fun r T2 r0 r1 d2' e2 _ => ?_
  obtain ⟨p, rfl⟩ : ∃ p : Nat, r = (p : Int) := ⟨r.toNat, by omega⟩
  have hp : p < zs.length := by omega
  simp only [entry, wp_call, wp_cons, wp_nil, wp_var, wp_c, wp_ok, List.map_cons, List.map_nil, List.cons_append, List.nil_append, List.getElem?_cons_zero, List.getElem?_cons_succ, List.length_cons, List.length_nil, if_true, List.set_cons_succ, List.set_cons_zero]
  rw [sq_nx, wps_seq]
  refine st3 (nd := 0) (p := 0) (c := 0) (by omega) fun T3 n n1 n2 h3 g3 g31 g32 => ?_
  rw [sq_nx, wps_seq]
  refine st4 (nd := 0) g3 (by rw [List.length_map]; omega) (by show 14 ≤ 100; decide) (by rw [List.length_map]; exact hp) fun T4 n' n3 h4 g4 g43 => ?_
  rw [sq_nx, wps_seq]
  refine st5 g4 (by rw [List.length_map]; omega) (by show 20 ≤ 100; decide) (by rw [List.length_map]; exact hp) fun T5 n5 h5 g5 => ?_
  rw [sq_nx, wps_seq]
  refine st6 (fun T6 n6 h6 g6 => ?_) _
  rw [sq_nx, wps_seq]
  refine st7 g6 fun T7 n7 h7 g7 => ?_
  rw [sq_nx, wps_ret, wp_d2, wp_lc]
  have g5' := (h6.trans h7).get g5
  have k1 := (h4.trans (h5.trans (h6.trans h7))).get g31
  have k2 := (h4.trans (h5.trans (h6.trans h7))).get g32
  have k3 := (h5.trans (h6.trans h7)).get g43
  simp only [wp_iD, wp_var, List.getElem?_cons_zero, List.getElem?_cons_succ, srcD_ref g5', wp_ok, wipeR, List.set_cons_succ, List.set_cons_zero]
  have hj := judge_all (p := p) (n1 := n1) (n2 := n2) (n3 := n3) pz (by decide)
  have hJ := jd_all (zs := zs) (p := p) k1 k2 k3
  have hlen : (jl1 (zs.map Num.d) ((zs.map Num.q).map fr) n1 n2 ++ jl2 (zs.map Num.d) p n3 ++ jl3 (zs.map Num.d) p).length = 24 := rfl
  generalize jl1 (zs.map Num.d) ((zs.map Num.q).map fr) n1 n2 ++ jl2 (zs.map Num.d) p n3 ++ jl3 (zs.map Num.d) p = L at *
  refine lc_mapD (f := fun d => .bl (judge d)) (fun d hd T hT => ⟨_, rfl, ?_⟩) (fun T hT => guard_one (hT.get g5')) fun T hT => ?_
  · simp only [entry, wp_call, wp_cons, wp_nil, wp_var, wp_c, wp_ok, List.map_cons, List.map_nil, List.cons_append, List.nil_append, List.getElem?_cons_zero, List.getElem?_cons_succ, List.length_cons, List.length_nil, if_true]
    exact judge_ok ((hJ d hd).up hT) fun U hU => ⟨rfl, hU⟩
  · rw [if_pos (by rw [List.length_map, hlen]; decide)]
    have em : L.map (fun d => D.bl (judge d)) = (due1 ++ due2).map D.bl := by rw [← hj, List.map_map]; rfl
    rw [em]
    try simp only [wp_var, List.getElem?_cons_zero, List.getElem?_cons_succ]
    have e := dEqB_ens (α := Bool) (n := false) (due1 ++ due2) (due1 ++ due2) (S := T ++ [SO.lst ((due1 ++ due2).map D.bl)]) (i := T.length) (j := n7) get_new (get_app (hT.get g7)) (by decide)
    have e' : dEq (.ref T.length) (.ref n7) (T ++ [SO.lst ((due1 ++ due2).map D.bl)]) = .ok (.bl (decide (due1 ++ due2 = due1 ++ due2))) (T ++ [SO.lst ((due1 ++ due2).map D.bl)]) := e
    rw [e']
    have X : Ex T2 (T ++ [SO.lst ((due1 ++ due2).map D.bl)]) := (h3.trans (h4.trans (h5.trans (h6.trans (h7.trans hT))))).app _
    have last := hq _ (d2'.up X (by omega)) ((e1.trans e2).trans X.ed)
    simp only [wp_ok, decide_true, rn_ret]
    exact last
end K08
set_option Elab.async false
set_option linter.all false
set_option maxRecDepth 100000
set_option maxHeartbeats 4000000
namespace K08
open PySem MP
/-! ### the law -/
theorem sz_all {k : Nat} {l : List Rat} (h : (l.all fun q => decide (q.num.natAbs < 2 ^ (110 * k)) && decide (q.den < 2 ^ (4 * k))) = true) : ∀ x ∈ l, Sz k x := fun x hx => by
  have := List.all_eq_true.mp h x hx
  rw [Bool.and_eq_true, decide_eq_true_eq, decide_eq_true_eq] at this
  exact ⟨this.1, this.2⟩
def half : Rat := ⟨1, 2, by decide, by decide⟩
theorem law_true (ns : List Int) (hns : ns.length ≤ 63) : ∃ S, F_law [law_D ns] [] = .ok (.bl true) S := by
  have l1 : trim (sumL (([.i (-2), .i 1, .i 1] : List Num).map Num.q) (([.i 2, .i (-1)] : List Num).map Num.q)) = [0, 0, 1] := by decide +kernel
  have l2 : trim (prodL (([.i (-2), .i 1, .i 1] : List Num).map Num.q) (([.i 0, .f half] : List Num).map Num.q)) = [0, -1, half, half] := by decide +kernel
  have l3 : trim (derL (([.i (-2), .i 1, .i 1] : List Num).map Num.q)) = [1, 2] := by decide +kernel
  have l4 : trim (derL (([.i 5] : List Num).map Num.q)) = [] := by decide +kernel
  have l5 : trim (sumL (([] : List Num).map Num.q) (([] : List Num).map Num.q)) = [] := by decide +kernel
  have l6 : trim (prodL (([] : List Num).map Num.q) (([.i 1, .i 1] : List Num).map Num.q)) = [] := by decide +kernel
  have v1 : fr (valL (Num.f half).q (([.i (-2), .i 1, .i 1] : List Num).map Num.q)) = .tup [.int (-5), .int 4] := by
    have h1 : (valL (Num.f half).q (([.i (-2), .i 1, .i 1] : List Num).map Num.q)).num = -5 := by decide +kernel
    have h2 : (valL (Num.f half).q (([.i (-2), .i 1, .i 1] : List Num).map Num.q)).den = 4 := by decide +kernel
    unfold fr
    rw [h1, h2]
    rfl
  have v2 : fr (valL (Num.i 7).q (([] : List Num).map Num.q)) = .tup [.int 0, .int 1] := rfl
  have zA : ∀ x ∈ ([.i (-2), .i 1, .i 1] : List Num).map Num.q, Sz 1 x := sz_all (by decide +kernel)
  have zB : ∀ x ∈ ([.i 2, .i (-1)] : List Num).map Num.q, Sz 1 x := sz_all (by decide +kernel)
  have zC : ∀ x ∈ ([.i 0, .f half] : List Num).map Num.q, Sz 1 x := sz_all (by decide +kernel)
  have zD : ∀ x ∈ ([.i 5] : List Num).map Num.q, Sz 1 x := sz_all (by decide +kernel)
  have zE : ∀ x ∈ ([] : List Num).map Num.q, Sz 1 x := fun x hx => by cases hx
  have zF : ∀ x ∈ ([.i 1, .i 1] : List Num).map Num.q, Sz 1 x := sz_all (by decide +kernel)
  have pA : polyB (([.i (-2), .i 1, .i 1] : List Num).map Num.d) = true := by decide +kernel
  have pB : polyB (([.i 2, .i (-1)] : List Num).map Num.d) = true := by decide +kernel
  have pC : polyB (([.i 0, .f half] : List Num).map Num.d) = true := by decide +kernel
  have pD : polyB (([.i 5] : List Num).map Num.d) = true := by decide +kernel
  have pE : polyB (([] : List Num).map Num.d) = true := by decide +kernel
  have pF : polyB (([.i 1, .i 1] : List Num).map Num.d) = true := by decide +kernel
  have key : Wp (F_law [law_D ns] []) fun d _ => d = .bl true := by
    unfold F_law b_law
    rw [wp_run, wps_seq, wps_for]
    have hlen : ∀ T : Sto, nLen [law_D ns] T = .ok (.int (ns.length : Nat)) T := fun T => by
      unfold law_D
      rw [nLen_fl, List.length_map]
    simp only [entry, wp_call, wp_cons, wp_nil, wp_var, wp_c, wp_ok, List.map_cons, List.map_nil, List.cons_append, List.nil_append, List.getElem?_cons_zero, List.getElem?_cons_succ, List.length_cons, List.length_nil, if_true, wp_iR1, wp_dN, hlen, nMin_int, nMax_int, List.replicate, Nat.reduceAdd, Nat.reduceSub]
    generalize hk : (if (if (ns.length : Int) < 3 then (ns.length : Int) else 3) > 1 then (if (ns.length : Int) < 3 then (ns.length : Int) else 3) else 1) = k
    have hk1 : 0 ≤ k ∧ k ≤ 3 := by
      rw [← hk]
      split <;> split <;> omega
    rw [if_pos (by omega)]
    refine for_inv (fun ds ρ S => (∃ a b c, ρ = [some (law_D ns), a, b, c]) ∧ ∀ d ∈ ds, ∃ i : Nat, d = .int (i : Int) ∧ i ≤ 10) (fun d ds ρ S hI => ?_) (fun ρ S hI => ?_) (ds := rngD 0 k.toNat) ⟨⟨_, _, _, rfl⟩, fun d hd => ?_⟩
    · obtain ⟨⟨a, b, c, rfl⟩, hd⟩ := hI
      obtain ⟨i, rfl, hi⟩ := hd d List.mem_cons_self
      refine ⟨_, rfl, ?_⟩
      rw [wps_seq, wps_set]
      simp only [entry, wp_call, wp_cons, wp_nil, wp_var, wp_c, wp_ok, List.map_cons, List.map_nil, List.cons_append, List.nil_append, List.getElem?_cons_zero, List.getElem?_cons_succ, List.length_cons, List.length_nil, if_true, List.set_cons_succ, List.set_cons_zero]
      refine dice_ok (by omega) fun x y => ?_
      have hD : Dice (S ++ [SO.lst [.int x, .int y, .int 0]]) S.length 0 := ⟨x, y, 0, get_new, Nat.le_refl _⟩
      rw [sq_nx, wps_if]
      simp only [entry, wp_call, wp_cons, wp_nil, wp_var, wp_c, wp_ok, List.map_cons, List.map_nil, List.cons_append, List.nil_append, List.getElem?_cons_zero, List.getElem?_cons_succ, List.length_cons, List.length_nil, if_true, wp_fOr, wp_fNot, wp_fT]
      refine right_ok hD (by decide) fun T1 d1 e1 => ?_
      simp only [truD_bl, wp_ok, Bool.not_true, Bool.false_eq_true, if_false]
      refine right_ok d1 (by decide) fun T2 d2' e2 => ?_
      simp only [truD_bl, wp_ok, Bool.not_true, Bool.false_eq_true, if_false]
      refine right_ok d2' (by decide) fun T3 d3 e3 => ?_
      simp only [truD_bl, wp_ok, Bool.not_true, Bool.false_eq_true, if_false]
      refine judged_ok d3 (by decide) fun T4 d4 e4 => ?_
      simp only [truD_bl, wp_ok, Bool.not_true, Bool.false_eq_true, if_false, wps_nil]
      exact ⟨rfl, ⟨_, _, _, rfl⟩, fun e he => hd e (List.mem_cons_of_mem _ he)⟩
    · obtain ⟨⟨a, b, c, rfl⟩, _⟩ := hI
      rw [sq_nx]
      rw [wps_seq, wps_set, wp_lst]
      simp only [entry, wp_call, wp_cons, wp_nil, wp_var, wp_c, wp_ok, List.map_cons, List.map_nil, List.cons_append, List.nil_append, List.getElem?_cons_zero, List.getElem?_cons_succ, List.length_cons, List.length_nil, if_true, wp_tup, wp_neg, sl0, sl1, sl2, sl3]
      refine poly_sum_ok (xs := [.i (-2), .i 1, .i 1]) (ys := [.i 2, .i (-1)]) pA pB zA zB (by decide) (by decide) (by decide) (by decide) (by decide) fun T1 h1 => ?_
      rw [l1]
      refine poly_product_ok (xs := [.i (-2), .i 1, .i 1]) (ys := [.i 0, .f half]) pA pC zA zC (by decide) (by decide) (by decide) (by decide) fun T2 h2 => ?_
      rw [l2]
      refine derived_ok (xs := [.i (-2), .i 1, .i 1]) pA zA (by decide) (by decide) fun T3 h3 => ?_
      rw [l3]
      refine derived_ok (xs := [.i 5]) pD zD (by decide) (by decide) fun T4 h4 => ?_
      rw [l4]
      refine poly_sum_ok (xs := []) (ys := []) pE pE zE zE (by decide) (by decide) (by decide) (by decide) (by decide) fun T5 h5 => ?_
      rw [l5]
      have s5 : (5 ≤ sizeLine) = True := eq_true (by decide)
      simp only [entry, wp_call, wp_cons, wp_nil, wp_var, wp_c, wp_ok, List.map_cons, List.map_nil, List.cons_append, List.nil_append, List.getElem?_cons_zero, List.getElem?_cons_succ, List.length_cons, List.length_nil, if_true, s5, List.set_cons_succ, List.set_cons_zero]
      rw [sq_nx, wps_seq, wps_if, wp_fB, wp_d2]
      simp only [entry, wp_call, wp_cons, wp_nil, wp_var, wp_c, wp_ok, List.map_cons, List.map_nil, List.cons_append, List.nil_append, List.getElem?_cons_zero, List.getElem?_cons_succ, List.length_cons, List.length_nil, if_true, wp_tup, wp_lst, wp_neg, Nat.zero_add, Nat.reduceAdd, sl0, sl1, sl2, sl3, sl4, s5]
      have eN : ∀ U : Sto, U = T5 ++ [SO.lst [D.tup [fr 0, fr 0, fr 1], D.tup [fr 0, fr (-1), fr half, fr half], D.tup [fr 1, fr 2], D.tup [], D.tup []]] →
          dNe (.ref T5.length) (.ref U.length) (U ++ [SO.lst [D.tup [D.tup [.int 0, .int 1], D.tup [.int 0, .int 1], D.tup [.int 1, .int 1]], D.tup [D.tup [.int 0, .int 1], D.tup [.int (-1), .int 1], D.tup [.int 1, .int 2], D.tup [.int 1, .int 2]], D.tup [D.tup [.int 1, .int 1], D.tup [.int 2, .int 1]], D.tup [], D.tup []]]) =
            .ok (.bl false) (U ++ [SO.lst [D.tup [D.tup [.int 0, .int 1], D.tup [.int 0, .int 1], D.tup [.int 1, .int 1]], D.tup [D.tup [.int 0, .int 1], D.tup [.int (-1), .int 1], D.tup [.int 1, .int 2], D.tup [.int 1, .int 2]], D.tup [D.tup [.int 1, .int 1], D.tup [.int 2, .int 1]], D.tup [], D.tup []]]) := fun U hU => by
        have g1 : U[T5.length]? = some (.lst (([[0, 0, 1], [0, -1, half, half], [1, 2], [], []] : List (List Rat)).map En.d)) := by rw [hU]; exact get_new
        have g2 : (U ++ [SO.lst (([[0, 0, 1], [0, -1, half, half], [1, 2], [], []] : List (List Rat)).map En.d)])[U.length]? = some (.lst (([[0, 0, 1], [0, -1, half, half], [1, 2], [], []] : List (List Rat)).map En.d)) := get_new
        have := dEqB_ens (α := List Rat) (n := true) _ _ (get_app (R := [SO.lst (([[0, 0, 1], [0, -1, half, half], [1, 2], [], []] : List (List Rat)).map En.d)]) g1) g2 (by decide)
        simp only [decide_true, Bool.not_true, if_true] at this
        exact this
      rw [eN _ rfl]
      simp only [wp_ok, Bool.false_eq_true, if_false, wps_nil, sq_nx, wps_ret, wp_d2, wp_lst, rn_ret]
      simp only [entry, wp_call, wp_cons, wp_nil, wp_var, wp_c, wp_ok, List.map_cons, List.map_nil, List.cons_append, List.nil_append, List.getElem?_cons_zero, List.getElem?_cons_succ, List.length_cons, List.length_nil, if_true, wp_tup, wp_neg, Nat.zero_add, Nat.reduceAdd, sl0, sl1, sl2, sl3]
      refine poly_value_ok (xs := [.i (-2), .i 1, .i 1]) (x := .f half) (k := 1) (c := 1) pA (by decide +kernel) zA ⟨by decide +kernel, by decide +kernel⟩ (by decide) (by decide) fun T6 h6 => ?_
      rw [v1]
      refine poly_value_ok (xs := []) (x := .i 7) (k := 1) (c := 1) pE (by decide +kernel) zE ⟨by decide +kernel, by decide +kernel⟩ (by decide) (by decide) fun T7 h7 => ?_
      rw [v2]
      refine poly_product_ok (xs := []) (ys := [.i 1, .i 1]) pE pF zE zF (by decide) (by decide) (by decide) (by decide) fun T8 h8 => ?_
      rw [l6]
      simp only [entry, wp_call, wp_cons, wp_nil, wp_var, wp_c, wp_ok, List.map_cons, List.map_nil, List.cons_append, List.nil_append, List.getElem?_cons_zero, List.getElem?_cons_succ, List.length_cons, List.length_nil, if_true, wp_tup, wp_lst, wp_neg, Nat.zero_add, Nat.reduceAdd, sl0, sl1, sl2, sl3]
      have eE : ∀ U : Sto, U = T8 ++ [SO.lst [D.tup [.int (-5), .int 4], D.tup [.int 0, .int 1], D.tup []]] →
          dEq (.ref T8.length) (.ref U.length) (U ++ [SO.lst [D.tup [.int (-5), .int 4], D.tup [.int 0, .int 1], D.tup []]]) = .ok (.bl true) (U ++ [SO.lst [D.tup [.int (-5), .int 4], D.tup [.int 0, .int 1], D.tup []]]) := fun U hU => by
        have g1 : U[T8.length]? = some (.lst (([[-5, 4], [0, 1], []] : List (List Int)).map En.d)) := by rw [hU]; exact get_new
        have g2 : (U ++ [SO.lst (([[-5, 4], [0, 1], []] : List (List Int)).map En.d)])[U.length]? = some (.lst (([[-5, 4], [0, 1], []] : List (List Int)).map En.d)) := get_new
        have := dEqB_ens (α := List Int) (n := false) _ _ (get_app (R := [SO.lst (([[-5, 4], [0, 1], []] : List (List Int)).map En.d)]) g1) g2 (by decide)
        simp only [decide_true, Bool.false_eq_true, if_false] at this
        exact this
      have fin := eE _ rfl
      rw [fin]
      rfl
    · unfold rngD at hd
      obtain ⟨i, hi, rfl⟩ := List.mem_map.mp hd
      exact ⟨i, by simp, by have := List.mem_range.mp hi; omega⟩
  obtain ⟨d, T, e, rfl⟩ := key.out
  exact ⟨T, e⟩
end K08
set_option Elab.async false
set_option linter.all false
set_option maxRecDepth 100000
set_option maxHeartbeats 0
namespace K08
open PySem PySem.Spec PyProof.Rows L2 MP
def dd_is_whole : He.DefD := ⟨("is_whole", none), "is_whole", "is_whole", defArgs st_is_whole, defBody st_is_whole, defScope st_is_whole, [], []⟩
def dd_is_integer : He.DefD := ⟨("is_integer", none), "is_integer", "is_integer", defArgs st_is_integer, defBody st_is_integer, defScope st_is_integer, [], []⟩
def dd_is_fraction : He.DefD := ⟨("is_fraction", none), "is_fraction", "is_fraction", defArgs st_is_fraction, defBody st_is_fraction, defScope st_is_fraction, [], []⟩
def dd_is_number : He.DefD := ⟨("is_number", none), "is_number", "is_number", defArgs st_is_number, defBody st_is_number, defScope st_is_number, [], []⟩
def dd_require_number : He.DefD := ⟨("require_number", none), "require_number", "require_number", defArgs st_require_number, defBody st_require_number, defScope st_require_number, [], []⟩
def dd_fraction_in : He.DefD := ⟨("fraction_in", none), "fraction_in", "fraction_in", defArgs st_fraction_in, defBody st_fraction_in, defScope st_fraction_in, [], []⟩
def dd_pair_of : He.DefD := ⟨("pair_of", none), "pair_of", "pair_of", defArgs st_pair_of, defBody st_pair_of, defScope st_pair_of, [], []⟩
def dd_sum_in : He.DefD := ⟨("sum_in", none), "sum_in", "sum_in", defArgs st_sum_in, defBody st_sum_in, defScope st_sum_in, [], []⟩
def dd_product_in : He.DefD := ⟨("product_in", none), "product_in", "product_in", defArgs st_product_in, defBody st_product_in, defScope st_product_in, [], []⟩
def dd_is_poly : He.DefD := ⟨("is_poly", none), "is_poly", "is_poly", defArgs st_is_poly, defBody st_is_poly, defScope st_is_poly, [], []⟩
def dd_poly_told : He.DefD := ⟨("poly_told", none), "poly_told", "poly_told", defArgs st_poly_told, defBody st_poly_told, defScope st_poly_told, [], []⟩
def dd_both_polys : He.DefD := ⟨("both_polys", none), "both_polys", "both_polys", defArgs st_both_polys, defBody st_both_polys, defScope st_both_polys, [], []⟩
def dd_without_end : He.DefD := ⟨("without_end", none), "without_end", "without_end", defArgs st_without_end, defBody st_without_end, defScope st_without_end, [], []⟩
def dd_added_in : He.DefD := ⟨("added_in", none), "added_in", "added_in", defArgs st_added_in, defBody st_added_in, defScope st_added_in, [], []⟩
def dd_scaled_in : He.DefD := ⟨("scaled_in", none), "scaled_in", "scaled_in", defArgs st_scaled_in, defBody st_scaled_in, defScope st_scaled_in, [], []⟩
def dd_taken_in : He.DefD := ⟨("taken_in", none), "taken_in", "taken_in", defArgs st_taken_in, defBody st_taken_in, defScope st_taken_in, [], []⟩
def dd_times_in : He.DefD := ⟨("times_in", none), "times_in", "times_in", defArgs st_times_in, defBody st_times_in, defScope st_times_in, [], []⟩
def dd_value_in : He.DefD := ⟨("value_in", none), "value_in", "value_in", defArgs st_value_in, defBody st_value_in, defScope st_value_in, [], []⟩
def dd_derived_in : He.DefD := ⟨("derived_in", none), "derived_in", "derived_in", defArgs st_derived_in, defBody st_derived_in, defScope st_derived_in, [], []⟩
def dd_poly_sum : He.DefD := ⟨("poly_sum", none), "poly_sum", "poly_sum", defArgs st_poly_sum, defBody st_poly_sum, defScope st_poly_sum, [], []⟩
def dd_poly_less : He.DefD := ⟨("poly_less", none), "poly_less", "poly_less", defArgs st_poly_less, defBody st_poly_less, defScope st_poly_less, [], []⟩
def dd_poly_product : He.DefD := ⟨("poly_product", none), "poly_product", "poly_product", defArgs st_poly_product, defBody st_poly_product, defScope st_poly_product, [], []⟩
def dd_poly_value : He.DefD := ⟨("poly_value", none), "poly_value", "poly_value", defArgs st_poly_value, defBody st_poly_value, defScope st_poly_value, [], []⟩
def dd_derived : He.DefD := ⟨("derived", none), "derived", "derived", defArgs st_derived, defBody st_derived, defScope st_derived, [], []⟩
def dd__law_dice : He.DefD := ⟨("_law_dice", none), "_law_dice", "_law_dice", defArgs st__law_dice, defBody st__law_dice, defScope st__law_dice, [], []⟩
def dd__law_roll : He.DefD := ⟨("_law_roll", none), "_law_roll", "_law_roll", defArgs st__law_roll, defBody st__law_roll, defScope st__law_roll, [], []⟩
def dd__law_gcd : He.DefD := ⟨("_law_gcd", none), "_law_gcd", "_law_gcd", defArgs st__law_gcd, defBody st__law_gcd, defScope st__law_gcd, [], []⟩
def dd__law_fraction : He.DefD := ⟨("_law_fraction", none), "_law_fraction", "_law_fraction", defArgs st__law_fraction, defBody st__law_fraction, defScope st__law_fraction, [], []⟩
def dd__law_plus : He.DefD := ⟨("_law_plus", none), "_law_plus", "_law_plus", defArgs st__law_plus, defBody st__law_plus, defScope st__law_plus, [], []⟩
def dd__law_times : He.DefD := ⟨("_law_times", none), "_law_times", "_law_times", defArgs st__law_times, defBody st__law_times, defScope st__law_times, [], []⟩
def dd__law_less : He.DefD := ⟨("_law_less", none), "_law_less", "_law_less", defArgs st__law_less, defBody st__law_less, defScope st__law_less, [], []⟩
def dd__law_py_made : He.DefD := ⟨("_law_py_made", none), "_law_py_made", "_law_py_made", defArgs st__law_py_made, defBody st__law_py_made, defScope st__law_py_made, [], []⟩
def dd__law_py_pairs : He.DefD := ⟨("_law_py_pairs", none), "_law_py_pairs", "_law_py_pairs", defArgs st__law_py_pairs, defBody st__law_py_pairs, defScope st__law_py_pairs, [], []⟩
def dd__law_py_sum : He.DefD := ⟨("_law_py_sum", none), "_law_py_sum", "_law_py_sum", defArgs st__law_py_sum, defBody st__law_py_sum, defScope st__law_py_sum, [], []⟩
def dd__law_py_times : He.DefD := ⟨("_law_py_times", none), "_law_py_times", "_law_py_times", defArgs st__law_py_times, defBody st__law_py_times, defScope st__law_py_times, [], []⟩
def dd__law_py_back : He.DefD := ⟨("_law_py_back", none), "_law_py_back", "_law_py_back", defArgs st__law_py_back, defBody st__law_py_back, defScope st__law_py_back, [], []⟩
def dd__law_py_value : He.DefD := ⟨("_law_py_value", none), "_law_py_value", "_law_py_value", defArgs st__law_py_value, defBody st__law_py_value, defScope st__law_py_value, [], []⟩
def dd__law_py_number : He.DefD := ⟨("_law_py_number", none), "_law_py_number", "_law_py_number", defArgs st__law_py_number, defBody st__law_py_number, defScope st__law_py_number, [], []⟩
def dd__law_py_drawn : He.DefD := ⟨("_law_py_drawn", none), "_law_py_drawn", "_law_py_drawn", defArgs st__law_py_drawn, defBody st__law_py_drawn, defScope st__law_py_drawn, [], []⟩
def dd__law_derived : He.DefD := ⟨("_law_derived", none), "_law_derived", "_law_derived", defArgs st__law_derived, defBody st__law_derived, defScope st__law_derived, [], []⟩
def dd__law_right : He.DefD := ⟨("_law_right", none), "_law_right", "_law_right", defArgs st__law_right, defBody st__law_right, defScope st__law_right, [], []⟩
def dd__law_judged_right : He.DefD := ⟨("_law_judged_right", none), "_law_judged_right", "_law_judged_right", defArgs st__law_judged_right, defBody st__law_judged_right, defScope st__law_judged_right, [], []⟩
def dd_law : He.DefD := ⟨("law", none), "law", "law", defArgs st_law, defBody st_law, defScope st_law, [], []⟩
def fn : List He.DefD := [dd_is_whole, dd_is_integer, dd_is_fraction, dd_is_number, dd_require_number, dd_fraction_in, dd_pair_of, dd_sum_in, dd_product_in, dd_is_poly, dd_poly_told, dd_both_polys, dd_without_end, dd_added_in, dd_scaled_in, dd_taken_in, dd_times_in, dd_value_in, dd_derived_in, dd_poly_sum, dd_poly_less, dd_poly_product, dd_poly_value, dd_derived, dd__law_dice, dd__law_roll, dd__law_gcd, dd__law_fraction, dd__law_plus, dd__law_times, dd__law_less, dd__law_py_made, dd__law_py_pairs, dd__law_py_sum, dd__law_py_times, dd__law_py_back, dd__law_py_value, dd__law_py_number, dd__law_py_drawn, dd__law_derived, dd__law_right, dd__law_judged_right, dd_law]
def fa0 : List He.Fa := [.glo "is_whole", .glo "is_integer", .glo "is_fraction", .glo "is_number", .glo "require_number", .glo "fraction_in", .glo "pair_of", .glo "sum_in", .glo "product_in", .glo "is_poly", .glo "poly_told", .glo "both_polys", .glo "without_end", .glo "added_in", .glo "scaled_in", .glo "taken_in", .glo "times_in", .glo "value_in", .glo "derived_in", .glo "poly_sum", .glo "poly_less", .glo "poly_product", .glo "poly_value", .glo "derived", .glo "_law_dice", .glo "_law_roll", .glo "_law_gcd", .glo "_law_fraction", .glo "_law_plus", .glo "_law_times"]
def fa1 : List He.Fa := [.glo "_law_less", .glo "_law_py_made", .glo "_law_py_pairs", .glo "_law_py_sum", .glo "_law_py_times", .glo "_law_py_back", .glo "_law_py_value", .glo "_law_py_number", .glo "_law_py_drawn", .glo "_law_derived", .glo "_law_right", .glo "_law_judged_right", .glo "law", .free "abs", .free "all", .free "bool", .free "enumerate", .free "int", .free "isinstance", .free "len", .free "list", .free "max", .free "min", .free "range", .free "tuple", .free "zip"]
def fa : List He.Fa := fa0 ++ fa1
def exB (K : PySem.W.Frag) : Bool := [konB K "BOUND" c_BOUND, konB K "MAX_DEGREE" c_MAX_DEGREE, konB K "ZERO" c_ZERO, bltB K "gcd" "math.gcd"].all id
def loose0 : List Str := ["ThirdError", "InvalidPoly", "InvalidNumber", "TooMany", "BOUND", "is_whole", "is_integer", "is_fraction", "is_number", "require_number", "fraction_in", "pair_of", "sum_in", "product_in", "MAX_DEGREE", "ZERO", "is_poly", "poly_told", "both_polys", "without_end", "added_in", "scaled_in", "taken_in", "times_in", "value_in", "derived_in", "poly_sum", "poly_less", "poly_product", "poly_value"]
def loose1 : List Str := ["derived", "_law_dice", "_law_roll", "_law_gcd", "_law_fraction", "_law_plus", "_law_times", "_law_less", "_law_py_made", "_law_py_pairs", "_law_py_sum", "_law_py_times", "_law_py_back", "_law_py_value", "_law_py_number", "_law_py_drawn", "_law_derived", "_law_right", "_law_judged_right"]
def loose : List Str := loose0 ++ loose1
abbrev R : PySem.W.OpenRow := PySem.W.OpenLaw.row PySem.Challenge.rw_thirdcounts_k08_whole_sums_and_products
abbrev hk : PySem.W.Hook := He.hookX 4 fa fn [] [] exB
def ob (s : PySem.W.SharedT) : He.AlX := He.obsX 4 fa fn [] [] exB (HandSHeadRun.getT s)
theorem ob_eq (s : PySem.W.SharedT) : ob s = hk.obs s.abs := He.obsX_eq (HandSHeadRun.getT_eq s)
theorem run (w : World) : HandSHeadRun.RunEqI R (PySem.W.view R.prog [0, 54]) hk ob 4000 loose w := by
  unfold HandSHeadRun.RunEqI
  kernel_rfl
theorem mo_of {w : World} {K : PySem.W.Frag} {h : Heap} {mg : Str → Option Value} (KX : K.In h) (G : h.Ns mainGlobals mg) (c : He.SaysX fa fn [] [] exB w h K) : Mo mg ⟨K, fun _ => 0, fun _ => 0⟩ := by
  have cd := c.t.d
  have ex := List.all_eq_true.mp c.more
  refine {
    f_abs := He.free_ok KX G (cd.fact 43 rfl)
    f_all := He.free_ok KX G (cd.fact 44 rfl)
    f_bool := He.free_ok KX G (cd.fact 45 rfl)
    f_enumerate := He.free_ok KX G (cd.fact 46 rfl)
    f_int := He.free_ok KX G (cd.fact 47 rfl)
    f_isinstance := He.free_ok KX G (cd.fact 48 rfl)
    f_len := He.free_ok KX G (cd.fact 49 rfl)
    f_list := He.free_ok KX G (cd.fact 50 rfl)
    f_max := He.free_ok KX G (cd.fact 51 rfl)
    f_min := He.free_ok KX G (cd.fact 52 rfl)
    f_range := He.free_ok KX G (cd.fact 53 rfl)
    f_tuple := He.free_ok KX G (cd.fact 54 rfl)
    f_zip := He.free_ok KX G (cd.fact 55 rfl)
    g_BOUND := konB_ok KX G (ex _ (by repeat (first | exact List.mem_cons_self | apply List.mem_cons_of_mem)))
    g_MAX_DEGREE := konB_ok KX G (ex _ (by repeat (first | exact List.mem_cons_self | apply List.mem_cons_of_mem)))
    g_ZERO := konB_ok KX G (ex _ (by repeat (first | exact List.mem_cons_self | apply List.mem_cons_of_mem)))
    g_gcd := bltB_ok KX G (ex _ (by repeat (first | exact List.mem_cons_self | apply List.mem_cons_of_mem)))
    d_is_whole := (cd.def_ 0 (d := dd_is_whole) rfl).elim fun fd F => ⟨_, fd, F, He.glo_ok KX G (cd.fact 0 rfl)⟩
    d_is_integer := (cd.def_ 1 (d := dd_is_integer) rfl).elim fun fd F => ⟨_, fd, F, He.glo_ok KX G (cd.fact 1 rfl)⟩
    d_is_fraction := (cd.def_ 2 (d := dd_is_fraction) rfl).elim fun fd F => ⟨_, fd, F, He.glo_ok KX G (cd.fact 2 rfl)⟩
    d_is_number := (cd.def_ 3 (d := dd_is_number) rfl).elim fun fd F => ⟨_, fd, F, He.glo_ok KX G (cd.fact 3 rfl)⟩
    d_require_number := (cd.def_ 4 (d := dd_require_number) rfl).elim fun fd F => ⟨_, fd, F, He.glo_ok KX G (cd.fact 4 rfl)⟩
    d_fraction_in := (cd.def_ 5 (d := dd_fraction_in) rfl).elim fun fd F => ⟨_, fd, F, He.glo_ok KX G (cd.fact 5 rfl)⟩
    d_pair_of := (cd.def_ 6 (d := dd_pair_of) rfl).elim fun fd F => ⟨_, fd, F, He.glo_ok KX G (cd.fact 6 rfl)⟩
    d_sum_in := (cd.def_ 7 (d := dd_sum_in) rfl).elim fun fd F => ⟨_, fd, F, He.glo_ok KX G (cd.fact 7 rfl)⟩
    d_product_in := (cd.def_ 8 (d := dd_product_in) rfl).elim fun fd F => ⟨_, fd, F, He.glo_ok KX G (cd.fact 8 rfl)⟩
    d_is_poly := (cd.def_ 9 (d := dd_is_poly) rfl).elim fun fd F => ⟨_, fd, F, He.glo_ok KX G (cd.fact 9 rfl)⟩
    d_poly_told := (cd.def_ 10 (d := dd_poly_told) rfl).elim fun fd F => ⟨_, fd, F, He.glo_ok KX G (cd.fact 10 rfl)⟩
    d_both_polys := (cd.def_ 11 (d := dd_both_polys) rfl).elim fun fd F => ⟨_, fd, F, He.glo_ok KX G (cd.fact 11 rfl)⟩
    d_without_end := (cd.def_ 12 (d := dd_without_end) rfl).elim fun fd F => ⟨_, fd, F, He.glo_ok KX G (cd.fact 12 rfl)⟩
    d_added_in := (cd.def_ 13 (d := dd_added_in) rfl).elim fun fd F => ⟨_, fd, F, He.glo_ok KX G (cd.fact 13 rfl)⟩
    d_scaled_in := (cd.def_ 14 (d := dd_scaled_in) rfl).elim fun fd F => ⟨_, fd, F, He.glo_ok KX G (cd.fact 14 rfl)⟩
    d_taken_in := (cd.def_ 15 (d := dd_taken_in) rfl).elim fun fd F => ⟨_, fd, F, He.glo_ok KX G (cd.fact 15 rfl)⟩
    d_times_in := (cd.def_ 16 (d := dd_times_in) rfl).elim fun fd F => ⟨_, fd, F, He.glo_ok KX G (cd.fact 16 rfl)⟩
    d_value_in := (cd.def_ 17 (d := dd_value_in) rfl).elim fun fd F => ⟨_, fd, F, He.glo_ok KX G (cd.fact 17 rfl)⟩
    d_derived_in := (cd.def_ 18 (d := dd_derived_in) rfl).elim fun fd F => ⟨_, fd, F, He.glo_ok KX G (cd.fact 18 rfl)⟩
    d_poly_sum := (cd.def_ 19 (d := dd_poly_sum) rfl).elim fun fd F => ⟨_, fd, F, He.glo_ok KX G (cd.fact 19 rfl)⟩
    d_poly_less := (cd.def_ 20 (d := dd_poly_less) rfl).elim fun fd F => ⟨_, fd, F, He.glo_ok KX G (cd.fact 20 rfl)⟩
    d_poly_product := (cd.def_ 21 (d := dd_poly_product) rfl).elim fun fd F => ⟨_, fd, F, He.glo_ok KX G (cd.fact 21 rfl)⟩
    d_poly_value := (cd.def_ 22 (d := dd_poly_value) rfl).elim fun fd F => ⟨_, fd, F, He.glo_ok KX G (cd.fact 22 rfl)⟩
    d_derived := (cd.def_ 23 (d := dd_derived) rfl).elim fun fd F => ⟨_, fd, F, He.glo_ok KX G (cd.fact 23 rfl)⟩
    d__law_dice := (cd.def_ 24 (d := dd__law_dice) rfl).elim fun fd F => ⟨_, fd, F, He.glo_ok KX G (cd.fact 24 rfl)⟩
    d__law_roll := (cd.def_ 25 (d := dd__law_roll) rfl).elim fun fd F => ⟨_, fd, F, He.glo_ok KX G (cd.fact 25 rfl)⟩
    d__law_gcd := (cd.def_ 26 (d := dd__law_gcd) rfl).elim fun fd F => ⟨_, fd, F, He.glo_ok KX G (cd.fact 26 rfl)⟩
    d__law_fraction := (cd.def_ 27 (d := dd__law_fraction) rfl).elim fun fd F => ⟨_, fd, F, He.glo_ok KX G (cd.fact 27 rfl)⟩
    d__law_plus := (cd.def_ 28 (d := dd__law_plus) rfl).elim fun fd F => ⟨_, fd, F, He.glo_ok KX G (cd.fact 28 rfl)⟩
    d__law_times := (cd.def_ 29 (d := dd__law_times) rfl).elim fun fd F => ⟨_, fd, F, He.glo_ok KX G (cd.fact 29 rfl)⟩
    d__law_less := (cd.def_ 30 (d := dd__law_less) rfl).elim fun fd F => ⟨_, fd, F, He.glo_ok KX G (cd.fact 30 rfl)⟩
    d__law_py_made := (cd.def_ 31 (d := dd__law_py_made) rfl).elim fun fd F => ⟨_, fd, F, He.glo_ok KX G (cd.fact 31 rfl)⟩
    d__law_py_pairs := (cd.def_ 32 (d := dd__law_py_pairs) rfl).elim fun fd F => ⟨_, fd, F, He.glo_ok KX G (cd.fact 32 rfl)⟩
    d__law_py_sum := (cd.def_ 33 (d := dd__law_py_sum) rfl).elim fun fd F => ⟨_, fd, F, He.glo_ok KX G (cd.fact 33 rfl)⟩
    d__law_py_times := (cd.def_ 34 (d := dd__law_py_times) rfl).elim fun fd F => ⟨_, fd, F, He.glo_ok KX G (cd.fact 34 rfl)⟩
    d__law_py_back := (cd.def_ 35 (d := dd__law_py_back) rfl).elim fun fd F => ⟨_, fd, F, He.glo_ok KX G (cd.fact 35 rfl)⟩
    d__law_py_value := (cd.def_ 36 (d := dd__law_py_value) rfl).elim fun fd F => ⟨_, fd, F, He.glo_ok KX G (cd.fact 36 rfl)⟩
    d__law_py_number := (cd.def_ 37 (d := dd__law_py_number) rfl).elim fun fd F => ⟨_, fd, F, He.glo_ok KX G (cd.fact 37 rfl)⟩
    d__law_py_drawn := (cd.def_ 38 (d := dd__law_py_drawn) rfl).elim fun fd F => ⟨_, fd, F, He.glo_ok KX G (cd.fact 38 rfl)⟩
    d__law_derived := (cd.def_ 39 (d := dd__law_derived) rfl).elim fun fd F => ⟨_, fd, F, He.glo_ok KX G (cd.fact 39 rfl)⟩
    d__law_right := (cd.def_ 40 (d := dd__law_right) rfl).elim fun fd F => ⟨_, fd, F, He.glo_ok KX G (cd.fact 40 rfl)⟩
    d__law_judged_right := (cd.def_ 41 (d := dd__law_judged_right) rfl).elim fun fd F => ⟨_, fd, F, He.glo_ok KX G (cd.fact 41 rfl)⟩
    d_law := (cd.def_ 42 (d := dd_law) rfl).elim fun fd F => ⟨_, fd, F, He.glo_ok KX G (cd.fact 42 rfl)⟩
  }
end K08
open PySem PySem.W PySem.Calls PyProof.Rows
theorem PySem.Challenge.cw_thirdcounts_k08_whole_sums_and_products_holds : PySem.Challenge.rw_thirdcounts_k08_whole_sums_and_products.Holds := by
  w_on; o_law
  refine HandSHeadRun.head_imp (r := OpenLaw.row PySem.Challenge.rw_thirdcounts_k08_whole_sums_and_products) (q := view (OpenLaw.row PySem.Challenge.rw_thirdcounts_k08_whole_sums_and_products).prog [0, 54]) (H := K08.hk) (ob := K08.ob) (M := 4000) (loose := K08.loose) (d := HandSHeadRun.topDef (OpenLaw.row PySem.Challenge.rw_thirdcounts_k08_whole_sums_and_products).prog 54) (kwd := []) K08.ob_eq
    K08.run (by kernel_rfl) (by kernel_rfl) (by kernel_rfl) (by rfl) (by first | assumption | decide +kernel) (by decide +kernel) ⟨rfl, rfl, rfl, rfl, rfl, by decide +kernel⟩ ?hw ?hc
  case hw => w_witness2
  case hc =>
    refine MP.walk_ofW (l := PySem.Challenge.rw_thirdcounts_k08_whole_sums_and_products) (n := 63) (k := 9) (x := "_law_script") rfl (by decide) (by kernel_rfl) ⟨rfl, by decide, by decide⟩ ?F
    intro w mg fa h Y G hmg0
    obtain ⟨K, KX, c⟩ := Y
    have hmg : mg ("law" : PySem.Str) = some (.ref fa) := by
      have e : (HandSHeadRun.topDef (OpenLaw.row PySem.Challenge.rw_thirdcounts_k08_whole_sums_and_products).prog 54).name = ("law" : PySem.Str) := by kernel_rfl
      rw [← e]
      exact hmg0
    have m : K08.Mo mg ⟨K, fun _ => 0, fun _ => 0⟩ := K08.mo_of KX G c
    obtain ⟨f, fd, F, hf⟩ := m.d_law
    have ef : f = fa := by
      have z := hf.symm.trans hmg
      cases z
      rfl
    subst ef
    have b := L2.FunD.bindsA (ps := ["_law_script"]) F fun _ _ _ _ _ _ us hl => match us, hl with | [_], _ => rfl
    refine ⟨K, fd, MP.spF ⟨K, fun _ => 0, fun _ => 0⟩ 1 K08.F_law, KX, fun s v => b s [v] rfl, fun H a ns hl hO hS => ?_, fun base _ _ => ?_⟩
    · obtain ⟨S, e⟩ := K08.law_true ns hl
      exact MP.law_sp (M := ⟨K, fun _ => 0, fun _ => 0⟩) e hO hS
    · exact K08.fo_law m F
