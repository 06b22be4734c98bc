import PyProof.Rows.All
import Wide.All
import OpenK.AllK
import Wide.FinOn
import HandS.ForMost
import HandS.Wide
import HandS.Gcd
import HandS.Walk
import HandS.IsInst
import KE.KStateDown
import HandS.More
import HandS.WordsExc
import HandS.Defaults
import HandS.Head0
import HandS.Head1
import HandS.Head2
import HandS.HeadEnd
import HandS.HeadHook1
import HandS.HeadHook2
import HandS.Head3
import PySem.Challenge.RW_everygain_k02_marks_turned
set_option Elab.async false
set_option linter.all false
set_option maxRecDepth 100000
set_option maxHeartbeats 4000000
/-! DL: a data layer over HandS: values by content, a store of own mutable lists, readings that compute. -/
namespace DL
open PySem PySem.Spec PyProof.Rows L2

/-- a value by content; ref n: the n-th object of the store -/
inductive D where
  | non | bl (b : Bool) | int (i : Int) | str (s : Str) | tup (ds : List D) | lst (ds : List D) | ref (n : Nat)

inductive Ob where
  | lst (ds : List D)
  | gone
abbrev Store := List Ob
abbrev Env := List (Option D)
/-- where the store's objects stand; what else is kept apart -/
structure Mu where
  sl : List (Option Addr)
  rs : List Addr
def Mu.has (μ : Mu) (a : Addr) : Prop := some a ∈ μ.sl ∨ a ∈ μ.rs
def Mu.add (μ : Mu) (p : Addr) : Mu := ⟨μ.sl ++ [some p], μ.rs⟩

/-- a list of the written part -/
def KL (K : PySem.W.Frag) (a : Addr) (xs : List V) : Prop :=
  ∃ (o : Obj) (its : Array Value) (n : Nat), K.lookup a = some o ∧ o.cls = .type "list" ∧ o.dict = none ∧ o.data = .seq its n ∧ its.size ≤ sizeLine ∧ Vals xs its.toList
def KT (K : PySem.W.Frag) (a : Addr) (xs : List V) : Prop :=
  ∃ (o : Obj) (its : Array Value) (n : Nat), K.lookup a = some o ∧ o.cls = .type "tuple" ∧ o.data = .seq its n ∧ its.size ≤ sizeLine ∧ Vals xs its.toList

mutual
inductive Rep (K : PySem.W.Frag) (μ : Mu) (H : Hp) : D → V → Prop
  | non : Rep K μ H .non .non
  | bl (b : Bool) : Rep K μ H (.bl b) (.bl b)
  | int (i : Int) : Rep K μ H (.int i) (.int i)
  | str (x : Str) : Rep K μ H (.str x) (.str x)
  | tup {a : Addr} {xs : List V} {ds : List D} : Rd H a (.tup xs) ∨ KT K a xs → RepAll K μ H ds xs → Rep K μ H (.tup ds) (.ref a)
  | lst {a : Addr} {xs : List V} {ds : List D} : (Rd H a (.lst xs) ∧ ¬ μ.has a) ∨ KL K a xs → RepAll K μ H ds xs → Rep K μ H (.lst ds) (.ref a)
  | ref {n : Nat} {a : Addr} : μ.sl[n]? = some (some a) → Rep K μ H (.ref n) (.ref a)
inductive RepAll (K : PySem.W.Frag) (μ : Mu) (H : Hp) : List D → List V → Prop
  | nil : RepAll K μ H [] []
  | cons {d : D} {ds : List D} {v : V} {vs : List V} : Rep K μ H d v → RepAll K μ H ds vs → RepAll K μ H (d :: ds) (v :: vs)
end

structure Grow (μ : Mu) (H : Hp) (μ' : Mu) (H' : Hp) : Prop where
  tup : ∀ (a : Addr) (xs : List V), Rd H a (.tup xs) → Rd H' a (.tup xs)
  lst : ∀ (a : Addr) (xs : List V), Rd H a (.lst xs) → ¬ μ.has a → Rd H' a (.lst xs) ∧ ¬ μ'.has a
  ref : ∀ (n : Nat) (a : Addr), μ.sl[n]? = some (some a) → μ'.sl[n]? = some (some a)
  rs : ∀ (a : Addr), a ∈ μ.rs → a ∈ μ'.rs ∧ ∀ o, H a = some o → H' a = some o

section
variable {K : PySem.W.Frag} {μ μ' μ1 μ2 : Mu} {H H' H1 H2 : Hp}
theorem Grow.refl : Grow μ H μ H := ⟨fun _ _ h => h, fun _ _ h n => ⟨h, n⟩, fun _ _ h => h, fun _ h => ⟨h, fun _ h => h⟩⟩
theorem Grow.trans (g : Grow μ H μ1 H1) (k : Grow μ1 H1 μ2 H2) : Grow μ H μ2 H2 :=
  ⟨fun a xs h => k.tup a xs (g.tup a xs h), fun a xs h n => let ⟨h1, n1⟩ := g.lst a xs h n; k.lst a xs h1 n1, fun n a h => k.ref n a (g.ref n a h), fun a h => let ⟨h1, e1⟩ := g.rs a h; let ⟨h2, e2⟩ := k.rs a h1; ⟨h2, fun o z => e2 o (e1 o z)⟩⟩
mutual
theorem Rep.grow (g : Grow μ H μ' H') : ∀ {d : D} {v : V}, Rep K μ H d v → Rep K μ' H' d v
  | _, _, .non => .non
  | _, _, .bl b => .bl b
  | _, _, .int i => .int i
  | _, _, .str x => .str x
  | _, _, .tup h r => .tup (h.imp (g.tup _ _) id) (RepAll.grow g r)
  | _, _, .lst h r => .lst (h.imp (fun z => g.lst _ _ z.1 z.2) id) (RepAll.grow g r)
  | _, _, .ref h => .ref (g.ref _ _ h)
theorem RepAll.grow (g : Grow μ H μ' H') : ∀ {ds : List D} {vs : List V}, RepAll K μ H ds vs → RepAll K μ' H' ds vs
  | _, _, .nil => .nil
  | _, _, .cons r t => .cons (Rep.grow g r) (RepAll.grow g t)
end
theorem RepAll.length : ∀ {ds : List D} {vs : List V}, RepAll K μ H ds vs → ds.length = vs.length
  | _, _, .nil => rfl
  | _, _, .cons _ t => congrArg (· + 1) (RepAll.length t)
theorem RepAll.get : ∀ {ds : List D} {vs : List V} {i : Nat} {d : D}, RepAll K μ H ds vs → ds[i]? = some d → ∃ v, vs[i]? = some v ∧ Rep K μ H d v
  | _, _, _, _, .nil, e => by simp at e
  | _, _, 0, _, .cons r _, e => by simp at e; subst e; exact ⟨_, rfl, r⟩
  | _, _, i + 1, d, .cons _ t, e => by
    obtain ⟨v, h1, h2⟩ := RepAll.get (i := i) (d := d) t (by simpa using e)
    exact ⟨v, by simpa using h1, h2⟩
theorem RepAll.getV : ∀ {ds : List D} {vs : List V} {i : Nat} {v : V}, RepAll K μ H ds vs → vs[i]? = some v → ∃ d, ds[i]? = some d ∧ Rep K μ H d v
  | _, _, _, _, .nil, e => by simp at e
  | _, _, 0, _, .cons r _, e => by simp at e; subst e; exact ⟨_, rfl, r⟩
  | _, _, i + 1, v, .cons _ t, e => by
    obtain ⟨d, h1, h2⟩ := RepAll.getV (i := i) (v := v) t (by simpa using e)
    exact ⟨d, by simpa using h1, h2⟩
theorem RepAll.append : ∀ {ds es : List D} {vs ws : List V}, RepAll K μ H ds vs → RepAll K μ H es ws → RepAll K μ H (ds ++ es) (vs ++ ws)
  | _, _, _, _, .nil, s => s
  | _, _, _, _, .cons r t, s => .cons r (RepAll.append t s)
theorem RepAll.one {d : D} {v : V} (h : Rep K μ H d v) : RepAll K μ H [d] [v] := .cons h .nil
theorem RepAll.set {d : D} {v : V} (r : Rep K μ H d v) : ∀ {ds : List D} {vs : List V} (i : Nat), RepAll K μ H ds vs → RepAll K μ H (ds.set i d) (vs.set i v)
  | _, _, _, .nil => .nil
  | _, _, 0, .cons _ t => .cons r t
  | _, _, i + 1, .cons q t => .cons q (RepAll.set r i t)
theorem RepAll.take : ∀ {ds : List D} {vs : List V} (n : Nat), RepAll K μ H ds vs → RepAll K μ H (ds.take n) (vs.take n)
  | _, _, 0, _ => .nil
  | _, _, _ + 1, .nil => .nil
  | _, _, n + 1, .cons r t => .cons r (RepAll.take n t)
theorem RepAll.drop : ∀ {ds : List D} {vs : List V} (n : Nat), RepAll K μ H ds vs → RepAll K μ H (ds.drop n) (vs.drop n)
  | _, _, 0, r => r
  | _, _, _ + 1, .nil => .nil
  | _, _, n + 1, .cons _ t => RepAll.drop n t
theorem RepAll.eraseIdx : ∀ {ds : List D} {vs : List V} (i : Nat), RepAll K μ H ds vs → RepAll K μ H (ds.eraseIdx i) (vs.eraseIdx i)
  | _, _, _, .nil => .nil
  | _, _, 0, .cons _ t => t
  | _, _, i + 1, .cons r t => .cons r (RepAll.eraseIdx i t)
theorem RepAll.dropLast {ds : List D} {vs : List V} (r : RepAll K μ H ds vs) : RepAll K μ H ds.dropLast vs.dropLast := by
  rw [List.dropLast_eq_take, List.dropLast_eq_take, r.length]
  exact r.take _
theorem RepAll.reverse : ∀ {ds : List D} {vs : List V}, RepAll K μ H ds vs → RepAll K μ H ds.reverse vs.reverse
  | _, _, .nil => .nil
  | _, _, .cons r t => by
    rw [List.reverse_cons, List.reverse_cons]
    exact RepAll.append (RepAll.reverse t) (.one r)
theorem RepAll.snoc {ds : List D} {d : D} {vs : List V} (h : RepAll K μ H (ds ++ [d]) vs) : ∃ ws v, vs = ws ++ [v] ∧ RepAll K μ H ds ws ∧ Rep K μ H d v := by
  have e := h.length
  rw [List.length_append, List.length_singleton] at e
  obtain ⟨v, hv, rv⟩ := h.get (i := ds.length) (d := d) (by simp)
  refine ⟨vs.take ds.length, v, ?_, ?_, rv⟩
  · have : vs = vs.take ds.length ++ vs.drop ds.length := (List.take_append_drop _ _).symm
    rw [List.drop_eq_getElem_cons (by omega), List.drop_of_length_le (by omega)] at this
    rw [List.getElem?_eq_getElem (by omega)] at hv
    rw [Option.some.inj hv] at this
    exact this
  · have := h.take ds.length
    rwa [List.take_left] at this
theorem RepAll.sub : ∀ {ds : List D} {vs : List V} (k : List V), k.Sublist vs → RepAll K μ H ds vs → ∃ es : List D, RepAll K μ H es k ∧ es.Sublist ds
  | _, _, _, .slnil, .nil => ⟨[], .nil, .slnil⟩
  | _, _, _, .cons _ s, .cons _ t => let ⟨es, r, q⟩ := RepAll.sub _ s t; ⟨es, r, .cons _ q⟩
  | _, _, _, .cons₂ _ s, .cons h t => let ⟨es, r, q⟩ := RepAll.sub _ s t; ⟨_ :: es, .cons h r, .cons₂ _ q⟩
theorem Rep.int_inv {i : Int} {v : V} (h : Rep K μ H (.int i) v) : v = .int i := by cases h; rfl
theorem Rep.bl_inv {b : Bool} {v : V} (h : Rep K μ H (.bl b) v) : v = .bl b := by cases h; rfl
theorem Rep.str_inv {b : Str} {v : V} (h : Rep K μ H (.str b) v) : v = .str b := by cases h; rfl
theorem Rep.tupS {ds : List D} {v : V} (h : Rep K μ H (.tup ds) v) : ∃ a xs, v = .ref a ∧ SqT K H a xs ∧ RepAll K μ H ds xs := by
  cases h with
  | tup h r => exact ⟨_, _, rfl, h, r⟩
theorem Rep.lstS {ds : List D} {v : V} (h : Rep K μ H (.lst ds) v) : ∃ a xs, v = .ref a ∧ SqL K H a xs ∧ RepAll K μ H ds xs := by
  cases h with
  | lst h r => exact ⟨_, _, rfl, h.imp And.left id, r⟩
theorem RepAll.ints : ∀ {ns : List Int} {vs : List V}, RepAll K μ H (ns.map D.int) vs → vs = ns.map V.int
  | [], _, h => by cases h; rfl
  | n :: ns, _, h => by
    cases h with
    | cons r t =>
      cases r
      rw [RepAll.ints t]
      rfl
theorem repInts : ∀ (ns : List Int), RepAll K μ H (ns.map D.int) (ns.map V.int)
  | [] => .nil
  | n :: ns => .cons (.int n) (repInts ns)
end

/-! ### the store -/
structure Sim (K : PySem.W.Frag) (μ : Mu) (S : Store) (H : Hp) : Prop where
  len : μ.sl.length = S.length
  inj : ∀ (i j : Nat) (a : Addr), μ.sl[i]? = some (some a) → μ.sl[j]? = some (some a) → i = j
  trk : ∀ (n : Nat) (a : Addr), μ.sl[n]? = some (some a) → (∃ o, H a = some o) ∧ a ∉ μ.rs
  trs : ∀ (a : Addr), a ∈ μ.rs → ∃ o, H a = some o
  ob : ∀ (n : Nat) (ds : List D), S[n]? = some (.lst ds) → ∃ a xs, μ.sl[n]? = some (some a) ∧ H a = some (.lst xs) ∧ RepAll K μ H ds xs

def EnvR (K : PySem.W.Frag) (μ : Mu) (H : Hp) (ρ : Env) (σ : L2.St) : Prop :=
  ρ.length = σ.length ∧ ∀ (i : Nat) (d : D), ρ[i]? = some (some d) → ∃ v, σ[i]? = some (some v) ∧ Rep K μ H d v

section
variable {K : PySem.W.Frag} {μ μ' μ1 μ2 : Mu} {H H' H1 H2 : Hp} {S S' : Store} {ρ : Env} {σ : L2.St}
theorem EnvR.grow (g : Grow μ H μ' H') (h : EnvR K μ H ρ σ) : EnvR K μ' H' ρ σ :=
  ⟨h.1, fun i d e => let ⟨v, h1, h2⟩ := h.2 i d e; ⟨v, h1, h2.grow g⟩⟩
theorem EnvR.set {i : Nat} {d : D} {v : V} (h : EnvR K μ H ρ σ) (r : Rep K μ H d v) : EnvR K μ H (ρ.set i (some d)) (σ.set i (some v)) := by
  refine ⟨by simpa using h.1, fun j e q => ?_⟩
  by_cases hj : i = j
  · subst hj
    by_cases hi : i < ρ.length
    · rw [List.getElem?_set_self hi] at q
      cases q
      exact ⟨v, List.getElem?_set_self (by rw [← h.1]; exact hi), r⟩
    · rw [List.getElem?_eq_none (by simpa using hi)] at q
      cases q
  · rw [List.getElem?_set_ne hj] at q
    rw [List.getElem?_set_ne hj]
    exact h.2 j e q
theorem Sim.notin (m : Sim K μ S H) {a : Addr} (h : H a = none) : ¬ μ.has a := fun hm => by
  rcases hm with hm | hm
  · obtain ⟨n, hn⟩ := List.getElem?_of_mem hm
    obtain ⟨⟨o, ho⟩, _⟩ := m.trk n a hn
    rw [h] at ho; cases ho
  · obtain ⟨o, ho⟩ := m.trs a hm
    rw [h] at ho; cases ho
/-- the tracked objects of the store as they were -/
theorem Sim.grow (m : Sim K μ S H) (g : Grow μ H μ H') (k : ∀ (n : Nat) (a : Addr), μ.sl[n]? = some (some a) → H' a = H a) : Sim K μ S H' :=
  ⟨m.len, m.inj, fun n a h => let ⟨⟨o, ho⟩, hr⟩ := m.trk n a h; ⟨⟨o, by rw [k n a h]; exact ho⟩, hr⟩, fun a h => let ⟨o, ho⟩ := m.trs a h; ⟨o, (g.rs a h).2 o ho⟩,
    fun n ds h => let ⟨a, xs, h1, h2, h3⟩ := m.ob n ds h; ⟨a, xs, h1, by rw [k n a h1]; exact h2, h3.grow g⟩⟩
theorem rd_new {a p : Addr} {o u : HO} (h : Rd H a u) (hp : H p = none) : Rd (upd H p o) a u := by
  rcases h with h | ⟨ob, h⟩
  · exact .inl (by rw [upd_ne (ne_of_none h hp)]; exact h)
  · exact .inr ⟨ob, by rw [upd_ne (ne_of_none h hp)]; exact h⟩
theorem rd_ne {a p : Addr} {u : HO} (h : Rd H a u) (hp : H p = none) : a ≠ p := by
  rcases h with h | ⟨ob, h⟩
  · exact ne_of_none h hp
  · exact ne_of_none h hp
theorem Grow.new {p : Addr} {o : HO} (hp : H p = none) : Grow μ H μ (upd H p o) :=
  ⟨fun _ _ h => rd_new h hp, fun _ _ h n => ⟨rd_new h hp, n⟩, fun _ _ h => h, fun a h => ⟨h, fun u z => by rw [upd_ne (ne_of_none z hp)]; exact z⟩⟩
theorem Sim.new {p : Addr} {o : HO} (m : Sim K μ S H) (hp : H p = none) : Sim K μ S (upd H p o) :=
  m.grow (.new hp) fun n a h => by
    obtain ⟨⟨u, hu⟩, _⟩ := m.trk n a h
    exact upd_ne (ne_of_none hu hp)
/-- a new object of the store -/
theorem Grow.alloc {p : Addr} {o : HO} (hp : H p = none) : Grow μ H (μ.add p) (upd H p o) :=
  ⟨fun _ _ h => rd_new h hp, fun a xs h n => ⟨rd_new h hp, fun hm => by
    rcases hm with z | z
    · rcases List.mem_append.mp z with z | z
      · exact n (.inl z)
      · have e : a = p := by simpa using z
        exact rd_ne h hp e
    · exact n (.inr z)⟩,
    fun n a h => by
      have hn : n < μ.sl.length := (List.getElem?_eq_some_iff.mp h).1
      show (μ.sl ++ [some p])[n]? = _
      rw [List.getElem?_append_left hn]
      exact h,
    fun a h => ⟨h, fun u z => by rw [upd_ne (ne_of_none z hp)]; exact z⟩⟩
theorem Sim.alloc {p : Addr} {ds : List D} {xs : List V} (m : Sim K μ S H) (hp : H p = none) (r : RepAll K μ H ds xs) : Sim K (μ.add p) (S ++ [.lst ds]) (upd H p (.lst xs)) := by
  have nin := m.notin hp
  have back : ∀ i a, (μ.sl ++ [some p])[i]? = some (some a) → (μ.sl[i]? = some (some a) ∧ a ≠ p) ∨ (i = μ.sl.length ∧ a = p) := fun i a h => by
    by_cases hi : i < μ.sl.length
    · rw [List.getElem?_append_left hi] at h
      refine .inl ⟨h, fun e => ?_⟩
      subst e
      exact nin (.inl (List.mem_of_getElem? h))
    · rw [List.getElem?_append_right (by omega)] at h
      have e := (List.getElem?_eq_some_iff.mp h)
      obtain ⟨hl, e⟩ := e
      have : i - μ.sl.length = 0 := by simp at hl; omega
      refine .inr ⟨by omega, ?_⟩
      simp [this] at e
      exact e.symm
  refine ⟨by simp [Mu.add, m.len], fun i j a h1 h2 => ?_, fun n a h => ?_, fun a h => ?_, fun n es h => ?_⟩
  · rcases back i a h1 with ⟨x, nx⟩ | ⟨x, nx⟩ <;> rcases back j a h2 with ⟨y, ny⟩ | ⟨y, ny⟩
    · exact m.inj i j a x y
    · exact absurd ny nx
    · exact absurd nx ny
    · omega
  · rcases back n a h with ⟨x, nx⟩ | ⟨_, nx⟩
    · obtain ⟨⟨o, ho⟩, hr⟩ := m.trk n a x
      exact ⟨⟨o, by rw [upd_ne nx]; exact ho⟩, hr⟩
    · subst nx
      exact ⟨⟨_, upd_same⟩, fun z => nin (.inr z)⟩
  · obtain ⟨o, ho⟩ := m.trs a h
    exact ⟨o, by rw [upd_ne (ne_of_none ho hp)]; exact ho⟩
  · by_cases hn : n < S.length
    · rw [List.getElem?_append_left hn] at h
      obtain ⟨a, ys, h1, h2, h3⟩ := m.ob n es h
      refine ⟨a, ys, ?_, ?_, h3.grow (.alloc hp)⟩
      · show (μ.sl ++ [some p])[n]? = _
        rw [List.getElem?_append_left (by rw [m.len]; exact hn)]
        exact h1
      · rw [upd_ne (ne_of_none h2 hp)]
        exact h2
    · rw [List.getElem?_append_right (by omega)] at h
      have e := (List.getElem?_eq_some_iff.mp h)
      obtain ⟨hl, e⟩ := e
      have q : n - S.length = 0 := by simp at hl; omega
      simp [q] at e
      subst e
      refine ⟨p, xs, ?_, upd_same, r.grow (.alloc hp)⟩
      show (μ.sl ++ [some p])[n]? = _
      rw [List.getElem?_append_right (by rw [m.len]; omega)]
      have q' : n - μ.sl.length = 0 := by rw [m.len]; omega
      rw [q']
      rfl
/-- the n-th object is written -/
theorem Grow.put {n : Nat} {a : Addr} {xs ys : List V} (m : Sim K μ S H) (h : μ.sl[n]? = some (some a)) (ha : H a = some (.lst xs)) : Grow μ H μ (upd H a (.lst ys)) :=
  ⟨fun b zs hb => by
    have nb : b ≠ a := fun e => by
      subst e
      rcases hb with hb | ⟨ob, hb⟩ <;> rw [ha] at hb <;> cases hb
    rcases hb with hb | ⟨ob, hb⟩
    · exact .inl (by rw [upd_ne nb]; exact hb)
    · exact .inr ⟨ob, by rw [upd_ne nb]; exact hb⟩,
   fun b zs hb hn => by
    have nb : b ≠ a := fun e => by
      subst e
      exact hn (.inl (List.mem_of_getElem? h))
    rcases hb with hb | ⟨ob, hb⟩
    · exact ⟨.inl (by rw [upd_ne nb]; exact hb), hn⟩
    · exact ⟨.inr ⟨ob, by rw [upd_ne nb]; exact hb⟩, hn⟩, fun _ _ h => h,
   fun b hb => ⟨hb, fun o z => by rw [upd_ne (fun e => (m.trk n a h).2 (by rw [← e]; exact hb))]; exact z⟩⟩
theorem Sim.put {n : Nat} {a : Addr} {xs ys : List V} {es : List D} (m : Sim K μ S H) (h : μ.sl[n]? = some (some a)) (ha : H a = some (.lst xs)) (r : RepAll K μ H es ys) : Sim K μ (S.set n (.lst es)) (upd H a (.lst ys)) := by
  refine ⟨by simp [m.len], m.inj, fun i b hb => ?_, fun b hb => ?_, fun i fs hi => ?_⟩
  · obtain ⟨⟨o, ho⟩, hr⟩ := m.trk i b hb
    by_cases e : b = a
    · subst e
      exact ⟨⟨_, upd_same⟩, hr⟩
    · exact ⟨⟨o, by rw [upd_ne e]; exact ho⟩, hr⟩
  · obtain ⟨o, ho⟩ := m.trs b hb
    exact ⟨o, by rw [upd_ne (fun e => (m.trk n a h).2 (by rw [← e]; exact hb))]; exact ho⟩
  · by_cases e : n = i
    · subst e
      have hn : n < S.length := by rw [← m.len]; exact (List.getElem?_eq_some_iff.mp h).1
      rw [List.getElem?_set_self hn] at hi
      cases hi
      exact ⟨a, ys, h, upd_same, r.grow (.put m h ha)⟩
    · rw [List.getElem?_set_ne e] at hi
      obtain ⟨b, zs, h1, h2, h3⟩ := m.ob i fs hi
      refine ⟨b, zs, h1, ?_, h3.grow (.put m h ha)⟩
      rw [upd_ne (fun z => e (m.inj n i a h (by rw [← z]; exact h1)))]
      exact h2
theorem Sim.at (m : Sim K μ S H) {n : Nat} {ds : List D} {v : V} (h : S[n]? = some (.lst ds)) (r : Rep K μ H (.ref n) v) : ∃ a xs, v = .ref a ∧ μ.sl[n]? = some (some a) ∧ H a = some (.lst xs) ∧ RepAll K μ H ds xs := by
  cases r with
  | ref e =>
    obtain ⟨a, xs, h1, h2, h3⟩ := m.ob n ds h
    rw [e] at h1
    cases h1
    exact ⟨_, xs, rfl, e, h2, h3⟩
end
end DL

set_option maxHeartbeats 4000000
namespace DL
open PySem PySem.Spec PyProof.Rows L2

/-! ### readings by content -/
abbrev WE := Env → Store → (D → Store → Prop) → Prop
abbrev WT := Env → Store → (Bool → Store → Prop) → Prop
abbrev WA := Env → Store → (List D → Store → Prop) → Prop
structure EndsD where
  nx : Env → Store → Prop
  rt : D → Store → Prop
  bk : Env → Store → Prop := fun _ _ => False
  ct : Env → Store → Prop := fun _ _ => False
abbrev WS := EndsD → Env → Store → Prop

def Post (K : PySem.W.Frag) (μ : Mu) (H : Hp) (Q0 : D → Store → Prop) (Q : VK) : Prop := ∀ d S', Q0 d S' → ∀ μ' v H', Grow μ H μ' H' → Sim K μ' S' H' → Rep K μ' H' d v → Q v H'
def PostT (K : PySem.W.Frag) (μ : Mu) (H : Hp) (Q0 : Bool → Store → Prop) (Q : Bool → Hp → Prop) : Prop := ∀ b S', Q0 b S' → ∀ μ' H', Grow μ H μ' H' → Sim K μ' S' H' → Q b H'
def PostA (K : PySem.W.Frag) (μ : Mu) (H : Hp) (Q0 : List D → Store → Prop) (Q : List V → Hp → Prop) : Prop := ∀ ds S', Q0 ds S' → ∀ μ' vs H', Grow μ H μ' H' → Sim K μ' S' H' → RepAll K μ' H' ds vs → Q vs H'
def LE (K : PySem.W.Frag) (w : WE) : TE := fun σ H Q => ∃ μ S ρ Q0, Sim K μ S H ∧ EnvR K μ H ρ σ ∧ w ρ S Q0 ∧ Post K μ H Q0 Q
def LT (K : PySem.W.Frag) (w : WT) : TT := fun σ H Q => ∃ μ S ρ Q0, Sim K μ S H ∧ EnvR K μ H ρ σ ∧ w ρ S Q0 ∧ PostT K μ H Q0 Q
def LA (K : PySem.W.Frag) (w : WA) : TA := fun σ H Q => ∃ μ S ρ Q0, Sim K μ S H ∧ EnvR K μ H ρ σ ∧ w ρ S Q0 ∧ PostA K μ H Q0 Q
abbrev SE (X : Cx) (e : Expr) (w : WE) : Prop := PE X e (LE X.K w)
abbrev ST (X : Cx) (e : Expr) (w : WT) : Prop := PT X e (LT X.K w)
abbrev SW (X : Cx) (e : Expr) (w : WT) : Prop := PW X e (LT X.K w)
abbrev SA (X : Cx) (es : List Expr) (w : WA) : Prop := PA X es (LA X.K w)

section
variable {X : Cx} {e a b : Expr}
theorem pe_weak {t t' : TE} (h : PE X e t) (hw : ∀ σ H Q, t' σ H Q → t σ H Q) : PE X e t' := ⟨fun pins s σ H Q I q => h.run pins s σ H Q I (hw _ _ _ q)⟩
theorem pt_weak {t t' : TT} (h : PT X e t) (hw : ∀ σ H Q, t' σ H Q → t σ H Q) : PT X e t' := ⟨fun pins s σ H Q I q => h.run pins s σ H Q I (hw _ _ _ q)⟩
theorem pw_weak {t t' : TT} (h : PW X e t) (hw : ∀ σ H Q, t' σ H Q → t σ H Q) : PW X e t' := ⟨fun wh pins s σ H Q I q => h.run wh pins s σ H Q I (hw _ _ _ q)⟩
theorem pa_weak {es : List Expr} {t t' : TA} (h : PA X es t) (hw : ∀ σ H Q, t' σ H Q → t σ H Q) : PA X es t' := ⟨fun pos pins s σ H Q I q => h.run pos pins s σ H Q I (hw _ _ _ q)⟩
end

theorem Post.go {K : PySem.W.Frag} {μ μ' : Mu} {H H' : Hp} {Q0 : D → Store → Prop} {Q : VK} (h : Post K μ H Q0 Q) (g : Grow μ H μ' H') : Post K μ' H' Q0 Q :=
  fun d S' q μ2 v H2 g2 m r => h d S' q μ2 v H2 (g.trans g2) m r
theorem Post.now {K : PySem.W.Frag} {μ : Mu} {H : Hp} {S : Store} {d : D} {v : V} {Q0 : D → Store → Prop} {Q : VK} (h : Post K μ H Q0 Q) (m : Sim K μ S H) (r : Rep K μ H d v) (q : Q0 d S) : Q v H :=
  h d S q μ v H .refl m r
theorem PostT.go {K : PySem.W.Frag} {μ μ' : Mu} {H H' : Hp} {Q0 : Bool → Store → Prop} {Q : Bool → Hp → Prop} (h : PostT K μ H Q0 Q) (g : Grow μ H μ' H') : PostT K μ' H' Q0 Q :=
  fun d S' q μ2 H2 g2 m => h d S' q μ2 H2 (g.trans g2) m
theorem PostA.go {K : PySem.W.Frag} {μ μ' : Mu} {H H' : Hp} {Q0 : List D → Store → Prop} {Q : List V → Hp → Prop} (h : PostA K μ H Q0 Q) (g : Grow μ H μ' H') : PostA K μ' H' Q0 Q :=
  fun d S' q μ2 v H2 g2 m r => h d S' q μ2 v H2 (g.trans g2) m r

/-- run a part, go on behind it -/
theorem LE.run {K : PySem.W.Frag} {w : WE} {μ : Mu} {S : Store} {ρ : Env} {σ : L2.St} {H : Hp} {Q0 : D → Store → Prop} {Q : VK} (m : Sim K μ S H) (e : EnvR K μ H ρ σ) (h : w ρ S Q0)
    (k : ∀ d S' μ' v H', Q0 d S' → Grow μ H μ' H' → Sim K μ' S' H' → EnvR K μ' H' ρ σ → Rep K μ' H' d v → Q v H') : LE K w σ H Q :=
  ⟨μ, S, ρ, Q0, m, e, h, fun d S' q μ' v H' g m' r => k d S' μ' v H' q g m' (e.grow g) r⟩
theorem LT.run {K : PySem.W.Frag} {w : WT} {μ : Mu} {S : Store} {ρ : Env} {σ : L2.St} {H : Hp} {Q0 : Bool → Store → Prop} {Q : Bool → Hp → Prop} (m : Sim K μ S H) (e : EnvR K μ H ρ σ) (h : w ρ S Q0)
    (k : ∀ d S' μ' H', Q0 d S' → Grow μ H μ' H' → Sim K μ' S' H' → EnvR K μ' H' ρ σ → Q d H') : LT K w σ H Q :=
  ⟨μ, S, ρ, Q0, m, e, h, fun d S' q μ' H' g m' => k d S' μ' H' q g m' (e.grow g)⟩
theorem LA.run {K : PySem.W.Frag} {w : WA} {μ : Mu} {S : Store} {ρ : Env} {σ : L2.St} {H : Hp} {Q0 : List D → Store → Prop} {Q : List V → Hp → Prop} (m : Sim K μ S H) (e : EnvR K μ H ρ σ) (h : w ρ S Q0)
    (k : ∀ ds S' μ' vs H', Q0 ds S' → Grow μ H μ' H' → Sim K μ' S' H' → EnvR K μ' H' ρ σ → RepAll K μ' H' ds vs → Q vs H') : LA K w σ H Q :=
  ⟨μ, S, ρ, Q0, m, e, h, fun d S' q μ' v H' g m' r => k d S' μ' v H' q g m' (e.grow g) r⟩

/-! ### names, constants -/
section
variable {X : Cx} {e a b c : Expr} {wa wb wc : WE} {pos : Pos}
def wVar (i : Nat) : WE := fun ρ S Q => match ρ[i]? with | some (some d) => Q d S | _ => False
def wC (d : D) : WE := fun _ S Q => Q d S
theorem se_weak {w w' : WE} (h : SE X e w) (hw : ∀ ρ S Q, w' ρ S Q → w ρ S Q) : SE X e w' := pe_weak h fun σ H Q ⟨μ, S, ρ, Q0, m, en, q, p⟩ => ⟨μ, S, ρ, Q0, m, en, hw _ _ _ q, p⟩
theorem se_var (i : Nat) {x : Str} {pos : Pos} (hN : X.N[i]? = some x := by rfl) (hv : Vis X.env.scope x := by first | exact Or.inl rfl | exact Or.inr (Or.inl rfl) | exact Or.inr (Or.inr rfl)) (hd : (x == ("__debug__" : Str)) = false := by decide)
    (hcd : (x == ("__classdict__" : Str)) = false := by decide) : SE X (.Name x pos) (wVar i) := pe_weak (pe_var (i := i) hN hv hd hcd) fun σ H Q ⟨μ, S, ρ, Q0, m, en, q, p⟩ => by
  have q' : (match ρ[i]? with | some (some d) => Q0 d S | _ => False) := q
  split at q'
  · rename_i d hd
    obtain ⟨v, h1, h2⟩ := en.2 i d hd
    exact ⟨v, h1, p.now m h2 q'⟩
  · exact q'.elim
theorem se_c {d : D} {v : V} (h : PE X e (tC v)) (r : ∀ μ H, Rep X.K μ H d v) : SE X e (wC d) := pe_weak h fun σ H Q ⟨μ, S, ρ, Q0, m, en, q, p⟩ => p.now m (r _ _) q
theorem se_int {i j pos} : SE X (.Constant (.int i) j pos) (wC (.int i)) := se_c pe_int fun _ _ => .int i
theorem se_bl {i j pos} : SE X (.Constant (.bool i) j pos) (wC (.bl i)) := se_c pe_bl fun _ _ => .bl i
theorem se_non {j pos} : SE X (.Constant .none j pos) (wC .non) := se_c pe_non fun _ _ => .non
theorem se_str {i j pos} : SE X (.Constant (.str i) j pos) (wC (.str i)) := se_c pe_str fun _ _ => .str i
theorem se_glob {x : Str} {d : D} {v : V} {u : Value} {pos : Pos} (hg : Gl X x) (hm : X.mg x = some u) (r : RelV v u) (rp : ∀ μ H, Rep X.K μ H d v) (hd : (x == ("__debug__" : Str)) = false := by decide) : SE X (.Name x pos) (wC d) :=
  se_c (pe_glob hg hm r hd) rp

/-! ### two operands -/
abbrev RD := D → D → Store → (D → Store → Prop) → Prop
def wOp (R : RD) (wa wb : WE) : WE := fun ρ S Q => wa ρ S fun x S1 => wb ρ S1 fun y S2 => R x y S2 Q
def OpD (K : PySem.W.Frag) (r : R2) (R : RD) : Prop := ∀ (μ : Mu) (S : Store) (H : Hp) (x y : D) (vx vy : V) (Q0 : D → Store → Prop) (Q : VK), Sim K μ S H → Rep K μ H x vx → Rep K μ H y vy → R x y S Q0 → Post K μ H Q0 Q → r vx vy H Q
theorem se_bin {r : R2} {R : RD} (hc : OpD X.K r R) (ha : SE X a wa) (hb : SE X b wb) (hpe : PE X e (tOp r (LE X.K wa) (LE X.K wb))) : SE X e (wOp R wa wb) := pe_weak hpe fun σ H Q ⟨μ, S, ρ, Q0, m, en, q, p⟩ => by
  refine LE.run m en q fun x S1 μ1 vx H1 q1 g1 m1 e1 r1 => ?_
  refine LE.run m1 e1 q1 fun y S2 μ2 vy H2 q2 g2 m2 e2 r2 => ?_
  exact hc μ2 S2 H2 x y vx vy Q0 Q m2 (r1.grow g2) r2 q2 (p.go (g1.trans g2))
theorem se_op {op : Operator} {r : R2} {R : RD} (hc : OpD X.K r R) (ho : OpR X (binaryOp op) r) (ha : SE X a wa) (hb : SE X b wb) : SE X (.BinOp a op b pos) (wOp R wa wb) := se_bin hc ha hb (pe_op ho ha hb)
theorem se_cmpR {op : CmpOp} {r : R2} {R : RD} (hc : OpD X.K r R) (ho : OpR X (compareOp op) r) (ha : SE X a wa) (hb : SE X b wb) (hm : behindInMarks op b = false) : SE X (.Compare a [op] [b] pos) (wOp R wa wb) := se_bin hc ha hb (pe_cmpR ho ha hb hm)
def wTest (w : WE) : WT := fun ρ S Q => w ρ S fun d S1 => match d with | .bl k => Q k S1 | _ => False
theorem st_cmpR {op : CmpOp} {r : R2} {R : RD} (hc : OpD X.K r R) (ho : OpR X (compareOp op) r) (ha : SE X a wa) (hb : SE X b wb) (hm : behindInMarks op b = false) : ST X (.Compare a [op] [b] pos) (wTest (wOp R wa wb)) :=
  pt_weak (pt_cmpR ho ha hb hm) fun σ H Q ⟨μ, S, ρ, Q0, m, en, q, p⟩ => by
    refine LE.run m en q fun x S1 μ1 vx H1 q1 g1 m1 e1 r1 => ?_
    refine LE.run m1 e1 q1 fun y S2 μ2 vy H2 q2 g2 m2 e2 r2 => ?_
    refine hc μ2 S2 H2 x y vx vy _ _ m2 (r1.grow g2) r2 q2 fun d S3 q3 μ3 v H3 g3 m3 r3 => ?_
    cases r3 with
    | bl k => exact ⟨k, rfl, p k S3 q3 μ3 H3 ((g1.trans g2).trans g3) m3⟩
    | _ => exact q3.elim
end

/-! ### the operators by content -/
def MulOk (i j : Int) : Prop := IntMulOk i j
def DivOk (j : Int) : Prop := 0 < j ∧ j.natAbs.log2 < 9000
theorem MulOk.l {i j : Int} (h1 : -(2 ^ 64) < i) (h2 : i < 2 ^ 64) : MulOk i j := CMul.ok (.inl ⟨h1, h2⟩)
theorem MulOk.r {i j : Int} (h1 : -(2 ^ 64) < j) (h2 : j < 2 ^ 64) : MulOk i j := CMul.ok (.inr ⟨h1, h2⟩)
theorem MulOk.w {i j : Int} (h : i.natAbs.log2 + j.natAbs.log2 < 1000000) : MulOk i j := CMulW.ok h
theorem DivOk.of {j : Int} (h : 0 < j) (h2 : j < 2 ^ 200) : DivOk j := ⟨h, (wide_div (i := 0) (b := 200) h (by omega) (by decide) (by decide)).2⟩
def rAdd : RD
  | .int i, .int j, S, Q => Q (.int (i + j)) S
  | .str a, .str b, S, Q => a.length + b.length ≤ sizeLine ∧ Q (.str (a ++ b)) S
  | .tup a, .tup b, S, Q => a ≠ [] ∧ a.length + b.length ≤ sizeLine ∧ Q (.tup (a ++ b)) S
  | _, _, _, _ => False
def rSub : RD
  | .int i, .int j, S, Q => Q (.int (i - j)) S
  | _, _, _, _ => False
def rMul : RD
  | .int i, .int j, S, Q => MulOk i j ∧ Q (.int (i * j)) S
  | _, _, _, _ => False
def rDiv : RD
  | .int i, .int j, S, Q => DivOk j ∧ Q (.int (i / j)) S
  | _, _, _, _ => False
def rMod : RD
  | .int i, .int j, S, Q => 0 < j ∧ Q (.int (i % j)) S
  | _, _, _, _ => False
def rPow : RD
  | .int i, .int j, S, Q => CPow i j ∧ Q (.int (i ^ j.toNat)) S
  | _, _, _, _ => False
def rLt : RD
  | .int i, .int j, S, Q => Q (.bl (decide (i < j))) S
  | _, _, _, _ => False
def rLe : RD
  | .int i, .int j, S, Q => Q (.bl (decide (i ≤ j))) S
  | _, _, _, _ => False
def rGt : RD
  | .int i, .int j, S, Q => Q (.bl (decide (j < i))) S
  | _, _, _, _ => False
def rGe : RD
  | .int i, .int j, S, Q => Q (.bl (decide (j ≤ i))) S
  | _, _, _, _ => False

section
variable {K : PySem.W.Frag}
/-- ints alone -/
theorem opd_I {R : RD} {g : Int → Int → D} {gv : Int → Int → V} {C : Int → Int → Prop} {C' : Int → Int → Prop} (h : ∀ i j S Q, R (.int i) (.int j) S Q = (C i j ∧ Q (g i j) S)) (hr : ∀ μ H i j, Rep K μ H (g i j) (gv i j)) (hC : ∀ i j, C i j → C' i j)
    (hn : ∀ x y S Q, R x y S Q → ∃ i j, x = .int i ∧ y = .int j) : OpD K (rI C' gv) R := by
  intro μ S H x y vx vy Q0 Q m rx ry q p
  obtain ⟨i, j, rfl, rfl⟩ := hn x y S Q0 q
  rw [h] at q
  exact ⟨i, j, rx.int_inv, ry.int_inv, hC _ _ q.1, p.now m (hr _ _ _ _) q.2⟩
theorem opd_I0 {R : RD} {g : Int → Int → D} {gv : Int → Int → V} (h : ∀ i j S Q, R (.int i) (.int j) S Q = Q (g i j) S) (hr : ∀ μ H i j, Rep K μ H (g i j) (gv i j))
    (hn : ∀ x y S Q, R x y S Q → ∃ i j, x = .int i ∧ y = .int j) : OpD K (rI0 gv) R := by
  intro μ S H x y vx vy Q0 Q m rx ry q p
  obtain ⟨i, j, rfl, rfl⟩ := hn x y S Q0 q
  rw [h] at q
  exact ⟨i, j, rx.int_inv, ry.int_inv, p.now m (hr _ _ _ _) q⟩
theorem opd_sub : OpD K (rI0 fun i j => .int (i - j)) rSub := opd_I0 (fun _ _ _ _ => rfl) (fun _ _ _ _ => .int _) fun x y S Q h => by
  unfold rSub at h; split at h <;> first | exact ⟨_, _, rfl, rfl⟩ | exact h.elim
theorem opd_mul : OpD K (rI MulOk fun i j => .int (i * j)) rMul := opd_I (fun _ _ _ _ => rfl) (fun _ _ _ _ => .int _) (fun _ _ h => h) fun x y S Q h => by
  unfold rMul at h; split at h <;> first | exact ⟨_, _, rfl, rfl⟩ | exact h.elim
theorem opd_div : OpD K (rI CDivW fun i j => .int (i / j)) rDiv := opd_I (C := fun _ j => DivOk j) (fun _ _ _ _ => rfl) (fun _ _ _ _ => .int _) (fun _ _ h => h) fun x y S Q h => by
  unfold rDiv at h; split at h <;> first | exact ⟨_, _, rfl, rfl⟩ | exact h.elim
theorem opd_mod : OpD K (rI (fun _ j => 0 < j) fun i j => .int (i % j)) rMod := opd_I (C := fun _ j => 0 < j) (fun _ _ _ _ => rfl) (fun _ _ _ _ => .int _) (fun _ _ h => h) fun x y S Q h => by
  unfold rMod at h; split at h <;> first | exact ⟨_, _, rfl, rfl⟩ | exact h.elim
theorem opd_pow : OpD K (rI CPow fun i j => .int (i ^ j.toNat)) rPow := opd_I (fun _ _ _ _ => rfl) (fun _ _ _ _ => .int _) (fun _ _ h => h) fun x y S Q h => by
  unfold rPow at h; split at h <;> first | exact ⟨_, _, rfl, rfl⟩ | exact h.elim
theorem opd_lt : OpD K (rI0 fun i j => .bl (decide (i < j))) rLt := opd_I0 (fun _ _ _ _ => rfl) (fun _ _ _ _ => .bl _) fun x y S Q h => by
  unfold rLt at h; split at h <;> first | exact ⟨_, _, rfl, rfl⟩ | exact h.elim
theorem opd_le : OpD K (rI0 fun i j => .bl (decide (i ≤ j))) rLe := opd_I0 (fun _ _ _ _ => rfl) (fun _ _ _ _ => .bl _) fun x y S Q h => by
  unfold rLe at h; split at h <;> first | exact ⟨_, _, rfl, rfl⟩ | exact h.elim
theorem opd_gt : OpD K (rI0 fun i j => .bl (decide (j < i))) rGt := opd_I0 (fun _ _ _ _ => rfl) (fun _ _ _ _ => .bl _) fun x y S Q h => by
  unfold rGt at h; split at h <;> first | exact ⟨_, _, rfl, rfl⟩ | exact h.elim
theorem opd_ge : OpD K (rI0 fun i j => .bl (decide (j ≤ i))) rGe := opd_I0 (fun _ _ _ _ => rfl) (fun _ _ _ _ => .bl _) fun x y S Q h => by
  unfold rGe at h; split at h <;> first | exact ⟨_, _, rfl, rfl⟩ | exact h.elim
def rAddS : R2 := fun x y H Q => ∃ i j, x = .str i ∧ y = .str j ∧ i.length + j.length ≤ sizeLine ∧ Q (.str (i ++ j)) H
def rAddV (K : PySem.W.Frag) : R2 := fun x y H Q => rI0 (fun i j => .int (i + j)) x y H Q ∨ (rAddS x y H Q ∨ rCatT K x y H Q)
theorem op_addV {X : Cx} : OpR X (binaryOp .Add) (rAddV X.K) := op_add.or (op_add_str.or op_catT)
theorem Sim.newT {μ : Mu} {S : Store} {H : Hp} {p : Addr} {ds : List D} {xs : List V} (hp : H p = none) (r : RepAll K μ H ds xs) : Rep K μ (upd H p (.tup xs)) (.tup ds) (.ref p) :=
  .tup (.inl (.inl upd_same)) (r.grow (.new hp))
theorem Sim.newL {μ : Mu} {S : Store} {H : Hp} {p : Addr} {ds : List D} {xs : List V} (m : Sim K μ S H) (hp : H p = none) (r : RepAll K μ H ds xs) : Rep K μ (upd H p (.lst xs)) (.lst ds) (.ref p) :=
  .lst (.inl ⟨.inl upd_same, m.notin hp⟩) (r.grow (.new hp))
theorem opd_add : OpD K (rAddV K) rAdd := by
  intro μ S H x y vx vy Q0 Q m rx ry q p
  unfold rAdd at q
  split at q
  · exact .inl ⟨_, _, rx.int_inv, ry.int_inv, p.now m (.int _) q⟩
  · exact .inr (.inl ⟨_, _, rx.str_inv, ry.str_inv, q.1, p.now m (.str _) q.2⟩)
  · rename_i a b
    obtain ⟨a1, xs, rfl, h1, r1⟩ := rx.tupS
    obtain ⟨a2, ys, rfl, h2, r2⟩ := ry.tupS
    obtain ⟨q1, q2, q3⟩ := q
    refine .inr (.inr ⟨a1, a2, xs, ys, rfl, rfl, h1, h2, ?_, by rw [← r1.length, ← r2.length]; exact q2, ?_⟩)
    · intro e
      subst e
      exact q1 (List.length_eq_zero_iff.mp r1.length)
    · refine ⟨fun e => ?_, fun e t ht => ?_⟩
      · subst e
        have : b = [] := List.length_eq_zero_iff.mp r2.length
        subst this
        rw [List.append_nil] at q3
        exact p.now m rx q3
      · exact p _ _ q3 _ _ _ (.new ht) (m.new ht) (Sim.newT (S := S) ht (r1.append r2))
  · exact q.elim
end
section
variable {X : Cx} {a b : Expr} {wa wb : WE} {pos : Pos}
theorem se_add (ha : SE X a wa) (hb : SE X b wb) : SE X (.BinOp a .Add b pos) (wOp rAdd wa wb) := se_op opd_add op_addV ha hb
theorem se_sub (ha : SE X a wa) (hb : SE X b wb) : SE X (.BinOp a .Sub b pos) (wOp rSub wa wb) := se_op opd_sub op_sub ha hb
theorem op_mulOk : OpR X (binaryOp .Mult) (rI MulOk fun i j => .int (i * j)) := opI fun _ _ _ _ _ _ _ hc q => mul_int q hc
theorem se_mul (ha : SE X a wa) (hb : SE X b wb) : SE X (.BinOp a .Mult b pos) (wOp rMul wa wb) := se_op opd_mul op_mulOk ha hb
theorem se_div (ha : SE X a wa) (hb : SE X b wb) : SE X (.BinOp a .FloorDiv b pos) (wOp rDiv wa wb) := se_op opd_div op_fdivW ha hb
theorem se_mod (ha : SE X a wa) (hb : SE X b wb) : SE X (.BinOp a .Mod b pos) (wOp rMod wa wb) := se_op opd_mod op_mod ha hb
theorem se_pow (ha : SE X a wa) (hb : SE X b wb) : SE X (.BinOp a .Pow b pos) (wOp rPow wa wb) := se_op opd_pow op_pow ha hb
theorem se_lt (ha : SE X a wa) (hb : SE X b wb) : SE X (.Compare a [.Lt] [b] pos) (wOp rLt wa wb) := se_cmpR opd_lt op_lt ha hb (nomark _)
theorem se_le (ha : SE X a wa) (hb : SE X b wb) : SE X (.Compare a [.LtE] [b] pos) (wOp rLe wa wb) := se_cmpR opd_le op_le ha hb (nomark _)
theorem se_gt (ha : SE X a wa) (hb : SE X b wb) : SE X (.Compare a [.Gt] [b] pos) (wOp rGt wa wb) := se_cmpR opd_gt op_gt ha hb (nomark _)
theorem se_ge (ha : SE X a wa) (hb : SE X b wb) : SE X (.Compare a [.GtE] [b] pos) (wOp rGe wa wb) := se_cmpR opd_ge op_ge ha hb (nomark _)
theorem st_lt (ha : SE X a wa) (hb : SE X b wb) : ST X (.Compare a [.Lt] [b] pos) (wTest (wOp rLt wa wb)) := st_cmpR opd_lt op_lt ha hb (nomark _)
theorem st_le (ha : SE X a wa) (hb : SE X b wb) : ST X (.Compare a [.LtE] [b] pos) (wTest (wOp rLe wa wb)) := st_cmpR opd_le op_le ha hb (nomark _)
theorem st_gt (ha : SE X a wa) (hb : SE X b wb) : ST X (.Compare a [.Gt] [b] pos) (wTest (wOp rGt wa wb)) := st_cmpR opd_gt op_gt ha hb (nomark _)
theorem st_ge (ha : SE X a wa) (hb : SE X b wb) : ST X (.Compare a [.GtE] [b] pos) (wTest (wOp rGe wa wb)) := st_cmpR opd_ge op_ge ha hb (nomark _)
end
end DL

set_option maxHeartbeats 4000000
namespace DL
open PySem PySem.Spec PyProof.Rows L2

/-! ### equality by content -/
mutual
def D.py : D → PyData
  | .non => .none
  | .bl b => .bool b
  | .int i => .int i
  | .str s => .str s
  | .tup ds => .tuple (pyAll ds)
  | .lst ds => .list (pyAll ds)
  | .ref _ => .dict []
def pyAll : List D → List PyData
  | [] => []
  | d :: ds => D.py d :: pyAll ds
end
section
variable {K : PySem.W.Frag} {μ : Mu} {H : Hp}
mutual
theorem Rep.dp : ∀ {d : D} {v : V}, Rep K μ H d v → d.py.canLay0 = true → Dp K H v d.py
  | _, _, .non, _ => .non
  | _, _, .bl b, _ => .bl b
  | _, _, .int i, _ => .int i
  | _, _, .str x, _ => .str x
  | .tup ds, _, .tup h r, c => .tup h (RepAll.dp r (by simpa [D.py, PyData.canLay0] using c))
  | .lst ds, _, .lst h r, c => .lst (h.imp And.left id) (RepAll.dp r (by simpa [D.py, PyData.canLay0] using c))
  | .ref n, _, .ref h, c => by simp [D.py, PyData.canLay0] at c
theorem RepAll.dp : ∀ {ds : List D} {vs : List V}, RepAll K μ H ds vs → PyData.canLayAll0 (pyAll ds) = true → DpAll K H vs (pyAll ds)
  | _, _, .nil, _ => .nil
  | d :: ds, _, .cons r t, c => by
    have c' : d.py.canLay0 = true ∧ PyData.canLayAll0 (pyAll ds) = true := by simpa [pyAll, PyData.canLayAll0] using c
    exact .cons (Rep.dp r c'.1) (RepAll.dp t c'.2)
end
end
/-- comparable by content -/
def okD (d : D) : Prop := SeqAt.shaped d.py = true
def eqv (x y : D) : Bool := PyData.eqv x.py y.py
def rEq : RD
  | .int i, .int j, S, Q => Q (.bl (decide (i = j))) S
  | .bl i, .bl j, S, Q => Q (.bl (decide (i = j))) S
  | .str i, .str j, S, Q => Q (.bl (decide (i = j))) S
  | x, y, S, Q => okD x ∧ okD y ∧ Q (.bl (eqv x y)) S
def rNe : RD
  | .int i, .int j, S, Q => Q (.bl (!decide (i = j))) S
  | .bl i, .bl j, S, Q => Q (.bl (!decide (i = j))) S
  | .str i, .str j, S, Q => Q (.bl (!decide (i = j))) S
  | x, y, S, Q => okD x ∧ okD y ∧ Q (.bl (!eqv x y)) S
def rEqV (K : PySem.W.Frag) : R2 := fun x y H Q => L2.rEq x y H Q ∨ rEqD K x y H Q
def rNeV (K : PySem.W.Frag) : R2 := fun x y H Q => L2.rNe x y H Q ∨ rNeD K x y H Q
theorem shaped_lay {d : PyData} (h : SeqAt.shaped d = true) : d.canLay0 = true := SeqAt.canLay_of_shaped h
theorem dec_vint {i j : Int} : decide (V.int i = V.int j) = decide (i = j) := by simp
theorem dec_vbl {i j : Bool} : decide (V.bl i = V.bl j) = decide (i = j) := by simp
theorem dec_vstr {i j : Str} : decide (V.str i = V.str j) = decide (i = j) := by simp
section
variable {K : PySem.W.Frag}
theorem opd_eq : OpD K (rEqV K) rEq := by
  intro μ S H x y vx vy Q0 Q m rx ry q p
  unfold rEq at q
  split at q
  · rw [rx.int_inv, ry.int_inv]
    exact .inl ⟨rfl, by rw [dec_vint]; exact p.now m (.bl _) q⟩
  · rw [rx.bl_inv, ry.bl_inv]
    exact .inl ⟨rfl, by rw [dec_vbl]; exact p.now m (.bl _) q⟩
  · rw [rx.str_inv, ry.str_inv]
    exact .inl ⟨rfl, by rw [dec_vstr]; exact p.now m (.bl _) q⟩
  · obtain ⟨q1, q2, q3⟩ := q
    exact .inr ⟨_, _, rx.dp (shaped_lay q1), ry.dp (shaped_lay q2), q1, q2, p.now m (.bl _) q3⟩
theorem opd_ne : OpD K (rNeV K) rNe := by
  intro μ S H x y vx vy Q0 Q m rx ry q p
  unfold rNe at q
  split at q
  · rw [rx.int_inv, ry.int_inv]
    exact .inl ⟨rfl, by rw [dec_vint]; exact p.now m (.bl _) q⟩
  · rw [rx.bl_inv, ry.bl_inv]
    exact .inl ⟨rfl, by rw [dec_vbl]; exact p.now m (.bl _) q⟩
  · rw [rx.str_inv, ry.str_inv]
    exact .inl ⟨rfl, by rw [dec_vstr]; exact p.now m (.bl _) q⟩
  · obtain ⟨q1, q2, q3⟩ := q
    exact .inr ⟨_, _, rx.dp (shaped_lay q1), ry.dp (shaped_lay q2), q1, q2, p.now m (.bl _) q3⟩
end
/-! ### is -/
def isC : D → D → Option Bool
  | .non, .non => some true
  | _, .non => some false
  | .bl a, .bl b => some (a == b)
  | .ref _, .bl _ => some false
  | .int _, .bl _ => some false
  | .str _, .bl _ => some false
  | .non, .bl _ => some false
  | .tup _, .bl _ => some false
  | .lst _, .bl _ => some false
  | _, _ => none
def rIs : RD := fun x y S Q => match isC x y with | some b => Q (.bl b) S | none => False
def rIsNot : RD := fun x y S Q => match isC x y with | some b => Q (.bl (!b)) S | none => False
def isV : V → V → Option Bool
  | .non, .non => some true
  | _, .non => some false
  | .bl a, .bl b => some (a == b)
  | .ref _, .bl _ => some false
  | .int _, .bl _ => some false
  | .str _, .bl _ => some false
  | .non, .bl _ => some false
  | _, _ => none
def rIsV : R2 := fun x y H Q => ∃ b, isV x y = some b ∧ Q (.bl b) H
def rIsNotV : R2 := fun x y H Q => ∃ b, isV x y = some b ∧ Q (.bl (!b)) H
section
variable {X : Cx}
theorem op_isV : OpR X (compareOp .Is) rIsV := by
  intro pins s σ H x y v u Q I rx ry h
  obtain ⟨b, e, q⟩ := h
  cases y with
  | non =>
    cases ry
    refine op_isN pins s σ H x .non v Value.none Q I rx rfl ⟨rfl, ?_⟩
    cases x <;> (cases e; exact q)
  | bl k =>
    cases ry
    cases x with
    | non => cases rx; cases e; exact wpAny_is_other rfl (fun z => nomatch z) ⟨.bl false, H, I, rfl, q⟩
    | bl a =>
      cases rx; cases e
      by_cases hk : a = k
      · subst hk; exact wpAny_is_self rfl ⟨.bl true, H, I, rfl, by simpa using q⟩
      · exact wpAny_is_other rfl (fun z => hk (Value.bool.inj z)) ⟨.bl false, H, I, rfl, by rw [beq_eq_false_iff_ne.mpr hk] at q; exact q⟩
    | int i => obtain ⟨t, rfl⟩ := rx; cases e; exact wpAny_is_other rfl (fun z => nomatch z) ⟨.bl false, H, I, rfl, q⟩
    | str i => obtain ⟨t, rfl⟩ := rx; cases e; exact wpAny_is_other rfl (fun z => nomatch z) ⟨.bl false, H, I, rfl, q⟩
    | ref a => cases rx; cases e; exact wpAny_is_other rfl (fun z => nomatch z) ⟨.bl false, H, I, rfl, q⟩
    | byt _ => cases e
    | flt _ => cases e
    | ty _ => cases e
  | _ => cases x <;> cases e
theorem op_isNotV : OpR X (compareOp .IsNot) rIsNotV := by
  intro pins s σ H x y v u Q I rx ry h
  obtain ⟨b, e, q⟩ := h
  cases y with
  | non =>
    cases ry
    refine op_notN pins s σ H x .non v Value.none Q I rx rfl ⟨rfl, ?_⟩
    cases x <;> (cases e; exact q)
  | bl k =>
    cases ry
    cases x with
    | non => cases rx; cases e; exact wpAny_isNot_other rfl (fun z => nomatch z) ⟨.bl true, H, I, rfl, q⟩
    | bl a =>
      cases rx; cases e
      by_cases hk : a = k
      · subst hk; exact wpAny_isNot_self rfl ⟨.bl false, H, I, rfl, by simpa using q⟩
      · exact wpAny_isNot_other rfl (fun z => hk (Value.bool.inj z)) ⟨.bl true, H, I, rfl, by rw [beq_eq_false_iff_ne.mpr hk] at q; exact q⟩
    | int i => obtain ⟨t, rfl⟩ := rx; cases e; exact wpAny_isNot_other rfl (fun z => nomatch z) ⟨.bl true, H, I, rfl, q⟩
    | str i => obtain ⟨t, rfl⟩ := rx; cases e; exact wpAny_isNot_other rfl (fun z => nomatch z) ⟨.bl true, H, I, rfl, q⟩
    | ref a => cases rx; cases e; exact wpAny_isNot_other rfl (fun z => nomatch z) ⟨.bl true, H, I, rfl, q⟩
    | byt _ => cases e
    | flt _ => cases e
    | ty _ => cases e
  | _ => cases x <;> cases e
end
theorem is_vd {K : PySem.W.Frag} {μ : Mu} {H : Hp} {x y : D} {vx vy : V} {b : Bool} (rx : Rep K μ H x vx) (ry : Rep K μ H y vy) (h : isC x y = some b) : isV vx vy = some b := by
  cases rx <;> cases ry <;> first | exact h | cases h
theorem opd_is {K : PySem.W.Frag} : OpD K rIsV rIs := by
  intro μ S H x y vx vy Q0 Q m rx ry q p
  unfold rIs at q
  cases e : isC x y with
  | none => rw [e] at q; exact q.elim
  | some b => rw [e] at q; exact ⟨b, is_vd rx ry e, p.now m (.bl _) q⟩
theorem opd_isNot {K : PySem.W.Frag} : OpD K rIsNotV rIsNot := by
  intro μ S H x y vx vy Q0 Q m rx ry q p
  unfold rIsNot at q
  cases e : isC x y with
  | none => rw [e] at q; exact q.elim
  | some b => rw [e] at q; exact ⟨b, is_vd rx ry e, p.now m (.bl _) q⟩

section
variable {X : Cx} {e a b c : Expr} {wa wb wc : WE} {pos : Pos} {ta tb tc : WT}
theorem op_eqV (hu : X.A.units + 64 < cLine) : OpR X (compareOp .Eq) (rEqV X.K) := op_eq.or (op_eqD hu)
theorem op_neV (hu : X.A.units + 64 < cLine) : OpR X (compareOp .NotEq) (rNeV X.K) := op_ne.or (op_neD hu)
theorem se_eq (hu : X.A.units + 64 < cLine) (ha : SE X a wa) (hb : SE X b wb) : SE X (.Compare a [.Eq] [b] pos) (wOp rEq wa wb) := se_cmpR opd_eq (op_eqV hu) ha hb (nomark _)
theorem se_ne (hu : X.A.units + 64 < cLine) (ha : SE X a wa) (hb : SE X b wb) : SE X (.Compare a [.NotEq] [b] pos) (wOp rNe wa wb) := se_cmpR opd_ne (op_neV hu) ha hb (nomark _)
theorem se_is (ha : SE X a wa) (hb : SE X b wb) : SE X (.Compare a [.Is] [b] pos) (wOp rIs wa wb) := se_cmpR opd_is op_isV ha hb (nomark _)
theorem se_isNot (ha : SE X a wa) (hb : SE X b wb) : SE X (.Compare a [.IsNot] [b] pos) (wOp rIsNot wa wb) := se_cmpR opd_isNot op_isNotV ha hb (nomark _)
theorem st_eq (hu : X.A.units + 64 < cLine) (ha : SE X a wa) (hb : SE X b wb) : ST X (.Compare a [.Eq] [b] pos) (wTest (wOp rEq wa wb)) := st_cmpR opd_eq (op_eqV hu) ha hb (nomark _)
theorem st_ne (hu : X.A.units + 64 < cLine) (ha : SE X a wa) (hb : SE X b wb) : ST X (.Compare a [.NotEq] [b] pos) (wTest (wOp rNe wa wb)) := st_cmpR opd_ne (op_neV hu) ha hb (nomark _)
theorem st_is (ha : SE X a wa) (hb : SE X b wb) : ST X (.Compare a [.Is] [b] pos) (wTest (wOp rIs wa wb)) := st_cmpR opd_is op_isV ha hb (nomark _)
theorem st_isNot (ha : SE X a wa) (hb : SE X b wb) : ST X (.Compare a [.IsNot] [b] pos) (wTest (wOp rIsNot wa wb)) := st_cmpR opd_isNot op_isNotV ha hb (nomark _)

/-! ### and, or, not, if .. else, truth, minus -/
def wAnd (t u : WT) : WT := fun ρ S Q => t ρ S fun k S1 => if k = true then u ρ S1 Q else Q false S1
def wOr (t u : WT) : WT := fun ρ S Q => t ρ S fun k S1 => if k = true then Q true S1 else u ρ S1 Q
def wNot (t : WT) : WT := fun ρ S Q => t ρ S fun k S1 => Q (!k) S1
variable {rest : List Expr}
theorem sw_and1 (ha : ST X a ta) : SW X (.BoolOp .And [a] pos) ta := pw_and1 ha
theorem sw_or1 (ha : ST X a ta) : SW X (.BoolOp .Or [a] pos) ta := pw_or1 ha
theorem sw_and (ha : ST X a ta) (hb : SW X (.BoolOp .And (b :: rest) pos) tb) : SW X (.BoolOp .And (a :: b :: rest) pos) (wAnd ta tb) := pw_weak (pw_and ha hb) fun σ H Q ⟨μ, S, ρ, Q0, m, en, q, p⟩ => by
  refine LT.run m en q fun k S1 μ1 H1 q1 g1 m1 e1 => ?_
  cases k with
  | true => exact LT.run m1 e1 q1 fun k S2 μ2 H2 q2 g2 m2 e2 => p k S2 q2 μ2 H2 (g1.trans g2) m2
  | false => exact p false S1 q1 μ1 H1 g1 m1
theorem sw_or (ha : ST X a ta) (hb : SW X (.BoolOp .Or (b :: rest) pos) tb) : SW X (.BoolOp .Or (a :: b :: rest) pos) (wOr ta tb) := pw_weak (pw_or ha hb) fun σ H Q ⟨μ, S, ρ, Q0, m, en, q, p⟩ => by
  refine LT.run m en q fun k S1 μ1 H1 q1 g1 m1 e1 => ?_
  cases k with
  | true => exact p true S1 q1 μ1 H1 g1 m1
  | false => exact LT.run m1 e1 q1 fun k S2 μ2 H2 q2 g2 m2 e2 => p k S2 q2 μ2 H2 (g1.trans g2) m2
theorem st_bool (h : SW X e ta) : ST X e ta := h.pt
theorem st_not (ha : ST X a ta) : ST X (.UnaryOp .Not a pos) (wNot ta) := pt_weak (pt_not ha) fun σ H Q ⟨μ, S, ρ, Q0, m, en, q, p⟩ =>
  LT.run m en q fun k S1 μ1 H1 q1 g1 m1 e1 => p (!k) S1 q1 μ1 H1 g1 m1
def wIfE (t : WT) (wa wb : WE) : WE := fun ρ S Q => t ρ S fun k S1 => if k = true then wa ρ S1 Q else wb ρ S1 Q
theorem se_if (hc : ST X c tc) (ha : SE X a wa) (hb : SE X b wb) : SE X (.IfExp c a b pos) (wIfE tc wa wb) := pe_weak (pe_ifExp hc ha hb) fun σ H Q ⟨μ, S, ρ, Q0, m, en, q, p⟩ => by
  refine LT.run m en q fun k S1 μ1 H1 q1 g1 m1 e1 => ?_
  cases k with
  | true => exact LE.run m1 e1 q1 fun d S2 μ2 v H2 q2 g2 m2 e2 r2 => p d S2 q2 μ2 v H2 (g1.trans g2) m2 r2
  | false => exact LE.run m1 e1 q1 fun d S2 μ2 v H2 q2 g2 m2 e2 r2 => p d S2 q2 μ2 v H2 (g1.trans g2) m2 r2
/-- truth -/
def rTru : D → Store → (Bool → Store → Prop) → Prop
  | .non, S, Q => Q false S
  | .bl b, S, Q => Q b S
  | .int i, S, Q => Q (i != 0) S
  | .str s, S, Q => s.length ≤ sizeLine ∧ Q (s.length != 0) S
  | .tup ds, S, Q => Q (!ds.isEmpty) S
  | .lst ds, S, Q => Q (!ds.isEmpty) S
  | .ref n, S, Q => match S[n]? with | some (.lst ds) => Q (!ds.isEmpty) S | _ => False
def wTru (w : WE) : WT := fun ρ S Q => w ρ S fun d S1 => rTru d S1 Q
theorem empty_rep {K : PySem.W.Frag} {μ : Mu} {H : Hp} {ds : List D} {vs : List V} (r : RepAll K μ H ds vs) : ds.isEmpty = vs.isEmpty := by cases r <;> rfl
theorem tru_rep {K : PySem.W.Frag} {μ : Mu} {S : Store} {H : Hp} {d : D} {v : V} {Q : Bool → Store → Prop} (m : Sim K μ S H) (r : Rep K μ H d v) (h : rTru d S Q) : ∃ k, TruV K v H k ∧ Q k S := by
  cases r with
  | non => exact ⟨false, rfl, h⟩
  | bl b => exact ⟨b, rfl, h⟩
  | int i => exact ⟨_, rfl, h⟩
  | str x =>
    refine ⟨_, ⟨h.1, rfl⟩, ?_⟩
    have e : (((x.length : Nat) : Int) != 0) = (x.length != 0) := by
      by_cases hx : x.length = 0
      · simp [hx]
      · have hx' : ((x.length : Nat) : Int) ≠ 0 := by omega
        rw [bne, bne, beq_eq_false_iff_ne.mpr hx, beq_eq_false_iff_ne.mpr hx']
    rw [e]
    exact h.2
  | tup hh r => exact ⟨_, .inr (.inl ⟨_, hh, rfl⟩), by rw [← empty_rep r]; exact h⟩
  | lst hh r => exact ⟨_, .inl ⟨_, hh.imp And.left id, rfl⟩, by rw [← empty_rep r]; exact h⟩
  | ref hn =>
    rename_i n a
    have h' : (match S[n]? with | some (.lst ds) => Q (!ds.isEmpty) S | _ => False) := h
    split at h'
    · rename_i ds hd
      obtain ⟨a', xs, e, h1, h2, h3⟩ := m.at hd (.ref hn)
      cases e
      exact ⟨_, .inl ⟨xs, SqL.of h2, rfl⟩, by rw [← empty_rep h3]; exact h'⟩
    · exact h'.elim
theorem st_tru (ha : SE X a wa) (he : ∀ whole, isTrue a X.env whole = (do let v ← whole; standAt a.pos; holding [v] (truthy v)) := by intro _; rfl) : ST X a (wTru wa) := pt_weak (pt_truth ha he) fun σ H Q ⟨μ, S, ρ, Q0, m, en, q, p⟩ => by
  refine LE.run m en q fun d S1 μ1 v H1 q1 g1 m1 e1 r1 => ?_
  obtain ⟨k, h1, h2⟩ := tru_rep m1 r1 q1
  exact ⟨k, h1, p k S1 h2 μ1 H1 g1 m1⟩
/-- and, or, not as values, of bools -/
def wBl (w : WE) (k : Bool → WE) : WE := fun ρ S Q => w ρ S fun d S1 => match d with | .bl b => k b ρ S1 Q | _ => False
def wAndV (wa wb : WE) : WE := wBl wa fun k ρ S Q => if k = true then wb ρ S Q else Q (.bl false) S
def wOrV (wa wb : WE) : WE := wBl wa fun k ρ S Q => if k = true then Q (.bl true) S else wb ρ S Q
def wNotV (wa : WE) : WE := wBl wa fun k ρ S Q => Q (.bl (!k)) S
theorem se_one {op} (h : SE X a wa) : SE X (.BoolOp op [a] pos) wa := pe_one h
theorem se_and (ha : SE X a wa) (hb : SE X (.BoolOp .And (b :: rest) pos) wb) : SE X (.BoolOp .And (a :: b :: rest) pos) (wAndV wa wb) := pe_weak (pe_and ha hb) fun σ H Q ⟨μ, S, ρ, Q0, m, en, q, p⟩ => by
  refine LE.run m en q fun d S1 μ1 v H1 q1 g1 m1 e1 r1 => ?_
  cases r1 with
  | bl k =>
    refine ⟨k, rfl, ?_⟩
    cases k with
    | true => exact LE.run m1 e1 q1 fun d S2 μ2 v H2 q2 g2 m2 e2 r2 => p d S2 q2 μ2 v H2 (g1.trans g2) m2 r2
    | false => exact p _ S1 q1 μ1 _ H1 g1 m1 (.bl false)
  | _ => exact q1.elim
theorem se_or (ha : SE X a wa) (hb : SE X (.BoolOp .Or (b :: rest) pos) wb) : SE X (.BoolOp .Or (a :: b :: rest) pos) (wOrV wa wb) := pe_weak (pe_or ha hb) fun σ H Q ⟨μ, S, ρ, Q0, m, en, q, p⟩ => by
  refine LE.run m en q fun d S1 μ1 v H1 q1 g1 m1 e1 r1 => ?_
  cases r1 with
  | bl k =>
    refine ⟨k, rfl, ?_⟩
    cases k with
    | false => exact LE.run m1 e1 q1 fun d S2 μ2 v H2 q2 g2 m2 e2 r2 => p d S2 q2 μ2 v H2 (g1.trans g2) m2 r2
    | true => exact p _ S1 q1 μ1 _ H1 g1 m1 (.bl true)
  | _ => exact q1.elim
theorem se_not (ha : SE X a wa) : SE X (.UnaryOp .Not a pos) (wNotV wa) := pe_weak (pe_not ha) fun σ H Q ⟨μ, S, ρ, Q0, m, en, q, p⟩ => by
  refine LE.run m en q fun d S1 μ1 v H1 q1 g1 m1 e1 r1 => ?_
  cases r1 with
  | bl k => exact ⟨k, rfl, p _ S1 q1 μ1 _ H1 g1 m1 (.bl _)⟩
  | _ => exact q1.elim
def wNeg (w : WE) : WE := fun ρ S Q => w ρ S fun d S1 => match d with | .int i => Q (.int (-i)) S1 | _ => False
theorem se_neg (ha : SE X a wa) : SE X (.UnaryOp .USub a pos) (wNeg wa) := pe_weak (pe_un un_neg ha) fun σ H Q ⟨μ, S, ρ, Q0, m, en, q, p⟩ => by
  refine LE.run m en q fun d S1 μ1 v H1 q1 g1 m1 e1 r1 => ?_
  cases r1 with
  | int i => exact ⟨i, rfl, p _ S1 q1 μ1 _ H1 g1 m1 (.int _)⟩
  | _ => exact q1.elim

/-! ### items -/
def atD (ds : List D) : Int → Option D
  | .ofNat n => ds[n]?
  | .negSucc n => if n < ds.length then ds[ds.length - 1 - n]? else none
theorem atD_nat {ds : List D} {n : Nat} : atD ds (n : Int) = ds[n]? := rfl
theorem atD_lit {ds : List D} {n : Nat} [OfNat Nat n] : atD ds (OfNat.ofNat (OfNat.ofNat n : Nat) : Int) = ds[(OfNat.ofNat n : Nat)]? := rfl
theorem at_rep {K : PySem.W.Frag} {μ : Mu} {H : Hp} {ds : List D} {vs : List V} {i : Int} {d : D} (r : RepAll K μ H ds vs) (h : atD ds i = some d) : ∃ v, atI vs i = some v ∧ Rep K μ H d v := by
  cases i with
  | ofNat n =>
    obtain ⟨v, h1, h2⟩ := r.get (show ds[n]? = some d from h)
    exact ⟨v, atI_nat h1, h2⟩
  | negSucc n =>
    have h' : (if n < ds.length then ds[ds.length - 1 - n]? else none) = some d := h
    split at h'
    · rename_i hn
      obtain ⟨v, h1, h2⟩ := r.get h'
      refine ⟨v, ?_, h2⟩
      rw [r.length] at h1 hn
      unfold atI ixN
      rw [if_neg (by omega), if_pos (by omega)]
      show vs[(Int.negSucc n + (vs.length : Int)).toNat]? = some v
      rw [show (Int.negSucc n + (vs.length : Int)).toNat = vs.length - 1 - n by omega]
      exact h1
    · cases h'
def rIx : RD
  | .tup ds, .int i, S, Q => match atD ds i with | some d => Q d S | none => False
  | .lst ds, .int i, S, Q => match atD ds i with | some d => Q d S | none => False
  | .ref n, .int i, S, Q => match S[n]? with | some (.lst ds) => (match atD ds i with | some d => Q d S | none => False) | _ => False
  | _, _, _, _ => False
def rIxV (K : PySem.W.Frag) : R2 := fun x y H Q => rIxL K x y H Q ∨ rIxT K x y H Q
theorem ix_V : IxR X (rIxV X.K) := ix_list.or ix_tup
theorem opd_ix {K : PySem.W.Frag} : OpD K (rIxV K) rIx := by
  intro μ S H x y vx vy Q0 Q m rx ry q p
  unfold rIx at q
  split at q
  · rename_i ds i
    obtain ⟨a, xs, rfl, h1, r1⟩ := rx.tupS
    split at q
    · rename_i d hd
      obtain ⟨v, h2, r2⟩ := at_rep r1 hd
      exact .inr ⟨a, xs, i, v, rfl, ry.int_inv, h1, h2, p.now m r2 q⟩
    · exact q.elim
  · rename_i ds i
    obtain ⟨a, xs, rfl, h1, r1⟩ := rx.lstS
    split at q
    · rename_i d hd
      obtain ⟨v, h2, r2⟩ := at_rep r1 hd
      exact .inl ⟨a, xs, i, v, rfl, ry.int_inv, h1, h2, p.now m r2 q⟩
    · exact q.elim
  · rename_i n i
    split at q
    · rename_i ds hn
      obtain ⟨a, xs, rfl, hm, h1, r1⟩ := m.at hn rx
      split at q
      · rename_i d hd
        obtain ⟨v, h2, r2⟩ := at_rep r1 hd
        exact .inl ⟨a, xs, i, v, rfl, ry.int_inv, SqL.of h1, h2, p.now m r2 q⟩
      · exact q.elim
    · exact q.elim
  · exact q.elim
theorem se_ix (ha : SE X a wa) (hb : SE X b wb) (hs : PlainIx b := by exact fun _ _ => rfl) : SE X (.Subscript a b pos) (wOp rIx wa wb) := se_bin opd_ix ha hb (pe_ix ix_V ha hb hs)

/-! ### displays -/
variable {es : List Expr} {wr : WA}
end
section
variable {X : Cx} {e a b c : Expr} {wa wb wc : WE} {pos : Pos} {es : List Expr} {wr : WA}
def wNil : WA := fun _ S Q => Q [] S
def wCons (w : WE) (wr : WA) : WA := fun ρ S Q => w ρ S fun d S1 => wr ρ S1 fun ds S2 => Q (d :: ds) S2
theorem sa_nil : SA X [] wNil := pa_weak pa_nil fun σ H Q ⟨μ, S, ρ, Q0, m, en, q, p⟩ => p [] S q μ [] H Grow.refl m .nil
theorem sa_cons (ha : SE X a wa) (hr : SA X es wr) (hs : starEach (a :: es) X.env = (false, eval a X.env) :: starEach es X.env := by rfl) : SA X (a :: es) (wCons wa wr) := pa_weak (pa_cons ha hr hs) fun σ H Q ⟨μ, S, ρ, Q0, m, en, q, p⟩ => by
  refine LE.run m en q fun d S1 μ1 v H1 q1 g1 m1 e1 r1 => ?_
  exact LA.run m1 e1 q1 fun ds S2 μ2 vs H2 q2 g2 m2 e2 r2 => p _ S2 q2 μ2 _ H2 (g1.trans g2) m2 (.cons (r1.grow g2) r2)
end
section
variable {X : Cx} {e a b c : Expr} {wa wb wc : WE} {pos : Pos} {es : List Expr} {wr : WA}
def wTup (w : WA) : WE := fun ρ S Q => w ρ S fun ds S1 => ds.length ≤ sizeLine ∧ Q (.tup ds) S1
/-- a list by content: never changed -/
def wLst (w : WA) : WE := fun ρ S Q => w ρ S fun ds S1 => ds.length ≤ sizeLine ∧ Q (.lst ds) S1
/-- a list that may change: an object of the store -/
def wNew (w : WA) : WE := fun ρ S Q => w ρ S fun ds S1 => ds.length ≤ sizeLine ∧ Q (.ref S1.length) (S1 ++ [.lst ds])
theorem se_tup {k} (h : SA X es wr) : SE X (.Tuple es k pos) (wTup wr) := pe_weak (pe_tup h) fun σ H Q ⟨μ, S, ρ, Q0, m, en, q, p⟩ => by
  refine LA.run m en q fun ds S1 μ1 vs H1 q1 g1 m1 e1 r1 => ⟨by rw [← r1.length]; exact q1.1, fun t ht => ?_⟩
  exact p _ S1 q1.2 μ1 _ _ (g1.trans (.new ht)) (m1.new ht) (Sim.newT (S := S) ht r1)
theorem se_lst (h : SA X es wr) : SE X (.List es pos) (wLst wr) := pe_weak (pe_lst h) fun σ H Q ⟨μ, S, ρ, Q0, m, en, q, p⟩ => by
  refine LA.run m en q fun ds S1 μ1 vs H1 q1 g1 m1 e1 r1 => ⟨by rw [← r1.length]; exact q1.1, fun t ht => ?_⟩
  exact p _ S1 q1.2 μ1 _ _ (g1.trans (.new ht)) (m1.new ht) (Sim.newL m1 ht r1)
theorem Sim.newR {K : PySem.W.Frag} {μ : Mu} {S : Store} {H : Hp} {p : Addr} (m : Sim K μ S H) : Rep K (μ.add p) H (.ref S.length) (.ref p) :=
  .ref (by rw [← m.len]; simp [Mu.add])
theorem Rep.refH {K : PySem.W.Frag} {μ : Mu} {H H' : Hp} {n : Nat} {v : V} (r : Rep K μ H (.ref n) v) : Rep K μ H' (.ref n) v := by
  cases r with
  | ref h => exact .ref h
theorem se_new (h : SA X es wr) : SE X (.List es pos) (wNew wr) := pe_weak (pe_lst h) fun σ H Q ⟨μ, S, ρ, Q0, m, en, q, p⟩ => by
  refine LA.run m en q fun ds S1 μ1 vs H1 q1 g1 m1 e1 r1 => ⟨by rw [← r1.length]; exact q1.1, fun t ht => ?_⟩
  exact p _ _ q1.2 _ _ _ (g1.trans (.alloc ht)) (m1.alloc ht r1) m1.newR.refH
end
end DL

set_option maxHeartbeats 4000000
namespace DL
open PySem PySem.Spec PyProof.Rows L2

/-! ### built-in calls by content -/
abbrev RC := List D → Store → (D → Store → Prop) → Prop
def CallD (K : PySem.W.Frag) (r : List V → Hp → VK → Prop) (R : RC) : Prop := ∀ (μ : Mu) (S : Store) (H : Hp) (ds : List D) (vs : List V) (Q0 : D → Store → Prop) (Q : VK), Sim K μ S H → RepAll K μ H ds vs → R ds S Q0 → Post K μ H Q0 Q → r vs H Q
def wCall (R : RC) (wr : WA) : WE := fun ρ S Q => wr ρ S fun ds S1 => R ds S1 Q
section
variable {X : Cx} {e a b c : Expr} {wa wb wc : WE} {pos p : Pos} {es : List Expr} {wr : WA} {x : Str} {id T : String} {r : List V → Hp → VK → Prop} {R : RC}
theorem se_callx (hd : CallD X.K r R) (ha : SA X es wr) (hp : PE X e (tCB r (LA X.K wr))) : SE X e (wCall R wr) := pe_weak hp fun σ H Q ⟨μ, S, ρ, Q0, m, en, q, p⟩ =>
  LA.run m en q fun ds S1 μ1 vs H1 q1 g1 m1 e1 r1 => hd μ1 S1 H1 ds vs Q0 Q m1 r1 q1 (p.go g1)
theorem se_callB (hd : CallD X.K r R) (hc : CallR X (.builtin id) r) (hg : Gl X x) (hm : X.mg x = none) (hv : bootBuiltins x = some (.builtin id)) (ha : SA X (a :: es) wr) (hn : x ≠ "__name__" := by decide) (hdb : (x == ("__debug__" : Str)) = false := by decide)
    (he : starEach (a :: es) X.env = (false, eval a X.env) :: starEach es X.env := by rfl) (hpl : (backTo pos (starEach es X.env)).any (·.1) = false := by rfl) : SE X (.Call (.Name x p) (a :: es) [] pos) (wCall R wr) :=
  se_callx hd ha (pe_callB hc hg hm hv ha hn hdb he hpl)
theorem se_callTy (hd : CallD X.K r R) (hc : CallR X (.type T) r) (hg : Gl X x) (hm : X.mg x = none) (hv : bootBuiltins x = some (.type T)) (ha : SA X (a :: es) wr) (hn : x ≠ "__name__" := by decide) (hdb : (x == ("__debug__" : Str)) = false := by decide)
    (he : starEach (a :: es) X.env = (false, eval a X.env) :: starEach es X.env := by rfl) (hpl : (backTo pos (starEach es X.env)).any (·.1) = false := by rfl) : SE X (.Call (.Name x p) (a :: es) [] pos) (wCall R wr) :=
  se_callx hd ha (pe_callTy hc hg hm hv ha hn hdb he hpl)
end
/-- len -/
def rLen : RC
  | [.tup ds], S, Q => Q (.int ds.length) S
  | [.lst ds], S, Q => Q (.int ds.length) S
  | [.str s], S, Q => s.length ≤ sizeLine ∧ Q (.int s.length) S
  | [.ref n], S, Q => match S[n]? with | some (.lst ds) => Q (.int ds.length) S | _ => False
  | _, _, _ => False
def rInt : RC
  | [.int i], S, Q => Q (.int i) S
  | [.bl b], S, Q => Q (.int (if b = true then 1 else 0)) S
  | _, _, _ => False
def rAbs : RC
  | [.int i], S, Q => Q (.int (if i < 0 then -i else i)) S
  | _, _, _ => False
def rGcdD : RC
  | [.int i, .int j], S, Q => Q (.int ((Nat.gcd i.natAbs j.natAbs : Nat) : Int)) S
  | _, _, _ => False
def rMax2 : RC
  | [.int i, .int j], S, Q => Q (.int (if j > i then j else i)) S
  | _, _, _ => False
def rMin2 : RC
  | [.int i, .int j], S, Q => Q (.int (if j < i then j else i)) S
  | _, _, _ => False
/-- tuple(x): of a list, a tuple -/
def rTuple : RC
  | [.tup ds], S, Q => Q (.tup ds) S
  | [.lst ds], S, Q => Q (.tup ds) S
  | [.ref n], S, Q => match S[n]? with | some (.lst ds) => Q (.tup ds) S | _ => False
  | _, _, _ => False
/-- list(x), by content; as an object of the store -/
def rList : RC
  | [.tup ds], S, Q => Q (.lst ds) S
  | [.lst ds], S, Q => Q (.lst ds) S
  | [.ref n], S, Q => match S[n]? with | some (.lst ds) => Q (.lst ds) S | _ => False
  | _, _, _ => False
def rListN : RC
  | [.tup ds], S, Q => Q (.ref S.length) (S ++ [.lst ds])
  | [.lst ds], S, Q => Q (.ref S.length) (S ++ [.lst ds])
  | [.ref n], S, Q => match S[n]? with | some (.lst ds) => Q (.ref S.length) (S ++ [.lst ds]) | _ => False
  | _, _, _ => False
section
variable {K : PySem.W.Frag}
theorem RepAll.one_inv {μ : Mu} {H : Hp} {d : D} {vs : List V} (r : RepAll K μ H [d] vs) : ∃ v, vs = [v] ∧ Rep K μ H d v := by
  cases r with
  | cons r t => cases t; exact ⟨_, rfl, r⟩
theorem RepAll.two_inv {μ : Mu} {H : Hp} {d e : D} {vs : List V} (r : RepAll K μ H [d, e] vs) : ∃ v u, vs = [v, u] ∧ Rep K μ H d v ∧ Rep K μ H e u := by
  cases r with
  | cons r t =>
    obtain ⟨u, rfl, r2⟩ := t.one_inv
    exact ⟨_, _, rfl, r, r2⟩
/-- what holds a row of items: a tuple, a list, an object of the store -/
theorem seq_rep {μ : Mu} {S : Store} {H : Hp} {ds : List D} {v : V} {d : D} (m : Sim K μ S H) (r : Rep K μ H d v) (h : d = .tup ds ∨ d = .lst ds ∨ ∃ n, d = .ref n ∧ S[n]? = some (.lst ds)) :
    ∃ a xs, v = .ref a ∧ (SqL K H a xs ∨ SqT K H a xs) ∧ RepAll K μ H ds xs := by
  rcases h with rfl | rfl | ⟨n, rfl, hn⟩
  · obtain ⟨a, xs, rfl, h1, r1⟩ := r.tupS
    exact ⟨a, xs, rfl, .inr h1, r1⟩
  · obtain ⟨a, xs, rfl, h1, r1⟩ := r.lstS
    exact ⟨a, xs, rfl, .inl h1, r1⟩
  · obtain ⟨a, xs, rfl, hm, h1, r1⟩ := m.at hn r
    exact ⟨a, xs, rfl, .inl (SqL.of h1), r1⟩
def rLenV (K : PySem.W.Frag) : List V → Hp → VK → Prop := fun xs H Q => (∃ p ys, xs = [.ref p] ∧ (SqL K H p ys ∨ SqT K H p ys) ∧ Q (.int ys.length) H) ∨ (∃ z, xs = [.str z] ∧ z.length ≤ sizeLine ∧ Q (.int z.length) H)
theorem cr_lenV {X : Cx} : CallR X (.builtin "len") (rLenV X.K) := call_len_seq.or call_len_str
theorem cd_len : CallD K (rLenV K) rLen := by
  intro μ S H ds vs Q0 Q m r q p
  unfold rLen at q
  split at q
  · rename_i ds
    obtain ⟨v, e1, r'⟩ := r.one_inv
    subst e1
    obtain ⟨a, xs, rfl, h1, r1⟩ := r'.tupS
    exact .inl ⟨a, xs, rfl, .inr h1, by rw [← r1.length]; exact p.now m (.int _) q⟩
  · rename_i ds
    obtain ⟨v, e1, r'⟩ := r.one_inv
    subst e1
    obtain ⟨a, xs, rfl, h1, r1⟩ := r'.lstS
    exact .inl ⟨a, xs, rfl, .inl h1, by rw [← r1.length]; exact p.now m (.int _) q⟩
  · obtain ⟨v, e1, r'⟩ := r.one_inv
    subst e1
    rw [r'.str_inv]
    exact .inr ⟨_, rfl, q.1, p.now m (.int _) q.2⟩
  · obtain ⟨v, e1, r'⟩ := r.one_inv
    subst e1
    split at q
    · rename_i ds hn
      obtain ⟨a, xs, rfl, hm, h1, r1⟩ := m.at hn r'
      exact .inl ⟨a, xs, rfl, .inl (SqL.of h1), by rw [← r1.length]; exact p.now m (.int _) q⟩
    · exact q.elim
  · exact q.elim
theorem cd_int : CallD K (fun xs H Q => (∃ i, xs = [.int i] ∧ Q (.int i) H) ∨ ∃ k, xs = [.bl k] ∧ Q (.int (if k then 1 else 0)) H) rInt := by
  intro μ S H ds vs Q0 Q m r q p
  unfold rInt at q
  split at q
  · obtain ⟨v, e1, r'⟩ := r.one_inv
    subst e1
    rw [r'.int_inv]
    exact .inl ⟨_, rfl, p.now m (.int _) q⟩
  · obtain ⟨v, e1, r'⟩ := r.one_inv
    subst e1
    rw [r'.bl_inv]
    exact .inr ⟨_, rfl, p.now m (.int _) q⟩
  · exact q.elim
theorem cd_abs : CallD K (fun xs H Q => ∃ i, xs = [.int i] ∧ Q (.int (if i < 0 then -i else i)) H) rAbs := by
  intro μ S H ds vs Q0 Q m r q p
  unfold rAbs at q
  split at q
  · obtain ⟨v, e1, r'⟩ := r.one_inv
    subst e1
    rw [r'.int_inv]
    exact ⟨_, rfl, p.now m (.int _) q⟩
  · exact q.elim
theorem cd_gcd : CallD K rGcd rGcdD := by
  intro μ S H ds vs Q0 Q m r q p
  unfold rGcdD at q
  split at q
  · obtain ⟨v, u, e1, r', r2⟩ := r.two_inv
    subst e1
    rw [r'.int_inv, r2.int_inv]
    exact ⟨_, _, rfl, p.now m (.int _) q⟩
  · exact q.elim
theorem cd_max2 : CallD K (fun xs H Q => ∃ i j, xs = [.int i, .int j] ∧ Q (.int (if j > i then j else i)) H) rMax2 := by
  intro μ S H ds vs Q0 Q m r q p
  unfold rMax2 at q
  split at q
  · obtain ⟨v, u, e1, r', r2⟩ := r.two_inv
    subst e1
    rw [r'.int_inv, r2.int_inv]
    exact ⟨_, _, rfl, p.now m (.int _) q⟩
  · exact q.elim
theorem cd_min2 : CallD K (fun xs H Q => ∃ i j, xs = [.int i, .int j] ∧ Q (.int (if j < i then j else i)) H) rMin2 := by
  intro μ S H ds vs Q0 Q m r q p
  unfold rMin2 at q
  split at q
  · obtain ⟨v, u, e1, r', r2⟩ := r.two_inv
    subst e1
    rw [r'.int_inv, r2.int_inv]
    exact ⟨_, _, rfl, p.now m (.int _) q⟩
  · exact q.elim
def rTupleV (K : PySem.W.Frag) : List V → Hp → VK → Prop := fun xs H Q => ∃ p ys, xs = [.ref p] ∧ ((SqL K H p ys ∧ ∀ l, H l = none → Q (.ref l) (upd H l (.tup ys))) ∨ (SqT K H p ys ∧ Q (.ref p) H))
theorem cd_tuple : CallD K (rTupleV K) rTuple := by
  intro μ S H ds vs Q0 Q m r q p
  unfold rTuple at q
  split at q
  · obtain ⟨v, e1, r'⟩ := r.one_inv
    subst e1
    obtain ⟨a, xs, rfl, h1, r1⟩ := r'.tupS
    exact ⟨a, xs, rfl, .inr ⟨h1, p.now m r' q⟩⟩
  · obtain ⟨v, e1, r'⟩ := r.one_inv
    subst e1
    obtain ⟨a, xs, rfl, h1, r1⟩ := r'.lstS
    exact ⟨a, xs, rfl, .inl ⟨h1, fun l hl => p _ _ q _ _ _ (.new hl) (m.new hl) (Sim.newT (S := S) hl r1)⟩⟩
  · obtain ⟨v, e1, r'⟩ := r.one_inv
    subst e1
    split at q
    · rename_i ds hn
      obtain ⟨a, xs, rfl, hm, h1, r1⟩ := m.at hn r'
      exact ⟨a, xs, rfl, .inl ⟨SqL.of h1, fun l hl => p _ _ q _ _ _ (.new hl) (m.new hl) (Sim.newT (S := S) hl r1)⟩⟩
    · exact q.elim
  · exact q.elim
def rListV (K : PySem.W.Frag) : List V → Hp → VK → Prop := fun xs H Q => ∃ p ys, xs = [.ref p] ∧ (SqL K H p ys ∨ SqT K H p ys) ∧ ∀ l, H l = none → Q (.ref l) (upd H l (.lst ys))
theorem cd_list : CallD K (rListV K) rList := by
  intro μ S H ds vs Q0 Q m r q p
  have key : ∀ d ds, Q0 (.lst ds) S → (∃ v, vs = [v] ∧ Rep K μ H d v) → (d = .tup ds ∨ d = .lst ds ∨ ∃ n, d = .ref n ∧ S[n]? = some (.lst ds)) → rListV K vs H Q := fun d ds q ⟨v, e, rv⟩ h => by
    subst e
    obtain ⟨a, xs, rfl, h1, r1⟩ := seq_rep m rv h
    exact ⟨a, xs, rfl, h1, fun l hl => p _ _ q _ _ _ (.new hl) (m.new hl) (Sim.newL m hl r1)⟩
  unfold rList at q
  split at q
  · exact key _ _ q r.one_inv (.inl rfl)
  · exact key _ _ q r.one_inv (.inr (.inl rfl))
  · split at q
    · rename_i ds hn
      exact key _ _ q r.one_inv (.inr (.inr ⟨_, rfl, hn⟩))
    · exact q.elim
  · exact q.elim
theorem cd_listN : CallD K (rListV K) rListN := by
  intro μ S H ds vs Q0 Q m r q p
  have key : ∀ d ds, Q0 (.ref S.length) (S ++ [.lst ds]) → (∃ v, vs = [v] ∧ Rep K μ H d v) → (d = .tup ds ∨ d = .lst ds ∨ ∃ n, d = .ref n ∧ S[n]? = some (.lst ds)) → rListV K vs H Q := fun d ds q ⟨v, e, rv⟩ h => by
    subst e
    obtain ⟨a, xs, rfl, h1, r1⟩ := seq_rep m rv h
    exact ⟨a, xs, rfl, h1, fun l hl => p _ _ q _ _ _ (.alloc hl) (m.alloc hl r1) m.newR.refH⟩
  unfold rListN at q
  split at q
  · exact key _ _ q r.one_inv (.inl rfl)
  · exact key _ _ q r.one_inv (.inr (.inl rfl))
  · split at q
    · rename_i ds hn
      exact key _ _ q r.one_inv (.inr (.inr ⟨_, rfl, hn⟩))
    · exact q.elim
  · exact q.elim
end
section
variable {X : Cx} {e a b c : Expr} {wa wb wc : WE} {pos p p1 p2 : Pos} {es : List Expr} {wr : WA} {x : Str}
theorem se_len (hg : Gl X "len") (hm : X.mg "len" = none) (ha : SA X (a :: es) wr) (he : starEach (a :: es) X.env = (false, eval a X.env) :: starEach es X.env := by rfl) (hpl : (backTo pos (starEach es X.env)).any (·.1) = false := by rfl) : SE X (.Call (.Name "len" p) (a :: es) [] pos) (wCall rLen wr) := se_callB cd_len cr_lenV hg hm (by decide +kernel) ha (by decide) (by decide) he hpl
theorem se_cint (hg : Gl X "int") (hm : X.mg "int" = none) (ha : SA X (a :: es) wr) (he : starEach (a :: es) X.env = (false, eval a X.env) :: starEach es X.env := by rfl) (hpl : (backTo pos (starEach es X.env)).any (·.1) = false := by rfl) : SE X (.Call (.Name "int" p) (a :: es) [] pos) (wCall rInt wr) := se_callTy cd_int call_int1 hg hm (by decide +kernel) ha (by decide) (by decide) he hpl
theorem se_abs (hg : Gl X "abs") (hm : X.mg "abs" = none) (ha : SA X (a :: es) wr) (he : starEach (a :: es) X.env = (false, eval a X.env) :: starEach es X.env := by rfl) (hpl : (backTo pos (starEach es X.env)).any (·.1) = false := by rfl) : SE X (.Call (.Name "abs" p) (a :: es) [] pos) (wCall rAbs wr) := se_callB cd_abs call_abs hg hm (by decide +kernel) ha (by decide) (by decide) he hpl
theorem se_tuple (hg : Gl X "tuple") (hm : X.mg "tuple" = none) (ha : SA X (a :: es) wr) (he : starEach (a :: es) X.env = (false, eval a X.env) :: starEach es X.env := by rfl) (hpl : (backTo pos (starEach es X.env)).any (·.1) = false := by rfl) : SE X (.Call (.Name "tuple" p) (a :: es) [] pos) (wCall rTuple wr) := se_callTy cd_tuple call_tuple_of hg hm (by decide +kernel) ha (by decide) (by decide) he hpl
theorem se_list (hg : Gl X "list") (hm : X.mg "list" = none) (ha : SA X (a :: es) wr) (he : starEach (a :: es) X.env = (false, eval a X.env) :: starEach es X.env := by rfl) (hpl : (backTo pos (starEach es X.env)).any (·.1) = false := by rfl) : SE X (.Call (.Name "list" p) (a :: es) [] pos) (wCall rList wr) := se_callTy cd_list call_list_of hg hm (by decide +kernel) ha (by decide) (by decide) he hpl
theorem se_listN (hg : Gl X "list") (hm : X.mg "list" = none) (ha : SA X (a :: es) wr) (he : starEach (a :: es) X.env = (false, eval a X.env) :: starEach es X.env := by rfl) (hpl : (backTo pos (starEach es X.env)).any (·.1) = false := by rfl) : SE X (.Call (.Name "list" p) (a :: es) [] pos) (wCall rListN wr) := se_callTy cd_listN call_list_of hg hm (by decide +kernel) ha (by decide) (by decide) he hpl
theorem se_max2 (hc : X.calm = true) (hg : Gl X "max") (hm : X.mg "max" = none) (ha : SA X (a :: es) wr) (he : starEach (a :: es) X.env = (false, eval a X.env) :: starEach es X.env := by rfl) (hpl : (backTo pos (starEach es X.env)).any (·.1) = false := by rfl) : SE X (.Call (.Name "max" p) (a :: es) [] pos) (wCall rMax2 wr) := se_callB cd_max2 (call_max2 hc) hg hm (by decide +kernel) ha (by decide) (by decide) he hpl
theorem se_min2 (hc : X.calm = true) (hg : Gl X "min") (hm : X.mg "min" = none) (ha : SA X (a :: es) wr) (he : starEach (a :: es) X.env = (false, eval a X.env) :: starEach es X.env := by rfl) (hpl : (backTo pos (starEach es X.env)).any (·.1) = false := by rfl) : SE X (.Call (.Name "min" p) (a :: es) [] pos) (wCall rMin2 wr) := se_callB cd_min2 (call_min2 hc) hg hm (by decide +kernel) ha (by decide) (by decide) he hpl
/-- from math import gcd -/
theorem se_gcd (hg : Gl X x) (hm : X.mg x = some (.builtin "math.gcd")) (ha : SA X (a :: es) wr) (hdb : (x == ("__debug__" : Str)) = false := by decide)
    (he : starEach (a :: es) X.env = (false, eval a X.env) :: starEach es X.env := by rfl) (hpl : (backTo pos (starEach es X.env)).any (·.1) = false := by rfl) : SE X (.Call (.Name x p) (a :: es) [] pos) (wCall rGcdD wr) :=
  se_callx cd_gcd ha (pe_callBfun cr_gcd hg hm ha hdb he hpl)

/-! ### isinstance(x, T), T a built-in class -/
def tyName : D → Store → Option String
  | .non, _ => some "NoneType"
  | .bl _, _ => some "bool"
  | .int _, _ => some "int"
  | .str _, _ => some "str"
  | .tup _, _ => some "tuple"
  | .lst _, _ => some "list"
  | .ref n, S => match S[n]? with | some (.lst _) => some "list" | _ => none
def isT : D → Store → String → Option Bool
  | .bl _, _, "int" => some true
  | d, S, T => if ["int", "bool", "str", "tuple", "list"].contains T then (tyName d S).map (· == T) else none
def wIsT (w : WE) (T : String) : WE := fun ρ S Q => w ρ S fun d S1 => match isT d S1 T with | some b => Q (.bl b) S1 | none => False
theorem kitB_all : ∀ a ∈ ["NoneType", "bool", "int", "str", "tuple", "list"], ∀ b ∈ ["int", "bool", "str", "tuple", "list"], kitB a b = some (if a = "bool" ∧ b = "int" then true else a == b) := by decide +kernel
theorem ty_rep {K : PySem.W.Frag} {μ : Mu} {S : Store} {H : Hp} {d : D} {v : V} {t : String} (m : Sim K μ S H) (r : Rep K μ H d v) (h : tyName d S = some t) : TyX K H v (.type t) ∧ t ∈ ["NoneType", "bool", "int", "str", "tuple", "list"] := by
  cases r with
  | non => cases h; exact ⟨.base .non, by decide⟩
  | bl b => cases h; exact ⟨.base (.bl b), by decide⟩
  | int b => cases h; exact ⟨.base (.int b), by decide⟩
  | str b => cases h; exact ⟨.base (.str b), by decide⟩
  | tup hh r =>
    cases h
    refine ⟨?_, by decide⟩
    rcases hh with (hh | ⟨o, hh⟩) | ⟨o, its, n, h1, h2, _⟩
    · exact .base (.tup hh)
    · exact .fTuple hh
    · exact .kTuple h1 h2
  | lst hh r =>
    cases h
    refine ⟨?_, by decide⟩
    rcases hh with ⟨hh | ⟨o, hh⟩, _⟩ | ⟨o, its, n, h1, h2, _⟩
    · exact .base (.lst hh)
    · exact .base (.frz hh)
    · exact .kList h1 h2
  | ref hn =>
    rename_i n a
    have h' : (match S[n]? with | some (.lst _) => some "list" | _ => none) = some t := h
    split at h'
    · rename_i ds hd
      cases h'
      obtain ⟨a', xs, e, h1, h2, h3⟩ := m.at hd (.ref hn)
      cases e
      exact ⟨.base (.lst h2), by decide⟩
    · cases h'
theorem isT_ty {d : D} {S : Store} {T : String} {b : Bool} (h : isT d S T = some b) : ∃ t, tyName d S = some t ∧ T ∈ ["int", "bool", "str", "tuple", "list"] ∧ b = (if t = "bool" ∧ T = "int" then true else t == T) := by
  unfold isT at h
  split at h
  · cases h
    exact ⟨"bool", rfl, by decide, rfl⟩
  · rename_i hne
    split at h
    · rename_i hc
      cases ht : tyName d S with
      | none => rw [ht] at h; cases h
      | some t =>
        rw [ht] at h
        have h' : some (t == T) = some b := h
        cases h'
        refine ⟨t, rfl, by simpa using hc, ?_⟩
        rw [if_neg]
        rintro ⟨rfl, rfl⟩
        cases d with
        | bl k => exact hne k rfl rfl
        | ref n =>
          have h2 : (match S[n]? with | some (.lst _) => some "list" | _ => none) = some "bool" := ht
          split at h2 <;> simp at h2
        | _ => simp [tyName] at ht
    · cases h
theorem se_isT {T : Str} {Tn : String} (hg : Gl X "isinstance") (hm : X.mg "isinstance" = none) (hgT : Gl X T) (hmT : X.mg T = none) (hT : bootBuiltins T = some (.type Tn)) (ha : SE X a wa) (hn : T ≠ "__name__" := by decide) (hd : (T == ("__debug__" : Str)) = false := by decide)
    (he : starEach [a, .Name T p2] X.env = (false, eval a X.env) :: starEach [.Name T p2] X.env := by rfl) :
    SE X (.Call (.Name "isinstance" p) [a, .Name T p2] [] pos) (wIsT wa Tn) :=
  pe_weak (pe_callB call_isi hg hm (by decide +kernel) (pa_cons ha (pa_cons (pe_bltn (v := .ty Tn) hgT hmT hT rfl hn hd) pa_nil) he) (by decide) (by decide) he) fun σ H Q ⟨μ, S, ρ, Q0, m, en, q, p⟩ => by
    refine LE.run m en q fun d S1 μ1 v H1 q1 g1 m1 e1 r1 => ?_
    split at q1
    · rename_i b hb
      obtain ⟨t, ht, hTm, hb2⟩ := isT_ty hb
      obtain ⟨ty, htm⟩ := ty_rep m1 r1 ht
      refine ⟨v, .ty Tn, .type t, .type Tn, b, rfl, .ty Tn, ty, kit_ty ?_, p _ S1 q1 μ1 _ H1 g1 m1 (.bl b)⟩
      rw [kitB_all t htm Tn hTm, hb2]
    · exact q1.elim
end
end DL

set_option maxHeartbeats 4000000
namespace DL
open PySem PySem.Spec PyProof.Rows L2

/-! ### statements by content -/
structure PostS (K : PySem.W.Frag) (μ : Mu) (H : Hp) (D0 : EndsD) (D : Ends) : Prop where
  nx : ∀ ρ' S', D0.nx ρ' S' → ∀ μ' σ' H', Grow μ H μ' H' → Sim K μ' S' H' → EnvR K μ' H' ρ' σ' → D.nx σ' H'
  rt : Post K μ H D0.rt D.rt
  bk : ∀ ρ' S', D0.bk ρ' S' → ∀ μ' σ' H', Grow μ H μ' H' → Sim K μ' S' H' → EnvR K μ' H' ρ' σ' → D.bk σ' H'
  ct : ∀ ρ' S', D0.ct ρ' S' → ∀ μ' σ' H', Grow μ H μ' H' → Sim K μ' S' H' → EnvR K μ' H' ρ' σ' → D.ct σ' H'
def LS (K : PySem.W.Frag) (w : WS) : TS := fun D σ H => ∃ μ S ρ D0, Sim K μ S H ∧ EnvR K μ H ρ σ ∧ w D0 ρ S ∧ PostS K μ H D0 D
abbrev SS (X : Cx) (st : Stmt) (w : WS) : Prop := PS X st (LS X.K w)
abbrev SSs (X : Cx) (sts : List Stmt) (w : WS) : Prop := PSs X sts (LS X.K w)
theorem PostS.go {K : PySem.W.Frag} {μ μ' : Mu} {H H' : Hp} {D0 : EndsD} {D : Ends} (h : PostS K μ H D0 D) (g : Grow μ H μ' H') : PostS K μ' H' D0 D :=
  ⟨fun r s q m2 σ2 H2 g2 => h.nx r s q m2 σ2 H2 (g.trans g2), h.rt.go g, fun r s q m2 σ2 H2 g2 => h.bk r s q m2 σ2 H2 (g.trans g2), fun r s q m2 σ2 H2 g2 => h.ct r s q m2 σ2 H2 (g.trans g2)⟩
section
variable {X : Cx} {st : Stmt} {sts : List Stmt}
theorem ps_weak {t t' : TS} (h : PS X st t) (hw : ∀ D σ H, t' D σ H → t D σ H) : PS X st t' := ⟨fun pins s σ H D I q => h.run pins s σ H D I (hw _ _ _ q)⟩
theorem pss_weak {t t' : TS} (h : PSs X sts t) (hw : ∀ D σ H, t' D σ H → t D σ H) : PSs X sts t' := ⟨fun pins s σ H D I q => h.run pins s σ H D I (hw _ _ _ q)⟩
end
section
variable {X : Cx} {st : Stmt} {rest : List Stmt} {t u : WS} {e a b c : Expr} {wa wb wc : WE} {wt : WT} {pos : Pos}
def wNext : WS := fun D ρ S => D.nx ρ S
def wSeq (t u : WS) : WS := fun D ρ S => t { D with nx := u D } ρ S
theorem ls_run {K : PySem.W.Frag} {w : WS} {D : Ends} {D0 D1 : EndsD} {μ : Mu} {S : Store} {ρ : Env} {σ : L2.St} {H : Hp} (m : Sim K μ S H) (en : EnvR K μ H ρ σ) (h : w D0 ρ S) (p : PostS K μ H D0 D) : LS K w D σ H := ⟨μ, S, ρ, D0, m, en, h, p⟩
theorem ls_seq {K : PySem.W.Frag} {D : Ends} {σ : L2.St} {H : Hp} (h : LS K (wSeq t u) D σ H) : tSeq (LS K t) (LS K u) D σ H := by
  obtain ⟨μ, S, ρ, D0, m, en, q, p⟩ := h
  exact ⟨μ, S, ρ, { D0 with nx := u D0 }, m, en, q, fun ρ' S' q' μ' σ' H' g m' e' => ⟨μ', S', ρ', D0, m', e', q', p.go g⟩, p.rt, p.bk, p.ct⟩
theorem ss_nil : SSs X [] wNext := pss_weak pss_nil fun D σ H ⟨μ, S, ρ, D0, m, en, q, p⟩ => p.nx ρ S q μ σ H .refl m en
theorem ss_cons (h1 : SS X st t) (h2 : SSs X rest u) : SSs X (st :: rest) (wSeq t u) := pss_weak (pss_cons h1 h2) fun D σ H h => ls_seq h
theorem ss_one (h1 : SS X st t) : SSs X [st] t := pss_one h1
theorem ss_pass : SS X (.Pass pos) wNext := ps_weak ps_pass fun D σ H ⟨μ, S, ρ, D0, m, en, q, p⟩ => p.nx ρ S q μ σ H .refl m en
def wBreak : WS := fun D ρ S => D.bk ρ S
def wCont : WS := fun D ρ S => D.ct ρ S
theorem ss_break : SS X (.Break pos) wBreak := ps_weak ps_break fun D σ H ⟨μ, S, ρ, D0, m, en, q, p⟩ => p.bk ρ S q μ σ H .refl m en
theorem ss_continue : SS X (.Continue pos) wCont := ps_weak ps_continue fun D σ H ⟨μ, S, ρ, D0, m, en, q, p⟩ => p.ct ρ S q μ σ H .refl m en
def wDrop (w : WE) : WS := fun D ρ S => w ρ S fun _ S1 => D.nx ρ S1
theorem ss_expr (he : SE X e wa) (hs : swapsWith e none pos.line X.env = pure false := by rfl) : SS X (.Expr e pos) (wDrop wa) := ps_weak (ps_expr he hs) fun D σ H ⟨μ, S, ρ, D0, m, en, q, p⟩ =>
  LE.run m en q fun d S1 μ1 v H1 q1 g1 m1 e1 r1 => p.nx ρ S1 q1 μ1 σ H1 g1 m1 e1
def wRet (w : WE) : WS := fun D ρ S => w ρ S D.rt
theorem ss_ret (he : SE X e wa) : SS X (.Return (some e) pos) (wRet wa) := ps_weak (ps_ret he) fun D σ H ⟨μ, S, ρ, D0, m, en, q, p⟩ => ⟨μ, S, ρ, D0.rt, m, en, q, p.rt⟩
def wRetN : WS := fun D _ S => D.rt .non S
theorem ss_retN : SS X (.Return none pos) wRetN := ps_weak ps_retN fun D σ H ⟨μ, S, ρ, D0, m, en, q, p⟩ => p.rt .non S q μ _ H .refl m .non
def wIf (c : WT) (t u : WS) : WS := fun D ρ S => c ρ S fun k S1 => if k = true then t D ρ S1 else u D ρ S1
theorem ss_if {xs ys : List Stmt} (hc : ST X c wt) (ha : SSs X xs t) (hb : SSs X ys u) : SS X (.If c xs ys pos) (wIf wt t u) := ps_weak (ps_if hc ha hb) fun D σ H ⟨μ, S, ρ, D0, m, en, q, p⟩ => by
  refine LT.run m en q fun k S1 μ1 H1 q1 g1 m1 e1 => ?_
  cases k with
  | true => exact ⟨μ1, S1, ρ, D0, m1, e1, q1, p.go g1⟩
  | false => exact ⟨μ1, S1, ρ, D0, m1, e1, q1, p.go g1⟩
end

/-! ### targets -/
inductive Tg where
  | name (i : Nat)
  | tup (ts : List Tg)
mutual
def Tg.toV (K : PySem.W.Frag) : Tg → TG
  | .name i => gName i
  | .tup ts => gTup K ts.length (Tg.toVs K ts)
def Tg.toVs (K : PySem.W.Frag) : List Tg → TGs
  | [] => gNil
  | t :: ts => gCons (Tg.toV K t) (Tg.toVs K ts)
end
mutual
def bindT : Tg → D → Env → Option Env
  | .name i, d, ρ => some (ρ.set i (some d))
  | .tup ts, .tup ds, ρ => bindTs ts ds ρ
  | .tup _, _, _ => none
def bindTs : List Tg → List D → Env → Option Env
  | [], [], ρ => some ρ
  | t :: ts, d :: ds, ρ => match bindT t d ρ with | some ρ1 => bindTs ts ds ρ1 | none => none
  | _, _, _ => none
end
mutual
def Tg.slots : Tg → List Nat
  | .name i => [i]
  | .tup ts => Tg.slotsL ts
def Tg.slotsL : List Tg → List Nat
  | [] => []
  | t :: ts => Tg.slots t ++ Tg.slotsL ts
end
section
variable {K : PySem.W.Frag} {μ : Mu} {H : Hp}
theorem wipe_set {σ : L2.St} {i : Nat} {v : V} : ∀ {vs : List Nat}, i ∈ vs → wipe (σ.set i (some v)) vs = wipe σ vs := by
  intro vs h
  apply List.ext_getElem?
  intro j
  have key : ∀ (σ : L2.St) (vs : List Nat), (wipe σ vs)[j]? = if j ∈ vs then (σ[j]?).map (fun _ => none) else σ[j]? := by
    intro σ vs
    induction vs with
    | nil => simp [wipe]
    | cons w ws ih =>
      unfold wipe
      by_cases hw : w = j
      · subst hw
        rw [List.getElem?_set]
        simp only [List.mem_cons, true_or, if_true, wipe_length]
        by_cases hl : w < σ.length
        · simp [hl]
        · simp [hl]
      · rw [List.getElem?_set_ne hw, ih]
        have e1 : (j ∈ w :: ws) ↔ j ∈ ws := by simp [Ne.symm hw]
        simp only [e1]
  rw [key, key]
  by_cases hj : j ∈ vs
  · rw [if_pos hj, if_pos hj, List.getElem?_set]
    by_cases hij : i = j
    · subst hij
      by_cases hl : i < σ.length
      · simp [hl]
      · simp [hl]
    · simp [hij]
  · rw [if_neg hj, if_neg hj, List.getElem?_set_ne (fun e => hj (by rw [← e]; exact h))]
mutual
/-- binding: the frame behind, and which slots it wrote -/
theorem bind_ok (vs : List Nat) : ∀ (t : Tg) (d : D) (ρ ρ' : Env) (v : V) (σ : L2.St) (Q : L2.St → Hp → Prop), bindT t d ρ = some ρ' → Rep K μ H d v → EnvR K μ H ρ σ →
    (∀ σ', EnvR K μ H ρ' σ' → ((∀ i ∈ t.slots, i ∈ vs) → wipe σ' vs = wipe σ vs) → Q σ' H) → t.toV K v σ H Q
  | .name i, d, ρ, ρ', v, σ, Q, h, r, en, k => by
    have e : ρ.set i (some d) = ρ' := Option.some.inj (by simpa [bindT] using h)
    subst e
    show gName i v σ H Q
    exact k _ (en.set r) fun hs => wipe_set (hs i (by simp [Tg.slots]))
  | .tup ts, .tup ds, ρ, ρ', v, σ, Q, h, r, en, k => by
    cases r with
    | tup hh r =>
      have h' : bindTs ts ds ρ = some ρ' := by simpa [bindT] using h
      show gTup K ts.length (Tg.toVs K ts) _ σ H Q
      have hl := bindTs_len ts ds ρ ρ' h'
      refine ⟨_, _, rfl, hh, by rw [← r.length]; exact hl.symm, ?_⟩
      exact binds_ok vs ts ds ρ ρ' _ σ Q h' r en fun σ' e' hs => k σ' e' (by simpa [Tg.slots] using hs)
  | .tup ts, .non, ρ, ρ', v, σ, Q, h, r, en, k => by simp [bindT] at h
  | .tup ts, .bl _, ρ, ρ', v, σ, Q, h, r, en, k => by simp [bindT] at h
  | .tup ts, .int _, ρ, ρ', v, σ, Q, h, r, en, k => by simp [bindT] at h
  | .tup ts, .str _, ρ, ρ', v, σ, Q, h, r, en, k => by simp [bindT] at h
  | .tup ts, .lst _, ρ, ρ', v, σ, Q, h, r, en, k => by simp [bindT] at h
  | .tup ts, .ref _, ρ, ρ', v, σ, Q, h, r, en, k => by simp [bindT] at h
theorem bindTs_len : ∀ (ts : List Tg) (ds : List D) (ρ ρ' : Env), bindTs ts ds ρ = some ρ' → ts.length = ds.length
  | [], [], _, _, _ => rfl
  | t :: ts, d :: ds, ρ, ρ', h => by
    simp only [bindTs] at h
    split at h
    · rename_i ρ1 h1
      have := bindTs_len ts ds ρ1 ρ' h
      simp [this]
    · cases h
  | [], _ :: _, _, _, h => by simp [bindTs] at h
  | _ :: _, [], _, _, h => by simp [bindTs] at h
theorem binds_ok (vs : List Nat) : ∀ (ts : List Tg) (ds : List D) (ρ ρ' : Env) (us : List V) (σ : L2.St) (Q : L2.St → Hp → Prop), bindTs ts ds ρ = some ρ' → RepAll K μ H ds us → EnvR K μ H ρ σ →
    (∀ σ', EnvR K μ H ρ' σ' → ((∀ i ∈ Tg.slotsL ts, i ∈ vs) → wipe σ' vs = wipe σ vs) → Q σ' H) → Tg.toVs K ts us σ H Q
  | [], [], ρ, ρ', us, σ, Q, h, r, en, k => by
    have e : ρ = ρ' := Option.some.inj (by simpa [bindTs] using h)
    subst e
    cases r
    show gNil [] σ H Q
    exact ⟨rfl, k σ en fun _ => rfl⟩
  | t :: ts, d :: ds, ρ, ρ', us, σ, Q, h, r, en, k => by
    simp only [bindTs] at h
    split at h
    · rename_i ρ1 h1
      cases r with
      | cons r rr =>
        show gCons (Tg.toV K t) (Tg.toVs K ts) _ σ H Q
        refine ⟨_, _, rfl, ?_⟩
        refine bind_ok vs t d ρ ρ1 _ σ _ h1 r en fun σ1 e1 w1 => ?_
        refine binds_ok vs ts ds ρ1 ρ' _ σ1 Q h rr e1 fun σ2 e2 w2 => ?_
        refine k σ2 e2 fun hs => ?_
        rw [w2 fun i hi => hs i (by simp [Tg.slotsL, hi]), w1 fun i hi => hs i (by simp [Tg.slotsL, hi])]
    · cases h
  | [], _ :: _, _, _, _, _, _, h, _, _, _ => by simp [bindTs] at h
  | _ :: _, [], _, _, _, _, _, h, _, _, _ => by simp [bindTs] at h
end
theorem bind_len : ∀ (t : Tg) (d : D) (ρ ρ' : Env), bindT t d ρ = some ρ' → True := fun _ _ _ _ _ => True.intro
end
abbrev SG (X : Cx) (e : Expr) (t : Tg) : Prop := PG X e (t.toV X.K)
abbrev SGs (X : Cx) (es : List Expr) (ts : List Tg) : Prop := PGs X es (Tg.toVs X.K ts)
section
variable {X : Cx} {st : Stmt} {rest : List Stmt} {t u : WS} {e a b c : Expr} {wa wb wc : WE} {wt : WT} {pos p : Pos} {es : List Expr} {g : Tg} {gs : List Tg}
theorem sg_name {i : Nat} {x : Str} (hN : X.N.Nodup) (hi : X.N[i]? = some x := by rfl) (hx : Loc X.env.scope x := by first | exact Or.inl rfl | exact Or.inr rfl) (hf : X.fn x = true ∨ X.env.scope.names.lookup x = some .local := by first | exact .inl rfl | exact .inr rfl | assumption) : SG X (.Name x pos) (.name i) := pg_name hN hi hx hf
theorem sg_tup {k : Nat} (hc : X.calm = true) (h : SGs X es gs) (hn : (assignEach es X.env).length = gs.length := by rfl) (hst : (assignEach es X.env).findIdx? (·.1) = none := by rfl) : SG X (.Tuple es k pos) (.tup gs) := pg_tup hc h hn hst
theorem sgs_nil : SGs X [] [] := pgs_nil
theorem sgs_cons (h1 : SG X e g) (h2 : SGs X es gs) (hs : (assignEach (e :: es) X.env).map (·.2) = assign e X.env :: (assignEach es X.env).map (·.2) := by rfl) : SGs X (e :: es) (g :: gs) := pgs_cons h1 h2 hs
def wAsg (w : WE) (g : Tg) : WS := fun D ρ S => w ρ S fun d S1 => match bindT g d ρ with | some ρ' => D.nx ρ' S1 | none => False
theorem las_ok {K : PySem.W.Frag} {D : Ends} {σ : L2.St} {H : Hp} (h : LS K (wAsg wa g) D σ H) : tAsg (LE K wa) (g.toV K) D σ H := by
  obtain ⟨μ, S, ρ, D0, m, en, q, p⟩ := h
  refine LE.run m en q fun d S1 μ1 v H1 q1 g1 m1 e1 r1 => ?_
  split at q1
  · rename_i ρ' hb
    exact bind_ok [] g d ρ ρ' v σ _ hb r1 e1 fun σ' e' _ => p.nx ρ' S1 q1 μ1 σ' H1 g1 m1 e'
  · exact q1.elim
theorem ss_asg {tg : Expr} (he : SE X e wa) (hg : SG X tg g) (hs : swapsWithSole [tg] e pos.line X.env = pure false := by rfl) (hw : swappedStores [tg] e X.env = pure none := by rfl)
    (h1 : (assignEach [tg] X.env).map (·.2) = [assign tg X.env] := by rfl) : SS X (.Assign [tg] e pos) (wAsg wa g) := ps_weak (ps_asg he hg hs hw h1) fun D σ H h => las_ok h
theorem ss_set {i : Nat} {x : Str} {pos' : Pos} (hN : X.N.Nodup) (he : SE X e wa) (hi : X.N[i]? = some x := by rfl) (hx : Loc X.env.scope x := by first | exact Or.inl rfl | exact Or.inr rfl) (hs : swapsWith e (some (.Name x pos')) pos.line X.env = pure false := by rfl) (hf : X.fn x = true ∨ X.env.scope.names.lookup x = some .local := by first | exact .inl rfl | exact .inr rfl | assumption) :
    SS X (.Assign [.Name x pos'] e pos) (wAsg wa (.name i)) := ps_weak (ps_set hN hi hx he hs hf) fun D σ H h => las_ok h
/-- o[i] = e, a list of the store -/
def putAt (n : Nat) (k : Int) (d : D) (S : Store) (Q : Store → Prop) : Prop := match S[n]? with
  | some (.lst xs) => (match k with | .ofNat j => j < xs.length ∧ Q (S.set n (.lst (xs.set j d))) | .negSucc j => j < xs.length ∧ Q (S.set n (.lst (xs.set (xs.length - 1 - j) d))))
  | _ => False
def wPut (we wo wi : WE) : WS := fun D ρ S => we ρ S fun d S1 => wo ρ S1 fun o S2 => wi ρ S2 fun i S3 => match o, i with
  | .ref n, .int k => putAt n k d S3 (D.nx ρ)
  | _, _ => False
theorem ss_put {o i : Expr} {p1 : Pos} (he : SE X e wa) (ho : SE X o wb) (hi : SE X i wc)
    (ha : ∀ v, assign (.Subscript o i p1) X.env v = (do
      let ov ← holding [v] (eval o X.env)
      let iv ← holding [v, ov] (eval i X.env)
      standAt p1
      holding [v, ov, iv] (setItem ov iv v)
      release [v, ov, iv] []) := by intro _; rfl)
    (hs : swapsWithSole [.Subscript o i p1] e pos.line X.env = pure false := by rfl) (hw : swappedStores [.Subscript o i p1] e X.env = pure none := by rfl)
    (h1 : (assignEach [.Subscript o i p1] X.env).map (·.2) = [assign (.Subscript o i p1) X.env] := by rfl) : SS X (.Assign [.Subscript o i p1] e pos) (wPut wa wb wc) :=
  ps_weak (ps_asg he (pg_sub ho hi set_list ha) hs hw h1) fun D σ H ⟨μ, S, ρ, D0, m, en, q, p⟩ => by
    refine LE.run m en q fun d S1 μ1 v H1 q1 g1 m1 e1 r1 => ?_
    refine LE.run m1 e1 q1 fun o S2 μ2 vo H2 q2 g2 m2 e2 r2 => ?_
    refine LE.run m2 e2 q2 fun i S3 μ3 vi H3 q3 g3 m3 e3 r3 => ?_
    split at q3
    · rename_i n k
      unfold putAt at q3
      split at q3
      · rename_i xs hn
        obtain ⟨a, ys, rfl, h1, h2, h3⟩ := m3.at hn (r2.grow g3)
        have rv : Rep X.K μ3 H3 d v := r1.grow (g2.trans g3)
        have fin : ∀ j, j < xs.length → ixN ys.length k = some j → D0.nx ρ (S3.set n (.lst (xs.set j d))) → rSetL (.ref a) vi v H3 fun H4 => D.nx σ H4 := fun j hj hk q =>
          ⟨a, ys, k, j, rfl, r3.int_inv, h2, hk, p.nx _ _ q μ3 σ _ ((g1.trans g2).trans (g3.trans (.put m3 h1 h2))) (m3.put h1 h2 (h3.set rv j)) (e3.grow (.put m3 h1 h2))⟩
        have hl := h3.length
        cases k with
        | ofNat j => exact fin j q3.1 (by unfold ixN; rw [if_pos (by show (0 : Int) ≤ (j : Int); omega), if_pos (by have := q3.1; show (j : Int) < _; omega)]; rfl) q3.2
        | negSucc j =>
          refine fin _ (by have := q3.1; omega) ?_ q3.2
          have := q3.1
          unfold ixN
          rw [if_neg (by omega), if_pos (by omega)]
          congr 1
          omega
      · exact q3.elim
    · exact q3.elim
end
end DL

set_option maxHeartbeats 4000000
namespace DL
open PySem PySem.Spec PyProof.Rows L2

/-! ### what is walked -/
/-- J walks the items xs while G holds of the store -/
structure IsW (K : PySem.W.Frag) (μ : Mu) (H : Hp) (J : It) (xs : List D) (G : Store → Prop) : Prop where
  go : ∀ i μ2 H2 S2, i < xs.length → Grow μ H μ2 H2 → Sim K μ2 S2 H2 → G S2 → J.go i H2
  stop : ∀ μ2 H2 S2, Grow μ H μ2 H2 → Sim K μ2 S2 H2 → G S2 → J.stop xs.length H2
  yld : ∀ i μ2 H2 S2 x H3, i < xs.length → Grow μ H μ2 H2 → Sim K μ2 S2 H2 → G S2 → J.yld i H2 x H3 → ∃ d, xs[i]? = some d ∧ Grow μ2 H2 μ2 H3 ∧ Sim K μ2 S2 H3 ∧ Rep K μ2 H3 d x
abbrev WI := Env → Store → (List D → (Store → Prop) → Store → Prop) → Prop
def LI (K : PySem.W.Frag) (w : WI) : TI := fun σ H R => ∃ μ S ρ Q0, Sim K μ S H ∧ EnvR K μ H ρ σ ∧ w ρ S Q0 ∧ ∀ xs G S', Q0 xs G S' → ∀ μ' J H', Grow μ H μ' H' → Sim K μ' S' H' → IsW K μ' H' J xs G → R J H'
abbrev SI (X : Cx) (tg iter : Expr) (w : WI) : Prop := PI X tg iter (LI X.K w)
def wSeqI (w : WE) : WI := fun ρ S Q => w ρ S fun d S1 => match d with
  | .tup ds => Q ds (fun _ => True) S1
  | .lst ds => Q ds (fun _ => True) S1
  | .ref n => (match S1[n]? with | some (.lst ds) => Q ds (fun S => S[n]? = some (.lst ds)) S1 | _ => False)
  | _ => False
section
variable {K : PySem.W.Frag} {μ : Mu} {H : Hp} {a : Addr} {xs : List D} {vs : List V}
theorem isw_tup (h : Rd H a (.tup vs) ∨ KT K a vs) (r : RepAll K μ H xs vs) : IsW K μ H (Itt K a) xs (fun _ => True) where
  go := fun i μ2 H2 S2 hi g m _ => by
    have hi' : i < vs.length := by rw [← r.length]; exact hi
    exact ⟨vs, vs[i], h.imp (g.tup _ _) id, by simp [hi']⟩
  stop := fun μ2 H2 S2 g m _ => ⟨vs, h.imp (g.tup _ _) id, by rw [r.length]; exact Nat.le_refl _⟩
  yld := fun i μ2 H2 S2 x H3 hi g m _ y => by
    obtain ⟨rfl, y⟩ := y
    obtain ⟨d, h1, h2⟩ := r.getV (y vs (h.imp (g.tup _ _) id))
    exact ⟨d, h1, .refl, m, h2.grow g⟩
theorem isw_lst (h : (Rd H a (.lst vs) ∧ ¬ μ.has a) ∨ KL K a vs) (r : RepAll K μ H xs vs) : IsW K μ H (Itl K a) xs (fun _ => True) where
  go := fun i μ2 H2 S2 hi g m _ => by
    have hi' : i < vs.length := by rw [← r.length]; exact hi
    exact ⟨vs, vs[i], h.imp (fun z => (g.lst _ _ z.1 z.2).1) id, by simp [hi']⟩
  stop := fun μ2 H2 S2 g m _ => ⟨vs, h.imp (fun z => (g.lst _ _ z.1 z.2).1) id, by rw [r.length]; exact Nat.le_refl _⟩
  yld := fun i μ2 H2 S2 x H3 hi g m _ y => by
    obtain ⟨rfl, y⟩ := y
    obtain ⟨d, h1, h2⟩ := r.getV (y vs (h.imp (fun z => (g.lst _ _ z.1 z.2).1) id))
    exact ⟨d, h1, .refl, m, h2.grow g⟩
theorem isw_ref {n : Nat} (h : μ.sl[n]? = some (some a)) : IsW K μ H (Itl K a) xs (fun S => S[n]? = some (.lst xs)) where
  go := fun i μ2 H2 S2 hi g m hS => by
    obtain ⟨b, ws, h1, h2, h3⟩ := m.ob n xs hS
    rw [g.ref n a h] at h1
    cases h1
    have hi' : i < ws.length := by rw [← h3.length]; exact hi
    exact ⟨ws, ws[i], SqL.of h2, by simp [hi']⟩
  stop := fun μ2 H2 S2 g m hS => by
    obtain ⟨b, ws, h1, h2, h3⟩ := m.ob n xs hS
    rw [g.ref n a h] at h1
    cases h1
    exact ⟨ws, SqL.of h2, by rw [h3.length]; exact Nat.le_refl _⟩
  yld := fun i μ2 H2 S2 x H3 hi g m hS y => by
    obtain ⟨rfl, y⟩ := y
    obtain ⟨b, ws, h1, h2, h3⟩ := m.ob n xs hS
    rw [g.ref n a h] at h1
    cases h1
    obtain ⟨d, e1, e2⟩ := h3.getV (y ws (SqL.of h2))
    exact ⟨d, e1, .refl, m, e2⟩
theorem isw_range {lo : Int} {n : Nat} : IsW K μ H (Itr lo n) ((List.range n).map fun i => .int (lo + (i : Nat))) (fun _ => True) where
  go := fun i μ2 H2 S2 hi g m _ => by show i < n; simpa using hi
  stop := fun μ2 H2 S2 g m _ => by show n ≤ _; simp
  yld := fun i μ2 H2 S2 x H3 hi g m _ y => by
    obtain ⟨rfl, rfl⟩ := y
    have hi' : i < n := by simpa using hi
    exact ⟨.int (lo + i), by simp [hi'], .refl, m, .int _⟩
end
section
variable {X : Cx} {tg : Expr} {e l a b c : Expr} {wa wb wc : WE} {wr : WA} {es : List Expr} {pos p : Pos}
def iSeq (K : PySem.W.Frag) (tl : TE) : TI := fun σ H R => tl σ H fun x H1 => ∃ a, x = .ref a ∧ (((∃ xs, SqL K H1 a xs) ∧ R (Itl K a) H1) ∨ ((∃ xs, SqT K H1 a xs) ∧ R (Itt K a) H1))
theorem pi_seq {tl : TE} (hl : PE X l tl) : PI X tg l (iSeq X.K tl) := by
  refine ⟨fun pins s σ H R I h => ?_⟩
  refine thn (hl.run pins s σ H _ I h) fun v s1 ⟨x, H1, I1, r1, q1⟩ => ?_
  obtain ⟨a, e, q⟩ := q1
  subst e
  cases r1
  rcases q with ⟨⟨xs, hq⟩, q⟩ | ⟨⟨xs, hq⟩, q⟩
  · obtain ⟨its, rv, p, hz⟩ := I1.list hq
    refine wpAny_pyIter_list p.isList ?_
    refine ⟨s1.heap.objs.size, [s1.heap.objs.size], _, _, H1, rfl, I1.kept (t' := s1.toks) fun b o e => Heap.get?_push_of_some _ e, turn_list a _, ⟨_, Heap.get?_push_size _ rfl, rfl, rfl⟩, fun b hb => ?_, q⟩
    have e : b = s1.heap.objs.size := by simpa using hb
    subst e
    exact I1.fpOk (Nat.le_refl _) (I1.hok.fresh (Nat.le_refl _))
  · obtain ⟨its, rv, p, hz⟩ := I1.tuple hq
    refine wpAny_pyIter_tuple (show s1.heap.IsTuple a its.toArray from p) ?_
    refine ⟨s1.heap.objs.size, [s1.heap.objs.size], _, _, H1, rfl, I1.kept (t' := s1.toks) fun b o e => Heap.get?_push_of_some _ e, turn_tuple a _, ⟨_, Heap.get?_push_size _ rfl, rfl, rfl⟩, fun b hb => ?_, q⟩
    have e : b = s1.heap.objs.size := by simpa using hb
    subst e
    exact I1.fpOk (Nat.le_refl _) (I1.hok.fresh (Nat.le_refl _))
theorem pi_weak {t t' : TI} (h : PI X tg e t) (hw : ∀ σ H Q, t' σ H Q → t σ H Q) : PI X tg e t' := ⟨fun pins s σ H Q I q => h.run pins s σ H Q I (hw _ _ _ q)⟩
theorem si_seq (ha : SE X l wa) : SI X tg l (wSeqI wa) := pi_weak (pi_seq ha) fun σ H R ⟨μ, S, ρ, Q0, m, en, q, p⟩ => by
  refine LE.run m en q fun d S1 μ1 v H1 q1 g1 m1 e1 r1 => ?_
  split at q1
  · cases r1 with
    | tup hh r => exact ⟨_, rfl, .inr ⟨⟨_, hh⟩, p _ _ S1 q1 μ1 _ H1 g1 m1 (isw_tup hh r)⟩⟩
  · cases r1 with
    | lst hh r => exact ⟨_, rfl, .inl ⟨⟨_, hh.imp And.left id⟩, p _ _ S1 q1 μ1 _ H1 g1 m1 (isw_lst hh r)⟩⟩
  · split at q1
    · rename_i n _ ds hn
      obtain ⟨a, ys, rfl, h1, h2, h3⟩ := m1.at hn r1
      exact ⟨_, rfl, .inl ⟨⟨_, SqL.of h2⟩, p _ _ S1 q1 μ1 _ H1 g1 m1 (isw_ref h1)⟩⟩
    · exact q1.elim
  · exact q1.elim
def intsD (lo : Int) (n : Nat) : List D := (List.range n).map fun i => .int (lo + (i : Nat))
def wRange1 (w : WA) : WI := fun ρ S Q => w ρ S fun ds S1 => match ds with | [.int n] => (-(2 ^ 62) ≤ n ∧ n < 2 ^ 62) ∧ Q (intsD 0 n.toNat) (fun _ => True) S1 | _ => False
def wRange2 (w : WA) : WI := fun ρ S Q => w ρ S fun ds S1 => match ds with | [.int i, .int j] => (-(2 ^ 62) ≤ i ∧ i < 2 ^ 62 ∧ -(2 ^ 62) ≤ j ∧ j < 2 ^ 62) ∧ Q (intsD i (j - i).toNat) (fun _ => True) S1 | _ => False
theorem si_range1 (hg : Gl X "range") (hm : X.mg "range" = none) (ha : SA X [a] wr) (hs : starEach [a] X.env = [(false, eval a X.env)] := by rfl) : SI X tg (.Call (.Name "range" p) [a] [] pos) (wRange1 wr) :=
  pi_weak (pi_range1 hg hm ha hs) fun σ H R ⟨μ, S, ρ, Q0, m, en, q, p⟩ => by
    refine LA.run m en q fun ds S1 μ1 vs H1 q1 g1 m1 e1 r1 => ?_
    split at q1
    · obtain ⟨v, rfl, r⟩ := r1.one_inv
      rw [r.int_inv]
      exact ⟨_, rfl, q1.1.1, q1.1.2, p _ _ S1 q1.2 μ1 _ H1 g1 m1 isw_range⟩
    · exact q1.elim
theorem si_range2 (hg : Gl X "range") (hm : X.mg "range" = none) (ha : SA X [a, b] wr) (hs : starEach [a, b] X.env = [(false, eval a X.env), (false, eval b X.env)] := by rfl) (hs2 : starEach [b] X.env = [(false, eval b X.env)] := by rfl) : SI X tg (.Call (.Name "range" p) [a, b] [] pos) (wRange2 wr) :=
  pi_weak (pi_range2 hg hm ha hs hs2) fun σ H R ⟨μ, S, ρ, Q0, m, en, q, p⟩ => by
    refine LA.run m en q fun ds S1 μ1 vs H1 q1 g1 m1 e1 r1 => ?_
    split at q1
    · obtain ⟨v, u, rfl, r, r2⟩ := r1.two_inv
      rw [r.int_inv, r2.int_inv]
      exact ⟨_, _, rfl, q1.1, p _ _ S1 q1.2 μ1 _ H1 g1 m1 isw_range⟩
    · exact q1.elim

/-! ### for -/
def forR (g : Tg) (wb : WS) (G : Store → Prop) (D0 : EndsD) : List D → Env → Store → Prop
  | [], ρ, S => G S ∧ D0.nx ρ S
  | x :: r, ρ, S => G S ∧ match bindT g x ρ with
    | some ρ' => wb { D0 with nx := fun ρ S => forR g wb G D0 r ρ S, ct := fun ρ S => forR g wb G D0 r ρ S, bk := D0.nx } ρ' S
    | none => False
def wFor (wi : WI) (g : Tg) (wb : WS) : WS := fun D ρ S => wi ρ S fun xs G S1 => forR g wb G D xs ρ S1
theorem forR_G {g : Tg} {wb : WS} {G : Store → Prop} {D0 : EndsD} {xs : List D} {ρ : Env} {S : Store} (h : forR g wb G D0 xs ρ S) : G S := by
  cases xs with
  | nil => exact h.1
  | cons x r => exact h.1
theorem drop_cons {xs : List D} {i : Nat} {d : D} (h : xs[i]? = some d) : xs.drop i = d :: xs.drop (i + 1) := by
  obtain ⟨hi, e⟩ := List.getElem?_eq_some_iff.mp h
  rw [List.drop_eq_getElem_cons hi, e]
theorem ss_for {iter : Expr} {body : List Stmt} {wi : WI} {g : Tg} {wb : WS} (hp : PassesOwn (model X.prog X.w) X.A X.env X.xe) (hc : X.calm = true) (hi : SI X tg iter wi) (hg : SG X tg g) (hb : SSs X body wb)
    (hs : ∀ x, foldedSetIterable iter X.env x = pure x := by intro _; rfl) : SS X (.For tg iter body [] pos) (wFor wi g wb) := ps_weak (ps_for hp hc hi hg hb hs) fun D σ H ⟨μ, S, ρ, D0, m, en, q, p⟩ => by
  refine ⟨μ, S, ρ, _, m, en, q, fun xs G S1 q1 μ1 J H1 g1 m1 w1 => ?_⟩
  refine ⟨fun i n σ' H' => n = xs.length - i ∧ i ≤ xs.length ∧ ∃ μ' S' ρ', Grow μ1 H1 μ' H' ∧ Sim X.K μ' S' H' ∧ EnvR X.K μ' H' ρ' σ' ∧ forR g wb G D0 (xs.drop i) ρ' S', ⟨xs.length, by simp, Nat.zero_le _, μ1, S1, ρ, .refl, m1, en.grow g1, by simpa using q1⟩, ?_⟩
  rintro i n σ' H' ⟨rfl, hi, μ', S', ρ', g2, m2, e2, f⟩
  have hG := forR_G f
  by_cases hlt : i < xs.length
  · refine .inr ⟨w1.go i μ' H' S' hlt g2 m2 hG, fun σ2 H2 => ∃ μ2 S2 ρ2, Grow μ1 H1 μ2 H2 ∧ Sim X.K μ2 S2 H2 ∧ EnvR X.K μ2 H2 ρ2 σ2 ∧ forR g wb G D0 (xs.drop (i + 1)) ρ2 S2, fun σ2 H2 h => ⟨xs.length - (i + 1), by omega, rfl, hlt, h⟩, fun x H3 y => ?_⟩
    obtain ⟨d, hd, g3, m3, r3⟩ := w1.yld i μ' H' S' x H3 hlt g2 m2 hG y
    rw [drop_cons hd] at f
    obtain ⟨_, f⟩ := f
    split at f
    · rename_i ρ3 hb3
      refine bind_ok [] g d ρ' ρ3 x σ' _ hb3 r3 (e2.grow g3) fun σ3 e3 _ => ?_
      refine ⟨μ', S', ρ3, _, m3, e3, f, fun ρ4 S4 q4 μ4 σ4 H4 g4 m4 e4 => ⟨μ4, S4, ρ4, g2.trans (g3.trans g4), m4, e4, q4⟩, p.rt.go (g1.trans (g2.trans g3)), fun ρ4 S4 q4 μ4 σ4 H4 g4 m4 e4 => p.nx ρ4 S4 q4 μ4 σ4 H4 (g1.trans (g2.trans (g3.trans g4))) m4 e4,
        fun ρ4 S4 q4 μ4 σ4 H4 g4 m4 e4 => ⟨μ4, S4, ρ4, g2.trans (g3.trans g4), m4, e4, q4⟩⟩
    · exact f.elim
  · have e : i = xs.length := by omega
    subst e
    rw [List.drop_of_length_le (Nat.le_refl _)] at f
    exact .inl ⟨w1.stop μ' H' S' g2 m2 hG, p.nx ρ' S' f.2 μ' σ' H' (g1.trans g2) m2 e2⟩

/-! ### while -/
def wWhile (c : WT) (wb : WS) : WS := fun D ρ S => ∃ W : Nat → Env → Store → Prop, (∃ n, W n ρ S) ∧ ∀ n ρ S, W n ρ S →
  c ρ S fun k S1 => if k = true then wb { D with nx := fun ρ' S' => ∃ n', n' < n ∧ W n' ρ' S', ct := fun ρ' S' => ∃ n', n' < n ∧ W n' ρ' S', bk := D.nx } ρ S1 else D.nx ρ S1
theorem ss_while {body : List Stmt} {wt : WT} {wb : WS} (hp : PassesOwn (model X.prog X.w) X.A X.env X.xe) (hc : ST X c wt) (hb : SSs X body wb) : SS X (.While c body [] pos) (wWhile wt wb) := ps_weak (ps_while hp hc hb) fun D σ H ⟨μ, S, ρ, D0, m, en, q, p⟩ => by
  obtain ⟨W, ⟨n0, w0⟩, turn⟩ := q
  refine ⟨fun n σ' H' => ∃ μ' S' ρ', Grow μ H μ' H' ∧ Sim X.K μ' S' H' ∧ EnvR X.K μ' H' ρ' σ' ∧ W n ρ' S', ⟨n0, μ, S, ρ, .refl, m, en, w0⟩, ?_⟩
  rintro n σ' H' ⟨μ', S', ρ', g, m', e', w⟩
  refine LT.run m' e' (turn n ρ' S' w) fun k S1 μ1 H1 q1 g1 m1 e1 => ?_
  cases k with
  | true =>
    refine ⟨fun σ2 H2 => ∃ n', n' < n ∧ ∃ μ2 S2 ρ2, Grow μ H μ2 H2 ∧ Sim X.K μ2 S2 H2 ∧ EnvR X.K μ2 H2 ρ2 σ2 ∧ W n' ρ2 S2, fun σ2 H2 h => h, ?_⟩
    exact ⟨μ1, S1, ρ', _, m1, e1, q1, fun ρ4 S4 ⟨n', hn, q4⟩ μ4 σ4 H4 g4 m4 e4 => ⟨n', hn, μ4, S4, ρ4, g.trans (g1.trans g4), m4, e4, q4⟩, p.rt.go (g.trans g1),
      fun ρ4 S4 q4 μ4 σ4 H4 g4 m4 e4 => p.nx ρ4 S4 q4 μ4 σ4 H4 (g.trans (g1.trans g4)) m4 e4, fun ρ4 S4 ⟨n', hn, q4⟩ μ4 σ4 H4 g4 m4 e4 => ⟨n', hn, μ4, S4, ρ4, g.trans (g1.trans g4), m4, e4, q4⟩⟩
  | false => exact p.nx ρ' S1 q1 μ1 σ' H1 (g.trans g1) m1 e1

/-! ### methods of lists of the store -/
abbrev RM := D → List D → Store → (D → Store → Prop) → Prop
def isL (x : D) (S : Store) : Prop := match x with | .lst _ => True | .ref n => (match S[n]? with | some (.lst _) => True | _ => False) | _ => False
def wMeth (R : RM) (wo : WE) (wr : WA) : WE := fun ρ S Q => wo ρ S fun x S1 => isL x S1 ∧ wr ρ S1 fun ds S2 => R x ds S2 Q
def wMeth0 (R : RM) (wo : WE) : WE := fun ρ S Q => wo ρ S fun x S1 => isL x S1 ∧ R x [] S1 Q
def MethD (K : PySem.W.Frag) (r : V → List V → Hp → VK → Prop) (R : RM) : Prop := ∀ (μ : Mu) (S : Store) (H : Hp) (x : D) (v : V) (ds : List D) (vs : List V) (Q0 : D → Store → Prop) (Q : VK), Sim K μ S H → Rep K μ H x v → RepAll K μ H ds vs → R x ds S Q0 → Post K μ H Q0 Q → r v vs H Q
theorem isL_ty {K : PySem.W.Frag} {μ : Mu} {S : Store} {H : Hp} {x : D} {v : V} (m : Sim K μ S H) (r : Rep K μ H x v) (h : isL x S) : tyV K "list" v H := by
  cases r with
  | lst hh r => exact .inl ⟨rfl, _, hh.imp And.left id⟩
  | ref hn =>
    rename_i n a
    have h' : (match S[n]? with | some (.lst _) => True | _ => False) := h
    split at h'
    · rename_i ds hd
      obtain ⟨a', xs, e, h1, h2, h3⟩ := m.at hd (.ref hn)
      cases e
      exact .inl ⟨rfl, _, SqL.of h2⟩
    · exact h'.elim
  | _ => exact h.elim
theorem se_meth {r : V → List V → Hp → VK → Prop} {R : RM} (hd : MethD X.K r R) (hp : PE X e (tBM X.K "list" r (LE X.K wa) (LA X.K wr))) : SE X e (wMeth R wa wr) := pe_weak hp fun σ H Q ⟨μ, S, ρ, Q0, m, en, q, p⟩ => by
  refine LE.run m en q fun x S1 μ1 v H1 q1 g1 m1 e1 r1 => ⟨isL_ty m1 r1 q1.1, ?_⟩
  refine LA.run m1 e1 q1.2 fun ds S2 μ2 vs H2 q2 g2 m2 e2 r2 => ?_
  exact hd μ2 S2 H2 x v ds vs Q0 Q m2 (r1.grow g2) r2 q2 (p.go (g1.trans g2))
theorem se_meth0 {r : V → List V → Hp → VK → Prop} {R : RM} (hd : MethD X.K r R) (hp : PE X e (tBM0 X.K "list" r (LE X.K wa))) : SE X e (wMeth0 R wa) := pe_weak hp fun σ H Q ⟨μ, S, ρ, Q0, m, en, q, p⟩ => by
  refine LE.run m en q fun x S1 μ1 v H1 q1 g1 m1 e1 r1 => ⟨isL_ty m1 r1 q1.1, ?_⟩
  exact hd μ1 S1 H1 x v [] [] Q0 Q m1 r1 .nil q1.2 (p.go g1)
def mAppend : RM
  | .ref n, [d], S, Q => match S[n]? with | some (.lst xs) => xs.length < sizeLine ∧ Q .non (S.set n (.lst (xs ++ [d]))) | _ => False
  | _, _, _, _ => False
/-- pop(k), k from 0 on -/
def mPopAt : RM
  | .ref n, [.int i], S, Q => match S[n]? with
    | some (.lst xs) => (match i with | .ofNat k => (match xs[k]? with | some y => k < 2 ^ 62 ∧ Q y (S.set n (.lst (xs.eraseIdx k))) | none => False) | .negSucc _ => False)
    | _ => False
  | _, _, _, _ => False
def mPop : RM
  | .ref n, [], S, Q => match S[n]? with
    | some (.lst xs) => (match xs[xs.length - 1]? with | some y => Q y (S.set n (.lst xs.dropLast)) | none => False)
    | _ => False
  | _, _, _, _ => False
theorem md_append {K : PySem.W.Frag} : MethD K rAppend mAppend := by
  intro μ S H x v ds vs Q0 Q m rx r q p
  unfold mAppend at q
  split at q
  · rename_i n d
    split at q
    · rename_i xs hn
      obtain ⟨a, ys, rfl, h1, h2, h3⟩ := m.at hn rx
      obtain ⟨v, rfl, rd⟩ := r.one_inv
      exact ⟨a, ys, v, rfl, rfl, h2, by rw [← h3.length]; exact q.1, p _ _ q.2 _ _ _ (.put m h1 h2) (m.put h1 h2 (h3.append (.one rd))) .non⟩
    · exact q.elim
  · exact q.elim
theorem md_popAt {K : PySem.W.Frag} : MethD K rPopAt mPopAt := by
  intro μ S H x v ds vs Q0 Q m rx r q p
  unfold mPopAt at q
  split at q
  · rename_i n i
    split at q
    · rename_i xs hn
      obtain ⟨a, ys, rfl, h1, h2, h3⟩ := m.at hn rx
      obtain ⟨v, rfl, rd⟩ := r.one_inv
      rw [rd.int_inv]
      split at q
      · rename_i k
        split at q
        · rename_i y hy
          obtain ⟨w, hw, rw'⟩ := h3.get hy
          have hk : k < ys.length := (List.getElem?_eq_some_iff.mp hw).1
          have q1 := q.1
          have hix : ixN ys.length (Int.ofNat k) = some k := by unfold ixN; rw [if_pos (by show (0 : Int) ≤ (k : Int); omega), if_pos (by show (k : Int) < _; omega)]; rfl
          exact ⟨a, ys, Int.ofNat k, k, w, rfl, rfl, h2, by show -(2 ^ 63) ≤ (k : Int); omega, by show (k : Int) < 2 ^ 63; omega, (ixN_seq hix).1, hw, p _ _ q.2 _ _ _ (.put m h1 h2) (m.put h1 h2 (h3.eraseIdx k)) (rw'.grow (.put m h1 h2))⟩
        · exact q.elim
      · exact q.elim
    · exact q.elim
  · exact q.elim
theorem md_pop {K : PySem.W.Frag} : MethD K rPop mPop := by
  intro μ S H x v ds vs Q0 Q m rx r q p
  unfold mPop at q
  split at q
  · rename_i n
    split at q
    · rename_i xs hn
      obtain ⟨a, ys, rfl, h1, h2, h3⟩ := m.at hn rx
      cases r
      split at q
      · rename_i y hy
        obtain ⟨w, hw, rw'⟩ := h3.get hy
        rw [h3.length] at hw
        exact ⟨a, ys, w, rfl, rfl, h2, hw, p _ _ q _ _ _ (.put m h1 h2) (m.put h1 h2 h3.dropLast) (rw'.grow (.put m h1 h2))⟩
      · exact q.elim
    · exact q.elim
  · exact q.elim
end
end DL

set_option maxHeartbeats 4000000
namespace DL
open PySem PySem.Spec PyProof.Rows L2

/-! ### comprehensions -/
def wipeD (ρ : Env) : List Nat → Env
  | [] => ρ
  | v :: vs => (wipeD ρ vs).set v none
theorem wipe_R {K : PySem.W.Frag} {μ : Mu} {H : Hp} {ρ : Env} {σ : L2.St} (h : EnvR K μ H ρ σ) : ∀ vs : List Nat, EnvR K μ H (wipeD ρ vs) (wipe σ vs)
  | [] => h
  | v :: vs => by
    have ih := wipe_R h vs
    refine ⟨by simpa [wipeD, wipe] using ih.1, fun i d e => ?_⟩
    unfold wipeD at e
    unfold wipe
    by_cases hi : v = i
    · subst hi
      rw [List.getElem?_set] at e
      simp only [if_true] at e
      split at e
      · cases e
      · cases e
    · rw [List.getElem?_set_ne hi] at e
      rw [List.getElem?_set_ne hi]
      exact ih.2 i d e
abbrev STs (X : Cx) (ifs : List Expr) (w : WT) : Prop := PTs X ifs (LT X.K w)
def wYes : WT := fun _ S Q => Q true S
section
variable {X : Cx} {ifs : List Expr} {c : Expr} {w : WT}
theorem sts_nil : STs X [] wYes := ⟨fun pins s σ H Q I ⟨μ, S, ρ, Q0, m, en, q, p⟩ => pts_nil.run pins s σ H Q I (p true S q μ H .refl m)⟩
theorem sts_one (h : ST X c w) : STs X [c] w := pts_one h
end
def compR (g : Tg) (wt : WT) (we : WE) (G : Store → Prop) (ρ0 : Env) (Q : D → Store → Prop) : List D → List D → Store → Prop
  | [], acc, S => G S ∧ Q (.lst acc) S
  | x :: r, acc, S => G S ∧ match bindT g x ρ0 with
    | some ρ2 => wt ρ2 S fun k S1 => if k = true then we ρ2 S1 fun d S2 => acc.length < sizeLine ∧ compR g wt we G ρ0 Q r (acc ++ [d]) S2 else compR g wt we G ρ0 Q r acc S1
    | none => False
def wComp (wi : WI) (g : Tg) (wt : WT) (we : WE) (vs : List Nat) : WE := fun ρ S Q => wi ρ S fun xs G S1 => compR g wt we G (wipeD ρ vs) Q xs [] S1
theorem compR_G {g : Tg} {wt : WT} {we : WE} {G : Store → Prop} {ρ0 : Env} {Q : D → Store → Prop} {xs acc : List D} {S : Store} (h : compR g wt we G ρ0 Q xs acc S) : G S := by
  cases xs with
  | nil => exact h.1
  | cons x r => exact h.1
/-- a list that is being made: kept apart -/
def Mu.res (μ : Mu) (a : Addr) : Mu := ⟨μ.sl, a :: μ.rs⟩
def Mu.unres (μ : Mu) (a : Addr) : Mu := ⟨μ.sl, μ.rs.filter (· != a)⟩
section
variable {K : PySem.W.Frag} {μ μ1 : Mu} {H H1 : Hp} {S S1 : Store} {p : Addr}
theorem Grow.res {o : HO} (hp : H p = none) : Grow μ H (μ.res p) (upd H p o) :=
  ⟨fun _ _ h => rd_new h hp, fun a xs h n => ⟨rd_new h hp, fun z => by
    rcases z with z | z
    · exact n (.inl z)
    · rcases List.mem_cons.mp z with z | z
      · exact rd_ne h hp z
      · exact n (.inr z)⟩, fun _ _ h => h, fun a h => ⟨List.mem_cons_of_mem _ h, fun u z => by rw [upd_ne (ne_of_none z hp)]; exact z⟩⟩
theorem Sim.res {o : HO} (m : Sim K μ S H) (hp : H p = none) : Sim K (μ.res p) S (upd H p o) :=
  ⟨m.len, m.inj, fun n a h => by
    obtain ⟨⟨u, hu⟩, hr⟩ := m.trk n a h
    have na := ne_of_none hu hp
    refine ⟨⟨u, by rw [upd_ne na]; exact hu⟩, fun z => ?_⟩
    rcases List.mem_cons.mp z with z | z
    · exact na z
    · exact hr z,
   fun a h => by
    rcases List.mem_cons.mp h with z | z
    · subst z; exact ⟨_, upd_same⟩
    · obtain ⟨u, hu⟩ := m.trs a z
      exact ⟨u, by rw [upd_ne (ne_of_none hu hp)]; exact hu⟩,
   fun n ds h => by
    obtain ⟨a, xs, h1, h2, h3⟩ := m.ob n ds h
    exact ⟨a, xs, h1, by rw [upd_ne (ne_of_none h2 hp)]; exact h2, h3.grow (.res hp)⟩⟩
/-- the kept list is written -/
theorem Grow.wr {xs ys : List V} (hp : p ∈ μ.rs) (ha : H p = some (.lst xs)) (g : Grow μ1 H1 μ H) (h1 : p ∉ μ1.rs) (hn : H1 p = none) : Grow μ1 H1 μ (upd H p (.lst ys)) :=
  ⟨fun a zs h => by
    have na : a ≠ p := rd_ne h hn
    rcases g.tup a zs h with h | ⟨o, h⟩
    · exact .inl (by rw [upd_ne na]; exact h)
    · exact .inr ⟨o, by rw [upd_ne na]; exact h⟩,
   fun a zs h n => by
    have na : a ≠ p := rd_ne h hn
    obtain ⟨h2, n2⟩ := g.lst a zs h n
    refine ⟨?_, n2⟩
    rcases h2 with h | ⟨o, h⟩
    · exact .inl (by rw [upd_ne na]; exact h)
    · exact .inr ⟨o, by rw [upd_ne na]; exact h⟩,
   g.ref, fun a h => by
    have na : a ≠ p := fun e => h1 (by rw [← e]; exact h)
    obtain ⟨h2, e2⟩ := g.rs a h
    exact ⟨h2, fun o z => by rw [upd_ne na]; exact e2 o z⟩⟩
theorem Rep.wr {xs ys : List V} (hp : p ∈ μ.rs) (ha : H p = some (.lst xs)) : Grow μ H μ (upd H p (.lst xs)) := by
  have e : upd H p (.lst xs) = H := by
    funext b
    by_cases hb : b = p
    · subst hb; rw [upd_same, ha]
    · rw [upd_ne hb]
  rw [e]
  exact .refl
end
section
variable {K : PySem.W.Frag} {μ : Mu} {H : Hp} {p : Addr} {xs ys : List V}
mutual
theorem Rep.wrA (hp : p ∈ μ.rs) (ha : H p = some (.lst xs)) : ∀ {d : D} {v : V}, Rep K μ H d v → Rep K μ (upd H p (.lst ys)) d v
  | _, _, .non => .non
  | _, _, .bl b => .bl b
  | _, _, .int i => .int i
  | _, _, .str x => .str x
  | _, _, .tup h r => .tup (h.imp (fun z => by
      rcases z with z | ⟨o, z⟩
      · exact .inl (by rw [upd_ne (ne_of z ha (by intro q; cases q))]; exact z)
      · exact .inr ⟨o, by rw [upd_ne (ne_of z ha (by intro q; cases q))]; exact z⟩) id) (RepAll.wrA hp ha r)
  | _, _, .lst h r => .lst (h.imp (fun z => by
      obtain ⟨z, n⟩ := z
      have na := (fun (b : Addr) (n : ¬ μ.has b) (e : b = p) => n (.inr (by rw [e]; exact hp)) : ∀ b, ¬ μ.has b → b ≠ p) _ n
      refine ⟨?_, n⟩
      rcases z with z | ⟨o, z⟩
      · exact .inl (by rw [upd_ne na]; exact z)
      · exact .inr ⟨o, by rw [upd_ne na]; exact z⟩) id) (RepAll.wrA hp ha r)
  | _, _, .ref h => .ref h
theorem RepAll.wrA (hp : p ∈ μ.rs) (ha : H p = some (.lst xs)) : ∀ {ds : List D} {vs : List V}, RepAll K μ H ds vs → RepAll K μ (upd H p (.lst ys)) ds vs
  | _, _, .nil => .nil
  | _, _, .cons r t => .cons (Rep.wrA hp ha r) (RepAll.wrA hp ha t)
end
theorem Sim.wr {S : Store} (m : Sim K μ S H) (hp : p ∈ μ.rs) (ha : H p = some (.lst xs)) : Sim K μ S (upd H p (.lst ys)) :=
  ⟨m.len, m.inj, fun n a h => by
    obtain ⟨⟨u, hu⟩, hr⟩ := m.trk n a h
    exact ⟨⟨u, by rw [upd_ne (fun e => hr (by rw [e]; exact hp))]; exact hu⟩, hr⟩,
   fun a h => by
    obtain ⟨u, hu⟩ := m.trs a h
    by_cases e : a = p
    · subst e; exact ⟨_, upd_same⟩
    · exact ⟨u, by rw [upd_ne e]; exact hu⟩,
   fun n ds h => by
    obtain ⟨a, xs, h1, h2, h3⟩ := m.ob n ds h
    exact ⟨a, xs, h1, by rw [upd_ne (fun e => (m.trk n a h1).2 (by rw [e]; exact hp))]; exact h2, h3.wrA hp ha⟩⟩
/-- the list is done: it is kept apart no more -/
theorem Grow.unres {μ1 : Mu} {H1 : Hp} (g : Grow μ1 H1 μ H) (h1 : p ∉ μ1.rs) : Grow μ1 H1 (μ.unres p) H :=
  ⟨g.tup, fun a xs h n => by
    obtain ⟨h2, n2⟩ := g.lst a xs h n
    refine ⟨h2, fun z => n2 ?_⟩
    rcases z with z | z
    · exact .inl z
    · exact .inr (List.mem_filter.mp z).1,
   g.ref, fun a h => by
    obtain ⟨h2, e2⟩ := g.rs a h
    exact ⟨List.mem_filter.mpr ⟨h2, by simp; exact fun e => h1 (by rw [← e]; exact h)⟩, e2⟩⟩
mutual
theorem Rep.unres : ∀ {d : D} {v : V}, Rep K μ H d v → Rep K (μ.unres p) H d v
  | _, _, .non => .non
  | _, _, .bl b => .bl b
  | _, _, .int i => .int i
  | _, _, .str x => .str x
  | _, _, .tup h r => .tup h (RepAll.unres r)
  | _, _, .lst h r => .lst (h.imp (fun z => ⟨z.1, fun q => z.2 (q.imp id fun q => (List.mem_filter.mp q).1)⟩) id) (RepAll.unres r)
  | _, _, .ref h => .ref h
theorem RepAll.unres : ∀ {ds : List D} {vs : List V}, RepAll K μ H ds vs → RepAll K (μ.unres p) H ds vs
  | _, _, .nil => .nil
  | _, _, .cons r t => .cons (Rep.unres r) (RepAll.unres t)
end
theorem Sim.unres {S : Store} (m : Sim K μ S H) : Sim K (μ.unres p) S H :=
  ⟨m.len, m.inj, fun n a h => let ⟨h1, h2⟩ := m.trk n a h; ⟨h1, fun q => h2 (List.mem_filter.mp q).1⟩, fun a h => m.trs a (List.mem_filter.mp h).1,
    fun n ds h => let ⟨a, xs, h1, h2, h3⟩ := m.ob n ds h; ⟨a, xs, h1, h2, h3.unres⟩⟩
end

section
variable {X : Cx} {elt tg iter : Expr} {ifs : List Expr} {scope : Scope} {own : List (Str × Nat)} {pos spos : Pos} {wi : WI} {g : Tg} {wt : WT} {we : WE}
/-- the reading of a comprehension, whatever is done with the new list -/
theorem comp_gen {K : PySem.W.Frag} {vs : List Nat} (hsl : ∀ i ∈ g.slots, i ∈ vs) {σ : L2.St} {H : Hp} {Q : VK} {μ : Mu} {S : Store} {ρ : Env} {Q0 : D → Store → Prop} (m : Sim K μ S H) (en : EnvR K μ H ρ σ) (q : wComp wi g wt we vs ρ S Q0)
    (fin : ∀ μ1 H1 Dl acc S' μ' H' ys, Grow μ H μ1 H1 → H1 Dl = none → Dl ∉ μ1.rs → Q0 (.lst acc) S' → Grow μ1 H1 μ' H' → Sim K μ' S' H' → Dl ∈ μ'.rs → H' Dl = some (.lst ys) → RepAll K μ' H' acc ys → Q (.ref Dl) H') : tLc (LI K wi) (g.toV K) (LT K wt) (LE K we) vs σ H Q := by
  refine ⟨μ, S, ρ, _, m, en, q, fun xs G S1 q1 μ1 J H1 g1 m1 w1 => fun Dl hD => ?_⟩
  have nD : Dl ∉ μ1.rs := fun z => m1.notin hD (.inr z)
  have nDs : ¬ μ1.has Dl := m1.notin hD
  refine ⟨fun i n H' => n = xs.length - i ∧ i ≤ xs.length ∧ ∃ μ' S' acc ys, Grow μ1 H1 μ' H' ∧ Sim K μ' S' H' ∧ Dl ∈ μ'.rs ∧ H' Dl = some (.lst ys) ∧ RepAll K μ' H' acc ys ∧ compR g wt we G (wipeD ρ vs) Q0 (xs.drop i) acc S',
    ⟨xs.length, by simp, Nat.zero_le _, μ1.res Dl, S1, [], [], .res hD, m1.res hD, List.mem_cons_self, upd_same, .nil, by simpa using q1⟩, ?_⟩
  rintro i n H' ⟨rfl, hi, μ', S', acc, ys, g2, m2, hDl, hH, r2, f⟩
  have hG := compR_G f
  by_cases hlt : i < xs.length
  · refine .inr ⟨w1.go i μ' H' S' hlt g2 m2 hG, fun H2 => ∃ μ2 S2 acc2 ys2, Grow μ1 H1 μ2 H2 ∧ Sim K μ2 S2 H2 ∧ Dl ∈ μ2.rs ∧ H2 Dl = some (.lst ys2) ∧ RepAll K μ2 H2 acc2 ys2 ∧ compR g wt we G (wipeD ρ vs) Q0 (xs.drop (i + 1)) acc2 S2, fun H2 h => ⟨xs.length - (i + 1), by omega, rfl, hlt, h⟩, fun x H3 y => ?_⟩
    obtain ⟨d, hd, g3, m3, r3⟩ := w1.yld i μ' H' S' x H3 hlt g2 m2 hG y
    rw [drop_cons hd] at f
    obtain ⟨_, f⟩ := f
    split at f
    · rename_i ρ3 hb3
      have en1 := wipe_R (en.grow (g1.trans (g2.trans g3))) vs
      refine bind_ok vs g d (wipeD ρ vs) ρ3 x (wipe σ vs) _ hb3 r3 en1 fun σ3 e3 hw3 => ⟨?_, ?_⟩
      · have e : wipe σ3 vs = wipe (wipe σ vs) vs := hw3 hsl
        rw [e]
        apply List.ext_getElem?
        intro j
        by_cases hj : ∃ z, (wipe (wipe σ vs) vs)[j]? = some (some z)
        · obtain ⟨z, hz⟩ := hj
          rw [hz, (wipe_some hz).1]
        · by_cases hj2 : ∃ z, (wipe σ vs)[j]? = some (some z)
          · obtain ⟨z, hz⟩ := hj2
            have hn := (wipe_some hz).2
            exact absurd ⟨z, by rw [wipe_out hn]; exact hz⟩ hj
          · have l1 := wipe_length (wipe σ vs) vs
            rcases h1 : (wipe (wipe σ vs) vs)[j]? with _ | (_ | z)
            · have : (wipe σ vs).length ≤ j := by rw [← l1]; exact List.getElem?_eq_none_iff.mp h1
              rw [List.getElem?_eq_none this]
            · rcases h2 : (wipe σ vs)[j]? with _ | (_ | z)
              · have : (wipe σ vs).length ≤ j := List.getElem?_eq_none_iff.mp h2
                rw [List.getElem?_eq_none (by rw [l1]; exact this)] at h1
                cases h1
              · rfl
              · exact absurd ⟨z, h2⟩ hj2
            · exact absurd ⟨z, h1⟩ hj
      · have hH3 : H3 Dl = some (.lst ys) := (g3.rs Dl hDl).2 _ hH
        refine LT.run m3 e3 f fun k S4 μ4 H4 q4 g4 m4 e4 => ?_
        obtain ⟨hDl4, hk4⟩ := g4.rs Dl hDl
        have hH4 := hk4 _ hH3
        have r4 := r2.grow (g3.trans g4)
        cases k with
        | true =>
          refine LE.run m4 e4 q4 fun dd S5 μ5 v H5 q5 g5 m5 e5 r5 => ?_
          obtain ⟨hDl5, hk5⟩ := g5.rs Dl hDl4
          have hH5 := hk5 _ hH4
          have ra := (r4.grow g5).append (.one r5)
          exact ⟨ys, hH5, by rw [← r2.length]; exact q5.1, μ5, S5, acc ++ [dd], ys ++ [v], (g2.trans (g3.trans (g4.trans g5))).wr hDl5 hH5 nD hD, m5.wr hDl5 hH5, hDl5, upd_same, ra.wrA hDl5 hH5, q5.2⟩
        | false => exact ⟨μ4, S4, acc, ys, g2.trans (g3.trans g4), m4, hDl4, hH4, r4, q4⟩
    · exact f.elim
  · have e : i = xs.length := by omega
    subst e
    rw [List.drop_of_length_le (Nat.le_refl _)] at f
    exact .inl ⟨w1.stop μ' H' S' g2 m2 hG, fin μ1 H1 Dl acc S' μ' H' ys g1 hD nD f.2 g2 m2 hDl hH r2⟩
theorem comp_ok {K : PySem.W.Frag} {vs : List Nat} (hsl : ∀ i ∈ g.slots, i ∈ vs) {σ : L2.St} {H : Hp} {Q : VK} (h : LE K (wComp wi g wt we vs) σ H Q) : tLc (LI K wi) (g.toV K) (LT K wt) (LE K we) vs σ H Q := by
  obtain ⟨μ, S, ρ, Q0, m, en, q, p⟩ := h
  refine comp_gen hsl m en q fun μ1 H1 Dl acc S' μ' H' ys g1 hD nD q' g2 m2 hDl hH r2 => ?_
  refine p _ S' q' (μ'.unres Dl) _ H' (g1.trans (g2.unres nD)) m2.unres (.lst (.inl ⟨.inl hH, fun z => ?_⟩) r2.unres)
  rcases z with z | z
  · obtain ⟨n, hn⟩ := List.getElem?_of_mem z
    exact (m2.trk n Dl hn).2 hDl
  · have := (List.mem_filter.mp z).2
    simp at this
/-- a comprehension whose list is an object of the store -/
def wCompN (wi : WI) (g : Tg) (wt : WT) (we : WE) (vs : List Nat) : WE := fun ρ S Q => wComp wi g wt we vs ρ S fun d S1 => match d with | .lst ds => ds.length ≤ sizeLine ∧ Q (.ref S1.length) (S1 ++ [.lst ds]) | _ => False
def Mu.join (μ : Mu) (p : Addr) : Mu := (μ.unres p).add p
theorem join_has {μ : Mu} {p a : Addr} (n : ¬ μ.has a) (hp : p ∈ μ.rs) : ¬ (μ.join p).has a := fun z => by
  rcases z with z | z
  · rcases List.mem_append.mp (show some a ∈ μ.sl ++ [some p] from z) with z | z
    · exact n (.inl z)
    · have e : a = p := by simpa using z
      exact n (.inr (by rw [e]; exact hp))
  · exact n (.inr (List.mem_filter.mp z).1)
theorem join_get {μ : Mu} {p a : Addr} {n : Nat} (h : μ.sl[n]? = some (some a)) : (μ.join p).sl[n]? = some (some a) := by
  show (μ.sl ++ [some p])[n]? = _
  rw [List.getElem?_append_left (List.getElem?_eq_some_iff.mp h).1]
  exact h
mutual
theorem Rep.join {K : PySem.W.Frag} {μ : Mu} {H : Hp} {p : Addr} (hp : p ∈ μ.rs) : ∀ {d : D} {v : V}, Rep K μ H d v → Rep K (μ.join p) H d v
  | _, _, .non => .non
  | _, _, .bl b => .bl b
  | _, _, .int i => .int i
  | _, _, .str x => .str x
  | _, _, .tup h r => .tup h (RepAll.join hp r)
  | _, _, .lst h r => .lst (h.imp (fun z => ⟨z.1, join_has z.2 hp⟩) id) (RepAll.join hp r)
  | _, _, .ref h => .ref (join_get h)
theorem RepAll.join {K : PySem.W.Frag} {μ : Mu} {H : Hp} {p : Addr} (hp : p ∈ μ.rs) : ∀ {ds : List D} {vs : List V}, RepAll K μ H ds vs → RepAll K (μ.join p) H ds vs
  | _, _, .nil => .nil
  | _, _, .cons r t => .cons (Rep.join hp r) (RepAll.join hp t)
end
theorem Sim.join {K : PySem.W.Frag} {μ : Mu} {H : Hp} {p : Addr} {S : Store} {ds : List D} {xs : List V} (m : Sim K μ S H) (hp : p ∈ μ.rs) (ha : H p = some (.lst xs)) (r : RepAll K μ H ds xs) : Sim K (μ.join p) (S ++ [.lst ds]) H := by
  have back : ∀ (i : Nat) (a : Addr), (μ.join p).sl[i]? = some (some a) → (μ.sl[i]? = some (some a) ∧ a ≠ p) ∨ (i = μ.sl.length ∧ a = p) := fun i a h => by
    replace h : (μ.sl ++ [some p])[i]? = some (some a) := h
    by_cases hi : i < μ.sl.length
    · rw [List.getElem?_append_left hi] at h
      refine .inl ⟨h, fun e => ?_⟩
      subst e
      exact (m.trk i a h).2 hp
    · rw [List.getElem?_append_right (by omega)] at h
      have e := (List.getElem?_eq_some_iff.mp h)
      obtain ⟨hl, e⟩ := e
      have : i - μ.sl.length = 0 := by simp at hl; omega
      refine .inr ⟨by omega, ?_⟩
      simp [this] at e
      exact e.symm
  refine ⟨by simp [Mu.join, Mu.add, Mu.unres, m.len], fun i j a h1 h2 => ?_, fun n a h => ?_, fun a h => m.trs a (List.mem_filter.mp h).1, fun n es h => ?_⟩
  · rcases back i a h1 with ⟨x, nx⟩ | ⟨x, nx⟩ <;> rcases back j a h2 with ⟨y, ny⟩ | ⟨y, ny⟩
    · exact m.inj i j a x y
    · exact absurd ny nx
    · exact absurd nx ny
    · omega
  · rcases back n a h with ⟨x, nx⟩ | ⟨_, nx⟩
    · obtain ⟨h1, h2⟩ := m.trk n a x
      exact ⟨h1, fun z => h2 (List.mem_filter.mp z).1⟩
    · subst nx
      exact ⟨⟨_, ha⟩, fun z => by have := (List.mem_filter.mp z).2; simp at this⟩
  · by_cases hn : n < S.length
    · rw [List.getElem?_append_left hn] at h
      obtain ⟨a, ys, h1, h2, h3⟩ := m.ob n es h
      exact ⟨a, ys, join_get h1, h2, h3.join hp⟩
    · rw [List.getElem?_append_right (by omega)] at h
      have e := (List.getElem?_eq_some_iff.mp h)
      obtain ⟨hl, e⟩ := e
      have q : n - S.length = 0 := by simp at hl; omega
      simp [q] at e
      subst e
      refine ⟨p, xs, ?_, ha, r.join hp⟩
      show (μ.sl ++ [some p])[n]? = _
      rw [List.getElem?_append_right (by rw [m.len]; omega)]
      have q' : n - μ.sl.length = 0 := by rw [m.len]; omega
      rw [q']
      rfl
theorem Grow.join {μ μ1 : Mu} {H H1 : Hp} {p : Addr} (g : Grow μ1 H1 μ H) (hp : p ∈ μ.rs) (h1 : p ∉ μ1.rs) : Grow μ1 H1 (μ.join p) H :=
  ⟨g.tup, fun a xs h n => let ⟨h2, n2⟩ := g.lst a xs h n; ⟨h2, join_has n2 hp⟩, fun n a h => join_get (g.ref n a h), fun a h => by
    obtain ⟨h2, e2⟩ := g.rs a h
    exact ⟨List.mem_filter.mpr ⟨h2, by simp; exact fun e => h1 (by rw [← e]; exact h)⟩, e2⟩⟩
theorem compN_ok {K : PySem.W.Frag} {vs : List Nat} (hsl : ∀ i ∈ g.slots, i ∈ vs) {σ : L2.St} {H : Hp} {Q : VK} (h : LE K (wCompN wi g wt we vs) σ H Q) : tLc (LI K wi) (g.toV K) (LT K wt) (LE K we) vs σ H Q := by
  obtain ⟨μ, S, ρ, Q0, m, en, q, p⟩ := h
  refine comp_gen hsl m en q fun μ1 H1 Dl acc S' μ' H' ys g1 hD nD q' g2 m2 hDl hH r2 => ?_
  exact p _ _ q'.2 (μ'.join Dl) _ H' (g1.trans (g2.join hDl nD)) (m2.join hDl hH r2) (.ref (by
    show (μ'.sl ++ [some Dl])[S'.length]? = _
    rw [← m2.len]
    simp))
theorem se_lc {vs : List Nat} (hc : X.calm = true) (hN : X.N.Nodup) (hi : SI X tg iter wi) (ok : BlkOk X.N X.env.scope scope own) (hv : own.map (·.2) = vs) (hsl : ∀ i ∈ g.slots, i ∈ vs)
    (hg : ∀ (s : Shared) (H : Hp) (C : Addr) (cl : List (Str × Addr)) (fp : List Addr), SG (X.blk s H scope (compEnvC scope cl C X.env) fp) tg g) (ht : ∀ (s : Shared) (H : Hp) (C : Addr) (cl : List (Str × Addr)) (fp : List Addr), STs (X.blk s H scope (compEnvC scope cl C X.env) fp) ifs wt)
    (he : ∀ (s : Shared) (H : Hp) (C : Addr) (cl : List (Str × Addr)) (fp : List Addr), SE (X.blk s H scope (compEnvC scope cl C X.env) fp) elt we) (hs : ∀ x, foldedSetIterable iter X.env x = pure x := by intro _; rfl) :
    SE X (.ListComp elt [⟨tg, iter, ifs, 0⟩] scope pos) (wComp wi g wt we vs) := by
  subst hv
  exact pe_weak (pe_lc hc hN hi ok hg ht he hs) fun σ H Q h => comp_ok hsl h
theorem se_lcN {vs : List Nat} (hc : X.calm = true) (hN : X.N.Nodup) (hi : SI X tg iter wi) (ok : BlkOk X.N X.env.scope scope own) (hv : own.map (·.2) = vs) (hsl : ∀ i ∈ g.slots, i ∈ vs)
    (hg : ∀ (s : Shared) (H : Hp) (C : Addr) (cl : List (Str × Addr)) (fp : List Addr), SG (X.blk s H scope (compEnvC scope cl C X.env) fp) tg g) (ht : ∀ (s : Shared) (H : Hp) (C : Addr) (cl : List (Str × Addr)) (fp : List Addr), STs (X.blk s H scope (compEnvC scope cl C X.env) fp) ifs wt)
    (he : ∀ (s : Shared) (H : Hp) (C : Addr) (cl : List (Str × Addr)) (fp : List Addr), SE (X.blk s H scope (compEnvC scope cl C X.env) fp) elt we) (hs : ∀ x, foldedSetIterable iter X.env x = pure x := by intro _; rfl) :
    SE X (.ListComp elt [⟨tg, iter, ifs, 0⟩] scope pos) (wCompN wi g wt we vs) := by
  subst hv
  exact pe_weak (pe_lc hc hN hi ok hg ht he hs) fun σ H Q h => compN_ok hsl h
end
end DL

set_option maxHeartbeats 4000000
namespace DL
open PySem PySem.Spec PyProof.Rows L2

/-! ### what a value names of the store -/
mutual
def closedD (n : Nat) : D → Prop
  | .tup ds => closedL n ds
  | .lst ds => closedL n ds
  | .ref m => m < n
  | _ => True
def closedL (n : Nat) : List D → Prop
  | [] => True
  | d :: ds => closedD n d ∧ closedL n ds
end
def closedS (S : Store) : Prop := ∀ ds, Ob.lst ds ∈ S → closedL S.length ds
mutual
/-- at the end of a def: its own lists become values -/
inductive Frz (n0 : Nat) (S : Store) : D → D → Prop
  | non : Frz n0 S .non .non
  | bl (b : Bool) : Frz n0 S (.bl b) (.bl b)
  | int (i : Int) : Frz n0 S (.int i) (.int i)
  | str (x : Str) : Frz n0 S (.str x) (.str x)
  | tup {ds es : List D} : FrzL n0 S ds es → Frz n0 S (.tup ds) (.tup es)
  | lst {ds es : List D} : FrzL n0 S ds es → Frz n0 S (.lst ds) (.lst es)
  | old {n : Nat} : n < n0 → Frz n0 S (.ref n) (.ref n)
  | new {n : Nat} {ds es : List D} : n0 ≤ n → S[n]? = some (.lst ds) → FrzL n0 S ds es → Frz n0 S (.ref n) (.lst es)
inductive FrzL (n0 : Nat) (S : Store) : List D → List D → Prop
  | nil : FrzL n0 S [] []
  | cons {d e : D} {ds es : List D} : Frz n0 S d e → FrzL n0 S ds es → FrzL n0 S (d :: ds) (e :: es)
end
mutual
def pureD : D → Prop
  | .tup ds => pureL ds
  | .lst ds => pureL ds
  | .ref _ => False
  | _ => True
def pureL : List D → Prop
  | [] => True
  | d :: ds => pureD d ∧ pureL ds
end
mutual
theorem frz_pure {n0 : Nat} {S : Store} : ∀ {d : D}, pureD d → Frz n0 S d d
  | .non, _ => .non
  | .bl b, _ => .bl b
  | .int i, _ => .int i
  | .str x, _ => .str x
  | .tup ds, h => .tup (frzL_pure (by simpa [pureD] using h))
  | .lst ds, h => .lst (frzL_pure (by simpa [pureD] using h))
  | .ref n, h => by simp [pureD] at h
theorem frzL_pure {n0 : Nat} {S : Store} : ∀ {ds : List D}, pureL ds → FrzL n0 S ds ds
  | [], _ => .nil
  | d :: ds, h => by
    have h' : pureD d ∧ pureL ds := by simpa [pureL] using h
    exact .cons (frz_pure h'.1) (frzL_pure h'.2)
end
theorem pureL_of {ds : List D} (h : ∀ d, d ∈ ds → pureD d) : pureL ds := by
  induction ds with
  | nil => simp [pureL]
  | cons d ds ih => exact by simpa [pureL] using ⟨h d (by simp), ih fun e he => h e (by simp [he])⟩
theorem pure_of_L {ds : List D} (h : pureL ds) : ∀ d, d ∈ ds → pureD d := by
  induction ds with
  | nil => intro d hd; cases hd
  | cons e es ih =>
    have h' : pureD e ∧ pureL es := by simpa [pureL] using h
    intro d hd
    rcases List.mem_cons.mp hd with rfl | hd
    · exact h'.1
    · exact ih h'.2 d hd
def Exit (n0 : Nat) (d : D) (S1 : Store) (Q0 : D → Store → Prop) : Prop :=
  Q0 d S1 ∨ ∃ S' G d', S1 = S' ++ G ∧ S'.length = n0 ∧ (∀ ds, Ob.lst ds ∈ S' → closedL n0 ds) ∧ Frz n0 S1 d d' ∧ Q0 d' S'
theorem Exit.all {n0 : Nat} {d : D} {S1 : Store} {Q0 : D → Store → Prop} (h : Q0 d S1) : Exit n0 d S1 Q0 := .inl h
/-- the store is as it was, and some garbage -/
theorem Exit.same {d d' : D} {S G : Store} {Q0 : D → Store → Prop} (hc : closedS S) (f : Frz S.length (S ++ G) d d') (h : Q0 d' S) : Exit S.length d (S ++ G) Q0 := .inr ⟨S, G, d', rfl, rfl, hc, f, h⟩
theorem Exit.val {d : D} {S G : Store} {Q0 : D → Store → Prop} (hc : closedS S) (f : pureD d) (h : Q0 d S) : Exit S.length d (S ++ G) Q0 := .same hc (frz_pure f) h

section
variable {K : PySem.W.Frag} {μ : Mu} {H : Hp} {S : Store}
mutual
theorem Rep.closed : ∀ {d : D} {v : V}, Rep K μ H d v → closedD μ.sl.length d
  | _, _, .non => by simp [closedD]
  | _, _, .bl b => by simp [closedD]
  | _, _, .int i => by simp [closedD]
  | _, _, .str x => by simp [closedD]
  | _, _, .tup h r => by simpa [closedD] using RepAll.closed r
  | _, _, .lst h r => by simpa [closedD] using RepAll.closed r
  | _, _, .ref h => by
    simp only [closedD]
    exact (List.getElem?_eq_some_iff.mp h).1
theorem RepAll.closed : ∀ {ds : List D} {vs : List V}, RepAll K μ H ds vs → closedL μ.sl.length ds
  | _, _, .nil => by simp [closedL]
  | _, _, .cons r t => by
    simp only [closedL]
    exact ⟨Rep.closed r, RepAll.closed t⟩
end
theorem Sim.closed (m : Sim K μ S H) : closedS S := fun ds h => by
  obtain ⟨n, hn⟩ := List.getElem?_of_mem h
  obtain ⟨a, xs, h1, h2, h3⟩ := m.ob n ds hn
  rw [← m.len]
  exact h3.closed
def Mu.cut (μ : Mu) (n : Nat) : Mu := ⟨μ.sl.take n, μ.rs⟩
theorem cut_has {n : Nat} {a : Addr} (h : (μ.cut n).has a) : μ.has a := h.imp (fun z => List.mem_of_mem_take z) id
mutual
theorem Rep.cut {n0 : Nat} : ∀ {d : D} {v : V}, Rep K μ H d v → closedD n0 d → Rep K (μ.cut n0) H d v
  | _, _, .non, _ => .non
  | _, _, .bl b, _ => .bl b
  | _, _, .int i, _ => .int i
  | _, _, .str x, _ => .str x
  | _, _, .tup h r, c => .tup h (RepAll.cut r (by simpa [closedD] using c))
  | _, _, .lst h r, c => .lst (h.imp (fun z => ⟨z.1, fun q => z.2 (cut_has q)⟩) id) (RepAll.cut r (by simpa [closedD] using c))
  | .ref n, _, .ref h, c => .ref (by
      have c' : n < n0 := by simpa [closedD] using c
      show (μ.sl.take n0)[n]? = _
      rw [List.getElem?_take, if_pos c']
      exact h)
theorem RepAll.cut {n0 : Nat} : ∀ {ds : List D} {vs : List V}, RepAll K μ H ds vs → closedL n0 ds → RepAll K (μ.cut n0) H ds vs
  | _, _, .nil, _ => .nil
  | d :: ds, _, .cons r t, c => by
    have c' : closedD n0 d ∧ closedL n0 ds := by simpa [closedL] using c
    exact .cons (Rep.cut r c'.1) (RepAll.cut t c'.2)
end
theorem Sim.cut {S1 G : Store} (m : Sim K μ (S1 ++ G) H) (c : ∀ ds, Ob.lst ds ∈ S1 → closedL S1.length ds) : Sim K (μ.cut S1.length) S1 H := by
  have hl := m.len
  have gt : ∀ (n : Nat) (a : Addr), (μ.sl.take S1.length)[n]? = some (some a) → μ.sl[n]? = some (some a) := fun n a h => by
    rw [List.getElem?_take] at h
    split at h
    · exact h
    · cases h
  refine ⟨by simp [Mu.cut] at hl ⊢; omega, fun i j a h1 h2 => m.inj i j a (gt i a h1) (gt j a h2), fun n a h => m.trk n a (gt n a h), m.trs, fun n ds h => ?_⟩
  have hn : n < S1.length := (List.getElem?_eq_some_iff.mp h).1
  obtain ⟨a, xs, h1, h2, h3⟩ := m.ob n ds (by rw [List.getElem?_append_left hn]; exact h)
  refine ⟨a, xs, ?_, h2, h3.cut (c ds (List.mem_of_getElem? h))⟩
  show (μ.sl.take S1.length)[n]? = _
  rw [List.getElem?_take, if_pos hn]
  exact h1
mutual
theorem Rep.frz {n0 : Nat} (m : Sim K μ S H) : ∀ {d e : D} {v : V}, Frz n0 S d e → Rep K μ H d v → Rep K (μ.cut n0) H e v
  | _, _, _, .non, .non => .non
  | _, _, _, .bl b, .bl _ => .bl b
  | _, _, _, .int i, .int _ => .int i
  | _, _, _, .str x, .str _ => .str x
  | _, _, _, .tup f, .tup h r => .tup h (RepAll.frz m f r)
  | _, _, _, .lst f, .lst h r => .lst (h.imp (fun z => ⟨z.1, fun q => z.2 (cut_has q)⟩) id) (RepAll.frz m f r)
  | _, _, _, .old hn, .ref h => .ref (by
      show (μ.sl.take n0)[_]? = _
      rw [List.getElem?_take, if_pos hn]
      exact h)
  | _, _, v, .new (n := n) hn hS f, r => by
    obtain ⟨a, xs, rfl, h1, h2, h3⟩ := m.at hS r
    refine .lst (.inl ⟨.inl h2, fun q => ?_⟩) (RepAll.frz m f h3)
    rcases q with q | q
    · obtain ⟨j, hj⟩ := List.getElem?_of_mem (show some a ∈ μ.sl.take n0 from q)
      rw [List.getElem?_take] at hj
      split at hj
      · have := m.inj j n a hj h1
        omega
      · cases hj
    · exact (m.trk n a h1).2 q
theorem RepAll.frz {n0 : Nat} (m : Sim K μ S H) : ∀ {ds es : List D} {vs : List V}, FrzL n0 S ds es → RepAll K μ H ds vs → RepAll K (μ.cut n0) H es vs
  | _, _, _, .nil, .nil => .nil
  | _, _, _, .cons f fs, .cons r t => .cons (Rep.frz m f r) (RepAll.frz m fs t)
end
theorem Grow.cut {μ0 : Mu} {H0 : Hp} (g : Grow μ0 H0 μ H) : Grow μ0 H0 (μ.cut μ0.sl.length) H :=
  ⟨g.tup, fun a xs h n => let ⟨h1, n1⟩ := g.lst a xs h n; ⟨h1, fun q => n1 (cut_has q)⟩, fun n a h => by
    show (μ.sl.take μ0.sl.length)[n]? = _
    rw [List.getElem?_take, if_pos (List.getElem?_eq_some_iff.mp h).1]
    exact g.ref n a h, g.rs⟩
/-- the end of a def's body -/
theorem exit_ok {μ0 : Mu} {H0 : Hp} {S0 S1 : Store} {d : D} {v : V} {Q0 : D → Store → Prop} {Q : VK} (m0 : Sim K μ0 S0 H0) (g : Grow μ0 H0 μ H) (m : Sim K μ S1 H) (r : Rep K μ H d v) (p : Post K μ0 H0 Q0 Q) (h : Exit S0.length d S1 Q0) : Q v H := by
  rcases h with h | ⟨S', G, d', rfl, hl, c, f, h⟩
  · exact p d S1 h μ v H g m r
  · have g' := g.cut
    rw [m0.len, ← hl] at g'
    rw [← hl] at f
    exact p d' S' h _ v H g' (m.cut (by rw [hl]; exact c)) (r.frz m f)
end

/-! ### defs -/
abbrev Con := List D → Store → (D → Store → Prop) → Prop
def SpD (K : PySem.W.Frag) (np : Nat) (Γ : Con) : Sp := fun vs H Q _ => ∃ μ S ds Q0, Sim K μ S H ∧ RepAll K μ H ds vs ∧ ds.length = np ∧ Γ ds S Q0 ∧ Post K μ H Q0 Q
abbrev FnD (P : Program) (w : World) (K : PySem.W.Frag) (mg : Str → Option Value) (base : Heap) (k : Nat) (f : Addr) (fd : FuncData) (ps : List Str) (Γ : Con) : Prop := FnOk P w K mg base CX0 k f fd ps (SpD K ps.length Γ)
def wFn (Γ : Con) (n : Nat) (wr : WA) : WE := fun ρ S Q => wr ρ S fun ds S1 => ds.length = n ∧ Γ ds S1 Q
section
variable {X : Cx} {e : Expr} {es : List Expr} {wr : WA} {k : Nat} {f : Addr} {fd : FuncData} {ps : List Str} {Γ : Con} {x : Str} {p pos : Pos}
theorem se_call (F : FnD X.prog X.w X.K X.mg X.base k f fd ps Γ) (hr : Room k X.A) (hg : Gl X x) (hm : X.mg x = some (.ref f)) (hk : PySem.W.keepIn X.K (.ref f) = true) (hb : Binds X.K fd ps [])
    (ha : SA X (e :: es) wr) (hdb : (x == ("__debug__" : Str)) = false := by decide) (he : starEach (e :: es) X.env = (false, eval e X.env) :: starEach es X.env := by rfl) (hpl : (backTo pos (starEach es X.env)).any (·.1) = false := by rfl) :
    SE X (.Call (.Name x p) (e :: es) [] pos) (wFn Γ ps.length wr) := pe_weak (pe_call (E := E0) F hr hg hm hk hb .nil pass0 ha hdb he hpl) fun σ H Q ⟨μ, S, ρ, Q0, m, en, q, p⟩ => by
  refine LA.run m en q fun ds S1 μ1 vs H1 q1 g1 m1 e1 r1 => ?_
  rw [List.append_nil]
  exact ⟨μ1, S1, ds, Q0, m1, r1, q1.1, q1.2, p.go g1⟩
end
theorem start_R {K : PySem.W.Frag} {μ : Mu} {H : Hp} {N : List Str} {ds : List D} {vs : List V} (r : RepAll K μ H ds vs) : EnvR K μ H (ds.map some ++ List.replicate (N.length - ds.length) none) (L2.start N vs) := by
  have hl := r.length
  refine ⟨by simp [L2.start, hl], fun i d h => ?_⟩
  by_cases hi : i < ds.length
  · rw [List.getElem?_append_left (by simpa using hi), List.getElem?_map] at h
    cases q : ds[i]? with
    | none => rw [q] at h; cases h
    | some e =>
      rw [q] at h
      have e1 : e = d := Option.some.inj (Option.some.inj h)
      subst e1
      obtain ⟨v, h1, h2⟩ := r.get q
      refine ⟨v, ?_, h2⟩
      unfold L2.start
      rw [List.getElem?_append_left (by simp [← hl]; exact hi), List.getElem?_map, h1]
      rfl
  · rw [List.getElem?_append_right (by simpa using Nat.le_of_not_lt hi)] at h
    rw [List.getElem?_replicate] at h
    split at h <;> cases h
section
variable {P : Program} {w : World} {K : PySem.W.Frag} {mg : Str → Option Value} {base : Heap}
/-- THE RULE for a def: its body's reading by content keeps the contract -/
theorem fn_okD {x qual : Str} {st : Stmt} {f : Addr} {fd : FuncData} {N ps : List Str} {k : Nat} {Γ : Con} {wb : WS} (F : Fun K x qual st f fd) (Sc : FnScope N ps (defScope st))
    (hb : ∀ (cdv : Value) (A : Around) (outer : List PySem.Env) (s : Shared) (H : Hp) (E : XK), Room k (A.deeper (envOfC qual (defScope st) s.heap.objs.size f cdv)) →
      SSs (cxOf CX0 P w K mg base N qual (defScope st) f cdv A outer s H E).nox (defBody st) wb)
    (hw : ∀ (ds : List D) (S : Store) (Q0 : D → Store → Prop), ds.length = ps.length → closedS S → closedL S.length ds → Γ ds S Q0 →
      wb { nx := fun _ S1 => Exit S.length .non S1 Q0, rt := fun d S1 => Exit S.length d S1 Q0 } (ds.map some ++ List.replicate (N.length - ps.length) none) S) : FnD P w K mg base (k + 1) f fd ps Γ := by
  refine F.ok Sc (fun vs H Q E h => ?_) (fun cdv A outer s H vs Q E hr h => ?_)
  · obtain ⟨μ, S, ds, Q0, m, r, hl, _⟩ := h
    rw [← r.length, hl]
  · obtain ⟨μ, S, ds, Q0, m, r, hl, q, p⟩ := h
    refine ⟨_, hb cdv A outer s H E hr, ?_⟩
    have en := start_R (N := N) r
    rw [hl] at en
    have cl := r.closed
    rw [m.len] at cl
    refine ⟨μ, S, _, _, m, en, hw ds S Q0 hl m.closed cl q, ?_, ?_, ?_, ?_⟩
    · exact fun ρ' S' q' μ' σ' H' g' m' e' => exit_ok m g' m' .non p q'
    · exact fun d S' q' μ' v H' g' m' r' => exit_ok m g' m' r' p q'
    · exact fun ρ' S' q' => q'.elim
    · exact fun ρ' S' q' => q'.elim
/-- a def of the law's kind: one list of ints, True -/
theorem law_sp {np : Nat} {Γ : Con} {H : Hp} {a : Addr} {ns : List Int} {E : XK} (h : Γ [.lst (ns.map .int)] [] (fun d _ => d = .bl true)) (hS : SqL K H a (ns.map V.int)) : SpD K 1 Γ [.ref a] H (fun v _ => v = .bl true) E := by
  refine ⟨⟨[], []⟩, [], [.lst (ns.map .int)], _, ⟨rfl, fun i j a h => by simp at h, fun n a h => by simp at h, fun a h => by simp at h, fun n ds h => by simp at h⟩, .one ?_, rfl, h, fun d S' q μ' v H' g m r => ?_⟩
  · exact .lst (hS.imp (fun z => ⟨z, fun q => by rcases q with q | q <;> simp at q⟩) id) (repInts ns)
  · subst q
    exact r.bl_inv
end
end DL
namespace DL
open PySem PySem.Spec PyProof.Rows L2
section
variable {X : Cx} {elt tg iter : Expr} {ifs : List Expr} {scope : Scope} {own : List (Str × Nat)} {pos spos py : Pos} {wi : WI} {g : Tg} {wt : WT} {we : WE} {i : Nat} {y : Str}
/-- name = [..] -/
theorem ss_setLc {vs : List Nat} (hc : X.calm = true) (hN : X.N.Nodup) (hy : X.N[i]? = some y) (hyl : X.env.scope.names.lookup y = some .local)
    (hsw : swapsWith (.ListComp elt [⟨tg, iter, ifs, 0⟩] scope pos) (some (.Name y py)) spos.line X.env = pure true) (hi : SI X tg iter wi) (ok : BlkOk X.N X.env.scope scope own) (hv : own.map (·.2) = vs) (hsl : ∀ i ∈ g.slots, i ∈ vs)
    (hg : ∀ (s : Shared) (H : Hp) (C : Addr) (cl : List (Str × Addr)) (fp : List Addr), SG (X.blk s H scope (compEnvC scope cl C X.env) fp) tg g) (ht : ∀ (s : Shared) (H : Hp) (C : Addr) (cl : List (Str × Addr)) (fp : List Addr), STs (X.blk s H scope (compEnvC scope cl C X.env) fp) ifs wt)
    (he : ∀ (s : Shared) (H : Hp) (C : Addr) (cl : List (Str × Addr)) (fp : List Addr), SE (X.blk s H scope (compEnvC scope cl C X.env) fp) elt we) (hs : ∀ x, foldedSetIterable iter X.env x = pure x := by intro _; rfl) :
    SS X (.Assign [.Name y py] (.ListComp elt [⟨tg, iter, ifs, 0⟩] scope pos) spos) (wAsg (wComp wi g wt we vs) (.name i)) := by
  subst hv
  refine ps_weak (ps_setLc (g := g.toV X.K) (te := LE X.K we) (tt := LT X.K wt) hc hN hy hyl hsw hi ok hg ht he hs) fun D σ H ⟨μ, S, ρ, D0, m, en, q, p⟩ => ?_
  · refine comp_ok hsl ⟨μ, S, ρ, _, m, en, q, fun d S1 q1 μ1 v H1 g1 m1 r1 => ?_⟩
    have q1' : (match bindT (.name i) d ρ with | some ρ' => D0.nx ρ' S1 | none => False) := q1
    show D.nx (σ.set i (some v)) H1
    simp only [bindT] at q1'
    exact p.nx _ S1 q1' μ1 _ H1 g1 m1 ((en.grow g1).set r1)
/-- name = [..], an object of the store -/
theorem ss_setLcN {vs : List Nat} (hc : X.calm = true) (hN : X.N.Nodup) (hy : X.N[i]? = some y) (hyl : X.env.scope.names.lookup y = some .local)
    (hsw : swapsWith (.ListComp elt [⟨tg, iter, ifs, 0⟩] scope pos) (some (.Name y py)) spos.line X.env = pure true) (hi : SI X tg iter wi) (ok : BlkOk X.N X.env.scope scope own) (hv : own.map (·.2) = vs) (hsl : ∀ i ∈ g.slots, i ∈ vs)
    (hg : ∀ (s : Shared) (H : Hp) (C : Addr) (cl : List (Str × Addr)) (fp : List Addr), SG (X.blk s H scope (compEnvC scope cl C X.env) fp) tg g) (ht : ∀ (s : Shared) (H : Hp) (C : Addr) (cl : List (Str × Addr)) (fp : List Addr), STs (X.blk s H scope (compEnvC scope cl C X.env) fp) ifs wt)
    (he : ∀ (s : Shared) (H : Hp) (C : Addr) (cl : List (Str × Addr)) (fp : List Addr), SE (X.blk s H scope (compEnvC scope cl C X.env) fp) elt we) (hs : ∀ x, foldedSetIterable iter X.env x = pure x := by intro _; rfl) :
    SS X (.Assign [.Name y py] (.ListComp elt [⟨tg, iter, ifs, 0⟩] scope pos) spos) (wAsg (wCompN wi g wt we vs) (.name i)) := by
  subst hv
  refine ps_weak (ps_setLc (g := g.toV X.K) (te := LE X.K we) (tt := LT X.K wt) hc hN hy hyl hsw hi ok hg ht he hs) fun D σ H ⟨μ, S, ρ, D0, m, en, q, p⟩ => ?_
  · refine compN_ok hsl ⟨μ, S, ρ, _, m, en, q, fun d S1 q1 μ1 v H1 g1 m1 r1 => ?_⟩
    have q1' : (match bindT (.name i) d ρ with | some ρ' => D0.nx ρ' S1 | none => False) := q1
    show D.nx (σ.set i (some v)) H1
    simp only [bindT] at q1'
    exact p.nx _ S1 q1' μ1 _ H1 g1 m1 ((en.grow g1).set r1)
end
end DL

set_option maxHeartbeats 4000000
namespace DL
open PySem PySem.Spec PyProof.Rows L2 He

/-! ### a def by its datum -/
section
variable {P : Program} {w : World} {K : PySem.W.Frag} {mg : Str → Option Value} {base : Heap}
/-- the def x stands at the module's name x and keeps its contract -/
structure Def (P : Program) (w : World) (K : PySem.W.Frag) (mg : Str → Option Value) (base : Heap) (k : Nat) (x : Str) (ps : List Str) (Γ : Con) : Prop where
  ex : ∃ f fd, FnD P w K mg base k f fd ps Γ ∧ mg x = some (.ref f) ∧ PySem.W.keepIn K (.ref f) = true ∧ Binds K fd ps []
theorem Def.mono {j k : Nat} {x : Str} {ps : List Str} {Γ : Con} (D : Def P w K mg base j x ps Γ) (h : j ≤ k) : Def P w K mg base k x ps Γ :=
  let ⟨f, fd, h1, h2, h3, h4⟩ := D.ex; ⟨f, fd, h1.mono h, h2, h3, h4⟩
theorem fn_okF {x qual : Str} {params : Arguments} {body : List Stmt} {scope : Scope} {f : Addr} {fd : FuncData} {N ps : List Str} {k : Nat} {Γ : Con} {wb : WS} (F : FunD K x qual params body scope [] [] f fd) (Sc : FnScope N ps scope)
    (hb : ∀ (cdv : Value) (A : Around) (outer : List PySem.Env) (s : Shared) (H : Hp) (E : XK), Room k (A.deeper (envOfC qual scope s.heap.objs.size f cdv)) →
      SSs (cxOf CX0 P w K mg base N qual scope f cdv A outer s H E).nox body wb)
    (hw : ∀ (ds : List D) (S : Store) (Q0 : D → Store → Prop), ds.length = ps.length → closedS S → closedL S.length ds → Γ ds S Q0 →
      wb { nx := fun _ S1 => Exit S.length .non S1 Q0, rt := fun d S1 => Exit S.length d S1 Q0 } (ds.map some ++ List.replicate (N.length - ps.length) none) S) : FnD P w K mg base (k + 1) f fd ps Γ := by
  refine F.ok Sc (fun vs H Q E h => ?_) (fun cdv A outer s H vs Q E hr h => ?_)
  · obtain ⟨μ, S, ds, Q0, m, r, hl, _⟩ := h
    rw [← r.length, hl]
  · obtain ⟨μ, S, ds, Q0, m, r, hl, q, p⟩ := h
    refine ⟨_, PSs.nox (hb cdv A outer s H E hr), ?_⟩
    have en := start_R (N := N) r
    rw [hl] at en
    have cl := r.closed
    rw [m.len] at cl
    refine ⟨μ, S, _, _, m, en, hw ds S Q0 hl m.closed cl q, ?_, ?_, ?_, ?_⟩
    · exact fun ρ' S' q' μ' σ' H' g' m' e' => exit_ok m g' m' .non p q'
    · exact fun d S' q' μ' v H' g' m' r' => exit_ok m g' m' r' p q'
    · exact fun ρ' S' q' => q'.elim
    · exact fun ρ' S' q' => q'.elim
end
section
variable {X : Cx} {e : Expr} {es : List Expr} {wr : WA} {k : Nat} {ps : List Str} {Γ : Con} {x : Str} {p pos : Pos}
theorem se_fn {n : Nat} (F : Def X.prog X.w X.K X.mg X.base k x ps Γ) (hr : Room k X.A) (hg : Gl X x)
    (ha : SA X (e :: es) wr) (hn : ps.length = n := by rfl) (hdb : (x == ("__debug__" : Str)) = false := by decide) (he : starEach (e :: es) X.env = (false, eval e X.env) :: starEach es X.env := by rfl) (hpl : (backTo pos (starEach es X.env)).any (·.1) = false := by rfl) :
    SE X (.Call (.Name x p) (e :: es) [] pos) (wFn Γ n wr) := by
  subst hn
  obtain ⟨f, fd, h1, h2, h3, h4⟩ := F.ex
  exact se_call h1 hr hg h2 h3 h4 ha hdb he hpl
end

/-! ### constants of the module, by content -/
mutual
def kRep (K : PySem.W.Frag) : D → Value → Bool
  | .non, .none => true
  | .bl b, .bool c => b == c
  | .int i, .int j _ => decide (i = j)
  | .str x, .str y _ => decide (x = y)
  | .tup ds, .ref a => (match K.lookup a with
    | some ⟨.type c, _, .seq its _, _⟩ => decide (c = "tuple") && (decide (its.size ≤ sizeLine) && kRepL K ds its.toList)
    | _ => false)
  | .lst ds, .ref a => (match K.lookup a with
    | some ⟨.type c, none, .seq its _, _⟩ => decide (c = "list") && (decide (its.size ≤ sizeLine) && kRepL K ds its.toList)
    | _ => false)
  | _, _ => false
def kRepL (K : PySem.W.Frag) : List D → List Value → Bool
  | [], [] => true
  | d :: ds, u :: us => kRep K d u && kRepL K ds us
  | _, _ => false
end
def KRep (K : PySem.W.Frag) (d : D) (u : Value) : Prop := ∃ v, RelV v u ∧ ∀ μ H, Rep K μ H d v
def KRepL (K : PySem.W.Frag) (ds : List D) (us : List Value) : Prop := ∃ vs, Vals vs us ∧ ∀ μ H, RepAll K μ H ds vs
mutual
theorem kRep_ok {K : PySem.W.Frag} : ∀ {d : D} {u : Value}, kRep K d u = true → KRep K d u
  | .non, u, h => by
    cases u <;> first | exact ⟨.non, rfl, fun _ _ => .non⟩ | simp [kRep] at h
  | .bl b, u, h => by
    cases u with
    | bool c =>
      have e : b = c := by simpa [kRep] using h
      subst e
      exact ⟨.bl b, rfl, fun _ _ => .bl b⟩
    | _ => simp [kRep] at h
  | .int b, u, h => by
    cases u with
    | int c t =>
      have e : b = c := by simpa [kRep] using h
      subst e
      exact ⟨.int b, ⟨t, rfl⟩, fun _ _ => .int b⟩
    | _ => simp [kRep] at h
  | .str b, u, h => by
    cases u with
    | str c t =>
      have e : b = c := by simpa [kRep] using h
      subst e
      exact ⟨.str b, ⟨t, rfl⟩, fun _ _ => .str b⟩
    | _ => simp [kRep] at h
  | .tup ds, u, h => by
    cases u with
    | ref a =>
      simp only [kRep] at h
      split at h
      · rename_i c _ its n sl q
        simp only [Bool.and_eq_true, decide_eq_true_eq] at h
        obtain ⟨vs, h1, h2⟩ := kRepL_ok h.2.2
        exact ⟨.ref a, rfl, fun μ H => .tup (.inr ⟨_, its, n, q, congrArg Value.type h.1, rfl, h.2.1, h1⟩) (h2 μ H)⟩
      · cases h
    | _ => simp [kRep] at h
  | .lst ds, u, h => by
    cases u with
    | ref a =>
      simp only [kRep] at h
      split at h
      · rename_i c its n sl q
        simp only [Bool.and_eq_true, decide_eq_true_eq] at h
        obtain ⟨vs, h1, h2⟩ := kRepL_ok h.2.2
        exact ⟨.ref a, rfl, fun μ H => .lst (.inr ⟨_, its, n, q, congrArg Value.type h.1, rfl, rfl, h.2.1, h1⟩) (h2 μ H)⟩
      · cases h
    | _ => simp [kRep] at h
  | .ref n, u, h => by cases u <;> simp [kRep] at h
theorem kRepL_ok {K : PySem.W.Frag} : ∀ {ds : List D} {us : List Value}, kRepL K ds us = true → KRepL K ds us
  | [], [], _ => ⟨[], .nil, fun _ _ => .nil⟩
  | [], _ :: _, h => by simp [kRepL] at h
  | _ :: _, [], h => by simp [kRepL] at h
  | d :: ds, u :: us, h => by
    simp only [kRepL, Bool.and_eq_true] at h
    obtain ⟨v, h1, h2⟩ := kRep_ok h.1
    obtain ⟨vs, h3, h4⟩ := kRepL_ok h.2
    exact ⟨v :: vs, .cons h1 h3, fun μ H => .cons (h2 μ H) (h4 μ H)⟩
end
/-- the module's name x holds d -/
structure Cst (K : PySem.W.Frag) (mg : Str → Option Value) (x : Str) (d : D) : Prop where
  ex : ∃ u v, mg x = some u ∧ RelV v u ∧ ∀ μ H, Rep K μ H d v
theorem se_cst {X : Cx} {x : Str} {d : D} {pos : Pos} (c : Cst X.K X.mg x d) (hg : Gl X x) (hd : (x == ("__debug__" : Str)) = false := by decide) : SE X (.Name x pos) (wC d) := by
  obtain ⟨u, v, h1, h2, h3⟩ := c.ex
  exact se_glob hg h1 h2 h3 hd

/-! ### the head's Hook, with facts of one's own -/
def cstB (x : Str) (d : D) (K : PySem.W.Frag) : Bool := match PySem.W.nsIn K mainGlobals x with
  | some (some u) => kRep K d u
  | _ => false
def bltB (x : Str) (id : String) (K : PySem.W.Frag) : Bool := eqO (PySem.W.nsIn K mainGlobals x) (some (some (.builtin id)))
def gloB (x : Str) (K : PySem.W.Frag) : Bool := eqO (PySem.W.nsIn K mainGlobals x) (some (some (.ref (ga K x))))
def freB (x : Str) (K : PySem.W.Frag) : Bool := eqO (PySem.W.nsIn K mainGlobals x) (some none)
section
variable {K : PySem.W.Frag} {h : Heap} {mg : Str → Option Value}
theorem cstB_ok (X : K.In h) (G : h.Ns mainGlobals mg) {x : Str} {d : D} (c : cstB x d K = true) : Cst K mg x d := by
  unfold cstB at c
  split at c
  · rename_i u hu
    obtain ⟨v, h1, h2⟩ := kRep_ok c
    exact ⟨u, v, PySem.W.mg_of X G hu, h1, h2⟩
  · cases c
theorem bltB_ok (X : K.In h) (G : h.Ns mainGlobals mg) {x : Str} {id : String} (c : bltB x id K = true) : mg x = some (.builtin id) := PySem.W.mg_of X G (eqO_ok c)
theorem gloB_ok (X : K.In h) (G : h.Ns mainGlobals mg) {x : Str} (c : gloB x K = true) : mg x = some (.ref (ga K x)) := PySem.W.mg_of X G (eqO_ok c)
theorem freB_ok (X : K.In h) (G : h.Ns mainGlobals mg) {x : Str} (c : freB x K = true) : mg x = none := PySem.W.mg_none_of X G (eqO_ok c)
end
abbrev Facts := List (PySem.W.Frag → Bool)
def obsX (fa : Facts) (fn : List DefD) (K : PySem.W.Frag) : AlD := ((fa.all fun f => f K) && fn.all fun d => d.ok K, fn.map fun d => fnW K d.at_)
def SaysX (fa : Facts) (fn : List DefD) (K : PySem.W.Frag) : Prop := obsX fa fn K = valD fn
def obsXG (n : Nat) (fa : Facts) (fn : List DefD) (g : Addr → Option Obj) : AlD := obsX fa fn (frG g (asD g n))
def hookX (n : Nat) (fa : Facts) (fn : List DefD) : PySem.W.Hook where
  α := AlD
  obs := fun s => obsXG n fa fn s.heap.get?
  val := fun _ => valD fn
  says := fun _ h => ∃ K : PySem.W.Frag, K.In h ∧ SaysX fa fn K
  of := fun _ _ e => ⟨_, frG_in, e⟩
  keeps := fun _ _ _ ⟨K, hK, c⟩ k => ⟨K, PySem.W.Frag.In.keeps hK k, c⟩
theorem obsXG_eq {n : Nat} {fa : Facts} {fn : List DefD} {g : Addr → Option Obj} {s : Shared} (h : ∀ a, g a = s.heap.get? a) : obsXG n fa fn g = (hookX n fa fn).obs s := by
  have e : g = s.heap.get? := funext h
  rw [e] <;> rfl
section
variable {fa : Facts} {fn : List DefD} {K : PySem.W.Frag}
theorem SaysX.fact (c : SaysX fa fn K) (i : Nat) {f : PySem.W.Frag → Bool} (h : fa[i]? = some f := by rfl) : f K = true := by
  have c1 := (ba (show ((fa.all fun f => f K) && fn.all fun d => d.ok K) = true from congrArg (fun z : AlD => z.1) c)).1
  exact List.all_eq_true.mp c1 f (List.mem_of_getElem? h)
theorem SaysX.def_ (c : SaysX fa fn K) (i : Nat) {d : DefD} (h : fn[i]? = some d := by rfl) : ∃ fd, FunD K d.name d.qual d.params d.body d.scope (d.dvs K) (d.kws K) (fAd K d.at_) fd := by
  have c2 := (ba (show ((fa.all fun f => f K) && fn.all fun d => d.ok K) = true from congrArg (fun z : AlD => z.1) c)).2
  have e : fn.map (fun d => fnW K d.at_) = fn.map DefD.val := congrArg (fun z : AlD => z.2) c
  have e2 : (fn.map fun d => fnW K d.at_)[i]? = (fn.map DefD.val)[i]? := by rw [e]
  rw [List.getElem?_map, List.getElem?_map, h] at e2
  exact DefD.funD (Option.some.inj e2) (List.all_eq_true.mp c2 d (List.mem_of_getElem? h))
end
end DL

set_option maxHeartbeats 4000000
/-! lemmas for readings by content -/
namespace DL
open PySem PySem.Spec PyProof.Rows L2
theorem atD_of {ds : List D} (n : Nat) : atD ds (no_index (OfNat.ofNat n : Int)) = ds[n]? := rfl
theorem atD_cast {ds : List D} (n : Nat) : atD ds (n : Int) = ds[n]? := rfl
theorem atD_neg1 {ds : List D} : atD ds (-1) = if 0 < ds.length then ds[ds.length - 1]? else none := rfl
theorem putAt_lit (n m : Nat) (d : D) (S : Store) (Q : Store → Prop) : putAt n (no_index (OfNat.ofNat m : Int)) d S Q = match S[n]? with | some (.lst xs) => m < xs.length ∧ Q (S.set n (.lst (xs.set m d))) | _ => False := by
  unfold putAt
  rcases S[n]? with _ | (_ | _) <;> rfl
theorem mPopAt_lit (n m : Nat) (S : Store) (Q : D → Store → Prop) : mPopAt (.ref n) [.int (no_index (OfNat.ofNat m : Int))] S Q = match S[n]? with
    | some (.lst xs) => (match xs[m]? with | some y => m < 2 ^ 62 ∧ Q y (S.set n (.lst (xs.eraseIdx m))) | none => False)
    | _ => False := by
  show (match S[n]? with | some (.lst xs) => _ | _ => False) = _
  rcases S[n]? with _ | (_ | _) <;> rfl
theorem intsD_zero (lo : Int) : intsD lo 0 = [] := rfl
theorem intsD_succ (lo : Int) (n : Nat) : intsD lo (n + 1) = .int lo :: intsD (lo + 1) n := by
  unfold intsD
  rw [List.range_succ_eq_map, List.map_cons, List.map_map]
  refine congr (congrArg _ ?_) ?_
  · simp
  · apply List.map_congr_left
    intro i _
    show D.int (lo + ((i + 1 : Nat) : Int)) = D.int (lo + 1 + (i : Int))
    congr 1
    omega
theorem intsD_length (lo : Int) (n : Nat) : (intsD lo n).length = n := by simp [intsD]
theorem intsD_eq (lo : Int) (n : Nat) : intsD lo n = ((List.range n).map fun i => lo + (i : Nat)).map D.int := by simp [intsD, Function.comp_def]
theorem pure_ints (ns : List Int) : pureL (ns.map .int) := by
  induction ns with
  | nil => simp [pureL]
  | cons n ns ih => simpa [pureL, pureD] using ih
theorem shaped_ints : ∀ (ns : List Int), PyData.canLayAll0 (pyAll (ns.map .int)) = true
  | [] => by simp [pyAll, PyData.canLayAll0]
  | n :: ns => by simp [pyAll, PyData.canLayAll0, PyData.canLay0, D.py, shaped_ints ns]
/-- a comprehension that calls nothing of the store: a map -/
theorem compR_map {g : Tg} {we : WE} {G : Store → Prop} {ρ0 : Env} {Q : D → Store → Prop} {f : D → D} {S : Store} (hG : G S) : ∀ (xs acc : List D), acc.length + xs.length ≤ sizeLine →
    (∀ x, x ∈ xs → ∃ ρ2, bindT g x ρ0 = some ρ2 ∧ ∀ Q : D → Store → Prop, Q (f x) S → we ρ2 S Q) → Q (.lst (acc ++ xs.map f)) S → compR g wYes we G ρ0 Q xs acc S
  | [], acc, _, _, q => ⟨hG, by simpa using q⟩
  | x :: xs, acc, hl, h, q => by
    obtain ⟨ρ2, hb, hw⟩ := h x (by simp)
    refine ⟨hG, ?_⟩
    rw [hb]
    show we ρ2 S _
    simp only [List.length_cons] at hl
    refine hw _ ⟨by omega, compR_map hG xs (acc ++ [f x]) (by simp; omega) (fun y hy => h y (by simp [hy])) ?_⟩
    rw [List.append_assoc]
    exact q
/-- .. with a test -/
theorem compR_filter {g : Tg} {wt : WT} {we : WE} {G : Store → Prop} {ρ0 : Env} {Q : D → Store → Prop} {t : D → Bool} {f : D → D} {S : Store} (hG : G S) : ∀ (xs acc : List D), acc.length + xs.length ≤ sizeLine →
    (∀ x, x ∈ xs → ∃ ρ2, bindT g x ρ0 = some ρ2 ∧ (∀ Q : Bool → Store → Prop, Q (t x) S → wt ρ2 S Q) ∧ (t x = true → ∀ Q : D → Store → Prop, Q (f x) S → we ρ2 S Q)) →
    Q (.lst (acc ++ (xs.filter t).map f)) S → compR g wt we G ρ0 Q xs acc S
  | [], acc, _, _, q => ⟨hG, by simpa using q⟩
  | x :: xs, acc, hl, h, q => by
    obtain ⟨ρ2, hb, ht, hw⟩ := h x (by simp)
    refine ⟨hG, ?_⟩
    rw [hb]
    simp only [List.length_cons] at hl
    refine ht _ ?_
    cases e : t x with
    | true =>
      rw [if_pos rfl]
      refine hw e _ ⟨by omega, compR_filter hG xs (acc ++ [f x]) (by simp; omega) (fun y hy => h y (by simp [hy])) ?_⟩
      rw [List.append_assoc]
      rw [List.filter_cons_of_pos e] at q
      exact q
    | false =>
      rw [if_neg (by decide)]
      refine compR_filter hG xs acc (by omega) (fun y hy => h y (by simp [hy])) ?_
      rw [List.filter_cons_of_neg (by rw [e]; decide)] at q
      exact q
theorem isT_non_int {S : Store} {b : Bool} {i : Int} {z : Str} {ds : List D} : isT D.non S "int" = some false := by first | rfl | decide
theorem isT_non_bool {S : Store} {b : Bool} {i : Int} {z : Str} {ds : List D} : isT D.non S "bool" = some false := by first | rfl | decide
theorem isT_non_str {S : Store} {b : Bool} {i : Int} {z : Str} {ds : List D} : isT D.non S "str" = some false := by first | rfl | decide
theorem isT_non_tuple {S : Store} {b : Bool} {i : Int} {z : Str} {ds : List D} : isT D.non S "tuple" = some false := by first | rfl | decide
theorem isT_non_list {S : Store} {b : Bool} {i : Int} {z : Str} {ds : List D} : isT D.non S "list" = some false := by first | rfl | decide
theorem isT_bl_int {S : Store} {b : Bool} {i : Int} {z : Str} {ds : List D} : isT (.bl b) S "int" = some true := by first | rfl | decide
theorem isT_bl_bool {S : Store} {b : Bool} {i : Int} {z : Str} {ds : List D} : isT (.bl b) S "bool" = some true := by first | rfl | decide
theorem isT_bl_str {S : Store} {b : Bool} {i : Int} {z : Str} {ds : List D} : isT (.bl b) S "str" = some false := by first | rfl | decide
theorem isT_bl_tuple {S : Store} {b : Bool} {i : Int} {z : Str} {ds : List D} : isT (.bl b) S "tuple" = some false := by first | rfl | decide
theorem isT_bl_list {S : Store} {b : Bool} {i : Int} {z : Str} {ds : List D} : isT (.bl b) S "list" = some false := by first | rfl | decide
theorem isT_int_int {S : Store} {b : Bool} {i : Int} {z : Str} {ds : List D} : isT (.int i) S "int" = some true := by first | rfl | decide
theorem isT_int_bool {S : Store} {b : Bool} {i : Int} {z : Str} {ds : List D} : isT (.int i) S "bool" = some false := by first | rfl | decide
theorem isT_int_str {S : Store} {b : Bool} {i : Int} {z : Str} {ds : List D} : isT (.int i) S "str" = some false := by first | rfl | decide
theorem isT_int_tuple {S : Store} {b : Bool} {i : Int} {z : Str} {ds : List D} : isT (.int i) S "tuple" = some false := by first | rfl | decide
theorem isT_int_list {S : Store} {b : Bool} {i : Int} {z : Str} {ds : List D} : isT (.int i) S "list" = some false := by first | rfl | decide
theorem isT_str_int {S : Store} {b : Bool} {i : Int} {z : Str} {ds : List D} : isT (.str z) S "int" = some false := by first | rfl | decide
theorem isT_str_bool {S : Store} {b : Bool} {i : Int} {z : Str} {ds : List D} : isT (.str z) S "bool" = some false := by first | rfl | decide
theorem isT_str_str {S : Store} {b : Bool} {i : Int} {z : Str} {ds : List D} : isT (.str z) S "str" = some true := by first | rfl | decide
theorem isT_str_tuple {S : Store} {b : Bool} {i : Int} {z : Str} {ds : List D} : isT (.str z) S "tuple" = some false := by first | rfl | decide
theorem isT_str_list {S : Store} {b : Bool} {i : Int} {z : Str} {ds : List D} : isT (.str z) S "list" = some false := by first | rfl | decide
theorem isT_tup_int {S : Store} {b : Bool} {i : Int} {z : Str} {ds : List D} : isT (.tup ds) S "int" = some false := by first | rfl | decide
theorem isT_tup_bool {S : Store} {b : Bool} {i : Int} {z : Str} {ds : List D} : isT (.tup ds) S "bool" = some false := by first | rfl | decide
theorem isT_tup_str {S : Store} {b : Bool} {i : Int} {z : Str} {ds : List D} : isT (.tup ds) S "str" = some false := by first | rfl | decide
theorem isT_tup_tuple {S : Store} {b : Bool} {i : Int} {z : Str} {ds : List D} : isT (.tup ds) S "tuple" = some true := by first | rfl | decide
theorem isT_tup_list {S : Store} {b : Bool} {i : Int} {z : Str} {ds : List D} : isT (.tup ds) S "list" = some false := by first | rfl | decide
theorem isT_lst_int {S : Store} {b : Bool} {i : Int} {z : Str} {ds : List D} : isT (.lst ds) S "int" = some false := by first | rfl | decide
theorem isT_lst_bool {S : Store} {b : Bool} {i : Int} {z : Str} {ds : List D} : isT (.lst ds) S "bool" = some false := by first | rfl | decide
theorem isT_lst_str {S : Store} {b : Bool} {i : Int} {z : Str} {ds : List D} : isT (.lst ds) S "str" = some false := by first | rfl | decide
theorem isT_lst_tuple {S : Store} {b : Bool} {i : Int} {z : Str} {ds : List D} : isT (.lst ds) S "tuple" = some false := by first | rfl | decide
theorem isT_lst_list {S : Store} {b : Bool} {i : Int} {z : Str} {ds : List D} : isT (.lst ds) S "list" = some true := by first | rfl | decide
theorem bq_tt : (true == true) = true := rfl
theorem bq_tf : (true == false) = false := rfl
theorem bq_ft : (false == true) = false := rfl
theorem bq_ff : (false == false) = true := rfl
theorem eqv2 (a b c d : Int) : eqv (.tup [.int a, .int b]) (.tup [.int c, .int d]) = (decide (a = c) && decide (b = d)) := by
  simp [eqv, D.py, pyAll, PyData.eqv, PyData.eqvAll, Bool.beq_eq_decide_eq]
theorem okD2 (a b : Int) : okD (.tup [.int a, .int b]) := by
  show SeqAt.shaped _ = true
  rfl
/-! the simp set -/
theorem x_rAdd {i j : Int} {S : Store} {Q : D → Store → Prop} : DL.rAdd (.int i) (.int j) S Q = Q (.int (i + j)) S := (rfl)
theorem x_rSub {i j : Int} {S : Store} {Q : D → Store → Prop} : DL.rSub (.int i) (.int j) S Q = Q (.int (i - j)) S := (rfl)
theorem x_rMul {i j : Int} {S : Store} {Q : D → Store → Prop} : DL.rMul (.int i) (.int j) S Q = (MulOk i j ∧ Q (.int (i * j)) S) := (rfl)
theorem x_rDiv {i j : Int} {S : Store} {Q : D → Store → Prop} : DL.rDiv (.int i) (.int j) S Q = (DivOk j ∧ Q (.int (i / j)) S) := (rfl)
theorem x_rMod {i j : Int} {S : Store} {Q : D → Store → Prop} : DL.rMod (.int i) (.int j) S Q = (0 < j ∧ Q (.int (i % j)) S) := (rfl)
theorem x_rPow {i j : Int} {S : Store} {Q : D → Store → Prop} : DL.rPow (.int i) (.int j) S Q = (CPow i j ∧ Q (.int (i ^ j.toNat)) S) := (rfl)
theorem x_rLt {i j : Int} {S : Store} {Q : D → Store → Prop} : DL.rLt (.int i) (.int j) S Q = Q (.bl (decide (i < j))) S := (rfl)
theorem x_rLe {i j : Int} {S : Store} {Q : D → Store → Prop} : DL.rLe (.int i) (.int j) S Q = Q (.bl (decide (i ≤ j))) S := (rfl)
theorem x_rGt {i j : Int} {S : Store} {Q : D → Store → Prop} : DL.rGt (.int i) (.int j) S Q = Q (.bl (decide (j < i))) S := (rfl)
theorem x_rGe {i j : Int} {S : Store} {Q : D → Store → Prop} : DL.rGe (.int i) (.int j) S Q = Q (.bl (decide (j ≤ i))) S := (rfl)
theorem x_rAdd_s {a b : Str} {S : Store} {Q : D → Store → Prop} : DL.rAdd (.str a) (.str b) S Q = (a.length + b.length ≤ sizeLine ∧ Q (.str (a ++ b)) S) := (rfl)
theorem x_rAdd_t {a b : List D} {S : Store} {Q : D → Store → Prop} : DL.rAdd (.tup a) (.tup b) S Q = (a ≠ [] ∧ a.length + b.length ≤ sizeLine ∧ Q (.tup (a ++ b)) S) := (rfl)
theorem x_rEq_int {a b : Int} {S : Store} {Q : D → Store → Prop} : DL.rEq (.int a) (.int b) S Q = Q (.bl (decide (a = b))) S := (rfl)
theorem x_rEq_bl {a b : Bool} {S : Store} {Q : D → Store → Prop} : DL.rEq (.bl a) (.bl b) S Q = Q (.bl (decide (a = b))) S := (rfl)
theorem x_rEq_str {a b : Str} {S : Store} {Q : D → Store → Prop} : DL.rEq (.str a) (.str b) S Q = Q (.bl (decide (a = b))) S := (rfl)
theorem x_rEq_tup {a b : List D} {S : Store} {Q : D → Store → Prop} : DL.rEq (.tup a) (.tup b) S Q = (okD (.tup a) ∧ okD (.tup b) ∧ Q (.bl (eqv (.tup a) (.tup b))) S) := (rfl)
theorem x_rEq_lst {a b : List D} {S : Store} {Q : D → Store → Prop} : DL.rEq (.lst a) (.lst b) S Q = (okD (.lst a) ∧ okD (.lst b) ∧ Q (.bl (eqv (.lst a) (.lst b))) S) := (rfl)
theorem x_rEq_nt {b : List D} {S : Store} {Q : D → Store → Prop} : DL.rEq .non (.tup b) S Q = (okD .non ∧ okD (.tup b) ∧ Q (.bl (eqv .non (.tup b))) S) := (rfl)
theorem x_rEq_tn {b : List D} {S : Store} {Q : D → Store → Prop} : DL.rEq (.tup b) .non S Q = (okD (.tup b) ∧ okD .non ∧ Q (.bl (eqv (.tup b) .non)) S) := (rfl)
theorem x_rEq_nn {S : Store} {Q : D → Store → Prop} : DL.rEq .non .non S Q = (okD .non ∧ okD .non ∧ Q (.bl (eqv .non .non)) S) := (rfl)
theorem x_rEq_ni {b : Int} {S : Store} {Q : D → Store → Prop} : DL.rEq .non (.int b) S Q = (okD .non ∧ okD (.int b) ∧ Q (.bl (eqv .non (.int b))) S) := (rfl)
theorem x_rEq_in {b : Int} {S : Store} {Q : D → Store → Prop} : DL.rEq (.int b) .non S Q = (okD (.int b) ∧ okD .non ∧ Q (.bl (eqv (.int b) .non)) S) := (rfl)
theorem x_rNe_int {a b : Int} {S : Store} {Q : D → Store → Prop} : DL.rNe (.int a) (.int b) S Q = Q (.bl (!decide (a = b))) S := (rfl)
theorem x_rNe_bl {a b : Bool} {S : Store} {Q : D → Store → Prop} : DL.rNe (.bl a) (.bl b) S Q = Q (.bl (!decide (a = b))) S := (rfl)
theorem x_rNe_str {a b : Str} {S : Store} {Q : D → Store → Prop} : DL.rNe (.str a) (.str b) S Q = Q (.bl (!decide (a = b))) S := (rfl)
theorem x_rNe_tup {a b : List D} {S : Store} {Q : D → Store → Prop} : DL.rNe (.tup a) (.tup b) S Q = (okD (.tup a) ∧ okD (.tup b) ∧ Q (.bl (!eqv (.tup a) (.tup b))) S) := (rfl)
theorem x_rNe_lst {a b : List D} {S : Store} {Q : D → Store → Prop} : DL.rNe (.lst a) (.lst b) S Q = (okD (.lst a) ∧ okD (.lst b) ∧ Q (.bl (!eqv (.lst a) (.lst b))) S) := (rfl)
theorem x_rNe_nt {b : List D} {S : Store} {Q : D → Store → Prop} : DL.rNe .non (.tup b) S Q = (okD .non ∧ okD (.tup b) ∧ Q (.bl (!eqv .non (.tup b))) S) := (rfl)
theorem x_rNe_tn {b : List D} {S : Store} {Q : D → Store → Prop} : DL.rNe (.tup b) .non S Q = (okD (.tup b) ∧ okD .non ∧ Q (.bl (!eqv (.tup b) .non)) S) := (rfl)
theorem x_rNe_nn {S : Store} {Q : D → Store → Prop} : DL.rNe .non .non S Q = (okD .non ∧ okD .non ∧ Q (.bl (!eqv .non .non)) S) := (rfl)
theorem x_rNe_ni {b : Int} {S : Store} {Q : D → Store → Prop} : DL.rNe .non (.int b) S Q = (okD .non ∧ okD (.int b) ∧ Q (.bl (!eqv .non (.int b))) S) := (rfl)
theorem x_rNe_in {b : Int} {S : Store} {Q : D → Store → Prop} : DL.rNe (.int b) .non S Q = (okD (.int b) ∧ okD .non ∧ Q (.bl (!eqv (.int b) .non)) S) := (rfl)
theorem x_is_non_n {S : Store} {Q : D → Store → Prop} : DL.rIs D.non .non S Q = Q (.bl true) S := (rfl)
theorem x_isn_non_n {S : Store} {Q : D → Store → Prop} : DL.rIsNot D.non .non S Q = Q (.bl false) S := (rfl)
theorem x_is_non_b {k : Bool} {S : Store} {Q : D → Store → Prop} : DL.rIs D.non (.bl k) S Q = Q (.bl false) S := (rfl)
theorem x_isn_non_b {k : Bool} {S : Store} {Q : D → Store → Prop} : DL.rIsNot D.non (.bl k) S Q = Q (.bl true) S := (rfl)
theorem x_is_bl_n {b : Bool} {S : Store} {Q : D → Store → Prop} : DL.rIs (.bl b) .non S Q = Q (.bl false) S := (rfl)
theorem x_isn_bl_n {b : Bool} {S : Store} {Q : D → Store → Prop} : DL.rIsNot (.bl b) .non S Q = Q (.bl true) S := (rfl)
theorem x_is_int_n {i : Int} {S : Store} {Q : D → Store → Prop} : DL.rIs (.int i) .non S Q = Q (.bl false) S := (rfl)
theorem x_isn_int_n {i : Int} {S : Store} {Q : D → Store → Prop} : DL.rIsNot (.int i) .non S Q = Q (.bl true) S := (rfl)
theorem x_is_int_b {i : Int} {k : Bool} {S : Store} {Q : D → Store → Prop} : DL.rIs (.int i) (.bl k) S Q = Q (.bl false) S := (rfl)
theorem x_isn_int_b {i : Int} {k : Bool} {S : Store} {Q : D → Store → Prop} : DL.rIsNot (.int i) (.bl k) S Q = Q (.bl true) S := (rfl)
theorem x_is_str_n {z : Str} {S : Store} {Q : D → Store → Prop} : DL.rIs (.str z) .non S Q = Q (.bl false) S := (rfl)
theorem x_isn_str_n {z : Str} {S : Store} {Q : D → Store → Prop} : DL.rIsNot (.str z) .non S Q = Q (.bl true) S := (rfl)
theorem x_is_str_b {z : Str} {k : Bool} {S : Store} {Q : D → Store → Prop} : DL.rIs (.str z) (.bl k) S Q = Q (.bl false) S := (rfl)
theorem x_isn_str_b {z : Str} {k : Bool} {S : Store} {Q : D → Store → Prop} : DL.rIsNot (.str z) (.bl k) S Q = Q (.bl true) S := (rfl)
theorem x_is_tup_n {ds : List D} {S : Store} {Q : D → Store → Prop} : DL.rIs (.tup ds) .non S Q = Q (.bl false) S := (rfl)
theorem x_isn_tup_n {ds : List D} {S : Store} {Q : D → Store → Prop} : DL.rIsNot (.tup ds) .non S Q = Q (.bl true) S := (rfl)
theorem x_is_tup_b {ds : List D} {k : Bool} {S : Store} {Q : D → Store → Prop} : DL.rIs (.tup ds) (.bl k) S Q = Q (.bl false) S := (rfl)
theorem x_isn_tup_b {ds : List D} {k : Bool} {S : Store} {Q : D → Store → Prop} : DL.rIsNot (.tup ds) (.bl k) S Q = Q (.bl true) S := (rfl)
theorem x_is_lst_n {ds : List D} {S : Store} {Q : D → Store → Prop} : DL.rIs (.lst ds) .non S Q = Q (.bl false) S := (rfl)
theorem x_isn_lst_n {ds : List D} {S : Store} {Q : D → Store → Prop} : DL.rIsNot (.lst ds) .non S Q = Q (.bl true) S := (rfl)
theorem x_is_lst_b {ds : List D} {k : Bool} {S : Store} {Q : D → Store → Prop} : DL.rIs (.lst ds) (.bl k) S Q = Q (.bl false) S := (rfl)
theorem x_isn_lst_b {ds : List D} {k : Bool} {S : Store} {Q : D → Store → Prop} : DL.rIsNot (.lst ds) (.bl k) S Q = Q (.bl true) S := (rfl)
theorem x_is_ref_n {n : Nat} {S : Store} {Q : D → Store → Prop} : DL.rIs (.ref n) .non S Q = Q (.bl false) S := (rfl)
theorem x_isn_ref_n {n : Nat} {S : Store} {Q : D → Store → Prop} : DL.rIsNot (.ref n) .non S Q = Q (.bl true) S := (rfl)
theorem x_is_ref_b {n : Nat} {k : Bool} {S : Store} {Q : D → Store → Prop} : DL.rIs (.ref n) (.bl k) S Q = Q (.bl false) S := (rfl)
theorem x_isn_ref_b {n : Nat} {k : Bool} {S : Store} {Q : D → Store → Prop} : DL.rIsNot (.ref n) (.bl k) S Q = Q (.bl true) S := (rfl)
theorem x_is_bb {a b : Bool} {S : Store} {Q : D → Store → Prop} : DL.rIs (.bl a) (.bl b) S Q = Q (.bl (a == b)) S := (rfl)
theorem x_isn_bb {a b : Bool} {S : Store} {Q : D → Store → Prop} : DL.rIsNot (.bl a) (.bl b) S Q = Q (.bl (!(a == b))) S := (rfl)
def oM {α : Type} (o : Option α) (k : α → Prop) : Prop := match o with | some a => k a | none => False
theorem oM_some {α : Type} {a : α} {k : α → Prop} : oM (some a) k = k a := (rfl)
def sM (o : Option Ob) (k : List D → Prop) : Prop := match o with | some (.lst ds) => k ds | _ => False
theorem sM_some {ds : List D} {k : List D → Prop} : sM (some (.lst ds)) k = k ds := (rfl)
theorem x_ix_tup {ds : List D} {i : Int} {S : Store} {Q : D → Store → Prop} : DL.rIx (.tup ds) (.int i) S Q = oM (atD ds i) (fun d => Q d S) := by show (match atD ds i with | some d => Q d S | none => False) = _; cases atD ds i <;> rfl
theorem x_ix_lst {ds : List D} {i : Int} {S : Store} {Q : D → Store → Prop} : DL.rIx (.lst ds) (.int i) S Q = oM (atD ds i) (fun d => Q d S) := by show (match atD ds i with | some d => Q d S | none => False) = _; cases atD ds i <;> rfl
theorem x_ix_ref {n : Nat} {i : Int} {S : Store} {Q : D → Store → Prop} : DL.rIx (.ref n) (.int i) S Q = sM S[n]? (fun ds => oM (atD ds i) (fun d => Q d S)) := by
  show (match S[n]? with | some (.lst ds) => (match atD ds i with | some d => Q d S | none => False) | _ => False) = _
  rcases S[n]? with _ | (ds | _)
  · rfl
  · show (match atD ds i with | some d => Q d S | none => False) = oM (atD ds i) _
    cases atD ds i <;> rfl
  · rfl
theorem x_tru_non {S : Store} {Q : Bool → Store → Prop} : DL.rTru D.non S Q = Q false S := (rfl)
theorem x_tru_bl {b : Bool} {S : Store} {Q : Bool → Store → Prop} : DL.rTru (.bl b) S Q = Q b S := (rfl)
theorem x_tru_int {i : Int} {S : Store} {Q : Bool → Store → Prop} : DL.rTru (.int i) S Q = Q (i != 0) S := (rfl)
theorem x_tru_str {z : Str} {S : Store} {Q : Bool → Store → Prop} : DL.rTru (.str z) S Q = (z.length ≤ sizeLine ∧ Q (z.length != 0) S) := (rfl)
theorem x_tru_tup {ds : List D} {S : Store} {Q : Bool → Store → Prop} : DL.rTru (.tup ds) S Q = Q (!ds.isEmpty) S := (rfl)
theorem x_tru_lst {ds : List D} {S : Store} {Q : Bool → Store → Prop} : DL.rTru (.lst ds) S Q = Q (!ds.isEmpty) S := (rfl)
theorem x_tru_ref {n : Nat} {S : Store} {Q : Bool → Store → Prop} : DL.rTru (.ref n) S Q = sM S[n]? (fun ds => Q (!ds.isEmpty) S) := by show (match S[n]? with | some (.lst ds) => _ | _ => False) = _; rcases S[n]? with _ | (_ | _) <;> rfl
theorem x_len_tup {ds : List D} {S : Store} {Q : D → Store → Prop} : DL.rLen [.tup ds] S Q = Q (.int ds.length) S := (rfl)
theorem x_tuple_tup {ds : List D} {S : Store} {Q : D → Store → Prop} : DL.rTuple [.tup ds] S Q = Q (.tup ds) S := (rfl)
theorem x_list_tup {ds : List D} {S : Store} {Q : D → Store → Prop} : DL.rList [.tup ds] S Q = Q (.lst ds) S := (rfl)
theorem x_listN_tup {ds : List D} {S : Store} {Q : D → Store → Prop} : DL.rListN [.tup ds] S Q = Q (.ref S.length) (S ++ [.lst ds]) := (rfl)
theorem x_len_lst {ds : List D} {S : Store} {Q : D → Store → Prop} : DL.rLen [.lst ds] S Q = Q (.int ds.length) S := (rfl)
theorem x_tuple_lst {ds : List D} {S : Store} {Q : D → Store → Prop} : DL.rTuple [.lst ds] S Q = Q (.tup ds) S := (rfl)
theorem x_list_lst {ds : List D} {S : Store} {Q : D → Store → Prop} : DL.rList [.lst ds] S Q = Q (.lst ds) S := (rfl)
theorem x_listN_lst {ds : List D} {S : Store} {Q : D → Store → Prop} : DL.rListN [.lst ds] S Q = Q (.ref S.length) (S ++ [.lst ds]) := (rfl)
theorem x_len_str {z : Str} {S : Store} {Q : D → Store → Prop} : DL.rLen [.str z] S Q = (z.length ≤ sizeLine ∧ Q (.int z.length) S) := (rfl)
theorem x_rLen_ref {n : Nat} {S : Store} {Q : D → Store → Prop} : DL.rLen [.ref n] S Q = sM S[n]? (fun ds => Q (.int ds.length) S) := by show (match S[n]? with | some (.lst ds) => _ | _ => False) = _; rcases S[n]? with _ | (_ | _) <;> rfl
theorem x_rTuple_ref {n : Nat} {S : Store} {Q : D → Store → Prop} : DL.rTuple [.ref n] S Q = sM S[n]? (fun ds => Q (.tup ds) S) := by show (match S[n]? with | some (.lst ds) => _ | _ => False) = _; rcases S[n]? with _ | (_ | _) <;> rfl
theorem x_rList_ref {n : Nat} {S : Store} {Q : D → Store → Prop} : DL.rList [.ref n] S Q = sM S[n]? (fun ds => Q (.lst ds) S) := by show (match S[n]? with | some (.lst ds) => _ | _ => False) = _; rcases S[n]? with _ | (_ | _) <;> rfl
theorem x_rListN_ref {n : Nat} {S : Store} {Q : D → Store → Prop} : DL.rListN [.ref n] S Q = sM S[n]? (fun ds => Q (.ref S.length) (S ++ [.lst ds])) := by show (match S[n]? with | some (.lst ds) => _ | _ => False) = _; rcases S[n]? with _ | (_ | _) <;> rfl
theorem x_int_int {i : Int} {S : Store} {Q : D → Store → Prop} : DL.rInt [.int i] S Q = Q (.int i) S := (rfl)
theorem x_int_bl {b : Bool} {S : Store} {Q : D → Store → Prop} : DL.rInt [.bl b] S Q = Q (.int (if b = true then 1 else 0)) S := (rfl)
theorem x_abs {i : Int} {S : Store} {Q : D → Store → Prop} : DL.rAbs [.int i] S Q = Q (.int (if i < 0 then -i else i)) S := (rfl)
theorem x_gcd {i j : Int} {S : Store} {Q : D → Store → Prop} : rGcdD [.int i, .int j] S Q = Q (.int ((Nat.gcd i.natAbs j.natAbs : Nat) : Int)) S := (rfl)
theorem x_max2 {i j : Int} {S : Store} {Q : D → Store → Prop} : DL.rMax2 [.int i, .int j] S Q = Q (.int (if j > i then j else i)) S := (rfl)
theorem x_min2 {i j : Int} {S : Store} {Q : D → Store → Prop} : DL.rMin2 [.int i, .int j] S Q = Q (.int (if j < i then j else i)) S := (rfl)
theorem x_append {n : Nat} {d : D} {S : Store} {Q : D → Store → Prop} : mAppend (.ref n) [d] S Q = sM S[n]? (fun xs => xs.length < sizeLine ∧ Q .non (S.set n (.lst (xs ++ [d])))) := by show (match S[n]? with | some (.lst xs) => _ | _ => False) = _; rcases S[n]? with _ | (_ | _) <;> rfl
theorem x_popAt {n m : Nat} {S : Store} {Q : D → Store → Prop} : mPopAt (.ref n) [.int (no_index (OfNat.ofNat m : Int))] S Q = sM S[n]? (fun xs => oM xs[m]? (fun y => m < 2 ^ 62 ∧ Q y (S.set n (.lst (xs.eraseIdx m))))) := by
  rw [mPopAt_lit]
  rcases S[n]? with _ | (xs | _)
  · rfl
  · show (match xs[m]? with | some y => m < 2 ^ 62 ∧ Q y (S.set n (.lst (xs.eraseIdx m))) | none => False) = oM xs[m]? _
    cases xs[m]? <;> rfl
  · rfl
theorem x_pop {n : Nat} {S : Store} {Q : D → Store → Prop} : mPop (.ref n) [] S Q = sM S[n]? (fun xs => oM xs[xs.length - 1]? (fun y => Q y (S.set n (.lst xs.dropLast)))) := by
  show (match S[n]? with | some (.lst xs) => (match xs[xs.length - 1]? with | some y => Q y (S.set n (.lst xs.dropLast)) | none => False) | _ => False) = _
  rcases S[n]? with _ | (xs | _)
  · rfl
  · show (match xs[xs.length - 1]? with | some y => Q y (S.set n (.lst xs.dropLast)) | none => False) = oM xs[xs.length - 1]? _
    cases xs[xs.length - 1]? <;> rfl
  · rfl
theorem x_putAt {n m : Nat} {d : D} {S : Store} {P : Store → Prop} : putAt n (no_index (OfNat.ofNat m : Int)) d S P = sM S[n]? (fun xs => m < xs.length ∧ P (S.set n (.lst (xs.set m d)))) := by rw [putAt_lit]; rcases S[n]? with _ | (_ | _) <;> rfl
theorem x_putAtC {n m : Nat} {d : D} {S : Store} {P : Store → Prop} : putAt n (m : Int) d S P = sM S[n]? (fun xs => m < xs.length ∧ P (S.set n (.lst (xs.set m d)))) := by show (match S[n]? with | some (.lst xs) => _ | _ => False) = _; rcases S[n]? with _ | (_ | _) <;> rfl
theorem x_isL_ref {n : Nat} {S : Store} : isL (.ref n) S = sM S[n]? (fun _ => True) := by show (match S[n]? with | some (.lst _) => True | _ => False) = _; rcases S[n]? with _ | (_ | _) <;> rfl
theorem x_isL_lst {ds : List D} {S : Store} : isL (.lst ds) S = True := (rfl)
theorem y_var0 {d : D} {ρ : DL.Env} {S : Store} {Q : D → Store → Prop}  : wVar 0 (some d :: ρ) S Q = Q d S := (rfl)
theorem y_varS {n : Nat} {x : Option D} {ρ : DL.Env} {S : Store} {Q : D → Store → Prop}  : wVar (n + 1) (x :: ρ) S Q = wVar n ρ S Q := by show (match (x :: ρ)[n + 1]? with | some (some d) => Q d S | _ => False) = (match ρ[n]? with | some (some d) => Q d S | _ => False); rw [List.getElem?_cons_succ]
def tB (d : D) (S : Store) (Q : Bool → Store → Prop) : Prop := match d with | .bl k => Q k S | _ => False
theorem y_tB {k : Bool} {S : Store} {Q : Bool → Store → Prop} : tB (.bl k) S Q = Q k S := (rfl)
theorem y_test {w : WE} {ρ : DL.Env} {S : Store} {Q : Bool → Store → Prop}  : wTest w ρ S Q = w ρ S (fun d S1 => tB d S1 Q) := (rfl)
theorem y_wBl {w : WE} {k : Bool → WE} {ρ : DL.Env} {S : Store} {Q : D → Store → Prop}  : wBl w k ρ S Q = w ρ S (fun d S1 => tB d S1 (fun b S2 => k b ρ S2 Q)) := (rfl)
def nB (d : D) (S : Store) (Q : D → Store → Prop) : Prop := match d with | .int i => Q (.int (-i)) S | _ => False
theorem y_nB {i : Int} {S : Store} {Q : D → Store → Prop} : nB (.int i) S Q = Q (.int (-i)) S := (rfl)
theorem y_neg {w : WE} {ρ : DL.Env} {S : Store} {Q : D → Store → Prop}  : wNeg w ρ S Q = w ρ S (fun d S1 => nB d S1 Q) := (rfl)
theorem y_isT {w : WE} {T : String} {ρ : DL.Env} {S : Store} {Q : D → Store → Prop}  : wIsT w T ρ S Q = w ρ S (fun d S1 => oM (isT d S1 T) (fun b => Q (.bl b) S1)) := by
  unfold wIsT
  congr 1
  funext d S1
  cases isT d S1 T <;> rfl
theorem y_asgN {w : WE} {i : Nat} {D0 : EndsD} {ρ : DL.Env} {S : Store}  : wAsg w (.name i) D0 ρ S = w ρ S (fun d S1 => D0.nx (ρ.set i (some d)) S1) := by unfold wAsg; simp only [bindT]
def bK (ts : List Tg) (d : D) (ρ : DL.Env) (k : DL.Env → Prop) : Prop := match d with | .tup ds => oM (bindTs ts ds ρ) k | _ => False
theorem y_bK {ts : List Tg} {ds : List D} {ρ : DL.Env} {k : DL.Env → Prop} : bK ts (.tup ds) ρ k = oM (bindTs ts ds ρ) k := (rfl)
theorem bK_eq {ts : List Tg} {d : D} {ρ : DL.Env} {k : DL.Env → Prop} : (match bindT (.tup ts) d ρ with | some ρ' => k ρ' | none => False) = bK ts d ρ k := by
  cases d with
  | tup ds =>
    simp only [bindT, bK]
    cases bindTs ts ds ρ <;> rfl
  | _ => simp only [bindT, bK]
theorem y_asgT {w : WE} {ts : List Tg} {D0 : EndsD} {ρ : DL.Env} {S : Store}  : wAsg w (.tup ts) D0 ρ S = w ρ S (fun d S1 => bK ts d ρ (fun ρ' => D0.nx ρ' S1)) := by
  unfold wAsg
  congr 1
  funext d S1
  exact bK_eq (k := fun ρ' => D0.nx ρ' S1)
theorem y_bindN {i : Nat} {ts : List Tg} {d : D} {ds : List D} {ρ : DL.Env} : bindTs (.name i :: ts) (d :: ds) ρ = bindTs ts ds (ρ.set i (some d)) := by simp only [bindTs, bindT]
theorem y_bind0 {ρ : DL.Env} : bindTs [] [] ρ = some ρ := by simp only [bindTs]
theorem y_for0 {g : Tg} {wb : WS} {G : Store → Prop} {D0 : EndsD} {ρ : DL.Env} {S : Store}  : forR g wb G D0 [] ρ S = (G S ∧ D0.nx ρ S) := (rfl)
theorem y_forN {i : Nat} {wb : WS} {G : Store → Prop} {x : D} {r : List D} {D0 : EndsD} {ρ : DL.Env} {S : Store}  : forR (.name i) wb G D0 (x :: r) ρ S = (G S ∧ wb { D0 with nx := fun ρ S => forR (.name i) wb G D0 r ρ S, ct := fun ρ S => forR (.name i) wb G D0 r ρ S, bk := D0.nx } (ρ.set i (some x)) S) := by rw [forR]; simp only [bindT]
theorem y_forT {ts : List Tg} {wb : WS} {G : Store → Prop} {x : D} {r : List D} {D0 : EndsD} {ρ : DL.Env} {S : Store}  : forR (.tup ts) wb G D0 (x :: r) ρ S = (G S ∧ bK ts x ρ (fun ρ' => wb { D0 with nx := fun ρ S => forR (.tup ts) wb G D0 r ρ S, ct := fun ρ S => forR (.tup ts) wb G D0 r ρ S, bk := D0.nx } ρ' S)) := by
  rw [forR]
  congr 1
  exact bK_eq
def iK (d : D) (S : Store) (Q : List D → (Store → Prop) → Store → Prop) : Prop := match d with | .tup ds => Q ds (fun _ => True) S | .lst ds => Q ds (fun _ => True) S | .ref n => sM S[n]? (fun ds => Q ds (fun S => S[n]? = some (.lst ds)) S) | _ => False
theorem y_seqI {w : WE} {ρ : DL.Env} {S : Store} {Q : List D → (Store → Prop) → Store → Prop}  : wSeqI w ρ S Q = w ρ S (fun d S1 => iK d S1 Q) := by
  unfold wSeqI
  congr 1
theorem y_iK_t {ds : List D} {S : Store} {Q : List D → (Store → Prop) → Store → Prop} : iK (.tup ds) S Q = Q ds (fun _ => True) S := (rfl)
theorem y_iK_l {ds : List D} {S : Store} {Q : List D → (Store → Prop) → Store → Prop} : iK (.lst ds) S Q = Q ds (fun _ => True) S := (rfl)
theorem y_iK_r {n : Nat} {S : Store} {Q : List D → (Store → Prop) → Store → Prop} : iK (.ref n) S Q = sM S[n]? (fun ds => Q ds (fun S => S[n]? = some (.lst ds)) S) := (rfl)
def r1K (ds : List D) (S : Store) (Q : List D → (Store → Prop) → Store → Prop) : Prop := match ds with | [.int n] => (-(2 ^ 62) ≤ n ∧ n < 2 ^ 62) ∧ Q (intsD 0 n.toNat) (fun _ => True) S | _ => False
def r2K (ds : List D) (S : Store) (Q : List D → (Store → Prop) → Store → Prop) : Prop := match ds with | [.int i, .int j] => (-(2 ^ 62) ≤ i ∧ i < 2 ^ 62 ∧ -(2 ^ 62) ≤ j ∧ j < 2 ^ 62) ∧ Q (intsD i (j - i).toNat) (fun _ => True) S | _ => False
theorem y_rg1 {w : WA} {ρ : DL.Env} {S : Store} {Q : List D → (Store → Prop) → Store → Prop}  : wRange1 w ρ S Q = w ρ S (fun ds S1 => r1K ds S1 Q) := (rfl)
theorem y_rg2 {w : WA} {ρ : DL.Env} {S : Store} {Q : List D → (Store → Prop) → Store → Prop}  : wRange2 w ρ S Q = w ρ S (fun ds S1 => r2K ds S1 Q) := (rfl)
theorem y_r1K {n : Int} {S : Store} {Q : List D → (Store → Prop) → Store → Prop} : r1K [.int n] S Q = ((-(2 ^ 62) ≤ n ∧ n < 2 ^ 62) ∧ Q (intsD 0 n.toNat) (fun _ => True) S) := (rfl)
theorem y_r2K {i j : Int} {S : Store} {Q : List D → (Store → Prop) → Store → Prop} : r2K [.int i, .int j] S Q = ((-(2 ^ 62) ≤ i ∧ i < 2 ^ 62 ∧ -(2 ^ 62) ≤ j ∧ j < 2 ^ 62) ∧ Q (intsD i (j - i).toNat) (fun _ => True) S) := (rfl)
def pK (o i d : D) (S : Store) (P : Store → Prop) : Prop := match o, i with | .ref n, .int k => putAt n k d S P | _, _ => False
theorem y_put {we wo wi : WE} {D0 : EndsD} {ρ : DL.Env} {S : Store}  : wPut we wo wi D0 ρ S = we ρ S (fun d S1 => wo ρ S1 (fun o S2 => wi ρ S2 (fun i S3 => pK o i d S3 (D0.nx ρ)))) := (rfl)
theorem y_pK {n : Nat} {k : Int} {d : D} {S : Store} {P : Store → Prop} : pK (.ref n) (.int k) d S P = putAt n k d S P := (rfl)
theorem y_comp {wi : WI} {g : Tg} {wt : WT} {we : WE} {vs : List Nat} {ρ : DL.Env} {S : Store} {Q : D → Store → Prop}  : wComp wi g wt we vs ρ S Q = wi ρ S (fun xs G S1 => compR g wt we G (wipeD ρ vs) Q xs [] S1) := (rfl)
def cN (d : D) (S : Store) (Q : D → Store → Prop) : Prop := match d with | .lst ds => ds.length ≤ sizeLine ∧ Q (.ref S.length) (S ++ [.lst ds]) | _ => False
theorem y_compN {wi : WI} {g : Tg} {wt : WT} {we : WE} {vs : List Nat} {ρ : DL.Env} {S : Store} {Q : D → Store → Prop}  : wCompN wi g wt we vs ρ S Q = wi ρ S (fun xs G S1 => compR g wt we G (wipeD ρ vs) (fun d S2 => cN d S2 Q) xs [] S1) := (rfl)
theorem y_cN {ds : List D} {S : Store} {Q : D → Store → Prop} : cN (.lst ds) S Q = (ds.length ≤ sizeLine ∧ Q (.ref S.length) (S ++ [.lst ds])) := (rfl)
theorem y_wipe0 {ρ : DL.Env} : wipeD ρ [] = ρ := (rfl)
theorem y_wipe1 {v : Nat} {vs : List Nat} {ρ : DL.Env} : wipeD ρ (v :: vs) = (wipeD ρ vs).set v none := (rfl)
theorem z_cast0 : ((0 : Nat) : Int) = 0 := (rfl)
theorem z_pos (n : Nat) : (0 < ((n + 1 : Nat) : Int)) = True := by
  apply eq_true
  omega
theorem MulOk.big {i j : Int} (h1 : i.natAbs < 2 ^ 400) (h2 : j.natAbs < 2 ^ 400) : MulOk i j :=
  .w (wide_mul (a := 400) (b := 400) h1 h2 (by decide) (by decide) (by decide))

theorem y_w_seq {t u : WS} {D0 : EndsD} {ρ : DL.Env} {S : Store} : wSeq t u D0 ρ S = t { D0 with nx := u D0 } ρ S := (rfl)
theorem y_w_ret {w : WE} {D0 : EndsD} {ρ : DL.Env} {S : Store} : wRet w D0 ρ S = w ρ S D0.rt := (rfl)
theorem y_w_retN {D0 : EndsD} {ρ : DL.Env} {S : Store} : wRetN D0 ρ S = D0.rt .non S := (rfl)
theorem y_w_if {c : WT} {t u : WS} {D0 : EndsD} {ρ : DL.Env} {S : Store} : wIf c t u D0 ρ S = c ρ S (fun k S1 => if k = true then t D0 ρ S1 else u D0 ρ S1) := (rfl)
theorem y_w_drop {w : WE} {D0 : EndsD} {ρ : DL.Env} {S : Store} : wDrop w D0 ρ S = w ρ S (fun _ S1 => D0.nx ρ S1) := (rfl)
theorem y_w_next {D0 : EndsD} {ρ : DL.Env} {S : Store} : wNext D0 ρ S = D0.nx ρ S := (rfl)
theorem y_w_brk {D0 : EndsD} {ρ : DL.Env} {S : Store} : wBreak D0 ρ S = D0.bk ρ S := (rfl)
theorem y_w_ct {D0 : EndsD} {ρ : DL.Env} {S : Store} : wCont D0 ρ S = D0.ct ρ S := (rfl)
theorem y_w_c {d : D} {ρ : DL.Env} {S : Store} {Q : D → Store → Prop} : wC d ρ S Q = Q d S := (rfl)
theorem y_w_op {R : RD} {wa wb : WE} {ρ : DL.Env} {S : Store} {Q : D → Store → Prop} : wOp R wa wb ρ S Q = wa ρ S (fun x S1 => wb ρ S1 (fun y S2 => R x y S2 Q)) := (rfl)
theorem y_w_and {t u : WT} {ρ : DL.Env} {S : Store} {Q : Bool → Store → Prop} : wAnd t u ρ S Q = t ρ S (fun k S1 => if k = true then u ρ S1 Q else Q false S1) := (rfl)
theorem y_w_or {t u : WT} {ρ : DL.Env} {S : Store} {Q : Bool → Store → Prop} : wOr t u ρ S Q = t ρ S (fun k S1 => if k = true then Q true S1 else u ρ S1 Q) := (rfl)
theorem y_w_not {t : WT} {ρ : DL.Env} {S : Store} {Q : Bool → Store → Prop} : wNot t ρ S Q = t ρ S (fun k S1 => Q (!k) S1) := (rfl)
theorem y_w_tru {w : WE} {ρ : DL.Env} {S : Store} {Q : Bool → Store → Prop} : wTru w ρ S Q = w ρ S (fun d S1 => rTru d S1 Q) := (rfl)
theorem y_w_ifE {t : WT} {wa wb : WE} {ρ : DL.Env} {S : Store} {Q : D → Store → Prop} : wIfE t wa wb ρ S Q = t ρ S (fun k S1 => if k = true then wa ρ S1 Q else wb ρ S1 Q) := (rfl)
theorem y_w_call {R : RC} {wr : WA} {ρ : DL.Env} {S : Store} {Q : D → Store → Prop} : wCall R wr ρ S Q = wr ρ S (fun ds S1 => R ds S1 Q) := (rfl)
theorem y_w_cons {w : WE} {wr : WA} {ρ : DL.Env} {S : Store} {Q : List D → Store → Prop} : wCons w wr ρ S Q = w ρ S (fun d S1 => wr ρ S1 (fun ds S2 => Q (d :: ds) S2)) := (rfl)
theorem y_w_nil {ρ : DL.Env} {S : Store} {Q : List D → Store → Prop} : wNil ρ S Q = Q [] S := (rfl)
theorem y_w_tup {w : WA} {ρ : DL.Env} {S : Store} {Q : D → Store → Prop} : wTup w ρ S Q = w ρ S (fun ds S1 => ds.length ≤ sizeLine ∧ Q (.tup ds) S1) := (rfl)
theorem y_w_lst {w : WA} {ρ : DL.Env} {S : Store} {Q : D → Store → Prop} : wLst w ρ S Q = w ρ S (fun ds S1 => ds.length ≤ sizeLine ∧ Q (.lst ds) S1) := (rfl)
theorem y_w_new {w : WA} {ρ : DL.Env} {S : Store} {Q : D → Store → Prop} : wNew w ρ S Q = w ρ S (fun ds S1 => ds.length ≤ sizeLine ∧ Q (.ref S1.length) (S1 ++ [.lst ds])) := (rfl)
theorem y_w_fn {Γ : Con} {n : Nat} {wr : WA} {ρ : DL.Env} {S : Store} {Q : D → Store → Prop} : wFn Γ n wr ρ S Q = wr ρ S (fun ds S1 => ds.length = n ∧ Γ ds S1 Q) := (rfl)
theorem y_w_meth {R : RM} {wo : WE} {wr : WA} {ρ : DL.Env} {S : Store} {Q : D → Store → Prop} : wMeth R wo wr ρ S Q = wo ρ S (fun x S1 => isL x S1 ∧ wr ρ S1 (fun ds S2 => R x ds S2 Q)) := (rfl)
theorem y_w_meth0 {R : RM} {wo : WE} {ρ : DL.Env} {S : Store} {Q : D → Store → Prop} : wMeth0 R wo ρ S Q = wo ρ S (fun x S1 => isL x S1 ∧ R x [] S1 Q) := (rfl)
theorem y_w_andV {wa wb : WE} {ρ : DL.Env} {S : Store} {Q : D → Store → Prop} : wAndV wa wb ρ S Q = wBl wa (fun k ρ S Q => if k = true then wb ρ S Q else Q (.bl false) S) ρ S Q := (rfl)
theorem y_w_orV {wa wb : WE} {ρ : DL.Env} {S : Store} {Q : D → Store → Prop} : wOrV wa wb ρ S Q = wBl wa (fun k ρ S Q => if k = true then Q (.bl true) S else wb ρ S Q) ρ S Q := (rfl)
theorem y_w_notV {wa : WE} {ρ : DL.Env} {S : Store} {Q : D → Store → Prop} : wNotV wa ρ S Q = wBl wa (fun k ρ S Q => Q (.bl (!k)) S) ρ S Q := (rfl)
theorem y_w_for {wi : WI} {g : Tg} {wb : WS} {D0 : EndsD} {ρ : DL.Env} {S : Store} : wFor wi g wb D0 ρ S = wi ρ S (fun xs G S1 => forR g wb G D0 xs ρ S1) := (rfl)
theorem y_w_yes {ρ : DL.Env} {S : Store} {Q : Bool → Store → Prop} : wYes ρ S Q = Q true S := (rfl)
end DL

set_option maxHeartbeats 4000000
/-! the text: the defs by places, scopes -/
namespace K02
open PySem PySem.Spec PyProof.Rows L2 DL
def top (i : Nat) : Stmt := PySem.Challenge.pw_everygain_k02_marks_turned.main.body.getD i (.Pass ⟨0, 0, 0, 0⟩)
abbrev s_rest_of : Stmt := top 3
theorem sc_rest_of : FnScope ["integer", "modulus"] ["integer", "modulus"] (defScope s_rest_of) := ⟨rfl, rfl, rfl, by decide +kernel, rfl, by decide +kernel, by decide +kernel⟩
abbrev s_divides : Stmt := top 4
theorem sc_divides : FnScope ["one", "other"] ["one", "other"] (defScope s_divides) := ⟨rfl, rfl, rfl, by decide +kernel, rfl, by decide +kernel, by decide +kernel⟩
abbrev s_mark_of : Stmt := top 5
theorem sc_mark_of : FnScope ["dial", "integer"] ["dial", "integer"] (defScope s_mark_of) := ⟨rfl, rfl, rfl, by decide +kernel, rfl, by decide +kernel, by decide +kernel⟩
abbrev s_turned_mark : Stmt := top 6
theorem sc_turned_mark : FnScope ["dial", "integer"] ["dial", "integer"] (defScope s_turned_mark) := ⟨rfl, rfl, rfl, by decide +kernel, rfl, by decide +kernel, by decide +kernel⟩
abbrev s_half_of : Stmt := top 7
theorem sc_half_of : FnScope ["dial", "size", "turn"] ["dial"] (defScope s_half_of) := ⟨rfl, rfl, rfl, by decide +kernel, rfl, by decide +kernel, by decide +kernel⟩
abbrev s_is_turning : Stmt := top 8
theorem sc_is_turning : FnScope ["dial"] ["dial"] (defScope s_is_turning) := ⟨rfl, rfl, rfl, by decide +kernel, rfl, by decide +kernel, by decide +kernel⟩
abbrev s_is_loud : Stmt := top 9
theorem sc_is_loud : FnScope ["dial"] ["dial"] (defScope s_is_loud) := ⟨rfl, rfl, rfl, by decide +kernel, rfl, by decide +kernel, by decide +kernel⟩
abbrev s_field_prime : Stmt := top 10
theorem sc_field_prime : FnScope ["dial", "prime"] ["dial"] (defScope s_field_prime) := ⟨rfl, rfl, rfl, by decide +kernel, rfl, by decide +kernel, by decide +kernel⟩
abbrev s__law_pool : Stmt := top 12
theorem sc__law_pool : FnScope ["script", "salt", "cells", "mixed", "cell"] ["script", "salt"] (defScope s__law_pool) := ⟨rfl, rfl, rfl, by decide +kernel, rfl, by decide +kernel, by decide +kernel⟩
abbrev s__law_draw : Stmt := top 13
theorem sc__law_draw : FnScope ["pool", "many", "cell", "digit"] ["pool", "many"] (defScope s__law_draw) := ⟨rfl, rfl, rfl, by decide +kernel, rfl, by decide +kernel, by decide +kernel⟩
abbrev s__law_is : Stmt := top 14
theorem sc__law_is : FnScope ["told", "due"] ["told", "due"] (defScope s__law_is) := ⟨rfl, rfl, rfl, by decide +kernel, rfl, by decide +kernel, by decide +kernel⟩
abbrev s__law_rest : Stmt := top 15
theorem sc__law_rest : FnScope ["many", "value"] ["many", "value"] (defScope s__law_rest) := ⟨rfl, rfl, rfl, by decide +kernel, rfl, by decide +kernel, by decide +kernel⟩
abbrev s__law_half : Stmt := top 16
theorem sc__law_half : FnScope ["dial", "many", "mark"] ["dial"] (defScope s__law_half) := ⟨rfl, rfl, rfl, by decide +kernel, rfl, by decide +kernel, by decide +kernel⟩
abbrev s__law_divides : Stmt := top 17
theorem sc__law_divides : FnScope ["number", "value"] ["number", "value"] (defScope s__law_divides) := ⟨rfl, rfl, rfl, by decide +kernel, rfl, by decide +kernel, by decide +kernel⟩
abbrev s__law_turns : Stmt := top 18
theorem sc__law_turns : FnScope ["many", "turn"] ["many"] (defScope s__law_turns) := ⟨rfl, rfl, rfl, by decide +kernel, rfl, by decide +kernel, by decide +kernel⟩
abbrev s__law_picked : Stmt := top 19
theorem sc__law_picked : FnScope ["pool", "rows"] ["pool", "rows"] (defScope s__law_picked) := ⟨rfl, rfl, rfl, by decide +kernel, rfl, by decide +kernel, by decide +kernel⟩
abbrev s__law_size : Stmt := top 20
theorem sc__law_size : FnScope ["pool", "habit", "many"] ["pool"] (defScope s__law_size) := ⟨rfl, rfl, rfl, by decide +kernel, rfl, by decide +kernel, by decide +kernel⟩
abbrev s__law_numbers : Stmt := top 21
theorem sc__law_numbers : FnScope ["pool", "dial", "half", "many", "some", "stays", "found", "great"] ["pool", "dial", "half"] (defScope s__law_numbers) := ⟨rfl, rfl, rfl, by decide +kernel, rfl, by decide +kernel, by decide +kernel⟩
abbrev s__law_field : Stmt := top 22
theorem sc__law_field : FnScope ["dial", "prime"] ["dial"] (defScope s__law_field) := ⟨rfl, rfl, rfl, by decide +kernel, rfl, by decide +kernel, by decide +kernel⟩
abbrev s__law_right : Stmt := top 23
theorem sc__law_right : FnScope ["pool", "dial", "half", "value", "mark", "turned"] ["pool", "dial"] (defScope s__law_right) := ⟨rfl, rfl, rfl, by decide +kernel, rfl, by decide +kernel, by decide +kernel⟩
abbrev s_law : Stmt := top 24
theorem sc_law : FnScope ["script", "pool", "many", "prime", "other", "square", "dials", "dial"] ["script"] (defScope s_law) := ⟨rfl, rfl, rfl, by decide +kernel, rfl, by decide +kernel, by decide +kernel⟩
def k_PRIMES : DL.D := (DL.D.tup [(DL.D.int (3)), (DL.D.int (5)), (DL.D.int (7)), (DL.D.int (11)), (DL.D.int (13))])
/-- what the top leaves -/
structure Txt (K : PySem.W.Frag) (mg : Str → Option Value) : Prop where
  f_abs : mg "abs" = none
  f_bool : mg "bool" = none
  f_int : mg "int" = none
  f_isinstance : mg "isinstance" = none
  f_len : mg "len" = none
  f_range : mg "range" = none
  g_gcd : mg "gcd" = some (.builtin "math.gcd")
  k_PRIMES : Cst K mg "PRIMES" k_PRIMES
end K02

set_option maxHeartbeats 4000000
/-! what each def promises, by content -/
namespace K02
open PySem PySem.Spec PyProof.Rows L2 DL
/-- the pool: its two numbers, its cells -/
structure PoolSt where
  a : Int
  b : Int
  cs : List Int
structure PoolSt.Ok (p : PoolSt) : Prop where
  a0 : 0 ≤ p.a
  b0 : 0 ≤ p.b
  b1 : p.b ≤ 2147483648
  cl : p.cs.length ≤ 63
  c0 : ∀ c ∈ p.cs, 0 ≤ c
def mkP (p : PoolSt) (G : Store) : Store := .lst (p.cs.map .int) :: .lst [.int p.a, .int p.b, .ref 0] :: G
def restOf (i m : Int) : Int := if m = 0 then i else i % m
def divs (a b : Int) : Bool := if a = 0 then decide (b = 0) else decide (b % a = 0)
def halfOf (n k : Int) : Int := if n = 0 then (if k = 1 then 1 else 0) else n / ((Nat.gcd n.natAbs (k - 1).natAbs : Nat) : Int) % n
def fieldPrime (n k : Int) : D := if n = 8 ∧ k = 3 then .int 3 else if n = 24 ∧ k = 5 then .int 5 else if n = 48 ∧ k = 7 then .int 7 else if n = 120 ∧ k = 11 then .int 11 else if n = 168 ∧ k = 13 then .int 13 else .non
def dial (n k : Int) : D := .tup [.int n, .int k]
structure DialOk (n k : Int) : Prop where
  n0 : 0 ≤ n
  n1 : n ≤ 10000
  k0 : -1 ≤ k
  k1 : k ≤ 10000
  e : n = 0 → k = 1 ∨ k = -1
def c_rest_of : Con := fun ds S Q => ∃ i m : Int, ds = [.int i, .int m] ∧ 0 ≤ m ∧ Q (.int (restOf i m)) S
def c_divides : Con := fun ds S Q => ∃ a b : Int, ds = [.int a, .int b] ∧ 0 ≤ a ∧ Q (.bl (divs a b)) S
def c_mark_of : Con := fun ds S Q => ∃ n k i : Int, ds = [dial n k, .int i] ∧ 0 ≤ n ∧ Q (.int (restOf i n)) S
def c_turned_mark : Con := fun ds S Q => ∃ n k i : Int, ds = [dial n k, .int i] ∧ DialOk n k ∧ Q (.int (restOf (k * i) n)) S
def c_half_of : Con := fun ds S Q => ∃ n k : Int, ds = [dial n k] ∧ DialOk n k ∧ Q (.int (halfOf n k)) S
def c_is_turning : Con := fun ds S Q => ∃ n k : Int, ds = [dial n k] ∧ 0 ≤ n ∧ Q (.bl (divs n (k + 1))) S
def c_is_loud : Con := fun ds S Q => ∃ n k : Int, ds = [dial n k] ∧ 0 ≤ n ∧ Q (.bl (divs n (k - 1))) S
def c_field_prime : Con := fun ds S Q => ∃ n k : Int, ds = [dial n k] ∧ Q (fieldPrime n k) S
def c__law_pool : Con := fun ds S Q => ∃ (ns : List Int) (salt : Int), ds = [.lst (ns.map .int), .int salt] ∧ S = [] ∧ ns.length ≤ 63 ∧ 0 ≤ salt ∧ salt < 2147483647 ∧ ∀ p : PoolSt, p.Ok → Q (.ref 1) (mkP p [])
def c__law_draw : Con := fun ds S Q => ∃ (many : Int) (p : PoolSt) (G : Store), ds = [.ref 1, .int many] ∧ S = mkP p G ∧ p.Ok ∧ 0 < many ∧ many < 2 ^ 200 ∧ ∀ (d : Int) (p' : PoolSt), p'.Ok → 0 ≤ d → d < many → Q (.int d) (mkP p' G)
def c__law_is : Con := fun ds S Q => ∃ x : D, ds = [x, x] ∧ (x = .non ∨ (∃ b, x = .bl b) ∨ ∃ i, x = .int i) ∧ Q (.bl true) S
def c__law_rest : Con := fun ds S Q => ∃ m i : Int, ds = [.int m, .int i] ∧ 0 ≤ m ∧ Q (.int (restOf i m)) S
def c__law_half : Con := c_half_of
def c__law_divides : Con := c_divides
def c__law_turns : Con := fun ds S Q => ∃ m : Int, ds = [.int m] ∧ 2 ≤ m ∧ m ≤ 10000 ∧ ∀ ts : List Int, ts ≠ [] → ts.length ≤ 10000 → (∀ t ∈ ts, 1 ≤ t ∧ t < m) → Q (.lst (ts.map .int)) S
def c__law_picked : Con := fun ds S Q => ∃ (rows : List D) (p : PoolSt) (G : Store), ds = [.ref 1, .lst rows] ∧ S = mkP p G ∧ p.Ok ∧ rows ≠ [] ∧ rows.length ≤ 100000 ∧ ∀ (d : D) (p' : PoolSt), p'.Ok → d ∈ rows → Q d (mkP p' G)
def c__law_size : Con := fun ds S Q => ∃ (p : PoolSt) (G : Store), ds = [.ref 1] ∧ S = mkP p G ∧ p.Ok ∧ ∀ (m : Int) (p' : PoolSt), p'.Ok → 2 ≤ m → m ≤ 10000 → Q (.int m) (mkP p' G)
def c__law_numbers : Con := fun ds S Q => ∃ (n k half : Int) (p : PoolSt) (G : Store), ds = [.ref 1, dial n k, .int half] ∧ S = mkP p G ∧ p.Ok ∧ DialOk n k ∧ 0 ≤ half ∧ half ≤ 10000 ∧ ∀ (vs : List Int) (p' : PoolSt), p'.Ok → Q (.lst (vs.map .int)) (mkP p' G)
def c__law_field : Con := c_field_prime
def c__law_right : Con := fun ds S Q => ∃ (n k : Int) (p : PoolSt) (G : Store), ds = [.ref 1, dial n k] ∧ S = mkP p G ∧ p.Ok ∧ DialOk n k ∧ ∀ p' : PoolSt, p'.Ok → Q (.bl true) (mkP p' G)
def c_law : Con := fun ds S Q => ∃ ns : List Int, ds = [.lst (ns.map .int)] ∧ S = [] ∧ ns.length ≤ 63 ∧ Q (.bl true) []
theorem law_in {ns : List Int} (h : ns.length ≤ 63) : c_law [.lst (ns.map .int)] [] (fun d _ => d = .bl true) := ⟨ns, rfl, rfl, h, rfl⟩
end K02

set_option maxHeartbeats 4000000
/-! each def: its reading by content, and that the text has it -/
namespace K02
open PySem PySem.Spec PyProof.Rows L2 DL
def w_rest_of : WS := (wSeq (wIf (wTest (wOp DL.rEq (wVar 1) (wC (DL.D.int (0))))) (wRet (wVar 0)) wNext)
  (wRet (wOp DL.rMod (wVar 0) (wVar 1))))
def w_divides : WS := (wSeq (wIf (wTest (wOp DL.rEq (wVar 0) (wC (DL.D.int (0))))) (wRet (wOp DL.rEq (wVar 1) (wC (DL.D.int (0))))) wNext)
  (wRet (wOp DL.rEq (wOp DL.rMod (wVar 1) (wVar 0)) (wC (DL.D.int (0))))))
def w_mark_of : WS := (wRet (wFn c_rest_of 2 (wCons (wVar 1) (wCons (wOp DL.rIx (wVar 0) (wC (DL.D.int (0)))) wNil))))
def w_turned_mark : WS := (wRet (wFn c_rest_of 2 (wCons (wOp DL.rMul (wOp DL.rIx (wVar 0) (wC (DL.D.int (1)))) (wVar 1)) (wCons (wOp DL.rIx (wVar 0) (wC (DL.D.int (0)))) wNil))))
def w_half_of : WS := (wSeq (wAsg (wVar 0) (Tg.tup [(Tg.name 1), (Tg.name 2)]))
  (wSeq (wIf (wTest (wOp DL.rEq (wVar 1) (wC (DL.D.int (0))))) (wRet (wIfE (wTest (wOp DL.rEq (wVar 2) (wC (DL.D.int (1))))) (wC (DL.D.int (1))) (wC (DL.D.int (0))))) wNext)
  (wRet (wOp DL.rMod (wOp DL.rDiv (wVar 1) (wCall rGcdD (wCons (wVar 1) (wCons (wOp DL.rSub (wVar 2) (wC (DL.D.int (1)))) wNil)))) (wVar 1)))))
def w_is_turning : WS := (wRet (wFn c_divides 2 (wCons (wOp DL.rIx (wVar 0) (wC (DL.D.int (0)))) (wCons (wOp DL.rAdd (wOp DL.rIx (wVar 0) (wC (DL.D.int (1)))) (wC (DL.D.int (1)))) wNil))))
def w_is_loud : WS := (wRet (wFn c_divides 2 (wCons (wOp DL.rIx (wVar 0) (wC (DL.D.int (0)))) (wCons (wOp DL.rSub (wOp DL.rIx (wVar 0) (wC (DL.D.int (1)))) (wC (DL.D.int (1)))) wNil))))
def w_field_prime_for0 : WS := (wIf (wTest (wOp DL.rEq (wVar 0) (wTup (wCons (wOp DL.rSub (wOp DL.rMul (wVar 1) (wVar 1)) (wC (DL.D.int (1)))) (wCons (wVar 1) wNil))))) (wRet (wVar 1)) wNext)
def w_field_prime : WS := (wSeq (wFor (wSeqI (wC k_PRIMES)) (Tg.name 1) w_field_prime_for0)
  (wRet (wC DL.D.non)))
def w__law_pool_for0 : WS := (wAsg (wOp DL.rMod (wOp DL.rAdd (wOp DL.rAdd (wOp DL.rMul (wVar 3) (wC (DL.D.int (40692)))) (wOp DL.rMod (wCall rInt (wCons (wVar 4) wNil)) (wC (DL.D.int (2147483563))))) (wC (DL.D.int (41)))) (wC (DL.D.int (2147483647)))) (Tg.name 3))
def w__law_pool : WS := (wSeq (wAsg (wCompN (wSeqI (wVar 0)) (Tg.name 4) wYes (wCall rAbs (wCons (wCall rInt (wCons (wVar 4) wNil)) wNil)) [4]) (Tg.name 2))
  (wSeq (wAsg (wVar 1) (Tg.name 3))
  (wSeq (wFor (wSeqI (wVar 2)) (Tg.name 4) w__law_pool_for0)
  (wRet (wNew (wCons (wC (DL.D.int (0))) (wCons (wOp DL.rAdd (wVar 3) (wC (DL.D.int (1)))) (wCons (wVar 2) wNil))))))))
def w__law_draw : WS := (wSeq (wIf (wAnd (wTest (wOp DL.rEq (wOp DL.rIx (wVar 0) (wC (DL.D.int (0)))) (wC (DL.D.int (0))))) (wTest (wOp DL.rGt (wCall rLen (wCons (wOp DL.rIx (wVar 0) (wC (DL.D.int (2)))) wNil)) (wC (DL.D.int (0)))))) (wSeq (wAsg (wMeth mPopAt (wOp DL.rIx (wVar 0) (wC (DL.D.int (2)))) (wCons (wC (DL.D.int (0))) wNil)) (Tg.name 2))
  (wIf (wTest (wOp DL.rGe (wVar 2) (wOp DL.rPow (wC (DL.D.int (10))) (wC (DL.D.int (18)))))) (wPut (wVar 2) (wVar 0) (wC (DL.D.int (0)))) (wPut (wOp DL.rAdd (wOp DL.rMod (wOp DL.rAdd (wOp DL.rMul (wOp DL.rIx (wVar 0) (wC (DL.D.int (1)))) (wC (DL.D.int (40014)))) (wCall rInt (wCons (wVar 2) wNil))) (wC (DL.D.int (2147483647)))) (wC (DL.D.int (1)))) (wVar 0) (wC (DL.D.int (1)))))) wNext)
  (wSeq (wIf (wTest (wOp DL.rGt (wOp DL.rIx (wVar 0) (wC (DL.D.int (0)))) (wC (DL.D.int (0))))) (wSeq (wAsg (wOp DL.rMod (wCall rInt (wCons (wOp DL.rIx (wVar 0) (wC (DL.D.int (0)))) wNil)) (wVar 1)) (Tg.name 3))
  (wSeq (wPut (wOp DL.rDiv (wOp DL.rIx (wVar 0) (wC (DL.D.int (0)))) (wVar 1)) (wVar 0) (wC (DL.D.int (0))))
  (wRet (wVar 3)))) wNext)
  (wSeq (wPut (wOp DL.rMod (wOp DL.rAdd (wOp DL.rMul (wOp DL.rIx (wVar 0) (wC (DL.D.int (1)))) (wC (DL.D.int (40692)))) (wC (DL.D.int (23456)))) (wC (DL.D.int (2147483647)))) (wVar 0) (wC (DL.D.int (1))))
  (wSeq (wPut (wOp DL.rMod (wOp DL.rAdd (wOp DL.rMul (wOp DL.rIx (wVar 0) (wC (DL.D.int (1)))) (wC (DL.D.int (40014)))) (wC (DL.D.int (13)))) (wC (DL.D.int (2147483647)))) (wVar 0) (wC (DL.D.int (1))))
  (wRet (wOp DL.rMod (wOp DL.rDiv (wOp DL.rIx (wVar 0) (wC (DL.D.int (1)))) (wC (DL.D.int (37)))) (wVar 1)))))))
def w__law_is : WS := (wSeq (wIf (wTest (wOp DL.rIs (wVar 1) (wC DL.D.non))) (wRet (wOp DL.rIs (wVar 0) (wC DL.D.non))) wNext)
  (wSeq (wIf (wTest (wOp DL.rIs (wVar 1) (wC (DL.D.bl true)))) (wRet (wOp DL.rIs (wVar 0) (wC (DL.D.bl true)))) wNext)
  (wSeq (wIf (wTest (wOp DL.rIs (wVar 1) (wC (DL.D.bl false)))) (wRet (wOp DL.rIs (wVar 0) (wC (DL.D.bl false)))) wNext)
  (wRet (wAndV (wIsT (wVar 0) "int") (wAndV (wNotV (wIsT (wVar 0) "bool")) (wOp DL.rEq (wVar 0) (wVar 1))))))))
def w__law_rest : WS := (wSeq (wIf (wTest (wOp DL.rEq (wVar 0) (wC (DL.D.int (0))))) (wRet (wVar 1)) wNext)
  (wRet (wOp DL.rMod (wCall rInt (wCons (wVar 1) wNil)) (wVar 0))))
def w__law_half_for0 : WS := (wIf (wTest (wOp DL.rEq (wOp DL.rMod (wCall rInt (wCons (wOp DL.rSub (wOp DL.rMul (wVar 2) (wOp DL.rIx (wVar 0) (wC (DL.D.int (1))))) (wVar 2)) wNil)) (wVar 1)) (wC (DL.D.int (0))))) (wRet (wOp DL.rMod (wCall rInt (wCons (wVar 2) wNil)) (wVar 1))) wNext)
def w__law_half : WS := (wSeq (wAsg (wOp DL.rIx (wVar 0) (wC (DL.D.int (0)))) (Tg.name 1))
  (wSeq (wIf (wTest (wOp DL.rEq (wVar 1) (wC (DL.D.int (0))))) (wRet (wOp DL.rDiv (wOp DL.rAdd (wOp DL.rIx (wVar 0) (wC (DL.D.int (1)))) (wC (DL.D.int (1)))) (wC (DL.D.int (2))))) wNext)
  (wSeq (wFor (wRange2 (wCons (wC (DL.D.int (1))) (wCons (wOp DL.rAdd (wVar 1) (wC (DL.D.int (1)))) wNil))) (Tg.name 2) w__law_half_for0)
  (wRet (wC (DL.D.int (0)))))))
def w__law_divides : WS := (wSeq (wIf (wTest (wOp DL.rEq (wVar 0) (wC (DL.D.int (0))))) (wRet (wOp DL.rEq (wVar 1) (wC (DL.D.int (0))))) wNext)
  (wRet (wOp DL.rEq (wOp DL.rMod (wCall rInt (wCons (wVar 1) wNil)) (wVar 0)) (wC (DL.D.int (0))))))
def w__law_turns : WS := (wRet (wComp (wRange2 (wCons (wC (DL.D.int (1))) (wCons (wVar 0) wNil))) (Tg.name 1) (wTest (wOp DL.rEq (wOp DL.rMod (wCall rInt (wCons (wOp DL.rMul (wVar 1) (wVar 1)) wNil)) (wVar 0)) (wC (DL.D.int (1))))) (wVar 1) [1]))
def w__law_picked : WS := (wRet (wOp DL.rIx (wVar 1) (wFn c__law_draw 2 (wCons (wVar 0) (wCons (wCall rLen (wCons (wVar 1) wNil)) wNil)))))
def w__law_size : WS := (wSeq (wAsg (wFn c__law_draw 2 (wCons (wVar 0) (wCons (wC (DL.D.int (6))) wNil))) (Tg.name 1))
  (wSeq (wAsg (wOp DL.rAdd (wC (DL.D.int (2))) (wFn c__law_draw 2 (wCons (wVar 0) (wCons (wC (DL.D.int (23))) wNil)))) (Tg.name 2))
  (wSeq (wIf (wTest (wOp DL.rGt (wVar 1) (wC (DL.D.int (2))))) (wAsg (wOp DL.rAdd (wC (DL.D.int (2))) (wFn c__law_draw 2 (wCons (wVar 0) (wCons (wC (DL.D.int (300))) wNil)))) (Tg.name 2)) wNext)
  (wSeq (wIf (wTest (wOp DL.rEq (wVar 1) (wC (DL.D.int (5))))) (wAsg (wOp DL.rAdd (wC (DL.D.int (2))) (wFn c__law_draw 2 (wCons (wVar 0) (wCons (wC (DL.D.int (9999))) wNil)))) (Tg.name 2)) wNext)
  (wSeq (wIf (wTest (wOp DL.rEq (wFn c__law_draw 2 (wCons (wVar 0) (wCons (wC (DL.D.int (13))) wNil))) (wC (DL.D.int (6))))) (wAsg (wC (DL.D.int (10000))) (Tg.name 2)) wNext)
  (wRet (wVar 2)))))))
def w__law_numbers : WS := (wSeq (wAsg (wOp DL.rIx (wVar 1) (wC (DL.D.int (0)))) (Tg.name 3))
  (wSeq (wAsg (wOp DL.rAdd (wC (DL.D.int (1))) (wFn c__law_draw 2 (wCons (wVar 0) (wCons (wOp DL.rPow (wC (DL.D.int (10))) (wC (DL.D.int (6)))) wNil)))) (Tg.name 4))
  (wSeq (wAsg (wOp DL.rMul (wVar 2) (wOp DL.rAdd (wC (DL.D.int (1))) (wFn c__law_draw 2 (wCons (wVar 0) (wCons (wC (DL.D.int (40))) wNil))))) (Tg.name 5))
  (wSeq (wAsg (wNew (wCons (wC (DL.D.int (0))) (wCons (wVar 5) (wCons (wFn c__law_draw 2 (wCons (wVar 0) (wCons (wC (DL.D.int (10001))) wNil))) (wCons (wOp DL.rSub (wNeg (wC (DL.D.int (1)))) (wFn c__law_draw 2 (wCons (wVar 0) (wCons (wOp DL.rPow (wC (DL.D.int (10))) (wC (DL.D.int (6)))) wNil)))) (wCons (wVar 3) (wCons (wOp DL.rMul (wNeg (wVar 3)) (wVar 4)) (wCons (wOp DL.rSub (wOp DL.rMul (wVar 3) (wVar 4)) (wC (DL.D.int (1)))) wNil)))))))) (Tg.name 6))
  (wSeq (wDrop (wMeth mAppend (wVar 6) (wCons (wOp DL.rAdd (wVar 5) (wC (DL.D.int (1)))) wNil)))
  (wSeq (wDrop (wMeth mAppend (wVar 6) (wCons (wOp DL.rDiv (wVar 2) (wC (DL.D.int (2)))) wNil)))
  (wSeq (wAsg (wOp DL.rAdd (wOp DL.rMul (wFn c__law_draw 2 (wCons (wVar 0) (wCons (wOp DL.rPow (wC (DL.D.int (10))) (wC (DL.D.int (30)))) wNil))) (wOp DL.rPow (wC (DL.D.int (10))) (wC (DL.D.int (30))))) (wVar 4)) (Tg.name 7))
  (wSeq (wDrop (wMeth mAppend (wVar 6) (wCons (wFn c__law_picked 2 (wCons (wVar 0) (wCons (wLst (wCons (wVar 7) (wCons (wNeg (wVar 7)) (wCons (wOp DL.rMul (wVar 3) (wVar 7)) (wCons (wOp DL.rAdd (wOp DL.rMul (wVar 3) (wVar 7)) (wVar 4)) wNil))))) wNil))) wNil)))
  (wRet (wVar 6))))))))))
def w__law_field_for0 : WS := (wIf (wAnd (wTest (wOp DL.rEq (wOp DL.rIx (wVar 0) (wC (DL.D.int (0)))) (wOp DL.rSub (wOp DL.rMul (wVar 1) (wVar 1)) (wC (DL.D.int (1)))))) (wTest (wOp DL.rEq (wOp DL.rIx (wVar 0) (wC (DL.D.int (1)))) (wVar 1)))) (wRet (wVar 1)) wNext)
def w__law_field : WS := (wSeq (wFor (wSeqI (wTup (wCons (wC (DL.D.int (3))) (wCons (wC (DL.D.int (5))) (wCons (wC (DL.D.int (7))) (wCons (wC (DL.D.int (11))) (wCons (wC (DL.D.int (13))) wNil))))))) (Tg.name 1) w__law_field_for0)
  (wRet (wC DL.D.non)))
def w__law_right_for0 : WS := (wSeq (wAsg (wFn c__law_rest 2 (wCons (wOp DL.rIx (wVar 1) (wC (DL.D.int (0)))) (wCons (wVar 3) wNil))) (Tg.name 4))
  (wSeq (wAsg (wFn c__law_rest 2 (wCons (wOp DL.rIx (wVar 1) (wC (DL.D.int (0)))) (wCons (wOp DL.rMul (wOp DL.rIx (wVar 1) (wC (DL.D.int (1)))) (wVar 3)) wNil))) (Tg.name 5))
  (wSeq (wIf (wOr (wNot (wTru (wFn c__law_is 2 (wCons (wFn c_mark_of 2 (wCons (wVar 1) (wCons (wVar 3) wNil))) (wCons (wVar 4) wNil))))) (wNot (wTru (wFn c__law_is 2 (wCons (wFn c_turned_mark 2 (wCons (wVar 1) (wCons (wVar 3) wNil))) (wCons (wVar 5) wNil)))))) (wRet (wC (DL.D.bl false))) wNext)
  (wIf (wNot (wTru (wFn c__law_is 2 (wCons (wFn c_turned_mark 2 (wCons (wVar 1) (wCons (wVar 4) wNil))) (wCons (wVar 5) wNil))))) (wRet (wC (DL.D.bl false))) wNext))))
def w__law_right : WS := (wSeq (wAsg (wFn c__law_half 1 (wCons (wVar 1) wNil)) (Tg.name 2))
  (wSeq (wIf (wNot (wTru (wFn c__law_is 2 (wCons (wFn c_half_of 1 (wCons (wVar 1) wNil)) (wCons (wVar 2) wNil))))) (wRet (wC (DL.D.bl false))) wNext)
  (wSeq (wIf (wNot (wTru (wFn c__law_is 2 (wCons (wFn c_is_turning 1 (wCons (wVar 1) wNil)) (wCons (wFn c__law_divides 2 (wCons (wOp DL.rIx (wVar 1) (wC (DL.D.int (0)))) (wCons (wOp DL.rAdd (wOp DL.rIx (wVar 1) (wC (DL.D.int (1)))) (wC (DL.D.int (1)))) wNil))) wNil))))) (wRet (wC (DL.D.bl false))) wNext)
  (wSeq (wIf (wNot (wTru (wFn c__law_is 2 (wCons (wFn c_is_loud 1 (wCons (wVar 1) wNil)) (wCons (wFn c__law_divides 2 (wCons (wOp DL.rIx (wVar 1) (wC (DL.D.int (0)))) (wCons (wOp DL.rSub (wOp DL.rIx (wVar 1) (wC (DL.D.int (1)))) (wC (DL.D.int (1)))) wNil))) wNil))))) (wRet (wC (DL.D.bl false))) wNext)
  (wSeq (wIf (wNot (wTru (wFn c__law_is 2 (wCons (wFn c_field_prime 1 (wCons (wVar 1) wNil)) (wCons (wFn c__law_field 1 (wCons (wVar 1) wNil)) wNil))))) (wRet (wC (DL.D.bl false))) wNext)
  (wSeq (wFor (wSeqI (wFn c__law_numbers 3 (wCons (wVar 0) (wCons (wVar 1) (wCons (wVar 2) wNil))))) (Tg.name 3) w__law_right_for0)
  (wRet (wC (DL.D.bl true)))))))))
def w_law_for0 : WS := (wIf (wNot (wTru (wFn c__law_right 2 (wCons (wVar 1) (wCons (wVar 7) wNil))))) (wRet (wC (DL.D.bl false))) wNext)
def w_law : WS := (wSeq (wAsg (wFn c__law_pool 2 (wCons (wVar 0) (wCons (wC (DL.D.int (202))) wNil))) (Tg.name 1))
  (wSeq (wAsg (wFn c__law_size 1 (wCons (wVar 1) wNil)) (Tg.name 2))
  (wSeq (wAsg (wFn c__law_picked 2 (wCons (wVar 1) (wCons (wLst (wCons (wC (DL.D.int (3))) (wCons (wC (DL.D.int (5))) (wCons (wC (DL.D.int (7))) (wCons (wC (DL.D.int (11))) (wCons (wC (DL.D.int (13))) wNil)))))) wNil))) (Tg.name 3))
  (wSeq (wAsg (wFn c__law_picked 2 (wCons (wVar 1) (wCons (wLst (wCons (wC (DL.D.int (2))) (wCons (wC (DL.D.int (4))) (wCons (wC (DL.D.int (6))) (wCons (wC (DL.D.int (8))) (wCons (wC (DL.D.int (9))) (wCons (wC (DL.D.int (10))) (wCons (wC (DL.D.int (12))) (wCons (wC (DL.D.int (14))) (wCons (wC (DL.D.int (17))) (wCons (wC (DL.D.int (19))) (wCons (wC (DL.D.int (23))) (wCons (wOp DL.rAdd (wC (DL.D.int (2))) (wFn c__law_draw 2 (wCons (wVar 1) (wCons (wC (DL.D.int (99))) wNil)))) wNil))))))))))))) wNil))) (Tg.name 4))
  (wSeq (wAsg (wOp DL.rSub (wOp DL.rMul (wVar 3) (wVar 3)) (wC (DL.D.int (1)))) (Tg.name 5))
  (wSeq (wAsg (wLst (wCons (wTup (wCons (wC (DL.D.int (0))) (wCons (wC (DL.D.int (1))) wNil))) (wCons (wTup (wCons (wC (DL.D.int (0))) (wCons (wNeg (wC (DL.D.int (1)))) wNil))) (wCons (wTup (wCons (wC (DL.D.int (2))) (wCons (wC (DL.D.int (1))) wNil))) (wCons (wTup (wCons (wVar 2) (wCons (wFn c__law_picked 2 (wCons (wVar 1) (wCons (wFn c__law_turns 1 (wCons (wVar 2) wNil)) wNil))) wNil))) (wCons (wTup (wCons (wVar 5) (wCons (wVar 3) wNil))) (wCons (wTup (wCons (wVar 5) (wCons (wFn c__law_picked 2 (wCons (wVar 1) (wCons (wFn c__law_turns 1 (wCons (wVar 5) wNil)) wNil))) wNil))) (wCons (wTup (wCons (wOp DL.rSub (wOp DL.rMul (wVar 4) (wVar 4)) (wC (DL.D.int (1)))) (wCons (wVar 4) wNil))) wNil)))))))) (Tg.name 6))
  (wSeq (wFor (wSeqI (wVar 6)) (Tg.name 7) w_law_for0)
  (wRet (wC (DL.D.bl true))))))))))
section
variable {P : Program} {w : World} {K : PySem.W.Frag} {mg : Str → Option Value} {base : Heap}
theorem b_rest_of (T : Txt K mg)  (fa : Addr) (cdv : Value) (A : Around) (outer : List PySem.Env) (s : Shared) (H : Hp) (E : XK) (hr : Room 0 (A.deeper (envOfC "rest_of" (defScope s_rest_of) s.heap.objs.size fa cdv))) :
    SSs (cxOf CX0 P w K mg base ["integer", "modulus"] "rest_of" (defScope s_rest_of) fa cdv A outer s H E).nox (defBody s_rest_of) w_rest_of :=
  (ss_cons (ss_if (st_eq hr.units (se_var 1) se_int) (ss_one (ss_ret (se_var 0))) ss_nil)
  (ss_one (ss_ret (se_mod (se_var 0) (se_var 1)))))
theorem b_divides (T : Txt K mg)  (fa : Addr) (cdv : Value) (A : Around) (outer : List PySem.Env) (s : Shared) (H : Hp) (E : XK) (hr : Room 0 (A.deeper (envOfC "divides" (defScope s_divides) s.heap.objs.size fa cdv))) :
    SSs (cxOf CX0 P w K mg base ["one", "other"] "divides" (defScope s_divides) fa cdv A outer s H E).nox (defBody s_divides) w_divides :=
  (ss_cons (ss_if (st_eq hr.units (se_var 0) se_int) (ss_one (ss_ret (se_eq hr.units (se_var 1) se_int))) ss_nil)
  (ss_one (ss_ret (se_eq hr.units (se_mod (se_var 1) (se_var 0)) se_int))))
theorem b_mark_of (T : Txt K mg) (d_rest_of : Def P w K mg base 1 "rest_of" ["integer", "modulus"] c_rest_of) (fa : Addr) (cdv : Value) (A : Around) (outer : List PySem.Env) (s : Shared) (H : Hp) (E : XK) (hr : Room 1 (A.deeper (envOfC "mark_of" (defScope s_mark_of) s.heap.objs.size fa cdv))) :
    SSs (cxOf CX0 P w K mg base ["dial", "integer"] "mark_of" (defScope s_mark_of) fa cdv A outer s H E).nox (defBody s_mark_of) w_mark_of :=
  (ss_one (ss_ret (se_fn d_rest_of (hr.mono (by decide)) (by rfl) (sa_cons (se_var 1) (sa_cons (se_ix (se_var 0) se_int) sa_nil)))))
theorem b_turned_mark (T : Txt K mg) (d_rest_of : Def P w K mg base 1 "rest_of" ["integer", "modulus"] c_rest_of) (fa : Addr) (cdv : Value) (A : Around) (outer : List PySem.Env) (s : Shared) (H : Hp) (E : XK) (hr : Room 1 (A.deeper (envOfC "turned_mark" (defScope s_turned_mark) s.heap.objs.size fa cdv))) :
    SSs (cxOf CX0 P w K mg base ["dial", "integer"] "turned_mark" (defScope s_turned_mark) fa cdv A outer s H E).nox (defBody s_turned_mark) w_turned_mark :=
  (ss_one (ss_ret (se_fn d_rest_of (hr.mono (by decide)) (by rfl) (sa_cons (se_mul (se_ix (se_var 0) se_int) (se_var 1)) (sa_cons (se_ix (se_var 0) se_int) sa_nil)))))
theorem b_half_of (T : Txt K mg)  (fa : Addr) (cdv : Value) (A : Around) (outer : List PySem.Env) (s : Shared) (H : Hp) (E : XK) (hr : Room 0 (A.deeper (envOfC "half_of" (defScope s_half_of) s.heap.objs.size fa cdv))) :
    SSs (cxOf CX0 P w K mg base ["dial", "size", "turn"] "half_of" (defScope s_half_of) fa cdv A outer s H E).nox (defBody s_half_of) w_half_of :=
  (ss_cons (ss_asg (se_var 0) (sg_tup rfl (sgs_cons (sg_name sc_half_of.nd) (sgs_cons (sg_name sc_half_of.nd) sgs_nil))))
  (ss_cons (ss_if (st_eq hr.units (se_var 1) se_int) (ss_one (ss_ret (se_if (st_eq hr.units (se_var 2) se_int) se_int se_int))) ss_nil)
  (ss_one (ss_ret (se_mod (se_div (se_var 1) (se_gcd (by rfl) T.g_gcd (sa_cons (se_var 1) (sa_cons (se_sub (se_var 2) se_int) sa_nil)))) (se_var 1))))))
theorem b_is_turning (T : Txt K mg) (d_divides : Def P w K mg base 1 "divides" ["one", "other"] c_divides) (fa : Addr) (cdv : Value) (A : Around) (outer : List PySem.Env) (s : Shared) (H : Hp) (E : XK) (hr : Room 1 (A.deeper (envOfC "is_turning" (defScope s_is_turning) s.heap.objs.size fa cdv))) :
    SSs (cxOf CX0 P w K mg base ["dial"] "is_turning" (defScope s_is_turning) fa cdv A outer s H E).nox (defBody s_is_turning) w_is_turning :=
  (ss_one (ss_ret (se_fn d_divides (hr.mono (by decide)) (by rfl) (sa_cons (se_ix (se_var 0) se_int) (sa_cons (se_add (se_ix (se_var 0) se_int) se_int) sa_nil)))))
theorem b_is_loud (T : Txt K mg) (d_divides : Def P w K mg base 1 "divides" ["one", "other"] c_divides) (fa : Addr) (cdv : Value) (A : Around) (outer : List PySem.Env) (s : Shared) (H : Hp) (E : XK) (hr : Room 1 (A.deeper (envOfC "is_loud" (defScope s_is_loud) s.heap.objs.size fa cdv))) :
    SSs (cxOf CX0 P w K mg base ["dial"] "is_loud" (defScope s_is_loud) fa cdv A outer s H E).nox (defBody s_is_loud) w_is_loud :=
  (ss_one (ss_ret (se_fn d_divides (hr.mono (by decide)) (by rfl) (sa_cons (se_ix (se_var 0) se_int) (sa_cons (se_sub (se_ix (se_var 0) se_int) se_int) sa_nil)))))
theorem b_field_prime (T : Txt K mg)  (fa : Addr) (cdv : Value) (A : Around) (outer : List PySem.Env) (s : Shared) (H : Hp) (E : XK) (hr : Room 0 (A.deeper (envOfC "field_prime" (defScope s_field_prime) s.heap.objs.size fa cdv))) :
    SSs (cxOf CX0 P w K mg base ["dial", "prime"] "field_prime" (defScope s_field_prime) fa cdv A outer s H E).nox (defBody s_field_prime) w_field_prime :=
  (ss_cons (ss_for PassesOwn.never rfl (si_seq (se_cst T.k_PRIMES (by rfl))) (sg_name sc_field_prime.nd) (ss_one (ss_if (st_eq hr.units (se_var 0) (se_tup (sa_cons (se_sub (se_mul (se_var 1) (se_var 1)) se_int) (sa_cons (se_var 1) sa_nil)))) (ss_one (ss_ret (se_var 1))) ss_nil)))
  (ss_one (ss_ret se_non)))
theorem b__law_pool (T : Txt K mg)  (fa : Addr) (cdv : Value) (A : Around) (outer : List PySem.Env) (s : Shared) (H : Hp) (E : XK) (hr : Room 0 (A.deeper (envOfC "_law_pool" (defScope s__law_pool) s.heap.objs.size fa cdv))) :
    SSs (cxOf CX0 P w K mg base ["script", "salt", "cells", "mixed", "cell"] "_law_pool" (defScope s__law_pool) fa cdv A outer s H E).nox (defBody s__law_pool) w__law_pool :=
  (ss_cons (ss_setLcN (i := 2) rfl sc__law_pool.nd rfl rfl (sw_true rfl rfl rfl (by decide +kernel)) (si_seq (se_var 0)) (blkOk_by (N := ["script", "salt", "cells", "mixed", "cell"]) (sc := defScope s__law_pool) (own := [("cell", 4)]) (by decide +kernel)) rfl (by decide) (fun _ _ _ _ _ => (sg_name sc__law_pool.nd)) (fun _ _ _ _ _ => sts_nil) (fun _ _ _ _ _ => (se_abs (by rfl) T.f_abs (sa_cons (se_cint (by rfl) T.f_int (sa_cons (se_var 4) sa_nil)) sa_nil))))
  (ss_cons (ss_set (i := 3) sc__law_pool.nd (se_var 1))
  (ss_cons (ss_for PassesOwn.never rfl (si_seq (se_var 2)) (sg_name sc__law_pool.nd) (ss_one (ss_set (i := 3) sc__law_pool.nd (se_mod (se_add (se_add (se_mul (se_var 3) se_int) (se_mod (se_cint (by rfl) T.f_int (sa_cons (se_var 4) sa_nil)) se_int)) se_int) se_int))))
  (ss_one (ss_ret (se_new (sa_cons se_int (sa_cons (se_add (se_var 3) se_int) (sa_cons (se_var 2) sa_nil)))))))))
theorem b__law_draw (T : Txt K mg)  (fa : Addr) (cdv : Value) (A : Around) (outer : List PySem.Env) (s : Shared) (H : Hp) (E : XK) (hr : Room 0 (A.deeper (envOfC "_law_draw" (defScope s__law_draw) s.heap.objs.size fa cdv))) :
    SSs (cxOf CX0 P w K mg base ["pool", "many", "cell", "digit"] "_law_draw" (defScope s__law_draw) fa cdv A outer s H E).nox (defBody s__law_draw) w__law_draw :=
  (ss_cons (ss_if (st_bool (sw_and (st_eq hr.units (se_ix (se_var 0) se_int) se_int) (sw_and1 (st_gt (se_len (by rfl) T.f_len (sa_cons (se_ix (se_var 0) se_int) sa_nil)) se_int)))) (ss_cons (ss_set (i := 2) sc__law_draw.nd (se_meth md_popAt (pe_bm PySem.F.plainAttrs_list PySem.F.slot_list_pop PySem.F.type_list_pop mt_popAt (se_ix (se_var 0) se_int) (sa_cons se_int sa_nil))))
  (ss_one (ss_if (st_ge (se_var 2) (se_pow se_int se_int)) (ss_one (ss_put (se_var 2) (se_var 0) se_int)) (ss_one (ss_put (se_add (se_mod (se_add (se_mul (se_ix (se_var 0) se_int) se_int) (se_cint (by rfl) T.f_int (sa_cons (se_var 2) sa_nil))) se_int) se_int) (se_var 0) se_int))))) ss_nil)
  (ss_cons (ss_if (st_gt (se_ix (se_var 0) se_int) se_int) (ss_cons (ss_set (i := 3) sc__law_draw.nd (se_mod (se_cint (by rfl) T.f_int (sa_cons (se_ix (se_var 0) se_int) sa_nil)) (se_var 1)))
  (ss_cons (ss_put (se_div (se_ix (se_var 0) se_int) (se_var 1)) (se_var 0) se_int)
  (ss_one (ss_ret (se_var 3))))) ss_nil)
  (ss_cons (ss_put (se_mod (se_add (se_mul (se_ix (se_var 0) se_int) se_int) se_int) se_int) (se_var 0) se_int)
  (ss_cons (ss_put (se_mod (se_add (se_mul (se_ix (se_var 0) se_int) se_int) se_int) se_int) (se_var 0) se_int)
  (ss_one (ss_ret (se_mod (se_div (se_ix (se_var 0) se_int) se_int) (se_var 1))))))))
theorem b__law_is (T : Txt K mg)  (fa : Addr) (cdv : Value) (A : Around) (outer : List PySem.Env) (s : Shared) (H : Hp) (E : XK) (hr : Room 0 (A.deeper (envOfC "_law_is" (defScope s__law_is) s.heap.objs.size fa cdv))) :
    SSs (cxOf CX0 P w K mg base ["told", "due"] "_law_is" (defScope s__law_is) fa cdv A outer s H E).nox (defBody s__law_is) w__law_is :=
  (ss_cons (ss_if (st_is (se_var 1) se_non) (ss_one (ss_ret (se_is (se_var 0) se_non))) ss_nil)
  (ss_cons (ss_if (st_is (se_var 1) se_bl) (ss_one (ss_ret (se_is (se_var 0) se_bl))) ss_nil)
  (ss_cons (ss_if (st_is (se_var 1) se_bl) (ss_one (ss_ret (se_is (se_var 0) se_bl))) ss_nil)
  (ss_one (ss_ret (se_and (se_isT (Tn := "int") (by rfl) T.f_isinstance (by rfl) T.f_int (by decide +kernel) (se_var 0)) (se_and (se_not (se_isT (Tn := "bool") (by rfl) T.f_isinstance (by rfl) T.f_bool (by decide +kernel) (se_var 0))) (se_one (se_eq hr.units (se_var 0) (se_var 1))))))))))
theorem b__law_rest (T : Txt K mg)  (fa : Addr) (cdv : Value) (A : Around) (outer : List PySem.Env) (s : Shared) (H : Hp) (E : XK) (hr : Room 0 (A.deeper (envOfC "_law_rest" (defScope s__law_rest) s.heap.objs.size fa cdv))) :
    SSs (cxOf CX0 P w K mg base ["many", "value"] "_law_rest" (defScope s__law_rest) fa cdv A outer s H E).nox (defBody s__law_rest) w__law_rest :=
  (ss_cons (ss_if (st_eq hr.units (se_var 0) se_int) (ss_one (ss_ret (se_var 1))) ss_nil)
  (ss_one (ss_ret (se_mod (se_cint (by rfl) T.f_int (sa_cons (se_var 1) sa_nil)) (se_var 0)))))
theorem b__law_half (T : Txt K mg)  (fa : Addr) (cdv : Value) (A : Around) (outer : List PySem.Env) (s : Shared) (H : Hp) (E : XK) (hr : Room 0 (A.deeper (envOfC "_law_half" (defScope s__law_half) s.heap.objs.size fa cdv))) :
    SSs (cxOf CX0 P w K mg base ["dial", "many", "mark"] "_law_half" (defScope s__law_half) fa cdv A outer s H E).nox (defBody s__law_half) w__law_half :=
  (ss_cons (ss_set (i := 1) sc__law_half.nd (se_ix (se_var 0) se_int))
  (ss_cons (ss_if (st_eq hr.units (se_var 1) se_int) (ss_one (ss_ret (se_div (se_add (se_ix (se_var 0) se_int) se_int) se_int))) ss_nil)
  (ss_cons (ss_for PassesOwn.never rfl (si_range2 (by rfl) T.f_range (sa_cons se_int (sa_cons (se_add (se_var 1) se_int) sa_nil))) (sg_name sc__law_half.nd) (ss_one (ss_if (st_eq hr.units (se_mod (se_cint (by rfl) T.f_int (sa_cons (se_sub (se_mul (se_var 2) (se_ix (se_var 0) se_int)) (se_var 2)) sa_nil)) (se_var 1)) se_int) (ss_one (ss_ret (se_mod (se_cint (by rfl) T.f_int (sa_cons (se_var 2) sa_nil)) (se_var 1)))) ss_nil)))
  (ss_one (ss_ret se_int)))))
theorem b__law_divides (T : Txt K mg)  (fa : Addr) (cdv : Value) (A : Around) (outer : List PySem.Env) (s : Shared) (H : Hp) (E : XK) (hr : Room 0 (A.deeper (envOfC "_law_divides" (defScope s__law_divides) s.heap.objs.size fa cdv))) :
    SSs (cxOf CX0 P w K mg base ["number", "value"] "_law_divides" (defScope s__law_divides) fa cdv A outer s H E).nox (defBody s__law_divides) w__law_divides :=
  (ss_cons (ss_if (st_eq hr.units (se_var 0) se_int) (ss_one (ss_ret (se_eq hr.units (se_var 1) se_int))) ss_nil)
  (ss_one (ss_ret (se_eq hr.units (se_mod (se_cint (by rfl) T.f_int (sa_cons (se_var 1) sa_nil)) (se_var 0)) se_int))))
theorem b__law_turns (T : Txt K mg)  (fa : Addr) (cdv : Value) (A : Around) (outer : List PySem.Env) (s : Shared) (H : Hp) (E : XK) (hr : Room 0 (A.deeper (envOfC "_law_turns" (defScope s__law_turns) s.heap.objs.size fa cdv))) :
    SSs (cxOf CX0 P w K mg base ["many", "turn"] "_law_turns" (defScope s__law_turns) fa cdv A outer s H E).nox (defBody s__law_turns) w__law_turns :=
  (ss_one (ss_ret (se_lc rfl sc__law_turns.nd (si_range2 (by rfl) T.f_range (sa_cons se_int (sa_cons (se_var 0) sa_nil))) (blkOk_by (N := ["many", "turn"]) (sc := defScope s__law_turns) (own := [("turn", 1)]) (by decide +kernel)) rfl (by decide) (fun _ _ _ _ _ => (sg_name sc__law_turns.nd)) (fun _ _ _ _ _ => (sts_one (st_eq hr.units (se_mod (se_cint (by rfl) T.f_int (sa_cons (se_mul (se_var 1) (se_var 1)) sa_nil)) (se_var 0)) se_int))) (fun _ _ _ _ _ => (se_var 1)))))
theorem b__law_picked (T : Txt K mg) (d__law_draw : Def P w K mg base 1 "_law_draw" ["pool", "many"] c__law_draw) (fa : Addr) (cdv : Value) (A : Around) (outer : List PySem.Env) (s : Shared) (H : Hp) (E : XK) (hr : Room 1 (A.deeper (envOfC "_law_picked" (defScope s__law_picked) s.heap.objs.size fa cdv))) :
    SSs (cxOf CX0 P w K mg base ["pool", "rows"] "_law_picked" (defScope s__law_picked) fa cdv A outer s H E).nox (defBody s__law_picked) w__law_picked :=
  (ss_one (ss_ret (se_ix (se_var 1) (se_fn d__law_draw (hr.mono (by decide)) (by rfl) (sa_cons (se_var 0) (sa_cons (se_len (by rfl) T.f_len (sa_cons (se_var 1) sa_nil)) sa_nil))))))
theorem b__law_size (T : Txt K mg) (d__law_draw : Def P w K mg base 1 "_law_draw" ["pool", "many"] c__law_draw) (fa : Addr) (cdv : Value) (A : Around) (outer : List PySem.Env) (s : Shared) (H : Hp) (E : XK) (hr : Room 1 (A.deeper (envOfC "_law_size" (defScope s__law_size) s.heap.objs.size fa cdv))) :
    SSs (cxOf CX0 P w K mg base ["pool", "habit", "many"] "_law_size" (defScope s__law_size) fa cdv A outer s H E).nox (defBody s__law_size) w__law_size :=
  (ss_cons (ss_set (i := 1) sc__law_size.nd (se_fn d__law_draw (hr.mono (by decide)) (by rfl) (sa_cons (se_var 0) (sa_cons se_int sa_nil))))
  (ss_cons (ss_set (i := 2) sc__law_size.nd (se_add se_int (se_fn d__law_draw (hr.mono (by decide)) (by rfl) (sa_cons (se_var 0) (sa_cons se_int sa_nil)))))
  (ss_cons (ss_if (st_gt (se_var 1) se_int) (ss_one (ss_set (i := 2) sc__law_size.nd (se_add se_int (se_fn d__law_draw (hr.mono (by decide)) (by rfl) (sa_cons (se_var 0) (sa_cons se_int sa_nil)))))) ss_nil)
  (ss_cons (ss_if (st_eq hr.units (se_var 1) se_int) (ss_one (ss_set (i := 2) sc__law_size.nd (se_add se_int (se_fn d__law_draw (hr.mono (by decide)) (by rfl) (sa_cons (se_var 0) (sa_cons se_int sa_nil)))))) ss_nil)
  (ss_cons (ss_if (st_eq hr.units (se_fn d__law_draw (hr.mono (by decide)) (by rfl) (sa_cons (se_var 0) (sa_cons se_int sa_nil))) se_int) (ss_one (ss_set (i := 2) sc__law_size.nd se_int)) ss_nil)
  (ss_one (ss_ret (se_var 2))))))))
theorem b__law_numbers (T : Txt K mg) (d__law_draw : Def P w K mg base 1 "_law_draw" ["pool", "many"] c__law_draw) (d__law_picked : Def P w K mg base 2 "_law_picked" ["pool", "rows"] c__law_picked) (fa : Addr) (cdv : Value) (A : Around) (outer : List PySem.Env) (s : Shared) (H : Hp) (E : XK) (hr : Room 2 (A.deeper (envOfC "_law_numbers" (defScope s__law_numbers) s.heap.objs.size fa cdv))) :
    SSs (cxOf CX0 P w K mg base ["pool", "dial", "half", "many", "some", "stays", "found", "great"] "_law_numbers" (defScope s__law_numbers) fa cdv A outer s H E).nox (defBody s__law_numbers) w__law_numbers :=
  (ss_cons (ss_set (i := 3) sc__law_numbers.nd (se_ix (se_var 1) se_int))
  (ss_cons (ss_set (i := 4) sc__law_numbers.nd (se_add se_int (se_fn d__law_draw (hr.mono (by decide)) (by rfl) (sa_cons (se_var 0) (sa_cons (se_pow se_int se_int) sa_nil)))))
  (ss_cons (ss_set (i := 5) sc__law_numbers.nd (se_mul (se_var 2) (se_add se_int (se_fn d__law_draw (hr.mono (by decide)) (by rfl) (sa_cons (se_var 0) (sa_cons se_int sa_nil))))))
  (ss_cons (ss_set (i := 6) sc__law_numbers.nd (se_new (sa_cons se_int (sa_cons (se_var 5) (sa_cons (se_fn d__law_draw (hr.mono (by decide)) (by rfl) (sa_cons (se_var 0) (sa_cons se_int sa_nil))) (sa_cons (se_sub (se_neg se_int) (se_fn d__law_draw (hr.mono (by decide)) (by rfl) (sa_cons (se_var 0) (sa_cons (se_pow se_int se_int) sa_nil)))) (sa_cons (se_var 3) (sa_cons (se_mul (se_neg (se_var 3)) (se_var 4)) (sa_cons (se_sub (se_mul (se_var 3) (se_var 4)) se_int) sa_nil)))))))))
  (ss_cons (ss_expr (se_meth md_append (pe_bm PySem.F.plainAttrs_list PySem.F.slot_list_append PySem.F.type_list_append mt_append (se_var 6) (sa_cons (se_add (se_var 5) se_int) sa_nil))))
  (ss_cons (ss_expr (se_meth md_append (pe_bm PySem.F.plainAttrs_list PySem.F.slot_list_append PySem.F.type_list_append mt_append (se_var 6) (sa_cons (se_div (se_var 2) se_int) sa_nil))))
  (ss_cons (ss_set (i := 7) sc__law_numbers.nd (se_add (se_mul (se_fn d__law_draw (hr.mono (by decide)) (by rfl) (sa_cons (se_var 0) (sa_cons (se_pow se_int se_int) sa_nil))) (se_pow se_int se_int)) (se_var 4)))
  (ss_cons (ss_expr (se_meth md_append (pe_bm PySem.F.plainAttrs_list PySem.F.slot_list_append PySem.F.type_list_append mt_append (se_var 6) (sa_cons (se_fn d__law_picked (hr.mono (by decide)) (by rfl) (sa_cons (se_var 0) (sa_cons (se_lst (sa_cons (se_var 7) (sa_cons (se_neg (se_var 7)) (sa_cons (se_mul (se_var 3) (se_var 7)) (sa_cons (se_add (se_mul (se_var 3) (se_var 7)) (se_var 4)) sa_nil))))) sa_nil))) sa_nil))))
  (ss_one (ss_ret (se_var 6)))))))))))
theorem b__law_field (T : Txt K mg)  (fa : Addr) (cdv : Value) (A : Around) (outer : List PySem.Env) (s : Shared) (H : Hp) (E : XK) (hr : Room 0 (A.deeper (envOfC "_law_field" (defScope s__law_field) s.heap.objs.size fa cdv))) :
    SSs (cxOf CX0 P w K mg base ["dial", "prime"] "_law_field" (defScope s__law_field) fa cdv A outer s H E).nox (defBody s__law_field) w__law_field :=
  (ss_cons (ss_for PassesOwn.never rfl (si_seq (se_tup (sa_cons se_int (sa_cons se_int (sa_cons se_int (sa_cons se_int (sa_cons se_int sa_nil))))))) (sg_name sc__law_field.nd) (ss_one (ss_if (st_bool (sw_and (st_eq hr.units (se_ix (se_var 0) se_int) (se_sub (se_mul (se_var 1) (se_var 1)) se_int)) (sw_and1 (st_eq hr.units (se_ix (se_var 0) se_int) (se_var 1))))) (ss_one (ss_ret (se_var 1))) ss_nil)))
  (ss_one (ss_ret se_non)))
theorem b__law_right (T : Txt K mg) (d__law_half : Def P w K mg base 1 "_law_half" ["dial"] c__law_half) (d__law_is : Def P w K mg base 1 "_law_is" ["told", "due"] c__law_is) (d_half_of : Def P w K mg base 1 "half_of" ["dial"] c_half_of) (d__law_divides : Def P w K mg base 1 "_law_divides" ["number", "value"] c__law_divides) (d_is_turning : Def P w K mg base 2 "is_turning" ["dial"] c_is_turning) (d_is_loud : Def P w K mg base 2 "is_loud" ["dial"] c_is_loud) (d__law_field : Def P w K mg base 1 "_law_field" ["dial"] c__law_field) (d_field_prime : Def P w K mg base 1 "field_prime" ["dial"] c_field_prime) (d__law_numbers : Def P w K mg base 3 "_law_numbers" ["pool", "dial", "half"] c__law_numbers) (d__law_rest : Def P w K mg base 1 "_law_rest" ["many", "value"] c__law_rest) (d_mark_of : Def P w K mg base 2 "mark_of" ["dial", "integer"] c_mark_of) (d_turned_mark : Def P w K mg base 2 "turned_mark" ["dial", "integer"] c_turned_mark) (fa : Addr) (cdv : Value) (A : Around) (outer : List PySem.Env) (s : Shared) (H : Hp) (E : XK) (hr : Room 3 (A.deeper (envOfC "_law_right" (defScope s__law_right) s.heap.objs.size fa cdv))) :
    SSs (cxOf CX0 P w K mg base ["pool", "dial", "half", "value", "mark", "turned"] "_law_right" (defScope s__law_right) fa cdv A outer s H E).nox (defBody s__law_right) w__law_right :=
  (ss_cons (ss_set (i := 2) sc__law_right.nd (se_fn d__law_half (hr.mono (by decide)) (by rfl) (sa_cons (se_var 1) sa_nil)))
  (ss_cons (ss_if (st_not (st_tru (se_fn d__law_is (hr.mono (by decide)) (by rfl) (sa_cons (se_fn d_half_of (hr.mono (by decide)) (by rfl) (sa_cons (se_var 1) sa_nil)) (sa_cons (se_var 2) sa_nil))))) (ss_one (ss_ret se_bl)) ss_nil)
  (ss_cons (ss_if (st_not (st_tru (se_fn d__law_is (hr.mono (by decide)) (by rfl) (sa_cons (se_fn d_is_turning (hr.mono (by decide)) (by rfl) (sa_cons (se_var 1) sa_nil)) (sa_cons (se_fn d__law_divides (hr.mono (by decide)) (by rfl) (sa_cons (se_ix (se_var 1) se_int) (sa_cons (se_add (se_ix (se_var 1) se_int) se_int) sa_nil))) sa_nil))))) (ss_one (ss_ret se_bl)) ss_nil)
  (ss_cons (ss_if (st_not (st_tru (se_fn d__law_is (hr.mono (by decide)) (by rfl) (sa_cons (se_fn d_is_loud (hr.mono (by decide)) (by rfl) (sa_cons (se_var 1) sa_nil)) (sa_cons (se_fn d__law_divides (hr.mono (by decide)) (by rfl) (sa_cons (se_ix (se_var 1) se_int) (sa_cons (se_sub (se_ix (se_var 1) se_int) se_int) sa_nil))) sa_nil))))) (ss_one (ss_ret se_bl)) ss_nil)
  (ss_cons (ss_if (st_not (st_tru (se_fn d__law_is (hr.mono (by decide)) (by rfl) (sa_cons (se_fn d_field_prime (hr.mono (by decide)) (by rfl) (sa_cons (se_var 1) sa_nil)) (sa_cons (se_fn d__law_field (hr.mono (by decide)) (by rfl) (sa_cons (se_var 1) sa_nil)) sa_nil))))) (ss_one (ss_ret se_bl)) ss_nil)
  (ss_cons (ss_for PassesOwn.never rfl (si_seq (se_fn d__law_numbers (hr.mono (by decide)) (by rfl) (sa_cons (se_var 0) (sa_cons (se_var 1) (sa_cons (se_var 2) sa_nil))))) (sg_name sc__law_right.nd) (ss_cons (ss_set (i := 4) sc__law_right.nd (se_fn d__law_rest (hr.mono (by decide)) (by rfl) (sa_cons (se_ix (se_var 1) se_int) (sa_cons (se_var 3) sa_nil))))
  (ss_cons (ss_set (i := 5) sc__law_right.nd (se_fn d__law_rest (hr.mono (by decide)) (by rfl) (sa_cons (se_ix (se_var 1) se_int) (sa_cons (se_mul (se_ix (se_var 1) se_int) (se_var 3)) sa_nil))))
  (ss_cons (ss_if (st_bool (sw_or (st_not (st_tru (se_fn d__law_is (hr.mono (by decide)) (by rfl) (sa_cons (se_fn d_mark_of (hr.mono (by decide)) (by rfl) (sa_cons (se_var 1) (sa_cons (se_var 3) sa_nil))) (sa_cons (se_var 4) sa_nil))))) (sw_or1 (st_not (st_tru (se_fn d__law_is (hr.mono (by decide)) (by rfl) (sa_cons (se_fn d_turned_mark (hr.mono (by decide)) (by rfl) (sa_cons (se_var 1) (sa_cons (se_var 3) sa_nil))) (sa_cons (se_var 5) sa_nil)))))))) (ss_one (ss_ret se_bl)) ss_nil)
  (ss_one (ss_if (st_not (st_tru (se_fn d__law_is (hr.mono (by decide)) (by rfl) (sa_cons (se_fn d_turned_mark (hr.mono (by decide)) (by rfl) (sa_cons (se_var 1) (sa_cons (se_var 4) sa_nil))) (sa_cons (se_var 5) sa_nil))))) (ss_one (ss_ret se_bl)) ss_nil))))))
  (ss_one (ss_ret se_bl))))))))
theorem b_law (T : Txt K mg) (d__law_pool : Def P w K mg base 1 "_law_pool" ["script", "salt"] c__law_pool) (d__law_size : Def P w K mg base 2 "_law_size" ["pool"] c__law_size) (d__law_picked : Def P w K mg base 2 "_law_picked" ["pool", "rows"] c__law_picked) (d__law_draw : Def P w K mg base 1 "_law_draw" ["pool", "many"] c__law_draw) (d__law_turns : Def P w K mg base 1 "_law_turns" ["many"] c__law_turns) (d__law_right : Def P w K mg base 4 "_law_right" ["pool", "dial"] c__law_right) (fa : Addr) (cdv : Value) (A : Around) (outer : List PySem.Env) (s : Shared) (H : Hp) (E : XK) (hr : Room 4 (A.deeper (envOfC "law" (defScope s_law) s.heap.objs.size fa cdv))) :
    SSs (cxOf CX0 P w K mg base ["script", "pool", "many", "prime", "other", "square", "dials", "dial"] "law" (defScope s_law) fa cdv A outer s H E).nox (defBody s_law) w_law :=
  (ss_cons (ss_set (i := 1) sc_law.nd (se_fn d__law_pool (hr.mono (by decide)) (by rfl) (sa_cons (se_var 0) (sa_cons se_int sa_nil))))
  (ss_cons (ss_set (i := 2) sc_law.nd (se_fn d__law_size (hr.mono (by decide)) (by rfl) (sa_cons (se_var 1) sa_nil)))
  (ss_cons (ss_set (i := 3) sc_law.nd (se_fn d__law_picked (hr.mono (by decide)) (by rfl) (sa_cons (se_var 1) (sa_cons (se_lst (sa_cons se_int (sa_cons se_int (sa_cons se_int (sa_cons se_int (sa_cons se_int sa_nil)))))) sa_nil))))
  (ss_cons (ss_set (i := 4) sc_law.nd (se_fn d__law_picked (hr.mono (by decide)) (by rfl) (sa_cons (se_var 1) (sa_cons (se_lst (sa_cons se_int (sa_cons se_int (sa_cons se_int (sa_cons se_int (sa_cons se_int (sa_cons se_int (sa_cons se_int (sa_cons se_int (sa_cons se_int (sa_cons se_int (sa_cons se_int (sa_cons (se_add se_int (se_fn d__law_draw (hr.mono (by decide)) (by rfl) (sa_cons (se_var 1) (sa_cons se_int sa_nil)))) sa_nil))))))))))))) sa_nil))))
  (ss_cons (ss_set (i := 5) sc_law.nd (se_sub (se_mul (se_var 3) (se_var 3)) se_int))
  (ss_cons (ss_set (i := 6) sc_law.nd (se_lst (sa_cons (se_tup (sa_cons se_int (sa_cons se_int sa_nil))) (sa_cons (se_tup (sa_cons se_int (sa_cons (se_neg se_int) sa_nil))) (sa_cons (se_tup (sa_cons se_int (sa_cons se_int sa_nil))) (sa_cons (se_tup (sa_cons (se_var 2) (sa_cons (se_fn d__law_picked (hr.mono (by decide)) (by rfl) (sa_cons (se_var 1) (sa_cons (se_fn d__law_turns (hr.mono (by decide)) (by rfl) (sa_cons (se_var 2) sa_nil)) sa_nil))) sa_nil))) (sa_cons (se_tup (sa_cons (se_var 5) (sa_cons (se_var 3) sa_nil))) (sa_cons (se_tup (sa_cons (se_var 5) (sa_cons (se_fn d__law_picked (hr.mono (by decide)) (by rfl) (sa_cons (se_var 1) (sa_cons (se_fn d__law_turns (hr.mono (by decide)) (by rfl) (sa_cons (se_var 5) sa_nil)) sa_nil))) sa_nil))) (sa_cons (se_tup (sa_cons (se_sub (se_mul (se_var 4) (se_var 4)) se_int) (sa_cons (se_var 4) sa_nil))) sa_nil)))))))))
  (ss_cons (ss_for PassesOwn.never rfl (si_seq (se_var 6)) (sg_name sc_law.nd) (ss_one (ss_if (st_not (st_tru (se_fn d__law_right (hr.mono (by decide)) (by rfl) (sa_cons (se_var 1) (sa_cons (se_var 7) sa_nil))))) (ss_one (ss_ret se_bl)) ss_nil)))
  (ss_one (ss_ret se_bl)))))))))
end
end K02

set_option maxHeartbeats 1000000
namespace K02
open PySem PySem.Spec PyProof.Rows L2 DL
local macro_rules | `(tactic| walk_at "dl") => `(tactic| simp only [y_w_seq, y_w_ret, y_w_retN, y_w_if, y_w_drop, y_w_next, y_w_c, y_w_op, y_w_and, y_w_or, y_w_not, y_w_tru, y_w_ifE, y_w_call, y_w_cons, y_w_nil, y_w_tup, y_w_lst, y_w_new, y_w_fn, y_w_meth, y_w_meth0, y_w_andV, y_w_orV, y_w_notV, y_w_yes, y_w_brk, y_w_ct, atD_of, atD_cast, atD_neg1,
  x_rAdd, x_rSub, x_rMul, x_rDiv, x_rMod, x_rPow, x_rLt, x_rLe, x_rGt, x_rGe, x_rAdd_s, x_rAdd_t, x_rEq_int, x_rEq_bl, x_rEq_str, x_rEq_tup, x_rEq_lst, x_rEq_nt, x_rEq_tn, x_rEq_nn, x_rEq_ni, x_rEq_in, x_rNe_int, x_rNe_bl, x_rNe_str, x_rNe_tup, x_rNe_lst, x_rNe_nt, x_rNe_tn, x_rNe_nn, x_rNe_ni, x_rNe_in, x_is_non_n, x_isn_non_n, x_is_non_b, x_isn_non_b, x_is_bl_n, x_isn_bl_n, x_is_int_n, x_isn_int_n, x_is_int_b, x_isn_int_b, x_is_str_n, x_isn_str_n, x_is_str_b, x_isn_str_b, x_is_tup_n, x_isn_tup_n, x_is_tup_b, x_isn_tup_b, x_is_lst_n, x_isn_lst_n, x_is_lst_b, x_isn_lst_b, x_is_ref_n, x_isn_ref_n, x_is_ref_b, x_isn_ref_b, x_is_bb, x_isn_bb, oM_some, sM_some, x_ix_tup, x_ix_lst, x_ix_ref, x_tru_non, x_tru_bl, x_tru_int, x_tru_str, x_tru_tup, x_tru_lst, x_tru_ref, x_len_tup, x_tuple_tup, x_list_tup, x_listN_tup, x_len_lst, x_tuple_lst, x_list_lst, x_listN_lst, x_len_str, x_rLen_ref, x_rTuple_ref, x_rList_ref, x_rListN_ref, x_int_int, x_int_bl, x_abs, x_gcd, x_max2, x_min2, x_append, x_popAt, x_pop, x_putAt, x_putAtC, x_isL_ref, x_isL_lst, y_var0, y_varS, y_tB, y_test, y_wBl, y_nB, y_neg, y_isT, y_asgN, y_bK, y_asgT, y_bindN, y_bind0, y_seqI, y_iK_t, y_iK_l, y_iK_r, y_rg1, y_rg2, y_r1K, y_r2K, y_put, y_pK, y_comp, y_compN, y_cN, y_wipe0, y_wipe1,
  List.map_cons, List.map_nil, List.cons_append, List.nil_append, List.replicate, List.getElem?_cons_zero, List.getElem?_cons_succ, List.set_cons_zero, List.set_cons_succ, List.length_cons, List.length_nil, decide_eq_true_eq, Bool.not_true, Bool.not_false, if_true, if_false, Bool.false_eq_true, bq_tt, bq_tf, bq_ft, bq_ff, sizeLine_eq, Nat.reduceAdd, Nat.reduceLeDiff, Int.reduceMul, Int.reduceSub, Int.reduceAdd, Int.reduceNeg, Int.reducePow, Int.reduceToNat, Int.reduceLT, Int.reduceLE, Nat.reduceSub, Nat.reducePow, Nat.reduceLT, z_cast0, z_pos, Int.lt_irrefl, List.eraseIdx_cons_zero, List.eraseIdx_cons_succ, true_and, Bool.not_eq_true', decide_eq_false_iff_not, Bool.not_eq_eq_eq_not, and_true, decide_true, decide_false, not_true_eq_false, not_false_eq_true,
  isT_non_int, isT_non_bool, isT_non_str, isT_non_tuple, isT_non_list, isT_bl_int, isT_bl_bool, isT_bl_str, isT_bl_tuple, isT_bl_list, isT_int_int, isT_int_bool, isT_int_str, isT_int_tuple, isT_int_list, isT_str_int, isT_str_bool, isT_str_str, isT_str_tuple, isT_str_list, isT_tup_int, isT_tup_bool, isT_tup_str, isT_tup_tuple, isT_tup_list, isT_lst_int, isT_lst_bool, isT_lst_str, isT_lst_tuple, isT_lst_list])
local macro_rules | `(tactic| walk_at "fl") => `(tactic| simp only [y_w_for, y_for0, y_forN, y_forT, y_w_seq, y_w_ret, y_w_retN, y_w_if, y_w_drop, y_w_next, y_w_c, y_w_op, y_w_and, y_w_or, y_w_not, y_w_tru, y_w_ifE, y_w_call, y_w_cons, y_w_nil, y_w_tup, y_w_lst, y_w_new, y_w_fn, y_w_meth, y_w_meth0, y_w_andV, y_w_orV, y_w_notV, y_w_yes, y_w_brk, y_w_ct, atD_of, atD_cast, atD_neg1,
  x_rAdd, x_rSub, x_rMul, x_rDiv, x_rMod, x_rPow, x_rLt, x_rLe, x_rGt, x_rGe, x_rAdd_s, x_rAdd_t, x_rEq_int, x_rEq_bl, x_rEq_str, x_rEq_tup, x_rEq_lst, x_rEq_nt, x_rEq_tn, x_rEq_nn, x_rEq_ni, x_rEq_in, x_rNe_int, x_rNe_bl, x_rNe_str, x_rNe_tup, x_rNe_lst, x_rNe_nt, x_rNe_tn, x_rNe_nn, x_rNe_ni, x_rNe_in, x_is_non_n, x_isn_non_n, x_is_non_b, x_isn_non_b, x_is_bl_n, x_isn_bl_n, x_is_int_n, x_isn_int_n, x_is_int_b, x_isn_int_b, x_is_str_n, x_isn_str_n, x_is_str_b, x_isn_str_b, x_is_tup_n, x_isn_tup_n, x_is_tup_b, x_isn_tup_b, x_is_lst_n, x_isn_lst_n, x_is_lst_b, x_isn_lst_b, x_is_ref_n, x_isn_ref_n, x_is_ref_b, x_isn_ref_b, x_is_bb, x_isn_bb, oM_some, sM_some, x_ix_tup, x_ix_lst, x_ix_ref, x_tru_non, x_tru_bl, x_tru_int, x_tru_str, x_tru_tup, x_tru_lst, x_tru_ref, x_len_tup, x_tuple_tup, x_list_tup, x_listN_tup, x_len_lst, x_tuple_lst, x_list_lst, x_listN_lst, x_len_str, x_rLen_ref, x_rTuple_ref, x_rList_ref, x_rListN_ref, x_int_int, x_int_bl, x_abs, x_gcd, x_max2, x_min2, x_append, x_popAt, x_pop, x_putAt, x_putAtC, x_isL_ref, x_isL_lst, y_var0, y_varS, y_tB, y_test, y_wBl, y_nB, y_neg, y_isT, y_asgN, y_bK, y_asgT, y_bindN, y_bind0, y_seqI, y_iK_t, y_iK_l, y_iK_r, y_rg1, y_rg2, y_r1K, y_r2K, y_put, y_pK, y_comp, y_compN, y_cN, y_wipe0, y_wipe1,
  List.map_cons, List.map_nil, List.cons_append, List.nil_append, List.replicate, List.getElem?_cons_zero, List.getElem?_cons_succ, List.set_cons_zero, List.set_cons_succ, List.length_cons, List.length_nil, decide_eq_true_eq, Bool.not_true, Bool.not_false, if_true, if_false, Bool.false_eq_true, bq_tt, bq_tf, bq_ft, bq_ff, sizeLine_eq, Nat.reduceAdd, Nat.reduceLeDiff, Int.reduceMul, Int.reduceSub, Int.reduceAdd, Int.reduceNeg, Int.reducePow, Int.reduceToNat, Int.reduceLT, Int.reduceLE, Nat.reduceSub, Nat.reducePow, Nat.reduceLT, z_cast0, z_pos, Int.lt_irrefl, List.eraseIdx_cons_zero, List.eraseIdx_cons_succ, true_and, Bool.not_eq_true', decide_eq_false_iff_not, Bool.not_eq_eq_eq_not, and_true, decide_true, decide_false, not_true_eq_false, not_false_eq_true,
  isT_non_int, isT_non_bool, isT_non_str, isT_non_tuple, isT_non_list, isT_bl_int, isT_bl_bool, isT_bl_str, isT_bl_tuple, isT_bl_list, isT_int_int, isT_int_bool, isT_int_str, isT_int_tuple, isT_int_list, isT_str_int, isT_str_bool, isT_str_str, isT_str_tuple, isT_str_list, isT_tup_int, isT_tup_bool, isT_tup_str, isT_tup_tuple, isT_tup_list, isT_lst_int, isT_lst_bool, isT_lst_str, isT_lst_tuple, isT_lst_list])
abbrev EX (S : Store) (Q0 : D → Store → Prop) : EndsD := { nx := fun _ S1 => Exit S.length .non S1 Q0, rt := fun d S1 => Exit S.length d S1 Q0 }
theorem v_rest_of (ds : List D) (S : Store) (Q0 : D → Store → Prop) (hl : ds.length = 2) (hc : closedS S) (hd : closedL S.length ds) (h : c_rest_of ds S Q0) : w_rest_of (EX S Q0) (ds.map some ++ List.replicate 0 none) S := by
  obtain ⟨i, m, rfl, hm, q⟩ := h
  unfold w_rest_of
  walk_at "fl"
  unfold restOf at q
  split <;> rename_i hk
  · rw [if_pos hk] at q
    exact .all q
  · rw [if_neg hk] at q
    exact ⟨by omega, .all q⟩
theorem v_divides (ds : List D) (S : Store) (Q0 : D → Store → Prop) (hl : ds.length = 2) (hc : closedS S) (hd : closedL S.length ds) (h : c_divides ds S Q0) : w_divides (EX S Q0) (ds.map some ++ List.replicate 0 none) S := by
  obtain ⟨a, b, rfl, ha, q⟩ := h
  unfold w_divides
  walk_at "fl"
  unfold divs at q
  split <;> rename_i hk
  · rw [if_pos hk] at q
    exact .all q
  · rw [if_neg hk] at q
    exact ⟨by omega, .all q⟩
theorem v_mark_of (ds : List D) (S : Store) (Q0 : D → Store → Prop) (hl : ds.length = 2) (hc : closedS S) (hd : closedL S.length ds) (h : c_mark_of ds S Q0) : w_mark_of (EX S Q0) (ds.map some ++ List.replicate 0 none) S := by
  obtain ⟨n, k, i, rfl, hm, q⟩ := h
  unfold w_mark_of dial
  walk_at "fl"
  exact ⟨_, _, rfl, hm, .all q⟩
theorem v_turned_mark (ds : List D) (S : Store) (Q0 : D → Store → Prop) (hl : ds.length = 2) (hc : closedS S) (hd : closedL S.length ds) (h : c_turned_mark ds S Q0) : w_turned_mark (EX S Q0) (ds.map some ++ List.replicate 0 none) S := by
  obtain ⟨n, k, i, rfl, hm, q⟩ := h
  have h1 := hm.k0
  have h2 := hm.k1
  unfold w_turned_mark dial
  walk_at "fl"
  exact ⟨.l (by omega) (by omega), _, _, rfl, hm.n0, .all q⟩
theorem v_half_of (ds : List D) (S : Store) (Q0 : D → Store → Prop) (hl : ds.length = 1) (hc : closedS S) (hd : closedL S.length ds) (h : c_half_of ds S Q0) : w_half_of (EX S Q0) (ds.map some ++ List.replicate 2 none) S := by
  obtain ⟨n, k, rfl, hm, q⟩ := h
  unfold w_half_of dial
  walk_at "fl"
  have h0 := hm.n0
  have h1 := hm.n1
  unfold halfOf at q
  split <;> rename_i hk
  · rw [if_pos hk] at q
    split <;> rename_i hk2
    · rw [if_pos hk2] at q
      exact .all q
    · rw [if_neg hk2] at q
      exact .all q
  · rw [if_neg hk] at q
    have g0 : 0 < Nat.gcd n.natAbs (k - 1).natAbs := Nat.gcd_pos_of_pos_left _ (by omega)
    have g1 : Nat.gcd n.natAbs (k - 1).natAbs ≤ n.natAbs := Nat.gcd_le_left _ (by omega)
    exact ⟨.of (by omega) (by omega), by omega, .all q⟩
theorem v_is_turning (ds : List D) (S : Store) (Q0 : D → Store → Prop) (hl : ds.length = 1) (hc : closedS S) (hd : closedL S.length ds) (h : c_is_turning ds S Q0) : w_is_turning (EX S Q0) (ds.map some ++ List.replicate 0 none) S := by
  obtain ⟨n, k, rfl, hm, q⟩ := h
  unfold w_is_turning dial
  walk_at "fl"
  exact ⟨_, _, rfl, hm, .all q⟩
theorem v_is_loud (ds : List D) (S : Store) (Q0 : D → Store → Prop) (hl : ds.length = 1) (hc : closedS S) (hd : closedL S.length ds) (h : c_is_loud ds S Q0) : w_is_loud (EX S Q0) (ds.map some ++ List.replicate 0 none) S := by
  obtain ⟨n, k, rfl, hm, q⟩ := h
  unfold w_is_loud dial
  walk_at "fl"
  exact ⟨_, _, rfl, hm, .all q⟩
end K02

set_option maxHeartbeats 1000000
namespace K02
open PySem PySem.Spec PyProof.Rows L2 DL
local macro_rules | `(tactic| walk_at "dl") => `(tactic| simp only [y_w_seq, y_w_ret, y_w_retN, y_w_if, y_w_drop, y_w_next, y_w_c, y_w_op, y_w_and, y_w_or, y_w_not, y_w_tru, y_w_ifE, y_w_call, y_w_cons, y_w_nil, y_w_tup, y_w_lst, y_w_new, y_w_fn, y_w_meth, y_w_meth0, y_w_andV, y_w_orV, y_w_notV, y_w_yes, y_w_brk, y_w_ct, atD_of, atD_cast, atD_neg1,
  x_rAdd, x_rSub, x_rMul, x_rDiv, x_rMod, x_rPow, x_rLt, x_rLe, x_rGt, x_rGe, x_rAdd_s, x_rAdd_t, x_rEq_int, x_rEq_bl, x_rEq_str, x_rEq_tup, x_rEq_lst, x_rEq_nt, x_rEq_tn, x_rEq_nn, x_rEq_ni, x_rEq_in, x_rNe_int, x_rNe_bl, x_rNe_str, x_rNe_tup, x_rNe_lst, x_rNe_nt, x_rNe_tn, x_rNe_nn, x_rNe_ni, x_rNe_in, x_is_non_n, x_isn_non_n, x_is_non_b, x_isn_non_b, x_is_bl_n, x_isn_bl_n, x_is_int_n, x_isn_int_n, x_is_int_b, x_isn_int_b, x_is_str_n, x_isn_str_n, x_is_str_b, x_isn_str_b, x_is_tup_n, x_isn_tup_n, x_is_tup_b, x_isn_tup_b, x_is_lst_n, x_isn_lst_n, x_is_lst_b, x_isn_lst_b, x_is_ref_n, x_isn_ref_n, x_is_ref_b, x_isn_ref_b, x_is_bb, x_isn_bb, oM_some, sM_some, x_ix_tup, x_ix_lst, x_ix_ref, x_tru_non, x_tru_bl, x_tru_int, x_tru_str, x_tru_tup, x_tru_lst, x_tru_ref, x_len_tup, x_tuple_tup, x_list_tup, x_listN_tup, x_len_lst, x_tuple_lst, x_list_lst, x_listN_lst, x_len_str, x_rLen_ref, x_rTuple_ref, x_rList_ref, x_rListN_ref, x_int_int, x_int_bl, x_abs, x_gcd, x_max2, x_min2, x_append, x_popAt, x_pop, x_putAt, x_putAtC, x_isL_ref, x_isL_lst, y_var0, y_varS, y_tB, y_test, y_wBl, y_nB, y_neg, y_isT, y_asgN, y_bK, y_asgT, y_bindN, y_bind0, y_seqI, y_iK_t, y_iK_l, y_iK_r, y_rg1, y_rg2, y_r1K, y_r2K, y_put, y_pK, y_comp, y_compN, y_cN, y_wipe0, y_wipe1,
  List.map_cons, List.map_nil, List.cons_append, List.nil_append, List.replicate, List.getElem?_cons_zero, List.getElem?_cons_succ, List.set_cons_zero, List.set_cons_succ, List.length_cons, List.length_nil, decide_eq_true_eq, Bool.not_true, Bool.not_false, if_true, if_false, Bool.false_eq_true, bq_tt, bq_tf, bq_ft, bq_ff, sizeLine_eq, Nat.reduceAdd, Nat.reduceLeDiff, Int.reduceMul, Int.reduceSub, Int.reduceAdd, Int.reduceNeg, Int.reducePow, Int.reduceToNat, Int.reduceLT, Int.reduceLE, Nat.reduceSub, Nat.reducePow, Nat.reduceLT, z_cast0, z_pos, Int.lt_irrefl, List.eraseIdx_cons_zero, List.eraseIdx_cons_succ, true_and, Bool.not_eq_true', decide_eq_false_iff_not, Bool.not_eq_eq_eq_not, and_true, decide_true, decide_false, not_true_eq_false, not_false_eq_true,
  isT_non_int, isT_non_bool, isT_non_str, isT_non_tuple, isT_non_list, isT_bl_int, isT_bl_bool, isT_bl_str, isT_bl_tuple, isT_bl_list, isT_int_int, isT_int_bool, isT_int_str, isT_int_tuple, isT_int_list, isT_str_int, isT_str_bool, isT_str_str, isT_str_tuple, isT_str_list, isT_tup_int, isT_tup_bool, isT_tup_str, isT_tup_tuple, isT_tup_list, isT_lst_int, isT_lst_bool, isT_lst_str, isT_lst_tuple, isT_lst_list])
local macro_rules | `(tactic| walk_at "fl") => `(tactic| simp only [y_w_for, y_for0, y_forN, y_forT, y_w_seq, y_w_ret, y_w_retN, y_w_if, y_w_drop, y_w_next, y_w_c, y_w_op, y_w_and, y_w_or, y_w_not, y_w_tru, y_w_ifE, y_w_call, y_w_cons, y_w_nil, y_w_tup, y_w_lst, y_w_new, y_w_fn, y_w_meth, y_w_meth0, y_w_andV, y_w_orV, y_w_notV, y_w_yes, y_w_brk, y_w_ct, atD_of, atD_cast, atD_neg1,
  x_rAdd, x_rSub, x_rMul, x_rDiv, x_rMod, x_rPow, x_rLt, x_rLe, x_rGt, x_rGe, x_rAdd_s, x_rAdd_t, x_rEq_int, x_rEq_bl, x_rEq_str, x_rEq_tup, x_rEq_lst, x_rEq_nt, x_rEq_tn, x_rEq_nn, x_rEq_ni, x_rEq_in, x_rNe_int, x_rNe_bl, x_rNe_str, x_rNe_tup, x_rNe_lst, x_rNe_nt, x_rNe_tn, x_rNe_nn, x_rNe_ni, x_rNe_in, x_is_non_n, x_isn_non_n, x_is_non_b, x_isn_non_b, x_is_bl_n, x_isn_bl_n, x_is_int_n, x_isn_int_n, x_is_int_b, x_isn_int_b, x_is_str_n, x_isn_str_n, x_is_str_b, x_isn_str_b, x_is_tup_n, x_isn_tup_n, x_is_tup_b, x_isn_tup_b, x_is_lst_n, x_isn_lst_n, x_is_lst_b, x_isn_lst_b, x_is_ref_n, x_isn_ref_n, x_is_ref_b, x_isn_ref_b, x_is_bb, x_isn_bb, oM_some, sM_some, x_ix_tup, x_ix_lst, x_ix_ref, x_tru_non, x_tru_bl, x_tru_int, x_tru_str, x_tru_tup, x_tru_lst, x_tru_ref, x_len_tup, x_tuple_tup, x_list_tup, x_listN_tup, x_len_lst, x_tuple_lst, x_list_lst, x_listN_lst, x_len_str, x_rLen_ref, x_rTuple_ref, x_rList_ref, x_rListN_ref, x_int_int, x_int_bl, x_abs, x_gcd, x_max2, x_min2, x_append, x_popAt, x_pop, x_putAt, x_putAtC, x_isL_ref, x_isL_lst, y_var0, y_varS, y_tB, y_test, y_wBl, y_nB, y_neg, y_isT, y_asgN, y_bK, y_asgT, y_bindN, y_bind0, y_seqI, y_iK_t, y_iK_l, y_iK_r, y_rg1, y_rg2, y_r1K, y_r2K, y_put, y_pK, y_comp, y_compN, y_cN, y_wipe0, y_wipe1,
  List.map_cons, List.map_nil, List.cons_append, List.nil_append, List.replicate, List.getElem?_cons_zero, List.getElem?_cons_succ, List.set_cons_zero, List.set_cons_succ, List.length_cons, List.length_nil, decide_eq_true_eq, Bool.not_true, Bool.not_false, if_true, if_false, Bool.false_eq_true, bq_tt, bq_tf, bq_ft, bq_ff, sizeLine_eq, Nat.reduceAdd, Nat.reduceLeDiff, Int.reduceMul, Int.reduceSub, Int.reduceAdd, Int.reduceNeg, Int.reducePow, Int.reduceToNat, Int.reduceLT, Int.reduceLE, Nat.reduceSub, Nat.reducePow, Nat.reduceLT, z_cast0, z_pos, Int.lt_irrefl, List.eraseIdx_cons_zero, List.eraseIdx_cons_succ, true_and, Bool.not_eq_true', decide_eq_false_iff_not, Bool.not_eq_eq_eq_not, and_true, decide_true, decide_false, not_true_eq_false, not_false_eq_true,
  isT_non_int, isT_non_bool, isT_non_str, isT_non_tuple, isT_non_list, isT_bl_int, isT_bl_bool, isT_bl_str, isT_bl_tuple, isT_bl_list, isT_int_int, isT_int_bool, isT_int_str, isT_int_tuple, isT_int_list, isT_str_int, isT_str_bool, isT_str_str, isT_str_tuple, isT_str_list, isT_tup_int, isT_tup_bool, isT_tup_str, isT_tup_tuple, isT_tup_list, isT_lst_int, isT_lst_bool, isT_lst_str, isT_lst_tuple, isT_lst_list])
theorem v_field_prime (ds : List D) (S : Store) (Q0 : D → Store → Prop) (hl : ds.length = 1) (hc : closedS S) (hd : closedL S.length ds) (h : c_field_prime ds S Q0) : w_field_prime (EX S Q0) (ds.map some ++ List.replicate 1 none) S := by
  obtain ⟨n, k, rfl, q⟩ := h
  unfold w_field_prime dial k_PRIMES
  walk_at "fl"
  unfold w_field_prime_for0
  walk_at "fl"
  simp only [eqv2, okD2, true_and, Bool.and_eq_true, decide_eq_true_eq]
  unfold fieldPrime at q
  refine ⟨.l (by decide) (by decide), ?_⟩
  split <;> rename_i h3
  · rw [if_pos h3] at q; exact .all q
  rw [if_neg h3] at q
  refine ⟨.l (by decide) (by decide), ?_⟩
  split <;> rename_i h3
  · rw [if_pos h3] at q; exact .all q
  rw [if_neg h3] at q
  refine ⟨.l (by decide) (by decide), ?_⟩
  split <;> rename_i h3
  · rw [if_pos h3] at q; exact .all q
  rw [if_neg h3] at q
  refine ⟨.l (by decide) (by decide), ?_⟩
  split <;> rename_i h3
  · rw [if_pos h3] at q; exact .all q
  rw [if_neg h3] at q
  refine ⟨.l (by decide) (by decide), ?_⟩
  split <;> rename_i h3
  · rw [if_pos h3] at q; exact .all q
  rw [if_neg h3] at q
  exact .all q
theorem v__law_field (ds : List D) (S : Store) (Q0 : D → Store → Prop) (hl : ds.length = 1) (hc : closedS S) (hd : closedL S.length ds) (h : c__law_field ds S Q0) : w__law_field (EX S Q0) (ds.map some ++ List.replicate 1 none) S := by
  obtain ⟨n, k, rfl, q⟩ := h
  unfold w__law_field dial
  walk_at "fl"
  unfold w__law_field_for0
  walk_at "fl"
  have m3 : DL.MulOk 3 3 := .l (by decide) (by decide)
  have m5 : DL.MulOk 5 5 := .l (by decide) (by decide)
  have m7 : DL.MulOk 7 7 := .l (by decide) (by decide)
  have m11 : DL.MulOk 11 11 := .l (by decide) (by decide)
  have m13 : DL.MulOk 13 13 := .l (by decide) (by decide)
  simp only [m3, m5, m7, m11, m13, true_and]
  unfold fieldPrime at q
  by_cases h3 : n = 8 ∧ k = 3
  · obtain ⟨rfl, rfl⟩ := h3; simp at q ⊢; exact .all q
  by_cases h5 : n = 24 ∧ k = 5
  · obtain ⟨rfl, rfl⟩ := h5; simp at q ⊢; exact .all q
  by_cases h7 : n = 48 ∧ k = 7
  · obtain ⟨rfl, rfl⟩ := h7; simp at q ⊢; exact .all q
  by_cases h11 : n = 120 ∧ k = 11
  · obtain ⟨rfl, rfl⟩ := h11; simp at q ⊢; exact .all q
  by_cases h13 : n = 168 ∧ k = 13
  · obtain ⟨rfl, rfl⟩ := h13; simp at q ⊢; exact .all q
  rw [if_neg h3, if_neg h5, if_neg h7, if_neg h11, if_neg h13] at q
  repeat' split
  all_goals first | exact .all q | (exfalso; omega)
theorem v__law_is (ds : List D) (S : Store) (Q0 : D → Store → Prop) (hl : ds.length = 2) (hc : closedS S) (hd : closedL S.length ds) (h : c__law_is ds S Q0) : w__law_is (EX S Q0) (ds.map some ++ List.replicate 0 none) S := by
  obtain ⟨x, rfl, hx, q⟩ := h
  unfold w__law_is
  rcases hx with rfl | ⟨b, rfl⟩ | ⟨i, rfl⟩
  · walk_at "fl"
    exact .all q
  · walk_at "fl"
    cases b
    · exact .all q
    · exact .all q
  · walk_at "fl"
    exact .all q
theorem v__law_rest (ds : List D) (S : Store) (Q0 : D → Store → Prop) (hl : ds.length = 2) (hc : closedS S) (hd : closedL S.length ds) (h : c__law_rest ds S Q0) : w__law_rest (EX S Q0) (ds.map some ++ List.replicate 0 none) S := by
  obtain ⟨m, i, rfl, hm, q⟩ := h
  unfold w__law_rest
  walk_at "fl"
  unfold restOf at q
  split <;> rename_i hk
  · rw [if_pos hk] at q
    exact .all q
  · rw [if_neg hk] at q
    exact ⟨by omega, .all q⟩
theorem v__law_divides (ds : List D) (S : Store) (Q0 : D → Store → Prop) (hl : ds.length = 2) (hc : closedS S) (hd : closedL S.length ds) (h : c__law_divides ds S Q0) : w__law_divides (EX S Q0) (ds.map some ++ List.replicate 0 none) S := by
  obtain ⟨a, b, rfl, ha, q⟩ := h
  unfold w__law_divides
  walk_at "fl"
  unfold divs at q
  split <;> rename_i hk
  · rw [if_pos hk] at q
    exact .all q
  · rw [if_neg hk] at q
    exact ⟨by omega, .all q⟩
end K02

set_option maxHeartbeats 1000000
namespace K02
open PySem PySem.Spec PyProof.Rows L2 DL
local macro_rules | `(tactic| walk_at "dl") => `(tactic| simp only [y_w_seq, y_w_ret, y_w_retN, y_w_if, y_w_drop, y_w_next, y_w_c, y_w_op, y_w_and, y_w_or, y_w_not, y_w_tru, y_w_ifE, y_w_call, y_w_cons, y_w_nil, y_w_tup, y_w_lst, y_w_new, y_w_fn, y_w_meth, y_w_meth0, y_w_andV, y_w_orV, y_w_notV, y_w_yes, y_w_brk, y_w_ct, atD_of, atD_cast, atD_neg1,
  x_rAdd, x_rSub, x_rMul, x_rDiv, x_rMod, x_rPow, x_rLt, x_rLe, x_rGt, x_rGe, x_rAdd_s, x_rAdd_t, x_rEq_int, x_rEq_bl, x_rEq_str, x_rEq_tup, x_rEq_lst, x_rEq_nt, x_rEq_tn, x_rEq_nn, x_rEq_ni, x_rEq_in, x_rNe_int, x_rNe_bl, x_rNe_str, x_rNe_tup, x_rNe_lst, x_rNe_nt, x_rNe_tn, x_rNe_nn, x_rNe_ni, x_rNe_in, x_is_non_n, x_isn_non_n, x_is_non_b, x_isn_non_b, x_is_bl_n, x_isn_bl_n, x_is_int_n, x_isn_int_n, x_is_int_b, x_isn_int_b, x_is_str_n, x_isn_str_n, x_is_str_b, x_isn_str_b, x_is_tup_n, x_isn_tup_n, x_is_tup_b, x_isn_tup_b, x_is_lst_n, x_isn_lst_n, x_is_lst_b, x_isn_lst_b, x_is_ref_n, x_isn_ref_n, x_is_ref_b, x_isn_ref_b, x_is_bb, x_isn_bb, oM_some, sM_some, x_ix_tup, x_ix_lst, x_ix_ref, x_tru_non, x_tru_bl, x_tru_int, x_tru_str, x_tru_tup, x_tru_lst, x_tru_ref, x_len_tup, x_tuple_tup, x_list_tup, x_listN_tup, x_len_lst, x_tuple_lst, x_list_lst, x_listN_lst, x_len_str, x_rLen_ref, x_rTuple_ref, x_rList_ref, x_rListN_ref, x_int_int, x_int_bl, x_abs, x_gcd, x_max2, x_min2, x_append, x_popAt, x_pop, x_putAt, x_putAtC, x_isL_ref, x_isL_lst, y_var0, y_varS, y_tB, y_test, y_wBl, y_nB, y_neg, y_isT, y_asgN, y_bK, y_asgT, y_bindN, y_bind0, y_seqI, y_iK_t, y_iK_l, y_iK_r, y_rg1, y_rg2, y_r1K, y_r2K, y_put, y_pK, y_comp, y_compN, y_cN, y_wipe0, y_wipe1,
  List.map_cons, List.map_nil, List.cons_append, List.nil_append, List.replicate, List.getElem?_cons_zero, List.getElem?_cons_succ, List.set_cons_zero, List.set_cons_succ, List.length_cons, List.length_nil, decide_eq_true_eq, Bool.not_true, Bool.not_false, if_true, if_false, Bool.false_eq_true, bq_tt, bq_tf, bq_ft, bq_ff, sizeLine_eq, Nat.reduceAdd, Nat.reduceLeDiff, Int.reduceMul, Int.reduceSub, Int.reduceAdd, Int.reduceNeg, Int.reducePow, Int.reduceToNat, Int.reduceLT, Int.reduceLE, Nat.reduceSub, Nat.reducePow, Nat.reduceLT, z_cast0, z_pos, Int.lt_irrefl, List.eraseIdx_cons_zero, List.eraseIdx_cons_succ, true_and, Bool.not_eq_true', decide_eq_false_iff_not, Bool.not_eq_eq_eq_not, and_true, decide_true, decide_false, not_true_eq_false, not_false_eq_true,
  isT_non_int, isT_non_bool, isT_non_str, isT_non_tuple, isT_non_list, isT_bl_int, isT_bl_bool, isT_bl_str, isT_bl_tuple, isT_bl_list, isT_int_int, isT_int_bool, isT_int_str, isT_int_tuple, isT_int_list, isT_str_int, isT_str_bool, isT_str_str, isT_str_tuple, isT_str_list, isT_tup_int, isT_tup_bool, isT_tup_str, isT_tup_tuple, isT_tup_list, isT_lst_int, isT_lst_bool, isT_lst_str, isT_lst_tuple, isT_lst_list])
local macro_rules | `(tactic| walk_at "fl") => `(tactic| simp only [y_w_for, y_for0, y_forN, y_forT, y_w_seq, y_w_ret, y_w_retN, y_w_if, y_w_drop, y_w_next, y_w_c, y_w_op, y_w_and, y_w_or, y_w_not, y_w_tru, y_w_ifE, y_w_call, y_w_cons, y_w_nil, y_w_tup, y_w_lst, y_w_new, y_w_fn, y_w_meth, y_w_meth0, y_w_andV, y_w_orV, y_w_notV, y_w_yes, y_w_brk, y_w_ct, atD_of, atD_cast, atD_neg1,
  x_rAdd, x_rSub, x_rMul, x_rDiv, x_rMod, x_rPow, x_rLt, x_rLe, x_rGt, x_rGe, x_rAdd_s, x_rAdd_t, x_rEq_int, x_rEq_bl, x_rEq_str, x_rEq_tup, x_rEq_lst, x_rEq_nt, x_rEq_tn, x_rEq_nn, x_rEq_ni, x_rEq_in, x_rNe_int, x_rNe_bl, x_rNe_str, x_rNe_tup, x_rNe_lst, x_rNe_nt, x_rNe_tn, x_rNe_nn, x_rNe_ni, x_rNe_in, x_is_non_n, x_isn_non_n, x_is_non_b, x_isn_non_b, x_is_bl_n, x_isn_bl_n, x_is_int_n, x_isn_int_n, x_is_int_b, x_isn_int_b, x_is_str_n, x_isn_str_n, x_is_str_b, x_isn_str_b, x_is_tup_n, x_isn_tup_n, x_is_tup_b, x_isn_tup_b, x_is_lst_n, x_isn_lst_n, x_is_lst_b, x_isn_lst_b, x_is_ref_n, x_isn_ref_n, x_is_ref_b, x_isn_ref_b, x_is_bb, x_isn_bb, oM_some, sM_some, x_ix_tup, x_ix_lst, x_ix_ref, x_tru_non, x_tru_bl, x_tru_int, x_tru_str, x_tru_tup, x_tru_lst, x_tru_ref, x_len_tup, x_tuple_tup, x_list_tup, x_listN_tup, x_len_lst, x_tuple_lst, x_list_lst, x_listN_lst, x_len_str, x_rLen_ref, x_rTuple_ref, x_rList_ref, x_rListN_ref, x_int_int, x_int_bl, x_abs, x_gcd, x_max2, x_min2, x_append, x_popAt, x_pop, x_putAt, x_putAtC, x_isL_ref, x_isL_lst, y_var0, y_varS, y_tB, y_test, y_wBl, y_nB, y_neg, y_isT, y_asgN, y_bK, y_asgT, y_bindN, y_bind0, y_seqI, y_iK_t, y_iK_l, y_iK_r, y_rg1, y_rg2, y_r1K, y_r2K, y_put, y_pK, y_comp, y_compN, y_cN, y_wipe0, y_wipe1,
  List.map_cons, List.map_nil, List.cons_append, List.nil_append, List.replicate, List.getElem?_cons_zero, List.getElem?_cons_succ, List.set_cons_zero, List.set_cons_succ, List.length_cons, List.length_nil, decide_eq_true_eq, Bool.not_true, Bool.not_false, if_true, if_false, Bool.false_eq_true, bq_tt, bq_tf, bq_ft, bq_ff, sizeLine_eq, Nat.reduceAdd, Nat.reduceLeDiff, Int.reduceMul, Int.reduceSub, Int.reduceAdd, Int.reduceNeg, Int.reducePow, Int.reduceToNat, Int.reduceLT, Int.reduceLE, Nat.reduceSub, Nat.reducePow, Nat.reduceLT, z_cast0, z_pos, Int.lt_irrefl, List.eraseIdx_cons_zero, List.eraseIdx_cons_succ, true_and, Bool.not_eq_true', decide_eq_false_iff_not, Bool.not_eq_eq_eq_not, and_true, decide_true, decide_false, not_true_eq_false, not_false_eq_true,
  isT_non_int, isT_non_bool, isT_non_str, isT_non_tuple, isT_non_list, isT_bl_int, isT_bl_bool, isT_bl_str, isT_bl_tuple, isT_bl_list, isT_int_int, isT_int_bool, isT_int_str, isT_int_tuple, isT_int_list, isT_str_int, isT_str_bool, isT_str_str, isT_str_tuple, isT_str_list, isT_tup_int, isT_tup_bool, isT_tup_str, isT_tup_tuple, isT_tup_list, isT_lst_int, isT_lst_bool, isT_lst_str, isT_lst_tuple, isT_lst_list])
/-! the least mark that stays -/
theorem half_iff {n k m : Int} (hn : 0 < n) : (m * k - m) % n = 0 ↔ n / ((Nat.gcd n.natAbs (k - 1).natAbs : Nat) : Int) ∣ m := by
  have e : m * k - m = (k - 1) * m := by rw [Int.sub_mul, Int.one_mul, Int.mul_comm]
  have eg : ((Nat.gcd n.natAbs (k - 1).natAbs : Nat) : Int) = (Int.gcd n (k - 1) : Int) := rfl
  rw [eg]
  have g0 : (0 : Int) < (Int.gcd n (k - 1) : Int) := by
    have := Int.gcd_pos_of_ne_zero_left (k - 1) (show n ≠ 0 by omega)
    omega
  obtain ⟨a, ha⟩ := Int.gcd_dvd_left (a := n) (b := k - 1)
  obtain ⟨b, hb⟩ := Int.gcd_dvd_right (a := n) (b := k - 1)
  have en : n / (Int.gcd n (k - 1) : Int) = a := by
    conv => lhs; lhs; rw [ha]
    exact Int.mul_ediv_cancel_left a (by omega)
  rw [en, e]
  have cop : Int.gcd a b = 1 := by
    have h := Int.gcd_mul_left (Int.gcd n (k - 1) : Int) a b
    rw [← ha, ← hb] at h
    have h2 : (Int.gcd n (k - 1) : Int).natAbs = Int.gcd n (k - 1) := by simp
    rw [h2] at h
    have h3 : Int.gcd n (k - 1) * 1 = Int.gcd n (k - 1) * Int.gcd a b := by omega
    exact (Nat.eq_of_mul_eq_mul_left (by omega) h3).symm
  constructor
  · intro h
    have hd : n ∣ (k - 1) * m := Int.dvd_of_emod_eq_zero h
    rw [hb, Int.mul_assoc] at hd
    conv at hd => lhs; rw [ha]
    have hd2 : a ∣ b * m := Int.dvd_of_mul_dvd_mul_left (by omega) hd
    have h4 := Int.natAbs_dvd_natAbs.mpr hd2
    rw [Int.natAbs_mul] at h4
    exact Int.natAbs_dvd_natAbs.mp (Nat.Coprime.dvd_of_dvd_mul_left (show Nat.Coprime a.natAbs b.natAbs from cop) h4)
  · intro h
    obtain ⟨c, rfl⟩ := h
    apply Int.emod_eq_zero_of_dvd
    rw [hb]
    refine ⟨b * c, ?_⟩
    conv => rhs; rw [ha]
    simp only [Int.mul_assoc, Int.mul_left_comm]
theorem v__law_half (ds : List D) (S : Store) (Q0 : D → Store → Prop) (hl : ds.length = 1) (hc : closedS S) (hd : closedL S.length ds) (h : c__law_half ds S Q0) : w__law_half (EX S Q0) (ds.map some ++ List.replicate 2 none) S := by
  obtain ⟨n, k, rfl, hm, q⟩ := h
  have h0 := hm.n0
  have h1 := hm.n1
  have h2 := hm.k0
  have h3 := hm.k1
  unfold w__law_half dial
  walk_at "fl"
  split <;> rename_i hk
  · subst hk
    refine ⟨.of (by decide) (by decide), .all ?_⟩
    rcases hm.e rfl with rfl | rfl
    · exact q
    · exact q
  · refine ⟨by omega, ?_⟩
    -- from lo on nothing has been found below the half
    have key : ∀ (cnt : Nat) (lo : Int) (v : Option D), 1 ≤ lo → lo + cnt = n + 1 → lo ≤ n / ((Nat.gcd n.natAbs (k - 1).natAbs : Nat) : Int) → forR (Tg.name 2) w__law_half_for0 (fun _ => True) { nx := fun ρ S1 => Exit S.length (.int 0) S1 Q0, rt := fun d S1 => Exit S.length d S1 Q0 } (intsD lo cnt) [some (.tup [.int n, .int k]), some (.int n), v] S := by
      intro cnt
      have hb0 : 0 < n / ((Nat.gcd n.natAbs (k - 1).natAbs : Nat) : Int) ∧ n / ((Nat.gcd n.natAbs (k - 1).natAbs : Nat) : Int) ≤ n := by
        have g0 : 0 < Nat.gcd n.natAbs (k - 1).natAbs := Nat.gcd_pos_of_pos_left _ (by omega)
        have g1 : Nat.gcd n.natAbs (k - 1).natAbs ≤ n.natAbs := Nat.gcd_le_left _ (by omega)
        refine ⟨Int.ediv_pos_of_pos_of_dvd (by omega) (by omega) ?_, Int.ediv_le_self _ (by omega)⟩
        exact Int.gcd_dvd_left (a := n) (b := k - 1)
      induction cnt with
      | zero => intro lo v h4 h5 h6; omega
      | succ cnt ih =>
        intro lo v h4 h5 h6
        rw [intsD_succ]
        unfold w__law_half_for0 at ih ⊢
        walk_at "fl"
        refine ⟨.l (by omega) (by omega), by omega, ?_⟩
        split <;> rename_i hz
        · refine ⟨by omega, .all ?_⟩
          have hdv := (half_iff (n := n) (k := k) (m := lo) (by omega)).mp hz
          have hle := Int.le_of_dvd (by omega) hdv
          have e : lo = n / ((Nat.gcd n.natAbs (k - 1).natAbs : Nat) : Int) := by omega
          unfold halfOf at q
          rw [if_neg hk] at q
          rw [e]
          exact q
        · refine ih (lo + 1) _ (by omega) (by omega) ?_
          by_cases e : lo = n / ((Nat.gcd n.natAbs (k - 1).natAbs : Nat) : Int)
          · exact absurd ((half_iff (n := n) (k := k) (m := lo) (by omega)).mpr ⟨1, by omega⟩) hz
          · omega
    have hb1 : 1 ≤ n / ((Nat.gcd n.natAbs (k - 1).natAbs : Nat) : Int) := by
      have g0 : 0 < Nat.gcd n.natAbs (k - 1).natAbs := Nat.gcd_pos_of_pos_left _ (by omega)
      exact Int.ediv_pos_of_pos_of_dvd (by omega) (by omega) (Int.gcd_dvd_left (a := n) (b := k - 1))
    exact key _ 1 none (by omega) (by omega) hb1
theorem v__law_turns (ds : List D) (S : Store) (Q0 : D → Store → Prop) (hl : ds.length = 1) (hc : closedS S) (hd : closedL S.length ds) (h : c__law_turns ds S Q0) : w__law_turns (EX S Q0) (ds.map some ++ List.replicate 1 none) S := by
  obtain ⟨m, rfl, h2, h3, q⟩ := h
  unfold w__law_turns
  walk_at "fl"
  refine ⟨by omega, ?_⟩
  refine compR_filter (t := fun x => match x with | .int i => decide (i * i % m = 1) | _ => false) (f := id) trivial _ [] (by simp [intsD_length, sizeLine_eq]; omega) (fun x hx => ?_) ?_
  · rw [intsD_eq] at hx
    obtain ⟨i, hi, rfl⟩ := List.mem_map.mp hx
    obtain ⟨j, hj, rfl⟩ := List.mem_map.mp hi
    have hj' := List.mem_range.mp hj
    refine ⟨_, rfl, fun Q q => ?_, fun _ Q q => ?_⟩
    · walk_at "fl"
      exact ⟨.l (by omega) (by omega), by omega, q⟩
    · walk_at "fl"
      exact q
  · rw [List.nil_append, List.map_id, intsD_eq]
    have e : ((((List.range (m - 1).toNat).map fun i => (1 : Int) + (i : Nat)).map D.int).filter fun x => match x with | .int i => decide (i * i % m = 1) | _ => false) = (((List.range (m - 1).toNat).map fun i => (1 : Int) + (i : Nat)).filter fun i => decide (i * i % m = 1)).map D.int := by
      rw [List.filter_map]
      rfl
    rw [e]
    refine .all (q _ ?_ ?_ ?_)
    · intro e
      have hm : (1 : Int) ∈ ((List.range (m - 1).toNat).map fun i => (1 : Int) + (i : Nat)).filter fun i => decide (i * i % m = 1) := by
        refine List.mem_filter.mpr ⟨List.mem_map.mpr ⟨0, List.mem_range.mpr (by omega), rfl⟩, ?_⟩
        have : (1 : Int) * 1 % m = 1 := by
          rw [Int.one_mul]
          exact Int.emod_eq_of_lt (by omega) (by omega)
        simpa using this
      rw [e] at hm
      cases hm
    · refine Nat.le_trans (List.length_filter_le _ _) ?_
      simp
      omega
    · intro t ht
      obtain ⟨j, hj, rfl⟩ := List.mem_map.mp (List.mem_filter.mp ht).1
      have hj' := List.mem_range.mp hj
      omega
end K02

set_option maxHeartbeats 2000000
namespace K02
open PySem PySem.Spec PyProof.Rows L2 DL
local macro_rules | `(tactic| walk_at "dl") => `(tactic| simp only [y_w_seq, y_w_ret, y_w_retN, y_w_if, y_w_drop, y_w_next, y_w_c, y_w_op, y_w_and, y_w_or, y_w_not, y_w_tru, y_w_ifE, y_w_call, y_w_cons, y_w_nil, y_w_tup, y_w_lst, y_w_new, y_w_fn, y_w_meth, y_w_meth0, y_w_andV, y_w_orV, y_w_notV, y_w_yes, y_w_brk, y_w_ct, atD_of, atD_cast, atD_neg1,
  x_rAdd, x_rSub, x_rMul, x_rDiv, x_rMod, x_rPow, x_rLt, x_rLe, x_rGt, x_rGe, x_rAdd_s, x_rAdd_t, x_rEq_int, x_rEq_bl, x_rEq_str, x_rEq_tup, x_rEq_lst, x_rEq_nt, x_rEq_tn, x_rEq_nn, x_rEq_ni, x_rEq_in, x_rNe_int, x_rNe_bl, x_rNe_str, x_rNe_tup, x_rNe_lst, x_rNe_nt, x_rNe_tn, x_rNe_nn, x_rNe_ni, x_rNe_in, x_is_non_n, x_isn_non_n, x_is_non_b, x_isn_non_b, x_is_bl_n, x_isn_bl_n, x_is_int_n, x_isn_int_n, x_is_int_b, x_isn_int_b, x_is_str_n, x_isn_str_n, x_is_str_b, x_isn_str_b, x_is_tup_n, x_isn_tup_n, x_is_tup_b, x_isn_tup_b, x_is_lst_n, x_isn_lst_n, x_is_lst_b, x_isn_lst_b, x_is_ref_n, x_isn_ref_n, x_is_ref_b, x_isn_ref_b, x_is_bb, x_isn_bb, oM_some, sM_some, x_ix_tup, x_ix_lst, x_ix_ref, x_tru_non, x_tru_bl, x_tru_int, x_tru_str, x_tru_tup, x_tru_lst, x_tru_ref, x_len_tup, x_tuple_tup, x_list_tup, x_listN_tup, x_len_lst, x_tuple_lst, x_list_lst, x_listN_lst, x_len_str, x_rLen_ref, x_rTuple_ref, x_rList_ref, x_rListN_ref, x_int_int, x_int_bl, x_abs, x_gcd, x_max2, x_min2, x_append, x_popAt, x_pop, x_putAt, x_putAtC, x_isL_ref, x_isL_lst, y_var0, y_varS, y_tB, y_test, y_wBl, y_nB, y_neg, y_isT, y_asgN, y_bK, y_asgT, y_bindN, y_bind0, y_seqI, y_iK_t, y_iK_l, y_iK_r, y_rg1, y_rg2, y_r1K, y_r2K, y_put, y_pK, y_comp, y_compN, y_cN, y_wipe0, y_wipe1,
  List.map_cons, List.map_nil, List.cons_append, List.nil_append, List.replicate, List.getElem?_cons_zero, List.getElem?_cons_succ, List.set_cons_zero, List.set_cons_succ, List.length_cons, List.length_nil, decide_eq_true_eq, Bool.not_true, Bool.not_false, if_true, if_false, Bool.false_eq_true, bq_tt, bq_tf, bq_ft, bq_ff, sizeLine_eq, Nat.reduceAdd, Nat.reduceLeDiff, Int.reduceMul, Int.reduceSub, Int.reduceAdd, Int.reduceNeg, Int.reducePow, Int.reduceToNat, Int.reduceLT, Int.reduceLE, Nat.reduceSub, Nat.reducePow, Nat.reduceLT, z_cast0, z_pos, Int.lt_irrefl, List.eraseIdx_cons_zero, List.eraseIdx_cons_succ, true_and, Bool.not_eq_true', decide_eq_false_iff_not, Bool.not_eq_eq_eq_not, and_true, decide_true, decide_false, not_true_eq_false, not_false_eq_true,
  isT_non_int, isT_non_bool, isT_non_str, isT_non_tuple, isT_non_list, isT_bl_int, isT_bl_bool, isT_bl_str, isT_bl_tuple, isT_bl_list, isT_int_int, isT_int_bool, isT_int_str, isT_int_tuple, isT_int_list, isT_str_int, isT_str_bool, isT_str_str, isT_str_tuple, isT_str_list, isT_tup_int, isT_tup_bool, isT_tup_str, isT_tup_tuple, isT_tup_list, isT_lst_int, isT_lst_bool, isT_lst_str, isT_lst_tuple, isT_lst_list])
local macro_rules | `(tactic| walk_at "fl") => `(tactic| simp only [y_w_for, y_for0, y_forN, y_forT, y_w_seq, y_w_ret, y_w_retN, y_w_if, y_w_drop, y_w_next, y_w_c, y_w_op, y_w_and, y_w_or, y_w_not, y_w_tru, y_w_ifE, y_w_call, y_w_cons, y_w_nil, y_w_tup, y_w_lst, y_w_new, y_w_fn, y_w_meth, y_w_meth0, y_w_andV, y_w_orV, y_w_notV, y_w_yes, y_w_brk, y_w_ct, atD_of, atD_cast, atD_neg1,
  x_rAdd, x_rSub, x_rMul, x_rDiv, x_rMod, x_rPow, x_rLt, x_rLe, x_rGt, x_rGe, x_rAdd_s, x_rAdd_t, x_rEq_int, x_rEq_bl, x_rEq_str, x_rEq_tup, x_rEq_lst, x_rEq_nt, x_rEq_tn, x_rEq_nn, x_rEq_ni, x_rEq_in, x_rNe_int, x_rNe_bl, x_rNe_str, x_rNe_tup, x_rNe_lst, x_rNe_nt, x_rNe_tn, x_rNe_nn, x_rNe_ni, x_rNe_in, x_is_non_n, x_isn_non_n, x_is_non_b, x_isn_non_b, x_is_bl_n, x_isn_bl_n, x_is_int_n, x_isn_int_n, x_is_int_b, x_isn_int_b, x_is_str_n, x_isn_str_n, x_is_str_b, x_isn_str_b, x_is_tup_n, x_isn_tup_n, x_is_tup_b, x_isn_tup_b, x_is_lst_n, x_isn_lst_n, x_is_lst_b, x_isn_lst_b, x_is_ref_n, x_isn_ref_n, x_is_ref_b, x_isn_ref_b, x_is_bb, x_isn_bb, oM_some, sM_some, x_ix_tup, x_ix_lst, x_ix_ref, x_tru_non, x_tru_bl, x_tru_int, x_tru_str, x_tru_tup, x_tru_lst, x_tru_ref, x_len_tup, x_tuple_tup, x_list_tup, x_listN_tup, x_len_lst, x_tuple_lst, x_list_lst, x_listN_lst, x_len_str, x_rLen_ref, x_rTuple_ref, x_rList_ref, x_rListN_ref, x_int_int, x_int_bl, x_abs, x_gcd, x_max2, x_min2, x_append, x_popAt, x_pop, x_putAt, x_putAtC, x_isL_ref, x_isL_lst, y_var0, y_varS, y_tB, y_test, y_wBl, y_nB, y_neg, y_isT, y_asgN, y_bK, y_asgT, y_bindN, y_bind0, y_seqI, y_iK_t, y_iK_l, y_iK_r, y_rg1, y_rg2, y_r1K, y_r2K, y_put, y_pK, y_comp, y_compN, y_cN, y_wipe0, y_wipe1,
  List.map_cons, List.map_nil, List.cons_append, List.nil_append, List.replicate, List.getElem?_cons_zero, List.getElem?_cons_succ, List.set_cons_zero, List.set_cons_succ, List.length_cons, List.length_nil, decide_eq_true_eq, Bool.not_true, Bool.not_false, if_true, if_false, Bool.false_eq_true, bq_tt, bq_tf, bq_ft, bq_ff, sizeLine_eq, Nat.reduceAdd, Nat.reduceLeDiff, Int.reduceMul, Int.reduceSub, Int.reduceAdd, Int.reduceNeg, Int.reducePow, Int.reduceToNat, Int.reduceLT, Int.reduceLE, Nat.reduceSub, Nat.reducePow, Nat.reduceLT, z_cast0, z_pos, Int.lt_irrefl, List.eraseIdx_cons_zero, List.eraseIdx_cons_succ, true_and, Bool.not_eq_true', decide_eq_false_iff_not, Bool.not_eq_eq_eq_not, and_true, decide_true, decide_false, not_true_eq_false, not_false_eq_true,
  isT_non_int, isT_non_bool, isT_non_str, isT_non_tuple, isT_non_list, isT_bl_int, isT_bl_bool, isT_bl_str, isT_bl_tuple, isT_bl_list, isT_int_int, isT_int_bool, isT_int_str, isT_int_tuple, isT_int_list, isT_str_int, isT_str_bool, isT_str_str, isT_str_tuple, isT_str_list, isT_tup_int, isT_tup_bool, isT_tup_str, isT_tup_tuple, isT_tup_list, isT_lst_int, isT_lst_bool, isT_lst_str, isT_lst_tuple, isT_lst_list])
theorem pool_loop (cs xs ns : List Int) (salt m : Int) (v : Option D) (D0 : EndsD) (h0 : 0 ≤ m) (h1 : m < 2147483647)
    (hnx : ∀ (m : Int) (v : Option D), 0 ≤ m → m < 2147483647 → D0.nx [some (.lst (ns.map .int)), some (.int salt), some (.ref 0), some (.int m), v] [.lst (cs.map .int)]) :
    forR (Tg.name 4) w__law_pool_for0 (fun S => S[0]? = some (.lst (cs.map .int))) D0 (xs.map .int) [some (.lst (ns.map .int)), some (.int salt), some (.ref 0), some (.int m), v] [.lst (cs.map .int)] := by
  induction xs generalizing m v with
  | nil =>
    walk_at "fl"
    exact hnx m v h0 h1
  | cons x xs ih =>
    rw [List.map_cons]
    unfold w__law_pool_for0 at ih ⊢
    walk_at "fl"
    exact ⟨.r (by decide) (by decide), ih _ _ (Int.emod_nonneg _ (by decide)) (Int.emod_lt_of_pos _ (by decide))⟩
theorem v__law_pool (ds : List D) (S : Store) (Q0 : D → Store → Prop) (hl : ds.length = 2) (hc : closedS S) (hd : closedL S.length ds) (h : c__law_pool ds S Q0) : w__law_pool (EX S Q0) (ds.map some ++ List.replicate 3 none) S := by
  obtain ⟨ns, salt, rfl, rfl, hn, s0, s1, q⟩ := h
  unfold w__law_pool
  walk_at "fl"
  refine compR_map (f := fun x => match x with | .int i => .int (if i < 0 then -i else i) | d => d) trivial _ [] (by simp [sizeLine_eq]; omega) (fun x hx => ?_) ?_
  · obtain ⟨i, hi, rfl⟩ := List.mem_map.mp hx
    refine ⟨_, rfl, fun Q q => ?_⟩
    walk_at "fl"
    exact q
  · have e : [] ++ (ns.map D.int).map (fun x => match x with | .int i => D.int (if i < 0 then -i else i) | d => d) = (ns.map fun i => if i < 0 then -i else i).map D.int := by simp
    rw [e]
    generalize hcs : (ns.map fun i => if i < 0 then -i else i) = cs
    have hcl : cs.length ≤ 63 := by rw [← hcs]; simpa using hn
    have hc0 : ∀ c ∈ cs, 0 ≤ c := by
      intro c hc
      rw [← hcs] at hc
      obtain ⟨i, _, rfl⟩ := List.mem_map.mp hc
      split <;> omega
    walk_at "fl"
    refine ⟨by simp; omega, ?_⟩
    refine pool_loop cs cs ns salt salt none _ s0 s1 (fun m v h0 h1 => ?_)
    walk_at "fl"
    exact .all (q ⟨0, m + 1, cs⟩ ⟨by show (0 : Int) ≤ 0; omega, by show 0 ≤ m + 1; omega, by show m + 1 ≤ 2147483648; omega, hcl, hc0⟩)
/-- a draw -/
theorem v__law_draw (ds : List D) (S : Store) (Q0 : D → Store → Prop) (hl : ds.length = 2) (hc : closedS S) (hd : closedL S.length ds) (h : c__law_draw ds S Q0) : w__law_draw (EX S Q0) (ds.map some ++ List.replicate 2 none) S := by
  obtain ⟨many, ⟨a, b, cs⟩, G, rfl, rfl, ok, m0, m1, q⟩ := h
  obtain ⟨a0, b0, b1, cl, c0⟩ := ok
  simp only at a0 b0 b1 cl c0
  have hdv : DL.DivOk many := .of m0 m1
  have h37 : DL.DivOk 37 := .of (by decide) (by decide)
  have mul1 : ∀ x : Int, DL.MulOk x 40692 := fun x => .r (by decide) (by decide)
  have mul2 : ∀ x : Int, DL.MulOk x 40014 := fun x => .r (by decide) (by decide)
  have cp : CPow 10 18 := by unfold CPow; decide
  have r1 : ∀ x : Int, 0 ≤ x % 2147483647 ∧ x % 2147483647 < 2147483647 := fun x => ⟨Int.emod_nonneg _ (by decide), Int.emod_lt_of_pos _ (by decide)⟩
  have rm : ∀ x : Int, 0 ≤ x % many ∧ x % many < many := fun x => ⟨Int.emod_nonneg _ (by omega), Int.emod_lt_of_pos _ m0⟩
  have dm : ∀ x : Int, 0 ≤ x → 0 ≤ x / many := fun x hx => Int.ediv_nonneg hx (by omega)
  have fin : ∀ (d a b : Int) (cs : List Int), 0 ≤ a → 0 ≤ b → b ≤ 2147483648 → cs.length ≤ 63 → (∀ c ∈ cs, 0 ≤ c) → 0 ≤ d → d < many → Exit (mkP ⟨a, b, cs⟩ G).length (.int d) (.lst (cs.map .int) :: .lst [.int a, .int b, .ref 0] :: G) Q0 :=
    fun d a b cs h1 h2 h3 h4 h5 h6 h7 => .all (q d ⟨a, b, cs⟩ ⟨h1, h2, h3, h4, h5⟩ h6 h7)
  have cut : (1000000000000000000 : Int) = 10 ^ 18 := by decide
  unfold w__law_draw mkP
  by_cases ha : a = 0
  · subst ha
    cases cs with
    | nil =>
      walk_at "fl"
      simp only [mul1, mul2, h37, hdv, true_and]
      exact ⟨m0, fin _ 0 _ [] (by omega) (r1 _).1 (by have := (r1 ((b * 40692 + 23456) % 2147483647 * 40014 + 13)).2; omega) (by simp) (by simp) (rm _).1 (rm _).2⟩
    | cons c cs =>
      have hc0 := c0 c (by simp)
      have hcs : ∀ c ∈ cs, 0 ≤ c := fun x hx => c0 x (by simp [hx])
      have hcl : cs.length ≤ 63 := by simp at cl; omega
      by_cases hc : 1000000000000000000 ≤ c
      · have hc1 : 0 < c := by omega
        walk_at "fl"
        simp only [mul1, mul2, h37, hdv, hc, hc1, cp, true_and, if_true]
        exact ⟨m0, fin _ _ _ cs (dm c (by omega)) b0 b1 hcl hcs (rm _).1 (rm _).2⟩
      · walk_at "fl"
        simp only [mul1, mul2, h37, hdv, hc, cp, true_and, if_false, decide_false]
        exact ⟨m0, fin _ 0 _ cs (by omega) (r1 _).1 (by have := (r1 ((((b * 40014 + c) % 2147483647 + 1) * 40692 + 23456) % 2147483647 * 40014 + 13)).2; omega) hcl hcs (rm _).1 (rm _).2⟩
  · walk_at "fl"
    have ha' : 0 < a := by omega
    simp only [ha, ha', if_false, if_true, hdv, m0, true_and]
    exact fin _ _ _ _ (dm a a0) b0 b1 cl c0 (rm a).1 (rm a).2
theorem atD_mem {ds : List D} {i : Int} (h0 : 0 ≤ i) (h1 : i < ds.length) : ∃ d, atD ds i = some d ∧ d ∈ ds := by
  obtain ⟨j, rfl⟩ := Int.eq_ofNat_of_zero_le h0
  have hj : j < ds.length := by omega
  exact ⟨ds[j], by rw [atD_cast, List.getElem?_eq_getElem hj], List.getElem_mem hj⟩
theorem v__law_picked (ds : List D) (S : Store) (Q0 : D → Store → Prop) (hl : ds.length = 2) (hc : closedS S) (hd : closedL S.length ds) (h : c__law_picked ds S Q0) : w__law_picked (EX S Q0) (ds.map some ++ List.replicate 0 none) S := by
  obtain ⟨rows, p, G, rfl, rfl, ok, hne, hlen, q⟩ := h
  have hpos : 0 < rows.length := List.length_pos_iff.mpr hne
  unfold w__law_picked
  walk_at "fl"
  refine ⟨_, p, G, rfl, rfl, ok, by omega, by omega, fun d p' ok' h0 h1 => ?_⟩
  obtain ⟨x, hx, hm⟩ := atD_mem h0 h1
  walk_at "fl"
  rw [hx]
  walk_at "fl"
  exact .all (q x p' ok' hm)
theorem draw_in {many : Int} {p : PoolSt} {G : Store} {Q : D → Store → Prop} (ok : p.Ok) (h0 : 0 < many) (h1 : many < 2 ^ 200) (q : ∀ (d : Int) (p' : PoolSt), p'.Ok → 0 ≤ d → d < many → Q (.int d) (mkP p' G)) : c__law_draw [.ref 1, .int many] (mkP p G) Q :=
  ⟨many, p, G, rfl, rfl, ok, h0, h1, q⟩
theorem v__law_size (ds : List D) (S : Store) (Q0 : D → Store → Prop) (hl : ds.length = 1) (hc : closedS S) (hd : closedL S.length ds) (h : c__law_size ds S Q0) : w__law_size (EX S Q0) (ds.map some ++ List.replicate 2 none) S := by
  obtain ⟨p, G, rfl, rfl, ok, q⟩ := h
  unfold w__law_size
  walk_at "fl"
  refine draw_in ok (by decide) (by decide) fun h p1 ok1 a0 a1 => ?_
  refine draw_in ok1 (by decide) (by decide) fun m p2 ok2 b0 b1 => ?_
  walk_at "fl"
  have tail : ∀ (x : Int) (p1 : PoolSt), p1.Ok → 2 ≤ x → x ≤ 10000 → c__law_draw [.ref 1, .int 13] (mkP p1 G) (fun d S1 => DL.rEq d (.int 6) S1 (fun d S1 => DL.tB d S1 (fun k S1 => if k = true then Exit (mkP p G).length (.int 10000) S1 Q0 else Exit (mkP p G).length (.int x) S1 Q0))) := by
    intro x p okp h2 h3
    refine draw_in okp (by decide) (by decide) fun d p3 ok3 c0 c1 => ?_
    walk_at "fl"
    split
    · exact .all (q 10000 p3 ok3 (by decide) (by decide))
    · exact .all (q x p3 ok3 h2 h3)
  split
  · refine draw_in ok2 (by decide) (by decide) fun m p3 ok3 d0 d1 => ?_
    walk_at "fl"
    split
    · refine draw_in ok3 (by decide) (by decide) fun m p4 ok4 e0 e1 => ?_
      walk_at "fl"
      exact tail _ p4 ok4 (by omega) (by omega)
    · exact tail _ p3 ok3 (by omega) (by omega)
  · split
    · refine draw_in ok2 (by decide) (by decide) fun m p4 ok4 e0 e1 => ?_
      walk_at "fl"
      exact tail _ p4 ok4 (by omega) (by omega)
    · exact tail _ p2 ok2 (by omega) (by omega)
end K02

set_option maxHeartbeats 2000000
namespace K02
open PySem PySem.Spec PyProof.Rows L2 DL
local macro_rules | `(tactic| walk_at "dl") => `(tactic| simp only [y_w_seq, y_w_ret, y_w_retN, y_w_if, y_w_drop, y_w_next, y_w_c, y_w_op, y_w_and, y_w_or, y_w_not, y_w_tru, y_w_ifE, y_w_call, y_w_cons, y_w_nil, y_w_tup, y_w_lst, y_w_new, y_w_fn, y_w_meth, y_w_meth0, y_w_andV, y_w_orV, y_w_notV, y_w_yes, y_w_brk, y_w_ct, atD_of, atD_cast, atD_neg1,
  x_rAdd, x_rSub, x_rMul, x_rDiv, x_rMod, x_rPow, x_rLt, x_rLe, x_rGt, x_rGe, x_rAdd_s, x_rAdd_t, x_rEq_int, x_rEq_bl, x_rEq_str, x_rEq_tup, x_rEq_lst, x_rEq_nt, x_rEq_tn, x_rEq_nn, x_rEq_ni, x_rEq_in, x_rNe_int, x_rNe_bl, x_rNe_str, x_rNe_tup, x_rNe_lst, x_rNe_nt, x_rNe_tn, x_rNe_nn, x_rNe_ni, x_rNe_in, x_is_non_n, x_isn_non_n, x_is_non_b, x_isn_non_b, x_is_bl_n, x_isn_bl_n, x_is_int_n, x_isn_int_n, x_is_int_b, x_isn_int_b, x_is_str_n, x_isn_str_n, x_is_str_b, x_isn_str_b, x_is_tup_n, x_isn_tup_n, x_is_tup_b, x_isn_tup_b, x_is_lst_n, x_isn_lst_n, x_is_lst_b, x_isn_lst_b, x_is_ref_n, x_isn_ref_n, x_is_ref_b, x_isn_ref_b, x_is_bb, x_isn_bb, oM_some, sM_some, x_ix_tup, x_ix_lst, x_ix_ref, x_tru_non, x_tru_bl, x_tru_int, x_tru_str, x_tru_tup, x_tru_lst, x_tru_ref, x_len_tup, x_tuple_tup, x_list_tup, x_listN_tup, x_len_lst, x_tuple_lst, x_list_lst, x_listN_lst, x_len_str, x_rLen_ref, x_rTuple_ref, x_rList_ref, x_rListN_ref, x_int_int, x_int_bl, x_abs, x_gcd, x_max2, x_min2, x_append, x_popAt, x_pop, x_putAt, x_putAtC, x_isL_ref, x_isL_lst, y_var0, y_varS, y_tB, y_test, y_wBl, y_nB, y_neg, y_isT, y_asgN, y_bK, y_asgT, y_bindN, y_bind0, y_seqI, y_iK_t, y_iK_l, y_iK_r, y_rg1, y_rg2, y_r1K, y_r2K, y_put, y_pK, y_comp, y_compN, y_cN, y_wipe0, y_wipe1,
  List.map_cons, List.map_nil, List.cons_append, List.nil_append, List.replicate, List.getElem?_cons_zero, List.getElem?_cons_succ, List.set_cons_zero, List.set_cons_succ, List.length_cons, List.length_nil, decide_eq_true_eq, Bool.not_true, Bool.not_false, if_true, if_false, Bool.false_eq_true, bq_tt, bq_tf, bq_ft, bq_ff, sizeLine_eq, Nat.reduceAdd, Nat.reduceLeDiff, Int.reduceMul, Int.reduceSub, Int.reduceAdd, Int.reduceNeg, Int.reducePow, Int.reduceToNat, Int.reduceLT, Int.reduceLE, Nat.reduceSub, Nat.reducePow, Nat.reduceLT, z_cast0, z_pos, Int.lt_irrefl, List.eraseIdx_cons_zero, List.eraseIdx_cons_succ, true_and, Bool.not_eq_true', decide_eq_false_iff_not, Bool.not_eq_eq_eq_not, and_true, decide_true, decide_false, not_true_eq_false, not_false_eq_true,
  isT_non_int, isT_non_bool, isT_non_str, isT_non_tuple, isT_non_list, isT_bl_int, isT_bl_bool, isT_bl_str, isT_bl_tuple, isT_bl_list, isT_int_int, isT_int_bool, isT_int_str, isT_int_tuple, isT_int_list, isT_str_int, isT_str_bool, isT_str_str, isT_str_tuple, isT_str_list, isT_tup_int, isT_tup_bool, isT_tup_str, isT_tup_tuple, isT_tup_list, isT_lst_int, isT_lst_bool, isT_lst_str, isT_lst_tuple, isT_lst_list])
local macro_rules | `(tactic| walk_at "fl") => `(tactic| simp only [y_w_for, y_for0, y_forN, y_forT, y_w_seq, y_w_ret, y_w_retN, y_w_if, y_w_drop, y_w_next, y_w_c, y_w_op, y_w_and, y_w_or, y_w_not, y_w_tru, y_w_ifE, y_w_call, y_w_cons, y_w_nil, y_w_tup, y_w_lst, y_w_new, y_w_fn, y_w_meth, y_w_meth0, y_w_andV, y_w_orV, y_w_notV, y_w_yes, y_w_brk, y_w_ct, atD_of, atD_cast, atD_neg1,
  x_rAdd, x_rSub, x_rMul, x_rDiv, x_rMod, x_rPow, x_rLt, x_rLe, x_rGt, x_rGe, x_rAdd_s, x_rAdd_t, x_rEq_int, x_rEq_bl, x_rEq_str, x_rEq_tup, x_rEq_lst, x_rEq_nt, x_rEq_tn, x_rEq_nn, x_rEq_ni, x_rEq_in, x_rNe_int, x_rNe_bl, x_rNe_str, x_rNe_tup, x_rNe_lst, x_rNe_nt, x_rNe_tn, x_rNe_nn, x_rNe_ni, x_rNe_in, x_is_non_n, x_isn_non_n, x_is_non_b, x_isn_non_b, x_is_bl_n, x_isn_bl_n, x_is_int_n, x_isn_int_n, x_is_int_b, x_isn_int_b, x_is_str_n, x_isn_str_n, x_is_str_b, x_isn_str_b, x_is_tup_n, x_isn_tup_n, x_is_tup_b, x_isn_tup_b, x_is_lst_n, x_isn_lst_n, x_is_lst_b, x_isn_lst_b, x_is_ref_n, x_isn_ref_n, x_is_ref_b, x_isn_ref_b, x_is_bb, x_isn_bb, oM_some, sM_some, x_ix_tup, x_ix_lst, x_ix_ref, x_tru_non, x_tru_bl, x_tru_int, x_tru_str, x_tru_tup, x_tru_lst, x_tru_ref, x_len_tup, x_tuple_tup, x_list_tup, x_listN_tup, x_len_lst, x_tuple_lst, x_list_lst, x_listN_lst, x_len_str, x_rLen_ref, x_rTuple_ref, x_rList_ref, x_rListN_ref, x_int_int, x_int_bl, x_abs, x_gcd, x_max2, x_min2, x_append, x_popAt, x_pop, x_putAt, x_putAtC, x_isL_ref, x_isL_lst, y_var0, y_varS, y_tB, y_test, y_wBl, y_nB, y_neg, y_isT, y_asgN, y_bK, y_asgT, y_bindN, y_bind0, y_seqI, y_iK_t, y_iK_l, y_iK_r, y_rg1, y_rg2, y_r1K, y_r2K, y_put, y_pK, y_comp, y_compN, y_cN, y_wipe0, y_wipe1,
  List.map_cons, List.map_nil, List.cons_append, List.nil_append, List.replicate, List.getElem?_cons_zero, List.getElem?_cons_succ, List.set_cons_zero, List.set_cons_succ, List.length_cons, List.length_nil, decide_eq_true_eq, Bool.not_true, Bool.not_false, if_true, if_false, Bool.false_eq_true, bq_tt, bq_tf, bq_ft, bq_ff, sizeLine_eq, Nat.reduceAdd, Nat.reduceLeDiff, Int.reduceMul, Int.reduceSub, Int.reduceAdd, Int.reduceNeg, Int.reducePow, Int.reduceToNat, Int.reduceLT, Int.reduceLE, Nat.reduceSub, Nat.reducePow, Nat.reduceLT, z_cast0, z_pos, Int.lt_irrefl, List.eraseIdx_cons_zero, List.eraseIdx_cons_succ, true_and, Bool.not_eq_true', decide_eq_false_iff_not, Bool.not_eq_eq_eq_not, and_true, decide_true, decide_false, not_true_eq_false, not_false_eq_true,
  isT_non_int, isT_non_bool, isT_non_str, isT_non_tuple, isT_non_list, isT_bl_int, isT_bl_bool, isT_bl_str, isT_bl_tuple, isT_bl_list, isT_int_int, isT_int_bool, isT_int_str, isT_int_tuple, isT_int_list, isT_str_int, isT_str_bool, isT_str_str, isT_str_tuple, isT_str_list, isT_tup_int, isT_tup_bool, isT_tup_str, isT_tup_tuple, isT_tup_list, isT_lst_int, isT_lst_bool, isT_lst_str, isT_lst_tuple, isT_lst_list])
theorem picked_in {rows : List D} {p : PoolSt} {G : Store} {Q : D → Store → Prop} (ok : p.Ok) (h0 : rows ≠ []) (h1 : rows.length ≤ 100000) (q : ∀ (d : D) (p' : PoolSt), p'.Ok → d ∈ rows → Q d (mkP p' G)) : c__law_picked [.ref 1, .lst rows] (mkP p G) Q :=
  ⟨rows, p, G, rfl, rfl, ok, h0, h1, q⟩
theorem mk_app {p : PoolSt} {G : Store} {o : Ob} : mkP p G ++ [o] = mkP p (G ++ [o]) := rfl
theorem mk_get {p p' : PoolSt} {G : Store} {o : Ob} : (mkP p (G ++ [o]))[(mkP p' G).length]? = some o := by
  simp [mkP]
theorem mk_set {p p' : PoolSt} {G : Store} {o o' : Ob} : (mkP p (G ++ [o])).set (mkP p' G).length o' = mkP p (G ++ [o']) := by
  simp [mkP, List.set_append]
theorem mk_len {p p' : PoolSt} {G : Store} : (mkP p G).length = (mkP p' G).length := rfl
theorem mk_closed {p p' : PoolSt} {G : Store} (h : closedS (mkP p G)) : closedS (mkP p' G) := by
  intro ds hm
  simp only [mkP, List.mem_cons] at hm
  rcases hm with hm | hm | hm
  · cases hm
    have : ∀ cs : List Int, closedL (mkP p' G).length (cs.map D.int) := fun cs => by
      induction cs with
      | nil => simp [closedL]
      | cons c cs ih => simpa [closedL, closedD] using ih
    exact this _
  · cases hm
    simp [closedL, closedD, mkP]
  · exact h ds (by simp [mkP, hm])
theorem exit_list {p p' p'' : PoolSt} {G : Store} {xs : List D} {Q0 : D → Store → Prop} (hc : closedS (mkP p G)) (hp : pureL xs) (h : Q0 (.lst xs) (mkP p' G)) : Exit (mkP p G).length (.ref (mkP p'' G).length) (mkP p' (G ++ [.lst xs])) Q0 := by
  refine .inr ⟨mkP p' G, [.lst xs], .lst xs, rfl, rfl, mk_closed hc, .new (Nat.le_refl _) ?_ (frzL_pure hp), h⟩
  exact mk_get
theorem v__law_numbers (ds : List D) (S : Store) (Q0 : D → Store → Prop) (hl : ds.length = 3) (hc : closedS S) (hd : closedL S.length ds) (h : c__law_numbers ds S Q0) : w__law_numbers (EX S Q0) (ds.map some ++ List.replicate 5 none) S := by
  obtain ⟨n, k, half, p, G, rfl, rfl, ok, hm, hh0, hh1, q⟩ := h
  have n0 := hm.n0
  have n1 := hm.n1
  unfold w__law_numbers dial
  have cp6 : CPow 10 6 := by unfold CPow; decide
  have cp30 : CPow 10 30 := by unfold CPow; decide
  walk_at "fl"
  refine ⟨cp6, draw_in ok (by decide) (by decide) fun sm p1 ok1 a0 a1 => ?_⟩
  walk_at "fl"
  refine draw_in ok1 (by decide) (by decide) fun st p2 ok2 b0 b1 => ?_
  walk_at "fl"
  refine ⟨.l (by omega) (by omega), draw_in ok2 (by decide) (by decide) fun c p3 ok3 c0 c1 => ?_⟩
  refine ⟨cp6, draw_in ok3 (by decide) (by decide) fun d p4 ok4 d0 d1 => ?_⟩
  walk_at "fl"
  simp only [mk_app, mk_get, mk_set, sM_some]
  walk_at "fl"
  refine ⟨.l (by omega) (by omega), .l (by omega) (by omega), .of (by decide) (by decide), cp30, ?_⟩
  refine draw_in ok4 (by decide) (by decide) fun g p5 ok5 g0 g1 => ⟨cp30, ?_⟩
  walk_at "fl"
  simp only [mk_get, sM_some, true_and]
  refine ⟨.big (by omega) (by omega), .l (by omega) (by omega), .l (by omega) (by omega), ?_⟩
  refine picked_in ok5 (by simp) (by simp) fun v p6 ok6 hv => ?_
  obtain ⟨vi, rfl⟩ : ∃ i : Int, v = .int i := by
    simp only [List.mem_cons, List.not_mem_nil, or_false] at hv
    rcases hv with rfl | rfl | rfl | rfl <;> exact ⟨_, rfl⟩
  simp only [mk_get, mk_set, sM_some, List.cons_append, List.nil_append]
  walk_at "fl"
  refine exit_list hc (by simp [pureL, pureD]) ?_
  exact q [_, _, _, _, _, _, _, _, _, _] p6 ok6
end K02

set_option maxHeartbeats 2000000
namespace K02
open PySem PySem.Spec PyProof.Rows L2 DL
local macro_rules | `(tactic| walk_at "dl") => `(tactic| simp only [y_w_seq, y_w_ret, y_w_retN, y_w_if, y_w_drop, y_w_next, y_w_c, y_w_op, y_w_and, y_w_or, y_w_not, y_w_tru, y_w_ifE, y_w_call, y_w_cons, y_w_nil, y_w_tup, y_w_lst, y_w_new, y_w_fn, y_w_meth, y_w_meth0, y_w_andV, y_w_orV, y_w_notV, y_w_yes, y_w_brk, y_w_ct, atD_of, atD_cast, atD_neg1,
  x_rAdd, x_rSub, x_rMul, x_rDiv, x_rMod, x_rPow, x_rLt, x_rLe, x_rGt, x_rGe, x_rAdd_s, x_rAdd_t, x_rEq_int, x_rEq_bl, x_rEq_str, x_rEq_tup, x_rEq_lst, x_rEq_nt, x_rEq_tn, x_rEq_nn, x_rEq_ni, x_rEq_in, x_rNe_int, x_rNe_bl, x_rNe_str, x_rNe_tup, x_rNe_lst, x_rNe_nt, x_rNe_tn, x_rNe_nn, x_rNe_ni, x_rNe_in, x_is_non_n, x_isn_non_n, x_is_non_b, x_isn_non_b, x_is_bl_n, x_isn_bl_n, x_is_int_n, x_isn_int_n, x_is_int_b, x_isn_int_b, x_is_str_n, x_isn_str_n, x_is_str_b, x_isn_str_b, x_is_tup_n, x_isn_tup_n, x_is_tup_b, x_isn_tup_b, x_is_lst_n, x_isn_lst_n, x_is_lst_b, x_isn_lst_b, x_is_ref_n, x_isn_ref_n, x_is_ref_b, x_isn_ref_b, x_is_bb, x_isn_bb, oM_some, sM_some, x_ix_tup, x_ix_lst, x_ix_ref, x_tru_non, x_tru_bl, x_tru_int, x_tru_str, x_tru_tup, x_tru_lst, x_tru_ref, x_len_tup, x_tuple_tup, x_list_tup, x_listN_tup, x_len_lst, x_tuple_lst, x_list_lst, x_listN_lst, x_len_str, x_rLen_ref, x_rTuple_ref, x_rList_ref, x_rListN_ref, x_int_int, x_int_bl, x_abs, x_gcd, x_max2, x_min2, x_append, x_popAt, x_pop, x_putAt, x_putAtC, x_isL_ref, x_isL_lst, y_var0, y_varS, y_tB, y_test, y_wBl, y_nB, y_neg, y_isT, y_asgN, y_bK, y_asgT, y_bindN, y_bind0, y_seqI, y_iK_t, y_iK_l, y_iK_r, y_rg1, y_rg2, y_r1K, y_r2K, y_put, y_pK, y_comp, y_compN, y_cN, y_wipe0, y_wipe1,
  List.map_cons, List.map_nil, List.cons_append, List.nil_append, List.replicate, List.getElem?_cons_zero, List.getElem?_cons_succ, List.set_cons_zero, List.set_cons_succ, List.length_cons, List.length_nil, decide_eq_true_eq, Bool.not_true, Bool.not_false, if_true, if_false, Bool.false_eq_true, bq_tt, bq_tf, bq_ft, bq_ff, sizeLine_eq, Nat.reduceAdd, Nat.reduceLeDiff, Int.reduceMul, Int.reduceSub, Int.reduceAdd, Int.reduceNeg, Int.reducePow, Int.reduceToNat, Int.reduceLT, Int.reduceLE, Nat.reduceSub, Nat.reducePow, Nat.reduceLT, z_cast0, z_pos, Int.lt_irrefl, List.eraseIdx_cons_zero, List.eraseIdx_cons_succ, true_and, Bool.not_eq_true', decide_eq_false_iff_not, Bool.not_eq_eq_eq_not, and_true, decide_true, decide_false, not_true_eq_false, not_false_eq_true,
  isT_non_int, isT_non_bool, isT_non_str, isT_non_tuple, isT_non_list, isT_bl_int, isT_bl_bool, isT_bl_str, isT_bl_tuple, isT_bl_list, isT_int_int, isT_int_bool, isT_int_str, isT_int_tuple, isT_int_list, isT_str_int, isT_str_bool, isT_str_str, isT_str_tuple, isT_str_list, isT_tup_int, isT_tup_bool, isT_tup_str, isT_tup_tuple, isT_tup_list, isT_lst_int, isT_lst_bool, isT_lst_str, isT_lst_tuple, isT_lst_list])
local macro_rules | `(tactic| walk_at "fl") => `(tactic| simp only [y_w_for, y_for0, y_forN, y_forT, y_w_seq, y_w_ret, y_w_retN, y_w_if, y_w_drop, y_w_next, y_w_c, y_w_op, y_w_and, y_w_or, y_w_not, y_w_tru, y_w_ifE, y_w_call, y_w_cons, y_w_nil, y_w_tup, y_w_lst, y_w_new, y_w_fn, y_w_meth, y_w_meth0, y_w_andV, y_w_orV, y_w_notV, y_w_yes, y_w_brk, y_w_ct, atD_of, atD_cast, atD_neg1,
  x_rAdd, x_rSub, x_rMul, x_rDiv, x_rMod, x_rPow, x_rLt, x_rLe, x_rGt, x_rGe, x_rAdd_s, x_rAdd_t, x_rEq_int, x_rEq_bl, x_rEq_str, x_rEq_tup, x_rEq_lst, x_rEq_nt, x_rEq_tn, x_rEq_nn, x_rEq_ni, x_rEq_in, x_rNe_int, x_rNe_bl, x_rNe_str, x_rNe_tup, x_rNe_lst, x_rNe_nt, x_rNe_tn, x_rNe_nn, x_rNe_ni, x_rNe_in, x_is_non_n, x_isn_non_n, x_is_non_b, x_isn_non_b, x_is_bl_n, x_isn_bl_n, x_is_int_n, x_isn_int_n, x_is_int_b, x_isn_int_b, x_is_str_n, x_isn_str_n, x_is_str_b, x_isn_str_b, x_is_tup_n, x_isn_tup_n, x_is_tup_b, x_isn_tup_b, x_is_lst_n, x_isn_lst_n, x_is_lst_b, x_isn_lst_b, x_is_ref_n, x_isn_ref_n, x_is_ref_b, x_isn_ref_b, x_is_bb, x_isn_bb, oM_some, sM_some, x_ix_tup, x_ix_lst, x_ix_ref, x_tru_non, x_tru_bl, x_tru_int, x_tru_str, x_tru_tup, x_tru_lst, x_tru_ref, x_len_tup, x_tuple_tup, x_list_tup, x_listN_tup, x_len_lst, x_tuple_lst, x_list_lst, x_listN_lst, x_len_str, x_rLen_ref, x_rTuple_ref, x_rList_ref, x_rListN_ref, x_int_int, x_int_bl, x_abs, x_gcd, x_max2, x_min2, x_append, x_popAt, x_pop, x_putAt, x_putAtC, x_isL_ref, x_isL_lst, y_var0, y_varS, y_tB, y_test, y_wBl, y_nB, y_neg, y_isT, y_asgN, y_bK, y_asgT, y_bindN, y_bind0, y_seqI, y_iK_t, y_iK_l, y_iK_r, y_rg1, y_rg2, y_r1K, y_r2K, y_put, y_pK, y_comp, y_compN, y_cN, y_wipe0, y_wipe1,
  List.map_cons, List.map_nil, List.cons_append, List.nil_append, List.replicate, List.getElem?_cons_zero, List.getElem?_cons_succ, List.set_cons_zero, List.set_cons_succ, List.length_cons, List.length_nil, decide_eq_true_eq, Bool.not_true, Bool.not_false, if_true, if_false, Bool.false_eq_true, bq_tt, bq_tf, bq_ft, bq_ff, sizeLine_eq, Nat.reduceAdd, Nat.reduceLeDiff, Int.reduceMul, Int.reduceSub, Int.reduceAdd, Int.reduceNeg, Int.reducePow, Int.reduceToNat, Int.reduceLT, Int.reduceLE, Nat.reduceSub, Nat.reducePow, Nat.reduceLT, z_cast0, z_pos, Int.lt_irrefl, List.eraseIdx_cons_zero, List.eraseIdx_cons_succ, true_and, Bool.not_eq_true', decide_eq_false_iff_not, Bool.not_eq_eq_eq_not, and_true, decide_true, decide_false, not_true_eq_false, not_false_eq_true,
  isT_non_int, isT_non_bool, isT_non_str, isT_non_tuple, isT_non_list, isT_bl_int, isT_bl_bool, isT_bl_str, isT_bl_tuple, isT_bl_list, isT_int_int, isT_int_bool, isT_int_str, isT_int_tuple, isT_int_list, isT_str_int, isT_str_bool, isT_str_str, isT_str_tuple, isT_str_list, isT_tup_int, isT_tup_bool, isT_tup_str, isT_tup_tuple, isT_tup_list, isT_lst_int, isT_lst_bool, isT_lst_str, isT_lst_tuple, isT_lst_list])
theorem restOf_restOf {n k v : Int} : restOf (k * restOf v n) n = restOf (k * v) n := by
  unfold restOf
  split
  · rfl
  · rw [Int.mul_emod, Int.emod_emod, ← Int.mul_emod]
theorem right_loop (n k half : Int) (hm : DialOk n k) (p : PoolSt) (G : Store) (D0 : EndsD) (vs : List Int) (v1 v2 v3 : Option D)
    (hnx : ∀ v1 v2 v3 : Option D, D0.nx [some (.ref 1), some (dial n k), some (.int half), v1, v2, v3] (mkP p G)) :
    forR (Tg.name 3) w__law_right_for0 (fun _ => True) D0 (vs.map .int) [some (.ref 1), some (dial n k), some (.int half), v1, v2, v3] (mkP p G) := by
  have n0 := hm.n0
  have n1 := hm.n1
  have k0 := hm.k0
  have k1 := hm.k1
  induction vs generalizing v1 v2 v3 with
  | nil =>
    walk_at "fl"
    exact hnx v1 v2 v3
  | cons v vs ih =>
    rw [List.map_cons]
    unfold w__law_right_for0 dial at ih ⊢
    walk_at "fl"
    refine ⟨_, _, rfl, n0, ?_⟩
    walk_at "fl"
    refine ⟨.l (by omega) (by omega), _, _, rfl, n0, ?_⟩
    walk_at "fl"
    refine ⟨n, k, v, rfl, n0, ?_⟩
    walk_at "fl"
    refine ⟨_, rfl, .inr (.inr ⟨_, rfl⟩), ?_⟩
    walk_at "fl"
    refine ⟨n, k, v, rfl, hm, ?_⟩
    walk_at "fl"
    refine ⟨_, rfl, .inr (.inr ⟨_, rfl⟩), ?_⟩
    walk_at "fl"
    refine ⟨n, k, _, rfl, hm, ?_⟩
    walk_at "fl"
    rw [restOf_restOf]
    refine ⟨_, rfl, .inr (.inr ⟨_, rfl⟩), ?_⟩
    walk_at "fl"
    exact ih _ _ _
theorem v__law_right (ds : List D) (S : Store) (Q0 : D → Store → Prop) (hl : ds.length = 2) (hc : closedS S) (hd : closedL S.length ds) (h : c__law_right ds S Q0) : w__law_right (EX S Q0) (ds.map some ++ List.replicate 4 none) S := by
  obtain ⟨n, k, p, G, rfl, rfl, ok, hm, q⟩ := h
  have n0 := hm.n0
  have n1 := hm.n1
  have k0 := hm.k0
  have k1 := hm.k1
  have hh : 0 ≤ halfOf n k ∧ halfOf n k ≤ 10000 := by
    unfold halfOf
    split
    · split <;> omega
    · have h1 := Int.emod_nonneg (n / ((Nat.gcd n.natAbs (k - 1).natAbs : Nat) : Int)) (show n ≠ 0 by omega)
      have h2 := Int.emod_lt_of_pos (n / ((Nat.gcd n.natAbs (k - 1).natAbs : Nat) : Int)) (show 0 < n by omega)
      omega
  unfold w__law_right
  walk_at "fl"
  refine ⟨n, k, rfl, hm, ?_⟩
  refine ⟨n, k, rfl, hm, ?_⟩
  refine ⟨_, rfl, .inr (.inr ⟨_, rfl⟩), ?_⟩
  unfold dial
  walk_at "fl"
  refine ⟨n, k, rfl, n0, ?_⟩
  walk_at "fl"
  refine ⟨_, _, rfl, n0, ?_⟩
  refine ⟨_, rfl, .inr (.inl ⟨_, rfl⟩), ?_⟩
  walk_at "fl"
  refine ⟨n, k, rfl, n0, ?_⟩
  walk_at "fl"
  refine ⟨_, _, rfl, n0, ?_⟩
  refine ⟨_, rfl, .inr (.inl ⟨_, rfl⟩), ?_⟩
  walk_at "fl"
  refine ⟨n, k, rfl, ?_⟩
  refine ⟨n, k, rfl, ?_⟩
  refine ⟨_, rfl, ?_, ?_⟩
  · unfold fieldPrime
    repeat' split
    all_goals first | exact .inr (.inr ⟨_, rfl⟩) | exact .inl rfl
  walk_at "fl"
  refine ⟨n, k, _, p, G, rfl, rfl, ok, hm, hh.1, hh.2, fun vs p1 ok1 => ?_⟩
  walk_at "fl"
  refine right_loop n k (halfOf n k) hm p1 G _ vs _ _ _ fun v1 v2 v3 => ?_
  walk_at "fl"
  exact .all (q p1 ok1)
theorem law_loop (D0 : EndsD) (G : Store) (ds : List D) (hds : ∀ d ∈ ds, ∃ n k, d = dial n k ∧ DialOk n k) (a b c d e f : Option D) (v : Option D) (p : PoolSt) (ok : p.Ok)
    (hnx : ∀ (p : PoolSt) (v : Option D), p.Ok → D0.nx [a, some (.ref 1), b, c, d, e, f, v] (mkP p G)) :
    forR (Tg.name 7) w_law_for0 (fun _ => True) D0 ds [a, some (.ref 1), b, c, d, e, f, v] (mkP p G) := by
  induction ds generalizing v p with
  | nil =>
    walk_at "fl"
    exact hnx p v ok
  | cons x ds ih =>
    obtain ⟨n, k, rfl, hm⟩ := hds x (by simp)
    unfold w_law_for0 at ih ⊢
    walk_at "fl"
    refine ⟨n, k, p, G, rfl, rfl, ok, hm, fun p1 ok1 => ?_⟩
    walk_at "fl"
    exact ih (fun y hy => hds y (by simp [hy])) _ p1 ok1
theorem exit_nil {b : Bool} {S1 : Store} {Q0 : D → Store → Prop} (h : Q0 (.bl b) []) : Exit 0 (.bl b) S1 Q0 :=
  .inr ⟨[], S1, .bl b, rfl, rfl, (fun ds h => by cases h), .bl b, h⟩
theorem v_law (ds : List D) (S : Store) (Q0 : D → Store → Prop) (hl : ds.length = 1) (hc : closedS S) (hd : closedL S.length ds) (h : c_law ds S Q0) : w_law (EX S Q0) (ds.map some ++ List.replicate 7 none) S := by
  obtain ⟨ns, rfl, rfl, hn, q⟩ := h
  unfold w_law
  walk_at "dl"
  refine ⟨ns, 202, rfl, rfl, hn, by decide, by decide, fun p ok => ?_⟩
  walk_at "dl"
  refine ⟨p, [], rfl, rfl, ok, fun m p1 ok1 m0 m1 => ?_⟩
  walk_at "dl"
  refine picked_in ok1 (by simp) (by simp) fun pr p2 ok2 hpr => ?_
  obtain ⟨pv, rfl, hpv⟩ : ∃ i : Int, pr = .int i ∧ (i = 3 ∨ i = 5 ∨ i = 7 ∨ i = 11 ∨ i = 13) := by
    simp only [List.mem_cons, List.not_mem_nil, or_false] at hpr
    rcases hpr with rfl | rfl | rfl | rfl | rfl <;> exact ⟨_, rfl, by decide⟩
  walk_at "dl"
  refine draw_in ok2 (by decide) (by decide) fun w p3 ok3 w0 w1 => ?_
  walk_at "dl"
  refine picked_in ok3 (by simp) (by simp) fun ot p4 ok4 hot => ?_
  obtain ⟨ov, rfl, ho1, ho2⟩ : ∃ i : Int, ot = .int i ∧ 2 ≤ i ∧ i ≤ 100 := by
    simp only [List.mem_cons, List.not_mem_nil, or_false] at hot
    rcases hot with rfl | rfl | rfl | rfl | rfl | rfl | rfl | rfl | rfl | rfl | rfl | rfl <;> exact ⟨_, rfl, by omega, by omega⟩
  have hsq : 8 ≤ pv * pv - 1 ∧ pv * pv - 1 ≤ 168 := by rcases hpv with rfl | rfl | rfl | rfl | rfl <;> decide
  have hos : 3 ≤ ov * ov - 1 ∧ ov * ov - 1 ≤ 9999 := by
    have h1 : ov * ov ≤ 100 * 100 := Int.mul_le_mul ho2 ho2 (by omega) (by decide)
    have h2 : 2 * 2 ≤ ov * ov := Int.mul_le_mul ho1 ho1 (by decide) (by omega)
    omega
  walk_at "dl"
  refine ⟨.l (by omega) (by omega), ?_⟩
  refine ⟨m, rfl, m0, m1, fun ts hts htl htm => ?_⟩
  walk_at "dl"
  refine picked_in ok4 (by simpa using hts) (by simp; omega) fun t1 p5 ok5 ht1 => ?_
  obtain ⟨t1, hm1, rfl⟩ := List.mem_map.mp ht1
  have ht1' := htm t1 hm1
  refine ⟨_, rfl, by omega, by omega, fun us hus hul hum => ?_⟩
  walk_at "dl"
  refine picked_in ok5 (by simpa using hus) (by simp; omega) fun t2 p6 ok6 ht2 => ?_
  obtain ⟨t2, hm2, rfl⟩ := List.mem_map.mp ht2
  have ht2' := hum t2 hm2
  refine ⟨.l (by omega) (by omega), ?_⟩
  generalize hL : [D.tup [D.int 0, D.int 1], D.tup [D.int 0, D.int (-1)], D.tup [D.int 2, D.int 1], D.tup [D.int m, D.int t1], D.tup [D.int (pv * pv - 1), D.int pv], D.tup [D.int (pv * pv - 1), D.int t2], D.tup [D.int (ov * ov - 1), D.int ov]] = L
  unfold wFor
  walk_at "dl"
  refine law_loop _ [] L ?_ _ _ _ _ _ _ _ p6 ok6 fun p7 v ok7 => ?_
  · intro d hd
    rw [← hL] at hd
    simp only [List.mem_cons, List.not_mem_nil, or_false] at hd
    rcases hd with rfl | rfl | rfl | rfl | rfl | rfl | rfl
    · exact ⟨0, 1, rfl, by decide, by decide, by decide, by decide, by decide⟩
    · exact ⟨0, -1, rfl, by decide, by decide, by decide, by decide, by decide⟩
    · exact ⟨2, 1, rfl, by decide, by decide, by decide, by decide, by decide⟩
    · exact ⟨_, _, rfl, by omega, by omega, by omega, by omega, by omega⟩
    · exact ⟨_, _, rfl, by omega, by omega, by omega, by omega, by omega⟩
    · exact ⟨_, _, rfl, by omega, by omega, by omega, by omega, by omega⟩
    · exact ⟨_, _, rfl, by omega, by omega, by omega, by omega, by omega⟩
  · walk_at "dl"
    exact exit_nil q
end K02


set_option maxHeartbeats 0
/-! the head, the end -/
namespace K02
open PySem PySem.Spec PyProof.Rows L2 DL He
def dd_rest_of : He.DefD := ⟨("rest_of", none), "rest_of", "rest_of", defArgs s_rest_of, defBody s_rest_of, defScope s_rest_of, [], []⟩
def dd_divides : He.DefD := ⟨("divides", none), "divides", "divides", defArgs s_divides, defBody s_divides, defScope s_divides, [], []⟩
def dd_mark_of : He.DefD := ⟨("mark_of", none), "mark_of", "mark_of", defArgs s_mark_of, defBody s_mark_of, defScope s_mark_of, [], []⟩
def dd_turned_mark : He.DefD := ⟨("turned_mark", none), "turned_mark", "turned_mark", defArgs s_turned_mark, defBody s_turned_mark, defScope s_turned_mark, [], []⟩
def dd_half_of : He.DefD := ⟨("half_of", none), "half_of", "half_of", defArgs s_half_of, defBody s_half_of, defScope s_half_of, [], []⟩
def dd_is_turning : He.DefD := ⟨("is_turning", none), "is_turning", "is_turning", defArgs s_is_turning, defBody s_is_turning, defScope s_is_turning, [], []⟩
def dd_is_loud : He.DefD := ⟨("is_loud", none), "is_loud", "is_loud", defArgs s_is_loud, defBody s_is_loud, defScope s_is_loud, [], []⟩
def dd_field_prime : He.DefD := ⟨("field_prime", none), "field_prime", "field_prime", defArgs s_field_prime, defBody s_field_prime, defScope s_field_prime, [], []⟩
def dd__law_pool : He.DefD := ⟨("_law_pool", none), "_law_pool", "_law_pool", defArgs s__law_pool, defBody s__law_pool, defScope s__law_pool, [], []⟩
def dd__law_draw : He.DefD := ⟨("_law_draw", none), "_law_draw", "_law_draw", defArgs s__law_draw, defBody s__law_draw, defScope s__law_draw, [], []⟩
def dd__law_is : He.DefD := ⟨("_law_is", none), "_law_is", "_law_is", defArgs s__law_is, defBody s__law_is, defScope s__law_is, [], []⟩
def dd__law_rest : He.DefD := ⟨("_law_rest", none), "_law_rest", "_law_rest", defArgs s__law_rest, defBody s__law_rest, defScope s__law_rest, [], []⟩
def dd__law_half : He.DefD := ⟨("_law_half", none), "_law_half", "_law_half", defArgs s__law_half, defBody s__law_half, defScope s__law_half, [], []⟩
def dd__law_divides : He.DefD := ⟨("_law_divides", none), "_law_divides", "_law_divides", defArgs s__law_divides, defBody s__law_divides, defScope s__law_divides, [], []⟩
def dd__law_turns : He.DefD := ⟨("_law_turns", none), "_law_turns", "_law_turns", defArgs s__law_turns, defBody s__law_turns, defScope s__law_turns, [], []⟩
def dd__law_picked : He.DefD := ⟨("_law_picked", none), "_law_picked", "_law_picked", defArgs s__law_picked, defBody s__law_picked, defScope s__law_picked, [], []⟩
def dd__law_size : He.DefD := ⟨("_law_size", none), "_law_size", "_law_size", defArgs s__law_size, defBody s__law_size, defScope s__law_size, [], []⟩
def dd__law_numbers : He.DefD := ⟨("_law_numbers", none), "_law_numbers", "_law_numbers", defArgs s__law_numbers, defBody s__law_numbers, defScope s__law_numbers, [], []⟩
def dd__law_field : He.DefD := ⟨("_law_field", none), "_law_field", "_law_field", defArgs s__law_field, defBody s__law_field, defScope s__law_field, [], []⟩
def dd__law_right : He.DefD := ⟨("_law_right", none), "_law_right", "_law_right", defArgs s__law_right, defBody s__law_right, defScope s__law_right, [], []⟩
def dd_law : He.DefD := ⟨("law", none), "law", "law", defArgs s_law, defBody s_law, defScope s_law, [], []⟩
def fn : List He.DefD := [dd_rest_of, dd_divides, dd_mark_of, dd_turned_mark, dd_half_of, dd_is_turning, dd_is_loud, dd_field_prime, dd__law_pool, dd__law_draw, dd__law_is, dd__law_rest, dd__law_half, dd__law_divides, dd__law_turns, dd__law_picked, dd__law_size, dd__law_numbers, dd__law_field, dd__law_right, dd_law]
def fa : Facts := [gloB "rest_of", gloB "divides", gloB "mark_of", gloB "turned_mark", gloB "half_of", gloB "is_turning", gloB "is_loud", gloB "field_prime", gloB "_law_pool", gloB "_law_draw", gloB "_law_is", gloB "_law_rest", gloB "_law_half", gloB "_law_divides", gloB "_law_turns", gloB "_law_picked", gloB "_law_size", gloB "_law_numbers", gloB "_law_field", gloB "_law_right", gloB "law", freB "abs", freB "bool", freB "int", freB "isinstance", freB "len", freB "range", bltB "gcd" "math.gcd", cstB "PRIMES" k_PRIMES]
abbrev R : PySem.W.OpenRow := PySem.W.OpenLaw.row PySem.Challenge.rw_everygain_k02_marks_turned
abbrev hk : PySem.W.Hook := hookX 4 fa fn
def ob (s : PySem.W.SharedT) : He.AlD := obsXG 4 fa fn (HandSHeadRun.getT s)
theorem ob_eq (s : PySem.W.SharedT) : ob s = hk.obs s.abs := obsXG_eq (HandSHeadRun.getT_eq s)
def loose : List Str := ["gcd", "PRIMES", "rest_of", "divides", "mark_of", "turned_mark", "half_of", "is_turning", "is_loud", "field_prime", "_law_pool", "_law_draw", "_law_is", "_law_rest", "_law_half", "_law_divides", "_law_turns", "_law_picked", "_law_size", "_law_numbers", "_law_field", "_law_right"]
theorem run (w : World) : HandSHeadRun.RunEqI R (PySem.W.view R.prog [0, 24]) hk ob 4000 loose w := by
  unfold HandSHeadRun.RunEqI
  kernel_rfl
theorem facts {P : Program} {w : World} {K : PySem.W.Frag} {h : Heap} {mg : Str → Option Value} {f : Addr} (X : K.In h) (G : h.Ns mainGlobals mg) (hfa : mg ("law" : Str) = some (.ref f)) (c : SaysX fa fn K) :
    ∃ fd : FuncData, (∀ (s : Shared) (v : Value), BindsTo s fd ⟨[v], []⟩ [("script", v)]) ∧ ∀ base : Heap, K.In base → base.Ns mainGlobals mg → FnD P w K mg base 5 f fd ["script"] c_law := by
  obtain ⟨fd_rest_of, F_rest_of⟩ := c.def_ 0 (d := dd_rest_of) rfl
  obtain ⟨fd_divides, F_divides⟩ := c.def_ 1 (d := dd_divides) rfl
  obtain ⟨fd_mark_of, F_mark_of⟩ := c.def_ 2 (d := dd_mark_of) rfl
  obtain ⟨fd_turned_mark, F_turned_mark⟩ := c.def_ 3 (d := dd_turned_mark) rfl
  obtain ⟨fd_half_of, F_half_of⟩ := c.def_ 4 (d := dd_half_of) rfl
  obtain ⟨fd_is_turning, F_is_turning⟩ := c.def_ 5 (d := dd_is_turning) rfl
  obtain ⟨fd_is_loud, F_is_loud⟩ := c.def_ 6 (d := dd_is_loud) rfl
  obtain ⟨fd_field_prime, F_field_prime⟩ := c.def_ 7 (d := dd_field_prime) rfl
  obtain ⟨fd__law_pool, F__law_pool⟩ := c.def_ 8 (d := dd__law_pool) rfl
  obtain ⟨fd__law_draw, F__law_draw⟩ := c.def_ 9 (d := dd__law_draw) rfl
  obtain ⟨fd__law_is, F__law_is⟩ := c.def_ 10 (d := dd__law_is) rfl
  obtain ⟨fd__law_rest, F__law_rest⟩ := c.def_ 11 (d := dd__law_rest) rfl
  obtain ⟨fd__law_half, F__law_half⟩ := c.def_ 12 (d := dd__law_half) rfl
  obtain ⟨fd__law_divides, F__law_divides⟩ := c.def_ 13 (d := dd__law_divides) rfl
  obtain ⟨fd__law_turns, F__law_turns⟩ := c.def_ 14 (d := dd__law_turns) rfl
  obtain ⟨fd__law_picked, F__law_picked⟩ := c.def_ 15 (d := dd__law_picked) rfl
  obtain ⟨fd__law_size, F__law_size⟩ := c.def_ 16 (d := dd__law_size) rfl
  obtain ⟨fd__law_numbers, F__law_numbers⟩ := c.def_ 17 (d := dd__law_numbers) rfl
  obtain ⟨fd__law_field, F__law_field⟩ := c.def_ 18 (d := dd__law_field) rfl
  obtain ⟨fd__law_right, F__law_right⟩ := c.def_ 19 (d := dd__law_right) rfl
  obtain ⟨fd_law, F_law⟩ := c.def_ 20 (d := dd_law) rfl
  have T : Txt K mg := ⟨freB_ok X G (c.fact 21 (f := freB "abs") rfl), freB_ok X G (c.fact 22 (f := freB "bool") rfl), freB_ok X G (c.fact 23 (f := freB "int") rfl), freB_ok X G (c.fact 24 (f := freB "isinstance") rfl), freB_ok X G (c.fact 25 (f := freB "len") rfl), freB_ok X G (c.fact 26 (f := freB "range") rfl), bltB_ok X G (c.fact 27 (f := bltB "gcd" "math.gcd") rfl), cstB_ok X G (c.fact 28 (f := cstB "PRIMES" k_PRIMES) rfl)⟩
  have g_rest_of := gloB_ok X G (c.fact 0 (f := gloB "rest_of") rfl)
  have g_divides := gloB_ok X G (c.fact 1 (f := gloB "divides") rfl)
  have g_mark_of := gloB_ok X G (c.fact 2 (f := gloB "mark_of") rfl)
  have g_turned_mark := gloB_ok X G (c.fact 3 (f := gloB "turned_mark") rfl)
  have g_half_of := gloB_ok X G (c.fact 4 (f := gloB "half_of") rfl)
  have g_is_turning := gloB_ok X G (c.fact 5 (f := gloB "is_turning") rfl)
  have g_is_loud := gloB_ok X G (c.fact 6 (f := gloB "is_loud") rfl)
  have g_field_prime := gloB_ok X G (c.fact 7 (f := gloB "field_prime") rfl)
  have g__law_pool := gloB_ok X G (c.fact 8 (f := gloB "_law_pool") rfl)
  have g__law_draw := gloB_ok X G (c.fact 9 (f := gloB "_law_draw") rfl)
  have g__law_is := gloB_ok X G (c.fact 10 (f := gloB "_law_is") rfl)
  have g__law_rest := gloB_ok X G (c.fact 11 (f := gloB "_law_rest") rfl)
  have g__law_half := gloB_ok X G (c.fact 12 (f := gloB "_law_half") rfl)
  have g__law_divides := gloB_ok X G (c.fact 13 (f := gloB "_law_divides") rfl)
  have g__law_turns := gloB_ok X G (c.fact 14 (f := gloB "_law_turns") rfl)
  have g__law_picked := gloB_ok X G (c.fact 15 (f := gloB "_law_picked") rfl)
  have g__law_size := gloB_ok X G (c.fact 16 (f := gloB "_law_size") rfl)
  have g__law_numbers := gloB_ok X G (c.fact 17 (f := gloB "_law_numbers") rfl)
  have g__law_field := gloB_ok X G (c.fact 18 (f := gloB "_law_field") rfl)
  have g__law_right := gloB_ok X G (c.fact 19 (f := gloB "_law_right") rfl)
  have g_law := gloB_ok X G (c.fact 20 (f := gloB "law") rfl)
  have e := hfa.symm.trans g_law
  cases e
  have n_rest_of : Binds K fd_rest_of ["integer", "modulus"] [] := FunD.bindsN F_rest_of fun _ _ _ _ _ _ us hl => match us, hl with | [_, _], _ => rfl
  have n_divides : Binds K fd_divides ["one", "other"] [] := FunD.bindsN F_divides fun _ _ _ _ _ _ us hl => match us, hl with | [_, _], _ => rfl
  have n_mark_of : Binds K fd_mark_of ["dial", "integer"] [] := FunD.bindsN F_mark_of fun _ _ _ _ _ _ us hl => match us, hl with | [_, _], _ => rfl
  have n_turned_mark : Binds K fd_turned_mark ["dial", "integer"] [] := FunD.bindsN F_turned_mark fun _ _ _ _ _ _ us hl => match us, hl with | [_, _], _ => rfl
  have n_half_of : Binds K fd_half_of ["dial"] [] := FunD.bindsN F_half_of fun _ _ _ _ _ _ us hl => match us, hl with | [_], _ => rfl
  have n_is_turning : Binds K fd_is_turning ["dial"] [] := FunD.bindsN F_is_turning fun _ _ _ _ _ _ us hl => match us, hl with | [_], _ => rfl
  have n_is_loud : Binds K fd_is_loud ["dial"] [] := FunD.bindsN F_is_loud fun _ _ _ _ _ _ us hl => match us, hl with | [_], _ => rfl
  have n_field_prime : Binds K fd_field_prime ["dial"] [] := FunD.bindsN F_field_prime fun _ _ _ _ _ _ us hl => match us, hl with | [_], _ => rfl
  have n__law_pool : Binds K fd__law_pool ["script", "salt"] [] := FunD.bindsN F__law_pool fun _ _ _ _ _ _ us hl => match us, hl with | [_, _], _ => rfl
  have n__law_draw : Binds K fd__law_draw ["pool", "many"] [] := FunD.bindsN F__law_draw fun _ _ _ _ _ _ us hl => match us, hl with | [_, _], _ => rfl
  have n__law_is : Binds K fd__law_is ["told", "due"] [] := FunD.bindsN F__law_is fun _ _ _ _ _ _ us hl => match us, hl with | [_, _], _ => rfl
  have n__law_rest : Binds K fd__law_rest ["many", "value"] [] := FunD.bindsN F__law_rest fun _ _ _ _ _ _ us hl => match us, hl with | [_, _], _ => rfl
  have n__law_half : Binds K fd__law_half ["dial"] [] := FunD.bindsN F__law_half fun _ _ _ _ _ _ us hl => match us, hl with | [_], _ => rfl
  have n__law_divides : Binds K fd__law_divides ["number", "value"] [] := FunD.bindsN F__law_divides fun _ _ _ _ _ _ us hl => match us, hl with | [_, _], _ => rfl
  have n__law_turns : Binds K fd__law_turns ["many"] [] := FunD.bindsN F__law_turns fun _ _ _ _ _ _ us hl => match us, hl with | [_], _ => rfl
  have n__law_picked : Binds K fd__law_picked ["pool", "rows"] [] := FunD.bindsN F__law_picked fun _ _ _ _ _ _ us hl => match us, hl with | [_, _], _ => rfl
  have n__law_size : Binds K fd__law_size ["pool"] [] := FunD.bindsN F__law_size fun _ _ _ _ _ _ us hl => match us, hl with | [_], _ => rfl
  have n__law_numbers : Binds K fd__law_numbers ["pool", "dial", "half"] [] := FunD.bindsN F__law_numbers fun _ _ _ _ _ _ us hl => match us, hl with | [_, _, _], _ => rfl
  have n__law_field : Binds K fd__law_field ["dial"] [] := FunD.bindsN F__law_field fun _ _ _ _ _ _ us hl => match us, hl with | [_], _ => rfl
  have n__law_right : Binds K fd__law_right ["pool", "dial"] [] := FunD.bindsN F__law_right fun _ _ _ _ _ _ us hl => match us, hl with | [_, _], _ => rfl
  have n_law : Binds K fd_law ["script"] [] := FunD.bindsN F_law fun _ _ _ _ _ _ us hl => match us, hl with | [_], _ => rfl
  have bL := FunD.bindsA (ps := ["script"]) F_law fun _ _ _ _ _ _ us hl => match us, hl with | [_], _ => rfl
  refine ⟨fd_law, fun s v => bL s [v] rfl, fun base _ _ => ?_⟩
  have d_rest_of : Def P w K mg base 1 "rest_of" ["integer", "modulus"] c_rest_of := ⟨_, _, fn_okF F_rest_of sc_rest_of (fun cdv A outer s H E hr => b_rest_of T  _ cdv A outer s H E hr) v_rest_of, g_rest_of, F_rest_of.kp, n_rest_of⟩
  have d_divides : Def P w K mg base 1 "divides" ["one", "other"] c_divides := ⟨_, _, fn_okF F_divides sc_divides (fun cdv A outer s H E hr => b_divides T  _ cdv A outer s H E hr) v_divides, g_divides, F_divides.kp, n_divides⟩
  have d_mark_of : Def P w K mg base 2 "mark_of" ["dial", "integer"] c_mark_of := ⟨_, _, fn_okF F_mark_of sc_mark_of (fun cdv A outer s H E hr => b_mark_of T d_rest_of _ cdv A outer s H E hr) v_mark_of, g_mark_of, F_mark_of.kp, n_mark_of⟩
  have d_turned_mark : Def P w K mg base 2 "turned_mark" ["dial", "integer"] c_turned_mark := ⟨_, _, fn_okF F_turned_mark sc_turned_mark (fun cdv A outer s H E hr => b_turned_mark T d_rest_of _ cdv A outer s H E hr) v_turned_mark, g_turned_mark, F_turned_mark.kp, n_turned_mark⟩
  have d_half_of : Def P w K mg base 1 "half_of" ["dial"] c_half_of := ⟨_, _, fn_okF F_half_of sc_half_of (fun cdv A outer s H E hr => b_half_of T  _ cdv A outer s H E hr) v_half_of, g_half_of, F_half_of.kp, n_half_of⟩
  have d_is_turning : Def P w K mg base 2 "is_turning" ["dial"] c_is_turning := ⟨_, _, fn_okF F_is_turning sc_is_turning (fun cdv A outer s H E hr => b_is_turning T d_divides _ cdv A outer s H E hr) v_is_turning, g_is_turning, F_is_turning.kp, n_is_turning⟩
  have d_is_loud : Def P w K mg base 2 "is_loud" ["dial"] c_is_loud := ⟨_, _, fn_okF F_is_loud sc_is_loud (fun cdv A outer s H E hr => b_is_loud T d_divides _ cdv A outer s H E hr) v_is_loud, g_is_loud, F_is_loud.kp, n_is_loud⟩
  have d_field_prime : Def P w K mg base 1 "field_prime" ["dial"] c_field_prime := ⟨_, _, fn_okF F_field_prime sc_field_prime (fun cdv A outer s H E hr => b_field_prime T  _ cdv A outer s H E hr) v_field_prime, g_field_prime, F_field_prime.kp, n_field_prime⟩
  have d__law_pool : Def P w K mg base 1 "_law_pool" ["script", "salt"] c__law_pool := ⟨_, _, fn_okF F__law_pool sc__law_pool (fun cdv A outer s H E hr => b__law_pool T  _ cdv A outer s H E hr) v__law_pool, g__law_pool, F__law_pool.kp, n__law_pool⟩
  have d__law_draw : Def P w K mg base 1 "_law_draw" ["pool", "many"] c__law_draw := ⟨_, _, fn_okF F__law_draw sc__law_draw (fun cdv A outer s H E hr => b__law_draw T  _ cdv A outer s H E hr) v__law_draw, g__law_draw, F__law_draw.kp, n__law_draw⟩
  have d__law_is : Def P w K mg base 1 "_law_is" ["told", "due"] c__law_is := ⟨_, _, fn_okF F__law_is sc__law_is (fun cdv A outer s H E hr => b__law_is T  _ cdv A outer s H E hr) v__law_is, g__law_is, F__law_is.kp, n__law_is⟩
  have d__law_rest : Def P w K mg base 1 "_law_rest" ["many", "value"] c__law_rest := ⟨_, _, fn_okF F__law_rest sc__law_rest (fun cdv A outer s H E hr => b__law_rest T  _ cdv A outer s H E hr) v__law_rest, g__law_rest, F__law_rest.kp, n__law_rest⟩
  have d__law_half : Def P w K mg base 1 "_law_half" ["dial"] c__law_half := ⟨_, _, fn_okF F__law_half sc__law_half (fun cdv A outer s H E hr => b__law_half T  _ cdv A outer s H E hr) v__law_half, g__law_half, F__law_half.kp, n__law_half⟩
  have d__law_divides : Def P w K mg base 1 "_law_divides" ["number", "value"] c__law_divides := ⟨_, _, fn_okF F__law_divides sc__law_divides (fun cdv A outer s H E hr => b__law_divides T  _ cdv A outer s H E hr) v__law_divides, g__law_divides, F__law_divides.kp, n__law_divides⟩
  have d__law_turns : Def P w K mg base 1 "_law_turns" ["many"] c__law_turns := ⟨_, _, fn_okF F__law_turns sc__law_turns (fun cdv A outer s H E hr => b__law_turns T  _ cdv A outer s H E hr) v__law_turns, g__law_turns, F__law_turns.kp, n__law_turns⟩
  have d__law_picked : Def P w K mg base 2 "_law_picked" ["pool", "rows"] c__law_picked := ⟨_, _, fn_okF F__law_picked sc__law_picked (fun cdv A outer s H E hr => b__law_picked T d__law_draw _ cdv A outer s H E hr) v__law_picked, g__law_picked, F__law_picked.kp, n__law_picked⟩
  have d__law_size : Def P w K mg base 2 "_law_size" ["pool"] c__law_size := ⟨_, _, fn_okF F__law_size sc__law_size (fun cdv A outer s H E hr => b__law_size T d__law_draw _ cdv A outer s H E hr) v__law_size, g__law_size, F__law_size.kp, n__law_size⟩
  have d__law_numbers : Def P w K mg base 3 "_law_numbers" ["pool", "dial", "half"] c__law_numbers := ⟨_, _, fn_okF F__law_numbers sc__law_numbers (fun cdv A outer s H E hr => b__law_numbers T d__law_draw d__law_picked _ cdv A outer s H E hr) v__law_numbers, g__law_numbers, F__law_numbers.kp, n__law_numbers⟩
  have d__law_field : Def P w K mg base 1 "_law_field" ["dial"] c__law_field := ⟨_, _, fn_okF F__law_field sc__law_field (fun cdv A outer s H E hr => b__law_field T  _ cdv A outer s H E hr) v__law_field, g__law_field, F__law_field.kp, n__law_field⟩
  have d__law_right : Def P w K mg base 4 "_law_right" ["pool", "dial"] c__law_right := ⟨_, _, fn_okF F__law_right sc__law_right (fun cdv A outer s H E hr => b__law_right T d__law_half d__law_is d_half_of d__law_divides d_is_turning d_is_loud d__law_field d_field_prime d__law_numbers d__law_rest d_mark_of d_turned_mark _ cdv A outer s H E hr) v__law_right, g__law_right, F__law_right.kp, n__law_right⟩
  exact fn_okF F_law sc_law (fun cdv A outer s H E hr => b_law T d__law_pool d__law_size d__law_picked d__law_draw d__law_turns d__law_right _ cdv A outer s H E hr) v_law
end K02
open PySem PySem.W PySem.Calls PyProof.Rows
theorem PySem.Challenge.cw_everygain_k02_marks_turned_holds : PySem.Challenge.rw_everygain_k02_marks_turned.Holds := by
  w_on; o_law
  refine HandSHeadRun.head_imp (r := OpenLaw.row PySem.Challenge.rw_everygain_k02_marks_turned) (q := view (OpenLaw.row PySem.Challenge.rw_everygain_k02_marks_turned).prog [0, 24]) (H := K02.hk) (ob := K02.ob) (M := 4000) (loose := K02.loose) (d := HandSHeadRun.topDef (OpenLaw.row PySem.Challenge.rw_everygain_k02_marks_turned).prog 24) (kwd := []) K02.ob_eq
    K02.run (by kernel_rfl) (by kernel_rfl) (by kernel_rfl) (by rfl) (by first | assumption | decide +kernel) (by decide +kernel) ⟨rfl, rfl, rfl, rfl, rfl, by decide +kernel⟩ ?hw ?hc
  case hw => w_witness2
  case hc =>
    refine L2.walk_ofE (l := PySem.Challenge.rw_everygain_k02_marks_turned) (n := 63) (k := 5) (x := "script") (CX := L2.CX0) rfl (by decide) (by kernel_rfl) ⟨rfl, by decide, by decide⟩ ?F (fun _ _ _ _ z => z)
    intro w mg fa h Y G hmg0
    obtain ⟨K, KX, c⟩ := Y
    have hmg : mg ("law" : PySem.Str) = some (.ref fa) := by
      have e : (HandSHeadRun.topDef (OpenLaw.row PySem.Challenge.rw_everygain_k02_marks_turned).prog 24).name = ("law" : PySem.Str) := by kernel_rfl
      rw [← e]
      exact hmg0
    obtain ⟨fd, hb, hF⟩ := K02.facts (P := (PySem.Challenge.rw_everygain_k02_marks_turned).prog) (w := w) KX G hmg c
    exact ⟨K, fd, DL.SpD K 1 K02.c_law, KX, hb, fun H a ns hl _ hS => DL.law_sp (np := 1) (E := fun _ _ _ => False) (K02.law_in hl) hS, hF⟩

