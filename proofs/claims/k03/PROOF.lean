import PyProof.Rows.All
import Wide.All
import OpenK.AllK
import Wide.FinOn
import HandS.ForMost
import HandS.Wide
import HandS.Gcd
import HandS.Walk
import HandS.IsInst
import KE.KStateDown
import HandS.More
import HandS.WordsExc
import HandS.Defaults
import HandS.Head0
import HandS.Head1
import HandS.Head2
import HandS.HeadEnd
import HandS.HeadHook1
import HandS.HeadHook2
import KE.DataCmp
import KE.SortKeyed
import KE.DataMinMax
import KE.DataFind
import HandS.Deep
import HandS.TupAny
import HandS.Text
import HandS.Zip
import HandS.Conv
import HandS.Iter
import HandS.TupSets
import HandS.Head3
import PySem.Challenge.RW_everygain_k03_residues
set_option Elab.async false
set_option linter.all false
set_option maxRecDepth 100000
set_option maxHeartbeats 4000000
/-! DL: a data layer over HandS: values by content, a store of own mutable lists, readings that compute. -/
namespace DL
open PySem PySem.Spec PyProof.Rows L2

/-- a value by content; ref n: the n-th object of the store -/
inductive D where
  | non | bl (b : Bool) | int (i : Int) | str (s : Str) | tup (ds : List D) | lst (ds : List D) | ref (n : Nat)

inductive Ob where
  | lst (ds : List D)
  | gone
abbrev Store := List Ob
abbrev Env := List (Option D)
/-- where the store's objects stand; what else is kept apart -/
structure Mu where
  sl : List (Option Addr)
  rs : List Addr
def Mu.has (μ : Mu) (a : Addr) : Prop := some a ∈ μ.sl ∨ a ∈ μ.rs
def Mu.add (μ : Mu) (p : Addr) : Mu := ⟨μ.sl ++ [some p], μ.rs⟩

/-- a list of the written part -/
def KL (K : PySem.W.Frag) (a : Addr) (xs : List V) : Prop :=
  ∃ (o : Obj) (its : Array Value) (n : Nat), K.lookup a = some o ∧ o.cls = .type "list" ∧ o.dict = none ∧ o.data = .seq its n ∧ its.size ≤ sizeLine ∧ Vals xs its.toList
def KT (K : PySem.W.Frag) (a : Addr) (xs : List V) : Prop :=
  ∃ (o : Obj) (its : Array Value) (n : Nat), K.lookup a = some o ∧ o.cls = .type "tuple" ∧ o.data = .seq its n ∧ its.size ≤ sizeLine ∧ Vals xs its.toList

mutual
inductive Rep (K : PySem.W.Frag) (μ : Mu) (H : Hp) : D → V → Prop
  | non : Rep K μ H .non .non
  | bl (b : Bool) : Rep K μ H (.bl b) (.bl b)
  | int (i : Int) : Rep K μ H (.int i) (.int i)
  | str (x : Str) : Rep K μ H (.str x) (.str x)
  | tup {a : Addr} {xs : List V} {ds : List D} : Rd H a (.tup xs) ∨ KT K a xs → RepAll K μ H ds xs → Rep K μ H (.tup ds) (.ref a)
  | lst {a : Addr} {xs : List V} {ds : List D} : (Rd H a (.lst xs) ∧ ¬ μ.has a) ∨ KL K a xs → RepAll K μ H ds xs → Rep K μ H (.lst ds) (.ref a)
  | ref {n : Nat} {a : Addr} : μ.sl[n]? = some (some a) → Rep K μ H (.ref n) (.ref a)
inductive RepAll (K : PySem.W.Frag) (μ : Mu) (H : Hp) : List D → List V → Prop
  | nil : RepAll K μ H [] []
  | cons {d : D} {ds : List D} {v : V} {vs : List V} : Rep K μ H d v → RepAll K μ H ds vs → RepAll K μ H (d :: ds) (v :: vs)
end

structure Grow (μ : Mu) (H : Hp) (μ' : Mu) (H' : Hp) : Prop where
  tup : ∀ (a : Addr) (xs : List V), Rd H a (.tup xs) → Rd H' a (.tup xs)
  lst : ∀ (a : Addr) (xs : List V), Rd H a (.lst xs) → ¬ μ.has a → Rd H' a (.lst xs) ∧ ¬ μ'.has a
  ref : ∀ (n : Nat) (a : Addr), μ.sl[n]? = some (some a) → μ'.sl[n]? = some (some a)
  rs : ∀ (a : Addr), a ∈ μ.rs → a ∈ μ'.rs ∧ ∀ o, H a = some o → H' a = some o

section
variable {K : PySem.W.Frag} {μ μ' μ1 μ2 : Mu} {H H' H1 H2 : Hp}
theorem Grow.refl : Grow μ H μ H := ⟨fun _ _ h => h, fun _ _ h n => ⟨h, n⟩, fun _ _ h => h, fun _ h => ⟨h, fun _ h => h⟩⟩
theorem Grow.trans (g : Grow μ H μ1 H1) (k : Grow μ1 H1 μ2 H2) : Grow μ H μ2 H2 :=
  ⟨fun a xs h => k.tup a xs (g.tup a xs h), fun a xs h n => let ⟨h1, n1⟩ := g.lst a xs h n; k.lst a xs h1 n1, fun n a h => k.ref n a (g.ref n a h), fun a h => let ⟨h1, e1⟩ := g.rs a h; let ⟨h2, e2⟩ := k.rs a h1; ⟨h2, fun o z => e2 o (e1 o z)⟩⟩
mutual
theorem Rep.grow (g : Grow μ H μ' H') : ∀ {d : D} {v : V}, Rep K μ H d v → Rep K μ' H' d v
  | _, _, .non => .non
  | _, _, .bl b => .bl b
  | _, _, .int i => .int i
  | _, _, .str x => .str x
  | _, _, .tup h r => .tup (h.imp (g.tup _ _) id) (RepAll.grow g r)
  | _, _, .lst h r => .lst (h.imp (fun z => g.lst _ _ z.1 z.2) id) (RepAll.grow g r)
  | _, _, .ref h => .ref (g.ref _ _ h)
theorem RepAll.grow (g : Grow μ H μ' H') : ∀ {ds : List D} {vs : List V}, RepAll K μ H ds vs → RepAll K μ' H' ds vs
  | _, _, .nil => .nil
  | _, _, .cons r t => .cons (Rep.grow g r) (RepAll.grow g t)
end
theorem RepAll.length : ∀ {ds : List D} {vs : List V}, RepAll K μ H ds vs → ds.length = vs.length
  | _, _, .nil => rfl
  | _, _, .cons _ t => congrArg (· + 1) (RepAll.length t)
theorem RepAll.get : ∀ {ds : List D} {vs : List V} {i : Nat} {d : D}, RepAll K μ H ds vs → ds[i]? = some d → ∃ v, vs[i]? = some v ∧ Rep K μ H d v
  | _, _, _, _, .nil, e => by simp at e
  | _, _, 0, _, .cons r _, e => by simp at e; subst e; exact ⟨_, rfl, r⟩
  | _, _, i + 1, d, .cons _ t, e => by
    obtain ⟨v, h1, h2⟩ := RepAll.get (i := i) (d := d) t (by simpa using e)
    exact ⟨v, by simpa using h1, h2⟩
theorem RepAll.getV : ∀ {ds : List D} {vs : List V} {i : Nat} {v : V}, RepAll K μ H ds vs → vs[i]? = some v → ∃ d, ds[i]? = some d ∧ Rep K μ H d v
  | _, _, _, _, .nil, e => by simp at e
  | _, _, 0, _, .cons r _, e => by simp at e; subst e; exact ⟨_, rfl, r⟩
  | _, _, i + 1, v, .cons _ t, e => by
    obtain ⟨d, h1, h2⟩ := RepAll.getV (i := i) (v := v) t (by simpa using e)
    exact ⟨d, by simpa using h1, h2⟩
theorem RepAll.append : ∀ {ds es : List D} {vs ws : List V}, RepAll K μ H ds vs → RepAll K μ H es ws → RepAll K μ H (ds ++ es) (vs ++ ws)
  | _, _, _, _, .nil, s => s
  | _, _, _, _, .cons r t, s => .cons r (RepAll.append t s)
theorem RepAll.one {d : D} {v : V} (h : Rep K μ H d v) : RepAll K μ H [d] [v] := .cons h .nil
theorem RepAll.set {d : D} {v : V} (r : Rep K μ H d v) : ∀ {ds : List D} {vs : List V} (i : Nat), RepAll K μ H ds vs → RepAll K μ H (ds.set i d) (vs.set i v)
  | _, _, _, .nil => .nil
  | _, _, 0, .cons _ t => .cons r t
  | _, _, i + 1, .cons q t => .cons q (RepAll.set r i t)
theorem RepAll.take : ∀ {ds : List D} {vs : List V} (n : Nat), RepAll K μ H ds vs → RepAll K μ H (ds.take n) (vs.take n)
  | _, _, 0, _ => .nil
  | _, _, _ + 1, .nil => .nil
  | _, _, n + 1, .cons r t => .cons r (RepAll.take n t)
theorem RepAll.drop : ∀ {ds : List D} {vs : List V} (n : Nat), RepAll K μ H ds vs → RepAll K μ H (ds.drop n) (vs.drop n)
  | _, _, 0, r => r
  | _, _, _ + 1, .nil => .nil
  | _, _, n + 1, .cons _ t => RepAll.drop n t
theorem RepAll.eraseIdx : ∀ {ds : List D} {vs : List V} (i : Nat), RepAll K μ H ds vs → RepAll K μ H (ds.eraseIdx i) (vs.eraseIdx i)
  | _, _, _, .nil => .nil
  | _, _, 0, .cons _ t => t
  | _, _, i + 1, .cons r t => .cons r (RepAll.eraseIdx i t)
theorem RepAll.dropLast {ds : List D} {vs : List V} (r : RepAll K μ H ds vs) : RepAll K μ H ds.dropLast vs.dropLast := by
  rw [List.dropLast_eq_take, List.dropLast_eq_take, r.length]
  exact r.take _
theorem RepAll.reverse : ∀ {ds : List D} {vs : List V}, RepAll K μ H ds vs → RepAll K μ H ds.reverse vs.reverse
  | _, _, .nil => .nil
  | _, _, .cons r t => by
    rw [List.reverse_cons, List.reverse_cons]
    exact RepAll.append (RepAll.reverse t) (.one r)
theorem RepAll.snoc {ds : List D} {d : D} {vs : List V} (h : RepAll K μ H (ds ++ [d]) vs) : ∃ ws v, vs = ws ++ [v] ∧ RepAll K μ H ds ws ∧ Rep K μ H d v := by
  have e := h.length
  rw [List.length_append, List.length_singleton] at e
  obtain ⟨v, hv, rv⟩ := h.get (i := ds.length) (d := d) (by simp)
  refine ⟨vs.take ds.length, v, ?_, ?_, rv⟩
  · have : vs = vs.take ds.length ++ vs.drop ds.length := (List.take_append_drop _ _).symm
    rw [List.drop_eq_getElem_cons (by omega), List.drop_of_length_le (by omega)] at this
    rw [List.getElem?_eq_getElem (by omega)] at hv
    rw [Option.some.inj hv] at this
    exact this
  · have := h.take ds.length
    rwa [List.take_left] at this
theorem RepAll.sub : ∀ {ds : List D} {vs : List V} (k : List V), k.Sublist vs → RepAll K μ H ds vs → ∃ es : List D, RepAll K μ H es k ∧ es.Sublist ds
  | _, _, _, .slnil, .nil => ⟨[], .nil, .slnil⟩
  | _, _, _, .cons _ s, .cons _ t => let ⟨es, r, q⟩ := RepAll.sub _ s t; ⟨es, r, .cons _ q⟩
  | _, _, _, .cons₂ _ s, .cons h t => let ⟨es, r, q⟩ := RepAll.sub _ s t; ⟨_ :: es, .cons h r, .cons₂ _ q⟩
theorem Rep.int_inv {i : Int} {v : V} (h : Rep K μ H (.int i) v) : v = .int i := by cases h; rfl
theorem Rep.bl_inv {b : Bool} {v : V} (h : Rep K μ H (.bl b) v) : v = .bl b := by cases h; rfl
theorem Rep.str_inv {b : Str} {v : V} (h : Rep K μ H (.str b) v) : v = .str b := by cases h; rfl
theorem Rep.tupS {ds : List D} {v : V} (h : Rep K μ H (.tup ds) v) : ∃ a xs, v = .ref a ∧ SqT K H a xs ∧ RepAll K μ H ds xs := by
  cases h with
  | tup h r => exact ⟨_, _, rfl, h, r⟩
theorem Rep.lstS {ds : List D} {v : V} (h : Rep K μ H (.lst ds) v) : ∃ a xs, v = .ref a ∧ SqL K H a xs ∧ RepAll K μ H ds xs := by
  cases h with
  | lst h r => exact ⟨_, _, rfl, h.imp And.left id, r⟩
theorem RepAll.ints : ∀ {ns : List Int} {vs : List V}, RepAll K μ H (ns.map D.int) vs → vs = ns.map V.int
  | [], _, h => by cases h; rfl
  | n :: ns, _, h => by
    cases h with
    | cons r t =>
      cases r
      rw [RepAll.ints t]
      rfl
theorem repInts : ∀ (ns : List Int), RepAll K μ H (ns.map D.int) (ns.map V.int)
  | [] => .nil
  | n :: ns => .cons (.int n) (repInts ns)
end

/-! ### the store -/
structure Sim (K : PySem.W.Frag) (μ : Mu) (S : Store) (H : Hp) : Prop where
  len : μ.sl.length = S.length
  inj : ∀ (i j : Nat) (a : Addr), μ.sl[i]? = some (some a) → μ.sl[j]? = some (some a) → i = j
  trk : ∀ (n : Nat) (a : Addr), μ.sl[n]? = some (some a) → (∃ o, H a = some o) ∧ a ∉ μ.rs
  trs : ∀ (a : Addr), a ∈ μ.rs → ∃ o, H a = some o
  ob : ∀ (n : Nat) (ds : List D), S[n]? = some (.lst ds) → ∃ a xs, μ.sl[n]? = some (some a) ∧ H a = some (.lst xs) ∧ RepAll K μ H ds xs

def EnvR (K : PySem.W.Frag) (μ : Mu) (H : Hp) (ρ : Env) (σ : L2.St) : Prop :=
  ρ.length = σ.length ∧ ∀ (i : Nat) (d : D), ρ[i]? = some (some d) → ∃ v, σ[i]? = some (some v) ∧ Rep K μ H d v

section
variable {K : PySem.W.Frag} {μ μ' μ1 μ2 : Mu} {H H' H1 H2 : Hp} {S S' : Store} {ρ : Env} {σ : L2.St}
theorem EnvR.grow (g : Grow μ H μ' H') (h : EnvR K μ H ρ σ) : EnvR K μ' H' ρ σ :=
  ⟨h.1, fun i d e => let ⟨v, h1, h2⟩ := h.2 i d e; ⟨v, h1, h2.grow g⟩⟩
theorem EnvR.set {i : Nat} {d : D} {v : V} (h : EnvR K μ H ρ σ) (r : Rep K μ H d v) : EnvR K μ H (ρ.set i (some d)) (σ.set i (some v)) := by
  refine ⟨by simpa using h.1, fun j e q => ?_⟩
  by_cases hj : i = j
  · subst hj
    by_cases hi : i < ρ.length
    · rw [List.getElem?_set_self hi] at q
      cases q
      exact ⟨v, List.getElem?_set_self (by rw [← h.1]; exact hi), r⟩
    · rw [List.getElem?_eq_none (by simpa using hi)] at q
      cases q
  · rw [List.getElem?_set_ne hj] at q
    rw [List.getElem?_set_ne hj]
    exact h.2 j e q
theorem Sim.notin (m : Sim K μ S H) {a : Addr} (h : H a = none) : ¬ μ.has a := fun hm => by
  rcases hm with hm | hm
  · obtain ⟨n, hn⟩ := List.getElem?_of_mem hm
    obtain ⟨⟨o, ho⟩, _⟩ := m.trk n a hn
    rw [h] at ho; cases ho
  · obtain ⟨o, ho⟩ := m.trs a hm
    rw [h] at ho; cases ho
/-- the tracked objects of the store as they were -/
theorem Sim.grow (m : Sim K μ S H) (g : Grow μ H μ H') (k : ∀ (n : Nat) (a : Addr), μ.sl[n]? = some (some a) → H' a = H a) : Sim K μ S H' :=
  ⟨m.len, m.inj, fun n a h => let ⟨⟨o, ho⟩, hr⟩ := m.trk n a h; ⟨⟨o, by rw [k n a h]; exact ho⟩, hr⟩, fun a h => let ⟨o, ho⟩ := m.trs a h; ⟨o, (g.rs a h).2 o ho⟩,
    fun n ds h => let ⟨a, xs, h1, h2, h3⟩ := m.ob n ds h; ⟨a, xs, h1, by rw [k n a h1]; exact h2, h3.grow g⟩⟩
theorem rd_new {a p : Addr} {o u : HO} (h : Rd H a u) (hp : H p = none) : Rd (upd H p o) a u := by
  rcases h with h | ⟨ob, h⟩
  · exact .inl (by rw [upd_ne (ne_of_none h hp)]; exact h)
  · exact .inr ⟨ob, by rw [upd_ne (ne_of_none h hp)]; exact h⟩
theorem rd_ne {a p : Addr} {u : HO} (h : Rd H a u) (hp : H p = none) : a ≠ p := by
  rcases h with h | ⟨ob, h⟩
  · exact ne_of_none h hp
  · exact ne_of_none h hp
theorem Grow.new {p : Addr} {o : HO} (hp : H p = none) : Grow μ H μ (upd H p o) :=
  ⟨fun _ _ h => rd_new h hp, fun _ _ h n => ⟨rd_new h hp, n⟩, fun _ _ h => h, fun a h => ⟨h, fun u z => by rw [upd_ne (ne_of_none z hp)]; exact z⟩⟩
theorem Sim.new {p : Addr} {o : HO} (m : Sim K μ S H) (hp : H p = none) : Sim K μ S (upd H p o) :=
  m.grow (.new hp) fun n a h => by
    obtain ⟨⟨u, hu⟩, _⟩ := m.trk n a h
    exact upd_ne (ne_of_none hu hp)
/-- a new object of the store -/
theorem Grow.alloc {p : Addr} {o : HO} (hp : H p = none) : Grow μ H (μ.add p) (upd H p o) :=
  ⟨fun _ _ h => rd_new h hp, fun a xs h n => ⟨rd_new h hp, fun hm => by
    rcases hm with z | z
    · rcases List.mem_append.mp z with z | z
      · exact n (.inl z)
      · have e : a = p := by simpa using z
        exact rd_ne h hp e
    · exact n (.inr z)⟩,
    fun n a h => by
      have hn : n < μ.sl.length := (List.getElem?_eq_some_iff.mp h).1
      show (μ.sl ++ [some p])[n]? = _
      rw [List.getElem?_append_left hn]
      exact h,
    fun a h => ⟨h, fun u z => by rw [upd_ne (ne_of_none z hp)]; exact z⟩⟩
theorem Sim.alloc {p : Addr} {ds : List D} {xs : List V} (m : Sim K μ S H) (hp : H p = none) (r : RepAll K μ H ds xs) : Sim K (μ.add p) (S ++ [.lst ds]) (upd H p (.lst xs)) := by
  have nin := m.notin hp
  have back : ∀ i a, (μ.sl ++ [some p])[i]? = some (some a) → (μ.sl[i]? = some (some a) ∧ a ≠ p) ∨ (i = μ.sl.length ∧ a = p) := fun i a h => by
    by_cases hi : i < μ.sl.length
    · rw [List.getElem?_append_left hi] at h
      refine .inl ⟨h, fun e => ?_⟩
      subst e
      exact nin (.inl (List.mem_of_getElem? h))
    · rw [List.getElem?_append_right (by omega)] at h
      have e := (List.getElem?_eq_some_iff.mp h)
      obtain ⟨hl, e⟩ := e
      have : i - μ.sl.length = 0 := by simp at hl; omega
      refine .inr ⟨by omega, ?_⟩
      simp [this] at e
      exact e.symm
  refine ⟨by simp [Mu.add, m.len], fun i j a h1 h2 => ?_, fun n a h => ?_, fun a h => ?_, fun n es h => ?_⟩
  · rcases back i a h1 with ⟨x, nx⟩ | ⟨x, nx⟩ <;> rcases back j a h2 with ⟨y, ny⟩ | ⟨y, ny⟩
    · exact m.inj i j a x y
    · exact absurd ny nx
    · exact absurd nx ny
    · omega
  · rcases back n a h with ⟨x, nx⟩ | ⟨_, nx⟩
    · obtain ⟨⟨o, ho⟩, hr⟩ := m.trk n a x
      exact ⟨⟨o, by rw [upd_ne nx]; exact ho⟩, hr⟩
    · subst nx
      exact ⟨⟨_, upd_same⟩, fun z => nin (.inr z)⟩
  · obtain ⟨o, ho⟩ := m.trs a h
    exact ⟨o, by rw [upd_ne (ne_of_none ho hp)]; exact ho⟩
  · by_cases hn : n < S.length
    · rw [List.getElem?_append_left hn] at h
      obtain ⟨a, ys, h1, h2, h3⟩ := m.ob n es h
      refine ⟨a, ys, ?_, ?_, h3.grow (.alloc hp)⟩
      · show (μ.sl ++ [some p])[n]? = _
        rw [List.getElem?_append_left (by rw [m.len]; exact hn)]
        exact h1
      · rw [upd_ne (ne_of_none h2 hp)]
        exact h2
    · rw [List.getElem?_append_right (by omega)] at h
      have e := (List.getElem?_eq_some_iff.mp h)
      obtain ⟨hl, e⟩ := e
      have q : n - S.length = 0 := by simp at hl; omega
      simp [q] at e
      subst e
      refine ⟨p, xs, ?_, upd_same, r.grow (.alloc hp)⟩
      show (μ.sl ++ [some p])[n]? = _
      rw [List.getElem?_append_right (by rw [m.len]; omega)]
      have q' : n - μ.sl.length = 0 := by rw [m.len]; omega
      rw [q']
      rfl
/-- the n-th object is written -/
theorem Grow.put {n : Nat} {a : Addr} {xs ys : List V} (m : Sim K μ S H) (h : μ.sl[n]? = some (some a)) (ha : H a = some (.lst xs)) : Grow μ H μ (upd H a (.lst ys)) :=
  ⟨fun b zs hb => by
    have nb : b ≠ a := fun e => by
      subst e
      rcases hb with hb | ⟨ob, hb⟩ <;> rw [ha] at hb <;> cases hb
    rcases hb with hb | ⟨ob, hb⟩
    · exact .inl (by rw [upd_ne nb]; exact hb)
    · exact .inr ⟨ob, by rw [upd_ne nb]; exact hb⟩,
   fun b zs hb hn => by
    have nb : b ≠ a := fun e => by
      subst e
      exact hn (.inl (List.mem_of_getElem? h))
    rcases hb with hb | ⟨ob, hb⟩
    · exact ⟨.inl (by rw [upd_ne nb]; exact hb), hn⟩
    · exact ⟨.inr ⟨ob, by rw [upd_ne nb]; exact hb⟩, hn⟩, fun _ _ h => h,
   fun b hb => ⟨hb, fun o z => by rw [upd_ne (fun e => (m.trk n a h).2 (by rw [← e]; exact hb))]; exact z⟩⟩
theorem Sim.put {n : Nat} {a : Addr} {xs ys : List V} {es : List D} (m : Sim K μ S H) (h : μ.sl[n]? = some (some a)) (ha : H a = some (.lst xs)) (r : RepAll K μ H es ys) : Sim K μ (S.set n (.lst es)) (upd H a (.lst ys)) := by
  refine ⟨by simp [m.len], m.inj, fun i b hb => ?_, fun b hb => ?_, fun i fs hi => ?_⟩
  · obtain ⟨⟨o, ho⟩, hr⟩ := m.trk i b hb
    by_cases e : b = a
    · subst e
      exact ⟨⟨_, upd_same⟩, hr⟩
    · exact ⟨⟨o, by rw [upd_ne e]; exact ho⟩, hr⟩
  · obtain ⟨o, ho⟩ := m.trs b hb
    exact ⟨o, by rw [upd_ne (fun e => (m.trk n a h).2 (by rw [← e]; exact hb))]; exact ho⟩
  · by_cases e : n = i
    · subst e
      have hn : n < S.length := by rw [← m.len]; exact (List.getElem?_eq_some_iff.mp h).1
      rw [List.getElem?_set_self hn] at hi
      cases hi
      exact ⟨a, ys, h, upd_same, r.grow (.put m h ha)⟩
    · rw [List.getElem?_set_ne e] at hi
      obtain ⟨b, zs, h1, h2, h3⟩ := m.ob i fs hi
      refine ⟨b, zs, h1, ?_, h3.grow (.put m h ha)⟩
      rw [upd_ne (fun z => e (m.inj n i a h (by rw [← z]; exact h1)))]
      exact h2
theorem Sim.at (m : Sim K μ S H) {n : Nat} {ds : List D} {v : V} (h : S[n]? = some (.lst ds)) (r : Rep K μ H (.ref n) v) : ∃ a xs, v = .ref a ∧ μ.sl[n]? = some (some a) ∧ H a = some (.lst xs) ∧ RepAll K μ H ds xs := by
  cases r with
  | ref e =>
    obtain ⟨a, xs, h1, h2, h3⟩ := m.ob n ds h
    rw [e] at h1
    cases h1
    exact ⟨_, xs, rfl, e, h2, h3⟩
end
end DL

set_option maxHeartbeats 4000000
namespace DL
open PySem PySem.Spec PyProof.Rows L2

/-! ### readings by content -/
abbrev WE := Env → Store → (D → Store → Prop) → Prop
abbrev WT := Env → Store → (Bool → Store → Prop) → Prop
abbrev WA := Env → Store → (List D → Store → Prop) → Prop
structure EndsD where
  nx : Env → Store → Prop
  rt : D → Store → Prop
  bk : Env → Store → Prop := fun _ _ => False
  ct : Env → Store → Prop := fun _ _ => False
abbrev WS := EndsD → Env → Store → Prop

def Post (K : PySem.W.Frag) (μ : Mu) (H : Hp) (Q0 : D → Store → Prop) (Q : VK) : Prop := ∀ d S', Q0 d S' → ∀ μ' v H', Grow μ H μ' H' → Sim K μ' S' H' → Rep K μ' H' d v → Q v H'
def PostT (K : PySem.W.Frag) (μ : Mu) (H : Hp) (Q0 : Bool → Store → Prop) (Q : Bool → Hp → Prop) : Prop := ∀ b S', Q0 b S' → ∀ μ' H', Grow μ H μ' H' → Sim K μ' S' H' → Q b H'
def PostA (K : PySem.W.Frag) (μ : Mu) (H : Hp) (Q0 : List D → Store → Prop) (Q : List V → Hp → Prop) : Prop := ∀ ds S', Q0 ds S' → ∀ μ' vs H', Grow μ H μ' H' → Sim K μ' S' H' → RepAll K μ' H' ds vs → Q vs H'
def LE (K : PySem.W.Frag) (w : WE) : TE := fun σ H Q => ∃ μ S ρ Q0, Sim K μ S H ∧ EnvR K μ H ρ σ ∧ w ρ S Q0 ∧ Post K μ H Q0 Q
def LT (K : PySem.W.Frag) (w : WT) : TT := fun σ H Q => ∃ μ S ρ Q0, Sim K μ S H ∧ EnvR K μ H ρ σ ∧ w ρ S Q0 ∧ PostT K μ H Q0 Q
def LA (K : PySem.W.Frag) (w : WA) : TA := fun σ H Q => ∃ μ S ρ Q0, Sim K μ S H ∧ EnvR K μ H ρ σ ∧ w ρ S Q0 ∧ PostA K μ H Q0 Q
abbrev SE (X : Cx) (e : Expr) (w : WE) : Prop := PE X e (LE X.K w)
abbrev ST (X : Cx) (e : Expr) (w : WT) : Prop := PT X e (LT X.K w)
abbrev SW (X : Cx) (e : Expr) (w : WT) : Prop := PW X e (LT X.K w)
abbrev SA (X : Cx) (es : List Expr) (w : WA) : Prop := PA X es (LA X.K w)

section
variable {X : Cx} {e a b : Expr}
theorem pe_weak {t t' : TE} (h : PE X e t) (hw : ∀ σ H Q, t' σ H Q → t σ H Q) : PE X e t' := ⟨fun pins s σ H Q I q => h.run pins s σ H Q I (hw _ _ _ q)⟩
theorem pt_weak {t t' : TT} (h : PT X e t) (hw : ∀ σ H Q, t' σ H Q → t σ H Q) : PT X e t' := ⟨fun pins s σ H Q I q => h.run pins s σ H Q I (hw _ _ _ q)⟩
theorem pw_weak {t t' : TT} (h : PW X e t) (hw : ∀ σ H Q, t' σ H Q → t σ H Q) : PW X e t' := ⟨fun wh pins s σ H Q I q => h.run wh pins s σ H Q I (hw _ _ _ q)⟩
theorem pa_weak {es : List Expr} {t t' : TA} (h : PA X es t) (hw : ∀ σ H Q, t' σ H Q → t σ H Q) : PA X es t' := ⟨fun pos pins s σ H Q I q => h.run pos pins s σ H Q I (hw _ _ _ q)⟩
end

theorem Post.go {K : PySem.W.Frag} {μ μ' : Mu} {H H' : Hp} {Q0 : D → Store → Prop} {Q : VK} (h : Post K μ H Q0 Q) (g : Grow μ H μ' H') : Post K μ' H' Q0 Q :=
  fun d S' q μ2 v H2 g2 m r => h d S' q μ2 v H2 (g.trans g2) m r
theorem Post.now {K : PySem.W.Frag} {μ : Mu} {H : Hp} {S : Store} {d : D} {v : V} {Q0 : D → Store → Prop} {Q : VK} (h : Post K μ H Q0 Q) (m : Sim K μ S H) (r : Rep K μ H d v) (q : Q0 d S) : Q v H :=
  h d S q μ v H .refl m r
theorem PostT.go {K : PySem.W.Frag} {μ μ' : Mu} {H H' : Hp} {Q0 : Bool → Store → Prop} {Q : Bool → Hp → Prop} (h : PostT K μ H Q0 Q) (g : Grow μ H μ' H') : PostT K μ' H' Q0 Q :=
  fun d S' q μ2 H2 g2 m => h d S' q μ2 H2 (g.trans g2) m
theorem PostA.go {K : PySem.W.Frag} {μ μ' : Mu} {H H' : Hp} {Q0 : List D → Store → Prop} {Q : List V → Hp → Prop} (h : PostA K μ H Q0 Q) (g : Grow μ H μ' H') : PostA K μ' H' Q0 Q :=
  fun d S' q μ2 v H2 g2 m r => h d S' q μ2 v H2 (g.trans g2) m r

/-- run a part, go on behind it -/
theorem LE.run {K : PySem.W.Frag} {w : WE} {μ : Mu} {S : Store} {ρ : Env} {σ : L2.St} {H : Hp} {Q0 : D → Store → Prop} {Q : VK} (m : Sim K μ S H) (e : EnvR K μ H ρ σ) (h : w ρ S Q0)
    (k : ∀ d S' μ' v H', Q0 d S' → Grow μ H μ' H' → Sim K μ' S' H' → EnvR K μ' H' ρ σ → Rep K μ' H' d v → Q v H') : LE K w σ H Q :=
  ⟨μ, S, ρ, Q0, m, e, h, fun d S' q μ' v H' g m' r => k d S' μ' v H' q g m' (e.grow g) r⟩
theorem LT.run {K : PySem.W.Frag} {w : WT} {μ : Mu} {S : Store} {ρ : Env} {σ : L2.St} {H : Hp} {Q0 : Bool → Store → Prop} {Q : Bool → Hp → Prop} (m : Sim K μ S H) (e : EnvR K μ H ρ σ) (h : w ρ S Q0)
    (k : ∀ d S' μ' H', Q0 d S' → Grow μ H μ' H' → Sim K μ' S' H' → EnvR K μ' H' ρ σ → Q d H') : LT K w σ H Q :=
  ⟨μ, S, ρ, Q0, m, e, h, fun d S' q μ' H' g m' => k d S' μ' H' q g m' (e.grow g)⟩
theorem LA.run {K : PySem.W.Frag} {w : WA} {μ : Mu} {S : Store} {ρ : Env} {σ : L2.St} {H : Hp} {Q0 : List D → Store → Prop} {Q : List V → Hp → Prop} (m : Sim K μ S H) (e : EnvR K μ H ρ σ) (h : w ρ S Q0)
    (k : ∀ ds S' μ' vs H', Q0 ds S' → Grow μ H μ' H' → Sim K μ' S' H' → EnvR K μ' H' ρ σ → RepAll K μ' H' ds vs → Q vs H') : LA K w σ H Q :=
  ⟨μ, S, ρ, Q0, m, e, h, fun d S' q μ' v H' g m' r => k d S' μ' v H' q g m' (e.grow g) r⟩

/-! ### names, constants -/
section
variable {X : Cx} {e a b c : Expr} {wa wb wc : WE} {pos : Pos}
def wVar (i : Nat) : WE := fun ρ S Q => match ρ[i]? with | some (some d) => Q d S | _ => False
def wC (d : D) : WE := fun _ S Q => Q d S
theorem se_weak {w w' : WE} (h : SE X e w) (hw : ∀ ρ S Q, w' ρ S Q → w ρ S Q) : SE X e w' := pe_weak h fun σ H Q ⟨μ, S, ρ, Q0, m, en, q, p⟩ => ⟨μ, S, ρ, Q0, m, en, hw _ _ _ q, p⟩
theorem se_var (i : Nat) {x : Str} {pos : Pos} (hN : X.N[i]? = some x := by rfl) (hv : Vis X.env.scope x := by first | exact Or.inl rfl | exact Or.inr (Or.inl rfl) | exact Or.inr (Or.inr rfl)) (hd : (x == ("__debug__" : Str)) = false := by decide)
    (hcd : (x == ("__classdict__" : Str)) = false := by decide) : SE X (.Name x pos) (wVar i) := pe_weak (pe_var (i := i) hN hv hd hcd) fun σ H Q ⟨μ, S, ρ, Q0, m, en, q, p⟩ => by
  have q' : (match ρ[i]? with | some (some d) => Q0 d S | _ => False) := q
  split at q'
  · rename_i d hd
    obtain ⟨v, h1, h2⟩ := en.2 i d hd
    exact ⟨v, h1, p.now m h2 q'⟩
  · exact q'.elim
theorem se_c {d : D} {v : V} (h : PE X e (tC v)) (r : ∀ μ H, Rep X.K μ H d v) : SE X e (wC d) := pe_weak h fun σ H Q ⟨μ, S, ρ, Q0, m, en, q, p⟩ => p.now m (r _ _) q
theorem se_int {i j pos} : SE X (.Constant (.int i) j pos) (wC (.int i)) := se_c pe_int fun _ _ => .int i
theorem se_bl {i j pos} : SE X (.Constant (.bool i) j pos) (wC (.bl i)) := se_c pe_bl fun _ _ => .bl i
theorem se_non {j pos} : SE X (.Constant .none j pos) (wC .non) := se_c pe_non fun _ _ => .non
theorem se_str {i j pos} : SE X (.Constant (.str i) j pos) (wC (.str i)) := se_c pe_str fun _ _ => .str i
theorem se_glob {x : Str} {d : D} {v : V} {u : Value} {pos : Pos} (hg : Gl X x) (hm : X.mg x = some u) (r : RelV v u) (rp : ∀ μ H, Rep X.K μ H d v) (hd : (x == ("__debug__" : Str)) = false := by decide) : SE X (.Name x pos) (wC d) :=
  se_c (pe_glob hg hm r hd) rp

/-! ### two operands -/
abbrev RD := D → D → Store → (D → Store → Prop) → Prop
def wOp (R : RD) (wa wb : WE) : WE := fun ρ S Q => wa ρ S fun x S1 => wb ρ S1 fun y S2 => R x y S2 Q
def OpD (K : PySem.W.Frag) (r : R2) (R : RD) : Prop := ∀ (μ : Mu) (S : Store) (H : Hp) (x y : D) (vx vy : V) (Q0 : D → Store → Prop) (Q : VK), Sim K μ S H → Rep K μ H x vx → Rep K μ H y vy → R x y S Q0 → Post K μ H Q0 Q → r vx vy H Q
theorem se_bin {r : R2} {R : RD} (hc : OpD X.K r R) (ha : SE X a wa) (hb : SE X b wb) (hpe : PE X e (tOp r (LE X.K wa) (LE X.K wb))) : SE X e (wOp R wa wb) := pe_weak hpe fun σ H Q ⟨μ, S, ρ, Q0, m, en, q, p⟩ => by
  refine LE.run m en q fun x S1 μ1 vx H1 q1 g1 m1 e1 r1 => ?_
  refine LE.run m1 e1 q1 fun y S2 μ2 vy H2 q2 g2 m2 e2 r2 => ?_
  exact hc μ2 S2 H2 x y vx vy Q0 Q m2 (r1.grow g2) r2 q2 (p.go (g1.trans g2))
theorem se_op {op : Operator} {r : R2} {R : RD} (hc : OpD X.K r R) (ho : OpR X (binaryOp op) r) (ha : SE X a wa) (hb : SE X b wb) : SE X (.BinOp a op b pos) (wOp R wa wb) := se_bin hc ha hb (pe_op ho ha hb)
theorem se_cmpR {op : CmpOp} {r : R2} {R : RD} (hc : OpD X.K r R) (ho : OpR X (compareOp op) r) (ha : SE X a wa) (hb : SE X b wb) (hm : behindInMarks op b = false) : SE X (.Compare a [op] [b] pos) (wOp R wa wb) := se_bin hc ha hb (pe_cmpR ho ha hb hm)
def wTest (w : WE) : WT := fun ρ S Q => w ρ S fun d S1 => match d with | .bl k => Q k S1 | _ => False
theorem st_cmpR {op : CmpOp} {r : R2} {R : RD} (hc : OpD X.K r R) (ho : OpR X (compareOp op) r) (ha : SE X a wa) (hb : SE X b wb) (hm : behindInMarks op b = false) : ST X (.Compare a [op] [b] pos) (wTest (wOp R wa wb)) :=
  pt_weak (pt_cmpR ho ha hb hm) fun σ H Q ⟨μ, S, ρ, Q0, m, en, q, p⟩ => by
    refine LE.run m en q fun x S1 μ1 vx H1 q1 g1 m1 e1 r1 => ?_
    refine LE.run m1 e1 q1 fun y S2 μ2 vy H2 q2 g2 m2 e2 r2 => ?_
    refine hc μ2 S2 H2 x y vx vy _ _ m2 (r1.grow g2) r2 q2 fun d S3 q3 μ3 v H3 g3 m3 r3 => ?_
    cases r3 with
    | bl k => exact ⟨k, rfl, p k S3 q3 μ3 H3 ((g1.trans g2).trans g3) m3⟩
    | _ => exact q3.elim
end

/-! ### the operators by content -/
def MulOk (i j : Int) : Prop := IntMulOk i j
def DivOk (j : Int) : Prop := 0 < j ∧ j.natAbs.log2 < 9000
theorem MulOk.l {i j : Int} (h1 : -(2 ^ 64) < i) (h2 : i < 2 ^ 64) : MulOk i j := CMul.ok (.inl ⟨h1, h2⟩)
theorem MulOk.r {i j : Int} (h1 : -(2 ^ 64) < j) (h2 : j < 2 ^ 64) : MulOk i j := CMul.ok (.inr ⟨h1, h2⟩)
theorem MulOk.w {i j : Int} (h : i.natAbs.log2 + j.natAbs.log2 < 1000000) : MulOk i j := CMulW.ok h
theorem DivOk.of {j : Int} (h : 0 < j) (h2 : j < 2 ^ 200) : DivOk j := ⟨h, (wide_div (i := 0) (b := 200) h (by omega) (by decide) (by decide)).2⟩
def rAdd : RD
  | .int i, .int j, S, Q => Q (.int (i + j)) S
  | .str a, .str b, S, Q => a.length + b.length ≤ sizeLine ∧ Q (.str (a ++ b)) S
  | .tup a, .tup b, S, Q => a ≠ [] ∧ a.length + b.length ≤ sizeLine ∧ Q (.tup (a ++ b)) S
  | _, _, _, _ => False
def rSub : RD
  | .int i, .int j, S, Q => Q (.int (i - j)) S
  | _, _, _, _ => False
def rMul : RD
  | .int i, .int j, S, Q => MulOk i j ∧ Q (.int (i * j)) S
  | _, _, _, _ => False
def rDiv : RD
  | .int i, .int j, S, Q => DivOk j ∧ Q (.int (i / j)) S
  | _, _, _, _ => False
def rMod : RD
  | .int i, .int j, S, Q => 0 < j ∧ Q (.int (i % j)) S
  | _, _, _, _ => False
def rPow : RD
  | .int i, .int j, S, Q => CPow i j ∧ Q (.int (i ^ j.toNat)) S
  | _, _, _, _ => False
def rLt : RD
  | .int i, .int j, S, Q => Q (.bl (decide (i < j))) S
  | _, _, _, _ => False
def rLe : RD
  | .int i, .int j, S, Q => Q (.bl (decide (i ≤ j))) S
  | _, _, _, _ => False
def rGt : RD
  | .int i, .int j, S, Q => Q (.bl (decide (j < i))) S
  | _, _, _, _ => False
def rGe : RD
  | .int i, .int j, S, Q => Q (.bl (decide (j ≤ i))) S
  | _, _, _, _ => False

section
variable {K : PySem.W.Frag}
/-- ints alone -/
theorem opd_I {R : RD} {g : Int → Int → D} {gv : Int → Int → V} {C : Int → Int → Prop} {C' : Int → Int → Prop} (h : ∀ i j S Q, R (.int i) (.int j) S Q = (C i j ∧ Q (g i j) S)) (hr : ∀ μ H i j, Rep K μ H (g i j) (gv i j)) (hC : ∀ i j, C i j → C' i j)
    (hn : ∀ x y S Q, R x y S Q → ∃ i j, x = .int i ∧ y = .int j) : OpD K (rI C' gv) R := by
  intro μ S H x y vx vy Q0 Q m rx ry q p
  obtain ⟨i, j, rfl, rfl⟩ := hn x y S Q0 q
  rw [h] at q
  exact ⟨i, j, rx.int_inv, ry.int_inv, hC _ _ q.1, p.now m (hr _ _ _ _) q.2⟩
theorem opd_I0 {R : RD} {g : Int → Int → D} {gv : Int → Int → V} (h : ∀ i j S Q, R (.int i) (.int j) S Q = Q (g i j) S) (hr : ∀ μ H i j, Rep K μ H (g i j) (gv i j))
    (hn : ∀ x y S Q, R x y S Q → ∃ i j, x = .int i ∧ y = .int j) : OpD K (rI0 gv) R := by
  intro μ S H x y vx vy Q0 Q m rx ry q p
  obtain ⟨i, j, rfl, rfl⟩ := hn x y S Q0 q
  rw [h] at q
  exact ⟨i, j, rx.int_inv, ry.int_inv, p.now m (hr _ _ _ _) q⟩
theorem opd_sub : OpD K (rI0 fun i j => .int (i - j)) rSub := opd_I0 (fun _ _ _ _ => rfl) (fun _ _ _ _ => .int _) fun x y S Q h => by
  unfold rSub at h; split at h <;> first | exact ⟨_, _, rfl, rfl⟩ | exact h.elim
theorem opd_mul : OpD K (rI MulOk fun i j => .int (i * j)) rMul := opd_I (fun _ _ _ _ => rfl) (fun _ _ _ _ => .int _) (fun _ _ h => h) fun x y S Q h => by
  unfold rMul at h; split at h <;> first | exact ⟨_, _, rfl, rfl⟩ | exact h.elim
theorem opd_div : OpD K (rI CDivW fun i j => .int (i / j)) rDiv := opd_I (C := fun _ j => DivOk j) (fun _ _ _ _ => rfl) (fun _ _ _ _ => .int _) (fun _ _ h => h) fun x y S Q h => by
  unfold rDiv at h; split at h <;> first | exact ⟨_, _, rfl, rfl⟩ | exact h.elim
theorem opd_mod : OpD K (rI (fun _ j => 0 < j) fun i j => .int (i % j)) rMod := opd_I (C := fun _ j => 0 < j) (fun _ _ _ _ => rfl) (fun _ _ _ _ => .int _) (fun _ _ h => h) fun x y S Q h => by
  unfold rMod at h; split at h <;> first | exact ⟨_, _, rfl, rfl⟩ | exact h.elim
theorem opd_pow : OpD K (rI CPow fun i j => .int (i ^ j.toNat)) rPow := opd_I (fun _ _ _ _ => rfl) (fun _ _ _ _ => .int _) (fun _ _ h => h) fun x y S Q h => by
  unfold rPow at h; split at h <;> first | exact ⟨_, _, rfl, rfl⟩ | exact h.elim
theorem opd_lt : OpD K (rI0 fun i j => .bl (decide (i < j))) rLt := opd_I0 (fun _ _ _ _ => rfl) (fun _ _ _ _ => .bl _) fun x y S Q h => by
  unfold rLt at h; split at h <;> first | exact ⟨_, _, rfl, rfl⟩ | exact h.elim
theorem opd_le : OpD K (rI0 fun i j => .bl (decide (i ≤ j))) rLe := opd_I0 (fun _ _ _ _ => rfl) (fun _ _ _ _ => .bl _) fun x y S Q h => by
  unfold rLe at h; split at h <;> first | exact ⟨_, _, rfl, rfl⟩ | exact h.elim
theorem opd_gt : OpD K (rI0 fun i j => .bl (decide (j < i))) rGt := opd_I0 (fun _ _ _ _ => rfl) (fun _ _ _ _ => .bl _) fun x y S Q h => by
  unfold rGt at h; split at h <;> first | exact ⟨_, _, rfl, rfl⟩ | exact h.elim
theorem opd_ge : OpD K (rI0 fun i j => .bl (decide (j ≤ i))) rGe := opd_I0 (fun _ _ _ _ => rfl) (fun _ _ _ _ => .bl _) fun x y S Q h => by
  unfold rGe at h; split at h <;> first | exact ⟨_, _, rfl, rfl⟩ | exact h.elim
def rAddS : R2 := fun x y H Q => ∃ i j, x = .str i ∧ y = .str j ∧ i.length + j.length ≤ sizeLine ∧ Q (.str (i ++ j)) H
def rAddV (K : PySem.W.Frag) : R2 := fun x y H Q => rI0 (fun i j => .int (i + j)) x y H Q ∨ (rAddS x y H Q ∨ rCatT K x y H Q)
theorem op_addV {X : Cx} : OpR X (binaryOp .Add) (rAddV X.K) := op_add.or (op_add_str.or op_catT)
theorem Sim.newT {μ : Mu} {S : Store} {H : Hp} {p : Addr} {ds : List D} {xs : List V} (hp : H p = none) (r : RepAll K μ H ds xs) : Rep K μ (upd H p (.tup xs)) (.tup ds) (.ref p) :=
  .tup (.inl (.inl upd_same)) (r.grow (.new hp))
theorem Sim.newL {μ : Mu} {S : Store} {H : Hp} {p : Addr} {ds : List D} {xs : List V} (m : Sim K μ S H) (hp : H p = none) (r : RepAll K μ H ds xs) : Rep K μ (upd H p (.lst xs)) (.lst ds) (.ref p) :=
  .lst (.inl ⟨.inl upd_same, m.notin hp⟩) (r.grow (.new hp))
theorem opd_add : OpD K (rAddV K) rAdd := by
  intro μ S H x y vx vy Q0 Q m rx ry q p
  unfold rAdd at q
  split at q
  · exact .inl ⟨_, _, rx.int_inv, ry.int_inv, p.now m (.int _) q⟩
  · exact .inr (.inl ⟨_, _, rx.str_inv, ry.str_inv, q.1, p.now m (.str _) q.2⟩)
  · rename_i a b
    obtain ⟨a1, xs, rfl, h1, r1⟩ := rx.tupS
    obtain ⟨a2, ys, rfl, h2, r2⟩ := ry.tupS
    obtain ⟨q1, q2, q3⟩ := q
    refine .inr (.inr ⟨a1, a2, xs, ys, rfl, rfl, h1, h2, ?_, by rw [← r1.length, ← r2.length]; exact q2, ?_⟩)
    · intro e
      subst e
      exact q1 (List.length_eq_zero_iff.mp r1.length)
    · refine ⟨fun e => ?_, fun e t ht => ?_⟩
      · subst e
        have : b = [] := List.length_eq_zero_iff.mp r2.length
        subst this
        rw [List.append_nil] at q3
        exact p.now m rx q3
      · exact p _ _ q3 _ _ _ (.new ht) (m.new ht) (Sim.newT (S := S) ht (r1.append r2))
  · exact q.elim
end
section
variable {X : Cx} {a b : Expr} {wa wb : WE} {pos : Pos}
theorem se_add (ha : SE X a wa) (hb : SE X b wb) : SE X (.BinOp a .Add b pos) (wOp rAdd wa wb) := se_op opd_add op_addV ha hb
theorem se_sub (ha : SE X a wa) (hb : SE X b wb) : SE X (.BinOp a .Sub b pos) (wOp rSub wa wb) := se_op opd_sub op_sub ha hb
theorem op_mulOk : OpR X (binaryOp .Mult) (rI MulOk fun i j => .int (i * j)) := opI fun _ _ _ _ _ _ _ hc q => mul_int q hc
theorem se_mul (ha : SE X a wa) (hb : SE X b wb) : SE X (.BinOp a .Mult b pos) (wOp rMul wa wb) := se_op opd_mul op_mulOk ha hb
theorem se_div (ha : SE X a wa) (hb : SE X b wb) : SE X (.BinOp a .FloorDiv b pos) (wOp rDiv wa wb) := se_op opd_div op_fdivW ha hb
theorem se_mod (ha : SE X a wa) (hb : SE X b wb) : SE X (.BinOp a .Mod b pos) (wOp rMod wa wb) := se_op opd_mod op_mod ha hb
theorem se_pow (ha : SE X a wa) (hb : SE X b wb) : SE X (.BinOp a .Pow b pos) (wOp rPow wa wb) := se_op opd_pow op_pow ha hb
theorem se_lt (ha : SE X a wa) (hb : SE X b wb) : SE X (.Compare a [.Lt] [b] pos) (wOp rLt wa wb) := se_cmpR opd_lt op_lt ha hb (nomark _)
theorem se_le (ha : SE X a wa) (hb : SE X b wb) : SE X (.Compare a [.LtE] [b] pos) (wOp rLe wa wb) := se_cmpR opd_le op_le ha hb (nomark _)
theorem se_gt (ha : SE X a wa) (hb : SE X b wb) : SE X (.Compare a [.Gt] [b] pos) (wOp rGt wa wb) := se_cmpR opd_gt op_gt ha hb (nomark _)
theorem se_ge (ha : SE X a wa) (hb : SE X b wb) : SE X (.Compare a [.GtE] [b] pos) (wOp rGe wa wb) := se_cmpR opd_ge op_ge ha hb (nomark _)
theorem st_lt (ha : SE X a wa) (hb : SE X b wb) : ST X (.Compare a [.Lt] [b] pos) (wTest (wOp rLt wa wb)) := st_cmpR opd_lt op_lt ha hb (nomark _)
theorem st_le (ha : SE X a wa) (hb : SE X b wb) : ST X (.Compare a [.LtE] [b] pos) (wTest (wOp rLe wa wb)) := st_cmpR opd_le op_le ha hb (nomark _)
theorem st_gt (ha : SE X a wa) (hb : SE X b wb) : ST X (.Compare a [.Gt] [b] pos) (wTest (wOp rGt wa wb)) := st_cmpR opd_gt op_gt ha hb (nomark _)
theorem st_ge (ha : SE X a wa) (hb : SE X b wb) : ST X (.Compare a [.GtE] [b] pos) (wTest (wOp rGe wa wb)) := st_cmpR opd_ge op_ge ha hb (nomark _)
end
end DL

set_option maxHeartbeats 4000000
namespace DL
open PySem PySem.Spec PyProof.Rows L2

/-! ### equality by content -/
mutual
def D.py : D → PyData
  | .non => .none
  | .bl b => .bool b
  | .int i => .int i
  | .str s => .str s
  | .tup ds => .tuple (pyAll ds)
  | .lst ds => .list (pyAll ds)
  | .ref _ => .dict []
def pyAll : List D → List PyData
  | [] => []
  | d :: ds => D.py d :: pyAll ds
end
section
variable {K : PySem.W.Frag} {μ : Mu} {H : Hp}
mutual
theorem Rep.dp : ∀ {d : D} {v : V}, Rep K μ H d v → d.py.canLay0 = true → Dp K H v d.py
  | _, _, .non, _ => .non
  | _, _, .bl b, _ => .bl b
  | _, _, .int i, _ => .int i
  | _, _, .str x, _ => .str x
  | .tup ds, _, .tup h r, c => .tup h (RepAll.dp r (by simpa [D.py, PyData.canLay0] using c))
  | .lst ds, _, .lst h r, c => .lst (h.imp And.left id) (RepAll.dp r (by simpa [D.py, PyData.canLay0] using c))
  | .ref n, _, .ref h, c => by simp [D.py, PyData.canLay0] at c
theorem RepAll.dp : ∀ {ds : List D} {vs : List V}, RepAll K μ H ds vs → PyData.canLayAll0 (pyAll ds) = true → DpAll K H vs (pyAll ds)
  | _, _, .nil, _ => .nil
  | d :: ds, _, .cons r t, c => by
    have c' : d.py.canLay0 = true ∧ PyData.canLayAll0 (pyAll ds) = true := by simpa [pyAll, PyData.canLayAll0] using c
    exact .cons (Rep.dp r c'.1) (RepAll.dp t c'.2)
end
end
/-- comparable by content -/
def okD (d : D) : Prop := SeqAt.shaped d.py = true
def eqv (x y : D) : Bool := PyData.eqv x.py y.py
def rEq : RD
  | .int i, .int j, S, Q => Q (.bl (decide (i = j))) S
  | .bl i, .bl j, S, Q => Q (.bl (decide (i = j))) S
  | .str i, .str j, S, Q => Q (.bl (decide (i = j))) S
  | x, y, S, Q => okD x ∧ okD y ∧ Q (.bl (eqv x y)) S
def rNe : RD
  | .int i, .int j, S, Q => Q (.bl (!decide (i = j))) S
  | .bl i, .bl j, S, Q => Q (.bl (!decide (i = j))) S
  | .str i, .str j, S, Q => Q (.bl (!decide (i = j))) S
  | x, y, S, Q => okD x ∧ okD y ∧ Q (.bl (!eqv x y)) S
def rEqV (K : PySem.W.Frag) : R2 := fun x y H Q => L2.rEq x y H Q ∨ rEqD K x y H Q
def rNeV (K : PySem.W.Frag) : R2 := fun x y H Q => L2.rNe x y H Q ∨ rNeD K x y H Q
theorem shaped_lay {d : PyData} (h : SeqAt.shaped d = true) : d.canLay0 = true := SeqAt.canLay_of_shaped h
theorem dec_vint {i j : Int} : decide (V.int i = V.int j) = decide (i = j) := by simp
theorem dec_vbl {i j : Bool} : decide (V.bl i = V.bl j) = decide (i = j) := by simp
theorem dec_vstr {i j : Str} : decide (V.str i = V.str j) = decide (i = j) := by simp
section
variable {K : PySem.W.Frag}
theorem opd_eq : OpD K (rEqV K) rEq := by
  intro μ S H x y vx vy Q0 Q m rx ry q p
  unfold rEq at q
  split at q
  · rw [rx.int_inv, ry.int_inv]
    exact .inl ⟨rfl, by rw [dec_vint]; exact p.now m (.bl _) q⟩
  · rw [rx.bl_inv, ry.bl_inv]
    exact .inl ⟨rfl, by rw [dec_vbl]; exact p.now m (.bl _) q⟩
  · rw [rx.str_inv, ry.str_inv]
    exact .inl ⟨rfl, by rw [dec_vstr]; exact p.now m (.bl _) q⟩
  · obtain ⟨q1, q2, q3⟩ := q
    exact .inr ⟨_, _, rx.dp (shaped_lay q1), ry.dp (shaped_lay q2), q1, q2, p.now m (.bl _) q3⟩
theorem opd_ne : OpD K (rNeV K) rNe := by
  intro μ S H x y vx vy Q0 Q m rx ry q p
  unfold rNe at q
  split at q
  · rw [rx.int_inv, ry.int_inv]
    exact .inl ⟨rfl, by rw [dec_vint]; exact p.now m (.bl _) q⟩
  · rw [rx.bl_inv, ry.bl_inv]
    exact .inl ⟨rfl, by rw [dec_vbl]; exact p.now m (.bl _) q⟩
  · rw [rx.str_inv, ry.str_inv]
    exact .inl ⟨rfl, by rw [dec_vstr]; exact p.now m (.bl _) q⟩
  · obtain ⟨q1, q2, q3⟩ := q
    exact .inr ⟨_, _, rx.dp (shaped_lay q1), ry.dp (shaped_lay q2), q1, q2, p.now m (.bl _) q3⟩
end
/-! ### is -/
def isC : D → D → Option Bool
  | .non, .non => some true
  | _, .non => some false
  | .bl a, .bl b => some (a == b)
  | .ref _, .bl _ => some false
  | .int _, .bl _ => some false
  | .str _, .bl _ => some false
  | .non, .bl _ => some false
  | .tup _, .bl _ => some false
  | .lst _, .bl _ => some false
  | _, _ => none
def rIs : RD := fun x y S Q => match isC x y with | some b => Q (.bl b) S | none => False
def rIsNot : RD := fun x y S Q => match isC x y with | some b => Q (.bl (!b)) S | none => False
def isV : V → V → Option Bool
  | .non, .non => some true
  | _, .non => some false
  | .bl a, .bl b => some (a == b)
  | .ref _, .bl _ => some false
  | .int _, .bl _ => some false
  | .str _, .bl _ => some false
  | .non, .bl _ => some false
  | _, _ => none
def rIsV : R2 := fun x y H Q => ∃ b, isV x y = some b ∧ Q (.bl b) H
def rIsNotV : R2 := fun x y H Q => ∃ b, isV x y = some b ∧ Q (.bl (!b)) H
section
variable {X : Cx}
theorem op_isV : OpR X (compareOp .Is) rIsV := by
  intro pins s σ H x y v u Q I rx ry h
  obtain ⟨b, e, q⟩ := h
  cases y with
  | non =>
    cases ry
    refine op_isN pins s σ H x .non v Value.none Q I rx rfl ⟨rfl, ?_⟩
    cases x <;> (cases e; exact q)
  | bl k =>
    cases ry
    cases x with
    | non => cases rx; cases e; exact wpAny_is_other rfl (fun z => nomatch z) ⟨.bl false, H, I, rfl, q⟩
    | bl a =>
      cases rx; cases e
      by_cases hk : a = k
      · subst hk; exact wpAny_is_self rfl ⟨.bl true, H, I, rfl, by simpa using q⟩
      · exact wpAny_is_other rfl (fun z => hk (Value.bool.inj z)) ⟨.bl false, H, I, rfl, by rw [beq_eq_false_iff_ne.mpr hk] at q; exact q⟩
    | int i => obtain ⟨t, rfl⟩ := rx; cases e; exact wpAny_is_other rfl (fun z => nomatch z) ⟨.bl false, H, I, rfl, q⟩
    | str i => obtain ⟨t, rfl⟩ := rx; cases e; exact wpAny_is_other rfl (fun z => nomatch z) ⟨.bl false, H, I, rfl, q⟩
    | ref a => cases rx; cases e; exact wpAny_is_other rfl (fun z => nomatch z) ⟨.bl false, H, I, rfl, q⟩
    | byt _ => cases e
    | flt _ => cases e
    | ty _ => cases e
  | _ => cases x <;> cases e
theorem op_isNotV : OpR X (compareOp .IsNot) rIsNotV := by
  intro pins s σ H x y v u Q I rx ry h
  obtain ⟨b, e, q⟩ := h
  cases y with
  | non =>
    cases ry
    refine op_notN pins s σ H x .non v Value.none Q I rx rfl ⟨rfl, ?_⟩
    cases x <;> (cases e; exact q)
  | bl k =>
    cases ry
    cases x with
    | non => cases rx; cases e; exact wpAny_isNot_other rfl (fun z => nomatch z) ⟨.bl true, H, I, rfl, q⟩
    | bl a =>
      cases rx; cases e
      by_cases hk : a = k
      · subst hk; exact wpAny_isNot_self rfl ⟨.bl false, H, I, rfl, by simpa using q⟩
      · exact wpAny_isNot_other rfl (fun z => hk (Value.bool.inj z)) ⟨.bl true, H, I, rfl, by rw [beq_eq_false_iff_ne.mpr hk] at q; exact q⟩
    | int i => obtain ⟨t, rfl⟩ := rx; cases e; exact wpAny_isNot_other rfl (fun z => nomatch z) ⟨.bl true, H, I, rfl, q⟩
    | str i => obtain ⟨t, rfl⟩ := rx; cases e; exact wpAny_isNot_other rfl (fun z => nomatch z) ⟨.bl true, H, I, rfl, q⟩
    | ref a => cases rx; cases e; exact wpAny_isNot_other rfl (fun z => nomatch z) ⟨.bl true, H, I, rfl, q⟩
    | byt _ => cases e
    | flt _ => cases e
    | ty _ => cases e
  | _ => cases x <;> cases e
end
theorem is_vd {K : PySem.W.Frag} {μ : Mu} {H : Hp} {x y : D} {vx vy : V} {b : Bool} (rx : Rep K μ H x vx) (ry : Rep K μ H y vy) (h : isC x y = some b) : isV vx vy = some b := by
  cases rx <;> cases ry <;> first | exact h | cases h
theorem opd_is {K : PySem.W.Frag} : OpD K rIsV rIs := by
  intro μ S H x y vx vy Q0 Q m rx ry q p
  unfold rIs at q
  cases e : isC x y with
  | none => rw [e] at q; exact q.elim
  | some b => rw [e] at q; exact ⟨b, is_vd rx ry e, p.now m (.bl _) q⟩
theorem opd_isNot {K : PySem.W.Frag} : OpD K rIsNotV rIsNot := by
  intro μ S H x y vx vy Q0 Q m rx ry q p
  unfold rIsNot at q
  cases e : isC x y with
  | none => rw [e] at q; exact q.elim
  | some b => rw [e] at q; exact ⟨b, is_vd rx ry e, p.now m (.bl _) q⟩

section
variable {X : Cx} {e a b c : Expr} {wa wb wc : WE} {pos : Pos} {ta tb tc : WT}
theorem op_eqV (hu : X.A.units + 64 < cLine) : OpR X (compareOp .Eq) (rEqV X.K) := op_eq.or (op_eqD hu)
theorem op_neV (hu : X.A.units + 64 < cLine) : OpR X (compareOp .NotEq) (rNeV X.K) := op_ne.or (op_neD hu)
theorem se_eq (hu : X.A.units + 64 < cLine) (ha : SE X a wa) (hb : SE X b wb) : SE X (.Compare a [.Eq] [b] pos) (wOp rEq wa wb) := se_cmpR opd_eq (op_eqV hu) ha hb (nomark _)
theorem se_ne (hu : X.A.units + 64 < cLine) (ha : SE X a wa) (hb : SE X b wb) : SE X (.Compare a [.NotEq] [b] pos) (wOp rNe wa wb) := se_cmpR opd_ne (op_neV hu) ha hb (nomark _)
theorem se_is (ha : SE X a wa) (hb : SE X b wb) : SE X (.Compare a [.Is] [b] pos) (wOp rIs wa wb) := se_cmpR opd_is op_isV ha hb (nomark _)
theorem se_isNot (ha : SE X a wa) (hb : SE X b wb) : SE X (.Compare a [.IsNot] [b] pos) (wOp rIsNot wa wb) := se_cmpR opd_isNot op_isNotV ha hb (nomark _)
theorem st_eq (hu : X.A.units + 64 < cLine) (ha : SE X a wa) (hb : SE X b wb) : ST X (.Compare a [.Eq] [b] pos) (wTest (wOp rEq wa wb)) := st_cmpR opd_eq (op_eqV hu) ha hb (nomark _)
theorem st_ne (hu : X.A.units + 64 < cLine) (ha : SE X a wa) (hb : SE X b wb) : ST X (.Compare a [.NotEq] [b] pos) (wTest (wOp rNe wa wb)) := st_cmpR opd_ne (op_neV hu) ha hb (nomark _)
theorem st_is (ha : SE X a wa) (hb : SE X b wb) : ST X (.Compare a [.Is] [b] pos) (wTest (wOp rIs wa wb)) := st_cmpR opd_is op_isV ha hb (nomark _)
theorem st_isNot (ha : SE X a wa) (hb : SE X b wb) : ST X (.Compare a [.IsNot] [b] pos) (wTest (wOp rIsNot wa wb)) := st_cmpR opd_isNot op_isNotV ha hb (nomark _)

/-! ### and, or, not, if .. else, truth, minus -/
def wAnd (t u : WT) : WT := fun ρ S Q => t ρ S fun k S1 => if k = true then u ρ S1 Q else Q false S1
def wOr (t u : WT) : WT := fun ρ S Q => t ρ S fun k S1 => if k = true then Q true S1 else u ρ S1 Q
def wNot (t : WT) : WT := fun ρ S Q => t ρ S fun k S1 => Q (!k) S1
variable {rest : List Expr}
theorem sw_and1 (ha : ST X a ta) : SW X (.BoolOp .And [a] pos) ta := pw_and1 ha
theorem sw_or1 (ha : ST X a ta) : SW X (.BoolOp .Or [a] pos) ta := pw_or1 ha
theorem sw_and (ha : ST X a ta) (hb : SW X (.BoolOp .And (b :: rest) pos) tb) : SW X (.BoolOp .And (a :: b :: rest) pos) (wAnd ta tb) := pw_weak (pw_and ha hb) fun σ H Q ⟨μ, S, ρ, Q0, m, en, q, p⟩ => by
  refine LT.run m en q fun k S1 μ1 H1 q1 g1 m1 e1 => ?_
  cases k with
  | true => exact LT.run m1 e1 q1 fun k S2 μ2 H2 q2 g2 m2 e2 => p k S2 q2 μ2 H2 (g1.trans g2) m2
  | false => exact p false S1 q1 μ1 H1 g1 m1
theorem sw_or (ha : ST X a ta) (hb : SW X (.BoolOp .Or (b :: rest) pos) tb) : SW X (.BoolOp .Or (a :: b :: rest) pos) (wOr ta tb) := pw_weak (pw_or ha hb) fun σ H Q ⟨μ, S, ρ, Q0, m, en, q, p⟩ => by
  refine LT.run m en q fun k S1 μ1 H1 q1 g1 m1 e1 => ?_
  cases k with
  | true => exact p true S1 q1 μ1 H1 g1 m1
  | false => exact LT.run m1 e1 q1 fun k S2 μ2 H2 q2 g2 m2 e2 => p k S2 q2 μ2 H2 (g1.trans g2) m2
theorem st_bool (h : SW X e ta) : ST X e ta := h.pt
theorem st_not (ha : ST X a ta) : ST X (.UnaryOp .Not a pos) (wNot ta) := pt_weak (pt_not ha) fun σ H Q ⟨μ, S, ρ, Q0, m, en, q, p⟩ =>
  LT.run m en q fun k S1 μ1 H1 q1 g1 m1 e1 => p (!k) S1 q1 μ1 H1 g1 m1
def wIfE (t : WT) (wa wb : WE) : WE := fun ρ S Q => t ρ S fun k S1 => if k = true then wa ρ S1 Q else wb ρ S1 Q
theorem se_if (hc : ST X c tc) (ha : SE X a wa) (hb : SE X b wb) : SE X (.IfExp c a b pos) (wIfE tc wa wb) := pe_weak (pe_ifExp hc ha hb) fun σ H Q ⟨μ, S, ρ, Q0, m, en, q, p⟩ => by
  refine LT.run m en q fun k S1 μ1 H1 q1 g1 m1 e1 => ?_
  cases k with
  | true => exact LE.run m1 e1 q1 fun d S2 μ2 v H2 q2 g2 m2 e2 r2 => p d S2 q2 μ2 v H2 (g1.trans g2) m2 r2
  | false => exact LE.run m1 e1 q1 fun d S2 μ2 v H2 q2 g2 m2 e2 r2 => p d S2 q2 μ2 v H2 (g1.trans g2) m2 r2
/-- truth -/
def rTru : D → Store → (Bool → Store → Prop) → Prop
  | .non, S, Q => Q false S
  | .bl b, S, Q => Q b S
  | .int i, S, Q => Q (i != 0) S
  | .str s, S, Q => s.length ≤ sizeLine ∧ Q (s.length != 0) S
  | .tup ds, S, Q => Q (!ds.isEmpty) S
  | .lst ds, S, Q => Q (!ds.isEmpty) S
  | .ref n, S, Q => match S[n]? with | some (.lst ds) => Q (!ds.isEmpty) S | _ => False
def wTru (w : WE) : WT := fun ρ S Q => w ρ S fun d S1 => rTru d S1 Q
theorem empty_rep {K : PySem.W.Frag} {μ : Mu} {H : Hp} {ds : List D} {vs : List V} (r : RepAll K μ H ds vs) : ds.isEmpty = vs.isEmpty := by cases r <;> rfl
theorem tru_rep {K : PySem.W.Frag} {μ : Mu} {S : Store} {H : Hp} {d : D} {v : V} {Q : Bool → Store → Prop} (m : Sim K μ S H) (r : Rep K μ H d v) (h : rTru d S Q) : ∃ k, TruV K v H k ∧ Q k S := by
  cases r with
  | non => exact ⟨false, rfl, h⟩
  | bl b => exact ⟨b, rfl, h⟩
  | int i => exact ⟨_, rfl, h⟩
  | str x =>
    refine ⟨_, ⟨h.1, rfl⟩, ?_⟩
    have e : (((x.length : Nat) : Int) != 0) = (x.length != 0) := by
      by_cases hx : x.length = 0
      · simp [hx]
      · have hx' : ((x.length : Nat) : Int) ≠ 0 := by omega
        rw [bne, bne, beq_eq_false_iff_ne.mpr hx, beq_eq_false_iff_ne.mpr hx']
    rw [e]
    exact h.2
  | tup hh r => exact ⟨_, .inr (.inl ⟨_, hh, rfl⟩), by rw [← empty_rep r]; exact h⟩
  | lst hh r => exact ⟨_, .inl ⟨_, hh.imp And.left id, rfl⟩, by rw [← empty_rep r]; exact h⟩
  | ref hn =>
    rename_i n a
    have h' : (match S[n]? with | some (.lst ds) => Q (!ds.isEmpty) S | _ => False) := h
    split at h'
    · rename_i ds hd
      obtain ⟨a', xs, e, h1, h2, h3⟩ := m.at hd (.ref hn)
      cases e
      exact ⟨_, .inl ⟨xs, SqL.of h2, rfl⟩, by rw [← empty_rep h3]; exact h'⟩
    · exact h'.elim
theorem st_tru (ha : SE X a wa) (he : ∀ whole, isTrue a X.env whole = (do let v ← whole; standAt a.pos; holding [v] (truthy v)) := by intro _; rfl) : ST X a (wTru wa) := pt_weak (pt_truth ha he) fun σ H Q ⟨μ, S, ρ, Q0, m, en, q, p⟩ => by
  refine LE.run m en q fun d S1 μ1 v H1 q1 g1 m1 e1 r1 => ?_
  obtain ⟨k, h1, h2⟩ := tru_rep m1 r1 q1
  exact ⟨k, h1, p k S1 h2 μ1 H1 g1 m1⟩
/-- and, or, not as values, of bools -/
def wBl (w : WE) (k : Bool → WE) : WE := fun ρ S Q => w ρ S fun d S1 => match d with | .bl b => k b ρ S1 Q | _ => False
def wAndV (wa wb : WE) : WE := wBl wa fun k ρ S Q => if k = true then wb ρ S Q else Q (.bl false) S
def wOrV (wa wb : WE) : WE := wBl wa fun k ρ S Q => if k = true then Q (.bl true) S else wb ρ S Q
def wNotV (wa : WE) : WE := wBl wa fun k ρ S Q => Q (.bl (!k)) S
theorem se_one {op} (h : SE X a wa) : SE X (.BoolOp op [a] pos) wa := pe_one h
theorem se_and (ha : SE X a wa) (hb : SE X (.BoolOp .And (b :: rest) pos) wb) : SE X (.BoolOp .And (a :: b :: rest) pos) (wAndV wa wb) := pe_weak (pe_and ha hb) fun σ H Q ⟨μ, S, ρ, Q0, m, en, q, p⟩ => by
  refine LE.run m en q fun d S1 μ1 v H1 q1 g1 m1 e1 r1 => ?_
  cases r1 with
  | bl k =>
    refine ⟨k, rfl, ?_⟩
    cases k with
    | true => exact LE.run m1 e1 q1 fun d S2 μ2 v H2 q2 g2 m2 e2 r2 => p d S2 q2 μ2 v H2 (g1.trans g2) m2 r2
    | false => exact p _ S1 q1 μ1 _ H1 g1 m1 (.bl false)
  | _ => exact q1.elim
theorem se_or (ha : SE X a wa) (hb : SE X (.BoolOp .Or (b :: rest) pos) wb) : SE X (.BoolOp .Or (a :: b :: rest) pos) (wOrV wa wb) := pe_weak (pe_or ha hb) fun σ H Q ⟨μ, S, ρ, Q0, m, en, q, p⟩ => by
  refine LE.run m en q fun d S1 μ1 v H1 q1 g1 m1 e1 r1 => ?_
  cases r1 with
  | bl k =>
    refine ⟨k, rfl, ?_⟩
    cases k with
    | false => exact LE.run m1 e1 q1 fun d S2 μ2 v H2 q2 g2 m2 e2 r2 => p d S2 q2 μ2 v H2 (g1.trans g2) m2 r2
    | true => exact p _ S1 q1 μ1 _ H1 g1 m1 (.bl true)
  | _ => exact q1.elim
theorem se_not (ha : SE X a wa) : SE X (.UnaryOp .Not a pos) (wNotV wa) := pe_weak (pe_not ha) fun σ H Q ⟨μ, S, ρ, Q0, m, en, q, p⟩ => by
  refine LE.run m en q fun d S1 μ1 v H1 q1 g1 m1 e1 r1 => ?_
  cases r1 with
  | bl k => exact ⟨k, rfl, p _ S1 q1 μ1 _ H1 g1 m1 (.bl _)⟩
  | _ => exact q1.elim
def wNeg (w : WE) : WE := fun ρ S Q => w ρ S fun d S1 => match d with | .int i => Q (.int (-i)) S1 | _ => False
theorem se_neg (ha : SE X a wa) : SE X (.UnaryOp .USub a pos) (wNeg wa) := pe_weak (pe_un un_neg ha) fun σ H Q ⟨μ, S, ρ, Q0, m, en, q, p⟩ => by
  refine LE.run m en q fun d S1 μ1 v H1 q1 g1 m1 e1 r1 => ?_
  cases r1 with
  | int i => exact ⟨i, rfl, p _ S1 q1 μ1 _ H1 g1 m1 (.int _)⟩
  | _ => exact q1.elim

/-! ### items -/
def atD (ds : List D) : Int → Option D
  | .ofNat n => ds[n]?
  | .negSucc n => if n < ds.length then ds[ds.length - 1 - n]? else none
theorem atD_nat {ds : List D} {n : Nat} : atD ds (n : Int) = ds[n]? := rfl
theorem atD_lit {ds : List D} {n : Nat} [OfNat Nat n] : atD ds (OfNat.ofNat (OfNat.ofNat n : Nat) : Int) = ds[(OfNat.ofNat n : Nat)]? := rfl
theorem at_rep {K : PySem.W.Frag} {μ : Mu} {H : Hp} {ds : List D} {vs : List V} {i : Int} {d : D} (r : RepAll K μ H ds vs) (h : atD ds i = some d) : ∃ v, atI vs i = some v ∧ Rep K μ H d v := by
  cases i with
  | ofNat n =>
    obtain ⟨v, h1, h2⟩ := r.get (show ds[n]? = some d from h)
    exact ⟨v, atI_nat h1, h2⟩
  | negSucc n =>
    have h' : (if n < ds.length then ds[ds.length - 1 - n]? else none) = some d := h
    split at h'
    · rename_i hn
      obtain ⟨v, h1, h2⟩ := r.get h'
      refine ⟨v, ?_, h2⟩
      rw [r.length] at h1 hn
      unfold atI ixN
      rw [if_neg (by omega), if_pos (by omega)]
      show vs[(Int.negSucc n + (vs.length : Int)).toNat]? = some v
      rw [show (Int.negSucc n + (vs.length : Int)).toNat = vs.length - 1 - n by omega]
      exact h1
    · cases h'
def rIx : RD
  | .tup ds, .int i, S, Q => match atD ds i with | some d => Q d S | none => False
  | .lst ds, .int i, S, Q => match atD ds i with | some d => Q d S | none => False
  | .ref n, .int i, S, Q => match S[n]? with | some (.lst ds) => (match atD ds i with | some d => Q d S | none => False) | _ => False
  | _, _, _, _ => False
def rIxV (K : PySem.W.Frag) : R2 := fun x y H Q => rIxL K x y H Q ∨ rIxT K x y H Q
theorem ix_V : IxR X (rIxV X.K) := ix_list.or ix_tup
theorem opd_ix {K : PySem.W.Frag} : OpD K (rIxV K) rIx := by
  intro μ S H x y vx vy Q0 Q m rx ry q p
  unfold rIx at q
  split at q
  · rename_i ds i
    obtain ⟨a, xs, rfl, h1, r1⟩ := rx.tupS
    split at q
    · rename_i d hd
      obtain ⟨v, h2, r2⟩ := at_rep r1 hd
      exact .inr ⟨a, xs, i, v, rfl, ry.int_inv, h1, h2, p.now m r2 q⟩
    · exact q.elim
  · rename_i ds i
    obtain ⟨a, xs, rfl, h1, r1⟩ := rx.lstS
    split at q
    · rename_i d hd
      obtain ⟨v, h2, r2⟩ := at_rep r1 hd
      exact .inl ⟨a, xs, i, v, rfl, ry.int_inv, h1, h2, p.now m r2 q⟩
    · exact q.elim
  · rename_i n i
    split at q
    · rename_i ds hn
      obtain ⟨a, xs, rfl, hm, h1, r1⟩ := m.at hn rx
      split at q
      · rename_i d hd
        obtain ⟨v, h2, r2⟩ := at_rep r1 hd
        exact .inl ⟨a, xs, i, v, rfl, ry.int_inv, SqL.of h1, h2, p.now m r2 q⟩
      · exact q.elim
    · exact q.elim
  · exact q.elim
theorem se_ix (ha : SE X a wa) (hb : SE X b wb) (hs : PlainIx b := by exact fun _ _ => rfl) : SE X (.Subscript a b pos) (wOp rIx wa wb) := se_bin opd_ix ha hb (pe_ix ix_V ha hb hs)

/-! ### displays -/
variable {es : List Expr} {wr : WA}
end
section
variable {X : Cx} {e a b c : Expr} {wa wb wc : WE} {pos : Pos} {es : List Expr} {wr : WA}
def wNil : WA := fun _ S Q => Q [] S
def wCons (w : WE) (wr : WA) : WA := fun ρ S Q => w ρ S fun d S1 => wr ρ S1 fun ds S2 => Q (d :: ds) S2
theorem sa_nil : SA X [] wNil := pa_weak pa_nil fun σ H Q ⟨μ, S, ρ, Q0, m, en, q, p⟩ => p [] S q μ [] H Grow.refl m .nil
theorem sa_cons (ha : SE X a wa) (hr : SA X es wr) (hs : starEach (a :: es) X.env = (false, eval a X.env) :: starEach es X.env := by rfl) : SA X (a :: es) (wCons wa wr) := pa_weak (pa_cons ha hr hs) fun σ H Q ⟨μ, S, ρ, Q0, m, en, q, p⟩ => by
  refine LE.run m en q fun d S1 μ1 v H1 q1 g1 m1 e1 r1 => ?_
  exact LA.run m1 e1 q1 fun ds S2 μ2 vs H2 q2 g2 m2 e2 r2 => p _ S2 q2 μ2 _ H2 (g1.trans g2) m2 (.cons (r1.grow g2) r2)
end
section
variable {X : Cx} {e a b c : Expr} {wa wb wc : WE} {pos : Pos} {es : List Expr} {wr : WA}
def wTup (w : WA) : WE := fun ρ S Q => w ρ S fun ds S1 => ds.length ≤ sizeLine ∧ Q (.tup ds) S1
/-- a list by content: never changed -/
def wLst (w : WA) : WE := fun ρ S Q => w ρ S fun ds S1 => ds.length ≤ sizeLine ∧ Q (.lst ds) S1
/-- a list that may change: an object of the store -/
def wNew (w : WA) : WE := fun ρ S Q => w ρ S fun ds S1 => ds.length ≤ sizeLine ∧ Q (.ref S1.length) (S1 ++ [.lst ds])
theorem se_tup {k} (h : SA X es wr) : SE X (.Tuple es k pos) (wTup wr) := pe_weak (pe_tup h) fun σ H Q ⟨μ, S, ρ, Q0, m, en, q, p⟩ => by
  refine LA.run m en q fun ds S1 μ1 vs H1 q1 g1 m1 e1 r1 => ⟨by rw [← r1.length]; exact q1.1, fun t ht => ?_⟩
  exact p _ S1 q1.2 μ1 _ _ (g1.trans (.new ht)) (m1.new ht) (Sim.newT (S := S) ht r1)
theorem se_lst (h : SA X es wr) : SE X (.List es pos) (wLst wr) := pe_weak (pe_lst h) fun σ H Q ⟨μ, S, ρ, Q0, m, en, q, p⟩ => by
  refine LA.run m en q fun ds S1 μ1 vs H1 q1 g1 m1 e1 r1 => ⟨by rw [← r1.length]; exact q1.1, fun t ht => ?_⟩
  exact p _ S1 q1.2 μ1 _ _ (g1.trans (.new ht)) (m1.new ht) (Sim.newL m1 ht r1)
theorem Sim.newR {K : PySem.W.Frag} {μ : Mu} {S : Store} {H : Hp} {p : Addr} (m : Sim K μ S H) : Rep K (μ.add p) H (.ref S.length) (.ref p) :=
  .ref (by rw [← m.len]; simp [Mu.add])
theorem Rep.refH {K : PySem.W.Frag} {μ : Mu} {H H' : Hp} {n : Nat} {v : V} (r : Rep K μ H (.ref n) v) : Rep K μ H' (.ref n) v := by
  cases r with
  | ref h => exact .ref h
theorem se_new (h : SA X es wr) : SE X (.List es pos) (wNew wr) := pe_weak (pe_lst h) fun σ H Q ⟨μ, S, ρ, Q0, m, en, q, p⟩ => by
  refine LA.run m en q fun ds S1 μ1 vs H1 q1 g1 m1 e1 r1 => ⟨by rw [← r1.length]; exact q1.1, fun t ht => ?_⟩
  exact p _ _ q1.2 _ _ _ (g1.trans (.alloc ht)) (m1.alloc ht r1) m1.newR.refH
end
end DL

set_option maxHeartbeats 4000000
namespace DL
open PySem PySem.Spec PyProof.Rows L2

/-! ### built-in calls by content -/
abbrev RC := List D → Store → (D → Store → Prop) → Prop
def CallD (K : PySem.W.Frag) (r : List V → Hp → VK → Prop) (R : RC) : Prop := ∀ (μ : Mu) (S : Store) (H : Hp) (ds : List D) (vs : List V) (Q0 : D → Store → Prop) (Q : VK), Sim K μ S H → RepAll K μ H ds vs → R ds S Q0 → Post K μ H Q0 Q → r vs H Q
def wCall (R : RC) (wr : WA) : WE := fun ρ S Q => wr ρ S fun ds S1 => R ds S1 Q
section
variable {X : Cx} {e a b c : Expr} {wa wb wc : WE} {pos p : Pos} {es : List Expr} {wr : WA} {x : Str} {id T : String} {r : List V → Hp → VK → Prop} {R : RC}
theorem se_callx (hd : CallD X.K r R) (ha : SA X es wr) (hp : PE X e (tCB r (LA X.K wr))) : SE X e (wCall R wr) := pe_weak hp fun σ H Q ⟨μ, S, ρ, Q0, m, en, q, p⟩ =>
  LA.run m en q fun ds S1 μ1 vs H1 q1 g1 m1 e1 r1 => hd μ1 S1 H1 ds vs Q0 Q m1 r1 q1 (p.go g1)
theorem se_callB (hd : CallD X.K r R) (hc : CallR X (.builtin id) r) (hg : Gl X x) (hm : X.mg x = none) (hv : bootBuiltins x = some (.builtin id)) (ha : SA X (a :: es) wr) (hn : x ≠ "__name__" := by decide) (hdb : (x == ("__debug__" : Str)) = false := by decide)
    (he : starEach (a :: es) X.env = (false, eval a X.env) :: starEach es X.env := by rfl) (hpl : (backTo pos (starEach es X.env)).any (·.1) = false := by rfl) : SE X (.Call (.Name x p) (a :: es) [] pos) (wCall R wr) :=
  se_callx hd ha (pe_callB hc hg hm hv ha hn hdb he hpl)
theorem se_callTy (hd : CallD X.K r R) (hc : CallR X (.type T) r) (hg : Gl X x) (hm : X.mg x = none) (hv : bootBuiltins x = some (.type T)) (ha : SA X (a :: es) wr) (hn : x ≠ "__name__" := by decide) (hdb : (x == ("__debug__" : Str)) = false := by decide)
    (he : starEach (a :: es) X.env = (false, eval a X.env) :: starEach es X.env := by rfl) (hpl : (backTo pos (starEach es X.env)).any (·.1) = false := by rfl) : SE X (.Call (.Name x p) (a :: es) [] pos) (wCall R wr) :=
  se_callx hd ha (pe_callTy hc hg hm hv ha hn hdb he hpl)
end
/-- len -/
def rLen : RC
  | [.tup ds], S, Q => Q (.int ds.length) S
  | [.lst ds], S, Q => Q (.int ds.length) S
  | [.str s], S, Q => s.length ≤ sizeLine ∧ Q (.int s.length) S
  | [.ref n], S, Q => match S[n]? with | some (.lst ds) => Q (.int ds.length) S | _ => False
  | _, _, _ => False
def rInt : RC
  | [.int i], S, Q => Q (.int i) S
  | [.bl b], S, Q => Q (.int (if b = true then 1 else 0)) S
  | _, _, _ => False
def rAbs : RC
  | [.int i], S, Q => Q (.int (if i < 0 then -i else i)) S
  | _, _, _ => False
def rGcdD : RC
  | [.int i, .int j], S, Q => Q (.int ((Nat.gcd i.natAbs j.natAbs : Nat) : Int)) S
  | _, _, _ => False
def rMax2 : RC
  | [.int i, .int j], S, Q => Q (.int (if j > i then j else i)) S
  | _, _, _ => False
def rMin2 : RC
  | [.int i, .int j], S, Q => Q (.int (if j < i then j else i)) S
  | _, _, _ => False
/-- tuple(x): of a list, a tuple -/
def rTuple : RC
  | [.tup ds], S, Q => Q (.tup ds) S
  | [.lst ds], S, Q => Q (.tup ds) S
  | [.ref n], S, Q => match S[n]? with | some (.lst ds) => Q (.tup ds) S | _ => False
  | _, _, _ => False
/-- list(x), by content; as an object of the store -/
def rList : RC
  | [.tup ds], S, Q => Q (.lst ds) S
  | [.lst ds], S, Q => Q (.lst ds) S
  | [.ref n], S, Q => match S[n]? with | some (.lst ds) => Q (.lst ds) S | _ => False
  | _, _, _ => False
def rListN : RC
  | [.tup ds], S, Q => Q (.ref S.length) (S ++ [.lst ds])
  | [.lst ds], S, Q => Q (.ref S.length) (S ++ [.lst ds])
  | [.ref n], S, Q => match S[n]? with | some (.lst ds) => Q (.ref S.length) (S ++ [.lst ds]) | _ => False
  | _, _, _ => False
section
variable {K : PySem.W.Frag}
theorem RepAll.one_inv {μ : Mu} {H : Hp} {d : D} {vs : List V} (r : RepAll K μ H [d] vs) : ∃ v, vs = [v] ∧ Rep K μ H d v := by
  cases r with
  | cons r t => cases t; exact ⟨_, rfl, r⟩
theorem RepAll.two_inv {μ : Mu} {H : Hp} {d e : D} {vs : List V} (r : RepAll K μ H [d, e] vs) : ∃ v u, vs = [v, u] ∧ Rep K μ H d v ∧ Rep K μ H e u := by
  cases r with
  | cons r t =>
    obtain ⟨u, rfl, r2⟩ := t.one_inv
    exact ⟨_, _, rfl, r, r2⟩
/-- what holds a row of items: a tuple, a list, an object of the store -/
theorem seq_rep {μ : Mu} {S : Store} {H : Hp} {ds : List D} {v : V} {d : D} (m : Sim K μ S H) (r : Rep K μ H d v) (h : d = .tup ds ∨ d = .lst ds ∨ ∃ n, d = .ref n ∧ S[n]? = some (.lst ds)) :
    ∃ a xs, v = .ref a ∧ (SqL K H a xs ∨ SqT K H a xs) ∧ RepAll K μ H ds xs := by
  rcases h with rfl | rfl | ⟨n, rfl, hn⟩
  · obtain ⟨a, xs, rfl, h1, r1⟩ := r.tupS
    exact ⟨a, xs, rfl, .inr h1, r1⟩
  · obtain ⟨a, xs, rfl, h1, r1⟩ := r.lstS
    exact ⟨a, xs, rfl, .inl h1, r1⟩
  · obtain ⟨a, xs, rfl, hm, h1, r1⟩ := m.at hn r
    exact ⟨a, xs, rfl, .inl (SqL.of h1), r1⟩
def rLenV (K : PySem.W.Frag) : List V → Hp → VK → Prop := fun xs H Q => (∃ p ys, xs = [.ref p] ∧ (SqL K H p ys ∨ SqT K H p ys) ∧ Q (.int ys.length) H) ∨ (∃ z, xs = [.str z] ∧ z.length ≤ sizeLine ∧ Q (.int z.length) H)
theorem cr_lenV {X : Cx} : CallR X (.builtin "len") (rLenV X.K) := call_len_seq.or call_len_str
theorem cd_len : CallD K (rLenV K) rLen := by
  intro μ S H ds vs Q0 Q m r q p
  unfold rLen at q
  split at q
  · rename_i ds
    obtain ⟨v, e1, r'⟩ := r.one_inv
    subst e1
    obtain ⟨a, xs, rfl, h1, r1⟩ := r'.tupS
    exact .inl ⟨a, xs, rfl, .inr h1, by rw [← r1.length]; exact p.now m (.int _) q⟩
  · rename_i ds
    obtain ⟨v, e1, r'⟩ := r.one_inv
    subst e1
    obtain ⟨a, xs, rfl, h1, r1⟩ := r'.lstS
    exact .inl ⟨a, xs, rfl, .inl h1, by rw [← r1.length]; exact p.now m (.int _) q⟩
  · obtain ⟨v, e1, r'⟩ := r.one_inv
    subst e1
    rw [r'.str_inv]
    exact .inr ⟨_, rfl, q.1, p.now m (.int _) q.2⟩
  · obtain ⟨v, e1, r'⟩ := r.one_inv
    subst e1
    split at q
    · rename_i ds hn
      obtain ⟨a, xs, rfl, hm, h1, r1⟩ := m.at hn r'
      exact .inl ⟨a, xs, rfl, .inl (SqL.of h1), by rw [← r1.length]; exact p.now m (.int _) q⟩
    · exact q.elim
  · exact q.elim
theorem cd_int : CallD K (fun xs H Q => (∃ i, xs = [.int i] ∧ Q (.int i) H) ∨ ∃ k, xs = [.bl k] ∧ Q (.int (if k then 1 else 0)) H) rInt := by
  intro μ S H ds vs Q0 Q m r q p
  unfold rInt at q
  split at q
  · obtain ⟨v, e1, r'⟩ := r.one_inv
    subst e1
    rw [r'.int_inv]
    exact .inl ⟨_, rfl, p.now m (.int _) q⟩
  · obtain ⟨v, e1, r'⟩ := r.one_inv
    subst e1
    rw [r'.bl_inv]
    exact .inr ⟨_, rfl, p.now m (.int _) q⟩
  · exact q.elim
theorem cd_abs : CallD K (fun xs H Q => ∃ i, xs = [.int i] ∧ Q (.int (if i < 0 then -i else i)) H) rAbs := by
  intro μ S H ds vs Q0 Q m r q p
  unfold rAbs at q
  split at q
  · obtain ⟨v, e1, r'⟩ := r.one_inv
    subst e1
    rw [r'.int_inv]
    exact ⟨_, rfl, p.now m (.int _) q⟩
  · exact q.elim
theorem cd_gcd : CallD K rGcd rGcdD := by
  intro μ S H ds vs Q0 Q m r q p
  unfold rGcdD at q
  split at q
  · obtain ⟨v, u, e1, r', r2⟩ := r.two_inv
    subst e1
    rw [r'.int_inv, r2.int_inv]
    exact ⟨_, _, rfl, p.now m (.int _) q⟩
  · exact q.elim
theorem cd_max2 : CallD K (fun xs H Q => ∃ i j, xs = [.int i, .int j] ∧ Q (.int (if j > i then j else i)) H) rMax2 := by
  intro μ S H ds vs Q0 Q m r q p
  unfold rMax2 at q
  split at q
  · obtain ⟨v, u, e1, r', r2⟩ := r.two_inv
    subst e1
    rw [r'.int_inv, r2.int_inv]
    exact ⟨_, _, rfl, p.now m (.int _) q⟩
  · exact q.elim
theorem cd_min2 : CallD K (fun xs H Q => ∃ i j, xs = [.int i, .int j] ∧ Q (.int (if j < i then j else i)) H) rMin2 := by
  intro μ S H ds vs Q0 Q m r q p
  unfold rMin2 at q
  split at q
  · obtain ⟨v, u, e1, r', r2⟩ := r.two_inv
    subst e1
    rw [r'.int_inv, r2.int_inv]
    exact ⟨_, _, rfl, p.now m (.int _) q⟩
  · exact q.elim
def rTupleV (K : PySem.W.Frag) : List V → Hp → VK → Prop := fun xs H Q => ∃ p ys, xs = [.ref p] ∧ ((SqL K H p ys ∧ ∀ l, H l = none → Q (.ref l) (upd H l (.tup ys))) ∨ (SqT K H p ys ∧ Q (.ref p) H))
theorem cd_tuple : CallD K (rTupleV K) rTuple := by
  intro μ S H ds vs Q0 Q m r q p
  unfold rTuple at q
  split at q
  · obtain ⟨v, e1, r'⟩ := r.one_inv
    subst e1
    obtain ⟨a, xs, rfl, h1, r1⟩ := r'.tupS
    exact ⟨a, xs, rfl, .inr ⟨h1, p.now m r' q⟩⟩
  · obtain ⟨v, e1, r'⟩ := r.one_inv
    subst e1
    obtain ⟨a, xs, rfl, h1, r1⟩ := r'.lstS
    exact ⟨a, xs, rfl, .inl ⟨h1, fun l hl => p _ _ q _ _ _ (.new hl) (m.new hl) (Sim.newT (S := S) hl r1)⟩⟩
  · obtain ⟨v, e1, r'⟩ := r.one_inv
    subst e1
    split at q
    · rename_i ds hn
      obtain ⟨a, xs, rfl, hm, h1, r1⟩ := m.at hn r'
      exact ⟨a, xs, rfl, .inl ⟨SqL.of h1, fun l hl => p _ _ q _ _ _ (.new hl) (m.new hl) (Sim.newT (S := S) hl r1)⟩⟩
    · exact q.elim
  · exact q.elim
def rListV (K : PySem.W.Frag) : List V → Hp → VK → Prop := fun xs H Q => ∃ p ys, xs = [.ref p] ∧ (SqL K H p ys ∨ SqT K H p ys) ∧ ∀ l, H l = none → Q (.ref l) (upd H l (.lst ys))
theorem cd_list : CallD K (rListV K) rList := by
  intro μ S H ds vs Q0 Q m r q p
  have key : ∀ d ds, Q0 (.lst ds) S → (∃ v, vs = [v] ∧ Rep K μ H d v) → (d = .tup ds ∨ d = .lst ds ∨ ∃ n, d = .ref n ∧ S[n]? = some (.lst ds)) → rListV K vs H Q := fun d ds q ⟨v, e, rv⟩ h => by
    subst e
    obtain ⟨a, xs, rfl, h1, r1⟩ := seq_rep m rv h
    exact ⟨a, xs, rfl, h1, fun l hl => p _ _ q _ _ _ (.new hl) (m.new hl) (Sim.newL m hl r1)⟩
  unfold rList at q
  split at q
  · exact key _ _ q r.one_inv (.inl rfl)
  · exact key _ _ q r.one_inv (.inr (.inl rfl))
  · split at q
    · rename_i ds hn
      exact key _ _ q r.one_inv (.inr (.inr ⟨_, rfl, hn⟩))
    · exact q.elim
  · exact q.elim
theorem cd_listN : CallD K (rListV K) rListN := by
  intro μ S H ds vs Q0 Q m r q p
  have key : ∀ d ds, Q0 (.ref S.length) (S ++ [.lst ds]) → (∃ v, vs = [v] ∧ Rep K μ H d v) → (d = .tup ds ∨ d = .lst ds ∨ ∃ n, d = .ref n ∧ S[n]? = some (.lst ds)) → rListV K vs H Q := fun d ds q ⟨v, e, rv⟩ h => by
    subst e
    obtain ⟨a, xs, rfl, h1, r1⟩ := seq_rep m rv h
    exact ⟨a, xs, rfl, h1, fun l hl => p _ _ q _ _ _ (.alloc hl) (m.alloc hl r1) m.newR.refH⟩
  unfold rListN at q
  split at q
  · exact key _ _ q r.one_inv (.inl rfl)
  · exact key _ _ q r.one_inv (.inr (.inl rfl))
  · split at q
    · rename_i ds hn
      exact key _ _ q r.one_inv (.inr (.inr ⟨_, rfl, hn⟩))
    · exact q.elim
  · exact q.elim
end
section
variable {X : Cx} {e a b c : Expr} {wa wb wc : WE} {pos p p1 p2 : Pos} {es : List Expr} {wr : WA} {x : Str}
theorem se_len (hg : Gl X "len") (hm : X.mg "len" = none) (ha : SA X (a :: es) wr) (he : starEach (a :: es) X.env = (false, eval a X.env) :: starEach es X.env := by rfl) (hpl : (backTo pos (starEach es X.env)).any (·.1) = false := by rfl) : SE X (.Call (.Name "len" p) (a :: es) [] pos) (wCall rLen wr) := se_callB cd_len cr_lenV hg hm (by decide +kernel) ha (by decide) (by decide) he hpl
theorem se_cint (hg : Gl X "int") (hm : X.mg "int" = none) (ha : SA X (a :: es) wr) (he : starEach (a :: es) X.env = (false, eval a X.env) :: starEach es X.env := by rfl) (hpl : (backTo pos (starEach es X.env)).any (·.1) = false := by rfl) : SE X (.Call (.Name "int" p) (a :: es) [] pos) (wCall rInt wr) := se_callTy cd_int call_int1 hg hm (by decide +kernel) ha (by decide) (by decide) he hpl
theorem se_abs (hg : Gl X "abs") (hm : X.mg "abs" = none) (ha : SA X (a :: es) wr) (he : starEach (a :: es) X.env = (false, eval a X.env) :: starEach es X.env := by rfl) (hpl : (backTo pos (starEach es X.env)).any (·.1) = false := by rfl) : SE X (.Call (.Name "abs" p) (a :: es) [] pos) (wCall rAbs wr) := se_callB cd_abs call_abs hg hm (by decide +kernel) ha (by decide) (by decide) he hpl
theorem se_tuple (hg : Gl X "tuple") (hm : X.mg "tuple" = none) (ha : SA X (a :: es) wr) (he : starEach (a :: es) X.env = (false, eval a X.env) :: starEach es X.env := by rfl) (hpl : (backTo pos (starEach es X.env)).any (·.1) = false := by rfl) : SE X (.Call (.Name "tuple" p) (a :: es) [] pos) (wCall rTuple wr) := se_callTy cd_tuple call_tuple_of hg hm (by decide +kernel) ha (by decide) (by decide) he hpl
theorem se_list (hg : Gl X "list") (hm : X.mg "list" = none) (ha : SA X (a :: es) wr) (he : starEach (a :: es) X.env = (false, eval a X.env) :: starEach es X.env := by rfl) (hpl : (backTo pos (starEach es X.env)).any (·.1) = false := by rfl) : SE X (.Call (.Name "list" p) (a :: es) [] pos) (wCall rList wr) := se_callTy cd_list call_list_of hg hm (by decide +kernel) ha (by decide) (by decide) he hpl
theorem se_listN (hg : Gl X "list") (hm : X.mg "list" = none) (ha : SA X (a :: es) wr) (he : starEach (a :: es) X.env = (false, eval a X.env) :: starEach es X.env := by rfl) (hpl : (backTo pos (starEach es X.env)).any (·.1) = false := by rfl) : SE X (.Call (.Name "list" p) (a :: es) [] pos) (wCall rListN wr) := se_callTy cd_listN call_list_of hg hm (by decide +kernel) ha (by decide) (by decide) he hpl
theorem se_max2 (hc : X.calm = true) (hg : Gl X "max") (hm : X.mg "max" = none) (ha : SA X (a :: es) wr) (he : starEach (a :: es) X.env = (false, eval a X.env) :: starEach es X.env := by rfl) (hpl : (backTo pos (starEach es X.env)).any (·.1) = false := by rfl) : SE X (.Call (.Name "max" p) (a :: es) [] pos) (wCall rMax2 wr) := se_callB cd_max2 (call_max2 hc) hg hm (by decide +kernel) ha (by decide) (by decide) he hpl
theorem se_min2 (hc : X.calm = true) (hg : Gl X "min") (hm : X.mg "min" = none) (ha : SA X (a :: es) wr) (he : starEach (a :: es) X.env = (false, eval a X.env) :: starEach es X.env := by rfl) (hpl : (backTo pos (starEach es X.env)).any (·.1) = false := by rfl) : SE X (.Call (.Name "min" p) (a :: es) [] pos) (wCall rMin2 wr) := se_callB cd_min2 (call_min2 hc) hg hm (by decide +kernel) ha (by decide) (by decide) he hpl
/-- from math import gcd -/
theorem se_gcd (hg : Gl X x) (hm : X.mg x = some (.builtin "math.gcd")) (ha : SA X (a :: es) wr) (hdb : (x == ("__debug__" : Str)) = false := by decide)
    (he : starEach (a :: es) X.env = (false, eval a X.env) :: starEach es X.env := by rfl) (hpl : (backTo pos (starEach es X.env)).any (·.1) = false := by rfl) : SE X (.Call (.Name x p) (a :: es) [] pos) (wCall rGcdD wr) :=
  se_callx cd_gcd ha (pe_callBfun cr_gcd hg hm ha hdb he hpl)

/-! ### isinstance(x, T), T a built-in class -/
def tyName : D → Store → Option String
  | .non, _ => some "NoneType"
  | .bl _, _ => some "bool"
  | .int _, _ => some "int"
  | .str _, _ => some "str"
  | .tup _, _ => some "tuple"
  | .lst _, _ => some "list"
  | .ref n, S => match S[n]? with | some (.lst _) => some "list" | _ => none
def isT : D → Store → String → Option Bool
  | .bl _, _, "int" => some true
  | d, S, T => if ["int", "bool", "str", "tuple", "list"].contains T then (tyName d S).map (· == T) else none
def wIsT (w : WE) (T : String) : WE := fun ρ S Q => w ρ S fun d S1 => match isT d S1 T with | some b => Q (.bl b) S1 | none => False
theorem kitB_all : ∀ a ∈ ["NoneType", "bool", "int", "str", "tuple", "list"], ∀ b ∈ ["int", "bool", "str", "tuple", "list"], kitB a b = some (if a = "bool" ∧ b = "int" then true else a == b) := by decide +kernel
theorem ty_rep {K : PySem.W.Frag} {μ : Mu} {S : Store} {H : Hp} {d : D} {v : V} {t : String} (m : Sim K μ S H) (r : Rep K μ H d v) (h : tyName d S = some t) : TyX K H v (.type t) ∧ t ∈ ["NoneType", "bool", "int", "str", "tuple", "list"] := by
  cases r with
  | non => cases h; exact ⟨.base .non, by decide⟩
  | bl b => cases h; exact ⟨.base (.bl b), by decide⟩
  | int b => cases h; exact ⟨.base (.int b), by decide⟩
  | str b => cases h; exact ⟨.base (.str b), by decide⟩
  | tup hh r =>
    cases h
    refine ⟨?_, by decide⟩
    rcases hh with (hh | ⟨o, hh⟩) | ⟨o, its, n, h1, h2, _⟩
    · exact .base (.tup hh)
    · exact .fTuple hh
    · exact .kTuple h1 h2
  | lst hh r =>
    cases h
    refine ⟨?_, by decide⟩
    rcases hh with ⟨hh | ⟨o, hh⟩, _⟩ | ⟨o, its, n, h1, h2, _⟩
    · exact .base (.lst hh)
    · exact .base (.frz hh)
    · exact .kList h1 h2
  | ref hn =>
    rename_i n a
    have h' : (match S[n]? with | some (.lst _) => some "list" | _ => none) = some t := h
    split at h'
    · rename_i ds hd
      cases h'
      obtain ⟨a', xs, e, h1, h2, h3⟩ := m.at hd (.ref hn)
      cases e
      exact ⟨.base (.lst h2), by decide⟩
    · cases h'
theorem isT_ty {d : D} {S : Store} {T : String} {b : Bool} (h : isT d S T = some b) : ∃ t, tyName d S = some t ∧ T ∈ ["int", "bool", "str", "tuple", "list"] ∧ b = (if t = "bool" ∧ T = "int" then true else t == T) := by
  unfold isT at h
  split at h
  · cases h
    exact ⟨"bool", rfl, by decide, rfl⟩
  · rename_i hne
    split at h
    · rename_i hc
      cases ht : tyName d S with
      | none => rw [ht] at h; cases h
      | some t =>
        rw [ht] at h
        have h' : some (t == T) = some b := h
        cases h'
        refine ⟨t, rfl, by simpa using hc, ?_⟩
        rw [if_neg]
        rintro ⟨rfl, rfl⟩
        cases d with
        | bl k => exact hne k rfl rfl
        | ref n =>
          have h2 : (match S[n]? with | some (.lst _) => some "list" | _ => none) = some "bool" := ht
          split at h2 <;> simp at h2
        | _ => simp [tyName] at ht
    · cases h
theorem se_isT {T : Str} {Tn : String} (hg : Gl X "isinstance") (hm : X.mg "isinstance" = none) (hgT : Gl X T) (hmT : X.mg T = none) (hT : bootBuiltins T = some (.type Tn)) (ha : SE X a wa) (hn : T ≠ "__name__" := by decide) (hd : (T == ("__debug__" : Str)) = false := by decide)
    (he : starEach [a, .Name T p2] X.env = (false, eval a X.env) :: starEach [.Name T p2] X.env := by rfl) :
    SE X (.Call (.Name "isinstance" p) [a, .Name T p2] [] pos) (wIsT wa Tn) :=
  pe_weak (pe_callB call_isi hg hm (by decide +kernel) (pa_cons ha (pa_cons (pe_bltn (v := .ty Tn) hgT hmT hT rfl hn hd) pa_nil) he) (by decide) (by decide) he) fun σ H Q ⟨μ, S, ρ, Q0, m, en, q, p⟩ => by
    refine LE.run m en q fun d S1 μ1 v H1 q1 g1 m1 e1 r1 => ?_
    split at q1
    · rename_i b hb
      obtain ⟨t, ht, hTm, hb2⟩ := isT_ty hb
      obtain ⟨ty, htm⟩ := ty_rep m1 r1 ht
      refine ⟨v, .ty Tn, .type t, .type Tn, b, rfl, .ty Tn, ty, kit_ty ?_, p _ S1 q1 μ1 _ H1 g1 m1 (.bl b)⟩
      rw [kitB_all t htm Tn hTm, hb2]
    · exact q1.elim
end
end DL

set_option maxHeartbeats 4000000
namespace DL
open PySem PySem.Spec PyProof.Rows L2

/-! ### statements by content -/
structure PostS (K : PySem.W.Frag) (μ : Mu) (H : Hp) (D0 : EndsD) (D : Ends) : Prop where
  nx : ∀ ρ' S', D0.nx ρ' S' → ∀ μ' σ' H', Grow μ H μ' H' → Sim K μ' S' H' → EnvR K μ' H' ρ' σ' → D.nx σ' H'
  rt : Post K μ H D0.rt D.rt
  bk : ∀ ρ' S', D0.bk ρ' S' → ∀ μ' σ' H', Grow μ H μ' H' → Sim K μ' S' H' → EnvR K μ' H' ρ' σ' → D.bk σ' H'
  ct : ∀ ρ' S', D0.ct ρ' S' → ∀ μ' σ' H', Grow μ H μ' H' → Sim K μ' S' H' → EnvR K μ' H' ρ' σ' → D.ct σ' H'
def LS (K : PySem.W.Frag) (w : WS) : TS := fun D σ H => ∃ μ S ρ D0, Sim K μ S H ∧ EnvR K μ H ρ σ ∧ w D0 ρ S ∧ PostS K μ H D0 D
abbrev SS (X : Cx) (st : Stmt) (w : WS) : Prop := PS X st (LS X.K w)
abbrev SSs (X : Cx) (sts : List Stmt) (w : WS) : Prop := PSs X sts (LS X.K w)
theorem PostS.go {K : PySem.W.Frag} {μ μ' : Mu} {H H' : Hp} {D0 : EndsD} {D : Ends} (h : PostS K μ H D0 D) (g : Grow μ H μ' H') : PostS K μ' H' D0 D :=
  ⟨fun r s q m2 σ2 H2 g2 => h.nx r s q m2 σ2 H2 (g.trans g2), h.rt.go g, fun r s q m2 σ2 H2 g2 => h.bk r s q m2 σ2 H2 (g.trans g2), fun r s q m2 σ2 H2 g2 => h.ct r s q m2 σ2 H2 (g.trans g2)⟩
section
variable {X : Cx} {st : Stmt} {sts : List Stmt}
theorem ps_weak {t t' : TS} (h : PS X st t) (hw : ∀ D σ H, t' D σ H → t D σ H) : PS X st t' := ⟨fun pins s σ H D I q => h.run pins s σ H D I (hw _ _ _ q)⟩
theorem pss_weak {t t' : TS} (h : PSs X sts t) (hw : ∀ D σ H, t' D σ H → t D σ H) : PSs X sts t' := ⟨fun pins s σ H D I q => h.run pins s σ H D I (hw _ _ _ q)⟩
end
section
variable {X : Cx} {st : Stmt} {rest : List Stmt} {t u : WS} {e a b c : Expr} {wa wb wc : WE} {wt : WT} {pos : Pos}
def wNext : WS := fun D ρ S => D.nx ρ S
def wSeq (t u : WS) : WS := fun D ρ S => t { D with nx := u D } ρ S
theorem ls_run {K : PySem.W.Frag} {w : WS} {D : Ends} {D0 D1 : EndsD} {μ : Mu} {S : Store} {ρ : Env} {σ : L2.St} {H : Hp} (m : Sim K μ S H) (en : EnvR K μ H ρ σ) (h : w D0 ρ S) (p : PostS K μ H D0 D) : LS K w D σ H := ⟨μ, S, ρ, D0, m, en, h, p⟩
theorem ls_seq {K : PySem.W.Frag} {D : Ends} {σ : L2.St} {H : Hp} (h : LS K (wSeq t u) D σ H) : tSeq (LS K t) (LS K u) D σ H := by
  obtain ⟨μ, S, ρ, D0, m, en, q, p⟩ := h
  exact ⟨μ, S, ρ, { D0 with nx := u D0 }, m, en, q, fun ρ' S' q' μ' σ' H' g m' e' => ⟨μ', S', ρ', D0, m', e', q', p.go g⟩, p.rt, p.bk, p.ct⟩
theorem ss_nil : SSs X [] wNext := pss_weak pss_nil fun D σ H ⟨μ, S, ρ, D0, m, en, q, p⟩ => p.nx ρ S q μ σ H .refl m en
theorem ss_cons (h1 : SS X st t) (h2 : SSs X rest u) : SSs X (st :: rest) (wSeq t u) := pss_weak (pss_cons h1 h2) fun D σ H h => ls_seq h
theorem ss_one (h1 : SS X st t) : SSs X [st] t := pss_one h1
theorem ss_pass : SS X (.Pass pos) wNext := ps_weak ps_pass fun D σ H ⟨μ, S, ρ, D0, m, en, q, p⟩ => p.nx ρ S q μ σ H .refl m en
def wBreak : WS := fun D ρ S => D.bk ρ S
def wCont : WS := fun D ρ S => D.ct ρ S
theorem ss_break : SS X (.Break pos) wBreak := ps_weak ps_break fun D σ H ⟨μ, S, ρ, D0, m, en, q, p⟩ => p.bk ρ S q μ σ H .refl m en
theorem ss_continue : SS X (.Continue pos) wCont := ps_weak ps_continue fun D σ H ⟨μ, S, ρ, D0, m, en, q, p⟩ => p.ct ρ S q μ σ H .refl m en
def wDrop (w : WE) : WS := fun D ρ S => w ρ S fun _ S1 => D.nx ρ S1
theorem ss_expr (he : SE X e wa) (hs : swapsWith e none pos.line X.env = pure false := by rfl) : SS X (.Expr e pos) (wDrop wa) := ps_weak (ps_expr he hs) fun D σ H ⟨μ, S, ρ, D0, m, en, q, p⟩ =>
  LE.run m en q fun d S1 μ1 v H1 q1 g1 m1 e1 r1 => p.nx ρ S1 q1 μ1 σ H1 g1 m1 e1
def wRet (w : WE) : WS := fun D ρ S => w ρ S D.rt
theorem ss_ret (he : SE X e wa) : SS X (.Return (some e) pos) (wRet wa) := ps_weak (ps_ret he) fun D σ H ⟨μ, S, ρ, D0, m, en, q, p⟩ => ⟨μ, S, ρ, D0.rt, m, en, q, p.rt⟩
def wRetN : WS := fun D _ S => D.rt .non S
theorem ss_retN : SS X (.Return none pos) wRetN := ps_weak ps_retN fun D σ H ⟨μ, S, ρ, D0, m, en, q, p⟩ => p.rt .non S q μ _ H .refl m .non
def wIf (c : WT) (t u : WS) : WS := fun D ρ S => c ρ S fun k S1 => if k = true then t D ρ S1 else u D ρ S1
theorem ss_if {xs ys : List Stmt} (hc : ST X c wt) (ha : SSs X xs t) (hb : SSs X ys u) : SS X (.If c xs ys pos) (wIf wt t u) := ps_weak (ps_if hc ha hb) fun D σ H ⟨μ, S, ρ, D0, m, en, q, p⟩ => by
  refine LT.run m en q fun k S1 μ1 H1 q1 g1 m1 e1 => ?_
  cases k with
  | true => exact ⟨μ1, S1, ρ, D0, m1, e1, q1, p.go g1⟩
  | false => exact ⟨μ1, S1, ρ, D0, m1, e1, q1, p.go g1⟩
end

/-! ### targets -/
inductive Tg where
  | name (i : Nat)
  | tup (ts : List Tg)
mutual
def Tg.toV (K : PySem.W.Frag) : Tg → TG
  | .name i => gName i
  | .tup ts => gTup K ts.length (Tg.toVs K ts)
def Tg.toVs (K : PySem.W.Frag) : List Tg → TGs
  | [] => gNil
  | t :: ts => gCons (Tg.toV K t) (Tg.toVs K ts)
end
mutual
def bindT : Tg → D → Env → Option Env
  | .name i, d, ρ => some (ρ.set i (some d))
  | .tup ts, .tup ds, ρ => bindTs ts ds ρ
  | .tup _, _, _ => none
def bindTs : List Tg → List D → Env → Option Env
  | [], [], ρ => some ρ
  | t :: ts, d :: ds, ρ => match bindT t d ρ with | some ρ1 => bindTs ts ds ρ1 | none => none
  | _, _, _ => none
end
mutual
def Tg.slots : Tg → List Nat
  | .name i => [i]
  | .tup ts => Tg.slotsL ts
def Tg.slotsL : List Tg → List Nat
  | [] => []
  | t :: ts => Tg.slots t ++ Tg.slotsL ts
end
section
variable {K : PySem.W.Frag} {μ : Mu} {H : Hp}
theorem wipe_set {σ : L2.St} {i : Nat} {v : V} : ∀ {vs : List Nat}, i ∈ vs → wipe (σ.set i (some v)) vs = wipe σ vs := by
  intro vs h
  apply List.ext_getElem?
  intro j
  have key : ∀ (σ : L2.St) (vs : List Nat), (wipe σ vs)[j]? = if j ∈ vs then (σ[j]?).map (fun _ => none) else σ[j]? := by
    intro σ vs
    induction vs with
    | nil => simp [wipe]
    | cons w ws ih =>
      unfold wipe
      by_cases hw : w = j
      · subst hw
        rw [List.getElem?_set]
        simp only [List.mem_cons, true_or, if_true, wipe_length]
        by_cases hl : w < σ.length
        · simp [hl]
        · simp [hl]
      · rw [List.getElem?_set_ne hw, ih]
        have e1 : (j ∈ w :: ws) ↔ j ∈ ws := by simp [Ne.symm hw]
        simp only [e1]
  rw [key, key]
  by_cases hj : j ∈ vs
  · rw [if_pos hj, if_pos hj, List.getElem?_set]
    by_cases hij : i = j
    · subst hij
      by_cases hl : i < σ.length
      · simp [hl]
      · simp [hl]
    · simp [hij]
  · rw [if_neg hj, if_neg hj, List.getElem?_set_ne (fun e => hj (by rw [← e]; exact h))]
mutual
/-- binding: the frame behind, and which slots it wrote -/
theorem bind_ok (vs : List Nat) : ∀ (t : Tg) (d : D) (ρ ρ' : Env) (v : V) (σ : L2.St) (Q : L2.St → Hp → Prop), bindT t d ρ = some ρ' → Rep K μ H d v → EnvR K μ H ρ σ →
    (∀ σ', EnvR K μ H ρ' σ' → ((∀ i ∈ t.slots, i ∈ vs) → wipe σ' vs = wipe σ vs) → Q σ' H) → t.toV K v σ H Q
  | .name i, d, ρ, ρ', v, σ, Q, h, r, en, k => by
    have e : ρ.set i (some d) = ρ' := Option.some.inj (by simpa [bindT] using h)
    subst e
    show gName i v σ H Q
    exact k _ (en.set r) fun hs => wipe_set (hs i (by simp [Tg.slots]))
  | .tup ts, .tup ds, ρ, ρ', v, σ, Q, h, r, en, k => by
    cases r with
    | tup hh r =>
      have h' : bindTs ts ds ρ = some ρ' := by simpa [bindT] using h
      show gTup K ts.length (Tg.toVs K ts) _ σ H Q
      have hl := bindTs_len ts ds ρ ρ' h'
      refine ⟨_, _, rfl, hh, by rw [← r.length]; exact hl.symm, ?_⟩
      exact binds_ok vs ts ds ρ ρ' _ σ Q h' r en fun σ' e' hs => k σ' e' (by simpa [Tg.slots] using hs)
  | .tup ts, .non, ρ, ρ', v, σ, Q, h, r, en, k => by simp [bindT] at h
  | .tup ts, .bl _, ρ, ρ', v, σ, Q, h, r, en, k => by simp [bindT] at h
  | .tup ts, .int _, ρ, ρ', v, σ, Q, h, r, en, k => by simp [bindT] at h
  | .tup ts, .str _, ρ, ρ', v, σ, Q, h, r, en, k => by simp [bindT] at h
  | .tup ts, .lst _, ρ, ρ', v, σ, Q, h, r, en, k => by simp [bindT] at h
  | .tup ts, .ref _, ρ, ρ', v, σ, Q, h, r, en, k => by simp [bindT] at h
theorem bindTs_len : ∀ (ts : List Tg) (ds : List D) (ρ ρ' : Env), bindTs ts ds ρ = some ρ' → ts.length = ds.length
  | [], [], _, _, _ => rfl
  | t :: ts, d :: ds, ρ, ρ', h => by
    simp only [bindTs] at h
    split at h
    · rename_i ρ1 h1
      have := bindTs_len ts ds ρ1 ρ' h
      simp [this]
    · cases h
  | [], _ :: _, _, _, h => by simp [bindTs] at h
  | _ :: _, [], _, _, h => by simp [bindTs] at h
theorem binds_ok (vs : List Nat) : ∀ (ts : List Tg) (ds : List D) (ρ ρ' : Env) (us : List V) (σ : L2.St) (Q : L2.St → Hp → Prop), bindTs ts ds ρ = some ρ' → RepAll K μ H ds us → EnvR K μ H ρ σ →
    (∀ σ', EnvR K μ H ρ' σ' → ((∀ i ∈ Tg.slotsL ts, i ∈ vs) → wipe σ' vs = wipe σ vs) → Q σ' H) → Tg.toVs K ts us σ H Q
  | [], [], ρ, ρ', us, σ, Q, h, r, en, k => by
    have e : ρ = ρ' := Option.some.inj (by simpa [bindTs] using h)
    subst e
    cases r
    show gNil [] σ H Q
    exact ⟨rfl, k σ en fun _ => rfl⟩
  | t :: ts, d :: ds, ρ, ρ', us, σ, Q, h, r, en, k => by
    simp only [bindTs] at h
    split at h
    · rename_i ρ1 h1
      cases r with
      | cons r rr =>
        show gCons (Tg.toV K t) (Tg.toVs K ts) _ σ H Q
        refine ⟨_, _, rfl, ?_⟩
        refine bind_ok vs t d ρ ρ1 _ σ _ h1 r en fun σ1 e1 w1 => ?_
        refine binds_ok vs ts ds ρ1 ρ' _ σ1 Q h rr e1 fun σ2 e2 w2 => ?_
        refine k σ2 e2 fun hs => ?_
        rw [w2 fun i hi => hs i (by simp [Tg.slotsL, hi]), w1 fun i hi => hs i (by simp [Tg.slotsL, hi])]
    · cases h
  | [], _ :: _, _, _, _, _, _, h, _, _, _ => by simp [bindTs] at h
  | _ :: _, [], _, _, _, _, _, h, _, _, _ => by simp [bindTs] at h
end
theorem bind_len : ∀ (t : Tg) (d : D) (ρ ρ' : Env), bindT t d ρ = some ρ' → True := fun _ _ _ _ _ => True.intro
end
abbrev SG (X : Cx) (e : Expr) (t : Tg) : Prop := PG X e (t.toV X.K)
abbrev SGs (X : Cx) (es : List Expr) (ts : List Tg) : Prop := PGs X es (Tg.toVs X.K ts)
section
variable {X : Cx} {st : Stmt} {rest : List Stmt} {t u : WS} {e a b c : Expr} {wa wb wc : WE} {wt : WT} {pos p : Pos} {es : List Expr} {g : Tg} {gs : List Tg}
theorem sg_name {i : Nat} {x : Str} (hN : X.N.Nodup) (hi : X.N[i]? = some x := by rfl) (hx : Loc X.env.scope x := by first | exact Or.inl rfl | exact Or.inr rfl) (hf : X.fn x = true ∨ X.env.scope.names.lookup x = some .local := by first | exact .inl rfl | exact .inr rfl | assumption) : SG X (.Name x pos) (.name i) := pg_name hN hi hx hf
theorem sg_tup {k : Nat} (hc : X.calm = true) (h : SGs X es gs) (hn : (assignEach es X.env).length = gs.length := by rfl) (hst : (assignEach es X.env).findIdx? (·.1) = none := by rfl) : SG X (.Tuple es k pos) (.tup gs) := pg_tup hc h hn hst
theorem sgs_nil : SGs X [] [] := pgs_nil
theorem sgs_cons (h1 : SG X e g) (h2 : SGs X es gs) (hs : (assignEach (e :: es) X.env).map (·.2) = assign e X.env :: (assignEach es X.env).map (·.2) := by rfl) : SGs X (e :: es) (g :: gs) := pgs_cons h1 h2 hs
def wAsg (w : WE) (g : Tg) : WS := fun D ρ S => w ρ S fun d S1 => match bindT g d ρ with | some ρ' => D.nx ρ' S1 | none => False
theorem las_ok {K : PySem.W.Frag} {D : Ends} {σ : L2.St} {H : Hp} (h : LS K (wAsg wa g) D σ H) : tAsg (LE K wa) (g.toV K) D σ H := by
  obtain ⟨μ, S, ρ, D0, m, en, q, p⟩ := h
  refine LE.run m en q fun d S1 μ1 v H1 q1 g1 m1 e1 r1 => ?_
  split at q1
  · rename_i ρ' hb
    exact bind_ok [] g d ρ ρ' v σ _ hb r1 e1 fun σ' e' _ => p.nx ρ' S1 q1 μ1 σ' H1 g1 m1 e'
  · exact q1.elim
theorem ss_asg {tg : Expr} (he : SE X e wa) (hg : SG X tg g) (hs : swapsWithSole [tg] e pos.line X.env = pure false := by rfl) (hw : swappedStores [tg] e X.env = pure none := by rfl)
    (h1 : (assignEach [tg] X.env).map (·.2) = [assign tg X.env] := by rfl) : SS X (.Assign [tg] e pos) (wAsg wa g) := ps_weak (ps_asg he hg hs hw h1) fun D σ H h => las_ok h
theorem ss_set {i : Nat} {x : Str} {pos' : Pos} (hN : X.N.Nodup) (he : SE X e wa) (hi : X.N[i]? = some x := by rfl) (hx : Loc X.env.scope x := by first | exact Or.inl rfl | exact Or.inr rfl) (hs : swapsWith e (some (.Name x pos')) pos.line X.env = pure false := by rfl) (hf : X.fn x = true ∨ X.env.scope.names.lookup x = some .local := by first | exact .inl rfl | exact .inr rfl | assumption) :
    SS X (.Assign [.Name x pos'] e pos) (wAsg wa (.name i)) := ps_weak (ps_set hN hi hx he hs hf) fun D σ H h => las_ok h
/-- o[i] = e, a list of the store -/
def putAt (n : Nat) (k : Int) (d : D) (S : Store) (Q : Store → Prop) : Prop := match S[n]? with
  | some (.lst xs) => (match k with | .ofNat j => j < xs.length ∧ Q (S.set n (.lst (xs.set j d))) | .negSucc j => j < xs.length ∧ Q (S.set n (.lst (xs.set (xs.length - 1 - j) d))))
  | _ => False
def wPut (we wo wi : WE) : WS := fun D ρ S => we ρ S fun d S1 => wo ρ S1 fun o S2 => wi ρ S2 fun i S3 => match o, i with
  | .ref n, .int k => putAt n k d S3 (D.nx ρ)
  | _, _ => False
theorem ss_put {o i : Expr} {p1 : Pos} (he : SE X e wa) (ho : SE X o wb) (hi : SE X i wc)
    (ha : ∀ v, assign (.Subscript o i p1) X.env v = (do
      let ov ← holding [v] (eval o X.env)
      let iv ← holding [v, ov] (eval i X.env)
      standAt p1
      holding [v, ov, iv] (setItem ov iv v)
      release [v, ov, iv] []) := by intro _; rfl)
    (hs : swapsWithSole [.Subscript o i p1] e pos.line X.env = pure false := by rfl) (hw : swappedStores [.Subscript o i p1] e X.env = pure none := by rfl)
    (h1 : (assignEach [.Subscript o i p1] X.env).map (·.2) = [assign (.Subscript o i p1) X.env] := by rfl) : SS X (.Assign [.Subscript o i p1] e pos) (wPut wa wb wc) :=
  ps_weak (ps_asg he (pg_sub ho hi set_list ha) hs hw h1) fun D σ H ⟨μ, S, ρ, D0, m, en, q, p⟩ => by
    refine LE.run m en q fun d S1 μ1 v H1 q1 g1 m1 e1 r1 => ?_
    refine LE.run m1 e1 q1 fun o S2 μ2 vo H2 q2 g2 m2 e2 r2 => ?_
    refine LE.run m2 e2 q2 fun i S3 μ3 vi H3 q3 g3 m3 e3 r3 => ?_
    split at q3
    · rename_i n k
      unfold putAt at q3
      split at q3
      · rename_i xs hn
        obtain ⟨a, ys, rfl, h1, h2, h3⟩ := m3.at hn (r2.grow g3)
        have rv : Rep X.K μ3 H3 d v := r1.grow (g2.trans g3)
        have fin : ∀ j, j < xs.length → ixN ys.length k = some j → D0.nx ρ (S3.set n (.lst (xs.set j d))) → rSetL (.ref a) vi v H3 fun H4 => D.nx σ H4 := fun j hj hk q =>
          ⟨a, ys, k, j, rfl, r3.int_inv, h2, hk, p.nx _ _ q μ3 σ _ ((g1.trans g2).trans (g3.trans (.put m3 h1 h2))) (m3.put h1 h2 (h3.set rv j)) (e3.grow (.put m3 h1 h2))⟩
        have hl := h3.length
        cases k with
        | ofNat j => exact fin j q3.1 (by unfold ixN; rw [if_pos (by show (0 : Int) ≤ (j : Int); omega), if_pos (by have := q3.1; show (j : Int) < _; omega)]; rfl) q3.2
        | negSucc j =>
          refine fin _ (by have := q3.1; omega) ?_ q3.2
          have := q3.1
          unfold ixN
          rw [if_neg (by omega), if_pos (by omega)]
          congr 1
          omega
      · exact q3.elim
    · exact q3.elim
end
end DL

set_option maxHeartbeats 4000000
namespace DL
open PySem PySem.Spec PyProof.Rows L2

/-! ### what is walked -/
/-- J walks the items xs while G holds of the store -/
structure IsW (K : PySem.W.Frag) (μ : Mu) (H : Hp) (J : It) (xs : List D) (G : Store → Prop) : Prop where
  go : ∀ i μ2 H2 S2, i < xs.length → Grow μ H μ2 H2 → Sim K μ2 S2 H2 → G S2 → J.go i H2
  stop : ∀ μ2 H2 S2, Grow μ H μ2 H2 → Sim K μ2 S2 H2 → G S2 → J.stop xs.length H2
  yld : ∀ i μ2 H2 S2 x H3, i < xs.length → Grow μ H μ2 H2 → Sim K μ2 S2 H2 → G S2 → J.yld i H2 x H3 → ∃ d, xs[i]? = some d ∧ Grow μ2 H2 μ2 H3 ∧ Sim K μ2 S2 H3 ∧ Rep K μ2 H3 d x
abbrev WI := Env → Store → (List D → (Store → Prop) → Store → Prop) → Prop
def LI (K : PySem.W.Frag) (w : WI) : TI := fun σ H R => ∃ μ S ρ Q0, Sim K μ S H ∧ EnvR K μ H ρ σ ∧ w ρ S Q0 ∧ ∀ xs G S', Q0 xs G S' → ∀ μ' J H', Grow μ H μ' H' → Sim K μ' S' H' → IsW K μ' H' J xs G → R J H'
abbrev SI (X : Cx) (tg iter : Expr) (w : WI) : Prop := PI X tg iter (LI X.K w)
def wSeqI (w : WE) : WI := fun ρ S Q => w ρ S fun d S1 => match d with
  | .tup ds => Q ds (fun _ => True) S1
  | .lst ds => Q ds (fun _ => True) S1
  | .ref n => (match S1[n]? with | some (.lst ds) => Q ds (fun S => S[n]? = some (.lst ds)) S1 | _ => False)
  | _ => False
section
variable {K : PySem.W.Frag} {μ : Mu} {H : Hp} {a : Addr} {xs : List D} {vs : List V}
theorem isw_tup (h : Rd H a (.tup vs) ∨ KT K a vs) (r : RepAll K μ H xs vs) : IsW K μ H (Itt K a) xs (fun _ => True) where
  go := fun i μ2 H2 S2 hi g m _ => by
    have hi' : i < vs.length := by rw [← r.length]; exact hi
    exact ⟨vs, vs[i], h.imp (g.tup _ _) id, by simp [hi']⟩
  stop := fun μ2 H2 S2 g m _ => ⟨vs, h.imp (g.tup _ _) id, by rw [r.length]; exact Nat.le_refl _⟩
  yld := fun i μ2 H2 S2 x H3 hi g m _ y => by
    obtain ⟨rfl, y⟩ := y
    obtain ⟨d, h1, h2⟩ := r.getV (y vs (h.imp (g.tup _ _) id))
    exact ⟨d, h1, .refl, m, h2.grow g⟩
theorem isw_lst (h : (Rd H a (.lst vs) ∧ ¬ μ.has a) ∨ KL K a vs) (r : RepAll K μ H xs vs) : IsW K μ H (Itl K a) xs (fun _ => True) where
  go := fun i μ2 H2 S2 hi g m _ => by
    have hi' : i < vs.length := by rw [← r.length]; exact hi
    exact ⟨vs, vs[i], h.imp (fun z => (g.lst _ _ z.1 z.2).1) id, by simp [hi']⟩
  stop := fun μ2 H2 S2 g m _ => ⟨vs, h.imp (fun z => (g.lst _ _ z.1 z.2).1) id, by rw [r.length]; exact Nat.le_refl _⟩
  yld := fun i μ2 H2 S2 x H3 hi g m _ y => by
    obtain ⟨rfl, y⟩ := y
    obtain ⟨d, h1, h2⟩ := r.getV (y vs (h.imp (fun z => (g.lst _ _ z.1 z.2).1) id))
    exact ⟨d, h1, .refl, m, h2.grow g⟩
theorem isw_ref {n : Nat} (h : μ.sl[n]? = some (some a)) : IsW K μ H (Itl K a) xs (fun S => S[n]? = some (.lst xs)) where
  go := fun i μ2 H2 S2 hi g m hS => by
    obtain ⟨b, ws, h1, h2, h3⟩ := m.ob n xs hS
    rw [g.ref n a h] at h1
    cases h1
    have hi' : i < ws.length := by rw [← h3.length]; exact hi
    exact ⟨ws, ws[i], SqL.of h2, by simp [hi']⟩
  stop := fun μ2 H2 S2 g m hS => by
    obtain ⟨b, ws, h1, h2, h3⟩ := m.ob n xs hS
    rw [g.ref n a h] at h1
    cases h1
    exact ⟨ws, SqL.of h2, by rw [h3.length]; exact Nat.le_refl _⟩
  yld := fun i μ2 H2 S2 x H3 hi g m hS y => by
    obtain ⟨rfl, y⟩ := y
    obtain ⟨b, ws, h1, h2, h3⟩ := m.ob n xs hS
    rw [g.ref n a h] at h1
    cases h1
    obtain ⟨d, e1, e2⟩ := h3.getV (y ws (SqL.of h2))
    exact ⟨d, e1, .refl, m, e2⟩
theorem isw_range {lo : Int} {n : Nat} : IsW K μ H (Itr lo n) ((List.range n).map fun i => .int (lo + (i : Nat))) (fun _ => True) where
  go := fun i μ2 H2 S2 hi g m _ => by show i < n; simpa using hi
  stop := fun μ2 H2 S2 g m _ => by show n ≤ _; simp
  yld := fun i μ2 H2 S2 x H3 hi g m _ y => by
    obtain ⟨rfl, rfl⟩ := y
    have hi' : i < n := by simpa using hi
    exact ⟨.int (lo + i), by simp [hi'], .refl, m, .int _⟩
end
section
variable {X : Cx} {tg : Expr} {e l a b c : Expr} {wa wb wc : WE} {wr : WA} {es : List Expr} {pos p : Pos}
def iSeq (K : PySem.W.Frag) (tl : TE) : TI := fun σ H R => tl σ H fun x H1 => ∃ a, x = .ref a ∧ (((∃ xs, SqL K H1 a xs) ∧ R (Itl K a) H1) ∨ ((∃ xs, SqT K H1 a xs) ∧ R (Itt K a) H1))
theorem pi_seq {tl : TE} (hl : PE X l tl) : PI X tg l (iSeq X.K tl) := by
  refine ⟨fun pins s σ H R I h => ?_⟩
  refine thn (hl.run pins s σ H _ I h) fun v s1 ⟨x, H1, I1, r1, q1⟩ => ?_
  obtain ⟨a, e, q⟩ := q1
  subst e
  cases r1
  rcases q with ⟨⟨xs, hq⟩, q⟩ | ⟨⟨xs, hq⟩, q⟩
  · obtain ⟨its, rv, p, hz⟩ := I1.list hq
    refine wpAny_pyIter_list p.isList ?_
    refine ⟨s1.heap.objs.size, [s1.heap.objs.size], _, _, H1, rfl, I1.kept (t' := s1.toks) fun b o e => Heap.get?_push_of_some _ e, turn_list a _, ⟨_, Heap.get?_push_size _ rfl, rfl, rfl⟩, fun b hb => ?_, q⟩
    have e : b = s1.heap.objs.size := by simpa using hb
    subst e
    exact I1.fpOk (Nat.le_refl _) (I1.hok.fresh (Nat.le_refl _))
  · obtain ⟨its, rv, p, hz⟩ := I1.tuple hq
    refine wpAny_pyIter_tuple (show s1.heap.IsTuple a its.toArray from p) ?_
    refine ⟨s1.heap.objs.size, [s1.heap.objs.size], _, _, H1, rfl, I1.kept (t' := s1.toks) fun b o e => Heap.get?_push_of_some _ e, turn_tuple a _, ⟨_, Heap.get?_push_size _ rfl, rfl, rfl⟩, fun b hb => ?_, q⟩
    have e : b = s1.heap.objs.size := by simpa using hb
    subst e
    exact I1.fpOk (Nat.le_refl _) (I1.hok.fresh (Nat.le_refl _))
theorem pi_weak {t t' : TI} (h : PI X tg e t) (hw : ∀ σ H Q, t' σ H Q → t σ H Q) : PI X tg e t' := ⟨fun pins s σ H Q I q => h.run pins s σ H Q I (hw _ _ _ q)⟩
theorem si_seq (ha : SE X l wa) : SI X tg l (wSeqI wa) := pi_weak (pi_seq ha) fun σ H R ⟨μ, S, ρ, Q0, m, en, q, p⟩ => by
  refine LE.run m en q fun d S1 μ1 v H1 q1 g1 m1 e1 r1 => ?_
  split at q1
  · cases r1 with
    | tup hh r => exact ⟨_, rfl, .inr ⟨⟨_, hh⟩, p _ _ S1 q1 μ1 _ H1 g1 m1 (isw_tup hh r)⟩⟩
  · cases r1 with
    | lst hh r => exact ⟨_, rfl, .inl ⟨⟨_, hh.imp And.left id⟩, p _ _ S1 q1 μ1 _ H1 g1 m1 (isw_lst hh r)⟩⟩
  · split at q1
    · rename_i n _ ds hn
      obtain ⟨a, ys, rfl, h1, h2, h3⟩ := m1.at hn r1
      exact ⟨_, rfl, .inl ⟨⟨_, SqL.of h2⟩, p _ _ S1 q1 μ1 _ H1 g1 m1 (isw_ref h1)⟩⟩
    · exact q1.elim
  · exact q1.elim
def intsD (lo : Int) (n : Nat) : List D := (List.range n).map fun i => .int (lo + (i : Nat))
def wRange1 (w : WA) : WI := fun ρ S Q => w ρ S fun ds S1 => match ds with | [.int n] => (-(2 ^ 62) ≤ n ∧ n < 2 ^ 62) ∧ Q (intsD 0 n.toNat) (fun _ => True) S1 | _ => False
def wRange2 (w : WA) : WI := fun ρ S Q => w ρ S fun ds S1 => match ds with | [.int i, .int j] => (-(2 ^ 62) ≤ i ∧ i < 2 ^ 62 ∧ -(2 ^ 62) ≤ j ∧ j < 2 ^ 62) ∧ Q (intsD i (j - i).toNat) (fun _ => True) S1 | _ => False
theorem si_range1 (hg : Gl X "range") (hm : X.mg "range" = none) (ha : SA X [a] wr) (hs : starEach [a] X.env = [(false, eval a X.env)] := by rfl) : SI X tg (.Call (.Name "range" p) [a] [] pos) (wRange1 wr) :=
  pi_weak (pi_range1 hg hm ha hs) fun σ H R ⟨μ, S, ρ, Q0, m, en, q, p⟩ => by
    refine LA.run m en q fun ds S1 μ1 vs H1 q1 g1 m1 e1 r1 => ?_
    split at q1
    · obtain ⟨v, rfl, r⟩ := r1.one_inv
      rw [r.int_inv]
      exact ⟨_, rfl, q1.1.1, q1.1.2, p _ _ S1 q1.2 μ1 _ H1 g1 m1 isw_range⟩
    · exact q1.elim
theorem si_range2 (hg : Gl X "range") (hm : X.mg "range" = none) (ha : SA X [a, b] wr) (hs : starEach [a, b] X.env = [(false, eval a X.env), (false, eval b X.env)] := by rfl) (hs2 : starEach [b] X.env = [(false, eval b X.env)] := by rfl) : SI X tg (.Call (.Name "range" p) [a, b] [] pos) (wRange2 wr) :=
  pi_weak (pi_range2 hg hm ha hs hs2) fun σ H R ⟨μ, S, ρ, Q0, m, en, q, p⟩ => by
    refine LA.run m en q fun ds S1 μ1 vs H1 q1 g1 m1 e1 r1 => ?_
    split at q1
    · obtain ⟨v, u, rfl, r, r2⟩ := r1.two_inv
      rw [r.int_inv, r2.int_inv]
      exact ⟨_, _, rfl, q1.1, p _ _ S1 q1.2 μ1 _ H1 g1 m1 isw_range⟩
    · exact q1.elim

/-! ### for -/
def forR (g : Tg) (wb : WS) (G : Store → Prop) (D0 : EndsD) : List D → Env → Store → Prop
  | [], ρ, S => G S ∧ D0.nx ρ S
  | x :: r, ρ, S => G S ∧ match bindT g x ρ with
    | some ρ' => wb { D0 with nx := fun ρ S => forR g wb G D0 r ρ S, ct := fun ρ S => forR g wb G D0 r ρ S, bk := D0.nx } ρ' S
    | none => False
def wFor (wi : WI) (g : Tg) (wb : WS) : WS := fun D ρ S => wi ρ S fun xs G S1 => forR g wb G D xs ρ S1
theorem forR_G {g : Tg} {wb : WS} {G : Store → Prop} {D0 : EndsD} {xs : List D} {ρ : Env} {S : Store} (h : forR g wb G D0 xs ρ S) : G S := by
  cases xs with
  | nil => exact h.1
  | cons x r => exact h.1
theorem drop_cons {xs : List D} {i : Nat} {d : D} (h : xs[i]? = some d) : xs.drop i = d :: xs.drop (i + 1) := by
  obtain ⟨hi, e⟩ := List.getElem?_eq_some_iff.mp h
  rw [List.drop_eq_getElem_cons hi, e]
theorem ss_for {iter : Expr} {body : List Stmt} {wi : WI} {g : Tg} {wb : WS} (hp : PassesOwn (model X.prog X.w) X.A X.env X.xe) (hc : X.calm = true) (hi : SI X tg iter wi) (hg : SG X tg g) (hb : SSs X body wb)
    (hs : ∀ x, foldedSetIterable iter X.env x = pure x := by intro _; rfl) : SS X (.For tg iter body [] pos) (wFor wi g wb) := ps_weak (ps_for hp hc hi hg hb hs) fun D σ H ⟨μ, S, ρ, D0, m, en, q, p⟩ => by
  refine ⟨μ, S, ρ, _, m, en, q, fun xs G S1 q1 μ1 J H1 g1 m1 w1 => ?_⟩
  refine ⟨fun i n σ' H' => n = xs.length - i ∧ i ≤ xs.length ∧ ∃ μ' S' ρ', Grow μ1 H1 μ' H' ∧ Sim X.K μ' S' H' ∧ EnvR X.K μ' H' ρ' σ' ∧ forR g wb G D0 (xs.drop i) ρ' S', ⟨xs.length, by simp, Nat.zero_le _, μ1, S1, ρ, .refl, m1, en.grow g1, by simpa using q1⟩, ?_⟩
  rintro i n σ' H' ⟨rfl, hi, μ', S', ρ', g2, m2, e2, f⟩
  have hG := forR_G f
  by_cases hlt : i < xs.length
  · refine .inr ⟨w1.go i μ' H' S' hlt g2 m2 hG, fun σ2 H2 => ∃ μ2 S2 ρ2, Grow μ1 H1 μ2 H2 ∧ Sim X.K μ2 S2 H2 ∧ EnvR X.K μ2 H2 ρ2 σ2 ∧ forR g wb G D0 (xs.drop (i + 1)) ρ2 S2, fun σ2 H2 h => ⟨xs.length - (i + 1), by omega, rfl, hlt, h⟩, fun x H3 y => ?_⟩
    obtain ⟨d, hd, g3, m3, r3⟩ := w1.yld i μ' H' S' x H3 hlt g2 m2 hG y
    rw [drop_cons hd] at f
    obtain ⟨_, f⟩ := f
    split at f
    · rename_i ρ3 hb3
      refine bind_ok [] g d ρ' ρ3 x σ' _ hb3 r3 (e2.grow g3) fun σ3 e3 _ => ?_
      refine ⟨μ', S', ρ3, _, m3, e3, f, fun ρ4 S4 q4 μ4 σ4 H4 g4 m4 e4 => ⟨μ4, S4, ρ4, g2.trans (g3.trans g4), m4, e4, q4⟩, p.rt.go (g1.trans (g2.trans g3)), fun ρ4 S4 q4 μ4 σ4 H4 g4 m4 e4 => p.nx ρ4 S4 q4 μ4 σ4 H4 (g1.trans (g2.trans (g3.trans g4))) m4 e4,
        fun ρ4 S4 q4 μ4 σ4 H4 g4 m4 e4 => ⟨μ4, S4, ρ4, g2.trans (g3.trans g4), m4, e4, q4⟩⟩
    · exact f.elim
  · have e : i = xs.length := by omega
    subst e
    rw [List.drop_of_length_le (Nat.le_refl _)] at f
    exact .inl ⟨w1.stop μ' H' S' g2 m2 hG, p.nx ρ' S' f.2 μ' σ' H' (g1.trans g2) m2 e2⟩

/-! ### while -/
def wWhile (c : WT) (wb : WS) : WS := fun D ρ S => ∃ W : Nat → Env → Store → Prop, (∃ n, W n ρ S) ∧ ∀ n ρ S, W n ρ S →
  c ρ S fun k S1 => if k = true then wb { D with nx := fun ρ' S' => ∃ n', n' < n ∧ W n' ρ' S', ct := fun ρ' S' => ∃ n', n' < n ∧ W n' ρ' S', bk := D.nx } ρ S1 else D.nx ρ S1
theorem ss_while {body : List Stmt} {wt : WT} {wb : WS} (hp : PassesOwn (model X.prog X.w) X.A X.env X.xe) (hc : ST X c wt) (hb : SSs X body wb) : SS X (.While c body [] pos) (wWhile wt wb) := ps_weak (ps_while hp hc hb) fun D σ H ⟨μ, S, ρ, D0, m, en, q, p⟩ => by
  obtain ⟨W, ⟨n0, w0⟩, turn⟩ := q
  refine ⟨fun n σ' H' => ∃ μ' S' ρ', Grow μ H μ' H' ∧ Sim X.K μ' S' H' ∧ EnvR X.K μ' H' ρ' σ' ∧ W n ρ' S', ⟨n0, μ, S, ρ, .refl, m, en, w0⟩, ?_⟩
  rintro n σ' H' ⟨μ', S', ρ', g, m', e', w⟩
  refine LT.run m' e' (turn n ρ' S' w) fun k S1 μ1 H1 q1 g1 m1 e1 => ?_
  cases k with
  | true =>
    refine ⟨fun σ2 H2 => ∃ n', n' < n ∧ ∃ μ2 S2 ρ2, Grow μ H μ2 H2 ∧ Sim X.K μ2 S2 H2 ∧ EnvR X.K μ2 H2 ρ2 σ2 ∧ W n' ρ2 S2, fun σ2 H2 h => h, ?_⟩
    exact ⟨μ1, S1, ρ', _, m1, e1, q1, fun ρ4 S4 ⟨n', hn, q4⟩ μ4 σ4 H4 g4 m4 e4 => ⟨n', hn, μ4, S4, ρ4, g.trans (g1.trans g4), m4, e4, q4⟩, p.rt.go (g.trans g1),
      fun ρ4 S4 q4 μ4 σ4 H4 g4 m4 e4 => p.nx ρ4 S4 q4 μ4 σ4 H4 (g.trans (g1.trans g4)) m4 e4, fun ρ4 S4 ⟨n', hn, q4⟩ μ4 σ4 H4 g4 m4 e4 => ⟨n', hn, μ4, S4, ρ4, g.trans (g1.trans g4), m4, e4, q4⟩⟩
  | false => exact p.nx ρ' S1 q1 μ1 σ' H1 (g.trans g1) m1 e1

/-! ### methods of lists of the store -/
abbrev RM := D → List D → Store → (D → Store → Prop) → Prop
def isL (x : D) (S : Store) : Prop := match x with | .lst _ => True | .ref n => (match S[n]? with | some (.lst _) => True | _ => False) | _ => False
def wMeth (R : RM) (wo : WE) (wr : WA) : WE := fun ρ S Q => wo ρ S fun x S1 => isL x S1 ∧ wr ρ S1 fun ds S2 => R x ds S2 Q
def wMeth0 (R : RM) (wo : WE) : WE := fun ρ S Q => wo ρ S fun x S1 => isL x S1 ∧ R x [] S1 Q
def MethD (K : PySem.W.Frag) (r : V → List V → Hp → VK → Prop) (R : RM) : Prop := ∀ (μ : Mu) (S : Store) (H : Hp) (x : D) (v : V) (ds : List D) (vs : List V) (Q0 : D → Store → Prop) (Q : VK), Sim K μ S H → Rep K μ H x v → RepAll K μ H ds vs → R x ds S Q0 → Post K μ H Q0 Q → r v vs H Q
theorem isL_ty {K : PySem.W.Frag} {μ : Mu} {S : Store} {H : Hp} {x : D} {v : V} (m : Sim K μ S H) (r : Rep K μ H x v) (h : isL x S) : tyV K "list" v H := by
  cases r with
  | lst hh r => exact .inl ⟨rfl, _, hh.imp And.left id⟩
  | ref hn =>
    rename_i n a
    have h' : (match S[n]? with | some (.lst _) => True | _ => False) := h
    split at h'
    · rename_i ds hd
      obtain ⟨a', xs, e, h1, h2, h3⟩ := m.at hd (.ref hn)
      cases e
      exact .inl ⟨rfl, _, SqL.of h2⟩
    · exact h'.elim
  | _ => exact h.elim
theorem se_meth {r : V → List V → Hp → VK → Prop} {R : RM} (hd : MethD X.K r R) (hp : PE X e (tBM X.K "list" r (LE X.K wa) (LA X.K wr))) : SE X e (wMeth R wa wr) := pe_weak hp fun σ H Q ⟨μ, S, ρ, Q0, m, en, q, p⟩ => by
  refine LE.run m en q fun x S1 μ1 v H1 q1 g1 m1 e1 r1 => ⟨isL_ty m1 r1 q1.1, ?_⟩
  refine LA.run m1 e1 q1.2 fun ds S2 μ2 vs H2 q2 g2 m2 e2 r2 => ?_
  exact hd μ2 S2 H2 x v ds vs Q0 Q m2 (r1.grow g2) r2 q2 (p.go (g1.trans g2))
theorem se_meth0 {r : V → List V → Hp → VK → Prop} {R : RM} (hd : MethD X.K r R) (hp : PE X e (tBM0 X.K "list" r (LE X.K wa))) : SE X e (wMeth0 R wa) := pe_weak hp fun σ H Q ⟨μ, S, ρ, Q0, m, en, q, p⟩ => by
  refine LE.run m en q fun x S1 μ1 v H1 q1 g1 m1 e1 r1 => ⟨isL_ty m1 r1 q1.1, ?_⟩
  exact hd μ1 S1 H1 x v [] [] Q0 Q m1 r1 .nil q1.2 (p.go g1)
def mAppend : RM
  | .ref n, [d], S, Q => match S[n]? with | some (.lst xs) => xs.length < sizeLine ∧ Q .non (S.set n (.lst (xs ++ [d]))) | _ => False
  | _, _, _, _ => False
/-- pop(k), k from 0 on -/
def mPopAt : RM
  | .ref n, [.int i], S, Q => match S[n]? with
    | some (.lst xs) => (match i with | .ofNat k => (match xs[k]? with | some y => k < 2 ^ 62 ∧ Q y (S.set n (.lst (xs.eraseIdx k))) | none => False) | .negSucc _ => False)
    | _ => False
  | _, _, _, _ => False
def mPop : RM
  | .ref n, [], S, Q => match S[n]? with
    | some (.lst xs) => (match xs[xs.length - 1]? with | some y => Q y (S.set n (.lst xs.dropLast)) | none => False)
    | _ => False
  | _, _, _, _ => False
theorem md_append {K : PySem.W.Frag} : MethD K rAppend mAppend := by
  intro μ S H x v ds vs Q0 Q m rx r q p
  unfold mAppend at q
  split at q
  · rename_i n d
    split at q
    · rename_i xs hn
      obtain ⟨a, ys, rfl, h1, h2, h3⟩ := m.at hn rx
      obtain ⟨v, rfl, rd⟩ := r.one_inv
      exact ⟨a, ys, v, rfl, rfl, h2, by rw [← h3.length]; exact q.1, p _ _ q.2 _ _ _ (.put m h1 h2) (m.put h1 h2 (h3.append (.one rd))) .non⟩
    · exact q.elim
  · exact q.elim
theorem md_popAt {K : PySem.W.Frag} : MethD K rPopAt mPopAt := by
  intro μ S H x v ds vs Q0 Q m rx r q p
  unfold mPopAt at q
  split at q
  · rename_i n i
    split at q
    · rename_i xs hn
      obtain ⟨a, ys, rfl, h1, h2, h3⟩ := m.at hn rx
      obtain ⟨v, rfl, rd⟩ := r.one_inv
      rw [rd.int_inv]
      split at q
      · rename_i k
        split at q
        · rename_i y hy
          obtain ⟨w, hw, rw'⟩ := h3.get hy
          have hk : k < ys.length := (List.getElem?_eq_some_iff.mp hw).1
          have q1 := q.1
          have hix : ixN ys.length (Int.ofNat k) = some k := by unfold ixN; rw [if_pos (by show (0 : Int) ≤ (k : Int); omega), if_pos (by show (k : Int) < _; omega)]; rfl
          exact ⟨a, ys, Int.ofNat k, k, w, rfl, rfl, h2, by show -(2 ^ 63) ≤ (k : Int); omega, by show (k : Int) < 2 ^ 63; omega, (ixN_seq hix).1, hw, p _ _ q.2 _ _ _ (.put m h1 h2) (m.put h1 h2 (h3.eraseIdx k)) (rw'.grow (.put m h1 h2))⟩
        · exact q.elim
      · exact q.elim
    · exact q.elim
  · exact q.elim
theorem md_pop {K : PySem.W.Frag} : MethD K rPop mPop := by
  intro μ S H x v ds vs Q0 Q m rx r q p
  unfold mPop at q
  split at q
  · rename_i n
    split at q
    · rename_i xs hn
      obtain ⟨a, ys, rfl, h1, h2, h3⟩ := m.at hn rx
      cases r
      split at q
      · rename_i y hy
        obtain ⟨w, hw, rw'⟩ := h3.get hy
        rw [h3.length] at hw
        exact ⟨a, ys, w, rfl, rfl, h2, hw, p _ _ q _ _ _ (.put m h1 h2) (m.put h1 h2 h3.dropLast) (rw'.grow (.put m h1 h2))⟩
      · exact q.elim
    · exact q.elim
  · exact q.elim
end
end DL

set_option maxHeartbeats 4000000
namespace DL
open PySem PySem.Spec PyProof.Rows L2

/-! ### comprehensions -/
def wipeD (ρ : Env) : List Nat → Env
  | [] => ρ
  | v :: vs => (wipeD ρ vs).set v none
theorem wipe_R {K : PySem.W.Frag} {μ : Mu} {H : Hp} {ρ : Env} {σ : L2.St} (h : EnvR K μ H ρ σ) : ∀ vs : List Nat, EnvR K μ H (wipeD ρ vs) (wipe σ vs)
  | [] => h
  | v :: vs => by
    have ih := wipe_R h vs
    refine ⟨by simpa [wipeD, wipe] using ih.1, fun i d e => ?_⟩
    unfold wipeD at e
    unfold wipe
    by_cases hi : v = i
    · subst hi
      rw [List.getElem?_set] at e
      simp only [if_true] at e
      split at e
      · cases e
      · cases e
    · rw [List.getElem?_set_ne hi] at e
      rw [List.getElem?_set_ne hi]
      exact ih.2 i d e
abbrev STs (X : Cx) (ifs : List Expr) (w : WT) : Prop := PTs X ifs (LT X.K w)
def wYes : WT := fun _ S Q => Q true S
section
variable {X : Cx} {ifs : List Expr} {c : Expr} {w : WT}
theorem sts_nil : STs X [] wYes := ⟨fun pins s σ H Q I ⟨μ, S, ρ, Q0, m, en, q, p⟩ => pts_nil.run pins s σ H Q I (p true S q μ H .refl m)⟩
theorem sts_one (h : ST X c w) : STs X [c] w := pts_one h
end
def compR (g : Tg) (wt : WT) (we : WE) (G : Store → Prop) (ρ0 : Env) (Q : D → Store → Prop) : List D → List D → Store → Prop
  | [], acc, S => G S ∧ Q (.lst acc) S
  | x :: r, acc, S => G S ∧ match bindT g x ρ0 with
    | some ρ2 => wt ρ2 S fun k S1 => if k = true then we ρ2 S1 fun d S2 => acc.length < sizeLine ∧ compR g wt we G ρ0 Q r (acc ++ [d]) S2 else compR g wt we G ρ0 Q r acc S1
    | none => False
def wComp (wi : WI) (g : Tg) (wt : WT) (we : WE) (vs : List Nat) : WE := fun ρ S Q => wi ρ S fun xs G S1 => compR g wt we G (wipeD ρ vs) Q xs [] S1
theorem compR_G {g : Tg} {wt : WT} {we : WE} {G : Store → Prop} {ρ0 : Env} {Q : D → Store → Prop} {xs acc : List D} {S : Store} (h : compR g wt we G ρ0 Q xs acc S) : G S := by
  cases xs with
  | nil => exact h.1
  | cons x r => exact h.1
/-- a list that is being made: kept apart -/
def Mu.res (μ : Mu) (a : Addr) : Mu := ⟨μ.sl, a :: μ.rs⟩
def Mu.unres (μ : Mu) (a : Addr) : Mu := ⟨μ.sl, μ.rs.filter (· != a)⟩
section
variable {K : PySem.W.Frag} {μ μ1 : Mu} {H H1 : Hp} {S S1 : Store} {p : Addr}
theorem Grow.res {o : HO} (hp : H p = none) : Grow μ H (μ.res p) (upd H p o) :=
  ⟨fun _ _ h => rd_new h hp, fun a xs h n => ⟨rd_new h hp, fun z => by
    rcases z with z | z
    · exact n (.inl z)
    · rcases List.mem_cons.mp z with z | z
      · exact rd_ne h hp z
      · exact n (.inr z)⟩, fun _ _ h => h, fun a h => ⟨List.mem_cons_of_mem _ h, fun u z => by rw [upd_ne (ne_of_none z hp)]; exact z⟩⟩
theorem Sim.res {o : HO} (m : Sim K μ S H) (hp : H p = none) : Sim K (μ.res p) S (upd H p o) :=
  ⟨m.len, m.inj, fun n a h => by
    obtain ⟨⟨u, hu⟩, hr⟩ := m.trk n a h
    have na := ne_of_none hu hp
    refine ⟨⟨u, by rw [upd_ne na]; exact hu⟩, fun z => ?_⟩
    rcases List.mem_cons.mp z with z | z
    · exact na z
    · exact hr z,
   fun a h => by
    rcases List.mem_cons.mp h with z | z
    · subst z; exact ⟨_, upd_same⟩
    · obtain ⟨u, hu⟩ := m.trs a z
      exact ⟨u, by rw [upd_ne (ne_of_none hu hp)]; exact hu⟩,
   fun n ds h => by
    obtain ⟨a, xs, h1, h2, h3⟩ := m.ob n ds h
    exact ⟨a, xs, h1, by rw [upd_ne (ne_of_none h2 hp)]; exact h2, h3.grow (.res hp)⟩⟩
/-- the kept list is written -/
theorem Grow.wr {xs ys : List V} (hp : p ∈ μ.rs) (ha : H p = some (.lst xs)) (g : Grow μ1 H1 μ H) (h1 : p ∉ μ1.rs) (hn : H1 p = none) : Grow μ1 H1 μ (upd H p (.lst ys)) :=
  ⟨fun a zs h => by
    have na : a ≠ p := rd_ne h hn
    rcases g.tup a zs h with h | ⟨o, h⟩
    · exact .inl (by rw [upd_ne na]; exact h)
    · exact .inr ⟨o, by rw [upd_ne na]; exact h⟩,
   fun a zs h n => by
    have na : a ≠ p := rd_ne h hn
    obtain ⟨h2, n2⟩ := g.lst a zs h n
    refine ⟨?_, n2⟩
    rcases h2 with h | ⟨o, h⟩
    · exact .inl (by rw [upd_ne na]; exact h)
    · exact .inr ⟨o, by rw [upd_ne na]; exact h⟩,
   g.ref, fun a h => by
    have na : a ≠ p := fun e => h1 (by rw [← e]; exact h)
    obtain ⟨h2, e2⟩ := g.rs a h
    exact ⟨h2, fun o z => by rw [upd_ne na]; exact e2 o z⟩⟩
theorem Rep.wr {xs ys : List V} (hp : p ∈ μ.rs) (ha : H p = some (.lst xs)) : Grow μ H μ (upd H p (.lst xs)) := by
  have e : upd H p (.lst xs) = H := by
    funext b
    by_cases hb : b = p
    · subst hb; rw [upd_same, ha]
    · rw [upd_ne hb]
  rw [e]
  exact .refl
end
section
variable {K : PySem.W.Frag} {μ : Mu} {H : Hp} {p : Addr} {xs ys : List V}
mutual
theorem Rep.wrA (hp : p ∈ μ.rs) (ha : H p = some (.lst xs)) : ∀ {d : D} {v : V}, Rep K μ H d v → Rep K μ (upd H p (.lst ys)) d v
  | _, _, .non => .non
  | _, _, .bl b => .bl b
  | _, _, .int i => .int i
  | _, _, .str x => .str x
  | _, _, .tup h r => .tup (h.imp (fun z => by
      rcases z with z | ⟨o, z⟩
      · exact .inl (by rw [upd_ne (ne_of z ha (by intro q; cases q))]; exact z)
      · exact .inr ⟨o, by rw [upd_ne (ne_of z ha (by intro q; cases q))]; exact z⟩) id) (RepAll.wrA hp ha r)
  | _, _, .lst h r => .lst (h.imp (fun z => by
      obtain ⟨z, n⟩ := z
      have na := (fun (b : Addr) (n : ¬ μ.has b) (e : b = p) => n (.inr (by rw [e]; exact hp)) : ∀ b, ¬ μ.has b → b ≠ p) _ n
      refine ⟨?_, n⟩
      rcases z with z | ⟨o, z⟩
      · exact .inl (by rw [upd_ne na]; exact z)
      · exact .inr ⟨o, by rw [upd_ne na]; exact z⟩) id) (RepAll.wrA hp ha r)
  | _, _, .ref h => .ref h
theorem RepAll.wrA (hp : p ∈ μ.rs) (ha : H p = some (.lst xs)) : ∀ {ds : List D} {vs : List V}, RepAll K μ H ds vs → RepAll K μ (upd H p (.lst ys)) ds vs
  | _, _, .nil => .nil
  | _, _, .cons r t => .cons (Rep.wrA hp ha r) (RepAll.wrA hp ha t)
end
theorem Sim.wr {S : Store} (m : Sim K μ S H) (hp : p ∈ μ.rs) (ha : H p = some (.lst xs)) : Sim K μ S (upd H p (.lst ys)) :=
  ⟨m.len, m.inj, fun n a h => by
    obtain ⟨⟨u, hu⟩, hr⟩ := m.trk n a h
    exact ⟨⟨u, by rw [upd_ne (fun e => hr (by rw [e]; exact hp))]; exact hu⟩, hr⟩,
   fun a h => by
    obtain ⟨u, hu⟩ := m.trs a h
    by_cases e : a = p
    · subst e; exact ⟨_, upd_same⟩
    · exact ⟨u, by rw [upd_ne e]; exact hu⟩,
   fun n ds h => by
    obtain ⟨a, xs, h1, h2, h3⟩ := m.ob n ds h
    exact ⟨a, xs, h1, by rw [upd_ne (fun e => (m.trk n a h1).2 (by rw [e]; exact hp))]; exact h2, h3.wrA hp ha⟩⟩
/-- the list is done: it is kept apart no more -/
theorem Grow.unres {μ1 : Mu} {H1 : Hp} (g : Grow μ1 H1 μ H) (h1 : p ∉ μ1.rs) : Grow μ1 H1 (μ.unres p) H :=
  ⟨g.tup, fun a xs h n => by
    obtain ⟨h2, n2⟩ := g.lst a xs h n
    refine ⟨h2, fun z => n2 ?_⟩
    rcases z with z | z
    · exact .inl z
    · exact .inr (List.mem_filter.mp z).1,
   g.ref, fun a h => by
    obtain ⟨h2, e2⟩ := g.rs a h
    exact ⟨List.mem_filter.mpr ⟨h2, by simp; exact fun e => h1 (by rw [← e]; exact h)⟩, e2⟩⟩
mutual
theorem Rep.unres : ∀ {d : D} {v : V}, Rep K μ H d v → Rep K (μ.unres p) H d v
  | _, _, .non => .non
  | _, _, .bl b => .bl b
  | _, _, .int i => .int i
  | _, _, .str x => .str x
  | _, _, .tup h r => .tup h (RepAll.unres r)
  | _, _, .lst h r => .lst (h.imp (fun z => ⟨z.1, fun q => z.2 (q.imp id fun q => (List.mem_filter.mp q).1)⟩) id) (RepAll.unres r)
  | _, _, .ref h => .ref h
theorem RepAll.unres : ∀ {ds : List D} {vs : List V}, RepAll K μ H ds vs → RepAll K (μ.unres p) H ds vs
  | _, _, .nil => .nil
  | _, _, .cons r t => .cons (Rep.unres r) (RepAll.unres t)
end
theorem Sim.unres {S : Store} (m : Sim K μ S H) : Sim K (μ.unres p) S H :=
  ⟨m.len, m.inj, fun n a h => let ⟨h1, h2⟩ := m.trk n a h; ⟨h1, fun q => h2 (List.mem_filter.mp q).1⟩, fun a h => m.trs a (List.mem_filter.mp h).1,
    fun n ds h => let ⟨a, xs, h1, h2, h3⟩ := m.ob n ds h; ⟨a, xs, h1, h2, h3.unres⟩⟩
end

section
variable {X : Cx} {elt tg iter : Expr} {ifs : List Expr} {scope : Scope} {own : List (Str × Nat)} {pos spos : Pos} {wi : WI} {g : Tg} {wt : WT} {we : WE}
/-- the reading of a comprehension, whatever is done with the new list -/
theorem comp_gen {K : PySem.W.Frag} {vs : List Nat} (hsl : ∀ i ∈ g.slots, i ∈ vs) {σ : L2.St} {H : Hp} {Q : VK} {μ : Mu} {S : Store} {ρ : Env} {Q0 : D → Store → Prop} (m : Sim K μ S H) (en : EnvR K μ H ρ σ) (q : wComp wi g wt we vs ρ S Q0)
    (fin : ∀ μ1 H1 Dl acc S' μ' H' ys, Grow μ H μ1 H1 → H1 Dl = none → Dl ∉ μ1.rs → Q0 (.lst acc) S' → Grow μ1 H1 μ' H' → Sim K μ' S' H' → Dl ∈ μ'.rs → H' Dl = some (.lst ys) → RepAll K μ' H' acc ys → Q (.ref Dl) H') : tLc (LI K wi) (g.toV K) (LT K wt) (LE K we) vs σ H Q := by
  refine ⟨μ, S, ρ, _, m, en, q, fun xs G S1 q1 μ1 J H1 g1 m1 w1 => fun Dl hD => ?_⟩
  have nD : Dl ∉ μ1.rs := fun z => m1.notin hD (.inr z)
  have nDs : ¬ μ1.has Dl := m1.notin hD
  refine ⟨fun i n H' => n = xs.length - i ∧ i ≤ xs.length ∧ ∃ μ' S' acc ys, Grow μ1 H1 μ' H' ∧ Sim K μ' S' H' ∧ Dl ∈ μ'.rs ∧ H' Dl = some (.lst ys) ∧ RepAll K μ' H' acc ys ∧ compR g wt we G (wipeD ρ vs) Q0 (xs.drop i) acc S',
    ⟨xs.length, by simp, Nat.zero_le _, μ1.res Dl, S1, [], [], .res hD, m1.res hD, List.mem_cons_self, upd_same, .nil, by simpa using q1⟩, ?_⟩
  rintro i n H' ⟨rfl, hi, μ', S', acc, ys, g2, m2, hDl, hH, r2, f⟩
  have hG := compR_G f
  by_cases hlt : i < xs.length
  · refine .inr ⟨w1.go i μ' H' S' hlt g2 m2 hG, fun H2 => ∃ μ2 S2 acc2 ys2, Grow μ1 H1 μ2 H2 ∧ Sim K μ2 S2 H2 ∧ Dl ∈ μ2.rs ∧ H2 Dl = some (.lst ys2) ∧ RepAll K μ2 H2 acc2 ys2 ∧ compR g wt we G (wipeD ρ vs) Q0 (xs.drop (i + 1)) acc2 S2, fun H2 h => ⟨xs.length - (i + 1), by omega, rfl, hlt, h⟩, fun x H3 y => ?_⟩
    obtain ⟨d, hd, g3, m3, r3⟩ := w1.yld i μ' H' S' x H3 hlt g2 m2 hG y
    rw [drop_cons hd] at f
    obtain ⟨_, f⟩ := f
    split at f
    · rename_i ρ3 hb3
      have en1 := wipe_R (en.grow (g1.trans (g2.trans g3))) vs
      refine bind_ok vs g d (wipeD ρ vs) ρ3 x (wipe σ vs) _ hb3 r3 en1 fun σ3 e3 hw3 => ⟨?_, ?_⟩
      · have e : wipe σ3 vs = wipe (wipe σ vs) vs := hw3 hsl
        rw [e]
        apply List.ext_getElem?
        intro j
        by_cases hj : ∃ z, (wipe (wipe σ vs) vs)[j]? = some (some z)
        · obtain ⟨z, hz⟩ := hj
          rw [hz, (wipe_some hz).1]
        · by_cases hj2 : ∃ z, (wipe σ vs)[j]? = some (some z)
          · obtain ⟨z, hz⟩ := hj2
            have hn := (wipe_some hz).2
            exact absurd ⟨z, by rw [wipe_out hn]; exact hz⟩ hj
          · have l1 := wipe_length (wipe σ vs) vs
            rcases h1 : (wipe (wipe σ vs) vs)[j]? with _ | (_ | z)
            · have : (wipe σ vs).length ≤ j := by rw [← l1]; exact List.getElem?_eq_none_iff.mp h1
              rw [List.getElem?_eq_none this]
            · rcases h2 : (wipe σ vs)[j]? with _ | (_ | z)
              · have : (wipe σ vs).length ≤ j := List.getElem?_eq_none_iff.mp h2
                rw [List.getElem?_eq_none (by rw [l1]; exact this)] at h1
                cases h1
              · rfl
              · exact absurd ⟨z, h2⟩ hj2
            · exact absurd ⟨z, h1⟩ hj
      · have hH3 : H3 Dl = some (.lst ys) := (g3.rs Dl hDl).2 _ hH
        refine LT.run m3 e3 f fun k S4 μ4 H4 q4 g4 m4 e4 => ?_
        obtain ⟨hDl4, hk4⟩ := g4.rs Dl hDl
        have hH4 := hk4 _ hH3
        have r4 := r2.grow (g3.trans g4)
        cases k with
        | true =>
          refine LE.run m4 e4 q4 fun dd S5 μ5 v H5 q5 g5 m5 e5 r5 => ?_
          obtain ⟨hDl5, hk5⟩ := g5.rs Dl hDl4
          have hH5 := hk5 _ hH4
          have ra := (r4.grow g5).append (.one r5)
          exact ⟨ys, hH5, by rw [← r2.length]; exact q5.1, μ5, S5, acc ++ [dd], ys ++ [v], (g2.trans (g3.trans (g4.trans g5))).wr hDl5 hH5 nD hD, m5.wr hDl5 hH5, hDl5, upd_same, ra.wrA hDl5 hH5, q5.2⟩
        | false => exact ⟨μ4, S4, acc, ys, g2.trans (g3.trans g4), m4, hDl4, hH4, r4, q4⟩
    · exact f.elim
  · have e : i = xs.length := by omega
    subst e
    rw [List.drop_of_length_le (Nat.le_refl _)] at f
    exact .inl ⟨w1.stop μ' H' S' g2 m2 hG, fin μ1 H1 Dl acc S' μ' H' ys g1 hD nD f.2 g2 m2 hDl hH r2⟩
theorem comp_ok {K : PySem.W.Frag} {vs : List Nat} (hsl : ∀ i ∈ g.slots, i ∈ vs) {σ : L2.St} {H : Hp} {Q : VK} (h : LE K (wComp wi g wt we vs) σ H Q) : tLc (LI K wi) (g.toV K) (LT K wt) (LE K we) vs σ H Q := by
  obtain ⟨μ, S, ρ, Q0, m, en, q, p⟩ := h
  refine comp_gen hsl m en q fun μ1 H1 Dl acc S' μ' H' ys g1 hD nD q' g2 m2 hDl hH r2 => ?_
  refine p _ S' q' (μ'.unres Dl) _ H' (g1.trans (g2.unres nD)) m2.unres (.lst (.inl ⟨.inl hH, fun z => ?_⟩) r2.unres)
  rcases z with z | z
  · obtain ⟨n, hn⟩ := List.getElem?_of_mem z
    exact (m2.trk n Dl hn).2 hDl
  · have := (List.mem_filter.mp z).2
    simp at this
/-- a comprehension whose list is an object of the store -/
def wCompN (wi : WI) (g : Tg) (wt : WT) (we : WE) (vs : List Nat) : WE := fun ρ S Q => wComp wi g wt we vs ρ S fun d S1 => match d with | .lst ds => ds.length ≤ sizeLine ∧ Q (.ref S1.length) (S1 ++ [.lst ds]) | _ => False
def Mu.join (μ : Mu) (p : Addr) : Mu := (μ.unres p).add p
theorem join_has {μ : Mu} {p a : Addr} (n : ¬ μ.has a) (hp : p ∈ μ.rs) : ¬ (μ.join p).has a := fun z => by
  rcases z with z | z
  · rcases List.mem_append.mp (show some a ∈ μ.sl ++ [some p] from z) with z | z
    · exact n (.inl z)
    · have e : a = p := by simpa using z
      exact n (.inr (by rw [e]; exact hp))
  · exact n (.inr (List.mem_filter.mp z).1)
theorem join_get {μ : Mu} {p a : Addr} {n : Nat} (h : μ.sl[n]? = some (some a)) : (μ.join p).sl[n]? = some (some a) := by
  show (μ.sl ++ [some p])[n]? = _
  rw [List.getElem?_append_left (List.getElem?_eq_some_iff.mp h).1]
  exact h
mutual
theorem Rep.join {K : PySem.W.Frag} {μ : Mu} {H : Hp} {p : Addr} (hp : p ∈ μ.rs) : ∀ {d : D} {v : V}, Rep K μ H d v → Rep K (μ.join p) H d v
  | _, _, .non => .non
  | _, _, .bl b => .bl b
  | _, _, .int i => .int i
  | _, _, .str x => .str x
  | _, _, .tup h r => .tup h (RepAll.join hp r)
  | _, _, .lst h r => .lst (h.imp (fun z => ⟨z.1, join_has z.2 hp⟩) id) (RepAll.join hp r)
  | _, _, .ref h => .ref (join_get h)
theorem RepAll.join {K : PySem.W.Frag} {μ : Mu} {H : Hp} {p : Addr} (hp : p ∈ μ.rs) : ∀ {ds : List D} {vs : List V}, RepAll K μ H ds vs → RepAll K (μ.join p) H ds vs
  | _, _, .nil => .nil
  | _, _, .cons r t => .cons (Rep.join hp r) (RepAll.join hp t)
end
theorem Sim.join {K : PySem.W.Frag} {μ : Mu} {H : Hp} {p : Addr} {S : Store} {ds : List D} {xs : List V} (m : Sim K μ S H) (hp : p ∈ μ.rs) (ha : H p = some (.lst xs)) (r : RepAll K μ H ds xs) : Sim K (μ.join p) (S ++ [.lst ds]) H := by
  have back : ∀ (i : Nat) (a : Addr), (μ.join p).sl[i]? = some (some a) → (μ.sl[i]? = some (some a) ∧ a ≠ p) ∨ (i = μ.sl.length ∧ a = p) := fun i a h => by
    replace h : (μ.sl ++ [some p])[i]? = some (some a) := h
    by_cases hi : i < μ.sl.length
    · rw [List.getElem?_append_left hi] at h
      refine .inl ⟨h, fun e => ?_⟩
      subst e
      exact (m.trk i a h).2 hp
    · rw [List.getElem?_append_right (by omega)] at h
      have e := (List.getElem?_eq_some_iff.mp h)
      obtain ⟨hl, e⟩ := e
      have : i - μ.sl.length = 0 := by simp at hl; omega
      refine .inr ⟨by omega, ?_⟩
      simp [this] at e
      exact e.symm
  refine ⟨by simp [Mu.join, Mu.add, Mu.unres, m.len], fun i j a h1 h2 => ?_, fun n a h => ?_, fun a h => m.trs a (List.mem_filter.mp h).1, fun n es h => ?_⟩
  · rcases back i a h1 with ⟨x, nx⟩ | ⟨x, nx⟩ <;> rcases back j a h2 with ⟨y, ny⟩ | ⟨y, ny⟩
    · exact m.inj i j a x y
    · exact absurd ny nx
    · exact absurd nx ny
    · omega
  · rcases back n a h with ⟨x, nx⟩ | ⟨_, nx⟩
    · obtain ⟨h1, h2⟩ := m.trk n a x
      exact ⟨h1, fun z => h2 (List.mem_filter.mp z).1⟩
    · subst nx
      exact ⟨⟨_, ha⟩, fun z => by have := (List.mem_filter.mp z).2; simp at this⟩
  · by_cases hn : n < S.length
    · rw [List.getElem?_append_left hn] at h
      obtain ⟨a, ys, h1, h2, h3⟩ := m.ob n es h
      exact ⟨a, ys, join_get h1, h2, h3.join hp⟩
    · rw [List.getElem?_append_right (by omega)] at h
      have e := (List.getElem?_eq_some_iff.mp h)
      obtain ⟨hl, e⟩ := e
      have q : n - S.length = 0 := by simp at hl; omega
      simp [q] at e
      subst e
      refine ⟨p, xs, ?_, ha, r.join hp⟩
      show (μ.sl ++ [some p])[n]? = _
      rw [List.getElem?_append_right (by rw [m.len]; omega)]
      have q' : n - μ.sl.length = 0 := by rw [m.len]; omega
      rw [q']
      rfl
theorem Grow.join {μ μ1 : Mu} {H H1 : Hp} {p : Addr} (g : Grow μ1 H1 μ H) (hp : p ∈ μ.rs) (h1 : p ∉ μ1.rs) : Grow μ1 H1 (μ.join p) H :=
  ⟨g.tup, fun a xs h n => let ⟨h2, n2⟩ := g.lst a xs h n; ⟨h2, join_has n2 hp⟩, fun n a h => join_get (g.ref n a h), fun a h => by
    obtain ⟨h2, e2⟩ := g.rs a h
    exact ⟨List.mem_filter.mpr ⟨h2, by simp; exact fun e => h1 (by rw [← e]; exact h)⟩, e2⟩⟩
theorem compN_ok {K : PySem.W.Frag} {vs : List Nat} (hsl : ∀ i ∈ g.slots, i ∈ vs) {σ : L2.St} {H : Hp} {Q : VK} (h : LE K (wCompN wi g wt we vs) σ H Q) : tLc (LI K wi) (g.toV K) (LT K wt) (LE K we) vs σ H Q := by
  obtain ⟨μ, S, ρ, Q0, m, en, q, p⟩ := h
  refine comp_gen hsl m en q fun μ1 H1 Dl acc S' μ' H' ys g1 hD nD q' g2 m2 hDl hH r2 => ?_
  exact p _ _ q'.2 (μ'.join Dl) _ H' (g1.trans (g2.join hDl nD)) (m2.join hDl hH r2) (.ref (by
    show (μ'.sl ++ [some Dl])[S'.length]? = _
    rw [← m2.len]
    simp))
theorem se_lc {vs : List Nat} (hc : X.calm = true) (hN : X.N.Nodup) (hi : SI X tg iter wi) (ok : BlkOk X.N X.env.scope scope own) (hv : own.map (·.2) = vs) (hsl : ∀ i ∈ g.slots, i ∈ vs)
    (hg : ∀ (s : Shared) (H : Hp) (C : Addr) (cl : List (Str × Addr)) (fp : List Addr), SG (X.blk s H scope (compEnvC scope cl C X.env) fp) tg g) (ht : ∀ (s : Shared) (H : Hp) (C : Addr) (cl : List (Str × Addr)) (fp : List Addr), STs (X.blk s H scope (compEnvC scope cl C X.env) fp) ifs wt)
    (he : ∀ (s : Shared) (H : Hp) (C : Addr) (cl : List (Str × Addr)) (fp : List Addr), SE (X.blk s H scope (compEnvC scope cl C X.env) fp) elt we) (hs : ∀ x, foldedSetIterable iter X.env x = pure x := by intro _; rfl) :
    SE X (.ListComp elt [⟨tg, iter, ifs, 0⟩] scope pos) (wComp wi g wt we vs) := by
  subst hv
  exact pe_weak (pe_lc hc hN hi ok hg ht he hs) fun σ H Q h => comp_ok hsl h
theorem se_lcN {vs : List Nat} (hc : X.calm = true) (hN : X.N.Nodup) (hi : SI X tg iter wi) (ok : BlkOk X.N X.env.scope scope own) (hv : own.map (·.2) = vs) (hsl : ∀ i ∈ g.slots, i ∈ vs)
    (hg : ∀ (s : Shared) (H : Hp) (C : Addr) (cl : List (Str × Addr)) (fp : List Addr), SG (X.blk s H scope (compEnvC scope cl C X.env) fp) tg g) (ht : ∀ (s : Shared) (H : Hp) (C : Addr) (cl : List (Str × Addr)) (fp : List Addr), STs (X.blk s H scope (compEnvC scope cl C X.env) fp) ifs wt)
    (he : ∀ (s : Shared) (H : Hp) (C : Addr) (cl : List (Str × Addr)) (fp : List Addr), SE (X.blk s H scope (compEnvC scope cl C X.env) fp) elt we) (hs : ∀ x, foldedSetIterable iter X.env x = pure x := by intro _; rfl) :
    SE X (.ListComp elt [⟨tg, iter, ifs, 0⟩] scope pos) (wCompN wi g wt we vs) := by
  subst hv
  exact pe_weak (pe_lc hc hN hi ok hg ht he hs) fun σ H Q h => compN_ok hsl h
end
end DL

set_option maxHeartbeats 4000000
namespace DL
open PySem PySem.Spec PyProof.Rows L2

/-! ### what a value names of the store -/
mutual
def closedD (n : Nat) : D → Prop
  | .tup ds => closedL n ds
  | .lst ds => closedL n ds
  | .ref m => m < n
  | _ => True
def closedL (n : Nat) : List D → Prop
  | [] => True
  | d :: ds => closedD n d ∧ closedL n ds
end
def closedS (S : Store) : Prop := ∀ ds, Ob.lst ds ∈ S → closedL S.length ds
mutual
/-- at the end of a def: its own lists become values -/
inductive Frz (n0 : Nat) (S : Store) : D → D → Prop
  | non : Frz n0 S .non .non
  | bl (b : Bool) : Frz n0 S (.bl b) (.bl b)
  | int (i : Int) : Frz n0 S (.int i) (.int i)
  | str (x : Str) : Frz n0 S (.str x) (.str x)
  | tup {ds es : List D} : FrzL n0 S ds es → Frz n0 S (.tup ds) (.tup es)
  | lst {ds es : List D} : FrzL n0 S ds es → Frz n0 S (.lst ds) (.lst es)
  | old {n : Nat} : n < n0 → Frz n0 S (.ref n) (.ref n)
  | new {n : Nat} {ds es : List D} : n0 ≤ n → S[n]? = some (.lst ds) → FrzL n0 S ds es → Frz n0 S (.ref n) (.lst es)
inductive FrzL (n0 : Nat) (S : Store) : List D → List D → Prop
  | nil : FrzL n0 S [] []
  | cons {d e : D} {ds es : List D} : Frz n0 S d e → FrzL n0 S ds es → FrzL n0 S (d :: ds) (e :: es)
end
mutual
def pureD : D → Prop
  | .tup ds => pureL ds
  | .lst ds => pureL ds
  | .ref _ => False
  | _ => True
def pureL : List D → Prop
  | [] => True
  | d :: ds => pureD d ∧ pureL ds
end
mutual
theorem frz_pure {n0 : Nat} {S : Store} : ∀ {d : D}, pureD d → Frz n0 S d d
  | .non, _ => .non
  | .bl b, _ => .bl b
  | .int i, _ => .int i
  | .str x, _ => .str x
  | .tup ds, h => .tup (frzL_pure (by simpa [pureD] using h))
  | .lst ds, h => .lst (frzL_pure (by simpa [pureD] using h))
  | .ref n, h => by simp [pureD] at h
theorem frzL_pure {n0 : Nat} {S : Store} : ∀ {ds : List D}, pureL ds → FrzL n0 S ds ds
  | [], _ => .nil
  | d :: ds, h => by
    have h' : pureD d ∧ pureL ds := by simpa [pureL] using h
    exact .cons (frz_pure h'.1) (frzL_pure h'.2)
end
theorem pureL_of {ds : List D} (h : ∀ d, d ∈ ds → pureD d) : pureL ds := by
  induction ds with
  | nil => simp [pureL]
  | cons d ds ih => exact by simpa [pureL] using ⟨h d (by simp), ih fun e he => h e (by simp [he])⟩
theorem pure_of_L {ds : List D} (h : pureL ds) : ∀ d, d ∈ ds → pureD d := by
  induction ds with
  | nil => intro d hd; cases hd
  | cons e es ih =>
    have h' : pureD e ∧ pureL es := by simpa [pureL] using h
    intro d hd
    rcases List.mem_cons.mp hd with rfl | hd
    · exact h'.1
    · exact ih h'.2 d hd
def Exit (n0 : Nat) (d : D) (S1 : Store) (Q0 : D → Store → Prop) : Prop :=
  Q0 d S1 ∨ ∃ S' G d', S1 = S' ++ G ∧ S'.length = n0 ∧ (∀ ds, Ob.lst ds ∈ S' → closedL n0 ds) ∧ Frz n0 S1 d d' ∧ Q0 d' S'
theorem Exit.all {n0 : Nat} {d : D} {S1 : Store} {Q0 : D → Store → Prop} (h : Q0 d S1) : Exit n0 d S1 Q0 := .inl h
/-- the store is as it was, and some garbage -/
theorem Exit.same {d d' : D} {S G : Store} {Q0 : D → Store → Prop} (hc : closedS S) (f : Frz S.length (S ++ G) d d') (h : Q0 d' S) : Exit S.length d (S ++ G) Q0 := .inr ⟨S, G, d', rfl, rfl, hc, f, h⟩
theorem Exit.val {d : D} {S G : Store} {Q0 : D → Store → Prop} (hc : closedS S) (f : pureD d) (h : Q0 d S) : Exit S.length d (S ++ G) Q0 := .same hc (frz_pure f) h

section
variable {K : PySem.W.Frag} {μ : Mu} {H : Hp} {S : Store}
mutual
theorem Rep.closed : ∀ {d : D} {v : V}, Rep K μ H d v → closedD μ.sl.length d
  | _, _, .non => by simp [closedD]
  | _, _, .bl b => by simp [closedD]
  | _, _, .int i => by simp [closedD]
  | _, _, .str x => by simp [closedD]
  | _, _, .tup h r => by simpa [closedD] using RepAll.closed r
  | _, _, .lst h r => by simpa [closedD] using RepAll.closed r
  | _, _, .ref h => by
    simp only [closedD]
    exact (List.getElem?_eq_some_iff.mp h).1
theorem RepAll.closed : ∀ {ds : List D} {vs : List V}, RepAll K μ H ds vs → closedL μ.sl.length ds
  | _, _, .nil => by simp [closedL]
  | _, _, .cons r t => by
    simp only [closedL]
    exact ⟨Rep.closed r, RepAll.closed t⟩
end
theorem Sim.closed (m : Sim K μ S H) : closedS S := fun ds h => by
  obtain ⟨n, hn⟩ := List.getElem?_of_mem h
  obtain ⟨a, xs, h1, h2, h3⟩ := m.ob n ds hn
  rw [← m.len]
  exact h3.closed
def Mu.cut (μ : Mu) (n : Nat) : Mu := ⟨μ.sl.take n, μ.rs⟩
theorem cut_has {n : Nat} {a : Addr} (h : (μ.cut n).has a) : μ.has a := h.imp (fun z => List.mem_of_mem_take z) id
mutual
theorem Rep.cut {n0 : Nat} : ∀ {d : D} {v : V}, Rep K μ H d v → closedD n0 d → Rep K (μ.cut n0) H d v
  | _, _, .non, _ => .non
  | _, _, .bl b, _ => .bl b
  | _, _, .int i, _ => .int i
  | _, _, .str x, _ => .str x
  | _, _, .tup h r, c => .tup h (RepAll.cut r (by simpa [closedD] using c))
  | _, _, .lst h r, c => .lst (h.imp (fun z => ⟨z.1, fun q => z.2 (cut_has q)⟩) id) (RepAll.cut r (by simpa [closedD] using c))
  | .ref n, _, .ref h, c => .ref (by
      have c' : n < n0 := by simpa [closedD] using c
      show (μ.sl.take n0)[n]? = _
      rw [List.getElem?_take, if_pos c']
      exact h)
theorem RepAll.cut {n0 : Nat} : ∀ {ds : List D} {vs : List V}, RepAll K μ H ds vs → closedL n0 ds → RepAll K (μ.cut n0) H ds vs
  | _, _, .nil, _ => .nil
  | d :: ds, _, .cons r t, c => by
    have c' : closedD n0 d ∧ closedL n0 ds := by simpa [closedL] using c
    exact .cons (Rep.cut r c'.1) (RepAll.cut t c'.2)
end
theorem Sim.cut {S1 G : Store} (m : Sim K μ (S1 ++ G) H) (c : ∀ ds, Ob.lst ds ∈ S1 → closedL S1.length ds) : Sim K (μ.cut S1.length) S1 H := by
  have hl := m.len
  have gt : ∀ (n : Nat) (a : Addr), (μ.sl.take S1.length)[n]? = some (some a) → μ.sl[n]? = some (some a) := fun n a h => by
    rw [List.getElem?_take] at h
    split at h
    · exact h
    · cases h
  refine ⟨by simp [Mu.cut] at hl ⊢; omega, fun i j a h1 h2 => m.inj i j a (gt i a h1) (gt j a h2), fun n a h => m.trk n a (gt n a h), m.trs, fun n ds h => ?_⟩
  have hn : n < S1.length := (List.getElem?_eq_some_iff.mp h).1
  obtain ⟨a, xs, h1, h2, h3⟩ := m.ob n ds (by rw [List.getElem?_append_left hn]; exact h)
  refine ⟨a, xs, ?_, h2, h3.cut (c ds (List.mem_of_getElem? h))⟩
  show (μ.sl.take S1.length)[n]? = _
  rw [List.getElem?_take, if_pos hn]
  exact h1
mutual
theorem Rep.frz {n0 : Nat} (m : Sim K μ S H) : ∀ {d e : D} {v : V}, Frz n0 S d e → Rep K μ H d v → Rep K (μ.cut n0) H e v
  | _, _, _, .non, .non => .non
  | _, _, _, .bl b, .bl _ => .bl b
  | _, _, _, .int i, .int _ => .int i
  | _, _, _, .str x, .str _ => .str x
  | _, _, _, .tup f, .tup h r => .tup h (RepAll.frz m f r)
  | _, _, _, .lst f, .lst h r => .lst (h.imp (fun z => ⟨z.1, fun q => z.2 (cut_has q)⟩) id) (RepAll.frz m f r)
  | _, _, _, .old hn, .ref h => .ref (by
      show (μ.sl.take n0)[_]? = _
      rw [List.getElem?_take, if_pos hn]
      exact h)
  | _, _, v, .new (n := n) hn hS f, r => by
    obtain ⟨a, xs, rfl, h1, h2, h3⟩ := m.at hS r
    refine .lst (.inl ⟨.inl h2, fun q => ?_⟩) (RepAll.frz m f h3)
    rcases q with q | q
    · obtain ⟨j, hj⟩ := List.getElem?_of_mem (show some a ∈ μ.sl.take n0 from q)
      rw [List.getElem?_take] at hj
      split at hj
      · have := m.inj j n a hj h1
        omega
      · cases hj
    · exact (m.trk n a h1).2 q
theorem RepAll.frz {n0 : Nat} (m : Sim K μ S H) : ∀ {ds es : List D} {vs : List V}, FrzL n0 S ds es → RepAll K μ H ds vs → RepAll K (μ.cut n0) H es vs
  | _, _, _, .nil, .nil => .nil
  | _, _, _, .cons f fs, .cons r t => .cons (Rep.frz m f r) (RepAll.frz m fs t)
end
theorem Grow.cut {μ0 : Mu} {H0 : Hp} (g : Grow μ0 H0 μ H) : Grow μ0 H0 (μ.cut μ0.sl.length) H :=
  ⟨g.tup, fun a xs h n => let ⟨h1, n1⟩ := g.lst a xs h n; ⟨h1, fun q => n1 (cut_has q)⟩, fun n a h => by
    show (μ.sl.take μ0.sl.length)[n]? = _
    rw [List.getElem?_take, if_pos (List.getElem?_eq_some_iff.mp h).1]
    exact g.ref n a h, g.rs⟩
/-- the end of a def's body -/
theorem exit_ok {μ0 : Mu} {H0 : Hp} {S0 S1 : Store} {d : D} {v : V} {Q0 : D → Store → Prop} {Q : VK} (m0 : Sim K μ0 S0 H0) (g : Grow μ0 H0 μ H) (m : Sim K μ S1 H) (r : Rep K μ H d v) (p : Post K μ0 H0 Q0 Q) (h : Exit S0.length d S1 Q0) : Q v H := by
  rcases h with h | ⟨S', G, d', rfl, hl, c, f, h⟩
  · exact p d S1 h μ v H g m r
  · have g' := g.cut
    rw [m0.len, ← hl] at g'
    rw [← hl] at f
    exact p d' S' h _ v H g' (m.cut (by rw [hl]; exact c)) (r.frz m f)
end

/-! ### defs -/
abbrev Con := List D → Store → (D → Store → Prop) → Prop
def SpD (K : PySem.W.Frag) (np : Nat) (Γ : Con) : Sp := fun vs H Q _ => ∃ μ S ds Q0, Sim K μ S H ∧ RepAll K μ H ds vs ∧ ds.length = np ∧ Γ ds S Q0 ∧ Post K μ H Q0 Q
abbrev FnD (P : Program) (w : World) (K : PySem.W.Frag) (mg : Str → Option Value) (base : Heap) (k : Nat) (f : Addr) (fd : FuncData) (ps : List Str) (Γ : Con) : Prop := FnOk P w K mg base CX0 k f fd ps (SpD K ps.length Γ)
def wFn (Γ : Con) (n : Nat) (wr : WA) : WE := fun ρ S Q => wr ρ S fun ds S1 => ds.length = n ∧ Γ ds S1 Q
section
variable {X : Cx} {e : Expr} {es : List Expr} {wr : WA} {k : Nat} {f : Addr} {fd : FuncData} {ps : List Str} {Γ : Con} {x : Str} {p pos : Pos}
theorem se_call (F : FnD X.prog X.w X.K X.mg X.base k f fd ps Γ) (hr : Room k X.A) (hg : Gl X x) (hm : X.mg x = some (.ref f)) (hk : PySem.W.keepIn X.K (.ref f) = true) (hb : Binds X.K fd ps [])
    (ha : SA X (e :: es) wr) (hdb : (x == ("__debug__" : Str)) = false := by decide) (he : starEach (e :: es) X.env = (false, eval e X.env) :: starEach es X.env := by rfl) (hpl : (backTo pos (starEach es X.env)).any (·.1) = false := by rfl) :
    SE X (.Call (.Name x p) (e :: es) [] pos) (wFn Γ ps.length wr) := pe_weak (pe_call (E := E0) F hr hg hm hk hb .nil pass0 ha hdb he hpl) fun σ H Q ⟨μ, S, ρ, Q0, m, en, q, p⟩ => by
  refine LA.run m en q fun ds S1 μ1 vs H1 q1 g1 m1 e1 r1 => ?_
  rw [List.append_nil]
  exact ⟨μ1, S1, ds, Q0, m1, r1, q1.1, q1.2, p.go g1⟩
end
theorem start_R {K : PySem.W.Frag} {μ : Mu} {H : Hp} {N : List Str} {ds : List D} {vs : List V} (r : RepAll K μ H ds vs) : EnvR K μ H (ds.map some ++ List.replicate (N.length - ds.length) none) (L2.start N vs) := by
  have hl := r.length
  refine ⟨by simp [L2.start, hl], fun i d h => ?_⟩
  by_cases hi : i < ds.length
  · rw [List.getElem?_append_left (by simpa using hi), List.getElem?_map] at h
    cases q : ds[i]? with
    | none => rw [q] at h; cases h
    | some e =>
      rw [q] at h
      have e1 : e = d := Option.some.inj (Option.some.inj h)
      subst e1
      obtain ⟨v, h1, h2⟩ := r.get q
      refine ⟨v, ?_, h2⟩
      unfold L2.start
      rw [List.getElem?_append_left (by simp [← hl]; exact hi), List.getElem?_map, h1]
      rfl
  · rw [List.getElem?_append_right (by simpa using Nat.le_of_not_lt hi)] at h
    rw [List.getElem?_replicate] at h
    split at h <;> cases h
section
variable {P : Program} {w : World} {K : PySem.W.Frag} {mg : Str → Option Value} {base : Heap}
/-- THE RULE for a def: its body's reading by content keeps the contract -/
theorem fn_okD {x qual : Str} {st : Stmt} {f : Addr} {fd : FuncData} {N ps : List Str} {k : Nat} {Γ : Con} {wb : WS} (F : Fun K x qual st f fd) (Sc : FnScope N ps (defScope st))
    (hb : ∀ (cdv : Value) (A : Around) (outer : List PySem.Env) (s : Shared) (H : Hp) (E : XK), Room k (A.deeper (envOfC qual (defScope st) s.heap.objs.size f cdv)) →
      SSs (cxOf CX0 P w K mg base N qual (defScope st) f cdv A outer s H E).nox (defBody st) wb)
    (hw : ∀ (ds : List D) (S : Store) (Q0 : D → Store → Prop), ds.length = ps.length → closedS S → closedL S.length ds → Γ ds S Q0 →
      wb { nx := fun _ S1 => Exit S.length .non S1 Q0, rt := fun d S1 => Exit S.length d S1 Q0 } (ds.map some ++ List.replicate (N.length - ps.length) none) S) : FnD P w K mg base (k + 1) f fd ps Γ := by
  refine F.ok Sc (fun vs H Q E h => ?_) (fun cdv A outer s H vs Q E hr h => ?_)
  · obtain ⟨μ, S, ds, Q0, m, r, hl, _⟩ := h
    rw [← r.length, hl]
  · obtain ⟨μ, S, ds, Q0, m, r, hl, q, p⟩ := h
    refine ⟨_, hb cdv A outer s H E hr, ?_⟩
    have en := start_R (N := N) r
    rw [hl] at en
    have cl := r.closed
    rw [m.len] at cl
    refine ⟨μ, S, _, _, m, en, hw ds S Q0 hl m.closed cl q, ?_, ?_, ?_, ?_⟩
    · exact fun ρ' S' q' μ' σ' H' g' m' e' => exit_ok m g' m' .non p q'
    · exact fun d S' q' μ' v H' g' m' r' => exit_ok m g' m' r' p q'
    · exact fun ρ' S' q' => q'.elim
    · exact fun ρ' S' q' => q'.elim
/-- a def of the law's kind: one list of ints, True -/
theorem law_sp {np : Nat} {Γ : Con} {H : Hp} {a : Addr} {ns : List Int} {E : XK} (h : Γ [.lst (ns.map .int)] [] (fun d _ => d = .bl true)) (hS : SqL K H a (ns.map V.int)) : SpD K 1 Γ [.ref a] H (fun v _ => v = .bl true) E := by
  refine ⟨⟨[], []⟩, [], [.lst (ns.map .int)], _, ⟨rfl, fun i j a h => by simp at h, fun n a h => by simp at h, fun a h => by simp at h, fun n ds h => by simp at h⟩, .one ?_, rfl, h, fun d S' q μ' v H' g m r => ?_⟩
  · exact .lst (hS.imp (fun z => ⟨z, fun q => by rcases q with q | q <;> simp at q⟩) id) (repInts ns)
  · subst q
    exact r.bl_inv
end
end DL
namespace DL
open PySem PySem.Spec PyProof.Rows L2
section
variable {X : Cx} {elt tg iter : Expr} {ifs : List Expr} {scope : Scope} {own : List (Str × Nat)} {pos spos py : Pos} {wi : WI} {g : Tg} {wt : WT} {we : WE} {i : Nat} {y : Str}
/-- name = [..] -/
theorem ss_setLc {vs : List Nat} (hc : X.calm = true) (hN : X.N.Nodup) (hy : X.N[i]? = some y) (hyl : X.env.scope.names.lookup y = some .local)
    (hsw : swapsWith (.ListComp elt [⟨tg, iter, ifs, 0⟩] scope pos) (some (.Name y py)) spos.line X.env = pure true) (hi : SI X tg iter wi) (ok : BlkOk X.N X.env.scope scope own) (hv : own.map (·.2) = vs) (hsl : ∀ i ∈ g.slots, i ∈ vs)
    (hg : ∀ (s : Shared) (H : Hp) (C : Addr) (cl : List (Str × Addr)) (fp : List Addr), SG (X.blk s H scope (compEnvC scope cl C X.env) fp) tg g) (ht : ∀ (s : Shared) (H : Hp) (C : Addr) (cl : List (Str × Addr)) (fp : List Addr), STs (X.blk s H scope (compEnvC scope cl C X.env) fp) ifs wt)
    (he : ∀ (s : Shared) (H : Hp) (C : Addr) (cl : List (Str × Addr)) (fp : List Addr), SE (X.blk s H scope (compEnvC scope cl C X.env) fp) elt we) (hs : ∀ x, foldedSetIterable iter X.env x = pure x := by intro _; rfl) :
    SS X (.Assign [.Name y py] (.ListComp elt [⟨tg, iter, ifs, 0⟩] scope pos) spos) (wAsg (wComp wi g wt we vs) (.name i)) := by
  subst hv
  refine ps_weak (ps_setLc (g := g.toV X.K) (te := LE X.K we) (tt := LT X.K wt) hc hN hy hyl hsw hi ok hg ht he hs) fun D σ H ⟨μ, S, ρ, D0, m, en, q, p⟩ => ?_
  · refine comp_ok hsl ⟨μ, S, ρ, _, m, en, q, fun d S1 q1 μ1 v H1 g1 m1 r1 => ?_⟩
    have q1' : (match bindT (.name i) d ρ with | some ρ' => D0.nx ρ' S1 | none => False) := q1
    show D.nx (σ.set i (some v)) H1
    simp only [bindT] at q1'
    exact p.nx _ S1 q1' μ1 _ H1 g1 m1 ((en.grow g1).set r1)
/-- name = [..], an object of the store -/
theorem ss_setLcN {vs : List Nat} (hc : X.calm = true) (hN : X.N.Nodup) (hy : X.N[i]? = some y) (hyl : X.env.scope.names.lookup y = some .local)
    (hsw : swapsWith (.ListComp elt [⟨tg, iter, ifs, 0⟩] scope pos) (some (.Name y py)) spos.line X.env = pure true) (hi : SI X tg iter wi) (ok : BlkOk X.N X.env.scope scope own) (hv : own.map (·.2) = vs) (hsl : ∀ i ∈ g.slots, i ∈ vs)
    (hg : ∀ (s : Shared) (H : Hp) (C : Addr) (cl : List (Str × Addr)) (fp : List Addr), SG (X.blk s H scope (compEnvC scope cl C X.env) fp) tg g) (ht : ∀ (s : Shared) (H : Hp) (C : Addr) (cl : List (Str × Addr)) (fp : List Addr), STs (X.blk s H scope (compEnvC scope cl C X.env) fp) ifs wt)
    (he : ∀ (s : Shared) (H : Hp) (C : Addr) (cl : List (Str × Addr)) (fp : List Addr), SE (X.blk s H scope (compEnvC scope cl C X.env) fp) elt we) (hs : ∀ x, foldedSetIterable iter X.env x = pure x := by intro _; rfl) :
    SS X (.Assign [.Name y py] (.ListComp elt [⟨tg, iter, ifs, 0⟩] scope pos) spos) (wAsg (wCompN wi g wt we vs) (.name i)) := by
  subst hv
  refine ps_weak (ps_setLc (g := g.toV X.K) (te := LE X.K we) (tt := LT X.K wt) hc hN hy hyl hsw hi ok hg ht he hs) fun D σ H ⟨μ, S, ρ, D0, m, en, q, p⟩ => ?_
  · refine compN_ok hsl ⟨μ, S, ρ, _, m, en, q, fun d S1 q1 μ1 v H1 g1 m1 r1 => ?_⟩
    have q1' : (match bindT (.name i) d ρ with | some ρ' => D0.nx ρ' S1 | none => False) := q1
    show D.nx (σ.set i (some v)) H1
    simp only [bindT] at q1'
    exact p.nx _ S1 q1' μ1 _ H1 g1 m1 ((en.grow g1).set r1)
end
end DL

set_option maxHeartbeats 4000000
namespace DL
open PySem PySem.Spec PyProof.Rows L2 He

/-! ### a def by its datum -/
section
variable {P : Program} {w : World} {K : PySem.W.Frag} {mg : Str → Option Value} {base : Heap}
/-- the def x stands at the module's name x and keeps its contract -/
structure Def (P : Program) (w : World) (K : PySem.W.Frag) (mg : Str → Option Value) (base : Heap) (k : Nat) (x : Str) (ps : List Str) (Γ : Con) : Prop where
  ex : ∃ f fd, FnD P w K mg base k f fd ps Γ ∧ mg x = some (.ref f) ∧ PySem.W.keepIn K (.ref f) = true ∧ Binds K fd ps []
theorem Def.mono {j k : Nat} {x : Str} {ps : List Str} {Γ : Con} (D : Def P w K mg base j x ps Γ) (h : j ≤ k) : Def P w K mg base k x ps Γ :=
  let ⟨f, fd, h1, h2, h3, h4⟩ := D.ex; ⟨f, fd, h1.mono h, h2, h3, h4⟩
theorem fn_okF {x qual : Str} {params : Arguments} {body : List Stmt} {scope : Scope} {f : Addr} {fd : FuncData} {N ps : List Str} {k : Nat} {Γ : Con} {wb : WS} (F : FunD K x qual params body scope [] [] f fd) (Sc : FnScope N ps scope)
    (hb : ∀ (cdv : Value) (A : Around) (outer : List PySem.Env) (s : Shared) (H : Hp) (E : XK), Room k (A.deeper (envOfC qual scope s.heap.objs.size f cdv)) →
      SSs (cxOf CX0 P w K mg base N qual scope f cdv A outer s H E).nox body wb)
    (hw : ∀ (ds : List D) (S : Store) (Q0 : D → Store → Prop), ds.length = ps.length → closedS S → closedL S.length ds → Γ ds S Q0 →
      wb { nx := fun _ S1 => Exit S.length .non S1 Q0, rt := fun d S1 => Exit S.length d S1 Q0 } (ds.map some ++ List.replicate (N.length - ps.length) none) S) : FnD P w K mg base (k + 1) f fd ps Γ := by
  refine F.ok Sc (fun vs H Q E h => ?_) (fun cdv A outer s H vs Q E hr h => ?_)
  · obtain ⟨μ, S, ds, Q0, m, r, hl, _⟩ := h
    rw [← r.length, hl]
  · obtain ⟨μ, S, ds, Q0, m, r, hl, q, p⟩ := h
    refine ⟨_, PSs.nox (hb cdv A outer s H E hr), ?_⟩
    have en := start_R (N := N) r
    rw [hl] at en
    have cl := r.closed
    rw [m.len] at cl
    refine ⟨μ, S, _, _, m, en, hw ds S Q0 hl m.closed cl q, ?_, ?_, ?_, ?_⟩
    · exact fun ρ' S' q' μ' σ' H' g' m' e' => exit_ok m g' m' .non p q'
    · exact fun d S' q' μ' v H' g' m' r' => exit_ok m g' m' r' p q'
    · exact fun ρ' S' q' => q'.elim
    · exact fun ρ' S' q' => q'.elim
end
section
variable {X : Cx} {e : Expr} {es : List Expr} {wr : WA} {k : Nat} {ps : List Str} {Γ : Con} {x : Str} {p pos : Pos}
theorem se_fn {n : Nat} (F : Def X.prog X.w X.K X.mg X.base k x ps Γ) (hr : Room k X.A) (hg : Gl X x)
    (ha : SA X (e :: es) wr) (hn : ps.length = n := by rfl) (hdb : (x == ("__debug__" : Str)) = false := by decide) (he : starEach (e :: es) X.env = (false, eval e X.env) :: starEach es X.env := by rfl) (hpl : (backTo pos (starEach es X.env)).any (·.1) = false := by rfl) :
    SE X (.Call (.Name x p) (e :: es) [] pos) (wFn Γ n wr) := by
  subst hn
  obtain ⟨f, fd, h1, h2, h3, h4⟩ := F.ex
  exact se_call h1 hr hg h2 h3 h4 ha hdb he hpl
end

/-! ### constants of the module, by content -/
mutual
def kRep (K : PySem.W.Frag) : D → Value → Bool
  | .non, .none => true
  | .bl b, .bool c => b == c
  | .int i, .int j _ => decide (i = j)
  | .str x, .str y _ => decide (x = y)
  | .tup ds, .ref a => (match K.lookup a with
    | some ⟨.type c, _, .seq its _, _⟩ => decide (c = "tuple") && (decide (its.size ≤ sizeLine) && kRepL K ds its.toList)
    | _ => false)
  | .lst ds, .ref a => (match K.lookup a with
    | some ⟨.type c, none, .seq its _, _⟩ => decide (c = "list") && (decide (its.size ≤ sizeLine) && kRepL K ds its.toList)
    | _ => false)
  | _, _ => false
def kRepL (K : PySem.W.Frag) : List D → List Value → Bool
  | [], [] => true
  | d :: ds, u :: us => kRep K d u && kRepL K ds us
  | _, _ => false
end
def KRep (K : PySem.W.Frag) (d : D) (u : Value) : Prop := ∃ v, RelV v u ∧ ∀ μ H, Rep K μ H d v
def KRepL (K : PySem.W.Frag) (ds : List D) (us : List Value) : Prop := ∃ vs, Vals vs us ∧ ∀ μ H, RepAll K μ H ds vs
mutual
theorem kRep_ok {K : PySem.W.Frag} : ∀ {d : D} {u : Value}, kRep K d u = true → KRep K d u
  | .non, u, h => by
    cases u <;> first | exact ⟨.non, rfl, fun _ _ => .non⟩ | simp [kRep] at h
  | .bl b, u, h => by
    cases u with
    | bool c =>
      have e : b = c := by simpa [kRep] using h
      subst e
      exact ⟨.bl b, rfl, fun _ _ => .bl b⟩
    | _ => simp [kRep] at h
  | .int b, u, h => by
    cases u with
    | int c t =>
      have e : b = c := by simpa [kRep] using h
      subst e
      exact ⟨.int b, ⟨t, rfl⟩, fun _ _ => .int b⟩
    | _ => simp [kRep] at h
  | .str b, u, h => by
    cases u with
    | str c t =>
      have e : b = c := by simpa [kRep] using h
      subst e
      exact ⟨.str b, ⟨t, rfl⟩, fun _ _ => .str b⟩
    | _ => simp [kRep] at h
  | .tup ds, u, h => by
    cases u with
    | ref a =>
      simp only [kRep] at h
      split at h
      · rename_i c _ its n sl q
        simp only [Bool.and_eq_true, decide_eq_true_eq] at h
        obtain ⟨vs, h1, h2⟩ := kRepL_ok h.2.2
        exact ⟨.ref a, rfl, fun μ H => .tup (.inr ⟨_, its, n, q, congrArg Value.type h.1, rfl, h.2.1, h1⟩) (h2 μ H)⟩
      · cases h
    | _ => simp [kRep] at h
  | .lst ds, u, h => by
    cases u with
    | ref a =>
      simp only [kRep] at h
      split at h
      · rename_i c its n sl q
        simp only [Bool.and_eq_true, decide_eq_true_eq] at h
        obtain ⟨vs, h1, h2⟩ := kRepL_ok h.2.2
        exact ⟨.ref a, rfl, fun μ H => .lst (.inr ⟨_, its, n, q, congrArg Value.type h.1, rfl, rfl, h.2.1, h1⟩) (h2 μ H)⟩
      · cases h
    | _ => simp [kRep] at h
  | .ref n, u, h => by cases u <;> simp [kRep] at h
theorem kRepL_ok {K : PySem.W.Frag} : ∀ {ds : List D} {us : List Value}, kRepL K ds us = true → KRepL K ds us
  | [], [], _ => ⟨[], .nil, fun _ _ => .nil⟩
  | [], _ :: _, h => by simp [kRepL] at h
  | _ :: _, [], h => by simp [kRepL] at h
  | d :: ds, u :: us, h => by
    simp only [kRepL, Bool.and_eq_true] at h
    obtain ⟨v, h1, h2⟩ := kRep_ok h.1
    obtain ⟨vs, h3, h4⟩ := kRepL_ok h.2
    exact ⟨v :: vs, .cons h1 h3, fun μ H => .cons (h2 μ H) (h4 μ H)⟩
end
/-- the module's name x holds d -/
structure Cst (K : PySem.W.Frag) (mg : Str → Option Value) (x : Str) (d : D) : Prop where
  ex : ∃ u v, mg x = some u ∧ RelV v u ∧ ∀ μ H, Rep K μ H d v
theorem se_cst {X : Cx} {x : Str} {d : D} {pos : Pos} (c : Cst X.K X.mg x d) (hg : Gl X x) (hd : (x == ("__debug__" : Str)) = false := by decide) : SE X (.Name x pos) (wC d) := by
  obtain ⟨u, v, h1, h2, h3⟩ := c.ex
  exact se_glob hg h1 h2 h3 hd

/-! ### the head's Hook, with facts of one's own -/
def cstB (x : Str) (d : D) (K : PySem.W.Frag) : Bool := match PySem.W.nsIn K mainGlobals x with
  | some (some u) => kRep K d u
  | _ => false
def bltB (x : Str) (id : String) (K : PySem.W.Frag) : Bool := eqO (PySem.W.nsIn K mainGlobals x) (some (some (.builtin id)))
def gloB (x : Str) (K : PySem.W.Frag) : Bool := eqO (PySem.W.nsIn K mainGlobals x) (some (some (.ref (ga K x))))
def freB (x : Str) (K : PySem.W.Frag) : Bool := eqO (PySem.W.nsIn K mainGlobals x) (some none)
section
variable {K : PySem.W.Frag} {h : Heap} {mg : Str → Option Value}
theorem cstB_ok (X : K.In h) (G : h.Ns mainGlobals mg) {x : Str} {d : D} (c : cstB x d K = true) : Cst K mg x d := by
  unfold cstB at c
  split at c
  · rename_i u hu
    obtain ⟨v, h1, h2⟩ := kRep_ok c
    exact ⟨u, v, PySem.W.mg_of X G hu, h1, h2⟩
  · cases c
theorem bltB_ok (X : K.In h) (G : h.Ns mainGlobals mg) {x : Str} {id : String} (c : bltB x id K = true) : mg x = some (.builtin id) := PySem.W.mg_of X G (eqO_ok c)
theorem gloB_ok (X : K.In h) (G : h.Ns mainGlobals mg) {x : Str} (c : gloB x K = true) : mg x = some (.ref (ga K x)) := PySem.W.mg_of X G (eqO_ok c)
theorem freB_ok (X : K.In h) (G : h.Ns mainGlobals mg) {x : Str} (c : freB x K = true) : mg x = none := PySem.W.mg_none_of X G (eqO_ok c)
end
abbrev Facts := List (PySem.W.Frag → Bool)
def obsX (fa : Facts) (fn : List DefD) (K : PySem.W.Frag) : AlD := ((fa.all fun f => f K) && fn.all fun d => d.ok K, fn.map fun d => fnW K d.at_)
def SaysX (fa : Facts) (fn : List DefD) (K : PySem.W.Frag) : Prop := obsX fa fn K = valD fn
def obsXG (n : Nat) (fa : Facts) (fn : List DefD) (g : Addr → Option Obj) : AlD := obsX fa fn (frG g (asD g n))
def hookX (n : Nat) (fa : Facts) (fn : List DefD) : PySem.W.Hook where
  α := AlD
  obs := fun s => obsXG n fa fn s.heap.get?
  val := fun _ => valD fn
  says := fun _ h => ∃ K : PySem.W.Frag, K.In h ∧ SaysX fa fn K
  of := fun _ _ e => ⟨_, frG_in, e⟩
  keeps := fun _ _ _ ⟨K, hK, c⟩ k => ⟨K, PySem.W.Frag.In.keeps hK k, c⟩
theorem obsXG_eq {n : Nat} {fa : Facts} {fn : List DefD} {g : Addr → Option Obj} {s : Shared} (h : ∀ a, g a = s.heap.get? a) : obsXG n fa fn g = (hookX n fa fn).obs s := by
  have e : g = s.heap.get? := funext h
  rw [e] <;> rfl
section
variable {fa : Facts} {fn : List DefD} {K : PySem.W.Frag}
theorem SaysX.fact (c : SaysX fa fn K) (i : Nat) {f : PySem.W.Frag → Bool} (h : fa[i]? = some f := by rfl) : f K = true := by
  have c1 := (ba (show ((fa.all fun f => f K) && fn.all fun d => d.ok K) = true from congrArg (fun z : AlD => z.1) c)).1
  exact List.all_eq_true.mp c1 f (List.mem_of_getElem? h)
theorem SaysX.def_ (c : SaysX fa fn K) (i : Nat) {d : DefD} (h : fn[i]? = some d := by rfl) : ∃ fd, FunD K d.name d.qual d.params d.body d.scope (d.dvs K) (d.kws K) (fAd K d.at_) fd := by
  have c2 := (ba (show ((fa.all fun f => f K) && fn.all fun d => d.ok K) = true from congrArg (fun z : AlD => z.1) c)).2
  have e : fn.map (fun d => fnW K d.at_) = fn.map DefD.val := congrArg (fun z : AlD => z.2) c
  have e2 : (fn.map fun d => fnW K d.at_)[i]? = (fn.map DefD.val)[i]? := by rw [e]
  rw [List.getElem?_map, List.getElem?_map, h] at e2
  exact DefD.funD (Option.some.inj e2) (List.all_eq_true.mp c2 d (List.mem_of_getElem? h))
end
end DL

set_option maxHeartbeats 4000000
/-! lemmas for readings by content -/
namespace DL
open PySem PySem.Spec PyProof.Rows L2
theorem atD_of {ds : List D} (n : Nat) : atD ds (no_index (OfNat.ofNat n : Int)) = ds[n]? := rfl
theorem atD_cast {ds : List D} (n : Nat) : atD ds (n : Int) = ds[n]? := rfl
theorem atD_neg1 {ds : List D} : atD ds (-1) = if 0 < ds.length then ds[ds.length - 1]? else none := rfl
theorem putAt_lit (n m : Nat) (d : D) (S : Store) (Q : Store → Prop) : putAt n (no_index (OfNat.ofNat m : Int)) d S Q = match S[n]? with | some (.lst xs) => m < xs.length ∧ Q (S.set n (.lst (xs.set m d))) | _ => False := by
  unfold putAt
  rcases S[n]? with _ | (_ | _) <;> rfl
theorem mPopAt_lit (n m : Nat) (S : Store) (Q : D → Store → Prop) : mPopAt (.ref n) [.int (no_index (OfNat.ofNat m : Int))] S Q = match S[n]? with
    | some (.lst xs) => (match xs[m]? with | some y => m < 2 ^ 62 ∧ Q y (S.set n (.lst (xs.eraseIdx m))) | none => False)
    | _ => False := by
  show (match S[n]? with | some (.lst xs) => _ | _ => False) = _
  rcases S[n]? with _ | (_ | _) <;> rfl
theorem intsD_zero (lo : Int) : intsD lo 0 = [] := rfl
theorem intsD_succ (lo : Int) (n : Nat) : intsD lo (n + 1) = .int lo :: intsD (lo + 1) n := by
  unfold intsD
  rw [List.range_succ_eq_map, List.map_cons, List.map_map]
  refine congr (congrArg _ ?_) ?_
  · simp
  · apply List.map_congr_left
    intro i _
    show D.int (lo + ((i + 1 : Nat) : Int)) = D.int (lo + 1 + (i : Int))
    congr 1
    omega
theorem intsD_length (lo : Int) (n : Nat) : (intsD lo n).length = n := by simp [intsD]
theorem intsD_eq (lo : Int) (n : Nat) : intsD lo n = ((List.range n).map fun i => lo + (i : Nat)).map D.int := by simp [intsD, Function.comp_def]
theorem pure_ints (ns : List Int) : pureL (ns.map .int) := by
  induction ns with
  | nil => simp [pureL]
  | cons n ns ih => simpa [pureL, pureD] using ih
theorem shaped_ints : ∀ (ns : List Int), PyData.canLayAll0 (pyAll (ns.map .int)) = true
  | [] => by simp [pyAll, PyData.canLayAll0]
  | n :: ns => by simp [pyAll, PyData.canLayAll0, PyData.canLay0, D.py, shaped_ints ns]
/-- a comprehension that calls nothing of the store: a map -/
theorem compR_map {g : Tg} {we : WE} {G : Store → Prop} {ρ0 : Env} {Q : D → Store → Prop} {f : D → D} {S : Store} (hG : G S) : ∀ (xs acc : List D), acc.length + xs.length ≤ sizeLine →
    (∀ x, x ∈ xs → ∃ ρ2, bindT g x ρ0 = some ρ2 ∧ ∀ Q : D → Store → Prop, Q (f x) S → we ρ2 S Q) → Q (.lst (acc ++ xs.map f)) S → compR g wYes we G ρ0 Q xs acc S
  | [], acc, _, _, q => ⟨hG, by simpa using q⟩
  | x :: xs, acc, hl, h, q => by
    obtain ⟨ρ2, hb, hw⟩ := h x (by simp)
    refine ⟨hG, ?_⟩
    rw [hb]
    show we ρ2 S _
    simp only [List.length_cons] at hl
    refine hw _ ⟨by omega, compR_map hG xs (acc ++ [f x]) (by simp; omega) (fun y hy => h y (by simp [hy])) ?_⟩
    rw [List.append_assoc]
    exact q
/-- .. with a test -/
theorem compR_filter {g : Tg} {wt : WT} {we : WE} {G : Store → Prop} {ρ0 : Env} {Q : D → Store → Prop} {t : D → Bool} {f : D → D} {S : Store} (hG : G S) : ∀ (xs acc : List D), acc.length + xs.length ≤ sizeLine →
    (∀ x, x ∈ xs → ∃ ρ2, bindT g x ρ0 = some ρ2 ∧ (∀ Q : Bool → Store → Prop, Q (t x) S → wt ρ2 S Q) ∧ (t x = true → ∀ Q : D → Store → Prop, Q (f x) S → we ρ2 S Q)) →
    Q (.lst (acc ++ (xs.filter t).map f)) S → compR g wt we G ρ0 Q xs acc S
  | [], acc, _, _, q => ⟨hG, by simpa using q⟩
  | x :: xs, acc, hl, h, q => by
    obtain ⟨ρ2, hb, ht, hw⟩ := h x (by simp)
    refine ⟨hG, ?_⟩
    rw [hb]
    simp only [List.length_cons] at hl
    refine ht _ ?_
    cases e : t x with
    | true =>
      rw [if_pos rfl]
      refine hw e _ ⟨by omega, compR_filter hG xs (acc ++ [f x]) (by simp; omega) (fun y hy => h y (by simp [hy])) ?_⟩
      rw [List.append_assoc]
      rw [List.filter_cons_of_pos e] at q
      exact q
    | false =>
      rw [if_neg (by decide)]
      refine compR_filter hG xs acc (by omega) (fun y hy => h y (by simp [hy])) ?_
      rw [List.filter_cons_of_neg (by rw [e]; decide)] at q
      exact q
theorem isT_non_int {S : Store} {b : Bool} {i : Int} {z : Str} {ds : List D} : isT D.non S "int" = some false := by first | rfl | decide
theorem isT_non_bool {S : Store} {b : Bool} {i : Int} {z : Str} {ds : List D} : isT D.non S "bool" = some false := by first | rfl | decide
theorem isT_non_str {S : Store} {b : Bool} {i : Int} {z : Str} {ds : List D} : isT D.non S "str" = some false := by first | rfl | decide
theorem isT_non_tuple {S : Store} {b : Bool} {i : Int} {z : Str} {ds : List D} : isT D.non S "tuple" = some false := by first | rfl | decide
theorem isT_non_list {S : Store} {b : Bool} {i : Int} {z : Str} {ds : List D} : isT D.non S "list" = some false := by first | rfl | decide
theorem isT_bl_int {S : Store} {b : Bool} {i : Int} {z : Str} {ds : List D} : isT (.bl b) S "int" = some true := by first | rfl | decide
theorem isT_bl_bool {S : Store} {b : Bool} {i : Int} {z : Str} {ds : List D} : isT (.bl b) S "bool" = some true := by first | rfl | decide
theorem isT_bl_str {S : Store} {b : Bool} {i : Int} {z : Str} {ds : List D} : isT (.bl b) S "str" = some false := by first | rfl | decide
theorem isT_bl_tuple {S : Store} {b : Bool} {i : Int} {z : Str} {ds : List D} : isT (.bl b) S "tuple" = some false := by first | rfl | decide
theorem isT_bl_list {S : Store} {b : Bool} {i : Int} {z : Str} {ds : List D} : isT (.bl b) S "list" = some false := by first | rfl | decide
theorem isT_int_int {S : Store} {b : Bool} {i : Int} {z : Str} {ds : List D} : isT (.int i) S "int" = some true := by first | rfl | decide
theorem isT_int_bool {S : Store} {b : Bool} {i : Int} {z : Str} {ds : List D} : isT (.int i) S "bool" = some false := by first | rfl | decide
theorem isT_int_str {S : Store} {b : Bool} {i : Int} {z : Str} {ds : List D} : isT (.int i) S "str" = some false := by first | rfl | decide
theorem isT_int_tuple {S : Store} {b : Bool} {i : Int} {z : Str} {ds : List D} : isT (.int i) S "tuple" = some false := by first | rfl | decide
theorem isT_int_list {S : Store} {b : Bool} {i : Int} {z : Str} {ds : List D} : isT (.int i) S "list" = some false := by first | rfl | decide
theorem isT_str_int {S : Store} {b : Bool} {i : Int} {z : Str} {ds : List D} : isT (.str z) S "int" = some false := by first | rfl | decide
theorem isT_str_bool {S : Store} {b : Bool} {i : Int} {z : Str} {ds : List D} : isT (.str z) S "bool" = some false := by first | rfl | decide
theorem isT_str_str {S : Store} {b : Bool} {i : Int} {z : Str} {ds : List D} : isT (.str z) S "str" = some true := by first | rfl | decide
theorem isT_str_tuple {S : Store} {b : Bool} {i : Int} {z : Str} {ds : List D} : isT (.str z) S "tuple" = some false := by first | rfl | decide
theorem isT_str_list {S : Store} {b : Bool} {i : Int} {z : Str} {ds : List D} : isT (.str z) S "list" = some false := by first | rfl | decide
theorem isT_tup_int {S : Store} {b : Bool} {i : Int} {z : Str} {ds : List D} : isT (.tup ds) S "int" = some false := by first | rfl | decide
theorem isT_tup_bool {S : Store} {b : Bool} {i : Int} {z : Str} {ds : List D} : isT (.tup ds) S "bool" = some false := by first | rfl | decide
theorem isT_tup_str {S : Store} {b : Bool} {i : Int} {z : Str} {ds : List D} : isT (.tup ds) S "str" = some false := by first | rfl | decide
theorem isT_tup_tuple {S : Store} {b : Bool} {i : Int} {z : Str} {ds : List D} : isT (.tup ds) S "tuple" = some true := by first | rfl | decide
theorem isT_tup_list {S : Store} {b : Bool} {i : Int} {z : Str} {ds : List D} : isT (.tup ds) S "list" = some false := by first | rfl | decide
theorem isT_lst_int {S : Store} {b : Bool} {i : Int} {z : Str} {ds : List D} : isT (.lst ds) S "int" = some false := by first | rfl | decide
theorem isT_lst_bool {S : Store} {b : Bool} {i : Int} {z : Str} {ds : List D} : isT (.lst ds) S "bool" = some false := by first | rfl | decide
theorem isT_lst_str {S : Store} {b : Bool} {i : Int} {z : Str} {ds : List D} : isT (.lst ds) S "str" = some false := by first | rfl | decide
theorem isT_lst_tuple {S : Store} {b : Bool} {i : Int} {z : Str} {ds : List D} : isT (.lst ds) S "tuple" = some false := by first | rfl | decide
theorem isT_lst_list {S : Store} {b : Bool} {i : Int} {z : Str} {ds : List D} : isT (.lst ds) S "list" = some true := by first | rfl | decide
theorem bq_tt : (true == true) = true := rfl
theorem bq_tf : (true == false) = false := rfl
theorem bq_ft : (false == true) = false := rfl
theorem bq_ff : (false == false) = true := rfl
theorem eqv2 (a b c d : Int) : eqv (.tup [.int a, .int b]) (.tup [.int c, .int d]) = (decide (a = c) && decide (b = d)) := by
  simp [eqv, D.py, pyAll, PyData.eqv, PyData.eqvAll, Bool.beq_eq_decide_eq]
theorem okD2 (a b : Int) : okD (.tup [.int a, .int b]) := by
  show SeqAt.shaped _ = true
  rfl
/-! the simp set -/
theorem x_rAdd {i j : Int} {S : Store} {Q : D → Store → Prop} : DL.rAdd (.int i) (.int j) S Q = Q (.int (i + j)) S := (rfl)
theorem x_rSub {i j : Int} {S : Store} {Q : D → Store → Prop} : DL.rSub (.int i) (.int j) S Q = Q (.int (i - j)) S := (rfl)
theorem x_rMul {i j : Int} {S : Store} {Q : D → Store → Prop} : DL.rMul (.int i) (.int j) S Q = (MulOk i j ∧ Q (.int (i * j)) S) := (rfl)
theorem x_rDiv {i j : Int} {S : Store} {Q : D → Store → Prop} : DL.rDiv (.int i) (.int j) S Q = (DivOk j ∧ Q (.int (i / j)) S) := (rfl)
theorem x_rMod {i j : Int} {S : Store} {Q : D → Store → Prop} : DL.rMod (.int i) (.int j) S Q = (0 < j ∧ Q (.int (i % j)) S) := (rfl)
theorem x_rPow {i j : Int} {S : Store} {Q : D → Store → Prop} : DL.rPow (.int i) (.int j) S Q = (CPow i j ∧ Q (.int (i ^ j.toNat)) S) := (rfl)
theorem x_rLt {i j : Int} {S : Store} {Q : D → Store → Prop} : DL.rLt (.int i) (.int j) S Q = Q (.bl (decide (i < j))) S := (rfl)
theorem x_rLe {i j : Int} {S : Store} {Q : D → Store → Prop} : DL.rLe (.int i) (.int j) S Q = Q (.bl (decide (i ≤ j))) S := (rfl)
theorem x_rGt {i j : Int} {S : Store} {Q : D → Store → Prop} : DL.rGt (.int i) (.int j) S Q = Q (.bl (decide (j < i))) S := (rfl)
theorem x_rGe {i j : Int} {S : Store} {Q : D → Store → Prop} : DL.rGe (.int i) (.int j) S Q = Q (.bl (decide (j ≤ i))) S := (rfl)
theorem x_rAdd_s {a b : Str} {S : Store} {Q : D → Store → Prop} : DL.rAdd (.str a) (.str b) S Q = (a.length + b.length ≤ sizeLine ∧ Q (.str (a ++ b)) S) := (rfl)
theorem x_rAdd_t {a b : List D} {S : Store} {Q : D → Store → Prop} : DL.rAdd (.tup a) (.tup b) S Q = (a ≠ [] ∧ a.length + b.length ≤ sizeLine ∧ Q (.tup (a ++ b)) S) := (rfl)
theorem x_rEq_int {a b : Int} {S : Store} {Q : D → Store → Prop} : DL.rEq (.int a) (.int b) S Q = Q (.bl (decide (a = b))) S := (rfl)
theorem x_rEq_bl {a b : Bool} {S : Store} {Q : D → Store → Prop} : DL.rEq (.bl a) (.bl b) S Q = Q (.bl (decide (a = b))) S := (rfl)
theorem x_rEq_str {a b : Str} {S : Store} {Q : D → Store → Prop} : DL.rEq (.str a) (.str b) S Q = Q (.bl (decide (a = b))) S := (rfl)
theorem x_rEq_tup {a b : List D} {S : Store} {Q : D → Store → Prop} : DL.rEq (.tup a) (.tup b) S Q = (okD (.tup a) ∧ okD (.tup b) ∧ Q (.bl (eqv (.tup a) (.tup b))) S) := (rfl)
theorem x_rEq_lst {a b : List D} {S : Store} {Q : D → Store → Prop} : DL.rEq (.lst a) (.lst b) S Q = (okD (.lst a) ∧ okD (.lst b) ∧ Q (.bl (eqv (.lst a) (.lst b))) S) := (rfl)
theorem x_rEq_nt {b : List D} {S : Store} {Q : D → Store → Prop} : DL.rEq .non (.tup b) S Q = (okD .non ∧ okD (.tup b) ∧ Q (.bl (eqv .non (.tup b))) S) := (rfl)
theorem x_rEq_tn {b : List D} {S : Store} {Q : D → Store → Prop} : DL.rEq (.tup b) .non S Q = (okD (.tup b) ∧ okD .non ∧ Q (.bl (eqv (.tup b) .non)) S) := (rfl)
theorem x_rEq_nn {S : Store} {Q : D → Store → Prop} : DL.rEq .non .non S Q = (okD .non ∧ okD .non ∧ Q (.bl (eqv .non .non)) S) := (rfl)
theorem x_rEq_ni {b : Int} {S : Store} {Q : D → Store → Prop} : DL.rEq .non (.int b) S Q = (okD .non ∧ okD (.int b) ∧ Q (.bl (eqv .non (.int b))) S) := (rfl)
theorem x_rEq_in {b : Int} {S : Store} {Q : D → Store → Prop} : DL.rEq (.int b) .non S Q = (okD (.int b) ∧ okD .non ∧ Q (.bl (eqv (.int b) .non)) S) := (rfl)
theorem x_rNe_int {a b : Int} {S : Store} {Q : D → Store → Prop} : DL.rNe (.int a) (.int b) S Q = Q (.bl (!decide (a = b))) S := (rfl)
theorem x_rNe_bl {a b : Bool} {S : Store} {Q : D → Store → Prop} : DL.rNe (.bl a) (.bl b) S Q = Q (.bl (!decide (a = b))) S := (rfl)
theorem x_rNe_str {a b : Str} {S : Store} {Q : D → Store → Prop} : DL.rNe (.str a) (.str b) S Q = Q (.bl (!decide (a = b))) S := (rfl)
theorem x_rNe_tup {a b : List D} {S : Store} {Q : D → Store → Prop} : DL.rNe (.tup a) (.tup b) S Q = (okD (.tup a) ∧ okD (.tup b) ∧ Q (.bl (!eqv (.tup a) (.tup b))) S) := (rfl)
theorem x_rNe_lst {a b : List D} {S : Store} {Q : D → Store → Prop} : DL.rNe (.lst a) (.lst b) S Q = (okD (.lst a) ∧ okD (.lst b) ∧ Q (.bl (!eqv (.lst a) (.lst b))) S) := (rfl)
theorem x_rNe_nt {b : List D} {S : Store} {Q : D → Store → Prop} : DL.rNe .non (.tup b) S Q = (okD .non ∧ okD (.tup b) ∧ Q (.bl (!eqv .non (.tup b))) S) := (rfl)
theorem x_rNe_tn {b : List D} {S : Store} {Q : D → Store → Prop} : DL.rNe (.tup b) .non S Q = (okD (.tup b) ∧ okD .non ∧ Q (.bl (!eqv (.tup b) .non)) S) := (rfl)
theorem x_rNe_nn {S : Store} {Q : D → Store → Prop} : DL.rNe .non .non S Q = (okD .non ∧ okD .non ∧ Q (.bl (!eqv .non .non)) S) := (rfl)
theorem x_rNe_ni {b : Int} {S : Store} {Q : D → Store → Prop} : DL.rNe .non (.int b) S Q = (okD .non ∧ okD (.int b) ∧ Q (.bl (!eqv .non (.int b))) S) := (rfl)
theorem x_rNe_in {b : Int} {S : Store} {Q : D → Store → Prop} : DL.rNe (.int b) .non S Q = (okD (.int b) ∧ okD .non ∧ Q (.bl (!eqv (.int b) .non)) S) := (rfl)
theorem x_is_non_n {S : Store} {Q : D → Store → Prop} : DL.rIs D.non .non S Q = Q (.bl true) S := (rfl)
theorem x_isn_non_n {S : Store} {Q : D → Store → Prop} : DL.rIsNot D.non .non S Q = Q (.bl false) S := (rfl)
theorem x_is_non_b {k : Bool} {S : Store} {Q : D → Store → Prop} : DL.rIs D.non (.bl k) S Q = Q (.bl false) S := (rfl)
theorem x_isn_non_b {k : Bool} {S : Store} {Q : D → Store → Prop} : DL.rIsNot D.non (.bl k) S Q = Q (.bl true) S := (rfl)
theorem x_is_bl_n {b : Bool} {S : Store} {Q : D → Store → Prop} : DL.rIs (.bl b) .non S Q = Q (.bl false) S := (rfl)
theorem x_isn_bl_n {b : Bool} {S : Store} {Q : D → Store → Prop} : DL.rIsNot (.bl b) .non S Q = Q (.bl true) S := (rfl)
theorem x_is_int_n {i : Int} {S : Store} {Q : D → Store → Prop} : DL.rIs (.int i) .non S Q = Q (.bl false) S := (rfl)
theorem x_isn_int_n {i : Int} {S : Store} {Q : D → Store → Prop} : DL.rIsNot (.int i) .non S Q = Q (.bl true) S := (rfl)
theorem x_is_int_b {i : Int} {k : Bool} {S : Store} {Q : D → Store → Prop} : DL.rIs (.int i) (.bl k) S Q = Q (.bl false) S := (rfl)
theorem x_isn_int_b {i : Int} {k : Bool} {S : Store} {Q : D → Store → Prop} : DL.rIsNot (.int i) (.bl k) S Q = Q (.bl true) S := (rfl)
theorem x_is_str_n {z : Str} {S : Store} {Q : D → Store → Prop} : DL.rIs (.str z) .non S Q = Q (.bl false) S := (rfl)
theorem x_isn_str_n {z : Str} {S : Store} {Q : D → Store → Prop} : DL.rIsNot (.str z) .non S Q = Q (.bl true) S := (rfl)
theorem x_is_str_b {z : Str} {k : Bool} {S : Store} {Q : D → Store → Prop} : DL.rIs (.str z) (.bl k) S Q = Q (.bl false) S := (rfl)
theorem x_isn_str_b {z : Str} {k : Bool} {S : Store} {Q : D → Store → Prop} : DL.rIsNot (.str z) (.bl k) S Q = Q (.bl true) S := (rfl)
theorem x_is_tup_n {ds : List D} {S : Store} {Q : D → Store → Prop} : DL.rIs (.tup ds) .non S Q = Q (.bl false) S := (rfl)
theorem x_isn_tup_n {ds : List D} {S : Store} {Q : D → Store → Prop} : DL.rIsNot (.tup ds) .non S Q = Q (.bl true) S := (rfl)
theorem x_is_tup_b {ds : List D} {k : Bool} {S : Store} {Q : D → Store → Prop} : DL.rIs (.tup ds) (.bl k) S Q = Q (.bl false) S := (rfl)
theorem x_isn_tup_b {ds : List D} {k : Bool} {S : Store} {Q : D → Store → Prop} : DL.rIsNot (.tup ds) (.bl k) S Q = Q (.bl true) S := (rfl)
theorem x_is_lst_n {ds : List D} {S : Store} {Q : D → Store → Prop} : DL.rIs (.lst ds) .non S Q = Q (.bl false) S := (rfl)
theorem x_isn_lst_n {ds : List D} {S : Store} {Q : D → Store → Prop} : DL.rIsNot (.lst ds) .non S Q = Q (.bl true) S := (rfl)
theorem x_is_lst_b {ds : List D} {k : Bool} {S : Store} {Q : D → Store → Prop} : DL.rIs (.lst ds) (.bl k) S Q = Q (.bl false) S := (rfl)
theorem x_isn_lst_b {ds : List D} {k : Bool} {S : Store} {Q : D → Store → Prop} : DL.rIsNot (.lst ds) (.bl k) S Q = Q (.bl true) S := (rfl)
theorem x_is_ref_n {n : Nat} {S : Store} {Q : D → Store → Prop} : DL.rIs (.ref n) .non S Q = Q (.bl false) S := (rfl)
theorem x_isn_ref_n {n : Nat} {S : Store} {Q : D → Store → Prop} : DL.rIsNot (.ref n) .non S Q = Q (.bl true) S := (rfl)
theorem x_is_ref_b {n : Nat} {k : Bool} {S : Store} {Q : D → Store → Prop} : DL.rIs (.ref n) (.bl k) S Q = Q (.bl false) S := (rfl)
theorem x_isn_ref_b {n : Nat} {k : Bool} {S : Store} {Q : D → Store → Prop} : DL.rIsNot (.ref n) (.bl k) S Q = Q (.bl true) S := (rfl)
theorem x_is_bb {a b : Bool} {S : Store} {Q : D → Store → Prop} : DL.rIs (.bl a) (.bl b) S Q = Q (.bl (a == b)) S := (rfl)
theorem x_isn_bb {a b : Bool} {S : Store} {Q : D → Store → Prop} : DL.rIsNot (.bl a) (.bl b) S Q = Q (.bl (!(a == b))) S := (rfl)
def oM {α : Type} (o : Option α) (k : α → Prop) : Prop := match o with | some a => k a | none => False
theorem oM_some {α : Type} {a : α} {k : α → Prop} : oM (some a) k = k a := (rfl)
def sM (o : Option Ob) (k : List D → Prop) : Prop := match o with | some (.lst ds) => k ds | _ => False
theorem sM_some {ds : List D} {k : List D → Prop} : sM (some (.lst ds)) k = k ds := (rfl)
theorem x_ix_tup {ds : List D} {i : Int} {S : Store} {Q : D → Store → Prop} : DL.rIx (.tup ds) (.int i) S Q = oM (atD ds i) (fun d => Q d S) := by show (match atD ds i with | some d => Q d S | none => False) = _; cases atD ds i <;> rfl
theorem x_ix_lst {ds : List D} {i : Int} {S : Store} {Q : D → Store → Prop} : DL.rIx (.lst ds) (.int i) S Q = oM (atD ds i) (fun d => Q d S) := by show (match atD ds i with | some d => Q d S | none => False) = _; cases atD ds i <;> rfl
theorem x_ix_ref {n : Nat} {i : Int} {S : Store} {Q : D → Store → Prop} : DL.rIx (.ref n) (.int i) S Q = sM S[n]? (fun ds => oM (atD ds i) (fun d => Q d S)) := by
  show (match S[n]? with | some (.lst ds) => (match atD ds i with | some d => Q d S | none => False) | _ => False) = _
  rcases S[n]? with _ | (ds | _)
  · rfl
  · show (match atD ds i with | some d => Q d S | none => False) = oM (atD ds i) _
    cases atD ds i <;> rfl
  · rfl
theorem x_tru_non {S : Store} {Q : Bool → Store → Prop} : DL.rTru D.non S Q = Q false S := (rfl)
theorem x_tru_bl {b : Bool} {S : Store} {Q : Bool → Store → Prop} : DL.rTru (.bl b) S Q = Q b S := (rfl)
theorem x_tru_int {i : Int} {S : Store} {Q : Bool → Store → Prop} : DL.rTru (.int i) S Q = Q (i != 0) S := (rfl)
theorem x_tru_str {z : Str} {S : Store} {Q : Bool → Store → Prop} : DL.rTru (.str z) S Q = (z.length ≤ sizeLine ∧ Q (z.length != 0) S) := (rfl)
theorem x_tru_tup {ds : List D} {S : Store} {Q : Bool → Store → Prop} : DL.rTru (.tup ds) S Q = Q (!ds.isEmpty) S := (rfl)
theorem x_tru_lst {ds : List D} {S : Store} {Q : Bool → Store → Prop} : DL.rTru (.lst ds) S Q = Q (!ds.isEmpty) S := (rfl)
theorem x_tru_ref {n : Nat} {S : Store} {Q : Bool → Store → Prop} : DL.rTru (.ref n) S Q = sM S[n]? (fun ds => Q (!ds.isEmpty) S) := by show (match S[n]? with | some (.lst ds) => _ | _ => False) = _; rcases S[n]? with _ | (_ | _) <;> rfl
theorem x_len_tup {ds : List D} {S : Store} {Q : D → Store → Prop} : DL.rLen [.tup ds] S Q = Q (.int ds.length) S := (rfl)
theorem x_tuple_tup {ds : List D} {S : Store} {Q : D → Store → Prop} : DL.rTuple [.tup ds] S Q = Q (.tup ds) S := (rfl)
theorem x_list_tup {ds : List D} {S : Store} {Q : D → Store → Prop} : DL.rList [.tup ds] S Q = Q (.lst ds) S := (rfl)
theorem x_listN_tup {ds : List D} {S : Store} {Q : D → Store → Prop} : DL.rListN [.tup ds] S Q = Q (.ref S.length) (S ++ [.lst ds]) := (rfl)
theorem x_len_lst {ds : List D} {S : Store} {Q : D → Store → Prop} : DL.rLen [.lst ds] S Q = Q (.int ds.length) S := (rfl)
theorem x_tuple_lst {ds : List D} {S : Store} {Q : D → Store → Prop} : DL.rTuple [.lst ds] S Q = Q (.tup ds) S := (rfl)
theorem x_list_lst {ds : List D} {S : Store} {Q : D → Store → Prop} : DL.rList [.lst ds] S Q = Q (.lst ds) S := (rfl)
theorem x_listN_lst {ds : List D} {S : Store} {Q : D → Store → Prop} : DL.rListN [.lst ds] S Q = Q (.ref S.length) (S ++ [.lst ds]) := (rfl)
theorem x_len_str {z : Str} {S : Store} {Q : D → Store → Prop} : DL.rLen [.str z] S Q = (z.length ≤ sizeLine ∧ Q (.int z.length) S) := (rfl)
theorem x_rLen_ref {n : Nat} {S : Store} {Q : D → Store → Prop} : DL.rLen [.ref n] S Q = sM S[n]? (fun ds => Q (.int ds.length) S) := by show (match S[n]? with | some (.lst ds) => _ | _ => False) = _; rcases S[n]? with _ | (_ | _) <;> rfl
theorem x_rTuple_ref {n : Nat} {S : Store} {Q : D → Store → Prop} : DL.rTuple [.ref n] S Q = sM S[n]? (fun ds => Q (.tup ds) S) := by show (match S[n]? with | some (.lst ds) => _ | _ => False) = _; rcases S[n]? with _ | (_ | _) <;> rfl
theorem x_rList_ref {n : Nat} {S : Store} {Q : D → Store → Prop} : DL.rList [.ref n] S Q = sM S[n]? (fun ds => Q (.lst ds) S) := by show (match S[n]? with | some (.lst ds) => _ | _ => False) = _; rcases S[n]? with _ | (_ | _) <;> rfl
theorem x_rListN_ref {n : Nat} {S : Store} {Q : D → Store → Prop} : DL.rListN [.ref n] S Q = sM S[n]? (fun ds => Q (.ref S.length) (S ++ [.lst ds])) := by show (match S[n]? with | some (.lst ds) => _ | _ => False) = _; rcases S[n]? with _ | (_ | _) <;> rfl
theorem x_int_int {i : Int} {S : Store} {Q : D → Store → Prop} : DL.rInt [.int i] S Q = Q (.int i) S := (rfl)
theorem x_int_bl {b : Bool} {S : Store} {Q : D → Store → Prop} : DL.rInt [.bl b] S Q = Q (.int (if b = true then 1 else 0)) S := (rfl)
theorem x_abs {i : Int} {S : Store} {Q : D → Store → Prop} : DL.rAbs [.int i] S Q = Q (.int (if i < 0 then -i else i)) S := (rfl)
theorem x_gcd {i j : Int} {S : Store} {Q : D → Store → Prop} : rGcdD [.int i, .int j] S Q = Q (.int ((Nat.gcd i.natAbs j.natAbs : Nat) : Int)) S := (rfl)
theorem x_max2 {i j : Int} {S : Store} {Q : D → Store → Prop} : DL.rMax2 [.int i, .int j] S Q = Q (.int (if j > i then j else i)) S := (rfl)
theorem x_min2 {i j : Int} {S : Store} {Q : D → Store → Prop} : DL.rMin2 [.int i, .int j] S Q = Q (.int (if j < i then j else i)) S := (rfl)
theorem x_append {n : Nat} {d : D} {S : Store} {Q : D → Store → Prop} : mAppend (.ref n) [d] S Q = sM S[n]? (fun xs => xs.length < sizeLine ∧ Q .non (S.set n (.lst (xs ++ [d])))) := by show (match S[n]? with | some (.lst xs) => _ | _ => False) = _; rcases S[n]? with _ | (_ | _) <;> rfl
theorem x_popAt {n m : Nat} {S : Store} {Q : D → Store → Prop} : mPopAt (.ref n) [.int (no_index (OfNat.ofNat m : Int))] S Q = sM S[n]? (fun xs => oM xs[m]? (fun y => m < 2 ^ 62 ∧ Q y (S.set n (.lst (xs.eraseIdx m))))) := by
  rw [mPopAt_lit]
  rcases S[n]? with _ | (xs | _)
  · rfl
  · show (match xs[m]? with | some y => m < 2 ^ 62 ∧ Q y (S.set n (.lst (xs.eraseIdx m))) | none => False) = oM xs[m]? _
    cases xs[m]? <;> rfl
  · rfl
theorem x_pop {n : Nat} {S : Store} {Q : D → Store → Prop} : mPop (.ref n) [] S Q = sM S[n]? (fun xs => oM xs[xs.length - 1]? (fun y => Q y (S.set n (.lst xs.dropLast)))) := by
  show (match S[n]? with | some (.lst xs) => (match xs[xs.length - 1]? with | some y => Q y (S.set n (.lst xs.dropLast)) | none => False) | _ => False) = _
  rcases S[n]? with _ | (xs | _)
  · rfl
  · show (match xs[xs.length - 1]? with | some y => Q y (S.set n (.lst xs.dropLast)) | none => False) = oM xs[xs.length - 1]? _
    cases xs[xs.length - 1]? <;> rfl
  · rfl
theorem x_putAt {n m : Nat} {d : D} {S : Store} {P : Store → Prop} : putAt n (no_index (OfNat.ofNat m : Int)) d S P = sM S[n]? (fun xs => m < xs.length ∧ P (S.set n (.lst (xs.set m d)))) := by rw [putAt_lit]; rcases S[n]? with _ | (_ | _) <;> rfl
theorem x_putAtC {n m : Nat} {d : D} {S : Store} {P : Store → Prop} : putAt n (m : Int) d S P = sM S[n]? (fun xs => m < xs.length ∧ P (S.set n (.lst (xs.set m d)))) := by show (match S[n]? with | some (.lst xs) => _ | _ => False) = _; rcases S[n]? with _ | (_ | _) <;> rfl
theorem x_isL_ref {n : Nat} {S : Store} : isL (.ref n) S = sM S[n]? (fun _ => True) := by show (match S[n]? with | some (.lst _) => True | _ => False) = _; rcases S[n]? with _ | (_ | _) <;> rfl
theorem x_isL_lst {ds : List D} {S : Store} : isL (.lst ds) S = True := (rfl)
theorem y_var0 {d : D} {ρ : DL.Env} {S : Store} {Q : D → Store → Prop}  : wVar 0 (some d :: ρ) S Q = Q d S := (rfl)
theorem y_varS {n : Nat} {x : Option D} {ρ : DL.Env} {S : Store} {Q : D → Store → Prop}  : wVar (n + 1) (x :: ρ) S Q = wVar n ρ S Q := by show (match (x :: ρ)[n + 1]? with | some (some d) => Q d S | _ => False) = (match ρ[n]? with | some (some d) => Q d S | _ => False); rw [List.getElem?_cons_succ]
def tB (d : D) (S : Store) (Q : Bool → Store → Prop) : Prop := match d with | .bl k => Q k S | _ => False
theorem y_tB {k : Bool} {S : Store} {Q : Bool → Store → Prop} : tB (.bl k) S Q = Q k S := (rfl)
theorem y_test {w : WE} {ρ : DL.Env} {S : Store} {Q : Bool → Store → Prop}  : wTest w ρ S Q = w ρ S (fun d S1 => tB d S1 Q) := (rfl)
theorem y_wBl {w : WE} {k : Bool → WE} {ρ : DL.Env} {S : Store} {Q : D → Store → Prop}  : wBl w k ρ S Q = w ρ S (fun d S1 => tB d S1 (fun b S2 => k b ρ S2 Q)) := (rfl)
def nB (d : D) (S : Store) (Q : D → Store → Prop) : Prop := match d with | .int i => Q (.int (-i)) S | _ => False
theorem y_nB {i : Int} {S : Store} {Q : D → Store → Prop} : nB (.int i) S Q = Q (.int (-i)) S := (rfl)
theorem y_neg {w : WE} {ρ : DL.Env} {S : Store} {Q : D → Store → Prop}  : wNeg w ρ S Q = w ρ S (fun d S1 => nB d S1 Q) := (rfl)
theorem y_isT {w : WE} {T : String} {ρ : DL.Env} {S : Store} {Q : D → Store → Prop}  : wIsT w T ρ S Q = w ρ S (fun d S1 => oM (isT d S1 T) (fun b => Q (.bl b) S1)) := by
  unfold wIsT
  congr 1
  funext d S1
  cases isT d S1 T <;> rfl
theorem y_asgN {w : WE} {i : Nat} {D0 : EndsD} {ρ : DL.Env} {S : Store}  : wAsg w (.name i) D0 ρ S = w ρ S (fun d S1 => D0.nx (ρ.set i (some d)) S1) := by unfold wAsg; simp only [bindT]
def bK (ts : List Tg) (d : D) (ρ : DL.Env) (k : DL.Env → Prop) : Prop := match d with | .tup ds => oM (bindTs ts ds ρ) k | _ => False
theorem y_bK {ts : List Tg} {ds : List D} {ρ : DL.Env} {k : DL.Env → Prop} : bK ts (.tup ds) ρ k = oM (bindTs ts ds ρ) k := (rfl)
theorem bK_eq {ts : List Tg} {d : D} {ρ : DL.Env} {k : DL.Env → Prop} : (match bindT (.tup ts) d ρ with | some ρ' => k ρ' | none => False) = bK ts d ρ k := by
  cases d with
  | tup ds =>
    simp only [bindT, bK]
    cases bindTs ts ds ρ <;> rfl
  | _ => simp only [bindT, bK]
theorem y_asgT {w : WE} {ts : List Tg} {D0 : EndsD} {ρ : DL.Env} {S : Store}  : wAsg w (.tup ts) D0 ρ S = w ρ S (fun d S1 => bK ts d ρ (fun ρ' => D0.nx ρ' S1)) := by
  unfold wAsg
  congr 1
  funext d S1
  exact bK_eq (k := fun ρ' => D0.nx ρ' S1)
theorem y_bindN {i : Nat} {ts : List Tg} {d : D} {ds : List D} {ρ : DL.Env} : bindTs (.name i :: ts) (d :: ds) ρ = bindTs ts ds (ρ.set i (some d)) := by simp only [bindTs, bindT]
theorem y_bind0 {ρ : DL.Env} : bindTs [] [] ρ = some ρ := by simp only [bindTs]
theorem y_for0 {g : Tg} {wb : WS} {G : Store → Prop} {D0 : EndsD} {ρ : DL.Env} {S : Store}  : forR g wb G D0 [] ρ S = (G S ∧ D0.nx ρ S) := (rfl)
theorem y_forN {i : Nat} {wb : WS} {G : Store → Prop} {x : D} {r : List D} {D0 : EndsD} {ρ : DL.Env} {S : Store}  : forR (.name i) wb G D0 (x :: r) ρ S = (G S ∧ wb { D0 with nx := fun ρ S => forR (.name i) wb G D0 r ρ S, ct := fun ρ S => forR (.name i) wb G D0 r ρ S, bk := D0.nx } (ρ.set i (some x)) S) := by rw [forR]; simp only [bindT]
theorem y_forT {ts : List Tg} {wb : WS} {G : Store → Prop} {x : D} {r : List D} {D0 : EndsD} {ρ : DL.Env} {S : Store}  : forR (.tup ts) wb G D0 (x :: r) ρ S = (G S ∧ bK ts x ρ (fun ρ' => wb { D0 with nx := fun ρ S => forR (.tup ts) wb G D0 r ρ S, ct := fun ρ S => forR (.tup ts) wb G D0 r ρ S, bk := D0.nx } ρ' S)) := by
  rw [forR]
  congr 1
  exact bK_eq
def iK (d : D) (S : Store) (Q : List D → (Store → Prop) → Store → Prop) : Prop := match d with | .tup ds => Q ds (fun _ => True) S | .lst ds => Q ds (fun _ => True) S | .ref n => sM S[n]? (fun ds => Q ds (fun S => S[n]? = some (.lst ds)) S) | _ => False
theorem y_seqI {w : WE} {ρ : DL.Env} {S : Store} {Q : List D → (Store → Prop) → Store → Prop}  : wSeqI w ρ S Q = w ρ S (fun d S1 => iK d S1 Q) := by
  unfold wSeqI
  congr 1
theorem y_iK_t {ds : List D} {S : Store} {Q : List D → (Store → Prop) → Store → Prop} : iK (.tup ds) S Q = Q ds (fun _ => True) S := (rfl)
theorem y_iK_l {ds : List D} {S : Store} {Q : List D → (Store → Prop) → Store → Prop} : iK (.lst ds) S Q = Q ds (fun _ => True) S := (rfl)
theorem y_iK_r {n : Nat} {S : Store} {Q : List D → (Store → Prop) → Store → Prop} : iK (.ref n) S Q = sM S[n]? (fun ds => Q ds (fun S => S[n]? = some (.lst ds)) S) := (rfl)
def r1K (ds : List D) (S : Store) (Q : List D → (Store → Prop) → Store → Prop) : Prop := match ds with | [.int n] => (-(2 ^ 62) ≤ n ∧ n < 2 ^ 62) ∧ Q (intsD 0 n.toNat) (fun _ => True) S | _ => False
def r2K (ds : List D) (S : Store) (Q : List D → (Store → Prop) → Store → Prop) : Prop := match ds with | [.int i, .int j] => (-(2 ^ 62) ≤ i ∧ i < 2 ^ 62 ∧ -(2 ^ 62) ≤ j ∧ j < 2 ^ 62) ∧ Q (intsD i (j - i).toNat) (fun _ => True) S | _ => False
theorem y_rg1 {w : WA} {ρ : DL.Env} {S : Store} {Q : List D → (Store → Prop) → Store → Prop}  : wRange1 w ρ S Q = w ρ S (fun ds S1 => r1K ds S1 Q) := (rfl)
theorem y_rg2 {w : WA} {ρ : DL.Env} {S : Store} {Q : List D → (Store → Prop) → Store → Prop}  : wRange2 w ρ S Q = w ρ S (fun ds S1 => r2K ds S1 Q) := (rfl)
theorem y_r1K {n : Int} {S : Store} {Q : List D → (Store → Prop) → Store → Prop} : r1K [.int n] S Q = ((-(2 ^ 62) ≤ n ∧ n < 2 ^ 62) ∧ Q (intsD 0 n.toNat) (fun _ => True) S) := (rfl)
theorem y_r2K {i j : Int} {S : Store} {Q : List D → (Store → Prop) → Store → Prop} : r2K [.int i, .int j] S Q = ((-(2 ^ 62) ≤ i ∧ i < 2 ^ 62 ∧ -(2 ^ 62) ≤ j ∧ j < 2 ^ 62) ∧ Q (intsD i (j - i).toNat) (fun _ => True) S) := (rfl)
def pK (o i d : D) (S : Store) (P : Store → Prop) : Prop := match o, i with | .ref n, .int k => putAt n k d S P | _, _ => False
theorem y_put {we wo wi : WE} {D0 : EndsD} {ρ : DL.Env} {S : Store}  : wPut we wo wi D0 ρ S = we ρ S (fun d S1 => wo ρ S1 (fun o S2 => wi ρ S2 (fun i S3 => pK o i d S3 (D0.nx ρ)))) := (rfl)
theorem y_pK {n : Nat} {k : Int} {d : D} {S : Store} {P : Store → Prop} : pK (.ref n) (.int k) d S P = putAt n k d S P := (rfl)
theorem y_comp {wi : WI} {g : Tg} {wt : WT} {we : WE} {vs : List Nat} {ρ : DL.Env} {S : Store} {Q : D → Store → Prop}  : wComp wi g wt we vs ρ S Q = wi ρ S (fun xs G S1 => compR g wt we G (wipeD ρ vs) Q xs [] S1) := (rfl)
def cN (d : D) (S : Store) (Q : D → Store → Prop) : Prop := match d with | .lst ds => ds.length ≤ sizeLine ∧ Q (.ref S.length) (S ++ [.lst ds]) | _ => False
theorem y_compN {wi : WI} {g : Tg} {wt : WT} {we : WE} {vs : List Nat} {ρ : DL.Env} {S : Store} {Q : D → Store → Prop}  : wCompN wi g wt we vs ρ S Q = wi ρ S (fun xs G S1 => compR g wt we G (wipeD ρ vs) (fun d S2 => cN d S2 Q) xs [] S1) := (rfl)
theorem y_cN {ds : List D} {S : Store} {Q : D → Store → Prop} : cN (.lst ds) S Q = (ds.length ≤ sizeLine ∧ Q (.ref S.length) (S ++ [.lst ds])) := (rfl)
theorem y_wipe0 {ρ : DL.Env} : wipeD ρ [] = ρ := (rfl)
theorem y_wipe1 {v : Nat} {vs : List Nat} {ρ : DL.Env} : wipeD ρ (v :: vs) = (wipeD ρ vs).set v none := (rfl)
theorem z_cast0 : ((0 : Nat) : Int) = 0 := (rfl)
theorem z_pos (n : Nat) : (0 < ((n + 1 : Nat) : Int)) = True := by
  apply eq_true
  omega
theorem MulOk.big {i j : Int} (h1 : i.natAbs < 2 ^ 400) (h2 : j.natAbs < 2 ^ 400) : MulOk i j :=
  .w (wide_mul (a := 400) (b := 400) h1 h2 (by decide) (by decide) (by decide))

theorem y_w_seq {t u : WS} {D0 : EndsD} {ρ : DL.Env} {S : Store} : wSeq t u D0 ρ S = t { D0 with nx := u D0 } ρ S := (rfl)
theorem y_w_ret {w : WE} {D0 : EndsD} {ρ : DL.Env} {S : Store} : wRet w D0 ρ S = w ρ S D0.rt := (rfl)
theorem y_w_retN {D0 : EndsD} {ρ : DL.Env} {S : Store} : wRetN D0 ρ S = D0.rt .non S := (rfl)
theorem y_w_if {c : WT} {t u : WS} {D0 : EndsD} {ρ : DL.Env} {S : Store} : wIf c t u D0 ρ S = c ρ S (fun k S1 => if k = true then t D0 ρ S1 else u D0 ρ S1) := (rfl)
theorem y_w_drop {w : WE} {D0 : EndsD} {ρ : DL.Env} {S : Store} : wDrop w D0 ρ S = w ρ S (fun _ S1 => D0.nx ρ S1) := (rfl)
theorem y_w_next {D0 : EndsD} {ρ : DL.Env} {S : Store} : wNext D0 ρ S = D0.nx ρ S := (rfl)
theorem y_w_brk {D0 : EndsD} {ρ : DL.Env} {S : Store} : wBreak D0 ρ S = D0.bk ρ S := (rfl)
theorem y_w_ct {D0 : EndsD} {ρ : DL.Env} {S : Store} : wCont D0 ρ S = D0.ct ρ S := (rfl)
theorem y_w_c {d : D} {ρ : DL.Env} {S : Store} {Q : D → Store → Prop} : wC d ρ S Q = Q d S := (rfl)
theorem y_w_op {R : RD} {wa wb : WE} {ρ : DL.Env} {S : Store} {Q : D → Store → Prop} : wOp R wa wb ρ S Q = wa ρ S (fun x S1 => wb ρ S1 (fun y S2 => R x y S2 Q)) := (rfl)
theorem y_w_and {t u : WT} {ρ : DL.Env} {S : Store} {Q : Bool → Store → Prop} : wAnd t u ρ S Q = t ρ S (fun k S1 => if k = true then u ρ S1 Q else Q false S1) := (rfl)
theorem y_w_or {t u : WT} {ρ : DL.Env} {S : Store} {Q : Bool → Store → Prop} : wOr t u ρ S Q = t ρ S (fun k S1 => if k = true then Q true S1 else u ρ S1 Q) := (rfl)
theorem y_w_not {t : WT} {ρ : DL.Env} {S : Store} {Q : Bool → Store → Prop} : wNot t ρ S Q = t ρ S (fun k S1 => Q (!k) S1) := (rfl)
theorem y_w_tru {w : WE} {ρ : DL.Env} {S : Store} {Q : Bool → Store → Prop} : wTru w ρ S Q = w ρ S (fun d S1 => rTru d S1 Q) := (rfl)
theorem y_w_ifE {t : WT} {wa wb : WE} {ρ : DL.Env} {S : Store} {Q : D → Store → Prop} : wIfE t wa wb ρ S Q = t ρ S (fun k S1 => if k = true then wa ρ S1 Q else wb ρ S1 Q) := (rfl)
theorem y_w_call {R : RC} {wr : WA} {ρ : DL.Env} {S : Store} {Q : D → Store → Prop} : wCall R wr ρ S Q = wr ρ S (fun ds S1 => R ds S1 Q) := (rfl)
theorem y_w_cons {w : WE} {wr : WA} {ρ : DL.Env} {S : Store} {Q : List D → Store → Prop} : wCons w wr ρ S Q = w ρ S (fun d S1 => wr ρ S1 (fun ds S2 => Q (d :: ds) S2)) := (rfl)
theorem y_w_nil {ρ : DL.Env} {S : Store} {Q : List D → Store → Prop} : wNil ρ S Q = Q [] S := (rfl)
theorem y_w_tup {w : WA} {ρ : DL.Env} {S : Store} {Q : D → Store → Prop} : wTup w ρ S Q = w ρ S (fun ds S1 => ds.length ≤ sizeLine ∧ Q (.tup ds) S1) := (rfl)
theorem y_w_lst {w : WA} {ρ : DL.Env} {S : Store} {Q : D → Store → Prop} : wLst w ρ S Q = w ρ S (fun ds S1 => ds.length ≤ sizeLine ∧ Q (.lst ds) S1) := (rfl)
theorem y_w_new {w : WA} {ρ : DL.Env} {S : Store} {Q : D → Store → Prop} : wNew w ρ S Q = w ρ S (fun ds S1 => ds.length ≤ sizeLine ∧ Q (.ref S1.length) (S1 ++ [.lst ds])) := (rfl)
theorem y_w_fn {Γ : Con} {n : Nat} {wr : WA} {ρ : DL.Env} {S : Store} {Q : D → Store → Prop} : wFn Γ n wr ρ S Q = wr ρ S (fun ds S1 => ds.length = n ∧ Γ ds S1 Q) := (rfl)
theorem y_w_meth {R : RM} {wo : WE} {wr : WA} {ρ : DL.Env} {S : Store} {Q : D → Store → Prop} : wMeth R wo wr ρ S Q = wo ρ S (fun x S1 => isL x S1 ∧ wr ρ S1 (fun ds S2 => R x ds S2 Q)) := (rfl)
theorem y_w_meth0 {R : RM} {wo : WE} {ρ : DL.Env} {S : Store} {Q : D → Store → Prop} : wMeth0 R wo ρ S Q = wo ρ S (fun x S1 => isL x S1 ∧ R x [] S1 Q) := (rfl)
theorem y_w_andV {wa wb : WE} {ρ : DL.Env} {S : Store} {Q : D → Store → Prop} : wAndV wa wb ρ S Q = wBl wa (fun k ρ S Q => if k = true then wb ρ S Q else Q (.bl false) S) ρ S Q := (rfl)
theorem y_w_orV {wa wb : WE} {ρ : DL.Env} {S : Store} {Q : D → Store → Prop} : wOrV wa wb ρ S Q = wBl wa (fun k ρ S Q => if k = true then Q (.bl true) S else wb ρ S Q) ρ S Q := (rfl)
theorem y_w_notV {wa : WE} {ρ : DL.Env} {S : Store} {Q : D → Store → Prop} : wNotV wa ρ S Q = wBl wa (fun k ρ S Q => Q (.bl (!k)) S) ρ S Q := (rfl)
theorem y_w_for {wi : WI} {g : Tg} {wb : WS} {D0 : EndsD} {ρ : DL.Env} {S : Store} : wFor wi g wb D0 ρ S = wi ρ S (fun xs G S1 => forR g wb G D0 xs ρ S1) := (rfl)
theorem y_w_yes {ρ : DL.Env} {S : Store} {Q : Bool → Store → Prop} : wYes ρ S Q = Q true S := (rfl)
end DL

set_option maxHeartbeats 4000000
/-! DLA: order, membership, sorting, slices by content -/
namespace DL
open PySem PySem.Spec PyProof.Rows L2

/-! ### order of data -/
def alikeD (x y : D) : Prop := PySem.W.alike x.py y.py = true
def ltD (x y : D) : Bool := PySem.W.dataLt x.py y.py
def cmpD (f : D → D → Bool) (g : Int → Int → Bool) : RD
  | .int i, .int j, S, Q => Q (.bl (g i j)) S
  | x, y, S, Q => okD x ∧ okD y ∧ alikeD x y ∧ x.py ≠ .none ∧ Q (.bl (f x y)) S
def rLtD : RD := cmpD (fun x y => ltD x y) (fun i j => decide (i < j))
def rLeD : RD := cmpD (fun x y => !ltD y x) (fun i j => decide (i ≤ j))
def rGtD : RD := cmpD (fun x y => ltD y x) (fun i j => decide (j < i))
def rGeD : RD := cmpD (fun x y => !ltD x y) (fun i j => decide (j ≤ i))
def rCmpV (K : PySem.W.Frag) (f : PyData → PyData → Bool) (g : Int → Int → Bool) : R2 := fun x y H Q => rI0 (fun i j => .bl (g i j)) x y H Q ∨
  ∃ d e, Dp K H x d ∧ Dp K H y e ∧ SeqAt.shaped d = true ∧ SeqAt.shaped e = true ∧ PySem.W.alike d e = true ∧ d ≠ .none ∧ Q (.bl (f d e)) H
theorem shaped_room {A : Around} {d e : PyData} (h : SeqAt.shaped d = true) (hu : A.units + 64 < cLine) : A.units + min d.depth e.depth < cLine := by
  have h' : (d.canLay0 && decide (d.depth ≤ 64)) = true := h
  rw [Bool.and_eq_true, decide_eq_true_eq] at h'
  omega
section
variable {X : Cx}
theorem op_cmpV {op : CmpOp} {f : PyData → PyData → Bool} {g : Int → Int → Bool} (hu : X.A.units + 64 < cLine) (h0 : OpR X (compareOp op) (rI0 fun i j => .bl (g i j)))
    (h1 : ∀ {s : Shared} {E : Value → Shared → Prop} {a b : Value} {da db : PyData} {as bs : List Addr} {Q : Value → Shared → Prop}, Reads s.heap a da as → Reads s.heap b db bs → PySem.W.alike da db = true → da ≠ .none → X.A.units + min da.depth db.depth < cLine → Q (.bool (f da db)) s → wpAny (model X.prog X.w) X.A (compareOp op a b) Q E s) :
    OpR X (compareOp op) (rCmpV X.K f g) := by
  intro pins s σ H x y v u Q I rx ry h
  rcases h with h | ⟨d, e, hd, he, sd, se, hal, hn, q⟩
  · exact h0 pins s σ H x y v u Q I rx ry h
  · obtain ⟨as, r1⟩ := Dp.reads I d x v hd rx
    obtain ⟨bs, r2⟩ := Dp.reads I e y u he ry
    exact h1 r1 r2 hal hn (shaped_room sd hu) ⟨.bl _, H, I, rfl, q⟩
theorem opd_cmp {K : PySem.W.Frag} {f : D → D → Bool} {f' : PyData → PyData → Bool} {g : Int → Int → Bool} (hf : ∀ x y, f x y = f' x.py y.py) : OpD K (rCmpV K f' g) (cmpD f g) := by
  intro μ S H x y vx vy Q0 Q m rx ry q p
  unfold cmpD at q
  split at q
  · exact .inl ⟨_, _, rx.int_inv, ry.int_inv, p.now m (.bl _) q⟩
  · obtain ⟨q1, q2, q3, q4, q5⟩ := q
    exact .inr ⟨_, _, rx.dp (shaped_lay q1), ry.dp (shaped_lay q2), q1, q2, q3, q4, p.now m (.bl _) (by rw [← hf]; exact q5)⟩
variable {a b : Expr} {wa wb : WE} {pos : Pos}
theorem op_ltV (hu : X.A.units + 64 < cLine) : OpR X (compareOp .Lt) (rCmpV X.K (fun d e => PySem.W.dataLt d e) fun i j => decide (i < j)) := op_cmpV hu op_lt fun r1 r2 h1 h2 h3 q => PySem.W.lt_data r1 r2 h1 h2 h3 q
theorem op_gtV (hu : X.A.units + 64 < cLine) : OpR X (compareOp .Gt) (rCmpV X.K (fun d e => PySem.W.dataLt e d) fun i j => decide (j < i)) := op_cmpV hu op_gt fun r1 r2 h1 h2 h3 q => PySem.W.gt_data r1 r2 h1 h2 h3 q
theorem op_leV (hu : X.A.units + 64 < cLine) : OpR X (compareOp .LtE) (rCmpV X.K (fun d e => !PySem.W.dataLt e d) fun i j => decide (i ≤ j)) := op_cmpV hu op_le fun r1 r2 h1 h2 h3 q => PySem.W.le_data r1 r2 h1 h2 h3 q
theorem op_geV (hu : X.A.units + 64 < cLine) : OpR X (compareOp .GtE) (rCmpV X.K (fun d e => !PySem.W.dataLt d e) fun i j => decide (j ≤ i)) := op_cmpV hu op_ge fun r1 r2 h1 h2 h3 q => PySem.W.ge_data r1 r2 h1 h2 h3 q
theorem opd_ltD {K : PySem.W.Frag} : OpD K (rCmpV K (fun d e => PySem.W.dataLt d e) fun i j => decide (i < j)) rLtD := opd_cmp fun _ _ => rfl
theorem opd_gtD {K : PySem.W.Frag} : OpD K (rCmpV K (fun d e => PySem.W.dataLt e d) fun i j => decide (j < i)) rGtD := opd_cmp fun _ _ => rfl
theorem opd_leD {K : PySem.W.Frag} : OpD K (rCmpV K (fun d e => !PySem.W.dataLt e d) fun i j => decide (i ≤ j)) rLeD := opd_cmp fun _ _ => rfl
theorem opd_geD {K : PySem.W.Frag} : OpD K (rCmpV K (fun d e => !PySem.W.dataLt d e) fun i j => decide (j ≤ i)) rGeD := opd_cmp fun _ _ => rfl
theorem se_ltD (hu : X.A.units + 64 < cLine) (ha : SE X a wa) (hb : SE X b wb) : SE X (.Compare a [.Lt] [b] pos) (wOp rLtD wa wb) := se_cmpR opd_ltD (op_ltV hu) ha hb (nomark _)
theorem se_leD (hu : X.A.units + 64 < cLine) (ha : SE X a wa) (hb : SE X b wb) : SE X (.Compare a [.LtE] [b] pos) (wOp rLeD wa wb) := se_cmpR opd_leD (op_leV hu) ha hb (nomark _)
theorem se_gtD (hu : X.A.units + 64 < cLine) (ha : SE X a wa) (hb : SE X b wb) : SE X (.Compare a [.Gt] [b] pos) (wOp rGtD wa wb) := se_cmpR opd_gtD (op_gtV hu) ha hb (nomark _)
theorem se_geD (hu : X.A.units + 64 < cLine) (ha : SE X a wa) (hb : SE X b wb) : SE X (.Compare a [.GtE] [b] pos) (wOp rGeD wa wb) := se_cmpR opd_geD (op_geV hu) ha hb (nomark _)
theorem st_ltD (hu : X.A.units + 64 < cLine) (ha : SE X a wa) (hb : SE X b wb) : ST X (.Compare a [.Lt] [b] pos) (wTest (wOp rLtD wa wb)) := st_cmpR opd_ltD (op_ltV hu) ha hb (nomark _)
theorem st_leD (hu : X.A.units + 64 < cLine) (ha : SE X a wa) (hb : SE X b wb) : ST X (.Compare a [.LtE] [b] pos) (wTest (wOp rLeD wa wb)) := st_cmpR opd_leD (op_leV hu) ha hb (nomark _)
theorem st_gtD (hu : X.A.units + 64 < cLine) (ha : SE X a wa) (hb : SE X b wb) : ST X (.Compare a [.Gt] [b] pos) (wTest (wOp rGtD wa wb)) := st_cmpR opd_gtD (op_gtV hu) ha hb (nomark _)
theorem st_geD (hu : X.A.units + 64 < cLine) (ha : SE X a wa) (hb : SE X b wb) : ST X (.Compare a [.GtE] [b] pos) (wTest (wOp rGeD wa wb)) := st_cmpR opd_geD (op_geV hu) ha hb (nomark _)
end

/-! ### a < b < c, by the same rules -/
def wChain (R R' : RD) (wa wb wc : WE) : WE := fun ρ S Q => wa ρ S fun x S1 => wb ρ S1 fun y S2 => R x y S2 fun z S3 => match z with | .bl k => if k = true then wc ρ S3 fun w S4 => R' y w S4 Q else Q (.bl false) S3 | _ => False
section
variable {X : Cx} {a b c : Expr} {wa wb wc : WE} {pos : Pos} {op op' : CmpOp} {r r' : R2} {R R' : RD}
theorem chain_ok {σ : L2.St} {H : Hp} {Q : VK} (hc : OpD X.K r R) (hc' : OpD X.K r' R') (h : LE X.K (wChain R R' wa wb wc) σ H Q) : tChain r r' (LE X.K wa) (LE X.K wb) (LE X.K wc) σ H Q := by
  obtain ⟨μ, S, ρ, Q0, m, en, q, p⟩ := h
  refine LE.run m en q fun x S1 μ1 vx H1 q1 g1 m1 e1 r1 => ?_
  refine LE.run m1 e1 q1 fun y S2 μ2 vy H2 q2 g2 m2 e2 r2 => ?_
  refine hc μ2 S2 H2 x y vx vy _ _ m2 (r1.grow g2) r2 q2 fun z S3 q3 μ3 vz H3 g3 m3 r3 => ?_
  cases r3 with
  | bl k =>
    refine ⟨k, rfl, ?_⟩
    cases k with
    | false => exact p _ S3 q3 μ3 _ H3 ((g1.trans g2).trans g3) m3 (.bl false)
    | true =>
      refine LE.run m3 (e2.grow g3) q3 fun w S4 μ4 vw H4 q4 g4 m4 e4 r4 => ?_
      exact hc' μ4 S4 H4 y w vy vw _ _ m4 (r2.grow (g3.trans g4)) r4 q4 (p.go ((g1.trans g2).trans (g3.trans g4)))
  | _ => exact q3.elim
theorem se_chain (hc : OpD X.K r R) (ho : OpR X (compareOp op) r) (hc' : OpD X.K r' R') (ho' : OpR X (compareOp op') r') (ha : SE X a wa) (hb : SE X b wb) (hcc : SE X c wc) (hm : lastMarks [op, op'] [b, c] = false := by with_unfolding_all rfl) :
    SE X (.Compare a [op, op'] [b, c] pos) (wChain R R' wa wb wc) := pe_weak (pe_chain ho ho' ha hb hcc hm) fun σ H Q h => chain_ok hc hc' h
theorem st_chain (hc : OpD X.K r R) (ho : OpR X (compareOp op) r) (hc' : OpD X.K r' R') (ho' : OpR X (compareOp op') r') (ha : SE X a wa) (hb : SE X b wb) (hcc : SE X c wc) (hm : lastMarks [op, op'] [b, c] = false := by with_unfolding_all rfl) :
    ST X (.Compare a [op, op'] [b, c] pos) (wTest (wChain R R' wa wb wc)) := pt_weak (pt_chain ho ho' ha hb hcc hm) fun σ H Q ⟨μ, S, ρ, Q0, m, en, q, p⟩ => by
  refine chain_ok hc hc' ⟨μ, S, ρ, _, m, en, q, fun d S' q' μ' v H' g m' r => ?_⟩
  cases r with
  | bl k => exact ⟨k, rfl, p k S' q' μ' H' g m'⟩
  | _ => exact q'.elim
end

/-! ### in, not in -/
/-- the items of what stands there -/
def itemsD (S : Store) : D → Option (List D)
  | .tup ds => some ds
  | .lst ds => some ds
  | .ref n => match S[n]? with | some (.lst ds) => some ds | _ => none
  | _ => none
def inD (x : D) (ds : List D) : Bool := ds.any fun z => eqv z x
def rInN (neg : Bool) : RD := fun x y S Q => match itemsD S y with
  | some ds => okD x ∧ okD (.lst ds) ∧ Q (.bl (if neg = true then !inD x ds else inD x ds)) S
  | none => False
def rInV (K : PySem.W.Frag) (neg : Bool) : R2 := fun x y H Q => ∃ p xs d ds, Dp K H x d ∧ y = .ref p ∧ (SqL K H p xs ∨ SqT K H p xs) ∧ DpAll K H xs ds ∧ SeqAt.shaped d = true ∧ SeqAt.shaped (.list ds) = true ∧ Q (.bl (if neg = true then !ds.any fun z => PyData.eqv z d else ds.any fun z => PyData.eqv z d)) H
theorem pyAll_any (f : PyData → Bool) : ∀ ds : List D, (pyAll ds).any f = ds.any fun z => f z.py
  | [] => rfl
  | d :: ds => by rw [pyAll, List.any_cons, List.any_cons, pyAll_any f ds]
theorem pyAll_map : ∀ ds : List D, pyAll ds = ds.map D.py
  | [] => rfl
  | d :: ds => by rw [pyAll, List.map_cons, pyAll_map ds]
theorem items_rep {K : PySem.W.Frag} {μ : Mu} {S : Store} {H : Hp} {ds : List D} {v : V} {d : D} (m : Sim K μ S H) (r : Rep K μ H d v) (h : itemsD S d = some ds) : ∃ a xs, v = .ref a ∧ (SqL K H a xs ∨ SqT K H a xs) ∧ RepAll K μ H ds xs := by
  refine seq_rep m r ?_
  cases d with
  | tup es => exact .inl (by rw [Option.some.inj h])
  | lst es => exact .inr (.inl (by rw [Option.some.inj h]))
  | ref n =>
    refine .inr (.inr ⟨n, rfl, ?_⟩)
    have h' : (match S[n]? with | some (.lst ds) => some ds | _ => none) = some ds := h
    split at h'
    · rename_i es he
      rw [he, Option.some.inj h']
    · cases h'
  | _ => cases h
section
variable {X : Cx}
theorem op_inV (neg : Bool) (hu : X.A.units + 65 < cLine) : OpR X (compareOp (if neg = true then .NotIn else .In)) (rInV X.K neg) := by
  intro pins s σ H x y v u Q I rx ry h
  obtain ⟨p, xs, d, ds, hd, rfl, hq, hds, sd, sl, q⟩ := h
  obtain ⟨as, r1⟩ := Dp.reads I d x v hd rx
  rcases hq with hq | hq
  · obtain ⟨bs, r2⟩ := Dp.reads I (.list ds) _ u (.lst hq hds) ry
    cases neg with
    | false => exact SeqAt.in_list_reads r2 r1 (SeqAt.canLay_of_shaped sl) (SeqAt.canLay_of_shaped sd) (room_in_shaped sd hu) ⟨.bl _, H, I, rfl, q⟩
    | true => exact SeqAt.notIn_list_reads r2 r1 (SeqAt.canLay_of_shaped sl) (SeqAt.canLay_of_shaped sd) (room_in_shaped sd hu) ⟨.bl _, H, I, rfl, q⟩
  · obtain ⟨bs, r2⟩ := Dp.reads I (.tuple ds) _ u (.tup hq hds) ry
    cases neg with
    | false => exact SeqAt.in_tuple_reads r2 r1 (SeqAt.canLay_of_shaped sl) (SeqAt.canLay_of_shaped sd) (room_in_shaped sd hu) ⟨.bl _, H, I, rfl, q⟩
    | true => exact SeqAt.notIn_tuple_reads r2 r1 (SeqAt.canLay_of_shaped sl) (SeqAt.canLay_of_shaped sd) (room_in_shaped sd hu) ⟨.bl _, H, I, rfl, q⟩
theorem opd_in {K : PySem.W.Frag} (neg : Bool) : OpD K (rInV K neg) (rInN neg) := by
  intro μ S H x y vx vy Q0 Q m rx ry q p
  unfold rInN at q
  split at q
  · rename_i ds hds
    obtain ⟨q1, q2, q3⟩ := q
    obtain ⟨a, xs, rfl, h1, r1⟩ := items_rep m ry hds
    refine ⟨a, xs, _, pyAll ds, rx.dp (shaped_lay q1), rfl, h1, r1.dp ?_, q1, q2, ?_⟩
    · have := shaped_lay q2
      simpa [D.py, PyData.canLay0] using this
    · have e : ((pyAll ds).any fun z => PyData.eqv z x.py) = inD x ds := pyAll_any _ ds
      rw [e]
      exact p.now m (.bl _) q3
  · exact q.elim
variable {a b : Expr} {wa wb : WE} {pos : Pos}
theorem se_in (hu : X.A.units + 65 < cLine) (ha : SE X a wa) (hb : SE X b wb) (hm : behindInMarks .In b = false := by first | exact nomark _ | with_unfolding_all rfl) : SE X (.Compare a [.In] [b] pos) (wOp (rInN false) wa wb) := se_cmpR (opd_in false) (op_inV false hu) ha hb hm
theorem st_in (hu : X.A.units + 65 < cLine) (ha : SE X a wa) (hb : SE X b wb) (hm : behindInMarks .In b = false := by first | exact nomark _ | with_unfolding_all rfl) : ST X (.Compare a [.In] [b] pos) (wTest (wOp (rInN false) wa wb)) := st_cmpR (opd_in false) (op_inV false hu) ha hb hm
theorem se_notIn (hu : X.A.units + 65 < cLine) (ha : SE X a wa) (hb : SE X b wb) (hm : behindInMarks .NotIn b = false := by first | exact nomark _ | with_unfolding_all rfl) : SE X (.Compare a [.NotIn] [b] pos) (wOp (rInN true) wa wb) := se_cmpR (opd_in true) (op_inV true hu) ha hb hm
theorem st_notIn (hu : X.A.units + 65 < cLine) (ha : SE X a wa) (hb : SE X b wb) (hm : behindInMarks .NotIn b = false := by first | exact nomark _ | with_unfolding_all rfl) : ST X (.Compare a [.NotIn] [b] pos) (wTest (wOp (rInN true) wa wb)) := st_cmpR (opd_in true) (op_inV true hu) ha hb hm
end
end DL

set_option maxHeartbeats 4000000
/-! DLB: sorted, slices, op=, a, b = x, y, ranges with a step, enumerate, zip by content -/
namespace DL
open PySem PySem.Spec PyProof.Rows L2

/-! ### sorted -/
def sortD (ds : List D) : List D := ds.mergeSort (PySem.W.dataLe false D.py)
def SortOkD (ds : List D) : Prop := PySem.W.AllAlike (pyAll ds) ∧ PySem.W.Sortable (pyAll ds) ∧ okD (.lst ds)
def rSorted : RC
  | [x], S, Q => match itemsD S x with
    | some ds => SortOkD ds ∧ Q (.lst (sortD ds)) S
    | none => False
  | _, _, _ => False
def rSortedN : RC
  | [x], S, Q => match itemsD S x with
    | some ds => SortOkD ds ∧ Q (.ref S.length) (S ++ [.lst (sortD ds)])
    | none => False
  | _, _, _ => False
def rSortedV (K : PySem.W.Frag) : List V → Hp → VK → Prop := fun vs H Q => ∃ (a : Addr) (xs : List V) (es : List D) (μ : Mu), vs = [.ref a] ∧ (SqL K H a xs ∨ SqT K H a xs) ∧ RepAll K μ H es xs ∧ SortOkD es ∧
  ∀ ys p, RepAll K μ H (sortD es) ys → H p = none → Q (.ref p) (upd H p (.lst ys))
theorem rep_back {K : PySem.W.Frag} {μ : Mu} {H : Hp} : ∀ {out : List Value} {bs : List D}, PySem.W.EachIs (fun u b => ∃ x, RelV x u ∧ Rep K μ H b x) out bs → ∃ ys, Vals ys out ∧ RepAll K μ H bs ys
  | _, _, .nil => ⟨[], .nil, .nil⟩
  | _, _, .cons ⟨x, h1, h2⟩ t => by
    obtain ⟨ys, h3, h4⟩ := rep_back t
    exact ⟨x :: ys, .cons h1 h3, .cons h2 h4⟩
theorem each_rep {K : PySem.W.Frag} {μ : Mu} {H : Hp} : ∀ {es : List D} {xs : List V} {us : List Value}, RepAll K μ H es xs → Vals xs us → PySem.W.EachIs (fun u b => ∃ x, RelV x u ∧ Rep K μ H b x) us es
  | _, _, _, .nil, r => by cases r; exact .nil
  | _, _, _, .cons r t, v => by
    cases v with
    | cons a b => exact .cons ⟨_, a, r⟩ (each_rep t b)
theorem each_reads {X : Cx} {pins : List (Addr × Obj)} {σ : L2.St} {H : Hp} {s : Shared} {μ : Mu} (I : Inv X pins σ H s) : ∀ {es : List D} {xs : List V} {us : List Value}, RepAll X.K μ H es xs → Vals xs us → PyData.canLayAll0 (pyAll es) = true → PySem.W.EachIs (fun v d => ∃ as, Reads s.heap v d as) us (pyAll es)
  | _, _, _, .nil, r, _ => by cases r; exact .nil
  | d :: es, _, _, .cons r t, v, c => by
    have c' : d.py.canLay0 = true ∧ PyData.canLayAll0 (pyAll es) = true := by simpa [pyAll, PyData.canLayAll0] using c
    cases v with
    | cons a b => exact .cons (Dp.reads I _ _ _ (r.dp c'.1) a) (each_reads I t b c'.2)
theorem depthAll_mem : ∀ {ds : List PyData} {d : PyData}, d ∈ ds → d.depth ≤ PyData.depthAll ds
  | e :: ds, d, h => by
    rw [PyData.depthAll]
    rcases List.mem_cons.mp h with rfl | h
    · exact Nat.le_max_left _ _
    · exact Nat.le_trans (depthAll_mem h) (Nat.le_max_right _ _)
section
variable {X : Cx}
/-- sorted(x) of a list or a tuple of alike data -/
theorem sorted_seqV {prog : Program} {w : World} {A : Around} {E : Value → Shared → Prop} {s : Shared} {l : Addr} {T : String} {o : Obj} {vs : List Value} {ds : List PyData} {n : Nat} {Q : Value → Shared → Prop} (hT : T = "list" ∨ T = "tuple") (ho : s.heap.get? l = some o) (hc : o.cls = .type T) (hd : o.data = .seq vs.toArray n) (hL : vs.length ≤ sizeLine)
    (e : PySem.W.EachIs (fun v d => ∃ as, Reads s.heap v d as) vs ds) (hal : PySem.W.AllAlike ds) (hk : PySem.W.Sortable ds) (hu : ∀ d, d ∈ ds → A.in1.in1.units + d.depth < cLine)
    (h : ∀ (h1 h' : Heap) (c : Nat) (out : List Value), PySem.W.KeyedOut false ds vs out → (∀ b o, s.heap.get? b = some o → h1.get? b = some o) → (∀ b o, h1.get? b = some o → h'.get? b = some o) → h'.get? h1.objs.size = some (seqObj "list" out.toArray c) → Q (.ref h1.objs.size) { s with heap := h' }) :
    wpAny (model prog w) A (call (.builtin "sorted") [.ref l]) Q E s := by
  refine PyProof.Rows.call_function_entry_kw kind_sorted plain_sorted entry_sorted (args_sorted1 _) ?_
  unfold Builtin.«sorted»
  refine wpAny_bind (m := checkCount "sorted" 1 1 _) (wpAny_pure ?_)
  refine wpAny_bind (wpAny_collect_seq l hT ho hc hd (fun h1 k1 => ?_) (by simpa using hL))
  refine wpAny_bind (wpAny_newList ?_ (by simpa using hL))
  have ha : (h1.push (seqObj "list" vs.toArray 0)).get? h1.objs.size = some (seqObj "list" vs.toArray 0) := Heap.get?_push_size _ rfl
  have k2 : ∀ b o, s.heap.get? b = some o → (h1.push (seqObj "list" vs.toArray 0)).get? b = some o := fun b o q => Heap.get?_push_of_some _ (k1 b o q)
  have k3 : ∀ b o, s.heap.get? b = some o → (PySem.W.sortingHeap (h1.push (seqObj "list" vs.toArray 0)) h1.objs.size vs).get? b = some o := fun b o q => PySem.W.sortingHeap_old (Nat.ne_of_lt (Heap.lt_size (k1 b o q))) (k2 b o q)
  have eh : PySem.W.EachIs (fun v d => ∃ as, Reads (PySem.W.sortingHeap (h1.push (seqObj "list" vs.toArray 0)) h1.objs.size vs) v d as) vs ds := e.mono fun _ _ ⟨as, r⟩ => ⟨as, Reads.keeps k3 r⟩
  show wpAny _ _ _ _ _ { s with heap := h1.push (seqObj "list" vs.toArray 0) }
  obtain ⟨c, hat⟩ := sortedHeap_at (out := (PySem.W.sortVals (PySem.W.dataKind (PySem.W.sortingHeap (h1.push (seqObj "list" vs.toArray 0)) h1.objs.size vs) ds) false vs vs).toArray) ha
  refine wpAny_bind (wpAny_holding (PyProof.Rows.wpAny_call_entry_kw slot_list_sort ⟨_, ha, rfl⟩ entry_list_sort (PySem.W.list_sort_vals (s := { s with heap := h1.push (seqObj "list" vs.toArray 0) }) ha (PySem.W.SortsAt.data (s := { s with heap := PySem.W.sortingHeap (h1.push (seqObj "list" vs.toArray 0)) h1.objs.size vs }) eh hal hk hu) hL ⟨_, rfl, ?_⟩) (args_list_sort _)))
  refine wpAny_pure ⟨_, rfl, h h1 _ c _ ⟨_, vs, hal, rfl, eh⟩ k1 (fun b o q => ?_) hat⟩
  have hlt : b < h1.objs.size := Heap.lt_size q
  have hlt2 : b < (h1.push (seqObj "list" vs.toArray 0)).objs.size := by rw [size_push']; exact Nat.lt_succ_of_lt hlt
  rw [sortedHeap_old (Nat.ne_of_lt hlt) hlt2]
  exact Heap.get?_push_of_some _ q
theorem shapedL_depth {ds : List PyData} (h : SeqAt.shaped (.list ds) = true) : ∀ d, d ∈ ds → d.depth < 64 := fun d hd => by
  have h' : ((PyData.list ds).canLay0 && decide ((PyData.list ds).depth ≤ 64)) = true := h
  rw [Bool.and_eq_true, decide_eq_true_eq] at h'
  have h2 := h'.2
  rw [PyData.depth] at h2
  have := depthAll_mem hd
  omega
theorem cr_sortedV (hu : X.A.units + 66 < cLine) : CallR X (.builtin "sorted") (rSortedV X.K) := by
  intro pins s σ H vs us Q I r h
  obtain ⟨a, xs, es, μ, rfl, hq, re, ⟨o1, o2, o3⟩, q⟩ := h
  rw [Vals.ref1 r]
  have hlay : PyData.canLayAll0 (pyAll es) = true := by
    have := shaped_lay o3
    simpa [D.py, PyData.canLay0] using this
  have fin : ∀ (T : String) (o : Obj) (its : List Value) (n : Nat), (T = "list" ∨ T = "tuple") → s.heap.get? a = some o → o.cls = .type T → o.data = .seq its.toArray n → Vals xs its → xs.length ≤ sizeLine → wpAny (model X.prog X.w) X.A (call (.builtin "sorted") [.ref a]) (EP X pins σ Q) X.xe s := fun T o its n hT ho hc hd rv hz => by
    refine sorted_seqV hT ho hc hd (by rw [← rv.length]; exact hz) (each_reads I re rv hlay) o1 o2 (fun d hd => ?_) fun h1 h' c out ko k1 k2 hat => ?_
    · have := shapedL_depth (ds := pyAll es) o3 d hd
      show X.A.units + 1 + 1 + d.depth < cLine
      omega
    · have I1 : Inv X pins σ H { s with heap := h1 } := I.kept (t' := s.toks) k1
      have ke : PySem.W.EachIs (fun u b => ∃ x, RelV x u ∧ Rep X.K μ H b x) out (sortD es) := PySem.W.keyedOut_each (bs := es) D.py (by rw [← pyAll_map]; exact ko) (each_rep re rv)
      obtain ⟨ys, hv, hr⟩ := rep_back ke
      have hl : ys.length ≤ sizeLine := by
        rw [← hr.length]
        have : (sortD es).length = es.length := List.length_mergeSort _
        rw [this, re.length]
        exact hz
      exact ⟨.ref h1.objs.size, _, I1.laid (t' := s.toks) k2 (Nat.le_refl _) (show ObjOk X.prog X.w _ h' _ (.lst ys) from ⟨hl, out, c, hv, hat⟩), rfl, q ys _ hr (I1.hok.fresh (Nat.le_refl _))⟩
  rcases hq with hq | hq
  · obtain ⟨its, rv, pl, hz⟩ := I.list hq
    obtain ⟨o, ho, hc, n, hd⟩ := pl.isList
    exact fin "list" o its n (.inl rfl) ho hc hd rv hz
  · obtain ⟨its, rv, pl, hz⟩ := I.tuple hq
    obtain ⟨o, ho, hc, n, hd⟩ := pl
    exact fin "tuple" o its n (.inr rfl) ho hc hd rv hz
theorem cd_sorted {K : PySem.W.Frag} : CallD K (rSortedV K) rSorted := by
  intro μ S H ds vs Q0 Q m r q p
  unfold rSorted at q
  split at q
  · rename_i x
    obtain ⟨v, e1, r'⟩ := r.one_inv
    subst e1
    split at q
    · rename_i ds hds
      obtain ⟨a, xs, rfl, h1, r1⟩ := items_rep m r' hds
      exact ⟨a, xs, ds, μ, rfl, h1, r1, q.1, fun ys l hy hl => p _ _ q.2 _ _ _ (.new hl) (m.new hl) (Sim.newL m hl hy)⟩
    · exact q.elim
  · exact q.elim
theorem cd_sortedN {K : PySem.W.Frag} : CallD K (rSortedV K) rSortedN := by
  intro μ S H ds vs Q0 Q m r q p
  unfold rSortedN at q
  split at q
  · rename_i x
    obtain ⟨v, e1, r'⟩ := r.one_inv
    subst e1
    split at q
    · rename_i ds hds
      obtain ⟨a, xs, rfl, h1, r1⟩ := items_rep m r' hds
      exact ⟨a, xs, ds, μ, rfl, h1, r1, q.1, fun ys l hy hl => p _ _ q.2 _ _ _ (.alloc hl) (m.alloc hl hy) m.newR.refH⟩
    · exact q.elim
  · exact q.elim
variable {a : Expr} {es : List Expr} {wr : WA} {pos p : Pos}
theorem se_sorted (hu : X.A.units + 66 < cLine) (hg : Gl X "sorted") (hm : X.mg "sorted" = none) (ha : SA X (a :: es) wr) (he : starEach (a :: es) X.env = (false, eval a X.env) :: starEach es X.env := by rfl) (hpl : (backTo pos (starEach es X.env)).any (·.1) = false := by rfl) : SE X (.Call (.Name "sorted" p) (a :: es) [] pos) (wCall rSorted wr) := se_callB cd_sorted (cr_sortedV hu) hg hm (by decide +kernel) ha (by decide) (by decide) he hpl
theorem se_sortedN (hu : X.A.units + 66 < cLine) (hg : Gl X "sorted") (hm : X.mg "sorted" = none) (ha : SA X (a :: es) wr) (he : starEach (a :: es) X.env = (false, eval a X.env) :: starEach es X.env := by rfl) (hpl : (backTo pos (starEach es X.env)).any (·.1) = false := by rfl) : SE X (.Call (.Name "sorted" p) (a :: es) [] pos) (wCall rSortedN wr) := se_callB cd_sortedN (cr_sortedV hu) hg hm (by decide +kernel) ha (by decide) (by decide) he hpl
end
end DL

set_option maxHeartbeats 4000000
/-! DLC: slices, op=, a, b = x, y, ranges with a step, enumerate, zip by content -/
namespace DL
open PySem PySem.Spec PyProof.Rows L2

/-! ### slices -/
abbrev WO := Env → Store → (Option Int → Store → Prop) → Prop
def LO (K : PySem.W.Frag) (w : WO) : TO := fun σ H Q => ∃ μ S ρ Q0, Sim K μ S H ∧ EnvR K μ H ρ σ ∧ w ρ S Q0 ∧ ∀ o S', Q0 o S' → ∀ μ' H', Grow μ H μ' H' → Sim K μ' S' H' → Q o H'
abbrev SO (X : Cx) (e : Option Expr) (w : WO) : Prop := PO X e (LO X.K w)
def wNoPart : WO := fun _ S Q => Q none S
def wPart (w : WE) : WO := fun ρ S Q => w ρ S fun d S1 => match d with | .int i => Q (some i) S1 | _ => False
theorem po_weak {X : Cx} {e : Option Expr} {t t' : TO} (h : PO X e t) (hw : ∀ σ H Q, t' σ H Q → t σ H Q) : PO X e t' := ⟨fun pins s σ H Q I q => h.run pins s σ H Q I (hw _ _ _ q)⟩
section
variable {X : Cx} {e a b c l : Expr} {lo hi : Option Expr} {wa wb wc : WE} {wl wh : WO} {pos p p2 : Pos} {wr : WA} {es : List Expr}
theorem so_none : SO X none wNoPart := po_weak po_none fun σ H Q ⟨μ, S, ρ, Q0, m, en, q, p⟩ => p none S q μ H .refl m
theorem so_some (ha : SE X a wa) : SO X (some a) (wPart wa) := po_weak (po_some ha) fun σ H Q ⟨μ, S, ρ, Q0, m, en, q, p⟩ => by
  refine LE.run m en q fun d S1 μ1 v H1 q1 g1 m1 e1 r1 => ?_
  split at q1
  · exact ⟨_, r1.int_inv, p _ S1 q1 μ1 H1 g1 m1⟩
  · exact q1.elim
def cutD {α : Type} (xs : List α) (lo hi : Option Int) : List α := (xs.drop (HT.sIx xs.length 0 lo)).take (HT.sIx xs.length xs.length hi - HT.sIx xs.length 0 lo)
theorem RepAll.cut2 {K : PySem.W.Frag} {μ : Mu} {H : Hp} {ds : List D} {vs : List V} (r : RepAll K μ H ds vs) (lo hi : Option Int) : RepAll K μ H (cutD ds lo hi) (cutV vs lo hi) := by
  unfold cutD cutV
  rw [r.length]
  exact (r.drop _).take _
theorem cutD_all {α : Type} {xs : List α} {lo hi : Option Int} (h : HT.sIx xs.length 0 lo = 0 ∧ HT.sIx xs.length xs.length hi = xs.length) : cutD xs lo hi = xs := by
  unfold cutD
  rw [h.1, h.2, List.drop_zero, Nat.sub_zero, List.take_length]
theorem cutD_hi {α : Type} {xs : List α} {k : Nat} : cutD xs none (some (k : Int)) = xs.take k := by
  unfold cutD
  rw [HT.sIx_none, HT.sIx_nat, List.drop_zero, Nat.sub_zero]
  by_cases h : k ≤ xs.length
  · rw [Nat.min_eq_left h]
  · rw [Nat.min_eq_right (by omega), List.take_length, List.take_of_length_le (by omega)]
theorem cutD_lo {α : Type} {xs : List α} {k : Nat} : cutD xs (some (k : Int)) none = xs.drop k := by
  unfold cutD
  rw [HT.sIx_none, HT.sIx_nat]
  by_cases h : k ≤ xs.length
  · rw [Nat.min_eq_left h, List.take_of_length_le (by rw [List.length_drop]; omega)]
  · rw [Nat.min_eq_right (by omega), List.drop_of_length_le (Nat.le_refl _), List.drop_of_length_le (by omega), List.take_nil]
def rSl : D → Option Int → Option Int → Store → (D → Store → Prop) → Prop := fun x lo hi S Q => match x with
  | .str z => z.length ≤ sizeLine ∧ Q (.str (cutS z lo hi)) S
  | .tup ds => Q (.tup (cutD ds lo hi)) S
  | .lst ds => Q (.lst (cutD ds lo hi)) S
  | .ref n => match S[n]? with | some (.lst ds) => Q (.lst (cutD ds lo hi)) S | _ => False
  | _ => False
def rSlN : D → Option Int → Option Int → Store → (D → Store → Prop) → Prop := fun x lo hi S Q => match x with
  | .lst ds => Q (.ref S.length) (S ++ [.lst (cutD ds lo hi)])
  | .ref n => match S[n]? with | some (.lst ds) => Q (.ref S.length) (S ++ [.lst (cutD ds lo hi)]) | _ => False
  | _ => False
def wSl (R : D → Option Int → Option Int → Store → (D → Store → Prop) → Prop) (w : WE) (wl wh : WO) : WE := fun ρ S Q => w ρ S fun x S1 => wl ρ S1 fun lo S2 => wh ρ S2 fun hi S3 => R x lo hi S3 Q
def rSlV (K : PySem.W.Frag) : V → Option Int → Option Int → Hp → VK → Prop := fun x lo hi H Q => rSlL K x lo hi H Q ∨ (rSlA K x lo hi H Q ∨ rSlS x lo hi H Q)
theorem sl_V : SlR X (rSlV X.K) := sl_list.or (sl_tupA.or sl_str)
theorem LO.run {K : PySem.W.Frag} {w : WO} {μ : Mu} {S : Store} {ρ : Env} {σ : L2.St} {H : Hp} {Q0 : Option Int → Store → Prop} {Q : Option Int → Hp → Prop} (m : Sim K μ S H) (en : EnvR K μ H ρ σ) (h : w ρ S Q0)
    (k : ∀ o S' μ' H', Q0 o S' → Grow μ H μ' H' → Sim K μ' S' H' → EnvR K μ' H' ρ σ → Q o H') : LO K w σ H Q := ⟨μ, S, ρ, Q0, m, en, h, fun o S' q μ' H' g m' => k o S' μ' H' q g m' (en.grow g)⟩
theorem sl_run {R : D → Option Int → Option Int → Store → (D → Store → Prop) → Prop}
    (hR : ∀ (μ : Mu) (S : Store) (H : Hp) (x : D) (v : V) (lo hi : Option Int) (Q0 : D → Store → Prop) (Q : VK), Sim X.K μ S H → Rep X.K μ H x v → R x lo hi S Q0 → Post X.K μ H Q0 Q → rSlV X.K v lo hi H Q)
    (ha : SE X e wa) (hl : SO X lo wl) (hh : SO X hi wh) : SE X (.Subscript e (.Slice lo hi none p2) pos) (wSl R wa wl wh) := pe_weak (pe_slice sl_V ha hl hh) fun σ H Q ⟨μ, S, ρ, Q0, m, en, q, p⟩ => by
  refine LE.run m en q fun x S1 μ1 v H1 q1 g1 m1 e1 r1 => ?_
  refine LO.run m1 e1 q1 fun l S2 μ2 H2 q2 g2 m2 e2 => ?_
  refine LO.run m2 e2 q2 fun h S3 μ3 H3 q3 g3 m3 e3 => ?_
  exact hR μ3 S3 H3 x v l h Q0 Q m3 (r1.grow (g2.trans g3)) q3 (p.go (g1.trans (g2.trans g3)))
theorem se_slice (ha : SE X e wa) (hl : SO X lo wl) (hh : SO X hi wh) : SE X (.Subscript e (.Slice lo hi none p2) pos) (wSl rSl wa wl wh) := sl_run (fun μ S H x v lo hi Q0 Q m r q p => by
  unfold rSl at q
  split at q
  · exact .inr (.inr ⟨_, r.str_inv, q.1, p.now m (.str _) q.2⟩)
  · rename_i ds
    obtain ⟨a, xs, rfl, h1, r1⟩ := r.tupS
    refine .inr (.inl ⟨a, xs, rfl, h1, fun hw => ?_, fun _ l hl => p _ _ q _ _ _ (.new hl) (m.new hl) (Sim.newT (S := S) hl (r1.cut2 _ _))⟩)
    rw [cutD_all (by rw [r1.length]; exact hw)] at q
    exact p.now m r q
  · obtain ⟨a, xs, rfl, h1, r1⟩ := r.lstS
    exact .inl ⟨a, xs, rfl, h1, fun l hl => p _ _ q _ _ _ (.new hl) (m.new hl) (Sim.newL m hl (r1.cut2 _ _))⟩
  · split at q
    · rename_i ds hn
      obtain ⟨a, xs, rfl, hm, h1, r1⟩ := m.at hn r
      exact .inl ⟨a, xs, rfl, SqL.of h1, fun l hl => p _ _ q _ _ _ (.new hl) (m.new hl) (Sim.newL m hl (r1.cut2 _ _))⟩
    · exact q.elim
  · exact q.elim) ha hl hh
theorem se_sliceN (ha : SE X e wa) (hl : SO X lo wl) (hh : SO X hi wh) : SE X (.Subscript e (.Slice lo hi none p2) pos) (wSl rSlN wa wl wh) := sl_run (fun μ S H x v lo hi Q0 Q m r q p => by
  unfold rSlN at q
  split at q
  · obtain ⟨a, xs, rfl, h1, r1⟩ := r.lstS
    exact .inl ⟨a, xs, rfl, h1, fun l hl => p _ _ q _ _ _ (.alloc hl) (m.alloc hl (r1.cut2 _ _)) m.newR.refH⟩
  · split at q
    · rename_i ds hn
      obtain ⟨a, xs, rfl, hm, h1, r1⟩ := m.at hn r
      exact .inl ⟨a, xs, rfl, SqL.of h1, fun l hl => p _ _ q _ _ _ (.alloc hl) (m.alloc hl (r1.cut2 _ _)) m.newR.refH⟩
    · exact q.elim
  · exact q.elim) ha hl hh

/-! ### name op= e, of ints; a, b = x, y; a text alone -/
def rAddI : RD
  | .int i, .int j, S, Q => Q (.int (i + j)) S
  | _, _, _, _ => False
def wAug (R : RD) (i : Nat) (w : WE) : WS := fun D ρ S => match ρ[i]? with
  | some (some x) => w ρ S fun y S1 => R x y S1 fun z S2 => D.nx (ρ.set i (some z)) S2
  | _ => False
theorem aug_ok {R : RD} {f : Int → Int → Int} (hR : ∀ x y S Q, R x y S Q → ∃ i j, x = .int i ∧ y = .int j ∧ Q (.int (f i j)) S) {i : Nat} {D : Ends} {σ : L2.St} {H : Hp} (h : LS X.K (wAug R i wa) D σ H) : tAug i (LE X.K wa) (ipI f) D σ H := by
  obtain ⟨μ, S, ρ, D0, m, en, q, p⟩ := h
  have q' : (match ρ[i]? with | some (some x) => wa ρ S fun y S1 => R x y S1 fun z S2 => D0.nx (ρ.set i (some z)) S2 | _ => False) := q
  split at q'
  · rename_i x hx
    obtain ⟨v, h1, h2⟩ := en.2 i x hx
    refine ⟨v, h1, LE.run m en q' fun y S1 μ1 vy H1 q1 g1 m1 e1 r1 => ?_⟩
    obtain ⟨i', j', rfl, rfl, q2⟩ := hR _ _ _ _ q1
    exact ⟨i', j', h2.int_inv, r1.int_inv, p.nx _ S1 q2 μ1 _ H1 g1 m1 (e1.set (.int _))⟩
  · exact q'.elim
theorem ss_aug_add {i : Nat} {x : Str} {pos' : Pos} (hN : X.N.Nodup) (he : SE X e wa) (hi : X.N[i]? = some x := by rfl) (hx : Loc X.env.scope x := by first | exact Or.inl rfl | exact Or.inr rfl) (hf : X.fn x = true ∨ X.env.scope.names.lookup x = some .local := by first | exact .inl rfl | exact .inr rfl | assumption) :
    SS X (.AugAssign (.Name x pos') .Add e pos) (wAug rAddI i wa) := ps_weak (ps_aug hN hi hx he ip_add hf) fun D σ H h => aug_ok (fun x y S Q q => by
  unfold rAddI at q
  split at q
  · exact ⟨_, _, rfl, rfl, q⟩
  · exact q.elim) h
theorem ss_aug_sub {i : Nat} {x : Str} {pos' : Pos} (hN : X.N.Nodup) (he : SE X e wa) (hi : X.N[i]? = some x := by rfl) (hx : Loc X.env.scope x := by first | exact Or.inl rfl | exact Or.inr rfl) (hf : X.fn x = true ∨ X.env.scope.names.lookup x = some .local := by first | exact .inl rfl | exact .inr rfl | assumption) :
    SS X (.AugAssign (.Name x pos') .Sub e pos) (wAug rSub i wa) := ps_weak (ps_aug hN hi hx he ip_sub hf) fun D σ H h => aug_ok (fun x y S Q q => by
  unfold rSub at q
  split at q
  · exact ⟨_, _, rfl, rfl, q⟩
  · exact q.elim) h
def wPar (i j : Nat) (wr : WA) : WS := fun D ρ S => wr ρ S fun ds S1 => match ds with | [x, y] => D.nx ((ρ.set i (some x)).set j (some y)) S1 | _ => False
theorem ss_par {i j : Nat} {x y : Str} {px py pt : Pos} {kt k2 pt2} (hc : X.calm = true) (hN : X.N.Nodup) (hi : X.N[i]? = some x) (hj : X.N[j]? = some y) (hij : i ≠ j)
    (hx : X.env.scope.names.lookup x = some .local) (hy : X.env.scope.names.lookup y = some .local) (ha : SA X [a, b] wr)
    (hw : swappedStores [.Tuple [.Name x px, .Name y py] kt pt] (.Tuple [a, b] k2 pt2) X.env = pure (some [x, y]))
    (hs : swapsWithSole [.Tuple [.Name x px, .Name y py] kt pt] (.Tuple [a, b] k2 pt2) pos.line X.env = pure false := by rfl) :
    SS X (.Assign [.Tuple [.Name x px, .Name y py] kt pt] (.Tuple [a, b] k2 pt2) pos) (wPar i j wr) := ps_weak (ps_par hc hN hi hj hij hx hy ha hw hs) fun D σ H ⟨μ, S, ρ, D0, m, en, q, p⟩ => by
  refine LA.run m en q fun ds S1 μ1 vs H1 q1 g1 m1 e1 r1 => ?_
  split at q1
  · obtain ⟨v, u, rfl, ra, rb⟩ := r1.two_inv
    exact ⟨v, u, rfl, p.nx _ S1 q1 μ1 _ H1 g1 m1 ((e1.set ra).set rb)⟩
  · exact q1.elim
theorem ss_doc {x : Str} {j pos'} : SS X (.Expr (.Constant (.str x) j pos) pos') wNext := ps_weak ps_doc fun D σ H ⟨μ, S, ρ, D0, m, en, q, p⟩ => p.nx ρ S q μ σ H .refl m en

/-! ### ranges with a step -/
def stepD (i c : Int) (n : Nat) : List D := (List.range n).map fun k => .int (i + (k : Nat) * c)
def wRange3 (w : WA) : WI := fun ρ S Q => w ρ S fun ds S1 => match ds with | [.int i, .int j, .int c] => ∃ n, RgC i j c n ∧ Q (stepD i c n) (fun _ => True) S1 | _ => False
theorem RepAll.three_inv {K : PySem.W.Frag} {μ : Mu} {H : Hp} {d e f : D} {vs : List V} (r : RepAll K μ H [d, e, f] vs) : ∃ v u t, vs = [v, u, t] ∧ Rep K μ H d v ∧ Rep K μ H e u ∧ Rep K μ H f t := by
  cases r with
  | cons r t =>
    obtain ⟨u, w, rfl, r2, r3⟩ := t.two_inv
    exact ⟨_, _, _, rfl, r, r2, r3⟩
theorem isw_rangeC {K : PySem.W.Frag} {μ : Mu} {H : Hp} {lo c : Int} {n : Nat} : IsW K μ H (Itc lo c n) (stepD lo c n) (fun _ => True) where
  go := fun i μ2 H2 S2 hi g m _ => by show i < n; simpa [stepD] using hi
  stop := fun μ2 H2 S2 g m _ => by show n ≤ _; simp [stepD]
  yld := fun i μ2 H2 S2 x H3 hi g m _ y => by
    obtain ⟨rfl, rfl⟩ := y
    have hi' : i < n := by simpa [stepD] using hi
    exact ⟨.int (lo + (i : Nat) * c), by simp [stepD, hi'], .refl, m, .int _⟩
theorem si_range3 {tg : Expr} (hg : Gl X "range") (hm : X.mg "range" = none) (ha : SA X [a, b, c] wr) (hs : starEach [a, b, c] X.env = (false, eval a X.env) :: starEach [b, c] X.env := by rfl) (hpl : (backTo pos (starEach [b, c] X.env)).any (·.1) = false := by rfl) :
    SI X tg (.Call (.Name "range" p) [a, b, c] [] pos) (wRange3 wr) := pi_weak (pi_range3 hg hm ha hs hpl) fun σ H R ⟨μ, S, ρ, Q0, m, en, q, p⟩ => by
  refine LA.run m en q fun ds S1 μ1 vs H1 q1 g1 m1 e1 r1 => ?_
  split at q1
  · obtain ⟨v, u, t, rfl, ra, rb, rc⟩ := r1.three_inv
    rw [ra.int_inv, rb.int_inv, rc.int_inv]
    obtain ⟨n, hn, q2⟩ := q1
    exact ⟨_, _, _, n, rfl, hn, p _ _ S1 q2 μ1 _ H1 g1 m1 isw_rangeC⟩
  · exact q1.elim
/-- tuple(range(..)), list(range(..)) -/
def stepV (i c : Int) (n : Nat) : List V := (List.range n).map fun k => .int (i + (k : Nat) * c)
theorem rep_step {K : PySem.W.Frag} {μ : Mu} {H : Hp} (i c : Int) (n : Nat) : RepAll K μ H (stepD i c n) (stepV i c n) := by
  have e1 : stepD i c n = ((List.range n).map fun k => i + (k : Nat) * c).map D.int := by simp [stepD, Function.comp_def]
  have e2 : stepV i c n = ((List.range n).map fun k => i + (k : Nat) * c).map V.int := by simp [stepV, Function.comp_def]
  rw [e1, e2]
  exact repInts _
def rgArgs : List V → Option (Int × Int × Int)
  | [.int n] => some (0, n, 1)
  | [.int i, .int j] => some (i, j, 1)
  | [.int i, .int j, .int c] => some (i, j, c)
  | _ => none
def rgArgsD : List D → Option (Int × Int × Int)
  | [.int n] => some (0, n, 1)
  | [.int i, .int j] => some (i, j, 1)
  | [.int i, .int j, .int c] => some (i, j, c)
  | _ => none
theorem rgArgs_rep {K : PySem.W.Frag} {μ : Mu} {H : Hp} {ds : List D} {vs : List V} {z : Int × Int × Int} (r : RepAll K μ H ds vs) (h : rgArgsD ds = some z) : rgArgs vs = some z := by
  unfold rgArgsD at h
  split at h
  · obtain ⟨v, rfl, ra⟩ := r.one_inv
    rw [ra.int_inv]
    exact h
  · obtain ⟨v, u, rfl, ra, rb⟩ := r.two_inv
    rw [ra.int_inv, rb.int_inv]
    exact h
  · obtain ⟨v, u, t, rfl, ra, rb, rc⟩ := r.three_inv
    rw [ra.int_inv, rb.int_inv, rc.int_inv]
    exact h
  · cases h
/-- an expression that makes a range -/
def PRgC (X : Cx) (e : Expr) (ta : TA) : Prop := ∀ (pins : List (Addr × Obj)) (s : Shared) (σ : L2.St) (H : Hp) (Q : List V → Hp → Prop), Inv X pins σ H s → ta σ H Q → (∀ vs H', Q vs H' → ∃ i j c n, rgArgs vs = some (i, j, c) ∧ RgC i j c n) →
  wpAny (model X.prog X.w) X.A (eval e X.env) (fun x s' => ∃ r a b c t u v H' vs, x = .ref r ∧ IsRange s'.heap r a b c t u v ∧ Inv X pins σ H' s' ∧ rgArgs vs = some (a, b, c) ∧ Q vs H') X.xe s
theorem prgC {ta : TA} (hg : Gl X "range") (hm : X.mg "range" = none) (ha : PA X (a :: es) ta) (hs : starEach (a :: es) X.env = (false, eval a X.env) :: starEach es X.env) (hpl : (backTo pos (starEach es X.env)).any (·.1) = false) : PRgC X (.Call (.Name "range" p) (a :: es) [] pos) ta := by
  intro pins s σ H Q I h hq
  refine Call_ (ld_blt I hg hm boot_range (PyProof.Rows.callWith_type1 (thn (ha.run pos pins s σ H _ I h) fun us s1 ⟨vs, H1, I1, r1, q1⟩ => ?_) hs hpl))
  obtain ⟨i, j, c, n, ha', ⟨c0, c1, c2, c3⟩⟩ := hq vs H1 q1
  have ha2 := ha'
  unfold rgArgs at ha'
  split at ha'
  · obtain ⟨u, rfl, r⟩ := vals1 r1
    obtain ⟨t, rfl⟩ := r
    cases ha'
    exact call_range_1 ⟨_, _, _, _, _, _, _, H1, _, rfl, IsRange.new _ _ _ _ _ _ _, I1.kept fun b u e => Heap.get?_push_of_some _ e, ha2, q1⟩
  · obtain ⟨u1, u2, rfl, r, r'⟩ := vals2 r1
    obtain ⟨t, rfl⟩ := r
    obtain ⟨t', rfl⟩ := r'
    cases ha'
    exact call_range_2 ⟨_, _, _, _, _, _, _, H1, _, rfl, IsRange.new _ _ _ _ _ _ _, I1.kept fun b u e => Heap.get?_push_of_some _ e, ha2, q1⟩
  · cases r1 with
    | cons r rr =>
      obtain ⟨u1, u2, rfl, r', r''⟩ := vals2 rr
      obtain ⟨t, rfl⟩ := r
      obtain ⟨t', rfl⟩ := r'
      obtain ⟨t'', rfl⟩ := r''
      cases ha'
      exact call_range_3 c0 ⟨_, _, _, _, _, _, _, H1, _, rfl, IsRange.new _ _ _ _ _ _ _, I1.kept fun b u e => Heap.get?_push_of_some _ e, ha2, q1⟩ (.inl (PyProof.noPylong_small c1))
  · cases ha'
def wRgTo (mk : List D → Store → (D → Store → Prop) → Prop) (wr : WA) : WE := fun ρ S Q => wr ρ S fun ds S1 => match rgArgsD ds with | some (i, j, c) => ∃ n, RgC i j c n ∧ n ≤ 2 ^ 24 ∧ mk (stepD i c n) S1 Q | none => False
def mkTup (ds : List D) (S : Store) (Q : D → Store → Prop) : Prop := Q (.tup ds) S
def mkLst (ds : List D) (S : Store) (Q : D → Store → Prop) : Prop := Q (.lst ds) S
def mkNew (ds : List D) (S : Store) (Q : D → Store → Prop) : Prop := Q (.ref S.length) (S ++ [.lst ds])
theorem vals_stepR {i c : Int} {n : Nat} {acc : Array Value} (h : ItemsOf (fun k v => ∃ t, v = .int (i + k * c) t) acc n) : Vals (stepV i c n) acc.toList := by
  have e : acc.toList.length = n := by rw [Array.length_toList]; exact h.1
  unfold stepV
  subst e
  refine vals_of_get acc.toList _ fun j u hj => ?_
  obtain ⟨t, rfl⟩ := h.2 j u (by rw [← hj, Array.getElem?_toList])
  exact ⟨t, rfl⟩
theorem se_tupRg {q1 q2 : Pos} (hc : X.calm = true) (hgt : Gl X "tuple") (hmt : X.mg "tuple" = none) (hg : Gl X "range") (hm : X.mg "range" = none) (ha : SA X (a :: es) wr)
    (hs : starEach (a :: es) X.env = (false, eval a X.env) :: starEach es X.env := by rfl) (hpl : (backTo pos (starEach es X.env)).any (·.1) = false := by rfl)
    (na : starEach [.Call (.Name "range" p) (a :: es) [] pos] X.env = (false, eval (.Call (.Name "range" p) (a :: es) [] pos) X.env) :: starEach [] X.env := by rfl) :
    SE X (.Call (.Name "tuple" q1) [.Call (.Name "range" p) (a :: es) [] pos] [] q2) (wRgTo mkTup wr) := by
  refine ⟨fun pins s σ H Q I h => ?_⟩
  obtain ⟨μ, S, ρ, Q0, m, en, q, p⟩ := h
  refine Call_ (ld_blt I hgt hmt boot_tuple (PyProof.Rows.callWith_type1 (args_cons (thn (prgC hg hm ha hs hpl pins s σ H (fun vs H1 => ∃ i j c n, rgArgs vs = some (i, j, c) ∧ RgC i j c n ∧ n ≤ 2 ^ 24 ∧ ∀ l, H1 l = none → Q (.ref l) (upd H1 l (.tup (stepV i c n)))) I (LA.run m en q fun ds S1 μ1 vs H1 q1 g1 m1 e1 r1 => ?_) fun vs H1 ⟨i, j, c, n, h1, h2, _⟩ => ⟨i, j, c, n, h1, h2⟩) fun x s1 ⟨r, a', b', c', t, u, v, H1, vs, ex, hr, I1, ev, i, j, c, n, h1, h2, h3, h4⟩ => args_nil ?_) na) na))
  · split at q1
    · rename_i i j c hz
      obtain ⟨n, h1, h2, h3⟩ := q1
      exact ⟨i, j, c, n, rgArgs_rep r1 hz, h1, h2, fun l hl => p _ S1 h3 _ _ _ (g1.trans (.new hl)) (m1.new hl) (Sim.newT (S := S1) hl (rep_step i c n))⟩
    · exact q1.elim
  · subst ex
    rw [ev] at h1
    cases h1
    obtain ⟨b0, b1, b2, b3⟩ := h2
    refine call_tuple_range (n := n) (I1.ok.hd hc) hr b2 b3 h3 fun h' tk acc hk hi => ?_
    have I2 : Inv X pins σ H1 { s1 with heap := h', toks := tk } := I1.kept hk
    refine ⟨.ref h'.objs.size, upd H1 h'.objs.size (.tup (stepV a' c' n)), I2.laid (t' := tk) (fun c o e => Heap.get?_push_of_some _ e) (Nat.le_refl _) (show ObjOk X.prog X.w _ _ _ (.tup (stepV a' c' n)) from ⟨?_, acc.toList, vals_stepR hi, ?_⟩), rfl, h4 _ (I2.hok.fresh (Nat.le_refl _))⟩
    · unfold stepV; rw [List.length_map, List.length_range, sizeLine_eq]; omega
    · rw [Array.toArray_toList]; exact IsTup.new _ _
/-- list(range(..)), by content or as an object of the store -/
theorem listRg_run {q1 q2 : Pos} {mk : List D → Store → (D → Store → Prop) → Prop} (hmk : ∀ (μ : Mu) (S : Store) (H : Hp) (ds : List D) (vs : List V) (Q0 : D → Store → Prop) (Q : VK), Sim X.K μ S H → (∀ μ' H', RepAll X.K μ' H' ds vs) → mk ds S Q0 → Post X.K μ H Q0 Q → ∀ l, H l = none → Q (.ref l) (upd H l (.lst vs)))
    (hc : X.calm = true) (hgt : Gl X "list") (hmt : X.mg "list" = none) (hg : Gl X "range") (hm : X.mg "range" = none) (ha : SA X (a :: es) wr)
    (hs : starEach (a :: es) X.env = (false, eval a X.env) :: starEach es X.env) (hpl : (backTo pos (starEach es X.env)).any (·.1) = false)
    (na : starEach [.Call (.Name "range" p) (a :: es) [] pos] X.env = (false, eval (.Call (.Name "range" p) (a :: es) [] pos) X.env) :: starEach [] X.env) :
    SE X (.Call (.Name "list" q1) [.Call (.Name "range" p) (a :: es) [] pos] [] q2) (wRgTo mk wr) := by
  refine ⟨fun pins s σ H Q I h => ?_⟩
  obtain ⟨μ, S, ρ, Q0, m, en, q, p⟩ := h
  refine Call_ (ld_blt I hgt hmt boot_list (PyProof.Rows.callWith_type1 (args_cons (thn (prgC hg hm ha hs hpl pins s σ H (fun vs H1 => ∃ i j c n, rgArgs vs = some (i, j, c) ∧ RgC i j c n ∧ n ≤ 2 ^ 24 ∧ ∀ l, H1 l = none → Q (.ref l) (upd H1 l (.lst (stepV i c n)))) I (LA.run m en q fun ds S1 μ1 vs H1 q1 g1 m1 e1 r1 => ?_) fun vs H1 ⟨i, j, c, n, h1, h2, _⟩ => ⟨i, j, c, n, h1, h2⟩) fun x s1 ⟨r, a', b', c', t, u, v, H1, vs, ex, hr, I1, ev, i, j, c, n, h1, h2, h3, h4⟩ => args_nil ?_) na) na))
  · split at q1
    · rename_i i j c hz
      obtain ⟨n, h1, h2, h3⟩ := q1
      exact ⟨i, j, c, n, rgArgs_rep r1 hz, h1, h2, hmk μ1 S1 H1 _ _ Q0 Q m1 (fun _ _ => rep_step i c n) h3 (p.go g1)⟩
    · exact q1.elim
  · subst ex
    rw [ev] at h1
    cases h1
    obtain ⟨b0, b1, b2, b3⟩ := h2
    refine call_list_range (n := n) (I1.ok.hd hc) hr b2 b3 h3 fun h' tk acc c2 hk e' hi => ?_
    refine ⟨.ref s1.heap.objs.size, upd H1 s1.heap.objs.size (.lst (stepV a' c' n)), I1.laid hk (Nat.le_refl _) (show ObjOk X.prog X.w _ _ _ (.lst (stepV a' c' n)) from ⟨?_, acc.toList, c2, vals_stepR hi, ?_⟩), rfl, h4 _ (I1.hok.fresh (Nat.le_refl _))⟩
    · unfold stepV; rw [List.length_map, List.length_range, sizeLine_eq]; omega
    · rw [Array.toArray_toList]; exact e'
theorem se_lstRg {q1 q2 : Pos} (hc : X.calm = true) (hgt : Gl X "list") (hmt : X.mg "list" = none) (hg : Gl X "range") (hm : X.mg "range" = none) (ha : SA X (a :: es) wr)
    (hs : starEach (a :: es) X.env = (false, eval a X.env) :: starEach es X.env := by rfl) (hpl : (backTo pos (starEach es X.env)).any (·.1) = false := by rfl)
    (na : starEach [.Call (.Name "range" p) (a :: es) [] pos] X.env = (false, eval (.Call (.Name "range" p) (a :: es) [] pos) X.env) :: starEach [] X.env := by rfl) :
    SE X (.Call (.Name "list" q1) [.Call (.Name "range" p) (a :: es) [] pos] [] q2) (wRgTo mkLst wr) :=
  listRg_run (fun μ S H ds vs Q0 Q m r q p l hl => p _ _ q _ _ _ (.new hl) (m.new hl) (Sim.newL m hl (r _ _))) hc hgt hmt hg hm ha hs hpl na
theorem se_lstRgN {q1 q2 : Pos} (hc : X.calm = true) (hgt : Gl X "list") (hmt : X.mg "list" = none) (hg : Gl X "range") (hm : X.mg "range" = none) (ha : SA X (a :: es) wr)
    (hs : starEach (a :: es) X.env = (false, eval a X.env) :: starEach es X.env := by rfl) (hpl : (backTo pos (starEach es X.env)).any (·.1) = false := by rfl)
    (na : starEach [.Call (.Name "range" p) (a :: es) [] pos] X.env = (false, eval (.Call (.Name "range" p) (a :: es) [] pos) X.env) :: starEach [] X.env := by rfl) :
    SE X (.Call (.Name "list" q1) [.Call (.Name "range" p) (a :: es) [] pos] [] q2) (wRgTo mkNew wr) :=
  listRg_run (fun μ S H ds vs Q0 Q m r q p l hl => p _ _ q _ _ _ (.alloc hl) (m.alloc hl (r _ _)) m.newR.refH) hc hgt hmt hg hm ha hs hpl na
theorem RgC.up {i j : Int} (h1 : -(2 ^ 62) ≤ i) (h2 : i < 2 ^ 62) (h3 : -(2 ^ 62) ≤ j) (h4 : j < 2 ^ 62) : RgC i j 1 (j - i).toNat := ⟨by decide, by decide, small_one h1 h2 h3 h4, rangeSize_nat i j⟩

/-! ### enumerate, zip -/
def enumD (k : Nat) : List D → List D
  | [] => []
  | d :: ds => .tup [.int (k : Int), d] :: enumD (k + 1) ds
def zipD : List D → List D → List D
  | d :: ds, e :: es => .tup [d, e] :: zipD ds es
  | _, _ => []
theorem enumD_length : ∀ (ds : List D) (k : Nat), (enumD k ds).length = ds.length
  | [], _ => rfl
  | _ :: ds, k => congrArg (· + 1) (enumD_length ds (k + 1))
theorem enumD_get : ∀ (ds : List D) (k i : Nat), (enumD k ds)[i]? = (ds[i]?).map fun d => .tup [.int ((k + i : Nat) : Int), d]
  | [], _, _ => by simp [enumD]
  | _ :: _, _, 0 => rfl
  | d :: ds, k, i + 1 => by
    show (enumD (k + 1) ds)[i]? = _
    rw [enumD_get ds (k + 1) i, List.getElem?_cons_succ, show k + 1 + i = k + (i + 1) by omega]
theorem zipD_length : ∀ (ds es : List D), (zipD ds es).length = min ds.length es.length
  | [], _ => by simp [zipD]
  | _ :: _, [] => by simp [zipD]
  | _ :: ds, _ :: es => by simp only [zipD, List.length_cons, zipD_length ds es]; omega
theorem zipD_get : ∀ (ds es : List D) (i : Nat) (d e : D), ds[i]? = some d → es[i]? = some e → (zipD ds es)[i]? = some (.tup [d, e])
  | [], _, _, _, _, h, _ => by simp at h
  | _ :: _, [], _, _, _, _, h => by simp at h
  | a :: ds, b :: es, 0, d, e, h1, h2 => by simp at h1 h2; subst h1; subst h2; rfl
  | a :: ds, b :: es, i + 1, d, e, h1, h2 => zipD_get ds es i d e (by simpa using h1) (by simpa using h2)
/-- the list stands at a while G -/
structure AtL (K : PySem.W.Frag) (μ : Mu) (H : Hp) (a : Addr) (xs : List D) (G : Store → Prop) : Prop where
  at_ : ∀ μ2 H2 S2, Grow μ H μ2 H2 → Sim K μ2 S2 H2 → G S2 → ∃ vs, SqL K H2 a vs ∧ RepAll K μ2 H2 xs vs
structure AtT (K : PySem.W.Frag) (μ : Mu) (H : Hp) (a : Addr) (xs : List D) (G : Store → Prop) : Prop where
  at_ : ∀ μ2 H2 S2, Grow μ H μ2 H2 → Sim K μ2 S2 H2 → G S2 → ∃ vs, SqT K H2 a vs ∧ RepAll K μ2 H2 xs vs
section
variable {K : PySem.W.Frag} {μ : Mu} {H : Hp} {b' a' : Addr} {xs ys : List D} {G G2 : Store → Prop}
theorem isw_enum (h : AtL K μ H a' xs G) : IsW K μ H (Ite K a') (enumD 0 xs) G where
  go := fun i μ2 H2 S2 hi g m hG => by
    obtain ⟨vs, h1, h2⟩ := h.at_ μ2 H2 S2 g m hG
    rw [enumD_length, h2.length] at hi
    exact ⟨vs, vs[i], h1, by simp [hi]⟩
  stop := fun μ2 H2 S2 g m hG => by
    obtain ⟨vs, h1, h2⟩ := h.at_ μ2 H2 S2 g m hG
    exact ⟨vs, h1, by rw [enumD_length, h2.length]; exact Nat.le_refl _⟩
  yld := fun i μ2 H2 S2 x H3 hi g m hG y => by
    obtain ⟨vs, h1, h2⟩ := h.at_ μ2 H2 S2 g m hG
    obtain ⟨T, v, rfl, hT, rfl, y⟩ := y
    obtain ⟨d, e1, e2⟩ := h2.getV (y vs h1)
    exact ⟨.tup [.int ((0 + i : Nat) : Int), d], by rw [enumD_get, e1]; rfl, .new hT, m.new hT, Sim.newT (S := S2) hT (.cons (by rw [Nat.zero_add]; exact .int _) (.one e2))⟩
theorem isw_zipL (h : AtL K μ H a' xs G) (h' : AtL K μ H b' ys G2) : IsW K μ H (Itz K a' b') (zipD xs ys) (fun S => G S ∧ G2 S) where
  go := fun i μ2 H2 S2 hi g m hG => by
    obtain ⟨vs, h1, h2⟩ := h.at_ μ2 H2 S2 g m hG.1
    obtain ⟨us, k1, k2⟩ := h'.at_ μ2 H2 S2 g m hG.2
    rw [zipD_length, h2.length, k2.length] at hi
    have i1 : i < vs.length := by omega
    have i2 : i < us.length := by omega
    exact ⟨vs, us, vs[i], us[i], h1, k1, by simp [i1], by simp [i2]⟩
  stop := fun μ2 H2 S2 g m hG => by
    obtain ⟨vs, h1, h2⟩ := h.at_ μ2 H2 S2 g m hG.1
    obtain ⟨us, k1, k2⟩ := h'.at_ μ2 H2 S2 g m hG.2
    exact ⟨vs, us, h1, k1, by rw [zipD_length, h2.length, k2.length]; omega⟩
  yld := fun i μ2 H2 S2 x H3 hi g m hG y => by
    obtain ⟨vs, h1, h2⟩ := h.at_ μ2 H2 S2 g m hG.1
    obtain ⟨us, k1, k2⟩ := h'.at_ μ2 H2 S2 g m hG.2
    obtain ⟨T, v, u, rfl, hT, rfl, y, y'⟩ := y
    obtain ⟨d, e1, e2⟩ := h2.getV (y vs h1)
    obtain ⟨e, f1, f2⟩ := k2.getV (y' us k1)
    exact ⟨.tup [d, e], zipD_get _ _ _ _ _ e1 f1, .new hT, m.new hT, Sim.newT (S := S2) hT (.cons e2 (.one f2))⟩
theorem isw_zipT (h : AtT K μ H a' xs G) (h' : AtT K μ H b' ys G2) : IsW K μ H (RZ.ItzT K a' b') (zipD xs ys) (fun S => G S ∧ G2 S) where
  go := fun i μ2 H2 S2 hi g m hG => by
    obtain ⟨vs, h1, h2⟩ := h.at_ μ2 H2 S2 g m hG.1
    obtain ⟨us, k1, k2⟩ := h'.at_ μ2 H2 S2 g m hG.2
    rw [zipD_length, h2.length, k2.length] at hi
    have i1 : i < vs.length := by omega
    have i2 : i < us.length := by omega
    exact ⟨vs, us, vs[i], us[i], h1, k1, by simp [i1], by simp [i2]⟩
  stop := fun μ2 H2 S2 g m hG => by
    obtain ⟨vs, h1, h2⟩ := h.at_ μ2 H2 S2 g m hG.1
    obtain ⟨us, k1, k2⟩ := h'.at_ μ2 H2 S2 g m hG.2
    exact ⟨vs, us, h1, k1, by rw [zipD_length, h2.length, k2.length]; omega⟩
  yld := fun i μ2 H2 S2 x H3 hi g m hG y => by
    obtain ⟨vs, h1, h2⟩ := h.at_ μ2 H2 S2 g m hG.1
    obtain ⟨us, k1, k2⟩ := h'.at_ μ2 H2 S2 g m hG.2
    obtain ⟨T, v, u, rfl, hT, rfl, y, y'⟩ := y
    obtain ⟨d, e1, e2⟩ := h2.getV (y vs h1)
    obtain ⟨e, f1, f2⟩ := k2.getV (y' us k1)
    exact ⟨.tup [d, e], zipD_get _ _ _ _ _ e1 f1, .new hT, m.new hT, Sim.newT (S := S2) hT (.cons e2 (.one f2))⟩
theorem atL_lst {vs : List V} (h : (Rd H a' (.lst vs) ∧ ¬ μ.has a') ∨ KL K a' vs) (r : RepAll K μ H xs vs) : AtL K μ H a' xs fun _ => True :=
  ⟨fun μ2 H2 S2 g m _ => ⟨vs, h.imp (fun z => (g.lst _ _ z.1 z.2).1) id, r.grow g⟩⟩
theorem atL_ref {n : Nat} (h : μ.sl[n]? = some (some a')) : AtL K μ H a' xs fun S => S[n]? = some (.lst xs) :=
  ⟨fun μ2 H2 S2 g m hS => by
    obtain ⟨b, ws, h1, h2, h3⟩ := m.ob n xs hS
    rw [g.ref n a' h] at h1
    cases h1
    exact ⟨ws, SqL.of h2, h3⟩⟩
theorem atT_tup {vs : List V} (h : Rd H a' (.tup vs) ∨ KT K a' vs) (r : RepAll K μ H xs vs) : AtT K μ H a' xs fun _ => True :=
  ⟨fun μ2 H2 S2 g m _ => ⟨vs, h.imp (g.tup _ _) id, r.grow g⟩⟩
end
def guardL (S : Store) : D → Option (List D × (Store → Prop))
  | .lst ds => some (ds, fun _ => True)
  | .ref n => match S[n]? with | some (.lst ds) => some (ds, fun S => S[n]? = some (.lst ds)) | _ => none
  | _ => none
theorem guard_at {K : PySem.W.Frag} {μ : Mu} {S : Store} {H : Hp} {d : D} {v : V} {ds : List D} {G : Store → Prop} (m : Sim K μ S H) (r : Rep K μ H d v) (h : guardL S d = some (ds, G)) : ∃ a xs, v = .ref a ∧ SqL K H a xs ∧ AtL K μ H a ds G := by
  unfold guardL at h
  split at h
  · cases h
    cases r with
    | lst hh r => exact ⟨_, _, rfl, hh.imp And.left id, atL_lst hh r⟩
  · split at h
    · rename_i n _ es hn
      cases h
      obtain ⟨a, xs, rfl, h1, h2, h3⟩ := m.at hn r
      exact ⟨a, xs, rfl, SqL.of h2, atL_ref h1⟩
    · cases h
  · cases h
def wEnumerate (w : WA) : WI := fun ρ S Q => w ρ S fun ds S1 => match ds with
  | [x] => (match guardL S1 x with | some (es, G) => Q (enumD 0 es) G S1 | none => False)
  | _ => False
theorem si_enumerate {elts : List Expr} {kk : Nat} {tpos : Pos} (hg : Gl X "enumerate") (hm : X.mg "enumerate" = none) (ha : SA X [a] wr) (hs : starEach [a] X.env = [(false, eval a X.env)] := by rfl) :
    SI X (.Tuple elts kk tpos) (.Call (.Name "enumerate" p) [a] [] pos) (wEnumerate wr) := pi_weak (pi_enum hg hm ha hs) fun σ H R ⟨μ, S, ρ, Q0, m, en, q, p⟩ => by
  refine LA.run m en q fun ds S1 μ1 vs H1 q1 g1 m1 e1 r1 => ?_
  split at q1
  · rename_i x
    obtain ⟨v, rfl, r⟩ := r1.one_inv
    split at q1
    · rename_i es G hG
      obtain ⟨l, xs, rfl, h1, h2⟩ := guard_at m1 r hG
      exact ⟨l, xs, rfl, h1, p _ _ S1 q1 μ1 _ H1 g1 m1 (isw_enum h2)⟩
    · exact q1.elim
  · exact q1.elim
def wZip (w : WA) : WI := fun ρ S Q => w ρ S fun ds S1 => match ds with
  | [.tup xs, .tup ys] => Q (zipD xs ys) (fun _ => True) S1
  | [x, y] => (match guardL S1 x, guardL S1 y with | some (xs, G), some (ys, G') => Q (zipD xs ys) (fun S => G S ∧ G' S) S1 | _, _ => False)
  | _ => False
theorem isw_mono {K : PySem.W.Frag} {μ : Mu} {H : Hp} {J : It} {xs : List D} {G G' : Store → Prop} (h : IsW K μ H J xs G) (hG : ∀ S, G' S → G S) : IsW K μ H J xs G' :=
  ⟨fun i μ2 H2 S2 hi g m q => h.go i μ2 H2 S2 hi g m (hG _ q), fun μ2 H2 S2 g m q => h.stop μ2 H2 S2 g m (hG _ q), fun i μ2 H2 S2 x H3 hi g m q y => h.yld i μ2 H2 S2 x H3 hi g m (hG _ q) y⟩
theorem si_zip {elts : List Expr} {kk : Nat} {tpos : Pos} (hg : Gl X "zip") (hm : X.mg "zip" = none) (ha : SA X [a, b] wr) (hs : starEach [a, b] X.env = (false, eval a X.env) :: starEach [b] X.env := by rfl) (hpl : (backTo pos (starEach [b] X.env)).any (·.1) = false := by rfl) :
    SI X (.Tuple elts kk tpos) (.Call (.Name "zip" p) [a, b] [] pos) (wZip wr) := pi_weak (RZ.pi_zipA hg hm ha hs hpl) fun σ H R ⟨μ, S, ρ, Q0, m, en, q, p⟩ => by
  refine LA.run m en q fun ds S1 μ1 vs H1 q1 g1 m1 e1 r1 => ?_
  split at q1
  · obtain ⟨v, u, rfl, r, r'⟩ := r1.two_inv
    cases r with
    | tup hh r =>
      cases r' with
      | tup hh' r' => exact ⟨_, _, _, _, rfl, .inr ⟨hh, hh', p _ _ S1 q1 μ1 _ H1 g1 m1 (isw_mono (isw_zipT (atT_tup hh r) (atT_tup hh' r')) fun _ _ => ⟨trivial, trivial⟩)⟩⟩
  · obtain ⟨v, u, rfl, r, r'⟩ := r1.two_inv
    split at q1
    · rename_i xs G ys G' h1 h2
      obtain ⟨a', us, rfl, k1, k2⟩ := guard_at m1 r h1
      obtain ⟨b', ws, rfl, l1, l2⟩ := guard_at m1 r' h2
      exact ⟨_, _, _, _, rfl, .inl ⟨k1, l1, p _ _ S1 q1 μ1 _ H1 g1 m1 (isw_zipL k2 l2)⟩⟩
    · exact q1.elim
  · exact q1.elim
end
end DL

set_option maxHeartbeats 4000000
/-! DLS: sorted(set(x)), x of tuples of ints -/
namespace DL
open PySem PySem.Spec PyProof.Rows L2
section
variable {P : Program} {w : World} {A : Around} {E : Value → Shared → Prop} {s : Shared}
abbrev newSet (w : World) : Obj := { cls := .type "set", dict := none, data := .set #[] 0 (.fresh 0 0 (!w.params.followText "set-order")) }
/-- the call set(x), down to the text of set.__init__ -/
theorem type_set1 {x : Value} {s1 : Shared} {o : Value} {Q : Value → Shared → Prop} (made : ∀ {Z : Value → Shared → Prop}, Z o s1 → codeAny (model P w) A.in1 (.call (.builtin "set.__new__") ⟨[.type "set", x], []⟩) (wants Z E) s)
    (hT : s1.TypeIs o "set")
    (body : ∀ Z : Value → Shared → Prop, (∀ s2, Q o s2 → Z .none s2) → wpAny (model P w) A.in1.in1 (Builtin.«set.__init__» ⟨[o, x], []⟩)
      (fun fin s' => match fin with | .done f => wants Z E (.ok f) s' | .again c' => c'.quiet = true ∧ codeAny (model P w) A.in1 c' (wants Z E) s') (fun e s' => wants Z E (.error e) s') s1) :
    wpAny (model P w) A (call (.type "set") [x]) Q E s := by
  have ft := F.called_set
  obtain ⟨c, tl, hmro⟩ := ft.mro
  have k1 := ft.made
  have k2 := ft.sub
  have k3 := ft.notType
  have k4 := ft.canCreate
  have k5 := F.typeCall_set_1 x
  refine wpAny_call (codeAny_of_tree (show wpAny _ _ (callAny (.type "set") _) _ _ _ from wpAny_pure ⟨Code.quiet_builtin _ (by decide +kernel), codeAny_builtin F.entry_type_call ?_⟩))
  rw [Around.under_plain (weight_type_call_type "set" [x] []) rfl]
  repeat (any_goals (first | assumption | wp_step))
  refine codeAny_mono (made (Z := fun a b => a = o ∧ b = s1) ⟨rfl, rfl⟩) fun r s2 hr => ?_
  match r, hr with
  | .error e, hr => exact hr
  | .ok (.ret obj), hr =>
    obtain ⟨e1, e2⟩ := hr
    subst e1 e2
    have k6 := ft.init.lookup
    have k7 := ft.init.bind obj
    repeat (any_goals (first | assumption | wp_step))
    refine codeAny_mono (codeAny_call_builtin (R := wants (fun r s3 => r = .none ∧ Q obj s3) E) ft.init.plain F.entry_set_init (check_set_init_1 hT (body (fun r s3 => r = .none ∧ Q obj s3) fun s3 hq => ⟨rfl, hq⟩))) fun r2 s3 hr2 => ?_
    match r2, hr2 with
    | .error e, h2 => exact h2
    | .ok (.ret v), h2 =>
      obtain ⟨e3, hq⟩ := h2
      subst e3
      repeat (any_goals (first | assumption | wp_step))
      all_goals exact hq
/-- set(t), t a tuple of tuples of ints -/
theorem set_tupsT {l : Addr} {items : Array Value} (ks : List (Addr × List Int)) {Q : Value → Shared → Prop} (hh : A.handled = none) (hl : s.heap.IsTuple l items) (hit : items.toList = ks.map fun p => Value.ref p.1)
    (hk : ∀ p ∈ ks, IsT P w s.heap p.2 p.1) (hfew : ks.length < 64) (hu : A.units + 3 < cLine)
    (h : ∀ (h' : Heap) (tk : Nat) L es ep t, SetTR P w h' s.heap.objs.size L es ep t → Got ks ks.length L → (∀ b o, s.heap.get? b = some o → h'.get? b = some o) → Q (.ref s.heap.objs.size) { s with heap := h', toks := tk }) :
    wpAny (model P w) A (call (.type "set") [.ref l]) Q E s := by
  have hsize : items.size = ks.length := by rw [← Array.length_toList, hit, List.length_map]
  have fresh : (s.heap.push (newSet w)).get? s.heap.objs.size = some (newSet w) := Heap.get?_push_size _ rfl
  refine type_set1 (fun {Z} z => code_set_led1 (.ref l) (Q₁ := Z) z) ⟨_, fresh, rfl⟩ fun Z hz => ?_
  obtain ⟨⟨ocls, odict, odata, oslots⟩, hol, hcl, nl, hdl⟩ := hl
  simp only at hcl hdl
  subst hcl hdl
  have llt : l < s.heap.objs.size := Heap.lt_size hol
  have old : ∀ b o, s.heap.get? b = some o → (s.heap.push (newSet w)).get? b = some o := fun b o e => Heap.get?_push_of_some _ e
  have hol2 := old l _ hol
  have tup2 : (s.heap.push (newSet w)).IsTuple l items := ⟨_, hol2, rfl, nl, rfl⟩
  have sub1 := F.sub_tuple_set
  have sub2 := F.sub_tuple_frozenset
  have ndict : (Value.type "tuple" == Value.type "dict") = false := by decide
  unfold Builtin.«set.__init__» noKeywords Builtin.Frozenset.updateFrom
  generalize hPI : pyIter = PI
  wp_walk
  subst hPI
  refine wpAny_pyIter_tuple tup2 (wpAny_bind (wpAny_runValue ?_))
  have nsz : (s.heap.push (newSet w)).objs.size = s.heap.objs.size + 1 := Heap.size_push ..
  have lne : l ≠ (s.heap.push (newSet w)).objs.size := by rw [nsz]; exact Nat.ne_of_lt (Nat.lt_succ_of_lt llt)
  have none_of : ∀ b, s.heap.objs.size ≤ b → s.heap.get? b = none := fun b hb => by
    cases q : s.heap.get? b with
    | none => rfl
    | some o => exact absurd (Heap.lt_size q) (Nat.not_lt.mpr hb)
  refine set_update_tups ((Walks.tuple (by simp [hh]) (s.heap.push (newSet w)).objs.size l lne items).toS) s.heap.objs.size (fun z => ?_) ks hsize hfew (fun i v hv => ?_) s.heap hk (none_of _ (Nat.le_refl _)) (fun b hb => none_of b ?_) hu (items.size - 0) 0 _ (by omega) (Nat.zero_le _) ⟨⟨_, Heap.get?_push_size _ rfl, rfl, rfl⟩, tup2.push _⟩ (fun b o e => Heap.get?_push_of_some _ (old b o e)) ⟨[], #[], 0, _, setTR_fresh (Heap.get?_push_of_some _ fresh), Got.zero ks⟩ fun s' L es ep t hm hS' g' hkp => ?_
  · rcases List.mem_cons.mp z with z | z
    · rw [nsz] at z; exact absurd z (Nat.ne_of_lt (Nat.lt_succ_self _))
    · exact absurd (List.mem_singleton.mp z) (Nat.ne_of_gt llt)
  · have q : items.toList[i]? = some v := by rw [Array.getElem?_toList]; exact hv
    rw [hit, List.getElem?_map] at q
    cases hq : ks[i]? with
    | none => rw [hq] at q; cases q
    | some p => rw [hq] at q; exact ⟨p, rfl, (Option.some.inj q).symm⟩
  · rw [List.mem_singleton.mp hb, nsz]; exact Nat.le_succ _
  · obtain ⟨h', g2, d', tk', os'⟩ := s'
    have eg : g2 = s.gens := hm.gens
    have ed : d' = s.drawn := hm.drawn
    have eo : os' = s.os := hm.os
    subst eg ed eo
    rw [hsize] at g'
    exact wpAny_pure (show wpAny _ _ (ret Value.none) _ _ _ from wpAny_pure (hz _ (h _ _ _ _ _ _ hS' g' hkp)))
end

/-- .. as a rule, lists too -/
def rSetB (K : PySem.W.Frag) (P : Program) (w : World) : List V → Hp → VK → Prop := fun xs H Q => ∃ (l : Addr) (ks : List (Addr × List Int)), xs = [V.ref l] ∧ (SqL K H l (ks.map fun p => V.ref p.1) ∨ SqT K H l (ks.map fun p => V.ref p.1)) ∧ (∀ p ∈ ks, SqT K H p.1 (p.2.map V.int)) ∧ ks.length < 64 ∧
  ∀ a L, H a = none → (∀ p ∈ L, p ∈ ks) → (∀ p ∈ ks, p.2 ∈ L.map (·.2)) → Q (.ref a) (upd H a (SetTO P w a L))
section
variable {X : Cx}
theorem cr_setB (hc : X.calm = true) (hu : X.A.units + 64 < cLine) : CallR X (.type "set") (rSetB X.K X.prog X.w) := by
  intro pins s σ H xs us Q I r h
  obtain ⟨l, ks, rfl, hl, hk, hf, q⟩ := h
  rcases hl with hl | hl
  · exact cr_setOfT hc hu pins s σ H _ us Q I r ⟨l, ks, rfl, hl, hk, hf, q⟩
  · rw [Vals.ref1 r]
    obtain ⟨its, rv, pl, _⟩ := I.tuple hl
    refine set_tupsT (P := X.prog) (w := X.w) ks (I.ok.hd hc) (show s.heap.IsTuple l its.toArray from pl) (by simpa using refs_of_vals rv) (fun p hp => I.isT (hk p hp)) hf (by omega) fun h' tk L es ep t R g k => ?_
    exact ⟨.ref _, _, I.laid (t' := tk) k (Nat.le_refl _) (setTO_new R.t0), rfl, q _ L (I.hok.fresh (Nat.le_refl _)) (fun p hp => List.mem_of_mem_take (g.sub p hp)) fun p hp => g.all p (by rw [List.take_length]; exact hp)⟩
/-- sorted(a set of such tuples) -/
def rSortSet (K : PySem.W.Frag) (P : Program) (w : World) : List V → Hp → VK → Prop := fun vs H Q => ∃ (a : Addr) (L : List (Addr × List Int)), vs = [V.ref a] ∧ H a = some (SetTO P w a L) ∧ (∀ p ∈ L, SqT K H p.1 (p.2.map V.int)) ∧
  (∃ d, 1 ≤ d ∧ ∀ p ∈ L, p.2.length = d) ∧ ∀ (M : List (Addr × List Int)) (ys : List V) (p : Addr), M.Perm L → (L.map (·.2)).Nodup → ys = (M.mergeSort (PySem.W.dataLe false fun q => PyData.tuple (q.2.map .int))).map (fun q => V.ref q.1) → H p = none → Q (.ref p) (upd H p (.lst ys))
theorem alike_ints : ∀ (a b : List Int), a.length = b.length → PySem.W.alikeAll (a.map PyData.int) (b.map PyData.int) = true
  | [], [], _ => by simp [PySem.W.alikeAll]
  | x :: a, y :: b, h => by simp [PySem.W.alikeAll, PySem.W.alike, alike_ints a b (by simpa using h)]
theorem depth_ints : ∀ a : List Int, PyData.depthAll (a.map PyData.int) ≤ 1
  | [] => by simp [PyData.depthAll]
  | x :: a => by
    have := depth_ints a
    simp only [List.map_cons, PyData.depthAll, PyData.depth]
    omega
theorem reads_ints {h : Heap} : ∀ {ns : List Int} {us : List Value}, IntsAre us ns → ∃ as, ReadsAll h us (ns.map PyData.int) as := by
  intro ns us r
  induction r with
  | nil => exact ⟨_, .nil⟩
  | cons n t r ih =>
    obtain ⟨as, ih⟩ := ih
    exact ⟨_, .cons (.int n t) ih⟩
theorem perm_back {α β : Type} (f : α → β) {m n : List β} (h : m.Perm n) : ∀ l : List α, n = l.map f → ∃ l' : List α, l'.Perm l ∧ m = l'.map f := by
  induction h with
  | nil => exact fun l e => ⟨l, .refl _, e⟩
  | cons x h ih =>
    intro l e
    match l, e with
    | y :: l, e =>
      rw [List.map_cons, List.cons.injEq] at e
      obtain ⟨l', h1, h2⟩ := ih l e.2
      exact ⟨y :: l', .cons _ h1, by rw [List.map_cons, ← h2, e.1]⟩
  | swap x y r =>
    intro l e
    match l, e with
    | a :: b :: l, e =>
      simp only [List.map_cons, List.cons.injEq] at e
      exact ⟨b :: a :: l, .swap _ _ _, by simp only [List.map_cons, e.1, e.2.1, e.2.2]⟩
  | trans h1 h2 ih1 ih2 =>
    intro l e
    obtain ⟨l', k1, k2⟩ := ih2 l e
    obtain ⟨l2, k3, k4⟩ := ih1 l' k2
    exact ⟨l2, k3.trans k1, k4⟩
theorem each_eq {α : Type} {f : α → Value} : ∀ {out : List Value} {bs : List α}, PySem.W.EachIs (fun u q => u = f q) out bs → out = bs.map f
  | _, _, .nil => rfl
  | _, _, .cons h t => by rw [List.map_cons, h, each_eq t]
theorem each_map {α : Type} {R : Value → PyData → Prop} {f : α → Value} {g : α → PyData} : ∀ {l : List α}, (∀ q ∈ l, R (f q) (g q)) → PySem.W.EachIs R (l.map f) (l.map g)
  | [], _ => .nil
  | q :: l, h => .cons (h q List.mem_cons_self) (each_map fun r hr => h r (List.mem_cons_of_mem _ hr))
theorem each_refl {α : Type} {f : α → Value} : ∀ {l : List α}, PySem.W.EachIs (fun u q => u = f q) (l.map f) l
  | [] => .nil
  | _ :: _ => .cons rfl each_refl
abbrev tkey (q : Addr × List Int) : PyData := .tuple (q.2.map .int)
theorem cr_sortSet (hc : X.calm = true) (hu : X.A.units + 64 < cLine) : CallR X (.builtin "sorted") (rSortSet X.K X.prog X.w) := by
  intro pins s σ H vs us Q I r h
  obtain ⟨a, L, rfl, ha, hk, ⟨d, hd1, hd2⟩, q⟩ := h
  obtain ⟨es, ep, t, R⟩ := SetT0.full (I.hok a _ ha).1 fun p hp => I.isT (hk p hp)
  rw [Vals.ref1 r]
  obtain ⟨o, ho, hex, hdat⟩ := R.ob
  have few := R.few
  have size := R.size
  refine Calls.call_function_entry kind_sorted plain_sorted entry_sorted (args_sorted1 _) ?_
  unfold Builtin.«sorted»
  refine wpAny_bind (m := checkCount "sorted" 1 1 _) (wpAny_pure ?_)
  refine wpAny_bind (collect_set (A := X.A.in1) (I.ok.hd hc) ⟨o, ho, hex.1, hdat⟩ R.fits (by unfold scanBound; omega) R.tab.ris R.led fun s1 out0 k1 hz g1 o1 pm => ?_)
  have hes : es.toList.map (·.2) = L.map fun q => Value.ref q.1 := by
    rw [R.rows]
    unfold rowsOf
    rw [List.map_map]
    rfl
  obtain ⟨M, pM, rfl⟩ := perm_back (fun q : Addr × List Int => Value.ref q.1) pm L hes
  have hM : M.length < 64 := by rw [pM.length_eq]; exact few
  have hl : (M.map fun q => Value.ref q.1).length ≤ sizeLine := by rw [List.length_map, sizeLine_eq]; omega
  refine wpAny_bind (wpAny_newList ?_ (by simpa using hl))
  have hat : (s1.heap.push (seqObj "list" (M.map fun q => Value.ref q.1).toArray 0)).get? s1.heap.objs.size = some (seqObj "list" (M.map fun q => Value.ref q.1).toArray 0) := Heap.get?_push_size _ rfl
  have k3 : ∀ b o, s.heap.get? b = some o → (PySem.W.sortingHeap (s1.heap.push (seqObj "list" (M.map fun q => Value.ref q.1).toArray 0)) s1.heap.objs.size (M.map fun q => Value.ref q.1)).get? b = some o := fun b o q =>
    PySem.W.sortingHeap_old (Nat.ne_of_lt (Heap.lt_size (k1 b o q))) (Heap.get?_push_of_some _ (k1 b o q))
  have rd : PySem.W.EachIs (fun v d => ∃ as, Reads (PySem.W.sortingHeap (s1.heap.push (seqObj "list" (M.map fun q => Value.ref q.1).toArray 0)) s1.heap.objs.size (M.map fun q => Value.ref q.1)) v d as) (M.map fun q => Value.ref q.1) (M.map tkey) := each_map fun q hq => by
    obtain ⟨o2, its, n, h1, h2, h3, h4⟩ := isT_keep (R.tup q (pM.mem_iff.mp hq)) k3
    obtain ⟨as, h5⟩ := reads_ints (h := PySem.W.sortingHeap (s1.heap.push (seqObj "list" (M.map fun q => Value.ref q.1).toArray 0)) s1.heap.objs.size (M.map fun q => Value.ref q.1)) (ints_of_items h4)
    exact ⟨as, .tuple h1 h2 h3 h5⟩
  have al : PySem.W.AllAlike (M.map tkey) := fun x hx y hy => by
    obtain ⟨q1, m1, rfl⟩ := List.mem_map.mp hx
    obtain ⟨q2, m2, rfl⟩ := List.mem_map.mp hy
    show PySem.W.alikeAll _ _ = true
    exact alike_ints _ _ (by rw [hd2 _ (pM.mem_iff.mp m1), hd2 _ (pM.mem_iff.mp m2)])
  have so : PySem.W.Sortable (M.map tkey) := .inl fun x hx => by
    obtain ⟨q1, m1, rfl⟩ := List.mem_map.mp hx
    have := hd2 _ (pM.mem_iff.mp m1)
    match hq : q1.2, this with
    | [], e => exact absurd e (by simp; omega)
    | n :: r, _ => exact ⟨.int n, r.map .int, by unfold tkey; rw [hq]; rfl⟩
  refine wpAny_bind (wpAny_holding (PyProof.Rows.wpAny_call_entry_kw slot_list_sort ⟨_, hat, rfl⟩ entry_list_sort (PySem.W.list_sort_vals (s := { s1 with heap := s1.heap.push (seqObj "list" (M.map fun q => Value.ref q.1).toArray 0) }) hat
    (PySem.W.SortsAt.data (s := { s1 with heap := PySem.W.sortingHeap (s1.heap.push (seqObj "list" (M.map fun q => Value.ref q.1).toArray 0)) s1.heap.objs.size (M.map fun q => Value.ref q.1) }) rd al so fun x hx => ?_) hl ⟨_, rfl, ?_⟩) (args_list_sort _)))
  · obtain ⟨q1, m1, rfl⟩ := List.mem_map.mp hx
    have := depth_ints q1.2
    show X.A.units + 1 + 1 + PyData.depth (.tuple (q1.2.map .int)) < cLine
    rw [PyData.depth]
    omega
  · generalize hout : PySem.W.sortVals _ false _ _ = out
    obtain ⟨c, hc2⟩ := sortedHeap_at (vs := M.map fun q => Value.ref q.1) (out := out.toArray) hat
    have e1 : out = (M.mergeSort (PySem.W.dataLe false tkey)).map fun q => Value.ref q.1 := each_eq (PySem.W.keyedOut_each (bs := M) tkey ⟨_, _, al, hout.symm, rd⟩ each_refl)
    have hn : H s1.heap.objs.size = none := I.hok.fresh hz
    have hv : Vals ((M.mergeSort (PySem.W.dataLe false tkey)).map fun q => V.ref q.1) out := by rw [e1]; exact vals_of_refs _
    have keep : ∀ b u, s.heap.get? b = some u → (sortedHeap (s1.heap.push (seqObj "list" (M.map fun q => Value.ref q.1).toArray 0)) s1.heap.objs.size (M.map fun q => Value.ref q.1) out.toArray).get? b = some u := fun b u e => by
      have hlt := Heap.lt_size (k1 b u e)
      rw [sortedHeap_old (Nat.ne_of_lt hlt) (by rw [size_push']; exact Nat.lt_succ_of_lt hlt)]
      exact Heap.get?_push_of_some _ (k1 b u e)
    have hlen : ((M.mergeSort (PySem.W.dataLe false tkey)).map fun q => V.ref q.1).length ≤ sizeLine := by rw [List.length_map, List.length_mergeSort, sizeLine_eq]; omega
    have J : Inv X pins σ (upd H s1.heap.objs.size (.lst ((M.mergeSort (PySem.W.dataLe false tkey)).map fun q : Addr × List Int => V.ref q.1))) { s with heap := sortedHeap (s1.heap.push (seqObj "list" (M.map fun q : Addr × List Int => Value.ref q.1).toArray 0)) s1.heap.objs.size (M.map fun q : Addr × List Int => Value.ref q.1) out.toArray, gens := s1.gens, drawn := s1.drawn, toks := s1.toks } :=
      I.call (ch := []) (Un.laid keep hz hn) (I.hok.laid keep hz ⟨hlen, out, c, hv, hc2⟩) (by rw [g1]; exact I.bare) (fun _ z => nomatch z)
    have e2 : { s1 with heap := sortedHeap (s1.heap.push (seqObj "list" (M.map fun q : Addr × List Int => Value.ref q.1).toArray 0)) s1.heap.objs.size (M.map fun q : Addr × List Int => Value.ref q.1) out.toArray } = { s with heap := sortedHeap (s1.heap.push (seqObj "list" (M.map fun q : Addr × List Int => Value.ref q.1).toArray 0)) s1.heap.objs.size (M.map fun q : Addr × List Int => Value.ref q.1) out.toArray, gens := s1.gens, drawn := s1.drawn, toks := s1.toks } := by
      obtain ⟨a1, a2, a3, a4, a5⟩ := s1
      obtain ⟨b1, b2, b3, b4, b5⟩ := s
      have o1' : a5 = b5 := o1
      subst o1'
      rfl
    show wpAny _ _ _ _ _ { s1 with heap := sortedHeap (s1.heap.push (seqObj "list" (M.map fun q : Addr × List Int => Value.ref q.1).toArray 0)) s1.heap.objs.size (M.map fun q : Addr × List Int => Value.ref q.1) out.toArray }
    rw [e2]
    exact wpAny_pure ⟨_, rfl, .ref s1.heap.objs.size, _, J, rfl, q M _ _ pM R.nd rfl hn⟩
def tupI (k : List Int) : D := .tup (k.map .int)
def SetOkD (ds : List D) (ks : List (List Int)) : Prop := ds = ks.map tupI ∧ ks.length < 64 ∧ ∃ d, 1 ≤ d ∧ ∀ k ∈ ks, k.length = d
def rSSet : RC
  | [x], S, Q => match itemsD S x with
    | some ds => ∃ ks, SetOkD ds ks ∧ ∀ es : List (List Int), es.Nodup → (∀ k, k ∈ es ↔ k ∈ ks) → Q (.lst (sortD (es.map tupI))) S
    | none => False
  | _, _, _ => False
theorem py_ints : ∀ k : List Int, pyAll (k.map D.int) = k.map PyData.int
  | [] => rfl
  | n :: k => by rw [List.map_cons, pyAll, py_ints k, List.map_cons, D.py]
theorem py_tupI (k : List Int) : (tupI k).py = .tuple (k.map .int) := by unfold tupI; rw [D.py, py_ints]
theorem tups_rep {K : PySem.W.Frag} {μ : Mu} {H : Hp} : ∀ {ks : List (List Int)} {vs : List V}, RepAll K μ H (ks.map tupI) vs → ∃ L : List (Addr × List Int), vs = L.map (fun p => V.ref p.1) ∧ L.map (·.2) = ks ∧ ∀ p ∈ L, SqT K H p.1 (p.2.map V.int)
  | [], _, r => by cases r; exact ⟨[], rfl, rfl, fun p hp => by cases hp⟩
  | k :: ks, _, r => by
    cases r with
    | cons r t =>
      obtain ⟨L, rfl, e2, h⟩ := tups_rep t
      obtain ⟨a, xs, rfl, h1, r1⟩ := Rep.tupS (show Rep _ _ _ (.tup (k.map D.int)) _ from r)
      rw [r1.ints] at h1
      refine ⟨(a, k) :: L, rfl, by rw [List.map_cons, e2], fun p hp => ?_⟩
      rcases List.mem_cons.mp hp with rfl | hp
      · exact h1
      · exact h p hp
theorem rep_tups {K : PySem.W.Frag} {μ : Mu} {H : Hp} : ∀ {L : List (Addr × List Int)}, (∀ p ∈ L, SqT K H p.1 (p.2.map V.int)) → RepAll K μ H (L.map fun p => tupI p.2) (L.map fun p => V.ref p.1)
  | [], _ => .nil
  | p :: L, h => .cons (.tup (h p List.mem_cons_self) (repInts _)) (rep_tups fun q hq => h q (List.mem_cons_of_mem _ hq))
theorem sqT_new {K : PySem.W.Frag} {H : Hp} {p a : Addr} {xs : List V} {o : HO} (hp : H p = none) (h : SqT K H a xs) : SqT K (upd H p o) a xs := h.imp (fun z => rd_new z hp) id
theorem se_sortedSet {a : Expr} {es : List Expr} {wr : WA} {p q1 pos pos2 : Pos} (hc : X.calm = true) (hu : X.A.units + 66 < cLine) (hg : Gl X "sorted") (hm : X.mg "sorted" = none) (hg2 : Gl X "set") (hm2 : X.mg "set" = none) (ha : SA X (a :: es) wr)
    (he : starEach (a :: es) X.env = (false, eval a X.env) :: starEach es X.env := by rfl) (hpl : (backTo pos (starEach es X.env)).any (·.1) = false := by rfl)
    (he2 : starEach [.Call (.Name "set" p) (a :: es) [] pos] X.env = (false, eval (.Call (.Name "set" p) (a :: es) [] pos) X.env) :: starEach [] X.env := by rfl) :
    SE X (.Call (.Name "sorted" q1) [.Call (.Name "set" p) (a :: es) [] pos] [] pos2) (wCall rSSet wr) :=
  pe_weak (pe_callB (cr_sortSet hc (by omega)) hg hm (by decide +kernel) (pa_cons (pe_callTy (cr_setB hc (by omega)) hg2 hm2 (by decide +kernel) ha (by decide) (by decide) he hpl) pa_nil he2) (by decide) (by decide) he2 rfl) fun σ H Q ⟨μ, S, ρ, Q0, m, en, q, pp⟩ => by
    refine LA.run m en q fun ds S1 μ1 vs H1 q1 g1 m1 e1 r1 => ?_
    unfold rSSet at q1
    split at q1
    · rename_i x
      obtain ⟨v, rfl, r⟩ := r1.one_inv
      split at q1
      · rename_i ds hds
        obtain ⟨ks, ⟨rfl, hlen, d, hd1, hd2⟩, k⟩ := q1
        obtain ⟨l, xs, rfl, hl, rr⟩ := items_rep m1 r hds
        obtain ⟨L, rfl, e2, hL⟩ := tups_rep rr
        subst e2
        refine ⟨l, L, rfl, hl, hL, by simpa using hlen, fun b M hb s1 s2 => ?_⟩
        have hM : ∀ p ∈ M, SqT X.K (upd H1 b (SetTO X.prog X.w b M)) p.1 (p.2.map V.int) := fun p hp => sqT_new hb (hL p (s1 p hp))
        refine ⟨b, M, rfl, upd_same, hM, ⟨d, hd1, fun p hp => hd2 _ (List.mem_map.mpr ⟨p, s1 p hp, rfl⟩)⟩, fun N ys c pN nd ey hc0 => ?_⟩
        have hN : ∀ p ∈ N.mergeSort (PySem.W.dataLe false tkey), SqT X.K (upd H1 b (SetTO X.prog X.w b M)) p.1 (p.2.map V.int) := fun p hp => hM p (pN.mem_iff.mp ((List.mergeSort_perm _ _).mem_iff.mp hp))
        have e3 : (N.mergeSort (PySem.W.dataLe false tkey)).map (fun p => tupI p.2) = sortD ((N.map (·.2)).map tupI) := by
          unfold sortD
          rw [List.map_map]
          refine List.map_mergeSort fun p hp q hq => ?_
          unfold PySem.W.dataLe PySem.W.sortLe
          show (!(listOrd itemOrd).blt (PySem.W.keyToks (tkey q)) (PySem.W.keyToks (tkey p))) = !(listOrd itemOrd).blt (PySem.W.keyToks (tupI q.2).py) (PySem.W.keyToks (tupI p.2).py)
          rw [py_tupI, py_tupI]
        have g2 : Grow μ1 H1 μ1 (upd H1 b (SetTO X.prog X.w b M)) := .new hb
        refine pp _ S1 (k (N.map (·.2)) ((pN.map (·.2)).nodup_iff.mpr nd) fun z => ?_) μ1 _ _ (g1.trans (g2.trans (.new hc0))) ((m1.new hb).new hc0) ?_
        · constructor
          · intro hz
            obtain ⟨p, hp, rfl⟩ := List.mem_map.mp hz
            exact List.mem_map.mpr ⟨p, s1 p (pN.mem_iff.mp hp), rfl⟩
          · intro hz
            obtain ⟨p, hp, rfl⟩ := List.mem_map.mp hz
            exact (pN.map (·.2)).mem_iff.mpr (s2 p hp)
        · rw [← e3, ey]
          exact Sim.newL (m1.new hb) hc0 (rep_tups hN)
      · exact q1.elim
    · exact q1.elim
end
end DL
namespace DL
open PySem PySem.Spec PyProof.Rows L2
theorem units65 {k : Nat} {A : Around} (r : Room k A) : A.units + 65 < cLine := by have := r.un; omega
theorem units66 {k : Nat} {A : Around} (r : Room k A) : A.units + 66 < cLine := by have := r.un; omega
/-- a def that promises nothing: the end of a recursion -/
theorem fn_vac {P : Program} {w : World} {K : PySem.W.Frag} {mg : Str → Option Value} {base : Heap} {k : Nat} {f : Addr} {fd : FuncData} {ps : List Str} {Γ : Con} (h : ∀ ds S Q, ¬ Γ ds S Q) : FnD P w K mg base k f fd ps Γ :=
  ⟨fun _ _ _ _ ⟨_, _, _, _, _, _, _, q, _⟩ => (h _ _ _ q).elim, fun _ _ _ _ _ _ _ _ _ _ _ _ _ ⟨_, _, _, _, _, _, _, q, _⟩ => (h _ _ _ q).elim⟩
end DL

set_option maxHeartbeats 4000000
/-! DLY: the simp set of the newer readings -/
namespace DL
open PySem PySem.Spec PyProof.Rows L2
variable {ρ : DL.Env} {S : Store} {Q : D → Store → Prop} {D0 : EndsD}
theorem x_rLtD {i j : Int} : rLtD (.int i) (.int j) S Q = Q (.bl (decide (i < j))) S := (rfl)
theorem x_rLeD {i j : Int} : rLeD (.int i) (.int j) S Q = Q (.bl (decide (i ≤ j))) S := (rfl)
theorem x_rGtD {i j : Int} : rGtD (.int i) (.int j) S Q = Q (.bl (decide (j < i))) S := (rfl)
theorem x_rGeD {i j : Int} : rGeD (.int i) (.int j) S Q = Q (.bl (decide (j ≤ i))) S := (rfl)
theorem y_w_sl {R : D → Option Int → Option Int → Store → (D → Store → Prop) → Prop} {w : WE} {wl wh : WO} : wSl R w wl wh ρ S Q = w ρ S (fun x S1 => wl ρ S1 (fun lo S2 => wh ρ S2 (fun hi S3 => R x lo hi S3 Q))) := (rfl)
theorem y_w_noPart {Q : Option Int → Store → Prop} : wNoPart ρ S Q = Q none S := (rfl)
def oI (d : D) (S : Store) (Q : Option Int → Store → Prop) : Prop := match d with | .int i => Q (some i) S | _ => False
theorem y_w_part {w : WE} {Q : Option Int → Store → Prop} : wPart w ρ S Q = w ρ S (fun d S1 => oI d S1 Q) := (rfl)
theorem y_oI {i : Int} {Q : Option Int → Store → Prop} : oI (.int i) S Q = Q (some i) S := (rfl)
theorem x_sl_tup {ds : List D} {lo hi : Option Int} : rSl (.tup ds) lo hi S Q = Q (.tup (cutD ds lo hi)) S := (rfl)
theorem x_sl_lst {ds : List D} {lo hi : Option Int} : rSl (.lst ds) lo hi S Q = Q (.lst (cutD ds lo hi)) S := (rfl)
theorem x_sl_str {z : Str} {lo hi : Option Int} : rSl (.str z) lo hi S Q = (z.length ≤ sizeLine ∧ Q (.str (cutS z lo hi)) S) := (rfl)
theorem x_sl_ref {n : Nat} {lo hi : Option Int} : rSl (.ref n) lo hi S Q = sM S[n]? (fun ds => Q (.lst (cutD ds lo hi)) S) := by
  show (match S[n]? with | some (.lst ds) => _ | _ => False) = _
  rcases S[n]? with _ | (_ | _) <;> rfl
theorem x_slN_lst {ds : List D} {lo hi : Option Int} : rSlN (.lst ds) lo hi S Q = Q (.ref S.length) (S ++ [.lst (cutD ds lo hi)]) := (rfl)
theorem x_slN_ref {n : Nat} {lo hi : Option Int} : rSlN (.ref n) lo hi S Q = sM S[n]? (fun ds => Q (.ref S.length) (S ++ [.lst (cutD ds lo hi)])) := by
  show (match S[n]? with | some (.lst ds) => _ | _ => False) = _
  rcases S[n]? with _ | (_ | _) <;> rfl
def aK (o : Option (Option D)) (k : D → Prop) : Prop := match o with | some (some x) => k x | _ => False
theorem y_aK {x : D} {k : D → Prop} : aK (some (some x)) k = k x := (rfl)
theorem y_w_aug {R : RD} {i : Nat} {w : WE} : wAug R i w D0 ρ S = aK ρ[i]? (fun x => w ρ S (fun y S1 => R x y S1 (fun z S2 => D0.nx (ρ.set i (some z)) S2))) := by
  unfold wAug aK
  rcases ρ[i]? with _ | (_ | _) <;> rfl
theorem x_rAddI {i j : Int} : rAddI (.int i) (.int j) S Q = Q (.int (i + j)) S := (rfl)
def pK2 (ds : List D) (k : D → D → Prop) : Prop := match ds with | [x, y] => k x y | _ => False
theorem y_pK2 {x y : D} {k : D → D → Prop} : pK2 [x, y] k = k x y := (rfl)
theorem y_w_par {i j : Nat} {wr : WA} : wPar i j wr D0 ρ S = wr ρ S (fun ds S1 => pK2 ds (fun x y => D0.nx ((ρ.set i (some x)).set j (some y)) S1)) := by
  unfold wPar
  congr 1
theorem y_rgTo {mk : List D → Store → (D → Store → Prop) → Prop} {wr : WA} : wRgTo mk wr ρ S Q = wr ρ S (fun ds S1 => oM (rgArgsD ds) (fun z => ∃ n, RgC z.1 z.2.1 z.2.2 n ∧ n ≤ 2 ^ 24 ∧ mk (stepD z.1 z.2.2 n) S1 Q)) := by
  unfold wRgTo
  congr 1
  funext ds S1
  rcases rgArgsD ds with _ | ⟨i, j, c⟩ <;> rfl
theorem y_rgA1 {n : Int} : rgArgsD [.int n] = some (0, n, 1) := (rfl)
theorem y_rgA2 {i j : Int} : rgArgsD [.int i, .int j] = some (i, j, 1) := (rfl)
theorem y_rgA3 {i j c : Int} : rgArgsD [.int i, .int j, .int c] = some (i, j, c) := (rfl)
theorem y_mkTup {ds : List D} : mkTup ds S Q = Q (.tup ds) S := (rfl)
theorem y_mkLst {ds : List D} : mkLst ds S Q = Q (.lst ds) S := (rfl)
theorem y_mkNew {ds : List D} : mkNew ds S Q = Q (.ref S.length) (S ++ [.lst ds]) := (rfl)
def iM (o : Option (List D)) (k : List D → Prop) : Prop := match o with | some ds => k ds | none => False
theorem y_iM {ds : List D} {k : List D → Prop} : iM (some ds) k = k ds := (rfl)
theorem y_it_tup {ds : List D} : itemsD S (.tup ds) = some ds := (rfl)
theorem y_it_lst {ds : List D} : itemsD S (.lst ds) = some ds := (rfl)
theorem y_it_ref {n : Nat} {ds : List D} (h : S[n]? = some (.lst ds)) : itemsD S (.ref n) = some ds := by
  show (match S[n]? with | some (.lst ds) => some ds | _ => none) = _
  rw [h]
theorem x_in {neg : Bool} {x y : D} : rInN neg x y S Q = iM (itemsD S y) (fun ds => okD x ∧ okD (.lst ds) ∧ Q (.bl (if neg = true then !inD x ds else inD x ds)) S) := by
  unfold rInN
  rcases itemsD S y with _ | _ <;> rfl
theorem x_sorted {x : D} : rSorted [x] S Q = iM (itemsD S x) (fun ds => SortOkD ds ∧ Q (.lst (sortD ds)) S) := by
  show (match itemsD S x with | some ds => SortOkD ds ∧ Q (.lst (sortD ds)) S | none => False) = _
  rcases itemsD S x with _ | _ <;> rfl
theorem x_sortedN {x : D} : rSortedN [x] S Q = iM (itemsD S x) (fun ds => SortOkD ds ∧ Q (.ref S.length) (S ++ [.lst (sortD ds)])) := by
  show (match itemsD S x with | some ds => SortOkD ds ∧ Q (.ref S.length) (S ++ [Ob.lst (sortD ds)]) | none => False) = _
  rcases itemsD S x with _ | _ <;> rfl
theorem x_sset {x : D} : rSSet [x] S Q = iM (itemsD S x) (fun ds => ∃ ks, SetOkD ds ks ∧ ∀ es : List (List Int), es.Nodup → (∀ k, k ∈ es ↔ k ∈ ks) → Q (.lst (sortD (es.map tupI))) S) := by
  show (match itemsD S x with | some ds => ∃ ks, SetOkD ds ks ∧ ∀ es : List (List Int), es.Nodup → (∀ k, k ∈ es ↔ k ∈ ks) → Q (.lst (sortD (es.map tupI))) S | none => False) = _
  rcases itemsD S x with _ | _ <;> rfl
theorem y_chain {R R' : RD} {wa wb wc : WE} : wChain R R' wa wb wc ρ S Q = wa ρ S (fun x S1 => wb ρ S1 (fun y S2 => R x y S2 (fun z S3 => tB z S3 (fun k S3 => if k = true then wc ρ S3 (fun w S4 => R' y w S4 Q) else Q (.bl false) S3)))) := (rfl)
/-- while, by a measure and an invariant -/
theorem while_in {c : WT} {wb : WS} (I : Nat → DL.Env → Store → Prop) (n : Nat) (h0 : I n ρ S)
    (step : ∀ n ρ S, I n ρ S → c ρ S fun k S1 => if k = true then wb { D0 with nx := fun ρ' S' => ∃ n', n' < n ∧ I n' ρ' S', ct := fun ρ' S' => ∃ n', n' < n ∧ I n' ρ' S', bk := D0.nx } ρ S1 else D0.nx ρ S1) : wWhile c wb D0 ρ S :=
  ⟨I, ⟨n, h0⟩, step⟩
/-! order of pairs of ints -/
theorem ints_toks_lt : ∀ (a b : List Int), a.length = b.length → PyProof.Rows.lexLt itemOrd (PySem.W.keyToksAll (a.map PyData.int)) (PySem.W.keyToksAll (b.map PyData.int)) = HT.lexLt a b
  | [], [], _ => by rw [List.map_nil]; exact lex_irrefl _
  | x :: a, y :: b, h => by
    rw [List.map_cons, List.map_cons]
    have hal : PySem.W.alike (.int x) (.int y) = true := by simp [PySem.W.alike]
    by_cases e : x = y
    · subst e
      rw [PySem.W.dataLt_all_yes hal (by simp [PyData.eqv]), ints_toks_lt a b (by simpa using h), HT.lexLt_cons, if_pos rfl]
    · rw [PySem.W.dataLt_all_no hal (by simp [PyData.eqv, e]), PySem.W.dataLt_int, HT.lexLt_cons, if_neg e]
theorem ltD_tupI {a b : List Int} (h : a.length = b.length) : ltD (tupI a) (tupI b) = HT.lexLt a b := by
  unfold ltD
  rw [py_tupI, py_tupI, PySem.W.dataLt_tuple, ints_toks_lt a b h]
theorem dataLe_tupI {a b : List Int} (h : a.length = b.length) : PySem.W.dataLe false D.py (tupI a) (tupI b) = !HT.lexLt b a := by
  rw [← ltD_tupI h.symm]
  rfl
end DL

set_option maxHeartbeats 4000000
/-! DLG: readings that stop at a test, a call, a loop: walked by whnf -/
namespace DL
open PySem PySem.Spec PyProof.Rows L2
abbrev EX (S : Store) (Q0 : D → Store → Prop) : EndsD := { nx := fun _ S1 => Exit S.length .non S1 Q0, rt := fun d S1 => Exit S.length d S1 Q0 }
inductive cIf (k : Bool) (A B : Prop) : Prop where
  | t : k = true → A → cIf k A B
  | f : k = false → B → cIf k A B
theorem cIf_eq {k : Bool} {A B : Prop} : cIf k A B = (if k = true then A else B) := by
  refine propext ⟨fun h => ?_, fun h => ?_⟩
  · rcases h with ⟨rfl, a⟩ | ⟨rfl, b⟩
    · exact a
    · exact b
  · cases k with
    | true => exact .t rfl h
    | false => exact .f rfl h
theorem cIf_t {k : Bool} {A B : Prop} (h : k = true) (a : A) : cIf k A B := by rw [cIf_eq, if_pos h]; exact a
theorem cIf_f {k : Bool} {A B : Prop} (h : k = false) (b : B) : cIf k A B := by rw [cIf_eq, if_neg (by rw [h]; decide)]; exact b
theorem cIf_b {k : Bool} {A B : Prop} (h1 : k = true → A) (h2 : k = false → B) : cIf k A B := by
  cases k with
  | true => exact cIf_t rfl (h1 rfl)
  | false => exact cIf_f rfl (h2 rfl)
theorem cIf_d {p : Prop} [Decidable p] {A B : Prop} (h1 : p → A) (h2 : ¬ p → B) : cIf (decide p) A B := cIf_b (fun h => h1 (of_decide_eq_true h)) (fun h => h2 (of_decide_eq_false h))
theorem cIf_nd {p : Prop} [Decidable p] {A B : Prop} (h1 : ¬ p → A) (h2 : p → B) : cIf (!decide p) A B := cIf_b (fun h => h1 (by simpa using h)) (fun h => h2 (by simpa using h))
theorem cIf_n {k : Bool} {A B : Prop} (h : cIf k B A) : cIf (!k) A B := by
  cases k with
  | true => rw [cIf_eq] at h ⊢; simpa using h
  | false => rw [cIf_eq] at h ⊢; simpa using h
theorem cIf_pos {p : Prop} [Decidable p] {A B : Prop} (h : p) (a : A) : cIf (decide p) A B := cIf_t (decide_eq_true h) a
theorem cIf_neg {p : Prop} [Decidable p] {A B : Prop} (h : ¬ p) (b : B) : cIf (decide p) A B := cIf_f (decide_eq_false h) b
structure askC (Γ : Con) (ds : List D) (S : Store) (Q : D → Store → Prop) : Prop where
  go : Γ ds S Q
theorem ask_eq {Γ : Con} {ds : List D} {S : Store} {Q : D → Store → Prop} : askC Γ ds S Q = Γ ds S Q := propext ⟨fun h => h.go, fun h => ⟨h⟩⟩
/-- the tail of a body, by its name -/
structure Tail (w : WS) (D0 : EndsD) (ρ : Env) (S : Store) : Prop where
  go : w D0 ρ S
theorem tail_eq {w : WS} : Tail w = w := by
  funext D0 ρ S
  exact propext ⟨fun h => h.go, fun h => ⟨h⟩⟩
theorem ask_in {Γ : Con} {ds : List D} {S : Store} {Q : D → Store → Prop} (h : Γ ds S Q) : askC Γ ds S Q := by rw [ask_eq]; exact h
structure forG (g : Tg) (wb : WS) (G : Store → Prop) (D0 : EndsD) (xs : List D) (ρ : Env) (S : Store) : Prop where
  go : forR g wb G D0 xs ρ S
theorem forG_eq : @forG = @forR := by
  funext g wb G D0 xs ρ S
  exact propext ⟨fun h => h.go, fun h => ⟨h⟩⟩
structure compG (g : Tg) (wt : WT) (we : WE) (G : Store → Prop) (ρ0 : Env) (Q : D → Store → Prop) (xs acc : List D) (S : Store) : Prop where
  go : compR g wt we G ρ0 Q xs acc S
theorem compG_eq : @compG = @compR := by
  funext g wt we G ρ0 Q xs acc S
  exact propext ⟨fun h => h.go, fun h => ⟨h⟩⟩
def gAnd (t u : WT) : WT := fun ρ S Q => t ρ S fun k S1 => cIf k (u ρ S1 Q) (Q false S1)
def gOr (t u : WT) : WT := fun ρ S Q => t ρ S fun k S1 => cIf k (Q true S1) (u ρ S1 Q)
def gIfE (t : WT) (wa wb : WE) : WE := fun ρ S Q => t ρ S fun k S1 => cIf k (wa ρ S1 Q) (wb ρ S1 Q)
def gAndV (wa wb : WE) : WE := wBl wa fun k ρ S Q => cIf k (wb ρ S Q) (Q (.bl false) S)
def gOrV (wa wb : WE) : WE := wBl wa fun k ρ S Q => cIf k (Q (.bl true) S) (wb ρ S Q)
def gIf (c : WT) (t u : WS) : WS := fun D ρ S => c ρ S fun k S1 => cIf k (t D ρ S1) (u D ρ S1)
def gWhile (c : WT) (wb : WS) : WS := fun D ρ S => ∃ W : Nat → Env → Store → Prop, (∃ n, W n ρ S) ∧ ∀ n ρ S, W n ρ S →
  c ρ S fun k S1 => cIf k (wb { D with nx := fun ρ' S' => ∃ n', n' < n ∧ W n' ρ' S', ct := fun ρ' S' => ∃ n', n' < n ∧ W n' ρ' S', bk := D.nx } ρ S1) (D.nx ρ S1)
def gFor (wi : WI) (g : Tg) (wb : WS) : WS := fun D ρ S => wi ρ S fun xs G S1 => forG g wb G D xs ρ S1
def gComp (wi : WI) (g : Tg) (wt : WT) (we : WE) (vs : List Nat) : WE := fun ρ S Q => wi ρ S fun xs G S1 => compG g wt we G (wipeD ρ vs) Q xs [] S1
def gCompN (wi : WI) (g : Tg) (wt : WT) (we : WE) (vs : List Nat) : WE := fun ρ S Q => gComp wi g wt we vs ρ S fun d S1 => match d with | .lst ds => ds.length ≤ sizeLine ∧ Q (.ref S1.length) (S1 ++ [.lst ds]) | _ => False
def gChain (R R' : RD) (wa wb wc : WE) : WE := fun ρ S Q => wa ρ S fun x S1 => wb ρ S1 fun y S2 => R x y S2 fun z S3 => match z with | .bl k => cIf k (wc ρ S3 fun w S4 => R' y w S4 Q) (Q (.bl false) S3) | _ => False
def gFn (Γ : Con) (n : Nat) (wr : WA) : WE := fun ρ S Q => wr ρ S fun ds S1 => ds.length = n ∧ askC Γ ds S1 Q
inductive Ty where
  | int | bool | str | tuple | list
def Ty.name : Ty → String
  | .int => "int" | .bool => "bool" | .str => "str" | .tuple => "tuple" | .list => "list"
def isTy : D → Store → Ty → Option Bool
  | .non, _, _ => some false
  | .bl _, _, .bool => some true
  | .bl _, _, .int => some true
  | .bl _, _, _ => some false
  | .int _, _, .int => some true
  | .int _, _, _ => some false
  | .str _, _, .str => some true
  | .str _, _, _ => some false
  | .tup _, _, .tuple => some true
  | .tup _, _, _ => some false
  | .lst _, _, .list => some true
  | .lst _, _, _ => some false
  | .ref n, S, t => match S[n]? with | some (.lst _) => (match t with | .list => some true | _ => some false) | _ => none
theorem isTy_eq (d : D) (S : Store) (t : Ty) : isTy d S t = isT d S t.name := by
  cases d with
  | ref n =>
    cases t <;> (unfold isTy isT tyName Ty.name; simp; rcases S[n]? with _ | (_ | _) <;> simp)
  | _ => cases t <;> first | rfl | decide
def gIsT (w : WE) (t : Ty) : WE := fun ρ S Q => w ρ S fun d S1 => match isTy d S1 t with | some b => Q (.bl b) S1 | none => False
theorem gIsT_eq {w : WE} (t : Ty) : gIsT w t = wIsT w t.name := by
  funext ρ S Q
  unfold gIsT wIsT
  congr 1
  funext d S1
  rw [isTy_eq] <;> rfl
theorem gAnd_eq {t u : WT} : gAnd t u = wAnd t u := by funext ρ S Q; simp only [gAnd, wAnd, cIf_eq]
theorem gOr_eq {t u : WT} : gOr t u = wOr t u := by funext ρ S Q; simp only [gOr, wOr, cIf_eq]
theorem gIfE_eq {t : WT} {a b : WE} : gIfE t a b = wIfE t a b := by funext ρ S Q; simp only [gIfE, wIfE, cIf_eq]
theorem gAndV_eq {a b : WE} : gAndV a b = wAndV a b := by funext ρ S Q; simp only [gAndV, wAndV, cIf_eq]
theorem gOrV_eq {a b : WE} : gOrV a b = wOrV a b := by funext ρ S Q; simp only [gOrV, wOrV, cIf_eq]
theorem gIf_eq {t : WT} {a b : WS} : gIf t a b = wIf t a b := by funext D ρ S; simp only [gIf, wIf, cIf_eq]
theorem gWhile_eq {t : WT} {b : WS} : gWhile t b = wWhile t b := by funext D ρ S; simp only [gWhile, wWhile, cIf_eq]
theorem gFor_eq {wi : WI} {g : Tg} {wb : WS} : gFor wi g wb = wFor wi g wb := by funext D ρ S; simp only [gFor, wFor, forG_eq]
theorem gComp_eq {wi : WI} {g : Tg} {wt : WT} {we : WE} {vs : List Nat} : gComp wi g wt we vs = wComp wi g wt we vs := by funext D ρ S; simp only [gComp, wComp, compG_eq]
theorem gCompN_eq {wi : WI} {g : Tg} {wt : WT} {we : WE} {vs : List Nat} : gCompN wi g wt we vs = wCompN wi g wt we vs := by
  funext ρ S Q
  unfold gCompN wCompN
  rw [gComp_eq] <;> rfl
theorem gChain_eq {R R' : RD} {a b c : WE} : gChain R R' a b c = wChain R R' a b c := by
  funext ρ S Q
  unfold gChain wChain
  congr 1
  funext x S1
  congr 1
  funext y S2
  congr 1
  funext z S3
  cases z <;> simp only [cIf_eq]
theorem gFn_eq {Γ : Con} {n : Nat} {wr : WA} : gFn Γ n wr = wFn Γ n wr := by funext ρ S Q; simp only [gFn, wFn, ask_eq]
section
variable {X : Cx} {e : Expr} {st : Stmt} {sts : List Stmt}
theorem se_eqv {w w' : WE} (h : w' = w) (p : SE X e w) : SE X e w' := by rw [h]; exact p
theorem st_eqv {w w' : WT} (h : w' = w) (p : ST X e w) : ST X e w' := by rw [h]; exact p
theorem sw_eqv {w w' : WT} (h : w' = w) (p : SW X e w) : SW X e w' := by rw [h]; exact p
theorem ss_eqv {w w' : WS} (h : w' = w) (p : SS X st w) : SS X st w' := by rw [h]; exact p
theorem sss_eqv {w w' : WS} (h : w' = w) (p : SSs X sts w) : SSs X sts w' := by rw [h]; exact p
end
/-! rules -/
theorem forG_nil {g : Tg} {wb : WS} {G : Store → Prop} {D0 : EndsD} {ρ : Env} {S : Store} (h : G S) (q : D0.nx ρ S) : forG g wb G D0 [] ρ S := by rw [forG_eq]; exact ⟨h, q⟩
theorem forG_cons {g : Tg} {wb : WS} {G : Store → Prop} {D0 : EndsD} {x : D} {r : List D} {ρ ρ' : Env} {S : Store} (h : G S) (hb : bindT g x ρ = some ρ')
    (q : wb { D0 with nx := fun ρ S => forG g wb G D0 r ρ S, ct := fun ρ S => forG g wb G D0 r ρ S, bk := D0.nx } ρ' S) : forG g wb G D0 (x :: r) ρ S := by
  rw [forG_eq] at q ⊢
  refine ⟨h, ?_⟩
  rw [hb]
  exact q
/-- a loop by its invariant: the turn's number, the frame, the store -/
theorem forG_rule {g : Tg} {wb : WS} {G : Store → Prop} {D0 : EndsD} {xs : List D} {ρ : Env} {S : Store} (I : Nat → Env → Store → Prop) (h : I 0 ρ S)
    (h1 : ∀ (i : Nat) (x : D) (ρ : Env) (S : Store) (k : Env → Store → Prop), xs[i]? = some x → I i ρ S → (∀ ρ S, I (i + 1) ρ S → k ρ S) → G S ∧ ∃ ρ', bindT g x ρ = some ρ' ∧ wb { D0 with nx := k, ct := k, bk := D0.nx } ρ' S)
    (h0 : ∀ ρ S, I xs.length ρ S → G S ∧ D0.nx ρ S) : forG g wb G D0 xs ρ S := by
  have key : ∀ (n i : Nat) (ρ : Env) (S : Store), i + n = xs.length → I i ρ S → forG g wb G D0 (xs.drop i) ρ S := by
    intro n
    induction n with
    | zero =>
      intro i ρ S e hi
      rw [List.drop_of_length_le (by omega)]
      have e' : i = xs.length := by omega
      subst e'
      exact forG_nil (h0 ρ S hi).1 (h0 ρ S hi).2
    | succ n ih =>
      intro i ρ S e hi
      have hl : i < xs.length := by omega
      rw [List.drop_eq_getElem_cons hl]
      obtain ⟨hG, ρ', hb, q⟩ := h1 i xs[i] ρ S (fun ρ S => forG g wb G D0 (xs.drop (i + 1)) ρ S) (List.getElem?_eq_getElem hl) hi (fun ρ S hi => ih (i + 1) ρ S (by omega) hi)
      exact forG_cons hG hb q
  have := key xs.length 0 ρ S (by omega) h
  rwa [List.drop_zero] at this
/-- .. over typed items -/
theorem forG_list {α : Type} {enc : α → D} {ys : List α} {g : Tg} {wb : WS} {G : Store → Prop} {D0 : EndsD} {ρ : Env} {S : Store} (I : Nat → Env → Store → Prop) (h : I 0 ρ S)
    (h1 : ∀ (i : Nat) (y : α) (ρ : Env) (S : Store) (k : Env → Store → Prop), ys[i]? = some y → I i ρ S → (∀ ρ S, I (i + 1) ρ S → k ρ S) → G S ∧ ∃ ρ', bindT g (enc y) ρ = some ρ' ∧ wb { D0 with nx := k, ct := k, bk := D0.nx } ρ' S)
    (h0 : ∀ ρ S, I ys.length ρ S → G S ∧ D0.nx ρ S) : forG g wb G D0 (ys.map enc) ρ S := by
  refine forG_rule I h (fun i x ρ S k hx hi hk => ?_) (fun ρ S hi => h0 ρ S (by simpa using hi))
  rw [List.getElem?_map] at hx
  cases hy : ys[i]? with
  | none => rw [hy] at hx; cases hx
  | some y =>
    rw [hy] at hx
    cases hx
    exact h1 i y ρ S k hy hi hk
/-- .. over range(lo, lo + n) -/
theorem forG_range {lo : Int} {n : Nat} {g : Tg} {wb : WS} {G : Store → Prop} {D0 : EndsD} {ρ : Env} {S : Store} (I : Nat → Env → Store → Prop) (h : I 0 ρ S)
    (h1 : ∀ (i : Nat) (ρ : Env) (S : Store) (k : Env → Store → Prop), i < n → I i ρ S → (∀ ρ S, I (i + 1) ρ S → k ρ S) → G S ∧ ∃ ρ', bindT g (.int (lo + (i : Int))) ρ = some ρ' ∧ wb { D0 with nx := k, ct := k, bk := D0.nx } ρ' S)
    (h0 : ∀ ρ S, I n ρ S → G S ∧ D0.nx ρ S) : forG g wb G D0 (intsD lo n) ρ S := by
  unfold intsD
  refine forG_list I h (fun i y ρ S k hy hi hk => ?_) (fun ρ S hi => h0 ρ S (by simpa using hi))
  obtain ⟨hl, e⟩ := List.getElem?_eq_some_iff.mp hy
  rw [List.length_range] at hl
  rw [List.getElem_range] at e
  subst e
  exact h1 i ρ S k hl hi hk
theorem gWhile_rule {c : WT} {wb : WS} {D0 : EndsD} {ρ : Env} {S : Store} (I : Nat → Env → Store → Prop) (n : Nat) (h : I n ρ S)
    (h1 : ∀ (n : Nat) (ρ : Env) (S : Store) (k : Env → Store → Prop), I n ρ S → (∀ m ρ S, m < n → I m ρ S → k ρ S) → c ρ S fun b S1 => cIf b (wb { D0 with nx := k, ct := k, bk := D0.nx } ρ S1) (D0.nx ρ S1)) : gWhile c wb D0 ρ S :=
  ⟨I, ⟨n, h⟩, fun n ρ S hi => h1 n ρ S (fun ρ' S' => ∃ n', n' < n ∧ I n' ρ' S') hi fun m ρ S hm hi => ⟨m, hm, hi⟩⟩
theorem compG_nil {g : Tg} {wt : WT} {we : WE} {G : Store → Prop} {ρ0 : Env} {Q : D → Store → Prop} {acc : List D} {S : Store} (h : G S) (q : Q (.lst acc) S) : compG g wt we G ρ0 Q [] acc S := by rw [compG_eq]; exact ⟨h, q⟩
theorem compG_cons {g : Tg} {wt : WT} {we : WE} {G : Store → Prop} {ρ0 ρ2 : Env} {Q : D → Store → Prop} {x : D} {r acc : List D} {S : Store} (h : G S) (hb : bindT g x ρ0 = some ρ2)
    (q : wt ρ2 S fun b S1 => cIf b (we ρ2 S1 fun d S2 => acc.length < sizeLine ∧ compG g wt we G ρ0 Q r (acc ++ [d]) S2) (compG g wt we G ρ0 Q r acc S1)) : compG g wt we G ρ0 Q (x :: r) acc S := by
  rw [compG_eq] at q ⊢
  refine ⟨h, ?_⟩
  rw [hb]
  simp only [cIf_eq] at q
  exact q
theorem compG_rule {g : Tg} {wt : WT} {we : WE} {G : Store → Prop} {ρ0 : Env} {Q : D → Store → Prop} {xs acc : List D} {S : Store} (I : Nat → List D → Store → Prop) (h : I 0 acc S)
    (h1 : ∀ (i : Nat) (x : D) (acc : List D) (S : Store) (k : List D → Store → Prop), xs[i]? = some x → I i acc S → (∀ acc S, I (i + 1) acc S → k acc S) → G S ∧ ∃ ρ2, bindT g x ρ0 = some ρ2 ∧
      wt ρ2 S fun b S1 => cIf b (we ρ2 S1 fun d S2 => acc.length < sizeLine ∧ k (acc ++ [d]) S2) (k acc S1))
    (h0 : ∀ acc S, I xs.length acc S → G S ∧ Q (.lst acc) S) : compG g wt we G ρ0 Q xs acc S := by
  have key : ∀ (n i : Nat) (acc : List D) (S : Store), i + n = xs.length → I i acc S → compG g wt we G ρ0 Q (xs.drop i) acc S := by
    intro n
    induction n with
    | zero =>
      intro i acc S e hi
      rw [List.drop_of_length_le (by omega)]
      have e' : i = xs.length := by omega
      subst e'
      exact compG_nil (h0 acc S hi).1 (h0 acc S hi).2
    | succ n ih =>
      intro i acc S e hi
      have hl : i < xs.length := by omega
      rw [List.drop_eq_getElem_cons hl]
      obtain ⟨hG, ρ', hb, q⟩ := h1 i xs[i] acc S (fun acc S => compG g wt we G ρ0 Q (xs.drop (i + 1)) acc S) (List.getElem?_eq_getElem hl) hi (fun acc S hi => ih (i + 1) acc S (by omega) hi)
      exact compG_cons hG hb q
  have := key xs.length 0 acc S (by omega) h
  rwa [List.drop_zero] at this
/-- a comprehension that stores nothing: a map -/
theorem compG_map {α : Type} {enc : α → D} {f : α → D} {ys : List α} {g : Tg} {we : WE} {G : Store → Prop} {ρ0 : Env} {Q : D → Store → Prop} {S : Store} (hG : G S) (hl : ys.length ≤ 16000000)
    (h : ∀ y, y ∈ ys → ∃ ρ2, bindT g (enc y) ρ0 = some ρ2 ∧ ∀ Q : D → Store → Prop, Q (f y) S → we ρ2 S Q) (q : Q (.lst (ys.map f)) S) : compG g wYes we G ρ0 Q (ys.map enc) [] S := by
  refine compG_rule (fun i acc S' => S' = S ∧ acc = (ys.take i).map f) ⟨rfl, by simp⟩ (fun i x acc S' k hx hi hk => ?_) (fun acc S' hi => ?_)
  · obtain ⟨rfl, rfl⟩ := hi
    rw [List.getElem?_map] at hx
    cases hy : ys[i]? with
    | none => rw [hy] at hx; cases hx
    | some y =>
      rw [hy] at hx
      cases hx
      obtain ⟨ρ2, hb, hw⟩ := h y (List.mem_of_getElem? hy)
      refine ⟨hG, ρ2, hb, ?_⟩
      show cIf true _ _
      refine cIf_t rfl (hw _ ⟨?_, hk _ _ ⟨rfl, ?_⟩⟩)
      · rw [sizeLine_eq]
        simp
        omega
      · rw [List.take_succ, hy]
        simp
  · obtain ⟨rfl, rfl⟩ := hi
    refine ⟨hG, ?_⟩
    rw [List.length_map, List.take_length]
    exact q
/-- .. with a test -/
theorem compG_filter {α : Type} {enc : α → D} {f : α → D} {t : α → Bool} {ys : List α} {g : Tg} {wt : WT} {we : WE} {G : Store → Prop} {ρ0 : Env} {Q : D → Store → Prop} {S : Store} (hG : G S) (hl : ys.length ≤ 16000000)
    (h : ∀ y, y ∈ ys → ∃ ρ2, bindT g (enc y) ρ0 = some ρ2 ∧ (∀ Q : Bool → Store → Prop, Q (t y) S → wt ρ2 S Q) ∧ (t y = true → ∀ Q : D → Store → Prop, Q (f y) S → we ρ2 S Q)) (q : Q (.lst ((ys.filter t).map f)) S) : compG g wt we G ρ0 Q (ys.map enc) [] S := by
  refine compG_rule (fun i acc S' => S' = S ∧ acc = ((ys.take i).filter t).map f) ⟨rfl, by simp⟩ (fun i x acc S' k hx hi hk => ?_) (fun acc S' hi => ?_)
  · obtain ⟨rfl, rfl⟩ := hi
    rw [List.getElem?_map] at hx
    cases hy : ys[i]? with
    | none => rw [hy] at hx; cases hx
    | some y =>
      rw [hy] at hx
      cases hx
      obtain ⟨ρ2, hb, ht, hw⟩ := h y (List.mem_of_getElem? hy)
      refine ⟨hG, ρ2, hb, ?_⟩
      refine ht _ (cIf_b (fun e => hw e _ ⟨?_, hk _ _ ⟨rfl, ?_⟩⟩) (fun e => hk _ _ ⟨rfl, ?_⟩))
      · have := List.length_filter_le t (ys.take i)
        rw [sizeLine_eq]
        simp at this ⊢
        omega
      · rw [List.take_succ, hy]
        simp [List.filter_append, e]
      · rw [List.take_succ, hy]
        simp [List.filter_append, e]
  · obtain ⟨rfl, rfl⟩ := hi
    refine ⟨hG, ?_⟩
    rw [List.length_map, List.take_length]
    exact q
/-- .. over range(n) -/
theorem forG_range0 {n : Nat} {g : Tg} {wb : WS} {G : Store → Prop} {D0 : EndsD} {ρ : Env} {S : Store} (I : Nat → Env → Store → Prop) (h : I 0 ρ S)
    (h1 : ∀ (i : Nat) (ρ : Env) (S : Store) (k : Env → Store → Prop), i < n → I i ρ S → (∀ ρ S, I (i + 1) ρ S → k ρ S) → G S ∧ ∃ ρ', bindT g (.int (i : Int)) ρ = some ρ' ∧ wb { D0 with nx := k, ct := k, bk := D0.nx } ρ' S)
    (h0 : ∀ ρ S, I n ρ S → G S ∧ D0.nx ρ S) : forG g wb G D0 (intsD 0 n) ρ S := forG_range I h (fun i ρ S k hi hI hk => by
  rw [Int.zero_add]
  exact h1 i ρ S k hi hI hk) h0
theorem cutD_map {α β : Type} {f : α → β} {xs : List α} {lo hi : Option Int} : cutD (xs.map f) lo hi = (cutD xs lo hi).map f := by
  unfold cutD
  rw [List.length_map, List.map_take, List.map_drop]
theorem cutD_mem {α : Type} {xs : List α} {lo hi : Option Int} {x : α} (h : x ∈ cutD xs lo hi) : x ∈ xs := List.mem_of_mem_drop (List.mem_of_mem_take h)
theorem cutD_len {α : Type} {xs : List α} {lo hi : Option Int} : (cutD xs lo hi).length ≤ xs.length := by
  unfold cutD
  simp
  omega
theorem nat_of {i : Int} (h : 0 ≤ i) : ∃ n : Nat, i = (n : Int) := ⟨i.toNat, by omega⟩
theorem at_some {ds : List D} {n : Nat} (h : n < ds.length) : atD ds (n : Int) = some ds[n] := by rw [atD_cast]; exact List.getElem?_eq_getElem h
theorem tru_t {Q : Bool → Store → Prop} {b : Bool} {S : Store} (q : Q b S) : rTru (.bl b) S Q := q
end DL

set_option maxHeartbeats 4000000
/-! the text: the defs by places, scopes -/
namespace K03
open PySem PySem.Spec PyProof.Rows L2 DL
def top (i : Nat) : Stmt := PySem.Challenge.pw_everygain_k03_residues.main.body.getD i (.Pass ⟨0, 0, 0, 0⟩)
abbrev s_rest_of : Stmt := top 1
theorem sc_rest_of : FnScope ["integer", "modulus"] ["integer", "modulus"] (defScope s_rest_of) := ⟨rfl, rfl, rfl, by decide +kernel, rfl, by decide +kernel, by decide +kernel⟩
abbrev s_divides : Stmt := top 2
theorem sc_divides : FnScope ["one", "other"] ["one", "other"] (defScope s_divides) := ⟨rfl, rfl, rfl, by decide +kernel, rfl, by decide +kernel, by decide +kernel⟩
abbrev s_divisor_with_factor : Stmt := top 3
theorem sc_divisor_with_factor : FnScope ["one", "other", "left", "right", "near", "far", "many"] ["one", "other"] (defScope s_divisor_with_factor) := ⟨rfl, rfl, rfl, by decide +kernel, rfl, by decide +kernel, by decide +kernel⟩
abbrev s_residue_of : Stmt := top 5
theorem sc_residue_of : FnScope ["factor", "modulus", "total", "step", "divisor", "inverse"] ["factor", "modulus", "total"] (defScope s_residue_of) := ⟨rfl, rfl, rfl, by decide +kernel, rfl, by decide +kernel, by decide +kernel⟩
abbrev s_has_mark : Stmt := top 6
theorem sc_has_mark : FnScope ["residue", "mark"] ["residue", "mark"] (defScope s_has_mark) := ⟨rfl, rfl, rfl, by decide +kernel, rfl, by decide +kernel, by decide +kernel⟩
abbrev s_is_inside : Stmt := top 7
theorem sc_is_inside : FnScope ["one", "other"] ["one", "other"] (defScope s_is_inside) := ⟨rfl, rfl, rfl, by decide +kernel, rfl, by decide +kernel, by decide +kernel⟩
abbrev s_both_residues : Stmt := top 8
theorem sc_both_residues : FnScope ["one", "other", "gap", "whole", "start", "step", "divisor", "inverse"] ["one", "other"] (defScope s_both_residues) := ⟨rfl, rfl, rfl, by decide +kernel, rfl, by decide +kernel, by decide +kernel⟩
abbrev s_marks_in : Stmt := top 9
theorem sc_marks_in : FnScope ["dial", "residue"] ["dial", "residue"] (defScope s_marks_in) := ⟨rfl, rfl, rfl, by decide +kernel, rfl, by decide +kernel, by decide +kernel⟩
abbrev s_tidy_residues : Stmt := top 10
theorem sc_tidy_residues : FnScope ["residues", "tidy", "residue", "wider", "other"] ["residues"] (defScope s_tidy_residues) := ⟨rfl, rfl, rfl, by decide +kernel, rfl, by decide +kernel, by decide +kernel⟩
abbrev s__law_pool : Stmt := top 12
theorem sc__law_pool : FnScope ["script", "salt", "cells", "mixed", "cell"] ["script", "salt"] (defScope s__law_pool) := ⟨rfl, rfl, rfl, by decide +kernel, rfl, by decide +kernel, by decide +kernel⟩
abbrev s__law_draw : Stmt := top 13
theorem sc__law_draw : FnScope ["pool", "many", "cell", "digit"] ["pool", "many"] (defScope s__law_draw) := ⟨rfl, rfl, rfl, by decide +kernel, rfl, by decide +kernel, by decide +kernel⟩
abbrev s__law_same : Stmt := top 14
theorem sc__law_same : FnScope ["told", "due", "place"] ["told", "due"] (defScope s__law_same) := ⟨rfl, rfl, rfl, by decide +kernel, rfl, by decide +kernel, by decide +kernel⟩
abbrev s__law_picked : Stmt := top 15
theorem sc__law_picked : FnScope ["pool", "rows"] ["pool", "rows"] (defScope s__law_picked) := ⟨rfl, rfl, rfl, by decide +kernel, rfl, by decide +kernel, by decide +kernel⟩
abbrev s__law_solved : Stmt := top 16
theorem sc__law_solved : FnScope ["factor", "modulus", "total", "first", "value"] ["factor", "modulus", "total"] (defScope s__law_solved) := ⟨rfl, rfl, rfl, by decide +kernel, rfl, by decide +kernel, by decide +kernel⟩
abbrev s__law_has : Stmt := top 17
theorem sc__law_has : FnScope ["residue", "value"] ["residue", "value"] (defScope s__law_has) := ⟨rfl, rfl, rfl, by decide +kernel, rfl, by decide +kernel, by decide +kernel⟩
abbrev s__law_inside : Stmt := top 18
theorem sc__law_inside : FnScope ["one", "other"] ["one", "other"] (defScope s__law_inside) := ⟨rfl, rfl, rfl, by decide +kernel, rfl, by decide +kernel, by decide +kernel⟩
abbrev s__law_both : Stmt := top 19
theorem sc__law_both : FnScope ["one", "other", "found", "turn"] ["one", "other"] (defScope s__law_both) := ⟨rfl, rfl, rfl, by decide +kernel, rfl, by decide +kernel, by decide +kernel⟩
abbrev s__law_tidied : Stmt := top 20
theorem sc__law_tidied : FnScope ["residues", "kept", "one", "alone", "other"] ["residues"] (defScope s__law_tidied) := ⟨rfl, rfl, rfl, by decide +kernel, rfl, by decide +kernel, by decide +kernel⟩
abbrev s__law_integer : Stmt := top 21
theorem sc__law_integer : FnScope ["pool", "habit"] ["pool"] (defScope s__law_integer) := ⟨rfl, rfl, rfl, by decide +kernel, rfl, by decide +kernel, by decide +kernel⟩
abbrev s__law_residue : Stmt := top 22
theorem sc__law_residue : FnScope ["pool", "step"] ["pool", "step"] (defScope s__law_residue) := ⟨rfl, rfl, rfl, by decide +kernel, rfl, by decide +kernel, by decide +kernel⟩
abbrev s__law_solving : Stmt := top 23
theorem sc__law_solving : FnScope ["pool", "wide", "share", "factor", "modulus", "value", "asked", "one"] ["pool", "wide"] (defScope s__law_solving) := ⟨rfl, rfl, rfl, by decide +kernel, rfl, by decide +kernel, by decide +kernel⟩
abbrev s__law_pairing : Stmt := top 24
theorem sc__law_pairing : FnScope ["pool", "wide", "share", "one", "other", "value", "whole", "first", "second", "shifted", "inner", "inside", "beside", "pairs", "pair", "mark"] ["pool", "wide"] (defScope s__law_pairing) := ⟨rfl, rfl, rfl, by decide +kernel, rfl, by decide +kernel, by decide +kernel⟩
abbrev s__law_listing : Stmt := top 25
theorem sc__law_listing : FnScope ["pool", "wide", "many", "steps", "turn", "step", "residue", "due", "mark"] ["pool", "wide"] (defScope s__law_listing) := ⟨rfl, rfl, rfl, by decide +kernel, rfl, by decide +kernel, by decide +kernel⟩
abbrev s__law_tidying : Stmt := top 26
theorem sc__law_tidying : FnScope ["pool", "wide", "step", "first", "inner", "other", "rows", "turn", "few", "place", "asked", "where", "kept"] ["pool", "wide"] (defScope s__law_tidying) := ⟨rfl, rfl, rfl, by decide +kernel, rfl, by decide +kernel, by decide +kernel⟩
abbrev s_law : Stmt := top 27
theorem sc_law : FnScope ["script", "pool", "wide"] ["script"] (defScope s_law) := ⟨rfl, rfl, rfl, by decide +kernel, rfl, by decide +kernel, by decide +kernel⟩
/-- what the top leaves -/
structure Txt (K : PySem.W.Frag) (mg : Str → Option Value) : Prop where
  f_abs : mg "abs" = none
  f_bool : mg "bool" = none
  f_int : mg "int" = none
  f_isinstance : mg "isinstance" = none
  f_len : mg "len" = none
  f_range : mg "range" = none
  f_set : mg "set" = none
  f_sorted : mg "sorted" = none
  f_str : mg "str" = none
  f_tuple : mg "tuple" = none
end K03

set_option maxHeartbeats 4000000
/-! what each def promises, by content -/
namespace K03
open PySem PySem.Spec PyProof.Rows L2 DL
/-- the pool: its two numbers, its cells -/
structure PoolSt where
  a : Int
  b : Int
  cs : List Int
structure PoolSt.Ok (p : PoolSt) : Prop where
  a0 : 0 ≤ p.a
  b0 : 0 ≤ p.b
  b1 : p.b ≤ 2147483648
  cl : p.cs.length ≤ 63
  c0 : ∀ c ∈ p.cs, 0 ≤ c
def mkP (p : PoolSt) (G : Store) : Store := .lst (p.cs.map .int) :: .lst [.int p.a, .int p.b, .ref 0] :: G
def pr (a b : Int) : D := .tup [.int a, .int b]
def pr2 (k : Int × Int) : D := pr k.1 k.2
def gc (a b : Int) : Int := ((Nat.gcd a.natAbs b.natAbs : Nat) : Int)
/-- the answers of f * v = t modulo m -/
def SolP (f m t : Int) (r : D) : Prop := (r = .non ∧ ¬ gc f m ∣ t) ∨ (gc f m ∣ t ∧ ∃ v, r = pr v (m / gc f m) ∧ m ∣ f * v - t ∧ (m ≠ 0 → 0 ≤ v ∧ v < m / gc f m))
/-- what is a modulo c and b modulo d -/
def BothP (a c b d : Int) (r : D) : Prop :=
  (c = 0 ∧ d ∣ a - b ∧ r = pr a 0) ∨ (c ≠ 0 ∧ d = 0 ∧ c ∣ b - a ∧ r = pr b 0) ∨ (c ≠ 0 ∧ d ≠ 0 ∧ gc c d ∣ b - a ∧ ∃ v, r = pr v (c * (d / gc c d)) ∧ 0 ≤ v ∧ v < c * (d / gc c d) ∧ c ∣ v - a ∧ d ∣ v - b) ∨ (¬ gc c d ∣ b - a ∧ r = .non)
def insB (a c b d : Int) : Bool := decide (c % d = 0) && decide ((a - b) % d = 0)
def lexP (x y : Int × Int) : Prop := x.1 < y.1 ∨ (x.1 = y.1 ∧ x.2 < y.2)
/-- those inside no other, each once, ascending -/
def TidyP (ks out : List (Int × Int)) : Prop := out.Pairwise lexP ∧ ∀ k, k ∈ out ↔ k ∈ ks ∧ ∀ o ∈ ks, o ≠ k → insB k.1 k.2 o.1 o.2 = false
def marksL (n v d : Int) : List Int := ((List.range n.toNat).map fun i : Nat => (i : Int)).filter fun i => decide ((i - v) % d = 0)
def c_rest_of : Con := fun ds S Q => ∃ i m : Int, ds = [.int i, .int m] ∧ 0 ≤ m ∧ Q (.int (i % m)) S
def c_divides : Con := fun ds S Q => ∃ a b : Int, ds = [.int a, .int b] ∧ 0 ≤ a ∧ Q (.bl (decide (b % a = 0))) S
def c_divisor_with_factor : Con := fun ds S Q => ∃ a b : Int, ds = [.int a, .int b] ∧ 0 ≤ a ∧ a < 2 ^ 63 ∧ 0 ≤ b ∧ b < 2 ^ 63 ∧ ∀ x y : Int, -(2 ^ 63) ≤ x → x ≤ 2 ^ 63 → a * x + b * y = gc a b → Q (pr (gc a b) x) S
def c_residue_of : Con := fun ds S Q => ∃ f m t : Int, ds = [.int f, .int m, .int t] ∧ 0 < f ∧ f < 2 ^ 63 ∧ 0 ≤ m ∧ m < 2 ^ 63 ∧ t.natAbs < 2 ^ 200 ∧ ∀ r, SolP f m t r → Q r S
def c_has_mark : Con := fun ds S Q => ∃ v d x : Int, ds = [pr v d, .int x] ∧ 0 ≤ d ∧ Q (.bl (decide ((x - v) % d = 0))) S
def c_is_inside : Con := fun ds S Q => ∃ a c b d : Int, ds = [pr a c, pr b d] ∧ 0 ≤ c ∧ 0 ≤ d ∧ Q (.bl (insB a c b d)) S
def c_both_residues : Con := fun ds S Q => ∃ a c b d : Int, ds = [pr a c, pr b d] ∧ 0 ≤ c ∧ c < 2 ^ 63 ∧ 0 ≤ d ∧ d < 2 ^ 63 ∧ a.natAbs < 2 ^ 200 ∧ b.natAbs < 2 ^ 200 ∧ ∀ r, BothP a c b d r → Q r S
def c_marks_in : Con := fun ds S Q => ∃ n k v d : Int, ds = [pr n k, pr v d] ∧ 0 ≤ v ∧ v < d ∧ d ≤ n ∧ n ≤ 10000 ∧ Q (.tup ((marksL n v d).map .int)) S
def c_tidy_residues : Con := fun ds S Q => ∃ ks : List (Int × Int), ds = [.tup (ks.map pr2)] ∧ ks.length < 64 ∧ (∀ k ∈ ks, 0 ≤ k.2) ∧ ∀ out, TidyP ks out → Q (.tup (out.map pr2)) S
def c__law_pool : Con := fun ds S Q => ∃ (ns : List Int) (salt : Int), ds = [.lst (ns.map .int), .int salt] ∧ S = [] ∧ ns.length ≤ 63 ∧ 0 ≤ salt ∧ salt < 2147483647 ∧ ∀ p : PoolSt, p.Ok → Q (.ref 1) (mkP p [])
def c__law_draw : Con := fun ds S Q => ∃ (many : Int) (p : PoolSt) (G : Store), ds = [.ref 1, .int many] ∧ S = mkP p G ∧ p.Ok ∧ 0 < many ∧ many < 2 ^ 200 ∧ ∀ (d : Int) (p' : PoolSt), p'.Ok → 0 ≤ d → d < many → Q (.int d) (mkP p' G)
def leafD (x : D) : Prop := x = .non ∨ (∃ b, x = .bl b) ∨ ∃ i, x = .int i
def sameOk : Nat → D → Prop
  | 0, _ => False
  | n + 1, x => leafD x ∨ ∃ ds : List D, x = .tup ds ∧ ds.length ≤ 100000 ∧ ∀ d ∈ ds, sameOk n d
def c__law_same : Nat → Con
  | 0 => fun _ _ _ => False
  | n + 1 => fun ds S Q => ∃ x : D, ds = [x, x] ∧ sameOk (n + 1) x ∧ Q (.bl true) S
theorem same_int (n : Nat) (i : Int) : sameOk (n + 1) (.int i) := .inl (.inr (.inr ⟨i, rfl⟩))
theorem same_bl (n : Nat) (i : Bool) : sameOk (n + 1) (.bl i) := .inl (.inr (.inl ⟨i, rfl⟩))
theorem same_non (n : Nat) : sameOk (n + 1) .non := .inl (.inl rfl)
theorem same_ints (n : Nat) {ns : List Int} (h : ns.length ≤ 100000) : sameOk (n + 2) (.tup (ns.map .int)) := .inr ⟨_, rfl, by simpa using h, fun d hd => by
  obtain ⟨i, _, rfl⟩ := List.mem_map.mp hd
  exact same_int n i⟩
theorem same_pr (n : Nat) (a b : Int) : sameOk (n + 2) (pr a b) := same_ints n (ns := [a, b]) (by simp)
theorem same_prs (n : Nat) {ks : List (Int × Int)} (h : ks.length ≤ 100000) : sameOk (n + 3) (.tup (ks.map pr2)) := .inr ⟨_, rfl, by simpa using h, fun d hd => by
  obtain ⟨i, _, rfl⟩ := List.mem_map.mp hd
  exact same_pr n i.1 i.2⟩
/-- tuples of pairs, too -/
def c__law_picked : Con := fun ds S Q => ∃ (rows : List D) (p : PoolSt) (G : Store), ds = [.ref 1, .lst rows] ∧ S = mkP p G ∧ p.Ok ∧ rows ≠ [] ∧ rows.length ≤ 100000 ∧ ∀ (d : D) (p' : PoolSt), p'.Ok → d ∈ rows → Q d (mkP p' G)
def c__law_solved : Con := fun ds S Q => ∃ f m t : Int, ds = [.int f, .int m, .int t] ∧ 0 < f ∧ f < 2 ^ 63 ∧ 0 ≤ m ∧ m < 2 ^ 60 ∧ t.natAbs < 2 ^ 200 ∧ ∀ r, SolP f m t r → Q r S
def c__law_has : Con := c_has_mark
def c__law_inside : Con := c_is_inside
def c__law_both : Con := fun ds S Q => ∃ a c b d : Int, ds = [pr a c, pr b d] ∧ 0 ≤ c ∧ c < 2 ^ 60 ∧ 0 ≤ d ∧ d < 2 ^ 20 ∧ a.natAbs < 2 ^ 200 ∧ b.natAbs < 2 ^ 200 ∧ ∀ r, BothP a c b d r → Q r S
def c__law_tidied : Con := c_tidy_residues
def c__law_integer : Con := fun ds S Q => ∃ (p : PoolSt) (G : Store), ds = [.ref 1] ∧ S = mkP p G ∧ p.Ok ∧ ∀ (x : Int) (p' : PoolSt), p'.Ok → x.natAbs < 2 ^ 70 → Q (.int x) (mkP p' G)
def c__law_residue : Con := fun ds S Q => ∃ (step : Int) (p : PoolSt) (G : Store), ds = [.ref 1, .int step] ∧ S = mkP p G ∧ p.Ok ∧ 0 ≤ step ∧ step < 2 ^ 60 ∧ ∀ (v : Int) (p' : PoolSt), p'.Ok → v.natAbs < 2 ^ 70 → (step ≠ 0 → 0 ≤ v ∧ v < step) → Q (pr v step) (mkP p' G)
def c_part : Con := fun ds S Q => ∃ (w : Bool) (p : PoolSt), ds = [.ref 1, .bl w] ∧ S = mkP p [] ∧ p.Ok ∧ ∀ p' : PoolSt, p'.Ok → Q (.bl true) (mkP p' [])
def c__law_solving : Con := c_part
def c__law_pairing : Con := c_part
def c__law_listing : Con := c_part
def c__law_tidying : Con := c_part
def c_law : Con := fun ds S Q => ∃ ns : List Int, ds = [.lst (ns.map .int)] ∧ S = [] ∧ ns.length ≤ 63 ∧ Q (.bl true) []
theorem law_in {ns : List Int} (h : ns.length ≤ 63) : c_law [.lst (ns.map .int)] [] (fun d _ => d = .bl true) := ⟨ns, rfl, rfl, h, rfl⟩
end K03

set_option maxHeartbeats 4000000
/-! each def: its reading by content, and that the text has it -/
namespace K03
open PySem PySem.Spec PyProof.Rows L2 DL
def w_rest_of : WS := (wSeq (wIf (wTest (wOp DL.rEq (wVar 1) (wC (DL.D.int (0))))) (wRet (wVar 0)) wNext)
  (wRet (wOp DL.rMod (wVar 0) (wVar 1))))
def w_divides : WS := (wSeq (wIf (wTest (wOp DL.rEq (wVar 0) (wC (DL.D.int (0))))) (wRet (wOp DL.rEq (wVar 1) (wC (DL.D.int (0))))) wNext)
  (wRet (wOp DL.rEq (wOp DL.rMod (wVar 1) (wVar 0)) (wC (DL.D.int (0))))))
def w_divisor_with_factor_while0 : WS := (wSeq (wAsg (wOp DL.rDiv (wVar 2) (wVar 3)) (Tg.name 6))
  (wSeq (wPar 2 3 (wCons (wVar 3) (wCons (wOp DL.rSub (wVar 2) (wOp DL.rMul (wVar 6) (wVar 3))) wNil)))
  (wPar 4 5 (wCons (wVar 5) (wCons (wOp DL.rSub (wVar 4) (wOp DL.rMul (wVar 6) (wVar 5))) wNil)))))
def w_divisor_with_factor : WS := (wSeq (wPar 2 3 (wCons (wVar 0) (wCons (wVar 1) wNil)))
  (wSeq (wAsg (wTup (wCons (wC (DL.D.int (1))) (wCons (wC (DL.D.int (0))) wNil))) (Tg.tup [(Tg.name 4), (Tg.name 5)]))
  (wSeq (wWhile (wTest (wOp DL.rNe (wVar 3) (wC (DL.D.int (0))))) w_divisor_with_factor_while0)
  (wRet (wTup (wCons (wVar 2) (wCons (wVar 4) wNil)))))))
def w_residue_of : WS := (wSeq (wAsg (wFn c_divisor_with_factor 2 (wCons (wVar 0) (wCons (wVar 1) wNil))) (Tg.tup [(Tg.name 4), (Tg.name 5)]))
  (wSeq (wIf (wNot (wTru (wFn c_divides 2 (wCons (wVar 4) (wCons (wVar 2) wNil))))) (wRet (wC DL.D.non)) wNext)
  (wSeq (wAsg (wOp DL.rDiv (wVar 1) (wVar 4)) (Tg.name 3))
  (wRet (wTup (wCons (wFn c_rest_of 2 (wCons (wOp DL.rMul (wOp DL.rDiv (wVar 2) (wVar 4)) (wVar 5)) (wCons (wVar 3) wNil))) (wCons (wVar 3) wNil)))))))
def w_has_mark : WS := (wRet (wFn c_divides 2 (wCons (wOp DL.rIx (wVar 0) (wC (DL.D.int (1)))) (wCons (wOp DL.rSub (wVar 1) (wOp DL.rIx (wVar 0) (wC (DL.D.int (0))))) wNil))))
def w_is_inside : WS := (wRet (wAndV (wFn c_divides 2 (wCons (wOp DL.rIx (wVar 1) (wC (DL.D.int (1)))) (wCons (wOp DL.rIx (wVar 0) (wC (DL.D.int (1)))) wNil))) (wFn c_has_mark 2 (wCons (wVar 1) (wCons (wOp DL.rIx (wVar 0) (wC (DL.D.int (0)))) wNil)))))
def w_both_residues : WS := (wSeq (wAsg (wVar 0) (Tg.tup [(Tg.name 4), (Tg.name 5)]))
  (wSeq (wAsg (wFn c_divisor_with_factor 2 (wCons (wVar 5) (wCons (wOp DL.rIx (wVar 1) (wC (DL.D.int (1)))) wNil))) (Tg.tup [(Tg.name 6), (Tg.name 7)]))
  (wSeq (wAsg (wOp DL.rSub (wOp DL.rIx (wVar 1) (wC (DL.D.int (0)))) (wVar 4)) (Tg.name 2))
  (wSeq (wIf (wNot (wTru (wFn c_divides 2 (wCons (wVar 6) (wCons (wVar 2) wNil))))) (wRet (wC DL.D.non)) wNext)
  (wSeq (wIf (wTest (wOp DL.rEq (wVar 6) (wC (DL.D.int (0))))) (wRet (wTup (wCons (wVar 4) (wCons (wC (DL.D.int (0))) wNil)))) wNext)
  (wSeq (wAsg (wOp DL.rMul (wVar 5) (wOp DL.rDiv (wOp DL.rIx (wVar 1) (wC (DL.D.int (1)))) (wVar 6))) (Tg.name 3))
  (wRet (wTup (wCons (wFn c_rest_of 2 (wCons (wOp DL.rAdd (wVar 4) (wOp DL.rMul (wOp DL.rMul (wVar 5) (wVar 7)) (wOp DL.rDiv (wVar 2) (wVar 6)))) (wCons (wVar 3) wNil))) (wCons (wVar 3) wNil))))))))))
def w_marks_in : WS := (wRet (wRgTo mkTup (wCons (wOp DL.rIx (wVar 1) (wC (DL.D.int (0)))) (wCons (wOp DL.rIx (wVar 0) (wC (DL.D.int (0)))) (wCons (wOp DL.rIx (wVar 1) (wC (DL.D.int (1)))) wNil)))))
def w_tidy_residues_for0 : WS := (wSeq (wAsg (wComp (wSeqI (wVar 0)) (Tg.name 4) (wAnd (wTest (wOp DL.rNe (wVar 4) (wVar 2))) (wTru (wFn c_is_inside 2 (wCons (wVar 2) (wCons (wVar 4) wNil))))) (wVar 4) [4]) (Tg.name 3))
  (wIf (wNot (wTru (wVar 3))) (wDrop (wMeth mAppend (wVar 1) (wCons (wVar 2) wNil))) wNext))
def w_tidy_residues : WS := (wSeq (wAsg (wNew wNil) (Tg.name 1))
  (wSeq (wFor (wSeqI (wCall rSSet (wCons (wVar 0) wNil))) (Tg.name 2) w_tidy_residues_for0)
  (wRet (wCall rTuple (wCons (wVar 1) wNil)))))
def w__law_pool_for0 : WS := (wAsg (wOp DL.rMod (wOp DL.rAdd (wOp DL.rAdd (wOp DL.rMul (wVar 3) (wC (DL.D.int (45991)))) (wOp DL.rMod (wCall rInt (wCons (wVar 4) wNil)) (wC (DL.D.int (2147483549))))) (wC (DL.D.int (23)))) (wC (DL.D.int (2147483647)))) (Tg.name 3))
def w__law_pool : WS := (wSeq (wAsg (wCompN (wSeqI (wVar 0)) (Tg.name 4) wYes (wCall rAbs (wCons (wCall rInt (wCons (wVar 4) wNil)) wNil)) [4]) (Tg.name 2))
  (wSeq (wAsg (wVar 1) (Tg.name 3))
  (wSeq (wFor (wSeqI (wVar 2)) (Tg.name 4) w__law_pool_for0)
  (wRet (wNew (wCons (wC (DL.D.int (0))) (wCons (wOp DL.rAdd (wVar 3) (wC (DL.D.int (1)))) (wCons (wVar 2) wNil))))))))
def w__law_draw : WS := (wSeq (wIf (wAnd (wTest (wOp DL.rEq (wOp DL.rIx (wVar 0) (wC (DL.D.int (0)))) (wC (DL.D.int (0))))) (wTest (wOp DL.rGtD (wCall rLen (wCons (wOp DL.rIx (wVar 0) (wC (DL.D.int (2)))) wNil)) (wC (DL.D.int (0)))))) (wSeq (wAsg (wMeth mPopAt (wOp DL.rIx (wVar 0) (wC (DL.D.int (2)))) (wCons (wC (DL.D.int (0))) wNil)) (Tg.name 2))
  (wIf (wTest (wOp DL.rGeD (wVar 2) (wOp DL.rPow (wC (DL.D.int (10))) (wC (DL.D.int (18)))))) (wPut (wVar 2) (wVar 0) (wC (DL.D.int (0)))) (wPut (wOp DL.rAdd (wOp DL.rMod (wOp DL.rAdd (wOp DL.rMul (wOp DL.rIx (wVar 0) (wC (DL.D.int (1)))) (wC (DL.D.int (30269)))) (wCall rInt (wCons (wVar 2) wNil))) (wC (DL.D.int (2147483647)))) (wC (DL.D.int (1)))) (wVar 0) (wC (DL.D.int (1)))))) wNext)
  (wSeq (wIf (wTest (wOp DL.rGtD (wOp DL.rIx (wVar 0) (wC (DL.D.int (0)))) (wC (DL.D.int (0))))) (wSeq (wAsg (wOp DL.rMod (wCall rInt (wCons (wOp DL.rIx (wVar 0) (wC (DL.D.int (0)))) wNil)) (wVar 1)) (Tg.name 3))
  (wSeq (wPut (wOp DL.rDiv (wOp DL.rIx (wVar 0) (wC (DL.D.int (0)))) (wVar 1)) (wVar 0) (wC (DL.D.int (0))))
  (wRet (wVar 3)))) wNext)
  (wSeq (wPut (wOp DL.rMod (wOp DL.rAdd (wOp DL.rMul (wOp DL.rIx (wVar 0) (wC (DL.D.int (1)))) (wC (DL.D.int (45991)))) (wC (DL.D.int (65432)))) (wC (DL.D.int (2147483647)))) (wVar 0) (wC (DL.D.int (1))))
  (wSeq (wPut (wOp DL.rMod (wOp DL.rAdd (wOp DL.rMul (wOp DL.rIx (wVar 0) (wC (DL.D.int (1)))) (wC (DL.D.int (30269)))) (wC (DL.D.int (5)))) (wC (DL.D.int (2147483647)))) (wVar 0) (wC (DL.D.int (1))))
  (wRet (wOp DL.rMod (wOp DL.rDiv (wOp DL.rIx (wVar 0) (wC (DL.D.int (1)))) (wC (DL.D.int (23)))) (wVar 1)))))))
def w__law_same_for0 (Γ : Con) : WS := (gIf (wNot (wTru (gFn Γ 2 (wCons (wOp DL.rIx (wVar 0) (wVar 2)) (wCons (wOp DL.rIx (wVar 1) (wVar 2)) wNil))))) (wRet (wC (DL.D.bl false))) wNext)
def w__law_same (Γ : Con) : WS := (wSeq (gIf (wTest (wOp DL.rIs (wVar 1) (wC DL.D.non))) (wRet (wOp DL.rIs (wVar 0) (wC DL.D.non))) wNext)
  (wSeq (gIf (wTest (wOp DL.rIs (wVar 1) (wC (DL.D.bl true)))) (wRet (wOp DL.rIs (wVar 0) (wC (DL.D.bl true)))) wNext)
  (wSeq (gIf (wTest (wOp DL.rIs (wVar 1) (wC (DL.D.bl false)))) (wRet (wOp DL.rIs (wVar 0) (wC (DL.D.bl false)))) wNext)
  (wSeq (gIf (wTru (gIsT (wVar 1) .int)) (wRet (gAndV (gIsT (wVar 0) .int) (gAndV (wNotV (gIsT (wVar 0) .bool)) (wOp DL.rEq (wVar 0) (wVar 1))))) wNext)
  (wSeq (gIf (wTru (gIsT (wVar 1) .str)) (wRet (gAndV (gIsT (wVar 0) .str) (wOp DL.rEq (wVar 0) (wVar 1)))) wNext)
  (wSeq (gIf (gOr (wNot (wTru (gIsT (wVar 0) .tuple))) (wTest (wOp DL.rNe (wCall rLen (wCons (wVar 0) wNil)) (wCall rLen (wCons (wVar 1) wNil))))) (wRet (wC (DL.D.bl false))) wNext)
  (wSeq (gFor (wRange1 (wCons (wCall rLen (wCons (wVar 1) wNil)) wNil)) (Tg.name 2) (w__law_same_for0 Γ))
  (wRet (wC (DL.D.bl true))))))))))
def w__law_picked : WS := (wRet (wOp DL.rIx (wVar 1) (wFn c__law_draw 2 (wCons (wVar 0) (wCons (wCall rLen (wCons (wVar 1) wNil)) wNil)))))
def w__law_solved_for0 : WS := (wIf (wTest (wOp DL.rEq (wOp DL.rMod (wCall rInt (wCons (wOp DL.rSub (wOp DL.rMul (wVar 0) (wVar 4)) (wVar 2)) wNil)) (wVar 1)) (wC (DL.D.int (0))))) (wSeq (wIf (wTest (wOp DL.rIsNot (wVar 3) (wC DL.D.non))) (wRet (wTup (wCons (wVar 3) (wCons (wOp DL.rSub (wVar 4) (wVar 3)) wNil)))) wNext)
  (wAsg (wVar 4) (Tg.name 3))) wNext)
def w__law_solved : WS := (wSeq (wIf (wTest (wOp DL.rEq (wVar 1) (wC (DL.D.int (0))))) (wSeq (wIf (wTest (wOp DL.rNe (wOp DL.rMod (wCall rInt (wCons (wVar 2) wNil)) (wVar 0)) (wC (DL.D.int (0))))) (wRet (wC DL.D.non)) wNext)
  (wRet (wTup (wCons (wOp DL.rDiv (wVar 2) (wVar 0)) (wCons (wC (DL.D.int (0))) wNil))))) wNext)
  (wSeq (wAsg (wC DL.D.non) (Tg.name 3))
  (wSeq (wFor (wRange1 (wCons (wVar 1) wNil)) (Tg.name 4) w__law_solved_for0)
  (wSeq (wIf (wTest (wOp DL.rIs (wVar 3) (wC DL.D.non))) (wRet (wC DL.D.non)) wNext)
  (wRet (wTup (wCons (wVar 3) (wCons (wVar 1) wNil))))))))
def w__law_has : WS := (wSeq (wIf (wTest (wOp DL.rEq (wOp DL.rIx (wVar 0) (wC (DL.D.int (1)))) (wC (DL.D.int (0))))) (wRet (wOp DL.rEq (wVar 1) (wOp DL.rIx (wVar 0) (wC (DL.D.int (0)))))) wNext)
  (wRet (wOp DL.rEq (wOp DL.rMod (wCall rInt (wCons (wOp DL.rSub (wVar 1) (wOp DL.rIx (wVar 0) (wC (DL.D.int (0))))) wNil)) (wOp DL.rIx (wVar 0) (wC (DL.D.int (1))))) (wC (DL.D.int (0))))))
def w__law_inside : WS := (wSeq (wIf (wTest (wOp DL.rEq (wOp DL.rIx (wVar 0) (wC (DL.D.int (1)))) (wC (DL.D.int (0))))) (wRet (wFn c__law_has 2 (wCons (wVar 1) (wCons (wOp DL.rIx (wVar 0) (wC (DL.D.int (0)))) wNil)))) wNext)
  (wSeq (wIf (wTest (wOp DL.rEq (wOp DL.rIx (wVar 1) (wC (DL.D.int (1)))) (wC (DL.D.int (0))))) (wRet (wC (DL.D.bl false))) wNext)
  (wRet (wAndV (wFn c__law_has 2 (wCons (wVar 1) (wCons (wOp DL.rIx (wVar 0) (wC (DL.D.int (0)))) wNil))) (wFn c__law_has 2 (wCons (wVar 1) (wCons (wOp DL.rAdd (wOp DL.rIx (wVar 0) (wC (DL.D.int (0)))) (wOp DL.rIx (wVar 0) (wC (DL.D.int (1))))) wNil)))))))
def w__law_both_for0 : WS := (wIf (wTru (wFn c__law_has 2 (wCons (wVar 1) (wCons (wOp DL.rAdd (wOp DL.rIx (wVar 0) (wC (DL.D.int (0)))) (wOp DL.rMul (wVar 3) (wOp DL.rIx (wVar 0) (wC (DL.D.int (1)))))) wNil)))) (wDrop (wMeth mAppend (wVar 2) (wCons (wOp DL.rAdd (wOp DL.rIx (wVar 0) (wC (DL.D.int (0)))) (wOp DL.rMul (wVar 3) (wOp DL.rIx (wVar 0) (wC (DL.D.int (1)))))) wNil))) wNext)
def w__law_both : WS := (wSeq (wIf (wOr (wTest (wOp DL.rEq (wOp DL.rIx (wVar 0) (wC (DL.D.int (1)))) (wC (DL.D.int (0))))) (wTest (wOp DL.rEq (wOp DL.rIx (wVar 1) (wC (DL.D.int (1)))) (wC (DL.D.int (0)))))) (wSeq (wIf (wAnd (wTest (wOp DL.rEq (wOp DL.rIx (wVar 0) (wC (DL.D.int (1)))) (wC (DL.D.int (0))))) (wTru (wFn c__law_has 2 (wCons (wVar 1) (wCons (wOp DL.rIx (wVar 0) (wC (DL.D.int (0)))) wNil))))) (wRet (wVar 0)) wNext)
  (wSeq (wIf (wAnd (wTest (wOp DL.rEq (wOp DL.rIx (wVar 1) (wC (DL.D.int (1)))) (wC (DL.D.int (0))))) (wTru (wFn c__law_has 2 (wCons (wVar 0) (wCons (wOp DL.rIx (wVar 1) (wC (DL.D.int (0)))) wNil))))) (wRet (wVar 1)) wNext)
  (wRet (wC DL.D.non)))) wNext)
  (wSeq (wAsg (wNew wNil) (Tg.name 2))
  (wSeq (wFor (wRange1 (wCons (wOp DL.rMul (wC (DL.D.int (2))) (wOp DL.rIx (wVar 1) (wC (DL.D.int (1))))) wNil)) (Tg.name 3) w__law_both_for0)
  (wSeq (wIf (wTest (wOp DL.rLtD (wCall rLen (wCons (wVar 2) wNil)) (wC (DL.D.int (2))))) (wRet (wC DL.D.non)) wNext)
  (wRet (wTup (wCons (wOp DL.rMod (wCall rInt (wCons (wOp DL.rIx (wVar 2) (wC (DL.D.int (0)))) wNil)) (wOp DL.rSub (wOp DL.rIx (wVar 2) (wC (DL.D.int (1)))) (wOp DL.rIx (wVar 2) (wC (DL.D.int (0)))))) (wCons (wOp DL.rSub (wOp DL.rIx (wVar 2) (wC (DL.D.int (1)))) (wOp DL.rIx (wVar 2) (wC (DL.D.int (0))))) wNil))))))))
def w__law_tidied_for0 : WS := (wIf (wAnd (wTest (wOp DL.rNe (wVar 2) (wVar 4))) (wTru (wFn c__law_inside 2 (wCons (wVar 2) (wCons (wVar 4) wNil))))) (wAsg (wC (DL.D.bl false)) (Tg.name 3)) wNext)
def w__law_tidied_for1 : WS := (wSeq (wAsg (wC (DL.D.bl true)) (Tg.name 3))
  (wSeq (wFor (wSeqI (wVar 0)) (Tg.name 4) w__law_tidied_for0)
  (wIf (wAnd (wTru (wVar 3)) (wTest (wOp (DL.rInN true) (wVar 2) (wVar 1)))) (wDrop (wMeth mAppend (wVar 1) (wCons (wVar 2) wNil))) wNext)))
def w__law_tidied : WS := (wSeq (wAsg (wNew wNil) (Tg.name 1))
  (wSeq (wFor (wSeqI (wCall rSorted (wCons (wVar 0) wNil))) (Tg.name 2) w__law_tidied_for1)
  (wRet (wCall rTuple (wCons (wVar 1) wNil)))))
def w__law_integer : WS := (wSeq (wAsg (wFn c__law_draw 2 (wCons (wVar 0) (wCons (wC (DL.D.int (4))) wNil))) (Tg.name 1))
  (wSeq (wIf (wTest (wOp DL.rEq (wVar 1) (wC (DL.D.int (0))))) (wRet (wOp DL.rSub (wFn c__law_draw 2 (wCons (wVar 0) (wCons (wC (DL.D.int (13))) wNil))) (wC (DL.D.int (6))))) wNext)
  (wSeq (wIf (wTest (wOp DL.rEq (wVar 1) (wC (DL.D.int (3))))) (wRet (wOp DL.rSub (wFn c__law_draw 2 (wCons (wVar 0) (wCons (wOp DL.rPow (wC (DL.D.int (10))) (wC (DL.D.int (20)))) wNil))) (wOp DL.rMul (wOp DL.rPow (wC (DL.D.int (10))) (wC (DL.D.int (19)))) (wC (DL.D.int (5)))))) wNext)
  (wRet (wOp DL.rSub (wFn c__law_draw 2 (wCons (wVar 0) (wCons (wC (DL.D.int (2001))) wNil))) (wC (DL.D.int (1000))))))))
def w__law_residue : WS := (wSeq (wIf (wTest (wOp DL.rEq (wVar 1) (wC (DL.D.int (0))))) (wRet (wTup (wCons (wFn c__law_integer 1 (wCons (wVar 0) wNil)) (wCons (wC (DL.D.int (0))) wNil)))) wNext)
  (wRet (wTup (wCons (wFn c__law_draw 2 (wCons (wVar 0) (wCons (wVar 1) wNil))) (wCons (wVar 1) wNil)))))
def w__law_solving_for0 : WS := (gIf (wNot (wTru (gFn (c__law_same 3) 2 (wCons (gFn c_residue_of 3 (wCons (wOp DL.rIx (wVar 7) (wC (DL.D.int (0)))) (wCons (wOp DL.rIx (wVar 7) (wC (DL.D.int (1)))) (wCons (wOp DL.rIx (wVar 7) (wC (DL.D.int (2)))) wNil)))) (wCons (gFn c__law_solved 3 (wCons (wOp DL.rIx (wVar 7) (wC (DL.D.int (0)))) (wCons (wOp DL.rIx (wVar 7) (wC (DL.D.int (1)))) (wCons (wOp DL.rIx (wVar 7) (wC (DL.D.int (2)))) wNil)))) wNil))))) (wRet (wC (DL.D.bl false))) wNext)
def w__law_solving_s4 : WS := (wSeq (wAsg (gFn c__law_integer 1 (wCons (wVar 0) wNil)) (Tg.name 5))
  (wSeq (wAsg (wNew (wCons (wTup (wCons (wVar 3) (wCons (wVar 4) (wCons (wOp DL.rAdd (wOp DL.rMul (wVar 3) (wVar 5)) (wOp DL.rMul (wVar 4) (wOp DL.rSub (gFn c__law_draw 2 (wCons (wVar 0) (wCons (wC (DL.D.int (9))) wNil))) (wC (DL.D.int (4)))))) wNil)))) wNil)) (Tg.name 6))
  (wSeq (wDrop (wMeth mAppend (wVar 6) (wCons (wTup (wCons (wVar 3) (wCons (wVar 4) (wCons (wOp DL.rAdd (wOp DL.rAdd (wOp DL.rMul (wVar 3) (wVar 5)) (wC (DL.D.int (1)))) (gFn c__law_draw 2 (wCons (wVar 0) (wCons (wOp DL.rSub (wVar 2) (wC (DL.D.int (1)))) wNil)))) wNil)))) wNil)))
  (wSeq (wDrop (wMeth mAppend (wVar 6) (wCons (wTup (wCons (wOp DL.rAdd (wC (DL.D.int (1))) (gFn c__law_draw 2 (wCons (wVar 0) (wCons (wC (DL.D.int (60))) wNil)))) (wCons (wOp DL.rAdd (wC (DL.D.int (1))) (gFn c__law_draw 2 (wCons (wVar 0) (wCons (wC (DL.D.int (60))) wNil)))) (wCons (wOp DL.rSub (gFn c__law_draw 2 (wCons (wVar 0) (wCons (wC (DL.D.int (121))) wNil))) (wC (DL.D.int (60)))) wNil)))) wNil)))
  (wSeq (wDrop (wMeth mAppend (wVar 6) (wCons (wTup (wCons (wVar 3) (wCons (wC (DL.D.int (0))) (wCons (wOp DL.rMul (wVar 3) (wVar 5)) wNil)))) wNil)))
  (wSeq (wDrop (wMeth mAppend (wVar 6) (wCons (wTup (wCons (wVar 3) (wCons (wC (DL.D.int (0))) (wCons (wOp DL.rAdd (wOp DL.rAdd (wOp DL.rMul (wVar 3) (wVar 5)) (wC (DL.D.int (1)))) (gFn c__law_draw 2 (wCons (wVar 0) (wCons (wOp DL.rSub (wVar 3) (wC (DL.D.int (1)))) wNil)))) wNil)))) wNil)))
  (wSeq (wDrop (wMeth mAppend (wVar 6) (wCons (wTup (wCons (gFn c__law_picked 2 (wCons (wVar 0) (wCons (wLst (wCons (wC (DL.D.int (1))) (wCons (wC (DL.D.int (10000))) (wCons (wVar 3) wNil)))) wNil))) (wCons (wC (DL.D.int (1))) (wCons (wVar 5) wNil)))) wNil)))
  (wSeq (wDrop (wMeth mAppend (wVar 6) (wCons (wTup (wCons (gFn c__law_picked 2 (wCons (wVar 0) (wCons (wLst (wCons (wC (DL.D.int (1))) (wCons (wOp DL.rAdd (wVar 4) (wC (DL.D.int (1)))) (wCons (wVar 4) wNil)))) wNil))) (wCons (wVar 4) (wCons (wVar 5) wNil)))) wNil)))
  (wSeq (gIf (wTru (wVar 1)) (wSeq (wDrop (wMeth mAppend (wVar 6) (wCons (wTup (wCons (wOp DL.rAdd (wC (DL.D.int (1))) (gFn c__law_draw 2 (wCons (wVar 0) (wCons (wC (DL.D.int (10000))) wNil)))) (wCons (wOp DL.rSub (wC (DL.D.int (10000))) (gFn c__law_draw 2 (wCons (wVar 0) (wCons (wC (DL.D.int (9))) wNil)))) (wCons (wVar 5) wNil)))) wNil)))
  (wDrop (wMeth mAppend (wVar 6) (wCons (wTup (wCons (wOp DL.rAdd (wC (DL.D.int (1))) (gFn c__law_draw 2 (wCons (wVar 0) (wCons (wC (DL.D.int (10000))) wNil)))) (wCons (wC (DL.D.int (9000))) (wCons (wOp DL.rMul (wVar 5) (wC (DL.D.int (60)))) wNil)))) wNil)))) wNext)
  (wSeq (gFor (wSeqI (wVar 6)) (Tg.name 7) w__law_solving_for0)
  (wRet (wC (DL.D.bl true)))))))))))))
def w__law_solving : WS := (wSeq (wAsg (wOp DL.rAdd (wC (DL.D.int (2))) (gFn c__law_draw 2 (wCons (wVar 0) (wCons (wC (DL.D.int (7))) wNil)))) (Tg.name 2))
  (wSeq (wAsg (wOp DL.rMul (wVar 2) (wOp DL.rAdd (wC (DL.D.int (1))) (gFn c__law_draw 2 (wCons (wVar 0) (wCons (wC (DL.D.int (7))) wNil))))) (Tg.name 3))
  (wSeq (wAsg (wOp DL.rMul (wVar 2) (wOp DL.rAdd (wC (DL.D.int (1))) (gFn c__law_draw 2 (wCons (wVar 0) (wCons (wC (DL.D.int (7))) wNil))))) (Tg.name 4))
  (wSeq (gIf (wTru (wVar 1)) (wSeq (wAsg (wOp DL.rMul (wVar 2) (wOp DL.rAdd (wC (DL.D.int (1))) (gFn c__law_draw 2 (wCons (wVar 0) (wCons (wC (DL.D.int (1200))) wNil))))) (Tg.name 3))
  (wAsg (wOp DL.rMul (wVar 2) (wOp DL.rAdd (wC (DL.D.int (1))) (gFn c__law_draw 2 (wCons (wVar 0) (wCons (wC (DL.D.int (1200))) wNil))))) (Tg.name 4))) wNext)
  (Tail w__law_solving_s4)))))
def w__law_pairing_for0 : WS := (gIf (wNot (wTru (gFn (c__law_same 3) 2 (wCons (gFn c_has_mark 2 (wCons (wOp DL.rIx (wVar 14) (wC (DL.D.int (1)))) (wCons (wVar 15) wNil))) (wCons (gFn c__law_has 2 (wCons (wOp DL.rIx (wVar 14) (wC (DL.D.int (1)))) (wCons (wVar 15) wNil))) wNil))))) (wRet (wC (DL.D.bl false))) wNext)
def w__law_pairing_for1 : WS := (wSeq (gIf (wNot (wTru (gFn (c__law_same 3) 2 (wCons (gFn c_is_inside 2 (wCons (wOp DL.rIx (wVar 14) (wC (DL.D.int (0)))) (wCons (wOp DL.rIx (wVar 14) (wC (DL.D.int (1)))) wNil))) (wCons (gFn c__law_inside 2 (wCons (wOp DL.rIx (wVar 14) (wC (DL.D.int (0)))) (wCons (wOp DL.rIx (wVar 14) (wC (DL.D.int (1)))) wNil))) wNil))))) (wRet (wC (DL.D.bl false))) wNext)
  (wSeq (gIf (wNot (wTru (gFn (c__law_same 3) 2 (wCons (gFn c_both_residues 2 (wCons (wOp DL.rIx (wVar 14) (wC (DL.D.int (0)))) (wCons (wOp DL.rIx (wVar 14) (wC (DL.D.int (1)))) wNil))) (wCons (gFn c__law_both 2 (wCons (wOp DL.rIx (wVar 14) (wC (DL.D.int (0)))) (wCons (wOp DL.rIx (wVar 14) (wC (DL.D.int (1)))) wNil))) wNil))))) (wRet (wC (DL.D.bl false))) wNext)
  (gFor (wSeqI (wTup (wCons (wVar 5) (wCons (wOp DL.rAdd (wVar 5) (wC (DL.D.int (1)))) (wCons (wOp DL.rSub (wOp DL.rIx (wOp DL.rIx (wVar 14) (wC (DL.D.int (1)))) (wC (DL.D.int (0)))) (wOp DL.rMul (wC (DL.D.int (7))) (wOp DL.rIx (wOp DL.rIx (wVar 14) (wC (DL.D.int (1)))) (wC (DL.D.int (1)))))) (wCons (gFn c__law_integer 1 (wCons (wVar 0) wNil)) wNil)))))) (Tg.name 15) w__law_pairing_for0)))
def w__law_pairing_s4 : WS := (wSeq (wAsg (gFn c__law_draw 2 (wCons (wVar 0) (wCons (wC (DL.D.int (1000))) wNil))) (Tg.name 5))
  (wSeq (wAsg (wTup (wCons (wVar 5) (wCons (wC (DL.D.int (0))) wNil))) (Tg.name 6))
  (wSeq (wAsg (wTup (wCons (wOp DL.rMod (wCall rInt (wCons (wVar 5) wNil)) (wVar 3)) (wCons (wVar 3) wNil))) (Tg.name 7))
  (wSeq (wAsg (wTup (wCons (wOp DL.rMod (wCall rInt (wCons (wVar 5) wNil)) (wVar 4)) (wCons (wVar 4) wNil))) (Tg.name 8))
  (wSeq (wAsg (wTup (wCons (wOp DL.rMod (wCall rInt (wCons (wOp DL.rAdd (wOp DL.rAdd (wVar 5) (wC (DL.D.int (1)))) (gFn c__law_draw 2 (wCons (wVar 0) (wCons (wC (DL.D.int (5))) wNil)))) wNil)) (wVar 4)) (wCons (wVar 4) wNil))) (Tg.name 9))
  (wSeq (wAsg (wOp DL.rMul (wVar 3) (wOp DL.rAdd (wC (DL.D.int (1))) (gFn c__law_draw 2 (wCons (wVar 0) (wCons (wC (DL.D.int (6))) wNil))))) (Tg.name 10))
  (wSeq (wAsg (wTup (wCons (wOp DL.rMod (wCall rInt (wCons (wVar 5) wNil)) (wVar 10)) (wCons (wVar 10) wNil))) (Tg.name 11))
  (wSeq (wAsg (wTup (wCons (wOp DL.rMod (wCall rInt (wCons (wOp DL.rAdd (wVar 5) (wC (DL.D.int (1)))) wNil)) (wVar 10)) (wCons (wVar 10) wNil))) (Tg.name 12))
  (wSeq (wAsg (wLst (wCons (wTup (wCons (wVar 7) (wCons (wVar 8) wNil))) (wCons (wTup (wCons (wVar 7) (wCons (wVar 9) wNil))) (wCons (wTup (wCons (wVar 11) (wCons (wVar 7) wNil))) (wCons (wTup (wCons (wVar 7) (wCons (wVar 11) wNil))) (wCons (wTup (wCons (wVar 12) (wCons (wVar 7) wNil))) (wCons (wTup (wCons (wVar 7) (wCons (wVar 7) wNil))) (wCons (wTup (wCons (wVar 6) (wCons (wVar 7) wNil))) (wCons (wTup (wCons (wVar 7) (wCons (wVar 6) wNil))) (wCons (wTup (wCons (wVar 6) (wCons (wVar 6) wNil))) (wCons (wTup (wCons (wVar 6) (wCons (wTup (wCons (wOp DL.rAdd (wVar 5) (wC (DL.D.int (1)))) (wCons (wC (DL.D.int (0))) wNil))) wNil))) (wCons (wTup (wCons (wVar 6) (wCons (wVar 9) wNil))) (wCons (wTup (wCons (gFn c__law_residue 2 (wCons (wVar 0) (wCons (wOp DL.rAdd (wC (DL.D.int (2))) (gFn c__law_draw 2 (wCons (wVar 0) (wCons (wC (DL.D.int (9))) wNil)))) wNil))) (wCons (gFn c__law_residue 2 (wCons (wVar 0) (wCons (wOp DL.rAdd (wC (DL.D.int (2))) (gFn c__law_draw 2 (wCons (wVar 0) (wCons (wC (DL.D.int (9))) wNil)))) wNil))) wNil))) (wCons (wTup (wCons (wTup (wCons (wC (DL.D.int (0))) (wCons (wC (DL.D.int (1))) wNil))) (wCons (wVar 6) wNil))) (wCons (wTup (wCons (wTup (wCons (wC (DL.D.int (2))) (wCons (wC (DL.D.int (4))) wNil))) (wCons (wTup (wCons (wC (DL.D.int (0))) (wCons (wC (DL.D.int (6))) wNil))) wNil))) (wCons (wTup (wCons (wTup (wCons (wC (DL.D.int (1))) (wCons (wC (DL.D.int (4))) wNil))) (wCons (wTup (wCons (wC (DL.D.int (0))) (wCons (wC (DL.D.int (6))) wNil))) wNil))) (wCons (wTup (wCons (wVar 7) (wCons (wTup (wCons (wC (DL.D.int (0))) (wCons (wC (DL.D.int (1))) wNil))) wNil))) (wCons (wTup (wCons (wVar 7) (wCons (wTup (wCons (wOp DL.rIx (wVar 7) (wC (DL.D.int (0)))) (wCons (wOp DL.rMul (wVar 3) (wOp DL.rAdd (wC (DL.D.int (2))) (gFn c__law_draw 2 (wCons (wVar 0) (wCons (wC (DL.D.int (4))) wNil))))) wNil))) wNil))) wNil)))))))))))))))))) (Tg.name 13))
  (wSeq (gFor (wSeqI (wVar 13)) (Tg.name 14) w__law_pairing_for1)
  (wRet (wC (DL.D.bl true)))))))))))))
def w__law_pairing : WS := (wSeq (wAsg (wOp DL.rAdd (wC (DL.D.int (1))) (gFn c__law_draw 2 (wCons (wVar 0) (wCons (wC (DL.D.int (6))) wNil)))) (Tg.name 2))
  (wSeq (wAsg (wOp DL.rMul (wVar 2) (wOp DL.rAdd (wC (DL.D.int (1))) (gFn c__law_draw 2 (wCons (wVar 0) (wCons (wC (DL.D.int (12))) wNil))))) (Tg.name 3))
  (wSeq (wAsg (wOp DL.rMul (wVar 2) (wOp DL.rAdd (wC (DL.D.int (1))) (gFn c__law_draw 2 (wCons (wVar 0) (wCons (wC (DL.D.int (12))) wNil))))) (Tg.name 4))
  (wSeq (gIf (wTru (wVar 1)) (wSeq (wAsg (wOp DL.rMul (wVar 2) (wOp DL.rAdd (wC (DL.D.int (1))) (gFn c__law_draw 2 (wCons (wVar 0) (wCons (wC (DL.D.int (40))) wNil))))) (Tg.name 3))
  (wAsg (wOp DL.rMul (wVar 2) (wOp DL.rAdd (wC (DL.D.int (1))) (gFn c__law_draw 2 (wCons (wVar 0) (wCons (wC (DL.D.int (40))) wNil))))) (Tg.name 4))) wNext)
  (Tail w__law_pairing_s4)))))
def w__law_listing_for0 : WS := (wSeq (wAsg (wFn c__law_residue 2 (wCons (wVar 0) (wCons (wVar 5) wNil))) (Tg.name 6))
  (wSeq (wAsg (wCall rTuple (wCons (wComp (wRange1 (wCons (wVar 2) wNil)) (Tg.name 8) (wTru (wFn c__law_has 2 (wCons (wVar 6) (wCons (wVar 8) wNil)))) (wVar 8) [8]) wNil)) (Tg.name 7))
  (wIf (wNot (wTru (wFn (c__law_same 3) 2 (wCons (wFn c_marks_in 2 (wCons (wTup (wCons (wVar 2) (wCons (wVar 4) wNil))) (wCons (wVar 6) wNil))) (wCons (wVar 7) wNil))))) (wRet (wC (DL.D.bl false))) wNext)))
def w__law_listing : WS := (wSeq (wAsg (wFn c__law_picked 2 (wCons (wVar 0) (wCons (wLst (wCons (wC (DL.D.int (2))) (wCons (wC (DL.D.int (3))) (wCons (wC (DL.D.int (4))) (wCons (wC (DL.D.int (6))) (wCons (wC (DL.D.int (8))) (wCons (wC (DL.D.int (9))) (wCons (wC (DL.D.int (12))) (wCons (wOp DL.rAdd (wC (DL.D.int (2))) (wFn c__law_draw 2 (wCons (wVar 0) (wCons (wC (DL.D.int (399))) wNil)))) wNil))))))))) wNil))) (Tg.name 2))
  (wSeq (wIf (wTru (wVar 1)) (wAsg (wFn c__law_picked 2 (wCons (wVar 0) (wCons (wLst (wCons (wC (DL.D.int (10000))) (wCons (wC (DL.D.int (9240))) (wCons (wC (DL.D.int (9973))) (wCons (wC (DL.D.int (8192))) (wCons (wOp DL.rAdd (wC (DL.D.int (2))) (wFn c__law_draw 2 (wCons (wVar 0) (wCons (wC (DL.D.int (9999))) wNil)))) wNil)))))) wNil))) (Tg.name 2)) wNext)
  (wSeq (wAsg (wComp (wRange2 (wCons (wC (DL.D.int (1))) (wCons (wOp DL.rAdd (wVar 2) (wC (DL.D.int (1)))) wNil))) (Tg.name 5) (wTest (wOp DL.rEq (wOp DL.rMod (wCall rInt (wCons (wVar 2) wNil)) (wVar 5)) (wC (DL.D.int (0))))) (wVar 5) [5]) (Tg.name 3))
  (wSeq (wAsg (wFn c__law_picked 2 (wCons (wVar 0) (wCons (wLst (wCons (wC (DL.D.int (1))) (wCons (wOp DL.rSub (wVar 2) (wC (DL.D.int (1)))) wNil))) wNil))) (Tg.name 4))
  (wSeq (wFor (wSeqI (wTup (wCons (wC (DL.D.int (1))) (wCons (wVar 2) (wCons (wFn c__law_picked 2 (wCons (wVar 0) (wCons (wVar 3) wNil))) wNil))))) (Tg.name 5) w__law_listing_for0)
  (wRet (wC (DL.D.bl true))))))))
def w__law_tidying_for0 : WS := (wDrop (wMeth mAppend (wVar 6) (wCons (gFn c__law_residue 2 (wCons (wVar 0) (wCons (wOp DL.rAdd (wC (DL.D.int (1))) (wOp DL.rMul (wVar 2) (gFn c__law_draw 2 (wCons (wVar 0) (wCons (wC (DL.D.int (60))) wNil))))) wNil))) wNil)))
def w__law_tidying_for1 : WS := (wSeq (wAsg (gFn c__law_draw 2 (wCons (wVar 0) (wCons (wCall rLen (wCons (wVar 6) wNil)) wNil))) (Tg.name 11))
  (wSeq (wAsg (wOp DL.rIx (wVar 6) (wVar 9)) (Tg.name 12))
  (wSeq (wPut (wOp DL.rIx (wVar 6) (wVar 11)) (wVar 6) (wVar 9))
  (wPut (wVar 12) (wVar 6) (wVar 11)))))
def w__law_tidying_for2 : WS := (wSeq (gFor (wRange1 (wCons (wCall rLen (wCons (wVar 6) wNil)) wNil)) (Tg.name 9) w__law_tidying_for1)
  (wSeq (wAsg (wCall rTuple (wCons (wSl DL.rSl (wVar 6) wNoPart (wPart (wOp DL.rSub (wCall rLen (wCons (wVar 6) wNil)) (wOp DL.rMul (wVar 7) (gFn c__law_draw 2 (wCons (wVar 0) (wCons (wC (DL.D.int (9))) wNil))))))) wNil)) (Tg.name 10))
  (gIf (wNot (wTru (gFn (c__law_same 3) 2 (wCons (gFn c_tidy_residues 1 (wCons (wVar 10) wNil)) (wCons (gFn c__law_tidied 1 (wCons (wVar 10) wNil)) wNil))))) (wRet (wC (DL.D.bl false))) wNext)))
def w__law_tidying_s6 : WS := (wSeq (gFor (wRange1 (wCons (wC (DL.D.int (2))) wNil)) (Tg.name 7) w__law_tidying_for2)
  (wSeq (wAsg (wCall rTuple (wCons (wSl DL.rSl (wLst (wCons (wVar 3) wNil)) wNoPart (wPart (gFn c__law_draw 2 (wCons (wVar 0) (wCons (wC (DL.D.int (2))) wNil))))) wNil)) (Tg.name 8))
  (wRet (gFn (c__law_same 3) 2 (wCons (gFn c_tidy_residues 1 (wCons (wVar 8) wNil)) (wCons (wVar 8) wNil))))))
def w__law_tidying : WS := (wSeq (wAsg (wOp DL.rAdd (wC (DL.D.int (2))) (gFn c__law_draw 2 (wCons (wVar 0) (wCons (wC (DL.D.int (11))) wNil)))) (Tg.name 2))
  (wSeq (wAsg (gFn c__law_residue 2 (wCons (wVar 0) (wCons (wVar 2) wNil))) (Tg.name 3))
  (wSeq (wAsg (wOp DL.rMul (wVar 2) (wOp DL.rAdd (wC (DL.D.int (1))) (gFn c__law_draw 2 (wCons (wVar 0) (wCons (wC (DL.D.int (5))) wNil))))) (Tg.name 4))
  (wSeq (wAsg (wOp DL.rAdd (wC (DL.D.int (2))) (gFn c__law_draw 2 (wCons (wVar 0) (wCons (wC (DL.D.int (29))) wNil)))) (Tg.name 5))
  (wSeq (wAsg (wNew (wCons (wVar 3) (wCons (wTup (wCons (wOp DL.rAdd (wOp DL.rIx (wVar 3) (wC (DL.D.int (0)))) (wOp DL.rMul (wVar 2) (gFn c__law_draw 2 (wCons (wVar 0) (wCons (wOp DL.rDiv (wVar 4) (wVar 2)) wNil))))) (wCons (wVar 4) wNil))) (wCons (gFn c__law_residue 2 (wCons (wVar 0) (wCons (wVar 5) wNil))) (wCons (wTup (wCons (wOp DL.rMod (wCall rInt (wCons (wOp DL.rAdd (wOp DL.rIx (wVar 3) (wC (DL.D.int (0)))) (wC (DL.D.int (1)))) wNil)) (wVar 2)) (wCons (wVar 2) wNil))) (wCons (gFn c__law_residue 2 (wCons (wVar 0) (wCons (wC (DL.D.int (0))) wNil))) (wCons (wTup (wCons (wOp DL.rSub (wOp DL.rIx (wVar 3) (wC (DL.D.int (0)))) (wVar 2)) (wCons (wC (DL.D.int (0))) wNil))) (wCons (wVar 3) (wCons (gFn c__law_residue 2 (wCons (wVar 0) (wCons (wOp DL.rAdd (wC (DL.D.int (1))) (gFn c__law_draw 2 (wCons (wVar 0) (wCons (wC (DL.D.int (40))) wNil)))) wNil))) (wCons (gFn c__law_residue 2 (wCons (wVar 0) (wCons (wOp DL.rMul (wVar 5) (wC (DL.D.int (2)))) wNil))) wNil)))))))))) (Tg.name 6))
  (wSeq (gIf (wTru (wVar 1)) (gFor (wRange1 (wCons (wC (DL.D.int (40))) wNil)) (Tg.name 7) w__law_tidying_for0) wNext)
  (Tail w__law_tidying_s6)))))))
def w_law : WS := (wSeq (wAsg (gFn c__law_pool 2 (wCons (wVar 0) (wCons (wC (DL.D.int (303))) wNil))) (Tg.name 1))
  (wSeq (wAsg (wOp DL.rEq (gFn c__law_draw 2 (wCons (wVar 1) (wCons (wC (DL.D.int (13))) wNil))) (wC (DL.D.int (6)))) (Tg.name 2))
  (wSeq (gIf (gOr (wNot (wTru (gFn c__law_solving 2 (wCons (wVar 1) (wCons (wVar 2) wNil))))) (wNot (wTru (gFn c__law_pairing 2 (wCons (wVar 1) (wCons (wVar 2) wNil)))))) (wRet (wC (DL.D.bl false))) wNext)
  (wRet (gAndV (gFn c__law_listing 2 (wCons (wVar 1) (wCons (wVar 2) wNil))) (gFn c__law_tidying 2 (wCons (wVar 1) (wCons (wVar 2) wNil))))))))
end K03

set_option maxHeartbeats 4000000
/-! plain laws: gcds, answers modulo m -/
namespace K03
open PySem PySem.Spec DL
theorem gc_l (a b : Int) : gc a b ∣ a := by
  have h := Nat.gcd_dvd_left a.natAbs b.natAbs
  exact Int.dvd_trans (Int.natCast_dvd_natCast.mpr h) (Int.natAbs_dvd_self)
theorem gc_r (a b : Int) : gc a b ∣ b := by
  have h := Nat.gcd_dvd_right a.natAbs b.natAbs
  exact Int.dvd_trans (Int.natCast_dvd_natCast.mpr h) (Int.natAbs_dvd_self)
theorem gc_nonneg (a b : Int) : 0 ≤ gc a b := Int.natCast_nonneg _
theorem gc_pos {a b : Int} (h : a ≠ 0 ∨ b ≠ 0) : 0 < gc a b := by
  have h1 := gc_nonneg a b
  rcases Int.lt_or_eq_of_le h1 with h2 | h2
  · exact h2
  · exfalso
    have h3 : Nat.gcd a.natAbs b.natAbs = 0 := by unfold gc at h2; omega
    have h4 := Nat.gcd_eq_zero_iff.mp h3
    omega
theorem gc_zero_r {a : Int} (h : 0 ≤ a) : gc a 0 = a := by unfold gc; simp; omega
theorem gc_zero_l {a : Int} (h : 0 ≤ a) : gc 0 a = a := by unfold gc; simp; omega
theorem gc_step {l r : Int} (h0 : 0 ≤ l) (h1 : 0 < r) : gc r (l % r) = gc l r := by
  unfold gc
  congr 1
  have : (l % r).natAbs = l.natAbs % r.natAbs := by
    rw [Int.natAbs_emod _ (by omega)]
    simp [h0]
  rw [this, Nat.gcd_comm r.natAbs, ← Nat.gcd_rec, Nat.gcd_comm]
theorem bez_nat : ∀ (a b : Nat), ∃ x y : Int, (a : Int) * x + b * y = (Nat.gcd a b : Nat) := by
  intro a b
  induction a, b using Nat.gcd.induction with
  | H0 b => exact ⟨0, 1, by simp⟩
  | H1 a b ha ih =>
    obtain ⟨x, y, h⟩ := ih
    rw [Nat.gcd_rec]
    refine ⟨y - (b / a : Nat) * x, x, ?_⟩
    rw [← h]
    have e : (b : Int) = a * (b / a : Nat) + (b % a : Nat) := by
      have := Nat.div_add_mod b a
      exact_mod_cast this.symm
    have e2 : ((b % a : Nat) : Int) = b - a * (b / a : Nat) := by omega
    rw [e2, Int.mul_sub, Int.sub_mul]
    have e3 : (a : Int) * (((b / a : Nat) : Int) * x) = (a : Int) * ((b / a : Nat) : Int) * x := (Int.mul_assoc _ _ _).symm
    rw [e3]
    omega
theorem bez (a b : Int) : ∃ x y : Int, a * x + b * y = gc a b := by
  obtain ⟨x, y, h⟩ := bez_nat a.natAbs b.natAbs
  have sg : ∀ z : Int, ∃ s : Int, (z.natAbs : Int) = z * s := fun z => by
    rcases Int.natAbs_eq z with e | e
    · exact ⟨1, by omega⟩
    · exact ⟨-1, by omega⟩
  obtain ⟨s, hs⟩ := sg a
  obtain ⟨t, ht⟩ := sg b
  refine ⟨s * x, t * y, ?_⟩
  unfold gc
  rw [← h, hs, ht, Int.mul_assoc, Int.mul_assoc]
theorem gc_dvd {d a b : Int} (h1 : d ∣ a) (h2 : d ∣ b) : d ∣ gc a b := by
  obtain ⟨x, y, h⟩ := bez a b
  rw [← h]
  exact Int.dvd_add (Int.dvd_trans h1 (Int.dvd_mul_right _ _)) (Int.dvd_trans h2 (Int.dvd_mul_right _ _))
/-- what m divides, but for the common divisor -/
theorem dvd_part {f m w : Int} (hf : f ≠ 0 ∨ m ≠ 0) (h : m ∣ f * w) : m / gc f m ∣ w := by
  have gp := gc_pos hf
  obtain ⟨x, y, hb⟩ := bez f m
  obtain ⟨k, hk⟩ := gc_r f m
  have e1 : m / gc f m = k := by
    conv => lhs; lhs; rw [hk]
    exact Int.mul_ediv_cancel_left _ (by omega)
  rw [e1]
  have h2 : m ∣ gc f m * w := by
    rw [← hb, Int.add_mul]
    refine Int.dvd_add ?_ ?_
    · rw [Int.mul_assoc, Int.mul_comm x w, ← Int.mul_assoc]
      exact Int.dvd_trans h (Int.dvd_mul_right _ _)
    · rw [Int.mul_assoc]
      exact Int.dvd_mul_right _ _
  rw [hk] at h2
  have h3 : gc f m * k ∣ gc f m * w := by
    conv at h2 => lhs; rw [← hk]
    conv => lhs; rw [← hk]
    rw [← hk] at h2
    exact h2
  exact Int.dvd_of_mul_dvd_mul_left (by omega) h3
theorem part_dvd {f m v : Int} (h : m / gc f m ∣ v) : m ∣ f * v := by
  obtain ⟨k, hk⟩ := h
  obtain ⟨f', hf⟩ := gc_l f m
  obtain ⟨m', hm⟩ := gc_r f m
  by_cases hg : gc f m = 0
  · rw [hg, Int.zero_mul] at hf hm
    have : f * v = 0 := by rw [hf, Int.zero_mul]
    rw [this]; exact Int.dvd_zero _
  · have e1 : m / gc f m = m' := by
      conv => lhs; lhs; rw [hm]
      exact Int.mul_ediv_cancel_left _ hg
    rw [e1] at hk
    refine ⟨f' * k, ?_⟩
    have : f * v = gc f m * f' * (m' * k) := by rw [← hf, ← hk]
    rw [this]
    have e2 : m * (f' * k) = gc f m * m' * (f' * k) := by rw [← hm]
    rw [e2, Int.mul_assoc, Int.mul_assoc, ← Int.mul_assoc f' m' k, ← Int.mul_assoc m' f' k, Int.mul_comm f' m']
theorem sol_shift {f m t v w : Int} (hf : f ≠ 0 ∨ m ≠ 0) (h : m ∣ f * v - t) : m ∣ f * w - t ↔ m / gc f m ∣ w - v := by
  constructor
  · intro h2
    refine dvd_part hf ?_
    have := Int.dvd_sub h2 h
    rw [Int.mul_sub]
    have e : f * w - t - (f * v - t) = f * w - f * v := by omega
    rw [e] at this
    exact this
  · intro h2
    have h3 := part_dvd h2
    have := Int.dvd_add h h3
    rw [Int.mul_sub] at this
    have e : f * v - t + (f * w - f * v) = f * w - t := by omega
    rw [e] at this
    exact this
theorem emod_eq_of_dvd {a b m : Int} (h : m ∣ a - b) (h0 : 0 ≤ a) (h1 : a < m) (h2 : 0 ≤ b) (h3 : b < m) : a = b := by
  obtain ⟨k, hk⟩ := h
  have hm : 0 < m := by omega
  have : k = 0 := by
    rcases Int.lt_trichotomy k 0 with z | z | z
    · have : m * k ≤ m * (-1) := Int.mul_le_mul_of_nonneg_left (by omega) (by omega)
      omega
    · exact z
    · have : m * 1 ≤ m * k := Int.mul_le_mul_of_nonneg_left (by omega) (by omega)
      omega
  rw [this, Int.mul_zero] at hk
  omega
theorem part_pos {f m : Int} (hm : 0 < m) : 0 < m / gc f m := by
  have gp := gc_pos (a := f) (b := m) (.inr (by omega))
  exact Int.ediv_pos_of_pos_of_dvd hm (by omega) (gc_r f m)
theorem solP_uniq {f m t : Int} {r r' : D} (hf : 0 < f) (hm : 0 ≤ m) (h : SolP f m t r) (h' : SolP f m t r') : r = r' := by
  rcases h with ⟨rfl, n⟩ | ⟨y, v, rfl, hv, b⟩
  · rcases h' with ⟨rfl, _⟩ | ⟨y', _⟩
    · rfl
    · exact absurd y' n
  · rcases h' with ⟨_, n⟩ | ⟨_, v', rfl, hv', b'⟩
    · exact absurd y n
    · have hd := (sol_shift (.inl (by omega)) hv).mp hv'
      have e : v' = v := by
        by_cases h0 : m = 0
        · subst h0
          rw [Int.zero_ediv] at hd
          have := Int.zero_dvd.mp hd
          omega
        · exact emod_eq_of_dvd hd (b' h0).1 (b' h0).2 (b h0).1 (b h0).2
      rw [e]
/-- what the program tells -/
theorem solP_made {f m t x y : Int} (hf : 0 < f) (hm : 0 ≤ m) (hb : f * x + m * y = gc f m) (hd : gc f m ∣ t) : SolP f m t (pr (t / gc f m * x % (m / gc f m)) (m / gc f m)) := by
  have gp : 0 < gc f m := gc_pos (.inl (by omega))
  refine .inr ⟨hd, _, rfl, ?_, fun h0 => ?_⟩
  · have h1 : m ∣ f * (t / gc f m * x) - t := by
      obtain ⟨k, hk⟩ := hd
      have e1 : t / gc f m = k := by rw [hk]; exact Int.mul_ediv_cancel_left _ (by omega)
      rw [e1]
      refine ⟨-(k * y), ?_⟩
      have e2 : f * (k * x) = k * (f * x) := by rw [← Int.mul_assoc, Int.mul_comm f k, Int.mul_assoc]
      have e3 : f * x = gc f m - m * y := by omega
      rw [e2, e3, Int.mul_sub, Int.mul_neg, ← Int.mul_assoc m k y, Int.mul_comm m k, Int.mul_assoc]
      have e4 : t = k * gc f m := by rw [Int.mul_comm]; exact hk
      omega
    refine (sol_shift (.inl (by omega)) h1).mpr ?_
    have e := Int.emod_add_mul_ediv (t / gc f m * x) (m / gc f m)
    refine ⟨-(t / gc f m * x / (m / gc f m)), ?_⟩
    rw [Int.mul_neg]
    omega
  · have := part_pos (f := f) (m := m) (by omega)
    exact ⟨Int.emod_nonneg _ (by omega), Int.emod_lt_of_pos _ this⟩
theorem sol_any {f m t : Int} (hf : 0 < f) (hm : 0 < m) (hd : gc f m ∣ t) : ∃ v, 0 ≤ v ∧ v < m / gc f m ∧ m ∣ f * v - t := by
  obtain ⟨x, y, hb⟩ := bez f m
  rcases solP_made hf (by omega) hb hd with ⟨e, _⟩ | ⟨_, v, _, h1, h2⟩
  · exact nomatch (show pr _ _ = D.non from e)
  · exact ⟨v, (h2 (by omega)).1, (h2 (by omega)).2, h1⟩
theorem sol_gc {f m t v : Int} (h : m ∣ f * v - t) : gc f m ∣ t := by
  have h1 := Int.dvd_trans (gc_r f m) h
  have h2 : gc f m ∣ f * v := Int.dvd_trans (gc_l f m) (Int.dvd_mul_right _ _)
  have := Int.dvd_sub h2 h1
  have e : f * v - (f * v - t) = t := by omega
  rwa [e] at this
/-- the search: none up to m -/
theorem sol_none {f m t : Int} (hf : 0 < f) (hm : 0 < m) (h : ∀ v, 0 ≤ v → v < m → ¬ m ∣ f * v - t) : SolP f m t .non := by
  refine .inl ⟨rfl, fun hd => ?_⟩
  obtain ⟨v, h1, h2, h3⟩ := sol_any hf hm hd
  have h4 : m / gc f m ≤ m := Int.ediv_le_self _ (by omega)
  exact h v h1 (by omega) h3
theorem sol_first {f m t v : Int} (hf : 0 < f) (hm : 0 < m) (h0 : 0 ≤ v) (hv : m ∣ f * v - t) (h : ∀ w, 0 ≤ w → w < v → ¬ m ∣ f * w - t) : v < m / gc f m := by
  have hp := part_pos (f := f) hm
  by_cases c : v < m / gc f m
  · exact c
  · exact absurd ((sol_shift (.inl (by omega)) hv).mpr ⟨-1, by omega⟩) (h (v - m / gc f m) (by omega) (by omega))
/-- .. the second one -/
theorem sol_second {f m t v w : Int} (hf : 0 < f) (hm : 0 < m) (h0 : 0 ≤ v) (hv : m ∣ f * v - t) (h : ∀ w, 0 ≤ w → w < v → ¬ m ∣ f * w - t) (hw : v < w) (hs : m ∣ f * w - t) (hn : ∀ z, v < z → z < w → ¬ m ∣ f * z - t) : SolP f m t (pr v (w - v)) := by
  have hp := part_pos (f := f) hm
  have h1 := sol_first hf hm h0 hv h
  obtain ⟨k, hk⟩ := (sol_shift (.inl (by omega)) hv).mp hs
  have hk0 : 0 < k := by
    rcases Int.lt_or_le 0 k with z | z
    · exact z
    · have : m / gc f m * k ≤ m / gc f m * 0 := Int.mul_le_mul_of_nonneg_left z (by omega)
      omega
  have hk1 : m / gc f m * 1 ≤ m / gc f m * k := Int.mul_le_mul_of_nonneg_left (by omega) (by omega)
  have e : w = v + m / gc f m := by
    by_cases c : v + m / gc f m < w
    · exact absurd ((sol_shift (.inl (by omega)) hv).mpr ⟨1, by omega⟩) (hn (v + m / gc f m) (by omega) c)
    · omega
  refine .inr ⟨sol_gc hv, v, ?_, hv, fun _ => ⟨h0, h1⟩⟩
  rw [e]
  congr 1
  omega
/-- .. only one -/
theorem sol_only {f m t v : Int} (hf : 0 < f) (hm : 0 < m) (h0 : 0 ≤ v) (h1 : v < m) (hv : m ∣ f * v - t) (h : ∀ w, 0 ≤ w → w < v → ¬ m ∣ f * w - t) (hn : ∀ z, v < z → z < m → ¬ m ∣ f * z - t) : SolP f m t (pr v m) := by
  have hp := part_pos (f := f) hm
  have h2 := sol_first hf hm h0 hv h
  have h3 : ¬ v + m / gc f m < m := fun c => hn _ (by omega) c ((sol_shift (.inl (by omega)) hv).mpr ⟨1, by omega⟩)
  obtain ⟨k, hk⟩ := gc_r f m
  have gp := gc_pos (a := f) (b := m) (.inr (by omega))
  have e1 : m / gc f m = k := by
    conv => lhs; lhs; rw [hk]
    exact Int.mul_ediv_cancel_left _ (by omega)
  have e2 : gc f m = 1 := by
    by_cases c : 2 ≤ gc f m
    · have : 2 * k ≤ gc f m * k := Int.mul_le_mul_of_nonneg_right c (by omega)
      omega
    · omega
  refine .inr ⟨sol_gc hv, v, ?_, hv, fun _ => ⟨h0, h2⟩⟩
  rw [e2, Int.ediv_one]
end K03

set_option maxHeartbeats 4000000
/-! plain laws: two residues at once -/
namespace K03
open PySem PySem.Spec DL
theorem pr_inj {a b c d : Int} (h : pr a b = pr c d) : a = c ∧ b = d := by
  unfold pr at h
  injection h with h
  injection h with h1 h
  injection h with h2 h
  injection h1 with h1
  injection h2 with h2
  exact ⟨h1, h2⟩
theorem both_lcm {c d z : Int} (hc : c ≠ 0) (h1 : c ∣ z) (h2 : d ∣ z) : c * (d / gc c d) ∣ z := by
  obtain ⟨k, rfl⟩ := h1
  exact Int.mul_dvd_mul_left c (dvd_part (.inl hc) h2)
theorem lcm_r {c d : Int} : d ∣ c * (d / gc c d) := by
  have h := part_dvd (f := c) (m := d) (v := d / gc c d) (Int.dvd_refl _)
  exact h
theorem lcm_pos {c d : Int} (hc : 0 < c) (hd : 0 < d) : 0 < c * (d / gc c d) := Int.mul_pos hc (part_pos hd)
theorem bothP_uniq {a c b d : Int} {r r' : D} (hc : 0 ≤ c) (hd : 0 ≤ d) (h : BothP a c b d r) (h' : BothP a c b d r') : r = r' := by
  have neg : ∀ {x : Int}, x ∣ a - b → x ∣ b - a := fun {x} h => by
    have := Int.dvd_neg.mpr h
    rwa [Int.neg_sub] at this
  rcases h with ⟨e, k, rfl⟩ | ⟨e, e2, k, rfl⟩ | ⟨e, e2, k, v, rfl, v0, v1, v2, v3⟩ | ⟨n, rfl⟩
  · rcases h' with ⟨_, _, rfl⟩ | ⟨z, _⟩ | ⟨z, _⟩ | ⟨n, rfl⟩
    · rfl
    · exact absurd e z
    · exact absurd e z
    · exact absurd (by rw [e, gc_zero_l hd]; exact neg k) n
  · rcases h' with ⟨z, _⟩ | ⟨_, _, _, rfl⟩ | ⟨_, z, _⟩ | ⟨n, rfl⟩
    · exact absurd z e
    · rfl
    · exact absurd e2 z
    · exact absurd (by rw [e2, gc_zero_r hc]; exact k) n
  · rcases h' with ⟨z, _⟩ | ⟨_, z, _⟩ | ⟨_, _, _, v', rfl, w0, w1, w2, w3⟩ | ⟨n, rfl⟩
    · exact absurd z e
    · exact absurd z e2
    · have h1 : c ∣ v - v' := by
        have := Int.dvd_sub v2 w2
        have e : v - a - (v' - a) = v - v' := by omega
        rwa [e] at this
      have h2 : d ∣ v - v' := by
        have := Int.dvd_sub v3 w3
        have e : v - b - (v' - b) = v - v' := by omega
        rwa [e] at this
      rw [emod_eq_of_dvd (both_lcm e h1 h2) v0 v1 w0 w1]
    · exact absurd k n
  · rcases h' with ⟨e, k, rfl⟩ | ⟨_, e, k, rfl⟩ | ⟨_, _, k, _⟩ | ⟨_, rfl⟩
    · exact absurd (by rw [e, gc_zero_l hd]; exact neg k) n
    · exact absurd (by rw [e, gc_zero_r hc]; exact k) n
    · exact absurd k n
    · rfl
theorem bothP_at {a c b d w : Int} (hc : 0 < c) (hd : 0 < d) (h1 : c ∣ w - a) (h2 : d ∣ w - b) : BothP a c b d (pr (w % (c * (d / gc c d))) (c * (d / gc c d))) := by
  have hm := lcm_pos hc hd
  have hw : c * (d / gc c d) ∣ w - w % (c * (d / gc c d)) := ⟨w / (c * (d / gc c d)), by have := Int.emod_add_mul_ediv w (c * (d / gc c d)); omega⟩
  have hg : gc c d ∣ b - a := by
    have k1 := Int.dvd_trans (gc_l c d) h1
    have k2 := Int.dvd_trans (gc_r c d) h2
    have := Int.dvd_sub k1 k2
    have e : w - a - (w - b) = b - a := by omega
    rwa [e] at this
  refine .inr (.inr (.inl ⟨by omega, by omega, hg, _, rfl, Int.emod_nonneg _ (by omega), Int.emod_lt_of_pos _ hm, ?_, ?_⟩))
  · have := Int.dvd_sub h1 (Int.dvd_trans (Int.dvd_mul_right c (d / gc c d)) hw)
    have e : w - a - (w - w % (c * (d / gc c d))) = w % (c * (d / gc c d)) - a := by omega
    rwa [e] at this
  · have := Int.dvd_sub h2 (Int.dvd_trans lcm_r hw)
    have e : w - b - (w - w % (c * (d / gc c d))) = w % (c * (d / gc c d)) - b := by omega
    rwa [e] at this
theorem bothP_made {a c b d x y : Int} (hc : 0 ≤ c) (hd : 0 ≤ d) (hb : c * x + d * y = gc c d) (hg : gc c d ∣ b - a) (h0 : gc c d ≠ 0) :
    BothP a c b d (pr ((a + c * x * ((b - a) / gc c d)) % (c * (d / gc c d))) (c * (d / gc c d))) := by
  obtain ⟨k, hk⟩ := hg
  have ek : (b - a) / gc c d = k := by rw [hk]; exact Int.mul_ediv_cancel_left _ h0
  by_cases c0 : c = 0
  · subst c0
    rw [Int.zero_mul, Int.zero_mul, Int.zero_mul, Int.emod_zero, Int.add_zero]
    refine .inl ⟨rfl, ?_, rfl⟩
    rw [gc_zero_l hd] at hk
    exact ⟨-k, by rw [Int.mul_neg]; omega⟩
  · by_cases d0 : d = 0
    · subst d0
      rw [gc_zero_r hc] at hk ek hb ⊢
      rw [Int.zero_ediv, Int.mul_zero, Int.emod_zero, ek]
      refine .inr (.inl ⟨c0, rfl, ⟨k, hk⟩, ?_⟩)
      have e1 : c * x = c := by omega
      rw [e1, ← hk]
      congr 1
      omega
    · rw [ek]
      refine bothP_at (by omega) (by omega) ?_ ?_
      · exact ⟨x * k, by rw [← Int.mul_assoc]; omega⟩
      · refine ⟨-(y * k), ?_⟩
        have e1 : c * x = gc c d - d * y := by omega
        rw [e1, Int.sub_mul, ← hk, Int.mul_neg, ← Int.mul_assoc]
        omega
/-! filtered ranges -/
theorem filter_first {p : Nat → Bool} : ∀ (n s i : Nat) (r : List Nat), (List.range' s n).filter p = i :: r → s ≤ i ∧ i < s + n ∧ p i = true ∧ (∀ w, s ≤ w → w < i → p w = false) ∧ r = (List.range' (i + 1) (s + n - (i + 1))).filter p
  | 0, s, i, r, h => by simp at h
  | n + 1, s, i, r, h => by
    rw [List.range'_succ] at h
    by_cases hp : p s = true
    · rw [List.filter_cons_of_pos hp] at h
      injection h with h1 h2
      subst h1
      refine ⟨Nat.le_refl _, by omega, hp, fun w h3 h4 => by omega, ?_⟩
      have e : s + (n + 1) - (s + 1) = n := by omega
      rw [e, ← h2]
    · rw [List.filter_cons_of_neg hp] at h
      obtain ⟨h1, h2, h3, h4, h5⟩ := filter_first n (s + 1) i r h
      refine ⟨by omega, by omega, h3, fun w h6 h7 => ?_, ?_⟩
      · by_cases e : w = s
        · subst e; simpa using hp
        · exact h4 w (by omega) h7
      · have e : s + 1 + n - (i + 1) = s + (n + 1) - (i + 1) := by omega
        rw [h5, e]
def hitB (a c b d : Int) (i : Nat) : Bool := decide ((a + (i : Int) * c - b) % d = 0)
def foundN (a c b d : Int) (n : Nat) : List Nat := (List.range' 0 n).filter (hitB a c b d)
theorem hit_iff {a c b d : Int} {i : Nat} : hitB a c b d i = true ↔ d ∣ c * (i : Int) - (b - a) := by
  unfold hitB
  rw [decide_eq_true_eq]
  have e : a + (i : Int) * c - b = c * (i : Int) - (b - a) := by rw [Int.mul_comm]; omega
  rw [e]
  exact ⟨Int.dvd_of_emod_eq_zero, Int.emod_eq_zero_of_dvd⟩
theorem hit_no {a c b d : Int} {i : Nat} (h : hitB a c b d i = false) : ¬ d ∣ c * (i : Int) - (b - a) := fun z => by
  rw [hit_iff.mpr z] at h
  cases h
theorem found_two {a c b d : Int} (hc : 0 < c) (hd : 0 < d) {i j : Nat} {r : List Nat} (h : foundN a c b d (2 * d).toNat = i :: j :: r) : (a + (j : Int) * c) - (a + (i : Int) * c) = c * (d / gc c d) ∧ BothP a c b d (pr ((a + (i : Int) * c) % (c * (d / gc c d))) (c * (d / gc c d))) := by
  obtain ⟨h1, h2, h3, h4, h5⟩ := filter_first _ _ _ _ h
  obtain ⟨k1, k2, k3, k4, _⟩ := filter_first _ _ _ _ h5.symm
  have hv := hit_iff.mp h3
  have hw := hit_iff.mp k3
  have none1 : ∀ w : Int, 0 ≤ w → w < (i : Int) → ¬ d ∣ c * w - (b - a) := fun w w0 w1 => by
    obtain ⟨m, rfl⟩ := Int.eq_ofNat_of_zero_le w0
    exact hit_no (h4 m (by omega) (by omega))
  have none2 : ∀ w : Int, (i : Int) < w → w < (j : Int) → ¬ d ∣ c * w - (b - a) := fun w w0 w1 => by
    obtain ⟨m, rfl⟩ := Int.eq_ofNat_of_zero_le (show 0 ≤ w by omega)
    exact hit_no (k4 m (by omega) (by omega))
  have hs := sol_second hc hd (Int.natCast_nonneg i) hv none1 (show (i : Int) < (j : Int) by omega) hw none2
  have e : (j : Int) - (i : Int) = d / gc c d := by
    rcases hs with ⟨z, _⟩ | ⟨_, v, z, _⟩
    · exact nomatch (show pr _ _ = D.non from z)
    · exact (pr_inj z).2
  refine ⟨?_, bothP_at hc hd ⟨(i : Int), by rw [Int.mul_comm c]; omega⟩ ?_⟩
  · rw [← e, Int.mul_sub, Int.mul_comm c, Int.mul_comm c]
    omega
  · have e2 : a + (i : Int) * c - b = c * (i : Int) - (b - a) := by rw [Int.mul_comm]; omega
    rw [e2]
    exact hv
theorem found_few {a c b d : Int} (hc : 0 < c) (hd : 0 < d) (h : (foundN a c b d (2 * d).toNat).length < 2) : BothP a c b d .non := by
  refine .inr (.inr (.inr ⟨fun hg => ?_, rfl⟩))
  obtain ⟨v, v0, v1, hv⟩ := sol_any hc hd hg
  have hp := part_pos (f := c) hd
  have hle : d / gc c d ≤ d := Int.ediv_le_self _ (by omega)
  obtain ⟨i, rfl⟩ := Int.eq_ofNat_of_zero_le v0
  obtain ⟨k, hk⟩ := Int.eq_ofNat_of_zero_le (show 0 ≤ d / gc c d by omega)
  have m1 : i ∈ foundN a c b d (2 * d).toNat := List.mem_filter.mpr ⟨List.mem_range'_1.mpr ⟨by omega, by omega⟩, hit_iff.mpr hv⟩
  have h2 : d ∣ c * ((i + k : Nat) : Int) - (b - a) := (sol_shift (.inl (by omega)) hv).mpr ⟨1, by rw [hk]; omega⟩
  have m2 : i + k ∈ foundN a c b d (2 * d).toNat := List.mem_filter.mpr ⟨List.mem_range'_1.mpr ⟨by omega, by omega⟩, hit_iff.mpr h2⟩
  generalize foundN a c b d (2 * d).toNat = l at h m1 m2
  match l, h with
  | [], _ => cases m1
  | [x], _ =>
    have q1 := List.mem_singleton.mp m1
    have q2 := List.mem_singleton.mp m2
    omega
  | _ :: _ :: _, h =>
    simp only [List.length_cons] at h
    omega
end K03

set_option maxHeartbeats 4000000
/-! plain laws: marks of a residue; ascending lists of pairs -/
namespace K03
open PySem PySem.Spec PyProof.Rows L2 DL
theorem RgC_step {i j c : Int} (hc : 0 < c) (hc2 : c < 1073741824) (h1 : -(2 ^ 60) ≤ i) (h2 : i < 2 ^ 60) (h3 : -(2 ^ 60) ≤ j) (h4 : j < 2 ^ 60) (hij : i < j) : RgC i j c ((j - i - 1) / c + 1).toNat := by
  have e : Builtin.Range.rangeSize i j c = (j - i - 1) / c + 1 := by
    unfold Builtin.Range.rangeSize
    rw [if_pos hc, if_pos hij]
  have h0 : 0 ≤ (j - i - 1) / c := Int.ediv_nonneg (by omega) (by omega)
  have h5 : (j - i - 1) / c ≤ j - i - 1 := Int.ediv_le_self _ (by omega)
  refine ⟨by omega, by omega, ?_, by rw [e]; omega⟩
  unfold Builtin.Range.small
  rw [e, if_pos hc]
  simp only [Builtin.Range.rangeFitsLong, Bool.and_eq_true, Bool.or_eq_true, decide_eq_true_eq, beq_iff_eq]
  refine ⟨⟨⟨⟨⟨by omega, by omega⟩, by omega, by omega⟩, by omega, by omega⟩, by omega, by omega⟩, .inr ⟨by omega, by omega⟩⟩
/-- ascending lists of the same members are one -/
theorem asc_eq {α : Type} {R : α → α → Prop} (as : ∀ x y, R x y → ¬ R y x) : ∀ {l m : List α}, l.Pairwise R → m.Pairwise R → (∀ x, x ∈ l ↔ x ∈ m) → l = m
  | [], [], _, _, _ => rfl
  | [], y :: m, _, _, h => absurd ((h y).mpr List.mem_cons_self) (by simp)
  | x :: l, [], _, _, h => absurd ((h x).mp List.mem_cons_self) (by simp)
  | x :: l, y :: m, h1, h2, h => by
    obtain ⟨a1, a2⟩ := List.pairwise_cons.mp h1
    obtain ⟨b1, b2⟩ := List.pairwise_cons.mp h2
    have e : x = y := by
      rcases List.mem_cons.mp ((h x).mp List.mem_cons_self) with z | z
      · exact z
      · rcases List.mem_cons.mp ((h y).mpr List.mem_cons_self) with w | w
        · exact w.symm
        · exact absurd (b1 x z) (as _ _ (a1 y w))
    subst e
    have irr : ¬ R x x := fun z => as _ _ z z
    rw [asc_eq as a2 b2 fun z => ?_]
    constructor
    · intro hz
      rcases List.mem_cons.mp ((h z).mp (List.mem_cons_of_mem _ hz)) with w | w
      · exact absurd (a1 z hz) (by rw [w]; exact irr)
      · exact w
    · intro hz
      rcases List.mem_cons.mp ((h z).mpr (List.mem_cons_of_mem _ hz)) with w | w
      · exact absurd (b1 z hz) (by rw [w]; exact irr)
      · exact w
theorem asc_range (f : Nat → Int) (hf : ∀ i j, i < j → f i < f j) (n : Nat) : ((List.range n).map f).Pairwise (· < ·) :=
  List.pairwise_map.mpr ((List.pairwise_lt_range (n := n)).imp fun {a b} h => hf a b h)
theorem marks_step {n v d : Int} (v0 : 0 ≤ v) (v1 : v < d) (hn : d ≤ n) : stepD v d ((n - v - 1) / d + 1).toNat = (marksL n v d).map D.int := by
  have hd : 0 < d := by omega
  have hq : 0 ≤ (n - v - 1) / d := Int.ediv_nonneg (by omega) (by omega)
  have e1 : stepD v d ((n - v - 1) / d + 1).toNat = ((List.range ((n - v - 1) / d + 1).toNat).map fun k : Nat => v + (k : Int) * d).map D.int := by simp [stepD, Function.comp_def]
  rw [e1]
  congr 1
  refine asc_eq (R := (· < ·)) (fun x y h => by omega) (asc_range _ (fun i j h => ?_) _) ?_ fun x => ?_
  · have : (i : Int) * d < (j : Int) * d := Int.mul_lt_mul_of_pos_right (by omega) hd
    omega
  · unfold marksL
    exact (asc_range _ (fun i j h => by omega) _).filter _
  · unfold marksL
    rw [List.mem_map, List.mem_filter, List.mem_map]
    constructor
    · rintro ⟨k, hk, rfl⟩
      have hk' := List.mem_range.mp hk
      have h1 : (k : Int) ≤ (n - v - 1) / d := by omega
      have h2 := (Int.le_ediv_iff_mul_le hd).mp h1
      have h3 : 0 ≤ (k : Int) * d := Int.mul_nonneg (by omega) (by omega)
      obtain ⟨i, hi⟩ := Int.eq_ofNat_of_zero_le (show 0 ≤ v + (k : Int) * d by omega)
      refine ⟨⟨i, List.mem_range.mpr (by omega), hi.symm⟩, ?_⟩
      rw [decide_eq_true_eq]
      have e : v + (k : Int) * d - v = (k : Int) * d := by omega
      rw [e, Int.mul_emod_left]
    · rintro ⟨⟨i, hi, rfl⟩, hp⟩
      have hi' := List.mem_range.mp hi
      rw [decide_eq_true_eq] at hp
      obtain ⟨k, hk⟩ := Int.dvd_of_emod_eq_zero hp
      have hk0 : 0 ≤ k := by
        rcases Int.lt_or_le k 0 with z | z
        · have : d * k ≤ d * (-1) := Int.mul_le_mul_of_nonneg_left (by omega) (by omega)
          omega
        · exact z
      obtain ⟨m, rfl⟩ := Int.eq_ofNat_of_zero_le hk0
      have h1 : (m : Int) ≤ (n - v - 1) / d := (Int.le_ediv_iff_mul_le hd).mpr (by rw [Int.mul_comm]; omega)
      exact ⟨m, List.mem_range.mpr (by omega), by rw [Int.mul_comm (m : Int)]; omega⟩
/-! pairs -/
theorem lexP_as (x y : Int × Int) (h : lexP x y) : ¬ lexP y x := by unfold lexP at *; omega
theorem lexP_tri (x y : Int × Int) : lexP x y ∨ x = y ∨ lexP y x := by
  obtain ⟨a, b⟩ := x
  obtain ⟨c, d⟩ := y
  unfold lexP
  simp only [Prod.mk.injEq]
  omega
theorem lexP_tr {x y z : Int × Int} (h1 : lexP x y) (h2 : lexP y z) : lexP x z := by unfold lexP at *; omega
def leP (x y : Int × Int) : Bool := PySem.W.dataLe false D.py (pr2 x) (pr2 y)
theorem pr2_tupI (x : Int × Int) : pr2 x = tupI [x.1, x.2] := rfl
theorem leP_iff {x y : Int × Int} : leP x y = true ↔ ¬ lexP y x := by
  unfold leP
  rw [pr2_tupI, pr2_tupI, dataLe_tupI (show ([x.1, x.2] : List Int).length = [y.1, y.2].length from rfl)]
  rw [Bool.not_eq_true', ← Bool.not_eq_true]
  have : HT.lexLt [y.1, y.2] [x.1, x.2] = true ↔ lexP y x := by
    rw [HT.lexLt_cons]
    unfold lexP
    by_cases h : y.1 = x.1
    · rw [if_pos h, HT.lexLt_cons]
      by_cases h2 : y.2 = x.2
      · rw [if_pos h2, HT.lexLt_nil_nil]; simp; omega
      · rw [if_neg h2, decide_eq_true_eq]; omega
    · rw [if_neg h, decide_eq_true_eq]; omega
  rw [this]
theorem sortD_pairs (ps : List (Int × Int)) : sortD (ps.map pr2) = (ps.mergeSort leP).map pr2 := by
  unfold sortD
  exact (List.map_mergeSort (r := leP) (s := PySem.W.dataLe false D.py) (f := pr2) (l := ps) fun a _ b _ => rfl).symm
theorem sorted_pairs (ps : List (Int × Int)) : (ps.mergeSort leP).Pairwise fun x y => ¬ lexP y x := by
  have := List.pairwise_mergeSort (le := leP) (fun a b c h1 h2 => ?_) (fun a b => ?_) ps
  · exact this.imp fun {a b} h => leP_iff.mp h
  · rw [leP_iff] at *
    rcases lexP_tri a b with z | z | z
    · rcases lexP_tri b c with w | w | w
      · exact lexP_as _ _ (lexP_tr z w)
      · rw [← w]; exact lexP_as _ _ z
      · exact absurd w h2
    · rw [z]; exact h2
    · exact absurd z h1
  · rw [Bool.or_eq_true, leP_iff, leP_iff]
    rcases lexP_tri a b with z | z | z
    · exact .inl (lexP_as _ _ z)
    · rw [z]; exact .inl fun w => lexP_as _ _ w w
    · exact .inr (lexP_as _ _ z)
theorem tidyP_uniq {ks o1 o2 : List (Int × Int)} (h1 : TidyP ks o1) (h2 : TidyP ks o2) : o1 = o2 :=
  asc_eq lexP_as h1.1 h2.1 fun x => by rw [h1.2, h2.2]
end K03

set_option maxHeartbeats 2000000
namespace K03
open PySem PySem.Spec PyProof.Rows L2 DL
local macro_rules | `(tactic| walk_at "dl") => `(tactic| simp only [y_w_seq, y_w_ret, y_w_retN, y_w_if, y_w_drop, y_w_next, y_w_c, y_w_op, y_w_and, y_w_or, y_w_not, y_w_tru, y_w_ifE, y_w_call, y_w_cons, y_w_nil, y_w_tup, y_w_lst, y_w_new, y_w_fn, y_w_meth, y_w_meth0, y_w_andV, y_w_orV, y_w_notV, y_w_yes, y_w_brk, y_w_ct, atD_of, atD_cast, atD_neg1,
  x_rLtD, x_rLeD, x_rGtD, x_rGeD, y_w_sl, y_w_noPart, y_w_part, y_oI, x_sl_tup, x_sl_lst, x_sl_str, x_sl_ref, x_slN_lst, x_slN_ref, y_aK, y_w_aug, x_rAddI, y_pK2, y_w_par, y_rgTo, y_rgA1, y_rgA2, y_rgA3, y_mkTup, y_mkLst, y_mkNew, y_iM, y_it_tup, y_it_lst, x_in, x_sorted, x_sortedN, x_sset, y_chain, x_rAdd, x_rSub, x_rMul, x_rDiv, x_rMod, x_rPow, x_rLt, x_rLe, x_rGt, x_rGe, x_rAdd_s, x_rAdd_t, x_rEq_int, x_rEq_bl, x_rEq_str, x_rEq_tup, x_rEq_lst, x_rEq_nt, x_rEq_tn, x_rEq_nn, x_rEq_ni, x_rEq_in, x_rNe_int, x_rNe_bl, x_rNe_str, x_rNe_tup, x_rNe_lst, x_rNe_nt, x_rNe_tn, x_rNe_nn, x_rNe_ni, x_rNe_in, x_is_non_n, x_isn_non_n, x_is_non_b, x_isn_non_b, x_is_bl_n, x_isn_bl_n, x_is_int_n, x_isn_int_n, x_is_int_b, x_isn_int_b, x_is_str_n, x_isn_str_n, x_is_str_b, x_isn_str_b, x_is_tup_n, x_isn_tup_n, x_is_tup_b, x_isn_tup_b, x_is_lst_n, x_isn_lst_n, x_is_lst_b, x_isn_lst_b, x_is_ref_n, x_isn_ref_n, x_is_ref_b, x_isn_ref_b, x_is_bb, x_isn_bb, oM_some, sM_some, x_ix_tup, x_ix_lst, x_ix_ref, x_tru_non, x_tru_bl, x_tru_int, x_tru_str, x_tru_tup, x_tru_lst, x_tru_ref, x_len_tup, x_tuple_tup, x_list_tup, x_listN_tup, x_len_lst, x_tuple_lst, x_list_lst, x_listN_lst, x_len_str, x_rLen_ref, x_rTuple_ref, x_rList_ref, x_rListN_ref, x_int_int, x_int_bl, x_abs, x_gcd, x_max2, x_min2, x_append, x_popAt, x_pop, x_putAt, x_putAtC, x_isL_ref, x_isL_lst, y_var0, y_varS, y_tB, y_test, y_wBl, y_nB, y_neg, y_isT, y_asgN, y_bK, y_asgT, y_bindN, y_bind0, y_seqI, y_iK_t, y_iK_l, y_iK_r, y_rg1, y_rg2, y_r1K, y_r2K, y_put, y_pK, y_comp, y_compN, y_cN, y_wipe0, y_wipe1,
  List.map_cons, List.map_nil, List.cons_append, List.nil_append, List.replicate, List.getElem?_cons_zero, List.getElem?_cons_succ, List.set_cons_zero, List.set_cons_succ, List.length_cons, List.length_nil, decide_eq_true_eq, Bool.not_true, Bool.not_false, if_true, if_false, Bool.false_eq_true, bq_tt, bq_tf, bq_ft, bq_ff, sizeLine_eq, Nat.reduceAdd, Nat.reduceLeDiff, Int.reduceMul, Int.reduceSub, Int.reduceAdd, Int.reduceNeg, Int.reducePow, Int.reduceToNat, Int.reduceLT, Int.reduceLE, Nat.reduceSub, Nat.reducePow, Nat.reduceLT, z_cast0, z_pos, Int.lt_irrefl, List.eraseIdx_cons_zero, List.eraseIdx_cons_succ, true_and, Bool.not_eq_true', decide_eq_false_iff_not, Bool.not_eq_eq_eq_not, and_true, decide_true, decide_false, not_true_eq_false, not_false_eq_true,
  isT_non_int, isT_non_bool, isT_non_str, isT_non_tuple, isT_non_list, isT_bl_int, isT_bl_bool, isT_bl_str, isT_bl_tuple, isT_bl_list, isT_int_int, isT_int_bool, isT_int_str, isT_int_tuple, isT_int_list, isT_str_int, isT_str_bool, isT_str_str, isT_str_tuple, isT_str_list, isT_tup_int, isT_tup_bool, isT_tup_str, isT_tup_tuple, isT_tup_list, isT_lst_int, isT_lst_bool, isT_lst_str, isT_lst_tuple, isT_lst_list])
local macro_rules | `(tactic| walk_at "fl") => `(tactic| simp only [y_w_for, y_for0, y_forN, y_forT, y_w_seq, y_w_ret, y_w_retN, y_w_if, y_w_drop, y_w_next, y_w_c, y_w_op, y_w_and, y_w_or, y_w_not, y_w_tru, y_w_ifE, y_w_call, y_w_cons, y_w_nil, y_w_tup, y_w_lst, y_w_new, y_w_fn, y_w_meth, y_w_meth0, y_w_andV, y_w_orV, y_w_notV, y_w_yes, y_w_brk, y_w_ct, atD_of, atD_cast, atD_neg1,
  x_rLtD, x_rLeD, x_rGtD, x_rGeD, y_w_sl, y_w_noPart, y_w_part, y_oI, x_sl_tup, x_sl_lst, x_sl_str, x_sl_ref, x_slN_lst, x_slN_ref, y_aK, y_w_aug, x_rAddI, y_pK2, y_w_par, y_rgTo, y_rgA1, y_rgA2, y_rgA3, y_mkTup, y_mkLst, y_mkNew, y_iM, y_it_tup, y_it_lst, x_in, x_sorted, x_sortedN, x_sset, y_chain, x_rAdd, x_rSub, x_rMul, x_rDiv, x_rMod, x_rPow, x_rLt, x_rLe, x_rGt, x_rGe, x_rAdd_s, x_rAdd_t, x_rEq_int, x_rEq_bl, x_rEq_str, x_rEq_tup, x_rEq_lst, x_rEq_nt, x_rEq_tn, x_rEq_nn, x_rEq_ni, x_rEq_in, x_rNe_int, x_rNe_bl, x_rNe_str, x_rNe_tup, x_rNe_lst, x_rNe_nt, x_rNe_tn, x_rNe_nn, x_rNe_ni, x_rNe_in, x_is_non_n, x_isn_non_n, x_is_non_b, x_isn_non_b, x_is_bl_n, x_isn_bl_n, x_is_int_n, x_isn_int_n, x_is_int_b, x_isn_int_b, x_is_str_n, x_isn_str_n, x_is_str_b, x_isn_str_b, x_is_tup_n, x_isn_tup_n, x_is_tup_b, x_isn_tup_b, x_is_lst_n, x_isn_lst_n, x_is_lst_b, x_isn_lst_b, x_is_ref_n, x_isn_ref_n, x_is_ref_b, x_isn_ref_b, x_is_bb, x_isn_bb, oM_some, sM_some, x_ix_tup, x_ix_lst, x_ix_ref, x_tru_non, x_tru_bl, x_tru_int, x_tru_str, x_tru_tup, x_tru_lst, x_tru_ref, x_len_tup, x_tuple_tup, x_list_tup, x_listN_tup, x_len_lst, x_tuple_lst, x_list_lst, x_listN_lst, x_len_str, x_rLen_ref, x_rTuple_ref, x_rList_ref, x_rListN_ref, x_int_int, x_int_bl, x_abs, x_gcd, x_max2, x_min2, x_append, x_popAt, x_pop, x_putAt, x_putAtC, x_isL_ref, x_isL_lst, y_var0, y_varS, y_tB, y_test, y_wBl, y_nB, y_neg, y_isT, y_asgN, y_bK, y_asgT, y_bindN, y_bind0, y_seqI, y_iK_t, y_iK_l, y_iK_r, y_rg1, y_rg2, y_r1K, y_r2K, y_put, y_pK, y_comp, y_compN, y_cN, y_wipe0, y_wipe1,
  List.map_cons, List.map_nil, List.cons_append, List.nil_append, List.replicate, List.getElem?_cons_zero, List.getElem?_cons_succ, List.set_cons_zero, List.set_cons_succ, List.length_cons, List.length_nil, decide_eq_true_eq, Bool.not_true, Bool.not_false, if_true, if_false, Bool.false_eq_true, bq_tt, bq_tf, bq_ft, bq_ff, sizeLine_eq, Nat.reduceAdd, Nat.reduceLeDiff, Int.reduceMul, Int.reduceSub, Int.reduceAdd, Int.reduceNeg, Int.reducePow, Int.reduceToNat, Int.reduceLT, Int.reduceLE, Nat.reduceSub, Nat.reducePow, Nat.reduceLT, z_cast0, z_pos, Int.lt_irrefl, List.eraseIdx_cons_zero, List.eraseIdx_cons_succ, true_and, Bool.not_eq_true', decide_eq_false_iff_not, Bool.not_eq_eq_eq_not, and_true, decide_true, decide_false, not_true_eq_false, not_false_eq_true,
  isT_non_int, isT_non_bool, isT_non_str, isT_non_tuple, isT_non_list, isT_bl_int, isT_bl_bool, isT_bl_str, isT_bl_tuple, isT_bl_list, isT_int_int, isT_int_bool, isT_int_str, isT_int_tuple, isT_int_list, isT_str_int, isT_str_bool, isT_str_str, isT_str_tuple, isT_str_list, isT_tup_int, isT_tup_bool, isT_tup_str, isT_tup_tuple, isT_tup_list, isT_lst_int, isT_lst_bool, isT_lst_str, isT_lst_tuple, isT_lst_list])
abbrev EX (S : Store) (Q0 : D → Store → Prop) : EndsD := { nx := fun _ S1 => Exit S.length .non S1 Q0, rt := fun d S1 => Exit S.length d S1 Q0 }
theorem v_rest_of (ds : List D) (S : Store) (Q0 : D → Store → Prop) (hl : ds.length = 2) (hc : closedS S) (hd : closedL S.length ds) (h : c_rest_of ds S Q0) : w_rest_of (EX S Q0) (ds.map some ++ List.replicate 0 none) S := by
  obtain ⟨i, m, rfl, hm, q⟩ := h
  unfold w_rest_of
  walk_at "dl"
  by_cases h0 : m = 0
  · subst h0
    walk_at "dl"
    rw [Int.emod_zero] at q
    exact .all q
  · simp only [h0, if_false]
    exact ⟨by omega, .all q⟩
theorem v_divides (ds : List D) (S : Store) (Q0 : D → Store → Prop) (hl : ds.length = 2) (hc : closedS S) (hd : closedL S.length ds) (h : c_divides ds S Q0) : w_divides (EX S Q0) (ds.map some ++ List.replicate 0 none) S := by
  obtain ⟨a, b, rfl, hm, q⟩ := h
  unfold w_divides
  walk_at "dl"
  by_cases h0 : a = 0
  · subst h0
    walk_at "dl"
    rw [Int.emod_zero] at q
    exact .all q
  · simp only [h0, if_false]
    exact ⟨by omega, .all q⟩
theorem dwf_loop (a b : Int) (ha : 0 ≤ a) (ha2 : a < 2 ^ 63) (hb : 0 ≤ b) (hb2 : b < 2 ^ 63) (D0 : EndsD) (x0 : Option D) (S : Store)
    (fin : ∀ (x y : Int) (m : Option D), -(2 ^ 63) ≤ x → x ≤ 2 ^ 63 → a * x + b * y = gc a b → ∀ z : Int, D0.nx [some (.int a), some (.int b), some (.int (gc a b)), some (.int 0), some (.int x), some (.int z), m] S) :
    wWhile (wTest (wOp DL.rNe (wVar 3) (wC (DL.D.int 0)))) w_divisor_with_factor_while0 D0 [some (.int a), some (.int b), some (.int a), some (.int b), some (.int 1), some (.int 0), x0] S := by
  refine while_in (fun n ρ S' => S' = S ∧ ∃ (l r p f y z : Int) (mm : Option D), ρ = [some (.int a), some (.int b), some (.int l), some (.int r), some (.int p), some (.int f), mm] ∧ n = r.toNat ∧ 0 ≤ l ∧ l < 2 ^ 63 ∧ 0 ≤ r ∧ r < 2 ^ 63 ∧ gc l r = gc a b ∧
    a * p + b * y = l ∧ a * f + b * z = r ∧ (f.natAbs : Int) * l + (p.natAbs : Int) * r ≤ b ∧ p.natAbs ≤ 2 ^ 63 ∧ (1 ≤ l ∨ f = 0)) b.toNat ?_ ?_
  · refine ⟨rfl, a, b, 1, 0, 0, 1, x0, rfl, rfl, ha, ha2, hb, hb2, rfl, by omega, by omega, by simp, by decide, .inr rfl⟩
  · rintro n ρ S' ⟨rfl, l, r, p, f, y, z, mm, rfl, rfl, l0, l1, r0, r1, hg, e1, e2, hbd, hp, hlf⟩
    unfold w_divisor_with_factor_while0
    walk_at "dl"
    by_cases hr : r = 0
    · subst hr
      simp only [decide_true, Bool.not_true, Bool.false_eq_true, if_false]
      rw [gc_zero_r l0] at hg
      subst hg
      exact fin p y mm (by omega) (by omega) e1 f
    · have hr2 : 0 < r := by omega
      simp only [hr, decide_false, Bool.not_false, if_true]
      have hq0 : 0 ≤ l / r := Int.ediv_nonneg l0 (by omega)
      have hq1 : l / r ≤ l := Int.ediv_le_self _ l0
      have em := Int.emod_add_mul_ediv l r
      have el : l - l / r * r = l % r := by rw [Int.mul_comm]; omega
      refine ⟨.of hr2 (Int.lt_trans r1 (by decide)), .l (by omega) (by omega), .l (by omega) (by omega), (l - l / r * r).toNat, ?_, r, l - l / r * r, f, p - l / r * f, z, y - l / r * z, _, rfl, rfl, r0, r1, ?_, ?_, ?_, e2, ?_, ?_, ?_, .inl (by omega)⟩
      · rw [el]
        have := Int.emod_lt_of_pos l hr2
        have := Int.emod_nonneg l hr
        omega
      · rw [el]; exact Int.emod_nonneg l hr
      · rw [el]; have := Int.emod_lt_of_pos l hr2; omega
      · rw [el, gc_step l0 hr2, hg]
      · generalize l / r = q
        have h1 : a * (q * f) = q * (a * f) := by rw [← Int.mul_assoc, Int.mul_comm a, Int.mul_assoc]
        have h2 : b * (q * z) = q * (b * z) := by rw [← Int.mul_assoc, Int.mul_comm b, Int.mul_assoc]
        have h3 : q * r = q * (a * f) + q * (b * z) := by rw [← Int.mul_add, e2]
        rw [Int.mul_sub, Int.mul_sub, h1, h2]
        omega
      · have t1 : (p - l / r * f).natAbs ≤ p.natAbs + (l / r * f).natAbs := Int.natAbs_sub_le _ _
        have t2 : (l / r * f).natAbs = (l / r).natAbs * f.natAbs := Int.natAbs_mul _ _
        have t3 : ((p - l / r * f).natAbs : Int) ≤ p.natAbs + (l / r) * f.natAbs := by
          have : (((l / r).natAbs * f.natAbs : Nat) : Int) = (l / r) * f.natAbs := by
            rw [Int.natCast_mul]
            congr 1
            omega
          omega
        have t4 := Int.mul_le_mul_of_nonneg_right t3 r0
        rw [Int.add_mul] at t4
        rw [Int.mul_sub]
        have t5 : l / r * (f.natAbs : Int) * r = (f.natAbs : Int) * (l / r * r) := by rw [Int.mul_comm (l / r), Int.mul_assoc]
        omega
      · rcases hlf with h | h
        · have : (f.natAbs : Int) * 1 ≤ (f.natAbs : Int) * l := Int.mul_le_mul_of_nonneg_left h (by omega)
          have : (0 : Int) ≤ (p.natAbs : Int) * r := Int.mul_nonneg (by omega) r0
          omega
        · rw [h]; decide
theorem v_divisor_with_factor (ds : List D) (S : Store) (Q0 : D → Store → Prop) (hl : ds.length = 2) (hc : closedS S) (hd : closedL S.length ds) (h : c_divisor_with_factor ds S Q0) : w_divisor_with_factor (EX S Q0) (ds.map some ++ List.replicate 5 none) S := by
  obtain ⟨a, b, rfl, a0, a1, b0, b1, q⟩ := h
  unfold w_divisor_with_factor
  walk_at "dl"
  refine dwf_loop a b a0 a1 b0 b1 _ none S fun x y m h1 h2 h3 z => ?_
  walk_at "dl"
  exact .all (q x y h1 h2 h3)
theorem v_residue_of (ds : List D) (S : Store) (Q0 : D → Store → Prop) (hl : ds.length = 3) (hc : closedS S) (hd : closedL S.length ds) (h : c_residue_of ds S Q0) : w_residue_of (EX S Q0) (ds.map some ++ List.replicate 3 none) S := by
  obtain ⟨f, m, t, rfl, f0, f1, m0, m1, ht, q⟩ := h
  have gp : 0 < gc f m := gc_pos (.inl (by omega))
  have gl : gc f m < 2 ^ 63 := by
    have := Int.le_of_dvd f0 (gc_l f m)
    omega
  have dv : DL.DivOk (gc f m) := .of gp (Int.lt_trans gl (by decide))
  unfold w_residue_of
  walk_at "dl"
  refine ⟨f, m, rfl, by omega, f1, m0, m1, fun x y h1 h2 h3 => ?_⟩
  walk_at "dl"
  refine ⟨_, _, rfl, gc_nonneg _ _, ?_⟩
  walk_at "dl"
  by_cases hd2 : t % gc f m = 0
  · have hdv := Int.dvd_of_emod_eq_zero hd2
    simp only [hd2, decide_true, Bool.not_true, Bool.false_eq_true, if_false, not_true_eq_false]
    have hp : 0 ≤ m / gc f m := Int.ediv_nonneg m0 (by omega)
    refine ⟨dv, dv, ?_, _, _, rfl, hp, ?_⟩
    · refine .big ?_ ?_
      · have : (t / gc f m).natAbs ≤ t.natAbs := Int.natAbs_ediv_le_natAbs _ _
        have e : (2 : Nat) ^ 200 < 2 ^ 400 := by decide
        omega
      · have e : (2 : Nat) ^ 63 < 2 ^ 400 := by decide
        omega
    · walk_at "dl"
      exact .all (q _ (solP_made f0 m0 h3 hdv))
  · simp only [hd2, decide_false, Bool.not_false, if_true, not_false_eq_true]
    exact .all (q _ (.inl ⟨rfl, fun z => hd2 (Int.emod_eq_zero_of_dvd z)⟩))
theorem v_has_mark (ds : List D) (S : Store) (Q0 : D → Store → Prop) (hl : ds.length = 2) (hc : closedS S) (hd : closedL S.length ds) (h : c_has_mark ds S Q0) : w_has_mark (EX S Q0) (ds.map some ++ List.replicate 0 none) S := by
  obtain ⟨v, d, x, rfl, h0, q⟩ := h
  unfold w_has_mark pr
  walk_at "dl"
  exact ⟨d, x - v, rfl, h0, .all q⟩
theorem v_is_inside (ds : List D) (S : Store) (Q0 : D → Store → Prop) (hl : ds.length = 2) (hc : closedS S) (hd : closedL S.length ds) (h : c_is_inside ds S Q0) : w_is_inside (EX S Q0) (ds.map some ++ List.replicate 0 none) S := by
  obtain ⟨a, c, b, d, rfl, h0, h1, q⟩ := h
  unfold w_is_inside pr
  walk_at "dl"
  refine ⟨d, c, rfl, h1, ?_⟩
  unfold insB at q
  walk_at "dl"
  by_cases hh : c % d = 0
  · simp only [hh, decide_true, if_true, Bool.true_and] at q ⊢
    exact ⟨b, d, a, rfl, h1, .all q⟩
  · simp only [hh, decide_false, if_false, Bool.false_and, Bool.false_eq_true] at q ⊢
    exact .all q
theorem v__law_has (ds : List D) (S : Store) (Q0 : D → Store → Prop) (hl : ds.length = 2) (hc : closedS S) (hd : closedL S.length ds) (h : c__law_has ds S Q0) : w__law_has (EX S Q0) (ds.map some ++ List.replicate 0 none) S := by
  obtain ⟨v, d, x, rfl, h0, q⟩ := h
  unfold w__law_has pr
  walk_at "dl"
  by_cases hz : d = 0
  · subst hz
    simp only [decide_true, if_true]
    have e : decide (x = v) = decide ((x - v) % 0 = 0) := by rw [Int.emod_zero]; congr 1; exact propext ⟨fun h => by omega, fun h => by omega⟩
    rw [e]
    exact .all q
  · simp only [hz, if_false]
    exact ⟨by omega, .all q⟩
theorem v__law_inside (ds : List D) (S : Store) (Q0 : D → Store → Prop) (hl : ds.length = 2) (hc : closedS S) (hd : closedL S.length ds) (h : c__law_inside ds S Q0) : w__law_inside (EX S Q0) (ds.map some ++ List.replicate 0 none) S := by
  obtain ⟨a, c, b, d, rfl, h0, h1, q⟩ := h
  unfold w__law_inside pr
  walk_at "dl"
  unfold insB at q
  by_cases hz : c = 0
  · subst hz
    simp only [if_true]
    refine ⟨b, d, a, rfl, h1, ?_⟩
    rw [Int.zero_emod] at q
    simp only [decide_true, Bool.true_and] at q
    exact .all q
  · simp only [hz, if_false]
    by_cases hy : d = 0
    · subst hy
      simp only [if_true]
      rw [Int.emod_zero] at q
      simp only [hz, decide_false, Bool.false_and] at q
      exact .all q
    · simp only [hy, if_false]
      refine ⟨b, d, a, rfl, h1, ?_⟩
      walk_at "dl"
      have key : ((a - b) % d = 0) → (((a + c - b) % d = 0) ↔ (c % d = 0)) := fun z => by
        have e : a + c - b = c + (a - b) := by omega
        rw [e, Int.add_emod, z, Int.add_zero, Int.emod_emod]
      by_cases hh : (a - b) % d = 0
      · simp only [hh, decide_true, if_true, Bool.and_true] at q ⊢
        refine ⟨b, d, a + c, rfl, h1, ?_⟩
        have e : decide ((a + c - b) % d = 0) = decide (c % d = 0) := by congr 1; exact propext (key hh)
        rw [e]
        exact .all q
      · simp only [hh, decide_false, if_false, Bool.and_false, Bool.false_eq_true] at q ⊢
        exact .all q
end K03

set_option maxHeartbeats 2000000
namespace K03
open PySem PySem.Spec PyProof.Rows L2 DL
local macro_rules | `(tactic| walk_at "dl") => `(tactic| simp only [y_w_seq, y_w_ret, y_w_retN, y_w_if, y_w_drop, y_w_next, y_w_c, y_w_op, y_w_and, y_w_or, y_w_not, y_w_tru, y_w_ifE, y_w_call, y_w_cons, y_w_nil, y_w_tup, y_w_lst, y_w_new, y_w_fn, y_w_meth, y_w_meth0, y_w_andV, y_w_orV, y_w_notV, y_w_yes, y_w_brk, y_w_ct, atD_of, atD_cast, atD_neg1,
  x_rLtD, x_rLeD, x_rGtD, x_rGeD, y_w_sl, y_w_noPart, y_w_part, y_oI, x_sl_tup, x_sl_lst, x_sl_str, x_sl_ref, x_slN_lst, x_slN_ref, y_aK, y_w_aug, x_rAddI, y_pK2, y_w_par, y_rgTo, y_rgA1, y_rgA2, y_rgA3, y_mkTup, y_mkLst, y_mkNew, y_iM, y_it_tup, y_it_lst, x_in, x_sorted, x_sortedN, x_sset, y_chain, x_rAdd, x_rSub, x_rMul, x_rDiv, x_rMod, x_rPow, x_rLt, x_rLe, x_rGt, x_rGe, x_rAdd_s, x_rAdd_t, x_rEq_int, x_rEq_bl, x_rEq_str, x_rEq_tup, x_rEq_lst, x_rEq_nt, x_rEq_tn, x_rEq_nn, x_rEq_ni, x_rEq_in, x_rNe_int, x_rNe_bl, x_rNe_str, x_rNe_tup, x_rNe_lst, x_rNe_nt, x_rNe_tn, x_rNe_nn, x_rNe_ni, x_rNe_in, x_is_non_n, x_isn_non_n, x_is_non_b, x_isn_non_b, x_is_bl_n, x_isn_bl_n, x_is_int_n, x_isn_int_n, x_is_int_b, x_isn_int_b, x_is_str_n, x_isn_str_n, x_is_str_b, x_isn_str_b, x_is_tup_n, x_isn_tup_n, x_is_tup_b, x_isn_tup_b, x_is_lst_n, x_isn_lst_n, x_is_lst_b, x_isn_lst_b, x_is_ref_n, x_isn_ref_n, x_is_ref_b, x_isn_ref_b, x_is_bb, x_isn_bb, oM_some, sM_some, x_ix_tup, x_ix_lst, x_ix_ref, x_tru_non, x_tru_bl, x_tru_int, x_tru_str, x_tru_tup, x_tru_lst, x_tru_ref, x_len_tup, x_tuple_tup, x_list_tup, x_listN_tup, x_len_lst, x_tuple_lst, x_list_lst, x_listN_lst, x_len_str, x_rLen_ref, x_rTuple_ref, x_rList_ref, x_rListN_ref, x_int_int, x_int_bl, x_abs, x_gcd, x_max2, x_min2, x_append, x_popAt, x_pop, x_putAt, x_putAtC, x_isL_ref, x_isL_lst, y_var0, y_varS, y_tB, y_test, y_wBl, y_nB, y_neg, y_isT, y_asgN, y_bK, y_asgT, y_bindN, y_bind0, y_seqI, y_iK_t, y_iK_l, y_iK_r, y_rg1, y_rg2, y_r1K, y_r2K, y_put, y_pK, y_comp, y_compN, y_cN, y_wipe0, y_wipe1,
  List.map_cons, List.map_nil, List.cons_append, List.nil_append, List.replicate, List.getElem?_cons_zero, List.getElem?_cons_succ, List.set_cons_zero, List.set_cons_succ, List.length_cons, List.length_nil, decide_eq_true_eq, Bool.not_true, Bool.not_false, if_true, if_false, Bool.false_eq_true, bq_tt, bq_tf, bq_ft, bq_ff, sizeLine_eq, Nat.reduceAdd, Nat.reduceLeDiff, Int.reduceMul, Int.reduceSub, Int.reduceAdd, Int.reduceNeg, Int.reducePow, Int.reduceToNat, Int.reduceLT, Int.reduceLE, Nat.reduceSub, Nat.reducePow, Nat.reduceLT, z_cast0, z_pos, Int.lt_irrefl, List.eraseIdx_cons_zero, List.eraseIdx_cons_succ, true_and, Bool.not_eq_true', decide_eq_false_iff_not, Bool.not_eq_eq_eq_not, and_true, decide_true, decide_false, not_true_eq_false, not_false_eq_true,
  isT_non_int, isT_non_bool, isT_non_str, isT_non_tuple, isT_non_list, isT_bl_int, isT_bl_bool, isT_bl_str, isT_bl_tuple, isT_bl_list, isT_int_int, isT_int_bool, isT_int_str, isT_int_tuple, isT_int_list, isT_str_int, isT_str_bool, isT_str_str, isT_str_tuple, isT_str_list, isT_tup_int, isT_tup_bool, isT_tup_str, isT_tup_tuple, isT_tup_list, isT_lst_int, isT_lst_bool, isT_lst_str, isT_lst_tuple, isT_lst_list])
local macro_rules | `(tactic| walk_at "fl") => `(tactic| simp only [y_w_for, y_for0, y_forN, y_forT, y_w_seq, y_w_ret, y_w_retN, y_w_if, y_w_drop, y_w_next, y_w_c, y_w_op, y_w_and, y_w_or, y_w_not, y_w_tru, y_w_ifE, y_w_call, y_w_cons, y_w_nil, y_w_tup, y_w_lst, y_w_new, y_w_fn, y_w_meth, y_w_meth0, y_w_andV, y_w_orV, y_w_notV, y_w_yes, y_w_brk, y_w_ct, atD_of, atD_cast, atD_neg1,
  x_rLtD, x_rLeD, x_rGtD, x_rGeD, y_w_sl, y_w_noPart, y_w_part, y_oI, x_sl_tup, x_sl_lst, x_sl_str, x_sl_ref, x_slN_lst, x_slN_ref, y_aK, y_w_aug, x_rAddI, y_pK2, y_w_par, y_rgTo, y_rgA1, y_rgA2, y_rgA3, y_mkTup, y_mkLst, y_mkNew, y_iM, y_it_tup, y_it_lst, x_in, x_sorted, x_sortedN, x_sset, y_chain, x_rAdd, x_rSub, x_rMul, x_rDiv, x_rMod, x_rPow, x_rLt, x_rLe, x_rGt, x_rGe, x_rAdd_s, x_rAdd_t, x_rEq_int, x_rEq_bl, x_rEq_str, x_rEq_tup, x_rEq_lst, x_rEq_nt, x_rEq_tn, x_rEq_nn, x_rEq_ni, x_rEq_in, x_rNe_int, x_rNe_bl, x_rNe_str, x_rNe_tup, x_rNe_lst, x_rNe_nt, x_rNe_tn, x_rNe_nn, x_rNe_ni, x_rNe_in, x_is_non_n, x_isn_non_n, x_is_non_b, x_isn_non_b, x_is_bl_n, x_isn_bl_n, x_is_int_n, x_isn_int_n, x_is_int_b, x_isn_int_b, x_is_str_n, x_isn_str_n, x_is_str_b, x_isn_str_b, x_is_tup_n, x_isn_tup_n, x_is_tup_b, x_isn_tup_b, x_is_lst_n, x_isn_lst_n, x_is_lst_b, x_isn_lst_b, x_is_ref_n, x_isn_ref_n, x_is_ref_b, x_isn_ref_b, x_is_bb, x_isn_bb, oM_some, sM_some, x_ix_tup, x_ix_lst, x_ix_ref, x_tru_non, x_tru_bl, x_tru_int, x_tru_str, x_tru_tup, x_tru_lst, x_tru_ref, x_len_tup, x_tuple_tup, x_list_tup, x_listN_tup, x_len_lst, x_tuple_lst, x_list_lst, x_listN_lst, x_len_str, x_rLen_ref, x_rTuple_ref, x_rList_ref, x_rListN_ref, x_int_int, x_int_bl, x_abs, x_gcd, x_max2, x_min2, x_append, x_popAt, x_pop, x_putAt, x_putAtC, x_isL_ref, x_isL_lst, y_var0, y_varS, y_tB, y_test, y_wBl, y_nB, y_neg, y_isT, y_asgN, y_bK, y_asgT, y_bindN, y_bind0, y_seqI, y_iK_t, y_iK_l, y_iK_r, y_rg1, y_rg2, y_r1K, y_r2K, y_put, y_pK, y_comp, y_compN, y_cN, y_wipe0, y_wipe1,
  List.map_cons, List.map_nil, List.cons_append, List.nil_append, List.replicate, List.getElem?_cons_zero, List.getElem?_cons_succ, List.set_cons_zero, List.set_cons_succ, List.length_cons, List.length_nil, decide_eq_true_eq, Bool.not_true, Bool.not_false, if_true, if_false, Bool.false_eq_true, bq_tt, bq_tf, bq_ft, bq_ff, sizeLine_eq, Nat.reduceAdd, Nat.reduceLeDiff, Int.reduceMul, Int.reduceSub, Int.reduceAdd, Int.reduceNeg, Int.reducePow, Int.reduceToNat, Int.reduceLT, Int.reduceLE, Nat.reduceSub, Nat.reducePow, Nat.reduceLT, z_cast0, z_pos, Int.lt_irrefl, List.eraseIdx_cons_zero, List.eraseIdx_cons_succ, true_and, Bool.not_eq_true', decide_eq_false_iff_not, Bool.not_eq_eq_eq_not, and_true, decide_true, decide_false, not_true_eq_false, not_false_eq_true,
  isT_non_int, isT_non_bool, isT_non_str, isT_non_tuple, isT_non_list, isT_bl_int, isT_bl_bool, isT_bl_str, isT_bl_tuple, isT_bl_list, isT_int_int, isT_int_bool, isT_int_str, isT_int_tuple, isT_int_list, isT_str_int, isT_str_bool, isT_str_str, isT_str_tuple, isT_str_list, isT_tup_int, isT_tup_bool, isT_tup_str, isT_tup_tuple, isT_tup_list, isT_lst_int, isT_lst_bool, isT_lst_str, isT_lst_tuple, isT_lst_list])
theorem pool_loop (cs xs ns : List Int) (salt m : Int) (v : Option D) (D0 : EndsD) (h0 : 0 ≤ m) (h1 : m < 2147483647)
    (hnx : ∀ (m : Int) (v : Option D), 0 ≤ m → m < 2147483647 → D0.nx [some (.lst (ns.map .int)), some (.int salt), some (.ref 0), some (.int m), v] [.lst (cs.map .int)]) :
    forR (Tg.name 4) w__law_pool_for0 (fun S => S[0]? = some (.lst (cs.map .int))) D0 (xs.map .int) [some (.lst (ns.map .int)), some (.int salt), some (.ref 0), some (.int m), v] [.lst (cs.map .int)] := by
  induction xs generalizing m v with
  | nil =>
    walk_at "fl"
    exact hnx m v h0 h1
  | cons x xs ih =>
    rw [List.map_cons]
    unfold w__law_pool_for0 at ih ⊢
    walk_at "fl"
    exact ⟨.r (by decide) (by decide), ih _ _ (Int.emod_nonneg _ (by decide)) (Int.emod_lt_of_pos _ (by decide))⟩
theorem v__law_pool (ds : List D) (S : Store) (Q0 : D → Store → Prop) (hl : ds.length = 2) (hc : closedS S) (hd : closedL S.length ds) (h : c__law_pool ds S Q0) : w__law_pool (EX S Q0) (ds.map some ++ List.replicate 3 none) S := by
  obtain ⟨ns, salt, rfl, rfl, hn, s0, s1, q⟩ := h
  unfold w__law_pool
  walk_at "fl"
  refine compR_map (f := fun x => match x with | .int i => .int (if i < 0 then -i else i) | d => d) trivial _ [] (by simp [sizeLine_eq]; omega) (fun x hx => ?_) ?_
  · obtain ⟨i, hi, rfl⟩ := List.mem_map.mp hx
    refine ⟨_, rfl, fun Q q => ?_⟩
    walk_at "fl"
    exact q
  · have e : [] ++ (ns.map D.int).map (fun x => match x with | .int i => D.int (if i < 0 then -i else i) | d => d) = (ns.map fun i => if i < 0 then -i else i).map D.int := by simp
    rw [e]
    generalize hcs : (ns.map fun i => if i < 0 then -i else i) = cs
    have hcl : cs.length ≤ 63 := by rw [← hcs]; simpa using hn
    have hc0 : ∀ c ∈ cs, 0 ≤ c := by
      intro c hc
      rw [← hcs] at hc
      obtain ⟨i, _, rfl⟩ := List.mem_map.mp hc
      split <;> omega
    walk_at "fl"
    refine ⟨by simp; omega, ?_⟩
    refine pool_loop cs cs ns salt salt none _ s0 s1 (fun m v h0 h1 => ?_)
    walk_at "fl"
    exact .all (q ⟨0, m + 1, cs⟩ ⟨by show (0 : Int) ≤ 0; omega, by show 0 ≤ m + 1; omega, by show m + 1 ≤ 2147483648; omega, hcl, hc0⟩)
/-- a draw -/
theorem v__law_draw (ds : List D) (S : Store) (Q0 : D → Store → Prop) (hl : ds.length = 2) (hc : closedS S) (hd : closedL S.length ds) (h : c__law_draw ds S Q0) : w__law_draw (EX S Q0) (ds.map some ++ List.replicate 2 none) S := by
  obtain ⟨many, ⟨a, b, cs⟩, G, rfl, rfl, ok, m0, m1, q⟩ := h
  obtain ⟨a0, b0, b1, cl, c0⟩ := ok
  simp only at a0 b0 b1 cl c0
  have hdv : DL.DivOk many := .of m0 m1
  have h23 : DL.DivOk 23 := .of (by decide) (by decide)
  have mul1 : ∀ x : Int, DL.MulOk x 45991 := fun x => .r (by decide) (by decide)
  have mul2 : ∀ x : Int, DL.MulOk x 30269 := fun x => .r (by decide) (by decide)
  have cp : CPow 10 18 := by unfold CPow; decide
  have r1 : ∀ x : Int, 0 ≤ x % 2147483647 ∧ x % 2147483647 < 2147483647 := fun x => ⟨Int.emod_nonneg _ (by decide), Int.emod_lt_of_pos _ (by decide)⟩
  have rm : ∀ x : Int, 0 ≤ x % many ∧ x % many < many := fun x => ⟨Int.emod_nonneg _ (by omega), Int.emod_lt_of_pos _ m0⟩
  have dm : ∀ x : Int, 0 ≤ x → 0 ≤ x / many := fun x hx => Int.ediv_nonneg hx (by omega)
  have fin : ∀ (d a b : Int) (cs : List Int), 0 ≤ a → 0 ≤ b → b ≤ 2147483648 → cs.length ≤ 63 → (∀ c ∈ cs, 0 ≤ c) → 0 ≤ d → d < many → Exit (mkP ⟨a, b, cs⟩ G).length (.int d) (.lst (cs.map .int) :: .lst [.int a, .int b, .ref 0] :: G) Q0 :=
    fun d a b cs h1 h2 h3 h4 h5 h6 h7 => .all (q d ⟨a, b, cs⟩ ⟨h1, h2, h3, h4, h5⟩ h6 h7)
  have cut : (1000000000000000000 : Int) = 10 ^ 18 := by decide
  unfold w__law_draw mkP
  by_cases ha : a = 0
  · subst ha
    cases cs with
    | nil =>
      walk_at "fl"
      simp only [mul1, mul2, h23, hdv, true_and]
      exact ⟨m0, fin _ 0 _ [] (by omega) (r1 _).1 (by have := (r1 ((b * 45991 + 65432) % 2147483647 * 30269 + 5)).2; omega) (by simp) (by simp) (rm _).1 (rm _).2⟩
    | cons c cs =>
      have hc0 := c0 c (by simp)
      have hcs : ∀ c ∈ cs, 0 ≤ c := fun x hx => c0 x (by simp [hx])
      have hcl : cs.length ≤ 63 := by simp at cl; omega
      by_cases hc : 1000000000000000000 ≤ c
      · have hc1 : 0 < c := by omega
        walk_at "fl"
        simp only [mul1, mul2, h23, hdv, hc, hc1, cp, true_and, if_true]
        exact ⟨m0, fin _ _ _ cs (dm c (by omega)) b0 b1 hcl hcs (rm _).1 (rm _).2⟩
      · walk_at "fl"
        simp only [mul1, mul2, h23, hdv, hc, cp, true_and, if_false, decide_false]
        exact ⟨m0, fin _ 0 _ cs (by omega) (r1 _).1 (by have := (r1 ((((b * 30269 + c) % 2147483647 + 1) * 45991 + 65432) % 2147483647 * 30269 + 5)).2; omega) hcl hcs (rm _).1 (rm _).2⟩
  · walk_at "fl"
    have ha' : 0 < a := by omega
    simp only [ha, ha', if_false, if_true, hdv, m0, true_and]
    exact fin _ _ _ _ (dm a a0) b0 b1 cl c0 (rm a).1 (rm a).2
theorem atD_mem {ds : List D} {i : Int} (h0 : 0 ≤ i) (h1 : i < ds.length) : ∃ d, atD ds i = some d ∧ d ∈ ds := by
  obtain ⟨j, rfl⟩ := Int.eq_ofNat_of_zero_le h0
  have hj : j < ds.length := by omega
  exact ⟨ds[j], by rw [atD_cast, List.getElem?_eq_getElem hj], List.getElem_mem hj⟩
theorem v__law_picked (ds : List D) (S : Store) (Q0 : D → Store → Prop) (hl : ds.length = 2) (hc : closedS S) (hd : closedL S.length ds) (h : c__law_picked ds S Q0) : w__law_picked (EX S Q0) (ds.map some ++ List.replicate 0 none) S := by
  obtain ⟨rows, p, G, rfl, rfl, ok, hne, hlen, q⟩ := h
  have hpos : 0 < rows.length := List.length_pos_iff.mpr hne
  unfold w__law_picked
  walk_at "fl"
  refine ⟨_, p, G, rfl, rfl, ok, by omega, by omega, fun d p' ok' h0 h1 => ?_⟩
  obtain ⟨x, hx, hm⟩ := atD_mem h0 h1
  walk_at "fl"
  rw [hx]
  walk_at "fl"
  exact .all (q x p' ok' hm)
theorem draw_in {many : Int} {p : PoolSt} {G : Store} {Q : D → Store → Prop} (ok : p.Ok) (h0 : 0 < many) (h1 : many < 2 ^ 200) (q : ∀ (d : Int) (p' : PoolSt), p'.Ok → 0 ≤ d → d < many → Q (.int d) (mkP p' G)) : c__law_draw [.ref 1, .int many] (mkP p G) Q :=
  ⟨many, p, G, rfl, rfl, ok, h0, h1, q⟩
end K03

set_option maxHeartbeats 2000000
namespace K03
open PySem PySem.Spec PyProof.Rows L2 DL
local macro_rules | `(tactic| walk_at "dl") => `(tactic| simp only [y_w_seq, y_w_ret, y_w_retN, y_w_if, y_w_drop, y_w_next, y_w_c, y_w_op, y_w_and, y_w_or, y_w_not, y_w_tru, y_w_ifE, y_w_call, y_w_cons, y_w_nil, y_w_tup, y_w_lst, y_w_new, y_w_fn, y_w_meth, y_w_meth0, y_w_andV, y_w_orV, y_w_notV, y_w_yes, y_w_brk, y_w_ct, atD_of, atD_cast, atD_neg1,
  x_rLtD, x_rLeD, x_rGtD, x_rGeD, y_w_sl, y_w_noPart, y_w_part, y_oI, x_sl_tup, x_sl_lst, x_sl_str, x_sl_ref, x_slN_lst, x_slN_ref, y_aK, y_w_aug, x_rAddI, y_pK2, y_w_par, y_rgTo, y_rgA1, y_rgA2, y_rgA3, y_mkTup, y_mkLst, y_mkNew, y_iM, y_it_tup, y_it_lst, x_in, x_sorted, x_sortedN, x_sset, y_chain, x_rAdd, x_rSub, x_rMul, x_rDiv, x_rMod, x_rPow, x_rLt, x_rLe, x_rGt, x_rGe, x_rAdd_s, x_rAdd_t, x_rEq_int, x_rEq_bl, x_rEq_str, x_rEq_tup, x_rEq_lst, x_rEq_nt, x_rEq_tn, x_rEq_nn, x_rEq_ni, x_rEq_in, x_rNe_int, x_rNe_bl, x_rNe_str, x_rNe_tup, x_rNe_lst, x_rNe_nt, x_rNe_tn, x_rNe_nn, x_rNe_ni, x_rNe_in, x_is_non_n, x_isn_non_n, x_is_non_b, x_isn_non_b, x_is_bl_n, x_isn_bl_n, x_is_int_n, x_isn_int_n, x_is_int_b, x_isn_int_b, x_is_str_n, x_isn_str_n, x_is_str_b, x_isn_str_b, x_is_tup_n, x_isn_tup_n, x_is_tup_b, x_isn_tup_b, x_is_lst_n, x_isn_lst_n, x_is_lst_b, x_isn_lst_b, x_is_ref_n, x_isn_ref_n, x_is_ref_b, x_isn_ref_b, x_is_bb, x_isn_bb, oM_some, sM_some, x_ix_tup, x_ix_lst, x_ix_ref, x_tru_non, x_tru_bl, x_tru_int, x_tru_str, x_tru_tup, x_tru_lst, x_tru_ref, x_len_tup, x_tuple_tup, x_list_tup, x_listN_tup, x_len_lst, x_tuple_lst, x_list_lst, x_listN_lst, x_len_str, x_rLen_ref, x_rTuple_ref, x_rList_ref, x_rListN_ref, x_int_int, x_int_bl, x_abs, x_gcd, x_max2, x_min2, x_append, x_popAt, x_pop, x_putAt, x_putAtC, x_isL_ref, x_isL_lst, y_var0, y_varS, y_tB, y_test, y_wBl, y_nB, y_neg, y_isT, y_asgN, y_bK, y_asgT, y_bindN, y_bind0, y_seqI, y_iK_t, y_iK_l, y_iK_r, y_rg1, y_rg2, y_r1K, y_r2K, y_put, y_pK, y_comp, y_compN, y_cN, y_wipe0, y_wipe1,
  List.map_cons, List.map_nil, List.cons_append, List.nil_append, List.replicate, List.getElem?_cons_zero, List.getElem?_cons_succ, List.set_cons_zero, List.set_cons_succ, List.length_cons, List.length_nil, decide_eq_true_eq, Bool.not_true, Bool.not_false, if_true, if_false, Bool.false_eq_true, bq_tt, bq_tf, bq_ft, bq_ff, sizeLine_eq, Nat.reduceAdd, Nat.reduceLeDiff, Int.reduceMul, Int.reduceSub, Int.reduceAdd, Int.reduceNeg, Int.reducePow, Int.reduceToNat, Int.reduceLT, Int.reduceLE, Nat.reduceSub, Nat.reducePow, Nat.reduceLT, z_cast0, z_pos, Int.lt_irrefl, List.eraseIdx_cons_zero, List.eraseIdx_cons_succ, true_and, Bool.not_eq_true', decide_eq_false_iff_not, Bool.not_eq_eq_eq_not, and_true, decide_true, decide_false, not_true_eq_false, not_false_eq_true,
  isT_non_int, isT_non_bool, isT_non_str, isT_non_tuple, isT_non_list, isT_bl_int, isT_bl_bool, isT_bl_str, isT_bl_tuple, isT_bl_list, isT_int_int, isT_int_bool, isT_int_str, isT_int_tuple, isT_int_list, isT_str_int, isT_str_bool, isT_str_str, isT_str_tuple, isT_str_list, isT_tup_int, isT_tup_bool, isT_tup_str, isT_tup_tuple, isT_tup_list, isT_lst_int, isT_lst_bool, isT_lst_str, isT_lst_tuple, isT_lst_list])
local macro_rules | `(tactic| walk_at "fl") => `(tactic| simp only [y_w_for, y_for0, y_forN, y_forT, y_w_seq, y_w_ret, y_w_retN, y_w_if, y_w_drop, y_w_next, y_w_c, y_w_op, y_w_and, y_w_or, y_w_not, y_w_tru, y_w_ifE, y_w_call, y_w_cons, y_w_nil, y_w_tup, y_w_lst, y_w_new, y_w_fn, y_w_meth, y_w_meth0, y_w_andV, y_w_orV, y_w_notV, y_w_yes, y_w_brk, y_w_ct, atD_of, atD_cast, atD_neg1,
  x_rLtD, x_rLeD, x_rGtD, x_rGeD, y_w_sl, y_w_noPart, y_w_part, y_oI, x_sl_tup, x_sl_lst, x_sl_str, x_sl_ref, x_slN_lst, x_slN_ref, y_aK, y_w_aug, x_rAddI, y_pK2, y_w_par, y_rgTo, y_rgA1, y_rgA2, y_rgA3, y_mkTup, y_mkLst, y_mkNew, y_iM, y_it_tup, y_it_lst, x_in, x_sorted, x_sortedN, x_sset, y_chain, x_rAdd, x_rSub, x_rMul, x_rDiv, x_rMod, x_rPow, x_rLt, x_rLe, x_rGt, x_rGe, x_rAdd_s, x_rAdd_t, x_rEq_int, x_rEq_bl, x_rEq_str, x_rEq_tup, x_rEq_lst, x_rEq_nt, x_rEq_tn, x_rEq_nn, x_rEq_ni, x_rEq_in, x_rNe_int, x_rNe_bl, x_rNe_str, x_rNe_tup, x_rNe_lst, x_rNe_nt, x_rNe_tn, x_rNe_nn, x_rNe_ni, x_rNe_in, x_is_non_n, x_isn_non_n, x_is_non_b, x_isn_non_b, x_is_bl_n, x_isn_bl_n, x_is_int_n, x_isn_int_n, x_is_int_b, x_isn_int_b, x_is_str_n, x_isn_str_n, x_is_str_b, x_isn_str_b, x_is_tup_n, x_isn_tup_n, x_is_tup_b, x_isn_tup_b, x_is_lst_n, x_isn_lst_n, x_is_lst_b, x_isn_lst_b, x_is_ref_n, x_isn_ref_n, x_is_ref_b, x_isn_ref_b, x_is_bb, x_isn_bb, oM_some, sM_some, x_ix_tup, x_ix_lst, x_ix_ref, x_tru_non, x_tru_bl, x_tru_int, x_tru_str, x_tru_tup, x_tru_lst, x_tru_ref, x_len_tup, x_tuple_tup, x_list_tup, x_listN_tup, x_len_lst, x_tuple_lst, x_list_lst, x_listN_lst, x_len_str, x_rLen_ref, x_rTuple_ref, x_rList_ref, x_rListN_ref, x_int_int, x_int_bl, x_abs, x_gcd, x_max2, x_min2, x_append, x_popAt, x_pop, x_putAt, x_putAtC, x_isL_ref, x_isL_lst, y_var0, y_varS, y_tB, y_test, y_wBl, y_nB, y_neg, y_isT, y_asgN, y_bK, y_asgT, y_bindN, y_bind0, y_seqI, y_iK_t, y_iK_l, y_iK_r, y_rg1, y_rg2, y_r1K, y_r2K, y_put, y_pK, y_comp, y_compN, y_cN, y_wipe0, y_wipe1,
  List.map_cons, List.map_nil, List.cons_append, List.nil_append, List.replicate, List.getElem?_cons_zero, List.getElem?_cons_succ, List.set_cons_zero, List.set_cons_succ, List.length_cons, List.length_nil, decide_eq_true_eq, Bool.not_true, Bool.not_false, if_true, if_false, Bool.false_eq_true, bq_tt, bq_tf, bq_ft, bq_ff, sizeLine_eq, Nat.reduceAdd, Nat.reduceLeDiff, Int.reduceMul, Int.reduceSub, Int.reduceAdd, Int.reduceNeg, Int.reducePow, Int.reduceToNat, Int.reduceLT, Int.reduceLE, Nat.reduceSub, Nat.reducePow, Nat.reduceLT, z_cast0, z_pos, Int.lt_irrefl, List.eraseIdx_cons_zero, List.eraseIdx_cons_succ, true_and, Bool.not_eq_true', decide_eq_false_iff_not, Bool.not_eq_eq_eq_not, and_true, decide_true, decide_false, not_true_eq_false, not_false_eq_true,
  isT_non_int, isT_non_bool, isT_non_str, isT_non_tuple, isT_non_list, isT_bl_int, isT_bl_bool, isT_bl_str, isT_bl_tuple, isT_bl_list, isT_int_int, isT_int_bool, isT_int_str, isT_int_tuple, isT_int_list, isT_str_int, isT_str_bool, isT_str_str, isT_str_tuple, isT_str_list, isT_tup_int, isT_tup_bool, isT_tup_str, isT_tup_tuple, isT_tup_list, isT_lst_int, isT_lst_bool, isT_lst_str, isT_lst_tuple, isT_lst_list])
set_option pp.deepTerms false
set_option pp.deepTerms.threshold 4
set_option pp.maxSteps 400
local macro_rules | `(tactic| walk_at "w") => `(tactic| conv => whnf)
local macro_rules | `(tactic| walk_at "side") => `(tactic| first | exact True.intro | omega | rfl | assumption | decide | exact Int.mul_pos (by omega) (by omega) | exact DL.MulOk.l (by omega) (by omega) | exact DL.MulOk.r (by omega) (by omega) | exact DL.MulOk.big (by omega) (by omega) | exact DL.DivOk.of (by omega) (by omega) | (simp only [sizeLine_eq, List.length_append, List.length_cons, List.length_nil, List.length_map]; omega))
local macro_rules | `(tactic| walk_at "call") => `(tactic| fail "no contract")
local macro_rules | `(tactic| walk_at "go1") => `(tactic| ((conv => whnf); first | (refine And.intro ?_ ?_; ((walk_at "side"))) | walk_at "call" | (refine cIf_t rfl ?_) | refine cIf_f rfl ?_))
local macro_rules | `(tactic| walk_at "go") => `(tactic| ((repeat (walk_at "go1")); try (conv => whnf)))
local macro_rules | `(tactic| walk_at "yes") => `(tactic| (refine cIf_t (by first | rfl | simp | (simp; omega)) ?_; walk_at "go"))
local macro_rules | `(tactic| walk_at "no") => `(tactic| (refine cIf_f (by first | rfl | simp | (simp; omega)) ?_; walk_at "go"))
theorem v__law_same (n : Nat) (ds : List D) (S : Store) (Q0 : D → Store → Prop) (hl : ds.length = 2) (hc : closedS S) (hd : closedL S.length ds) (h : c__law_same (n + 1) ds S Q0) : w__law_same (c__law_same n) (EX S Q0) (ds.map some ++ List.replicate 1 none) S := by
  obtain ⟨x, rfl, hx, q⟩ := h
  rcases hx with (rfl | ⟨b, rfl⟩ | ⟨i, rfl⟩) | ⟨ts, rfl, hn, hx⟩
  · walk_at "go"
    exact Exit.all q
  · cases b
    · walk_at "go"
      exact Exit.all q
    · walk_at "go"
      exact Exit.all q
  · walk_at "go"
    exact Exit.all (by simpa using q)
  · walk_at "go"
    walk_at "no"
    refine forG_range (lo := 0) (fun i ρ S' => S' = S ∧ ∃ v, ρ = [some (.tup ts), some (.tup ts), v]) ⟨rfl, _, rfl⟩ ?_ ?_
    · rintro i ρ S' k hi ⟨rfl, v, rfl⟩ hk
      have hi' : i < ts.length := by simpa using hi
      obtain ⟨d, hd⟩ : ∃ d, ts[i]? = some d := ⟨_, List.getElem?_eq_getElem hi'⟩
      have e2 : atD ts ((0 : Int) + (i : Int)) = some d := by rw [Int.zero_add, atD_cast]; exact hd
      refine ⟨trivial, _, rfl, ?_⟩
      have hs := hx d (List.mem_of_getElem? hd)
      cases n with
      | zero => exact hs.elim
      | succ n =>
        walk_at "go"
        rw [e2]
        walk_at "go"
        rw [e2]
        walk_at "go"
        refine ask_in ⟨d, rfl, hs, ?_⟩
        walk_at "go"
        exact hk _ _ ⟨rfl, _, rfl⟩
    · rintro ρ S' ⟨rfl, v, rfl⟩
      refine ⟨trivial, ?_⟩
      walk_at "go"
      exact Exit.all q
/-- the search of an answer -/
theorem solved_loop (f m t : Int) (f0 : 0 < f) (f1 : f < 2 ^ 63) (m0 : 0 < m) (m1 : m < 2 ^ 60) (D0 : EndsD) (S : Store) (hrt : ∀ r, SolP f m t r → D0.rt r S)
    (hnx : ∀ (x v : Option D) , (∃ r, (r = .non ∧ x = some .non ∨ ∃ i, x = some (.int i) ∧ r = pr i m) ∧ SolP f m t r) → D0.nx [some (.int f), some (.int m), some (.int t), x, v] S) : ∀ (k lo : Nat), (lo : Int) + k = m → ∀ (v : Option D) (x : Option Int),
      (match x with | none => ∀ w, 0 ≤ w → w < (lo : Int) → ¬ m ∣ f * w - t | some i => 0 ≤ i ∧ i < (lo : Int) ∧ m ∣ f * i - t ∧ (∀ w, 0 ≤ w → w < i → ¬ m ∣ f * w - t) ∧ ∀ w, i < w → w < (lo : Int) → ¬ m ∣ f * w - t) →
      forR (Tg.name 4) w__law_solved_for0 (fun _ => True) D0 (intsD (lo : Int) k) [some (.int f), some (.int m), some (.int t), some (match x with | none => .non | some i => .int i), v] S
  | 0, lo, e, v, x, hx => by
    rw [intsD_zero]
    walk_at "fl"
    have e' : (lo : Int) = m := by omega
    rw [e'] at hx
    cases x with
    | none => exact hnx _ v ⟨.non, .inl ⟨rfl, rfl⟩, sol_none f0 m0 hx⟩
    | some i => exact hnx _ v ⟨_, .inr ⟨i, rfl, rfl⟩, sol_only f0 m0 hx.1 hx.2.1 hx.2.2.1 hx.2.2.2.1 hx.2.2.2.2⟩
  | k + 1, lo, e, v, x, hx => by
    rw [intsD_succ]
    walk_at "fl"
    unfold w__law_solved_for0
    walk_at "fl"
    have mo : DL.MulOk f (lo : Int) := .l (by omega) (by omega)
    have e3 : ((lo : Int) + 1) = ((lo + 1 : Nat) : Int) := by omega
    refine ⟨mo, m0, ?_⟩
    by_cases hd : (f * (lo : Int) - t) % m = 0
    · have hdv := Int.dvd_of_emod_eq_zero hd
      simp only [hd, if_true]
      cases x with
      | none =>
        walk_at "fl"
        have := solved_loop f m t f0 f1 m0 m1 D0 S hrt hnx k (lo + 1) (by omega) (some (.int (lo : Int))) (some (lo : Int)) ⟨by omega, by omega, hdv, hx, fun w h1 h2 => by omega⟩
        rw [e3]
        exact this
      | some i =>
        walk_at "fl"
        exact hrt _ (sol_second f0 m0 hx.1 hx.2.2.1 hx.2.2.2.1 hx.2.1 hdv hx.2.2.2.2)
    · have hdv : ¬ m ∣ f * (lo : Int) - t := fun z => hd (Int.emod_eq_zero_of_dvd z)
      simp only [hd, if_false]
      rw [e3]
      refine solved_loop f m t f0 f1 m0 m1 D0 S hrt hnx k (lo + 1) (by omega) (some (.int (lo : Int))) x ?_
      cases x with
      | none =>
        intro w h1 h2
        by_cases c : w = (lo : Int)
        · rw [c]; exact hdv
        · exact hx w h1 (by omega)
      | some i =>
        refine ⟨hx.1, by have := hx.2.1; omega, hx.2.2.1, hx.2.2.2.1, fun w h1 h2 => ?_⟩
        by_cases c : w = (lo : Int)
        · rw [c]; exact hdv
        · exact hx.2.2.2.2 w h1 (by omega)
theorem v__law_solved (ds : List D) (S : Store) (Q0 : D → Store → Prop) (hl : ds.length = 3) (hc : closedS S) (hd : closedL S.length ds) (h : c__law_solved ds S Q0) : w__law_solved (EX S Q0) (ds.map some ++ List.replicate 2 none) S := by
  obtain ⟨f, m, t, rfl, f0, f1, m0, m1, ht, q⟩ := h
  have dv : DL.DivOk f := .of f0 (Int.lt_trans f1 (by decide))
  unfold w__law_solved
  walk_at "dl"
  by_cases hm : m = 0
  · subst hm
    simp only [if_true]
    refine ⟨f0, ?_⟩
    by_cases hd2 : t % f = 0
    · simp only [hd2, decide_true, Bool.not_true, Bool.false_eq_true, if_false, not_true_eq_false]
      refine ⟨dv, .all (q _ (.inr ⟨?_, t / f, ?_, ?_, fun z => (z rfl).elim⟩))⟩
      · rw [gc_zero_r (by omega)]; exact Int.dvd_of_emod_eq_zero hd2
      · rw [Int.zero_ediv]; rfl
      · have := Int.mul_ediv_cancel' (Int.dvd_of_emod_eq_zero hd2)
        rw [this, Int.sub_self]
        exact Int.dvd_zero _
    · simp only [hd2, decide_false, Bool.not_false, if_true, not_false_eq_true]
      exact .all (q _ (.inl ⟨rfl, fun z => hd2 (Int.emod_eq_zero_of_dvd (by rwa [gc_zero_r (by omega)] at z))⟩))
  · simp only [hm, if_false]
    unfold wFor
    walk_at "dl"
    refine ⟨⟨by omega, by omega⟩, ?_⟩
    refine solved_loop f m t f0 f1 (by omega) m1 _ S (fun r hr => Exit.all (q r hr)) (fun x v ⟨r, hr, hs⟩ => ?_) m.toNat 0 (by omega) none none (fun w h1 h2 => by omega)
    rcases hr with ⟨rfl, rfl⟩ | ⟨i, rfl, rfl⟩
    · walk_at "dl"
      exact .all (q _ hs)
    · walk_at "dl"
      exact .all (q _ hs)
theorem v__law_integer (ds : List D) (S : Store) (Q0 : D → Store → Prop) (hl : ds.length = 1) (hc : closedS S) (hd : closedL S.length ds) (h : c__law_integer ds S Q0) : w__law_integer (EX S Q0) (ds.map some ++ List.replicate 1 none) S := by
  obtain ⟨p, G, rfl, rfl, ok, q⟩ := h
  have cp1 : CPow 10 20 := by unfold CPow; decide
  have cp2 : CPow 10 19 := by unfold CPow; decide
  unfold w__law_integer
  walk_at "dl"
  refine draw_in ok (by decide) (by decide) fun h p1 ok1 a0 a1 => ?_
  walk_at "dl"
  split
  · refine draw_in ok1 (by decide) (by decide) fun x p2 ok2 b0 b1 => ?_
    walk_at "dl"
    exact .all (q _ p2 ok2 (by omega))
  · split
    · refine ⟨cp1, ?_⟩
      refine draw_in ok1 (by decide) (by decide) fun x p2 ok2 b0 b1 => ?_
      walk_at "dl"
      exact ⟨cp2, .big (by decide) (by decide), .all (q _ p2 ok2 (by omega))⟩
    · refine draw_in ok1 (by decide) (by decide) fun x p2 ok2 b0 b1 => ?_
      walk_at "dl"
      exact .all (q _ p2 ok2 (by omega))
theorem v__law_residue (ds : List D) (S : Store) (Q0 : D → Store → Prop) (hl : ds.length = 2) (hc : closedS S) (hd : closedL S.length ds) (h : c__law_residue ds S Q0) : w__law_residue (EX S Q0) (ds.map some ++ List.replicate 0 none) S := by
  obtain ⟨step, p, G, rfl, rfl, ok, s0, s1, q⟩ := h
  unfold w__law_residue
  walk_at "dl"
  by_cases hs : step = 0
  · subst hs
    simp only [if_true]
    refine ⟨p, G, rfl, rfl, ok, fun x p1 ok1 hx => ?_⟩
    walk_at "dl"
    exact .all (q x p1 ok1 hx (fun z => (z rfl).elim))
  · simp only [hs, if_false]
    refine draw_in ok (by omega) (Int.lt_trans s1 (by decide)) fun x p2 ok2 b0 b1 => ?_
    exact .all (q _ p2 ok2 (by omega) fun _ => ⟨b0, b1⟩)
end K03

set_option maxHeartbeats 2000000
namespace K03
open PySem PySem.Spec PyProof.Rows L2 DL
local macro_rules | `(tactic| walk_at "dl") => `(tactic| simp only [y_w_seq, y_w_ret, y_w_retN, y_w_if, y_w_drop, y_w_next, y_w_c, y_w_op, y_w_and, y_w_or, y_w_not, y_w_tru, y_w_ifE, y_w_call, y_w_cons, y_w_nil, y_w_tup, y_w_lst, y_w_new, y_w_fn, y_w_meth, y_w_meth0, y_w_andV, y_w_orV, y_w_notV, y_w_yes, y_w_brk, y_w_ct, atD_of, atD_cast, atD_neg1,
  x_rLtD, x_rLeD, x_rGtD, x_rGeD, y_w_sl, y_w_noPart, y_w_part, y_oI, x_sl_tup, x_sl_lst, x_sl_str, x_sl_ref, x_slN_lst, x_slN_ref, y_aK, y_w_aug, x_rAddI, y_pK2, y_w_par, y_rgTo, y_rgA1, y_rgA2, y_rgA3, y_mkTup, y_mkLst, y_mkNew, y_iM, y_it_tup, y_it_lst, x_in, x_sorted, x_sortedN, x_sset, y_chain, x_rAdd, x_rSub, x_rMul, x_rDiv, x_rMod, x_rPow, x_rLt, x_rLe, x_rGt, x_rGe, x_rAdd_s, x_rAdd_t, x_rEq_int, x_rEq_bl, x_rEq_str, x_rEq_tup, x_rEq_lst, x_rEq_nt, x_rEq_tn, x_rEq_nn, x_rEq_ni, x_rEq_in, x_rNe_int, x_rNe_bl, x_rNe_str, x_rNe_tup, x_rNe_lst, x_rNe_nt, x_rNe_tn, x_rNe_nn, x_rNe_ni, x_rNe_in, x_is_non_n, x_isn_non_n, x_is_non_b, x_isn_non_b, x_is_bl_n, x_isn_bl_n, x_is_int_n, x_isn_int_n, x_is_int_b, x_isn_int_b, x_is_str_n, x_isn_str_n, x_is_str_b, x_isn_str_b, x_is_tup_n, x_isn_tup_n, x_is_tup_b, x_isn_tup_b, x_is_lst_n, x_isn_lst_n, x_is_lst_b, x_isn_lst_b, x_is_ref_n, x_isn_ref_n, x_is_ref_b, x_isn_ref_b, x_is_bb, x_isn_bb, oM_some, sM_some, x_ix_tup, x_ix_lst, x_ix_ref, x_tru_non, x_tru_bl, x_tru_int, x_tru_str, x_tru_tup, x_tru_lst, x_tru_ref, x_len_tup, x_tuple_tup, x_list_tup, x_listN_tup, x_len_lst, x_tuple_lst, x_list_lst, x_listN_lst, x_len_str, x_rLen_ref, x_rTuple_ref, x_rList_ref, x_rListN_ref, x_int_int, x_int_bl, x_abs, x_gcd, x_max2, x_min2, x_append, x_popAt, x_pop, x_putAt, x_putAtC, x_isL_ref, x_isL_lst, y_var0, y_varS, y_tB, y_test, y_wBl, y_nB, y_neg, y_isT, y_asgN, y_bK, y_asgT, y_bindN, y_bind0, y_seqI, y_iK_t, y_iK_l, y_iK_r, y_rg1, y_rg2, y_r1K, y_r2K, y_put, y_pK, y_comp, y_compN, y_cN, y_wipe0, y_wipe1,
  List.map_cons, List.map_nil, List.cons_append, List.nil_append, List.replicate, List.getElem?_cons_zero, List.getElem?_cons_succ, List.set_cons_zero, List.set_cons_succ, List.length_cons, List.length_nil, decide_eq_true_eq, Bool.not_true, Bool.not_false, if_true, if_false, Bool.false_eq_true, bq_tt, bq_tf, bq_ft, bq_ff, sizeLine_eq, Nat.reduceAdd, Nat.reduceLeDiff, Int.reduceMul, Int.reduceSub, Int.reduceAdd, Int.reduceNeg, Int.reducePow, Int.reduceToNat, Int.reduceLT, Int.reduceLE, Nat.reduceSub, Nat.reducePow, Nat.reduceLT, z_cast0, z_pos, Int.lt_irrefl, List.eraseIdx_cons_zero, List.eraseIdx_cons_succ, true_and, Bool.not_eq_true', decide_eq_false_iff_not, Bool.not_eq_eq_eq_not, and_true, decide_true, decide_false, not_true_eq_false, not_false_eq_true,
  isT_non_int, isT_non_bool, isT_non_str, isT_non_tuple, isT_non_list, isT_bl_int, isT_bl_bool, isT_bl_str, isT_bl_tuple, isT_bl_list, isT_int_int, isT_int_bool, isT_int_str, isT_int_tuple, isT_int_list, isT_str_int, isT_str_bool, isT_str_str, isT_str_tuple, isT_str_list, isT_tup_int, isT_tup_bool, isT_tup_str, isT_tup_tuple, isT_tup_list, isT_lst_int, isT_lst_bool, isT_lst_str, isT_lst_tuple, isT_lst_list])
local macro_rules | `(tactic| walk_at "fl") => `(tactic| simp only [y_w_for, y_for0, y_forN, y_forT, y_w_seq, y_w_ret, y_w_retN, y_w_if, y_w_drop, y_w_next, y_w_c, y_w_op, y_w_and, y_w_or, y_w_not, y_w_tru, y_w_ifE, y_w_call, y_w_cons, y_w_nil, y_w_tup, y_w_lst, y_w_new, y_w_fn, y_w_meth, y_w_meth0, y_w_andV, y_w_orV, y_w_notV, y_w_yes, y_w_brk, y_w_ct, atD_of, atD_cast, atD_neg1,
  x_rLtD, x_rLeD, x_rGtD, x_rGeD, y_w_sl, y_w_noPart, y_w_part, y_oI, x_sl_tup, x_sl_lst, x_sl_str, x_sl_ref, x_slN_lst, x_slN_ref, y_aK, y_w_aug, x_rAddI, y_pK2, y_w_par, y_rgTo, y_rgA1, y_rgA2, y_rgA3, y_mkTup, y_mkLst, y_mkNew, y_iM, y_it_tup, y_it_lst, x_in, x_sorted, x_sortedN, x_sset, y_chain, x_rAdd, x_rSub, x_rMul, x_rDiv, x_rMod, x_rPow, x_rLt, x_rLe, x_rGt, x_rGe, x_rAdd_s, x_rAdd_t, x_rEq_int, x_rEq_bl, x_rEq_str, x_rEq_tup, x_rEq_lst, x_rEq_nt, x_rEq_tn, x_rEq_nn, x_rEq_ni, x_rEq_in, x_rNe_int, x_rNe_bl, x_rNe_str, x_rNe_tup, x_rNe_lst, x_rNe_nt, x_rNe_tn, x_rNe_nn, x_rNe_ni, x_rNe_in, x_is_non_n, x_isn_non_n, x_is_non_b, x_isn_non_b, x_is_bl_n, x_isn_bl_n, x_is_int_n, x_isn_int_n, x_is_int_b, x_isn_int_b, x_is_str_n, x_isn_str_n, x_is_str_b, x_isn_str_b, x_is_tup_n, x_isn_tup_n, x_is_tup_b, x_isn_tup_b, x_is_lst_n, x_isn_lst_n, x_is_lst_b, x_isn_lst_b, x_is_ref_n, x_isn_ref_n, x_is_ref_b, x_isn_ref_b, x_is_bb, x_isn_bb, oM_some, sM_some, x_ix_tup, x_ix_lst, x_ix_ref, x_tru_non, x_tru_bl, x_tru_int, x_tru_str, x_tru_tup, x_tru_lst, x_tru_ref, x_len_tup, x_tuple_tup, x_list_tup, x_listN_tup, x_len_lst, x_tuple_lst, x_list_lst, x_listN_lst, x_len_str, x_rLen_ref, x_rTuple_ref, x_rList_ref, x_rListN_ref, x_int_int, x_int_bl, x_abs, x_gcd, x_max2, x_min2, x_append, x_popAt, x_pop, x_putAt, x_putAtC, x_isL_ref, x_isL_lst, y_var0, y_varS, y_tB, y_test, y_wBl, y_nB, y_neg, y_isT, y_asgN, y_bK, y_asgT, y_bindN, y_bind0, y_seqI, y_iK_t, y_iK_l, y_iK_r, y_rg1, y_rg2, y_r1K, y_r2K, y_put, y_pK, y_comp, y_compN, y_cN, y_wipe0, y_wipe1,
  List.map_cons, List.map_nil, List.cons_append, List.nil_append, List.replicate, List.getElem?_cons_zero, List.getElem?_cons_succ, List.set_cons_zero, List.set_cons_succ, List.length_cons, List.length_nil, decide_eq_true_eq, Bool.not_true, Bool.not_false, if_true, if_false, Bool.false_eq_true, bq_tt, bq_tf, bq_ft, bq_ff, sizeLine_eq, Nat.reduceAdd, Nat.reduceLeDiff, Int.reduceMul, Int.reduceSub, Int.reduceAdd, Int.reduceNeg, Int.reducePow, Int.reduceToNat, Int.reduceLT, Int.reduceLE, Nat.reduceSub, Nat.reducePow, Nat.reduceLT, z_cast0, z_pos, Int.lt_irrefl, List.eraseIdx_cons_zero, List.eraseIdx_cons_succ, true_and, Bool.not_eq_true', decide_eq_false_iff_not, Bool.not_eq_eq_eq_not, and_true, decide_true, decide_false, not_true_eq_false, not_false_eq_true,
  isT_non_int, isT_non_bool, isT_non_str, isT_non_tuple, isT_non_list, isT_bl_int, isT_bl_bool, isT_bl_str, isT_bl_tuple, isT_bl_list, isT_int_int, isT_int_bool, isT_int_str, isT_int_tuple, isT_int_list, isT_str_int, isT_str_bool, isT_str_str, isT_str_tuple, isT_str_list, isT_tup_int, isT_tup_bool, isT_tup_str, isT_tup_tuple, isT_tup_list, isT_lst_int, isT_lst_bool, isT_lst_str, isT_lst_tuple, isT_lst_list])
theorem v_both_residues (ds : List D) (S : Store) (Q0 : D → Store → Prop) (hl : ds.length = 2) (hc : closedS S) (hd : closedL S.length ds) (h : c_both_residues ds S Q0) : w_both_residues (EX S Q0) (ds.map some ++ List.replicate 6 none) S := by
  obtain ⟨a, c, b, d, rfl, c0, c1, d0, d1, ha, hb, q⟩ := h
  have big : (2 : Nat) ^ 201 < 2 ^ 400 := by decide
  unfold w_both_residues pr
  walk_at "dl"
  refine ⟨c, d, rfl, c0, c1, d0, d1, fun x y h1 h2 h3 => ?_⟩
  unfold pr
  walk_at "dl"
  refine ⟨_, _, rfl, gc_nonneg _ _, ?_⟩
  walk_at "dl"
  by_cases hg : (b - a) % gc c d = 0
  · have hdv := Int.dvd_of_emod_eq_zero hg
    simp only [hg, decide_true, Bool.not_true, Bool.false_eq_true, if_false, not_true_eq_false]
    by_cases hz : gc c d = 0
    · simp only [hz, if_true]
      have e1 : c = 0 ∧ d = 0 := by
        by_cases k : c ≠ 0 ∨ d ≠ 0
        · have := gc_pos k; omega
        · omega
      refine .all (q _ (.inl ⟨e1.1, ?_, rfl⟩))
      rw [hz] at hdv
      have := Int.zero_dvd.mp hdv
      rw [e1.2]
      exact Int.zero_dvd.mpr (by omega)
    · simp only [hz, if_false]
      have gp : 0 < gc c d := by have := gc_nonneg c d; omega
      have gl : gc c d < 2 ^ 63 := by
        by_cases k : c = 0
        · rw [k, gc_zero_l d0]; exact d1
        · have := Int.le_of_dvd (by omega) (gc_l c d); omega
      have dv : DL.DivOk (gc c d) := .of gp (Int.lt_trans gl (by decide))
      have hp : 0 ≤ d / gc c d := Int.ediv_nonneg d0 (by omega)
      have hp2 : d / gc c d ≤ d := Int.ediv_le_self _ d0
      refine ⟨dv, .l (by omega) (by omega), .l (by omega) (by omega), dv, .big ?_ ?_, _, _, rfl, Int.mul_nonneg c0 hp, ?_⟩
      · rw [Int.natAbs_mul]
        have t1 : c.natAbs < 2 ^ 63 := by omega
        have t2 : x.natAbs ≤ 2 ^ 63 := by omega
        have t3 : c.natAbs * x.natAbs ≤ 2 ^ 63 * 2 ^ 63 := Nat.mul_le_mul (by omega) t2
        have t4 : (2 : Nat) ^ 63 * 2 ^ 63 < 2 ^ 400 := by decide
        omega
      · have t1 : ((b - a) / gc c d).natAbs ≤ (b - a).natAbs := Int.natAbs_ediv_le_natAbs _ _
        omega
      · walk_at "dl"
        exact .all (q _ (bothP_made c0 d0 h3 hdv hz))
  · simp only [hg, decide_false, Bool.not_false, if_true, not_false_eq_true]
    exact .all (q _ (.inr (.inr (.inr ⟨fun z => hg (Int.emod_eq_zero_of_dvd z), rfl⟩))))
theorem get_end {S : Store} {o : Ob} : (S ++ [o])[S.length]? = some o := by simp
theorem set_end {S : Store} {o o' : Ob} : (S ++ [o]).set S.length o' = S ++ [o'] := by simp
theorem found_succ (a c b d : Int) (n : Nat) : foundN a c b d (n + 1) = foundN a c b d n ++ (if hitB a c b d n = true then [n] else []) := by
  unfold foundN
  rw [List.range'_concat, List.filter_append, Nat.one_mul, Nat.zero_add]
  congr 1
  by_cases h : hitB a c b d n = true
  · simp [h]
  · simp [h]
theorem found_len (a c b d : Int) (n : Nat) : (foundN a c b d n).length ≤ n := by
  have := List.length_filter_le (hitB a c b d) (List.range' 0 n)
  rw [List.length_range'] at this
  exact this
abbrev fD (a c b d : Int) (n : Nat) : List D := (foundN a c b d n).map fun (i : Nat) => D.int (a + (i : Int) * c)
theorem both_loop (a c b d : Int) (c0 : 0 < c) (c1 : c < 2 ^ 60) (d0 : 0 < d) (N : Nat) (hN : N ≤ 2 ^ 22) (D0 : EndsD) (S : Store)
    (hnx : ∀ v : Option D, D0.nx [some (pr a c), some (pr b d), some (.ref S.length), v] (S ++ [.lst (fD a c b d N)])) : ∀ (k lo : Nat), lo + k = N → ∀ v : Option D,
    forR (Tg.name 3) w__law_both_for0 (fun _ => True) D0 (intsD (lo : Int) k) [some (pr a c), some (pr b d), some (.ref S.length), v] (S ++ [.lst (fD a c b d lo)])
  | 0, lo, e, v => by
    have e' : lo = N := by omega
    subst e'
    rw [intsD_zero]
    walk_at "fl"
    exact hnx v
  | k + 1, lo, e, v => by
    rw [intsD_succ]
    walk_at "fl"
    unfold w__law_both_for0 pr
    have mo : DL.MulOk (lo : Int) c := .l (by omega) (by omega)
    walk_at "fl"
    refine ⟨mo, b, d, _, rfl, by omega, ?_⟩
    walk_at "fl"
    have e3 : ((lo : Int) + 1) = ((lo + 1 : Nat) : Int) := by omega
    have hit : (a + (lo : Int) * c - b) % d = 0 ↔ hitB a c b d lo = true := by unfold hitB; rw [decide_eq_true_eq]
    have ih := both_loop a c b d c0 c1 d0 N hN D0 S hnx k (lo + 1) (by omega) (some (.int (lo : Int)))
    unfold pr fD at ih
    rw [found_succ] at ih
    by_cases hh : hitB a c b d lo = true
    · have hz := hit.mpr hh
      rw [if_pos hh, List.map_append] at ih
      have hlen := found_len a c b d lo
      simp only [hz, if_true, get_end, sM_some, set_end, List.length_append, List.length_cons, List.length_nil]
      walk_at "fl"
      refine ⟨mo, by rw [List.length_map]; omega, ?_⟩
      rw [e3]
      exact ih
    · have hz : ¬ (a + (lo : Int) * c - b) % d = 0 := fun z => hh (hit.mp z)
      rw [if_neg hh, List.append_nil] at ih
      simp only [hz, if_false]
      rw [e3]
      exact ih
theorem v__law_both (ds : List D) (S : Store) (Q0 : D → Store → Prop) (hl : ds.length = 2) (hc : closedS S) (hd : closedL S.length ds) (h : c__law_both ds S Q0) : w__law_both (EX S Q0) (ds.map some ++ List.replicate 2 none) S := by
  obtain ⟨a, c, b, d, rfl, c0, c1, d0, d1, ha, hb, q⟩ := h
  have dv : ∀ x y : Int, (x - y) % d = 0 ↔ d ∣ x - y := fun x y => ⟨Int.dvd_of_emod_eq_zero, Int.emod_eq_zero_of_dvd⟩
  have dc : ∀ x y : Int, (x - y) % c = 0 ↔ c ∣ x - y := fun x y => ⟨Int.dvd_of_emod_eq_zero, Int.emod_eq_zero_of_dvd⟩
  have neg : ∀ {x : Int}, x ∣ b - a → x ∣ a - b := fun {x} h => by
    have := Int.dvd_neg.mpr h
    rwa [Int.neg_sub] at this
  unfold w__law_both pr
  walk_at "dl"
  by_cases hz : c = 0
  · subst hz
    simp only [if_true]
    refine ⟨b, d, a, rfl, d0, ?_⟩
    walk_at "dl"
    by_cases hh : (a - b) % d = 0
    · simp only [hh, if_true]
      exact .all (q _ (.inl ⟨rfl, (dv _ _).mp hh, rfl⟩))
    · simp only [hh, if_false]
      have hn : BothP a 0 b d .non := .inr (.inr (.inr ⟨fun z => hh ((dv _ _).mpr (neg (by rwa [gc_zero_l d0] at z))), rfl⟩))
      by_cases hy : d = 0
      · subst hy
        simp only [if_true]
        refine ⟨a, 0, b, rfl, by omega, ?_⟩
        walk_at "dl"
        rw [Int.emod_zero] at hh ⊢
        have : ¬ b - a = 0 := by omega
        simp only [this, if_false]
        exact .all (q _ hn)
      · simp only [hy, if_false]
        exact .all (q _ hn)
  · simp only [hz, if_false]
    by_cases hy : d = 0
    · subst hy
      simp only [if_true]
      refine ⟨a, c, b, rfl, c0, ?_⟩
      walk_at "dl"
      by_cases hh : (b - a) % c = 0
      · simp only [hh, if_true]
        exact .all (q _ (.inr (.inl ⟨hz, rfl, (dc _ _).mp hh, rfl⟩)))
      · simp only [hh, if_false]
        exact .all (q _ (.inr (.inr (.inr ⟨fun z => hh ((dc _ _).mpr (by rwa [gc_zero_r c0] at z)), rfl⟩))))
    · simp only [hy, if_false]
      unfold wFor
      walk_at "dl"
      refine ⟨.l (by omega) (by omega), ⟨by omega, by omega⟩, ?_⟩
      have e0 : foundN a c b d 0 = [] := rfl
      have key := both_loop a c b d (by omega) c1 (by omega) (2 * d).toNat (by omega)
      refine key _ S (fun v => ?_) (2 * d).toNat 0 (by omega) _
      have few := found_few (a := a) (b := b) (show 0 < c by omega) (show 0 < d by omega)
      have two := fun i j r => found_two (a := a) (b := b) (show 0 < c by omega) (show 0 < d by omega) (i := i) (j := j) (r := r)
      unfold fD
      generalize foundN a c b d (2 * d).toNat = l at few two
      unfold pr
      walk_at "dl"
      simp only [get_end, sM_some, List.length_map]
      match l, few, two with
      | [], few, _ =>
        simp only [List.length_nil]
        exact .same hc .non (q _ (few (by decide)))
      | [x], few, _ =>
        simp only [List.length_cons, List.length_nil]
        exact .same hc .non (q _ (few (by simp)))
      | i :: j :: r, _, two =>
        obtain ⟨e1, e2⟩ := two i j r rfl
        have hp := lcm_pos (show 0 < c by omega) (show 0 < d by omega)
        have hn : ¬ (((i :: j :: r).length : Nat) : Int) < 2 := by simp only [List.length_cons]; omega
        simp only [hn, decide_false, if_false, Bool.false_eq_true, get_end, sM_some, List.map_cons]
        walk_at "dl"
        simp only [get_end, sM_some]
        walk_at "dl"
        refine ⟨by omega, ?_⟩
        simp only [get_end, sM_some]
        walk_at "dl"
        rw [e1]
        exact .same hc (.tup (.cons (.int _) (.cons (.int _) .nil))) (q _ e2)
end K03

set_option maxHeartbeats 2000000
namespace K03
open PySem PySem.Spec PyProof.Rows L2 DL
local macro_rules | `(tactic| walk_at "dl") => `(tactic| simp only [y_w_seq, y_w_ret, y_w_retN, y_w_if, y_w_drop, y_w_next, y_w_c, y_w_op, y_w_and, y_w_or, y_w_not, y_w_tru, y_w_ifE, y_w_call, y_w_cons, y_w_nil, y_w_tup, y_w_lst, y_w_new, y_w_fn, y_w_meth, y_w_meth0, y_w_andV, y_w_orV, y_w_notV, y_w_yes, y_w_brk, y_w_ct, atD_of, atD_cast, atD_neg1,
  x_rLtD, x_rLeD, x_rGtD, x_rGeD, y_w_sl, y_w_noPart, y_w_part, y_oI, x_sl_tup, x_sl_lst, x_sl_str, x_sl_ref, x_slN_lst, x_slN_ref, y_aK, y_w_aug, x_rAddI, y_pK2, y_w_par, y_rgTo, y_rgA1, y_rgA2, y_rgA3, y_mkTup, y_mkLst, y_mkNew, y_iM, y_it_tup, y_it_lst, x_in, x_sorted, x_sortedN, x_sset, y_chain, x_rAdd, x_rSub, x_rMul, x_rDiv, x_rMod, x_rPow, x_rLt, x_rLe, x_rGt, x_rGe, x_rAdd_s, x_rAdd_t, x_rEq_int, x_rEq_bl, x_rEq_str, x_rEq_tup, x_rEq_lst, x_rEq_nt, x_rEq_tn, x_rEq_nn, x_rEq_ni, x_rEq_in, x_rNe_int, x_rNe_bl, x_rNe_str, x_rNe_tup, x_rNe_lst, x_rNe_nt, x_rNe_tn, x_rNe_nn, x_rNe_ni, x_rNe_in, x_is_non_n, x_isn_non_n, x_is_non_b, x_isn_non_b, x_is_bl_n, x_isn_bl_n, x_is_int_n, x_isn_int_n, x_is_int_b, x_isn_int_b, x_is_str_n, x_isn_str_n, x_is_str_b, x_isn_str_b, x_is_tup_n, x_isn_tup_n, x_is_tup_b, x_isn_tup_b, x_is_lst_n, x_isn_lst_n, x_is_lst_b, x_isn_lst_b, x_is_ref_n, x_isn_ref_n, x_is_ref_b, x_isn_ref_b, x_is_bb, x_isn_bb, oM_some, sM_some, x_ix_tup, x_ix_lst, x_ix_ref, x_tru_non, x_tru_bl, x_tru_int, x_tru_str, x_tru_tup, x_tru_lst, x_tru_ref, x_len_tup, x_tuple_tup, x_list_tup, x_listN_tup, x_len_lst, x_tuple_lst, x_list_lst, x_listN_lst, x_len_str, x_rLen_ref, x_rTuple_ref, x_rList_ref, x_rListN_ref, x_int_int, x_int_bl, x_abs, x_gcd, x_max2, x_min2, x_append, x_popAt, x_pop, x_putAt, x_putAtC, x_isL_ref, x_isL_lst, y_var0, y_varS, y_tB, y_test, y_wBl, y_nB, y_neg, y_isT, y_asgN, y_bK, y_asgT, y_bindN, y_bind0, y_seqI, y_iK_t, y_iK_l, y_iK_r, y_rg1, y_rg2, y_r1K, y_r2K, y_put, y_pK, y_comp, y_compN, y_cN, y_wipe0, y_wipe1,
  List.map_cons, List.map_nil, List.cons_append, List.nil_append, List.replicate, List.getElem?_cons_zero, List.getElem?_cons_succ, List.set_cons_zero, List.set_cons_succ, List.length_cons, List.length_nil, decide_eq_true_eq, Bool.not_true, Bool.not_false, if_true, if_false, Bool.false_eq_true, bq_tt, bq_tf, bq_ft, bq_ff, sizeLine_eq, Nat.reduceAdd, Nat.reduceLeDiff, Int.reduceMul, Int.reduceSub, Int.reduceAdd, Int.reduceNeg, Int.reducePow, Int.reduceToNat, Int.reduceLT, Int.reduceLE, Nat.reduceSub, Nat.reducePow, Nat.reduceLT, z_cast0, z_pos, Int.lt_irrefl, List.eraseIdx_cons_zero, List.eraseIdx_cons_succ, true_and, Bool.not_eq_true', decide_eq_false_iff_not, Bool.not_eq_eq_eq_not, and_true, decide_true, decide_false, not_true_eq_false, not_false_eq_true,
  isT_non_int, isT_non_bool, isT_non_str, isT_non_tuple, isT_non_list, isT_bl_int, isT_bl_bool, isT_bl_str, isT_bl_tuple, isT_bl_list, isT_int_int, isT_int_bool, isT_int_str, isT_int_tuple, isT_int_list, isT_str_int, isT_str_bool, isT_str_str, isT_str_tuple, isT_str_list, isT_tup_int, isT_tup_bool, isT_tup_str, isT_tup_tuple, isT_tup_list, isT_lst_int, isT_lst_bool, isT_lst_str, isT_lst_tuple, isT_lst_list])
local macro_rules | `(tactic| walk_at "fl") => `(tactic| simp only [y_w_for, y_for0, y_forN, y_forT, y_w_seq, y_w_ret, y_w_retN, y_w_if, y_w_drop, y_w_next, y_w_c, y_w_op, y_w_and, y_w_or, y_w_not, y_w_tru, y_w_ifE, y_w_call, y_w_cons, y_w_nil, y_w_tup, y_w_lst, y_w_new, y_w_fn, y_w_meth, y_w_meth0, y_w_andV, y_w_orV, y_w_notV, y_w_yes, y_w_brk, y_w_ct, atD_of, atD_cast, atD_neg1,
  x_rLtD, x_rLeD, x_rGtD, x_rGeD, y_w_sl, y_w_noPart, y_w_part, y_oI, x_sl_tup, x_sl_lst, x_sl_str, x_sl_ref, x_slN_lst, x_slN_ref, y_aK, y_w_aug, x_rAddI, y_pK2, y_w_par, y_rgTo, y_rgA1, y_rgA2, y_rgA3, y_mkTup, y_mkLst, y_mkNew, y_iM, y_it_tup, y_it_lst, x_in, x_sorted, x_sortedN, x_sset, y_chain, x_rAdd, x_rSub, x_rMul, x_rDiv, x_rMod, x_rPow, x_rLt, x_rLe, x_rGt, x_rGe, x_rAdd_s, x_rAdd_t, x_rEq_int, x_rEq_bl, x_rEq_str, x_rEq_tup, x_rEq_lst, x_rEq_nt, x_rEq_tn, x_rEq_nn, x_rEq_ni, x_rEq_in, x_rNe_int, x_rNe_bl, x_rNe_str, x_rNe_tup, x_rNe_lst, x_rNe_nt, x_rNe_tn, x_rNe_nn, x_rNe_ni, x_rNe_in, x_is_non_n, x_isn_non_n, x_is_non_b, x_isn_non_b, x_is_bl_n, x_isn_bl_n, x_is_int_n, x_isn_int_n, x_is_int_b, x_isn_int_b, x_is_str_n, x_isn_str_n, x_is_str_b, x_isn_str_b, x_is_tup_n, x_isn_tup_n, x_is_tup_b, x_isn_tup_b, x_is_lst_n, x_isn_lst_n, x_is_lst_b, x_isn_lst_b, x_is_ref_n, x_isn_ref_n, x_is_ref_b, x_isn_ref_b, x_is_bb, x_isn_bb, oM_some, sM_some, x_ix_tup, x_ix_lst, x_ix_ref, x_tru_non, x_tru_bl, x_tru_int, x_tru_str, x_tru_tup, x_tru_lst, x_tru_ref, x_len_tup, x_tuple_tup, x_list_tup, x_listN_tup, x_len_lst, x_tuple_lst, x_list_lst, x_listN_lst, x_len_str, x_rLen_ref, x_rTuple_ref, x_rList_ref, x_rListN_ref, x_int_int, x_int_bl, x_abs, x_gcd, x_max2, x_min2, x_append, x_popAt, x_pop, x_putAt, x_putAtC, x_isL_ref, x_isL_lst, y_var0, y_varS, y_tB, y_test, y_wBl, y_nB, y_neg, y_isT, y_asgN, y_bK, y_asgT, y_bindN, y_bind0, y_seqI, y_iK_t, y_iK_l, y_iK_r, y_rg1, y_rg2, y_r1K, y_r2K, y_put, y_pK, y_comp, y_compN, y_cN, y_wipe0, y_wipe1,
  List.map_cons, List.map_nil, List.cons_append, List.nil_append, List.replicate, List.getElem?_cons_zero, List.getElem?_cons_succ, List.set_cons_zero, List.set_cons_succ, List.length_cons, List.length_nil, decide_eq_true_eq, Bool.not_true, Bool.not_false, if_true, if_false, Bool.false_eq_true, bq_tt, bq_tf, bq_ft, bq_ff, sizeLine_eq, Nat.reduceAdd, Nat.reduceLeDiff, Int.reduceMul, Int.reduceSub, Int.reduceAdd, Int.reduceNeg, Int.reducePow, Int.reduceToNat, Int.reduceLT, Int.reduceLE, Nat.reduceSub, Nat.reducePow, Nat.reduceLT, z_cast0, z_pos, Int.lt_irrefl, List.eraseIdx_cons_zero, List.eraseIdx_cons_succ, true_and, Bool.not_eq_true', decide_eq_false_iff_not, Bool.not_eq_eq_eq_not, and_true, decide_true, decide_false, not_true_eq_false, not_false_eq_true,
  isT_non_int, isT_non_bool, isT_non_str, isT_non_tuple, isT_non_list, isT_bl_int, isT_bl_bool, isT_bl_str, isT_bl_tuple, isT_bl_list, isT_int_int, isT_int_bool, isT_int_str, isT_int_tuple, isT_int_list, isT_str_int, isT_str_bool, isT_str_str, isT_str_tuple, isT_str_list, isT_tup_int, isT_tup_bool, isT_tup_str, isT_tup_tuple, isT_tup_list, isT_lst_int, isT_lst_bool, isT_lst_str, isT_lst_tuple, isT_lst_list])
theorem v_marks_in (ds : List D) (S : Store) (Q0 : D → Store → Prop) (hl : ds.length = 2) (hc : closedS S) (hd : closedL S.length ds) (h : c_marks_in ds S Q0) : w_marks_in (EX S Q0) (ds.map some ++ List.replicate 0 none) S := by
  obtain ⟨n, k, v, d, rfl, v0, v1, hn, hn2, q⟩ := h
  unfold w_marks_in pr
  walk_at "dl"
  have h5 : (n - v - 1) / d ≤ n - v - 1 := Int.ediv_le_self _ (by omega)
  refine ⟨_, RgC_step (by omega) (by omega) (by omega) (by omega) (by omega) (by omega) (by omega), by omega, ?_⟩
  rw [marks_step v0 v1 hn]
  exact .all q
theorem py_pr2 (p : Int × Int) : (pr2 p).py = .tuple [.int p.1, .int p.2] := by simp [pr2, pr, D.py, pyAll]
theorem lay_pairs : ∀ ps : List (Int × Int), PyData.canLayAll0 (pyAll (ps.map pr2)) = true
  | [] => by simp [pyAll, PyData.canLayAll0]
  | p :: ps => by
    rw [List.map_cons, pyAll, py_pr2]
    simp [PyData.canLayAll0, PyData.canLay0, lay_pairs ps]
theorem depth_pairs : ∀ ps : List (Int × Int), PyData.depthAll (pyAll (ps.map pr2)) ≤ 3
  | [] => by simp [pyAll, PyData.depthAll]
  | p :: ps => by
    have := depth_pairs ps
    rw [List.map_cons, pyAll, py_pr2]
    simp only [PyData.depthAll, PyData.depth]
    omega
theorem ok_pairs (ps : List (Int × Int)) : okD (.lst (ps.map pr2)) := by
  show ((D.py (.lst (ps.map pr2))).canLay0 && decide ((D.py (.lst (ps.map pr2))).depth ≤ 64)) = true
  have h := depth_pairs ps
  rw [Bool.and_eq_true, decide_eq_true_eq, D.py, PyData.depth, PyData.canLay0]
  exact ⟨lay_pairs ps, by omega⟩
theorem ok_pair (p : Int × Int) : okD (pr2 p) := okD2 _ _
theorem sort_pairs (ps : List (Int × Int)) : SortOkD (ps.map pr2) := by
  refine ⟨fun x hx y hy => ?_, .inl fun x hx => ?_, ok_pairs ps⟩
  · rw [pyAll_map, List.map_map] at hx hy
    obtain ⟨p, _, rfl⟩ := List.mem_map.mp hx
    obtain ⟨r, _, rfl⟩ := List.mem_map.mp hy
    show PySem.W.alike (pr2 p).py (pr2 r).py = true
    rw [py_pr2, py_pr2]
    simp [PySem.W.alike, PySem.W.alikeAll]
  · rw [pyAll_map, List.map_map] at hx
    obtain ⟨p, _, rfl⟩ := List.mem_map.mp hx
    exact ⟨_, _, py_pr2 p⟩
theorem eqv_pair (x y : Int × Int) : eqv (pr2 x) (pr2 y) = decide (x = y) := by
  unfold pr2 pr
  rw [eqv2, ← Bool.decide_and]
  congr 1
  exact propext ⟨fun h => Prod.ext h.1 h.2, fun h => by rw [h]; exact ⟨rfl, rfl⟩⟩
theorem in_pairs (x : Int × Int) (ps : List (Int × Int)) : inD (pr2 x) (ps.map pr2) = decide (x ∈ ps) := by
  unfold inD
  induction ps with
  | nil => simp
  | cons p ps ih =>
    rw [List.map_cons, List.any_cons, ih, eqv_pair]
    by_cases h : p = x
    · simp [h]
    · simp [h, Ne.symm h]
def aloneB (ks : List (Int × Int)) (k : Int × Int) : Bool := ks.all fun o => decide (o = k) || !insB k.1 k.2 o.1 o.2
theorem alone_iff {ks : List (Int × Int)} {k : Int × Int} : aloneB ks k = true ↔ ∀ o ∈ ks, o ≠ k → insB k.1 k.2 o.1 o.2 = false := by
  unfold aloneB
  rw [List.all_eq_true]
  refine ⟨fun h o ho hn => ?_, fun h o ho => ?_⟩
  · have := h o ho
    simpa [hn] using this
  · by_cases e : o = k
    · simp [e]
    · simp [h o ho e]
def widB (k : Int × Int) : D → Bool
  | .tup [.int b, .int d] => !(decide (b = k.1) && decide (d = k.2)) && insB k.1 k.2 b d
  | _ => false
theorem wid_pr2 (k o : Int × Int) : widB k (pr2 o) = (!decide (o = k) && insB k.1 k.2 o.1 o.2) := by
  show (!(decide (o.1 = k.1) && decide (o.2 = k.2)) && insB k.1 k.2 o.1 o.2) = _
  congr 2
  rw [← Bool.decide_and]
  congr 1
  exact propext ⟨fun h => Prod.ext h.1 h.2, fun h => by rw [h]; exact ⟨rfl, rfl⟩⟩
theorem wid_empty (ks : List (Int × Int)) (k : Int × Int) : ((ks.map pr2).filter (widB k)).isEmpty = aloneB ks k := by
  unfold aloneB
  induction ks with
  | nil => rfl
  | cons o ks ih =>
    rw [List.map_cons, List.all_cons, ← ih]
    have e := wid_pr2 k o
    by_cases h : widB k (pr2 o) = true
    · rw [List.filter_cons_of_pos h]
      rw [h] at e
      by_cases h2 : o = k
      · simp [h2] at e
      · simp [h2] at e
        simp [h2, ← e]
    · rw [List.filter_cons_of_neg h]
      rw [Bool.not_eq_true] at h
      rw [h] at e
      by_cases h2 : o = k
      · simp [h2]
      · simp [h2] at e
        simp [e]
theorem tidy_loop (ks : List (Int × Int)) (hlen : ks.length < 64) (h0 : ∀ k ∈ ks, 0 ≤ k.2) (D0 : EndsD) (S : Store) (out : List (Int × Int)) (ho : out.length ≤ 1000)
    (hnx : ∀ x w o : Option D, D0.nx [some (.tup (ks.map pr2)), some (.ref S.length), x, w, o] (S ++ [.lst (out.map pr2)])) : ∀ (L acc : List (Int × Int)), (∀ k ∈ L, 0 ≤ k.2) → out = acc ++ L.filter (aloneB ks) → ∀ x w o : Option D,
    forR (Tg.name 2) w_tidy_residues_for0 (fun _ => True) D0 (L.map pr2) [some (.tup (ks.map pr2)), some (.ref S.length), x, w, o] (S ++ [.lst (acc.map pr2)])
  | [], acc, _, e, x, w, o => by
    rw [List.filter_nil, List.append_nil] at e
    subst e
    rw [List.map_nil]
    walk_at "fl"
    exact hnx x w o
  | k :: L, acc, hk, e, x, w, o => by
    rw [List.map_cons]
    walk_at "fl"
    unfold w_tidy_residues_for0
    walk_at "fl"
    refine compR_filter (t := widB k) (f := id) trivial _ [] (by simp [sizeLine_eq]; omega) (fun y hy => ?_) ?_
    · obtain ⟨z, hz, rfl⟩ := List.mem_map.mp hy
      refine ⟨_, rfl, fun Q q => ?_, fun _ Q q => ?_⟩
      · rw [wid_pr2] at q
        unfold pr2 pr
        walk_at "dl"
        refine ⟨okD2 _ _, okD2 _ _, ?_⟩
        have e1 := eqv_pair z k
        unfold pr2 pr at e1
        rw [e1]
        by_cases h : z = k
        · simp only [h, decide_true, Bool.not_true, Bool.false_and, if_false, Bool.false_eq_true] at q ⊢
          exact q
        · simp only [h, decide_false, Bool.not_false, Bool.true_and, if_true] at q ⊢
          refine ⟨k.1, k.2, z.1, z.2, rfl, hk k (by simp), h0 z hz, ?_⟩
          walk_at "dl"
          exact q
      · walk_at "fl"
        exact q
    · rw [List.map_id, List.nil_append]
      walk_at "fl"
      rw [wid_empty]
      rw [List.filter_cons] at e
      by_cases ha : aloneB ks k = true
      · simp only [ha, if_true, Bool.not_true, Bool.not_false, get_end, sM_some, set_end] at e ⊢
        have e2 : out = (acc ++ [k]) ++ L.filter (aloneB ks) := by rw [e]; simp
        have := tidy_loop ks hlen h0 D0 S out ho hnx L (acc ++ [k]) (fun z hz => hk z (by simp [hz])) e2 (some (pr2 k)) (some (.lst ((ks.map pr2).filter (widB k)))) o
        rw [List.map_append] at this
        have hl : acc.length ≤ 1000 := by rw [e2] at ho; simp at ho; omega
        exact ⟨trivial, by rw [List.length_map]; omega, this⟩
      · simp only [ha, if_false, Bool.not_true, Bool.not_false, Bool.false_eq_true] at e ⊢
        exact tidy_loop ks hlen h0 D0 S out ho hnx L acc (fun z hz => hk z (by simp [hz])) e _ _ _
theorem pairs_of {es : List (List Int)} {ks : List (Int × Int)} (h : ∀ k, k ∈ es ↔ k ∈ ks.map fun p => [p.1, p.2]) : ∃ ps : List (Int × Int), es = ps.map (fun p => [p.1, p.2]) ∧ ∀ p, p ∈ ps ↔ p ∈ ks := by
  refine ⟨es.map fun k => (k.getD 0 0, k.getD 1 0), ?_, fun p => ?_⟩
  · rw [List.map_map]
    refine (List.map_id' es).symm.trans (List.map_congr_left fun k hk => ?_)
    obtain ⟨p, _, rfl⟩ := List.mem_map.mp ((h k).mp hk)
    rfl
  · rw [List.mem_map]
    constructor
    · rintro ⟨k, hk, rfl⟩
      obtain ⟨p, hp, rfl⟩ := List.mem_map.mp ((h k).mp hk)
      exact hp
    · intro hp
      exact ⟨[p.1, p.2], (h _).mpr (List.mem_map.mpr ⟨p, hp, rfl⟩), rfl⟩
theorem strict_sorted {ps : List (Int × Int)} (h : ps.Nodup) : (ps.mergeSort leP).Pairwise lexP := by
  have hn : (ps.mergeSort leP).Nodup := (List.mergeSort_perm _ _).nodup_iff.mpr h
  refine (List.Pairwise.and (sorted_pairs ps) hn).imp fun {a b} z => ?_
  rcases lexP_tri a b with w | w | w
  · exact w
  · exact absurd w z.2
  · exact absurd w z.1
theorem nodup_len : ∀ {l m : List (Int × Int)}, l.Nodup → (∀ x ∈ l, x ∈ m) → l.length ≤ m.length
  | [], _, _, _ => by simp
  | x :: l, m, hn, h => by
    obtain ⟨h1, h2⟩ := List.nodup_cons.mp hn
    have hx := h x List.mem_cons_self
    have ih := nodup_len (m := m.erase x) h2 fun y hy => (List.mem_erase_of_ne (fun e => h1 (by rw [← e]; exact hy))).mpr (h y (List.mem_cons_of_mem _ hy))
    have e := List.length_erase_of_mem hx
    have := List.length_pos_of_mem hx
    rw [List.length_cons]
    omega
theorem pure_pairs {n : Nat} {S : Store} (ps : List (Int × Int)) : Frz n S (.tup (ps.map pr2)) (.tup (ps.map pr2)) := by
  refine frz_pure ?_
  rw [pureD]
  refine pureL_of fun d hd => ?_
  obtain ⟨p, _, rfl⟩ := List.mem_map.mp hd
  simp [pr2, pr, pureD, pureL]
theorem v_tidy_residues (ds : List D) (S : Store) (Q0 : D → Store → Prop) (hl : ds.length = 1) (hc : closedS S) (hd : closedL S.length ds) (h : c_tidy_residues ds S Q0) : w_tidy_residues (EX S Q0) (ds.map some ++ List.replicate 4 none) S := by
  obtain ⟨ks, rfl, hlen, h0, q⟩ := h
  unfold w_tidy_residues
  walk_at "dl"
  unfold wFor
  walk_at "dl"
  refine ⟨ks.map fun p => [p.1, p.2], ⟨by rw [List.map_map]; rfl, by simpa using hlen, 2, by omega, fun k hk => ?_⟩, fun es hn hm => ?_⟩
  · obtain ⟨p, _, rfl⟩ := List.mem_map.mp hk
    rfl
  · obtain ⟨ps, rfl, hps⟩ := pairs_of hm
    have e1 : (ps.map fun p => [p.1, p.2]).map tupI = ps.map pr2 := by rw [List.map_map]; rfl
    rw [e1, sortD_pairs]
    have hnp : ps.Nodup := List.Pairwise.of_map _ (fun a b hne e => hne (by rw [e])) hn
    have hmem : ∀ k, k ∈ ps.mergeSort leP ↔ k ∈ ks := fun k => ((List.mergeSort_perm ps leP).mem_iff).trans (hps k)
    have ho : ((ps.mergeSort leP).filter (aloneB ks)).length ≤ 1000 := by
      have t1 := List.length_filter_le (aloneB ks) (ps.mergeSort leP)
      have t2 := nodup_len hnp fun x hx => (hps x).mp hx
      rw [List.length_mergeSort] at t1
      omega
    refine tidy_loop ks hlen h0 _ S _ ho (fun x w o => ?_) (ps.mergeSort leP) [] (fun k hk => h0 k ((hmem k).mp hk)) (by rw [List.nil_append]) _ _ _
    walk_at "dl"
    simp only [get_end, sM_some]
    refine .same hc (pure_pairs _) (q _ ⟨(strict_sorted hnp).filter _, fun k => ?_⟩)
    · rw [List.mem_filter, hmem, alone_iff]
end K03

set_option maxHeartbeats 2000000
namespace K03
open PySem PySem.Spec PyProof.Rows L2 DL
local macro_rules | `(tactic| walk_at "dl") => `(tactic| simp only [y_w_seq, y_w_ret, y_w_retN, y_w_if, y_w_drop, y_w_next, y_w_c, y_w_op, y_w_and, y_w_or, y_w_not, y_w_tru, y_w_ifE, y_w_call, y_w_cons, y_w_nil, y_w_tup, y_w_lst, y_w_new, y_w_fn, y_w_meth, y_w_meth0, y_w_andV, y_w_orV, y_w_notV, y_w_yes, y_w_brk, y_w_ct, atD_of, atD_cast, atD_neg1,
  x_rLtD, x_rLeD, x_rGtD, x_rGeD, y_w_sl, y_w_noPart, y_w_part, y_oI, x_sl_tup, x_sl_lst, x_sl_str, x_sl_ref, x_slN_lst, x_slN_ref, y_aK, y_w_aug, x_rAddI, y_pK2, y_w_par, y_rgTo, y_rgA1, y_rgA2, y_rgA3, y_mkTup, y_mkLst, y_mkNew, y_iM, y_it_tup, y_it_lst, x_in, x_sorted, x_sortedN, x_sset, y_chain, x_rAdd, x_rSub, x_rMul, x_rDiv, x_rMod, x_rPow, x_rLt, x_rLe, x_rGt, x_rGe, x_rAdd_s, x_rAdd_t, x_rEq_int, x_rEq_bl, x_rEq_str, x_rEq_tup, x_rEq_lst, x_rEq_nt, x_rEq_tn, x_rEq_nn, x_rEq_ni, x_rEq_in, x_rNe_int, x_rNe_bl, x_rNe_str, x_rNe_tup, x_rNe_lst, x_rNe_nt, x_rNe_tn, x_rNe_nn, x_rNe_ni, x_rNe_in, x_is_non_n, x_isn_non_n, x_is_non_b, x_isn_non_b, x_is_bl_n, x_isn_bl_n, x_is_int_n, x_isn_int_n, x_is_int_b, x_isn_int_b, x_is_str_n, x_isn_str_n, x_is_str_b, x_isn_str_b, x_is_tup_n, x_isn_tup_n, x_is_tup_b, x_isn_tup_b, x_is_lst_n, x_isn_lst_n, x_is_lst_b, x_isn_lst_b, x_is_ref_n, x_isn_ref_n, x_is_ref_b, x_isn_ref_b, x_is_bb, x_isn_bb, oM_some, sM_some, x_ix_tup, x_ix_lst, x_ix_ref, x_tru_non, x_tru_bl, x_tru_int, x_tru_str, x_tru_tup, x_tru_lst, x_tru_ref, x_len_tup, x_tuple_tup, x_list_tup, x_listN_tup, x_len_lst, x_tuple_lst, x_list_lst, x_listN_lst, x_len_str, x_rLen_ref, x_rTuple_ref, x_rList_ref, x_rListN_ref, x_int_int, x_int_bl, x_abs, x_gcd, x_max2, x_min2, x_append, x_popAt, x_pop, x_putAt, x_putAtC, x_isL_ref, x_isL_lst, y_var0, y_varS, y_tB, y_test, y_wBl, y_nB, y_neg, y_isT, y_asgN, y_bK, y_asgT, y_bindN, y_bind0, y_seqI, y_iK_t, y_iK_l, y_iK_r, y_rg1, y_rg2, y_r1K, y_r2K, y_put, y_pK, y_comp, y_compN, y_cN, y_wipe0, y_wipe1,
  List.map_cons, List.map_nil, List.cons_append, List.nil_append, List.replicate, List.getElem?_cons_zero, List.getElem?_cons_succ, List.set_cons_zero, List.set_cons_succ, List.length_cons, List.length_nil, decide_eq_true_eq, Bool.not_true, Bool.not_false, if_true, if_false, Bool.false_eq_true, bq_tt, bq_tf, bq_ft, bq_ff, sizeLine_eq, Nat.reduceAdd, Nat.reduceLeDiff, Int.reduceMul, Int.reduceSub, Int.reduceAdd, Int.reduceNeg, Int.reducePow, Int.reduceToNat, Int.reduceLT, Int.reduceLE, Nat.reduceSub, Nat.reducePow, Nat.reduceLT, z_cast0, z_pos, Int.lt_irrefl, List.eraseIdx_cons_zero, List.eraseIdx_cons_succ, true_and, Bool.not_eq_true', decide_eq_false_iff_not, Bool.not_eq_eq_eq_not, and_true, decide_true, decide_false, not_true_eq_false, not_false_eq_true,
  isT_non_int, isT_non_bool, isT_non_str, isT_non_tuple, isT_non_list, isT_bl_int, isT_bl_bool, isT_bl_str, isT_bl_tuple, isT_bl_list, isT_int_int, isT_int_bool, isT_int_str, isT_int_tuple, isT_int_list, isT_str_int, isT_str_bool, isT_str_str, isT_str_tuple, isT_str_list, isT_tup_int, isT_tup_bool, isT_tup_str, isT_tup_tuple, isT_tup_list, isT_lst_int, isT_lst_bool, isT_lst_str, isT_lst_tuple, isT_lst_list])
local macro_rules | `(tactic| walk_at "fl") => `(tactic| simp only [y_w_for, y_for0, y_forN, y_forT, y_w_seq, y_w_ret, y_w_retN, y_w_if, y_w_drop, y_w_next, y_w_c, y_w_op, y_w_and, y_w_or, y_w_not, y_w_tru, y_w_ifE, y_w_call, y_w_cons, y_w_nil, y_w_tup, y_w_lst, y_w_new, y_w_fn, y_w_meth, y_w_meth0, y_w_andV, y_w_orV, y_w_notV, y_w_yes, y_w_brk, y_w_ct, atD_of, atD_cast, atD_neg1,
  x_rLtD, x_rLeD, x_rGtD, x_rGeD, y_w_sl, y_w_noPart, y_w_part, y_oI, x_sl_tup, x_sl_lst, x_sl_str, x_sl_ref, x_slN_lst, x_slN_ref, y_aK, y_w_aug, x_rAddI, y_pK2, y_w_par, y_rgTo, y_rgA1, y_rgA2, y_rgA3, y_mkTup, y_mkLst, y_mkNew, y_iM, y_it_tup, y_it_lst, x_in, x_sorted, x_sortedN, x_sset, y_chain, x_rAdd, x_rSub, x_rMul, x_rDiv, x_rMod, x_rPow, x_rLt, x_rLe, x_rGt, x_rGe, x_rAdd_s, x_rAdd_t, x_rEq_int, x_rEq_bl, x_rEq_str, x_rEq_tup, x_rEq_lst, x_rEq_nt, x_rEq_tn, x_rEq_nn, x_rEq_ni, x_rEq_in, x_rNe_int, x_rNe_bl, x_rNe_str, x_rNe_tup, x_rNe_lst, x_rNe_nt, x_rNe_tn, x_rNe_nn, x_rNe_ni, x_rNe_in, x_is_non_n, x_isn_non_n, x_is_non_b, x_isn_non_b, x_is_bl_n, x_isn_bl_n, x_is_int_n, x_isn_int_n, x_is_int_b, x_isn_int_b, x_is_str_n, x_isn_str_n, x_is_str_b, x_isn_str_b, x_is_tup_n, x_isn_tup_n, x_is_tup_b, x_isn_tup_b, x_is_lst_n, x_isn_lst_n, x_is_lst_b, x_isn_lst_b, x_is_ref_n, x_isn_ref_n, x_is_ref_b, x_isn_ref_b, x_is_bb, x_isn_bb, oM_some, sM_some, x_ix_tup, x_ix_lst, x_ix_ref, x_tru_non, x_tru_bl, x_tru_int, x_tru_str, x_tru_tup, x_tru_lst, x_tru_ref, x_len_tup, x_tuple_tup, x_list_tup, x_listN_tup, x_len_lst, x_tuple_lst, x_list_lst, x_listN_lst, x_len_str, x_rLen_ref, x_rTuple_ref, x_rList_ref, x_rListN_ref, x_int_int, x_int_bl, x_abs, x_gcd, x_max2, x_min2, x_append, x_popAt, x_pop, x_putAt, x_putAtC, x_isL_ref, x_isL_lst, y_var0, y_varS, y_tB, y_test, y_wBl, y_nB, y_neg, y_isT, y_asgN, y_bK, y_asgT, y_bindN, y_bind0, y_seqI, y_iK_t, y_iK_l, y_iK_r, y_rg1, y_rg2, y_r1K, y_r2K, y_put, y_pK, y_comp, y_compN, y_cN, y_wipe0, y_wipe1,
  List.map_cons, List.map_nil, List.cons_append, List.nil_append, List.replicate, List.getElem?_cons_zero, List.getElem?_cons_succ, List.set_cons_zero, List.set_cons_succ, List.length_cons, List.length_nil, decide_eq_true_eq, Bool.not_true, Bool.not_false, if_true, if_false, Bool.false_eq_true, bq_tt, bq_tf, bq_ft, bq_ff, sizeLine_eq, Nat.reduceAdd, Nat.reduceLeDiff, Int.reduceMul, Int.reduceSub, Int.reduceAdd, Int.reduceNeg, Int.reducePow, Int.reduceToNat, Int.reduceLT, Int.reduceLE, Nat.reduceSub, Nat.reducePow, Nat.reduceLT, z_cast0, z_pos, Int.lt_irrefl, List.eraseIdx_cons_zero, List.eraseIdx_cons_succ, true_and, Bool.not_eq_true', decide_eq_false_iff_not, Bool.not_eq_eq_eq_not, and_true, decide_true, decide_false, not_true_eq_false, not_false_eq_true,
  isT_non_int, isT_non_bool, isT_non_str, isT_non_tuple, isT_non_list, isT_bl_int, isT_bl_bool, isT_bl_str, isT_bl_tuple, isT_bl_list, isT_int_int, isT_int_bool, isT_int_str, isT_int_tuple, isT_int_list, isT_str_int, isT_str_bool, isT_str_str, isT_str_tuple, isT_str_list, isT_tup_int, isT_tup_bool, isT_tup_str, isT_tup_tuple, isT_tup_list, isT_lst_int, isT_lst_bool, isT_lst_str, isT_lst_tuple, isT_lst_list])
theorem inner_loop (k : Int × Int) (hk : 0 ≤ k.2) (D0 : EndsD) (ks r : Option D) (S : Store) (B : Bool) (hnx : ∀ o, D0.nx [ks, r, some (pr2 k), some (.bl B), o] S) : ∀ (M : List (Int × Int)) (b : Bool) (o : Option D), (∀ x ∈ M, 0 ≤ x.2) → B = (b && aloneB M k) →
    forR (Tg.name 4) w__law_tidied_for0 (fun _ => True) D0 (M.map pr2) [ks, r, some (pr2 k), some (.bl b), o] S
  | [], b, o, _, e => by
    rw [List.map_nil]
    walk_at "fl"
    have : B = b := by rw [e]; simp [aloneB]
    rw [← this]
    exact hnx o
  | z :: M, b, o, h0, e => by
    rw [List.map_cons]
    walk_at "fl"
    unfold w__law_tidied_for0
    unfold pr2 pr
    walk_at "dl"
    refine ⟨okD2 _ _, okD2 _ _, ?_⟩
    have e1 := eqv_pair k z
    unfold pr2 pr at e1
    rw [e1]
    have ih := fun b' e' => inner_loop k hk D0 ks r S B hnx M b' (some (pr2 z)) (fun x hx => h0 x (by simp [hx])) e'
    have e2 : aloneB (z :: M) k = ((decide (z = k) || !insB k.1 k.2 z.1 z.2) && aloneB M k) := by unfold aloneB; rw [List.all_cons]
    rw [e2] at e
    by_cases h : k = z
    · subst h
      simp only [decide_true, Bool.true_or, Bool.true_and] at e
      simp only [decide_true, Bool.true_eq_false, if_false]
      exact ih b e
    · have h2 : ¬ z = k := fun q => h q.symm
      simp only [h, h2, decide_false, Bool.not_false, if_true, Bool.false_or] at e ⊢
      refine ⟨k.1, k.2, z.1, z.2, rfl, hk, h0 z (by simp), ?_⟩
      walk_at "dl"
      by_cases hi : insB k.1 k.2 z.1 z.2 = true
      · simp only [hi, if_true, Bool.not_true, Bool.false_and, Bool.and_false] at e ⊢
        exact ih false (by rw [e]; simp)
      · simp only [hi, if_false] at e ⊢
        exact ih b (by rw [e]; simp)
theorem outer_loop (ks : List (Int × Int)) (h0 : ∀ k ∈ ks, 0 ≤ k.2) (D0 : EndsD) (S : Store) (hnx : ∀ (out : List (Int × Int)) (x w o : Option D), TidyP ks out → D0.nx [some (.tup (ks.map pr2)), some (.ref S.length), x, w, o] (S ++ [.lst (out.map pr2)])) :
    ∀ (L acc : List (Int × Int)), L.Pairwise (fun x y => ¬ lexP y x) → acc.Pairwise lexP → (∀ a ∈ acc, ∀ l ∈ L, ¬ lexP l a) → (∀ k, (k ∈ acc ∨ (k ∈ L ∧ aloneB ks k = true)) ↔ (k ∈ ks ∧ aloneB ks k = true)) → (∀ k ∈ L, 0 ≤ k.2) → acc.length + L.length ≤ 1000 → ∀ x w o : Option D,
      forR (Tg.name 2) w__law_tidied_for1 (fun _ => True) D0 (L.map pr2) [some (.tup (ks.map pr2)), some (.ref S.length), x, w, o] (S ++ [.lst (acc.map pr2)])
  | [], acc, _, ha, _, hm, _, _, x, w, o => by
    rw [List.map_nil]
    walk_at "fl"
    refine hnx acc x w o ⟨ha, fun k => ?_⟩
    rw [← alone_iff, ← hm k]
    simp
  | k :: L, acc, hL, ha, hal, hm, hk, hz, x, w, o => by
    rw [List.map_cons]
    walk_at "fl"
    unfold w__law_tidied_for1
    walk_at "dl"
    unfold wFor
    walk_at "dl"
    obtain ⟨hL1, hL2⟩ := List.pairwise_cons.mp hL
    have hz' : acc.length + (L.length + 1) ≤ 1000 := by simpa using hz
    refine inner_loop k (hk k (by simp)) _ _ _ _ (aloneB ks k) (fun o => ?_) ks true _ h0 (by rw [Bool.true_and])
    walk_at "dl"
    have skip : (aloneB ks k = true → k ∈ acc) → forR (Tg.name 2) w__law_tidied_for1 (fun _ => True) D0 (L.map pr2) [some (.tup (ks.map pr2)), some (.ref S.length), some (pr2 k), some (.bl (aloneB ks k)), o] (S ++ [.lst (acc.map pr2)]) := fun hs =>
      outer_loop ks h0 D0 S hnx L acc hL2 ha (fun a h l hl => hal a h l (by simp [hl])) (fun z => by
        rw [← hm z]
        constructor
        · rintro (h | ⟨h1, h2⟩)
          · exact .inl h
          · exact .inr ⟨by simp [h1], h2⟩
        · rintro (h | ⟨h1, h2⟩)
          · exact .inl h
          · rcases List.mem_cons.mp h1 with rfl | h1
            · exact .inl (hs h2)
            · exact .inr ⟨h1, h2⟩) (fun z hz => hk z (by simp [hz])) (by omega) _ _ _
    by_cases hA : aloneB ks k = true
    · simp only [hA, if_true] at skip ⊢
      rw [y_it_ref get_end, y_iM]
      refine ⟨ok_pair k, ok_pairs acc, ?_⟩
      rw [in_pairs]
      by_cases hin : k ∈ acc
      · simp only [hin, decide_true, Bool.not_true, if_true, Bool.false_eq_true, if_false]
        exact skip fun _ => hin
      · simp only [hin, decide_false, Bool.not_false, if_true]
        simp only [get_end, sM_some, set_end]
        have := outer_loop ks h0 D0 S hnx L (acc ++ [k]) hL2 (List.pairwise_append.mpr ⟨ha, List.pairwise_singleton _ _, fun a h b hb => ?_⟩) (fun a h l hl => ?_) (fun z => ?_) (fun z hz => hk z (by simp [hz])) (by simp; omega) (some (pr2 k)) (some (.bl true)) o
        · rw [List.map_append] at this
          exact ⟨trivial, by rw [List.length_map]; omega, this⟩
        · rw [List.mem_singleton.mp hb]
          rcases lexP_tri a k with q | q | q
          · exact q
          · exact absurd (by rw [← q]; exact h) hin
          · exact absurd q (hal a h k (by simp))
        · rcases List.mem_append.mp h with h | h
          · exact hal a h l (by simp [hl])
          · rw [List.mem_singleton.mp h]; exact hL1 l hl
        · rw [← hm z]
          constructor
          · rintro (h | ⟨h1, h2⟩)
            · rcases List.mem_append.mp h with h | h
              · exact .inl h
              · rw [List.mem_singleton.mp h]; exact .inr ⟨by simp, hA⟩
            · exact .inr ⟨by simp [h1], h2⟩
          · rintro (h | ⟨h1, h2⟩)
            · exact .inl (by simp [h])
            · rcases List.mem_cons.mp h1 with rfl | h1
              · exact .inl (by simp)
              · exact .inr ⟨h1, h2⟩
    · simp only [hA, if_false]
      rw [Bool.not_eq_true] at hA
      rw [hA] at skip
      exact skip fun z => by cases z
theorem v__law_tidied (ds : List D) (S : Store) (Q0 : D → Store → Prop) (hl : ds.length = 1) (hc : closedS S) (hd : closedL S.length ds) (h : c__law_tidied ds S Q0) : w__law_tidied (EX S Q0) (ds.map some ++ List.replicate 4 none) S := by
  obtain ⟨ks, rfl, hlen, h0, q⟩ := h
  unfold w__law_tidied
  walk_at "dl"
  unfold wFor
  walk_at "dl"
  refine ⟨sort_pairs ks, ?_⟩
  rw [sortD_pairs]
  have hmem : ∀ k, k ∈ ks.mergeSort leP ↔ k ∈ ks := fun k => (List.mergeSort_perm ks leP).mem_iff
  refine outer_loop ks h0 _ S (fun out x w o ht => ?_) (ks.mergeSort leP) [] (sorted_pairs ks) .nil (fun a h => by cases h) (fun k => by simp [hmem]) (fun k hk => h0 k ((hmem k).mp hk)) (by rw [List.length_mergeSort]; simp; omega) _ _ _
  walk_at "dl"
  simp only [get_end, sM_some]
  exact .same hc (pure_pairs _) (q _ ht)
end K03

set_option maxHeartbeats 2000000
namespace K03
open PySem PySem.Spec PyProof.Rows L2 DL
local macro_rules | `(tactic| walk_at "dl") => `(tactic| simp only [y_w_seq, y_w_ret, y_w_retN, y_w_if, y_w_drop, y_w_next, y_w_c, y_w_op, y_w_and, y_w_or, y_w_not, y_w_tru, y_w_ifE, y_w_call, y_w_cons, y_w_nil, y_w_tup, y_w_lst, y_w_new, y_w_fn, y_w_meth, y_w_meth0, y_w_andV, y_w_orV, y_w_notV, y_w_yes, y_w_brk, y_w_ct, atD_of, atD_cast, atD_neg1,
  x_rLtD, x_rLeD, x_rGtD, x_rGeD, y_w_sl, y_w_noPart, y_w_part, y_oI, x_sl_tup, x_sl_lst, x_sl_str, x_sl_ref, x_slN_lst, x_slN_ref, y_aK, y_w_aug, x_rAddI, y_pK2, y_w_par, y_rgTo, y_rgA1, y_rgA2, y_rgA3, y_mkTup, y_mkLst, y_mkNew, y_iM, y_it_tup, y_it_lst, x_in, x_sorted, x_sortedN, x_sset, y_chain, x_rAdd, x_rSub, x_rMul, x_rDiv, x_rMod, x_rPow, x_rLt, x_rLe, x_rGt, x_rGe, x_rAdd_s, x_rAdd_t, x_rEq_int, x_rEq_bl, x_rEq_str, x_rEq_tup, x_rEq_lst, x_rEq_nt, x_rEq_tn, x_rEq_nn, x_rEq_ni, x_rEq_in, x_rNe_int, x_rNe_bl, x_rNe_str, x_rNe_tup, x_rNe_lst, x_rNe_nt, x_rNe_tn, x_rNe_nn, x_rNe_ni, x_rNe_in, x_is_non_n, x_isn_non_n, x_is_non_b, x_isn_non_b, x_is_bl_n, x_isn_bl_n, x_is_int_n, x_isn_int_n, x_is_int_b, x_isn_int_b, x_is_str_n, x_isn_str_n, x_is_str_b, x_isn_str_b, x_is_tup_n, x_isn_tup_n, x_is_tup_b, x_isn_tup_b, x_is_lst_n, x_isn_lst_n, x_is_lst_b, x_isn_lst_b, x_is_ref_n, x_isn_ref_n, x_is_ref_b, x_isn_ref_b, x_is_bb, x_isn_bb, oM_some, sM_some, x_ix_tup, x_ix_lst, x_ix_ref, x_tru_non, x_tru_bl, x_tru_int, x_tru_str, x_tru_tup, x_tru_lst, x_tru_ref, x_len_tup, x_tuple_tup, x_list_tup, x_listN_tup, x_len_lst, x_tuple_lst, x_list_lst, x_listN_lst, x_len_str, x_rLen_ref, x_rTuple_ref, x_rList_ref, x_rListN_ref, x_int_int, x_int_bl, x_abs, x_gcd, x_max2, x_min2, x_append, x_popAt, x_pop, x_putAt, x_putAtC, x_isL_ref, x_isL_lst, y_var0, y_varS, y_tB, y_test, y_wBl, y_nB, y_neg, y_isT, y_asgN, y_bK, y_asgT, y_bindN, y_bind0, y_seqI, y_iK_t, y_iK_l, y_iK_r, y_rg1, y_rg2, y_r1K, y_r2K, y_put, y_pK, y_comp, y_compN, y_cN, y_wipe0, y_wipe1,
  List.map_cons, List.map_nil, List.cons_append, List.nil_append, List.replicate, List.getElem?_cons_zero, List.getElem?_cons_succ, List.set_cons_zero, List.set_cons_succ, List.length_cons, List.length_nil, decide_eq_true_eq, Bool.not_true, Bool.not_false, if_true, if_false, Bool.false_eq_true, bq_tt, bq_tf, bq_ft, bq_ff, sizeLine_eq, Nat.reduceAdd, Nat.reduceLeDiff, Int.reduceMul, Int.reduceSub, Int.reduceAdd, Int.reduceNeg, Int.reducePow, Int.reduceToNat, Int.reduceLT, Int.reduceLE, Nat.reduceSub, Nat.reducePow, Nat.reduceLT, z_cast0, z_pos, Int.lt_irrefl, List.eraseIdx_cons_zero, List.eraseIdx_cons_succ, true_and, Bool.not_eq_true', decide_eq_false_iff_not, Bool.not_eq_eq_eq_not, and_true, decide_true, decide_false, not_true_eq_false, not_false_eq_true,
  isT_non_int, isT_non_bool, isT_non_str, isT_non_tuple, isT_non_list, isT_bl_int, isT_bl_bool, isT_bl_str, isT_bl_tuple, isT_bl_list, isT_int_int, isT_int_bool, isT_int_str, isT_int_tuple, isT_int_list, isT_str_int, isT_str_bool, isT_str_str, isT_str_tuple, isT_str_list, isT_tup_int, isT_tup_bool, isT_tup_str, isT_tup_tuple, isT_tup_list, isT_lst_int, isT_lst_bool, isT_lst_str, isT_lst_tuple, isT_lst_list])
local macro_rules | `(tactic| walk_at "fl") => `(tactic| simp only [y_w_for, y_for0, y_forN, y_forT, y_w_seq, y_w_ret, y_w_retN, y_w_if, y_w_drop, y_w_next, y_w_c, y_w_op, y_w_and, y_w_or, y_w_not, y_w_tru, y_w_ifE, y_w_call, y_w_cons, y_w_nil, y_w_tup, y_w_lst, y_w_new, y_w_fn, y_w_meth, y_w_meth0, y_w_andV, y_w_orV, y_w_notV, y_w_yes, y_w_brk, y_w_ct, atD_of, atD_cast, atD_neg1,
  x_rLtD, x_rLeD, x_rGtD, x_rGeD, y_w_sl, y_w_noPart, y_w_part, y_oI, x_sl_tup, x_sl_lst, x_sl_str, x_sl_ref, x_slN_lst, x_slN_ref, y_aK, y_w_aug, x_rAddI, y_pK2, y_w_par, y_rgTo, y_rgA1, y_rgA2, y_rgA3, y_mkTup, y_mkLst, y_mkNew, y_iM, y_it_tup, y_it_lst, x_in, x_sorted, x_sortedN, x_sset, y_chain, x_rAdd, x_rSub, x_rMul, x_rDiv, x_rMod, x_rPow, x_rLt, x_rLe, x_rGt, x_rGe, x_rAdd_s, x_rAdd_t, x_rEq_int, x_rEq_bl, x_rEq_str, x_rEq_tup, x_rEq_lst, x_rEq_nt, x_rEq_tn, x_rEq_nn, x_rEq_ni, x_rEq_in, x_rNe_int, x_rNe_bl, x_rNe_str, x_rNe_tup, x_rNe_lst, x_rNe_nt, x_rNe_tn, x_rNe_nn, x_rNe_ni, x_rNe_in, x_is_non_n, x_isn_non_n, x_is_non_b, x_isn_non_b, x_is_bl_n, x_isn_bl_n, x_is_int_n, x_isn_int_n, x_is_int_b, x_isn_int_b, x_is_str_n, x_isn_str_n, x_is_str_b, x_isn_str_b, x_is_tup_n, x_isn_tup_n, x_is_tup_b, x_isn_tup_b, x_is_lst_n, x_isn_lst_n, x_is_lst_b, x_isn_lst_b, x_is_ref_n, x_isn_ref_n, x_is_ref_b, x_isn_ref_b, x_is_bb, x_isn_bb, oM_some, sM_some, x_ix_tup, x_ix_lst, x_ix_ref, x_tru_non, x_tru_bl, x_tru_int, x_tru_str, x_tru_tup, x_tru_lst, x_tru_ref, x_len_tup, x_tuple_tup, x_list_tup, x_listN_tup, x_len_lst, x_tuple_lst, x_list_lst, x_listN_lst, x_len_str, x_rLen_ref, x_rTuple_ref, x_rList_ref, x_rListN_ref, x_int_int, x_int_bl, x_abs, x_gcd, x_max2, x_min2, x_append, x_popAt, x_pop, x_putAt, x_putAtC, x_isL_ref, x_isL_lst, y_var0, y_varS, y_tB, y_test, y_wBl, y_nB, y_neg, y_isT, y_asgN, y_bK, y_asgT, y_bindN, y_bind0, y_seqI, y_iK_t, y_iK_l, y_iK_r, y_rg1, y_rg2, y_r1K, y_r2K, y_put, y_pK, y_comp, y_compN, y_cN, y_wipe0, y_wipe1,
  List.map_cons, List.map_nil, List.cons_append, List.nil_append, List.replicate, List.getElem?_cons_zero, List.getElem?_cons_succ, List.set_cons_zero, List.set_cons_succ, List.length_cons, List.length_nil, decide_eq_true_eq, Bool.not_true, Bool.not_false, if_true, if_false, Bool.false_eq_true, bq_tt, bq_tf, bq_ft, bq_ff, sizeLine_eq, Nat.reduceAdd, Nat.reduceLeDiff, Int.reduceMul, Int.reduceSub, Int.reduceAdd, Int.reduceNeg, Int.reducePow, Int.reduceToNat, Int.reduceLT, Int.reduceLE, Nat.reduceSub, Nat.reducePow, Nat.reduceLT, z_cast0, z_pos, Int.lt_irrefl, List.eraseIdx_cons_zero, List.eraseIdx_cons_succ, true_and, Bool.not_eq_true', decide_eq_false_iff_not, Bool.not_eq_eq_eq_not, and_true, decide_true, decide_false, not_true_eq_false, not_false_eq_true,
  isT_non_int, isT_non_bool, isT_non_str, isT_non_tuple, isT_non_list, isT_bl_int, isT_bl_bool, isT_bl_str, isT_bl_tuple, isT_bl_list, isT_int_int, isT_int_bool, isT_int_str, isT_int_tuple, isT_int_list, isT_str_int, isT_str_bool, isT_str_str, isT_str_tuple, isT_str_list, isT_tup_int, isT_tup_bool, isT_tup_str, isT_tup_tuple, isT_tup_list, isT_lst_int, isT_lst_bool, isT_lst_str, isT_lst_tuple, isT_lst_list])
theorem picked_in {rows : List D} {p : PoolSt} {G : Store} {Q : D → Store → Prop} (ok : p.Ok) (h0 : rows ≠ []) (h1 : rows.length ≤ 100000) (q : ∀ (d : D) (p' : PoolSt), p'.Ok → d ∈ rows → Q d (mkP p' G)) : c__law_picked [.ref 1, .lst rows] (mkP p G) Q :=
  ⟨rows, p, G, rfl, rfl, ok, h0, h1, q⟩
theorem residue_in {step : Int} {p : PoolSt} {G : Store} {Q : D → Store → Prop} (ok : p.Ok) (h0 : 0 ≤ step) (h1 : step < 2 ^ 60) (q : ∀ (v : Int) (p' : PoolSt), p'.Ok → v.natAbs < 2 ^ 70 → (step ≠ 0 → 0 ≤ v ∧ v < step) → Q (pr v step) (mkP p' G)) : c__law_residue [.ref 1, .int step] (mkP p G) Q :=
  ⟨step, p, G, rfl, rfl, ok, h0, h1, q⟩
theorem integer_in {p : PoolSt} {G : Store} {Q : D → Store → Prop} (ok : p.Ok) (q : ∀ (x : Int) (p' : PoolSt), p'.Ok → x.natAbs < 2 ^ 70 → Q (.int x) (mkP p' G)) : c__law_integer [.ref 1] (mkP p G) Q :=
  ⟨p, G, rfl, rfl, ok, q⟩
def intB (f : Int → Bool) : D → Bool
  | .int i => f i
  | _ => false
theorem filter_intB (f : Int → Bool) (l : List Int) : (l.map D.int).filter (intB f) = (l.filter f).map D.int := by
  rw [List.filter_map]
  rfl
theorem listing_loop (wide : Option D) (n : Int) (n0 : 2 ≤ n) (n1 : n ≤ 10000) (steps : Option D) (turn : Int) (D0 : EndsD)
    (hnx : ∀ (p : PoolSt) (x r u m : Option D), p.Ok → D0.nx [some (.ref 1), wide, some (.int n), steps, some (.int turn), x, r, u, m] (mkP p [])) : ∀ (xs : List Int), (∀ x ∈ xs, 1 ≤ x ∧ x ≤ n) → ∀ (p : PoolSt), p.Ok → ∀ (x r u m : Option D),
      forR (Tg.name 5) w__law_listing_for0 (fun _ => True) D0 (xs.map .int) [some (.ref 1), wide, some (.int n), steps, some (.int turn), x, r, u, m] (mkP p [])
  | [], _, p, ok, x, r, u, m => by
    rw [List.map_nil]
    walk_at "fl"
    exact hnx p x r u m ok
  | s :: xs, hx, p, ok, x, r, u, m => by
    obtain ⟨s0, s1⟩ := hx s (by simp)
    rw [List.map_cons]
    walk_at "fl"
    unfold w__law_listing_for0
    walk_at "dl"
    refine residue_in ok (by omega) (by omega) fun v p1 ok1 _ hv => ?_
    obtain ⟨v0, v1⟩ := hv (by omega)
    refine ⟨⟨by omega, by omega⟩, ?_⟩
    rw [intsD_eq]
    refine compR_filter (t := intB fun i => decide ((i - v) % s = 0)) (f := id) trivial _ [] (by simp [sizeLine_eq]; omega) (fun y hy => ?_) ?_
    · obtain ⟨i, hi, rfl⟩ := List.mem_map.mp hy
      refine ⟨_, rfl, fun Q q => ?_, fun _ Q q => ?_⟩
      · walk_at "dl"
        refine ⟨v, s, i, rfl, by omega, ?_⟩
        walk_at "dl"
        exact q
      · walk_at "dl"
        exact q
    · rw [List.map_id, List.nil_append, filter_intB]
      walk_at "dl"
      refine ⟨n, turn, v, s, rfl, v0, v1, s1, n1, ?_⟩
      have e : ((List.range n.toNat).map fun i : Nat => (0 : Int) + (i : Int)).filter (fun i => decide ((i - v) % s = 0)) = marksL n v s := by
        unfold marksL
        simp
      rw [e]
      refine ⟨_, rfl, same_ints 1 ?_, ?_⟩
      · have := List.length_filter_le (fun i => decide ((i - v) % s = 0)) ((List.range n.toNat).map fun i : Nat => (i : Int))
        unfold marksL
        simp at this ⊢
        omega
      · walk_at "dl"
        exact listing_loop wide n n0 n1 steps turn D0 hnx xs (fun x h => hx x (by simp [h])) p1 ok1 _ _ _ _
theorem v__law_listing (ds : List D) (S : Store) (Q0 : D → Store → Prop) (hl : ds.length = 2) (hc : closedS S) (hd : closedL S.length ds) (h : c__law_listing ds S Q0) : w__law_listing (EX S Q0) (ds.map some ++ List.replicate 7 none) S := by
  obtain ⟨wd, p0, rfl, rfl, ok0, q⟩ := h
  have core : ∀ (n : Int) (p : PoolSt), p.Ok → 2 ≤ n → n ≤ 10000 → wSeq (wAsg (wComp (wRange2 (wCons (wC (DL.D.int (1))) (wCons (wOp DL.rAdd (wVar 2) (wC (DL.D.int (1)))) wNil))) (Tg.name 5) (wTest (wOp DL.rEq (wOp DL.rMod (wCall rInt (wCons (wVar 2) wNil)) (wVar 5)) (wC (DL.D.int (0))))) (wVar 5) [5]) (Tg.name 3))
      (wSeq (wAsg (wFn c__law_picked 2 (wCons (wVar 0) (wCons (wLst (wCons (wC (DL.D.int (1))) (wCons (wOp DL.rSub (wVar 2) (wC (DL.D.int (1)))) wNil))) wNil))) (Tg.name 4))
      (wSeq (wFor (wSeqI (wTup (wCons (wC (DL.D.int (1))) (wCons (wVar 2) (wCons (wFn c__law_picked 2 (wCons (wVar 0) (wCons (wVar 3) wNil))) wNil))))) (Tg.name 5) w__law_listing_for0)
      (wRet (wC (DL.D.bl true))))) (EX (mkP p0 []) Q0) [some (.ref 1), some (.bl wd), some (.int n), none, none, none, none, none, none] (mkP p []) := by
    intro n p ok n0 n1
    walk_at "dl"
    refine ⟨by omega, ?_⟩
    rw [intsD_eq]
    refine compR_filter (t := intB fun i => decide (n % i = 0)) (f := id) trivial _ [] (by simp [sizeLine_eq]; omega) (fun y hy => ?_) ?_
    · obtain ⟨i, hi, rfl⟩ := List.mem_map.mp hy
      obtain ⟨j, _, rfl⟩ := List.mem_map.mp hi
      refine ⟨_, rfl, fun Q q => ?_, fun _ Q q => ?_⟩
      · walk_at "dl"
        exact ⟨by omega, q⟩
      · walk_at "dl"
        exact q
    · rw [List.map_id, List.nil_append, filter_intB]
      refine picked_in ok (by simp) (by simp) fun tn p1 ok1 ht => ?_
      have htn : ∃ k, tn = .int k := by
        simp only [List.mem_cons, List.not_mem_nil, or_false] at ht
        rcases ht with rfl | rfl <;> exact ⟨_, rfl⟩
      obtain ⟨k, rfl⟩ := htn
      generalize hsteps : (((List.range (n + 1 - 1).toNat).map fun i : Nat => (1 : Int) + (i : Int)).filter fun i => decide (n % i = 0)) = steps
      have hst : ∀ x ∈ steps, 1 ≤ x ∧ x ≤ n := fun x hx => by
        rw [← hsteps] at hx
        obtain ⟨j, hj, rfl⟩ := List.mem_map.mp (List.mem_filter.mp hx).1
        have := List.mem_range.mp hj
        omega
      have hne : steps ≠ [] := fun e => by
        have : (1 : Int) ∈ steps := by
          rw [← hsteps]
          exact List.mem_filter.mpr ⟨List.mem_map.mpr ⟨0, List.mem_range.mpr (by omega), by omega⟩, by simp⟩
        rw [e] at this
        cases this
      have hlen : steps.length ≤ 100000 := by
        rw [← hsteps]
        have := List.length_filter_le (fun i : Int => decide (n % i = 0)) ((List.range (n + 1 - 1).toNat).map fun i : Nat => (1 : Int) + (i : Int))
        simp at this ⊢
        omega
      unfold wFor
      walk_at "dl"
      refine picked_in ok1 (by simpa using hne) (by simpa using hlen) fun s p2 ok2 hs => ?_
      obtain ⟨z, hz, rfl⟩ := List.mem_map.mp hs
      have hz2 := hst z hz
      refine listing_loop _ n n0 n1 _ k _ (fun p x r u m okp => ?_) [1, n, z] (fun x hx => ?_) p2 ok2 _ _ _ _
      · walk_at "dl"
        exact .all (q p okp)
      · simp only [List.mem_cons, List.not_mem_nil, or_false] at hx
        rcases hx with rfl | rfl | rfl <;> omega
  unfold w__law_listing
  walk_at "dl"
  refine draw_in ok0 (by decide) (by decide) fun x p1 ok1 x0 x1 => ?_
  walk_at "dl"
  refine picked_in ok1 (by simp) (by simp) fun m p2 ok2 hm => ?_
  have hmn : ∃ n : Int, m = .int n ∧ 2 ≤ n ∧ n ≤ 10000 := by
    simp only [List.mem_cons, List.not_mem_nil, or_false] at hm
    rcases hm with rfl | rfl | rfl | rfl | rfl | rfl | rfl | rfl <;> exact ⟨_, rfl, by omega, by omega⟩
  obtain ⟨n, rfl, n0, n1⟩ := hmn
  walk_at "dl"
  split
  · refine draw_in ok2 (by decide) (by decide) fun x p3 ok3 x0 x1 => ?_
    walk_at "dl"
    refine picked_in ok3 (by simp) (by simp) fun m p4 ok4 hm => ?_
    have hmn : ∃ n : Int, m = .int n ∧ 2 ≤ n ∧ n ≤ 10000 := by
      simp only [List.mem_cons, List.not_mem_nil, or_false] at hm
      rcases hm with rfl | rfl | rfl | rfl | rfl <;> exact ⟨_, rfl, by omega, by omega⟩
    obtain ⟨n', rfl, n0', n1'⟩ := hmn
    have := core n' p4 ok4 n0' n1'
    revert this
    walk_at "dl"
    exact fun h => h
  · have := core n p2 ok2 n0 n1
    revert this
    walk_at "dl"
    exact fun h => h
end K03

set_option maxHeartbeats 2000000
namespace K03
open PySem PySem.Spec PyProof.Rows L2 DL
local macro_rules | `(tactic| walk_at "w") => `(tactic| conv => whnf)
local macro_rules | `(tactic| walk_at "side") => `(tactic| first | exact True.intro | omega | assumption | (simp only [sizeLine_eq, List.length_append, List.length_cons, List.length_nil, List.length_map, List.length_set]; omega) | exact (rfl : _ = _) | exact Int.mul_pos (by omega) (by omega) | exact DL.MulOk.l (by omega) (by omega) | exact DL.MulOk.r (by omega) (by omega) | exact DL.MulOk.big (by omega) (by omega) | exact DL.DivOk.of (by omega) (by omega))
local macro_rules | `(tactic| walk_at "call") => `(tactic| fail "no contract")
local macro_rules | `(tactic| walk_at "go1") => `(tactic| ((conv => whnf); first | (refine And.intro ?_ ?_; ((walk_at "side"))) | walk_at "call" | (refine cIf_t rfl ?_) | refine cIf_f rfl ?_))
local macro_rules | `(tactic| walk_at "go") => `(tactic| ((repeat (walk_at "go1")); try (conv => whnf)))
local macro_rules | `(tactic| walk_at "yes") => `(tactic| (refine cIf_t (by first | rfl | simp | (simp; omega)) ?_; walk_at "go"))
local macro_rules | `(tactic| walk_at "no") => `(tactic| (refine cIf_f (by first | rfl | simp | (simp; omega)) ?_; walk_at "go"))
theorem draw_k {many : Int} {p : PoolSt} {G : Store} {Q : D → Store → Prop} (ok : p.Ok) (h0 : 0 < many) (h1 : many < 2 ^ 200) (q : ∀ (d : Int) (p' : PoolSt), p'.Ok → 0 ≤ d → d < many → Q (.int d) (mkP p' G)) : askC c__law_draw [.ref 1, .int many] (mkP p G) Q := ask_in (draw_in ok h0 h1 q)
theorem picked_k {rows : List D} {p : PoolSt} {G : Store} {Q : D → Store → Prop} (ok : p.Ok) (h0 : rows ≠ []) (h1 : rows.length ≤ 100000) (q : ∀ (d : D) (p' : PoolSt), p'.Ok → d ∈ rows → Q d (mkP p' G)) : askC c__law_picked [.ref 1, .lst rows] (mkP p G) Q := ask_in (picked_in ok h0 h1 q)
theorem residue_k {step : Int} {p : PoolSt} {G : Store} {Q : D → Store → Prop} (ok : p.Ok) (h0 : 0 ≤ step) (h1 : step < 2 ^ 60) (q : ∀ (v : Int) (p' : PoolSt), p'.Ok → v.natAbs < 2 ^ 70 → (step ≠ 0 → 0 ≤ v ∧ v < step) → Q (pr v step) (mkP p' G)) : askC c__law_residue [.ref 1, .int step] (mkP p G) Q := ask_in (residue_in ok h0 h1 q)
theorem integer_k {p : PoolSt} {G : Store} {Q : D → Store → Prop} (ok : p.Ok) (q : ∀ (x : Int) (p' : PoolSt), p'.Ok → x.natAbs < 2 ^ 70 → Q (.int x) (mkP p' G)) : askC c__law_integer [.ref 1] (mkP p G) Q := ask_in (integer_in ok q)
local macro_rules | `(tactic| walk_at "call") => `(tactic| ((with_reducible show askC c__law_draw _ _ _); refine draw_k (by assumption) ?_ ?_ ?_; (walk_at "side"); (walk_at "side"); intro d p' ok' h0 h1))
local macro_rules | `(tactic| walk_at "call") => `(tactic| ((with_reducible show askC c__law_integer _ _ _); refine integer_k (by assumption) ?_; intro d p' ok' h0))
local macro_rules | `(tactic| walk_at "call") => `(tactic| ((with_reducible show askC c__law_residue _ _ _); refine residue_k (by assumption) ?_ ?_ ?_; (walk_at "side"); (walk_at "side"); intro d p' ok' h0 h1))
/-- a question with fitting bounds -/
def Trip (d : D) : Prop := ∃ f m t : Int, d = .tup [.int f, .int m, .int t] ∧ 0 < f ∧ f < 2 ^ 40 ∧ 0 ≤ m ∧ m < 2 ^ 40 ∧ t.natAbs < 2 ^ 200
theorem trip_of {f m t : Int} (f0 : 0 < f) (f1 : f < 2 ^ 40) (m0 : 0 ≤ m) (m1 : m < 2 ^ 40) (ht : t.natAbs < 2 ^ 200) : Trip (.tup [.int f, .int m, .int t]) := ⟨f, m, t, rfl, f0, f1, m0, m1, ht⟩

theorem mul_bd {x y A B : Int} (x0 : 2 ≤ x) (x1 : x ≤ A) (y0 : 1 ≤ y) (y1 : y ≤ B) : 2 ≤ x * y ∧ x * y ≤ A * B := by
  constructor
  · have : x * 1 ≤ x * y := Int.mul_le_mul_of_nonneg_left y0 (by omega)
    omega
  · exact Int.mul_le_mul x1 y1 (by omega) (by omega)
theorem closed_ints {n : Nat} : ∀ l : List Int, closedL n (l.map D.int)
  | [] => by simp [closedL]
  | x :: l => by simp [closedL, closedD, closed_ints l]
theorem mk_closed (p : PoolSt) : closedS (mkP p []) := fun ds h => by
  unfold mkP at h
  simp only [List.mem_cons, List.not_mem_nil, or_false, Ob.lst.injEq] at h
  rcases h with rfl | rfl
  · exact closed_ints _
  · simp [closedL, closedD, mkP]
theorem nat_mul_lt {a b : Int} (ha : a.natAbs < 2 ^ 40) (hb : b.natAbs < 2 ^ 80) : (a * b).natAbs < 2 ^ 120 := by
  rw [Int.natAbs_mul]
  have : a.natAbs * b.natAbs ≤ 2 ^ 40 * b.natAbs := Nat.mul_le_mul_right _ (by omega)
  omega
theorem moreT {xs : List D} {d : D} (h1 : ∀ d ∈ xs, Trip d) (h2 : Trip d) : ∀ e ∈ xs ++ [d], Trip e := fun e he => by
  rcases List.mem_append.mp he with z | z
  · exact h1 e z
  · rw [List.mem_singleton.mp z]; exact h2
theorem solP_leaf {f m t : Int} {r : D} (h : SolP f m t r) : sameOk 3 r := by
  rcases h with ⟨rfl, _⟩ | ⟨_, v, rfl, _⟩
  · exact same_non 2
  · exact same_pr 1 _ _
theorem solving_loop (w a b c e x : Option D) (Q0 : D → Store → Prop) (p0 p : PoolSt) (q : ∀ p' : PoolSt, p'.Ok → Q0 (.bl true) (mkP p' [])) (ok : p.Ok) (xs : List D) (h : ∀ d ∈ xs, Trip d) (hc : closedS (mkP p [])) : 
    forG (Tg.name 7) w__law_solving_for0 (fun S => S[2]? = some (.lst xs)) { nx := (wRet (wC (.bl true))) (EX (mkP p0 []) Q0), rt := (EX (mkP p0 []) Q0).rt, bk := (EX (mkP p0 []) Q0).bk, ct := (EX (mkP p0 []) Q0).ct } xs [some (.ref 1), w, a, b, c, e, some (.ref 2), x] (mkP p [.lst xs]) := by
  refine forG_rule (fun i ρ S => ∃ x, ρ = [some (.ref 1), w, a, b, c, e, some (.ref 2), x] ∧ S = mkP p [.lst xs]) ⟨_, rfl, rfl⟩ ?_ ?_
  · rintro i d ρ S k hd ⟨x, rfl, rfl⟩ hk
    obtain ⟨f, m, t, rfl, f0, f1, m0, m1, ht⟩ := h d (List.mem_of_getElem? hd)
    refine ⟨rfl, _, rfl, ?_⟩
    walk_at "go"
    refine ask_in ⟨f, m, t, rfl, f0, by omega, m0, by omega, ht, fun r hr => ?_⟩
    walk_at "go"
    refine ask_in ⟨f, m, t, rfl, f0, by omega, m0, by omega, ht, fun r' hr' => ?_⟩
    have er := solP_uniq f0 m0 hr hr'
    subst er
    walk_at "go"
    refine ask_in ⟨r, rfl, solP_leaf hr, ?_⟩
    walk_at "go"
    exact hk _ _ ⟨_, rfl, rfl⟩
  · rintro ρ S ⟨x, rfl, rfl⟩
    refine ⟨rfl, ?_⟩
    walk_at "w"
    exact Exit.same (S := mkP p []) (G := [.lst xs]) hc (.bl true) (q p ok)
theorem solving_tail (s f m : Int) (wd : Bool) (Q0 : D → Store → Prop) (p0 p : PoolSt) (q : ∀ p' : PoolSt, p'.Ok → Q0 (.bl true) (mkP p' [])) (ok : p.Ok) (s0 : 2 ≤ s) (s1 : s ≤ 8) (f0 : 2 ≤ f) (f1 : f ≤ 20000) (m0 : 2 ≤ m) (m1 : m ≤ 20000) : 
    Tail w__law_solving_s4 (EX (mkP p0 []) Q0) [some (.ref 1), some (.bl wd), some (.int s), some (.int f), some (.int m), none, none, none] (mkP p []) := by
  refine ⟨?_⟩
  walk_at "go"
  rename_i v pa oka hv a _ _ a0 a1 b _ _ b0 b1 c _ _ c0 c1 e _ _ e0 e1 t _ _ t0 t1 g pb okb g0 g1
  refine picked_k (by assumption) (by simp) (by simp) fun d p1 ok1 hd => ?_
  obtain ⟨n, rfl, n0, n1⟩ : ∃ n : Int, d = .int n ∧ 1 ≤ n ∧ n ≤ 20001 := by
    simp only [List.mem_cons, List.not_mem_nil, or_false] at hd
    rcases hd with rfl | rfl | rfl <;> exact ⟨_, rfl, by omega, by omega⟩
  walk_at "go"
  refine picked_k (by assumption) (by simp) (by simp) fun d p2 ok2 hd => ?_
  obtain ⟨n', rfl, n0', n1'⟩ : ∃ n : Int, d = .int n ∧ 1 ≤ n ∧ n ≤ 20001 := by
    simp only [List.mem_cons, List.not_mem_nil, or_false] at hd
    rcases hd with rfl | rfl | rfl <;> exact ⟨_, rfl, by omega, by omega⟩
  have fv := nat_mul_lt (a := f) (b := v) (by omega) (by omega)
  have mc := nat_mul_lt (a := m) (b := a - 4) (by omega) (by omega)
  have base : ∀ d ∈ [D.tup [.int f, .int m, .int (f * v + m * (a - 4))], .tup [.int f, .int m, .int (f * v + 1 + b)], .tup [.int (1 + c), .int (1 + e), .int (t - 60)], .tup [.int f, .int 0, .int (f * v)], .tup [.int f, .int 0, .int (f * v + 1 + g)], .tup [.int n, .int 1, .int v], .tup [.int n', .int m, .int v]], Trip d := fun d hd => by
    simp only [List.mem_cons, List.not_mem_nil, or_false] at hd
    rcases hd with rfl | rfl | rfl | rfl | rfl | rfl | rfl <;> exact trip_of (by omega) (by omega) (by omega) (by omega) (by omega)
  cases wd
  · walk_at "go"
    exact solving_loop _ _ _ _ _ _ Q0 p0 p2 q ok2 _ base (mk_closed p2)
  · walk_at "go"
    rename_i x _ _ x0 x1 y _ _ y0 y1 z p3 ok3 z0 z1
    refine solving_loop _ _ _ _ _ _ Q0 p0 p3 q ok3 _ (moreT (moreT base ?_) ?_) (mk_closed p3)
    · exact trip_of (by omega) (by omega) (by omega) (by omega) (by omega)
    · exact trip_of (by omega) (by omega) (by omega) (by omega) (by omega)
theorem v__law_solving (ds : List D) (S : Store) (Q0 : D → Store → Prop) (hl : ds.length = 2) (hc : closedS S) (hd : closedL S.length ds) (h : c__law_solving ds S Q0) : w__law_solving (EX S Q0) (ds.map some ++ List.replicate 6 none) S := by
  obtain ⟨wd, p0, rfl, rfl, ok0, q⟩ := h
  walk_at "go"
  rename_i a _ _ a0 a1 b _ _ b0 b1 c p ok c0 c1
  cases wd
  · walk_at "go"
    have h1 := mul_bd (x := 2 + a) (y := 1 + b) (A := 8) (B := 1200) (by omega) (by omega) (by omega) (by omega)
    have h2 := mul_bd (x := 2 + a) (y := 1 + c) (A := 8) (B := 1200) (by omega) (by omega) (by omega) (by omega)
    exact solving_tail (2 + a) ((2 + a) * (1 + b)) ((2 + a) * (1 + c)) false Q0 p0 p q ok (by omega) (by omega) (by omega) (by omega) (by omega) (by omega)
  · walk_at "go"
    rename_i b _ _ b0 b1 c p ok c0 c1
    have h1 := mul_bd (x := 2 + a) (y := 1 + b) (A := 8) (B := 1200) (by omega) (by omega) (by omega) (by omega)
    have h2 := mul_bd (x := 2 + a) (y := 1 + c) (A := 8) (B := 1200) (by omega) (by omega) (by omega) (by omega)
    exact solving_tail (2 + a) ((2 + a) * (1 + b)) ((2 + a) * (1 + c)) true Q0 p0 p q ok (by omega) (by omega) (by omega) (by omega) (by omega) (by omega)
end K03

set_option maxHeartbeats 2000000
namespace K03
open PySem PySem.Spec PyProof.Rows L2 DL
local macro_rules | `(tactic| walk_at "w") => `(tactic| conv => whnf)
local macro_rules | `(tactic| walk_at "side") => `(tactic| first | exact True.intro | omega | assumption | (simp only [sizeLine_eq, List.length_append, List.length_cons, List.length_nil, List.length_map, List.length_set]; omega) | exact (rfl : _ = _) | exact Int.mul_pos (by omega) (by omega) | exact DL.MulOk.l (by omega) (by omega) | exact DL.MulOk.r (by omega) (by omega) | exact DL.MulOk.big (by omega) (by omega) | exact DL.DivOk.of (by omega) (by omega))
local macro_rules | `(tactic| walk_at "call") => `(tactic| fail "no contract")
local macro_rules | `(tactic| walk_at "go1") => `(tactic| ((conv => whnf); first | (refine And.intro ?_ ?_; ((walk_at "side"))) | walk_at "call" | (refine cIf_t rfl ?_) | refine cIf_f rfl ?_))
local macro_rules | `(tactic| walk_at "go") => `(tactic| ((repeat (walk_at "go1")); try (conv => whnf)))
local macro_rules | `(tactic| walk_at "yes") => `(tactic| (refine cIf_t (by first | rfl | simp | (simp; omega)) ?_; walk_at "go"))
local macro_rules | `(tactic| walk_at "no") => `(tactic| (refine cIf_f (by first | rfl | simp | (simp; omega)) ?_; walk_at "go"))
local macro_rules | `(tactic| walk_at "call") => `(tactic| ((with_reducible show askC c__law_draw _ _ _); refine draw_k (by assumption) ?_ ?_ ?_; (walk_at "side"); (walk_at "side"); intro d p' ok' h0 h1))
local macro_rules | `(tactic| walk_at "call") => `(tactic| ((with_reducible show askC c__law_integer _ _ _); refine integer_k (by assumption) ?_; intro d p' ok' h0))
local macro_rules | `(tactic| walk_at "call") => `(tactic| ((with_reducible show askC c__law_residue _ _ _); refine residue_k (by assumption) ?_ ?_ ?_; (walk_at "side"); (walk_at "side"); intro d p' ok' h0 h1))
def PairOk (x : D) : Prop := ∃ a c b d : Int, x = .tup [pr a c, pr b d] ∧ 0 ≤ c ∧ c < 2 ^ 60 ∧ 0 ≤ d ∧ d < 2 ^ 20 ∧ a.natAbs < 2 ^ 200 ∧ b.natAbs < 2 ^ 200
theorem pairOk {a c b d : Int} (h1 : 0 ≤ c) (h2 : c < 2 ^ 60) (h3 : 0 ≤ d) (h4 : d < 2 ^ 20) (h5 : a.natAbs < 2 ^ 200) (h6 : b.natAbs < 2 ^ 200) : PairOk (.tup [pr a c, pr b d]) := ⟨a, c, b, d, rfl, h1, h2, h3, h4, h5, h6⟩
theorem bothP_leaf {a c b d : Int} {r : D} (h : BothP a c b d r) : sameOk 3 r := by
  rcases h with ⟨_, _, rfl⟩ | ⟨_, _, _, rfl⟩ | ⟨_, _, _, v, rfl, _⟩ | ⟨_, rfl⟩
  · exact same_pr 1 _ _
  · exact same_pr 1 _ _
  · exact same_pr 1 _ _
  · exact same_non 2
theorem pairing_loop (w a b c e f g h i j l m : Option D) (v : Int) (x y : Option D) (Q0 : D → Store → Prop) (p0 p : PoolSt) (q : ∀ p' : PoolSt, p'.Ok → Q0 (.bl true) (mkP p' [])) (ok : p.Ok) (xs : List D) (hx : ∀ d ∈ xs, PairOk d) :
    forG (Tg.name 14) w__law_pairing_for1 (fun _ => True) { nx := (wRet (wC (.bl true))) (EX (mkP p0 []) Q0), rt := (EX (mkP p0 []) Q0).rt, bk := (EX (mkP p0 []) Q0).bk, ct := (EX (mkP p0 []) Q0).ct } xs [some (.ref 1), w, a, b, c, some (.int v), e, f, g, h, i, j, l, m, x, y] (mkP p []) := by
  refine forG_rule (fun _ ρ S => ∃ x y p', ρ = [some (.ref 1), w, a, b, c, some (.int v), e, f, g, h, i, j, l, m, x, y] ∧ S = mkP p' [] ∧ p'.Ok) ⟨_, _, _, rfl, rfl, ok⟩ ?_ ?_
  · rintro _ d0 ρ S k hd ⟨x, y, p', rfl, rfl, ok'⟩ hk
    obtain ⟨a, c, b, d, rfl, c0, c1, d0, d1, ha, hb⟩ := hx _ (List.mem_of_getElem? hd)
    refine ⟨trivial, _, rfl, ?_⟩
    walk_at "go"
    refine ask_in ⟨a, c, b, d, rfl, c0, d0, ?_⟩
    walk_at "go"
    refine ask_in ⟨a, c, b, d, rfl, c0, d0, ?_⟩
    walk_at "go"
    refine ask_in ⟨_, rfl, same_bl 2 _, ?_⟩
    walk_at "go"
    refine ask_in ⟨a, c, b, d, rfl, c0, by omega, d0, by omega, ha, hb, fun r hr => ?_⟩
    walk_at "go"
    refine ask_in ⟨a, c, b, d, rfl, c0, c1, d0, d1, ha, hb, fun r' hr' => ?_⟩
    have er := bothP_uniq c0 d0 hr hr'
    subst er
    walk_at "go"
    refine ask_in ⟨r, rfl, bothP_leaf hr, ?_⟩
    walk_at "go"
    rename_i z p2 ok2 hz
    refine forG_rule (fun _ ρ S => ∃ y, ρ = [some (.ref 1), w, _, _, _, some (.int v), e, f, g, h, i, j, l, m, some (.tup [pr a c, pr b d]), y] ∧ S = mkP p2 []) ⟨_, rfl, rfl⟩ ?_ ?_
    · rintro _ o ρ S k' ho ⟨y, rfl, rfl⟩ hk'
      obtain ⟨n, rfl⟩ : ∃ n : Int, o = .int n := by
        have := List.mem_of_getElem? ho
        simp only [List.mem_cons, List.not_mem_nil, or_false] at this
        rcases this with rfl | rfl | rfl | rfl <;> exact ⟨_, rfl⟩
      refine ⟨trivial, _, rfl, ?_⟩
      walk_at "go"
      refine ask_in ⟨b, d, n, rfl, d0, ?_⟩
      walk_at "go"
      refine ask_in ⟨b, d, n, rfl, d0, ?_⟩
      walk_at "go"
      refine ask_in ⟨_, rfl, same_bl 2 _, ?_⟩
      walk_at "go"
      exact hk' _ _ ⟨_, rfl, rfl⟩
    · rintro ρ S ⟨y, rfl, rfl⟩
      exact ⟨trivial, hk _ _ ⟨_, _, _, rfl, rfl, ok2⟩⟩
  · rintro ρ S ⟨x, y, p', rfl, rfl, ok'⟩
    refine ⟨trivial, ?_⟩
    walk_at "w"
    exact Exit.all (q p' ok')
theorem mul_bd1 {x y A B : Int} (x0 : 1 ≤ x) (x1 : x ≤ A) (y0 : 1 ≤ y) (y1 : y ≤ B) : 1 ≤ x * y ∧ x * y ≤ A * B := by
  constructor
  · have : x * 1 ≤ x * y := Int.mul_le_mul_of_nonneg_left y0 (by omega)
    omega
  · exact Int.mul_le_mul x1 y1 (by omega) (by omega)
theorem emod_bd (x : Int) {m : Int} (h : 1 ≤ m) : 0 ≤ x % m ∧ x % m < m := ⟨Int.emod_nonneg _ (by omega), Int.emod_lt_of_pos _ (by omega)⟩
theorem pairing_tail (s o t : Int) (wd : Bool) (Q0 : D → Store → Prop) (p0 p : PoolSt) (q : ∀ p' : PoolSt, p'.Ok → Q0 (.bl true) (mkP p' [])) (ok : p.Ok) (o0 : 1 ≤ o) (o1 : o ≤ 300) (t0 : 1 ≤ t) (t1 : t ≤ 300) :
    Tail w__law_pairing_s4 (EX (mkP p0 []) Q0) [some (.ref 1), some (.bl wd), some (.int s), some (.int o), some (.int t), none, none, none, none, none, none, none, none, none, none, none] (mkP p []) := by
  refine ⟨?_⟩
  walk_at "go"
  rename_i v _ _ v0 v1 u _ _ u0 u1 n _ _ n0 n1 s1 _ _ s10 s11 r1 _ _ r10 r11 s2 _ _ s20 s21 r2 _ _ r20 r21 z p' ok' z0 z1
  have i0 := mul_bd1 (x := o) (y := 1 + n) (A := 300) (B := 6) (by omega) (by omega) (by omega) (by omega)
  have k0 := mul_bd1 (x := o) (y := 2 + z) (A := 300) (B := 6) (by omega) (by omega) (by omega) (by omega)
  have e1 := emod_bd v (m := o) (by omega)
  have e2 := emod_bd v (m := t) (by omega)
  have e3 := emod_bd (v + 1 + u) (m := t) (by omega)
  have e4 := emod_bd v (m := o * (1 + n)) (by omega)
  have e5 := emod_bd (v + 1) (m := o * (1 + n)) (by omega)
  refine pairing_loop _ _ _ _ _ _ _ _ _ _ _ _ v _ _ Q0 p0 p' q ok' _ (fun d hd => ?_)
  simp only [List.mem_cons, List.not_mem_nil, or_false] at hd
  rcases hd with rfl | rfl | rfl | rfl | rfl | rfl | rfl | rfl | rfl | rfl | rfl | rfl | rfl | rfl | rfl | rfl | rfl <;> exact pairOk (by omega) (by omega) (by omega) (by omega) (by omega) (by omega)
theorem v__law_pairing (ds : List D) (S : Store) (Q0 : D → Store → Prop) (hl : ds.length = 2) (hc : closedS S) (hd : closedL S.length ds) (h : c__law_pairing ds S Q0) : w__law_pairing (EX S Q0) (ds.map some ++ List.replicate 14 none) S := by
  obtain ⟨wd, p0, rfl, rfl, ok0, q⟩ := h
  walk_at "go"
  rename_i a _ _ a0 a1 b _ _ b0 b1 c p ok c0 c1
  cases wd
  · walk_at "go"
    have h1 := mul_bd1 (x := 1 + a) (y := 1 + b) (A := 6) (B := 40) (by omega) (by omega) (by omega) (by omega)
    have h2 := mul_bd1 (x := 1 + a) (y := 1 + c) (A := 6) (B := 40) (by omega) (by omega) (by omega) (by omega)
    exact pairing_tail (1 + a) ((1 + a) * (1 + b)) ((1 + a) * (1 + c)) false Q0 p0 p q ok (by omega) (by omega) (by omega) (by omega)
  · walk_at "go"
    rename_i b _ _ b0 b1 c p ok c0 c1
    have h1 := mul_bd1 (x := 1 + a) (y := 1 + b) (A := 6) (B := 40) (by omega) (by omega) (by omega) (by omega)
    have h2 := mul_bd1 (x := 1 + a) (y := 1 + c) (A := 6) (B := 40) (by omega) (by omega) (by omega) (by omega)
    exact pairing_tail (1 + a) ((1 + a) * (1 + b)) ((1 + a) * (1 + c)) true Q0 p0 p q ok (by omega) (by omega) (by omega) (by omega)
end K03

set_option maxHeartbeats 2000000
namespace K03
open PySem PySem.Spec PyProof.Rows L2 DL
local macro_rules | `(tactic| walk_at "w") => `(tactic| conv => whnf)
local macro_rules | `(tactic| walk_at "side") => `(tactic| first | exact True.intro | omega | with_reducible assumption | (simp only [sizeLine_eq, List.length_append, List.length_cons, List.length_nil, List.length_map, List.length_set]; omega) | exact (rfl : _ = _) | exact Int.mul_pos (by omega) (by omega) | exact DL.MulOk.l (by omega) (by omega) | exact DL.MulOk.r (by omega) (by omega) | exact DL.MulOk.big (by omega) (by omega) | exact DL.DivOk.of (by omega) (by omega))
local macro_rules | `(tactic| walk_at "call") => `(tactic| fail "no contract")
local macro_rules | `(tactic| walk_at "go1") => `(tactic| ((conv => whnf); first | (refine And.intro ?_ ?_; ((walk_at "side"))) | walk_at "call" | (refine cIf_t rfl ?_) | refine cIf_f rfl ?_))
local macro_rules | `(tactic| walk_at "go") => `(tactic| ((repeat (walk_at "go1")); try (conv => whnf)))
local macro_rules | `(tactic| walk_at "yes") => `(tactic| (refine cIf_t (by first | rfl | simp | (simp; omega)) ?_; walk_at "go"))
local macro_rules | `(tactic| walk_at "no") => `(tactic| (refine cIf_f (by first | rfl | simp | (simp; omega)) ?_; walk_at "go"))
local macro_rules | `(tactic| walk_at "call") => `(tactic| ((with_reducible show askC c__law_draw _ _ _); refine draw_k (by assumption) ?_ ?_ ?_; (walk_at "side"); (walk_at "side"); intro d p' ok' h0 h1))
local macro_rules | `(tactic| walk_at "call") => `(tactic| ((with_reducible show askC c__law_integer _ _ _); refine integer_k (by assumption) ?_; intro d p' ok' h0))
local macro_rules | `(tactic| walk_at "call") => `(tactic| ((with_reducible show askC c__law_residue _ _ _); refine residue_k (by assumption) ?_ ?_ ?_; (walk_at "side"); (walk_at "side"); intro d p' ok' h0 h1))
structure RowsOk (n : Nat) (ks : List (Int × Int)) : Prop where
  len : ks.length = n
  pos : ∀ k ∈ ks, 0 ≤ k.2
theorem RowsOk.more {n : Nat} {ks : List (Int × Int)} (h : RowsOk n ks) {a b : Int} (hb : 0 ≤ b) : RowsOk (n + 1) (ks ++ [(a, b)]) := ⟨by simp [h.len], fun k hk => by
  rcases List.mem_append.mp hk with z | z
  · exact h.pos k z
  · rw [List.mem_singleton.mp z]; exact hb⟩
theorem RowsOk.set {n : Nat} {ks : List (Int × Int)} (h : RowsOk n ks) (i : Nat) {k : Int × Int} (hk : 0 ≤ k.2) : RowsOk n (ks.set i k) := ⟨by simp [h.len], fun o ho => by
  rcases List.mem_or_eq_of_mem_set ho with z | rfl
  · exact h.pos o z
  · exact hk⟩
theorem same_tidy {ks out : List (Int × Int)} (h : TidyP ks out) (hl : ks.length ≤ 100000) : out.length ≤ 100000 := by
  have := nodup_len (l := out) (m := ks) (h.1.imp fun hl he => by subst he; unfold lexP at hl; omega) (fun x hx => ((h.2 x).mp hx).1)
  omega
theorem tidy_few {v d : Int} {hi : Option Int} : TidyP (cutD [(v, d)] none hi) (cutD [(v, d)] none hi) := by
  have h : cutD [(v, d)] none hi = [] ∨ cutD [(v, d)] none hi = [(v, d)] := by
    have h1 : (cutD [(v, d)] none hi).length ≤ 1 := cutD_len
    cases e : cutD [(v, d)] none hi with
    | nil => exact .inl rfl
    | cons x r =>
      rw [e] at h1
      have hr : r = [] := by cases r with | nil => rfl | cons y r => simp at h1
      have hx : x = (v, d) := by
        have := cutD_mem (x := x) (xs := [(v, d)]) (lo := none) (hi := hi) (by rw [e]; simp)
        simpa using this
      rw [hx, hr]
      exact .inr rfl
  rcases h with e | e <;> rw [e]
  · exact ⟨.nil, fun k => by simp⟩
  · refine ⟨List.pairwise_singleton _ _, fun k => ⟨fun hk => ⟨hk, fun o ho hne => ?_⟩, fun hk => hk.1⟩⟩
    rw [List.mem_singleton] at hk ho
    exact absurd (ho.trans hk.symm) hne
theorem tidying_tail (n : Nat) (n0 : 9 ≤ n) (n1 : n ≤ 49) (st v d : Int) (d0 : 0 ≤ d) (wd : Bool) (b c x : Option D) (Q0 : D → Store → Prop) (p0 p : PoolSt) (q : ∀ p' : PoolSt, p'.Ok → Q0 (.bl true) (mkP p' [])) (ok : p.Ok) (ks : List (Int × Int)) (h : RowsOk n ks) :
    Tail w__law_tidying_s6 (EX (mkP p0 []) Q0) [some (.ref 1), some (.bl wd), some (.int st), some (pr v d), b, c, some (.ref 2), x, none, none, none, none, none] (mkP p [.lst (ks.map pr2)]) := by
  refine ⟨?_⟩
  walk_at "go"
  refine forG_range0 (fun i ρ S => ∃ x1 x2 x3 x4 x5 p ks, ρ = [some (.ref 1), some (.bl wd), some (.int st), some (pr v d), b, c, some (.ref 2), x1, none, x2, x3, x4, x5] ∧ S = mkP p [.lst (ks.map pr2)] ∧ p.Ok ∧ RowsOk n ks) ⟨_, _, _, _, _, p, ks, rfl, rfl, ok, h⟩ ?_ ?_
  · rintro t ρ S k ht ⟨x1, x2, x3, x4, x5, p, ks, rfl, rfl, ok, h⟩ hk
    refine ⟨trivial, _, rfl, ?_⟩
    have ht2 : t < 2 := ht
    have hl := h.len
    walk_at "go"
    have e0 : ((((ks.map pr2).length : Nat) : Int)).toNat = n := by simp [hl]
    rw [e0]
    refine forG_range0 (fun i ρ S => ∃ x2 x4 x5 p ks, ρ = [some (.ref 1), some (.bl wd), some (.int st), some (pr v d), b, c, some (.ref 2), some (.int (t : Int)), none, x2, x3, x4, x5] ∧ S = mkP p [.lst (ks.map pr2)] ∧ p.Ok ∧ RowsOk n ks) ⟨_, _, _, p, ks, rfl, rfl, ok, h⟩ ?_ ?_
    · rintro i ρ S k hi ⟨x2, x4, x5, p, ks, rfl, rfl, ok, h⟩ hk
      refine ⟨trivial, _, rfl, ?_⟩
      have hl := h.len
      walk_at "go"
      rename_i w p1 ok1 w0 w1
      obtain ⟨w, rfl⟩ := nat_of w0
      have hw : w < n := by simp [hl] at w1; omega
      rw [at_some (ds := ks.map pr2) (n := i) (by simp; omega)]
      walk_at "go"
      rw [at_some (ds := ks.map pr2) (n := w) (by simp; omega)]
      walk_at "go"
      refine hk _ _ ⟨_, _, _, p1, (ks.set i ks[w]).set w ks[i], rfl, ?_, ok1, (h.set i (h.pos _ (List.getElem_mem _))).set w (h.pos _ (List.getElem_mem _))⟩
      simp only [List.map_set, List.getElem_map]
      rfl
    · rintro ρ S ⟨x2, x4, x5, p, ks, rfl, rfl, ok, h⟩
      refine ⟨trivial, ?_⟩
      walk_at "go"
      rw [cutD_map]
      have hl := h.len
      refine ask_in ⟨_, rfl, Nat.lt_of_le_of_lt cutD_len (by omega), fun k hk => h.pos k (cutD_mem hk), fun out ho => ?_⟩
      walk_at "go"
      refine ask_in ⟨_, rfl, Nat.lt_of_le_of_lt cutD_len (by omega), fun k hk => h.pos k (cutD_mem hk), fun out' ho' => ?_⟩
      have e := tidyP_uniq ho ho'
      subst e
      walk_at "go"
      refine ask_in ⟨_, rfl, same_prs 0 (same_tidy ho (Nat.le_trans cutD_len (by omega))), ?_⟩
      walk_at "go"
      exact hk _ _ ⟨_, _, _, _, _, _, ks, rfl, rfl, by assumption, h⟩
  · rintro ρ S ⟨x1, x2, x3, x4, x5, p, ks, rfl, rfl, ok, h⟩
    refine ⟨trivial, ?_⟩
    walk_at "go"
    rename_i d1 p1 ok1 _ _
    have e : cutD [pr v d] none (some d1) = (cutD [(v, d)] none (some d1)).map pr2 := cutD_map (f := pr2) (xs := [(v, d)])
    have ep : ∀ k ∈ cutD [(v, d)] none (some d1), 0 ≤ k.2 := fun k hk => by
      have := cutD_mem hk
      rw [List.mem_singleton] at this
      rw [this]
      exact d0
    have el : (cutD [(v, d)] none (some d1)).length ≤ 1 := cutD_len
    refine ask_in ⟨_, congrArg (fun l => [D.tup l]) e, by omega, ep, fun out ho => ?_⟩
    have e2 := tidyP_uniq ho tidy_few
    subst e2
    walk_at "go"
    refine ask_in ⟨D.tup ((cutD [(v, d)] none (some d1)).map pr2), congrArg (fun l => [_, D.tup l]) e, same_prs 0 (by omega), ?_⟩
    walk_at "go"
    exact Exit.same (S := mkP p1 []) (G := [.lst (ks.map pr2)]) (mk_closed p1) (.bl true) (q p1 ok1)
theorem v__law_tidying (ds : List D) (S : Store) (Q0 : D → Store → Prop) (hl : ds.length = 2) (hc : closedS S) (hd : closedL S.length ds) (h : c__law_tidying ds S Q0) : w__law_tidying (EX S Q0) (ds.map some ++ List.replicate 11 none) S := by
  obtain ⟨wd, p0, rfl, rfl, ok0, q⟩ := h
  walk_at "go"
  rename_i a _ _ a0 a1 f _ _ f0 f1 g _ _ g0 g1 o p ok o0 o1
  rw [Int.mul_ediv_cancel_left _ (by omega)]
  walk_at "go"
  have hi := mul_bd1 (x := 2 + a) (y := 1 + g) (A := 13) (B := 5) (by omega) (by omega) (by omega) (by omega)
  rename_i e1 _ _ e10 e11 r1 _ _ r10 r11 r2 _ _ r20 r21 u _ _ u0 u1 r3 _ _ r30 r31 r4 p1 ok1 r40 r41
  have rows : ∃ ks : List (Int × Int), RowsOk 9 ks ∧ ks.map pr2 = [pr f (2 + a), .tup [.int (f + (2 + a) * e1), .int ((2 + a) * (1 + g))], pr r1 (2 + o), .tup [.int ((f + 1) % (2 + a)), .int (2 + a)], pr r2 0, .tup [.int (f - (2 + a)), .int 0], pr f (2 + a), pr r3 (1 + u), pr r4 ((2 + o) * 2)] :=
    ⟨[(f, 2 + a), (f + (2 + a) * e1, (2 + a) * (1 + g)), (r1, 2 + o), ((f + 1) % (2 + a), 2 + a), (r2, 0), (f - (2 + a), 0), (f, 2 + a), (r3, 1 + u), (r4, (2 + o) * 2)], ⟨rfl, fun k hk => by
      simp only [List.mem_cons, List.not_mem_nil, or_false] at hk
      rcases hk with rfl | rfl | rfl | rfl | rfl | rfl | rfl | rfl | rfl <;> simp <;> omega⟩, rfl⟩
  obtain ⟨ks, hks, ek⟩ := rows
  refine Eq.mp (congrArg (fun l => cIf wd (gFor (wRange1 (wCons (wC (.int 40)) wNil)) (Tg.name 7) w__law_tidying_for0 { nx := Tail w__law_tidying_s6 (EX (mkP p0 []) Q0), rt := (EX (mkP p0 []) Q0).rt }
      [some (.ref 1), some (.bl wd), some (.int (2 + a)), some (pr f (2 + a)), some (.int ((2 + a) * (1 + g))), some (.int (2 + o)), some (.ref 2), none, none, none, none, none, none] (mkP p1 [.lst l]))
    (Tail w__law_tidying_s6 (EX (mkP p0 []) Q0) [some (.ref 1), some (.bl wd), some (.int (2 + a)), some (pr f (2 + a)), some (.int ((2 + a) * (1 + g))), some (.int (2 + o)), some (.ref 2), none, none, none, none, none, none] (mkP p1 [.lst l]))) ek) ?_
  refine cIf_b (fun e => ?_) (fun e => ?_)
  · walk_at "go"
    refine forG_range0 (fun i ρ S => ∃ x p ks, ρ = [some (.ref 1), some (.bl wd), some (.int (2 + a)), some (pr f (2 + a)), some (.int ((2 + a) * (1 + g))), some (.int (2 + o)), some (.ref 2), x, none, none, none, none, none] ∧ S = mkP p [.lst (ks.map pr2)] ∧ p.Ok ∧ RowsOk (9 + i) ks) ⟨_, p1, ks, rfl, rfl, ok1, hks⟩ ?_ ?_
    · rintro i ρ S k ht ⟨x, p, ks, rfl, rfl, ok, h⟩ hk
      refine ⟨trivial, _, rfl, ?_⟩
      have hl := h.len
      have hi' : i < 40 := ht
      walk_at "go"
      rename_i d _ _ y0 y1
      have := mul_bd1 (x := 2 + a) (y := 1 + d) (A := 13) (B := 60) (by omega) (by omega) (by omega) (by omega)
      rw [Int.mul_add, Int.mul_one] at this
      have m0 : 0 ≤ (2 + a) * d := Int.mul_nonneg (by omega) (by omega)
      walk_at "go"
      rename_i z p' ok' z0 z1
      refine hk _ _ ⟨_, p', ks ++ [(z, 1 + (2 + a) * d)], rfl, ?_, ok', h.more (by omega)⟩
      rw [List.map_append]
      rfl
    · rintro ρ S ⟨x, p, ks, rfl, rfl, ok, h⟩
      refine ⟨trivial, ?_⟩
      exact tidying_tail _ (by decide) (by decide) _ _ _ (by omega) _ _ _ _ _ _ _ q ok ks h
  · exact tidying_tail _ (by decide) (by decide) _ _ _ (by omega) _ _ _ _ _ _ _ q ok1 ks hks
end K03

set_option maxHeartbeats 2000000
namespace K03
open PySem PySem.Spec PyProof.Rows L2 DL
local macro_rules | `(tactic| walk_at "w") => `(tactic| conv => whnf)
local macro_rules | `(tactic| walk_at "side") => `(tactic| first | exact True.intro | omega | with_reducible assumption | (simp only [sizeLine_eq, List.length_append, List.length_cons, List.length_nil, List.length_map, List.length_set]; omega) | exact (rfl : _ = _) | exact Int.mul_pos (by omega) (by omega) | exact DL.MulOk.l (by omega) (by omega) | exact DL.MulOk.r (by omega) (by omega) | exact DL.MulOk.big (by omega) (by omega) | exact DL.DivOk.of (by omega) (by omega))
local macro_rules | `(tactic| walk_at "call") => `(tactic| fail "no contract")
local macro_rules | `(tactic| walk_at "go1") => `(tactic| ((conv => whnf); first | (refine And.intro ?_ ?_; ((walk_at "side"))) | walk_at "call" | (refine cIf_t rfl ?_) | refine cIf_f rfl ?_))
local macro_rules | `(tactic| walk_at "go") => `(tactic| ((repeat (walk_at "go1")); try (conv => whnf)))
local macro_rules | `(tactic| walk_at "yes") => `(tactic| (refine cIf_t (by first | rfl | simp | (simp; omega)) ?_; walk_at "go"))
local macro_rules | `(tactic| walk_at "no") => `(tactic| (refine cIf_f (by first | rfl | simp | (simp; omega)) ?_; walk_at "go"))
local macro_rules | `(tactic| walk_at "call") => `(tactic| ((with_reducible show askC c__law_draw _ _ _); refine draw_k (by assumption) ?_ ?_ ?_; (walk_at "side"); (walk_at "side"); intro d p' ok' h0 h1))
local macro_rules | `(tactic| walk_at "call") => `(tactic| ((with_reducible show askC c__law_integer _ _ _); refine integer_k (by assumption) ?_; intro d p' ok' h0))
local macro_rules | `(tactic| walk_at "call") => `(tactic| ((with_reducible show askC c__law_residue _ _ _); refine residue_k (by assumption) ?_ ?_ ?_; (walk_at "side"); (walk_at "side"); intro d p' ok' h0 h1))
theorem v_law (ds : List D) (S : Store) (Q0 : D → Store → Prop) (hl : ds.length = 1) (hc : closedS S) (hd : closedL S.length ds) (h : c_law ds S Q0) : w_law (EX S Q0) (ds.map some ++ List.replicate 2 none) S := by
  obtain ⟨ns, rfl, rfl, hn, q⟩ := h
  walk_at "go"
  refine ask_in ⟨ns, 303, rfl, rfl, hn, by decide, by decide, fun p ok => ?_⟩
  walk_at "go"
  refine ask_in ⟨_, _, rfl, rfl, by assumption, fun p1 ok1 => ?_⟩
  walk_at "go"
  refine ask_in ⟨_, _, rfl, rfl, by assumption, fun p2 ok2 => ?_⟩
  walk_at "go"
  refine ask_in ⟨_, _, rfl, rfl, by assumption, fun p3 ok3 => ?_⟩
  walk_at "go"
  refine ask_in ⟨_, _, rfl, rfl, by assumption, fun p4 ok4 => ?_⟩
  walk_at "go"
  exact Exit.val (S := []) (G := mkP p4 []) hc True.intro q
end K03

set_option maxHeartbeats 4000000
namespace K03
open PySem PySem.Spec PyProof.Rows L2 DL
section
variable {P : Program} {w : World} {K : PySem.W.Frag} {mg : Str → Option Value} {base : Heap}
theorem b_rest_of (T : Txt K mg)  (fa : Addr) (cdv : Value) (A : Around) (outer : List PySem.Env) (s : Shared) (H : Hp) (E : XK) (hr : Room 0 (A.deeper (envOfC "rest_of" (defScope s_rest_of) s.heap.objs.size fa cdv))) :
    SSs (cxOf CX0 P w K mg base ["integer", "modulus"] "rest_of" (defScope s_rest_of) fa cdv A outer s H E).nox (defBody s_rest_of) w_rest_of :=
  (ss_cons (ss_if (st_eq hr.units (se_var 1) se_int) (ss_one (ss_ret (se_var 0))) ss_nil)
  (ss_one (ss_ret (se_mod (se_var 0) (se_var 1)))))
theorem b_divides (T : Txt K mg)  (fa : Addr) (cdv : Value) (A : Around) (outer : List PySem.Env) (s : Shared) (H : Hp) (E : XK) (hr : Room 0 (A.deeper (envOfC "divides" (defScope s_divides) s.heap.objs.size fa cdv))) :
    SSs (cxOf CX0 P w K mg base ["one", "other"] "divides" (defScope s_divides) fa cdv A outer s H E).nox (defBody s_divides) w_divides :=
  (ss_cons (ss_if (st_eq hr.units (se_var 0) se_int) (ss_one (ss_ret (se_eq hr.units (se_var 1) se_int))) ss_nil)
  (ss_one (ss_ret (se_eq hr.units (se_mod (se_var 1) (se_var 0)) se_int))))
theorem b_divisor_with_factor (T : Txt K mg)  (fa : Addr) (cdv : Value) (A : Around) (outer : List PySem.Env) (s : Shared) (H : Hp) (E : XK) (hr : Room 0 (A.deeper (envOfC "divisor_with_factor" (defScope s_divisor_with_factor) s.heap.objs.size fa cdv))) :
    SSs (cxOf CX0 P w K mg base ["one", "other", "left", "right", "near", "far", "many"] "divisor_with_factor" (defScope s_divisor_with_factor) fa cdv A outer s H E).nox (defBody s_divisor_with_factor) w_divisor_with_factor :=
  (ss_cons (ss_par (i := 2) (j := 3) rfl sc_divisor_with_factor.nd rfl rfl (by decide) rfl rfl (sa_cons (se_var 0) (sa_cons (se_var 1) sa_nil)) (by rfl))
  (ss_cons (ss_asg (se_tup (sa_cons se_int (sa_cons se_int sa_nil))) (sg_tup rfl (sgs_cons (sg_name sc_divisor_with_factor.nd) (sgs_cons (sg_name sc_divisor_with_factor.nd) sgs_nil))))
  (ss_cons (ss_while PassesOwn.never (st_ne hr.units (se_var 3) se_int) (ss_cons (ss_set (i := 6) sc_divisor_with_factor.nd (se_div (se_var 2) (se_var 3)))
  (ss_cons (ss_par (i := 2) (j := 3) rfl sc_divisor_with_factor.nd rfl rfl (by decide) rfl rfl (sa_cons (se_var 3) (sa_cons (se_sub (se_var 2) (se_mul (se_var 6) (se_var 3))) sa_nil)) (by rfl))
  (ss_one (ss_par (i := 4) (j := 5) rfl sc_divisor_with_factor.nd rfl rfl (by decide) rfl rfl (sa_cons (se_var 5) (sa_cons (se_sub (se_var 4) (se_mul (se_var 6) (se_var 5))) sa_nil)) (by rfl))))))
  (ss_one (ss_ret (se_tup (sa_cons (se_var 2) (sa_cons (se_var 4) sa_nil))))))))
theorem b_residue_of (T : Txt K mg) (d_divisor_with_factor : Def P w K mg base 1 "divisor_with_factor" ["one", "other"] c_divisor_with_factor) (d_divides : Def P w K mg base 1 "divides" ["one", "other"] c_divides) (d_rest_of : Def P w K mg base 1 "rest_of" ["integer", "modulus"] c_rest_of) (fa : Addr) (cdv : Value) (A : Around) (outer : List PySem.Env) (s : Shared) (H : Hp) (E : XK) (hr : Room 1 (A.deeper (envOfC "residue_of" (defScope s_residue_of) s.heap.objs.size fa cdv))) :
    SSs (cxOf CX0 P w K mg base ["factor", "modulus", "total", "step", "divisor", "inverse"] "residue_of" (defScope s_residue_of) fa cdv A outer s H E).nox (defBody s_residue_of) w_residue_of :=
  (ss_cons (ss_asg (se_fn d_divisor_with_factor (hr.mono (by decide)) (by rfl) (sa_cons (se_var 0) (sa_cons (se_var 1) sa_nil))) (sg_tup rfl (sgs_cons (sg_name sc_residue_of.nd) (sgs_cons (sg_name sc_residue_of.nd) sgs_nil))))
  (ss_cons (ss_if (st_not (st_tru (se_fn d_divides (hr.mono (by decide)) (by rfl) (sa_cons (se_var 4) (sa_cons (se_var 2) sa_nil))))) (ss_one (ss_ret se_non)) ss_nil)
  (ss_cons (ss_set (i := 3) sc_residue_of.nd (se_div (se_var 1) (se_var 4)))
  (ss_one (ss_ret (se_tup (sa_cons (se_fn d_rest_of (hr.mono (by decide)) (by rfl) (sa_cons (se_mul (se_div (se_var 2) (se_var 4)) (se_var 5)) (sa_cons (se_var 3) sa_nil))) (sa_cons (se_var 3) sa_nil))))))))
theorem b_has_mark (T : Txt K mg) (d_divides : Def P w K mg base 1 "divides" ["one", "other"] c_divides) (fa : Addr) (cdv : Value) (A : Around) (outer : List PySem.Env) (s : Shared) (H : Hp) (E : XK) (hr : Room 1 (A.deeper (envOfC "has_mark" (defScope s_has_mark) s.heap.objs.size fa cdv))) :
    SSs (cxOf CX0 P w K mg base ["residue", "mark"] "has_mark" (defScope s_has_mark) fa cdv A outer s H E).nox (defBody s_has_mark) w_has_mark :=
  (ss_one (ss_ret (se_fn d_divides (hr.mono (by decide)) (by rfl) (sa_cons (se_ix (se_var 0) se_int) (sa_cons (se_sub (se_var 1) (se_ix (se_var 0) se_int)) sa_nil)))))
theorem b_is_inside (T : Txt K mg) (d_divides : Def P w K mg base 1 "divides" ["one", "other"] c_divides) (d_has_mark : Def P w K mg base 2 "has_mark" ["residue", "mark"] c_has_mark) (fa : Addr) (cdv : Value) (A : Around) (outer : List PySem.Env) (s : Shared) (H : Hp) (E : XK) (hr : Room 2 (A.deeper (envOfC "is_inside" (defScope s_is_inside) s.heap.objs.size fa cdv))) :
    SSs (cxOf CX0 P w K mg base ["one", "other"] "is_inside" (defScope s_is_inside) fa cdv A outer s H E).nox (defBody s_is_inside) w_is_inside :=
  (ss_one (ss_ret (se_and (se_fn d_divides (hr.mono (by decide)) (by rfl) (sa_cons (se_ix (se_var 1) se_int) (sa_cons (se_ix (se_var 0) se_int) sa_nil))) (se_one (se_fn d_has_mark (hr.mono (by decide)) (by rfl) (sa_cons (se_var 1) (sa_cons (se_ix (se_var 0) se_int) sa_nil)))))))
theorem b_both_residues (T : Txt K mg) (d_divisor_with_factor : Def P w K mg base 1 "divisor_with_factor" ["one", "other"] c_divisor_with_factor) (d_divides : Def P w K mg base 1 "divides" ["one", "other"] c_divides) (d_rest_of : Def P w K mg base 1 "rest_of" ["integer", "modulus"] c_rest_of) (fa : Addr) (cdv : Value) (A : Around) (outer : List PySem.Env) (s : Shared) (H : Hp) (E : XK) (hr : Room 1 (A.deeper (envOfC "both_residues" (defScope s_both_residues) s.heap.objs.size fa cdv))) :
    SSs (cxOf CX0 P w K mg base ["one", "other", "gap", "whole", "start", "step", "divisor", "inverse"] "both_residues" (defScope s_both_residues) fa cdv A outer s H E).nox (defBody s_both_residues) w_both_residues :=
  (ss_cons (ss_asg (se_var 0) (sg_tup rfl (sgs_cons (sg_name sc_both_residues.nd) (sgs_cons (sg_name sc_both_residues.nd) sgs_nil))))
  (ss_cons (ss_asg (se_fn d_divisor_with_factor (hr.mono (by decide)) (by rfl) (sa_cons (se_var 5) (sa_cons (se_ix (se_var 1) se_int) sa_nil))) (sg_tup rfl (sgs_cons (sg_name sc_both_residues.nd) (sgs_cons (sg_name sc_both_residues.nd) sgs_nil))))
  (ss_cons (ss_set (i := 2) sc_both_residues.nd (se_sub (se_ix (se_var 1) se_int) (se_var 4)))
  (ss_cons (ss_if (st_not (st_tru (se_fn d_divides (hr.mono (by decide)) (by rfl) (sa_cons (se_var 6) (sa_cons (se_var 2) sa_nil))))) (ss_one (ss_ret se_non)) ss_nil)
  (ss_cons (ss_if (st_eq hr.units (se_var 6) se_int) (ss_one (ss_ret (se_tup (sa_cons (se_var 4) (sa_cons se_int sa_nil))))) ss_nil)
  (ss_cons (ss_set (i := 3) sc_both_residues.nd (se_mul (se_var 5) (se_div (se_ix (se_var 1) se_int) (se_var 6))))
  (ss_one (ss_ret (se_tup (sa_cons (se_fn d_rest_of (hr.mono (by decide)) (by rfl) (sa_cons (se_add (se_var 4) (se_mul (se_mul (se_var 5) (se_var 7)) (se_div (se_var 2) (se_var 6)))) (sa_cons (se_var 3) sa_nil))) (sa_cons (se_var 3) sa_nil)))))))))))
theorem b_marks_in (T : Txt K mg)  (fa : Addr) (cdv : Value) (A : Around) (outer : List PySem.Env) (s : Shared) (H : Hp) (E : XK) (hr : Room 0 (A.deeper (envOfC "marks_in" (defScope s_marks_in) s.heap.objs.size fa cdv))) :
    SSs (cxOf CX0 P w K mg base ["dial", "residue"] "marks_in" (defScope s_marks_in) fa cdv A outer s H E).nox (defBody s_marks_in) w_marks_in :=
  (ss_one (ss_ret (se_tupRg rfl (by rfl) T.f_tuple (by rfl) T.f_range (sa_cons (se_ix (se_var 1) se_int) (sa_cons (se_ix (se_var 0) se_int) (sa_cons (se_ix (se_var 1) se_int) sa_nil))))))
theorem b_tidy_residues (T : Txt K mg) (d_is_inside : Def P w K mg base 3 "is_inside" ["one", "other"] c_is_inside) (fa : Addr) (cdv : Value) (A : Around) (outer : List PySem.Env) (s : Shared) (H : Hp) (E : XK) (hr : Room 3 (A.deeper (envOfC "tidy_residues" (defScope s_tidy_residues) s.heap.objs.size fa cdv))) :
    SSs (cxOf CX0 P w K mg base ["residues", "tidy", "residue", "wider", "other"] "tidy_residues" (defScope s_tidy_residues) fa cdv A outer s H E).nox (defBody s_tidy_residues) w_tidy_residues :=
  (ss_cons (ss_set (i := 1) sc_tidy_residues.nd (se_new sa_nil))
  (ss_cons (ss_for PassesOwn.never rfl (si_seq (se_sortedSet rfl (units66 hr) (by rfl) T.f_sorted (by rfl) T.f_set (sa_cons (se_var 0) sa_nil))) (sg_name sc_tidy_residues.nd) (ss_cons (ss_setLc (i := 3) rfl sc_tidy_residues.nd rfl rfl (sw_true rfl rfl rfl (by decide +kernel)) (si_seq (se_var 0)) (blkOk_by (N := ["residues", "tidy", "residue", "wider", "other"]) (sc := defScope s_tidy_residues) (own := [("other", 4)]) (by decide +kernel)) rfl (by decide) (fun _ _ _ _ _ => (sg_name sc_tidy_residues.nd)) (fun _ _ _ _ _ => (sts_one (st_bool (sw_and (st_ne hr.units (se_var 4) (se_var 2)) (sw_and1 (st_tru (se_fn d_is_inside (hr.mono (by decide)) (by rfl) (sa_cons (se_var 2) (sa_cons (se_var 4) sa_nil))))))))) (fun _ _ _ _ _ => (se_var 4)))
  (ss_one (ss_if (st_not (st_tru (se_var 3))) (ss_one (ss_expr (se_meth md_append (pe_bm PySem.F.plainAttrs_list PySem.F.slot_list_append PySem.F.type_list_append mt_append (se_var 1) (sa_cons (se_var 2) sa_nil))))) ss_nil))))
  (ss_one (ss_ret (se_tuple (by rfl) T.f_tuple (sa_cons (se_var 1) sa_nil))))))
theorem b__law_pool (T : Txt K mg)  (fa : Addr) (cdv : Value) (A : Around) (outer : List PySem.Env) (s : Shared) (H : Hp) (E : XK) (hr : Room 0 (A.deeper (envOfC "_law_pool" (defScope s__law_pool) s.heap.objs.size fa cdv))) :
    SSs (cxOf CX0 P w K mg base ["script", "salt", "cells", "mixed", "cell"] "_law_pool" (defScope s__law_pool) fa cdv A outer s H E).nox (defBody s__law_pool) w__law_pool :=
  (ss_cons (ss_setLcN (i := 2) rfl sc__law_pool.nd rfl rfl (sw_true rfl rfl rfl (by decide +kernel)) (si_seq (se_var 0)) (blkOk_by (N := ["script", "salt", "cells", "mixed", "cell"]) (sc := defScope s__law_pool) (own := [("cell", 4)]) (by decide +kernel)) rfl (by decide) (fun _ _ _ _ _ => (sg_name sc__law_pool.nd)) (fun _ _ _ _ _ => sts_nil) (fun _ _ _ _ _ => (se_abs (by rfl) T.f_abs (sa_cons (se_cint (by rfl) T.f_int (sa_cons (se_var 4) sa_nil)) sa_nil))))
  (ss_cons (ss_set (i := 3) sc__law_pool.nd (se_var 1))
  (ss_cons (ss_for PassesOwn.never rfl (si_seq (se_var 2)) (sg_name sc__law_pool.nd) (ss_one (ss_set (i := 3) sc__law_pool.nd (se_mod (se_add (se_add (se_mul (se_var 3) se_int) (se_mod (se_cint (by rfl) T.f_int (sa_cons (se_var 4) sa_nil)) se_int)) se_int) se_int))))
  (ss_one (ss_ret (se_new (sa_cons se_int (sa_cons (se_add (se_var 3) se_int) (sa_cons (se_var 2) sa_nil)))))))))
theorem b__law_draw (T : Txt K mg)  (fa : Addr) (cdv : Value) (A : Around) (outer : List PySem.Env) (s : Shared) (H : Hp) (E : XK) (hr : Room 0 (A.deeper (envOfC "_law_draw" (defScope s__law_draw) s.heap.objs.size fa cdv))) :
    SSs (cxOf CX0 P w K mg base ["pool", "many", "cell", "digit"] "_law_draw" (defScope s__law_draw) fa cdv A outer s H E).nox (defBody s__law_draw) w__law_draw :=
  (ss_cons (ss_if (st_bool (sw_and (st_eq hr.units (se_ix (se_var 0) se_int) se_int) (sw_and1 (st_gtD hr.units (se_len (by rfl) T.f_len (sa_cons (se_ix (se_var 0) se_int) sa_nil)) se_int)))) (ss_cons (ss_set (i := 2) sc__law_draw.nd (se_meth md_popAt (pe_bm PySem.F.plainAttrs_list PySem.F.slot_list_pop PySem.F.type_list_pop mt_popAt (se_ix (se_var 0) se_int) (sa_cons se_int sa_nil))))
  (ss_one (ss_if (st_geD hr.units (se_var 2) (se_pow se_int se_int)) (ss_one (ss_put (se_var 2) (se_var 0) se_int)) (ss_one (ss_put (se_add (se_mod (se_add (se_mul (se_ix (se_var 0) se_int) se_int) (se_cint (by rfl) T.f_int (sa_cons (se_var 2) sa_nil))) se_int) se_int) (se_var 0) se_int))))) ss_nil)
  (ss_cons (ss_if (st_gtD hr.units (se_ix (se_var 0) se_int) se_int) (ss_cons (ss_set (i := 3) sc__law_draw.nd (se_mod (se_cint (by rfl) T.f_int (sa_cons (se_ix (se_var 0) se_int) sa_nil)) (se_var 1)))
  (ss_cons (ss_put (se_div (se_ix (se_var 0) se_int) (se_var 1)) (se_var 0) se_int)
  (ss_one (ss_ret (se_var 3))))) ss_nil)
  (ss_cons (ss_put (se_mod (se_add (se_mul (se_ix (se_var 0) se_int) se_int) se_int) se_int) (se_var 0) se_int)
  (ss_cons (ss_put (se_mod (se_add (se_mul (se_ix (se_var 0) se_int) se_int) se_int) se_int) (se_var 0) se_int)
  (ss_one (ss_ret (se_mod (se_div (se_ix (se_var 0) se_int) se_int) (se_var 1))))))))
theorem b__law_same (T : Txt K mg)  {Γ : Con} {kb : Nat} (hkb : 0 ≤ kb) (d_self : Def P w K mg base kb "_law_same" ["told", "due"] Γ) (fa : Addr) (cdv : Value) (A : Around) (outer : List PySem.Env) (s : Shared) (H : Hp) (E : XK) (hr : Room kb (A.deeper (envOfC "_law_same" (defScope s__law_same) s.heap.objs.size fa cdv))) :
    SSs (cxOf CX0 P w K mg base ["told", "due", "place"] "_law_same" (defScope s__law_same) fa cdv A outer s H E).nox (defBody s__law_same) (w__law_same Γ) :=
  (ss_cons (ss_eqv gIf_eq (ss_if (st_is (se_var 1) se_non) (ss_one (ss_ret (se_is (se_var 0) se_non))) ss_nil))
  (ss_cons (ss_eqv gIf_eq (ss_if (st_is (se_var 1) se_bl) (ss_one (ss_ret (se_is (se_var 0) se_bl))) ss_nil))
  (ss_cons (ss_eqv gIf_eq (ss_if (st_is (se_var 1) se_bl) (ss_one (ss_ret (se_is (se_var 0) se_bl))) ss_nil))
  (ss_cons (ss_eqv gIf_eq (ss_if (st_tru (se_eqv (gIsT_eq .int) (se_isT (Tn := "int") (by rfl) T.f_isinstance (by rfl) T.f_int (by decide +kernel) (se_var 1)))) (ss_one (ss_ret (se_eqv gAndV_eq (se_and (se_eqv (gIsT_eq .int) (se_isT (Tn := "int") (by rfl) T.f_isinstance (by rfl) T.f_int (by decide +kernel) (se_var 0))) (se_eqv gAndV_eq (se_and (se_not (se_eqv (gIsT_eq .bool) (se_isT (Tn := "bool") (by rfl) T.f_isinstance (by rfl) T.f_bool (by decide +kernel) (se_var 0)))) (se_one (se_eq hr.units (se_var 0) (se_var 1))))))))) ss_nil))
  (ss_cons (ss_eqv gIf_eq (ss_if (st_tru (se_eqv (gIsT_eq .str) (se_isT (Tn := "str") (by rfl) T.f_isinstance (by rfl) T.f_str (by decide +kernel) (se_var 1)))) (ss_one (ss_ret (se_eqv gAndV_eq (se_and (se_eqv (gIsT_eq .str) (se_isT (Tn := "str") (by rfl) T.f_isinstance (by rfl) T.f_str (by decide +kernel) (se_var 0))) (se_one (se_eq hr.units (se_var 0) (se_var 1))))))) ss_nil))
  (ss_cons (ss_eqv gIf_eq (ss_if (st_bool (sw_eqv gOr_eq (sw_or (st_not (st_tru (se_eqv (gIsT_eq .tuple) (se_isT (Tn := "tuple") (by rfl) T.f_isinstance (by rfl) T.f_tuple (by decide +kernel) (se_var 0))))) (sw_or1 (st_ne hr.units (se_len (by rfl) T.f_len (sa_cons (se_var 0) sa_nil)) (se_len (by rfl) T.f_len (sa_cons (se_var 1) sa_nil))))))) (ss_one (ss_ret se_bl)) ss_nil))
  (ss_cons (ss_eqv gFor_eq (ss_for PassesOwn.never rfl (si_range1 (by rfl) T.f_range (sa_cons (se_len (by rfl) T.f_len (sa_cons (se_var 1) sa_nil)) sa_nil)) (sg_name sc__law_same.nd) (ss_one (ss_eqv gIf_eq (ss_if (st_not (st_tru (se_eqv gFn_eq (se_fn d_self hr (by rfl) (sa_cons (se_ix (se_var 0) (se_var 2)) (sa_cons (se_ix (se_var 1) (se_var 2)) sa_nil)))))) (ss_one (ss_ret se_bl)) ss_nil)))))
  (ss_one (ss_ret se_bl)))))))))
theorem b__law_picked (T : Txt K mg) (d__law_draw : Def P w K mg base 1 "_law_draw" ["pool", "many"] c__law_draw) (fa : Addr) (cdv : Value) (A : Around) (outer : List PySem.Env) (s : Shared) (H : Hp) (E : XK) (hr : Room 1 (A.deeper (envOfC "_law_picked" (defScope s__law_picked) s.heap.objs.size fa cdv))) :
    SSs (cxOf CX0 P w K mg base ["pool", "rows"] "_law_picked" (defScope s__law_picked) fa cdv A outer s H E).nox (defBody s__law_picked) w__law_picked :=
  (ss_one (ss_ret (se_ix (se_var 1) (se_fn d__law_draw (hr.mono (by decide)) (by rfl) (sa_cons (se_var 0) (sa_cons (se_len (by rfl) T.f_len (sa_cons (se_var 1) sa_nil)) sa_nil))))))
theorem b__law_solved (T : Txt K mg)  (fa : Addr) (cdv : Value) (A : Around) (outer : List PySem.Env) (s : Shared) (H : Hp) (E : XK) (hr : Room 0 (A.deeper (envOfC "_law_solved" (defScope s__law_solved) s.heap.objs.size fa cdv))) :
    SSs (cxOf CX0 P w K mg base ["factor", "modulus", "total", "first", "value"] "_law_solved" (defScope s__law_solved) fa cdv A outer s H E).nox (defBody s__law_solved) w__law_solved :=
  (ss_cons (ss_if (st_eq hr.units (se_var 1) se_int) (ss_cons (ss_if (st_ne hr.units (se_mod (se_cint (by rfl) T.f_int (sa_cons (se_var 2) sa_nil)) (se_var 0)) se_int) (ss_one (ss_ret se_non)) ss_nil)
  (ss_one (ss_ret (se_tup (sa_cons (se_div (se_var 2) (se_var 0)) (sa_cons se_int sa_nil)))))) ss_nil)
  (ss_cons (ss_set (i := 3) sc__law_solved.nd se_non)
  (ss_cons (ss_for PassesOwn.never rfl (si_range1 (by rfl) T.f_range (sa_cons (se_var 1) sa_nil)) (sg_name sc__law_solved.nd) (ss_one (ss_if (st_eq hr.units (se_mod (se_cint (by rfl) T.f_int (sa_cons (se_sub (se_mul (se_var 0) (se_var 4)) (se_var 2)) sa_nil)) (se_var 1)) se_int) (ss_cons (ss_if (st_isNot (se_var 3) se_non) (ss_one (ss_ret (se_tup (sa_cons (se_var 3) (sa_cons (se_sub (se_var 4) (se_var 3)) sa_nil))))) ss_nil)
  (ss_one (ss_set (i := 3) sc__law_solved.nd (se_var 4)))) ss_nil)))
  (ss_cons (ss_if (st_is (se_var 3) se_non) (ss_one (ss_ret se_non)) ss_nil)
  (ss_one (ss_ret (se_tup (sa_cons (se_var 3) (sa_cons (se_var 1) sa_nil)))))))))
theorem b__law_has (T : Txt K mg)  (fa : Addr) (cdv : Value) (A : Around) (outer : List PySem.Env) (s : Shared) (H : Hp) (E : XK) (hr : Room 0 (A.deeper (envOfC "_law_has" (defScope s__law_has) s.heap.objs.size fa cdv))) :
    SSs (cxOf CX0 P w K mg base ["residue", "value"] "_law_has" (defScope s__law_has) fa cdv A outer s H E).nox (defBody s__law_has) w__law_has :=
  (ss_cons (ss_if (st_eq hr.units (se_ix (se_var 0) se_int) se_int) (ss_one (ss_ret (se_eq hr.units (se_var 1) (se_ix (se_var 0) se_int)))) ss_nil)
  (ss_one (ss_ret (se_eq hr.units (se_mod (se_cint (by rfl) T.f_int (sa_cons (se_sub (se_var 1) (se_ix (se_var 0) se_int)) sa_nil)) (se_ix (se_var 0) se_int)) se_int))))
theorem b__law_inside (T : Txt K mg) (d__law_has : Def P w K mg base 1 "_law_has" ["residue", "value"] c__law_has) (fa : Addr) (cdv : Value) (A : Around) (outer : List PySem.Env) (s : Shared) (H : Hp) (E : XK) (hr : Room 1 (A.deeper (envOfC "_law_inside" (defScope s__law_inside) s.heap.objs.size fa cdv))) :
    SSs (cxOf CX0 P w K mg base ["one", "other"] "_law_inside" (defScope s__law_inside) fa cdv A outer s H E).nox (defBody s__law_inside) w__law_inside :=
  (ss_cons (ss_if (st_eq hr.units (se_ix (se_var 0) se_int) se_int) (ss_one (ss_ret (se_fn d__law_has (hr.mono (by decide)) (by rfl) (sa_cons (se_var 1) (sa_cons (se_ix (se_var 0) se_int) sa_nil))))) ss_nil)
  (ss_cons (ss_if (st_eq hr.units (se_ix (se_var 1) se_int) se_int) (ss_one (ss_ret se_bl)) ss_nil)
  (ss_one (ss_ret (se_and (se_fn d__law_has (hr.mono (by decide)) (by rfl) (sa_cons (se_var 1) (sa_cons (se_ix (se_var 0) se_int) sa_nil))) (se_one (se_fn d__law_has (hr.mono (by decide)) (by rfl) (sa_cons (se_var 1) (sa_cons (se_add (se_ix (se_var 0) se_int) (se_ix (se_var 0) se_int)) sa_nil)))))))))
theorem b__law_both (T : Txt K mg) (d__law_has : Def P w K mg base 1 "_law_has" ["residue", "value"] c__law_has) (fa : Addr) (cdv : Value) (A : Around) (outer : List PySem.Env) (s : Shared) (H : Hp) (E : XK) (hr : Room 1 (A.deeper (envOfC "_law_both" (defScope s__law_both) s.heap.objs.size fa cdv))) :
    SSs (cxOf CX0 P w K mg base ["one", "other", "found", "turn"] "_law_both" (defScope s__law_both) fa cdv A outer s H E).nox (defBody s__law_both) w__law_both :=
  (ss_cons (ss_if (st_bool (sw_or (st_eq hr.units (se_ix (se_var 0) se_int) se_int) (sw_or1 (st_eq hr.units (se_ix (se_var 1) se_int) se_int)))) (ss_cons (ss_if (st_bool (sw_and (st_eq hr.units (se_ix (se_var 0) se_int) se_int) (sw_and1 (st_tru (se_fn d__law_has (hr.mono (by decide)) (by rfl) (sa_cons (se_var 1) (sa_cons (se_ix (se_var 0) se_int) sa_nil))))))) (ss_one (ss_ret (se_var 0))) ss_nil)
  (ss_cons (ss_if (st_bool (sw_and (st_eq hr.units (se_ix (se_var 1) se_int) se_int) (sw_and1 (st_tru (se_fn d__law_has (hr.mono (by decide)) (by rfl) (sa_cons (se_var 0) (sa_cons (se_ix (se_var 1) se_int) sa_nil))))))) (ss_one (ss_ret (se_var 1))) ss_nil)
  (ss_one (ss_ret se_non)))) ss_nil)
  (ss_cons (ss_set (i := 2) sc__law_both.nd (se_new sa_nil))
  (ss_cons (ss_for PassesOwn.never rfl (si_range1 (by rfl) T.f_range (sa_cons (se_mul se_int (se_ix (se_var 1) se_int)) sa_nil)) (sg_name sc__law_both.nd) (ss_one (ss_if (st_tru (se_fn d__law_has (hr.mono (by decide)) (by rfl) (sa_cons (se_var 1) (sa_cons (se_add (se_ix (se_var 0) se_int) (se_mul (se_var 3) (se_ix (se_var 0) se_int))) sa_nil)))) (ss_one (ss_expr (se_meth md_append (pe_bm PySem.F.plainAttrs_list PySem.F.slot_list_append PySem.F.type_list_append mt_append (se_var 2) (sa_cons (se_add (se_ix (se_var 0) se_int) (se_mul (se_var 3) (se_ix (se_var 0) se_int))) sa_nil))))) ss_nil)))
  (ss_cons (ss_if (st_ltD hr.units (se_len (by rfl) T.f_len (sa_cons (se_var 2) sa_nil)) se_int) (ss_one (ss_ret se_non)) ss_nil)
  (ss_one (ss_ret (se_tup (sa_cons (se_mod (se_cint (by rfl) T.f_int (sa_cons (se_ix (se_var 2) se_int) sa_nil)) (se_sub (se_ix (se_var 2) se_int) (se_ix (se_var 2) se_int))) (sa_cons (se_sub (se_ix (se_var 2) se_int) (se_ix (se_var 2) se_int)) sa_nil)))))))))
theorem b__law_tidied (T : Txt K mg) (d__law_inside : Def P w K mg base 2 "_law_inside" ["one", "other"] c__law_inside) (fa : Addr) (cdv : Value) (A : Around) (outer : List PySem.Env) (s : Shared) (H : Hp) (E : XK) (hr : Room 2 (A.deeper (envOfC "_law_tidied" (defScope s__law_tidied) s.heap.objs.size fa cdv))) :
    SSs (cxOf CX0 P w K mg base ["residues", "kept", "one", "alone", "other"] "_law_tidied" (defScope s__law_tidied) fa cdv A outer s H E).nox (defBody s__law_tidied) w__law_tidied :=
  (ss_cons (ss_set (i := 1) sc__law_tidied.nd (se_new sa_nil))
  (ss_cons (ss_for PassesOwn.never rfl (si_seq (se_sorted (units66 hr) (by rfl) T.f_sorted (sa_cons (se_var 0) sa_nil))) (sg_name sc__law_tidied.nd) (ss_cons (ss_set (i := 3) sc__law_tidied.nd se_bl)
  (ss_cons (ss_for PassesOwn.never rfl (si_seq (se_var 0)) (sg_name sc__law_tidied.nd) (ss_one (ss_if (st_bool (sw_and (st_ne hr.units (se_var 2) (se_var 4)) (sw_and1 (st_tru (se_fn d__law_inside (hr.mono (by decide)) (by rfl) (sa_cons (se_var 2) (sa_cons (se_var 4) sa_nil))))))) (ss_one (ss_set (i := 3) sc__law_tidied.nd se_bl)) ss_nil)))
  (ss_one (ss_if (st_bool (sw_and (st_tru (se_var 3)) (sw_and1 (st_notIn (units65 hr) (se_var 2) (se_var 1))))) (ss_one (ss_expr (se_meth md_append (pe_bm PySem.F.plainAttrs_list PySem.F.slot_list_append PySem.F.type_list_append mt_append (se_var 1) (sa_cons (se_var 2) sa_nil))))) ss_nil)))))
  (ss_one (ss_ret (se_tuple (by rfl) T.f_tuple (sa_cons (se_var 1) sa_nil))))))
theorem b__law_integer (T : Txt K mg) (d__law_draw : Def P w K mg base 1 "_law_draw" ["pool", "many"] c__law_draw) (fa : Addr) (cdv : Value) (A : Around) (outer : List PySem.Env) (s : Shared) (H : Hp) (E : XK) (hr : Room 1 (A.deeper (envOfC "_law_integer" (defScope s__law_integer) s.heap.objs.size fa cdv))) :
    SSs (cxOf CX0 P w K mg base ["pool", "habit"] "_law_integer" (defScope s__law_integer) fa cdv A outer s H E).nox (defBody s__law_integer) w__law_integer :=
  (ss_cons (ss_set (i := 1) sc__law_integer.nd (se_fn d__law_draw (hr.mono (by decide)) (by rfl) (sa_cons (se_var 0) (sa_cons se_int sa_nil))))
  (ss_cons (ss_if (st_eq hr.units (se_var 1) se_int) (ss_one (ss_ret (se_sub (se_fn d__law_draw (hr.mono (by decide)) (by rfl) (sa_cons (se_var 0) (sa_cons se_int sa_nil))) se_int))) ss_nil)
  (ss_cons (ss_if (st_eq hr.units (se_var 1) se_int) (ss_one (ss_ret (se_sub (se_fn d__law_draw (hr.mono (by decide)) (by rfl) (sa_cons (se_var 0) (sa_cons (se_pow se_int se_int) sa_nil))) (se_mul (se_pow se_int se_int) se_int)))) ss_nil)
  (ss_one (ss_ret (se_sub (se_fn d__law_draw (hr.mono (by decide)) (by rfl) (sa_cons (se_var 0) (sa_cons se_int sa_nil))) se_int))))))
theorem b__law_residue (T : Txt K mg) (d__law_integer : Def P w K mg base 2 "_law_integer" ["pool"] c__law_integer) (d__law_draw : Def P w K mg base 1 "_law_draw" ["pool", "many"] c__law_draw) (fa : Addr) (cdv : Value) (A : Around) (outer : List PySem.Env) (s : Shared) (H : Hp) (E : XK) (hr : Room 2 (A.deeper (envOfC "_law_residue" (defScope s__law_residue) s.heap.objs.size fa cdv))) :
    SSs (cxOf CX0 P w K mg base ["pool", "step"] "_law_residue" (defScope s__law_residue) fa cdv A outer s H E).nox (defBody s__law_residue) w__law_residue :=
  (ss_cons (ss_if (st_eq hr.units (se_var 1) se_int) (ss_one (ss_ret (se_tup (sa_cons (se_fn d__law_integer (hr.mono (by decide)) (by rfl) (sa_cons (se_var 0) sa_nil)) (sa_cons se_int sa_nil))))) ss_nil)
  (ss_one (ss_ret (se_tup (sa_cons (se_fn d__law_draw (hr.mono (by decide)) (by rfl) (sa_cons (se_var 0) (sa_cons (se_var 1) sa_nil))) (sa_cons (se_var 1) sa_nil))))))
theorem b__law_solving (T : Txt K mg) (d__law_draw : Def P w K mg base 1 "_law_draw" ["pool", "many"] c__law_draw) (d__law_integer : Def P w K mg base 2 "_law_integer" ["pool"] c__law_integer) (d__law_picked : Def P w K mg base 2 "_law_picked" ["pool", "rows"] c__law_picked) (d__law_same : Def P w K mg base 3 "_law_same" ["told", "due"] (c__law_same 3)) (d__law_solved : Def P w K mg base 1 "_law_solved" ["factor", "modulus", "total"] c__law_solved) (d_residue_of : Def P w K mg base 2 "residue_of" ["factor", "modulus", "total"] c_residue_of) (fa : Addr) (cdv : Value) (A : Around) (outer : List PySem.Env) (s : Shared) (H : Hp) (E : XK) (hr : Room 3 (A.deeper (envOfC "_law_solving" (defScope s__law_solving) s.heap.objs.size fa cdv))) :
    SSs (cxOf CX0 P w K mg base ["pool", "wide", "share", "factor", "modulus", "value", "asked", "one"] "_law_solving" (defScope s__law_solving) fa cdv A outer s H E).nox (defBody s__law_solving) w__law_solving :=
  (ss_cons (ss_set (i := 2) sc__law_solving.nd (se_add se_int (se_eqv gFn_eq (se_fn d__law_draw (hr.mono (by decide)) (by rfl) (sa_cons (se_var 0) (sa_cons se_int sa_nil))))))
  (ss_cons (ss_set (i := 3) sc__law_solving.nd (se_mul (se_var 2) (se_add se_int (se_eqv gFn_eq (se_fn d__law_draw (hr.mono (by decide)) (by rfl) (sa_cons (se_var 0) (sa_cons se_int sa_nil)))))))
  (ss_cons (ss_set (i := 4) sc__law_solving.nd (se_mul (se_var 2) (se_add se_int (se_eqv gFn_eq (se_fn d__law_draw (hr.mono (by decide)) (by rfl) (sa_cons (se_var 0) (sa_cons se_int sa_nil)))))))
  (ss_cons (ss_eqv gIf_eq (ss_if (st_tru (se_var 1)) (ss_cons (ss_set (i := 3) sc__law_solving.nd (se_mul (se_var 2) (se_add se_int (se_eqv gFn_eq (se_fn d__law_draw (hr.mono (by decide)) (by rfl) (sa_cons (se_var 0) (sa_cons se_int sa_nil)))))))
  (ss_one (ss_set (i := 4) sc__law_solving.nd (se_mul (se_var 2) (se_add se_int (se_eqv gFn_eq (se_fn d__law_draw (hr.mono (by decide)) (by rfl) (sa_cons (se_var 0) (sa_cons se_int sa_nil))))))))) ss_nil))
  (sss_eqv tail_eq (ss_cons (ss_set (i := 5) sc__law_solving.nd (se_eqv gFn_eq (se_fn d__law_integer (hr.mono (by decide)) (by rfl) (sa_cons (se_var 0) sa_nil))))
  (ss_cons (ss_set (i := 6) sc__law_solving.nd (se_new (sa_cons (se_tup (sa_cons (se_var 3) (sa_cons (se_var 4) (sa_cons (se_add (se_mul (se_var 3) (se_var 5)) (se_mul (se_var 4) (se_sub (se_eqv gFn_eq (se_fn d__law_draw (hr.mono (by decide)) (by rfl) (sa_cons (se_var 0) (sa_cons se_int sa_nil)))) se_int))) sa_nil)))) sa_nil)))
  (ss_cons (ss_expr (se_meth md_append (pe_bm PySem.F.plainAttrs_list PySem.F.slot_list_append PySem.F.type_list_append mt_append (se_var 6) (sa_cons (se_tup (sa_cons (se_var 3) (sa_cons (se_var 4) (sa_cons (se_add (se_add (se_mul (se_var 3) (se_var 5)) se_int) (se_eqv gFn_eq (se_fn d__law_draw (hr.mono (by decide)) (by rfl) (sa_cons (se_var 0) (sa_cons (se_sub (se_var 2) se_int) sa_nil))))) sa_nil)))) sa_nil))))
  (ss_cons (ss_expr (se_meth md_append (pe_bm PySem.F.plainAttrs_list PySem.F.slot_list_append PySem.F.type_list_append mt_append (se_var 6) (sa_cons (se_tup (sa_cons (se_add se_int (se_eqv gFn_eq (se_fn d__law_draw (hr.mono (by decide)) (by rfl) (sa_cons (se_var 0) (sa_cons se_int sa_nil))))) (sa_cons (se_add se_int (se_eqv gFn_eq (se_fn d__law_draw (hr.mono (by decide)) (by rfl) (sa_cons (se_var 0) (sa_cons se_int sa_nil))))) (sa_cons (se_sub (se_eqv gFn_eq (se_fn d__law_draw (hr.mono (by decide)) (by rfl) (sa_cons (se_var 0) (sa_cons se_int sa_nil)))) se_int) sa_nil)))) sa_nil))))
  (ss_cons (ss_expr (se_meth md_append (pe_bm PySem.F.plainAttrs_list PySem.F.slot_list_append PySem.F.type_list_append mt_append (se_var 6) (sa_cons (se_tup (sa_cons (se_var 3) (sa_cons se_int (sa_cons (se_mul (se_var 3) (se_var 5)) sa_nil)))) sa_nil))))
  (ss_cons (ss_expr (se_meth md_append (pe_bm PySem.F.plainAttrs_list PySem.F.slot_list_append PySem.F.type_list_append mt_append (se_var 6) (sa_cons (se_tup (sa_cons (se_var 3) (sa_cons se_int (sa_cons (se_add (se_add (se_mul (se_var 3) (se_var 5)) se_int) (se_eqv gFn_eq (se_fn d__law_draw (hr.mono (by decide)) (by rfl) (sa_cons (se_var 0) (sa_cons (se_sub (se_var 3) se_int) sa_nil))))) sa_nil)))) sa_nil))))
  (ss_cons (ss_expr (se_meth md_append (pe_bm PySem.F.plainAttrs_list PySem.F.slot_list_append PySem.F.type_list_append mt_append (se_var 6) (sa_cons (se_tup (sa_cons (se_eqv gFn_eq (se_fn d__law_picked (hr.mono (by decide)) (by rfl) (sa_cons (se_var 0) (sa_cons (se_lst (sa_cons se_int (sa_cons se_int (sa_cons (se_var 3) sa_nil)))) sa_nil)))) (sa_cons se_int (sa_cons (se_var 5) sa_nil)))) sa_nil))))
  (ss_cons (ss_expr (se_meth md_append (pe_bm PySem.F.plainAttrs_list PySem.F.slot_list_append PySem.F.type_list_append mt_append (se_var 6) (sa_cons (se_tup (sa_cons (se_eqv gFn_eq (se_fn d__law_picked (hr.mono (by decide)) (by rfl) (sa_cons (se_var 0) (sa_cons (se_lst (sa_cons se_int (sa_cons (se_add (se_var 4) se_int) (sa_cons (se_var 4) sa_nil)))) sa_nil)))) (sa_cons (se_var 4) (sa_cons (se_var 5) sa_nil)))) sa_nil))))
  (ss_cons (ss_eqv gIf_eq (ss_if (st_tru (se_var 1)) (ss_cons (ss_expr (se_meth md_append (pe_bm PySem.F.plainAttrs_list PySem.F.slot_list_append PySem.F.type_list_append mt_append (se_var 6) (sa_cons (se_tup (sa_cons (se_add se_int (se_eqv gFn_eq (se_fn d__law_draw (hr.mono (by decide)) (by rfl) (sa_cons (se_var 0) (sa_cons se_int sa_nil))))) (sa_cons (se_sub se_int (se_eqv gFn_eq (se_fn d__law_draw (hr.mono (by decide)) (by rfl) (sa_cons (se_var 0) (sa_cons se_int sa_nil))))) (sa_cons (se_var 5) sa_nil)))) sa_nil))))
  (ss_one (ss_expr (se_meth md_append (pe_bm PySem.F.plainAttrs_list PySem.F.slot_list_append PySem.F.type_list_append mt_append (se_var 6) (sa_cons (se_tup (sa_cons (se_add se_int (se_eqv gFn_eq (se_fn d__law_draw (hr.mono (by decide)) (by rfl) (sa_cons (se_var 0) (sa_cons se_int sa_nil))))) (sa_cons se_int (sa_cons (se_mul (se_var 5) se_int) sa_nil)))) sa_nil)))))) ss_nil))
  (ss_cons (ss_eqv gFor_eq (ss_for PassesOwn.never rfl (si_seq (se_var 6)) (sg_name sc__law_solving.nd) (ss_one (ss_eqv gIf_eq (ss_if (st_not (st_tru (se_eqv gFn_eq (se_fn d__law_same (hr.mono (by decide)) (by rfl) (sa_cons (se_eqv gFn_eq (se_fn d_residue_of (hr.mono (by decide)) (by rfl) (sa_cons (se_ix (se_var 7) se_int) (sa_cons (se_ix (se_var 7) se_int) (sa_cons (se_ix (se_var 7) se_int) sa_nil))))) (sa_cons (se_eqv gFn_eq (se_fn d__law_solved (hr.mono (by decide)) (by rfl) (sa_cons (se_ix (se_var 7) se_int) (sa_cons (se_ix (se_var 7) se_int) (sa_cons (se_ix (se_var 7) se_int) sa_nil))))) sa_nil)))))) (ss_one (ss_ret se_bl)) ss_nil)))))
  (ss_one (ss_ret se_bl)))))))))))))))))
theorem b__law_pairing (T : Txt K mg) (d__law_draw : Def P w K mg base 1 "_law_draw" ["pool", "many"] c__law_draw) (d__law_residue : Def P w K mg base 3 "_law_residue" ["pool", "step"] c__law_residue) (d__law_same : Def P w K mg base 3 "_law_same" ["told", "due"] (c__law_same 3)) (d__law_inside : Def P w K mg base 2 "_law_inside" ["one", "other"] c__law_inside) (d_is_inside : Def P w K mg base 3 "is_inside" ["one", "other"] c_is_inside) (d__law_both : Def P w K mg base 2 "_law_both" ["one", "other"] c__law_both) (d_both_residues : Def P w K mg base 2 "both_residues" ["one", "other"] c_both_residues) (d__law_integer : Def P w K mg base 2 "_law_integer" ["pool"] c__law_integer) (d__law_has : Def P w K mg base 1 "_law_has" ["residue", "value"] c__law_has) (d_has_mark : Def P w K mg base 2 "has_mark" ["residue", "mark"] c_has_mark) (fa : Addr) (cdv : Value) (A : Around) (outer : List PySem.Env) (s : Shared) (H : Hp) (E : XK) (hr : Room 3 (A.deeper (envOfC "_law_pairing" (defScope s__law_pairing) s.heap.objs.size fa cdv))) :
    SSs (cxOf CX0 P w K mg base ["pool", "wide", "share", "one", "other", "value", "whole", "first", "second", "shifted", "inner", "inside", "beside", "pairs", "pair", "mark"] "_law_pairing" (defScope s__law_pairing) fa cdv A outer s H E).nox (defBody s__law_pairing) w__law_pairing :=
  (ss_cons (ss_set (i := 2) sc__law_pairing.nd (se_add se_int (se_eqv gFn_eq (se_fn d__law_draw (hr.mono (by decide)) (by rfl) (sa_cons (se_var 0) (sa_cons se_int sa_nil))))))
  (ss_cons (ss_set (i := 3) sc__law_pairing.nd (se_mul (se_var 2) (se_add se_int (se_eqv gFn_eq (se_fn d__law_draw (hr.mono (by decide)) (by rfl) (sa_cons (se_var 0) (sa_cons se_int sa_nil)))))))
  (ss_cons (ss_set (i := 4) sc__law_pairing.nd (se_mul (se_var 2) (se_add se_int (se_eqv gFn_eq (se_fn d__law_draw (hr.mono (by decide)) (by rfl) (sa_cons (se_var 0) (sa_cons se_int sa_nil)))))))
  (ss_cons (ss_eqv gIf_eq (ss_if (st_tru (se_var 1)) (ss_cons (ss_set (i := 3) sc__law_pairing.nd (se_mul (se_var 2) (se_add se_int (se_eqv gFn_eq (se_fn d__law_draw (hr.mono (by decide)) (by rfl) (sa_cons (se_var 0) (sa_cons se_int sa_nil)))))))
  (ss_one (ss_set (i := 4) sc__law_pairing.nd (se_mul (se_var 2) (se_add se_int (se_eqv gFn_eq (se_fn d__law_draw (hr.mono (by decide)) (by rfl) (sa_cons (se_var 0) (sa_cons se_int sa_nil))))))))) ss_nil))
  (sss_eqv tail_eq (ss_cons (ss_set (i := 5) sc__law_pairing.nd (se_eqv gFn_eq (se_fn d__law_draw (hr.mono (by decide)) (by rfl) (sa_cons (se_var 0) (sa_cons se_int sa_nil)))))
  (ss_cons (ss_set (i := 6) sc__law_pairing.nd (se_tup (sa_cons (se_var 5) (sa_cons se_int sa_nil))))
  (ss_cons (ss_set (i := 7) sc__law_pairing.nd (se_tup (sa_cons (se_mod (se_cint (by rfl) T.f_int (sa_cons (se_var 5) sa_nil)) (se_var 3)) (sa_cons (se_var 3) sa_nil))))
  (ss_cons (ss_set (i := 8) sc__law_pairing.nd (se_tup (sa_cons (se_mod (se_cint (by rfl) T.f_int (sa_cons (se_var 5) sa_nil)) (se_var 4)) (sa_cons (se_var 4) sa_nil))))
  (ss_cons (ss_set (i := 9) sc__law_pairing.nd (se_tup (sa_cons (se_mod (se_cint (by rfl) T.f_int (sa_cons (se_add (se_add (se_var 5) se_int) (se_eqv gFn_eq (se_fn d__law_draw (hr.mono (by decide)) (by rfl) (sa_cons (se_var 0) (sa_cons se_int sa_nil))))) sa_nil)) (se_var 4)) (sa_cons (se_var 4) sa_nil))))
  (ss_cons (ss_set (i := 10) sc__law_pairing.nd (se_mul (se_var 3) (se_add se_int (se_eqv gFn_eq (se_fn d__law_draw (hr.mono (by decide)) (by rfl) (sa_cons (se_var 0) (sa_cons se_int sa_nil)))))))
  (ss_cons (ss_set (i := 11) sc__law_pairing.nd (se_tup (sa_cons (se_mod (se_cint (by rfl) T.f_int (sa_cons (se_var 5) sa_nil)) (se_var 10)) (sa_cons (se_var 10) sa_nil))))
  (ss_cons (ss_set (i := 12) sc__law_pairing.nd (se_tup (sa_cons (se_mod (se_cint (by rfl) T.f_int (sa_cons (se_add (se_var 5) se_int) sa_nil)) (se_var 10)) (sa_cons (se_var 10) sa_nil))))
  (ss_cons (ss_set (i := 13) sc__law_pairing.nd (se_lst (sa_cons (se_tup (sa_cons (se_var 7) (sa_cons (se_var 8) sa_nil))) (sa_cons (se_tup (sa_cons (se_var 7) (sa_cons (se_var 9) sa_nil))) (sa_cons (se_tup (sa_cons (se_var 11) (sa_cons (se_var 7) sa_nil))) (sa_cons (se_tup (sa_cons (se_var 7) (sa_cons (se_var 11) sa_nil))) (sa_cons (se_tup (sa_cons (se_var 12) (sa_cons (se_var 7) sa_nil))) (sa_cons (se_tup (sa_cons (se_var 7) (sa_cons (se_var 7) sa_nil))) (sa_cons (se_tup (sa_cons (se_var 6) (sa_cons (se_var 7) sa_nil))) (sa_cons (se_tup (sa_cons (se_var 7) (sa_cons (se_var 6) sa_nil))) (sa_cons (se_tup (sa_cons (se_var 6) (sa_cons (se_var 6) sa_nil))) (sa_cons (se_tup (sa_cons (se_var 6) (sa_cons (se_tup (sa_cons (se_add (se_var 5) se_int) (sa_cons se_int sa_nil))) sa_nil))) (sa_cons (se_tup (sa_cons (se_var 6) (sa_cons (se_var 9) sa_nil))) (sa_cons (se_tup (sa_cons (se_eqv gFn_eq (se_fn d__law_residue (hr.mono (by decide)) (by rfl) (sa_cons (se_var 0) (sa_cons (se_add se_int (se_eqv gFn_eq (se_fn d__law_draw (hr.mono (by decide)) (by rfl) (sa_cons (se_var 0) (sa_cons se_int sa_nil))))) sa_nil)))) (sa_cons (se_eqv gFn_eq (se_fn d__law_residue (hr.mono (by decide)) (by rfl) (sa_cons (se_var 0) (sa_cons (se_add se_int (se_eqv gFn_eq (se_fn d__law_draw (hr.mono (by decide)) (by rfl) (sa_cons (se_var 0) (sa_cons se_int sa_nil))))) sa_nil)))) sa_nil))) (sa_cons (se_tup (sa_cons (se_tup (sa_cons se_int (sa_cons se_int sa_nil))) (sa_cons (se_var 6) sa_nil))) (sa_cons (se_tup (sa_cons (se_tup (sa_cons se_int (sa_cons se_int sa_nil))) (sa_cons (se_tup (sa_cons se_int (sa_cons se_int sa_nil))) sa_nil))) (sa_cons (se_tup (sa_cons (se_tup (sa_cons se_int (sa_cons se_int sa_nil))) (sa_cons (se_tup (sa_cons se_int (sa_cons se_int sa_nil))) sa_nil))) (sa_cons (se_tup (sa_cons (se_var 7) (sa_cons (se_tup (sa_cons se_int (sa_cons se_int sa_nil))) sa_nil))) (sa_cons (se_tup (sa_cons (se_var 7) (sa_cons (se_tup (sa_cons (se_ix (se_var 7) se_int) (sa_cons (se_mul (se_var 3) (se_add se_int (se_eqv gFn_eq (se_fn d__law_draw (hr.mono (by decide)) (by rfl) (sa_cons (se_var 0) (sa_cons se_int sa_nil)))))) sa_nil))) sa_nil))) sa_nil)))))))))))))))))))
  (ss_cons (ss_eqv gFor_eq (ss_for PassesOwn.never rfl (si_seq (se_var 13)) (sg_name sc__law_pairing.nd) (ss_cons (ss_eqv gIf_eq (ss_if (st_not (st_tru (se_eqv gFn_eq (se_fn d__law_same (hr.mono (by decide)) (by rfl) (sa_cons (se_eqv gFn_eq (se_fn d_is_inside (hr.mono (by decide)) (by rfl) (sa_cons (se_ix (se_var 14) se_int) (sa_cons (se_ix (se_var 14) se_int) sa_nil)))) (sa_cons (se_eqv gFn_eq (se_fn d__law_inside (hr.mono (by decide)) (by rfl) (sa_cons (se_ix (se_var 14) se_int) (sa_cons (se_ix (se_var 14) se_int) sa_nil)))) sa_nil)))))) (ss_one (ss_ret se_bl)) ss_nil))
  (ss_cons (ss_eqv gIf_eq (ss_if (st_not (st_tru (se_eqv gFn_eq (se_fn d__law_same (hr.mono (by decide)) (by rfl) (sa_cons (se_eqv gFn_eq (se_fn d_both_residues (hr.mono (by decide)) (by rfl) (sa_cons (se_ix (se_var 14) se_int) (sa_cons (se_ix (se_var 14) se_int) sa_nil)))) (sa_cons (se_eqv gFn_eq (se_fn d__law_both (hr.mono (by decide)) (by rfl) (sa_cons (se_ix (se_var 14) se_int) (sa_cons (se_ix (se_var 14) se_int) sa_nil)))) sa_nil)))))) (ss_one (ss_ret se_bl)) ss_nil))
  (ss_one (ss_eqv gFor_eq (ss_for PassesOwn.never rfl (si_seq (se_tup (sa_cons (se_var 5) (sa_cons (se_add (se_var 5) se_int) (sa_cons (se_sub (se_ix (se_ix (se_var 14) se_int) se_int) (se_mul se_int (se_ix (se_ix (se_var 14) se_int) se_int))) (sa_cons (se_eqv gFn_eq (se_fn d__law_integer (hr.mono (by decide)) (by rfl) (sa_cons (se_var 0) sa_nil))) sa_nil)))))) (sg_name sc__law_pairing.nd) (ss_one (ss_eqv gIf_eq (ss_if (st_not (st_tru (se_eqv gFn_eq (se_fn d__law_same (hr.mono (by decide)) (by rfl) (sa_cons (se_eqv gFn_eq (se_fn d_has_mark (hr.mono (by decide)) (by rfl) (sa_cons (se_ix (se_var 14) se_int) (sa_cons (se_var 15) sa_nil)))) (sa_cons (se_eqv gFn_eq (se_fn d__law_has (hr.mono (by decide)) (by rfl) (sa_cons (se_ix (se_var 14) se_int) (sa_cons (se_var 15) sa_nil)))) sa_nil)))))) (ss_one (ss_ret se_bl)) ss_nil))))))))))
  (ss_one (ss_ret se_bl)))))))))))))))))
theorem b__law_listing (T : Txt K mg) (d__law_picked : Def P w K mg base 2 "_law_picked" ["pool", "rows"] c__law_picked) (d__law_draw : Def P w K mg base 1 "_law_draw" ["pool", "many"] c__law_draw) (d__law_residue : Def P w K mg base 3 "_law_residue" ["pool", "step"] c__law_residue) (d__law_has : Def P w K mg base 1 "_law_has" ["residue", "value"] c__law_has) (d__law_same : Def P w K mg base 3 "_law_same" ["told", "due"] (c__law_same 3)) (d_marks_in : Def P w K mg base 1 "marks_in" ["dial", "residue"] c_marks_in) (fa : Addr) (cdv : Value) (A : Around) (outer : List PySem.Env) (s : Shared) (H : Hp) (E : XK) (hr : Room 3 (A.deeper (envOfC "_law_listing" (defScope s__law_listing) s.heap.objs.size fa cdv))) :
    SSs (cxOf CX0 P w K mg base ["pool", "wide", "many", "steps", "turn", "step", "residue", "due", "mark"] "_law_listing" (defScope s__law_listing) fa cdv A outer s H E).nox (defBody s__law_listing) w__law_listing :=
  (ss_cons (ss_set (i := 2) sc__law_listing.nd (se_fn d__law_picked (hr.mono (by decide)) (by rfl) (sa_cons (se_var 0) (sa_cons (se_lst (sa_cons se_int (sa_cons se_int (sa_cons se_int (sa_cons se_int (sa_cons se_int (sa_cons se_int (sa_cons se_int (sa_cons (se_add se_int (se_fn d__law_draw (hr.mono (by decide)) (by rfl) (sa_cons (se_var 0) (sa_cons se_int sa_nil)))) sa_nil))))))))) sa_nil))))
  (ss_cons (ss_if (st_tru (se_var 1)) (ss_one (ss_set (i := 2) sc__law_listing.nd (se_fn d__law_picked (hr.mono (by decide)) (by rfl) (sa_cons (se_var 0) (sa_cons (se_lst (sa_cons se_int (sa_cons se_int (sa_cons se_int (sa_cons se_int (sa_cons (se_add se_int (se_fn d__law_draw (hr.mono (by decide)) (by rfl) (sa_cons (se_var 0) (sa_cons se_int sa_nil)))) sa_nil)))))) sa_nil))))) ss_nil)
  (ss_cons (ss_setLc (i := 3) rfl sc__law_listing.nd rfl rfl (sw_true rfl rfl rfl (by decide +kernel)) (si_range2 (by rfl) T.f_range (sa_cons se_int (sa_cons (se_add (se_var 2) se_int) sa_nil))) (blkOk_by (N := ["pool", "wide", "many", "steps", "turn", "step", "residue", "due", "mark"]) (sc := defScope s__law_listing) (own := [("step", 5)]) (by decide +kernel)) rfl (by decide) (fun _ _ _ _ _ => (sg_name sc__law_listing.nd)) (fun _ _ _ _ _ => (sts_one (st_eq hr.units (se_mod (se_cint (by rfl) T.f_int (sa_cons (se_var 2) sa_nil)) (se_var 5)) se_int))) (fun _ _ _ _ _ => (se_var 5)))
  (ss_cons (ss_set (i := 4) sc__law_listing.nd (se_fn d__law_picked (hr.mono (by decide)) (by rfl) (sa_cons (se_var 0) (sa_cons (se_lst (sa_cons se_int (sa_cons (se_sub (se_var 2) se_int) sa_nil))) sa_nil))))
  (ss_cons (ss_for PassesOwn.never rfl (si_seq (se_tup (sa_cons se_int (sa_cons (se_var 2) (sa_cons (se_fn d__law_picked (hr.mono (by decide)) (by rfl) (sa_cons (se_var 0) (sa_cons (se_var 3) sa_nil))) sa_nil))))) (sg_name sc__law_listing.nd) (ss_cons (ss_set (i := 6) sc__law_listing.nd (se_fn d__law_residue (hr.mono (by decide)) (by rfl) (sa_cons (se_var 0) (sa_cons (se_var 5) sa_nil))))
  (ss_cons (ss_set (i := 7) sc__law_listing.nd (se_tuple (by rfl) T.f_tuple (sa_cons (se_lc rfl sc__law_listing.nd (si_range1 (by rfl) T.f_range (sa_cons (se_var 2) sa_nil)) (blkOk_by (N := ["pool", "wide", "many", "steps", "turn", "step", "residue", "due", "mark"]) (sc := defScope s__law_listing) (own := [("mark", 8)]) (by decide +kernel)) rfl (by decide) (fun _ _ _ _ _ => (sg_name sc__law_listing.nd)) (fun _ _ _ _ _ => (sts_one (st_tru (se_fn d__law_has (hr.mono (by decide)) (by rfl) (sa_cons (se_var 6) (sa_cons (se_var 8) sa_nil)))))) (fun _ _ _ _ _ => (se_var 8))) sa_nil)))
  (ss_one (ss_if (st_not (st_tru (se_fn d__law_same (hr.mono (by decide)) (by rfl) (sa_cons (se_fn d_marks_in (hr.mono (by decide)) (by rfl) (sa_cons (se_tup (sa_cons (se_var 2) (sa_cons (se_var 4) sa_nil))) (sa_cons (se_var 6) sa_nil))) (sa_cons (se_var 7) sa_nil))))) (ss_one (ss_ret se_bl)) ss_nil)))))
  (ss_one (ss_ret se_bl)))))))
theorem b__law_tidying (T : Txt K mg) (d__law_draw : Def P w K mg base 1 "_law_draw" ["pool", "many"] c__law_draw) (d__law_residue : Def P w K mg base 3 "_law_residue" ["pool", "step"] c__law_residue) (d__law_same : Def P w K mg base 3 "_law_same" ["told", "due"] (c__law_same 3)) (d__law_tidied : Def P w K mg base 3 "_law_tidied" ["residues"] c__law_tidied) (d_tidy_residues : Def P w K mg base 4 "tidy_residues" ["residues"] c_tidy_residues) (fa : Addr) (cdv : Value) (A : Around) (outer : List PySem.Env) (s : Shared) (H : Hp) (E : XK) (hr : Room 4 (A.deeper (envOfC "_law_tidying" (defScope s__law_tidying) s.heap.objs.size fa cdv))) :
    SSs (cxOf CX0 P w K mg base ["pool", "wide", "step", "first", "inner", "other", "rows", "turn", "few", "place", "asked", "where", "kept"] "_law_tidying" (defScope s__law_tidying) fa cdv A outer s H E).nox (defBody s__law_tidying) w__law_tidying :=
  (ss_cons (ss_set (i := 2) sc__law_tidying.nd (se_add se_int (se_eqv gFn_eq (se_fn d__law_draw (hr.mono (by decide)) (by rfl) (sa_cons (se_var 0) (sa_cons se_int sa_nil))))))
  (ss_cons (ss_set (i := 3) sc__law_tidying.nd (se_eqv gFn_eq (se_fn d__law_residue (hr.mono (by decide)) (by rfl) (sa_cons (se_var 0) (sa_cons (se_var 2) sa_nil)))))
  (ss_cons (ss_set (i := 4) sc__law_tidying.nd (se_mul (se_var 2) (se_add se_int (se_eqv gFn_eq (se_fn d__law_draw (hr.mono (by decide)) (by rfl) (sa_cons (se_var 0) (sa_cons se_int sa_nil)))))))
  (ss_cons (ss_set (i := 5) sc__law_tidying.nd (se_add se_int (se_eqv gFn_eq (se_fn d__law_draw (hr.mono (by decide)) (by rfl) (sa_cons (se_var 0) (sa_cons se_int sa_nil))))))
  (ss_cons (ss_set (i := 6) sc__law_tidying.nd (se_new (sa_cons (se_var 3) (sa_cons (se_tup (sa_cons (se_add (se_ix (se_var 3) se_int) (se_mul (se_var 2) (se_eqv gFn_eq (se_fn d__law_draw (hr.mono (by decide)) (by rfl) (sa_cons (se_var 0) (sa_cons (se_div (se_var 4) (se_var 2)) sa_nil)))))) (sa_cons (se_var 4) sa_nil))) (sa_cons (se_eqv gFn_eq (se_fn d__law_residue (hr.mono (by decide)) (by rfl) (sa_cons (se_var 0) (sa_cons (se_var 5) sa_nil)))) (sa_cons (se_tup (sa_cons (se_mod (se_cint (by rfl) T.f_int (sa_cons (se_add (se_ix (se_var 3) se_int) se_int) sa_nil)) (se_var 2)) (sa_cons (se_var 2) sa_nil))) (sa_cons (se_eqv gFn_eq (se_fn d__law_residue (hr.mono (by decide)) (by rfl) (sa_cons (se_var 0) (sa_cons se_int sa_nil)))) (sa_cons (se_tup (sa_cons (se_sub (se_ix (se_var 3) se_int) (se_var 2)) (sa_cons se_int sa_nil))) (sa_cons (se_var 3) (sa_cons (se_eqv gFn_eq (se_fn d__law_residue (hr.mono (by decide)) (by rfl) (sa_cons (se_var 0) (sa_cons (se_add se_int (se_eqv gFn_eq (se_fn d__law_draw (hr.mono (by decide)) (by rfl) (sa_cons (se_var 0) (sa_cons se_int sa_nil))))) sa_nil)))) (sa_cons (se_eqv gFn_eq (se_fn d__law_residue (hr.mono (by decide)) (by rfl) (sa_cons (se_var 0) (sa_cons (se_mul (se_var 5) se_int) sa_nil)))) sa_nil)))))))))))
  (ss_cons (ss_eqv gIf_eq (ss_if (st_tru (se_var 1)) (ss_one (ss_eqv gFor_eq (ss_for PassesOwn.never rfl (si_range1 (by rfl) T.f_range (sa_cons se_int sa_nil)) (sg_name sc__law_tidying.nd) (ss_one (ss_expr (se_meth md_append (pe_bm PySem.F.plainAttrs_list PySem.F.slot_list_append PySem.F.type_list_append mt_append (se_var 6) (sa_cons (se_eqv gFn_eq (se_fn d__law_residue (hr.mono (by decide)) (by rfl) (sa_cons (se_var 0) (sa_cons (se_add se_int (se_mul (se_var 2) (se_eqv gFn_eq (se_fn d__law_draw (hr.mono (by decide)) (by rfl) (sa_cons (se_var 0) (sa_cons se_int sa_nil)))))) sa_nil)))) sa_nil)))))))) ss_nil))
  (sss_eqv tail_eq (ss_cons (ss_eqv gFor_eq (ss_for PassesOwn.never rfl (si_range1 (by rfl) T.f_range (sa_cons se_int sa_nil)) (sg_name sc__law_tidying.nd) (ss_cons (ss_eqv gFor_eq (ss_for PassesOwn.never rfl (si_range1 (by rfl) T.f_range (sa_cons (se_len (by rfl) T.f_len (sa_cons (se_var 6) sa_nil)) sa_nil)) (sg_name sc__law_tidying.nd) (ss_cons (ss_set (i := 11) sc__law_tidying.nd (se_eqv gFn_eq (se_fn d__law_draw (hr.mono (by decide)) (by rfl) (sa_cons (se_var 0) (sa_cons (se_len (by rfl) T.f_len (sa_cons (se_var 6) sa_nil)) sa_nil)))))
  (ss_cons (ss_set (i := 12) sc__law_tidying.nd (se_ix (se_var 6) (se_var 9)))
  (ss_cons (ss_put (se_ix (se_var 6) (se_var 11)) (se_var 6) (se_var 9))
  (ss_one (ss_put (se_var 12) (se_var 6) (se_var 11))))))))
  (ss_cons (ss_set (i := 10) sc__law_tidying.nd (se_tuple (by rfl) T.f_tuple (sa_cons (se_slice (se_var 6) so_none (so_some (se_sub (se_len (by rfl) T.f_len (sa_cons (se_var 6) sa_nil)) (se_mul (se_var 7) (se_eqv gFn_eq (se_fn d__law_draw (hr.mono (by decide)) (by rfl) (sa_cons (se_var 0) (sa_cons se_int sa_nil)))))))) sa_nil)))
  (ss_one (ss_eqv gIf_eq (ss_if (st_not (st_tru (se_eqv gFn_eq (se_fn d__law_same (hr.mono (by decide)) (by rfl) (sa_cons (se_eqv gFn_eq (se_fn d_tidy_residues (hr.mono (by decide)) (by rfl) (sa_cons (se_var 10) sa_nil))) (sa_cons (se_eqv gFn_eq (se_fn d__law_tidied (hr.mono (by decide)) (by rfl) (sa_cons (se_var 10) sa_nil))) sa_nil)))))) (ss_one (ss_ret se_bl)) ss_nil)))))))
  (ss_cons (ss_set (i := 8) sc__law_tidying.nd (se_tuple (by rfl) T.f_tuple (sa_cons (se_slice (se_lst (sa_cons (se_var 3) sa_nil)) so_none (so_some (se_eqv gFn_eq (se_fn d__law_draw (hr.mono (by decide)) (by rfl) (sa_cons (se_var 0) (sa_cons se_int sa_nil)))))) sa_nil)))
  (ss_one (ss_ret (se_eqv gFn_eq (se_fn d__law_same (hr.mono (by decide)) (by rfl) (sa_cons (se_eqv gFn_eq (se_fn d_tidy_residues (hr.mono (by decide)) (by rfl) (sa_cons (se_var 8) sa_nil))) (sa_cons (se_var 8) sa_nil)))))))))))))))
theorem b_law (T : Txt K mg) (d__law_pool : Def P w K mg base 1 "_law_pool" ["script", "salt"] c__law_pool) (d__law_draw : Def P w K mg base 1 "_law_draw" ["pool", "many"] c__law_draw) (d__law_solving : Def P w K mg base 4 "_law_solving" ["pool", "wide"] c__law_solving) (d__law_pairing : Def P w K mg base 4 "_law_pairing" ["pool", "wide"] c__law_pairing) (d__law_listing : Def P w K mg base 4 "_law_listing" ["pool", "wide"] c__law_listing) (d__law_tidying : Def P w K mg base 5 "_law_tidying" ["pool", "wide"] c__law_tidying) (fa : Addr) (cdv : Value) (A : Around) (outer : List PySem.Env) (s : Shared) (H : Hp) (E : XK) (hr : Room 5 (A.deeper (envOfC "law" (defScope s_law) s.heap.objs.size fa cdv))) :
    SSs (cxOf CX0 P w K mg base ["script", "pool", "wide"] "law" (defScope s_law) fa cdv A outer s H E).nox (defBody s_law) w_law :=
  (ss_cons (ss_set (i := 1) sc_law.nd (se_eqv gFn_eq (se_fn d__law_pool (hr.mono (by decide)) (by rfl) (sa_cons (se_var 0) (sa_cons se_int sa_nil)))))
  (ss_cons (ss_set (i := 2) sc_law.nd (se_eq hr.units (se_eqv gFn_eq (se_fn d__law_draw (hr.mono (by decide)) (by rfl) (sa_cons (se_var 1) (sa_cons se_int sa_nil)))) se_int))
  (ss_cons (ss_eqv gIf_eq (ss_if (st_bool (sw_eqv gOr_eq (sw_or (st_not (st_tru (se_eqv gFn_eq (se_fn d__law_solving (hr.mono (by decide)) (by rfl) (sa_cons (se_var 1) (sa_cons (se_var 2) sa_nil)))))) (sw_or1 (st_not (st_tru (se_eqv gFn_eq (se_fn d__law_pairing (hr.mono (by decide)) (by rfl) (sa_cons (se_var 1) (sa_cons (se_var 2) sa_nil)))))))))) (ss_one (ss_ret se_bl)) ss_nil))
  (ss_one (ss_ret (se_eqv gAndV_eq (se_and (se_eqv gFn_eq (se_fn d__law_listing (hr.mono (by decide)) (by rfl) (sa_cons (se_var 1) (sa_cons (se_var 2) sa_nil)))) (se_one (se_eqv gFn_eq (se_fn d__law_tidying (hr.mono (by decide)) (by rfl) (sa_cons (se_var 1) (sa_cons (se_var 2) sa_nil))))))))))))
end
end K03


set_option maxHeartbeats 0
/-! the head, the end -/
namespace K03
open PySem PySem.Spec PyProof.Rows L2 DL He
def dd_rest_of : He.DefD := ⟨("rest_of", none), "rest_of", "rest_of", defArgs s_rest_of, defBody s_rest_of, defScope s_rest_of, [], []⟩
def dd_divides : He.DefD := ⟨("divides", none), "divides", "divides", defArgs s_divides, defBody s_divides, defScope s_divides, [], []⟩
def dd_divisor_with_factor : He.DefD := ⟨("divisor_with_factor", none), "divisor_with_factor", "divisor_with_factor", defArgs s_divisor_with_factor, defBody s_divisor_with_factor, defScope s_divisor_with_factor, [], []⟩
def dd_residue_of : He.DefD := ⟨("residue_of", none), "residue_of", "residue_of", defArgs s_residue_of, defBody s_residue_of, defScope s_residue_of, [], []⟩
def dd_has_mark : He.DefD := ⟨("has_mark", none), "has_mark", "has_mark", defArgs s_has_mark, defBody s_has_mark, defScope s_has_mark, [], []⟩
def dd_is_inside : He.DefD := ⟨("is_inside", none), "is_inside", "is_inside", defArgs s_is_inside, defBody s_is_inside, defScope s_is_inside, [], []⟩
def dd_both_residues : He.DefD := ⟨("both_residues", none), "both_residues", "both_residues", defArgs s_both_residues, defBody s_both_residues, defScope s_both_residues, [], []⟩
def dd_marks_in : He.DefD := ⟨("marks_in", none), "marks_in", "marks_in", defArgs s_marks_in, defBody s_marks_in, defScope s_marks_in, [], []⟩
def dd_tidy_residues : He.DefD := ⟨("tidy_residues", none), "tidy_residues", "tidy_residues", defArgs s_tidy_residues, defBody s_tidy_residues, defScope s_tidy_residues, [], []⟩
def dd__law_pool : He.DefD := ⟨("_law_pool", none), "_law_pool", "_law_pool", defArgs s__law_pool, defBody s__law_pool, defScope s__law_pool, [], []⟩
def dd__law_draw : He.DefD := ⟨("_law_draw", none), "_law_draw", "_law_draw", defArgs s__law_draw, defBody s__law_draw, defScope s__law_draw, [], []⟩
def dd__law_same : He.DefD := ⟨("_law_same", none), "_law_same", "_law_same", defArgs s__law_same, defBody s__law_same, defScope s__law_same, [], []⟩
def dd__law_picked : He.DefD := ⟨("_law_picked", none), "_law_picked", "_law_picked", defArgs s__law_picked, defBody s__law_picked, defScope s__law_picked, [], []⟩
def dd__law_solved : He.DefD := ⟨("_law_solved", none), "_law_solved", "_law_solved", defArgs s__law_solved, defBody s__law_solved, defScope s__law_solved, [], []⟩
def dd__law_has : He.DefD := ⟨("_law_has", none), "_law_has", "_law_has", defArgs s__law_has, defBody s__law_has, defScope s__law_has, [], []⟩
def dd__law_inside : He.DefD := ⟨("_law_inside", none), "_law_inside", "_law_inside", defArgs s__law_inside, defBody s__law_inside, defScope s__law_inside, [], []⟩
def dd__law_both : He.DefD := ⟨("_law_both", none), "_law_both", "_law_both", defArgs s__law_both, defBody s__law_both, defScope s__law_both, [], []⟩
def dd__law_tidied : He.DefD := ⟨("_law_tidied", none), "_law_tidied", "_law_tidied", defArgs s__law_tidied, defBody s__law_tidied, defScope s__law_tidied, [], []⟩
def dd__law_integer : He.DefD := ⟨("_law_integer", none), "_law_integer", "_law_integer", defArgs s__law_integer, defBody s__law_integer, defScope s__law_integer, [], []⟩
def dd__law_residue : He.DefD := ⟨("_law_residue", none), "_law_residue", "_law_residue", defArgs s__law_residue, defBody s__law_residue, defScope s__law_residue, [], []⟩
def dd__law_solving : He.DefD := ⟨("_law_solving", none), "_law_solving", "_law_solving", defArgs s__law_solving, defBody s__law_solving, defScope s__law_solving, [], []⟩
def dd__law_pairing : He.DefD := ⟨("_law_pairing", none), "_law_pairing", "_law_pairing", defArgs s__law_pairing, defBody s__law_pairing, defScope s__law_pairing, [], []⟩
def dd__law_listing : He.DefD := ⟨("_law_listing", none), "_law_listing", "_law_listing", defArgs s__law_listing, defBody s__law_listing, defScope s__law_listing, [], []⟩
def dd__law_tidying : He.DefD := ⟨("_law_tidying", none), "_law_tidying", "_law_tidying", defArgs s__law_tidying, defBody s__law_tidying, defScope s__law_tidying, [], []⟩
def dd_law : He.DefD := ⟨("law", none), "law", "law", defArgs s_law, defBody s_law, defScope s_law, [], []⟩
def fn : List He.DefD := [dd_rest_of, dd_divides, dd_divisor_with_factor, dd_residue_of, dd_has_mark, dd_is_inside, dd_both_residues, dd_marks_in, dd_tidy_residues, dd__law_pool, dd__law_draw, dd__law_same, dd__law_picked, dd__law_solved, dd__law_has, dd__law_inside, dd__law_both, dd__law_tidied, dd__law_integer, dd__law_residue, dd__law_solving, dd__law_pairing, dd__law_listing, dd__law_tidying, dd_law]
def fa : Facts := [gloB "rest_of", gloB "divides", gloB "divisor_with_factor", gloB "residue_of", gloB "has_mark", gloB "is_inside", gloB "both_residues", gloB "marks_in", gloB "tidy_residues", gloB "_law_pool", gloB "_law_draw", gloB "_law_same", gloB "_law_picked", gloB "_law_solved", gloB "_law_has", gloB "_law_inside", gloB "_law_both", gloB "_law_tidied", gloB "_law_integer", gloB "_law_residue", gloB "_law_solving", gloB "_law_pairing", gloB "_law_listing", gloB "_law_tidying", gloB "law", freB "abs", freB "bool", freB "int", freB "isinstance", freB "len", freB "range", freB "set", freB "sorted", freB "str", freB "tuple"]
abbrev R : PySem.W.OpenRow := PySem.W.OpenLaw.row PySem.Challenge.rw_everygain_k03_residues
abbrev hk : PySem.W.Hook := hookX 4 fa fn
def ob (s : PySem.W.SharedT) : He.AlD := obsXG 4 fa fn (HandSHeadRun.getT s)
theorem ob_eq (s : PySem.W.SharedT) : ob s = hk.obs s.abs := obsXG_eq (HandSHeadRun.getT_eq s)
def loose : List Str := ["rest_of", "divides", "divisor_with_factor", "residue_of", "has_mark", "is_inside", "both_residues", "marks_in", "tidy_residues", "_law_pool", "_law_draw", "_law_same", "_law_picked", "_law_solved", "_law_has", "_law_inside", "_law_both", "_law_tidied", "_law_integer", "_law_residue", "_law_solving", "_law_pairing", "_law_listing", "_law_tidying"]
theorem run (w : World) : HandSHeadRun.RunEq R (PySem.W.view R.prog [27]) hk ob 4000 loose w := by
  intro os
  kernel_rfl
theorem facts {P : Program} {w : World} {K : PySem.W.Frag} {h : Heap} {mg : Str → Option Value} {f : Addr} (X : K.In h) (G : h.Ns mainGlobals mg) (hfa : mg ("law" : Str) = some (.ref f)) (c : SaysX fa fn K) :
    ∃ fd : FuncData, (∀ (s : Shared) (v : Value), BindsTo s fd ⟨[v], []⟩ [("script", v)]) ∧ ∀ base : Heap, K.In base → base.Ns mainGlobals mg → FnD P w K mg base 6 f fd ["script"] c_law := by
  obtain ⟨fd_rest_of, F_rest_of⟩ := c.def_ 0 (d := dd_rest_of) rfl
  obtain ⟨fd_divides, F_divides⟩ := c.def_ 1 (d := dd_divides) rfl
  obtain ⟨fd_divisor_with_factor, F_divisor_with_factor⟩ := c.def_ 2 (d := dd_divisor_with_factor) rfl
  obtain ⟨fd_residue_of, F_residue_of⟩ := c.def_ 3 (d := dd_residue_of) rfl
  obtain ⟨fd_has_mark, F_has_mark⟩ := c.def_ 4 (d := dd_has_mark) rfl
  obtain ⟨fd_is_inside, F_is_inside⟩ := c.def_ 5 (d := dd_is_inside) rfl
  obtain ⟨fd_both_residues, F_both_residues⟩ := c.def_ 6 (d := dd_both_residues) rfl
  obtain ⟨fd_marks_in, F_marks_in⟩ := c.def_ 7 (d := dd_marks_in) rfl
  obtain ⟨fd_tidy_residues, F_tidy_residues⟩ := c.def_ 8 (d := dd_tidy_residues) rfl
  obtain ⟨fd__law_pool, F__law_pool⟩ := c.def_ 9 (d := dd__law_pool) rfl
  obtain ⟨fd__law_draw, F__law_draw⟩ := c.def_ 10 (d := dd__law_draw) rfl
  obtain ⟨fd__law_same, F__law_same⟩ := c.def_ 11 (d := dd__law_same) rfl
  obtain ⟨fd__law_picked, F__law_picked⟩ := c.def_ 12 (d := dd__law_picked) rfl
  obtain ⟨fd__law_solved, F__law_solved⟩ := c.def_ 13 (d := dd__law_solved) rfl
  obtain ⟨fd__law_has, F__law_has⟩ := c.def_ 14 (d := dd__law_has) rfl
  obtain ⟨fd__law_inside, F__law_inside⟩ := c.def_ 15 (d := dd__law_inside) rfl
  obtain ⟨fd__law_both, F__law_both⟩ := c.def_ 16 (d := dd__law_both) rfl
  obtain ⟨fd__law_tidied, F__law_tidied⟩ := c.def_ 17 (d := dd__law_tidied) rfl
  obtain ⟨fd__law_integer, F__law_integer⟩ := c.def_ 18 (d := dd__law_integer) rfl
  obtain ⟨fd__law_residue, F__law_residue⟩ := c.def_ 19 (d := dd__law_residue) rfl
  obtain ⟨fd__law_solving, F__law_solving⟩ := c.def_ 20 (d := dd__law_solving) rfl
  obtain ⟨fd__law_pairing, F__law_pairing⟩ := c.def_ 21 (d := dd__law_pairing) rfl
  obtain ⟨fd__law_listing, F__law_listing⟩ := c.def_ 22 (d := dd__law_listing) rfl
  obtain ⟨fd__law_tidying, F__law_tidying⟩ := c.def_ 23 (d := dd__law_tidying) rfl
  obtain ⟨fd_law, F_law⟩ := c.def_ 24 (d := dd_law) rfl
  have T : Txt K mg := ⟨freB_ok X G (c.fact 25 (f := freB "abs") rfl), freB_ok X G (c.fact 26 (f := freB "bool") rfl), freB_ok X G (c.fact 27 (f := freB "int") rfl), freB_ok X G (c.fact 28 (f := freB "isinstance") rfl), freB_ok X G (c.fact 29 (f := freB "len") rfl), freB_ok X G (c.fact 30 (f := freB "range") rfl), freB_ok X G (c.fact 31 (f := freB "set") rfl), freB_ok X G (c.fact 32 (f := freB "sorted") rfl), freB_ok X G (c.fact 33 (f := freB "str") rfl), freB_ok X G (c.fact 34 (f := freB "tuple") rfl)⟩
  have g_rest_of := gloB_ok X G (c.fact 0 (f := gloB "rest_of") rfl)
  have g_divides := gloB_ok X G (c.fact 1 (f := gloB "divides") rfl)
  have g_divisor_with_factor := gloB_ok X G (c.fact 2 (f := gloB "divisor_with_factor") rfl)
  have g_residue_of := gloB_ok X G (c.fact 3 (f := gloB "residue_of") rfl)
  have g_has_mark := gloB_ok X G (c.fact 4 (f := gloB "has_mark") rfl)
  have g_is_inside := gloB_ok X G (c.fact 5 (f := gloB "is_inside") rfl)
  have g_both_residues := gloB_ok X G (c.fact 6 (f := gloB "both_residues") rfl)
  have g_marks_in := gloB_ok X G (c.fact 7 (f := gloB "marks_in") rfl)
  have g_tidy_residues := gloB_ok X G (c.fact 8 (f := gloB "tidy_residues") rfl)
  have g__law_pool := gloB_ok X G (c.fact 9 (f := gloB "_law_pool") rfl)
  have g__law_draw := gloB_ok X G (c.fact 10 (f := gloB "_law_draw") rfl)
  have g__law_same := gloB_ok X G (c.fact 11 (f := gloB "_law_same") rfl)
  have g__law_picked := gloB_ok X G (c.fact 12 (f := gloB "_law_picked") rfl)
  have g__law_solved := gloB_ok X G (c.fact 13 (f := gloB "_law_solved") rfl)
  have g__law_has := gloB_ok X G (c.fact 14 (f := gloB "_law_has") rfl)
  have g__law_inside := gloB_ok X G (c.fact 15 (f := gloB "_law_inside") rfl)
  have g__law_both := gloB_ok X G (c.fact 16 (f := gloB "_law_both") rfl)
  have g__law_tidied := gloB_ok X G (c.fact 17 (f := gloB "_law_tidied") rfl)
  have g__law_integer := gloB_ok X G (c.fact 18 (f := gloB "_law_integer") rfl)
  have g__law_residue := gloB_ok X G (c.fact 19 (f := gloB "_law_residue") rfl)
  have g__law_solving := gloB_ok X G (c.fact 20 (f := gloB "_law_solving") rfl)
  have g__law_pairing := gloB_ok X G (c.fact 21 (f := gloB "_law_pairing") rfl)
  have g__law_listing := gloB_ok X G (c.fact 22 (f := gloB "_law_listing") rfl)
  have g__law_tidying := gloB_ok X G (c.fact 23 (f := gloB "_law_tidying") rfl)
  have g_law := gloB_ok X G (c.fact 24 (f := gloB "law") rfl)
  have e := hfa.symm.trans g_law
  cases e
  have n_rest_of : Binds K fd_rest_of ["integer", "modulus"] [] := FunD.bindsN F_rest_of fun _ _ _ _ _ _ us hl => match us, hl with | [_, _], _ => rfl
  have n_divides : Binds K fd_divides ["one", "other"] [] := FunD.bindsN F_divides fun _ _ _ _ _ _ us hl => match us, hl with | [_, _], _ => rfl
  have n_divisor_with_factor : Binds K fd_divisor_with_factor ["one", "other"] [] := FunD.bindsN F_divisor_with_factor fun _ _ _ _ _ _ us hl => match us, hl with | [_, _], _ => rfl
  have n_residue_of : Binds K fd_residue_of ["factor", "modulus", "total"] [] := FunD.bindsN F_residue_of fun _ _ _ _ _ _ us hl => match us, hl with | [_, _, _], _ => rfl
  have n_has_mark : Binds K fd_has_mark ["residue", "mark"] [] := FunD.bindsN F_has_mark fun _ _ _ _ _ _ us hl => match us, hl with | [_, _], _ => rfl
  have n_is_inside : Binds K fd_is_inside ["one", "other"] [] := FunD.bindsN F_is_inside fun _ _ _ _ _ _ us hl => match us, hl with | [_, _], _ => rfl
  have n_both_residues : Binds K fd_both_residues ["one", "other"] [] := FunD.bindsN F_both_residues fun _ _ _ _ _ _ us hl => match us, hl with | [_, _], _ => rfl
  have n_marks_in : Binds K fd_marks_in ["dial", "residue"] [] := FunD.bindsN F_marks_in fun _ _ _ _ _ _ us hl => match us, hl with | [_, _], _ => rfl
  have n_tidy_residues : Binds K fd_tidy_residues ["residues"] [] := FunD.bindsN F_tidy_residues fun _ _ _ _ _ _ us hl => match us, hl with | [_], _ => rfl
  have n__law_pool : Binds K fd__law_pool ["script", "salt"] [] := FunD.bindsN F__law_pool fun _ _ _ _ _ _ us hl => match us, hl with | [_, _], _ => rfl
  have n__law_draw : Binds K fd__law_draw ["pool", "many"] [] := FunD.bindsN F__law_draw fun _ _ _ _ _ _ us hl => match us, hl with | [_, _], _ => rfl
  have n__law_same : Binds K fd__law_same ["told", "due"] [] := FunD.bindsN F__law_same fun _ _ _ _ _ _ us hl => match us, hl with | [_, _], _ => rfl
  have n__law_picked : Binds K fd__law_picked ["pool", "rows"] [] := FunD.bindsN F__law_picked fun _ _ _ _ _ _ us hl => match us, hl with | [_, _], _ => rfl
  have n__law_solved : Binds K fd__law_solved ["factor", "modulus", "total"] [] := FunD.bindsN F__law_solved fun _ _ _ _ _ _ us hl => match us, hl with | [_, _, _], _ => rfl
  have n__law_has : Binds K fd__law_has ["residue", "value"] [] := FunD.bindsN F__law_has fun _ _ _ _ _ _ us hl => match us, hl with | [_, _], _ => rfl
  have n__law_inside : Binds K fd__law_inside ["one", "other"] [] := FunD.bindsN F__law_inside fun _ _ _ _ _ _ us hl => match us, hl with | [_, _], _ => rfl
  have n__law_both : Binds K fd__law_both ["one", "other"] [] := FunD.bindsN F__law_both fun _ _ _ _ _ _ us hl => match us, hl with | [_, _], _ => rfl
  have n__law_tidied : Binds K fd__law_tidied ["residues"] [] := FunD.bindsN F__law_tidied fun _ _ _ _ _ _ us hl => match us, hl with | [_], _ => rfl
  have n__law_integer : Binds K fd__law_integer ["pool"] [] := FunD.bindsN F__law_integer fun _ _ _ _ _ _ us hl => match us, hl with | [_], _ => rfl
  have n__law_residue : Binds K fd__law_residue ["pool", "step"] [] := FunD.bindsN F__law_residue fun _ _ _ _ _ _ us hl => match us, hl with | [_, _], _ => rfl
  have n__law_solving : Binds K fd__law_solving ["pool", "wide"] [] := FunD.bindsN F__law_solving fun _ _ _ _ _ _ us hl => match us, hl with | [_, _], _ => rfl
  have n__law_pairing : Binds K fd__law_pairing ["pool", "wide"] [] := FunD.bindsN F__law_pairing fun _ _ _ _ _ _ us hl => match us, hl with | [_, _], _ => rfl
  have n__law_listing : Binds K fd__law_listing ["pool", "wide"] [] := FunD.bindsN F__law_listing fun _ _ _ _ _ _ us hl => match us, hl with | [_, _], _ => rfl
  have n__law_tidying : Binds K fd__law_tidying ["pool", "wide"] [] := FunD.bindsN F__law_tidying fun _ _ _ _ _ _ us hl => match us, hl with | [_, _], _ => rfl
  have n_law : Binds K fd_law ["script"] [] := FunD.bindsN F_law fun _ _ _ _ _ _ us hl => match us, hl with | [_], _ => rfl
  have bL := FunD.bindsA (ps := ["script"]) F_law fun _ _ _ _ _ _ us hl => match us, hl with | [_], _ => rfl
  refine ⟨fd_law, fun s v => bL s [v] rfl, fun base _ _ => ?_⟩
  have d_rest_of : Def P w K mg base 1 "rest_of" ["integer", "modulus"] c_rest_of := ⟨_, _, fn_okF F_rest_of sc_rest_of (fun cdv A outer s H E hr => b_rest_of T  _ cdv A outer s H E hr) v_rest_of, g_rest_of, F_rest_of.kp, n_rest_of⟩
  have d_divides : Def P w K mg base 1 "divides" ["one", "other"] c_divides := ⟨_, _, fn_okF F_divides sc_divides (fun cdv A outer s H E hr => b_divides T  _ cdv A outer s H E hr) v_divides, g_divides, F_divides.kp, n_divides⟩
  have d_divisor_with_factor : Def P w K mg base 1 "divisor_with_factor" ["one", "other"] c_divisor_with_factor := ⟨_, _, fn_okF F_divisor_with_factor sc_divisor_with_factor (fun cdv A outer s H E hr => b_divisor_with_factor T  _ cdv A outer s H E hr) v_divisor_with_factor, g_divisor_with_factor, F_divisor_with_factor.kp, n_divisor_with_factor⟩
  have d_residue_of : Def P w K mg base 2 "residue_of" ["factor", "modulus", "total"] c_residue_of := ⟨_, _, fn_okF F_residue_of sc_residue_of (fun cdv A outer s H E hr => b_residue_of T d_divisor_with_factor d_divides d_rest_of _ cdv A outer s H E hr) v_residue_of, g_residue_of, F_residue_of.kp, n_residue_of⟩
  have d_has_mark : Def P w K mg base 2 "has_mark" ["residue", "mark"] c_has_mark := ⟨_, _, fn_okF F_has_mark sc_has_mark (fun cdv A outer s H E hr => b_has_mark T d_divides _ cdv A outer s H E hr) v_has_mark, g_has_mark, F_has_mark.kp, n_has_mark⟩
  have d_is_inside : Def P w K mg base 3 "is_inside" ["one", "other"] c_is_inside := ⟨_, _, fn_okF F_is_inside sc_is_inside (fun cdv A outer s H E hr => b_is_inside T d_divides d_has_mark _ cdv A outer s H E hr) v_is_inside, g_is_inside, F_is_inside.kp, n_is_inside⟩
  have d_both_residues : Def P w K mg base 2 "both_residues" ["one", "other"] c_both_residues := ⟨_, _, fn_okF F_both_residues sc_both_residues (fun cdv A outer s H E hr => b_both_residues T d_divisor_with_factor d_divides d_rest_of _ cdv A outer s H E hr) v_both_residues, g_both_residues, F_both_residues.kp, n_both_residues⟩
  have d_marks_in : Def P w K mg base 1 "marks_in" ["dial", "residue"] c_marks_in := ⟨_, _, fn_okF F_marks_in sc_marks_in (fun cdv A outer s H E hr => b_marks_in T  _ cdv A outer s H E hr) v_marks_in, g_marks_in, F_marks_in.kp, n_marks_in⟩
  have d_tidy_residues : Def P w K mg base 4 "tidy_residues" ["residues"] c_tidy_residues := ⟨_, _, fn_okF F_tidy_residues sc_tidy_residues (fun cdv A outer s H E hr => b_tidy_residues T d_is_inside _ cdv A outer s H E hr) v_tidy_residues, g_tidy_residues, F_tidy_residues.kp, n_tidy_residues⟩
  have d__law_pool : Def P w K mg base 1 "_law_pool" ["script", "salt"] c__law_pool := ⟨_, _, fn_okF F__law_pool sc__law_pool (fun cdv A outer s H E hr => b__law_pool T  _ cdv A outer s H E hr) v__law_pool, g__law_pool, F__law_pool.kp, n__law_pool⟩
  have d__law_draw : Def P w K mg base 1 "_law_draw" ["pool", "many"] c__law_draw := ⟨_, _, fn_okF F__law_draw sc__law_draw (fun cdv A outer s H E hr => b__law_draw T  _ cdv A outer s H E hr) v__law_draw, g__law_draw, F__law_draw.kp, n__law_draw⟩
  have d__law_same_0 : Def P w K mg base 0 "_law_same" ["told", "due"] (c__law_same 0) := ⟨_, _, fn_vac (fun _ _ _ h => h), g__law_same, F__law_same.kp, n__law_same⟩
  have d__law_same_1 : Def P w K mg base 1 "_law_same" ["told", "due"] (c__law_same 1) := ⟨_, _, fn_okF F__law_same sc__law_same (fun cdv A outer s H E hr => b__law_same T  (by decide) d__law_same_0 _ cdv A outer s H E hr) (v__law_same 0), g__law_same, F__law_same.kp, n__law_same⟩
  have d__law_same_2 : Def P w K mg base 2 "_law_same" ["told", "due"] (c__law_same 2) := ⟨_, _, fn_okF F__law_same sc__law_same (fun cdv A outer s H E hr => b__law_same T  (by decide) d__law_same_1 _ cdv A outer s H E hr) (v__law_same 1), g__law_same, F__law_same.kp, n__law_same⟩
  have d__law_same_3 : Def P w K mg base 3 "_law_same" ["told", "due"] (c__law_same 3) := ⟨_, _, fn_okF F__law_same sc__law_same (fun cdv A outer s H E hr => b__law_same T  (by decide) d__law_same_2 _ cdv A outer s H E hr) (v__law_same 2), g__law_same, F__law_same.kp, n__law_same⟩
  have d__law_same := d__law_same_3
  have d__law_picked : Def P w K mg base 2 "_law_picked" ["pool", "rows"] c__law_picked := ⟨_, _, fn_okF F__law_picked sc__law_picked (fun cdv A outer s H E hr => b__law_picked T d__law_draw _ cdv A outer s H E hr) v__law_picked, g__law_picked, F__law_picked.kp, n__law_picked⟩
  have d__law_solved : Def P w K mg base 1 "_law_solved" ["factor", "modulus", "total"] c__law_solved := ⟨_, _, fn_okF F__law_solved sc__law_solved (fun cdv A outer s H E hr => b__law_solved T  _ cdv A outer s H E hr) v__law_solved, g__law_solved, F__law_solved.kp, n__law_solved⟩
  have d__law_has : Def P w K mg base 1 "_law_has" ["residue", "value"] c__law_has := ⟨_, _, fn_okF F__law_has sc__law_has (fun cdv A outer s H E hr => b__law_has T  _ cdv A outer s H E hr) v__law_has, g__law_has, F__law_has.kp, n__law_has⟩
  have d__law_inside : Def P w K mg base 2 "_law_inside" ["one", "other"] c__law_inside := ⟨_, _, fn_okF F__law_inside sc__law_inside (fun cdv A outer s H E hr => b__law_inside T d__law_has _ cdv A outer s H E hr) v__law_inside, g__law_inside, F__law_inside.kp, n__law_inside⟩
  have d__law_both : Def P w K mg base 2 "_law_both" ["one", "other"] c__law_both := ⟨_, _, fn_okF F__law_both sc__law_both (fun cdv A outer s H E hr => b__law_both T d__law_has _ cdv A outer s H E hr) v__law_both, g__law_both, F__law_both.kp, n__law_both⟩
  have d__law_tidied : Def P w K mg base 3 "_law_tidied" ["residues"] c__law_tidied := ⟨_, _, fn_okF F__law_tidied sc__law_tidied (fun cdv A outer s H E hr => b__law_tidied T d__law_inside _ cdv A outer s H E hr) v__law_tidied, g__law_tidied, F__law_tidied.kp, n__law_tidied⟩
  have d__law_integer : Def P w K mg base 2 "_law_integer" ["pool"] c__law_integer := ⟨_, _, fn_okF F__law_integer sc__law_integer (fun cdv A outer s H E hr => b__law_integer T d__law_draw _ cdv A outer s H E hr) v__law_integer, g__law_integer, F__law_integer.kp, n__law_integer⟩
  have d__law_residue : Def P w K mg base 3 "_law_residue" ["pool", "step"] c__law_residue := ⟨_, _, fn_okF F__law_residue sc__law_residue (fun cdv A outer s H E hr => b__law_residue T d__law_integer d__law_draw _ cdv A outer s H E hr) v__law_residue, g__law_residue, F__law_residue.kp, n__law_residue⟩
  have d__law_solving : Def P w K mg base 4 "_law_solving" ["pool", "wide"] c__law_solving := ⟨_, _, fn_okF F__law_solving sc__law_solving (fun cdv A outer s H E hr => b__law_solving T d__law_draw d__law_integer d__law_picked d__law_same d__law_solved d_residue_of _ cdv A outer s H E hr) v__law_solving, g__law_solving, F__law_solving.kp, n__law_solving⟩
  have d__law_pairing : Def P w K mg base 4 "_law_pairing" ["pool", "wide"] c__law_pairing := ⟨_, _, fn_okF F__law_pairing sc__law_pairing (fun cdv A outer s H E hr => b__law_pairing T d__law_draw d__law_residue d__law_same d__law_inside d_is_inside d__law_both d_both_residues d__law_integer d__law_has d_has_mark _ cdv A outer s H E hr) v__law_pairing, g__law_pairing, F__law_pairing.kp, n__law_pairing⟩
  have d__law_listing : Def P w K mg base 4 "_law_listing" ["pool", "wide"] c__law_listing := ⟨_, _, fn_okF F__law_listing sc__law_listing (fun cdv A outer s H E hr => b__law_listing T d__law_picked d__law_draw d__law_residue d__law_has d__law_same d_marks_in _ cdv A outer s H E hr) v__law_listing, g__law_listing, F__law_listing.kp, n__law_listing⟩
  have d__law_tidying : Def P w K mg base 5 "_law_tidying" ["pool", "wide"] c__law_tidying := ⟨_, _, fn_okF F__law_tidying sc__law_tidying (fun cdv A outer s H E hr => b__law_tidying T d__law_draw d__law_residue d__law_same d__law_tidied d_tidy_residues _ cdv A outer s H E hr) v__law_tidying, g__law_tidying, F__law_tidying.kp, n__law_tidying⟩
  exact fn_okF F_law sc_law (fun cdv A outer s H E hr => b_law T d__law_pool d__law_draw d__law_solving d__law_pairing d__law_listing d__law_tidying _ cdv A outer s H E hr) v_law
end K03
open PySem PySem.W PySem.Calls PyProof.Rows
theorem PySem.Challenge.cw_everygain_k03_residues_holds : PySem.Challenge.rw_everygain_k03_residues.Holds := by
  w_on; o_law
  refine HandSHeadRun.head_any (r := OpenLaw.row PySem.Challenge.rw_everygain_k03_residues) (q := view (OpenLaw.row PySem.Challenge.rw_everygain_k03_residues).prog [27]) (H := K03.hk) (ob := K03.ob) (M := 4000) (loose := K03.loose) (d := HandSHeadRun.topDef (OpenLaw.row PySem.Challenge.rw_everygain_k03_residues).prog 27) (kwd := []) K03.ob_eq
    (by kernel_rfl) (fun s => by kernel_rfl) K03.run (by kernel_rfl) (by kernel_rfl) (by kernel_rfl) (by rfl) (by first | assumption | decide +kernel) (by decide +kernel) ⟨rfl, rfl, rfl, rfl, rfl, by decide +kernel⟩ ?hw ?hc
  case hw => w_witness2
  case hc =>
    refine L2.walk_ofE (l := PySem.Challenge.rw_everygain_k03_residues) (n := 63) (k := 6) (x := "script") (CX := L2.CX0) rfl (by decide) (by kernel_rfl) ⟨rfl, by decide, by decide⟩ ?F (fun _ _ _ _ z => z)
    intro w mg fa h Y G hmg0
    obtain ⟨K, KX, c⟩ := Y
    have hmg : mg ("law" : PySem.Str) = some (.ref fa) := by
      have e : (HandSHeadRun.topDef (OpenLaw.row PySem.Challenge.rw_everygain_k03_residues).prog 27).name = ("law" : PySem.Str) := by kernel_rfl
      rw [← e]
      exact hmg0
    obtain ⟨fd, hb, hF⟩ := K03.facts (P := (PySem.Challenge.rw_everygain_k03_residues).prog) (w := w) KX G hmg c
    exact ⟨K, fd, DL.SpD K 1 K03.c_law, KX, hb, fun H a ns hl _ hS => DL.law_sp (np := 1) (E := fun _ _ _ => False) (K03.law_in hl) hS, hF⟩

