import PyProof.Rows.All
import Wide.All
import OpenK.AllK
import Wide.FinOn
import HandS.ForMost
import HandS.Wide
import HandS.Gcd
import HandS.Walk
import HandS.IsInst
import KE.KStateDown
import HandS.More
import HandS.WordsExc
import HandS.Defaults
import HandS.Head0
import HandS.Head1
import HandS.Head2
import HandS.HeadEnd
import HandS.HeadHook1
import HandS.HeadHook2
import KE.DataCmp
import KE.SortKeyed
import KE.DataMinMax
import KE.DataFind
import HandS.Deep
import HandS.TupAny
import HandS.Text
import HandS.Zip
import HandS.Conv
import HandS.Iter
import HandS.TupSets
import PyProof.StrOps2
import HandS.Strs
import HandS.Head3
import PySem.Challenge.RW_everygain_k15_keys_and_places
set_option Elab.async false
set_option linter.all false
set_option maxRecDepth 100000
set_option maxHeartbeats 4000000
/-! DL: a data layer over HandS: values by content, a store of own mutable lists, readings that compute. -/
namespace DL
open PySem PySem.Spec PyProof.Rows L2

/-- a value by content; ref n: the n-th object of the store -/
inductive D where
  | non | bl (b : Bool) | int (i : Int) | str (s : Str) | tup (ds : List D) | lst (ds : List D) | ref (n : Nat)

inductive Ob where
  | lst (ds : List D)
  | gone
abbrev Store := List Ob
abbrev Env := List (Option D)
/-- where the store's objects stand; what else is kept apart -/
structure Mu where
  sl : List (Option Addr)
  rs : List Addr
def Mu.has (μ : Mu) (a : Addr) : Prop := some a ∈ μ.sl ∨ a ∈ μ.rs
def Mu.add (μ : Mu) (p : Addr) : Mu := ⟨μ.sl ++ [some p], μ.rs⟩

/-- a list of the written part -/
def KL (K : PySem.W.Frag) (a : Addr) (xs : List V) : Prop :=
  ∃ (o : Obj) (its : Array Value) (n : Nat), K.lookup a = some o ∧ o.cls = .type "list" ∧ o.dict = none ∧ o.data = .seq its n ∧ its.size ≤ sizeLine ∧ Vals xs its.toList
def KT (K : PySem.W.Frag) (a : Addr) (xs : List V) : Prop :=
  ∃ (o : Obj) (its : Array Value) (n : Nat), K.lookup a = some o ∧ o.cls = .type "tuple" ∧ o.data = .seq its n ∧ its.size ≤ sizeLine ∧ Vals xs its.toList

mutual
inductive Rep (K : PySem.W.Frag) (μ : Mu) (H : Hp) : D → V → Prop
  | non : Rep K μ H .non .non
  | bl (b : Bool) : Rep K μ H (.bl b) (.bl b)
  | int (i : Int) : Rep K μ H (.int i) (.int i)
  | str (x : Str) : Rep K μ H (.str x) (.str x)
  | tup {a : Addr} {xs : List V} {ds : List D} : Rd H a (.tup xs) ∨ KT K a xs → RepAll K μ H ds xs → Rep K μ H (.tup ds) (.ref a)
  | lst {a : Addr} {xs : List V} {ds : List D} : (Rd H a (.lst xs) ∧ ¬ μ.has a) ∨ KL K a xs → RepAll K μ H ds xs → Rep K μ H (.lst ds) (.ref a)
  | ref {n : Nat} {a : Addr} : μ.sl[n]? = some (some a) → Rep K μ H (.ref n) (.ref a)
inductive RepAll (K : PySem.W.Frag) (μ : Mu) (H : Hp) : List D → List V → Prop
  | nil : RepAll K μ H [] []
  | cons {d : D} {ds : List D} {v : V} {vs : List V} : Rep K μ H d v → RepAll K μ H ds vs → RepAll K μ H (d :: ds) (v :: vs)
end

structure Grow (μ : Mu) (H : Hp) (μ' : Mu) (H' : Hp) : Prop where
  tup : ∀ (a : Addr) (xs : List V), Rd H a (.tup xs) → Rd H' a (.tup xs)
  lst : ∀ (a : Addr) (xs : List V), Rd H a (.lst xs) → ¬ μ.has a → Rd H' a (.lst xs) ∧ ¬ μ'.has a
  ref : ∀ (n : Nat) (a : Addr), μ.sl[n]? = some (some a) → μ'.sl[n]? = some (some a)
  rs : ∀ (a : Addr), a ∈ μ.rs → a ∈ μ'.rs ∧ ∀ o, H a = some o → H' a = some o

section
variable {K : PySem.W.Frag} {μ μ' μ1 μ2 : Mu} {H H' H1 H2 : Hp}
theorem Grow.refl : Grow μ H μ H := ⟨fun _ _ h => h, fun _ _ h n => ⟨h, n⟩, fun _ _ h => h, fun _ h => ⟨h, fun _ h => h⟩⟩
theorem Grow.trans (g : Grow μ H μ1 H1) (k : Grow μ1 H1 μ2 H2) : Grow μ H μ2 H2 :=
  ⟨fun a xs h => k.tup a xs (g.tup a xs h), fun a xs h n => let ⟨h1, n1⟩ := g.lst a xs h n; k.lst a xs h1 n1, fun n a h => k.ref n a (g.ref n a h), fun a h => let ⟨h1, e1⟩ := g.rs a h; let ⟨h2, e2⟩ := k.rs a h1; ⟨h2, fun o z => e2 o (e1 o z)⟩⟩
mutual
theorem Rep.grow (g : Grow μ H μ' H') : ∀ {d : D} {v : V}, Rep K μ H d v → Rep K μ' H' d v
  | _, _, .non => .non
  | _, _, .bl b => .bl b
  | _, _, .int i => .int i
  | _, _, .str x => .str x
  | _, _, .tup h r => .tup (h.imp (g.tup _ _) id) (RepAll.grow g r)
  | _, _, .lst h r => .lst (h.imp (fun z => g.lst _ _ z.1 z.2) id) (RepAll.grow g r)
  | _, _, .ref h => .ref (g.ref _ _ h)
theorem RepAll.grow (g : Grow μ H μ' H') : ∀ {ds : List D} {vs : List V}, RepAll K μ H ds vs → RepAll K μ' H' ds vs
  | _, _, .nil => .nil
  | _, _, .cons r t => .cons (Rep.grow g r) (RepAll.grow g t)
end
theorem RepAll.length : ∀ {ds : List D} {vs : List V}, RepAll K μ H ds vs → ds.length = vs.length
  | _, _, .nil => rfl
  | _, _, .cons _ t => congrArg (· + 1) (RepAll.length t)
theorem RepAll.get : ∀ {ds : List D} {vs : List V} {i : Nat} {d : D}, RepAll K μ H ds vs → ds[i]? = some d → ∃ v, vs[i]? = some v ∧ Rep K μ H d v
  | _, _, _, _, .nil, e => by simp at e
  | _, _, 0, _, .cons r _, e => by simp at e; subst e; exact ⟨_, rfl, r⟩
  | _, _, i + 1, d, .cons _ t, e => by
    obtain ⟨v, h1, h2⟩ := RepAll.get (i := i) (d := d) t (by simpa using e)
    exact ⟨v, by simpa using h1, h2⟩
theorem RepAll.getV : ∀ {ds : List D} {vs : List V} {i : Nat} {v : V}, RepAll K μ H ds vs → vs[i]? = some v → ∃ d, ds[i]? = some d ∧ Rep K μ H d v
  | _, _, _, _, .nil, e => by simp at e
  | _, _, 0, _, .cons r _, e => by simp at e; subst e; exact ⟨_, rfl, r⟩
  | _, _, i + 1, v, .cons _ t, e => by
    obtain ⟨d, h1, h2⟩ := RepAll.getV (i := i) (v := v) t (by simpa using e)
    exact ⟨d, by simpa using h1, h2⟩
theorem RepAll.append : ∀ {ds es : List D} {vs ws : List V}, RepAll K μ H ds vs → RepAll K μ H es ws → RepAll K μ H (ds ++ es) (vs ++ ws)
  | _, _, _, _, .nil, s => s
  | _, _, _, _, .cons r t, s => .cons r (RepAll.append t s)
theorem RepAll.one {d : D} {v : V} (h : Rep K μ H d v) : RepAll K μ H [d] [v] := .cons h .nil
theorem RepAll.set {d : D} {v : V} (r : Rep K μ H d v) : ∀ {ds : List D} {vs : List V} (i : Nat), RepAll K μ H ds vs → RepAll K μ H (ds.set i d) (vs.set i v)
  | _, _, _, .nil => .nil
  | _, _, 0, .cons _ t => .cons r t
  | _, _, i + 1, .cons q t => .cons q (RepAll.set r i t)
theorem RepAll.take : ∀ {ds : List D} {vs : List V} (n : Nat), RepAll K μ H ds vs → RepAll K μ H (ds.take n) (vs.take n)
  | _, _, 0, _ => .nil
  | _, _, _ + 1, .nil => .nil
  | _, _, n + 1, .cons r t => .cons r (RepAll.take n t)
theorem RepAll.drop : ∀ {ds : List D} {vs : List V} (n : Nat), RepAll K μ H ds vs → RepAll K μ H (ds.drop n) (vs.drop n)
  | _, _, 0, r => r
  | _, _, _ + 1, .nil => .nil
  | _, _, n + 1, .cons _ t => RepAll.drop n t
theorem RepAll.eraseIdx : ∀ {ds : List D} {vs : List V} (i : Nat), RepAll K μ H ds vs → RepAll K μ H (ds.eraseIdx i) (vs.eraseIdx i)
  | _, _, _, .nil => .nil
  | _, _, 0, .cons _ t => t
  | _, _, i + 1, .cons r t => .cons r (RepAll.eraseIdx i t)
theorem RepAll.dropLast {ds : List D} {vs : List V} (r : RepAll K μ H ds vs) : RepAll K μ H ds.dropLast vs.dropLast := by
  rw [List.dropLast_eq_take, List.dropLast_eq_take, r.length]
  exact r.take _
theorem RepAll.reverse : ∀ {ds : List D} {vs : List V}, RepAll K μ H ds vs → RepAll K μ H ds.reverse vs.reverse
  | _, _, .nil => .nil
  | _, _, .cons r t => by
    rw [List.reverse_cons, List.reverse_cons]
    exact RepAll.append (RepAll.reverse t) (.one r)
theorem RepAll.snoc {ds : List D} {d : D} {vs : List V} (h : RepAll K μ H (ds ++ [d]) vs) : ∃ ws v, vs = ws ++ [v] ∧ RepAll K μ H ds ws ∧ Rep K μ H d v := by
  have e := h.length
  rw [List.length_append, List.length_singleton] at e
  obtain ⟨v, hv, rv⟩ := h.get (i := ds.length) (d := d) (by simp)
  refine ⟨vs.take ds.length, v, ?_, ?_, rv⟩
  · have : vs = vs.take ds.length ++ vs.drop ds.length := (List.take_append_drop _ _).symm
    rw [List.drop_eq_getElem_cons (by omega), List.drop_of_length_le (by omega)] at this
    rw [List.getElem?_eq_getElem (by omega)] at hv
    rw [Option.some.inj hv] at this
    exact this
  · have := h.take ds.length
    rwa [List.take_left] at this
theorem RepAll.sub : ∀ {ds : List D} {vs : List V} (k : List V), k.Sublist vs → RepAll K μ H ds vs → ∃ es : List D, RepAll K μ H es k ∧ es.Sublist ds
  | _, _, _, .slnil, .nil => ⟨[], .nil, .slnil⟩
  | _, _, _, .cons _ s, .cons _ t => let ⟨es, r, q⟩ := RepAll.sub _ s t; ⟨es, r, .cons _ q⟩
  | _, _, _, .cons₂ _ s, .cons h t => let ⟨es, r, q⟩ := RepAll.sub _ s t; ⟨_ :: es, .cons h r, .cons₂ _ q⟩
theorem Rep.int_inv {i : Int} {v : V} (h : Rep K μ H (.int i) v) : v = .int i := by cases h; rfl
theorem Rep.bl_inv {b : Bool} {v : V} (h : Rep K μ H (.bl b) v) : v = .bl b := by cases h; rfl
theorem Rep.str_inv {b : Str} {v : V} (h : Rep K μ H (.str b) v) : v = .str b := by cases h; rfl
theorem Rep.tupS {ds : List D} {v : V} (h : Rep K μ H (.tup ds) v) : ∃ a xs, v = .ref a ∧ SqT K H a xs ∧ RepAll K μ H ds xs := by
  cases h with
  | tup h r => exact ⟨_, _, rfl, h, r⟩
theorem Rep.lstS {ds : List D} {v : V} (h : Rep K μ H (.lst ds) v) : ∃ a xs, v = .ref a ∧ SqL K H a xs ∧ RepAll K μ H ds xs := by
  cases h with
  | lst h r => exact ⟨_, _, rfl, h.imp And.left id, r⟩
theorem RepAll.ints : ∀ {ns : List Int} {vs : List V}, RepAll K μ H (ns.map D.int) vs → vs = ns.map V.int
  | [], _, h => by cases h; rfl
  | n :: ns, _, h => by
    cases h with
    | cons r t =>
      cases r
      rw [RepAll.ints t]
      rfl
theorem repInts : ∀ (ns : List Int), RepAll K μ H (ns.map D.int) (ns.map V.int)
  | [] => .nil
  | n :: ns => .cons (.int n) (repInts ns)
end

/-! ### the store -/
structure Sim (K : PySem.W.Frag) (μ : Mu) (S : Store) (H : Hp) : Prop where
  len : μ.sl.length = S.length
  inj : ∀ (i j : Nat) (a : Addr), μ.sl[i]? = some (some a) → μ.sl[j]? = some (some a) → i = j
  trk : ∀ (n : Nat) (a : Addr), μ.sl[n]? = some (some a) → (∃ o, H a = some o) ∧ a ∉ μ.rs
  trs : ∀ (a : Addr), a ∈ μ.rs → ∃ o, H a = some o
  ob : ∀ (n : Nat) (ds : List D), S[n]? = some (.lst ds) → ∃ a xs, μ.sl[n]? = some (some a) ∧ H a = some (.lst xs) ∧ RepAll K μ H ds xs

def EnvR (K : PySem.W.Frag) (μ : Mu) (H : Hp) (ρ : Env) (σ : L2.St) : Prop :=
  ρ.length = σ.length ∧ ∀ (i : Nat) (d : D), ρ[i]? = some (some d) → ∃ v, σ[i]? = some (some v) ∧ Rep K μ H d v

section
variable {K : PySem.W.Frag} {μ μ' μ1 μ2 : Mu} {H H' H1 H2 : Hp} {S S' : Store} {ρ : Env} {σ : L2.St}
theorem EnvR.grow (g : Grow μ H μ' H') (h : EnvR K μ H ρ σ) : EnvR K μ' H' ρ σ :=
  ⟨h.1, fun i d e => let ⟨v, h1, h2⟩ := h.2 i d e; ⟨v, h1, h2.grow g⟩⟩
theorem EnvR.set {i : Nat} {d : D} {v : V} (h : EnvR K μ H ρ σ) (r : Rep K μ H d v) : EnvR K μ H (ρ.set i (some d)) (σ.set i (some v)) := by
  refine ⟨by simpa using h.1, fun j e q => ?_⟩
  by_cases hj : i = j
  · subst hj
    by_cases hi : i < ρ.length
    · rw [List.getElem?_set_self hi] at q
      cases q
      exact ⟨v, List.getElem?_set_self (by rw [← h.1]; exact hi), r⟩
    · rw [List.getElem?_eq_none (by simpa using hi)] at q
      cases q
  · rw [List.getElem?_set_ne hj] at q
    rw [List.getElem?_set_ne hj]
    exact h.2 j e q
theorem Sim.notin (m : Sim K μ S H) {a : Addr} (h : H a = none) : ¬ μ.has a := fun hm => by
  rcases hm with hm | hm
  · obtain ⟨n, hn⟩ := List.getElem?_of_mem hm
    obtain ⟨⟨o, ho⟩, _⟩ := m.trk n a hn
    rw [h] at ho; cases ho
  · obtain ⟨o, ho⟩ := m.trs a hm
    rw [h] at ho; cases ho
/-- the tracked objects of the store as they were -/
theorem Sim.grow (m : Sim K μ S H) (g : Grow μ H μ H') (k : ∀ (n : Nat) (a : Addr), μ.sl[n]? = some (some a) → H' a = H a) : Sim K μ S H' :=
  ⟨m.len, m.inj, fun n a h => let ⟨⟨o, ho⟩, hr⟩ := m.trk n a h; ⟨⟨o, by rw [k n a h]; exact ho⟩, hr⟩, fun a h => let ⟨o, ho⟩ := m.trs a h; ⟨o, (g.rs a h).2 o ho⟩,
    fun n ds h => let ⟨a, xs, h1, h2, h3⟩ := m.ob n ds h; ⟨a, xs, h1, by rw [k n a h1]; exact h2, h3.grow g⟩⟩
theorem rd_new {a p : Addr} {o u : HO} (h : Rd H a u) (hp : H p = none) : Rd (upd H p o) a u := by
  rcases h with h | ⟨ob, h⟩
  · exact .inl (by rw [upd_ne (ne_of_none h hp)]; exact h)
  · exact .inr ⟨ob, by rw [upd_ne (ne_of_none h hp)]; exact h⟩
theorem rd_ne {a p : Addr} {u : HO} (h : Rd H a u) (hp : H p = none) : a ≠ p := by
  rcases h with h | ⟨ob, h⟩
  · exact ne_of_none h hp
  · exact ne_of_none h hp
theorem Grow.new {p : Addr} {o : HO} (hp : H p = none) : Grow μ H μ (upd H p o) :=
  ⟨fun _ _ h => rd_new h hp, fun _ _ h n => ⟨rd_new h hp, n⟩, fun _ _ h => h, fun a h => ⟨h, fun u z => by rw [upd_ne (ne_of_none z hp)]; exact z⟩⟩
theorem Sim.new {p : Addr} {o : HO} (m : Sim K μ S H) (hp : H p = none) : Sim K μ S (upd H p o) :=
  m.grow (.new hp) fun n a h => by
    obtain ⟨⟨u, hu⟩, _⟩ := m.trk n a h
    exact upd_ne (ne_of_none hu hp)
/-- a new object of the store -/
theorem Grow.alloc {p : Addr} {o : HO} (hp : H p = none) : Grow μ H (μ.add p) (upd H p o) :=
  ⟨fun _ _ h => rd_new h hp, fun a xs h n => ⟨rd_new h hp, fun hm => by
    rcases hm with z | z
    · rcases List.mem_append.mp z with z | z
      · exact n (.inl z)
      · have e : a = p := by simpa using z
        exact rd_ne h hp e
    · exact n (.inr z)⟩,
    fun n a h => by
      have hn : n < μ.sl.length := (List.getElem?_eq_some_iff.mp h).1
      show (μ.sl ++ [some p])[n]? = _
      rw [List.getElem?_append_left hn]
      exact h,
    fun a h => ⟨h, fun u z => by rw [upd_ne (ne_of_none z hp)]; exact z⟩⟩
theorem Sim.alloc {p : Addr} {ds : List D} {xs : List V} (m : Sim K μ S H) (hp : H p = none) (r : RepAll K μ H ds xs) : Sim K (μ.add p) (S ++ [.lst ds]) (upd H p (.lst xs)) := by
  have nin := m.notin hp
  have back : ∀ i a, (μ.sl ++ [some p])[i]? = some (some a) → (μ.sl[i]? = some (some a) ∧ a ≠ p) ∨ (i = μ.sl.length ∧ a = p) := fun i a h => by
    by_cases hi : i < μ.sl.length
    · rw [List.getElem?_append_left hi] at h
      refine .inl ⟨h, fun e => ?_⟩
      subst e
      exact nin (.inl (List.mem_of_getElem? h))
    · rw [List.getElem?_append_right (by omega)] at h
      have e := (List.getElem?_eq_some_iff.mp h)
      obtain ⟨hl, e⟩ := e
      have : i - μ.sl.length = 0 := by simp at hl; omega
      refine .inr ⟨by omega, ?_⟩
      simp [this] at e
      exact e.symm
  refine ⟨by simp [Mu.add, m.len], fun i j a h1 h2 => ?_, fun n a h => ?_, fun a h => ?_, fun n es h => ?_⟩
  · rcases back i a h1 with ⟨x, nx⟩ | ⟨x, nx⟩ <;> rcases back j a h2 with ⟨y, ny⟩ | ⟨y, ny⟩
    · exact m.inj i j a x y
    · exact absurd ny nx
    · exact absurd nx ny
    · omega
  · rcases back n a h with ⟨x, nx⟩ | ⟨_, nx⟩
    · obtain ⟨⟨o, ho⟩, hr⟩ := m.trk n a x
      exact ⟨⟨o, by rw [upd_ne nx]; exact ho⟩, hr⟩
    · subst nx
      exact ⟨⟨_, upd_same⟩, fun z => nin (.inr z)⟩
  · obtain ⟨o, ho⟩ := m.trs a h
    exact ⟨o, by rw [upd_ne (ne_of_none ho hp)]; exact ho⟩
  · by_cases hn : n < S.length
    · rw [List.getElem?_append_left hn] at h
      obtain ⟨a, ys, h1, h2, h3⟩ := m.ob n es h
      refine ⟨a, ys, ?_, ?_, h3.grow (.alloc hp)⟩
      · show (μ.sl ++ [some p])[n]? = _
        rw [List.getElem?_append_left (by rw [m.len]; exact hn)]
        exact h1
      · rw [upd_ne (ne_of_none h2 hp)]
        exact h2
    · rw [List.getElem?_append_right (by omega)] at h
      have e := (List.getElem?_eq_some_iff.mp h)
      obtain ⟨hl, e⟩ := e
      have q : n - S.length = 0 := by simp at hl; omega
      simp [q] at e
      subst e
      refine ⟨p, xs, ?_, upd_same, r.grow (.alloc hp)⟩
      show (μ.sl ++ [some p])[n]? = _
      rw [List.getElem?_append_right (by rw [m.len]; omega)]
      have q' : n - μ.sl.length = 0 := by rw [m.len]; omega
      rw [q']
      rfl
/-- the n-th object is written -/
theorem Grow.put {n : Nat} {a : Addr} {xs ys : List V} (m : Sim K μ S H) (h : μ.sl[n]? = some (some a)) (ha : H a = some (.lst xs)) : Grow μ H μ (upd H a (.lst ys)) :=
  ⟨fun b zs hb => by
    have nb : b ≠ a := fun e => by
      subst e
      rcases hb with hb | ⟨ob, hb⟩ <;> rw [ha] at hb <;> cases hb
    rcases hb with hb | ⟨ob, hb⟩
    · exact .inl (by rw [upd_ne nb]; exact hb)
    · exact .inr ⟨ob, by rw [upd_ne nb]; exact hb⟩,
   fun b zs hb hn => by
    have nb : b ≠ a := fun e => by
      subst e
      exact hn (.inl (List.mem_of_getElem? h))
    rcases hb with hb | ⟨ob, hb⟩
    · exact ⟨.inl (by rw [upd_ne nb]; exact hb), hn⟩
    · exact ⟨.inr ⟨ob, by rw [upd_ne nb]; exact hb⟩, hn⟩, fun _ _ h => h,
   fun b hb => ⟨hb, fun o z => by rw [upd_ne (fun e => (m.trk n a h).2 (by rw [← e]; exact hb))]; exact z⟩⟩
theorem Sim.put {n : Nat} {a : Addr} {xs ys : List V} {es : List D} (m : Sim K μ S H) (h : μ.sl[n]? = some (some a)) (ha : H a = some (.lst xs)) (r : RepAll K μ H es ys) : Sim K μ (S.set n (.lst es)) (upd H a (.lst ys)) := by
  refine ⟨by simp [m.len], m.inj, fun i b hb => ?_, fun b hb => ?_, fun i fs hi => ?_⟩
  · obtain ⟨⟨o, ho⟩, hr⟩ := m.trk i b hb
    by_cases e : b = a
    · subst e
      exact ⟨⟨_, upd_same⟩, hr⟩
    · exact ⟨⟨o, by rw [upd_ne e]; exact ho⟩, hr⟩
  · obtain ⟨o, ho⟩ := m.trs b hb
    exact ⟨o, by rw [upd_ne (fun e => (m.trk n a h).2 (by rw [← e]; exact hb))]; exact ho⟩
  · by_cases e : n = i
    · subst e
      have hn : n < S.length := by rw [← m.len]; exact (List.getElem?_eq_some_iff.mp h).1
      rw [List.getElem?_set_self hn] at hi
      cases hi
      exact ⟨a, ys, h, upd_same, r.grow (.put m h ha)⟩
    · rw [List.getElem?_set_ne e] at hi
      obtain ⟨b, zs, h1, h2, h3⟩ := m.ob i fs hi
      refine ⟨b, zs, h1, ?_, h3.grow (.put m h ha)⟩
      rw [upd_ne (fun z => e (m.inj n i a h (by rw [← z]; exact h1)))]
      exact h2
theorem Sim.at (m : Sim K μ S H) {n : Nat} {ds : List D} {v : V} (h : S[n]? = some (.lst ds)) (r : Rep K μ H (.ref n) v) : ∃ a xs, v = .ref a ∧ μ.sl[n]? = some (some a) ∧ H a = some (.lst xs) ∧ RepAll K μ H ds xs := by
  cases r with
  | ref e =>
    obtain ⟨a, xs, h1, h2, h3⟩ := m.ob n ds h
    rw [e] at h1
    cases h1
    exact ⟨_, xs, rfl, e, h2, h3⟩
end
end DL

set_option maxHeartbeats 4000000
namespace DL
open PySem PySem.Spec PyProof.Rows L2

/-! ### readings by content -/
abbrev WE := Env → Store → (D → Store → Prop) → Prop
abbrev WT := Env → Store → (Bool → Store → Prop) → Prop
abbrev WA := Env → Store → (List D → Store → Prop) → Prop
structure EndsD where
  nx : Env → Store → Prop
  rt : D → Store → Prop
  bk : Env → Store → Prop := fun _ _ => False
  ct : Env → Store → Prop := fun _ _ => False
abbrev WS := EndsD → Env → Store → Prop

def Post (K : PySem.W.Frag) (μ : Mu) (H : Hp) (Q0 : D → Store → Prop) (Q : VK) : Prop := ∀ d S', Q0 d S' → ∀ μ' v H', Grow μ H μ' H' → Sim K μ' S' H' → Rep K μ' H' d v → Q v H'
def PostT (K : PySem.W.Frag) (μ : Mu) (H : Hp) (Q0 : Bool → Store → Prop) (Q : Bool → Hp → Prop) : Prop := ∀ b S', Q0 b S' → ∀ μ' H', Grow μ H μ' H' → Sim K μ' S' H' → Q b H'
def PostA (K : PySem.W.Frag) (μ : Mu) (H : Hp) (Q0 : List D → Store → Prop) (Q : List V → Hp → Prop) : Prop := ∀ ds S', Q0 ds S' → ∀ μ' vs H', Grow μ H μ' H' → Sim K μ' S' H' → RepAll K μ' H' ds vs → Q vs H'
def LE (K : PySem.W.Frag) (w : WE) : TE := fun σ H Q => ∃ μ S ρ Q0, Sim K μ S H ∧ EnvR K μ H ρ σ ∧ w ρ S Q0 ∧ Post K μ H Q0 Q
def LT (K : PySem.W.Frag) (w : WT) : TT := fun σ H Q => ∃ μ S ρ Q0, Sim K μ S H ∧ EnvR K μ H ρ σ ∧ w ρ S Q0 ∧ PostT K μ H Q0 Q
def LA (K : PySem.W.Frag) (w : WA) : TA := fun σ H Q => ∃ μ S ρ Q0, Sim K μ S H ∧ EnvR K μ H ρ σ ∧ w ρ S Q0 ∧ PostA K μ H Q0 Q
abbrev SE (X : Cx) (e : Expr) (w : WE) : Prop := PE X e (LE X.K w)
abbrev ST (X : Cx) (e : Expr) (w : WT) : Prop := PT X e (LT X.K w)
abbrev SW (X : Cx) (e : Expr) (w : WT) : Prop := PW X e (LT X.K w)
abbrev SA (X : Cx) (es : List Expr) (w : WA) : Prop := PA X es (LA X.K w)

section
variable {X : Cx} {e a b : Expr}
theorem pe_weak {t t' : TE} (h : PE X e t) (hw : ∀ σ H Q, t' σ H Q → t σ H Q) : PE X e t' := ⟨fun pins s σ H Q I q => h.run pins s σ H Q I (hw _ _ _ q)⟩
theorem pt_weak {t t' : TT} (h : PT X e t) (hw : ∀ σ H Q, t' σ H Q → t σ H Q) : PT X e t' := ⟨fun pins s σ H Q I q => h.run pins s σ H Q I (hw _ _ _ q)⟩
theorem pw_weak {t t' : TT} (h : PW X e t) (hw : ∀ σ H Q, t' σ H Q → t σ H Q) : PW X e t' := ⟨fun wh pins s σ H Q I q => h.run wh pins s σ H Q I (hw _ _ _ q)⟩
theorem pa_weak {es : List Expr} {t t' : TA} (h : PA X es t) (hw : ∀ σ H Q, t' σ H Q → t σ H Q) : PA X es t' := ⟨fun pos pins s σ H Q I q => h.run pos pins s σ H Q I (hw _ _ _ q)⟩
end

theorem Post.go {K : PySem.W.Frag} {μ μ' : Mu} {H H' : Hp} {Q0 : D → Store → Prop} {Q : VK} (h : Post K μ H Q0 Q) (g : Grow μ H μ' H') : Post K μ' H' Q0 Q :=
  fun d S' q μ2 v H2 g2 m r => h d S' q μ2 v H2 (g.trans g2) m r
theorem Post.now {K : PySem.W.Frag} {μ : Mu} {H : Hp} {S : Store} {d : D} {v : V} {Q0 : D → Store → Prop} {Q : VK} (h : Post K μ H Q0 Q) (m : Sim K μ S H) (r : Rep K μ H d v) (q : Q0 d S) : Q v H :=
  h d S q μ v H .refl m r
theorem PostT.go {K : PySem.W.Frag} {μ μ' : Mu} {H H' : Hp} {Q0 : Bool → Store → Prop} {Q : Bool → Hp → Prop} (h : PostT K μ H Q0 Q) (g : Grow μ H μ' H') : PostT K μ' H' Q0 Q :=
  fun d S' q μ2 H2 g2 m => h d S' q μ2 H2 (g.trans g2) m
theorem PostA.go {K : PySem.W.Frag} {μ μ' : Mu} {H H' : Hp} {Q0 : List D → Store → Prop} {Q : List V → Hp → Prop} (h : PostA K μ H Q0 Q) (g : Grow μ H μ' H') : PostA K μ' H' Q0 Q :=
  fun d S' q μ2 v H2 g2 m r => h d S' q μ2 v H2 (g.trans g2) m r

/-- run a part, go on behind it -/
theorem LE.run {K : PySem.W.Frag} {w : WE} {μ : Mu} {S : Store} {ρ : Env} {σ : L2.St} {H : Hp} {Q0 : D → Store → Prop} {Q : VK} (m : Sim K μ S H) (e : EnvR K μ H ρ σ) (h : w ρ S Q0)
    (k : ∀ d S' μ' v H', Q0 d S' → Grow μ H μ' H' → Sim K μ' S' H' → EnvR K μ' H' ρ σ → Rep K μ' H' d v → Q v H') : LE K w σ H Q :=
  ⟨μ, S, ρ, Q0, m, e, h, fun d S' q μ' v H' g m' r => k d S' μ' v H' q g m' (e.grow g) r⟩
theorem LT.run {K : PySem.W.Frag} {w : WT} {μ : Mu} {S : Store} {ρ : Env} {σ : L2.St} {H : Hp} {Q0 : Bool → Store → Prop} {Q : Bool → Hp → Prop} (m : Sim K μ S H) (e : EnvR K μ H ρ σ) (h : w ρ S Q0)
    (k : ∀ d S' μ' H', Q0 d S' → Grow μ H μ' H' → Sim K μ' S' H' → EnvR K μ' H' ρ σ → Q d H') : LT K w σ H Q :=
  ⟨μ, S, ρ, Q0, m, e, h, fun d S' q μ' H' g m' => k d S' μ' H' q g m' (e.grow g)⟩
theorem LA.run {K : PySem.W.Frag} {w : WA} {μ : Mu} {S : Store} {ρ : Env} {σ : L2.St} {H : Hp} {Q0 : List D → Store → Prop} {Q : List V → Hp → Prop} (m : Sim K μ S H) (e : EnvR K μ H ρ σ) (h : w ρ S Q0)
    (k : ∀ ds S' μ' vs H', Q0 ds S' → Grow μ H μ' H' → Sim K μ' S' H' → EnvR K μ' H' ρ σ → RepAll K μ' H' ds vs → Q vs H') : LA K w σ H Q :=
  ⟨μ, S, ρ, Q0, m, e, h, fun d S' q μ' v H' g m' r => k d S' μ' v H' q g m' (e.grow g) r⟩

/-! ### names, constants -/
section
variable {X : Cx} {e a b c : Expr} {wa wb wc : WE} {pos : Pos}
def wVar (i : Nat) : WE := fun ρ S Q => match ρ[i]? with | some (some d) => Q d S | _ => False
def wC (d : D) : WE := fun _ S Q => Q d S
theorem se_weak {w w' : WE} (h : SE X e w) (hw : ∀ ρ S Q, w' ρ S Q → w ρ S Q) : SE X e w' := pe_weak h fun σ H Q ⟨μ, S, ρ, Q0, m, en, q, p⟩ => ⟨μ, S, ρ, Q0, m, en, hw _ _ _ q, p⟩
theorem se_var (i : Nat) {x : Str} {pos : Pos} (hN : X.N[i]? = some x := by rfl) (hv : Vis X.env.scope x := by first | exact Or.inl rfl | exact Or.inr (Or.inl rfl) | exact Or.inr (Or.inr rfl)) (hd : (x == ("__debug__" : Str)) = false := by decide)
    (hcd : (x == ("__classdict__" : Str)) = false := by decide) : SE X (.Name x pos) (wVar i) := pe_weak (pe_var (i := i) hN hv hd hcd) fun σ H Q ⟨μ, S, ρ, Q0, m, en, q, p⟩ => by
  have q' : (match ρ[i]? with | some (some d) => Q0 d S | _ => False) := q
  split at q'
  · rename_i d hd
    obtain ⟨v, h1, h2⟩ := en.2 i d hd
    exact ⟨v, h1, p.now m h2 q'⟩
  · exact q'.elim
theorem se_c {d : D} {v : V} (h : PE X e (tC v)) (r : ∀ μ H, Rep X.K μ H d v) : SE X e (wC d) := pe_weak h fun σ H Q ⟨μ, S, ρ, Q0, m, en, q, p⟩ => p.now m (r _ _) q
theorem se_int {i j pos} : SE X (.Constant (.int i) j pos) (wC (.int i)) := se_c pe_int fun _ _ => .int i
theorem se_bl {i j pos} : SE X (.Constant (.bool i) j pos) (wC (.bl i)) := se_c pe_bl fun _ _ => .bl i
theorem se_non {j pos} : SE X (.Constant .none j pos) (wC .non) := se_c pe_non fun _ _ => .non
theorem se_str {i j pos} : SE X (.Constant (.str i) j pos) (wC (.str i)) := se_c pe_str fun _ _ => .str i
theorem se_glob {x : Str} {d : D} {v : V} {u : Value} {pos : Pos} (hg : Gl X x) (hm : X.mg x = some u) (r : RelV v u) (rp : ∀ μ H, Rep X.K μ H d v) (hd : (x == ("__debug__" : Str)) = false := by decide) : SE X (.Name x pos) (wC d) :=
  se_c (pe_glob hg hm r hd) rp

/-! ### two operands -/
abbrev RD := D → D → Store → (D → Store → Prop) → Prop
def wOp (R : RD) (wa wb : WE) : WE := fun ρ S Q => wa ρ S fun x S1 => wb ρ S1 fun y S2 => R x y S2 Q
def OpD (K : PySem.W.Frag) (r : R2) (R : RD) : Prop := ∀ (μ : Mu) (S : Store) (H : Hp) (x y : D) (vx vy : V) (Q0 : D → Store → Prop) (Q : VK), Sim K μ S H → Rep K μ H x vx → Rep K μ H y vy → R x y S Q0 → Post K μ H Q0 Q → r vx vy H Q
theorem se_bin {r : R2} {R : RD} (hc : OpD X.K r R) (ha : SE X a wa) (hb : SE X b wb) (hpe : PE X e (tOp r (LE X.K wa) (LE X.K wb))) : SE X e (wOp R wa wb) := pe_weak hpe fun σ H Q ⟨μ, S, ρ, Q0, m, en, q, p⟩ => by
  refine LE.run m en q fun x S1 μ1 vx H1 q1 g1 m1 e1 r1 => ?_
  refine LE.run m1 e1 q1 fun y S2 μ2 vy H2 q2 g2 m2 e2 r2 => ?_
  exact hc μ2 S2 H2 x y vx vy Q0 Q m2 (r1.grow g2) r2 q2 (p.go (g1.trans g2))
theorem se_op {op : Operator} {r : R2} {R : RD} (hc : OpD X.K r R) (ho : OpR X (binaryOp op) r) (ha : SE X a wa) (hb : SE X b wb) : SE X (.BinOp a op b pos) (wOp R wa wb) := se_bin hc ha hb (pe_op ho ha hb)
theorem se_cmpR {op : CmpOp} {r : R2} {R : RD} (hc : OpD X.K r R) (ho : OpR X (compareOp op) r) (ha : SE X a wa) (hb : SE X b wb) (hm : behindInMarks op b = false) : SE X (.Compare a [op] [b] pos) (wOp R wa wb) := se_bin hc ha hb (pe_cmpR ho ha hb hm)
def wTest (w : WE) : WT := fun ρ S Q => w ρ S fun d S1 => match d with | .bl k => Q k S1 | _ => False
theorem st_cmpR {op : CmpOp} {r : R2} {R : RD} (hc : OpD X.K r R) (ho : OpR X (compareOp op) r) (ha : SE X a wa) (hb : SE X b wb) (hm : behindInMarks op b = false) : ST X (.Compare a [op] [b] pos) (wTest (wOp R wa wb)) :=
  pt_weak (pt_cmpR ho ha hb hm) fun σ H Q ⟨μ, S, ρ, Q0, m, en, q, p⟩ => by
    refine LE.run m en q fun x S1 μ1 vx H1 q1 g1 m1 e1 r1 => ?_
    refine LE.run m1 e1 q1 fun y S2 μ2 vy H2 q2 g2 m2 e2 r2 => ?_
    refine hc μ2 S2 H2 x y vx vy _ _ m2 (r1.grow g2) r2 q2 fun d S3 q3 μ3 v H3 g3 m3 r3 => ?_
    cases r3 with
    | bl k => exact ⟨k, rfl, p k S3 q3 μ3 H3 ((g1.trans g2).trans g3) m3⟩
    | _ => exact q3.elim
end

/-! ### the operators by content -/
def MulOk (i j : Int) : Prop := IntMulOk i j
def DivOk (j : Int) : Prop := 0 < j ∧ j.natAbs.log2 < 9000
theorem MulOk.l {i j : Int} (h1 : -(2 ^ 64) < i) (h2 : i < 2 ^ 64) : MulOk i j := CMul.ok (.inl ⟨h1, h2⟩)
theorem MulOk.r {i j : Int} (h1 : -(2 ^ 64) < j) (h2 : j < 2 ^ 64) : MulOk i j := CMul.ok (.inr ⟨h1, h2⟩)
theorem MulOk.w {i j : Int} (h : i.natAbs.log2 + j.natAbs.log2 < 1000000) : MulOk i j := CMulW.ok h
theorem DivOk.of {j : Int} (h : 0 < j) (h2 : j < 2 ^ 200) : DivOk j := ⟨h, (wide_div (i := 0) (b := 200) h (by omega) (by decide) (by decide)).2⟩
def rAdd : RD
  | .int i, .int j, S, Q => Q (.int (i + j)) S
  | .str a, .str b, S, Q => a.length + b.length ≤ sizeLine ∧ Q (.str (a ++ b)) S
  | .tup a, .tup b, S, Q => a ≠ [] ∧ a.length + b.length ≤ sizeLine ∧ Q (.tup (a ++ b)) S
  | _, _, _, _ => False
def rSub : RD
  | .int i, .int j, S, Q => Q (.int (i - j)) S
  | _, _, _, _ => False
def rMul : RD
  | .int i, .int j, S, Q => MulOk i j ∧ Q (.int (i * j)) S
  | _, _, _, _ => False
def rDiv : RD
  | .int i, .int j, S, Q => DivOk j ∧ Q (.int (i / j)) S
  | _, _, _, _ => False
def rMod : RD
  | .int i, .int j, S, Q => 0 < j ∧ Q (.int (i % j)) S
  | _, _, _, _ => False
def rPow : RD
  | .int i, .int j, S, Q => CPow i j ∧ Q (.int (i ^ j.toNat)) S
  | _, _, _, _ => False
def rLt : RD
  | .int i, .int j, S, Q => Q (.bl (decide (i < j))) S
  | _, _, _, _ => False
def rLe : RD
  | .int i, .int j, S, Q => Q (.bl (decide (i ≤ j))) S
  | _, _, _, _ => False
def rGt : RD
  | .int i, .int j, S, Q => Q (.bl (decide (j < i))) S
  | _, _, _, _ => False
def rGe : RD
  | .int i, .int j, S, Q => Q (.bl (decide (j ≤ i))) S
  | _, _, _, _ => False

section
variable {K : PySem.W.Frag}
/-- ints alone -/
theorem opd_I {R : RD} {g : Int → Int → D} {gv : Int → Int → V} {C : Int → Int → Prop} {C' : Int → Int → Prop} (h : ∀ i j S Q, R (.int i) (.int j) S Q = (C i j ∧ Q (g i j) S)) (hr : ∀ μ H i j, Rep K μ H (g i j) (gv i j)) (hC : ∀ i j, C i j → C' i j)
    (hn : ∀ x y S Q, R x y S Q → ∃ i j, x = .int i ∧ y = .int j) : OpD K (rI C' gv) R := by
  intro μ S H x y vx vy Q0 Q m rx ry q p
  obtain ⟨i, j, rfl, rfl⟩ := hn x y S Q0 q
  rw [h] at q
  exact ⟨i, j, rx.int_inv, ry.int_inv, hC _ _ q.1, p.now m (hr _ _ _ _) q.2⟩
theorem opd_I0 {R : RD} {g : Int → Int → D} {gv : Int → Int → V} (h : ∀ i j S Q, R (.int i) (.int j) S Q = Q (g i j) S) (hr : ∀ μ H i j, Rep K μ H (g i j) (gv i j))
    (hn : ∀ x y S Q, R x y S Q → ∃ i j, x = .int i ∧ y = .int j) : OpD K (rI0 gv) R := by
  intro μ S H x y vx vy Q0 Q m rx ry q p
  obtain ⟨i, j, rfl, rfl⟩ := hn x y S Q0 q
  rw [h] at q
  exact ⟨i, j, rx.int_inv, ry.int_inv, p.now m (hr _ _ _ _) q⟩
theorem opd_sub : OpD K (rI0 fun i j => .int (i - j)) rSub := opd_I0 (fun _ _ _ _ => rfl) (fun _ _ _ _ => .int _) fun x y S Q h => by
  unfold rSub at h; split at h <;> first | exact ⟨_, _, rfl, rfl⟩ | exact h.elim
theorem opd_mul : OpD K (rI MulOk fun i j => .int (i * j)) rMul := opd_I (fun _ _ _ _ => rfl) (fun _ _ _ _ => .int _) (fun _ _ h => h) fun x y S Q h => by
  unfold rMul at h; split at h <;> first | exact ⟨_, _, rfl, rfl⟩ | exact h.elim
theorem opd_div : OpD K (rI CDivW fun i j => .int (i / j)) rDiv := opd_I (C := fun _ j => DivOk j) (fun _ _ _ _ => rfl) (fun _ _ _ _ => .int _) (fun _ _ h => h) fun x y S Q h => by
  unfold rDiv at h; split at h <;> first | exact ⟨_, _, rfl, rfl⟩ | exact h.elim
theorem opd_mod : OpD K (rI (fun _ j => 0 < j) fun i j => .int (i % j)) rMod := opd_I (C := fun _ j => 0 < j) (fun _ _ _ _ => rfl) (fun _ _ _ _ => .int _) (fun _ _ h => h) fun x y S Q h => by
  unfold rMod at h; split at h <;> first | exact ⟨_, _, rfl, rfl⟩ | exact h.elim
theorem opd_pow : OpD K (rI CPow fun i j => .int (i ^ j.toNat)) rPow := opd_I (fun _ _ _ _ => rfl) (fun _ _ _ _ => .int _) (fun _ _ h => h) fun x y S Q h => by
  unfold rPow at h; split at h <;> first | exact ⟨_, _, rfl, rfl⟩ | exact h.elim
theorem opd_lt : OpD K (rI0 fun i j => .bl (decide (i < j))) rLt := opd_I0 (fun _ _ _ _ => rfl) (fun _ _ _ _ => .bl _) fun x y S Q h => by
  unfold rLt at h; split at h <;> first | exact ⟨_, _, rfl, rfl⟩ | exact h.elim
theorem opd_le : OpD K (rI0 fun i j => .bl (decide (i ≤ j))) rLe := opd_I0 (fun _ _ _ _ => rfl) (fun _ _ _ _ => .bl _) fun x y S Q h => by
  unfold rLe at h; split at h <;> first | exact ⟨_, _, rfl, rfl⟩ | exact h.elim
theorem opd_gt : OpD K (rI0 fun i j => .bl (decide (j < i))) rGt := opd_I0 (fun _ _ _ _ => rfl) (fun _ _ _ _ => .bl _) fun x y S Q h => by
  unfold rGt at h; split at h <;> first | exact ⟨_, _, rfl, rfl⟩ | exact h.elim
theorem opd_ge : OpD K (rI0 fun i j => .bl (decide (j ≤ i))) rGe := opd_I0 (fun _ _ _ _ => rfl) (fun _ _ _ _ => .bl _) fun x y S Q h => by
  unfold rGe at h; split at h <;> first | exact ⟨_, _, rfl, rfl⟩ | exact h.elim
def rAddS : R2 := fun x y H Q => ∃ i j, x = .str i ∧ y = .str j ∧ i.length + j.length ≤ sizeLine ∧ Q (.str (i ++ j)) H
def rAddV (K : PySem.W.Frag) : R2 := fun x y H Q => rI0 (fun i j => .int (i + j)) x y H Q ∨ (rAddS x y H Q ∨ rCatT K x y H Q)
theorem op_addV {X : Cx} : OpR X (binaryOp .Add) (rAddV X.K) := op_add.or (op_add_str.or op_catT)
theorem Sim.newT {μ : Mu} {S : Store} {H : Hp} {p : Addr} {ds : List D} {xs : List V} (hp : H p = none) (r : RepAll K μ H ds xs) : Rep K μ (upd H p (.tup xs)) (.tup ds) (.ref p) :=
  .tup (.inl (.inl upd_same)) (r.grow (.new hp))
theorem Sim.newL {μ : Mu} {S : Store} {H : Hp} {p : Addr} {ds : List D} {xs : List V} (m : Sim K μ S H) (hp : H p = none) (r : RepAll K μ H ds xs) : Rep K μ (upd H p (.lst xs)) (.lst ds) (.ref p) :=
  .lst (.inl ⟨.inl upd_same, m.notin hp⟩) (r.grow (.new hp))
theorem opd_add : OpD K (rAddV K) rAdd := by
  intro μ S H x y vx vy Q0 Q m rx ry q p
  unfold rAdd at q
  split at q
  · exact .inl ⟨_, _, rx.int_inv, ry.int_inv, p.now m (.int _) q⟩
  · exact .inr (.inl ⟨_, _, rx.str_inv, ry.str_inv, q.1, p.now m (.str _) q.2⟩)
  · rename_i a b
    obtain ⟨a1, xs, rfl, h1, r1⟩ := rx.tupS
    obtain ⟨a2, ys, rfl, h2, r2⟩ := ry.tupS
    obtain ⟨q1, q2, q3⟩ := q
    refine .inr (.inr ⟨a1, a2, xs, ys, rfl, rfl, h1, h2, ?_, by rw [← r1.length, ← r2.length]; exact q2, ?_⟩)
    · intro e
      subst e
      exact q1 (List.length_eq_zero_iff.mp r1.length)
    · refine ⟨fun e => ?_, fun e t ht => ?_⟩
      · subst e
        have : b = [] := List.length_eq_zero_iff.mp r2.length
        subst this
        rw [List.append_nil] at q3
        exact p.now m rx q3
      · exact p _ _ q3 _ _ _ (.new ht) (m.new ht) (Sim.newT (S := S) ht (r1.append r2))
  · exact q.elim
end
section
variable {X : Cx} {a b : Expr} {wa wb : WE} {pos : Pos}
theorem se_add (ha : SE X a wa) (hb : SE X b wb) : SE X (.BinOp a .Add b pos) (wOp rAdd wa wb) := se_op opd_add op_addV ha hb
theorem se_sub (ha : SE X a wa) (hb : SE X b wb) : SE X (.BinOp a .Sub b pos) (wOp rSub wa wb) := se_op opd_sub op_sub ha hb
theorem op_mulOk : OpR X (binaryOp .Mult) (rI MulOk fun i j => .int (i * j)) := opI fun _ _ _ _ _ _ _ hc q => mul_int q hc
theorem se_mul (ha : SE X a wa) (hb : SE X b wb) : SE X (.BinOp a .Mult b pos) (wOp rMul wa wb) := se_op opd_mul op_mulOk ha hb
theorem se_div (ha : SE X a wa) (hb : SE X b wb) : SE X (.BinOp a .FloorDiv b pos) (wOp rDiv wa wb) := se_op opd_div op_fdivW ha hb
theorem se_mod (ha : SE X a wa) (hb : SE X b wb) : SE X (.BinOp a .Mod b pos) (wOp rMod wa wb) := se_op opd_mod op_mod ha hb
theorem se_pow (ha : SE X a wa) (hb : SE X b wb) : SE X (.BinOp a .Pow b pos) (wOp rPow wa wb) := se_op opd_pow op_pow ha hb
theorem se_lt (ha : SE X a wa) (hb : SE X b wb) : SE X (.Compare a [.Lt] [b] pos) (wOp rLt wa wb) := se_cmpR opd_lt op_lt ha hb (nomark _)
theorem se_le (ha : SE X a wa) (hb : SE X b wb) : SE X (.Compare a [.LtE] [b] pos) (wOp rLe wa wb) := se_cmpR opd_le op_le ha hb (nomark _)
theorem se_gt (ha : SE X a wa) (hb : SE X b wb) : SE X (.Compare a [.Gt] [b] pos) (wOp rGt wa wb) := se_cmpR opd_gt op_gt ha hb (nomark _)
theorem se_ge (ha : SE X a wa) (hb : SE X b wb) : SE X (.Compare a [.GtE] [b] pos) (wOp rGe wa wb) := se_cmpR opd_ge op_ge ha hb (nomark _)
theorem st_lt (ha : SE X a wa) (hb : SE X b wb) : ST X (.Compare a [.Lt] [b] pos) (wTest (wOp rLt wa wb)) := st_cmpR opd_lt op_lt ha hb (nomark _)
theorem st_le (ha : SE X a wa) (hb : SE X b wb) : ST X (.Compare a [.LtE] [b] pos) (wTest (wOp rLe wa wb)) := st_cmpR opd_le op_le ha hb (nomark _)
theorem st_gt (ha : SE X a wa) (hb : SE X b wb) : ST X (.Compare a [.Gt] [b] pos) (wTest (wOp rGt wa wb)) := st_cmpR opd_gt op_gt ha hb (nomark _)
theorem st_ge (ha : SE X a wa) (hb : SE X b wb) : ST X (.Compare a [.GtE] [b] pos) (wTest (wOp rGe wa wb)) := st_cmpR opd_ge op_ge ha hb (nomark _)
end
end DL

set_option maxHeartbeats 4000000
namespace DL
open PySem PySem.Spec PyProof.Rows L2

/-! ### equality by content -/
mutual
def D.py : D → PyData
  | .non => .none
  | .bl b => .bool b
  | .int i => .int i
  | .str s => .str s
  | .tup ds => .tuple (pyAll ds)
  | .lst ds => .list (pyAll ds)
  | .ref _ => .dict []
def pyAll : List D → List PyData
  | [] => []
  | d :: ds => D.py d :: pyAll ds
end
section
variable {K : PySem.W.Frag} {μ : Mu} {H : Hp}
mutual
theorem Rep.dp : ∀ {d : D} {v : V}, Rep K μ H d v → d.py.canLay0 = true → Dp K H v d.py
  | _, _, .non, _ => .non
  | _, _, .bl b, _ => .bl b
  | _, _, .int i, _ => .int i
  | _, _, .str x, _ => .str x
  | .tup ds, _, .tup h r, c => .tup h (RepAll.dp r (by simpa [D.py, PyData.canLay0] using c))
  | .lst ds, _, .lst h r, c => .lst (h.imp And.left id) (RepAll.dp r (by simpa [D.py, PyData.canLay0] using c))
  | .ref n, _, .ref h, c => by simp [D.py, PyData.canLay0] at c
theorem RepAll.dp : ∀ {ds : List D} {vs : List V}, RepAll K μ H ds vs → PyData.canLayAll0 (pyAll ds) = true → DpAll K H vs (pyAll ds)
  | _, _, .nil, _ => .nil
  | d :: ds, _, .cons r t, c => by
    have c' : d.py.canLay0 = true ∧ PyData.canLayAll0 (pyAll ds) = true := by simpa [pyAll, PyData.canLayAll0] using c
    exact .cons (Rep.dp r c'.1) (RepAll.dp t c'.2)
end
end
/-- comparable by content -/
def okD (d : D) : Prop := SeqAt.shaped d.py = true
def eqv (x y : D) : Bool := PyData.eqv x.py y.py
def rEq : RD
  | .int i, .int j, S, Q => Q (.bl (decide (i = j))) S
  | .bl i, .bl j, S, Q => Q (.bl (decide (i = j))) S
  | .str i, .str j, S, Q => Q (.bl (decide (i = j))) S
  | x, y, S, Q => okD x ∧ okD y ∧ Q (.bl (eqv x y)) S
def rNe : RD
  | .int i, .int j, S, Q => Q (.bl (!decide (i = j))) S
  | .bl i, .bl j, S, Q => Q (.bl (!decide (i = j))) S
  | .str i, .str j, S, Q => Q (.bl (!decide (i = j))) S
  | x, y, S, Q => okD x ∧ okD y ∧ Q (.bl (!eqv x y)) S
def rEqV (K : PySem.W.Frag) : R2 := fun x y H Q => L2.rEq x y H Q ∨ rEqD K x y H Q
def rNeV (K : PySem.W.Frag) : R2 := fun x y H Q => L2.rNe x y H Q ∨ rNeD K x y H Q
theorem shaped_lay {d : PyData} (h : SeqAt.shaped d = true) : d.canLay0 = true := SeqAt.canLay_of_shaped h
theorem dec_vint {i j : Int} : decide (V.int i = V.int j) = decide (i = j) := by simp
theorem dec_vbl {i j : Bool} : decide (V.bl i = V.bl j) = decide (i = j) := by simp
theorem dec_vstr {i j : Str} : decide (V.str i = V.str j) = decide (i = j) := by simp
section
variable {K : PySem.W.Frag}
theorem opd_eq : OpD K (rEqV K) rEq := by
  intro μ S H x y vx vy Q0 Q m rx ry q p
  unfold rEq at q
  split at q
  · rw [rx.int_inv, ry.int_inv]
    exact .inl ⟨rfl, by rw [dec_vint]; exact p.now m (.bl _) q⟩
  · rw [rx.bl_inv, ry.bl_inv]
    exact .inl ⟨rfl, by rw [dec_vbl]; exact p.now m (.bl _) q⟩
  · rw [rx.str_inv, ry.str_inv]
    exact .inl ⟨rfl, by rw [dec_vstr]; exact p.now m (.bl _) q⟩
  · obtain ⟨q1, q2, q3⟩ := q
    exact .inr ⟨_, _, rx.dp (shaped_lay q1), ry.dp (shaped_lay q2), q1, q2, p.now m (.bl _) q3⟩
theorem opd_ne : OpD K (rNeV K) rNe := by
  intro μ S H x y vx vy Q0 Q m rx ry q p
  unfold rNe at q
  split at q
  · rw [rx.int_inv, ry.int_inv]
    exact .inl ⟨rfl, by rw [dec_vint]; exact p.now m (.bl _) q⟩
  · rw [rx.bl_inv, ry.bl_inv]
    exact .inl ⟨rfl, by rw [dec_vbl]; exact p.now m (.bl _) q⟩
  · rw [rx.str_inv, ry.str_inv]
    exact .inl ⟨rfl, by rw [dec_vstr]; exact p.now m (.bl _) q⟩
  · obtain ⟨q1, q2, q3⟩ := q
    exact .inr ⟨_, _, rx.dp (shaped_lay q1), ry.dp (shaped_lay q2), q1, q2, p.now m (.bl _) q3⟩
end
/-! ### is -/
def isC : D → D → Option Bool
  | .non, .non => some true
  | _, .non => some false
  | .bl a, .bl b => some (a == b)
  | .ref _, .bl _ => some false
  | .int _, .bl _ => some false
  | .str _, .bl _ => some false
  | .non, .bl _ => some false
  | .tup _, .bl _ => some false
  | .lst _, .bl _ => some false
  | _, _ => none
def rIs : RD := fun x y S Q => match isC x y with | some b => Q (.bl b) S | none => False
def rIsNot : RD := fun x y S Q => match isC x y with | some b => Q (.bl (!b)) S | none => False
def isV : V → V → Option Bool
  | .non, .non => some true
  | _, .non => some false
  | .bl a, .bl b => some (a == b)
  | .ref _, .bl _ => some false
  | .int _, .bl _ => some false
  | .str _, .bl _ => some false
  | .non, .bl _ => some false
  | _, _ => none
def rIsV : R2 := fun x y H Q => ∃ b, isV x y = some b ∧ Q (.bl b) H
def rIsNotV : R2 := fun x y H Q => ∃ b, isV x y = some b ∧ Q (.bl (!b)) H
section
variable {X : Cx}
theorem op_isV : OpR X (compareOp .Is) rIsV := by
  intro pins s σ H x y v u Q I rx ry h
  obtain ⟨b, e, q⟩ := h
  cases y with
  | non =>
    cases ry
    refine op_isN pins s σ H x .non v Value.none Q I rx rfl ⟨rfl, ?_⟩
    cases x <;> (cases e; exact q)
  | bl k =>
    cases ry
    cases x with
    | non => cases rx; cases e; exact wpAny_is_other rfl (fun z => nomatch z) ⟨.bl false, H, I, rfl, q⟩
    | bl a =>
      cases rx; cases e
      by_cases hk : a = k
      · subst hk; exact wpAny_is_self rfl ⟨.bl true, H, I, rfl, by simpa using q⟩
      · exact wpAny_is_other rfl (fun z => hk (Value.bool.inj z)) ⟨.bl false, H, I, rfl, by rw [beq_eq_false_iff_ne.mpr hk] at q; exact q⟩
    | int i => obtain ⟨t, rfl⟩ := rx; cases e; exact wpAny_is_other rfl (fun z => nomatch z) ⟨.bl false, H, I, rfl, q⟩
    | str i => obtain ⟨t, rfl⟩ := rx; cases e; exact wpAny_is_other rfl (fun z => nomatch z) ⟨.bl false, H, I, rfl, q⟩
    | ref a => cases rx; cases e; exact wpAny_is_other rfl (fun z => nomatch z) ⟨.bl false, H, I, rfl, q⟩
    | byt _ => cases e
    | flt _ => cases e
    | ty _ => cases e
  | _ => cases x <;> cases e
theorem op_isNotV : OpR X (compareOp .IsNot) rIsNotV := by
  intro pins s σ H x y v u Q I rx ry h
  obtain ⟨b, e, q⟩ := h
  cases y with
  | non =>
    cases ry
    refine op_notN pins s σ H x .non v Value.none Q I rx rfl ⟨rfl, ?_⟩
    cases x <;> (cases e; exact q)
  | bl k =>
    cases ry
    cases x with
    | non => cases rx; cases e; exact wpAny_isNot_other rfl (fun z => nomatch z) ⟨.bl true, H, I, rfl, q⟩
    | bl a =>
      cases rx; cases e
      by_cases hk : a = k
      · subst hk; exact wpAny_isNot_self rfl ⟨.bl false, H, I, rfl, by simpa using q⟩
      · exact wpAny_isNot_other rfl (fun z => hk (Value.bool.inj z)) ⟨.bl true, H, I, rfl, by rw [beq_eq_false_iff_ne.mpr hk] at q; exact q⟩
    | int i => obtain ⟨t, rfl⟩ := rx; cases e; exact wpAny_isNot_other rfl (fun z => nomatch z) ⟨.bl true, H, I, rfl, q⟩
    | str i => obtain ⟨t, rfl⟩ := rx; cases e; exact wpAny_isNot_other rfl (fun z => nomatch z) ⟨.bl true, H, I, rfl, q⟩
    | ref a => cases rx; cases e; exact wpAny_isNot_other rfl (fun z => nomatch z) ⟨.bl true, H, I, rfl, q⟩
    | byt _ => cases e
    | flt _ => cases e
    | ty _ => cases e
  | _ => cases x <;> cases e
end
theorem is_vd {K : PySem.W.Frag} {μ : Mu} {H : Hp} {x y : D} {vx vy : V} {b : Bool} (rx : Rep K μ H x vx) (ry : Rep K μ H y vy) (h : isC x y = some b) : isV vx vy = some b := by
  cases rx <;> cases ry <;> first | exact h | cases h
theorem opd_is {K : PySem.W.Frag} : OpD K rIsV rIs := by
  intro μ S H x y vx vy Q0 Q m rx ry q p
  unfold rIs at q
  cases e : isC x y with
  | none => rw [e] at q; exact q.elim
  | some b => rw [e] at q; exact ⟨b, is_vd rx ry e, p.now m (.bl _) q⟩
theorem opd_isNot {K : PySem.W.Frag} : OpD K rIsNotV rIsNot := by
  intro μ S H x y vx vy Q0 Q m rx ry q p
  unfold rIsNot at q
  cases e : isC x y with
  | none => rw [e] at q; exact q.elim
  | some b => rw [e] at q; exact ⟨b, is_vd rx ry e, p.now m (.bl _) q⟩

section
variable {X : Cx} {e a b c : Expr} {wa wb wc : WE} {pos : Pos} {ta tb tc : WT}
theorem op_eqV (hu : X.A.units + 64 < cLine) : OpR X (compareOp .Eq) (rEqV X.K) := op_eq.or (op_eqD hu)
theorem op_neV (hu : X.A.units + 64 < cLine) : OpR X (compareOp .NotEq) (rNeV X.K) := op_ne.or (op_neD hu)
theorem se_eq (hu : X.A.units + 64 < cLine) (ha : SE X a wa) (hb : SE X b wb) : SE X (.Compare a [.Eq] [b] pos) (wOp rEq wa wb) := se_cmpR opd_eq (op_eqV hu) ha hb (nomark _)
theorem se_ne (hu : X.A.units + 64 < cLine) (ha : SE X a wa) (hb : SE X b wb) : SE X (.Compare a [.NotEq] [b] pos) (wOp rNe wa wb) := se_cmpR opd_ne (op_neV hu) ha hb (nomark _)
theorem se_is (ha : SE X a wa) (hb : SE X b wb) : SE X (.Compare a [.Is] [b] pos) (wOp rIs wa wb) := se_cmpR opd_is op_isV ha hb (nomark _)
theorem se_isNot (ha : SE X a wa) (hb : SE X b wb) : SE X (.Compare a [.IsNot] [b] pos) (wOp rIsNot wa wb) := se_cmpR opd_isNot op_isNotV ha hb (nomark _)
theorem st_eq (hu : X.A.units + 64 < cLine) (ha : SE X a wa) (hb : SE X b wb) : ST X (.Compare a [.Eq] [b] pos) (wTest (wOp rEq wa wb)) := st_cmpR opd_eq (op_eqV hu) ha hb (nomark _)
theorem st_ne (hu : X.A.units + 64 < cLine) (ha : SE X a wa) (hb : SE X b wb) : ST X (.Compare a [.NotEq] [b] pos) (wTest (wOp rNe wa wb)) := st_cmpR opd_ne (op_neV hu) ha hb (nomark _)
theorem st_is (ha : SE X a wa) (hb : SE X b wb) : ST X (.Compare a [.Is] [b] pos) (wTest (wOp rIs wa wb)) := st_cmpR opd_is op_isV ha hb (nomark _)
theorem st_isNot (ha : SE X a wa) (hb : SE X b wb) : ST X (.Compare a [.IsNot] [b] pos) (wTest (wOp rIsNot wa wb)) := st_cmpR opd_isNot op_isNotV ha hb (nomark _)

/-! ### and, or, not, if .. else, truth, minus -/
def wAnd (t u : WT) : WT := fun ρ S Q => t ρ S fun k S1 => if k = true then u ρ S1 Q else Q false S1
def wOr (t u : WT) : WT := fun ρ S Q => t ρ S fun k S1 => if k = true then Q true S1 else u ρ S1 Q
def wNot (t : WT) : WT := fun ρ S Q => t ρ S fun k S1 => Q (!k) S1
variable {rest : List Expr}
theorem sw_and1 (ha : ST X a ta) : SW X (.BoolOp .And [a] pos) ta := pw_and1 ha
theorem sw_or1 (ha : ST X a ta) : SW X (.BoolOp .Or [a] pos) ta := pw_or1 ha
theorem sw_and (ha : ST X a ta) (hb : SW X (.BoolOp .And (b :: rest) pos) tb) : SW X (.BoolOp .And (a :: b :: rest) pos) (wAnd ta tb) := pw_weak (pw_and ha hb) fun σ H Q ⟨μ, S, ρ, Q0, m, en, q, p⟩ => by
  refine LT.run m en q fun k S1 μ1 H1 q1 g1 m1 e1 => ?_
  cases k with
  | true => exact LT.run m1 e1 q1 fun k S2 μ2 H2 q2 g2 m2 e2 => p k S2 q2 μ2 H2 (g1.trans g2) m2
  | false => exact p false S1 q1 μ1 H1 g1 m1
theorem sw_or (ha : ST X a ta) (hb : SW X (.BoolOp .Or (b :: rest) pos) tb) : SW X (.BoolOp .Or (a :: b :: rest) pos) (wOr ta tb) := pw_weak (pw_or ha hb) fun σ H Q ⟨μ, S, ρ, Q0, m, en, q, p⟩ => by
  refine LT.run m en q fun k S1 μ1 H1 q1 g1 m1 e1 => ?_
  cases k with
  | true => exact p true S1 q1 μ1 H1 g1 m1
  | false => exact LT.run m1 e1 q1 fun k S2 μ2 H2 q2 g2 m2 e2 => p k S2 q2 μ2 H2 (g1.trans g2) m2
theorem st_bool (h : SW X e ta) : ST X e ta := h.pt
theorem st_not (ha : ST X a ta) : ST X (.UnaryOp .Not a pos) (wNot ta) := pt_weak (pt_not ha) fun σ H Q ⟨μ, S, ρ, Q0, m, en, q, p⟩ =>
  LT.run m en q fun k S1 μ1 H1 q1 g1 m1 e1 => p (!k) S1 q1 μ1 H1 g1 m1
def wIfE (t : WT) (wa wb : WE) : WE := fun ρ S Q => t ρ S fun k S1 => if k = true then wa ρ S1 Q else wb ρ S1 Q
theorem se_if (hc : ST X c tc) (ha : SE X a wa) (hb : SE X b wb) : SE X (.IfExp c a b pos) (wIfE tc wa wb) := pe_weak (pe_ifExp hc ha hb) fun σ H Q ⟨μ, S, ρ, Q0, m, en, q, p⟩ => by
  refine LT.run m en q fun k S1 μ1 H1 q1 g1 m1 e1 => ?_
  cases k with
  | true => exact LE.run m1 e1 q1 fun d S2 μ2 v H2 q2 g2 m2 e2 r2 => p d S2 q2 μ2 v H2 (g1.trans g2) m2 r2
  | false => exact LE.run m1 e1 q1 fun d S2 μ2 v H2 q2 g2 m2 e2 r2 => p d S2 q2 μ2 v H2 (g1.trans g2) m2 r2
/-- truth -/
def rTru : D → Store → (Bool → Store → Prop) → Prop
  | .non, S, Q => Q false S
  | .bl b, S, Q => Q b S
  | .int i, S, Q => Q (i != 0) S
  | .str s, S, Q => s.length ≤ sizeLine ∧ Q (s.length != 0) S
  | .tup ds, S, Q => Q (!ds.isEmpty) S
  | .lst ds, S, Q => Q (!ds.isEmpty) S
  | .ref n, S, Q => match S[n]? with | some (.lst ds) => Q (!ds.isEmpty) S | _ => False
def wTru (w : WE) : WT := fun ρ S Q => w ρ S fun d S1 => rTru d S1 Q
theorem empty_rep {K : PySem.W.Frag} {μ : Mu} {H : Hp} {ds : List D} {vs : List V} (r : RepAll K μ H ds vs) : ds.isEmpty = vs.isEmpty := by cases r <;> rfl
theorem tru_rep {K : PySem.W.Frag} {μ : Mu} {S : Store} {H : Hp} {d : D} {v : V} {Q : Bool → Store → Prop} (m : Sim K μ S H) (r : Rep K μ H d v) (h : rTru d S Q) : ∃ k, TruV K v H k ∧ Q k S := by
  cases r with
  | non => exact ⟨false, rfl, h⟩
  | bl b => exact ⟨b, rfl, h⟩
  | int i => exact ⟨_, rfl, h⟩
  | str x =>
    refine ⟨_, ⟨h.1, rfl⟩, ?_⟩
    have e : (((x.length : Nat) : Int) != 0) = (x.length != 0) := by
      by_cases hx : x.length = 0
      · simp [hx]
      · have hx' : ((x.length : Nat) : Int) ≠ 0 := by omega
        rw [bne, bne, beq_eq_false_iff_ne.mpr hx, beq_eq_false_iff_ne.mpr hx']
    rw [e]
    exact h.2
  | tup hh r => exact ⟨_, .inr (.inl ⟨_, hh, rfl⟩), by rw [← empty_rep r]; exact h⟩
  | lst hh r => exact ⟨_, .inl ⟨_, hh.imp And.left id, rfl⟩, by rw [← empty_rep r]; exact h⟩
  | ref hn =>
    rename_i n a
    have h' : (match S[n]? with | some (.lst ds) => Q (!ds.isEmpty) S | _ => False) := h
    split at h'
    · rename_i ds hd
      obtain ⟨a', xs, e, h1, h2, h3⟩ := m.at hd (.ref hn)
      cases e
      exact ⟨_, .inl ⟨xs, SqL.of h2, rfl⟩, by rw [← empty_rep h3]; exact h'⟩
    · exact h'.elim
theorem st_tru (ha : SE X a wa) (he : ∀ whole, isTrue a X.env whole = (do let v ← whole; standAt a.pos; holding [v] (truthy v)) := by intro _; rfl) : ST X a (wTru wa) := pt_weak (pt_truth ha he) fun σ H Q ⟨μ, S, ρ, Q0, m, en, q, p⟩ => by
  refine LE.run m en q fun d S1 μ1 v H1 q1 g1 m1 e1 r1 => ?_
  obtain ⟨k, h1, h2⟩ := tru_rep m1 r1 q1
  exact ⟨k, h1, p k S1 h2 μ1 H1 g1 m1⟩
/-- and, or, not as values, of bools -/
def wBl (w : WE) (k : Bool → WE) : WE := fun ρ S Q => w ρ S fun d S1 => match d with | .bl b => k b ρ S1 Q | _ => False
def wAndV (wa wb : WE) : WE := wBl wa fun k ρ S Q => if k = true then wb ρ S Q else Q (.bl false) S
def wOrV (wa wb : WE) : WE := wBl wa fun k ρ S Q => if k = true then Q (.bl true) S else wb ρ S Q
def wNotV (wa : WE) : WE := wBl wa fun k ρ S Q => Q (.bl (!k)) S
theorem se_one {op} (h : SE X a wa) : SE X (.BoolOp op [a] pos) wa := pe_one h
theorem se_and (ha : SE X a wa) (hb : SE X (.BoolOp .And (b :: rest) pos) wb) : SE X (.BoolOp .And (a :: b :: rest) pos) (wAndV wa wb) := pe_weak (pe_and ha hb) fun σ H Q ⟨μ, S, ρ, Q0, m, en, q, p⟩ => by
  refine LE.run m en q fun d S1 μ1 v H1 q1 g1 m1 e1 r1 => ?_
  cases r1 with
  | bl k =>
    refine ⟨k, rfl, ?_⟩
    cases k with
    | true => exact LE.run m1 e1 q1 fun d S2 μ2 v H2 q2 g2 m2 e2 r2 => p d S2 q2 μ2 v H2 (g1.trans g2) m2 r2
    | false => exact p _ S1 q1 μ1 _ H1 g1 m1 (.bl false)
  | _ => exact q1.elim
theorem se_or (ha : SE X a wa) (hb : SE X (.BoolOp .Or (b :: rest) pos) wb) : SE X (.BoolOp .Or (a :: b :: rest) pos) (wOrV wa wb) := pe_weak (pe_or ha hb) fun σ H Q ⟨μ, S, ρ, Q0, m, en, q, p⟩ => by
  refine LE.run m en q fun d S1 μ1 v H1 q1 g1 m1 e1 r1 => ?_
  cases r1 with
  | bl k =>
    refine ⟨k, rfl, ?_⟩
    cases k with
    | false => exact LE.run m1 e1 q1 fun d S2 μ2 v H2 q2 g2 m2 e2 r2 => p d S2 q2 μ2 v H2 (g1.trans g2) m2 r2
    | true => exact p _ S1 q1 μ1 _ H1 g1 m1 (.bl true)
  | _ => exact q1.elim
theorem se_not (ha : SE X a wa) : SE X (.UnaryOp .Not a pos) (wNotV wa) := pe_weak (pe_not ha) fun σ H Q ⟨μ, S, ρ, Q0, m, en, q, p⟩ => by
  refine LE.run m en q fun d S1 μ1 v H1 q1 g1 m1 e1 r1 => ?_
  cases r1 with
  | bl k => exact ⟨k, rfl, p _ S1 q1 μ1 _ H1 g1 m1 (.bl _)⟩
  | _ => exact q1.elim
def wNeg (w : WE) : WE := fun ρ S Q => w ρ S fun d S1 => match d with | .int i => Q (.int (-i)) S1 | _ => False
theorem se_neg (ha : SE X a wa) : SE X (.UnaryOp .USub a pos) (wNeg wa) := pe_weak (pe_un un_neg ha) fun σ H Q ⟨μ, S, ρ, Q0, m, en, q, p⟩ => by
  refine LE.run m en q fun d S1 μ1 v H1 q1 g1 m1 e1 r1 => ?_
  cases r1 with
  | int i => exact ⟨i, rfl, p _ S1 q1 μ1 _ H1 g1 m1 (.int _)⟩
  | _ => exact q1.elim

/-! ### items -/
def atD (ds : List D) : Int → Option D
  | .ofNat n => ds[n]?
  | .negSucc n => if n < ds.length then ds[ds.length - 1 - n]? else none
theorem atD_nat {ds : List D} {n : Nat} : atD ds (n : Int) = ds[n]? := rfl
theorem atD_lit {ds : List D} {n : Nat} [OfNat Nat n] : atD ds (OfNat.ofNat (OfNat.ofNat n : Nat) : Int) = ds[(OfNat.ofNat n : Nat)]? := rfl
theorem at_rep {K : PySem.W.Frag} {μ : Mu} {H : Hp} {ds : List D} {vs : List V} {i : Int} {d : D} (r : RepAll K μ H ds vs) (h : atD ds i = some d) : ∃ v, atI vs i = some v ∧ Rep K μ H d v := by
  cases i with
  | ofNat n =>
    obtain ⟨v, h1, h2⟩ := r.get (show ds[n]? = some d from h)
    exact ⟨v, atI_nat h1, h2⟩
  | negSucc n =>
    have h' : (if n < ds.length then ds[ds.length - 1 - n]? else none) = some d := h
    split at h'
    · rename_i hn
      obtain ⟨v, h1, h2⟩ := r.get h'
      refine ⟨v, ?_, h2⟩
      rw [r.length] at h1 hn
      unfold atI ixN
      rw [if_neg (by omega), if_pos (by omega)]
      show vs[(Int.negSucc n + (vs.length : Int)).toNat]? = some v
      rw [show (Int.negSucc n + (vs.length : Int)).toNat = vs.length - 1 - n by omega]
      exact h1
    · cases h'
def rIx : RD
  | .tup ds, .int i, S, Q => match atD ds i with | some d => Q d S | none => False
  | .lst ds, .int i, S, Q => match atD ds i with | some d => Q d S | none => False
  | .ref n, .int i, S, Q => match S[n]? with | some (.lst ds) => (match atD ds i with | some d => Q d S | none => False) | _ => False
  | _, _, _, _ => False
def rIxV (K : PySem.W.Frag) : R2 := fun x y H Q => rIxL K x y H Q ∨ rIxT K x y H Q
theorem ix_V : IxR X (rIxV X.K) := ix_list.or ix_tup
theorem opd_ix {K : PySem.W.Frag} : OpD K (rIxV K) rIx := by
  intro μ S H x y vx vy Q0 Q m rx ry q p
  unfold rIx at q
  split at q
  · rename_i ds i
    obtain ⟨a, xs, rfl, h1, r1⟩ := rx.tupS
    split at q
    · rename_i d hd
      obtain ⟨v, h2, r2⟩ := at_rep r1 hd
      exact .inr ⟨a, xs, i, v, rfl, ry.int_inv, h1, h2, p.now m r2 q⟩
    · exact q.elim
  · rename_i ds i
    obtain ⟨a, xs, rfl, h1, r1⟩ := rx.lstS
    split at q
    · rename_i d hd
      obtain ⟨v, h2, r2⟩ := at_rep r1 hd
      exact .inl ⟨a, xs, i, v, rfl, ry.int_inv, h1, h2, p.now m r2 q⟩
    · exact q.elim
  · rename_i n i
    split at q
    · rename_i ds hn
      obtain ⟨a, xs, rfl, hm, h1, r1⟩ := m.at hn rx
      split at q
      · rename_i d hd
        obtain ⟨v, h2, r2⟩ := at_rep r1 hd
        exact .inl ⟨a, xs, i, v, rfl, ry.int_inv, SqL.of h1, h2, p.now m r2 q⟩
      · exact q.elim
    · exact q.elim
  · exact q.elim
theorem se_ix (ha : SE X a wa) (hb : SE X b wb) (hs : PlainIx b := by exact fun _ _ => rfl) : SE X (.Subscript a b pos) (wOp rIx wa wb) := se_bin opd_ix ha hb (pe_ix ix_V ha hb hs)

/-! ### displays -/
variable {es : List Expr} {wr : WA}
end
section
variable {X : Cx} {e a b c : Expr} {wa wb wc : WE} {pos : Pos} {es : List Expr} {wr : WA}
def wNil : WA := fun _ S Q => Q [] S
def wCons (w : WE) (wr : WA) : WA := fun ρ S Q => w ρ S fun d S1 => wr ρ S1 fun ds S2 => Q (d :: ds) S2
theorem sa_nil : SA X [] wNil := pa_weak pa_nil fun σ H Q ⟨μ, S, ρ, Q0, m, en, q, p⟩ => p [] S q μ [] H Grow.refl m .nil
theorem sa_cons (ha : SE X a wa) (hr : SA X es wr) (hs : starEach (a :: es) X.env = (false, eval a X.env) :: starEach es X.env := by rfl) : SA X (a :: es) (wCons wa wr) := pa_weak (pa_cons ha hr hs) fun σ H Q ⟨μ, S, ρ, Q0, m, en, q, p⟩ => by
  refine LE.run m en q fun d S1 μ1 v H1 q1 g1 m1 e1 r1 => ?_
  exact LA.run m1 e1 q1 fun ds S2 μ2 vs H2 q2 g2 m2 e2 r2 => p _ S2 q2 μ2 _ H2 (g1.trans g2) m2 (.cons (r1.grow g2) r2)
end
section
variable {X : Cx} {e a b c : Expr} {wa wb wc : WE} {pos : Pos} {es : List Expr} {wr : WA}
def wTup (w : WA) : WE := fun ρ S Q => w ρ S fun ds S1 => ds.length ≤ sizeLine ∧ Q (.tup ds) S1
/-- a list by content: never changed -/
def wLst (w : WA) : WE := fun ρ S Q => w ρ S fun ds S1 => ds.length ≤ sizeLine ∧ Q (.lst ds) S1
/-- a list that may change: an object of the store -/
def wNew (w : WA) : WE := fun ρ S Q => w ρ S fun ds S1 => ds.length ≤ sizeLine ∧ Q (.ref S1.length) (S1 ++ [.lst ds])
theorem se_tup {k} (h : SA X es wr) : SE X (.Tuple es k pos) (wTup wr) := pe_weak (pe_tup h) fun σ H Q ⟨μ, S, ρ, Q0, m, en, q, p⟩ => by
  refine LA.run m en q fun ds S1 μ1 vs H1 q1 g1 m1 e1 r1 => ⟨by rw [← r1.length]; exact q1.1, fun t ht => ?_⟩
  exact p _ S1 q1.2 μ1 _ _ (g1.trans (.new ht)) (m1.new ht) (Sim.newT (S := S) ht r1)
theorem se_lst (h : SA X es wr) : SE X (.List es pos) (wLst wr) := pe_weak (pe_lst h) fun σ H Q ⟨μ, S, ρ, Q0, m, en, q, p⟩ => by
  refine LA.run m en q fun ds S1 μ1 vs H1 q1 g1 m1 e1 r1 => ⟨by rw [← r1.length]; exact q1.1, fun t ht => ?_⟩
  exact p _ S1 q1.2 μ1 _ _ (g1.trans (.new ht)) (m1.new ht) (Sim.newL m1 ht r1)
theorem Sim.newR {K : PySem.W.Frag} {μ : Mu} {S : Store} {H : Hp} {p : Addr} (m : Sim K μ S H) : Rep K (μ.add p) H (.ref S.length) (.ref p) :=
  .ref (by rw [← m.len]; simp [Mu.add])
theorem Rep.refH {K : PySem.W.Frag} {μ : Mu} {H H' : Hp} {n : Nat} {v : V} (r : Rep K μ H (.ref n) v) : Rep K μ H' (.ref n) v := by
  cases r with
  | ref h => exact .ref h
theorem se_new (h : SA X es wr) : SE X (.List es pos) (wNew wr) := pe_weak (pe_lst h) fun σ H Q ⟨μ, S, ρ, Q0, m, en, q, p⟩ => by
  refine LA.run m en q fun ds S1 μ1 vs H1 q1 g1 m1 e1 r1 => ⟨by rw [← r1.length]; exact q1.1, fun t ht => ?_⟩
  exact p _ _ q1.2 _ _ _ (g1.trans (.alloc ht)) (m1.alloc ht r1) m1.newR.refH
end
end DL

set_option maxHeartbeats 4000000
namespace DL
open PySem PySem.Spec PyProof.Rows L2

/-! ### built-in calls by content -/
abbrev RC := List D → Store → (D → Store → Prop) → Prop
def CallD (K : PySem.W.Frag) (r : List V → Hp → VK → Prop) (R : RC) : Prop := ∀ (μ : Mu) (S : Store) (H : Hp) (ds : List D) (vs : List V) (Q0 : D → Store → Prop) (Q : VK), Sim K μ S H → RepAll K μ H ds vs → R ds S Q0 → Post K μ H Q0 Q → r vs H Q
def wCall (R : RC) (wr : WA) : WE := fun ρ S Q => wr ρ S fun ds S1 => R ds S1 Q
section
variable {X : Cx} {e a b c : Expr} {wa wb wc : WE} {pos p : Pos} {es : List Expr} {wr : WA} {x : Str} {id T : String} {r : List V → Hp → VK → Prop} {R : RC}
theorem se_callx (hd : CallD X.K r R) (ha : SA X es wr) (hp : PE X e (tCB r (LA X.K wr))) : SE X e (wCall R wr) := pe_weak hp fun σ H Q ⟨μ, S, ρ, Q0, m, en, q, p⟩ =>
  LA.run m en q fun ds S1 μ1 vs H1 q1 g1 m1 e1 r1 => hd μ1 S1 H1 ds vs Q0 Q m1 r1 q1 (p.go g1)
theorem se_callB (hd : CallD X.K r R) (hc : CallR X (.builtin id) r) (hg : Gl X x) (hm : X.mg x = none) (hv : bootBuiltins x = some (.builtin id)) (ha : SA X (a :: es) wr) (hn : x ≠ "__name__" := by decide) (hdb : (x == ("__debug__" : Str)) = false := by decide)
    (he : starEach (a :: es) X.env = (false, eval a X.env) :: starEach es X.env := by rfl) (hpl : (backTo pos (starEach es X.env)).any (·.1) = false := by rfl) : SE X (.Call (.Name x p) (a :: es) [] pos) (wCall R wr) :=
  se_callx hd ha (pe_callB hc hg hm hv ha hn hdb he hpl)
theorem se_callTy (hd : CallD X.K r R) (hc : CallR X (.type T) r) (hg : Gl X x) (hm : X.mg x = none) (hv : bootBuiltins x = some (.type T)) (ha : SA X (a :: es) wr) (hn : x ≠ "__name__" := by decide) (hdb : (x == ("__debug__" : Str)) = false := by decide)
    (he : starEach (a :: es) X.env = (false, eval a X.env) :: starEach es X.env := by rfl) (hpl : (backTo pos (starEach es X.env)).any (·.1) = false := by rfl) : SE X (.Call (.Name x p) (a :: es) [] pos) (wCall R wr) :=
  se_callx hd ha (pe_callTy hc hg hm hv ha hn hdb he hpl)
end
/-- len -/
def rLen : RC
  | [.tup ds], S, Q => Q (.int ds.length) S
  | [.lst ds], S, Q => Q (.int ds.length) S
  | [.str s], S, Q => s.length ≤ sizeLine ∧ Q (.int s.length) S
  | [.ref n], S, Q => match S[n]? with | some (.lst ds) => Q (.int ds.length) S | _ => False
  | _, _, _ => False
def rInt : RC
  | [.int i], S, Q => Q (.int i) S
  | [.bl b], S, Q => Q (.int (if b = true then 1 else 0)) S
  | _, _, _ => False
def rAbs : RC
  | [.int i], S, Q => Q (.int (if i < 0 then -i else i)) S
  | _, _, _ => False
def rGcdD : RC
  | [.int i, .int j], S, Q => Q (.int ((Nat.gcd i.natAbs j.natAbs : Nat) : Int)) S
  | _, _, _ => False
def rMax2 : RC
  | [.int i, .int j], S, Q => Q (.int (if j > i then j else i)) S
  | _, _, _ => False
def rMin2 : RC
  | [.int i, .int j], S, Q => Q (.int (if j < i then j else i)) S
  | _, _, _ => False
/-- tuple(x): of a list, a tuple -/
def rTuple : RC
  | [.tup ds], S, Q => Q (.tup ds) S
  | [.lst ds], S, Q => Q (.tup ds) S
  | [.ref n], S, Q => match S[n]? with | some (.lst ds) => Q (.tup ds) S | _ => False
  | _, _, _ => False
/-- list(x), by content; as an object of the store -/
def rList : RC
  | [.tup ds], S, Q => Q (.lst ds) S
  | [.lst ds], S, Q => Q (.lst ds) S
  | [.ref n], S, Q => match S[n]? with | some (.lst ds) => Q (.lst ds) S | _ => False
  | _, _, _ => False
def rListN : RC
  | [.tup ds], S, Q => Q (.ref S.length) (S ++ [.lst ds])
  | [.lst ds], S, Q => Q (.ref S.length) (S ++ [.lst ds])
  | [.ref n], S, Q => match S[n]? with | some (.lst ds) => Q (.ref S.length) (S ++ [.lst ds]) | _ => False
  | _, _, _ => False
section
variable {K : PySem.W.Frag}
theorem RepAll.one_inv {μ : Mu} {H : Hp} {d : D} {vs : List V} (r : RepAll K μ H [d] vs) : ∃ v, vs = [v] ∧ Rep K μ H d v := by
  cases r with
  | cons r t => cases t; exact ⟨_, rfl, r⟩
theorem RepAll.two_inv {μ : Mu} {H : Hp} {d e : D} {vs : List V} (r : RepAll K μ H [d, e] vs) : ∃ v u, vs = [v, u] ∧ Rep K μ H d v ∧ Rep K μ H e u := by
  cases r with
  | cons r t =>
    obtain ⟨u, rfl, r2⟩ := t.one_inv
    exact ⟨_, _, rfl, r, r2⟩
/-- what holds a row of items: a tuple, a list, an object of the store -/
theorem seq_rep {μ : Mu} {S : Store} {H : Hp} {ds : List D} {v : V} {d : D} (m : Sim K μ S H) (r : Rep K μ H d v) (h : d = .tup ds ∨ d = .lst ds ∨ ∃ n, d = .ref n ∧ S[n]? = some (.lst ds)) :
    ∃ a xs, v = .ref a ∧ (SqL K H a xs ∨ SqT K H a xs) ∧ RepAll K μ H ds xs := by
  rcases h with rfl | rfl | ⟨n, rfl, hn⟩
  · obtain ⟨a, xs, rfl, h1, r1⟩ := r.tupS
    exact ⟨a, xs, rfl, .inr h1, r1⟩
  · obtain ⟨a, xs, rfl, h1, r1⟩ := r.lstS
    exact ⟨a, xs, rfl, .inl h1, r1⟩
  · obtain ⟨a, xs, rfl, hm, h1, r1⟩ := m.at hn r
    exact ⟨a, xs, rfl, .inl (SqL.of h1), r1⟩
def rLenV (K : PySem.W.Frag) : List V → Hp → VK → Prop := fun xs H Q => (∃ p ys, xs = [.ref p] ∧ (SqL K H p ys ∨ SqT K H p ys) ∧ Q (.int ys.length) H) ∨ (∃ z, xs = [.str z] ∧ z.length ≤ sizeLine ∧ Q (.int z.length) H)
theorem cr_lenV {X : Cx} : CallR X (.builtin "len") (rLenV X.K) := call_len_seq.or call_len_str
theorem cd_len : CallD K (rLenV K) rLen := by
  intro μ S H ds vs Q0 Q m r q p
  unfold rLen at q
  split at q
  · rename_i ds
    obtain ⟨v, e1, r'⟩ := r.one_inv
    subst e1
    obtain ⟨a, xs, rfl, h1, r1⟩ := r'.tupS
    exact .inl ⟨a, xs, rfl, .inr h1, by rw [← r1.length]; exact p.now m (.int _) q⟩
  · rename_i ds
    obtain ⟨v, e1, r'⟩ := r.one_inv
    subst e1
    obtain ⟨a, xs, rfl, h1, r1⟩ := r'.lstS
    exact .inl ⟨a, xs, rfl, .inl h1, by rw [← r1.length]; exact p.now m (.int _) q⟩
  · obtain ⟨v, e1, r'⟩ := r.one_inv
    subst e1
    rw [r'.str_inv]
    exact .inr ⟨_, rfl, q.1, p.now m (.int _) q.2⟩
  · obtain ⟨v, e1, r'⟩ := r.one_inv
    subst e1
    split at q
    · rename_i ds hn
      obtain ⟨a, xs, rfl, hm, h1, r1⟩ := m.at hn r'
      exact .inl ⟨a, xs, rfl, .inl (SqL.of h1), by rw [← r1.length]; exact p.now m (.int _) q⟩
    · exact q.elim
  · exact q.elim
theorem cd_int : CallD K (fun xs H Q => (∃ i, xs = [.int i] ∧ Q (.int i) H) ∨ ∃ k, xs = [.bl k] ∧ Q (.int (if k then 1 else 0)) H) rInt := by
  intro μ S H ds vs Q0 Q m r q p
  unfold rInt at q
  split at q
  · obtain ⟨v, e1, r'⟩ := r.one_inv
    subst e1
    rw [r'.int_inv]
    exact .inl ⟨_, rfl, p.now m (.int _) q⟩
  · obtain ⟨v, e1, r'⟩ := r.one_inv
    subst e1
    rw [r'.bl_inv]
    exact .inr ⟨_, rfl, p.now m (.int _) q⟩
  · exact q.elim
theorem cd_abs : CallD K (fun xs H Q => ∃ i, xs = [.int i] ∧ Q (.int (if i < 0 then -i else i)) H) rAbs := by
  intro μ S H ds vs Q0 Q m r q p
  unfold rAbs at q
  split at q
  · obtain ⟨v, e1, r'⟩ := r.one_inv
    subst e1
    rw [r'.int_inv]
    exact ⟨_, rfl, p.now m (.int _) q⟩
  · exact q.elim
theorem cd_gcd : CallD K rGcd rGcdD := by
  intro μ S H ds vs Q0 Q m r q p
  unfold rGcdD at q
  split at q
  · obtain ⟨v, u, e1, r', r2⟩ := r.two_inv
    subst e1
    rw [r'.int_inv, r2.int_inv]
    exact ⟨_, _, rfl, p.now m (.int _) q⟩
  · exact q.elim
theorem cd_max2 : CallD K (fun xs H Q => ∃ i j, xs = [.int i, .int j] ∧ Q (.int (if j > i then j else i)) H) rMax2 := by
  intro μ S H ds vs Q0 Q m r q p
  unfold rMax2 at q
  split at q
  · obtain ⟨v, u, e1, r', r2⟩ := r.two_inv
    subst e1
    rw [r'.int_inv, r2.int_inv]
    exact ⟨_, _, rfl, p.now m (.int _) q⟩
  · exact q.elim
theorem cd_min2 : CallD K (fun xs H Q => ∃ i j, xs = [.int i, .int j] ∧ Q (.int (if j < i then j else i)) H) rMin2 := by
  intro μ S H ds vs Q0 Q m r q p
  unfold rMin2 at q
  split at q
  · obtain ⟨v, u, e1, r', r2⟩ := r.two_inv
    subst e1
    rw [r'.int_inv, r2.int_inv]
    exact ⟨_, _, rfl, p.now m (.int _) q⟩
  · exact q.elim
def rTupleV (K : PySem.W.Frag) : List V → Hp → VK → Prop := fun xs H Q => ∃ p ys, xs = [.ref p] ∧ ((SqL K H p ys ∧ ∀ l, H l = none → Q (.ref l) (upd H l (.tup ys))) ∨ (SqT K H p ys ∧ Q (.ref p) H))
theorem cd_tuple : CallD K (rTupleV K) rTuple := by
  intro μ S H ds vs Q0 Q m r q p
  unfold rTuple at q
  split at q
  · obtain ⟨v, e1, r'⟩ := r.one_inv
    subst e1
    obtain ⟨a, xs, rfl, h1, r1⟩ := r'.tupS
    exact ⟨a, xs, rfl, .inr ⟨h1, p.now m r' q⟩⟩
  · obtain ⟨v, e1, r'⟩ := r.one_inv
    subst e1
    obtain ⟨a, xs, rfl, h1, r1⟩ := r'.lstS
    exact ⟨a, xs, rfl, .inl ⟨h1, fun l hl => p _ _ q _ _ _ (.new hl) (m.new hl) (Sim.newT (S := S) hl r1)⟩⟩
  · obtain ⟨v, e1, r'⟩ := r.one_inv
    subst e1
    split at q
    · rename_i ds hn
      obtain ⟨a, xs, rfl, hm, h1, r1⟩ := m.at hn r'
      exact ⟨a, xs, rfl, .inl ⟨SqL.of h1, fun l hl => p _ _ q _ _ _ (.new hl) (m.new hl) (Sim.newT (S := S) hl r1)⟩⟩
    · exact q.elim
  · exact q.elim
def rListV (K : PySem.W.Frag) : List V → Hp → VK → Prop := fun xs H Q => ∃ p ys, xs = [.ref p] ∧ (SqL K H p ys ∨ SqT K H p ys) ∧ ∀ l, H l = none → Q (.ref l) (upd H l (.lst ys))
theorem cd_list : CallD K (rListV K) rList := by
  intro μ S H ds vs Q0 Q m r q p
  have key : ∀ d ds, Q0 (.lst ds) S → (∃ v, vs = [v] ∧ Rep K μ H d v) → (d = .tup ds ∨ d = .lst ds ∨ ∃ n, d = .ref n ∧ S[n]? = some (.lst ds)) → rListV K vs H Q := fun d ds q ⟨v, e, rv⟩ h => by
    subst e
    obtain ⟨a, xs, rfl, h1, r1⟩ := seq_rep m rv h
    exact ⟨a, xs, rfl, h1, fun l hl => p _ _ q _ _ _ (.new hl) (m.new hl) (Sim.newL m hl r1)⟩
  unfold rList at q
  split at q
  · exact key _ _ q r.one_inv (.inl rfl)
  · exact key _ _ q r.one_inv (.inr (.inl rfl))
  · split at q
    · rename_i ds hn
      exact key _ _ q r.one_inv (.inr (.inr ⟨_, rfl, hn⟩))
    · exact q.elim
  · exact q.elim
theorem cd_listN : CallD K (rListV K) rListN := by
  intro μ S H ds vs Q0 Q m r q p
  have key : ∀ d ds, Q0 (.ref S.length) (S ++ [.lst ds]) → (∃ v, vs = [v] ∧ Rep K μ H d v) → (d = .tup ds ∨ d = .lst ds ∨ ∃ n, d = .ref n ∧ S[n]? = some (.lst ds)) → rListV K vs H Q := fun d ds q ⟨v, e, rv⟩ h => by
    subst e
    obtain ⟨a, xs, rfl, h1, r1⟩ := seq_rep m rv h
    exact ⟨a, xs, rfl, h1, fun l hl => p _ _ q _ _ _ (.alloc hl) (m.alloc hl r1) m.newR.refH⟩
  unfold rListN at q
  split at q
  · exact key _ _ q r.one_inv (.inl rfl)
  · exact key _ _ q r.one_inv (.inr (.inl rfl))
  · split at q
    · rename_i ds hn
      exact key _ _ q r.one_inv (.inr (.inr ⟨_, rfl, hn⟩))
    · exact q.elim
  · exact q.elim
end
section
variable {X : Cx} {e a b c : Expr} {wa wb wc : WE} {pos p p1 p2 : Pos} {es : List Expr} {wr : WA} {x : Str}
theorem se_len (hg : Gl X "len") (hm : X.mg "len" = none) (ha : SA X (a :: es) wr) (he : starEach (a :: es) X.env = (false, eval a X.env) :: starEach es X.env := by rfl) (hpl : (backTo pos (starEach es X.env)).any (·.1) = false := by rfl) : SE X (.Call (.Name "len" p) (a :: es) [] pos) (wCall rLen wr) := se_callB cd_len cr_lenV hg hm (by decide +kernel) ha (by decide) (by decide) he hpl
theorem se_cint (hg : Gl X "int") (hm : X.mg "int" = none) (ha : SA X (a :: es) wr) (he : starEach (a :: es) X.env = (false, eval a X.env) :: starEach es X.env := by rfl) (hpl : (backTo pos (starEach es X.env)).any (·.1) = false := by rfl) : SE X (.Call (.Name "int" p) (a :: es) [] pos) (wCall rInt wr) := se_callTy cd_int call_int1 hg hm (by decide +kernel) ha (by decide) (by decide) he hpl
theorem se_abs (hg : Gl X "abs") (hm : X.mg "abs" = none) (ha : SA X (a :: es) wr) (he : starEach (a :: es) X.env = (false, eval a X.env) :: starEach es X.env := by rfl) (hpl : (backTo pos (starEach es X.env)).any (·.1) = false := by rfl) : SE X (.Call (.Name "abs" p) (a :: es) [] pos) (wCall rAbs wr) := se_callB cd_abs call_abs hg hm (by decide +kernel) ha (by decide) (by decide) he hpl
theorem se_tuple (hg : Gl X "tuple") (hm : X.mg "tuple" = none) (ha : SA X (a :: es) wr) (he : starEach (a :: es) X.env = (false, eval a X.env) :: starEach es X.env := by rfl) (hpl : (backTo pos (starEach es X.env)).any (·.1) = false := by rfl) : SE X (.Call (.Name "tuple" p) (a :: es) [] pos) (wCall rTuple wr) := se_callTy cd_tuple call_tuple_of hg hm (by decide +kernel) ha (by decide) (by decide) he hpl
theorem se_list (hg : Gl X "list") (hm : X.mg "list" = none) (ha : SA X (a :: es) wr) (he : starEach (a :: es) X.env = (false, eval a X.env) :: starEach es X.env := by rfl) (hpl : (backTo pos (starEach es X.env)).any (·.1) = false := by rfl) : SE X (.Call (.Name "list" p) (a :: es) [] pos) (wCall rList wr) := se_callTy cd_list call_list_of hg hm (by decide +kernel) ha (by decide) (by decide) he hpl
theorem se_listN (hg : Gl X "list") (hm : X.mg "list" = none) (ha : SA X (a :: es) wr) (he : starEach (a :: es) X.env = (false, eval a X.env) :: starEach es X.env := by rfl) (hpl : (backTo pos (starEach es X.env)).any (·.1) = false := by rfl) : SE X (.Call (.Name "list" p) (a :: es) [] pos) (wCall rListN wr) := se_callTy cd_listN call_list_of hg hm (by decide +kernel) ha (by decide) (by decide) he hpl
theorem se_max2 (hc : X.calm = true) (hg : Gl X "max") (hm : X.mg "max" = none) (ha : SA X (a :: es) wr) (he : starEach (a :: es) X.env = (false, eval a X.env) :: starEach es X.env := by rfl) (hpl : (backTo pos (starEach es X.env)).any (·.1) = false := by rfl) : SE X (.Call (.Name "max" p) (a :: es) [] pos) (wCall rMax2 wr) := se_callB cd_max2 (call_max2 hc) hg hm (by decide +kernel) ha (by decide) (by decide) he hpl
theorem se_min2 (hc : X.calm = true) (hg : Gl X "min") (hm : X.mg "min" = none) (ha : SA X (a :: es) wr) (he : starEach (a :: es) X.env = (false, eval a X.env) :: starEach es X.env := by rfl) (hpl : (backTo pos (starEach es X.env)).any (·.1) = false := by rfl) : SE X (.Call (.Name "min" p) (a :: es) [] pos) (wCall rMin2 wr) := se_callB cd_min2 (call_min2 hc) hg hm (by decide +kernel) ha (by decide) (by decide) he hpl
/-- from math import gcd -/
theorem se_gcd (hg : Gl X x) (hm : X.mg x = some (.builtin "math.gcd")) (ha : SA X (a :: es) wr) (hdb : (x == ("__debug__" : Str)) = false := by decide)
    (he : starEach (a :: es) X.env = (false, eval a X.env) :: starEach es X.env := by rfl) (hpl : (backTo pos (starEach es X.env)).any (·.1) = false := by rfl) : SE X (.Call (.Name x p) (a :: es) [] pos) (wCall rGcdD wr) :=
  se_callx cd_gcd ha (pe_callBfun cr_gcd hg hm ha hdb he hpl)

/-! ### isinstance(x, T), T a built-in class -/
def tyName : D → Store → Option String
  | .non, _ => some "NoneType"
  | .bl _, _ => some "bool"
  | .int _, _ => some "int"
  | .str _, _ => some "str"
  | .tup _, _ => some "tuple"
  | .lst _, _ => some "list"
  | .ref n, S => match S[n]? with | some (.lst _) => some "list" | _ => none
def isT : D → Store → String → Option Bool
  | .bl _, _, "int" => some true
  | d, S, T => if ["int", "bool", "str", "tuple", "list"].contains T then (tyName d S).map (· == T) else none
def wIsT (w : WE) (T : String) : WE := fun ρ S Q => w ρ S fun d S1 => match isT d S1 T with | some b => Q (.bl b) S1 | none => False
theorem kitB_all : ∀ a ∈ ["NoneType", "bool", "int", "str", "tuple", "list"], ∀ b ∈ ["int", "bool", "str", "tuple", "list"], kitB a b = some (if a = "bool" ∧ b = "int" then true else a == b) := by decide +kernel
theorem ty_rep {K : PySem.W.Frag} {μ : Mu} {S : Store} {H : Hp} {d : D} {v : V} {t : String} (m : Sim K μ S H) (r : Rep K μ H d v) (h : tyName d S = some t) : TyX K H v (.type t) ∧ t ∈ ["NoneType", "bool", "int", "str", "tuple", "list"] := by
  cases r with
  | non => cases h; exact ⟨.base .non, by decide⟩
  | bl b => cases h; exact ⟨.base (.bl b), by decide⟩
  | int b => cases h; exact ⟨.base (.int b), by decide⟩
  | str b => cases h; exact ⟨.base (.str b), by decide⟩
  | tup hh r =>
    cases h
    refine ⟨?_, by decide⟩
    rcases hh with (hh | ⟨o, hh⟩) | ⟨o, its, n, h1, h2, _⟩
    · exact .base (.tup hh)
    · exact .fTuple hh
    · exact .kTuple h1 h2
  | lst hh r =>
    cases h
    refine ⟨?_, by decide⟩
    rcases hh with ⟨hh | ⟨o, hh⟩, _⟩ | ⟨o, its, n, h1, h2, _⟩
    · exact .base (.lst hh)
    · exact .base (.frz hh)
    · exact .kList h1 h2
  | ref hn =>
    rename_i n a
    have h' : (match S[n]? with | some (.lst _) => some "list" | _ => none) = some t := h
    split at h'
    · rename_i ds hd
      cases h'
      obtain ⟨a', xs, e, h1, h2, h3⟩ := m.at hd (.ref hn)
      cases e
      exact ⟨.base (.lst h2), by decide⟩
    · cases h'
theorem isT_ty {d : D} {S : Store} {T : String} {b : Bool} (h : isT d S T = some b) : ∃ t, tyName d S = some t ∧ T ∈ ["int", "bool", "str", "tuple", "list"] ∧ b = (if t = "bool" ∧ T = "int" then true else t == T) := by
  unfold isT at h
  split at h
  · cases h
    exact ⟨"bool", rfl, by decide, rfl⟩
  · rename_i hne
    split at h
    · rename_i hc
      cases ht : tyName d S with
      | none => rw [ht] at h; cases h
      | some t =>
        rw [ht] at h
        have h' : some (t == T) = some b := h
        cases h'
        refine ⟨t, rfl, by simpa using hc, ?_⟩
        rw [if_neg]
        rintro ⟨rfl, rfl⟩
        cases d with
        | bl k => exact hne k rfl rfl
        | ref n =>
          have h2 : (match S[n]? with | some (.lst _) => some "list" | _ => none) = some "bool" := ht
          split at h2 <;> simp at h2
        | _ => simp [tyName] at ht
    · cases h
theorem se_isT {T : Str} {Tn : String} (hg : Gl X "isinstance") (hm : X.mg "isinstance" = none) (hgT : Gl X T) (hmT : X.mg T = none) (hT : bootBuiltins T = some (.type Tn)) (ha : SE X a wa) (hn : T ≠ "__name__" := by decide) (hd : (T == ("__debug__" : Str)) = false := by decide)
    (he : starEach [a, .Name T p2] X.env = (false, eval a X.env) :: starEach [.Name T p2] X.env := by rfl) :
    SE X (.Call (.Name "isinstance" p) [a, .Name T p2] [] pos) (wIsT wa Tn) :=
  pe_weak (pe_callB call_isi hg hm (by decide +kernel) (pa_cons ha (pa_cons (pe_bltn (v := .ty Tn) hgT hmT hT rfl hn hd) pa_nil) he) (by decide) (by decide) he) fun σ H Q ⟨μ, S, ρ, Q0, m, en, q, p⟩ => by
    refine LE.run m en q fun d S1 μ1 v H1 q1 g1 m1 e1 r1 => ?_
    split at q1
    · rename_i b hb
      obtain ⟨t, ht, hTm, hb2⟩ := isT_ty hb
      obtain ⟨ty, htm⟩ := ty_rep m1 r1 ht
      refine ⟨v, .ty Tn, .type t, .type Tn, b, rfl, .ty Tn, ty, kit_ty ?_, p _ S1 q1 μ1 _ H1 g1 m1 (.bl b)⟩
      rw [kitB_all t htm Tn hTm, hb2]
    · exact q1.elim
end
end DL

set_option maxHeartbeats 4000000
namespace DL
open PySem PySem.Spec PyProof.Rows L2

/-! ### statements by content -/
structure PostS (K : PySem.W.Frag) (μ : Mu) (H : Hp) (D0 : EndsD) (D : Ends) : Prop where
  nx : ∀ ρ' S', D0.nx ρ' S' → ∀ μ' σ' H', Grow μ H μ' H' → Sim K μ' S' H' → EnvR K μ' H' ρ' σ' → D.nx σ' H'
  rt : Post K μ H D0.rt D.rt
  bk : ∀ ρ' S', D0.bk ρ' S' → ∀ μ' σ' H', Grow μ H μ' H' → Sim K μ' S' H' → EnvR K μ' H' ρ' σ' → D.bk σ' H'
  ct : ∀ ρ' S', D0.ct ρ' S' → ∀ μ' σ' H', Grow μ H μ' H' → Sim K μ' S' H' → EnvR K μ' H' ρ' σ' → D.ct σ' H'
def LS (K : PySem.W.Frag) (w : WS) : TS := fun D σ H => ∃ μ S ρ D0, Sim K μ S H ∧ EnvR K μ H ρ σ ∧ w D0 ρ S ∧ PostS K μ H D0 D
abbrev SS (X : Cx) (st : Stmt) (w : WS) : Prop := PS X st (LS X.K w)
abbrev SSs (X : Cx) (sts : List Stmt) (w : WS) : Prop := PSs X sts (LS X.K w)
theorem PostS.go {K : PySem.W.Frag} {μ μ' : Mu} {H H' : Hp} {D0 : EndsD} {D : Ends} (h : PostS K μ H D0 D) (g : Grow μ H μ' H') : PostS K μ' H' D0 D :=
  ⟨fun r s q m2 σ2 H2 g2 => h.nx r s q m2 σ2 H2 (g.trans g2), h.rt.go g, fun r s q m2 σ2 H2 g2 => h.bk r s q m2 σ2 H2 (g.trans g2), fun r s q m2 σ2 H2 g2 => h.ct r s q m2 σ2 H2 (g.trans g2)⟩
section
variable {X : Cx} {st : Stmt} {sts : List Stmt}
theorem ps_weak {t t' : TS} (h : PS X st t) (hw : ∀ D σ H, t' D σ H → t D σ H) : PS X st t' := ⟨fun pins s σ H D I q => h.run pins s σ H D I (hw _ _ _ q)⟩
theorem pss_weak {t t' : TS} (h : PSs X sts t) (hw : ∀ D σ H, t' D σ H → t D σ H) : PSs X sts t' := ⟨fun pins s σ H D I q => h.run pins s σ H D I (hw _ _ _ q)⟩
end
section
variable {X : Cx} {st : Stmt} {rest : List Stmt} {t u : WS} {e a b c : Expr} {wa wb wc : WE} {wt : WT} {pos : Pos}
def wNext : WS := fun D ρ S => D.nx ρ S
def wSeq (t u : WS) : WS := fun D ρ S => t { D with nx := u D } ρ S
theorem ls_run {K : PySem.W.Frag} {w : WS} {D : Ends} {D0 D1 : EndsD} {μ : Mu} {S : Store} {ρ : Env} {σ : L2.St} {H : Hp} (m : Sim K μ S H) (en : EnvR K μ H ρ σ) (h : w D0 ρ S) (p : PostS K μ H D0 D) : LS K w D σ H := ⟨μ, S, ρ, D0, m, en, h, p⟩
theorem ls_seq {K : PySem.W.Frag} {D : Ends} {σ : L2.St} {H : Hp} (h : LS K (wSeq t u) D σ H) : tSeq (LS K t) (LS K u) D σ H := by
  obtain ⟨μ, S, ρ, D0, m, en, q, p⟩ := h
  exact ⟨μ, S, ρ, { D0 with nx := u D0 }, m, en, q, fun ρ' S' q' μ' σ' H' g m' e' => ⟨μ', S', ρ', D0, m', e', q', p.go g⟩, p.rt, p.bk, p.ct⟩
theorem ss_nil : SSs X [] wNext := pss_weak pss_nil fun D σ H ⟨μ, S, ρ, D0, m, en, q, p⟩ => p.nx ρ S q μ σ H .refl m en
theorem ss_cons (h1 : SS X st t) (h2 : SSs X rest u) : SSs X (st :: rest) (wSeq t u) := pss_weak (pss_cons h1 h2) fun D σ H h => ls_seq h
theorem ss_one (h1 : SS X st t) : SSs X [st] t := pss_one h1
theorem ss_pass : SS X (.Pass pos) wNext := ps_weak ps_pass fun D σ H ⟨μ, S, ρ, D0, m, en, q, p⟩ => p.nx ρ S q μ σ H .refl m en
def wBreak : WS := fun D ρ S => D.bk ρ S
def wCont : WS := fun D ρ S => D.ct ρ S
theorem ss_break : SS X (.Break pos) wBreak := ps_weak ps_break fun D σ H ⟨μ, S, ρ, D0, m, en, q, p⟩ => p.bk ρ S q μ σ H .refl m en
theorem ss_continue : SS X (.Continue pos) wCont := ps_weak ps_continue fun D σ H ⟨μ, S, ρ, D0, m, en, q, p⟩ => p.ct ρ S q μ σ H .refl m en
def wDrop (w : WE) : WS := fun D ρ S => w ρ S fun _ S1 => D.nx ρ S1
theorem ss_expr (he : SE X e wa) (hs : swapsWith e none pos.line X.env = pure false := by rfl) : SS X (.Expr e pos) (wDrop wa) := ps_weak (ps_expr he hs) fun D σ H ⟨μ, S, ρ, D0, m, en, q, p⟩ =>
  LE.run m en q fun d S1 μ1 v H1 q1 g1 m1 e1 r1 => p.nx ρ S1 q1 μ1 σ H1 g1 m1 e1
def wRet (w : WE) : WS := fun D ρ S => w ρ S D.rt
theorem ss_ret (he : SE X e wa) : SS X (.Return (some e) pos) (wRet wa) := ps_weak (ps_ret he) fun D σ H ⟨μ, S, ρ, D0, m, en, q, p⟩ => ⟨μ, S, ρ, D0.rt, m, en, q, p.rt⟩
def wRetN : WS := fun D _ S => D.rt .non S
theorem ss_retN : SS X (.Return none pos) wRetN := ps_weak ps_retN fun D σ H ⟨μ, S, ρ, D0, m, en, q, p⟩ => p.rt .non S q μ _ H .refl m .non
def wIf (c : WT) (t u : WS) : WS := fun D ρ S => c ρ S fun k S1 => if k = true then t D ρ S1 else u D ρ S1
theorem ss_if {xs ys : List Stmt} (hc : ST X c wt) (ha : SSs X xs t) (hb : SSs X ys u) : SS X (.If c xs ys pos) (wIf wt t u) := ps_weak (ps_if hc ha hb) fun D σ H ⟨μ, S, ρ, D0, m, en, q, p⟩ => by
  refine LT.run m en q fun k S1 μ1 H1 q1 g1 m1 e1 => ?_
  cases k with
  | true => exact ⟨μ1, S1, ρ, D0, m1, e1, q1, p.go g1⟩
  | false => exact ⟨μ1, S1, ρ, D0, m1, e1, q1, p.go g1⟩
end

/-! ### targets -/
inductive Tg where
  | name (i : Nat)
  | tup (ts : List Tg)
mutual
def Tg.toV (K : PySem.W.Frag) : Tg → TG
  | .name i => gName i
  | .tup ts => gTup K ts.length (Tg.toVs K ts)
def Tg.toVs (K : PySem.W.Frag) : List Tg → TGs
  | [] => gNil
  | t :: ts => gCons (Tg.toV K t) (Tg.toVs K ts)
end
mutual
def bindT : Tg → D → Env → Option Env
  | .name i, d, ρ => some (ρ.set i (some d))
  | .tup ts, .tup ds, ρ => bindTs ts ds ρ
  | .tup _, _, _ => none
def bindTs : List Tg → List D → Env → Option Env
  | [], [], ρ => some ρ
  | t :: ts, d :: ds, ρ => match bindT t d ρ with | some ρ1 => bindTs ts ds ρ1 | none => none
  | _, _, _ => none
end
mutual
def Tg.slots : Tg → List Nat
  | .name i => [i]
  | .tup ts => Tg.slotsL ts
def Tg.slotsL : List Tg → List Nat
  | [] => []
  | t :: ts => Tg.slots t ++ Tg.slotsL ts
end
section
variable {K : PySem.W.Frag} {μ : Mu} {H : Hp}
theorem wipe_set {σ : L2.St} {i : Nat} {v : V} : ∀ {vs : List Nat}, i ∈ vs → wipe (σ.set i (some v)) vs = wipe σ vs := by
  intro vs h
  apply List.ext_getElem?
  intro j
  have key : ∀ (σ : L2.St) (vs : List Nat), (wipe σ vs)[j]? = if j ∈ vs then (σ[j]?).map (fun _ => none) else σ[j]? := by
    intro σ vs
    induction vs with
    | nil => simp [wipe]
    | cons w ws ih =>
      unfold wipe
      by_cases hw : w = j
      · subst hw
        rw [List.getElem?_set]
        simp only [List.mem_cons, true_or, if_true, wipe_length]
        by_cases hl : w < σ.length
        · simp [hl]
        · simp [hl]
      · rw [List.getElem?_set_ne hw, ih]
        have e1 : (j ∈ w :: ws) ↔ j ∈ ws := by simp [Ne.symm hw]
        simp only [e1]
  rw [key, key]
  by_cases hj : j ∈ vs
  · rw [if_pos hj, if_pos hj, List.getElem?_set]
    by_cases hij : i = j
    · subst hij
      by_cases hl : i < σ.length
      · simp [hl]
      · simp [hl]
    · simp [hij]
  · rw [if_neg hj, if_neg hj, List.getElem?_set_ne (fun e => hj (by rw [← e]; exact h))]
mutual
/-- binding: the frame behind, and which slots it wrote -/
theorem bind_ok (vs : List Nat) : ∀ (t : Tg) (d : D) (ρ ρ' : Env) (v : V) (σ : L2.St) (Q : L2.St → Hp → Prop), bindT t d ρ = some ρ' → Rep K μ H d v → EnvR K μ H ρ σ →
    (∀ σ', EnvR K μ H ρ' σ' → ((∀ i ∈ t.slots, i ∈ vs) → wipe σ' vs = wipe σ vs) → Q σ' H) → t.toV K v σ H Q
  | .name i, d, ρ, ρ', v, σ, Q, h, r, en, k => by
    have e : ρ.set i (some d) = ρ' := Option.some.inj (by simpa [bindT] using h)
    subst e
    show gName i v σ H Q
    exact k _ (en.set r) fun hs => wipe_set (hs i (by simp [Tg.slots]))
  | .tup ts, .tup ds, ρ, ρ', v, σ, Q, h, r, en, k => by
    cases r with
    | tup hh r =>
      have h' : bindTs ts ds ρ = some ρ' := by simpa [bindT] using h
      show gTup K ts.length (Tg.toVs K ts) _ σ H Q
      have hl := bindTs_len ts ds ρ ρ' h'
      refine ⟨_, _, rfl, hh, by rw [← r.length]; exact hl.symm, ?_⟩
      exact binds_ok vs ts ds ρ ρ' _ σ Q h' r en fun σ' e' hs => k σ' e' (by simpa [Tg.slots] using hs)
  | .tup ts, .non, ρ, ρ', v, σ, Q, h, r, en, k => by simp [bindT] at h
  | .tup ts, .bl _, ρ, ρ', v, σ, Q, h, r, en, k => by simp [bindT] at h
  | .tup ts, .int _, ρ, ρ', v, σ, Q, h, r, en, k => by simp [bindT] at h
  | .tup ts, .str _, ρ, ρ', v, σ, Q, h, r, en, k => by simp [bindT] at h
  | .tup ts, .lst _, ρ, ρ', v, σ, Q, h, r, en, k => by simp [bindT] at h
  | .tup ts, .ref _, ρ, ρ', v, σ, Q, h, r, en, k => by simp [bindT] at h
theorem bindTs_len : ∀ (ts : List Tg) (ds : List D) (ρ ρ' : Env), bindTs ts ds ρ = some ρ' → ts.length = ds.length
  | [], [], _, _, _ => rfl
  | t :: ts, d :: ds, ρ, ρ', h => by
    simp only [bindTs] at h
    split at h
    · rename_i ρ1 h1
      have := bindTs_len ts ds ρ1 ρ' h
      simp [this]
    · cases h
  | [], _ :: _, _, _, h => by simp [bindTs] at h
  | _ :: _, [], _, _, h => by simp [bindTs] at h
theorem binds_ok (vs : List Nat) : ∀ (ts : List Tg) (ds : List D) (ρ ρ' : Env) (us : List V) (σ : L2.St) (Q : L2.St → Hp → Prop), bindTs ts ds ρ = some ρ' → RepAll K μ H ds us → EnvR K μ H ρ σ →
    (∀ σ', EnvR K μ H ρ' σ' → ((∀ i ∈ Tg.slotsL ts, i ∈ vs) → wipe σ' vs = wipe σ vs) → Q σ' H) → Tg.toVs K ts us σ H Q
  | [], [], ρ, ρ', us, σ, Q, h, r, en, k => by
    have e : ρ = ρ' := Option.some.inj (by simpa [bindTs] using h)
    subst e
    cases r
    show gNil [] σ H Q
    exact ⟨rfl, k σ en fun _ => rfl⟩
  | t :: ts, d :: ds, ρ, ρ', us, σ, Q, h, r, en, k => by
    simp only [bindTs] at h
    split at h
    · rename_i ρ1 h1
      cases r with
      | cons r rr =>
        show gCons (Tg.toV K t) (Tg.toVs K ts) _ σ H Q
        refine ⟨_, _, rfl, ?_⟩
        refine bind_ok vs t d ρ ρ1 _ σ _ h1 r en fun σ1 e1 w1 => ?_
        refine binds_ok vs ts ds ρ1 ρ' _ σ1 Q h rr e1 fun σ2 e2 w2 => ?_
        refine k σ2 e2 fun hs => ?_
        rw [w2 fun i hi => hs i (by simp [Tg.slotsL, hi]), w1 fun i hi => hs i (by simp [Tg.slotsL, hi])]
    · cases h
  | [], _ :: _, _, _, _, _, _, h, _, _, _ => by simp [bindTs] at h
  | _ :: _, [], _, _, _, _, _, h, _, _, _ => by simp [bindTs] at h
end
theorem bind_len : ∀ (t : Tg) (d : D) (ρ ρ' : Env), bindT t d ρ = some ρ' → True := fun _ _ _ _ _ => True.intro
end
abbrev SG (X : Cx) (e : Expr) (t : Tg) : Prop := PG X e (t.toV X.K)
abbrev SGs (X : Cx) (es : List Expr) (ts : List Tg) : Prop := PGs X es (Tg.toVs X.K ts)
section
variable {X : Cx} {st : Stmt} {rest : List Stmt} {t u : WS} {e a b c : Expr} {wa wb wc : WE} {wt : WT} {pos p : Pos} {es : List Expr} {g : Tg} {gs : List Tg}
theorem sg_name {i : Nat} {x : Str} (hN : X.N.Nodup) (hi : X.N[i]? = some x := by rfl) (hx : Loc X.env.scope x := by first | exact Or.inl rfl | exact Or.inr rfl) (hf : X.fn x = true ∨ X.env.scope.names.lookup x = some .local := by first | exact .inl rfl | exact .inr rfl | assumption) : SG X (.Name x pos) (.name i) := pg_name hN hi hx hf
theorem sg_tup {k : Nat} (hc : X.calm = true) (h : SGs X es gs) (hn : (assignEach es X.env).length = gs.length := by rfl) (hst : (assignEach es X.env).findIdx? (·.1) = none := by rfl) : SG X (.Tuple es k pos) (.tup gs) := pg_tup hc h hn hst
theorem sgs_nil : SGs X [] [] := pgs_nil
theorem sgs_cons (h1 : SG X e g) (h2 : SGs X es gs) (hs : (assignEach (e :: es) X.env).map (·.2) = assign e X.env :: (assignEach es X.env).map (·.2) := by rfl) : SGs X (e :: es) (g :: gs) := pgs_cons h1 h2 hs
def wAsg (w : WE) (g : Tg) : WS := fun D ρ S => w ρ S fun d S1 => match bindT g d ρ with | some ρ' => D.nx ρ' S1 | none => False
theorem las_ok {K : PySem.W.Frag} {D : Ends} {σ : L2.St} {H : Hp} (h : LS K (wAsg wa g) D σ H) : tAsg (LE K wa) (g.toV K) D σ H := by
  obtain ⟨μ, S, ρ, D0, m, en, q, p⟩ := h
  refine LE.run m en q fun d S1 μ1 v H1 q1 g1 m1 e1 r1 => ?_
  split at q1
  · rename_i ρ' hb
    exact bind_ok [] g d ρ ρ' v σ _ hb r1 e1 fun σ' e' _ => p.nx ρ' S1 q1 μ1 σ' H1 g1 m1 e'
  · exact q1.elim
theorem ss_asg {tg : Expr} (he : SE X e wa) (hg : SG X tg g) (hs : swapsWithSole [tg] e pos.line X.env = pure false := by rfl) (hw : swappedStores [tg] e X.env = pure none := by rfl)
    (h1 : (assignEach [tg] X.env).map (·.2) = [assign tg X.env] := by rfl) : SS X (.Assign [tg] e pos) (wAsg wa g) := ps_weak (ps_asg he hg hs hw h1) fun D σ H h => las_ok h
theorem ss_set {i : Nat} {x : Str} {pos' : Pos} (hN : X.N.Nodup) (he : SE X e wa) (hi : X.N[i]? = some x := by rfl) (hx : Loc X.env.scope x := by first | exact Or.inl rfl | exact Or.inr rfl) (hs : swapsWith e (some (.Name x pos')) pos.line X.env = pure false := by rfl) (hf : X.fn x = true ∨ X.env.scope.names.lookup x = some .local := by first | exact .inl rfl | exact .inr rfl | assumption) :
    SS X (.Assign [.Name x pos'] e pos) (wAsg wa (.name i)) := ps_weak (ps_set hN hi hx he hs hf) fun D σ H h => las_ok h
/-- o[i] = e, a list of the store -/
def putAt (n : Nat) (k : Int) (d : D) (S : Store) (Q : Store → Prop) : Prop := match S[n]? with
  | some (.lst xs) => (match k with | .ofNat j => j < xs.length ∧ Q (S.set n (.lst (xs.set j d))) | .negSucc j => j < xs.length ∧ Q (S.set n (.lst (xs.set (xs.length - 1 - j) d))))
  | _ => False
def wPut (we wo wi : WE) : WS := fun D ρ S => we ρ S fun d S1 => wo ρ S1 fun o S2 => wi ρ S2 fun i S3 => match o, i with
  | .ref n, .int k => putAt n k d S3 (D.nx ρ)
  | _, _ => False
theorem ss_put {o i : Expr} {p1 : Pos} (he : SE X e wa) (ho : SE X o wb) (hi : SE X i wc)
    (ha : ∀ v, assign (.Subscript o i p1) X.env v = (do
      let ov ← holding [v] (eval o X.env)
      let iv ← holding [v, ov] (eval i X.env)
      standAt p1
      holding [v, ov, iv] (setItem ov iv v)
      release [v, ov, iv] []) := by intro _; rfl)
    (hs : swapsWithSole [.Subscript o i p1] e pos.line X.env = pure false := by rfl) (hw : swappedStores [.Subscript o i p1] e X.env = pure none := by rfl)
    (h1 : (assignEach [.Subscript o i p1] X.env).map (·.2) = [assign (.Subscript o i p1) X.env] := by rfl) : SS X (.Assign [.Subscript o i p1] e pos) (wPut wa wb wc) :=
  ps_weak (ps_asg he (pg_sub ho hi set_list ha) hs hw h1) fun D σ H ⟨μ, S, ρ, D0, m, en, q, p⟩ => by
    refine LE.run m en q fun d S1 μ1 v H1 q1 g1 m1 e1 r1 => ?_
    refine LE.run m1 e1 q1 fun o S2 μ2 vo H2 q2 g2 m2 e2 r2 => ?_
    refine LE.run m2 e2 q2 fun i S3 μ3 vi H3 q3 g3 m3 e3 r3 => ?_
    split at q3
    · rename_i n k
      unfold putAt at q3
      split at q3
      · rename_i xs hn
        obtain ⟨a, ys, rfl, h1, h2, h3⟩ := m3.at hn (r2.grow g3)
        have rv : Rep X.K μ3 H3 d v := r1.grow (g2.trans g3)
        have fin : ∀ j, j < xs.length → ixN ys.length k = some j → D0.nx ρ (S3.set n (.lst (xs.set j d))) → rSetL (.ref a) vi v H3 fun H4 => D.nx σ H4 := fun j hj hk q =>
          ⟨a, ys, k, j, rfl, r3.int_inv, h2, hk, p.nx _ _ q μ3 σ _ ((g1.trans g2).trans (g3.trans (.put m3 h1 h2))) (m3.put h1 h2 (h3.set rv j)) (e3.grow (.put m3 h1 h2))⟩
        have hl := h3.length
        cases k with
        | ofNat j => exact fin j q3.1 (by unfold ixN; rw [if_pos (by show (0 : Int) ≤ (j : Int); omega), if_pos (by have := q3.1; show (j : Int) < _; omega)]; rfl) q3.2
        | negSucc j =>
          refine fin _ (by have := q3.1; omega) ?_ q3.2
          have := q3.1
          unfold ixN
          rw [if_neg (by omega), if_pos (by omega)]
          congr 1
          omega
      · exact q3.elim
    · exact q3.elim
end
end DL

set_option maxHeartbeats 4000000
namespace DL
open PySem PySem.Spec PyProof.Rows L2

/-! ### what is walked -/
/-- J walks the items xs while G holds of the store -/
structure IsW (K : PySem.W.Frag) (μ : Mu) (H : Hp) (J : It) (xs : List D) (G : Store → Prop) : Prop where
  go : ∀ i μ2 H2 S2, i < xs.length → Grow μ H μ2 H2 → Sim K μ2 S2 H2 → G S2 → J.go i H2
  stop : ∀ μ2 H2 S2, Grow μ H μ2 H2 → Sim K μ2 S2 H2 → G S2 → J.stop xs.length H2
  yld : ∀ i μ2 H2 S2 x H3, i < xs.length → Grow μ H μ2 H2 → Sim K μ2 S2 H2 → G S2 → J.yld i H2 x H3 → ∃ d, xs[i]? = some d ∧ Grow μ2 H2 μ2 H3 ∧ Sim K μ2 S2 H3 ∧ Rep K μ2 H3 d x
abbrev WI := Env → Store → (List D → (Store → Prop) → Store → Prop) → Prop
def LI (K : PySem.W.Frag) (w : WI) : TI := fun σ H R => ∃ μ S ρ Q0, Sim K μ S H ∧ EnvR K μ H ρ σ ∧ w ρ S Q0 ∧ ∀ xs G S', Q0 xs G S' → ∀ μ' J H', Grow μ H μ' H' → Sim K μ' S' H' → IsW K μ' H' J xs G → R J H'
abbrev SI (X : Cx) (tg iter : Expr) (w : WI) : Prop := PI X tg iter (LI X.K w)
def wSeqI (w : WE) : WI := fun ρ S Q => w ρ S fun d S1 => match d with
  | .tup ds => Q ds (fun _ => True) S1
  | .lst ds => Q ds (fun _ => True) S1
  | .ref n => (match S1[n]? with | some (.lst ds) => Q ds (fun S => S[n]? = some (.lst ds)) S1 | _ => False)
  | _ => False
section
variable {K : PySem.W.Frag} {μ : Mu} {H : Hp} {a : Addr} {xs : List D} {vs : List V}
theorem isw_tup (h : Rd H a (.tup vs) ∨ KT K a vs) (r : RepAll K μ H xs vs) : IsW K μ H (Itt K a) xs (fun _ => True) where
  go := fun i μ2 H2 S2 hi g m _ => by
    have hi' : i < vs.length := by rw [← r.length]; exact hi
    exact ⟨vs, vs[i], h.imp (g.tup _ _) id, by simp [hi']⟩
  stop := fun μ2 H2 S2 g m _ => ⟨vs, h.imp (g.tup _ _) id, by rw [r.length]; exact Nat.le_refl _⟩
  yld := fun i μ2 H2 S2 x H3 hi g m _ y => by
    obtain ⟨rfl, y⟩ := y
    obtain ⟨d, h1, h2⟩ := r.getV (y vs (h.imp (g.tup _ _) id))
    exact ⟨d, h1, .refl, m, h2.grow g⟩
theorem isw_lst (h : (Rd H a (.lst vs) ∧ ¬ μ.has a) ∨ KL K a vs) (r : RepAll K μ H xs vs) : IsW K μ H (Itl K a) xs (fun _ => True) where
  go := fun i μ2 H2 S2 hi g m _ => by
    have hi' : i < vs.length := by rw [← r.length]; exact hi
    exact ⟨vs, vs[i], h.imp (fun z => (g.lst _ _ z.1 z.2).1) id, by simp [hi']⟩
  stop := fun μ2 H2 S2 g m _ => ⟨vs, h.imp (fun z => (g.lst _ _ z.1 z.2).1) id, by rw [r.length]; exact Nat.le_refl _⟩
  yld := fun i μ2 H2 S2 x H3 hi g m _ y => by
    obtain ⟨rfl, y⟩ := y
    obtain ⟨d, h1, h2⟩ := r.getV (y vs (h.imp (fun z => (g.lst _ _ z.1 z.2).1) id))
    exact ⟨d, h1, .refl, m, h2.grow g⟩
theorem isw_ref {n : Nat} (h : μ.sl[n]? = some (some a)) : IsW K μ H (Itl K a) xs (fun S => S[n]? = some (.lst xs)) where
  go := fun i μ2 H2 S2 hi g m hS => by
    obtain ⟨b, ws, h1, h2, h3⟩ := m.ob n xs hS
    rw [g.ref n a h] at h1
    cases h1
    have hi' : i < ws.length := by rw [← h3.length]; exact hi
    exact ⟨ws, ws[i], SqL.of h2, by simp [hi']⟩
  stop := fun μ2 H2 S2 g m hS => by
    obtain ⟨b, ws, h1, h2, h3⟩ := m.ob n xs hS
    rw [g.ref n a h] at h1
    cases h1
    exact ⟨ws, SqL.of h2, by rw [h3.length]; exact Nat.le_refl _⟩
  yld := fun i μ2 H2 S2 x H3 hi g m hS y => by
    obtain ⟨rfl, y⟩ := y
    obtain ⟨b, ws, h1, h2, h3⟩ := m.ob n xs hS
    rw [g.ref n a h] at h1
    cases h1
    obtain ⟨d, e1, e2⟩ := h3.getV (y ws (SqL.of h2))
    exact ⟨d, e1, .refl, m, e2⟩
theorem isw_range {lo : Int} {n : Nat} : IsW K μ H (Itr lo n) ((List.range n).map fun i => .int (lo + (i : Nat))) (fun _ => True) where
  go := fun i μ2 H2 S2 hi g m _ => by show i < n; simpa using hi
  stop := fun μ2 H2 S2 g m _ => by show n ≤ _; simp
  yld := fun i μ2 H2 S2 x H3 hi g m _ y => by
    obtain ⟨rfl, rfl⟩ := y
    have hi' : i < n := by simpa using hi
    exact ⟨.int (lo + i), by simp [hi'], .refl, m, .int _⟩
end
section
variable {X : Cx} {tg : Expr} {e l a b c : Expr} {wa wb wc : WE} {wr : WA} {es : List Expr} {pos p : Pos}
def iSeq (K : PySem.W.Frag) (tl : TE) : TI := fun σ H R => tl σ H fun x H1 => ∃ a, x = .ref a ∧ (((∃ xs, SqL K H1 a xs) ∧ R (Itl K a) H1) ∨ ((∃ xs, SqT K H1 a xs) ∧ R (Itt K a) H1))
theorem pi_seq {tl : TE} (hl : PE X l tl) : PI X tg l (iSeq X.K tl) := by
  refine ⟨fun pins s σ H R I h => ?_⟩
  refine thn (hl.run pins s σ H _ I h) fun v s1 ⟨x, H1, I1, r1, q1⟩ => ?_
  obtain ⟨a, e, q⟩ := q1
  subst e
  cases r1
  rcases q with ⟨⟨xs, hq⟩, q⟩ | ⟨⟨xs, hq⟩, q⟩
  · obtain ⟨its, rv, p, hz⟩ := I1.list hq
    refine wpAny_pyIter_list p.isList ?_
    refine ⟨s1.heap.objs.size, [s1.heap.objs.size], _, _, H1, rfl, I1.kept (t' := s1.toks) fun b o e => Heap.get?_push_of_some _ e, turn_list a _, ⟨_, Heap.get?_push_size _ rfl, rfl, rfl⟩, fun b hb => ?_, q⟩
    have e : b = s1.heap.objs.size := by simpa using hb
    subst e
    exact I1.fpOk (Nat.le_refl _) (I1.hok.fresh (Nat.le_refl _))
  · obtain ⟨its, rv, p, hz⟩ := I1.tuple hq
    refine wpAny_pyIter_tuple (show s1.heap.IsTuple a its.toArray from p) ?_
    refine ⟨s1.heap.objs.size, [s1.heap.objs.size], _, _, H1, rfl, I1.kept (t' := s1.toks) fun b o e => Heap.get?_push_of_some _ e, turn_tuple a _, ⟨_, Heap.get?_push_size _ rfl, rfl, rfl⟩, fun b hb => ?_, q⟩
    have e : b = s1.heap.objs.size := by simpa using hb
    subst e
    exact I1.fpOk (Nat.le_refl _) (I1.hok.fresh (Nat.le_refl _))
theorem pi_weak {t t' : TI} (h : PI X tg e t) (hw : ∀ σ H Q, t' σ H Q → t σ H Q) : PI X tg e t' := ⟨fun pins s σ H Q I q => h.run pins s σ H Q I (hw _ _ _ q)⟩
theorem si_seq (ha : SE X l wa) : SI X tg l (wSeqI wa) := pi_weak (pi_seq ha) fun σ H R ⟨μ, S, ρ, Q0, m, en, q, p⟩ => by
  refine LE.run m en q fun d S1 μ1 v H1 q1 g1 m1 e1 r1 => ?_
  split at q1
  · cases r1 with
    | tup hh r => exact ⟨_, rfl, .inr ⟨⟨_, hh⟩, p _ _ S1 q1 μ1 _ H1 g1 m1 (isw_tup hh r)⟩⟩
  · cases r1 with
    | lst hh r => exact ⟨_, rfl, .inl ⟨⟨_, hh.imp And.left id⟩, p _ _ S1 q1 μ1 _ H1 g1 m1 (isw_lst hh r)⟩⟩
  · split at q1
    · rename_i n _ ds hn
      obtain ⟨a, ys, rfl, h1, h2, h3⟩ := m1.at hn r1
      exact ⟨_, rfl, .inl ⟨⟨_, SqL.of h2⟩, p _ _ S1 q1 μ1 _ H1 g1 m1 (isw_ref h1)⟩⟩
    · exact q1.elim
  · exact q1.elim
def intsD (lo : Int) (n : Nat) : List D := (List.range n).map fun i => .int (lo + (i : Nat))
def wRange1 (w : WA) : WI := fun ρ S Q => w ρ S fun ds S1 => match ds with | [.int n] => (-(2 ^ 62) ≤ n ∧ n < 2 ^ 62) ∧ Q (intsD 0 n.toNat) (fun _ => True) S1 | _ => False
def wRange2 (w : WA) : WI := fun ρ S Q => w ρ S fun ds S1 => match ds with | [.int i, .int j] => (-(2 ^ 62) ≤ i ∧ i < 2 ^ 62 ∧ -(2 ^ 62) ≤ j ∧ j < 2 ^ 62) ∧ Q (intsD i (j - i).toNat) (fun _ => True) S1 | _ => False
theorem si_range1 (hg : Gl X "range") (hm : X.mg "range" = none) (ha : SA X [a] wr) (hs : starEach [a] X.env = [(false, eval a X.env)] := by rfl) : SI X tg (.Call (.Name "range" p) [a] [] pos) (wRange1 wr) :=
  pi_weak (pi_range1 hg hm ha hs) fun σ H R ⟨μ, S, ρ, Q0, m, en, q, p⟩ => by
    refine LA.run m en q fun ds S1 μ1 vs H1 q1 g1 m1 e1 r1 => ?_
    split at q1
    · obtain ⟨v, rfl, r⟩ := r1.one_inv
      rw [r.int_inv]
      exact ⟨_, rfl, q1.1.1, q1.1.2, p _ _ S1 q1.2 μ1 _ H1 g1 m1 isw_range⟩
    · exact q1.elim
theorem si_range2 (hg : Gl X "range") (hm : X.mg "range" = none) (ha : SA X [a, b] wr) (hs : starEach [a, b] X.env = [(false, eval a X.env), (false, eval b X.env)] := by rfl) (hs2 : starEach [b] X.env = [(false, eval b X.env)] := by rfl) : SI X tg (.Call (.Name "range" p) [a, b] [] pos) (wRange2 wr) :=
  pi_weak (pi_range2 hg hm ha hs hs2) fun σ H R ⟨μ, S, ρ, Q0, m, en, q, p⟩ => by
    refine LA.run m en q fun ds S1 μ1 vs H1 q1 g1 m1 e1 r1 => ?_
    split at q1
    · obtain ⟨v, u, rfl, r, r2⟩ := r1.two_inv
      rw [r.int_inv, r2.int_inv]
      exact ⟨_, _, rfl, q1.1, p _ _ S1 q1.2 μ1 _ H1 g1 m1 isw_range⟩
    · exact q1.elim

/-! ### for -/
def forR (g : Tg) (wb : WS) (G : Store → Prop) (D0 : EndsD) : List D → Env → Store → Prop
  | [], ρ, S => G S ∧ D0.nx ρ S
  | x :: r, ρ, S => G S ∧ match bindT g x ρ with
    | some ρ' => wb { D0 with nx := fun ρ S => forR g wb G D0 r ρ S, ct := fun ρ S => forR g wb G D0 r ρ S, bk := D0.nx } ρ' S
    | none => False
def wFor (wi : WI) (g : Tg) (wb : WS) : WS := fun D ρ S => wi ρ S fun xs G S1 => forR g wb G D xs ρ S1
theorem forR_G {g : Tg} {wb : WS} {G : Store → Prop} {D0 : EndsD} {xs : List D} {ρ : Env} {S : Store} (h : forR g wb G D0 xs ρ S) : G S := by
  cases xs with
  | nil => exact h.1
  | cons x r => exact h.1
theorem drop_cons {xs : List D} {i : Nat} {d : D} (h : xs[i]? = some d) : xs.drop i = d :: xs.drop (i + 1) := by
  obtain ⟨hi, e⟩ := List.getElem?_eq_some_iff.mp h
  rw [List.drop_eq_getElem_cons hi, e]
theorem ss_for {iter : Expr} {body : List Stmt} {wi : WI} {g : Tg} {wb : WS} (hp : PassesOwn (model X.prog X.w) X.A X.env X.xe) (hc : X.calm = true) (hi : SI X tg iter wi) (hg : SG X tg g) (hb : SSs X body wb)
    (hs : ∀ x, foldedSetIterable iter X.env x = pure x := by intro _; rfl) : SS X (.For tg iter body [] pos) (wFor wi g wb) := ps_weak (ps_for hp hc hi hg hb hs) fun D σ H ⟨μ, S, ρ, D0, m, en, q, p⟩ => by
  refine ⟨μ, S, ρ, _, m, en, q, fun xs G S1 q1 μ1 J H1 g1 m1 w1 => ?_⟩
  refine ⟨fun i n σ' H' => n = xs.length - i ∧ i ≤ xs.length ∧ ∃ μ' S' ρ', Grow μ1 H1 μ' H' ∧ Sim X.K μ' S' H' ∧ EnvR X.K μ' H' ρ' σ' ∧ forR g wb G D0 (xs.drop i) ρ' S', ⟨xs.length, by simp, Nat.zero_le _, μ1, S1, ρ, .refl, m1, en.grow g1, by simpa using q1⟩, ?_⟩
  rintro i n σ' H' ⟨rfl, hi, μ', S', ρ', g2, m2, e2, f⟩
  have hG := forR_G f
  by_cases hlt : i < xs.length
  · refine .inr ⟨w1.go i μ' H' S' hlt g2 m2 hG, fun σ2 H2 => ∃ μ2 S2 ρ2, Grow μ1 H1 μ2 H2 ∧ Sim X.K μ2 S2 H2 ∧ EnvR X.K μ2 H2 ρ2 σ2 ∧ forR g wb G D0 (xs.drop (i + 1)) ρ2 S2, fun σ2 H2 h => ⟨xs.length - (i + 1), by omega, rfl, hlt, h⟩, fun x H3 y => ?_⟩
    obtain ⟨d, hd, g3, m3, r3⟩ := w1.yld i μ' H' S' x H3 hlt g2 m2 hG y
    rw [drop_cons hd] at f
    obtain ⟨_, f⟩ := f
    split at f
    · rename_i ρ3 hb3
      refine bind_ok [] g d ρ' ρ3 x σ' _ hb3 r3 (e2.grow g3) fun σ3 e3 _ => ?_
      refine ⟨μ', S', ρ3, _, m3, e3, f, fun ρ4 S4 q4 μ4 σ4 H4 g4 m4 e4 => ⟨μ4, S4, ρ4, g2.trans (g3.trans g4), m4, e4, q4⟩, p.rt.go (g1.trans (g2.trans g3)), fun ρ4 S4 q4 μ4 σ4 H4 g4 m4 e4 => p.nx ρ4 S4 q4 μ4 σ4 H4 (g1.trans (g2.trans (g3.trans g4))) m4 e4,
        fun ρ4 S4 q4 μ4 σ4 H4 g4 m4 e4 => ⟨μ4, S4, ρ4, g2.trans (g3.trans g4), m4, e4, q4⟩⟩
    · exact f.elim
  · have e : i = xs.length := by omega
    subst e
    rw [List.drop_of_length_le (Nat.le_refl _)] at f
    exact .inl ⟨w1.stop μ' H' S' g2 m2 hG, p.nx ρ' S' f.2 μ' σ' H' (g1.trans g2) m2 e2⟩

/-! ### while -/
def wWhile (c : WT) (wb : WS) : WS := fun D ρ S => ∃ W : Nat → Env → Store → Prop, (∃ n, W n ρ S) ∧ ∀ n ρ S, W n ρ S →
  c ρ S fun k S1 => if k = true then wb { D with nx := fun ρ' S' => ∃ n', n' < n ∧ W n' ρ' S', ct := fun ρ' S' => ∃ n', n' < n ∧ W n' ρ' S', bk := D.nx } ρ S1 else D.nx ρ S1
theorem ss_while {body : List Stmt} {wt : WT} {wb : WS} (hp : PassesOwn (model X.prog X.w) X.A X.env X.xe) (hc : ST X c wt) (hb : SSs X body wb) : SS X (.While c body [] pos) (wWhile wt wb) := ps_weak (ps_while hp hc hb) fun D σ H ⟨μ, S, ρ, D0, m, en, q, p⟩ => by
  obtain ⟨W, ⟨n0, w0⟩, turn⟩ := q
  refine ⟨fun n σ' H' => ∃ μ' S' ρ', Grow μ H μ' H' ∧ Sim X.K μ' S' H' ∧ EnvR X.K μ' H' ρ' σ' ∧ W n ρ' S', ⟨n0, μ, S, ρ, .refl, m, en, w0⟩, ?_⟩
  rintro n σ' H' ⟨μ', S', ρ', g, m', e', w⟩
  refine LT.run m' e' (turn n ρ' S' w) fun k S1 μ1 H1 q1 g1 m1 e1 => ?_
  cases k with
  | true =>
    refine ⟨fun σ2 H2 => ∃ n', n' < n ∧ ∃ μ2 S2 ρ2, Grow μ H μ2 H2 ∧ Sim X.K μ2 S2 H2 ∧ EnvR X.K μ2 H2 ρ2 σ2 ∧ W n' ρ2 S2, fun σ2 H2 h => h, ?_⟩
    exact ⟨μ1, S1, ρ', _, m1, e1, q1, fun ρ4 S4 ⟨n', hn, q4⟩ μ4 σ4 H4 g4 m4 e4 => ⟨n', hn, μ4, S4, ρ4, g.trans (g1.trans g4), m4, e4, q4⟩, p.rt.go (g.trans g1),
      fun ρ4 S4 q4 μ4 σ4 H4 g4 m4 e4 => p.nx ρ4 S4 q4 μ4 σ4 H4 (g.trans (g1.trans g4)) m4 e4, fun ρ4 S4 ⟨n', hn, q4⟩ μ4 σ4 H4 g4 m4 e4 => ⟨n', hn, μ4, S4, ρ4, g.trans (g1.trans g4), m4, e4, q4⟩⟩
  | false => exact p.nx ρ' S1 q1 μ1 σ' H1 (g.trans g1) m1 e1

/-! ### methods of lists of the store -/
abbrev RM := D → List D → Store → (D → Store → Prop) → Prop
def isL (x : D) (S : Store) : Prop := match x with | .lst _ => True | .ref n => (match S[n]? with | some (.lst _) => True | _ => False) | _ => False
def wMeth (R : RM) (wo : WE) (wr : WA) : WE := fun ρ S Q => wo ρ S fun x S1 => isL x S1 ∧ wr ρ S1 fun ds S2 => R x ds S2 Q
def wMeth0 (R : RM) (wo : WE) : WE := fun ρ S Q => wo ρ S fun x S1 => isL x S1 ∧ R x [] S1 Q
def MethD (K : PySem.W.Frag) (r : V → List V → Hp → VK → Prop) (R : RM) : Prop := ∀ (μ : Mu) (S : Store) (H : Hp) (x : D) (v : V) (ds : List D) (vs : List V) (Q0 : D → Store → Prop) (Q : VK), Sim K μ S H → Rep K μ H x v → RepAll K μ H ds vs → R x ds S Q0 → Post K μ H Q0 Q → r v vs H Q
theorem isL_ty {K : PySem.W.Frag} {μ : Mu} {S : Store} {H : Hp} {x : D} {v : V} (m : Sim K μ S H) (r : Rep K μ H x v) (h : isL x S) : tyV K "list" v H := by
  cases r with
  | lst hh r => exact .inl ⟨rfl, _, hh.imp And.left id⟩
  | ref hn =>
    rename_i n a
    have h' : (match S[n]? with | some (.lst _) => True | _ => False) := h
    split at h'
    · rename_i ds hd
      obtain ⟨a', xs, e, h1, h2, h3⟩ := m.at hd (.ref hn)
      cases e
      exact .inl ⟨rfl, _, SqL.of h2⟩
    · exact h'.elim
  | _ => exact h.elim
theorem se_meth {r : V → List V → Hp → VK → Prop} {R : RM} (hd : MethD X.K r R) (hp : PE X e (tBM X.K "list" r (LE X.K wa) (LA X.K wr))) : SE X e (wMeth R wa wr) := pe_weak hp fun σ H Q ⟨μ, S, ρ, Q0, m, en, q, p⟩ => by
  refine LE.run m en q fun x S1 μ1 v H1 q1 g1 m1 e1 r1 => ⟨isL_ty m1 r1 q1.1, ?_⟩
  refine LA.run m1 e1 q1.2 fun ds S2 μ2 vs H2 q2 g2 m2 e2 r2 => ?_
  exact hd μ2 S2 H2 x v ds vs Q0 Q m2 (r1.grow g2) r2 q2 (p.go (g1.trans g2))
theorem se_meth0 {r : V → List V → Hp → VK → Prop} {R : RM} (hd : MethD X.K r R) (hp : PE X e (tBM0 X.K "list" r (LE X.K wa))) : SE X e (wMeth0 R wa) := pe_weak hp fun σ H Q ⟨μ, S, ρ, Q0, m, en, q, p⟩ => by
  refine LE.run m en q fun x S1 μ1 v H1 q1 g1 m1 e1 r1 => ⟨isL_ty m1 r1 q1.1, ?_⟩
  exact hd μ1 S1 H1 x v [] [] Q0 Q m1 r1 .nil q1.2 (p.go g1)
def mAppend : RM
  | .ref n, [d], S, Q => match S[n]? with | some (.lst xs) => xs.length < sizeLine ∧ Q .non (S.set n (.lst (xs ++ [d]))) | _ => False
  | _, _, _, _ => False
/-- pop(k), k from 0 on -/
def mPopAt : RM
  | .ref n, [.int i], S, Q => match S[n]? with
    | some (.lst xs) => (match i with | .ofNat k => (match xs[k]? with | some y => k < 2 ^ 62 ∧ Q y (S.set n (.lst (xs.eraseIdx k))) | none => False) | .negSucc _ => False)
    | _ => False
  | _, _, _, _ => False
def mPop : RM
  | .ref n, [], S, Q => match S[n]? with
    | some (.lst xs) => (match xs[xs.length - 1]? with | some y => Q y (S.set n (.lst xs.dropLast)) | none => False)
    | _ => False
  | _, _, _, _ => False
theorem md_append {K : PySem.W.Frag} : MethD K rAppend mAppend := by
  intro μ S H x v ds vs Q0 Q m rx r q p
  unfold mAppend at q
  split at q
  · rename_i n d
    split at q
    · rename_i xs hn
      obtain ⟨a, ys, rfl, h1, h2, h3⟩ := m.at hn rx
      obtain ⟨v, rfl, rd⟩ := r.one_inv
      exact ⟨a, ys, v, rfl, rfl, h2, by rw [← h3.length]; exact q.1, p _ _ q.2 _ _ _ (.put m h1 h2) (m.put h1 h2 (h3.append (.one rd))) .non⟩
    · exact q.elim
  · exact q.elim
theorem md_popAt {K : PySem.W.Frag} : MethD K rPopAt mPopAt := by
  intro μ S H x v ds vs Q0 Q m rx r q p
  unfold mPopAt at q
  split at q
  · rename_i n i
    split at q
    · rename_i xs hn
      obtain ⟨a, ys, rfl, h1, h2, h3⟩ := m.at hn rx
      obtain ⟨v, rfl, rd⟩ := r.one_inv
      rw [rd.int_inv]
      split at q
      · rename_i k
        split at q
        · rename_i y hy
          obtain ⟨w, hw, rw'⟩ := h3.get hy
          have hk : k < ys.length := (List.getElem?_eq_some_iff.mp hw).1
          have q1 := q.1
          have hix : ixN ys.length (Int.ofNat k) = some k := by unfold ixN; rw [if_pos (by show (0 : Int) ≤ (k : Int); omega), if_pos (by show (k : Int) < _; omega)]; rfl
          exact ⟨a, ys, Int.ofNat k, k, w, rfl, rfl, h2, by show -(2 ^ 63) ≤ (k : Int); omega, by show (k : Int) < 2 ^ 63; omega, (ixN_seq hix).1, hw, p _ _ q.2 _ _ _ (.put m h1 h2) (m.put h1 h2 (h3.eraseIdx k)) (rw'.grow (.put m h1 h2))⟩
        · exact q.elim
      · exact q.elim
    · exact q.elim
  · exact q.elim
theorem md_pop {K : PySem.W.Frag} : MethD K rPop mPop := by
  intro μ S H x v ds vs Q0 Q m rx r q p
  unfold mPop at q
  split at q
  · rename_i n
    split at q
    · rename_i xs hn
      obtain ⟨a, ys, rfl, h1, h2, h3⟩ := m.at hn rx
      cases r
      split at q
      · rename_i y hy
        obtain ⟨w, hw, rw'⟩ := h3.get hy
        rw [h3.length] at hw
        exact ⟨a, ys, w, rfl, rfl, h2, hw, p _ _ q _ _ _ (.put m h1 h2) (m.put h1 h2 h3.dropLast) (rw'.grow (.put m h1 h2))⟩
      · exact q.elim
    · exact q.elim
  · exact q.elim
end
end DL

set_option maxHeartbeats 4000000
namespace DL
open PySem PySem.Spec PyProof.Rows L2

/-! ### comprehensions -/
def wipeD (ρ : Env) : List Nat → Env
  | [] => ρ
  | v :: vs => (wipeD ρ vs).set v none
theorem wipe_R {K : PySem.W.Frag} {μ : Mu} {H : Hp} {ρ : Env} {σ : L2.St} (h : EnvR K μ H ρ σ) : ∀ vs : List Nat, EnvR K μ H (wipeD ρ vs) (wipe σ vs)
  | [] => h
  | v :: vs => by
    have ih := wipe_R h vs
    refine ⟨by simpa [wipeD, wipe] using ih.1, fun i d e => ?_⟩
    unfold wipeD at e
    unfold wipe
    by_cases hi : v = i
    · subst hi
      rw [List.getElem?_set] at e
      simp only [if_true] at e
      split at e
      · cases e
      · cases e
    · rw [List.getElem?_set_ne hi] at e
      rw [List.getElem?_set_ne hi]
      exact ih.2 i d e
abbrev STs (X : Cx) (ifs : List Expr) (w : WT) : Prop := PTs X ifs (LT X.K w)
def wYes : WT := fun _ S Q => Q true S
section
variable {X : Cx} {ifs : List Expr} {c : Expr} {w : WT}
theorem sts_nil : STs X [] wYes := ⟨fun pins s σ H Q I ⟨μ, S, ρ, Q0, m, en, q, p⟩ => pts_nil.run pins s σ H Q I (p true S q μ H .refl m)⟩
theorem sts_one (h : ST X c w) : STs X [c] w := pts_one h
end
def compR (g : Tg) (wt : WT) (we : WE) (G : Store → Prop) (ρ0 : Env) (Q : D → Store → Prop) : List D → List D → Store → Prop
  | [], acc, S => G S ∧ Q (.lst acc) S
  | x :: r, acc, S => G S ∧ match bindT g x ρ0 with
    | some ρ2 => wt ρ2 S fun k S1 => if k = true then we ρ2 S1 fun d S2 => acc.length < sizeLine ∧ compR g wt we G ρ0 Q r (acc ++ [d]) S2 else compR g wt we G ρ0 Q r acc S1
    | none => False
def wComp (wi : WI) (g : Tg) (wt : WT) (we : WE) (vs : List Nat) : WE := fun ρ S Q => wi ρ S fun xs G S1 => compR g wt we G (wipeD ρ vs) Q xs [] S1
theorem compR_G {g : Tg} {wt : WT} {we : WE} {G : Store → Prop} {ρ0 : Env} {Q : D → Store → Prop} {xs acc : List D} {S : Store} (h : compR g wt we G ρ0 Q xs acc S) : G S := by
  cases xs with
  | nil => exact h.1
  | cons x r => exact h.1
/-- a list that is being made: kept apart -/
def Mu.res (μ : Mu) (a : Addr) : Mu := ⟨μ.sl, a :: μ.rs⟩
def Mu.unres (μ : Mu) (a : Addr) : Mu := ⟨μ.sl, μ.rs.filter (· != a)⟩
section
variable {K : PySem.W.Frag} {μ μ1 : Mu} {H H1 : Hp} {S S1 : Store} {p : Addr}
theorem Grow.res {o : HO} (hp : H p = none) : Grow μ H (μ.res p) (upd H p o) :=
  ⟨fun _ _ h => rd_new h hp, fun a xs h n => ⟨rd_new h hp, fun z => by
    rcases z with z | z
    · exact n (.inl z)
    · rcases List.mem_cons.mp z with z | z
      · exact rd_ne h hp z
      · exact n (.inr z)⟩, fun _ _ h => h, fun a h => ⟨List.mem_cons_of_mem _ h, fun u z => by rw [upd_ne (ne_of_none z hp)]; exact z⟩⟩
theorem Sim.res {o : HO} (m : Sim K μ S H) (hp : H p = none) : Sim K (μ.res p) S (upd H p o) :=
  ⟨m.len, m.inj, fun n a h => by
    obtain ⟨⟨u, hu⟩, hr⟩ := m.trk n a h
    have na := ne_of_none hu hp
    refine ⟨⟨u, by rw [upd_ne na]; exact hu⟩, fun z => ?_⟩
    rcases List.mem_cons.mp z with z | z
    · exact na z
    · exact hr z,
   fun a h => by
    rcases List.mem_cons.mp h with z | z
    · subst z; exact ⟨_, upd_same⟩
    · obtain ⟨u, hu⟩ := m.trs a z
      exact ⟨u, by rw [upd_ne (ne_of_none hu hp)]; exact hu⟩,
   fun n ds h => by
    obtain ⟨a, xs, h1, h2, h3⟩ := m.ob n ds h
    exact ⟨a, xs, h1, by rw [upd_ne (ne_of_none h2 hp)]; exact h2, h3.grow (.res hp)⟩⟩
/-- the kept list is written -/
theorem Grow.wr {xs ys : List V} (hp : p ∈ μ.rs) (ha : H p = some (.lst xs)) (g : Grow μ1 H1 μ H) (h1 : p ∉ μ1.rs) (hn : H1 p = none) : Grow μ1 H1 μ (upd H p (.lst ys)) :=
  ⟨fun a zs h => by
    have na : a ≠ p := rd_ne h hn
    rcases g.tup a zs h with h | ⟨o, h⟩
    · exact .inl (by rw [upd_ne na]; exact h)
    · exact .inr ⟨o, by rw [upd_ne na]; exact h⟩,
   fun a zs h n => by
    have na : a ≠ p := rd_ne h hn
    obtain ⟨h2, n2⟩ := g.lst a zs h n
    refine ⟨?_, n2⟩
    rcases h2 with h | ⟨o, h⟩
    · exact .inl (by rw [upd_ne na]; exact h)
    · exact .inr ⟨o, by rw [upd_ne na]; exact h⟩,
   g.ref, fun a h => by
    have na : a ≠ p := fun e => h1 (by rw [← e]; exact h)
    obtain ⟨h2, e2⟩ := g.rs a h
    exact ⟨h2, fun o z => by rw [upd_ne na]; exact e2 o z⟩⟩
theorem Rep.wr {xs ys : List V} (hp : p ∈ μ.rs) (ha : H p = some (.lst xs)) : Grow μ H μ (upd H p (.lst xs)) := by
  have e : upd H p (.lst xs) = H := by
    funext b
    by_cases hb : b = p
    · subst hb; rw [upd_same, ha]
    · rw [upd_ne hb]
  rw [e]
  exact .refl
end
section
variable {K : PySem.W.Frag} {μ : Mu} {H : Hp} {p : Addr} {xs ys : List V}
mutual
theorem Rep.wrA (hp : p ∈ μ.rs) (ha : H p = some (.lst xs)) : ∀ {d : D} {v : V}, Rep K μ H d v → Rep K μ (upd H p (.lst ys)) d v
  | _, _, .non => .non
  | _, _, .bl b => .bl b
  | _, _, .int i => .int i
  | _, _, .str x => .str x
  | _, _, .tup h r => .tup (h.imp (fun z => by
      rcases z with z | ⟨o, z⟩
      · exact .inl (by rw [upd_ne (ne_of z ha (by intro q; cases q))]; exact z)
      · exact .inr ⟨o, by rw [upd_ne (ne_of z ha (by intro q; cases q))]; exact z⟩) id) (RepAll.wrA hp ha r)
  | _, _, .lst h r => .lst (h.imp (fun z => by
      obtain ⟨z, n⟩ := z
      have na := (fun (b : Addr) (n : ¬ μ.has b) (e : b = p) => n (.inr (by rw [e]; exact hp)) : ∀ b, ¬ μ.has b → b ≠ p) _ n
      refine ⟨?_, n⟩
      rcases z with z | ⟨o, z⟩
      · exact .inl (by rw [upd_ne na]; exact z)
      · exact .inr ⟨o, by rw [upd_ne na]; exact z⟩) id) (RepAll.wrA hp ha r)
  | _, _, .ref h => .ref h
theorem RepAll.wrA (hp : p ∈ μ.rs) (ha : H p = some (.lst xs)) : ∀ {ds : List D} {vs : List V}, RepAll K μ H ds vs → RepAll K μ (upd H p (.lst ys)) ds vs
  | _, _, .nil => .nil
  | _, _, .cons r t => .cons (Rep.wrA hp ha r) (RepAll.wrA hp ha t)
end
theorem Sim.wr {S : Store} (m : Sim K μ S H) (hp : p ∈ μ.rs) (ha : H p = some (.lst xs)) : Sim K μ S (upd H p (.lst ys)) :=
  ⟨m.len, m.inj, fun n a h => by
    obtain ⟨⟨u, hu⟩, hr⟩ := m.trk n a h
    exact ⟨⟨u, by rw [upd_ne (fun e => hr (by rw [e]; exact hp))]; exact hu⟩, hr⟩,
   fun a h => by
    obtain ⟨u, hu⟩ := m.trs a h
    by_cases e : a = p
    · subst e; exact ⟨_, upd_same⟩
    · exact ⟨u, by rw [upd_ne e]; exact hu⟩,
   fun n ds h => by
    obtain ⟨a, xs, h1, h2, h3⟩ := m.ob n ds h
    exact ⟨a, xs, h1, by rw [upd_ne (fun e => (m.trk n a h1).2 (by rw [e]; exact hp))]; exact h2, h3.wrA hp ha⟩⟩
/-- the list is done: it is kept apart no more -/
theorem Grow.unres {μ1 : Mu} {H1 : Hp} (g : Grow μ1 H1 μ H) (h1 : p ∉ μ1.rs) : Grow μ1 H1 (μ.unres p) H :=
  ⟨g.tup, fun a xs h n => by
    obtain ⟨h2, n2⟩ := g.lst a xs h n
    refine ⟨h2, fun z => n2 ?_⟩
    rcases z with z | z
    · exact .inl z
    · exact .inr (List.mem_filter.mp z).1,
   g.ref, fun a h => by
    obtain ⟨h2, e2⟩ := g.rs a h
    exact ⟨List.mem_filter.mpr ⟨h2, by simp; exact fun e => h1 (by rw [← e]; exact h)⟩, e2⟩⟩
mutual
theorem Rep.unres : ∀ {d : D} {v : V}, Rep K μ H d v → Rep K (μ.unres p) H d v
  | _, _, .non => .non
  | _, _, .bl b => .bl b
  | _, _, .int i => .int i
  | _, _, .str x => .str x
  | _, _, .tup h r => .tup h (RepAll.unres r)
  | _, _, .lst h r => .lst (h.imp (fun z => ⟨z.1, fun q => z.2 (q.imp id fun q => (List.mem_filter.mp q).1)⟩) id) (RepAll.unres r)
  | _, _, .ref h => .ref h
theorem RepAll.unres : ∀ {ds : List D} {vs : List V}, RepAll K μ H ds vs → RepAll K (μ.unres p) H ds vs
  | _, _, .nil => .nil
  | _, _, .cons r t => .cons (Rep.unres r) (RepAll.unres t)
end
theorem Sim.unres {S : Store} (m : Sim K μ S H) : Sim K (μ.unres p) S H :=
  ⟨m.len, m.inj, fun n a h => let ⟨h1, h2⟩ := m.trk n a h; ⟨h1, fun q => h2 (List.mem_filter.mp q).1⟩, fun a h => m.trs a (List.mem_filter.mp h).1,
    fun n ds h => let ⟨a, xs, h1, h2, h3⟩ := m.ob n ds h; ⟨a, xs, h1, h2, h3.unres⟩⟩
end

section
variable {X : Cx} {elt tg iter : Expr} {ifs : List Expr} {scope : Scope} {own : List (Str × Nat)} {pos spos : Pos} {wi : WI} {g : Tg} {wt : WT} {we : WE}
/-- the reading of a comprehension, whatever is done with the new list -/
theorem comp_gen {K : PySem.W.Frag} {vs : List Nat} (hsl : ∀ i ∈ g.slots, i ∈ vs) {σ : L2.St} {H : Hp} {Q : VK} {μ : Mu} {S : Store} {ρ : Env} {Q0 : D → Store → Prop} (m : Sim K μ S H) (en : EnvR K μ H ρ σ) (q : wComp wi g wt we vs ρ S Q0)
    (fin : ∀ μ1 H1 Dl acc S' μ' H' ys, Grow μ H μ1 H1 → H1 Dl = none → Dl ∉ μ1.rs → Q0 (.lst acc) S' → Grow μ1 H1 μ' H' → Sim K μ' S' H' → Dl ∈ μ'.rs → H' Dl = some (.lst ys) → RepAll K μ' H' acc ys → Q (.ref Dl) H') : tLc (LI K wi) (g.toV K) (LT K wt) (LE K we) vs σ H Q := by
  refine ⟨μ, S, ρ, _, m, en, q, fun xs G S1 q1 μ1 J H1 g1 m1 w1 => fun Dl hD => ?_⟩
  have nD : Dl ∉ μ1.rs := fun z => m1.notin hD (.inr z)
  have nDs : ¬ μ1.has Dl := m1.notin hD
  refine ⟨fun i n H' => n = xs.length - i ∧ i ≤ xs.length ∧ ∃ μ' S' acc ys, Grow μ1 H1 μ' H' ∧ Sim K μ' S' H' ∧ Dl ∈ μ'.rs ∧ H' Dl = some (.lst ys) ∧ RepAll K μ' H' acc ys ∧ compR g wt we G (wipeD ρ vs) Q0 (xs.drop i) acc S',
    ⟨xs.length, by simp, Nat.zero_le _, μ1.res Dl, S1, [], [], .res hD, m1.res hD, List.mem_cons_self, upd_same, .nil, by simpa using q1⟩, ?_⟩
  rintro i n H' ⟨rfl, hi, μ', S', acc, ys, g2, m2, hDl, hH, r2, f⟩
  have hG := compR_G f
  by_cases hlt : i < xs.length
  · refine .inr ⟨w1.go i μ' H' S' hlt g2 m2 hG, fun H2 => ∃ μ2 S2 acc2 ys2, Grow μ1 H1 μ2 H2 ∧ Sim K μ2 S2 H2 ∧ Dl ∈ μ2.rs ∧ H2 Dl = some (.lst ys2) ∧ RepAll K μ2 H2 acc2 ys2 ∧ compR g wt we G (wipeD ρ vs) Q0 (xs.drop (i + 1)) acc2 S2, fun H2 h => ⟨xs.length - (i + 1), by omega, rfl, hlt, h⟩, fun x H3 y => ?_⟩
    obtain ⟨d, hd, g3, m3, r3⟩ := w1.yld i μ' H' S' x H3 hlt g2 m2 hG y
    rw [drop_cons hd] at f
    obtain ⟨_, f⟩ := f
    split at f
    · rename_i ρ3 hb3
      have en1 := wipe_R (en.grow (g1.trans (g2.trans g3))) vs
      refine bind_ok vs g d (wipeD ρ vs) ρ3 x (wipe σ vs) _ hb3 r3 en1 fun σ3 e3 hw3 => ⟨?_, ?_⟩
      · have e : wipe σ3 vs = wipe (wipe σ vs) vs := hw3 hsl
        rw [e]
        apply List.ext_getElem?
        intro j
        by_cases hj : ∃ z, (wipe (wipe σ vs) vs)[j]? = some (some z)
        · obtain ⟨z, hz⟩ := hj
          rw [hz, (wipe_some hz).1]
        · by_cases hj2 : ∃ z, (wipe σ vs)[j]? = some (some z)
          · obtain ⟨z, hz⟩ := hj2
            have hn := (wipe_some hz).2
            exact absurd ⟨z, by rw [wipe_out hn]; exact hz⟩ hj
          · have l1 := wipe_length (wipe σ vs) vs
            rcases h1 : (wipe (wipe σ vs) vs)[j]? with _ | (_ | z)
            · have : (wipe σ vs).length ≤ j := by rw [← l1]; exact List.getElem?_eq_none_iff.mp h1
              rw [List.getElem?_eq_none this]
            · rcases h2 : (wipe σ vs)[j]? with _ | (_ | z)
              · have : (wipe σ vs).length ≤ j := List.getElem?_eq_none_iff.mp h2
                rw [List.getElem?_eq_none (by rw [l1]; exact this)] at h1
                cases h1
              · rfl
              · exact absurd ⟨z, h2⟩ hj2
            · exact absurd ⟨z, h1⟩ hj
      · have hH3 : H3 Dl = some (.lst ys) := (g3.rs Dl hDl).2 _ hH
        refine LT.run m3 e3 f fun k S4 μ4 H4 q4 g4 m4 e4 => ?_
        obtain ⟨hDl4, hk4⟩ := g4.rs Dl hDl
        have hH4 := hk4 _ hH3
        have r4 := r2.grow (g3.trans g4)
        cases k with
        | true =>
          refine LE.run m4 e4 q4 fun dd S5 μ5 v H5 q5 g5 m5 e5 r5 => ?_
          obtain ⟨hDl5, hk5⟩ := g5.rs Dl hDl4
          have hH5 := hk5 _ hH4
          have ra := (r4.grow g5).append (.one r5)
          exact ⟨ys, hH5, by rw [← r2.length]; exact q5.1, μ5, S5, acc ++ [dd], ys ++ [v], (g2.trans (g3.trans (g4.trans g5))).wr hDl5 hH5 nD hD, m5.wr hDl5 hH5, hDl5, upd_same, ra.wrA hDl5 hH5, q5.2⟩
        | false => exact ⟨μ4, S4, acc, ys, g2.trans (g3.trans g4), m4, hDl4, hH4, r4, q4⟩
    · exact f.elim
  · have e : i = xs.length := by omega
    subst e
    rw [List.drop_of_length_le (Nat.le_refl _)] at f
    exact .inl ⟨w1.stop μ' H' S' g2 m2 hG, fin μ1 H1 Dl acc S' μ' H' ys g1 hD nD f.2 g2 m2 hDl hH r2⟩
theorem comp_ok {K : PySem.W.Frag} {vs : List Nat} (hsl : ∀ i ∈ g.slots, i ∈ vs) {σ : L2.St} {H : Hp} {Q : VK} (h : LE K (wComp wi g wt we vs) σ H Q) : tLc (LI K wi) (g.toV K) (LT K wt) (LE K we) vs σ H Q := by
  obtain ⟨μ, S, ρ, Q0, m, en, q, p⟩ := h
  refine comp_gen hsl m en q fun μ1 H1 Dl acc S' μ' H' ys g1 hD nD q' g2 m2 hDl hH r2 => ?_
  refine p _ S' q' (μ'.unres Dl) _ H' (g1.trans (g2.unres nD)) m2.unres (.lst (.inl ⟨.inl hH, fun z => ?_⟩) r2.unres)
  rcases z with z | z
  · obtain ⟨n, hn⟩ := List.getElem?_of_mem z
    exact (m2.trk n Dl hn).2 hDl
  · have := (List.mem_filter.mp z).2
    simp at this
/-- a comprehension whose list is an object of the store -/
def wCompN (wi : WI) (g : Tg) (wt : WT) (we : WE) (vs : List Nat) : WE := fun ρ S Q => wComp wi g wt we vs ρ S fun d S1 => match d with | .lst ds => ds.length ≤ sizeLine ∧ Q (.ref S1.length) (S1 ++ [.lst ds]) | _ => False
def Mu.join (μ : Mu) (p : Addr) : Mu := (μ.unres p).add p
theorem join_has {μ : Mu} {p a : Addr} (n : ¬ μ.has a) (hp : p ∈ μ.rs) : ¬ (μ.join p).has a := fun z => by
  rcases z with z | z
  · rcases List.mem_append.mp (show some a ∈ μ.sl ++ [some p] from z) with z | z
    · exact n (.inl z)
    · have e : a = p := by simpa using z
      exact n (.inr (by rw [e]; exact hp))
  · exact n (.inr (List.mem_filter.mp z).1)
theorem join_get {μ : Mu} {p a : Addr} {n : Nat} (h : μ.sl[n]? = some (some a)) : (μ.join p).sl[n]? = some (some a) := by
  show (μ.sl ++ [some p])[n]? = _
  rw [List.getElem?_append_left (List.getElem?_eq_some_iff.mp h).1]
  exact h
mutual
theorem Rep.join {K : PySem.W.Frag} {μ : Mu} {H : Hp} {p : Addr} (hp : p ∈ μ.rs) : ∀ {d : D} {v : V}, Rep K μ H d v → Rep K (μ.join p) H d v
  | _, _, .non => .non
  | _, _, .bl b => .bl b
  | _, _, .int i => .int i
  | _, _, .str x => .str x
  | _, _, .tup h r => .tup h (RepAll.join hp r)
  | _, _, .lst h r => .lst (h.imp (fun z => ⟨z.1, join_has z.2 hp⟩) id) (RepAll.join hp r)
  | _, _, .ref h => .ref (join_get h)
theorem RepAll.join {K : PySem.W.Frag} {μ : Mu} {H : Hp} {p : Addr} (hp : p ∈ μ.rs) : ∀ {ds : List D} {vs : List V}, RepAll K μ H ds vs → RepAll K (μ.join p) H ds vs
  | _, _, .nil => .nil
  | _, _, .cons r t => .cons (Rep.join hp r) (RepAll.join hp t)
end
theorem Sim.join {K : PySem.W.Frag} {μ : Mu} {H : Hp} {p : Addr} {S : Store} {ds : List D} {xs : List V} (m : Sim K μ S H) (hp : p ∈ μ.rs) (ha : H p = some (.lst xs)) (r : RepAll K μ H ds xs) : Sim K (μ.join p) (S ++ [.lst ds]) H := by
  have back : ∀ (i : Nat) (a : Addr), (μ.join p).sl[i]? = some (some a) → (μ.sl[i]? = some (some a) ∧ a ≠ p) ∨ (i = μ.sl.length ∧ a = p) := fun i a h => by
    replace h : (μ.sl ++ [some p])[i]? = some (some a) := h
    by_cases hi : i < μ.sl.length
    · rw [List.getElem?_append_left hi] at h
      refine .inl ⟨h, fun e => ?_⟩
      subst e
      exact (m.trk i a h).2 hp
    · rw [List.getElem?_append_right (by omega)] at h
      have e := (List.getElem?_eq_some_iff.mp h)
      obtain ⟨hl, e⟩ := e
      have : i - μ.sl.length = 0 := by simp at hl; omega
      refine .inr ⟨by omega, ?_⟩
      simp [this] at e
      exact e.symm
  refine ⟨by simp [Mu.join, Mu.add, Mu.unres, m.len], fun i j a h1 h2 => ?_, fun n a h => ?_, fun a h => m.trs a (List.mem_filter.mp h).1, fun n es h => ?_⟩
  · rcases back i a h1 with ⟨x, nx⟩ | ⟨x, nx⟩ <;> rcases back j a h2 with ⟨y, ny⟩ | ⟨y, ny⟩
    · exact m.inj i j a x y
    · exact absurd ny nx
    · exact absurd nx ny
    · omega
  · rcases back n a h with ⟨x, nx⟩ | ⟨_, nx⟩
    · obtain ⟨h1, h2⟩ := m.trk n a x
      exact ⟨h1, fun z => h2 (List.mem_filter.mp z).1⟩
    · subst nx
      exact ⟨⟨_, ha⟩, fun z => by have := (List.mem_filter.mp z).2; simp at this⟩
  · by_cases hn : n < S.length
    · rw [List.getElem?_append_left hn] at h
      obtain ⟨a, ys, h1, h2, h3⟩ := m.ob n es h
      exact ⟨a, ys, join_get h1, h2, h3.join hp⟩
    · rw [List.getElem?_append_right (by omega)] at h
      have e := (List.getElem?_eq_some_iff.mp h)
      obtain ⟨hl, e⟩ := e
      have q : n - S.length = 0 := by simp at hl; omega
      simp [q] at e
      subst e
      refine ⟨p, xs, ?_, ha, r.join hp⟩
      show (μ.sl ++ [some p])[n]? = _
      rw [List.getElem?_append_right (by rw [m.len]; omega)]
      have q' : n - μ.sl.length = 0 := by rw [m.len]; omega
      rw [q']
      rfl
theorem Grow.join {μ μ1 : Mu} {H H1 : Hp} {p : Addr} (g : Grow μ1 H1 μ H) (hp : p ∈ μ.rs) (h1 : p ∉ μ1.rs) : Grow μ1 H1 (μ.join p) H :=
  ⟨g.tup, fun a xs h n => let ⟨h2, n2⟩ := g.lst a xs h n; ⟨h2, join_has n2 hp⟩, fun n a h => join_get (g.ref n a h), fun a h => by
    obtain ⟨h2, e2⟩ := g.rs a h
    exact ⟨List.mem_filter.mpr ⟨h2, by simp; exact fun e => h1 (by rw [← e]; exact h)⟩, e2⟩⟩
theorem compN_ok {K : PySem.W.Frag} {vs : List Nat} (hsl : ∀ i ∈ g.slots, i ∈ vs) {σ : L2.St} {H : Hp} {Q : VK} (h : LE K (wCompN wi g wt we vs) σ H Q) : tLc (LI K wi) (g.toV K) (LT K wt) (LE K we) vs σ H Q := by
  obtain ⟨μ, S, ρ, Q0, m, en, q, p⟩ := h
  refine comp_gen hsl m en q fun μ1 H1 Dl acc S' μ' H' ys g1 hD nD q' g2 m2 hDl hH r2 => ?_
  exact p _ _ q'.2 (μ'.join Dl) _ H' (g1.trans (g2.join hDl nD)) (m2.join hDl hH r2) (.ref (by
    show (μ'.sl ++ [some Dl])[S'.length]? = _
    rw [← m2.len]
    simp))
theorem se_lc {vs : List Nat} (hc : X.calm = true) (hN : X.N.Nodup) (hi : SI X tg iter wi) (ok : BlkOk X.N X.env.scope scope own) (hv : own.map (·.2) = vs) (hsl : ∀ i ∈ g.slots, i ∈ vs)
    (hg : ∀ (s : Shared) (H : Hp) (C : Addr) (cl : List (Str × Addr)) (fp : List Addr), SG (X.blk s H scope (compEnvC scope cl C X.env) fp) tg g) (ht : ∀ (s : Shared) (H : Hp) (C : Addr) (cl : List (Str × Addr)) (fp : List Addr), STs (X.blk s H scope (compEnvC scope cl C X.env) fp) ifs wt)
    (he : ∀ (s : Shared) (H : Hp) (C : Addr) (cl : List (Str × Addr)) (fp : List Addr), SE (X.blk s H scope (compEnvC scope cl C X.env) fp) elt we) (hs : ∀ x, foldedSetIterable iter X.env x = pure x := by intro _; rfl) :
    SE X (.ListComp elt [⟨tg, iter, ifs, 0⟩] scope pos) (wComp wi g wt we vs) := by
  subst hv
  exact pe_weak (pe_lc hc hN hi ok hg ht he hs) fun σ H Q h => comp_ok hsl h
theorem se_lcN {vs : List Nat} (hc : X.calm = true) (hN : X.N.Nodup) (hi : SI X tg iter wi) (ok : BlkOk X.N X.env.scope scope own) (hv : own.map (·.2) = vs) (hsl : ∀ i ∈ g.slots, i ∈ vs)
    (hg : ∀ (s : Shared) (H : Hp) (C : Addr) (cl : List (Str × Addr)) (fp : List Addr), SG (X.blk s H scope (compEnvC scope cl C X.env) fp) tg g) (ht : ∀ (s : Shared) (H : Hp) (C : Addr) (cl : List (Str × Addr)) (fp : List Addr), STs (X.blk s H scope (compEnvC scope cl C X.env) fp) ifs wt)
    (he : ∀ (s : Shared) (H : Hp) (C : Addr) (cl : List (Str × Addr)) (fp : List Addr), SE (X.blk s H scope (compEnvC scope cl C X.env) fp) elt we) (hs : ∀ x, foldedSetIterable iter X.env x = pure x := by intro _; rfl) :
    SE X (.ListComp elt [⟨tg, iter, ifs, 0⟩] scope pos) (wCompN wi g wt we vs) := by
  subst hv
  exact pe_weak (pe_lc hc hN hi ok hg ht he hs) fun σ H Q h => compN_ok hsl h
end
end DL

set_option maxHeartbeats 4000000
namespace DL
open PySem PySem.Spec PyProof.Rows L2

/-! ### what a value names of the store -/
mutual
def closedD (n : Nat) : D → Prop
  | .tup ds => closedL n ds
  | .lst ds => closedL n ds
  | .ref m => m < n
  | _ => True
def closedL (n : Nat) : List D → Prop
  | [] => True
  | d :: ds => closedD n d ∧ closedL n ds
end
def closedS (S : Store) : Prop := ∀ ds, Ob.lst ds ∈ S → closedL S.length ds
mutual
/-- at the end of a def: its own lists become values -/
inductive Frz (n0 : Nat) (S : Store) : D → D → Prop
  | non : Frz n0 S .non .non
  | bl (b : Bool) : Frz n0 S (.bl b) (.bl b)
  | int (i : Int) : Frz n0 S (.int i) (.int i)
  | str (x : Str) : Frz n0 S (.str x) (.str x)
  | tup {ds es : List D} : FrzL n0 S ds es → Frz n0 S (.tup ds) (.tup es)
  | lst {ds es : List D} : FrzL n0 S ds es → Frz n0 S (.lst ds) (.lst es)
  | old {n : Nat} : n < n0 → Frz n0 S (.ref n) (.ref n)
  | new {n : Nat} {ds es : List D} : n0 ≤ n → S[n]? = some (.lst ds) → FrzL n0 S ds es → Frz n0 S (.ref n) (.lst es)
inductive FrzL (n0 : Nat) (S : Store) : List D → List D → Prop
  | nil : FrzL n0 S [] []
  | cons {d e : D} {ds es : List D} : Frz n0 S d e → FrzL n0 S ds es → FrzL n0 S (d :: ds) (e :: es)
end
mutual
def pureD : D → Prop
  | .tup ds => pureL ds
  | .lst ds => pureL ds
  | .ref _ => False
  | _ => True
def pureL : List D → Prop
  | [] => True
  | d :: ds => pureD d ∧ pureL ds
end
mutual
theorem frz_pure {n0 : Nat} {S : Store} : ∀ {d : D}, pureD d → Frz n0 S d d
  | .non, _ => .non
  | .bl b, _ => .bl b
  | .int i, _ => .int i
  | .str x, _ => .str x
  | .tup ds, h => .tup (frzL_pure (by simpa [pureD] using h))
  | .lst ds, h => .lst (frzL_pure (by simpa [pureD] using h))
  | .ref n, h => by simp [pureD] at h
theorem frzL_pure {n0 : Nat} {S : Store} : ∀ {ds : List D}, pureL ds → FrzL n0 S ds ds
  | [], _ => .nil
  | d :: ds, h => by
    have h' : pureD d ∧ pureL ds := by simpa [pureL] using h
    exact .cons (frz_pure h'.1) (frzL_pure h'.2)
end
theorem pureL_of {ds : List D} (h : ∀ d, d ∈ ds → pureD d) : pureL ds := by
  induction ds with
  | nil => simp [pureL]
  | cons d ds ih => exact by simpa [pureL] using ⟨h d (by simp), ih fun e he => h e (by simp [he])⟩
theorem pure_of_L {ds : List D} (h : pureL ds) : ∀ d, d ∈ ds → pureD d := by
  induction ds with
  | nil => intro d hd; cases hd
  | cons e es ih =>
    have h' : pureD e ∧ pureL es := by simpa [pureL] using h
    intro d hd
    rcases List.mem_cons.mp hd with rfl | hd
    · exact h'.1
    · exact ih h'.2 d hd
def Exit (n0 : Nat) (d : D) (S1 : Store) (Q0 : D → Store → Prop) : Prop :=
  Q0 d S1 ∨ ∃ S' G d', S1 = S' ++ G ∧ S'.length = n0 ∧ (∀ ds, Ob.lst ds ∈ S' → closedL n0 ds) ∧ Frz n0 S1 d d' ∧ Q0 d' S'
theorem Exit.all {n0 : Nat} {d : D} {S1 : Store} {Q0 : D → Store → Prop} (h : Q0 d S1) : Exit n0 d S1 Q0 := .inl h
/-- the store is as it was, and some garbage -/
theorem Exit.same {d d' : D} {S G : Store} {Q0 : D → Store → Prop} (hc : closedS S) (f : Frz S.length (S ++ G) d d') (h : Q0 d' S) : Exit S.length d (S ++ G) Q0 := .inr ⟨S, G, d', rfl, rfl, hc, f, h⟩
theorem Exit.val {d : D} {S G : Store} {Q0 : D → Store → Prop} (hc : closedS S) (f : pureD d) (h : Q0 d S) : Exit S.length d (S ++ G) Q0 := .same hc (frz_pure f) h

section
variable {K : PySem.W.Frag} {μ : Mu} {H : Hp} {S : Store}
mutual
theorem Rep.closed : ∀ {d : D} {v : V}, Rep K μ H d v → closedD μ.sl.length d
  | _, _, .non => by simp [closedD]
  | _, _, .bl b => by simp [closedD]
  | _, _, .int i => by simp [closedD]
  | _, _, .str x => by simp [closedD]
  | _, _, .tup h r => by simpa [closedD] using RepAll.closed r
  | _, _, .lst h r => by simpa [closedD] using RepAll.closed r
  | _, _, .ref h => by
    simp only [closedD]
    exact (List.getElem?_eq_some_iff.mp h).1
theorem RepAll.closed : ∀ {ds : List D} {vs : List V}, RepAll K μ H ds vs → closedL μ.sl.length ds
  | _, _, .nil => by simp [closedL]
  | _, _, .cons r t => by
    simp only [closedL]
    exact ⟨Rep.closed r, RepAll.closed t⟩
end
theorem Sim.closed (m : Sim K μ S H) : closedS S := fun ds h => by
  obtain ⟨n, hn⟩ := List.getElem?_of_mem h
  obtain ⟨a, xs, h1, h2, h3⟩ := m.ob n ds hn
  rw [← m.len]
  exact h3.closed
def Mu.cut (μ : Mu) (n : Nat) : Mu := ⟨μ.sl.take n, μ.rs⟩
theorem cut_has {n : Nat} {a : Addr} (h : (μ.cut n).has a) : μ.has a := h.imp (fun z => List.mem_of_mem_take z) id
mutual
theorem Rep.cut {n0 : Nat} : ∀ {d : D} {v : V}, Rep K μ H d v → closedD n0 d → Rep K (μ.cut n0) H d v
  | _, _, .non, _ => .non
  | _, _, .bl b, _ => .bl b
  | _, _, .int i, _ => .int i
  | _, _, .str x, _ => .str x
  | _, _, .tup h r, c => .tup h (RepAll.cut r (by simpa [closedD] using c))
  | _, _, .lst h r, c => .lst (h.imp (fun z => ⟨z.1, fun q => z.2 (cut_has q)⟩) id) (RepAll.cut r (by simpa [closedD] using c))
  | .ref n, _, .ref h, c => .ref (by
      have c' : n < n0 := by simpa [closedD] using c
      show (μ.sl.take n0)[n]? = _
      rw [List.getElem?_take, if_pos c']
      exact h)
theorem RepAll.cut {n0 : Nat} : ∀ {ds : List D} {vs : List V}, RepAll K μ H ds vs → closedL n0 ds → RepAll K (μ.cut n0) H ds vs
  | _, _, .nil, _ => .nil
  | d :: ds, _, .cons r t, c => by
    have c' : closedD n0 d ∧ closedL n0 ds := by simpa [closedL] using c
    exact .cons (Rep.cut r c'.1) (RepAll.cut t c'.2)
end
theorem Sim.cut {S1 G : Store} (m : Sim K μ (S1 ++ G) H) (c : ∀ ds, Ob.lst ds ∈ S1 → closedL S1.length ds) : Sim K (μ.cut S1.length) S1 H := by
  have hl := m.len
  have gt : ∀ (n : Nat) (a : Addr), (μ.sl.take S1.length)[n]? = some (some a) → μ.sl[n]? = some (some a) := fun n a h => by
    rw [List.getElem?_take] at h
    split at h
    · exact h
    · cases h
  refine ⟨by simp [Mu.cut] at hl ⊢; omega, fun i j a h1 h2 => m.inj i j a (gt i a h1) (gt j a h2), fun n a h => m.trk n a (gt n a h), m.trs, fun n ds h => ?_⟩
  have hn : n < S1.length := (List.getElem?_eq_some_iff.mp h).1
  obtain ⟨a, xs, h1, h2, h3⟩ := m.ob n ds (by rw [List.getElem?_append_left hn]; exact h)
  refine ⟨a, xs, ?_, h2, h3.cut (c ds (List.mem_of_getElem? h))⟩
  show (μ.sl.take S1.length)[n]? = _
  rw [List.getElem?_take, if_pos hn]
  exact h1
mutual
theorem Rep.frz {n0 : Nat} (m : Sim K μ S H) : ∀ {d e : D} {v : V}, Frz n0 S d e → Rep K μ H d v → Rep K (μ.cut n0) H e v
  | _, _, _, .non, .non => .non
  | _, _, _, .bl b, .bl _ => .bl b
  | _, _, _, .int i, .int _ => .int i
  | _, _, _, .str x, .str _ => .str x
  | _, _, _, .tup f, .tup h r => .tup h (RepAll.frz m f r)
  | _, _, _, .lst f, .lst h r => .lst (h.imp (fun z => ⟨z.1, fun q => z.2 (cut_has q)⟩) id) (RepAll.frz m f r)
  | _, _, _, .old hn, .ref h => .ref (by
      show (μ.sl.take n0)[_]? = _
      rw [List.getElem?_take, if_pos hn]
      exact h)
  | _, _, v, .new (n := n) hn hS f, r => by
    obtain ⟨a, xs, rfl, h1, h2, h3⟩ := m.at hS r
    refine .lst (.inl ⟨.inl h2, fun q => ?_⟩) (RepAll.frz m f h3)
    rcases q with q | q
    · obtain ⟨j, hj⟩ := List.getElem?_of_mem (show some a ∈ μ.sl.take n0 from q)
      rw [List.getElem?_take] at hj
      split at hj
      · have := m.inj j n a hj h1
        omega
      · cases hj
    · exact (m.trk n a h1).2 q
theorem RepAll.frz {n0 : Nat} (m : Sim K μ S H) : ∀ {ds es : List D} {vs : List V}, FrzL n0 S ds es → RepAll K μ H ds vs → RepAll K (μ.cut n0) H es vs
  | _, _, _, .nil, .nil => .nil
  | _, _, _, .cons f fs, .cons r t => .cons (Rep.frz m f r) (RepAll.frz m fs t)
end
theorem Grow.cut {μ0 : Mu} {H0 : Hp} (g : Grow μ0 H0 μ H) : Grow μ0 H0 (μ.cut μ0.sl.length) H :=
  ⟨g.tup, fun a xs h n => let ⟨h1, n1⟩ := g.lst a xs h n; ⟨h1, fun q => n1 (cut_has q)⟩, fun n a h => by
    show (μ.sl.take μ0.sl.length)[n]? = _
    rw [List.getElem?_take, if_pos (List.getElem?_eq_some_iff.mp h).1]
    exact g.ref n a h, g.rs⟩
/-- the end of a def's body -/
theorem exit_ok {μ0 : Mu} {H0 : Hp} {S0 S1 : Store} {d : D} {v : V} {Q0 : D → Store → Prop} {Q : VK} (m0 : Sim K μ0 S0 H0) (g : Grow μ0 H0 μ H) (m : Sim K μ S1 H) (r : Rep K μ H d v) (p : Post K μ0 H0 Q0 Q) (h : Exit S0.length d S1 Q0) : Q v H := by
  rcases h with h | ⟨S', G, d', rfl, hl, c, f, h⟩
  · exact p d S1 h μ v H g m r
  · have g' := g.cut
    rw [m0.len, ← hl] at g'
    rw [← hl] at f
    exact p d' S' h _ v H g' (m.cut (by rw [hl]; exact c)) (r.frz m f)
end

/-! ### defs -/
abbrev Con := List D → Store → (D → Store → Prop) → Prop
def SpD (K : PySem.W.Frag) (np : Nat) (Γ : Con) : Sp := fun vs H Q _ => ∃ μ S ds Q0, Sim K μ S H ∧ RepAll K μ H ds vs ∧ ds.length = np ∧ Γ ds S Q0 ∧ Post K μ H Q0 Q
abbrev FnD (P : Program) (w : World) (K : PySem.W.Frag) (mg : Str → Option Value) (base : Heap) (k : Nat) (f : Addr) (fd : FuncData) (ps : List Str) (Γ : Con) : Prop := FnOk P w K mg base CX0 k f fd ps (SpD K ps.length Γ)
def wFn (Γ : Con) (n : Nat) (wr : WA) : WE := fun ρ S Q => wr ρ S fun ds S1 => ds.length = n ∧ Γ ds S1 Q
section
variable {X : Cx} {e : Expr} {es : List Expr} {wr : WA} {k : Nat} {f : Addr} {fd : FuncData} {ps : List Str} {Γ : Con} {x : Str} {p pos : Pos}
theorem se_call (F : FnD X.prog X.w X.K X.mg X.base k f fd ps Γ) (hr : Room k X.A) (hg : Gl X x) (hm : X.mg x = some (.ref f)) (hk : PySem.W.keepIn X.K (.ref f) = true) (hb : Binds X.K fd ps [])
    (ha : SA X (e :: es) wr) (hdb : (x == ("__debug__" : Str)) = false := by decide) (he : starEach (e :: es) X.env = (false, eval e X.env) :: starEach es X.env := by rfl) (hpl : (backTo pos (starEach es X.env)).any (·.1) = false := by rfl) :
    SE X (.Call (.Name x p) (e :: es) [] pos) (wFn Γ ps.length wr) := pe_weak (pe_call (E := E0) F hr hg hm hk hb .nil pass0 ha hdb he hpl) fun σ H Q ⟨μ, S, ρ, Q0, m, en, q, p⟩ => by
  refine LA.run m en q fun ds S1 μ1 vs H1 q1 g1 m1 e1 r1 => ?_
  rw [List.append_nil]
  exact ⟨μ1, S1, ds, Q0, m1, r1, q1.1, q1.2, p.go g1⟩
end
theorem start_R {K : PySem.W.Frag} {μ : Mu} {H : Hp} {N : List Str} {ds : List D} {vs : List V} (r : RepAll K μ H ds vs) : EnvR K μ H (ds.map some ++ List.replicate (N.length - ds.length) none) (L2.start N vs) := by
  have hl := r.length
  refine ⟨by simp [L2.start, hl], fun i d h => ?_⟩
  by_cases hi : i < ds.length
  · rw [List.getElem?_append_left (by simpa using hi), List.getElem?_map] at h
    cases q : ds[i]? with
    | none => rw [q] at h; cases h
    | some e =>
      rw [q] at h
      have e1 : e = d := Option.some.inj (Option.some.inj h)
      subst e1
      obtain ⟨v, h1, h2⟩ := r.get q
      refine ⟨v, ?_, h2⟩
      unfold L2.start
      rw [List.getElem?_append_left (by simp [← hl]; exact hi), List.getElem?_map, h1]
      rfl
  · rw [List.getElem?_append_right (by simpa using Nat.le_of_not_lt hi)] at h
    rw [List.getElem?_replicate] at h
    split at h <;> cases h
section
variable {P : Program} {w : World} {K : PySem.W.Frag} {mg : Str → Option Value} {base : Heap}
/-- THE RULE for a def: its body's reading by content keeps the contract -/
theorem fn_okD {x qual : Str} {st : Stmt} {f : Addr} {fd : FuncData} {N ps : List Str} {k : Nat} {Γ : Con} {wb : WS} (F : Fun K x qual st f fd) (Sc : FnScope N ps (defScope st))
    (hb : ∀ (cdv : Value) (A : Around) (outer : List PySem.Env) (s : Shared) (H : Hp) (E : XK), Room k (A.deeper (envOfC qual (defScope st) s.heap.objs.size f cdv)) →
      SSs (cxOf CX0 P w K mg base N qual (defScope st) f cdv A outer s H E).nox (defBody st) wb)
    (hw : ∀ (ds : List D) (S : Store) (Q0 : D → Store → Prop), ds.length = ps.length → closedS S → closedL S.length ds → Γ ds S Q0 →
      wb { nx := fun _ S1 => Exit S.length .non S1 Q0, rt := fun d S1 => Exit S.length d S1 Q0 } (ds.map some ++ List.replicate (N.length - ps.length) none) S) : FnD P w K mg base (k + 1) f fd ps Γ := by
  refine F.ok Sc (fun vs H Q E h => ?_) (fun cdv A outer s H vs Q E hr h => ?_)
  · obtain ⟨μ, S, ds, Q0, m, r, hl, _⟩ := h
    rw [← r.length, hl]
  · obtain ⟨μ, S, ds, Q0, m, r, hl, q, p⟩ := h
    refine ⟨_, hb cdv A outer s H E hr, ?_⟩
    have en := start_R (N := N) r
    rw [hl] at en
    have cl := r.closed
    rw [m.len] at cl
    refine ⟨μ, S, _, _, m, en, hw ds S Q0 hl m.closed cl q, ?_, ?_, ?_, ?_⟩
    · exact fun ρ' S' q' μ' σ' H' g' m' e' => exit_ok m g' m' .non p q'
    · exact fun d S' q' μ' v H' g' m' r' => exit_ok m g' m' r' p q'
    · exact fun ρ' S' q' => q'.elim
    · exact fun ρ' S' q' => q'.elim
/-- a def of the law's kind: one list of ints, True -/
theorem law_sp {np : Nat} {Γ : Con} {H : Hp} {a : Addr} {ns : List Int} {E : XK} (h : Γ [.lst (ns.map .int)] [] (fun d _ => d = .bl true)) (hS : SqL K H a (ns.map V.int)) : SpD K 1 Γ [.ref a] H (fun v _ => v = .bl true) E := by
  refine ⟨⟨[], []⟩, [], [.lst (ns.map .int)], _, ⟨rfl, fun i j a h => by simp at h, fun n a h => by simp at h, fun a h => by simp at h, fun n ds h => by simp at h⟩, .one ?_, rfl, h, fun d S' q μ' v H' g m r => ?_⟩
  · exact .lst (hS.imp (fun z => ⟨z, fun q => by rcases q with q | q <;> simp at q⟩) id) (repInts ns)
  · subst q
    exact r.bl_inv
end
end DL
namespace DL
open PySem PySem.Spec PyProof.Rows L2
section
variable {X : Cx} {elt tg iter : Expr} {ifs : List Expr} {scope : Scope} {own : List (Str × Nat)} {pos spos py : Pos} {wi : WI} {g : Tg} {wt : WT} {we : WE} {i : Nat} {y : Str}
/-- name = [..] -/
theorem ss_setLc {vs : List Nat} (hc : X.calm = true) (hN : X.N.Nodup) (hy : X.N[i]? = some y) (hyl : X.env.scope.names.lookup y = some .local)
    (hsw : swapsWith (.ListComp elt [⟨tg, iter, ifs, 0⟩] scope pos) (some (.Name y py)) spos.line X.env = pure true) (hi : SI X tg iter wi) (ok : BlkOk X.N X.env.scope scope own) (hv : own.map (·.2) = vs) (hsl : ∀ i ∈ g.slots, i ∈ vs)
    (hg : ∀ (s : Shared) (H : Hp) (C : Addr) (cl : List (Str × Addr)) (fp : List Addr), SG (X.blk s H scope (compEnvC scope cl C X.env) fp) tg g) (ht : ∀ (s : Shared) (H : Hp) (C : Addr) (cl : List (Str × Addr)) (fp : List Addr), STs (X.blk s H scope (compEnvC scope cl C X.env) fp) ifs wt)
    (he : ∀ (s : Shared) (H : Hp) (C : Addr) (cl : List (Str × Addr)) (fp : List Addr), SE (X.blk s H scope (compEnvC scope cl C X.env) fp) elt we) (hs : ∀ x, foldedSetIterable iter X.env x = pure x := by intro _; rfl) :
    SS X (.Assign [.Name y py] (.ListComp elt [⟨tg, iter, ifs, 0⟩] scope pos) spos) (wAsg (wComp wi g wt we vs) (.name i)) := by
  subst hv
  refine ps_weak (ps_setLc (g := g.toV X.K) (te := LE X.K we) (tt := LT X.K wt) hc hN hy hyl hsw hi ok hg ht he hs) fun D σ H ⟨μ, S, ρ, D0, m, en, q, p⟩ => ?_
  · refine comp_ok hsl ⟨μ, S, ρ, _, m, en, q, fun d S1 q1 μ1 v H1 g1 m1 r1 => ?_⟩
    have q1' : (match bindT (.name i) d ρ with | some ρ' => D0.nx ρ' S1 | none => False) := q1
    show D.nx (σ.set i (some v)) H1
    simp only [bindT] at q1'
    exact p.nx _ S1 q1' μ1 _ H1 g1 m1 ((en.grow g1).set r1)
/-- name = [..], an object of the store -/
theorem ss_setLcN {vs : List Nat} (hc : X.calm = true) (hN : X.N.Nodup) (hy : X.N[i]? = some y) (hyl : X.env.scope.names.lookup y = some .local)
    (hsw : swapsWith (.ListComp elt [⟨tg, iter, ifs, 0⟩] scope pos) (some (.Name y py)) spos.line X.env = pure true) (hi : SI X tg iter wi) (ok : BlkOk X.N X.env.scope scope own) (hv : own.map (·.2) = vs) (hsl : ∀ i ∈ g.slots, i ∈ vs)
    (hg : ∀ (s : Shared) (H : Hp) (C : Addr) (cl : List (Str × Addr)) (fp : List Addr), SG (X.blk s H scope (compEnvC scope cl C X.env) fp) tg g) (ht : ∀ (s : Shared) (H : Hp) (C : Addr) (cl : List (Str × Addr)) (fp : List Addr), STs (X.blk s H scope (compEnvC scope cl C X.env) fp) ifs wt)
    (he : ∀ (s : Shared) (H : Hp) (C : Addr) (cl : List (Str × Addr)) (fp : List Addr), SE (X.blk s H scope (compEnvC scope cl C X.env) fp) elt we) (hs : ∀ x, foldedSetIterable iter X.env x = pure x := by intro _; rfl) :
    SS X (.Assign [.Name y py] (.ListComp elt [⟨tg, iter, ifs, 0⟩] scope pos) spos) (wAsg (wCompN wi g wt we vs) (.name i)) := by
  subst hv
  refine ps_weak (ps_setLc (g := g.toV X.K) (te := LE X.K we) (tt := LT X.K wt) hc hN hy hyl hsw hi ok hg ht he hs) fun D σ H ⟨μ, S, ρ, D0, m, en, q, p⟩ => ?_
  · refine compN_ok hsl ⟨μ, S, ρ, _, m, en, q, fun d S1 q1 μ1 v H1 g1 m1 r1 => ?_⟩
    have q1' : (match bindT (.name i) d ρ with | some ρ' => D0.nx ρ' S1 | none => False) := q1
    show D.nx (σ.set i (some v)) H1
    simp only [bindT] at q1'
    exact p.nx _ S1 q1' μ1 _ H1 g1 m1 ((en.grow g1).set r1)
end
end DL

set_option maxHeartbeats 4000000
namespace DL
open PySem PySem.Spec PyProof.Rows L2 He

/-! ### a def by its datum -/
section
variable {P : Program} {w : World} {K : PySem.W.Frag} {mg : Str → Option Value} {base : Heap}
/-- the def x stands at the module's name x and keeps its contract -/
structure Def (P : Program) (w : World) (K : PySem.W.Frag) (mg : Str → Option Value) (base : Heap) (k : Nat) (x : Str) (ps : List Str) (Γ : Con) : Prop where
  ex : ∃ f fd, FnD P w K mg base k f fd ps Γ ∧ mg x = some (.ref f) ∧ PySem.W.keepIn K (.ref f) = true ∧ Binds K fd ps []
theorem Def.mono {j k : Nat} {x : Str} {ps : List Str} {Γ : Con} (D : Def P w K mg base j x ps Γ) (h : j ≤ k) : Def P w K mg base k x ps Γ :=
  let ⟨f, fd, h1, h2, h3, h4⟩ := D.ex; ⟨f, fd, h1.mono h, h2, h3, h4⟩
theorem fn_okF {x qual : Str} {params : Arguments} {body : List Stmt} {scope : Scope} {f : Addr} {fd : FuncData} {N ps : List Str} {k : Nat} {Γ : Con} {wb : WS} (F : FunD K x qual params body scope [] [] f fd) (Sc : FnScope N ps scope)
    (hb : ∀ (cdv : Value) (A : Around) (outer : List PySem.Env) (s : Shared) (H : Hp) (E : XK), Room k (A.deeper (envOfC qual scope s.heap.objs.size f cdv)) →
      SSs (cxOf CX0 P w K mg base N qual scope f cdv A outer s H E).nox body wb)
    (hw : ∀ (ds : List D) (S : Store) (Q0 : D → Store → Prop), ds.length = ps.length → closedS S → closedL S.length ds → Γ ds S Q0 →
      wb { nx := fun _ S1 => Exit S.length .non S1 Q0, rt := fun d S1 => Exit S.length d S1 Q0 } (ds.map some ++ List.replicate (N.length - ps.length) none) S) : FnD P w K mg base (k + 1) f fd ps Γ := by
  refine F.ok Sc (fun vs H Q E h => ?_) (fun cdv A outer s H vs Q E hr h => ?_)
  · obtain ⟨μ, S, ds, Q0, m, r, hl, _⟩ := h
    rw [← r.length, hl]
  · obtain ⟨μ, S, ds, Q0, m, r, hl, q, p⟩ := h
    refine ⟨_, PSs.nox (hb cdv A outer s H E hr), ?_⟩
    have en := start_R (N := N) r
    rw [hl] at en
    have cl := r.closed
    rw [m.len] at cl
    refine ⟨μ, S, _, _, m, en, hw ds S Q0 hl m.closed cl q, ?_, ?_, ?_, ?_⟩
    · exact fun ρ' S' q' μ' σ' H' g' m' e' => exit_ok m g' m' .non p q'
    · exact fun d S' q' μ' v H' g' m' r' => exit_ok m g' m' r' p q'
    · exact fun ρ' S' q' => q'.elim
    · exact fun ρ' S' q' => q'.elim
end
section
variable {X : Cx} {e : Expr} {es : List Expr} {wr : WA} {k : Nat} {ps : List Str} {Γ : Con} {x : Str} {p pos : Pos}
theorem se_fn {n : Nat} (F : Def X.prog X.w X.K X.mg X.base k x ps Γ) (hr : Room k X.A) (hg : Gl X x)
    (ha : SA X (e :: es) wr) (hn : ps.length = n := by rfl) (hdb : (x == ("__debug__" : Str)) = false := by decide) (he : starEach (e :: es) X.env = (false, eval e X.env) :: starEach es X.env := by rfl) (hpl : (backTo pos (starEach es X.env)).any (·.1) = false := by rfl) :
    SE X (.Call (.Name x p) (e :: es) [] pos) (wFn Γ n wr) := by
  subst hn
  obtain ⟨f, fd, h1, h2, h3, h4⟩ := F.ex
  exact se_call h1 hr hg h2 h3 h4 ha hdb he hpl
end

/-! ### constants of the module, by content -/
mutual
def kRep (K : PySem.W.Frag) : D → Value → Bool
  | .non, .none => true
  | .bl b, .bool c => b == c
  | .int i, .int j _ => decide (i = j)
  | .str x, .str y _ => decide (x = y)
  | .tup ds, .ref a => (match K.lookup a with
    | some ⟨.type c, _, .seq its _, _⟩ => decide (c = "tuple") && (decide (its.size ≤ sizeLine) && kRepL K ds its.toList)
    | _ => false)
  | .lst ds, .ref a => (match K.lookup a with
    | some ⟨.type c, none, .seq its _, _⟩ => decide (c = "list") && (decide (its.size ≤ sizeLine) && kRepL K ds its.toList)
    | _ => false)
  | _, _ => false
def kRepL (K : PySem.W.Frag) : List D → List Value → Bool
  | [], [] => true
  | d :: ds, u :: us => kRep K d u && kRepL K ds us
  | _, _ => false
end
def KRep (K : PySem.W.Frag) (d : D) (u : Value) : Prop := ∃ v, RelV v u ∧ ∀ μ H, Rep K μ H d v
def KRepL (K : PySem.W.Frag) (ds : List D) (us : List Value) : Prop := ∃ vs, Vals vs us ∧ ∀ μ H, RepAll K μ H ds vs
mutual
theorem kRep_ok {K : PySem.W.Frag} : ∀ {d : D} {u : Value}, kRep K d u = true → KRep K d u
  | .non, u, h => by
    cases u <;> first | exact ⟨.non, rfl, fun _ _ => .non⟩ | simp [kRep] at h
  | .bl b, u, h => by
    cases u with
    | bool c =>
      have e : b = c := by simpa [kRep] using h
      subst e
      exact ⟨.bl b, rfl, fun _ _ => .bl b⟩
    | _ => simp [kRep] at h
  | .int b, u, h => by
    cases u with
    | int c t =>
      have e : b = c := by simpa [kRep] using h
      subst e
      exact ⟨.int b, ⟨t, rfl⟩, fun _ _ => .int b⟩
    | _ => simp [kRep] at h
  | .str b, u, h => by
    cases u with
    | str c t =>
      have e : b = c := by simpa [kRep] using h
      subst e
      exact ⟨.str b, ⟨t, rfl⟩, fun _ _ => .str b⟩
    | _ => simp [kRep] at h
  | .tup ds, u, h => by
    cases u with
    | ref a =>
      simp only [kRep] at h
      split at h
      · rename_i c _ its n sl q
        simp only [Bool.and_eq_true, decide_eq_true_eq] at h
        obtain ⟨vs, h1, h2⟩ := kRepL_ok h.2.2
        exact ⟨.ref a, rfl, fun μ H => .tup (.inr ⟨_, its, n, q, congrArg Value.type h.1, rfl, h.2.1, h1⟩) (h2 μ H)⟩
      · cases h
    | _ => simp [kRep] at h
  | .lst ds, u, h => by
    cases u with
    | ref a =>
      simp only [kRep] at h
      split at h
      · rename_i c its n sl q
        simp only [Bool.and_eq_true, decide_eq_true_eq] at h
        obtain ⟨vs, h1, h2⟩ := kRepL_ok h.2.2
        exact ⟨.ref a, rfl, fun μ H => .lst (.inr ⟨_, its, n, q, congrArg Value.type h.1, rfl, rfl, h.2.1, h1⟩) (h2 μ H)⟩
      · cases h
    | _ => simp [kRep] at h
  | .ref n, u, h => by cases u <;> simp [kRep] at h
theorem kRepL_ok {K : PySem.W.Frag} : ∀ {ds : List D} {us : List Value}, kRepL K ds us = true → KRepL K ds us
  | [], [], _ => ⟨[], .nil, fun _ _ => .nil⟩
  | [], _ :: _, h => by simp [kRepL] at h
  | _ :: _, [], h => by simp [kRepL] at h
  | d :: ds, u :: us, h => by
    simp only [kRepL, Bool.and_eq_true] at h
    obtain ⟨v, h1, h2⟩ := kRep_ok h.1
    obtain ⟨vs, h3, h4⟩ := kRepL_ok h.2
    exact ⟨v :: vs, .cons h1 h3, fun μ H => .cons (h2 μ H) (h4 μ H)⟩
end
/-- the module's name x holds d -/
structure Cst (K : PySem.W.Frag) (mg : Str → Option Value) (x : Str) (d : D) : Prop where
  ex : ∃ u v, mg x = some u ∧ RelV v u ∧ ∀ μ H, Rep K μ H d v
theorem se_cst {X : Cx} {x : Str} {d : D} {pos : Pos} (c : Cst X.K X.mg x d) (hg : Gl X x) (hd : (x == ("__debug__" : Str)) = false := by decide) : SE X (.Name x pos) (wC d) := by
  obtain ⟨u, v, h1, h2, h3⟩ := c.ex
  exact se_glob hg h1 h2 h3 hd

/-! ### the head's Hook, with facts of one's own -/
def cstB (x : Str) (d : D) (K : PySem.W.Frag) : Bool := match PySem.W.nsIn K mainGlobals x with
  | some (some u) => kRep K d u
  | _ => false
def bltB (x : Str) (id : String) (K : PySem.W.Frag) : Bool := eqO (PySem.W.nsIn K mainGlobals x) (some (some (.builtin id)))
def gloB (x : Str) (K : PySem.W.Frag) : Bool := eqO (PySem.W.nsIn K mainGlobals x) (some (some (.ref (ga K x))))
def freB (x : Str) (K : PySem.W.Frag) : Bool := eqO (PySem.W.nsIn K mainGlobals x) (some none)
section
variable {K : PySem.W.Frag} {h : Heap} {mg : Str → Option Value}
theorem cstB_ok (X : K.In h) (G : h.Ns mainGlobals mg) {x : Str} {d : D} (c : cstB x d K = true) : Cst K mg x d := by
  unfold cstB at c
  split at c
  · rename_i u hu
    obtain ⟨v, h1, h2⟩ := kRep_ok c
    exact ⟨u, v, PySem.W.mg_of X G hu, h1, h2⟩
  · cases c
theorem bltB_ok (X : K.In h) (G : h.Ns mainGlobals mg) {x : Str} {id : String} (c : bltB x id K = true) : mg x = some (.builtin id) := PySem.W.mg_of X G (eqO_ok c)
theorem gloB_ok (X : K.In h) (G : h.Ns mainGlobals mg) {x : Str} (c : gloB x K = true) : mg x = some (.ref (ga K x)) := PySem.W.mg_of X G (eqO_ok c)
theorem freB_ok (X : K.In h) (G : h.Ns mainGlobals mg) {x : Str} (c : freB x K = true) : mg x = none := PySem.W.mg_none_of X G (eqO_ok c)
end
abbrev Facts := List (PySem.W.Frag → Bool)
def obsX (fa : Facts) (fn : List DefD) (K : PySem.W.Frag) : AlD := ((fa.all fun f => f K) && fn.all fun d => d.ok K, fn.map fun d => fnW K d.at_)
def SaysX (fa : Facts) (fn : List DefD) (K : PySem.W.Frag) : Prop := obsX fa fn K = valD fn
def obsXG (n : Nat) (fa : Facts) (fn : List DefD) (g : Addr → Option Obj) : AlD := obsX fa fn (frG g (asD g n))
def hookX (n : Nat) (fa : Facts) (fn : List DefD) : PySem.W.Hook where
  α := AlD
  obs := fun s => obsXG n fa fn s.heap.get?
  val := fun _ => valD fn
  says := fun _ h => ∃ K : PySem.W.Frag, K.In h ∧ SaysX fa fn K
  of := fun _ _ e => ⟨_, frG_in, e⟩
  keeps := fun _ _ _ ⟨K, hK, c⟩ k => ⟨K, PySem.W.Frag.In.keeps hK k, c⟩
theorem obsXG_eq {n : Nat} {fa : Facts} {fn : List DefD} {g : Addr → Option Obj} {s : Shared} (h : ∀ a, g a = s.heap.get? a) : obsXG n fa fn g = (hookX n fa fn).obs s := by
  have e : g = s.heap.get? := funext h
  rw [e] <;> rfl
section
variable {fa : Facts} {fn : List DefD} {K : PySem.W.Frag}
theorem SaysX.fact (c : SaysX fa fn K) (i : Nat) {f : PySem.W.Frag → Bool} (h : fa[i]? = some f := by rfl) : f K = true := by
  have c1 := (ba (show ((fa.all fun f => f K) && fn.all fun d => d.ok K) = true from congrArg (fun z : AlD => z.1) c)).1
  exact List.all_eq_true.mp c1 f (List.mem_of_getElem? h)
theorem SaysX.def_ (c : SaysX fa fn K) (i : Nat) {d : DefD} (h : fn[i]? = some d := by rfl) : ∃ fd, FunD K d.name d.qual d.params d.body d.scope (d.dvs K) (d.kws K) (fAd K d.at_) fd := by
  have c2 := (ba (show ((fa.all fun f => f K) && fn.all fun d => d.ok K) = true from congrArg (fun z : AlD => z.1) c)).2
  have e : fn.map (fun d => fnW K d.at_) = fn.map DefD.val := congrArg (fun z : AlD => z.2) c
  have e2 : (fn.map fun d => fnW K d.at_)[i]? = (fn.map DefD.val)[i]? := by rw [e]
  rw [List.getElem?_map, List.getElem?_map, h] at e2
  exact DefD.funD (Option.some.inj e2) (List.all_eq_true.mp c2 d (List.mem_of_getElem? h))
end
end DL

set_option maxHeartbeats 4000000
/-! lemmas for readings by content -/
namespace DL
open PySem PySem.Spec PyProof.Rows L2
theorem atD_of {ds : List D} (n : Nat) : atD ds (no_index (OfNat.ofNat n : Int)) = ds[n]? := rfl
theorem atD_cast {ds : List D} (n : Nat) : atD ds (n : Int) = ds[n]? := rfl
theorem atD_neg1 {ds : List D} : atD ds (-1) = if 0 < ds.length then ds[ds.length - 1]? else none := rfl
theorem putAt_lit (n m : Nat) (d : D) (S : Store) (Q : Store → Prop) : putAt n (no_index (OfNat.ofNat m : Int)) d S Q = match S[n]? with | some (.lst xs) => m < xs.length ∧ Q (S.set n (.lst (xs.set m d))) | _ => False := by
  unfold putAt
  rcases S[n]? with _ | (_ | _) <;> rfl
theorem mPopAt_lit (n m : Nat) (S : Store) (Q : D → Store → Prop) : mPopAt (.ref n) [.int (no_index (OfNat.ofNat m : Int))] S Q = match S[n]? with
    | some (.lst xs) => (match xs[m]? with | some y => m < 2 ^ 62 ∧ Q y (S.set n (.lst (xs.eraseIdx m))) | none => False)
    | _ => False := by
  show (match S[n]? with | some (.lst xs) => _ | _ => False) = _
  rcases S[n]? with _ | (_ | _) <;> rfl
theorem intsD_zero (lo : Int) : intsD lo 0 = [] := rfl
theorem intsD_succ (lo : Int) (n : Nat) : intsD lo (n + 1) = .int lo :: intsD (lo + 1) n := by
  unfold intsD
  rw [List.range_succ_eq_map, List.map_cons, List.map_map]
  refine congr (congrArg _ ?_) ?_
  · simp
  · apply List.map_congr_left
    intro i _
    show D.int (lo + ((i + 1 : Nat) : Int)) = D.int (lo + 1 + (i : Int))
    congr 1
    omega
theorem intsD_length (lo : Int) (n : Nat) : (intsD lo n).length = n := by simp [intsD]
theorem intsD_eq (lo : Int) (n : Nat) : intsD lo n = ((List.range n).map fun i => lo + (i : Nat)).map D.int := by simp [intsD, Function.comp_def]
theorem pure_ints (ns : List Int) : pureL (ns.map .int) := by
  induction ns with
  | nil => simp [pureL]
  | cons n ns ih => simpa [pureL, pureD] using ih
theorem shaped_ints : ∀ (ns : List Int), PyData.canLayAll0 (pyAll (ns.map .int)) = true
  | [] => by simp [pyAll, PyData.canLayAll0]
  | n :: ns => by simp [pyAll, PyData.canLayAll0, PyData.canLay0, D.py, shaped_ints ns]
/-- a comprehension that calls nothing of the store: a map -/
theorem compR_map {g : Tg} {we : WE} {G : Store → Prop} {ρ0 : Env} {Q : D → Store → Prop} {f : D → D} {S : Store} (hG : G S) : ∀ (xs acc : List D), acc.length + xs.length ≤ sizeLine →
    (∀ x, x ∈ xs → ∃ ρ2, bindT g x ρ0 = some ρ2 ∧ ∀ Q : D → Store → Prop, Q (f x) S → we ρ2 S Q) → Q (.lst (acc ++ xs.map f)) S → compR g wYes we G ρ0 Q xs acc S
  | [], acc, _, _, q => ⟨hG, by simpa using q⟩
  | x :: xs, acc, hl, h, q => by
    obtain ⟨ρ2, hb, hw⟩ := h x (by simp)
    refine ⟨hG, ?_⟩
    rw [hb]
    show we ρ2 S _
    simp only [List.length_cons] at hl
    refine hw _ ⟨by omega, compR_map hG xs (acc ++ [f x]) (by simp; omega) (fun y hy => h y (by simp [hy])) ?_⟩
    rw [List.append_assoc]
    exact q
/-- .. with a test -/
theorem compR_filter {g : Tg} {wt : WT} {we : WE} {G : Store → Prop} {ρ0 : Env} {Q : D → Store → Prop} {t : D → Bool} {f : D → D} {S : Store} (hG : G S) : ∀ (xs acc : List D), acc.length + xs.length ≤ sizeLine →
    (∀ x, x ∈ xs → ∃ ρ2, bindT g x ρ0 = some ρ2 ∧ (∀ Q : Bool → Store → Prop, Q (t x) S → wt ρ2 S Q) ∧ (t x = true → ∀ Q : D → Store → Prop, Q (f x) S → we ρ2 S Q)) →
    Q (.lst (acc ++ (xs.filter t).map f)) S → compR g wt we G ρ0 Q xs acc S
  | [], acc, _, _, q => ⟨hG, by simpa using q⟩
  | x :: xs, acc, hl, h, q => by
    obtain ⟨ρ2, hb, ht, hw⟩ := h x (by simp)
    refine ⟨hG, ?_⟩
    rw [hb]
    simp only [List.length_cons] at hl
    refine ht _ ?_
    cases e : t x with
    | true =>
      rw [if_pos rfl]
      refine hw e _ ⟨by omega, compR_filter hG xs (acc ++ [f x]) (by simp; omega) (fun y hy => h y (by simp [hy])) ?_⟩
      rw [List.append_assoc]
      rw [List.filter_cons_of_pos e] at q
      exact q
    | false =>
      rw [if_neg (by decide)]
      refine compR_filter hG xs acc (by omega) (fun y hy => h y (by simp [hy])) ?_
      rw [List.filter_cons_of_neg (by rw [e]; decide)] at q
      exact q
theorem isT_non_int {S : Store} {b : Bool} {i : Int} {z : Str} {ds : List D} : isT D.non S "int" = some false := by first | rfl | decide
theorem isT_non_bool {S : Store} {b : Bool} {i : Int} {z : Str} {ds : List D} : isT D.non S "bool" = some false := by first | rfl | decide
theorem isT_non_str {S : Store} {b : Bool} {i : Int} {z : Str} {ds : List D} : isT D.non S "str" = some false := by first | rfl | decide
theorem isT_non_tuple {S : Store} {b : Bool} {i : Int} {z : Str} {ds : List D} : isT D.non S "tuple" = some false := by first | rfl | decide
theorem isT_non_list {S : Store} {b : Bool} {i : Int} {z : Str} {ds : List D} : isT D.non S "list" = some false := by first | rfl | decide
theorem isT_bl_int {S : Store} {b : Bool} {i : Int} {z : Str} {ds : List D} : isT (.bl b) S "int" = some true := by first | rfl | decide
theorem isT_bl_bool {S : Store} {b : Bool} {i : Int} {z : Str} {ds : List D} : isT (.bl b) S "bool" = some true := by first | rfl | decide
theorem isT_bl_str {S : Store} {b : Bool} {i : Int} {z : Str} {ds : List D} : isT (.bl b) S "str" = some false := by first | rfl | decide
theorem isT_bl_tuple {S : Store} {b : Bool} {i : Int} {z : Str} {ds : List D} : isT (.bl b) S "tuple" = some false := by first | rfl | decide
theorem isT_bl_list {S : Store} {b : Bool} {i : Int} {z : Str} {ds : List D} : isT (.bl b) S "list" = some false := by first | rfl | decide
theorem isT_int_int {S : Store} {b : Bool} {i : Int} {z : Str} {ds : List D} : isT (.int i) S "int" = some true := by first | rfl | decide
theorem isT_int_bool {S : Store} {b : Bool} {i : Int} {z : Str} {ds : List D} : isT (.int i) S "bool" = some false := by first | rfl | decide
theorem isT_int_str {S : Store} {b : Bool} {i : Int} {z : Str} {ds : List D} : isT (.int i) S "str" = some false := by first | rfl | decide
theorem isT_int_tuple {S : Store} {b : Bool} {i : Int} {z : Str} {ds : List D} : isT (.int i) S "tuple" = some false := by first | rfl | decide
theorem isT_int_list {S : Store} {b : Bool} {i : Int} {z : Str} {ds : List D} : isT (.int i) S "list" = some false := by first | rfl | decide
theorem isT_str_int {S : Store} {b : Bool} {i : Int} {z : Str} {ds : List D} : isT (.str z) S "int" = some false := by first | rfl | decide
theorem isT_str_bool {S : Store} {b : Bool} {i : Int} {z : Str} {ds : List D} : isT (.str z) S "bool" = some false := by first | rfl | decide
theorem isT_str_str {S : Store} {b : Bool} {i : Int} {z : Str} {ds : List D} : isT (.str z) S "str" = some true := by first | rfl | decide
theorem isT_str_tuple {S : Store} {b : Bool} {i : Int} {z : Str} {ds : List D} : isT (.str z) S "tuple" = some false := by first | rfl | decide
theorem isT_str_list {S : Store} {b : Bool} {i : Int} {z : Str} {ds : List D} : isT (.str z) S "list" = some false := by first | rfl | decide
theorem isT_tup_int {S : Store} {b : Bool} {i : Int} {z : Str} {ds : List D} : isT (.tup ds) S "int" = some false := by first | rfl | decide
theorem isT_tup_bool {S : Store} {b : Bool} {i : Int} {z : Str} {ds : List D} : isT (.tup ds) S "bool" = some false := by first | rfl | decide
theorem isT_tup_str {S : Store} {b : Bool} {i : Int} {z : Str} {ds : List D} : isT (.tup ds) S "str" = some false := by first | rfl | decide
theorem isT_tup_tuple {S : Store} {b : Bool} {i : Int} {z : Str} {ds : List D} : isT (.tup ds) S "tuple" = some true := by first | rfl | decide
theorem isT_tup_list {S : Store} {b : Bool} {i : Int} {z : Str} {ds : List D} : isT (.tup ds) S "list" = some false := by first | rfl | decide
theorem isT_lst_int {S : Store} {b : Bool} {i : Int} {z : Str} {ds : List D} : isT (.lst ds) S "int" = some false := by first | rfl | decide
theorem isT_lst_bool {S : Store} {b : Bool} {i : Int} {z : Str} {ds : List D} : isT (.lst ds) S "bool" = some false := by first | rfl | decide
theorem isT_lst_str {S : Store} {b : Bool} {i : Int} {z : Str} {ds : List D} : isT (.lst ds) S "str" = some false := by first | rfl | decide
theorem isT_lst_tuple {S : Store} {b : Bool} {i : Int} {z : Str} {ds : List D} : isT (.lst ds) S "tuple" = some false := by first | rfl | decide
theorem isT_lst_list {S : Store} {b : Bool} {i : Int} {z : Str} {ds : List D} : isT (.lst ds) S "list" = some true := by first | rfl | decide
theorem bq_tt : (true == true) = true := rfl
theorem bq_tf : (true == false) = false := rfl
theorem bq_ft : (false == true) = false := rfl
theorem bq_ff : (false == false) = true := rfl
theorem eqv2 (a b c d : Int) : eqv (.tup [.int a, .int b]) (.tup [.int c, .int d]) = (decide (a = c) && decide (b = d)) := by
  simp [eqv, D.py, pyAll, PyData.eqv, PyData.eqvAll, Bool.beq_eq_decide_eq]
theorem okD2 (a b : Int) : okD (.tup [.int a, .int b]) := by
  show SeqAt.shaped _ = true
  rfl
/-! the simp set -/
theorem x_rAdd {i j : Int} {S : Store} {Q : D → Store → Prop} : DL.rAdd (.int i) (.int j) S Q = Q (.int (i + j)) S := (rfl)
theorem x_rSub {i j : Int} {S : Store} {Q : D → Store → Prop} : DL.rSub (.int i) (.int j) S Q = Q (.int (i - j)) S := (rfl)
theorem x_rMul {i j : Int} {S : Store} {Q : D → Store → Prop} : DL.rMul (.int i) (.int j) S Q = (MulOk i j ∧ Q (.int (i * j)) S) := (rfl)
theorem x_rDiv {i j : Int} {S : Store} {Q : D → Store → Prop} : DL.rDiv (.int i) (.int j) S Q = (DivOk j ∧ Q (.int (i / j)) S) := (rfl)
theorem x_rMod {i j : Int} {S : Store} {Q : D → Store → Prop} : DL.rMod (.int i) (.int j) S Q = (0 < j ∧ Q (.int (i % j)) S) := (rfl)
theorem x_rPow {i j : Int} {S : Store} {Q : D → Store → Prop} : DL.rPow (.int i) (.int j) S Q = (CPow i j ∧ Q (.int (i ^ j.toNat)) S) := (rfl)
theorem x_rLt {i j : Int} {S : Store} {Q : D → Store → Prop} : DL.rLt (.int i) (.int j) S Q = Q (.bl (decide (i < j))) S := (rfl)
theorem x_rLe {i j : Int} {S : Store} {Q : D → Store → Prop} : DL.rLe (.int i) (.int j) S Q = Q (.bl (decide (i ≤ j))) S := (rfl)
theorem x_rGt {i j : Int} {S : Store} {Q : D → Store → Prop} : DL.rGt (.int i) (.int j) S Q = Q (.bl (decide (j < i))) S := (rfl)
theorem x_rGe {i j : Int} {S : Store} {Q : D → Store → Prop} : DL.rGe (.int i) (.int j) S Q = Q (.bl (decide (j ≤ i))) S := (rfl)
theorem x_rAdd_s {a b : Str} {S : Store} {Q : D → Store → Prop} : DL.rAdd (.str a) (.str b) S Q = (a.length + b.length ≤ sizeLine ∧ Q (.str (a ++ b)) S) := (rfl)
theorem x_rAdd_t {a b : List D} {S : Store} {Q : D → Store → Prop} : DL.rAdd (.tup a) (.tup b) S Q = (a ≠ [] ∧ a.length + b.length ≤ sizeLine ∧ Q (.tup (a ++ b)) S) := (rfl)
theorem x_rEq_int {a b : Int} {S : Store} {Q : D → Store → Prop} : DL.rEq (.int a) (.int b) S Q = Q (.bl (decide (a = b))) S := (rfl)
theorem x_rEq_bl {a b : Bool} {S : Store} {Q : D → Store → Prop} : DL.rEq (.bl a) (.bl b) S Q = Q (.bl (decide (a = b))) S := (rfl)
theorem x_rEq_str {a b : Str} {S : Store} {Q : D → Store → Prop} : DL.rEq (.str a) (.str b) S Q = Q (.bl (decide (a = b))) S := (rfl)
theorem x_rEq_tup {a b : List D} {S : Store} {Q : D → Store → Prop} : DL.rEq (.tup a) (.tup b) S Q = (okD (.tup a) ∧ okD (.tup b) ∧ Q (.bl (eqv (.tup a) (.tup b))) S) := (rfl)
theorem x_rEq_lst {a b : List D} {S : Store} {Q : D → Store → Prop} : DL.rEq (.lst a) (.lst b) S Q = (okD (.lst a) ∧ okD (.lst b) ∧ Q (.bl (eqv (.lst a) (.lst b))) S) := (rfl)
theorem x_rEq_nt {b : List D} {S : Store} {Q : D → Store → Prop} : DL.rEq .non (.tup b) S Q = (okD .non ∧ okD (.tup b) ∧ Q (.bl (eqv .non (.tup b))) S) := (rfl)
theorem x_rEq_tn {b : List D} {S : Store} {Q : D → Store → Prop} : DL.rEq (.tup b) .non S Q = (okD (.tup b) ∧ okD .non ∧ Q (.bl (eqv (.tup b) .non)) S) := (rfl)
theorem x_rEq_nn {S : Store} {Q : D → Store → Prop} : DL.rEq .non .non S Q = (okD .non ∧ okD .non ∧ Q (.bl (eqv .non .non)) S) := (rfl)
theorem x_rEq_ni {b : Int} {S : Store} {Q : D → Store → Prop} : DL.rEq .non (.int b) S Q = (okD .non ∧ okD (.int b) ∧ Q (.bl (eqv .non (.int b))) S) := (rfl)
theorem x_rEq_in {b : Int} {S : Store} {Q : D → Store → Prop} : DL.rEq (.int b) .non S Q = (okD (.int b) ∧ okD .non ∧ Q (.bl (eqv (.int b) .non)) S) := (rfl)
theorem x_rNe_int {a b : Int} {S : Store} {Q : D → Store → Prop} : DL.rNe (.int a) (.int b) S Q = Q (.bl (!decide (a = b))) S := (rfl)
theorem x_rNe_bl {a b : Bool} {S : Store} {Q : D → Store → Prop} : DL.rNe (.bl a) (.bl b) S Q = Q (.bl (!decide (a = b))) S := (rfl)
theorem x_rNe_str {a b : Str} {S : Store} {Q : D → Store → Prop} : DL.rNe (.str a) (.str b) S Q = Q (.bl (!decide (a = b))) S := (rfl)
theorem x_rNe_tup {a b : List D} {S : Store} {Q : D → Store → Prop} : DL.rNe (.tup a) (.tup b) S Q = (okD (.tup a) ∧ okD (.tup b) ∧ Q (.bl (!eqv (.tup a) (.tup b))) S) := (rfl)
theorem x_rNe_lst {a b : List D} {S : Store} {Q : D → Store → Prop} : DL.rNe (.lst a) (.lst b) S Q = (okD (.lst a) ∧ okD (.lst b) ∧ Q (.bl (!eqv (.lst a) (.lst b))) S) := (rfl)
theorem x_rNe_nt {b : List D} {S : Store} {Q : D → Store → Prop} : DL.rNe .non (.tup b) S Q = (okD .non ∧ okD (.tup b) ∧ Q (.bl (!eqv .non (.tup b))) S) := (rfl)
theorem x_rNe_tn {b : List D} {S : Store} {Q : D → Store → Prop} : DL.rNe (.tup b) .non S Q = (okD (.tup b) ∧ okD .non ∧ Q (.bl (!eqv (.tup b) .non)) S) := (rfl)
theorem x_rNe_nn {S : Store} {Q : D → Store → Prop} : DL.rNe .non .non S Q = (okD .non ∧ okD .non ∧ Q (.bl (!eqv .non .non)) S) := (rfl)
theorem x_rNe_ni {b : Int} {S : Store} {Q : D → Store → Prop} : DL.rNe .non (.int b) S Q = (okD .non ∧ okD (.int b) ∧ Q (.bl (!eqv .non (.int b))) S) := (rfl)
theorem x_rNe_in {b : Int} {S : Store} {Q : D → Store → Prop} : DL.rNe (.int b) .non S Q = (okD (.int b) ∧ okD .non ∧ Q (.bl (!eqv (.int b) .non)) S) := (rfl)
theorem x_is_non_n {S : Store} {Q : D → Store → Prop} : DL.rIs D.non .non S Q = Q (.bl true) S := (rfl)
theorem x_isn_non_n {S : Store} {Q : D → Store → Prop} : DL.rIsNot D.non .non S Q = Q (.bl false) S := (rfl)
theorem x_is_non_b {k : Bool} {S : Store} {Q : D → Store → Prop} : DL.rIs D.non (.bl k) S Q = Q (.bl false) S := (rfl)
theorem x_isn_non_b {k : Bool} {S : Store} {Q : D → Store → Prop} : DL.rIsNot D.non (.bl k) S Q = Q (.bl true) S := (rfl)
theorem x_is_bl_n {b : Bool} {S : Store} {Q : D → Store → Prop} : DL.rIs (.bl b) .non S Q = Q (.bl false) S := (rfl)
theorem x_isn_bl_n {b : Bool} {S : Store} {Q : D → Store → Prop} : DL.rIsNot (.bl b) .non S Q = Q (.bl true) S := (rfl)
theorem x_is_int_n {i : Int} {S : Store} {Q : D → Store → Prop} : DL.rIs (.int i) .non S Q = Q (.bl false) S := (rfl)
theorem x_isn_int_n {i : Int} {S : Store} {Q : D → Store → Prop} : DL.rIsNot (.int i) .non S Q = Q (.bl true) S := (rfl)
theorem x_is_int_b {i : Int} {k : Bool} {S : Store} {Q : D → Store → Prop} : DL.rIs (.int i) (.bl k) S Q = Q (.bl false) S := (rfl)
theorem x_isn_int_b {i : Int} {k : Bool} {S : Store} {Q : D → Store → Prop} : DL.rIsNot (.int i) (.bl k) S Q = Q (.bl true) S := (rfl)
theorem x_is_str_n {z : Str} {S : Store} {Q : D → Store → Prop} : DL.rIs (.str z) .non S Q = Q (.bl false) S := (rfl)
theorem x_isn_str_n {z : Str} {S : Store} {Q : D → Store → Prop} : DL.rIsNot (.str z) .non S Q = Q (.bl true) S := (rfl)
theorem x_is_str_b {z : Str} {k : Bool} {S : Store} {Q : D → Store → Prop} : DL.rIs (.str z) (.bl k) S Q = Q (.bl false) S := (rfl)
theorem x_isn_str_b {z : Str} {k : Bool} {S : Store} {Q : D → Store → Prop} : DL.rIsNot (.str z) (.bl k) S Q = Q (.bl true) S := (rfl)
theorem x_is_tup_n {ds : List D} {S : Store} {Q : D → Store → Prop} : DL.rIs (.tup ds) .non S Q = Q (.bl false) S := (rfl)
theorem x_isn_tup_n {ds : List D} {S : Store} {Q : D → Store → Prop} : DL.rIsNot (.tup ds) .non S Q = Q (.bl true) S := (rfl)
theorem x_is_tup_b {ds : List D} {k : Bool} {S : Store} {Q : D → Store → Prop} : DL.rIs (.tup ds) (.bl k) S Q = Q (.bl false) S := (rfl)
theorem x_isn_tup_b {ds : List D} {k : Bool} {S : Store} {Q : D → Store → Prop} : DL.rIsNot (.tup ds) (.bl k) S Q = Q (.bl true) S := (rfl)
theorem x_is_lst_n {ds : List D} {S : Store} {Q : D → Store → Prop} : DL.rIs (.lst ds) .non S Q = Q (.bl false) S := (rfl)
theorem x_isn_lst_n {ds : List D} {S : Store} {Q : D → Store → Prop} : DL.rIsNot (.lst ds) .non S Q = Q (.bl true) S := (rfl)
theorem x_is_lst_b {ds : List D} {k : Bool} {S : Store} {Q : D → Store → Prop} : DL.rIs (.lst ds) (.bl k) S Q = Q (.bl false) S := (rfl)
theorem x_isn_lst_b {ds : List D} {k : Bool} {S : Store} {Q : D → Store → Prop} : DL.rIsNot (.lst ds) (.bl k) S Q = Q (.bl true) S := (rfl)
theorem x_is_ref_n {n : Nat} {S : Store} {Q : D → Store → Prop} : DL.rIs (.ref n) .non S Q = Q (.bl false) S := (rfl)
theorem x_isn_ref_n {n : Nat} {S : Store} {Q : D → Store → Prop} : DL.rIsNot (.ref n) .non S Q = Q (.bl true) S := (rfl)
theorem x_is_ref_b {n : Nat} {k : Bool} {S : Store} {Q : D → Store → Prop} : DL.rIs (.ref n) (.bl k) S Q = Q (.bl false) S := (rfl)
theorem x_isn_ref_b {n : Nat} {k : Bool} {S : Store} {Q : D → Store → Prop} : DL.rIsNot (.ref n) (.bl k) S Q = Q (.bl true) S := (rfl)
theorem x_is_bb {a b : Bool} {S : Store} {Q : D → Store → Prop} : DL.rIs (.bl a) (.bl b) S Q = Q (.bl (a == b)) S := (rfl)
theorem x_isn_bb {a b : Bool} {S : Store} {Q : D → Store → Prop} : DL.rIsNot (.bl a) (.bl b) S Q = Q (.bl (!(a == b))) S := (rfl)
def oM {α : Type} (o : Option α) (k : α → Prop) : Prop := match o with | some a => k a | none => False
theorem oM_some {α : Type} {a : α} {k : α → Prop} : oM (some a) k = k a := (rfl)
def sM (o : Option Ob) (k : List D → Prop) : Prop := match o with | some (.lst ds) => k ds | _ => False
theorem sM_some {ds : List D} {k : List D → Prop} : sM (some (.lst ds)) k = k ds := (rfl)
theorem x_ix_tup {ds : List D} {i : Int} {S : Store} {Q : D → Store → Prop} : DL.rIx (.tup ds) (.int i) S Q = oM (atD ds i) (fun d => Q d S) := by show (match atD ds i with | some d => Q d S | none => False) = _; cases atD ds i <;> rfl
theorem x_ix_lst {ds : List D} {i : Int} {S : Store} {Q : D → Store → Prop} : DL.rIx (.lst ds) (.int i) S Q = oM (atD ds i) (fun d => Q d S) := by show (match atD ds i with | some d => Q d S | none => False) = _; cases atD ds i <;> rfl
theorem x_ix_ref {n : Nat} {i : Int} {S : Store} {Q : D → Store → Prop} : DL.rIx (.ref n) (.int i) S Q = sM S[n]? (fun ds => oM (atD ds i) (fun d => Q d S)) := by
  show (match S[n]? with | some (.lst ds) => (match atD ds i with | some d => Q d S | none => False) | _ => False) = _
  rcases S[n]? with _ | (ds | _)
  · rfl
  · show (match atD ds i with | some d => Q d S | none => False) = oM (atD ds i) _
    cases atD ds i <;> rfl
  · rfl
theorem x_tru_non {S : Store} {Q : Bool → Store → Prop} : DL.rTru D.non S Q = Q false S := (rfl)
theorem x_tru_bl {b : Bool} {S : Store} {Q : Bool → Store → Prop} : DL.rTru (.bl b) S Q = Q b S := (rfl)
theorem x_tru_int {i : Int} {S : Store} {Q : Bool → Store → Prop} : DL.rTru (.int i) S Q = Q (i != 0) S := (rfl)
theorem x_tru_str {z : Str} {S : Store} {Q : Bool → Store → Prop} : DL.rTru (.str z) S Q = (z.length ≤ sizeLine ∧ Q (z.length != 0) S) := (rfl)
theorem x_tru_tup {ds : List D} {S : Store} {Q : Bool → Store → Prop} : DL.rTru (.tup ds) S Q = Q (!ds.isEmpty) S := (rfl)
theorem x_tru_lst {ds : List D} {S : Store} {Q : Bool → Store → Prop} : DL.rTru (.lst ds) S Q = Q (!ds.isEmpty) S := (rfl)
theorem x_tru_ref {n : Nat} {S : Store} {Q : Bool → Store → Prop} : DL.rTru (.ref n) S Q = sM S[n]? (fun ds => Q (!ds.isEmpty) S) := by show (match S[n]? with | some (.lst ds) => _ | _ => False) = _; rcases S[n]? with _ | (_ | _) <;> rfl
theorem x_len_tup {ds : List D} {S : Store} {Q : D → Store → Prop} : DL.rLen [.tup ds] S Q = Q (.int ds.length) S := (rfl)
theorem x_tuple_tup {ds : List D} {S : Store} {Q : D → Store → Prop} : DL.rTuple [.tup ds] S Q = Q (.tup ds) S := (rfl)
theorem x_list_tup {ds : List D} {S : Store} {Q : D → Store → Prop} : DL.rList [.tup ds] S Q = Q (.lst ds) S := (rfl)
theorem x_listN_tup {ds : List D} {S : Store} {Q : D → Store → Prop} : DL.rListN [.tup ds] S Q = Q (.ref S.length) (S ++ [.lst ds]) := (rfl)
theorem x_len_lst {ds : List D} {S : Store} {Q : D → Store → Prop} : DL.rLen [.lst ds] S Q = Q (.int ds.length) S := (rfl)
theorem x_tuple_lst {ds : List D} {S : Store} {Q : D → Store → Prop} : DL.rTuple [.lst ds] S Q = Q (.tup ds) S := (rfl)
theorem x_list_lst {ds : List D} {S : Store} {Q : D → Store → Prop} : DL.rList [.lst ds] S Q = Q (.lst ds) S := (rfl)
theorem x_listN_lst {ds : List D} {S : Store} {Q : D → Store → Prop} : DL.rListN [.lst ds] S Q = Q (.ref S.length) (S ++ [.lst ds]) := (rfl)
theorem x_len_str {z : Str} {S : Store} {Q : D → Store → Prop} : DL.rLen [.str z] S Q = (z.length ≤ sizeLine ∧ Q (.int z.length) S) := (rfl)
theorem x_rLen_ref {n : Nat} {S : Store} {Q : D → Store → Prop} : DL.rLen [.ref n] S Q = sM S[n]? (fun ds => Q (.int ds.length) S) := by show (match S[n]? with | some (.lst ds) => _ | _ => False) = _; rcases S[n]? with _ | (_ | _) <;> rfl
theorem x_rTuple_ref {n : Nat} {S : Store} {Q : D → Store → Prop} : DL.rTuple [.ref n] S Q = sM S[n]? (fun ds => Q (.tup ds) S) := by show (match S[n]? with | some (.lst ds) => _ | _ => False) = _; rcases S[n]? with _ | (_ | _) <;> rfl
theorem x_rList_ref {n : Nat} {S : Store} {Q : D → Store → Prop} : DL.rList [.ref n] S Q = sM S[n]? (fun ds => Q (.lst ds) S) := by show (match S[n]? with | some (.lst ds) => _ | _ => False) = _; rcases S[n]? with _ | (_ | _) <;> rfl
theorem x_rListN_ref {n : Nat} {S : Store} {Q : D → Store → Prop} : DL.rListN [.ref n] S Q = sM S[n]? (fun ds => Q (.ref S.length) (S ++ [.lst ds])) := by show (match S[n]? with | some (.lst ds) => _ | _ => False) = _; rcases S[n]? with _ | (_ | _) <;> rfl
theorem x_int_int {i : Int} {S : Store} {Q : D → Store → Prop} : DL.rInt [.int i] S Q = Q (.int i) S := (rfl)
theorem x_int_bl {b : Bool} {S : Store} {Q : D → Store → Prop} : DL.rInt [.bl b] S Q = Q (.int (if b = true then 1 else 0)) S := (rfl)
theorem x_abs {i : Int} {S : Store} {Q : D → Store → Prop} : DL.rAbs [.int i] S Q = Q (.int (if i < 0 then -i else i)) S := (rfl)
theorem x_gcd {i j : Int} {S : Store} {Q : D → Store → Prop} : rGcdD [.int i, .int j] S Q = Q (.int ((Nat.gcd i.natAbs j.natAbs : Nat) : Int)) S := (rfl)
theorem x_max2 {i j : Int} {S : Store} {Q : D → Store → Prop} : DL.rMax2 [.int i, .int j] S Q = Q (.int (if j > i then j else i)) S := (rfl)
theorem x_min2 {i j : Int} {S : Store} {Q : D → Store → Prop} : DL.rMin2 [.int i, .int j] S Q = Q (.int (if j < i then j else i)) S := (rfl)
theorem x_append {n : Nat} {d : D} {S : Store} {Q : D → Store → Prop} : mAppend (.ref n) [d] S Q = sM S[n]? (fun xs => xs.length < sizeLine ∧ Q .non (S.set n (.lst (xs ++ [d])))) := by show (match S[n]? with | some (.lst xs) => _ | _ => False) = _; rcases S[n]? with _ | (_ | _) <;> rfl
theorem x_popAt {n m : Nat} {S : Store} {Q : D → Store → Prop} : mPopAt (.ref n) [.int (no_index (OfNat.ofNat m : Int))] S Q = sM S[n]? (fun xs => oM xs[m]? (fun y => m < 2 ^ 62 ∧ Q y (S.set n (.lst (xs.eraseIdx m))))) := by
  rw [mPopAt_lit]
  rcases S[n]? with _ | (xs | _)
  · rfl
  · show (match xs[m]? with | some y => m < 2 ^ 62 ∧ Q y (S.set n (.lst (xs.eraseIdx m))) | none => False) = oM xs[m]? _
    cases xs[m]? <;> rfl
  · rfl
theorem x_pop {n : Nat} {S : Store} {Q : D → Store → Prop} : mPop (.ref n) [] S Q = sM S[n]? (fun xs => oM xs[xs.length - 1]? (fun y => Q y (S.set n (.lst xs.dropLast)))) := by
  show (match S[n]? with | some (.lst xs) => (match xs[xs.length - 1]? with | some y => Q y (S.set n (.lst xs.dropLast)) | none => False) | _ => False) = _
  rcases S[n]? with _ | (xs | _)
  · rfl
  · show (match xs[xs.length - 1]? with | some y => Q y (S.set n (.lst xs.dropLast)) | none => False) = oM xs[xs.length - 1]? _
    cases xs[xs.length - 1]? <;> rfl
  · rfl
theorem x_putAt {n m : Nat} {d : D} {S : Store} {P : Store → Prop} : putAt n (no_index (OfNat.ofNat m : Int)) d S P = sM S[n]? (fun xs => m < xs.length ∧ P (S.set n (.lst (xs.set m d)))) := by rw [putAt_lit]; rcases S[n]? with _ | (_ | _) <;> rfl
theorem x_putAtC {n m : Nat} {d : D} {S : Store} {P : Store → Prop} : putAt n (m : Int) d S P = sM S[n]? (fun xs => m < xs.length ∧ P (S.set n (.lst (xs.set m d)))) := by show (match S[n]? with | some (.lst xs) => _ | _ => False) = _; rcases S[n]? with _ | (_ | _) <;> rfl
theorem x_isL_ref {n : Nat} {S : Store} : isL (.ref n) S = sM S[n]? (fun _ => True) := by show (match S[n]? with | some (.lst _) => True | _ => False) = _; rcases S[n]? with _ | (_ | _) <;> rfl
theorem x_isL_lst {ds : List D} {S : Store} : isL (.lst ds) S = True := (rfl)
theorem y_var0 {d : D} {ρ : DL.Env} {S : Store} {Q : D → Store → Prop}  : wVar 0 (some d :: ρ) S Q = Q d S := (rfl)
theorem y_varS {n : Nat} {x : Option D} {ρ : DL.Env} {S : Store} {Q : D → Store → Prop}  : wVar (n + 1) (x :: ρ) S Q = wVar n ρ S Q := by show (match (x :: ρ)[n + 1]? with | some (some d) => Q d S | _ => False) = (match ρ[n]? with | some (some d) => Q d S | _ => False); rw [List.getElem?_cons_succ]
def tB (d : D) (S : Store) (Q : Bool → Store → Prop) : Prop := match d with | .bl k => Q k S | _ => False
theorem y_tB {k : Bool} {S : Store} {Q : Bool → Store → Prop} : tB (.bl k) S Q = Q k S := (rfl)
theorem y_test {w : WE} {ρ : DL.Env} {S : Store} {Q : Bool → Store → Prop}  : wTest w ρ S Q = w ρ S (fun d S1 => tB d S1 Q) := (rfl)
theorem y_wBl {w : WE} {k : Bool → WE} {ρ : DL.Env} {S : Store} {Q : D → Store → Prop}  : wBl w k ρ S Q = w ρ S (fun d S1 => tB d S1 (fun b S2 => k b ρ S2 Q)) := (rfl)
def nB (d : D) (S : Store) (Q : D → Store → Prop) : Prop := match d with | .int i => Q (.int (-i)) S | _ => False
theorem y_nB {i : Int} {S : Store} {Q : D → Store → Prop} : nB (.int i) S Q = Q (.int (-i)) S := (rfl)
theorem y_neg {w : WE} {ρ : DL.Env} {S : Store} {Q : D → Store → Prop}  : wNeg w ρ S Q = w ρ S (fun d S1 => nB d S1 Q) := (rfl)
theorem y_isT {w : WE} {T : String} {ρ : DL.Env} {S : Store} {Q : D → Store → Prop}  : wIsT w T ρ S Q = w ρ S (fun d S1 => oM (isT d S1 T) (fun b => Q (.bl b) S1)) := by
  unfold wIsT
  congr 1
  funext d S1
  cases isT d S1 T <;> rfl
theorem y_asgN {w : WE} {i : Nat} {D0 : EndsD} {ρ : DL.Env} {S : Store}  : wAsg w (.name i) D0 ρ S = w ρ S (fun d S1 => D0.nx (ρ.set i (some d)) S1) := by unfold wAsg; simp only [bindT]
def bK (ts : List Tg) (d : D) (ρ : DL.Env) (k : DL.Env → Prop) : Prop := match d with | .tup ds => oM (bindTs ts ds ρ) k | _ => False
theorem y_bK {ts : List Tg} {ds : List D} {ρ : DL.Env} {k : DL.Env → Prop} : bK ts (.tup ds) ρ k = oM (bindTs ts ds ρ) k := (rfl)
theorem bK_eq {ts : List Tg} {d : D} {ρ : DL.Env} {k : DL.Env → Prop} : (match bindT (.tup ts) d ρ with | some ρ' => k ρ' | none => False) = bK ts d ρ k := by
  cases d with
  | tup ds =>
    simp only [bindT, bK]
    cases bindTs ts ds ρ <;> rfl
  | _ => simp only [bindT, bK]
theorem y_asgT {w : WE} {ts : List Tg} {D0 : EndsD} {ρ : DL.Env} {S : Store}  : wAsg w (.tup ts) D0 ρ S = w ρ S (fun d S1 => bK ts d ρ (fun ρ' => D0.nx ρ' S1)) := by
  unfold wAsg
  congr 1
  funext d S1
  exact bK_eq (k := fun ρ' => D0.nx ρ' S1)
theorem y_bindN {i : Nat} {ts : List Tg} {d : D} {ds : List D} {ρ : DL.Env} : bindTs (.name i :: ts) (d :: ds) ρ = bindTs ts ds (ρ.set i (some d)) := by simp only [bindTs, bindT]
theorem y_bind0 {ρ : DL.Env} : bindTs [] [] ρ = some ρ := by simp only [bindTs]
theorem y_for0 {g : Tg} {wb : WS} {G : Store → Prop} {D0 : EndsD} {ρ : DL.Env} {S : Store}  : forR g wb G D0 [] ρ S = (G S ∧ D0.nx ρ S) := (rfl)
theorem y_forN {i : Nat} {wb : WS} {G : Store → Prop} {x : D} {r : List D} {D0 : EndsD} {ρ : DL.Env} {S : Store}  : forR (.name i) wb G D0 (x :: r) ρ S = (G S ∧ wb { D0 with nx := fun ρ S => forR (.name i) wb G D0 r ρ S, ct := fun ρ S => forR (.name i) wb G D0 r ρ S, bk := D0.nx } (ρ.set i (some x)) S) := by rw [forR]; simp only [bindT]
theorem y_forT {ts : List Tg} {wb : WS} {G : Store → Prop} {x : D} {r : List D} {D0 : EndsD} {ρ : DL.Env} {S : Store}  : forR (.tup ts) wb G D0 (x :: r) ρ S = (G S ∧ bK ts x ρ (fun ρ' => wb { D0 with nx := fun ρ S => forR (.tup ts) wb G D0 r ρ S, ct := fun ρ S => forR (.tup ts) wb G D0 r ρ S, bk := D0.nx } ρ' S)) := by
  rw [forR]
  congr 1
  exact bK_eq
def iK (d : D) (S : Store) (Q : List D → (Store → Prop) → Store → Prop) : Prop := match d with | .tup ds => Q ds (fun _ => True) S | .lst ds => Q ds (fun _ => True) S | .ref n => sM S[n]? (fun ds => Q ds (fun S => S[n]? = some (.lst ds)) S) | _ => False
theorem y_seqI {w : WE} {ρ : DL.Env} {S : Store} {Q : List D → (Store → Prop) → Store → Prop}  : wSeqI w ρ S Q = w ρ S (fun d S1 => iK d S1 Q) := by
  unfold wSeqI
  congr 1
theorem y_iK_t {ds : List D} {S : Store} {Q : List D → (Store → Prop) → Store → Prop} : iK (.tup ds) S Q = Q ds (fun _ => True) S := (rfl)
theorem y_iK_l {ds : List D} {S : Store} {Q : List D → (Store → Prop) → Store → Prop} : iK (.lst ds) S Q = Q ds (fun _ => True) S := (rfl)
theorem y_iK_r {n : Nat} {S : Store} {Q : List D → (Store → Prop) → Store → Prop} : iK (.ref n) S Q = sM S[n]? (fun ds => Q ds (fun S => S[n]? = some (.lst ds)) S) := (rfl)
def r1K (ds : List D) (S : Store) (Q : List D → (Store → Prop) → Store → Prop) : Prop := match ds with | [.int n] => (-(2 ^ 62) ≤ n ∧ n < 2 ^ 62) ∧ Q (intsD 0 n.toNat) (fun _ => True) S | _ => False
def r2K (ds : List D) (S : Store) (Q : List D → (Store → Prop) → Store → Prop) : Prop := match ds with | [.int i, .int j] => (-(2 ^ 62) ≤ i ∧ i < 2 ^ 62 ∧ -(2 ^ 62) ≤ j ∧ j < 2 ^ 62) ∧ Q (intsD i (j - i).toNat) (fun _ => True) S | _ => False
theorem y_rg1 {w : WA} {ρ : DL.Env} {S : Store} {Q : List D → (Store → Prop) → Store → Prop}  : wRange1 w ρ S Q = w ρ S (fun ds S1 => r1K ds S1 Q) := (rfl)
theorem y_rg2 {w : WA} {ρ : DL.Env} {S : Store} {Q : List D → (Store → Prop) → Store → Prop}  : wRange2 w ρ S Q = w ρ S (fun ds S1 => r2K ds S1 Q) := (rfl)
theorem y_r1K {n : Int} {S : Store} {Q : List D → (Store → Prop) → Store → Prop} : r1K [.int n] S Q = ((-(2 ^ 62) ≤ n ∧ n < 2 ^ 62) ∧ Q (intsD 0 n.toNat) (fun _ => True) S) := (rfl)
theorem y_r2K {i j : Int} {S : Store} {Q : List D → (Store → Prop) → Store → Prop} : r2K [.int i, .int j] S Q = ((-(2 ^ 62) ≤ i ∧ i < 2 ^ 62 ∧ -(2 ^ 62) ≤ j ∧ j < 2 ^ 62) ∧ Q (intsD i (j - i).toNat) (fun _ => True) S) := (rfl)
def pK (o i d : D) (S : Store) (P : Store → Prop) : Prop := match o, i with | .ref n, .int k => putAt n k d S P | _, _ => False
theorem y_put {we wo wi : WE} {D0 : EndsD} {ρ : DL.Env} {S : Store}  : wPut we wo wi D0 ρ S = we ρ S (fun d S1 => wo ρ S1 (fun o S2 => wi ρ S2 (fun i S3 => pK o i d S3 (D0.nx ρ)))) := (rfl)
theorem y_pK {n : Nat} {k : Int} {d : D} {S : Store} {P : Store → Prop} : pK (.ref n) (.int k) d S P = putAt n k d S P := (rfl)
theorem y_comp {wi : WI} {g : Tg} {wt : WT} {we : WE} {vs : List Nat} {ρ : DL.Env} {S : Store} {Q : D → Store → Prop}  : wComp wi g wt we vs ρ S Q = wi ρ S (fun xs G S1 => compR g wt we G (wipeD ρ vs) Q xs [] S1) := (rfl)
def cN (d : D) (S : Store) (Q : D → Store → Prop) : Prop := match d with | .lst ds => ds.length ≤ sizeLine ∧ Q (.ref S.length) (S ++ [.lst ds]) | _ => False
theorem y_compN {wi : WI} {g : Tg} {wt : WT} {we : WE} {vs : List Nat} {ρ : DL.Env} {S : Store} {Q : D → Store → Prop}  : wCompN wi g wt we vs ρ S Q = wi ρ S (fun xs G S1 => compR g wt we G (wipeD ρ vs) (fun d S2 => cN d S2 Q) xs [] S1) := (rfl)
theorem y_cN {ds : List D} {S : Store} {Q : D → Store → Prop} : cN (.lst ds) S Q = (ds.length ≤ sizeLine ∧ Q (.ref S.length) (S ++ [.lst ds])) := (rfl)
theorem y_wipe0 {ρ : DL.Env} : wipeD ρ [] = ρ := (rfl)
theorem y_wipe1 {v : Nat} {vs : List Nat} {ρ : DL.Env} : wipeD ρ (v :: vs) = (wipeD ρ vs).set v none := (rfl)
theorem z_cast0 : ((0 : Nat) : Int) = 0 := (rfl)
theorem z_pos (n : Nat) : (0 < ((n + 1 : Nat) : Int)) = True := by
  apply eq_true
  omega
theorem MulOk.big {i j : Int} (h1 : i.natAbs < 2 ^ 400) (h2 : j.natAbs < 2 ^ 400) : MulOk i j :=
  .w (wide_mul (a := 400) (b := 400) h1 h2 (by decide) (by decide) (by decide))

theorem y_w_seq {t u : WS} {D0 : EndsD} {ρ : DL.Env} {S : Store} : wSeq t u D0 ρ S = t { D0 with nx := u D0 } ρ S := (rfl)
theorem y_w_ret {w : WE} {D0 : EndsD} {ρ : DL.Env} {S : Store} : wRet w D0 ρ S = w ρ S D0.rt := (rfl)
theorem y_w_retN {D0 : EndsD} {ρ : DL.Env} {S : Store} : wRetN D0 ρ S = D0.rt .non S := (rfl)
theorem y_w_if {c : WT} {t u : WS} {D0 : EndsD} {ρ : DL.Env} {S : Store} : wIf c t u D0 ρ S = c ρ S (fun k S1 => if k = true then t D0 ρ S1 else u D0 ρ S1) := (rfl)
theorem y_w_drop {w : WE} {D0 : EndsD} {ρ : DL.Env} {S : Store} : wDrop w D0 ρ S = w ρ S (fun _ S1 => D0.nx ρ S1) := (rfl)
theorem y_w_next {D0 : EndsD} {ρ : DL.Env} {S : Store} : wNext D0 ρ S = D0.nx ρ S := (rfl)
theorem y_w_brk {D0 : EndsD} {ρ : DL.Env} {S : Store} : wBreak D0 ρ S = D0.bk ρ S := (rfl)
theorem y_w_ct {D0 : EndsD} {ρ : DL.Env} {S : Store} : wCont D0 ρ S = D0.ct ρ S := (rfl)
theorem y_w_c {d : D} {ρ : DL.Env} {S : Store} {Q : D → Store → Prop} : wC d ρ S Q = Q d S := (rfl)
theorem y_w_op {R : RD} {wa wb : WE} {ρ : DL.Env} {S : Store} {Q : D → Store → Prop} : wOp R wa wb ρ S Q = wa ρ S (fun x S1 => wb ρ S1 (fun y S2 => R x y S2 Q)) := (rfl)
theorem y_w_and {t u : WT} {ρ : DL.Env} {S : Store} {Q : Bool → Store → Prop} : wAnd t u ρ S Q = t ρ S (fun k S1 => if k = true then u ρ S1 Q else Q false S1) := (rfl)
theorem y_w_or {t u : WT} {ρ : DL.Env} {S : Store} {Q : Bool → Store → Prop} : wOr t u ρ S Q = t ρ S (fun k S1 => if k = true then Q true S1 else u ρ S1 Q) := (rfl)
theorem y_w_not {t : WT} {ρ : DL.Env} {S : Store} {Q : Bool → Store → Prop} : wNot t ρ S Q = t ρ S (fun k S1 => Q (!k) S1) := (rfl)
theorem y_w_tru {w : WE} {ρ : DL.Env} {S : Store} {Q : Bool → Store → Prop} : wTru w ρ S Q = w ρ S (fun d S1 => rTru d S1 Q) := (rfl)
theorem y_w_ifE {t : WT} {wa wb : WE} {ρ : DL.Env} {S : Store} {Q : D → Store → Prop} : wIfE t wa wb ρ S Q = t ρ S (fun k S1 => if k = true then wa ρ S1 Q else wb ρ S1 Q) := (rfl)
theorem y_w_call {R : RC} {wr : WA} {ρ : DL.Env} {S : Store} {Q : D → Store → Prop} : wCall R wr ρ S Q = wr ρ S (fun ds S1 => R ds S1 Q) := (rfl)
theorem y_w_cons {w : WE} {wr : WA} {ρ : DL.Env} {S : Store} {Q : List D → Store → Prop} : wCons w wr ρ S Q = w ρ S (fun d S1 => wr ρ S1 (fun ds S2 => Q (d :: ds) S2)) := (rfl)
theorem y_w_nil {ρ : DL.Env} {S : Store} {Q : List D → Store → Prop} : wNil ρ S Q = Q [] S := (rfl)
theorem y_w_tup {w : WA} {ρ : DL.Env} {S : Store} {Q : D → Store → Prop} : wTup w ρ S Q = w ρ S (fun ds S1 => ds.length ≤ sizeLine ∧ Q (.tup ds) S1) := (rfl)
theorem y_w_lst {w : WA} {ρ : DL.Env} {S : Store} {Q : D → Store → Prop} : wLst w ρ S Q = w ρ S (fun ds S1 => ds.length ≤ sizeLine ∧ Q (.lst ds) S1) := (rfl)
theorem y_w_new {w : WA} {ρ : DL.Env} {S : Store} {Q : D → Store → Prop} : wNew w ρ S Q = w ρ S (fun ds S1 => ds.length ≤ sizeLine ∧ Q (.ref S1.length) (S1 ++ [.lst ds])) := (rfl)
theorem y_w_fn {Γ : Con} {n : Nat} {wr : WA} {ρ : DL.Env} {S : Store} {Q : D → Store → Prop} : wFn Γ n wr ρ S Q = wr ρ S (fun ds S1 => ds.length = n ∧ Γ ds S1 Q) := (rfl)
theorem y_w_meth {R : RM} {wo : WE} {wr : WA} {ρ : DL.Env} {S : Store} {Q : D → Store → Prop} : wMeth R wo wr ρ S Q = wo ρ S (fun x S1 => isL x S1 ∧ wr ρ S1 (fun ds S2 => R x ds S2 Q)) := (rfl)
theorem y_w_meth0 {R : RM} {wo : WE} {ρ : DL.Env} {S : Store} {Q : D → Store → Prop} : wMeth0 R wo ρ S Q = wo ρ S (fun x S1 => isL x S1 ∧ R x [] S1 Q) := (rfl)
theorem y_w_andV {wa wb : WE} {ρ : DL.Env} {S : Store} {Q : D → Store → Prop} : wAndV wa wb ρ S Q = wBl wa (fun k ρ S Q => if k = true then wb ρ S Q else Q (.bl false) S) ρ S Q := (rfl)
theorem y_w_orV {wa wb : WE} {ρ : DL.Env} {S : Store} {Q : D → Store → Prop} : wOrV wa wb ρ S Q = wBl wa (fun k ρ S Q => if k = true then Q (.bl true) S else wb ρ S Q) ρ S Q := (rfl)
theorem y_w_notV {wa : WE} {ρ : DL.Env} {S : Store} {Q : D → Store → Prop} : wNotV wa ρ S Q = wBl wa (fun k ρ S Q => Q (.bl (!k)) S) ρ S Q := (rfl)
theorem y_w_for {wi : WI} {g : Tg} {wb : WS} {D0 : EndsD} {ρ : DL.Env} {S : Store} : wFor wi g wb D0 ρ S = wi ρ S (fun xs G S1 => forR g wb G D0 xs ρ S1) := (rfl)
theorem y_w_yes {ρ : DL.Env} {S : Store} {Q : Bool → Store → Prop} : wYes ρ S Q = Q true S := (rfl)
end DL

set_option maxHeartbeats 4000000
/-! DLA: order, membership, sorting, slices by content -/
namespace DL
open PySem PySem.Spec PyProof.Rows L2

/-! ### order of data -/
def alikeD (x y : D) : Prop := PySem.W.alike x.py y.py = true
def ltD (x y : D) : Bool := PySem.W.dataLt x.py y.py
def cmpD (f : D → D → Bool) (g : Int → Int → Bool) : RD
  | .int i, .int j, S, Q => Q (.bl (g i j)) S
  | x, y, S, Q => okD x ∧ okD y ∧ alikeD x y ∧ x.py ≠ .none ∧ Q (.bl (f x y)) S
def rLtD : RD := cmpD (fun x y => ltD x y) (fun i j => decide (i < j))
def rLeD : RD := cmpD (fun x y => !ltD y x) (fun i j => decide (i ≤ j))
def rGtD : RD := cmpD (fun x y => ltD y x) (fun i j => decide (j < i))
def rGeD : RD := cmpD (fun x y => !ltD x y) (fun i j => decide (j ≤ i))
def rCmpV (K : PySem.W.Frag) (f : PyData → PyData → Bool) (g : Int → Int → Bool) : R2 := fun x y H Q => rI0 (fun i j => .bl (g i j)) x y H Q ∨
  ∃ d e, Dp K H x d ∧ Dp K H y e ∧ SeqAt.shaped d = true ∧ SeqAt.shaped e = true ∧ PySem.W.alike d e = true ∧ d ≠ .none ∧ Q (.bl (f d e)) H
theorem shaped_room {A : Around} {d e : PyData} (h : SeqAt.shaped d = true) (hu : A.units + 64 < cLine) : A.units + min d.depth e.depth < cLine := by
  have h' : (d.canLay0 && decide (d.depth ≤ 64)) = true := h
  rw [Bool.and_eq_true, decide_eq_true_eq] at h'
  omega
section
variable {X : Cx}
theorem op_cmpV {op : CmpOp} {f : PyData → PyData → Bool} {g : Int → Int → Bool} (hu : X.A.units + 64 < cLine) (h0 : OpR X (compareOp op) (rI0 fun i j => .bl (g i j)))
    (h1 : ∀ {s : Shared} {E : Value → Shared → Prop} {a b : Value} {da db : PyData} {as bs : List Addr} {Q : Value → Shared → Prop}, Reads s.heap a da as → Reads s.heap b db bs → PySem.W.alike da db = true → da ≠ .none → X.A.units + min da.depth db.depth < cLine → Q (.bool (f da db)) s → wpAny (model X.prog X.w) X.A (compareOp op a b) Q E s) :
    OpR X (compareOp op) (rCmpV X.K f g) := by
  intro pins s σ H x y v u Q I rx ry h
  rcases h with h | ⟨d, e, hd, he, sd, se, hal, hn, q⟩
  · exact h0 pins s σ H x y v u Q I rx ry h
  · obtain ⟨as, r1⟩ := Dp.reads I d x v hd rx
    obtain ⟨bs, r2⟩ := Dp.reads I e y u he ry
    exact h1 r1 r2 hal hn (shaped_room sd hu) ⟨.bl _, H, I, rfl, q⟩
theorem opd_cmp {K : PySem.W.Frag} {f : D → D → Bool} {f' : PyData → PyData → Bool} {g : Int → Int → Bool} (hf : ∀ x y, f x y = f' x.py y.py) : OpD K (rCmpV K f' g) (cmpD f g) := by
  intro μ S H x y vx vy Q0 Q m rx ry q p
  unfold cmpD at q
  split at q
  · exact .inl ⟨_, _, rx.int_inv, ry.int_inv, p.now m (.bl _) q⟩
  · obtain ⟨q1, q2, q3, q4, q5⟩ := q
    exact .inr ⟨_, _, rx.dp (shaped_lay q1), ry.dp (shaped_lay q2), q1, q2, q3, q4, p.now m (.bl _) (by rw [← hf]; exact q5)⟩
variable {a b : Expr} {wa wb : WE} {pos : Pos}
theorem op_ltV (hu : X.A.units + 64 < cLine) : OpR X (compareOp .Lt) (rCmpV X.K (fun d e => PySem.W.dataLt d e) fun i j => decide (i < j)) := op_cmpV hu op_lt fun r1 r2 h1 h2 h3 q => PySem.W.lt_data r1 r2 h1 h2 h3 q
theorem op_gtV (hu : X.A.units + 64 < cLine) : OpR X (compareOp .Gt) (rCmpV X.K (fun d e => PySem.W.dataLt e d) fun i j => decide (j < i)) := op_cmpV hu op_gt fun r1 r2 h1 h2 h3 q => PySem.W.gt_data r1 r2 h1 h2 h3 q
theorem op_leV (hu : X.A.units + 64 < cLine) : OpR X (compareOp .LtE) (rCmpV X.K (fun d e => !PySem.W.dataLt e d) fun i j => decide (i ≤ j)) := op_cmpV hu op_le fun r1 r2 h1 h2 h3 q => PySem.W.le_data r1 r2 h1 h2 h3 q
theorem op_geV (hu : X.A.units + 64 < cLine) : OpR X (compareOp .GtE) (rCmpV X.K (fun d e => !PySem.W.dataLt d e) fun i j => decide (j ≤ i)) := op_cmpV hu op_ge fun r1 r2 h1 h2 h3 q => PySem.W.ge_data r1 r2 h1 h2 h3 q
theorem opd_ltD {K : PySem.W.Frag} : OpD K (rCmpV K (fun d e => PySem.W.dataLt d e) fun i j => decide (i < j)) rLtD := opd_cmp fun _ _ => rfl
theorem opd_gtD {K : PySem.W.Frag} : OpD K (rCmpV K (fun d e => PySem.W.dataLt e d) fun i j => decide (j < i)) rGtD := opd_cmp fun _ _ => rfl
theorem opd_leD {K : PySem.W.Frag} : OpD K (rCmpV K (fun d e => !PySem.W.dataLt e d) fun i j => decide (i ≤ j)) rLeD := opd_cmp fun _ _ => rfl
theorem opd_geD {K : PySem.W.Frag} : OpD K (rCmpV K (fun d e => !PySem.W.dataLt d e) fun i j => decide (j ≤ i)) rGeD := opd_cmp fun _ _ => rfl
theorem se_ltD (hu : X.A.units + 64 < cLine) (ha : SE X a wa) (hb : SE X b wb) : SE X (.Compare a [.Lt] [b] pos) (wOp rLtD wa wb) := se_cmpR opd_ltD (op_ltV hu) ha hb (nomark _)
theorem se_leD (hu : X.A.units + 64 < cLine) (ha : SE X a wa) (hb : SE X b wb) : SE X (.Compare a [.LtE] [b] pos) (wOp rLeD wa wb) := se_cmpR opd_leD (op_leV hu) ha hb (nomark _)
theorem se_gtD (hu : X.A.units + 64 < cLine) (ha : SE X a wa) (hb : SE X b wb) : SE X (.Compare a [.Gt] [b] pos) (wOp rGtD wa wb) := se_cmpR opd_gtD (op_gtV hu) ha hb (nomark _)
theorem se_geD (hu : X.A.units + 64 < cLine) (ha : SE X a wa) (hb : SE X b wb) : SE X (.Compare a [.GtE] [b] pos) (wOp rGeD wa wb) := se_cmpR opd_geD (op_geV hu) ha hb (nomark _)
theorem st_ltD (hu : X.A.units + 64 < cLine) (ha : SE X a wa) (hb : SE X b wb) : ST X (.Compare a [.Lt] [b] pos) (wTest (wOp rLtD wa wb)) := st_cmpR opd_ltD (op_ltV hu) ha hb (nomark _)
theorem st_leD (hu : X.A.units + 64 < cLine) (ha : SE X a wa) (hb : SE X b wb) : ST X (.Compare a [.LtE] [b] pos) (wTest (wOp rLeD wa wb)) := st_cmpR opd_leD (op_leV hu) ha hb (nomark _)
theorem st_gtD (hu : X.A.units + 64 < cLine) (ha : SE X a wa) (hb : SE X b wb) : ST X (.Compare a [.Gt] [b] pos) (wTest (wOp rGtD wa wb)) := st_cmpR opd_gtD (op_gtV hu) ha hb (nomark _)
theorem st_geD (hu : X.A.units + 64 < cLine) (ha : SE X a wa) (hb : SE X b wb) : ST X (.Compare a [.GtE] [b] pos) (wTest (wOp rGeD wa wb)) := st_cmpR opd_geD (op_geV hu) ha hb (nomark _)
end

/-! ### a < b < c, by the same rules -/
def wChain (R R' : RD) (wa wb wc : WE) : WE := fun ρ S Q => wa ρ S fun x S1 => wb ρ S1 fun y S2 => R x y S2 fun z S3 => match z with | .bl k => if k = true then wc ρ S3 fun w S4 => R' y w S4 Q else Q (.bl false) S3 | _ => False
section
variable {X : Cx} {a b c : Expr} {wa wb wc : WE} {pos : Pos} {op op' : CmpOp} {r r' : R2} {R R' : RD}
theorem chain_ok {σ : L2.St} {H : Hp} {Q : VK} (hc : OpD X.K r R) (hc' : OpD X.K r' R') (h : LE X.K (wChain R R' wa wb wc) σ H Q) : tChain r r' (LE X.K wa) (LE X.K wb) (LE X.K wc) σ H Q := by
  obtain ⟨μ, S, ρ, Q0, m, en, q, p⟩ := h
  refine LE.run m en q fun x S1 μ1 vx H1 q1 g1 m1 e1 r1 => ?_
  refine LE.run m1 e1 q1 fun y S2 μ2 vy H2 q2 g2 m2 e2 r2 => ?_
  refine hc μ2 S2 H2 x y vx vy _ _ m2 (r1.grow g2) r2 q2 fun z S3 q3 μ3 vz H3 g3 m3 r3 => ?_
  cases r3 with
  | bl k =>
    refine ⟨k, rfl, ?_⟩
    cases k with
    | false => exact p _ S3 q3 μ3 _ H3 ((g1.trans g2).trans g3) m3 (.bl false)
    | true =>
      refine LE.run m3 (e2.grow g3) q3 fun w S4 μ4 vw H4 q4 g4 m4 e4 r4 => ?_
      exact hc' μ4 S4 H4 y w vy vw _ _ m4 (r2.grow (g3.trans g4)) r4 q4 (p.go ((g1.trans g2).trans (g3.trans g4)))
  | _ => exact q3.elim
theorem se_chain (hc : OpD X.K r R) (ho : OpR X (compareOp op) r) (hc' : OpD X.K r' R') (ho' : OpR X (compareOp op') r') (ha : SE X a wa) (hb : SE X b wb) (hcc : SE X c wc) (hm : lastMarks [op, op'] [b, c] = false := by with_unfolding_all rfl) :
    SE X (.Compare a [op, op'] [b, c] pos) (wChain R R' wa wb wc) := pe_weak (pe_chain ho ho' ha hb hcc hm) fun σ H Q h => chain_ok hc hc' h
theorem st_chain (hc : OpD X.K r R) (ho : OpR X (compareOp op) r) (hc' : OpD X.K r' R') (ho' : OpR X (compareOp op') r') (ha : SE X a wa) (hb : SE X b wb) (hcc : SE X c wc) (hm : lastMarks [op, op'] [b, c] = false := by with_unfolding_all rfl) :
    ST X (.Compare a [op, op'] [b, c] pos) (wTest (wChain R R' wa wb wc)) := pt_weak (pt_chain ho ho' ha hb hcc hm) fun σ H Q ⟨μ, S, ρ, Q0, m, en, q, p⟩ => by
  refine chain_ok hc hc' ⟨μ, S, ρ, _, m, en, q, fun d S' q' μ' v H' g m' r => ?_⟩
  cases r with
  | bl k => exact ⟨k, rfl, p k S' q' μ' H' g m'⟩
  | _ => exact q'.elim
end

/-! ### in, not in -/
/-- the items of what stands there -/
def itemsD (S : Store) : D → Option (List D)
  | .tup ds => some ds
  | .lst ds => some ds
  | .ref n => match S[n]? with | some (.lst ds) => some ds | _ => none
  | _ => none
def inD (x : D) (ds : List D) : Bool := ds.any fun z => eqv z x
def rInN (neg : Bool) : RD := fun x y S Q => match itemsD S y with
  | some ds => okD x ∧ okD (.lst ds) ∧ Q (.bl (if neg = true then !inD x ds else inD x ds)) S
  | none => False
def rInV (K : PySem.W.Frag) (neg : Bool) : R2 := fun x y H Q => ∃ p xs d ds, Dp K H x d ∧ y = .ref p ∧ (SqL K H p xs ∨ SqT K H p xs) ∧ DpAll K H xs ds ∧ SeqAt.shaped d = true ∧ SeqAt.shaped (.list ds) = true ∧ Q (.bl (if neg = true then !ds.any fun z => PyData.eqv z d else ds.any fun z => PyData.eqv z d)) H
theorem pyAll_any (f : PyData → Bool) : ∀ ds : List D, (pyAll ds).any f = ds.any fun z => f z.py
  | [] => rfl
  | d :: ds => by rw [pyAll, List.any_cons, List.any_cons, pyAll_any f ds]
theorem pyAll_map : ∀ ds : List D, pyAll ds = ds.map D.py
  | [] => rfl
  | d :: ds => by rw [pyAll, List.map_cons, pyAll_map ds]
theorem items_rep {K : PySem.W.Frag} {μ : Mu} {S : Store} {H : Hp} {ds : List D} {v : V} {d : D} (m : Sim K μ S H) (r : Rep K μ H d v) (h : itemsD S d = some ds) : ∃ a xs, v = .ref a ∧ (SqL K H a xs ∨ SqT K H a xs) ∧ RepAll K μ H ds xs := by
  refine seq_rep m r ?_
  cases d with
  | tup es => exact .inl (by rw [Option.some.inj h])
  | lst es => exact .inr (.inl (by rw [Option.some.inj h]))
  | ref n =>
    refine .inr (.inr ⟨n, rfl, ?_⟩)
    have h' : (match S[n]? with | some (.lst ds) => some ds | _ => none) = some ds := h
    split at h'
    · rename_i es he
      rw [he, Option.some.inj h']
    · cases h'
  | _ => cases h
section
variable {X : Cx}
theorem op_inV (neg : Bool) (hu : X.A.units + 65 < cLine) : OpR X (compareOp (if neg = true then .NotIn else .In)) (rInV X.K neg) := by
  intro pins s σ H x y v u Q I rx ry h
  obtain ⟨p, xs, d, ds, hd, rfl, hq, hds, sd, sl, q⟩ := h
  obtain ⟨as, r1⟩ := Dp.reads I d x v hd rx
  rcases hq with hq | hq
  · obtain ⟨bs, r2⟩ := Dp.reads I (.list ds) _ u (.lst hq hds) ry
    cases neg with
    | false => exact SeqAt.in_list_reads r2 r1 (SeqAt.canLay_of_shaped sl) (SeqAt.canLay_of_shaped sd) (room_in_shaped sd hu) ⟨.bl _, H, I, rfl, q⟩
    | true => exact SeqAt.notIn_list_reads r2 r1 (SeqAt.canLay_of_shaped sl) (SeqAt.canLay_of_shaped sd) (room_in_shaped sd hu) ⟨.bl _, H, I, rfl, q⟩
  · obtain ⟨bs, r2⟩ := Dp.reads I (.tuple ds) _ u (.tup hq hds) ry
    cases neg with
    | false => exact SeqAt.in_tuple_reads r2 r1 (SeqAt.canLay_of_shaped sl) (SeqAt.canLay_of_shaped sd) (room_in_shaped sd hu) ⟨.bl _, H, I, rfl, q⟩
    | true => exact SeqAt.notIn_tuple_reads r2 r1 (SeqAt.canLay_of_shaped sl) (SeqAt.canLay_of_shaped sd) (room_in_shaped sd hu) ⟨.bl _, H, I, rfl, q⟩
theorem opd_in {K : PySem.W.Frag} (neg : Bool) : OpD K (rInV K neg) (rInN neg) := by
  intro μ S H x y vx vy Q0 Q m rx ry q p
  unfold rInN at q
  split at q
  · rename_i ds hds
    obtain ⟨q1, q2, q3⟩ := q
    obtain ⟨a, xs, rfl, h1, r1⟩ := items_rep m ry hds
    refine ⟨a, xs, _, pyAll ds, rx.dp (shaped_lay q1), rfl, h1, r1.dp ?_, q1, q2, ?_⟩
    · have := shaped_lay q2
      simpa [D.py, PyData.canLay0] using this
    · have e : ((pyAll ds).any fun z => PyData.eqv z x.py) = inD x ds := pyAll_any _ ds
      rw [e]
      exact p.now m (.bl _) q3
  · exact q.elim
variable {a b : Expr} {wa wb : WE} {pos : Pos}
theorem se_in (hu : X.A.units + 65 < cLine) (ha : SE X a wa) (hb : SE X b wb) (hm : behindInMarks .In b = false := by first | exact nomark _ | with_unfolding_all rfl) : SE X (.Compare a [.In] [b] pos) (wOp (rInN false) wa wb) := se_cmpR (opd_in false) (op_inV false hu) ha hb hm
theorem st_in (hu : X.A.units + 65 < cLine) (ha : SE X a wa) (hb : SE X b wb) (hm : behindInMarks .In b = false := by first | exact nomark _ | with_unfolding_all rfl) : ST X (.Compare a [.In] [b] pos) (wTest (wOp (rInN false) wa wb)) := st_cmpR (opd_in false) (op_inV false hu) ha hb hm
theorem se_notIn (hu : X.A.units + 65 < cLine) (ha : SE X a wa) (hb : SE X b wb) (hm : behindInMarks .NotIn b = false := by first | exact nomark _ | with_unfolding_all rfl) : SE X (.Compare a [.NotIn] [b] pos) (wOp (rInN true) wa wb) := se_cmpR (opd_in true) (op_inV true hu) ha hb hm
theorem st_notIn (hu : X.A.units + 65 < cLine) (ha : SE X a wa) (hb : SE X b wb) (hm : behindInMarks .NotIn b = false := by first | exact nomark _ | with_unfolding_all rfl) : ST X (.Compare a [.NotIn] [b] pos) (wTest (wOp (rInN true) wa wb)) := st_cmpR (opd_in true) (op_inV true hu) ha hb hm
end
end DL

set_option maxHeartbeats 4000000
/-! DLB: sorted, slices, op=, a, b = x, y, ranges with a step, enumerate, zip by content -/
namespace DL
open PySem PySem.Spec PyProof.Rows L2

/-! ### sorted -/
def sortD (ds : List D) : List D := ds.mergeSort (PySem.W.dataLe false D.py)
def SortOkD (ds : List D) : Prop := PySem.W.AllAlike (pyAll ds) ∧ PySem.W.Sortable (pyAll ds) ∧ okD (.lst ds)
def rSorted : RC
  | [x], S, Q => match itemsD S x with
    | some ds => SortOkD ds ∧ Q (.lst (sortD ds)) S
    | none => False
  | _, _, _ => False
def rSortedN : RC
  | [x], S, Q => match itemsD S x with
    | some ds => SortOkD ds ∧ Q (.ref S.length) (S ++ [.lst (sortD ds)])
    | none => False
  | _, _, _ => False
def rSortedV (K : PySem.W.Frag) : List V → Hp → VK → Prop := fun vs H Q => ∃ (a : Addr) (xs : List V) (es : List D) (μ : Mu), vs = [.ref a] ∧ (SqL K H a xs ∨ SqT K H a xs) ∧ RepAll K μ H es xs ∧ SortOkD es ∧
  ∀ ys p, RepAll K μ H (sortD es) ys → H p = none → Q (.ref p) (upd H p (.lst ys))
theorem rep_back {K : PySem.W.Frag} {μ : Mu} {H : Hp} : ∀ {out : List Value} {bs : List D}, PySem.W.EachIs (fun u b => ∃ x, RelV x u ∧ Rep K μ H b x) out bs → ∃ ys, Vals ys out ∧ RepAll K μ H bs ys
  | _, _, .nil => ⟨[], .nil, .nil⟩
  | _, _, .cons ⟨x, h1, h2⟩ t => by
    obtain ⟨ys, h3, h4⟩ := rep_back t
    exact ⟨x :: ys, .cons h1 h3, .cons h2 h4⟩
theorem each_rep {K : PySem.W.Frag} {μ : Mu} {H : Hp} : ∀ {es : List D} {xs : List V} {us : List Value}, RepAll K μ H es xs → Vals xs us → PySem.W.EachIs (fun u b => ∃ x, RelV x u ∧ Rep K μ H b x) us es
  | _, _, _, .nil, r => by cases r; exact .nil
  | _, _, _, .cons r t, v => by
    cases v with
    | cons a b => exact .cons ⟨_, a, r⟩ (each_rep t b)
theorem each_reads {X : Cx} {pins : List (Addr × Obj)} {σ : L2.St} {H : Hp} {s : Shared} {μ : Mu} (I : Inv X pins σ H s) : ∀ {es : List D} {xs : List V} {us : List Value}, RepAll X.K μ H es xs → Vals xs us → PyData.canLayAll0 (pyAll es) = true → PySem.W.EachIs (fun v d => ∃ as, Reads s.heap v d as) us (pyAll es)
  | _, _, _, .nil, r, _ => by cases r; exact .nil
  | d :: es, _, _, .cons r t, v, c => by
    have c' : d.py.canLay0 = true ∧ PyData.canLayAll0 (pyAll es) = true := by simpa [pyAll, PyData.canLayAll0] using c
    cases v with
    | cons a b => exact .cons (Dp.reads I _ _ _ (r.dp c'.1) a) (each_reads I t b c'.2)
theorem depthAll_mem : ∀ {ds : List PyData} {d : PyData}, d ∈ ds → d.depth ≤ PyData.depthAll ds
  | e :: ds, d, h => by
    rw [PyData.depthAll]
    rcases List.mem_cons.mp h with rfl | h
    · exact Nat.le_max_left _ _
    · exact Nat.le_trans (depthAll_mem h) (Nat.le_max_right _ _)
section
variable {X : Cx}
/-- sorted(x) of a list or a tuple of alike data -/
theorem sorted_seqV {prog : Program} {w : World} {A : Around} {E : Value → Shared → Prop} {s : Shared} {l : Addr} {T : String} {o : Obj} {vs : List Value} {ds : List PyData} {n : Nat} {Q : Value → Shared → Prop} (hT : T = "list" ∨ T = "tuple") (ho : s.heap.get? l = some o) (hc : o.cls = .type T) (hd : o.data = .seq vs.toArray n) (hL : vs.length ≤ sizeLine)
    (e : PySem.W.EachIs (fun v d => ∃ as, Reads s.heap v d as) vs ds) (hal : PySem.W.AllAlike ds) (hk : PySem.W.Sortable ds) (hu : ∀ d, d ∈ ds → A.in1.in1.units + d.depth < cLine)
    (h : ∀ (h1 h' : Heap) (c : Nat) (out : List Value), PySem.W.KeyedOut false ds vs out → (∀ b o, s.heap.get? b = some o → h1.get? b = some o) → (∀ b o, h1.get? b = some o → h'.get? b = some o) → h'.get? h1.objs.size = some (seqObj "list" out.toArray c) → Q (.ref h1.objs.size) { s with heap := h' }) :
    wpAny (model prog w) A (call (.builtin "sorted") [.ref l]) Q E s := by
  refine PyProof.Rows.call_function_entry_kw kind_sorted plain_sorted entry_sorted (args_sorted1 _) ?_
  unfold Builtin.«sorted»
  refine wpAny_bind (m := checkCount "sorted" 1 1 _) (wpAny_pure ?_)
  refine wpAny_bind (wpAny_collect_seq l hT ho hc hd (fun h1 k1 => ?_) (by simpa using hL))
  refine wpAny_bind (wpAny_newList ?_ (by simpa using hL))
  have ha : (h1.push (seqObj "list" vs.toArray 0)).get? h1.objs.size = some (seqObj "list" vs.toArray 0) := Heap.get?_push_size _ rfl
  have k2 : ∀ b o, s.heap.get? b = some o → (h1.push (seqObj "list" vs.toArray 0)).get? b = some o := fun b o q => Heap.get?_push_of_some _ (k1 b o q)
  have k3 : ∀ b o, s.heap.get? b = some o → (PySem.W.sortingHeap (h1.push (seqObj "list" vs.toArray 0)) h1.objs.size vs).get? b = some o := fun b o q => PySem.W.sortingHeap_old (Nat.ne_of_lt (Heap.lt_size (k1 b o q))) (k2 b o q)
  have eh : PySem.W.EachIs (fun v d => ∃ as, Reads (PySem.W.sortingHeap (h1.push (seqObj "list" vs.toArray 0)) h1.objs.size vs) v d as) vs ds := e.mono fun _ _ ⟨as, r⟩ => ⟨as, Reads.keeps k3 r⟩
  show wpAny _ _ _ _ _ { s with heap := h1.push (seqObj "list" vs.toArray 0) }
  obtain ⟨c, hat⟩ := sortedHeap_at (out := (PySem.W.sortVals (PySem.W.dataKind (PySem.W.sortingHeap (h1.push (seqObj "list" vs.toArray 0)) h1.objs.size vs) ds) false vs vs).toArray) ha
  refine wpAny_bind (wpAny_holding (PyProof.Rows.wpAny_call_entry_kw slot_list_sort ⟨_, ha, rfl⟩ entry_list_sort (PySem.W.list_sort_vals (s := { s with heap := h1.push (seqObj "list" vs.toArray 0) }) ha (PySem.W.SortsAt.data (s := { s with heap := PySem.W.sortingHeap (h1.push (seqObj "list" vs.toArray 0)) h1.objs.size vs }) eh hal hk hu) hL ⟨_, rfl, ?_⟩) (args_list_sort _)))
  refine wpAny_pure ⟨_, rfl, h h1 _ c _ ⟨_, vs, hal, rfl, eh⟩ k1 (fun b o q => ?_) hat⟩
  have hlt : b < h1.objs.size := Heap.lt_size q
  have hlt2 : b < (h1.push (seqObj "list" vs.toArray 0)).objs.size := by rw [size_push']; exact Nat.lt_succ_of_lt hlt
  rw [sortedHeap_old (Nat.ne_of_lt hlt) hlt2]
  exact Heap.get?_push_of_some _ q
theorem shapedL_depth {ds : List PyData} (h : SeqAt.shaped (.list ds) = true) : ∀ d, d ∈ ds → d.depth < 64 := fun d hd => by
  have h' : ((PyData.list ds).canLay0 && decide ((PyData.list ds).depth ≤ 64)) = true := h
  rw [Bool.and_eq_true, decide_eq_true_eq] at h'
  have h2 := h'.2
  rw [PyData.depth] at h2
  have := depthAll_mem hd
  omega
theorem cr_sortedV (hu : X.A.units + 66 < cLine) : CallR X (.builtin "sorted") (rSortedV X.K) := by
  intro pins s σ H vs us Q I r h
  obtain ⟨a, xs, es, μ, rfl, hq, re, ⟨o1, o2, o3⟩, q⟩ := h
  rw [Vals.ref1 r]
  have hlay : PyData.canLayAll0 (pyAll es) = true := by
    have := shaped_lay o3
    simpa [D.py, PyData.canLay0] using this
  have fin : ∀ (T : String) (o : Obj) (its : List Value) (n : Nat), (T = "list" ∨ T = "tuple") → s.heap.get? a = some o → o.cls = .type T → o.data = .seq its.toArray n → Vals xs its → xs.length ≤ sizeLine → wpAny (model X.prog X.w) X.A (call (.builtin "sorted") [.ref a]) (EP X pins σ Q) X.xe s := fun T o its n hT ho hc hd rv hz => by
    refine sorted_seqV hT ho hc hd (by rw [← rv.length]; exact hz) (each_reads I re rv hlay) o1 o2 (fun d hd => ?_) fun h1 h' c out ko k1 k2 hat => ?_
    · have := shapedL_depth (ds := pyAll es) o3 d hd
      show X.A.units + 1 + 1 + d.depth < cLine
      omega
    · have I1 : Inv X pins σ H { s with heap := h1 } := I.kept (t' := s.toks) k1
      have ke : PySem.W.EachIs (fun u b => ∃ x, RelV x u ∧ Rep X.K μ H b x) out (sortD es) := PySem.W.keyedOut_each (bs := es) D.py (by rw [← pyAll_map]; exact ko) (each_rep re rv)
      obtain ⟨ys, hv, hr⟩ := rep_back ke
      have hl : ys.length ≤ sizeLine := by
        rw [← hr.length]
        have : (sortD es).length = es.length := List.length_mergeSort _
        rw [this, re.length]
        exact hz
      exact ⟨.ref h1.objs.size, _, I1.laid (t' := s.toks) k2 (Nat.le_refl _) (show ObjOk X.prog X.w _ h' _ (.lst ys) from ⟨hl, out, c, hv, hat⟩), rfl, q ys _ hr (I1.hok.fresh (Nat.le_refl _))⟩
  rcases hq with hq | hq
  · obtain ⟨its, rv, pl, hz⟩ := I.list hq
    obtain ⟨o, ho, hc, n, hd⟩ := pl.isList
    exact fin "list" o its n (.inl rfl) ho hc hd rv hz
  · obtain ⟨its, rv, pl, hz⟩ := I.tuple hq
    obtain ⟨o, ho, hc, n, hd⟩ := pl
    exact fin "tuple" o its n (.inr rfl) ho hc hd rv hz
theorem cd_sorted {K : PySem.W.Frag} : CallD K (rSortedV K) rSorted := by
  intro μ S H ds vs Q0 Q m r q p
  unfold rSorted at q
  split at q
  · rename_i x
    obtain ⟨v, e1, r'⟩ := r.one_inv
    subst e1
    split at q
    · rename_i ds hds
      obtain ⟨a, xs, rfl, h1, r1⟩ := items_rep m r' hds
      exact ⟨a, xs, ds, μ, rfl, h1, r1, q.1, fun ys l hy hl => p _ _ q.2 _ _ _ (.new hl) (m.new hl) (Sim.newL m hl hy)⟩
    · exact q.elim
  · exact q.elim
theorem cd_sortedN {K : PySem.W.Frag} : CallD K (rSortedV K) rSortedN := by
  intro μ S H ds vs Q0 Q m r q p
  unfold rSortedN at q
  split at q
  · rename_i x
    obtain ⟨v, e1, r'⟩ := r.one_inv
    subst e1
    split at q
    · rename_i ds hds
      obtain ⟨a, xs, rfl, h1, r1⟩ := items_rep m r' hds
      exact ⟨a, xs, ds, μ, rfl, h1, r1, q.1, fun ys l hy hl => p _ _ q.2 _ _ _ (.alloc hl) (m.alloc hl hy) m.newR.refH⟩
    · exact q.elim
  · exact q.elim
variable {a : Expr} {es : List Expr} {wr : WA} {pos p : Pos}
theorem se_sorted (hu : X.A.units + 66 < cLine) (hg : Gl X "sorted") (hm : X.mg "sorted" = none) (ha : SA X (a :: es) wr) (he : starEach (a :: es) X.env = (false, eval a X.env) :: starEach es X.env := by rfl) (hpl : (backTo pos (starEach es X.env)).any (·.1) = false := by rfl) : SE X (.Call (.Name "sorted" p) (a :: es) [] pos) (wCall rSorted wr) := se_callB cd_sorted (cr_sortedV hu) hg hm (by decide +kernel) ha (by decide) (by decide) he hpl
theorem se_sortedN (hu : X.A.units + 66 < cLine) (hg : Gl X "sorted") (hm : X.mg "sorted" = none) (ha : SA X (a :: es) wr) (he : starEach (a :: es) X.env = (false, eval a X.env) :: starEach es X.env := by rfl) (hpl : (backTo pos (starEach es X.env)).any (·.1) = false := by rfl) : SE X (.Call (.Name "sorted" p) (a :: es) [] pos) (wCall rSortedN wr) := se_callB cd_sortedN (cr_sortedV hu) hg hm (by decide +kernel) ha (by decide) (by decide) he hpl
end
end DL

set_option maxHeartbeats 4000000
/-! DLC: slices, op=, a, b = x, y, ranges with a step, enumerate, zip by content -/
namespace DL
open PySem PySem.Spec PyProof.Rows L2

/-! ### slices -/
abbrev WO := Env → Store → (Option Int → Store → Prop) → Prop
def LO (K : PySem.W.Frag) (w : WO) : TO := fun σ H Q => ∃ μ S ρ Q0, Sim K μ S H ∧ EnvR K μ H ρ σ ∧ w ρ S Q0 ∧ ∀ o S', Q0 o S' → ∀ μ' H', Grow μ H μ' H' → Sim K μ' S' H' → Q o H'
abbrev SO (X : Cx) (e : Option Expr) (w : WO) : Prop := PO X e (LO X.K w)
def wNoPart : WO := fun _ S Q => Q none S
def wPart (w : WE) : WO := fun ρ S Q => w ρ S fun d S1 => match d with | .int i => Q (some i) S1 | _ => False
theorem po_weak {X : Cx} {e : Option Expr} {t t' : TO} (h : PO X e t) (hw : ∀ σ H Q, t' σ H Q → t σ H Q) : PO X e t' := ⟨fun pins s σ H Q I q => h.run pins s σ H Q I (hw _ _ _ q)⟩
section
variable {X : Cx} {e a b c l : Expr} {lo hi : Option Expr} {wa wb wc : WE} {wl wh : WO} {pos p p2 : Pos} {wr : WA} {es : List Expr}
theorem so_none : SO X none wNoPart := po_weak po_none fun σ H Q ⟨μ, S, ρ, Q0, m, en, q, p⟩ => p none S q μ H .refl m
theorem so_some (ha : SE X a wa) : SO X (some a) (wPart wa) := po_weak (po_some ha) fun σ H Q ⟨μ, S, ρ, Q0, m, en, q, p⟩ => by
  refine LE.run m en q fun d S1 μ1 v H1 q1 g1 m1 e1 r1 => ?_
  split at q1
  · exact ⟨_, r1.int_inv, p _ S1 q1 μ1 H1 g1 m1⟩
  · exact q1.elim
def cutD {α : Type} (xs : List α) (lo hi : Option Int) : List α := (xs.drop (HT.sIx xs.length 0 lo)).take (HT.sIx xs.length xs.length hi - HT.sIx xs.length 0 lo)
theorem RepAll.cut2 {K : PySem.W.Frag} {μ : Mu} {H : Hp} {ds : List D} {vs : List V} (r : RepAll K μ H ds vs) (lo hi : Option Int) : RepAll K μ H (cutD ds lo hi) (cutV vs lo hi) := by
  unfold cutD cutV
  rw [r.length]
  exact (r.drop _).take _
theorem cutD_all {α : Type} {xs : List α} {lo hi : Option Int} (h : HT.sIx xs.length 0 lo = 0 ∧ HT.sIx xs.length xs.length hi = xs.length) : cutD xs lo hi = xs := by
  unfold cutD
  rw [h.1, h.2, List.drop_zero, Nat.sub_zero, List.take_length]
theorem cutD_hi {α : Type} {xs : List α} {k : Nat} : cutD xs none (some (k : Int)) = xs.take k := by
  unfold cutD
  rw [HT.sIx_none, HT.sIx_nat, List.drop_zero, Nat.sub_zero]
  by_cases h : k ≤ xs.length
  · rw [Nat.min_eq_left h]
  · rw [Nat.min_eq_right (by omega), List.take_length, List.take_of_length_le (by omega)]
theorem cutD_lo {α : Type} {xs : List α} {k : Nat} : cutD xs (some (k : Int)) none = xs.drop k := by
  unfold cutD
  rw [HT.sIx_none, HT.sIx_nat]
  by_cases h : k ≤ xs.length
  · rw [Nat.min_eq_left h, List.take_of_length_le (by rw [List.length_drop]; omega)]
  · rw [Nat.min_eq_right (by omega), List.drop_of_length_le (Nat.le_refl _), List.drop_of_length_le (by omega), List.take_nil]
def rSl : D → Option Int → Option Int → Store → (D → Store → Prop) → Prop := fun x lo hi S Q => match x with
  | .str z => z.length ≤ sizeLine ∧ Q (.str (cutS z lo hi)) S
  | .tup ds => Q (.tup (cutD ds lo hi)) S
  | .lst ds => Q (.lst (cutD ds lo hi)) S
  | .ref n => match S[n]? with | some (.lst ds) => Q (.lst (cutD ds lo hi)) S | _ => False
  | _ => False
def rSlN : D → Option Int → Option Int → Store → (D → Store → Prop) → Prop := fun x lo hi S Q => match x with
  | .lst ds => Q (.ref S.length) (S ++ [.lst (cutD ds lo hi)])
  | .ref n => match S[n]? with | some (.lst ds) => Q (.ref S.length) (S ++ [.lst (cutD ds lo hi)]) | _ => False
  | _ => False
def wSl (R : D → Option Int → Option Int → Store → (D → Store → Prop) → Prop) (w : WE) (wl wh : WO) : WE := fun ρ S Q => w ρ S fun x S1 => wl ρ S1 fun lo S2 => wh ρ S2 fun hi S3 => R x lo hi S3 Q
def rSlV (K : PySem.W.Frag) : V → Option Int → Option Int → Hp → VK → Prop := fun x lo hi H Q => rSlL K x lo hi H Q ∨ (rSlA K x lo hi H Q ∨ rSlS x lo hi H Q)
theorem sl_V : SlR X (rSlV X.K) := sl_list.or (sl_tupA.or sl_str)
theorem LO.run {K : PySem.W.Frag} {w : WO} {μ : Mu} {S : Store} {ρ : Env} {σ : L2.St} {H : Hp} {Q0 : Option Int → Store → Prop} {Q : Option Int → Hp → Prop} (m : Sim K μ S H) (en : EnvR K μ H ρ σ) (h : w ρ S Q0)
    (k : ∀ o S' μ' H', Q0 o S' → Grow μ H μ' H' → Sim K μ' S' H' → EnvR K μ' H' ρ σ → Q o H') : LO K w σ H Q := ⟨μ, S, ρ, Q0, m, en, h, fun o S' q μ' H' g m' => k o S' μ' H' q g m' (en.grow g)⟩
theorem sl_run {R : D → Option Int → Option Int → Store → (D → Store → Prop) → Prop}
    (hR : ∀ (μ : Mu) (S : Store) (H : Hp) (x : D) (v : V) (lo hi : Option Int) (Q0 : D → Store → Prop) (Q : VK), Sim X.K μ S H → Rep X.K μ H x v → R x lo hi S Q0 → Post X.K μ H Q0 Q → rSlV X.K v lo hi H Q)
    (ha : SE X e wa) (hl : SO X lo wl) (hh : SO X hi wh) : SE X (.Subscript e (.Slice lo hi none p2) pos) (wSl R wa wl wh) := pe_weak (pe_slice sl_V ha hl hh) fun σ H Q ⟨μ, S, ρ, Q0, m, en, q, p⟩ => by
  refine LE.run m en q fun x S1 μ1 v H1 q1 g1 m1 e1 r1 => ?_
  refine LO.run m1 e1 q1 fun l S2 μ2 H2 q2 g2 m2 e2 => ?_
  refine LO.run m2 e2 q2 fun h S3 μ3 H3 q3 g3 m3 e3 => ?_
  exact hR μ3 S3 H3 x v l h Q0 Q m3 (r1.grow (g2.trans g3)) q3 (p.go (g1.trans (g2.trans g3)))
theorem se_slice (ha : SE X e wa) (hl : SO X lo wl) (hh : SO X hi wh) : SE X (.Subscript e (.Slice lo hi none p2) pos) (wSl rSl wa wl wh) := sl_run (fun μ S H x v lo hi Q0 Q m r q p => by
  unfold rSl at q
  split at q
  · exact .inr (.inr ⟨_, r.str_inv, q.1, p.now m (.str _) q.2⟩)
  · rename_i ds
    obtain ⟨a, xs, rfl, h1, r1⟩ := r.tupS
    refine .inr (.inl ⟨a, xs, rfl, h1, fun hw => ?_, fun _ l hl => p _ _ q _ _ _ (.new hl) (m.new hl) (Sim.newT (S := S) hl (r1.cut2 _ _))⟩)
    rw [cutD_all (by rw [r1.length]; exact hw)] at q
    exact p.now m r q
  · obtain ⟨a, xs, rfl, h1, r1⟩ := r.lstS
    exact .inl ⟨a, xs, rfl, h1, fun l hl => p _ _ q _ _ _ (.new hl) (m.new hl) (Sim.newL m hl (r1.cut2 _ _))⟩
  · split at q
    · rename_i ds hn
      obtain ⟨a, xs, rfl, hm, h1, r1⟩ := m.at hn r
      exact .inl ⟨a, xs, rfl, SqL.of h1, fun l hl => p _ _ q _ _ _ (.new hl) (m.new hl) (Sim.newL m hl (r1.cut2 _ _))⟩
    · exact q.elim
  · exact q.elim) ha hl hh
theorem se_sliceN (ha : SE X e wa) (hl : SO X lo wl) (hh : SO X hi wh) : SE X (.Subscript e (.Slice lo hi none p2) pos) (wSl rSlN wa wl wh) := sl_run (fun μ S H x v lo hi Q0 Q m r q p => by
  unfold rSlN at q
  split at q
  · obtain ⟨a, xs, rfl, h1, r1⟩ := r.lstS
    exact .inl ⟨a, xs, rfl, h1, fun l hl => p _ _ q _ _ _ (.alloc hl) (m.alloc hl (r1.cut2 _ _)) m.newR.refH⟩
  · split at q
    · rename_i ds hn
      obtain ⟨a, xs, rfl, hm, h1, r1⟩ := m.at hn r
      exact .inl ⟨a, xs, rfl, SqL.of h1, fun l hl => p _ _ q _ _ _ (.alloc hl) (m.alloc hl (r1.cut2 _ _)) m.newR.refH⟩
    · exact q.elim
  · exact q.elim) ha hl hh

/-! ### name op= e, of ints; a, b = x, y; a text alone -/
def rAddI : RD
  | .int i, .int j, S, Q => Q (.int (i + j)) S
  | _, _, _, _ => False
def wAug (R : RD) (i : Nat) (w : WE) : WS := fun D ρ S => match ρ[i]? with
  | some (some x) => w ρ S fun y S1 => R x y S1 fun z S2 => D.nx (ρ.set i (some z)) S2
  | _ => False
theorem aug_ok {R : RD} {f : Int → Int → Int} (hR : ∀ x y S Q, R x y S Q → ∃ i j, x = .int i ∧ y = .int j ∧ Q (.int (f i j)) S) {i : Nat} {D : Ends} {σ : L2.St} {H : Hp} (h : LS X.K (wAug R i wa) D σ H) : tAug i (LE X.K wa) (ipI f) D σ H := by
  obtain ⟨μ, S, ρ, D0, m, en, q, p⟩ := h
  have q' : (match ρ[i]? with | some (some x) => wa ρ S fun y S1 => R x y S1 fun z S2 => D0.nx (ρ.set i (some z)) S2 | _ => False) := q
  split at q'
  · rename_i x hx
    obtain ⟨v, h1, h2⟩ := en.2 i x hx
    refine ⟨v, h1, LE.run m en q' fun y S1 μ1 vy H1 q1 g1 m1 e1 r1 => ?_⟩
    obtain ⟨i', j', rfl, rfl, q2⟩ := hR _ _ _ _ q1
    exact ⟨i', j', h2.int_inv, r1.int_inv, p.nx _ S1 q2 μ1 _ H1 g1 m1 (e1.set (.int _))⟩
  · exact q'.elim
theorem ss_aug_add {i : Nat} {x : Str} {pos' : Pos} (hN : X.N.Nodup) (he : SE X e wa) (hi : X.N[i]? = some x := by rfl) (hx : Loc X.env.scope x := by first | exact Or.inl rfl | exact Or.inr rfl) (hf : X.fn x = true ∨ X.env.scope.names.lookup x = some .local := by first | exact .inl rfl | exact .inr rfl | assumption) :
    SS X (.AugAssign (.Name x pos') .Add e pos) (wAug rAddI i wa) := ps_weak (ps_aug hN hi hx he ip_add hf) fun D σ H h => aug_ok (fun x y S Q q => by
  unfold rAddI at q
  split at q
  · exact ⟨_, _, rfl, rfl, q⟩
  · exact q.elim) h
theorem ss_aug_sub {i : Nat} {x : Str} {pos' : Pos} (hN : X.N.Nodup) (he : SE X e wa) (hi : X.N[i]? = some x := by rfl) (hx : Loc X.env.scope x := by first | exact Or.inl rfl | exact Or.inr rfl) (hf : X.fn x = true ∨ X.env.scope.names.lookup x = some .local := by first | exact .inl rfl | exact .inr rfl | assumption) :
    SS X (.AugAssign (.Name x pos') .Sub e pos) (wAug rSub i wa) := ps_weak (ps_aug hN hi hx he ip_sub hf) fun D σ H h => aug_ok (fun x y S Q q => by
  unfold rSub at q
  split at q
  · exact ⟨_, _, rfl, rfl, q⟩
  · exact q.elim) h
def wPar (i j : Nat) (wr : WA) : WS := fun D ρ S => wr ρ S fun ds S1 => match ds with | [x, y] => D.nx ((ρ.set i (some x)).set j (some y)) S1 | _ => False
theorem ss_par {i j : Nat} {x y : Str} {px py pt : Pos} {kt k2 pt2} (hc : X.calm = true) (hN : X.N.Nodup) (hi : X.N[i]? = some x) (hj : X.N[j]? = some y) (hij : i ≠ j)
    (hx : X.env.scope.names.lookup x = some .local) (hy : X.env.scope.names.lookup y = some .local) (ha : SA X [a, b] wr)
    (hw : swappedStores [.Tuple [.Name x px, .Name y py] kt pt] (.Tuple [a, b] k2 pt2) X.env = pure (some [x, y]))
    (hs : swapsWithSole [.Tuple [.Name x px, .Name y py] kt pt] (.Tuple [a, b] k2 pt2) pos.line X.env = pure false := by rfl) :
    SS X (.Assign [.Tuple [.Name x px, .Name y py] kt pt] (.Tuple [a, b] k2 pt2) pos) (wPar i j wr) := ps_weak (ps_par hc hN hi hj hij hx hy ha hw hs) fun D σ H ⟨μ, S, ρ, D0, m, en, q, p⟩ => by
  refine LA.run m en q fun ds S1 μ1 vs H1 q1 g1 m1 e1 r1 => ?_
  split at q1
  · obtain ⟨v, u, rfl, ra, rb⟩ := r1.two_inv
    exact ⟨v, u, rfl, p.nx _ S1 q1 μ1 _ H1 g1 m1 ((e1.set ra).set rb)⟩
  · exact q1.elim
theorem ss_doc {x : Str} {j pos'} : SS X (.Expr (.Constant (.str x) j pos) pos') wNext := ps_weak ps_doc fun D σ H ⟨μ, S, ρ, D0, m, en, q, p⟩ => p.nx ρ S q μ σ H .refl m en

/-! ### ranges with a step -/
def stepD (i c : Int) (n : Nat) : List D := (List.range n).map fun k => .int (i + (k : Nat) * c)
def wRange3 (w : WA) : WI := fun ρ S Q => w ρ S fun ds S1 => match ds with | [.int i, .int j, .int c] => ∃ n, RgC i j c n ∧ Q (stepD i c n) (fun _ => True) S1 | _ => False
theorem RepAll.three_inv {K : PySem.W.Frag} {μ : Mu} {H : Hp} {d e f : D} {vs : List V} (r : RepAll K μ H [d, e, f] vs) : ∃ v u t, vs = [v, u, t] ∧ Rep K μ H d v ∧ Rep K μ H e u ∧ Rep K μ H f t := by
  cases r with
  | cons r t =>
    obtain ⟨u, w, rfl, r2, r3⟩ := t.two_inv
    exact ⟨_, _, _, rfl, r, r2, r3⟩
theorem isw_rangeC {K : PySem.W.Frag} {μ : Mu} {H : Hp} {lo c : Int} {n : Nat} : IsW K μ H (Itc lo c n) (stepD lo c n) (fun _ => True) where
  go := fun i μ2 H2 S2 hi g m _ => by show i < n; simpa [stepD] using hi
  stop := fun μ2 H2 S2 g m _ => by show n ≤ _; simp [stepD]
  yld := fun i μ2 H2 S2 x H3 hi g m _ y => by
    obtain ⟨rfl, rfl⟩ := y
    have hi' : i < n := by simpa [stepD] using hi
    exact ⟨.int (lo + (i : Nat) * c), by simp [stepD, hi'], .refl, m, .int _⟩
theorem si_range3 {tg : Expr} (hg : Gl X "range") (hm : X.mg "range" = none) (ha : SA X [a, b, c] wr) (hs : starEach [a, b, c] X.env = (false, eval a X.env) :: starEach [b, c] X.env := by rfl) (hpl : (backTo pos (starEach [b, c] X.env)).any (·.1) = false := by rfl) :
    SI X tg (.Call (.Name "range" p) [a, b, c] [] pos) (wRange3 wr) := pi_weak (pi_range3 hg hm ha hs hpl) fun σ H R ⟨μ, S, ρ, Q0, m, en, q, p⟩ => by
  refine LA.run m en q fun ds S1 μ1 vs H1 q1 g1 m1 e1 r1 => ?_
  split at q1
  · obtain ⟨v, u, t, rfl, ra, rb, rc⟩ := r1.three_inv
    rw [ra.int_inv, rb.int_inv, rc.int_inv]
    obtain ⟨n, hn, q2⟩ := q1
    exact ⟨_, _, _, n, rfl, hn, p _ _ S1 q2 μ1 _ H1 g1 m1 isw_rangeC⟩
  · exact q1.elim
/-- tuple(range(..)), list(range(..)) -/
def stepV (i c : Int) (n : Nat) : List V := (List.range n).map fun k => .int (i + (k : Nat) * c)
theorem rep_step {K : PySem.W.Frag} {μ : Mu} {H : Hp} (i c : Int) (n : Nat) : RepAll K μ H (stepD i c n) (stepV i c n) := by
  have e1 : stepD i c n = ((List.range n).map fun k => i + (k : Nat) * c).map D.int := by simp [stepD, Function.comp_def]
  have e2 : stepV i c n = ((List.range n).map fun k => i + (k : Nat) * c).map V.int := by simp [stepV, Function.comp_def]
  rw [e1, e2]
  exact repInts _
def rgArgs : List V → Option (Int × Int × Int)
  | [.int n] => some (0, n, 1)
  | [.int i, .int j] => some (i, j, 1)
  | [.int i, .int j, .int c] => some (i, j, c)
  | _ => none
def rgArgsD : List D → Option (Int × Int × Int)
  | [.int n] => some (0, n, 1)
  | [.int i, .int j] => some (i, j, 1)
  | [.int i, .int j, .int c] => some (i, j, c)
  | _ => none
theorem rgArgs_rep {K : PySem.W.Frag} {μ : Mu} {H : Hp} {ds : List D} {vs : List V} {z : Int × Int × Int} (r : RepAll K μ H ds vs) (h : rgArgsD ds = some z) : rgArgs vs = some z := by
  unfold rgArgsD at h
  split at h
  · obtain ⟨v, rfl, ra⟩ := r.one_inv
    rw [ra.int_inv]
    exact h
  · obtain ⟨v, u, rfl, ra, rb⟩ := r.two_inv
    rw [ra.int_inv, rb.int_inv]
    exact h
  · obtain ⟨v, u, t, rfl, ra, rb, rc⟩ := r.three_inv
    rw [ra.int_inv, rb.int_inv, rc.int_inv]
    exact h
  · cases h
/-- an expression that makes a range -/
def PRgC (X : Cx) (e : Expr) (ta : TA) : Prop := ∀ (pins : List (Addr × Obj)) (s : Shared) (σ : L2.St) (H : Hp) (Q : List V → Hp → Prop), Inv X pins σ H s → ta σ H Q → (∀ vs H', Q vs H' → ∃ i j c n, rgArgs vs = some (i, j, c) ∧ RgC i j c n) →
  wpAny (model X.prog X.w) X.A (eval e X.env) (fun x s' => ∃ r a b c t u v H' vs, x = .ref r ∧ IsRange s'.heap r a b c t u v ∧ Inv X pins σ H' s' ∧ rgArgs vs = some (a, b, c) ∧ Q vs H') X.xe s
theorem prgC {ta : TA} (hg : Gl X "range") (hm : X.mg "range" = none) (ha : PA X (a :: es) ta) (hs : starEach (a :: es) X.env = (false, eval a X.env) :: starEach es X.env) (hpl : (backTo pos (starEach es X.env)).any (·.1) = false) : PRgC X (.Call (.Name "range" p) (a :: es) [] pos) ta := by
  intro pins s σ H Q I h hq
  refine Call_ (ld_blt I hg hm boot_range (PyProof.Rows.callWith_type1 (thn (ha.run pos pins s σ H _ I h) fun us s1 ⟨vs, H1, I1, r1, q1⟩ => ?_) hs hpl))
  obtain ⟨i, j, c, n, ha', ⟨c0, c1, c2, c3⟩⟩ := hq vs H1 q1
  have ha2 := ha'
  unfold rgArgs at ha'
  split at ha'
  · obtain ⟨u, rfl, r⟩ := vals1 r1
    obtain ⟨t, rfl⟩ := r
    cases ha'
    exact call_range_1 ⟨_, _, _, _, _, _, _, H1, _, rfl, IsRange.new _ _ _ _ _ _ _, I1.kept fun b u e => Heap.get?_push_of_some _ e, ha2, q1⟩
  · obtain ⟨u1, u2, rfl, r, r'⟩ := vals2 r1
    obtain ⟨t, rfl⟩ := r
    obtain ⟨t', rfl⟩ := r'
    cases ha'
    exact call_range_2 ⟨_, _, _, _, _, _, _, H1, _, rfl, IsRange.new _ _ _ _ _ _ _, I1.kept fun b u e => Heap.get?_push_of_some _ e, ha2, q1⟩
  · cases r1 with
    | cons r rr =>
      obtain ⟨u1, u2, rfl, r', r''⟩ := vals2 rr
      obtain ⟨t, rfl⟩ := r
      obtain ⟨t', rfl⟩ := r'
      obtain ⟨t'', rfl⟩ := r''
      cases ha'
      exact call_range_3 c0 ⟨_, _, _, _, _, _, _, H1, _, rfl, IsRange.new _ _ _ _ _ _ _, I1.kept fun b u e => Heap.get?_push_of_some _ e, ha2, q1⟩ (.inl (PyProof.noPylong_small c1))
  · cases ha'
def wRgTo (mk : List D → Store → (D → Store → Prop) → Prop) (wr : WA) : WE := fun ρ S Q => wr ρ S fun ds S1 => match rgArgsD ds with | some (i, j, c) => ∃ n, RgC i j c n ∧ n ≤ 2 ^ 24 ∧ mk (stepD i c n) S1 Q | none => False
def mkTup (ds : List D) (S : Store) (Q : D → Store → Prop) : Prop := Q (.tup ds) S
def mkLst (ds : List D) (S : Store) (Q : D → Store → Prop) : Prop := Q (.lst ds) S
def mkNew (ds : List D) (S : Store) (Q : D → Store → Prop) : Prop := Q (.ref S.length) (S ++ [.lst ds])
theorem vals_stepR {i c : Int} {n : Nat} {acc : Array Value} (h : ItemsOf (fun k v => ∃ t, v = .int (i + k * c) t) acc n) : Vals (stepV i c n) acc.toList := by
  have e : acc.toList.length = n := by rw [Array.length_toList]; exact h.1
  unfold stepV
  subst e
  refine vals_of_get acc.toList _ fun j u hj => ?_
  obtain ⟨t, rfl⟩ := h.2 j u (by rw [← hj, Array.getElem?_toList])
  exact ⟨t, rfl⟩
theorem se_tupRg {q1 q2 : Pos} (hc : X.calm = true) (hgt : Gl X "tuple") (hmt : X.mg "tuple" = none) (hg : Gl X "range") (hm : X.mg "range" = none) (ha : SA X (a :: es) wr)
    (hs : starEach (a :: es) X.env = (false, eval a X.env) :: starEach es X.env := by rfl) (hpl : (backTo pos (starEach es X.env)).any (·.1) = false := by rfl)
    (na : starEach [.Call (.Name "range" p) (a :: es) [] pos] X.env = (false, eval (.Call (.Name "range" p) (a :: es) [] pos) X.env) :: starEach [] X.env := by rfl) :
    SE X (.Call (.Name "tuple" q1) [.Call (.Name "range" p) (a :: es) [] pos] [] q2) (wRgTo mkTup wr) := by
  refine ⟨fun pins s σ H Q I h => ?_⟩
  obtain ⟨μ, S, ρ, Q0, m, en, q, p⟩ := h
  refine Call_ (ld_blt I hgt hmt boot_tuple (PyProof.Rows.callWith_type1 (args_cons (thn (prgC hg hm ha hs hpl pins s σ H (fun vs H1 => ∃ i j c n, rgArgs vs = some (i, j, c) ∧ RgC i j c n ∧ n ≤ 2 ^ 24 ∧ ∀ l, H1 l = none → Q (.ref l) (upd H1 l (.tup (stepV i c n)))) I (LA.run m en q fun ds S1 μ1 vs H1 q1 g1 m1 e1 r1 => ?_) fun vs H1 ⟨i, j, c, n, h1, h2, _⟩ => ⟨i, j, c, n, h1, h2⟩) fun x s1 ⟨r, a', b', c', t, u, v, H1, vs, ex, hr, I1, ev, i, j, c, n, h1, h2, h3, h4⟩ => args_nil ?_) na) na))
  · split at q1
    · rename_i i j c hz
      obtain ⟨n, h1, h2, h3⟩ := q1
      exact ⟨i, j, c, n, rgArgs_rep r1 hz, h1, h2, fun l hl => p _ S1 h3 _ _ _ (g1.trans (.new hl)) (m1.new hl) (Sim.newT (S := S1) hl (rep_step i c n))⟩
    · exact q1.elim
  · subst ex
    rw [ev] at h1
    cases h1
    obtain ⟨b0, b1, b2, b3⟩ := h2
    refine call_tuple_range (n := n) (I1.ok.hd hc) hr b2 b3 h3 fun h' tk acc hk hi => ?_
    have I2 : Inv X pins σ H1 { s1 with heap := h', toks := tk } := I1.kept hk
    refine ⟨.ref h'.objs.size, upd H1 h'.objs.size (.tup (stepV a' c' n)), I2.laid (t' := tk) (fun c o e => Heap.get?_push_of_some _ e) (Nat.le_refl _) (show ObjOk X.prog X.w _ _ _ (.tup (stepV a' c' n)) from ⟨?_, acc.toList, vals_stepR hi, ?_⟩), rfl, h4 _ (I2.hok.fresh (Nat.le_refl _))⟩
    · unfold stepV; rw [List.length_map, List.length_range, sizeLine_eq]; omega
    · rw [Array.toArray_toList]; exact IsTup.new _ _
/-- list(range(..)), by content or as an object of the store -/
theorem listRg_run {q1 q2 : Pos} {mk : List D → Store → (D → Store → Prop) → Prop} (hmk : ∀ (μ : Mu) (S : Store) (H : Hp) (ds : List D) (vs : List V) (Q0 : D → Store → Prop) (Q : VK), Sim X.K μ S H → (∀ μ' H', RepAll X.K μ' H' ds vs) → mk ds S Q0 → Post X.K μ H Q0 Q → ∀ l, H l = none → Q (.ref l) (upd H l (.lst vs)))
    (hc : X.calm = true) (hgt : Gl X "list") (hmt : X.mg "list" = none) (hg : Gl X "range") (hm : X.mg "range" = none) (ha : SA X (a :: es) wr)
    (hs : starEach (a :: es) X.env = (false, eval a X.env) :: starEach es X.env) (hpl : (backTo pos (starEach es X.env)).any (·.1) = false)
    (na : starEach [.Call (.Name "range" p) (a :: es) [] pos] X.env = (false, eval (.Call (.Name "range" p) (a :: es) [] pos) X.env) :: starEach [] X.env) :
    SE X (.Call (.Name "list" q1) [.Call (.Name "range" p) (a :: es) [] pos] [] q2) (wRgTo mk wr) := by
  refine ⟨fun pins s σ H Q I h => ?_⟩
  obtain ⟨μ, S, ρ, Q0, m, en, q, p⟩ := h
  refine Call_ (ld_blt I hgt hmt boot_list (PyProof.Rows.callWith_type1 (args_cons (thn (prgC hg hm ha hs hpl pins s σ H (fun vs H1 => ∃ i j c n, rgArgs vs = some (i, j, c) ∧ RgC i j c n ∧ n ≤ 2 ^ 24 ∧ ∀ l, H1 l = none → Q (.ref l) (upd H1 l (.lst (stepV i c n)))) I (LA.run m en q fun ds S1 μ1 vs H1 q1 g1 m1 e1 r1 => ?_) fun vs H1 ⟨i, j, c, n, h1, h2, _⟩ => ⟨i, j, c, n, h1, h2⟩) fun x s1 ⟨r, a', b', c', t, u, v, H1, vs, ex, hr, I1, ev, i, j, c, n, h1, h2, h3, h4⟩ => args_nil ?_) na) na))
  · split at q1
    · rename_i i j c hz
      obtain ⟨n, h1, h2, h3⟩ := q1
      exact ⟨i, j, c, n, rgArgs_rep r1 hz, h1, h2, hmk μ1 S1 H1 _ _ Q0 Q m1 (fun _ _ => rep_step i c n) h3 (p.go g1)⟩
    · exact q1.elim
  · subst ex
    rw [ev] at h1
    cases h1
    obtain ⟨b0, b1, b2, b3⟩ := h2
    refine call_list_range (n := n) (I1.ok.hd hc) hr b2 b3 h3 fun h' tk acc c2 hk e' hi => ?_
    refine ⟨.ref s1.heap.objs.size, upd H1 s1.heap.objs.size (.lst (stepV a' c' n)), I1.laid hk (Nat.le_refl _) (show ObjOk X.prog X.w _ _ _ (.lst (stepV a' c' n)) from ⟨?_, acc.toList, c2, vals_stepR hi, ?_⟩), rfl, h4 _ (I1.hok.fresh (Nat.le_refl _))⟩
    · unfold stepV; rw [List.length_map, List.length_range, sizeLine_eq]; omega
    · rw [Array.toArray_toList]; exact e'
theorem se_lstRg {q1 q2 : Pos} (hc : X.calm = true) (hgt : Gl X "list") (hmt : X.mg "list" = none) (hg : Gl X "range") (hm : X.mg "range" = none) (ha : SA X (a :: es) wr)
    (hs : starEach (a :: es) X.env = (false, eval a X.env) :: starEach es X.env := by rfl) (hpl : (backTo pos (starEach es X.env)).any (·.1) = false := by rfl)
    (na : starEach [.Call (.Name "range" p) (a :: es) [] pos] X.env = (false, eval (.Call (.Name "range" p) (a :: es) [] pos) X.env) :: starEach [] X.env := by rfl) :
    SE X (.Call (.Name "list" q1) [.Call (.Name "range" p) (a :: es) [] pos] [] q2) (wRgTo mkLst wr) :=
  listRg_run (fun μ S H ds vs Q0 Q m r q p l hl => p _ _ q _ _ _ (.new hl) (m.new hl) (Sim.newL m hl (r _ _))) hc hgt hmt hg hm ha hs hpl na
theorem se_lstRgN {q1 q2 : Pos} (hc : X.calm = true) (hgt : Gl X "list") (hmt : X.mg "list" = none) (hg : Gl X "range") (hm : X.mg "range" = none) (ha : SA X (a :: es) wr)
    (hs : starEach (a :: es) X.env = (false, eval a X.env) :: starEach es X.env := by rfl) (hpl : (backTo pos (starEach es X.env)).any (·.1) = false := by rfl)
    (na : starEach [.Call (.Name "range" p) (a :: es) [] pos] X.env = (false, eval (.Call (.Name "range" p) (a :: es) [] pos) X.env) :: starEach [] X.env := by rfl) :
    SE X (.Call (.Name "list" q1) [.Call (.Name "range" p) (a :: es) [] pos] [] q2) (wRgTo mkNew wr) :=
  listRg_run (fun μ S H ds vs Q0 Q m r q p l hl => p _ _ q _ _ _ (.alloc hl) (m.alloc hl (r _ _)) m.newR.refH) hc hgt hmt hg hm ha hs hpl na
theorem RgC.up {i j : Int} (h1 : -(2 ^ 62) ≤ i) (h2 : i < 2 ^ 62) (h3 : -(2 ^ 62) ≤ j) (h4 : j < 2 ^ 62) : RgC i j 1 (j - i).toNat := ⟨by decide, by decide, small_one h1 h2 h3 h4, rangeSize_nat i j⟩

/-! ### enumerate, zip -/
def enumD (k : Nat) : List D → List D
  | [] => []
  | d :: ds => .tup [.int (k : Int), d] :: enumD (k + 1) ds
def zipD : List D → List D → List D
  | d :: ds, e :: es => .tup [d, e] :: zipD ds es
  | _, _ => []
theorem enumD_length : ∀ (ds : List D) (k : Nat), (enumD k ds).length = ds.length
  | [], _ => rfl
  | _ :: ds, k => congrArg (· + 1) (enumD_length ds (k + 1))
theorem enumD_get : ∀ (ds : List D) (k i : Nat), (enumD k ds)[i]? = (ds[i]?).map fun d => .tup [.int ((k + i : Nat) : Int), d]
  | [], _, _ => by simp [enumD]
  | _ :: _, _, 0 => rfl
  | d :: ds, k, i + 1 => by
    show (enumD (k + 1) ds)[i]? = _
    rw [enumD_get ds (k + 1) i, List.getElem?_cons_succ, show k + 1 + i = k + (i + 1) by omega]
theorem zipD_length : ∀ (ds es : List D), (zipD ds es).length = min ds.length es.length
  | [], _ => by simp [zipD]
  | _ :: _, [] => by simp [zipD]
  | _ :: ds, _ :: es => by simp only [zipD, List.length_cons, zipD_length ds es]; omega
theorem zipD_get : ∀ (ds es : List D) (i : Nat) (d e : D), ds[i]? = some d → es[i]? = some e → (zipD ds es)[i]? = some (.tup [d, e])
  | [], _, _, _, _, h, _ => by simp at h
  | _ :: _, [], _, _, _, _, h => by simp at h
  | a :: ds, b :: es, 0, d, e, h1, h2 => by simp at h1 h2; subst h1; subst h2; rfl
  | a :: ds, b :: es, i + 1, d, e, h1, h2 => zipD_get ds es i d e (by simpa using h1) (by simpa using h2)
/-- the list stands at a while G -/
structure AtL (K : PySem.W.Frag) (μ : Mu) (H : Hp) (a : Addr) (xs : List D) (G : Store → Prop) : Prop where
  at_ : ∀ μ2 H2 S2, Grow μ H μ2 H2 → Sim K μ2 S2 H2 → G S2 → ∃ vs, SqL K H2 a vs ∧ RepAll K μ2 H2 xs vs
structure AtT (K : PySem.W.Frag) (μ : Mu) (H : Hp) (a : Addr) (xs : List D) (G : Store → Prop) : Prop where
  at_ : ∀ μ2 H2 S2, Grow μ H μ2 H2 → Sim K μ2 S2 H2 → G S2 → ∃ vs, SqT K H2 a vs ∧ RepAll K μ2 H2 xs vs
section
variable {K : PySem.W.Frag} {μ : Mu} {H : Hp} {b' a' : Addr} {xs ys : List D} {G G2 : Store → Prop}
theorem isw_enum (h : AtL K μ H a' xs G) : IsW K μ H (Ite K a') (enumD 0 xs) G where
  go := fun i μ2 H2 S2 hi g m hG => by
    obtain ⟨vs, h1, h2⟩ := h.at_ μ2 H2 S2 g m hG
    rw [enumD_length, h2.length] at hi
    exact ⟨vs, vs[i], h1, by simp [hi]⟩
  stop := fun μ2 H2 S2 g m hG => by
    obtain ⟨vs, h1, h2⟩ := h.at_ μ2 H2 S2 g m hG
    exact ⟨vs, h1, by rw [enumD_length, h2.length]; exact Nat.le_refl _⟩
  yld := fun i μ2 H2 S2 x H3 hi g m hG y => by
    obtain ⟨vs, h1, h2⟩ := h.at_ μ2 H2 S2 g m hG
    obtain ⟨T, v, rfl, hT, rfl, y⟩ := y
    obtain ⟨d, e1, e2⟩ := h2.getV (y vs h1)
    exact ⟨.tup [.int ((0 + i : Nat) : Int), d], by rw [enumD_get, e1]; rfl, .new hT, m.new hT, Sim.newT (S := S2) hT (.cons (by rw [Nat.zero_add]; exact .int _) (.one e2))⟩
theorem isw_zipL (h : AtL K μ H a' xs G) (h' : AtL K μ H b' ys G2) : IsW K μ H (Itz K a' b') (zipD xs ys) (fun S => G S ∧ G2 S) where
  go := fun i μ2 H2 S2 hi g m hG => by
    obtain ⟨vs, h1, h2⟩ := h.at_ μ2 H2 S2 g m hG.1
    obtain ⟨us, k1, k2⟩ := h'.at_ μ2 H2 S2 g m hG.2
    rw [zipD_length, h2.length, k2.length] at hi
    have i1 : i < vs.length := by omega
    have i2 : i < us.length := by omega
    exact ⟨vs, us, vs[i], us[i], h1, k1, by simp [i1], by simp [i2]⟩
  stop := fun μ2 H2 S2 g m hG => by
    obtain ⟨vs, h1, h2⟩ := h.at_ μ2 H2 S2 g m hG.1
    obtain ⟨us, k1, k2⟩ := h'.at_ μ2 H2 S2 g m hG.2
    exact ⟨vs, us, h1, k1, by rw [zipD_length, h2.length, k2.length]; omega⟩
  yld := fun i μ2 H2 S2 x H3 hi g m hG y => by
    obtain ⟨vs, h1, h2⟩ := h.at_ μ2 H2 S2 g m hG.1
    obtain ⟨us, k1, k2⟩ := h'.at_ μ2 H2 S2 g m hG.2
    obtain ⟨T, v, u, rfl, hT, rfl, y, y'⟩ := y
    obtain ⟨d, e1, e2⟩ := h2.getV (y vs h1)
    obtain ⟨e, f1, f2⟩ := k2.getV (y' us k1)
    exact ⟨.tup [d, e], zipD_get _ _ _ _ _ e1 f1, .new hT, m.new hT, Sim.newT (S := S2) hT (.cons e2 (.one f2))⟩
theorem isw_zipT (h : AtT K μ H a' xs G) (h' : AtT K μ H b' ys G2) : IsW K μ H (RZ.ItzT K a' b') (zipD xs ys) (fun S => G S ∧ G2 S) where
  go := fun i μ2 H2 S2 hi g m hG => by
    obtain ⟨vs, h1, h2⟩ := h.at_ μ2 H2 S2 g m hG.1
    obtain ⟨us, k1, k2⟩ := h'.at_ μ2 H2 S2 g m hG.2
    rw [zipD_length, h2.length, k2.length] at hi
    have i1 : i < vs.length := by omega
    have i2 : i < us.length := by omega
    exact ⟨vs, us, vs[i], us[i], h1, k1, by simp [i1], by simp [i2]⟩
  stop := fun μ2 H2 S2 g m hG => by
    obtain ⟨vs, h1, h2⟩ := h.at_ μ2 H2 S2 g m hG.1
    obtain ⟨us, k1, k2⟩ := h'.at_ μ2 H2 S2 g m hG.2
    exact ⟨vs, us, h1, k1, by rw [zipD_length, h2.length, k2.length]; omega⟩
  yld := fun i μ2 H2 S2 x H3 hi g m hG y => by
    obtain ⟨vs, h1, h2⟩ := h.at_ μ2 H2 S2 g m hG.1
    obtain ⟨us, k1, k2⟩ := h'.at_ μ2 H2 S2 g m hG.2
    obtain ⟨T, v, u, rfl, hT, rfl, y, y'⟩ := y
    obtain ⟨d, e1, e2⟩ := h2.getV (y vs h1)
    obtain ⟨e, f1, f2⟩ := k2.getV (y' us k1)
    exact ⟨.tup [d, e], zipD_get _ _ _ _ _ e1 f1, .new hT, m.new hT, Sim.newT (S := S2) hT (.cons e2 (.one f2))⟩
theorem atL_lst {vs : List V} (h : (Rd H a' (.lst vs) ∧ ¬ μ.has a') ∨ KL K a' vs) (r : RepAll K μ H xs vs) : AtL K μ H a' xs fun _ => True :=
  ⟨fun μ2 H2 S2 g m _ => ⟨vs, h.imp (fun z => (g.lst _ _ z.1 z.2).1) id, r.grow g⟩⟩
theorem atL_ref {n : Nat} (h : μ.sl[n]? = some (some a')) : AtL K μ H a' xs fun S => S[n]? = some (.lst xs) :=
  ⟨fun μ2 H2 S2 g m hS => by
    obtain ⟨b, ws, h1, h2, h3⟩ := m.ob n xs hS
    rw [g.ref n a' h] at h1
    cases h1
    exact ⟨ws, SqL.of h2, h3⟩⟩
theorem atT_tup {vs : List V} (h : Rd H a' (.tup vs) ∨ KT K a' vs) (r : RepAll K μ H xs vs) : AtT K μ H a' xs fun _ => True :=
  ⟨fun μ2 H2 S2 g m _ => ⟨vs, h.imp (g.tup _ _) id, r.grow g⟩⟩
end
def guardL (S : Store) : D → Option (List D × (Store → Prop))
  | .lst ds => some (ds, fun _ => True)
  | .ref n => match S[n]? with | some (.lst ds) => some (ds, fun S => S[n]? = some (.lst ds)) | _ => none
  | _ => none
theorem guard_at {K : PySem.W.Frag} {μ : Mu} {S : Store} {H : Hp} {d : D} {v : V} {ds : List D} {G : Store → Prop} (m : Sim K μ S H) (r : Rep K μ H d v) (h : guardL S d = some (ds, G)) : ∃ a xs, v = .ref a ∧ SqL K H a xs ∧ AtL K μ H a ds G := by
  unfold guardL at h
  split at h
  · cases h
    cases r with
    | lst hh r => exact ⟨_, _, rfl, hh.imp And.left id, atL_lst hh r⟩
  · split at h
    · rename_i n _ es hn
      cases h
      obtain ⟨a, xs, rfl, h1, h2, h3⟩ := m.at hn r
      exact ⟨a, xs, rfl, SqL.of h2, atL_ref h1⟩
    · cases h
  · cases h
def wEnumerate (w : WA) : WI := fun ρ S Q => w ρ S fun ds S1 => match ds with
  | [x] => (match guardL S1 x with | some (es, G) => Q (enumD 0 es) G S1 | none => False)
  | _ => False
theorem si_enumerate {elts : List Expr} {kk : Nat} {tpos : Pos} (hg : Gl X "enumerate") (hm : X.mg "enumerate" = none) (ha : SA X [a] wr) (hs : starEach [a] X.env = [(false, eval a X.env)] := by rfl) :
    SI X (.Tuple elts kk tpos) (.Call (.Name "enumerate" p) [a] [] pos) (wEnumerate wr) := pi_weak (pi_enum hg hm ha hs) fun σ H R ⟨μ, S, ρ, Q0, m, en, q, p⟩ => by
  refine LA.run m en q fun ds S1 μ1 vs H1 q1 g1 m1 e1 r1 => ?_
  split at q1
  · rename_i x
    obtain ⟨v, rfl, r⟩ := r1.one_inv
    split at q1
    · rename_i es G hG
      obtain ⟨l, xs, rfl, h1, h2⟩ := guard_at m1 r hG
      exact ⟨l, xs, rfl, h1, p _ _ S1 q1 μ1 _ H1 g1 m1 (isw_enum h2)⟩
    · exact q1.elim
  · exact q1.elim
def wZip (w : WA) : WI := fun ρ S Q => w ρ S fun ds S1 => match ds with
  | [.tup xs, .tup ys] => Q (zipD xs ys) (fun _ => True) S1
  | [x, y] => (match guardL S1 x, guardL S1 y with | some (xs, G), some (ys, G') => Q (zipD xs ys) (fun S => G S ∧ G' S) S1 | _, _ => False)
  | _ => False
theorem isw_mono {K : PySem.W.Frag} {μ : Mu} {H : Hp} {J : It} {xs : List D} {G G' : Store → Prop} (h : IsW K μ H J xs G) (hG : ∀ S, G' S → G S) : IsW K μ H J xs G' :=
  ⟨fun i μ2 H2 S2 hi g m q => h.go i μ2 H2 S2 hi g m (hG _ q), fun μ2 H2 S2 g m q => h.stop μ2 H2 S2 g m (hG _ q), fun i μ2 H2 S2 x H3 hi g m q y => h.yld i μ2 H2 S2 x H3 hi g m (hG _ q) y⟩
theorem si_zip {elts : List Expr} {kk : Nat} {tpos : Pos} (hg : Gl X "zip") (hm : X.mg "zip" = none) (ha : SA X [a, b] wr) (hs : starEach [a, b] X.env = (false, eval a X.env) :: starEach [b] X.env := by rfl) (hpl : (backTo pos (starEach [b] X.env)).any (·.1) = false := by rfl) :
    SI X (.Tuple elts kk tpos) (.Call (.Name "zip" p) [a, b] [] pos) (wZip wr) := pi_weak (RZ.pi_zipA hg hm ha hs hpl) fun σ H R ⟨μ, S, ρ, Q0, m, en, q, p⟩ => by
  refine LA.run m en q fun ds S1 μ1 vs H1 q1 g1 m1 e1 r1 => ?_
  split at q1
  · obtain ⟨v, u, rfl, r, r'⟩ := r1.two_inv
    cases r with
    | tup hh r =>
      cases r' with
      | tup hh' r' => exact ⟨_, _, _, _, rfl, .inr ⟨hh, hh', p _ _ S1 q1 μ1 _ H1 g1 m1 (isw_mono (isw_zipT (atT_tup hh r) (atT_tup hh' r')) fun _ _ => ⟨trivial, trivial⟩)⟩⟩
  · obtain ⟨v, u, rfl, r, r'⟩ := r1.two_inv
    split at q1
    · rename_i xs G ys G' h1 h2
      obtain ⟨a', us, rfl, k1, k2⟩ := guard_at m1 r h1
      obtain ⟨b', ws, rfl, l1, l2⟩ := guard_at m1 r' h2
      exact ⟨_, _, _, _, rfl, .inl ⟨k1, l1, p _ _ S1 q1 μ1 _ H1 g1 m1 (isw_zipL k2 l2)⟩⟩
    · exact q1.elim
  · exact q1.elim
end
end DL

set_option maxHeartbeats 4000000
/-! DLS: sorted(set(x)), x of tuples of ints -/
namespace DL
open PySem PySem.Spec PyProof.Rows L2
section
variable {P : Program} {w : World} {A : Around} {E : Value → Shared → Prop} {s : Shared}
abbrev newSet (w : World) : Obj := { cls := .type "set", dict := none, data := .set #[] 0 (.fresh 0 0 (!w.params.followText "set-order")) }
/-- the call set(x), down to the text of set.__init__ -/
theorem type_set1 {x : Value} {s1 : Shared} {o : Value} {Q : Value → Shared → Prop} (made : ∀ {Z : Value → Shared → Prop}, Z o s1 → codeAny (model P w) A.in1 (.call (.builtin "set.__new__") ⟨[.type "set", x], []⟩) (wants Z E) s)
    (hT : s1.TypeIs o "set")
    (body : ∀ Z : Value → Shared → Prop, (∀ s2, Q o s2 → Z .none s2) → wpAny (model P w) A.in1.in1 (Builtin.«set.__init__» ⟨[o, x], []⟩)
      (fun fin s' => match fin with | .done f => wants Z E (.ok f) s' | .again c' => c'.quiet = true ∧ codeAny (model P w) A.in1 c' (wants Z E) s') (fun e s' => wants Z E (.error e) s') s1) :
    wpAny (model P w) A (call (.type "set") [x]) Q E s := by
  have ft := F.called_set
  obtain ⟨c, tl, hmro⟩ := ft.mro
  have k1 := ft.made
  have k2 := ft.sub
  have k3 := ft.notType
  have k4 := ft.canCreate
  have k5 := F.typeCall_set_1 x
  refine wpAny_call (codeAny_of_tree (show wpAny _ _ (callAny (.type "set") _) _ _ _ from wpAny_pure ⟨Code.quiet_builtin _ (by decide +kernel), codeAny_builtin F.entry_type_call ?_⟩))
  rw [Around.under_plain (weight_type_call_type "set" [x] []) rfl]
  repeat (any_goals (first | assumption | wp_step))
  refine codeAny_mono (made (Z := fun a b => a = o ∧ b = s1) ⟨rfl, rfl⟩) fun r s2 hr => ?_
  match r, hr with
  | .error e, hr => exact hr
  | .ok (.ret obj), hr =>
    obtain ⟨e1, e2⟩ := hr
    subst e1 e2
    have k6 := ft.init.lookup
    have k7 := ft.init.bind obj
    repeat (any_goals (first | assumption | wp_step))
    refine codeAny_mono (codeAny_call_builtin (R := wants (fun r s3 => r = .none ∧ Q obj s3) E) ft.init.plain F.entry_set_init (check_set_init_1 hT (body (fun r s3 => r = .none ∧ Q obj s3) fun s3 hq => ⟨rfl, hq⟩))) fun r2 s3 hr2 => ?_
    match r2, hr2 with
    | .error e, h2 => exact h2
    | .ok (.ret v), h2 =>
      obtain ⟨e3, hq⟩ := h2
      subst e3
      repeat (any_goals (first | assumption | wp_step))
      all_goals exact hq
/-- set(t), t a tuple of tuples of ints -/
theorem set_tupsT {l : Addr} {items : Array Value} (ks : List (Addr × List Int)) {Q : Value → Shared → Prop} (hh : A.handled = none) (hl : s.heap.IsTuple l items) (hit : items.toList = ks.map fun p => Value.ref p.1)
    (hk : ∀ p ∈ ks, IsT P w s.heap p.2 p.1) (hfew : ks.length < 64) (hu : A.units + 3 < cLine)
    (h : ∀ (h' : Heap) (tk : Nat) L es ep t, SetTR P w h' s.heap.objs.size L es ep t → Got ks ks.length L → (∀ b o, s.heap.get? b = some o → h'.get? b = some o) → Q (.ref s.heap.objs.size) { s with heap := h', toks := tk }) :
    wpAny (model P w) A (call (.type "set") [.ref l]) Q E s := by
  have hsize : items.size = ks.length := by rw [← Array.length_toList, hit, List.length_map]
  have fresh : (s.heap.push (newSet w)).get? s.heap.objs.size = some (newSet w) := Heap.get?_push_size _ rfl
  refine type_set1 (fun {Z} z => code_set_led1 (.ref l) (Q₁ := Z) z) ⟨_, fresh, rfl⟩ fun Z hz => ?_
  obtain ⟨⟨ocls, odict, odata, oslots⟩, hol, hcl, nl, hdl⟩ := hl
  simp only at hcl hdl
  subst hcl hdl
  have llt : l < s.heap.objs.size := Heap.lt_size hol
  have old : ∀ b o, s.heap.get? b = some o → (s.heap.push (newSet w)).get? b = some o := fun b o e => Heap.get?_push_of_some _ e
  have hol2 := old l _ hol
  have tup2 : (s.heap.push (newSet w)).IsTuple l items := ⟨_, hol2, rfl, nl, rfl⟩
  have sub1 := F.sub_tuple_set
  have sub2 := F.sub_tuple_frozenset
  have ndict : (Value.type "tuple" == Value.type "dict") = false := by decide
  unfold Builtin.«set.__init__» noKeywords Builtin.Frozenset.updateFrom
  generalize hPI : pyIter = PI
  wp_walk
  subst hPI
  refine wpAny_pyIter_tuple tup2 (wpAny_bind (wpAny_runValue ?_))
  have nsz : (s.heap.push (newSet w)).objs.size = s.heap.objs.size + 1 := Heap.size_push ..
  have lne : l ≠ (s.heap.push (newSet w)).objs.size := by rw [nsz]; exact Nat.ne_of_lt (Nat.lt_succ_of_lt llt)
  have none_of : ∀ b, s.heap.objs.size ≤ b → s.heap.get? b = none := fun b hb => by
    cases q : s.heap.get? b with
    | none => rfl
    | some o => exact absurd (Heap.lt_size q) (Nat.not_lt.mpr hb)
  refine set_update_tups ((Walks.tuple (by simp [hh]) (s.heap.push (newSet w)).objs.size l lne items).toS) s.heap.objs.size (fun z => ?_) ks hsize hfew (fun i v hv => ?_) s.heap hk (none_of _ (Nat.le_refl _)) (fun b hb => none_of b ?_) hu (items.size - 0) 0 _ (by omega) (Nat.zero_le _) ⟨⟨_, Heap.get?_push_size _ rfl, rfl, rfl⟩, tup2.push _⟩ (fun b o e => Heap.get?_push_of_some _ (old b o e)) ⟨[], #[], 0, _, setTR_fresh (Heap.get?_push_of_some _ fresh), Got.zero ks⟩ fun s' L es ep t hm hS' g' hkp => ?_
  · rcases List.mem_cons.mp z with z | z
    · rw [nsz] at z; exact absurd z (Nat.ne_of_lt (Nat.lt_succ_self _))
    · exact absurd (List.mem_singleton.mp z) (Nat.ne_of_gt llt)
  · have q : items.toList[i]? = some v := by rw [Array.getElem?_toList]; exact hv
    rw [hit, List.getElem?_map] at q
    cases hq : ks[i]? with
    | none => rw [hq] at q; cases q
    | some p => rw [hq] at q; exact ⟨p, rfl, (Option.some.inj q).symm⟩
  · rw [List.mem_singleton.mp hb, nsz]; exact Nat.le_succ _
  · obtain ⟨h', g2, d', tk', os'⟩ := s'
    have eg : g2 = s.gens := hm.gens
    have ed : d' = s.drawn := hm.drawn
    have eo : os' = s.os := hm.os
    subst eg ed eo
    rw [hsize] at g'
    exact wpAny_pure (show wpAny _ _ (ret Value.none) _ _ _ from wpAny_pure (hz _ (h _ _ _ _ _ _ hS' g' hkp)))
end

/-- .. as a rule, lists too -/
def rSetB (K : PySem.W.Frag) (P : Program) (w : World) : List V → Hp → VK → Prop := fun xs H Q => ∃ (l : Addr) (ks : List (Addr × List Int)), xs = [V.ref l] ∧ (SqL K H l (ks.map fun p => V.ref p.1) ∨ SqT K H l (ks.map fun p => V.ref p.1)) ∧ (∀ p ∈ ks, SqT K H p.1 (p.2.map V.int)) ∧ ks.length < 64 ∧
  ∀ a L, H a = none → (∀ p ∈ L, p ∈ ks) → (∀ p ∈ ks, p.2 ∈ L.map (·.2)) → Q (.ref a) (upd H a (SetTO P w a L))
section
variable {X : Cx}
theorem cr_setB (hc : X.calm = true) (hu : X.A.units + 64 < cLine) : CallR X (.type "set") (rSetB X.K X.prog X.w) := by
  intro pins s σ H xs us Q I r h
  obtain ⟨l, ks, rfl, hl, hk, hf, q⟩ := h
  rcases hl with hl | hl
  · exact cr_setOfT hc hu pins s σ H _ us Q I r ⟨l, ks, rfl, hl, hk, hf, q⟩
  · rw [Vals.ref1 r]
    obtain ⟨its, rv, pl, _⟩ := I.tuple hl
    refine set_tupsT (P := X.prog) (w := X.w) ks (I.ok.hd hc) (show s.heap.IsTuple l its.toArray from pl) (by simpa using refs_of_vals rv) (fun p hp => I.isT (hk p hp)) hf (by omega) fun h' tk L es ep t R g k => ?_
    exact ⟨.ref _, _, I.laid (t' := tk) k (Nat.le_refl _) (setTO_new R.t0), rfl, q _ L (I.hok.fresh (Nat.le_refl _)) (fun p hp => List.mem_of_mem_take (g.sub p hp)) fun p hp => g.all p (by rw [List.take_length]; exact hp)⟩
/-- sorted(a set of such tuples) -/
def rSortSet (K : PySem.W.Frag) (P : Program) (w : World) : List V → Hp → VK → Prop := fun vs H Q => ∃ (a : Addr) (L : List (Addr × List Int)), vs = [V.ref a] ∧ H a = some (SetTO P w a L) ∧ (∀ p ∈ L, SqT K H p.1 (p.2.map V.int)) ∧
  (∃ d, 1 ≤ d ∧ ∀ p ∈ L, p.2.length = d) ∧ ∀ (M : List (Addr × List Int)) (ys : List V) (p : Addr), M.Perm L → (L.map (·.2)).Nodup → ys = (M.mergeSort (PySem.W.dataLe false fun q => PyData.tuple (q.2.map .int))).map (fun q => V.ref q.1) → H p = none → Q (.ref p) (upd H p (.lst ys))
theorem alike_ints : ∀ (a b : List Int), a.length = b.length → PySem.W.alikeAll (a.map PyData.int) (b.map PyData.int) = true
  | [], [], _ => by simp [PySem.W.alikeAll]
  | x :: a, y :: b, h => by simp [PySem.W.alikeAll, PySem.W.alike, alike_ints a b (by simpa using h)]
theorem depth_ints : ∀ a : List Int, PyData.depthAll (a.map PyData.int) ≤ 1
  | [] => by simp [PyData.depthAll]
  | x :: a => by
    have := depth_ints a
    simp only [List.map_cons, PyData.depthAll, PyData.depth]
    omega
theorem reads_ints {h : Heap} : ∀ {ns : List Int} {us : List Value}, IntsAre us ns → ∃ as, ReadsAll h us (ns.map PyData.int) as := by
  intro ns us r
  induction r with
  | nil => exact ⟨_, .nil⟩
  | cons n t r ih =>
    obtain ⟨as, ih⟩ := ih
    exact ⟨_, .cons (.int n t) ih⟩
theorem perm_back {α β : Type} (f : α → β) {m n : List β} (h : m.Perm n) : ∀ l : List α, n = l.map f → ∃ l' : List α, l'.Perm l ∧ m = l'.map f := by
  induction h with
  | nil => exact fun l e => ⟨l, .refl _, e⟩
  | cons x h ih =>
    intro l e
    match l, e with
    | y :: l, e =>
      rw [List.map_cons, List.cons.injEq] at e
      obtain ⟨l', h1, h2⟩ := ih l e.2
      exact ⟨y :: l', .cons _ h1, by rw [List.map_cons, ← h2, e.1]⟩
  | swap x y r =>
    intro l e
    match l, e with
    | a :: b :: l, e =>
      simp only [List.map_cons, List.cons.injEq] at e
      exact ⟨b :: a :: l, .swap _ _ _, by simp only [List.map_cons, e.1, e.2.1, e.2.2]⟩
  | trans h1 h2 ih1 ih2 =>
    intro l e
    obtain ⟨l', k1, k2⟩ := ih2 l e
    obtain ⟨l2, k3, k4⟩ := ih1 l' k2
    exact ⟨l2, k3.trans k1, k4⟩
theorem each_eq {α : Type} {f : α → Value} : ∀ {out : List Value} {bs : List α}, PySem.W.EachIs (fun u q => u = f q) out bs → out = bs.map f
  | _, _, .nil => rfl
  | _, _, .cons h t => by rw [List.map_cons, h, each_eq t]
theorem each_map {α : Type} {R : Value → PyData → Prop} {f : α → Value} {g : α → PyData} : ∀ {l : List α}, (∀ q ∈ l, R (f q) (g q)) → PySem.W.EachIs R (l.map f) (l.map g)
  | [], _ => .nil
  | q :: l, h => .cons (h q List.mem_cons_self) (each_map fun r hr => h r (List.mem_cons_of_mem _ hr))
theorem each_refl {α : Type} {f : α → Value} : ∀ {l : List α}, PySem.W.EachIs (fun u q => u = f q) (l.map f) l
  | [] => .nil
  | _ :: _ => .cons rfl each_refl
abbrev tkey (q : Addr × List Int) : PyData := .tuple (q.2.map .int)
theorem cr_sortSet (hc : X.calm = true) (hu : X.A.units + 64 < cLine) : CallR X (.builtin "sorted") (rSortSet X.K X.prog X.w) := by
  intro pins s σ H vs us Q I r h
  obtain ⟨a, L, rfl, ha, hk, ⟨d, hd1, hd2⟩, q⟩ := h
  obtain ⟨es, ep, t, R⟩ := SetT0.full (I.hok a _ ha).1 fun p hp => I.isT (hk p hp)
  rw [Vals.ref1 r]
  obtain ⟨o, ho, hex, hdat⟩ := R.ob
  have few := R.few
  have size := R.size
  refine Calls.call_function_entry kind_sorted plain_sorted entry_sorted (args_sorted1 _) ?_
  unfold Builtin.«sorted»
  refine wpAny_bind (m := checkCount "sorted" 1 1 _) (wpAny_pure ?_)
  refine wpAny_bind (collect_set (A := X.A.in1) (I.ok.hd hc) ⟨o, ho, hex.1, hdat⟩ R.fits (by unfold scanBound; omega) R.tab.ris R.led fun s1 out0 k1 hz g1 o1 pm => ?_)
  have hes : es.toList.map (·.2) = L.map fun q => Value.ref q.1 := by
    rw [R.rows]
    unfold rowsOf
    rw [List.map_map]
    rfl
  obtain ⟨M, pM, rfl⟩ := perm_back (fun q : Addr × List Int => Value.ref q.1) pm L hes
  have hM : M.length < 64 := by rw [pM.length_eq]; exact few
  have hl : (M.map fun q => Value.ref q.1).length ≤ sizeLine := by rw [List.length_map, sizeLine_eq]; omega
  refine wpAny_bind (wpAny_newList ?_ (by simpa using hl))
  have hat : (s1.heap.push (seqObj "list" (M.map fun q => Value.ref q.1).toArray 0)).get? s1.heap.objs.size = some (seqObj "list" (M.map fun q => Value.ref q.1).toArray 0) := Heap.get?_push_size _ rfl
  have k3 : ∀ b o, s.heap.get? b = some o → (PySem.W.sortingHeap (s1.heap.push (seqObj "list" (M.map fun q => Value.ref q.1).toArray 0)) s1.heap.objs.size (M.map fun q => Value.ref q.1)).get? b = some o := fun b o q =>
    PySem.W.sortingHeap_old (Nat.ne_of_lt (Heap.lt_size (k1 b o q))) (Heap.get?_push_of_some _ (k1 b o q))
  have rd : PySem.W.EachIs (fun v d => ∃ as, Reads (PySem.W.sortingHeap (s1.heap.push (seqObj "list" (M.map fun q => Value.ref q.1).toArray 0)) s1.heap.objs.size (M.map fun q => Value.ref q.1)) v d as) (M.map fun q => Value.ref q.1) (M.map tkey) := each_map fun q hq => by
    obtain ⟨o2, its, n, h1, h2, h3, h4⟩ := isT_keep (R.tup q (pM.mem_iff.mp hq)) k3
    obtain ⟨as, h5⟩ := reads_ints (h := PySem.W.sortingHeap (s1.heap.push (seqObj "list" (M.map fun q => Value.ref q.1).toArray 0)) s1.heap.objs.size (M.map fun q => Value.ref q.1)) (ints_of_items h4)
    exact ⟨as, .tuple h1 h2 h3 h5⟩
  have al : PySem.W.AllAlike (M.map tkey) := fun x hx y hy => by
    obtain ⟨q1, m1, rfl⟩ := List.mem_map.mp hx
    obtain ⟨q2, m2, rfl⟩ := List.mem_map.mp hy
    show PySem.W.alikeAll _ _ = true
    exact alike_ints _ _ (by rw [hd2 _ (pM.mem_iff.mp m1), hd2 _ (pM.mem_iff.mp m2)])
  have so : PySem.W.Sortable (M.map tkey) := .inl fun x hx => by
    obtain ⟨q1, m1, rfl⟩ := List.mem_map.mp hx
    have := hd2 _ (pM.mem_iff.mp m1)
    match hq : q1.2, this with
    | [], e => exact absurd e (by simp; omega)
    | n :: r, _ => exact ⟨.int n, r.map .int, by unfold tkey; rw [hq]; rfl⟩
  refine wpAny_bind (wpAny_holding (PyProof.Rows.wpAny_call_entry_kw slot_list_sort ⟨_, hat, rfl⟩ entry_list_sort (PySem.W.list_sort_vals (s := { s1 with heap := s1.heap.push (seqObj "list" (M.map fun q => Value.ref q.1).toArray 0) }) hat
    (PySem.W.SortsAt.data (s := { s1 with heap := PySem.W.sortingHeap (s1.heap.push (seqObj "list" (M.map fun q => Value.ref q.1).toArray 0)) s1.heap.objs.size (M.map fun q => Value.ref q.1) }) rd al so fun x hx => ?_) hl ⟨_, rfl, ?_⟩) (args_list_sort _)))
  · obtain ⟨q1, m1, rfl⟩ := List.mem_map.mp hx
    have := depth_ints q1.2
    show X.A.units + 1 + 1 + PyData.depth (.tuple (q1.2.map .int)) < cLine
    rw [PyData.depth]
    omega
  · generalize hout : PySem.W.sortVals _ false _ _ = out
    obtain ⟨c, hc2⟩ := sortedHeap_at (vs := M.map fun q => Value.ref q.1) (out := out.toArray) hat
    have e1 : out = (M.mergeSort (PySem.W.dataLe false tkey)).map fun q => Value.ref q.1 := each_eq (PySem.W.keyedOut_each (bs := M) tkey ⟨_, _, al, hout.symm, rd⟩ each_refl)
    have hn : H s1.heap.objs.size = none := I.hok.fresh hz
    have hv : Vals ((M.mergeSort (PySem.W.dataLe false tkey)).map fun q => V.ref q.1) out := by rw [e1]; exact vals_of_refs _
    have keep : ∀ b u, s.heap.get? b = some u → (sortedHeap (s1.heap.push (seqObj "list" (M.map fun q => Value.ref q.1).toArray 0)) s1.heap.objs.size (M.map fun q => Value.ref q.1) out.toArray).get? b = some u := fun b u e => by
      have hlt := Heap.lt_size (k1 b u e)
      rw [sortedHeap_old (Nat.ne_of_lt hlt) (by rw [size_push']; exact Nat.lt_succ_of_lt hlt)]
      exact Heap.get?_push_of_some _ (k1 b u e)
    have hlen : ((M.mergeSort (PySem.W.dataLe false tkey)).map fun q => V.ref q.1).length ≤ sizeLine := by rw [List.length_map, List.length_mergeSort, sizeLine_eq]; omega
    have J : Inv X pins σ (upd H s1.heap.objs.size (.lst ((M.mergeSort (PySem.W.dataLe false tkey)).map fun q : Addr × List Int => V.ref q.1))) { s with heap := sortedHeap (s1.heap.push (seqObj "list" (M.map fun q : Addr × List Int => Value.ref q.1).toArray 0)) s1.heap.objs.size (M.map fun q : Addr × List Int => Value.ref q.1) out.toArray, gens := s1.gens, drawn := s1.drawn, toks := s1.toks } :=
      I.call (ch := []) (Un.laid keep hz hn) (I.hok.laid keep hz ⟨hlen, out, c, hv, hc2⟩) (by rw [g1]; exact I.bare) (fun _ z => nomatch z)
    have e2 : { s1 with heap := sortedHeap (s1.heap.push (seqObj "list" (M.map fun q : Addr × List Int => Value.ref q.1).toArray 0)) s1.heap.objs.size (M.map fun q : Addr × List Int => Value.ref q.1) out.toArray } = { s with heap := sortedHeap (s1.heap.push (seqObj "list" (M.map fun q : Addr × List Int => Value.ref q.1).toArray 0)) s1.heap.objs.size (M.map fun q : Addr × List Int => Value.ref q.1) out.toArray, gens := s1.gens, drawn := s1.drawn, toks := s1.toks } := by
      obtain ⟨a1, a2, a3, a4, a5⟩ := s1
      obtain ⟨b1, b2, b3, b4, b5⟩ := s
      have o1' : a5 = b5 := o1
      subst o1'
      rfl
    show wpAny _ _ _ _ _ { s1 with heap := sortedHeap (s1.heap.push (seqObj "list" (M.map fun q : Addr × List Int => Value.ref q.1).toArray 0)) s1.heap.objs.size (M.map fun q : Addr × List Int => Value.ref q.1) out.toArray }
    rw [e2]
    exact wpAny_pure ⟨_, rfl, .ref s1.heap.objs.size, _, J, rfl, q M _ _ pM R.nd rfl hn⟩
def tupI (k : List Int) : D := .tup (k.map .int)
def SetOkD (ds : List D) (ks : List (List Int)) : Prop := ds = ks.map tupI ∧ ks.length < 64 ∧ ∃ d, 1 ≤ d ∧ ∀ k ∈ ks, k.length = d
def rSSet : RC
  | [x], S, Q => match itemsD S x with
    | some ds => ∃ ks, SetOkD ds ks ∧ ∀ es : List (List Int), es.Nodup → (∀ k, k ∈ es ↔ k ∈ ks) → Q (.lst (sortD (es.map tupI))) S
    | none => False
  | _, _, _ => False
theorem py_ints : ∀ k : List Int, pyAll (k.map D.int) = k.map PyData.int
  | [] => rfl
  | n :: k => by rw [List.map_cons, pyAll, py_ints k, List.map_cons, D.py]
theorem py_tupI (k : List Int) : (tupI k).py = .tuple (k.map .int) := by unfold tupI; rw [D.py, py_ints]
theorem tups_rep {K : PySem.W.Frag} {μ : Mu} {H : Hp} : ∀ {ks : List (List Int)} {vs : List V}, RepAll K μ H (ks.map tupI) vs → ∃ L : List (Addr × List Int), vs = L.map (fun p => V.ref p.1) ∧ L.map (·.2) = ks ∧ ∀ p ∈ L, SqT K H p.1 (p.2.map V.int)
  | [], _, r => by cases r; exact ⟨[], rfl, rfl, fun p hp => by cases hp⟩
  | k :: ks, _, r => by
    cases r with
    | cons r t =>
      obtain ⟨L, rfl, e2, h⟩ := tups_rep t
      obtain ⟨a, xs, rfl, h1, r1⟩ := Rep.tupS (show Rep _ _ _ (.tup (k.map D.int)) _ from r)
      rw [r1.ints] at h1
      refine ⟨(a, k) :: L, rfl, by rw [List.map_cons, e2], fun p hp => ?_⟩
      rcases List.mem_cons.mp hp with rfl | hp
      · exact h1
      · exact h p hp
theorem rep_tups {K : PySem.W.Frag} {μ : Mu} {H : Hp} : ∀ {L : List (Addr × List Int)}, (∀ p ∈ L, SqT K H p.1 (p.2.map V.int)) → RepAll K μ H (L.map fun p => tupI p.2) (L.map fun p => V.ref p.1)
  | [], _ => .nil
  | p :: L, h => .cons (.tup (h p List.mem_cons_self) (repInts _)) (rep_tups fun q hq => h q (List.mem_cons_of_mem _ hq))
theorem sqT_new {K : PySem.W.Frag} {H : Hp} {p a : Addr} {xs : List V} {o : HO} (hp : H p = none) (h : SqT K H a xs) : SqT K (upd H p o) a xs := h.imp (fun z => rd_new z hp) id
theorem se_sortedSet {a : Expr} {es : List Expr} {wr : WA} {p q1 pos pos2 : Pos} (hc : X.calm = true) (hu : X.A.units + 66 < cLine) (hg : Gl X "sorted") (hm : X.mg "sorted" = none) (hg2 : Gl X "set") (hm2 : X.mg "set" = none) (ha : SA X (a :: es) wr)
    (he : starEach (a :: es) X.env = (false, eval a X.env) :: starEach es X.env := by rfl) (hpl : (backTo pos (starEach es X.env)).any (·.1) = false := by rfl)
    (he2 : starEach [.Call (.Name "set" p) (a :: es) [] pos] X.env = (false, eval (.Call (.Name "set" p) (a :: es) [] pos) X.env) :: starEach [] X.env := by rfl) :
    SE X (.Call (.Name "sorted" q1) [.Call (.Name "set" p) (a :: es) [] pos] [] pos2) (wCall rSSet wr) :=
  pe_weak (pe_callB (cr_sortSet hc (by omega)) hg hm (by decide +kernel) (pa_cons (pe_callTy (cr_setB hc (by omega)) hg2 hm2 (by decide +kernel) ha (by decide) (by decide) he hpl) pa_nil he2) (by decide) (by decide) he2 rfl) fun σ H Q ⟨μ, S, ρ, Q0, m, en, q, pp⟩ => by
    refine LA.run m en q fun ds S1 μ1 vs H1 q1 g1 m1 e1 r1 => ?_
    unfold rSSet at q1
    split at q1
    · rename_i x
      obtain ⟨v, rfl, r⟩ := r1.one_inv
      split at q1
      · rename_i ds hds
        obtain ⟨ks, ⟨rfl, hlen, d, hd1, hd2⟩, k⟩ := q1
        obtain ⟨l, xs, rfl, hl, rr⟩ := items_rep m1 r hds
        obtain ⟨L, rfl, e2, hL⟩ := tups_rep rr
        subst e2
        refine ⟨l, L, rfl, hl, hL, by simpa using hlen, fun b M hb s1 s2 => ?_⟩
        have hM : ∀ p ∈ M, SqT X.K (upd H1 b (SetTO X.prog X.w b M)) p.1 (p.2.map V.int) := fun p hp => sqT_new hb (hL p (s1 p hp))
        refine ⟨b, M, rfl, upd_same, hM, ⟨d, hd1, fun p hp => hd2 _ (List.mem_map.mpr ⟨p, s1 p hp, rfl⟩)⟩, fun N ys c pN nd ey hc0 => ?_⟩
        have hN : ∀ p ∈ N.mergeSort (PySem.W.dataLe false tkey), SqT X.K (upd H1 b (SetTO X.prog X.w b M)) p.1 (p.2.map V.int) := fun p hp => hM p (pN.mem_iff.mp ((List.mergeSort_perm _ _).mem_iff.mp hp))
        have e3 : (N.mergeSort (PySem.W.dataLe false tkey)).map (fun p => tupI p.2) = sortD ((N.map (·.2)).map tupI) := by
          unfold sortD
          rw [List.map_map]
          refine List.map_mergeSort fun p hp q hq => ?_
          unfold PySem.W.dataLe PySem.W.sortLe
          show (!(listOrd itemOrd).blt (PySem.W.keyToks (tkey q)) (PySem.W.keyToks (tkey p))) = !(listOrd itemOrd).blt (PySem.W.keyToks (tupI q.2).py) (PySem.W.keyToks (tupI p.2).py)
          rw [py_tupI, py_tupI]
        have g2 : Grow μ1 H1 μ1 (upd H1 b (SetTO X.prog X.w b M)) := .new hb
        refine pp _ S1 (k (N.map (·.2)) ((pN.map (·.2)).nodup_iff.mpr nd) fun z => ?_) μ1 _ _ (g1.trans (g2.trans (.new hc0))) ((m1.new hb).new hc0) ?_
        · constructor
          · intro hz
            obtain ⟨p, hp, rfl⟩ := List.mem_map.mp hz
            exact List.mem_map.mpr ⟨p, s1 p (pN.mem_iff.mp hp), rfl⟩
          · intro hz
            obtain ⟨p, hp, rfl⟩ := List.mem_map.mp hz
            exact (pN.map (·.2)).mem_iff.mpr (s2 p hp)
        · rw [← e3, ey]
          exact Sim.newL (m1.new hb) hc0 (rep_tups hN)
      · exact q1.elim
    · exact q1.elim
end
end DL
namespace DL
open PySem PySem.Spec PyProof.Rows L2
theorem units65 {k : Nat} {A : Around} (r : Room k A) : A.units + 65 < cLine := by have := r.un; omega
theorem units66 {k : Nat} {A : Around} (r : Room k A) : A.units + 66 < cLine := by have := r.un; omega
/-- a def that promises nothing: the end of a recursion -/
theorem fn_vac {P : Program} {w : World} {K : PySem.W.Frag} {mg : Str → Option Value} {base : Heap} {k : Nat} {f : Addr} {fd : FuncData} {ps : List Str} {Γ : Con} (h : ∀ ds S Q, ¬ Γ ds S Q) : FnD P w K mg base k f fd ps Γ :=
  ⟨fun _ _ _ _ ⟨_, _, _, _, _, _, _, q, _⟩ => (h _ _ _ q).elim, fun _ _ _ _ _ _ _ _ _ _ _ _ _ ⟨_, _, _, _, _, _, _, q, _⟩ => (h _ _ _ q).elim⟩
end DL

set_option maxHeartbeats 4000000
/-! DLY: the simp set of the newer readings -/
namespace DL
open PySem PySem.Spec PyProof.Rows L2
variable {ρ : DL.Env} {S : Store} {Q : D → Store → Prop} {D0 : EndsD}
theorem x_rLtD {i j : Int} : rLtD (.int i) (.int j) S Q = Q (.bl (decide (i < j))) S := (rfl)
theorem x_rLeD {i j : Int} : rLeD (.int i) (.int j) S Q = Q (.bl (decide (i ≤ j))) S := (rfl)
theorem x_rGtD {i j : Int} : rGtD (.int i) (.int j) S Q = Q (.bl (decide (j < i))) S := (rfl)
theorem x_rGeD {i j : Int} : rGeD (.int i) (.int j) S Q = Q (.bl (decide (j ≤ i))) S := (rfl)
theorem y_w_sl {R : D → Option Int → Option Int → Store → (D → Store → Prop) → Prop} {w : WE} {wl wh : WO} : wSl R w wl wh ρ S Q = w ρ S (fun x S1 => wl ρ S1 (fun lo S2 => wh ρ S2 (fun hi S3 => R x lo hi S3 Q))) := (rfl)
theorem y_w_noPart {Q : Option Int → Store → Prop} : wNoPart ρ S Q = Q none S := (rfl)
def oI (d : D) (S : Store) (Q : Option Int → Store → Prop) : Prop := match d with | .int i => Q (some i) S | _ => False
theorem y_w_part {w : WE} {Q : Option Int → Store → Prop} : wPart w ρ S Q = w ρ S (fun d S1 => oI d S1 Q) := (rfl)
theorem y_oI {i : Int} {Q : Option Int → Store → Prop} : oI (.int i) S Q = Q (some i) S := (rfl)
theorem x_sl_tup {ds : List D} {lo hi : Option Int} : rSl (.tup ds) lo hi S Q = Q (.tup (cutD ds lo hi)) S := (rfl)
theorem x_sl_lst {ds : List D} {lo hi : Option Int} : rSl (.lst ds) lo hi S Q = Q (.lst (cutD ds lo hi)) S := (rfl)
theorem x_sl_str {z : Str} {lo hi : Option Int} : rSl (.str z) lo hi S Q = (z.length ≤ sizeLine ∧ Q (.str (cutS z lo hi)) S) := (rfl)
theorem x_sl_ref {n : Nat} {lo hi : Option Int} : rSl (.ref n) lo hi S Q = sM S[n]? (fun ds => Q (.lst (cutD ds lo hi)) S) := by
  show (match S[n]? with | some (.lst ds) => _ | _ => False) = _
  rcases S[n]? with _ | (_ | _) <;> rfl
theorem x_slN_lst {ds : List D} {lo hi : Option Int} : rSlN (.lst ds) lo hi S Q = Q (.ref S.length) (S ++ [.lst (cutD ds lo hi)]) := (rfl)
theorem x_slN_ref {n : Nat} {lo hi : Option Int} : rSlN (.ref n) lo hi S Q = sM S[n]? (fun ds => Q (.ref S.length) (S ++ [.lst (cutD ds lo hi)])) := by
  show (match S[n]? with | some (.lst ds) => _ | _ => False) = _
  rcases S[n]? with _ | (_ | _) <;> rfl
def aK (o : Option (Option D)) (k : D → Prop) : Prop := match o with | some (some x) => k x | _ => False
theorem y_aK {x : D} {k : D → Prop} : aK (some (some x)) k = k x := (rfl)
theorem y_w_aug {R : RD} {i : Nat} {w : WE} : wAug R i w D0 ρ S = aK ρ[i]? (fun x => w ρ S (fun y S1 => R x y S1 (fun z S2 => D0.nx (ρ.set i (some z)) S2))) := by
  unfold wAug aK
  rcases ρ[i]? with _ | (_ | _) <;> rfl
theorem x_rAddI {i j : Int} : rAddI (.int i) (.int j) S Q = Q (.int (i + j)) S := (rfl)
def pK2 (ds : List D) (k : D → D → Prop) : Prop := match ds with | [x, y] => k x y | _ => False
theorem y_pK2 {x y : D} {k : D → D → Prop} : pK2 [x, y] k = k x y := (rfl)
theorem y_w_par {i j : Nat} {wr : WA} : wPar i j wr D0 ρ S = wr ρ S (fun ds S1 => pK2 ds (fun x y => D0.nx ((ρ.set i (some x)).set j (some y)) S1)) := by
  unfold wPar
  congr 1
theorem y_rgTo {mk : List D → Store → (D → Store → Prop) → Prop} {wr : WA} : wRgTo mk wr ρ S Q = wr ρ S (fun ds S1 => oM (rgArgsD ds) (fun z => ∃ n, RgC z.1 z.2.1 z.2.2 n ∧ n ≤ 2 ^ 24 ∧ mk (stepD z.1 z.2.2 n) S1 Q)) := by
  unfold wRgTo
  congr 1
  funext ds S1
  rcases rgArgsD ds with _ | ⟨i, j, c⟩ <;> rfl
theorem y_rgA1 {n : Int} : rgArgsD [.int n] = some (0, n, 1) := (rfl)
theorem y_rgA2 {i j : Int} : rgArgsD [.int i, .int j] = some (i, j, 1) := (rfl)
theorem y_rgA3 {i j c : Int} : rgArgsD [.int i, .int j, .int c] = some (i, j, c) := (rfl)
theorem y_mkTup {ds : List D} : mkTup ds S Q = Q (.tup ds) S := (rfl)
theorem y_mkLst {ds : List D} : mkLst ds S Q = Q (.lst ds) S := (rfl)
theorem y_mkNew {ds : List D} : mkNew ds S Q = Q (.ref S.length) (S ++ [.lst ds]) := (rfl)
def iM (o : Option (List D)) (k : List D → Prop) : Prop := match o with | some ds => k ds | none => False
theorem y_iM {ds : List D} {k : List D → Prop} : iM (some ds) k = k ds := (rfl)
theorem y_it_tup {ds : List D} : itemsD S (.tup ds) = some ds := (rfl)
theorem y_it_lst {ds : List D} : itemsD S (.lst ds) = some ds := (rfl)
theorem y_it_ref {n : Nat} {ds : List D} (h : S[n]? = some (.lst ds)) : itemsD S (.ref n) = some ds := by
  show (match S[n]? with | some (.lst ds) => some ds | _ => none) = _
  rw [h]
theorem x_in {neg : Bool} {x y : D} : rInN neg x y S Q = iM (itemsD S y) (fun ds => okD x ∧ okD (.lst ds) ∧ Q (.bl (if neg = true then !inD x ds else inD x ds)) S) := by
  unfold rInN
  rcases itemsD S y with _ | _ <;> rfl
theorem x_sorted {x : D} : rSorted [x] S Q = iM (itemsD S x) (fun ds => SortOkD ds ∧ Q (.lst (sortD ds)) S) := by
  show (match itemsD S x with | some ds => SortOkD ds ∧ Q (.lst (sortD ds)) S | none => False) = _
  rcases itemsD S x with _ | _ <;> rfl
theorem x_sortedN {x : D} : rSortedN [x] S Q = iM (itemsD S x) (fun ds => SortOkD ds ∧ Q (.ref S.length) (S ++ [.lst (sortD ds)])) := by
  show (match itemsD S x with | some ds => SortOkD ds ∧ Q (.ref S.length) (S ++ [Ob.lst (sortD ds)]) | none => False) = _
  rcases itemsD S x with _ | _ <;> rfl
theorem x_sset {x : D} : rSSet [x] S Q = iM (itemsD S x) (fun ds => ∃ ks, SetOkD ds ks ∧ ∀ es : List (List Int), es.Nodup → (∀ k, k ∈ es ↔ k ∈ ks) → Q (.lst (sortD (es.map tupI))) S) := by
  show (match itemsD S x with | some ds => ∃ ks, SetOkD ds ks ∧ ∀ es : List (List Int), es.Nodup → (∀ k, k ∈ es ↔ k ∈ ks) → Q (.lst (sortD (es.map tupI))) S | none => False) = _
  rcases itemsD S x with _ | _ <;> rfl
theorem y_chain {R R' : RD} {wa wb wc : WE} : wChain R R' wa wb wc ρ S Q = wa ρ S (fun x S1 => wb ρ S1 (fun y S2 => R x y S2 (fun z S3 => tB z S3 (fun k S3 => if k = true then wc ρ S3 (fun w S4 => R' y w S4 Q) else Q (.bl false) S3)))) := (rfl)
/-- while, by a measure and an invariant -/
theorem while_in {c : WT} {wb : WS} (I : Nat → DL.Env → Store → Prop) (n : Nat) (h0 : I n ρ S)
    (step : ∀ n ρ S, I n ρ S → c ρ S fun k S1 => if k = true then wb { D0 with nx := fun ρ' S' => ∃ n', n' < n ∧ I n' ρ' S', ct := fun ρ' S' => ∃ n', n' < n ∧ I n' ρ' S', bk := D0.nx } ρ S1 else D0.nx ρ S1) : wWhile c wb D0 ρ S :=
  ⟨I, ⟨n, h0⟩, step⟩
/-! order of pairs of ints -/
theorem ints_toks_lt : ∀ (a b : List Int), a.length = b.length → PyProof.Rows.lexLt itemOrd (PySem.W.keyToksAll (a.map PyData.int)) (PySem.W.keyToksAll (b.map PyData.int)) = HT.lexLt a b
  | [], [], _ => by rw [List.map_nil]; exact lex_irrefl _
  | x :: a, y :: b, h => by
    rw [List.map_cons, List.map_cons]
    have hal : PySem.W.alike (.int x) (.int y) = true := by simp [PySem.W.alike]
    by_cases e : x = y
    · subst e
      rw [PySem.W.dataLt_all_yes hal (by simp [PyData.eqv]), ints_toks_lt a b (by simpa using h), HT.lexLt_cons, if_pos rfl]
    · rw [PySem.W.dataLt_all_no hal (by simp [PyData.eqv, e]), PySem.W.dataLt_int, HT.lexLt_cons, if_neg e]
theorem ltD_tupI {a b : List Int} (h : a.length = b.length) : ltD (tupI a) (tupI b) = HT.lexLt a b := by
  unfold ltD
  rw [py_tupI, py_tupI, PySem.W.dataLt_tuple, ints_toks_lt a b h]
theorem dataLe_tupI {a b : List Int} (h : a.length = b.length) : PySem.W.dataLe false D.py (tupI a) (tupI b) = !HT.lexLt b a := by
  rw [← ltD_tupI h.symm]
  rfl
end DL

set_option maxHeartbeats 4000000
/-! DLG: readings that stop at a test, a call, a loop: walked by whnf -/
namespace DL
open PySem PySem.Spec PyProof.Rows L2
abbrev EX (S : Store) (Q0 : D → Store → Prop) : EndsD := { nx := fun _ S1 => Exit S.length .non S1 Q0, rt := fun d S1 => Exit S.length d S1 Q0 }
inductive cIf (k : Bool) (A B : Prop) : Prop where
  | t : k = true → A → cIf k A B
  | f : k = false → B → cIf k A B
theorem cIf_eq {k : Bool} {A B : Prop} : cIf k A B = (if k = true then A else B) := by
  refine propext ⟨fun h => ?_, fun h => ?_⟩
  · rcases h with ⟨rfl, a⟩ | ⟨rfl, b⟩
    · exact a
    · exact b
  · cases k with
    | true => exact .t rfl h
    | false => exact .f rfl h
theorem cIf_t {k : Bool} {A B : Prop} (h : k = true) (a : A) : cIf k A B := by rw [cIf_eq, if_pos h]; exact a
theorem cIf_f {k : Bool} {A B : Prop} (h : k = false) (b : B) : cIf k A B := by rw [cIf_eq, if_neg (by rw [h]; decide)]; exact b
theorem cIf_b {k : Bool} {A B : Prop} (h1 : k = true → A) (h2 : k = false → B) : cIf k A B := by
  cases k with
  | true => exact cIf_t rfl (h1 rfl)
  | false => exact cIf_f rfl (h2 rfl)
theorem cIf_d {p : Prop} [Decidable p] {A B : Prop} (h1 : p → A) (h2 : ¬ p → B) : cIf (decide p) A B := cIf_b (fun h => h1 (of_decide_eq_true h)) (fun h => h2 (of_decide_eq_false h))
theorem cIf_nd {p : Prop} [Decidable p] {A B : Prop} (h1 : ¬ p → A) (h2 : p → B) : cIf (!decide p) A B := cIf_b (fun h => h1 (by simpa using h)) (fun h => h2 (by simpa using h))
theorem cIf_n {k : Bool} {A B : Prop} (h : cIf k B A) : cIf (!k) A B := by
  cases k with
  | true => rw [cIf_eq] at h ⊢; simpa using h
  | false => rw [cIf_eq] at h ⊢; simpa using h
theorem cIf_pos {p : Prop} [Decidable p] {A B : Prop} (h : p) (a : A) : cIf (decide p) A B := cIf_t (decide_eq_true h) a
theorem cIf_neg {p : Prop} [Decidable p] {A B : Prop} (h : ¬ p) (b : B) : cIf (decide p) A B := cIf_f (decide_eq_false h) b
structure askC (Γ : Con) (ds : List D) (S : Store) (Q : D → Store → Prop) : Prop where
  go : Γ ds S Q
theorem ask_eq {Γ : Con} {ds : List D} {S : Store} {Q : D → Store → Prop} : askC Γ ds S Q = Γ ds S Q := propext ⟨fun h => h.go, fun h => ⟨h⟩⟩
/-- the tail of a body, by its name -/
structure Tail (w : WS) (D0 : EndsD) (ρ : Env) (S : Store) : Prop where
  go : w D0 ρ S
theorem tail_eq {w : WS} : Tail w = w := by
  funext D0 ρ S
  exact propext ⟨fun h => h.go, fun h => ⟨h⟩⟩
theorem ask_in {Γ : Con} {ds : List D} {S : Store} {Q : D → Store → Prop} (h : Γ ds S Q) : askC Γ ds S Q := by rw [ask_eq]; exact h
structure forG (g : Tg) (wb : WS) (G : Store → Prop) (D0 : EndsD) (xs : List D) (ρ : Env) (S : Store) : Prop where
  go : forR g wb G D0 xs ρ S
theorem forG_eq : @forG = @forR := by
  funext g wb G D0 xs ρ S
  exact propext ⟨fun h => h.go, fun h => ⟨h⟩⟩
structure compG (g : Tg) (wt : WT) (we : WE) (G : Store → Prop) (ρ0 : Env) (Q : D → Store → Prop) (xs acc : List D) (S : Store) : Prop where
  go : compR g wt we G ρ0 Q xs acc S
theorem compG_eq : @compG = @compR := by
  funext g wt we G ρ0 Q xs acc S
  exact propext ⟨fun h => h.go, fun h => ⟨h⟩⟩
def gAnd (t u : WT) : WT := fun ρ S Q => t ρ S fun k S1 => cIf k (u ρ S1 Q) (Q false S1)
def gOr (t u : WT) : WT := fun ρ S Q => t ρ S fun k S1 => cIf k (Q true S1) (u ρ S1 Q)
def gIfE (t : WT) (wa wb : WE) : WE := fun ρ S Q => t ρ S fun k S1 => cIf k (wa ρ S1 Q) (wb ρ S1 Q)
def gAndV (wa wb : WE) : WE := wBl wa fun k ρ S Q => cIf k (wb ρ S Q) (Q (.bl false) S)
def gOrV (wa wb : WE) : WE := wBl wa fun k ρ S Q => cIf k (Q (.bl true) S) (wb ρ S Q)
def gIf (c : WT) (t u : WS) : WS := fun D ρ S => c ρ S fun k S1 => cIf k (t D ρ S1) (u D ρ S1)
def gWhile (c : WT) (wb : WS) : WS := fun D ρ S => ∃ W : Nat → Env → Store → Prop, (∃ n, W n ρ S) ∧ ∀ n ρ S, W n ρ S →
  c ρ S fun k S1 => cIf k (wb { D with nx := fun ρ' S' => ∃ n', n' < n ∧ W n' ρ' S', ct := fun ρ' S' => ∃ n', n' < n ∧ W n' ρ' S', bk := D.nx } ρ S1) (D.nx ρ S1)
def gFor (wi : WI) (g : Tg) (wb : WS) : WS := fun D ρ S => wi ρ S fun xs G S1 => forG g wb G D xs ρ S1
def gComp (wi : WI) (g : Tg) (wt : WT) (we : WE) (vs : List Nat) : WE := fun ρ S Q => wi ρ S fun xs G S1 => compG g wt we G (wipeD ρ vs) Q xs [] S1
def gCompN (wi : WI) (g : Tg) (wt : WT) (we : WE) (vs : List Nat) : WE := fun ρ S Q => gComp wi g wt we vs ρ S fun d S1 => match d with | .lst ds => ds.length ≤ sizeLine ∧ Q (.ref S1.length) (S1 ++ [.lst ds]) | _ => False
def gChain (R R' : RD) (wa wb wc : WE) : WE := fun ρ S Q => wa ρ S fun x S1 => wb ρ S1 fun y S2 => R x y S2 fun z S3 => match z with | .bl k => cIf k (wc ρ S3 fun w S4 => R' y w S4 Q) (Q (.bl false) S3) | _ => False
def gFn (Γ : Con) (n : Nat) (wr : WA) : WE := fun ρ S Q => wr ρ S fun ds S1 => ds.length = n ∧ askC Γ ds S1 Q
inductive Ty where
  | int | bool | str | tuple | list
def Ty.name : Ty → String
  | .int => "int" | .bool => "bool" | .str => "str" | .tuple => "tuple" | .list => "list"
def isTy : D → Store → Ty → Option Bool
  | .non, _, _ => some false
  | .bl _, _, .bool => some true
  | .bl _, _, .int => some true
  | .bl _, _, _ => some false
  | .int _, _, .int => some true
  | .int _, _, _ => some false
  | .str _, _, .str => some true
  | .str _, _, _ => some false
  | .tup _, _, .tuple => some true
  | .tup _, _, _ => some false
  | .lst _, _, .list => some true
  | .lst _, _, _ => some false
  | .ref n, S, t => match S[n]? with | some (.lst _) => (match t with | .list => some true | _ => some false) | _ => none
theorem isTy_eq (d : D) (S : Store) (t : Ty) : isTy d S t = isT d S t.name := by
  cases d with
  | ref n =>
    cases t <;> (unfold isTy isT tyName Ty.name; simp; rcases S[n]? with _ | (_ | _) <;> simp)
  | _ => cases t <;> first | rfl | decide
def gIsT (w : WE) (t : Ty) : WE := fun ρ S Q => w ρ S fun d S1 => match isTy d S1 t with | some b => Q (.bl b) S1 | none => False
theorem gIsT_eq {w : WE} (t : Ty) : gIsT w t = wIsT w t.name := by
  funext ρ S Q
  unfold gIsT wIsT
  congr 1
  funext d S1
  rw [isTy_eq] <;> rfl
theorem gAnd_eq {t u : WT} : gAnd t u = wAnd t u := by funext ρ S Q; simp only [gAnd, wAnd, cIf_eq]
theorem gOr_eq {t u : WT} : gOr t u = wOr t u := by funext ρ S Q; simp only [gOr, wOr, cIf_eq]
theorem gIfE_eq {t : WT} {a b : WE} : gIfE t a b = wIfE t a b := by funext ρ S Q; simp only [gIfE, wIfE, cIf_eq]
theorem gAndV_eq {a b : WE} : gAndV a b = wAndV a b := by funext ρ S Q; simp only [gAndV, wAndV, cIf_eq]
theorem gOrV_eq {a b : WE} : gOrV a b = wOrV a b := by funext ρ S Q; simp only [gOrV, wOrV, cIf_eq]
theorem gIf_eq {t : WT} {a b : WS} : gIf t a b = wIf t a b := by funext D ρ S; simp only [gIf, wIf, cIf_eq]
theorem gWhile_eq {t : WT} {b : WS} : gWhile t b = wWhile t b := by funext D ρ S; simp only [gWhile, wWhile, cIf_eq]
theorem gFor_eq {wi : WI} {g : Tg} {wb : WS} : gFor wi g wb = wFor wi g wb := by funext D ρ S; simp only [gFor, wFor, forG_eq]
theorem gComp_eq {wi : WI} {g : Tg} {wt : WT} {we : WE} {vs : List Nat} : gComp wi g wt we vs = wComp wi g wt we vs := by funext D ρ S; simp only [gComp, wComp, compG_eq]
theorem gCompN_eq {wi : WI} {g : Tg} {wt : WT} {we : WE} {vs : List Nat} : gCompN wi g wt we vs = wCompN wi g wt we vs := by
  funext ρ S Q
  unfold gCompN wCompN
  rw [gComp_eq] <;> rfl
theorem gChain_eq {R R' : RD} {a b c : WE} : gChain R R' a b c = wChain R R' a b c := by
  funext ρ S Q
  unfold gChain wChain
  congr 1
  funext x S1
  congr 1
  funext y S2
  congr 1
  funext z S3
  cases z <;> simp only [cIf_eq]
theorem gFn_eq {Γ : Con} {n : Nat} {wr : WA} : gFn Γ n wr = wFn Γ n wr := by funext ρ S Q; simp only [gFn, wFn, ask_eq]
section
variable {X : Cx} {e : Expr} {st : Stmt} {sts : List Stmt}
theorem se_eqv {w w' : WE} (h : w' = w) (p : SE X e w) : SE X e w' := by rw [h]; exact p
theorem st_eqv {w w' : WT} (h : w' = w) (p : ST X e w) : ST X e w' := by rw [h]; exact p
theorem sw_eqv {w w' : WT} (h : w' = w) (p : SW X e w) : SW X e w' := by rw [h]; exact p
theorem ss_eqv {w w' : WS} (h : w' = w) (p : SS X st w) : SS X st w' := by rw [h]; exact p
theorem sss_eqv {w w' : WS} (h : w' = w) (p : SSs X sts w) : SSs X sts w' := by rw [h]; exact p
end
/-! rules -/
theorem forG_nil {g : Tg} {wb : WS} {G : Store → Prop} {D0 : EndsD} {ρ : Env} {S : Store} (h : G S) (q : D0.nx ρ S) : forG g wb G D0 [] ρ S := by rw [forG_eq]; exact ⟨h, q⟩
theorem forG_cons {g : Tg} {wb : WS} {G : Store → Prop} {D0 : EndsD} {x : D} {r : List D} {ρ ρ' : Env} {S : Store} (h : G S) (hb : bindT g x ρ = some ρ')
    (q : wb { D0 with nx := fun ρ S => forG g wb G D0 r ρ S, ct := fun ρ S => forG g wb G D0 r ρ S, bk := D0.nx } ρ' S) : forG g wb G D0 (x :: r) ρ S := by
  rw [forG_eq] at q ⊢
  refine ⟨h, ?_⟩
  rw [hb]
  exact q
/-- a loop by its invariant: the turn's number, the frame, the store -/
theorem forG_rule {g : Tg} {wb : WS} {G : Store → Prop} {D0 : EndsD} {xs : List D} {ρ : Env} {S : Store} (I : Nat → Env → Store → Prop) (h : I 0 ρ S)
    (h1 : ∀ (i : Nat) (x : D) (ρ : Env) (S : Store) (k : Env → Store → Prop), xs[i]? = some x → I i ρ S → (∀ ρ S, I (i + 1) ρ S → k ρ S) → G S ∧ ∃ ρ', bindT g x ρ = some ρ' ∧ wb { D0 with nx := k, ct := k, bk := D0.nx } ρ' S)
    (h0 : ∀ ρ S, I xs.length ρ S → G S ∧ D0.nx ρ S) : forG g wb G D0 xs ρ S := by
  have key : ∀ (n i : Nat) (ρ : Env) (S : Store), i + n = xs.length → I i ρ S → forG g wb G D0 (xs.drop i) ρ S := by
    intro n
    induction n with
    | zero =>
      intro i ρ S e hi
      rw [List.drop_of_length_le (by omega)]
      have e' : i = xs.length := by omega
      subst e'
      exact forG_nil (h0 ρ S hi).1 (h0 ρ S hi).2
    | succ n ih =>
      intro i ρ S e hi
      have hl : i < xs.length := by omega
      rw [List.drop_eq_getElem_cons hl]
      obtain ⟨hG, ρ', hb, q⟩ := h1 i xs[i] ρ S (fun ρ S => forG g wb G D0 (xs.drop (i + 1)) ρ S) (List.getElem?_eq_getElem hl) hi (fun ρ S hi => ih (i + 1) ρ S (by omega) hi)
      exact forG_cons hG hb q
  have := key xs.length 0 ρ S (by omega) h
  rwa [List.drop_zero] at this
/-- .. over typed items -/
theorem forG_list {α : Type} {enc : α → D} {ys : List α} {g : Tg} {wb : WS} {G : Store → Prop} {D0 : EndsD} {ρ : Env} {S : Store} (I : Nat → Env → Store → Prop) (h : I 0 ρ S)
    (h1 : ∀ (i : Nat) (y : α) (ρ : Env) (S : Store) (k : Env → Store → Prop), ys[i]? = some y → I i ρ S → (∀ ρ S, I (i + 1) ρ S → k ρ S) → G S ∧ ∃ ρ', bindT g (enc y) ρ = some ρ' ∧ wb { D0 with nx := k, ct := k, bk := D0.nx } ρ' S)
    (h0 : ∀ ρ S, I ys.length ρ S → G S ∧ D0.nx ρ S) : forG g wb G D0 (ys.map enc) ρ S := by
  refine forG_rule I h (fun i x ρ S k hx hi hk => ?_) (fun ρ S hi => h0 ρ S (by simpa using hi))
  rw [List.getElem?_map] at hx
  cases hy : ys[i]? with
  | none => rw [hy] at hx; cases hx
  | some y =>
    rw [hy] at hx
    cases hx
    exact h1 i y ρ S k hy hi hk
/-- .. over range(lo, lo + n) -/
theorem forG_range {lo : Int} {n : Nat} {g : Tg} {wb : WS} {G : Store → Prop} {D0 : EndsD} {ρ : Env} {S : Store} (I : Nat → Env → Store → Prop) (h : I 0 ρ S)
    (h1 : ∀ (i : Nat) (ρ : Env) (S : Store) (k : Env → Store → Prop), i < n → I i ρ S → (∀ ρ S, I (i + 1) ρ S → k ρ S) → G S ∧ ∃ ρ', bindT g (.int (lo + (i : Int))) ρ = some ρ' ∧ wb { D0 with nx := k, ct := k, bk := D0.nx } ρ' S)
    (h0 : ∀ ρ S, I n ρ S → G S ∧ D0.nx ρ S) : forG g wb G D0 (intsD lo n) ρ S := by
  unfold intsD
  refine forG_list I h (fun i y ρ S k hy hi hk => ?_) (fun ρ S hi => h0 ρ S (by simpa using hi))
  obtain ⟨hl, e⟩ := List.getElem?_eq_some_iff.mp hy
  rw [List.length_range] at hl
  rw [List.getElem_range] at e
  subst e
  exact h1 i ρ S k hl hi hk
theorem gWhile_rule {c : WT} {wb : WS} {D0 : EndsD} {ρ : Env} {S : Store} (I : Nat → Env → Store → Prop) (n : Nat) (h : I n ρ S)
    (h1 : ∀ (n : Nat) (ρ : Env) (S : Store) (k : Env → Store → Prop), I n ρ S → (∀ m ρ S, m < n → I m ρ S → k ρ S) → c ρ S fun b S1 => cIf b (wb { D0 with nx := k, ct := k, bk := D0.nx } ρ S1) (D0.nx ρ S1)) : gWhile c wb D0 ρ S :=
  ⟨I, ⟨n, h⟩, fun n ρ S hi => h1 n ρ S (fun ρ' S' => ∃ n', n' < n ∧ I n' ρ' S') hi fun m ρ S hm hi => ⟨m, hm, hi⟩⟩
theorem compG_nil {g : Tg} {wt : WT} {we : WE} {G : Store → Prop} {ρ0 : Env} {Q : D → Store → Prop} {acc : List D} {S : Store} (h : G S) (q : Q (.lst acc) S) : compG g wt we G ρ0 Q [] acc S := by rw [compG_eq]; exact ⟨h, q⟩
theorem compG_cons {g : Tg} {wt : WT} {we : WE} {G : Store → Prop} {ρ0 ρ2 : Env} {Q : D → Store → Prop} {x : D} {r acc : List D} {S : Store} (h : G S) (hb : bindT g x ρ0 = some ρ2)
    (q : wt ρ2 S fun b S1 => cIf b (we ρ2 S1 fun d S2 => acc.length < sizeLine ∧ compG g wt we G ρ0 Q r (acc ++ [d]) S2) (compG g wt we G ρ0 Q r acc S1)) : compG g wt we G ρ0 Q (x :: r) acc S := by
  rw [compG_eq] at q ⊢
  refine ⟨h, ?_⟩
  rw [hb]
  simp only [cIf_eq] at q
  exact q
theorem compG_rule {g : Tg} {wt : WT} {we : WE} {G : Store → Prop} {ρ0 : Env} {Q : D → Store → Prop} {xs acc : List D} {S : Store} (I : Nat → List D → Store → Prop) (h : I 0 acc S)
    (h1 : ∀ (i : Nat) (x : D) (acc : List D) (S : Store) (k : List D → Store → Prop), xs[i]? = some x → I i acc S → (∀ acc S, I (i + 1) acc S → k acc S) → G S ∧ ∃ ρ2, bindT g x ρ0 = some ρ2 ∧
      wt ρ2 S fun b S1 => cIf b (we ρ2 S1 fun d S2 => acc.length < sizeLine ∧ k (acc ++ [d]) S2) (k acc S1))
    (h0 : ∀ acc S, I xs.length acc S → G S ∧ Q (.lst acc) S) : compG g wt we G ρ0 Q xs acc S := by
  have key : ∀ (n i : Nat) (acc : List D) (S : Store), i + n = xs.length → I i acc S → compG g wt we G ρ0 Q (xs.drop i) acc S := by
    intro n
    induction n with
    | zero =>
      intro i acc S e hi
      rw [List.drop_of_length_le (by omega)]
      have e' : i = xs.length := by omega
      subst e'
      exact compG_nil (h0 acc S hi).1 (h0 acc S hi).2
    | succ n ih =>
      intro i acc S e hi
      have hl : i < xs.length := by omega
      rw [List.drop_eq_getElem_cons hl]
      obtain ⟨hG, ρ', hb, q⟩ := h1 i xs[i] acc S (fun acc S => compG g wt we G ρ0 Q (xs.drop (i + 1)) acc S) (List.getElem?_eq_getElem hl) hi (fun acc S hi => ih (i + 1) acc S (by omega) hi)
      exact compG_cons hG hb q
  have := key xs.length 0 acc S (by omega) h
  rwa [List.drop_zero] at this
/-- a comprehension that stores nothing: a map -/
theorem compG_map {α : Type} {enc : α → D} {f : α → D} {ys : List α} {g : Tg} {we : WE} {G : Store → Prop} {ρ0 : Env} {Q : D → Store → Prop} {S : Store} (hG : G S) (hl : ys.length ≤ 16000000)
    (h : ∀ y, y ∈ ys → ∃ ρ2, bindT g (enc y) ρ0 = some ρ2 ∧ ∀ Q : D → Store → Prop, Q (f y) S → we ρ2 S Q) (q : Q (.lst (ys.map f)) S) : compG g wYes we G ρ0 Q (ys.map enc) [] S := by
  refine compG_rule (fun i acc S' => S' = S ∧ acc = (ys.take i).map f) ⟨rfl, by simp⟩ (fun i x acc S' k hx hi hk => ?_) (fun acc S' hi => ?_)
  · obtain ⟨rfl, rfl⟩ := hi
    rw [List.getElem?_map] at hx
    cases hy : ys[i]? with
    | none => rw [hy] at hx; cases hx
    | some y =>
      rw [hy] at hx
      cases hx
      obtain ⟨ρ2, hb, hw⟩ := h y (List.mem_of_getElem? hy)
      refine ⟨hG, ρ2, hb, ?_⟩
      show cIf true _ _
      refine cIf_t rfl (hw _ ⟨?_, hk _ _ ⟨rfl, ?_⟩⟩)
      · rw [sizeLine_eq]
        simp
        omega
      · rw [List.take_succ, hy]
        simp
  · obtain ⟨rfl, rfl⟩ := hi
    refine ⟨hG, ?_⟩
    rw [List.length_map, List.take_length]
    exact q
/-- .. with a test -/
theorem compG_filter {α : Type} {enc : α → D} {f : α → D} {t : α → Bool} {ys : List α} {g : Tg} {wt : WT} {we : WE} {G : Store → Prop} {ρ0 : Env} {Q : D → Store → Prop} {S : Store} (hG : G S) (hl : ys.length ≤ 16000000)
    (h : ∀ y, y ∈ ys → ∃ ρ2, bindT g (enc y) ρ0 = some ρ2 ∧ (∀ Q : Bool → Store → Prop, Q (t y) S → wt ρ2 S Q) ∧ (t y = true → ∀ Q : D → Store → Prop, Q (f y) S → we ρ2 S Q)) (q : Q (.lst ((ys.filter t).map f)) S) : compG g wt we G ρ0 Q (ys.map enc) [] S := by
  refine compG_rule (fun i acc S' => S' = S ∧ acc = ((ys.take i).filter t).map f) ⟨rfl, by simp⟩ (fun i x acc S' k hx hi hk => ?_) (fun acc S' hi => ?_)
  · obtain ⟨rfl, rfl⟩ := hi
    rw [List.getElem?_map] at hx
    cases hy : ys[i]? with
    | none => rw [hy] at hx; cases hx
    | some y =>
      rw [hy] at hx
      cases hx
      obtain ⟨ρ2, hb, ht, hw⟩ := h y (List.mem_of_getElem? hy)
      refine ⟨hG, ρ2, hb, ?_⟩
      refine ht _ (cIf_b (fun e => hw e _ ⟨?_, hk _ _ ⟨rfl, ?_⟩⟩) (fun e => hk _ _ ⟨rfl, ?_⟩))
      · have := List.length_filter_le t (ys.take i)
        rw [sizeLine_eq]
        simp at this ⊢
        omega
      · rw [List.take_succ, hy]
        simp [List.filter_append, e]
      · rw [List.take_succ, hy]
        simp [List.filter_append, e]
  · obtain ⟨rfl, rfl⟩ := hi
    refine ⟨hG, ?_⟩
    rw [List.length_map, List.take_length]
    exact q
/-- .. over range(n) -/
theorem forG_range0 {n : Nat} {g : Tg} {wb : WS} {G : Store → Prop} {D0 : EndsD} {ρ : Env} {S : Store} (I : Nat → Env → Store → Prop) (h : I 0 ρ S)
    (h1 : ∀ (i : Nat) (ρ : Env) (S : Store) (k : Env → Store → Prop), i < n → I i ρ S → (∀ ρ S, I (i + 1) ρ S → k ρ S) → G S ∧ ∃ ρ', bindT g (.int (i : Int)) ρ = some ρ' ∧ wb { D0 with nx := k, ct := k, bk := D0.nx } ρ' S)
    (h0 : ∀ ρ S, I n ρ S → G S ∧ D0.nx ρ S) : forG g wb G D0 (intsD 0 n) ρ S := forG_range I h (fun i ρ S k hi hI hk => by
  rw [Int.zero_add]
  exact h1 i ρ S k hi hI hk) h0
theorem cutD_map {α β : Type} {f : α → β} {xs : List α} {lo hi : Option Int} : cutD (xs.map f) lo hi = (cutD xs lo hi).map f := by
  unfold cutD
  rw [List.length_map, List.map_take, List.map_drop]
theorem cutD_mem {α : Type} {xs : List α} {lo hi : Option Int} {x : α} (h : x ∈ cutD xs lo hi) : x ∈ xs := List.mem_of_mem_drop (List.mem_of_mem_take h)
theorem cutD_len {α : Type} {xs : List α} {lo hi : Option Int} : (cutD xs lo hi).length ≤ xs.length := by
  unfold cutD
  simp
  omega
theorem nat_of {i : Int} (h : 0 ≤ i) : ∃ n : Nat, i = (n : Int) := ⟨i.toNat, by omega⟩
theorem at_some {ds : List D} {n : Nat} (h : n < ds.length) : atD ds (n : Int) = some ds[n] := by rw [atD_cast]; exact List.getElem?_eq_getElem h
theorem tru_t {Q : Bool → Store → Prop} {b : Bool} {S : Store} (q : Q b S) : rTru (.bl b) S Q := q
end DL

set_option maxHeartbeats 4000000
/-! DLH: sorted(set(ints)), s[i], s * n, xs + ys -/
namespace DL
open PySem PySem.Spec PyProof.Rows L2
section
variable {P : Program} {w : World} {A : Around} {E : Value → Shared → Prop} {s : Shared}
theorem set_update_ints {I : Addr} {fp wr : List Addr} {G : Array GenState → Array GenState → Prop} {n : Nat} {Pv : Nat → Value → Prop} {St : Nat → Shared → Prop} {R : Result → Shared → Prop}
    (W : WalksS P w A.in1 I fp wr G n Pv St) (S : Addr) (hSf : S ∉ fp) (ns : List Int) (hn : n = ns.length) (hfew : ns.length < 64) (hval : ∀ i v, Pv i v → ∃ k t, ns[i]? = some k ∧ v = .int k t)
    (h0 : Heap) (hS0 : h0.get? S = none) (hw0 : ∀ b ∈ wr, h0.get? b = none) :
    ∀ (k i : Nat) (s : Shared), n - i = k → i ≤ n → St i s → (∀ b o, h0.get? b = some o → s.heap.get? b = some o) → (∃ m, m ≤ i ∧ SetR w s.heap S (fun j => decide (j ∈ ns.take i)) m) →
      (∀ s' m, Moved (S :: wr) G s s' → m ≤ n → SetR w s'.heap S (fun j => decide (j ∈ ns)) m → (∀ b o, h0.get? b = some o → s'.heap.get? b = some o) → R (.ok (.ret .none)) s') →
      codeAny (model P w) A (.builtin "set.update.loop" ⟨[.ref S, .ref I], []⟩) R s := by
  have hSw : S ∉ wr := fun h => hSf (W.sub _ h)
  have hsub : ∀ b ∈ wr, b ∈ S :: wr := fun b hb => List.mem_cons_of_mem _ hb
  have keepM : ∀ {s s' : Shared}, Moved wr G s s' → (∀ b o, h0.get? b = some o → s.heap.get? b = some o) → ∀ b o, h0.get? b = some o → s'.heap.get? b = some o := fun hm hkp b o e =>
    hm.heap b o (fun hb => by rw [hw0 b hb] at e; cases e) (hkp b o e)
  intro k
  induction k with
  | zero =>
    intro i s hk' hi hst hkp ⟨m, hm0, hS⟩ hR
    have hin : i = n := by omega
    subst hin
    refine codeAny_builtin F.entry_set_update_loop ?_
    rw [Around.under_plainId F.plain_set_update_loop _]
    show wpAny _ A.in1 (pyNext (.ref I) >>= _) _ _ s
    refine wpAny_bind (W.done s _ _ hst fun s' hm => ?_)
    show wpAny _ A.in1 (ret Value.none) _ _ s'
    have hkp' := keepM hm hkp
    have e : ns.take i = ns := by rw [hn, List.take_length]
    rw [e] at hS
    exact wpAny_pure (hR s' m (hm.mono hsub) hm0 (hS.at fun o e => hm.heap S o hSw e) hkp')
  | succ k ih =>
    intro i s hk' hi hst hkp ⟨m, hm0, hS⟩ hR
    have hlt : i < n := by omega
    refine codeAny_builtin F.entry_set_update_loop ?_
    rw [Around.under_plainId F.plain_set_update_loop _]
    show wpAny _ A.in1 (pyNext (.ref I) >>= _) _ _ s
    refine wpAny_bind (W.item i s _ _ hlt hst fun v s' hP hst' hm => ?_)
    obtain ⟨x, tk, hp, rfl⟩ := hval i v hP
    have hkp' := keepM hm hkp
    have hS' : SetR w s'.heap S (fun j => decide (j ∈ ns.take i)) m := hS.at fun o e => hm.heap S o hSw e
    show wpAny _ A.in1 (holding [Value.int x tk] (setAdd S (.int x tk)) >>= _) _ _ s'
    refine wpAny_bind (wpAny_holding ?_)
    unfold setAdd
    refine wpAny_holding ?_
    refine wpAny_bind ((intKind P w).pyHash (intKind_is P w x tk) ?_)
    refine setR_add_hashed (P := P) (s := { s' with toks := s'.toks + 1 }) hS' (by unfold scanBound; omega) fun h' hsb hS2 => ?_
    have g' : SetR w h' S (fun j => decide (j ∈ ns.take (i + 1))) (if decide (x ∈ ns.take i) = true then m else m + 1) := by
      refine hS2.congr fun j => ?_
      rw [List.take_succ, hp]
      simp
    have hkp2 : ∀ b o, h0.get? b = some o → h'.get? b = some o := fun b o e => (hsb.2 b (fun z => by rw [z, hS0] at e; cases e)).trans (hkp' b o e)
    refine wpAny_pure ⟨plainId_quiet F.plain_set_update_loop _, ih (i + 1) _ (by omega) hlt (W.frame _ s' _ _ hst' (Nat.le_add_right _ _) fun b hb o e => ?_) hkp2 ⟨_, by split <;> omega, g'⟩ fun s'' m2 hm'' hm3 hS'' hkp'' => ?_⟩
    · rw [hsb.2 b (fun h : b = S => hSf (by rw [← h]; exact hb))]; exact e
    · refine hR s'' m2 (Moved.trans W.gtrans ((hm.mono hsub).then_heap (Nat.le_add_right _ _) fun b o hb e => ?_) hm'') hm3 hS'' hkp''
      rw [hsb.2 b (fun h : b = S => hb (by rw [h]; exact List.mem_cons_self))]; exact e
/-- set(x), x a list or a tuple of ints -/
theorem set_ints {l : Addr} {items : Array Value} {ns : List Int} {Q : Value → Shared → Prop} (hh : A.handled = none) (hl : s.heap.IsList l items ∨ s.heap.IsTuple l items) (hit : IntsAre items.toList ns) (hfew : ns.length < 64)
    (h : ∀ (h' : Heap) (tk : Nat) m, m ≤ ns.length → SetR w h' s.heap.objs.size (fun j => decide (j ∈ ns)) m → (∀ b o, s.heap.get? b = some o → h'.get? b = some o) → Q (.ref s.heap.objs.size) { s with heap := h', toks := tk }) :
    wpAny (model P w) A (call (.type "set") [.ref l]) Q E s := by
  have hsize : items.size = ns.length := by rw [← Array.length_toList, hit.length]
  have fresh : (s.heap.push (newSet w)).get? s.heap.objs.size = some (newSet w) := Heap.get?_push_size _ rfl
  refine type_set1 (fun {Z} z => code_set_led1 (.ref l) (Q₁ := Z) z) ⟨_, fresh, rfl⟩ fun Z hz => ?_
  have old : ∀ b o, s.heap.get? b = some o → (s.heap.push (newSet w)).get? b = some o := fun b o e => Heap.get?_push_of_some _ e
  have nsz : (s.heap.push (newSet w)).objs.size = s.heap.objs.size + 1 := Heap.size_push ..
  have none_of : ∀ b, s.heap.objs.size ≤ b → s.heap.get? b = none := fun b hb => by
    cases q : s.heap.get? b with
    | none => rfl
    | some o => exact absurd (Heap.lt_size q) (Nat.not_lt.mpr hb)
  have vals : ∀ (i : Nat) (v : Value), items[i]? = some v → ∃ k t, ns[i]? = some k ∧ v = .int k t := fun i v hv => by
    have q : items.toList[i]? = some v := by rw [Array.getElem?_toList]; exact hv
    have hl : i < ns.length := by
      have := (List.getElem?_eq_some_iff.mp q).1
      rw [hit.length] at this
      exact this
    obtain ⟨t, ht⟩ := hit.get i ns[i] (List.getElem?_eq_getElem hl)
    rw [q] at ht
    exact ⟨ns[i], t, List.getElem?_eq_getElem hl, Option.some.inj ht⟩
  rcases hl with hl | hl
  · obtain ⟨⟨ocls, odict, odata, oslots⟩, hol, hcl, nl, hdl⟩ := hl
    simp only at hcl hdl
    subst hcl hdl
    have llt : l < s.heap.objs.size := Heap.lt_size hol
    have hol2 := old l _ hol
    have tup2 : (s.heap.push (newSet w)).IsList l items := ⟨_, hol2, rfl, nl, rfl⟩
    have sub1 := F.sub_list_set
    have sub2 := F.sub_list_frozenset
    have ndict : (Value.type "list" == Value.type "dict") = false := by decide
    unfold Builtin.«set.__init__» noKeywords Builtin.Frozenset.updateFrom
    generalize hPI : pyIter = PI
    wp_walk
    subst hPI
    refine wpAny_pyIter_list tup2 (wpAny_bind (wpAny_runValue ?_))
    have lne : l ≠ (s.heap.push (newSet w)).objs.size := by rw [nsz]; exact Nat.ne_of_lt (Nat.lt_succ_of_lt llt)
    refine set_update_ints ((Walks.list (by simp [hh]) (s.heap.push (newSet w)).objs.size l lne items).toS) s.heap.objs.size (fun z => ?_) ns hsize hfew (fun i v hv => vals i v hv) s.heap (none_of _ (Nat.le_refl _)) (fun b hb => none_of b ?_) (items.size - 0) 0 _ (by omega) (Nat.zero_le _) ⟨⟨_, Heap.get?_push_size _ rfl, rfl, rfl⟩, tup2.push _⟩ (fun b o e => Heap.get?_push_of_some _ (old b o e)) ⟨0, Nat.le_refl _, ?_⟩ fun s' m hm hm0 hS' hkp => ?_
    · rcases List.mem_cons.mp z with z | z
      · rw [nsz] at z; exact absurd z (Nat.ne_of_lt (Nat.lt_succ_self _))
      · exact absurd (List.mem_singleton.mp z) (Nat.ne_of_gt llt)
    · rw [List.mem_singleton.mp hb, nsz]; exact Nat.le_succ _
    · exact ((setR_fresh w).at fun o e => Heap.get?_push_of_some _ e).congr fun k => by simp
    · obtain ⟨h', g2, d', tk', os'⟩ := s'
      have eg : g2 = s.gens := hm.gens
      have ed : d' = s.drawn := hm.drawn
      have eo : os' = s.os := hm.os
      subst eg ed eo
      exact wpAny_pure (show wpAny _ _ (ret Value.none) _ _ _ from wpAny_pure (hz _ (h _ _ m (by omega) hS' hkp)))
  · obtain ⟨⟨ocls, odict, odata, oslots⟩, hol, hcl, nl, hdl⟩ := hl
    simp only at hcl hdl
    subst hcl hdl
    have llt : l < s.heap.objs.size := Heap.lt_size hol
    have hol2 := old l _ hol
    have tup2 : (s.heap.push (newSet w)).IsTuple l items := ⟨_, hol2, rfl, nl, rfl⟩
    have sub1 := F.sub_tuple_set
    have sub2 := F.sub_tuple_frozenset
    have ndict : (Value.type "tuple" == Value.type "dict") = false := by decide
    unfold Builtin.«set.__init__» noKeywords Builtin.Frozenset.updateFrom
    generalize hPI : pyIter = PI
    wp_walk
    subst hPI
    refine wpAny_pyIter_tuple tup2 (wpAny_bind (wpAny_runValue ?_))
    have lne : l ≠ (s.heap.push (newSet w)).objs.size := by rw [nsz]; exact Nat.ne_of_lt (Nat.lt_succ_of_lt llt)
    refine set_update_ints ((Walks.tuple (by simp [hh]) (s.heap.push (newSet w)).objs.size l lne items).toS) s.heap.objs.size (fun z => ?_) ns hsize hfew (fun i v hv => vals i v hv) s.heap (none_of _ (Nat.le_refl _)) (fun b hb => none_of b ?_) (items.size - 0) 0 _ (by omega) (Nat.zero_le _) ⟨⟨_, Heap.get?_push_size _ rfl, rfl, rfl⟩, tup2.push _⟩ (fun b o e => Heap.get?_push_of_some _ (old b o e)) ⟨0, Nat.le_refl _, ?_⟩ fun s' m hm hm0 hS' hkp => ?_
    · rcases List.mem_cons.mp z with z | z
      · rw [nsz] at z; exact absurd z (Nat.ne_of_lt (Nat.lt_succ_self _))
      · exact absurd (List.mem_singleton.mp z) (Nat.ne_of_gt llt)
    · rw [List.mem_singleton.mp hb, nsz]; exact Nat.le_succ _
    · exact ((setR_fresh w).at fun o e => Heap.get?_push_of_some _ e).congr fun k => by simp
    · obtain ⟨h', g2, d', tk', os'⟩ := s'
      have eg : g2 = s.gens := hm.gens
      have ed : d' = s.drawn := hm.drawn
      have eo : os' = s.os := hm.os
      subst eg ed eo
      exact wpAny_pure (show wpAny _ _ (ret Value.none) _ _ _ from wpAny_pure (hz _ (h _ _ m (by omega) hS' hkp)))
end

def rSetI (K : PySem.W.Frag) (w : World) : List V → Hp → VK → Prop := fun xs H Q => ∃ (l : Addr) (ns : List Int), xs = [V.ref l] ∧ (SqL K H l (ns.map V.int) ∨ SqT K H l (ns.map V.int)) ∧ ns.length < 64 ∧
  ∀ a m, m ≤ ns.length → H a = none → Q (.ref a) (upd H a (SetO w a (fun j => decide (j ∈ ns)) m))
section
variable {X : Cx}
theorem cr_setI (hc : X.calm = true) : CallR X (.type "set") (rSetI X.K X.w) := by
  intro pins s σ H xs us Q I r h
  obtain ⟨l, ns, rfl, hl, hf, q⟩ := h
  rw [Vals.ref1 r]
  rcases hl with hl | hl
  · obtain ⟨its, rv, pl, _⟩ := I.list hl
    refine set_ints (P := X.prog) (w := X.w) (ns := ns) (I.ok.hd hc) (.inl pl.isList) (ints_of_vals rv) hf fun h' tk m hm R k => ?_
    exact ⟨.ref _, _, I.laid (t' := tk) k (Nat.le_refl _) (setO_new R), rfl, q _ m hm (I.hok.fresh (Nat.le_refl _))⟩
  · obtain ⟨its, rv, pl, _⟩ := I.tuple hl
    refine set_ints (P := X.prog) (w := X.w) (ns := ns) (I.ok.hd hc) (.inr pl) (ints_of_vals rv) hf fun h' tk m hm R k => ?_
    exact ⟨.ref _, _, I.laid (t' := tk) k (Nat.le_refl _) (setO_new R), rfl, q _ m hm (I.hok.fresh (Nat.le_refl _))⟩
end
def rSSetI : RC
  | [x], S, Q => match itemsD S x with
    | some ds => ∃ ns : List Int, ds = ns.map .int ∧ ns.length < 64 ∧ ∀ ms : List Int, ms.Pairwise (· < ·) → (∀ k, k ∈ ms ↔ k ∈ ns) → Q (.lst (ms.map .int)) S
    | none => False
  | _, _, _ => False
section
variable {X : Cx}
theorem se_sortedSetI {a : Expr} {es : List Expr} {wr : WA} {p q1 pos pos2 : Pos} (hc : X.calm = true) (hg : Gl X "sorted") (hm : X.mg "sorted" = none) (hg2 : Gl X "set") (hm2 : X.mg "set" = none) (ha : SA X (a :: es) wr)
    (he : starEach (a :: es) X.env = (false, eval a X.env) :: starEach es X.env := by rfl) (hpl : (backTo pos (starEach es X.env)).any (·.1) = false := by rfl)
    (he2 : starEach [.Call (.Name "set" p) (a :: es) [] pos] X.env = (false, eval (.Call (.Name "set" p) (a :: es) [] pos) X.env) :: starEach [] X.env := by rfl) :
    SE X (.Call (.Name "sorted" q1) [.Call (.Name "set" p) (a :: es) [] pos] [] pos2) (wCall rSSetI wr) :=
  pe_weak (pe_callB (cr_sortedSet hc) hg hm (by decide +kernel) (pa_cons (pe_callTy (cr_setI hc) hg2 hm2 (by decide +kernel) ha (by decide) (by decide) he hpl) pa_nil he2) (by decide) (by decide) he2 rfl) fun σ H Q ⟨μ, S, ρ, Q0, m, en, q, pp⟩ => by
    refine LA.run m en q fun ds S1 μ1 vs H1 q1 g1 m1 e1 r1 => ?_
    unfold rSSetI at q1
    split at q1
    · rename_i x
      obtain ⟨v, rfl, r⟩ := r1.one_inv
      split at q1
      · rename_i ds hds
        obtain ⟨ns, rfl, hlen, k⟩ := q1
        obtain ⟨l, xs, rfl, hl, rr⟩ := items_rep m1 r hds
        rw [rr.ints] at hl
        refine ⟨l, ns, rfl, hl, hlen, fun b m2 hm2 hb => ?_⟩
        refine ⟨b, _, m2, rfl, upd_same, by omega, fun ms c hp hk hl2 hc0 => ?_⟩
        have g2 : Grow μ1 H1 μ1 (upd H1 b (SetO X.w b (fun j => decide (j ∈ ns)) m2)) := .new hb
        have m2' := Sim.new (o := SetO X.w b (fun j => decide (j ∈ ns)) m2) m1 hb
        have q2 := k ms hp fun z => by rw [hk z]; simp
        exact pp _ _ q2 _ _ _ (g1.trans (g2.trans (.new hc0))) (m2'.new hc0) (m2'.newL hc0 (repInts ms))
      · exact q1.elim
    · exact q1.elim
end
end DL

set_option maxHeartbeats 4000000
namespace DL
open PySem PySem.Spec PyProof.Rows L2

/-! texts: an item, times -/
def chS (c : Nat) : Str := ⟨#[c]⟩
def atS (z : Str) (i : Int) : Option Nat := atI z.cps.toList i
def rIxG : RD := fun x y S Q => match x, y with
  | .str z, .int i => z.length ≤ sizeLine ∧ (match atS z i with | some c => Q (.str (chS c)) S | none => False)
  | _, _ => rIx x y S Q
def repS (z : Str) (n : Nat) : Str := ⟨(List.replicate n z.cps).foldl (· ++ ·) #[]⟩
def rMulG : RD := fun x y S Q => match x, y with
  | .str z, .int k => (-(2 ^ 62) ≤ k ∧ k < 2 ^ 62 ∧ z.length * k.toNat ≤ 1000000) ∧ Q (.str (repS z k.toNat)) S
  | _, _ => rMul x y S Q
def rAddG : RD := fun x y S Q => match x, y with
  | .ref n, .ref m => (match S[n]?, S[m]? with | some (.lst a), some (.lst b) => a.length + b.length ≤ sizeLine ∧ Q (.ref S.length) (S ++ [.lst (a ++ b)]) | _, _ => False)
  | _, _ => rAdd x y S Q
def rMulS : R2 := fun x y H Q => ∃ z k, x = .str z ∧ y = .int k ∧ -(2 ^ 62) ≤ k ∧ k < 2 ^ 62 ∧ z.length * k.toNat ≤ 1000000 ∧ Q (.str (repS z k.toNat)) H
theorem repS_zero (z : Str) : repS z 0 = Str.empty := rfl
theorem repS_one (z : Str) : repS z 1 = z := by
  unfold repS
  simp
theorem repS_nil {z : Str} (h : z.length = 0) (n : Nat) : repS z n = z := by
  have e : z.cps = #[] := Array.eq_empty_of_size_eq_zero h
  obtain ⟨c⟩ := z
  simp only at e
  subst e
  unfold repS
  simp only
  congr 1
  induction n with
  | zero => rfl
  | succ n ih => rw [List.replicate_succ, List.foldl_cons]; simpa using ih
theorem repS_aux (c : Array Nat) : ∀ (n : Nat) (a : Array Nat), ((List.replicate n c).foldl (· ++ ·) a).size = a.size + c.size * n
  | 0, a => by simp
  | n + 1, a => by
    rw [List.replicate_succ, List.foldl_cons, repS_aux c n, Array.size_append, Nat.mul_succ]
    omega
theorem repS_len (z : Str) (n : Nat) : (repS z n).length = z.length * n := by
  show ((List.replicate n z.cps).foldl (· ++ ·) #[]).size = _
  rw [repS_aux]
  show 0 + _ = _
  rw [Nat.zero_add]
  rfl
section
variable {X : Cx}
theorem op_mulS : OpR X (binaryOp .Mult) rMulS := by
  intro pins s σ H x y v u Q I rx ry h
  obtain ⟨z, k, rfl, rfl, h1, h2, h3, q⟩ := h
  obtain ⟨t, rfl⟩ := rx
  obtain ⟨t2, rfl⟩ := ry
  refine P.mul_str (by rw [decide_eq_false (by omega), decide_eq_false (by omega)]; rfl) (fun hk hz => ?_) (fun hk hz => ?_) ?_
  · have hz2 : ¬ k = 1 := by
      intro e
      subst e
      simp at hz
    have h4 : ((z.length : Int)) * k ≤ 1000000 := by
      have : ((z.length * k.toNat : Nat) : Int) ≤ 1000000 := by omega
      rw [Int.natCast_mul] at this
      rwa [Int.toNat_of_nonneg (by omega)] at this
    have h5 : (z.length : Int) ≤ 1000000 := by
      have : (z.length : Int) * 1 ≤ (z.length : Int) * k := Int.mul_le_mul_of_nonneg_left (by omega) (by omega)
      omega
    have h6 : (z.length : Int) ≤ (2 ^ 63 - 1) / k := by
      refine (Int.le_ediv_iff_mul_le (by omega)).mpr (by omega)
    omega
  · unfold Builtin.Str.tooLong
    refine decide_eq_false ?_
    rw [sizeLine_eq]
    omega
  · by_cases h0 : k < 1
    · rw [if_pos h0]
      have e : k.toNat = 0 := by omega
      rw [e, repS_zero] at q
      exact ⟨by decide, .str Str.empty, H, I.tok _, ⟨_, rfl⟩, q⟩
    · rw [if_neg h0]
      by_cases h4 : (k == 1 || z.length == 0) = true
      · rw [if_pos h4]
        have e : repS z k.toNat = z := by
          rcases (Bool.or_eq_true _ _).mp h4 with h | h
          · have : k = 1 := by simpa using h
            subst this
            exact repS_one z
          · exact repS_nil (by simpa using h) _
        rw [e] at q
        exact ⟨.str z, H, I, ⟨_, rfl⟩, q⟩
      · rw [if_neg h4]
        refine ⟨?_, .str (repS z k.toNat), H, I.tok _, ⟨_, rfl⟩, q⟩
        show (repS z k.toNat).length ≤ sizeLine
        rw [repS_len, sizeLine_eq]
        omega
theorem op_mulG : OpR X (binaryOp .Mult) (fun x y H Q => rI MulOk (fun i j => .int (i * j)) x y H Q ∨ rMulS x y H Q) := op_mulOk.or op_mulS
theorem opd_mulG {K : PySem.W.Frag} : OpD K (fun x y H Q => rI MulOk (fun i j => .int (i * j)) x y H Q ∨ rMulS x y H Q) rMulG := by
  intro μ S H x y vx vy Q0 Q m rx ry q p
  unfold rMulG at q
  split at q
  · rename_i z k
    exact .inr ⟨z, k, rx.str_inv, ry.int_inv, q.1.1, q.1.2.1, q.1.2.2, p.now m (.str _) q.2⟩
  · exact .inl (opd_mul μ S H x y vx vy Q0 Q m rx ry q p)
theorem ix_G : IxR X (fun x y H Q => rIxV X.K x y H Q ∨ rIxS x y H Q) := ix_V.or ix_str
theorem opd_ixG {K : PySem.W.Frag} : OpD K (fun x y H Q => rIxV K x y H Q ∨ rIxS x y H Q) rIxG := by
  intro μ S H x y vx vy Q0 Q m rx ry q p
  unfold rIxG at q
  split at q
  · rename_i z i
    obtain ⟨q1, q2⟩ := q
    split at q2
    · rename_i c hc
      exact .inr ⟨z, i, c, rx.str_inv, ry.int_inv, q1, hc, p.now m (.str _) q2⟩
    · exact q2.elim
  · exact .inl (opd_ix μ S H x y vx vy Q0 Q m rx ry q p)
theorem op_addG : OpR X (binaryOp .Add) (fun x y H Q => rAddV X.K x y H Q ∨ rCat x y H Q) := op_addV.or op_cat
theorem opd_addG {K : PySem.W.Frag} : OpD K (fun x y H Q => rAddV K x y H Q ∨ rCat x y H Q) rAddG := by
  intro μ S H x y vx vy Q0 Q m rx ry q p
  unfold rAddG at q
  split at q
  · rename_i n k
    split at q
    · rename_i a b ha hb
      obtain ⟨p1, xs, rfl, h1, h2, h3⟩ := m.at ha rx
      obtain ⟨p2, ys, rfl, k1, k2, k3⟩ := m.at hb ry
      refine .inr ⟨p1, p2, xs, ys, rfl, rfl, h2, k2, by rw [← h3.length, ← k3.length]; exact q.1, fun l hl => ?_⟩
      have r := RepAll.append h3 k3
      exact p _ _ q.2 (μ.add l) _ _ (.alloc hl) (m.alloc hl r) (Rep.refH (Sim.newR m))
    · exact q.elim
  · exact .inl (opd_add μ S H x y vx vy Q0 Q m rx ry q p)
end
section
variable {X : Cx} {a b : Expr} {wa wb : WE} {pos : Pos}
theorem se_mulG (ha : SE X a wa) (hb : SE X b wb) : SE X (.BinOp a .Mult b pos) (wOp rMulG wa wb) := se_op opd_mulG op_mulG ha hb
theorem se_addG (ha : SE X a wa) (hb : SE X b wb) : SE X (.BinOp a .Add b pos) (wOp rAddG wa wb) := se_op opd_addG op_addG ha hb
theorem se_ixG (ha : SE X a wa) (hb : SE X b wb) (hs : PlainIx b := by exact fun _ _ => rfl) : SE X (.Subscript a b pos) (wOp rIxG wa wb) := se_bin opd_ixG ha hb (pe_ix ix_G ha hb hs)
end
end DL
namespace DL
open PySem PySem.Spec PyProof.Rows L2
/-! pairs of ints -/
theorem ltD_pr (a b c d : Int) : ltD (.tup [.int a, .int b]) (.tup [.int c, .int d]) = (decide (a < c) || (decide (a = c) && decide (b < d))) := by
  have h : PySem.W.dataLe false D.py (tupI [c, d]) (tupI [a, b]) = !ltD (tupI [a, b]) (tupI [c, d]) := rfl
  rw [dataLe_tupI (show ([c, d] : List Int).length = [a, b].length from rfl)] at h
  have h2 : ltD (.tup [.int a, .int b]) (.tup [.int c, .int d]) = HT.lexLt [a, b] [c, d] := (Bool.not_inj h).symm
  rw [h2, HT.lexLt_cons]
  clear h h2
  by_cases e : a = c
  · rw [if_pos e, HT.lexLt_cons]
    by_cases f : b = d
    · subst e; subst f; rw [if_pos rfl, HT.lexLt_nil_nil]; simp
    · subst e; rw [if_neg f]; simp
  · rw [if_neg e]; simp [e]
theorem rGtD_pr {a b c d : Int} {S : Store} {Q : D → Store → Prop} (q : Q (.bl (decide (c < a) || (decide (c = a) && decide (d < b)))) S) : rGtD (.tup [.int a, .int b]) (.tup [.int c, .int d]) S Q := by
  refine ⟨okD2 _ _, okD2 _ _, ?_, fun h => (by simp [D.py] at h), ?_⟩
  · unfold alikeD
    simp [D.py, pyAll, PySem.W.alike, PySem.W.alikeAll]
  · show Q (.bl (ltD (.tup [.int c, .int d]) (.tup [.int a, .int b]))) S
    rw [ltD_pr]
    exact q
theorem rEq_pr {a b c d : Int} {S : Store} {Q : D → Store → Prop} (q : Q (.bl (decide (a = c) && decide (b = d))) S) : DL.rEq (.tup [.int a, .int b]) (.tup [.int c, .int d]) S Q := by
  rw [x_rEq_tup, eqv2]
  exact ⟨okD2 _ _, okD2 _ _, q⟩
theorem rNe_pr {a b c d : Int} {S : Store} {Q : D → Store → Prop} (q : Q (.bl (!(decide (a = c) && decide (b = d)))) S) : DL.rNe (.tup [.int a, .int b]) (.tup [.int c, .int d]) S Q := by
  rw [x_rNe_tup, eqv2]
  exact ⟨okD2 _ _, okD2 _ _, q⟩
/-- a loop over enumerate -/
theorem forG_enum {α : Type} {enc : α → D} {ys : List α} {g : Tg} {wb : WS} {G : Store → Prop} {D0 : EndsD} {ρ : Env} {S : Store} (I : Nat → Env → Store → Prop) (h : I 0 ρ S)
    (h1 : ∀ (i : Nat) (y : α) (ρ : Env) (S : Store) (k : Env → Store → Prop), ys[i]? = some y → I i ρ S → (∀ ρ S, I (i + 1) ρ S → k ρ S) → G S ∧ ∃ ρ', bindT g (.tup [.int (i : Int), enc y]) ρ = some ρ' ∧ wb { D0 with nx := k, ct := k, bk := D0.nx } ρ' S)
    (h0 : ∀ ρ S, I ys.length ρ S → G S ∧ D0.nx ρ S) : forG g wb G D0 (enumD 0 (ys.map enc)) ρ S := by
  refine forG_rule I h (fun i x ρ S k hx hi hk => ?_) (fun ρ S hi => h0 ρ S (by simpa [enumD_length] using hi))
  cases hy : ys[i]? with
  | none => rw [enumD_get, List.getElem?_map, hy] at hx; cases hx
  | some y =>
    rw [enumD_get, List.getElem?_map, hy] at hx
    cases hx
    rw [Nat.zero_add]
    exact h1 i y ρ S k hy hi hk
theorem mul_abs {x y A B : Int} (h1 : -A ≤ x) (h2 : x ≤ A) (h3 : -B ≤ y) (h4 : y ≤ B) : -(A * B) ≤ x * y ∧ x * y ≤ A * B := by
  have e : (x * y).natAbs ≤ A.toNat * B.toNat := by
    rw [Int.natAbs_mul]
    exact Nat.mul_le_mul (by omega) (by omega)
  have e2 : ((A.toNat * B.toNat : Nat) : Int) = A * B := by
    rw [Int.natCast_mul, Int.toNat_of_nonneg (by omega), Int.toNat_of_nonneg (by omega)]
  omega
theorem isL_of {n : Nat} {S : Store} {xs : List D} (h : S[n]? = some (.lst xs)) : isL (.ref n) S := by
  show (match S[n]? with | some (.lst _) => True | _ => False)
  rw [h]
  trivial
theorem Exit.fin {n0 : Nat} {d d' : D} {S G : Store} {Q0 : D → Store → Prop} (hl : S.length = n0) (hc : closedS S) (f : Frz n0 (S ++ G) d d') (h : Q0 d' S) : Exit n0 d (S ++ G) Q0 := by
  subst hl
  exact .same hc f h
end DL

set_option maxHeartbeats 4000000
/-! DLH3: lists that can be compared and sorted; texts -/
namespace DL
open PySem PySem.Spec PyProof.Rows L2
theorem depth_of {n : Nat} : ∀ {ds : List D}, (∀ d ∈ ds, d.py.depth ≤ n) → PyData.depthAll (pyAll ds) ≤ n + 1
  | [], _ => by simp [pyAll, PyData.depthAll]
  | d :: ds, h => by
    have h1 := depth_of (n := n) (ds := ds) fun e he => h e (by simp [he])
    have h2 := h d (by simp)
    rw [pyAll, PyData.depthAll]
    omega
theorem lay_of : ∀ {ds : List D}, (∀ d ∈ ds, d.py.canLay0 = true) → PyData.canLayAll0 (pyAll ds) = true
  | [], _ => by simp [pyAll, PyData.canLayAll0]
  | d :: ds, h => by
    rw [pyAll, PyData.canLayAll0, h d (by simp), lay_of (ds := ds) fun e he => h e (by simp [he])]
    rfl
theorem okD_lst {ds : List D} (h : ∀ d ∈ ds, d.py.canLay0 = true ∧ d.py.depth ≤ 60) : okD (.lst ds) := by
  show ((D.py (.lst ds)).canLay0 && decide ((D.py (.lst ds)).depth ≤ 64)) = true
  have h1 := depth_of (n := 60) fun d hd => (h d hd).2
  rw [Bool.and_eq_true, decide_eq_true_eq, D.py, PyData.depth, PyData.canLay0]
  exact ⟨lay_of fun d hd => (h d hd).1, by omega⟩
theorem okD_tup {ds : List D} (h : ∀ d ∈ ds, d.py.canLay0 = true ∧ d.py.depth ≤ 60) : okD (.tup ds) := by
  show ((D.py (.tup ds)).canLay0 && decide ((D.py (.tup ds)).depth ≤ 64)) = true
  have h1 := depth_of (n := 60) fun d hd => (h d hd).2
  rw [Bool.and_eq_true, decide_eq_true_eq, D.py, PyData.depth, PyData.canLay0]
  exact ⟨lay_of fun d hd => (h d hd).1, by omega⟩
/-- data of one make -/
theorem sort_ok {α : Type} {f : α → D} {xs : List α} (h : ∀ x ∈ xs, (f x).py.canLay0 = true ∧ (f x).py.depth ≤ 60) (ht : ∀ x, ∃ a r, (f x).py = .tuple (a :: r)) (ha : ∀ x y, PySem.W.alike (f x).py (f y).py = true) : SortOkD (xs.map f) := by
  refine ⟨fun x hx y hy => ?_, .inl fun x hx => ?_, okD_lst fun d hd => ?_⟩
  · rw [pyAll_map, List.map_map] at hx hy
    obtain ⟨p, _, rfl⟩ := List.mem_map.mp hx
    obtain ⟨r, _, rfl⟩ := List.mem_map.mp hy
    exact ha p r
  · rw [pyAll_map, List.map_map] at hx
    obtain ⟨p, _, rfl⟩ := List.mem_map.mp hx
    exact ht p
  · obtain ⟨p, hp, rfl⟩ := List.mem_map.mp hd
    exact h p hp
theorem sortD_map {α : Type} {f : α → D} (xs : List α) : ∃ ys : List α, ys.Perm xs ∧ sortD (xs.map f) = ys.map f := by
  obtain ⟨ys, h1, h2⟩ := perm_back f (List.mergeSort_perm (xs.map f) (PySem.W.dataLe false D.py)) xs rfl
  exact ⟨ys, h1, h2⟩
theorem app_len (a b : Str) : (a ++ b).length = a.length + b.length := by
  show (a.cps ++ b.cps).size = _
  rw [Array.size_append]
  rfl
theorem chS_len (c : Nat) : (chS c).length = 1 := rfl
def lastC (z : Str) : Option Nat := z.cps.back?
theorem lastC_app (x : Str) (c : Nat) : lastC (x ++ chS c) = some c := by
  show (x.cps ++ #[c]).back? = some c
  simp
theorem atS_get {z : Str} {i : Nat} (h : i < z.length) : ∃ c, atS z (i : Int) = some c ∧ z.cps[i]? = some c := by
  have h' : i < z.cps.size := h
  refine ⟨z.cps[i], ?_, by simp [h']⟩
  unfold atS atI ixN
  have hl : z.cps.toList.length = z.cps.size := Array.length_toList
  rw [if_pos (by omega), if_pos (by omega)]
  simp [h']
theorem atS_int {z : Str} {i : Int} (h0 : 0 ≤ i) (h : i < z.length) : ∃ c, atS z i = some c := by
  obtain ⟨n, rfl⟩ := nat_of h0
  obtain ⟨c, h1, _⟩ := atS_get (z := z) (i := n) (by omega)
  exact ⟨c, h1⟩
theorem strOk_app {a b : Str} (ha : PyData.strOk a = true) (hb : PyData.strOk b = true) : PyData.strOk (a ++ b) = true := by
  show (a.cps ++ b.cps).all _ = true
  rw [Array.all_append]
  exact (Bool.and_eq_true _ _).mpr ⟨ha, hb⟩
theorem strOk_aux {z : Str} (hz : PyData.strOk z = true) : ∀ (n : Nat) (a : Array Nat), a.all (· < 0x110000) = true → ((List.replicate n z.cps).foldl (· ++ ·) a).all (· < 0x110000) = true
  | 0, a, h => by simpa using h
  | n + 1, a, h => by
    rw [List.replicate_succ, List.foldl_cons]
    refine strOk_aux hz n _ ?_
    rw [Array.all_append]
    exact (Bool.and_eq_true _ _).mpr ⟨h, hz⟩
theorem strOk_rep {z : Str} (hz : PyData.strOk z = true) (n : Nat) : PyData.strOk (repS z n) = true := strOk_aux hz n #[] (by simp)
theorem strOk_at {z : Str} (hz : PyData.strOk z = true) {i : Int} {c : Nat} (h : atS z i = some c) : PyData.strOk (chS c) = true := by
  have hm : c ∈ z.cps.toList := by
    unfold atS atI at h
    obtain ⟨j, _, h2⟩ := Option.bind_eq_some_iff.mp h
    exact List.mem_of_getElem? h2
  have := (Array.all_eq_true_iff_forall_mem.mp hz) c (by simpa using hm)
  show (#[c] : Array Nat).all _ = true
  simpa using this
theorem nodup_len {α : Type} [DecidableEq α] : ∀ {l m : List α}, l.Nodup → (∀ x ∈ l, x ∈ m) → l.length ≤ m.length
  | [], _, _, _ => Nat.zero_le _
  | a :: l, m, nd, h => by
    rw [List.nodup_cons] at nd
    have h1 := nodup_len (l := l) (m := m.erase a) nd.2 fun x hx => (List.mem_erase_of_ne (fun e => nd.1 (by rw [← e]; exact hx))).mpr (h x (by simp [hx]))
    have h2 := List.length_erase_of_mem (h a (by simp))
    have h3 : 0 < m.length := List.length_pos_of_mem (h a (by simp))
    simp only [List.length_cons]
    omega
theorem at_mem {ds : List D} {i : Int} (h0 : 0 ≤ i) (h1 : i < ds.length) : ∃ d, atD ds i = some d ∧ d ∈ ds := by
  obtain ⟨n, rfl⟩ := nat_of h0
  have h : n < ds.length := by omega
  exact ⟨ds[n], at_some h, List.getElem_mem h⟩
theorem pure_map {α : Type} {f : α → D} (h : ∀ x, pureD (f x)) (xs : List α) : pureL (xs.map f) := pureL_of fun d hd => by
  obtain ⟨x, _, rfl⟩ := List.mem_map.mp hd
  exact h x
section
/-! a def's own lists at the store's end -/
variable {S : Store} {o o' : Ob}
theorem get_last : (S ++ [o])[S.length]? = some o := by simp
theorem get_last2 {x : Store} {n : Nat} (h : S[n]? = some o) : (S ++ x)[n]? = some o := by
  rw [List.getElem?_append_left (List.getElem?_eq_some_iff.mp h).1]
  exact h
theorem set_last : (S ++ [o]).set S.length o' = S ++ [o'] := by simp
end
end DL

set_option maxHeartbeats 4000000
/-! the text: the defs by places, scopes -/
namespace K15
open PySem PySem.Spec PyProof.Rows L2 DL
def top (i : Nat) : Stmt := PySem.Challenge.pw_everygain_k15_keys_and_places.main.body.getD i (.Pass ⟨0, 0, 0, 0⟩)
abbrev s_rest_of : Stmt := top 1
theorem sc_rest_of : FnScope ["integer", "modulus"] ["integer", "modulus"] (defScope s_rest_of) := ⟨rfl, rfl, rfl, by decide +kernel, rfl, by decide +kernel, by decide +kernel⟩
abbrev s_folded_key : Stmt := top 3
theorem sc_folded_key : FnScope ["fold", "pair"] ["fold", "pair"] (defScope s_folded_key) := ⟨rfl, rfl, rfl, by decide +kernel, rfl, by decide +kernel, by decide +kernel⟩
abbrev s_other_key : Stmt := top 4
theorem sc_other_key : FnScope ["fold", "key"] ["fold", "key"] (defScope s_other_key) := ⟨rfl, rfl, rfl, by decide +kernel, rfl, by decide +kernel, by decide +kernel⟩
abbrev s_lead_key : Stmt := top 5
theorem sc_lead_key : FnScope ["fold", "key", "other"] ["fold", "key"] (defScope s_lead_key) := ⟨rfl, rfl, rfl, by decide +kernel, rfl, by decide +kernel, by decide +kernel⟩
abbrev s_is_self_key : Stmt := top 6
theorem sc_is_self_key : FnScope ["fold", "key"] ["fold", "key"] (defScope s_is_self_key) := ⟨rfl, rfl, rfl, by decide +kernel, rfl, by decide +kernel, by decide +kernel⟩
abbrev s_place_at : Stmt := top 7
theorem sc_place_at : FnScope ["plan", "beat", "station", "across", "along", "first", "second", "third", "fourth"] ["plan", "beat", "station"] (defScope s_place_at) := ⟨rfl, rfl, rfl, by decide +kernel, rfl, by decide +kernel, by decide +kernel⟩
abbrev s_place_of : Stmt := top 8
theorem sc_place_of : FnScope ["plan", "station", "name", "across", "along"] ["plan", "station"] (defScope s_place_of) := ⟨rfl, rfl, rfl, by decide +kernel, rfl, by decide +kernel, by decide +kernel⟩
abbrev s_key_seen : Stmt := top 9
theorem sc_key_seen : FnScope ["plan", "beat", "channel", "station", "other", "begin", "end"] ["plan", "beat", "channel", "station", "other"] (defScope s_key_seen) := ⟨rfl, rfl, rfl, by decide +kernel, rfl, by decide +kernel, by decide +kernel⟩
abbrev s__law_pool : Stmt := top 11
theorem sc__law_pool : FnScope ["script", "great", "seed", "place", "cell", "size"] ["script"] (defScope s__law_pool) := ⟨rfl, rfl, rfl, by decide +kernel, rfl, by decide +kernel, by decide +kernel⟩
abbrev s__law_take : Stmt := top 12
theorem sc__law_take : FnScope ["pool", "many", "mixed", "cell"] ["pool", "many"] (defScope s__law_take) := ⟨rfl, rfl, rfl, by decide +kernel, rfl, by decide +kernel, by decide +kernel⟩
abbrev s__law_pick : Stmt := top 13
theorem sc__law_pick : FnScope ["pool", "place", "many", "habit"] ["pool", "place", "many"] (defScope s__law_pick) := ⟨rfl, rfl, rfl, by decide +kernel, rfl, by decide +kernel, by decide +kernel⟩
abbrev s__law_near : Stmt := top 14
theorem sc__law_near : FnScope ["pool", "place", "bound", "kind"] ["pool", "place", "bound"] (defScope s__law_near) := ⟨rfl, rfl, rfl, by decide +kernel, rfl, by decide +kernel, by decide +kernel⟩
abbrev s__law_integer : Stmt := top 15
theorem sc__law_integer : FnScope ["pool", "place", "fold", "kind"] ["pool", "place", "fold"] (defScope s__law_integer) := ⟨rfl, rfl, rfl, by decide +kernel, rfl, by decide +kernel, by decide +kernel⟩
abbrev s__law_folded : Stmt := top 16
theorem sc__law_folded : FnScope ["fold", "pair"] ["fold", "pair"] (defScope s__law_folded) := ⟨rfl, rfl, rfl, by decide +kernel, rfl, by decide +kernel, by decide +kernel⟩
abbrev s__law_is_pair : Stmt := top 17
theorem sc__law_is_pair : FnScope ["told", "due", "at"] ["told", "due"] (defScope s__law_is_pair) := ⟨rfl, rfl, rfl, by decide +kernel, rfl, by decide +kernel, by decide +kernel⟩
abbrev s__law_key_right : Stmt := top 18
theorem sc__law_key_right : FnScope ["fold", "key", "counts", "other", "lead", "alone", "told"] ["fold", "key", "counts"] (defScope s__law_key_right) := ⟨rfl, rfl, rfl, by decide +kernel, rfl, by decide +kernel, by decide +kernel⟩
abbrev s__law_fold_right : Stmt := top 19
theorem sc__law_fold_right : FnScope ["pool", "fold", "counts", "half", "pairs", "lap", "pair", "key", "one"] ["pool", "fold", "counts"] (defScope s__law_fold_right) := ⟨rfl, rfl, rfl, by decide +kernel, rfl, by decide +kernel, by decide +kernel⟩
abbrev s__law_plan : Stmt := top 20
theorem sc__law_plan : FnScope ["pool", "many", "beats", "heard", "letters", "stations", "lap", "stands", "beat", "channels", "fold", "dial", "terms", "name", "patch", "station"] ["pool"] (defScope s__law_plan) := ⟨rfl, rfl, rfl, by decide +kernel, rfl, by decide +kernel, by decide +kernel⟩
abbrev s__law_place : Stmt := top 21
theorem sc__law_place : FnScope ["plan", "beat", "station", "ahead", "aside"] ["plan", "beat", "station"] (defScope s__law_place) := ⟨rfl, rfl, rfl, by decide +kernel, rfl, by decide +kernel, by decide +kernel⟩
abbrev s__law_seen_right : Stmt := top 22
theorem sc__law_seen_right : FnScope ["plan", "beat", "channel", "one", "other", "begin", "end", "there", "back"] ["plan", "beat", "channel", "one", "other"] (defScope s__law_seen_right) := ⟨rfl, rfl, rfl, by decide +kernel, rfl, by decide +kernel, by decide +kernel⟩
abbrev s_law : Stmt := top 23
theorem sc_law : FnScope ["script", "pool", "folds", "lap", "counts", "fold", "plan", "bent", "turn", "beat", "channel", "one", "other"] ["script"] (defScope s_law) := ⟨rfl, rfl, rfl, by decide +kernel, rfl, by decide +kernel, by decide +kernel⟩
/-- what the top leaves -/
structure Txt (K : PySem.W.Frag) (mg : Str → Option Value) : Prop where
  f_abs : mg "abs" = none
  f_bool : mg "bool" = none
  f_enumerate : mg "enumerate" = none
  f_int : mg "int" = none
  f_isinstance : mg "isinstance" = none
  f_len : mg "len" = none
  f_list : mg "list" = none
  f_range : mg "range" = none
  f_set : mg "set" = none
  f_sorted : mg "sorted" = none
  f_tuple : mg "tuple" = none
end K15

set_option maxHeartbeats 4000000
/-! what each def promises, by content -/
namespace K15
open PySem PySem.Spec PyProof.Rows L2 DL
structure PoolSt where
  gr : List Int
  sd : Int
  n : Int
def mkP (p : PoolSt) (G : Store) : Store := .lst (p.gr.map .int) :: .lst [.ref 0, .int p.sd, .int p.n] :: G
def pr (a b : Int) : D := .tup [.int a, .int b]
def rst (i m : Int) : Int := if m = 0 then i else i % m
structure Row where
  nm : Str
  x : Int
  y : Int
structure Stand where
  nm : Str
  a : Int
  b : Int
  c : Int
  d : Int
def stD (r : Row) : D := .tup [.str r.nm, .int r.x, .int r.y]
def sdD (r : Stand) : D := .tup [.str r.nm, .tup [.int r.a, .int r.b, .int r.c, .int r.d]]
structure Plan where
  dial : D
  fold : Int
  rows : List Row
  stands : List Stand
  chans : List Int
  terms : D
def planD (p : Plan) : D := .tup [p.dial, .int p.fold, .tup (p.rows.map stD), .tup (p.stands.map sdD), .tup (p.chans.map .int), p.terms]
structure Plan.Ok (p : Plan) : Prop where
  fold0 : 0 ≤ p.fold
  fold1 : p.fold ≤ 24
  rows : p.rows ≠ []
  rowl : p.rows.length ≤ 100
  nd : (p.rows.map Row.nm).Nodup
  rx : ∀ r ∈ p.rows, -50 ≤ r.x ∧ r.x ≤ 50 ∧ -50 ≤ r.y ∧ r.y ≤ 50
  stands : p.stands ≠ []
  standl : p.stands.length ≤ 100
  sx : ∀ r ∈ p.stands, -4 ≤ r.a ∧ r.a ≤ 4 ∧ -4 ≤ r.b ∧ r.b ≤ 4 ∧ -4 ≤ r.c ∧ r.c ≤ 4 ∧ -4 ≤ r.d ∧ r.d ≤ 4
  chans : p.chans ≠ []
  chanl : p.chans.length ≤ 100
  cx : ∀ c ∈ p.chans, 1 ≤ c ∧ c ≤ 100
/-- where a station stands at a beat -/
def plX (s : Stand) (r : Row) : Int := s.a * r.x + s.b * r.y
def plY (s : Stand) (r : Row) : Int := s.c * r.x + s.d * r.y
def lexG (a b c d : Int) : Bool := decide (c < a) || (decide (c = a) && decide (d < b))
def c_rest_of : Con := fun ds S Q => ∃ i m : Int, ds = [.int i, .int m] ∧ 0 ≤ m ∧ Q (.int (rst i m)) S
def c_folded_key : Con := fun ds S Q => ∃ f a b : Int, ds = [.int f, pr a b] ∧ 0 ≤ f ∧ Q (pr (rst a f) (rst b f)) S
def c_other_key : Con := fun ds S Q => ∃ f a b : Int, ds = [.int f, pr a b] ∧ 0 ≤ f ∧ Q (pr (rst (-a) f) (rst (-b) f)) S
def leadD (a b c d : Int) : D := if lexG c d a b = true then pr c d else pr a b
def c_lead_key : Con := fun ds S Q => ∃ f a b : Int, ds = [.int f, pr a b] ∧ 0 ≤ f ∧ Q (leadD a b (rst (-a) f) (rst (-b) f)) S
def aloneB (f a b : Int) : Bool := decide (rst (-a) f = a) && decide (rst (-b) f = b)
def c_is_self_key : Con := fun ds S Q => ∃ f a b : Int, ds = [.int f, pr a b] ∧ 0 ≤ f ∧ Q (.bl (aloneB f a b)) S
def c_place_of : Con := fun ds S Q => ∃ (p : Plan) (r : Row), ds = [planD p, .str r.nm] ∧ p.Ok ∧ r ∈ p.rows ∧ Q (pr r.x r.y) S
def c_place_at : Con := fun ds S Q => ∃ (p : Plan) (r : Row) (b : Nat) (s : Stand), ds = [planD p, .int (b : Int), .str r.nm] ∧ p.Ok ∧ r ∈ p.rows ∧ p.stands[b]? = some s ∧ Q (pr (plX s r) (plY s r)) S
def seenD (p : Plan) (s : Stand) (ch : Int) (r o : Row) : D := pr (rst (ch * (plX s o - plX s r)) p.fold) (rst (ch * (plY s o - plY s r)) p.fold)
def c_key_seen : Con := fun ds S Q => ∃ (p : Plan) (r o : Row) (b : Nat) (s : Stand) (ch : Int), ds = [planD p, .int (b : Int), .int ch, .str r.nm, .str o.nm] ∧ p.Ok ∧ r ∈ p.rows ∧ o ∈ p.rows ∧ p.stands[b]? = some s ∧ 1 ≤ ch ∧ ch ≤ 100 ∧ Q (seenD p s ch r o) S
def c__law_pool : Con := fun ds S Q => ∃ (ns : List Int), ds = [.lst (ns.map .int)] ∧ S = [] ∧ ns.length ≤ 63 ∧ ∀ p : PoolSt, Q (.ref 1) (mkP p [])
def c__law_take : Con := fun ds S Q => ∃ (many : Int) (p : PoolSt) (G : Store), ds = [.ref 1, .int many] ∧ S = mkP p G ∧ 0 < many ∧ many < 2 ^ 60 ∧ ∀ (d : Int) (p' : PoolSt), 0 ≤ d → d < many → Q (.int d) (mkP p' G)
def c__law_pick : Con := fun ds S Q => ∃ (pl many : Int) (p : PoolSt) (G : Store), ds = [.ref 1, .int pl, .int many] ∧ S = mkP p G ∧ 0 < many ∧ many < 2 ^ 60 ∧ ∀ (d : Int) (p' : PoolSt), 0 ≤ d → d < many → Q (.int d) (mkP p' G)
def c__law_near : Con := fun ds S Q => ∃ (pl bd : Int) (p : PoolSt) (G : Store), ds = [.ref 1, .int pl, .int bd] ∧ S = mkP p G ∧ 0 < bd ∧ bd < 2 ^ 50 ∧ ∀ (d : Int) (p' : PoolSt), -bd ≤ d → d ≤ bd → Q (.int d) (mkP p' G)
def c__law_integer : Con := fun ds S Q => ∃ (pl f : Int) (p : PoolSt) (G : Store), ds = [.ref 1, .int pl, .int f] ∧ S = mkP p G ∧ 0 ≤ f ∧ f ≤ 24 ∧ ∀ (d : Int) (p' : PoolSt), -100000 ≤ d → d ≤ 100000 → Q (.int d) (mkP p' G)
def c__law_folded : Con := c_folded_key
def c__law_is_pair : Con := fun ds S Q => ∃ a b : Int, ds = [pr a b, pr a b] ∧ Q (.bl true) S
def cnt (c0 c1 c2 : Int) : Ob := .lst [.int c0, .int c1, .int c2]
def one01 (b : Bool) : Int := if b = true then 1 else 0
def stepC (f a b c0 c1 c2 : Int) : Ob := cnt (c0 + one01 (!aloneB f a b)) (c1 + one01 (aloneB f a b)) (c2 + one01 (lexG (rst (-a) f) (rst (-b) f) a b))
def c__law_key_right : Con := fun ds S Q => ∃ (f a b : Int) (n : Nat) (c0 c1 c2 : Int), ds = [.int f, pr a b, .ref n] ∧ S[n]? = some (cnt c0 c1 c2) ∧ 0 ≤ f ∧ rst a f = a ∧ rst b f = b ∧ Q (.bl true) (S.set n (stepC f a b c0 c1 c2))
def c__law_fold_right : Con := fun ds S Q => ∃ (f : Int) (p : PoolSt) (G : Store) (n : Nat) (c0 c1 c2 : Int), ds = [.ref 1, .int f, .ref (n + 2)] ∧ S = mkP p G ∧ G[n]? = some (cnt c0 c1 c2) ∧ 0 ≤ f ∧ f ≤ 24 ∧
  ∀ (p' : PoolSt) (e0 e1 e2 : Int), c0 ≤ e0 → c1 ≤ e1 → c2 ≤ e2 → (f = 0 → c0 + 1 ≤ e0 ∧ c1 + 1 ≤ e1 ∧ c2 + 1 ≤ e2) → Q (.bl true) (mkP p' (G.set n (cnt e0 e1 e2)))
def c__law_plan : Con := fun ds S Q => ∃ (p : PoolSt) (G : Store), ds = [.ref 1] ∧ S = mkP p G ∧ ∀ (P : Plan) (p' : PoolSt), P.Ok → Q (planD P) (mkP p' G)
def c__law_place : Con := fun ds S Q => ∃ (p : Plan) (r : Row) (b : Nat) (s : Stand), ds = [planD p, .int (b : Int), stD r] ∧ p.Ok ∧ r ∈ p.rows ∧ p.stands[b]? = some s ∧ Q (pr (plX s r) (plY s r)) S
def c__law_seen_right : Con := fun ds S Q => ∃ (p : Plan) (r o : Row) (b : Nat) (s : Stand) (ch : Int), ds = [planD p, .int (b : Int), .int ch, stD r, stD o] ∧ p.Ok ∧ r ∈ p.rows ∧ o ∈ p.rows ∧ p.stands[b]? = some s ∧ 1 ≤ ch ∧ ch ≤ 100 ∧ Q (.bl true) S
def c_law : Con := fun ds S Q => ∃ ns : List Int, ds = [.lst (ns.map .int)] ∧ S = [] ∧ ns.length ≤ 63 ∧ Q (.bl true) []
theorem law_in {ns : List Int} (h : ns.length ≤ 63) : c_law [.lst (ns.map .int)] [] (fun d _ => d = .bl true) := ⟨ns, rfl, rfl, h, rfl⟩
end K15

set_option maxHeartbeats 4000000
/-! each def: its reading by content, and that the text has it -/
namespace K15
open PySem PySem.Spec PyProof.Rows L2 DL
def w_rest_of : WS := (wSeq (gIf (wTest (wOp DL.rEq (wVar 1) (wC (DL.D.int (0))))) (wRet (wVar 0)) wNext)
  (wRet (wOp DL.rMod (wVar 0) (wVar 1))))
def w_folded_key : WS := (wRet (wTup (wCons (gFn c_rest_of 2 (wCons (wOp DL.rIxG (wVar 1) (wC (DL.D.int (0)))) (wCons (wVar 0) wNil))) (wCons (gFn c_rest_of 2 (wCons (wOp DL.rIxG (wVar 1) (wC (DL.D.int (1)))) (wCons (wVar 0) wNil))) wNil))))
def w_other_key : WS := (wRet (gFn c_folded_key 2 (wCons (wVar 0) (wCons (wTup (wCons (wNeg (wOp DL.rIxG (wVar 1) (wC (DL.D.int (0))))) (wCons (wNeg (wOp DL.rIxG (wVar 1) (wC (DL.D.int (1))))) wNil))) wNil))))
def w_lead_key : WS := (wSeq (wAsg (gFn c_other_key 2 (wCons (wVar 0) (wCons (wVar 1) wNil))) (Tg.name 2))
  (wSeq (gIf (wTest (wOp DL.rGtD (wVar 2) (wVar 1))) (wRet (wVar 2)) wNext)
  (wRet (wVar 1))))
def w_is_self_key : WS := (wRet (wOp DL.rEq (gFn c_other_key 2 (wCons (wVar 0) (wCons (wVar 1) wNil))) (wVar 1)))
def w_place_of_for0 : WS := (gIf (wTest (wOp DL.rEq (wVar 2) (wVar 1))) (wRet (wTup (wCons (wVar 3) (wCons (wVar 4) wNil)))) wNext)
def w_place_of : WS := (wSeq (gFor (wSeqI (wOp DL.rIxG (wVar 0) (wC (DL.D.int (2))))) (Tg.tup [(Tg.name 2), (Tg.name 3), (Tg.name 4)]) w_place_of_for0)
  (wRet (wC DL.D.non)))
def w_place_at : WS := (wSeq (wAsg (gFn c_place_of 2 (wCons (wVar 0) (wCons (wVar 2) wNil))) (Tg.tup [(Tg.name 3), (Tg.name 4)]))
  (wSeq (wAsg (wOp DL.rIxG (wOp DL.rIxG (wOp DL.rIxG (wVar 0) (wC (DL.D.int (3)))) (wVar 1)) (wC (DL.D.int (1)))) (Tg.tup [(Tg.name 5), (Tg.name 6), (Tg.name 7), (Tg.name 8)]))
  (wRet (wTup (wCons (wOp DL.rAddG (wOp DL.rMulG (wVar 5) (wVar 3)) (wOp DL.rMulG (wVar 6) (wVar 4))) (wCons (wOp DL.rAddG (wOp DL.rMulG (wVar 7) (wVar 3)) (wOp DL.rMulG (wVar 8) (wVar 4))) wNil))))))
def w_key_seen : WS := (wSeq (wAsg (gFn c_place_at 3 (wCons (wVar 0) (wCons (wVar 1) (wCons (wVar 3) wNil)))) (Tg.name 5))
  (wSeq (wAsg (gFn c_place_at 3 (wCons (wVar 0) (wCons (wVar 1) (wCons (wVar 4) wNil)))) (Tg.name 6))
  (wRet (gFn c_folded_key 2 (wCons (wOp DL.rIxG (wVar 0) (wC (DL.D.int (1)))) (wCons (wTup (wCons (wOp DL.rMulG (wVar 2) (wOp DL.rSub (wOp DL.rIxG (wVar 6) (wC (DL.D.int (0)))) (wOp DL.rIxG (wVar 5) (wC (DL.D.int (0)))))) (wCons (wOp DL.rMulG (wVar 2) (wOp DL.rSub (wOp DL.rIxG (wVar 6) (wC (DL.D.int (1)))) (wOp DL.rIxG (wVar 5) (wC (DL.D.int (1)))))) wNil))) wNil))))))
def w__law_pool_for0 : WS := (wSeq (wAsg (wCall rAbs (wCons (wCall rInt (wCons (wVar 4) wNil)) wNil)) (Tg.name 5))
  (wSeq (wAsg (wOp DL.rMod (wCall rInt (wCons (wOp DL.rAddG (wOp DL.rAddG (wOp DL.rAddG (wOp DL.rMulG (wVar 2) (wC (DL.D.int (409)))) (wOp DL.rMulG (wVar 5) (wC (DL.D.int (37))))) (wOp DL.rMulG (wVar 3) (wC (DL.D.int (11))))) (wOp DL.rMulG (wC (DL.D.int (3))) (wCall rInt (wCons (wOp DL.rLtD (wVar 4) (wC (DL.D.int (0)))) wNil)))) wNil)) (wC (DL.D.int (2147483647)))) (Tg.name 2))
  (gIf (wTest (wOp DL.rGeD (wVar 5) (wOp DL.rPow (wC (DL.D.int (10))) (wC (DL.D.int (18)))))) (wDrop (wMeth mAppend (wVar 1) (wCons (wVar 5) wNil))) wNext)))
def w__law_pool : WS := (wSeq (wAsg (wNew wNil) (Tg.name 1))
  (wSeq (wAsg (wC (DL.D.int (51001))) (Tg.name 2))
  (wSeq (gFor (wEnumerate (wCons (wSl DL.rSl (wVar 0) wNoPart (wPart (wC (DL.D.int (63))))) wNil)) (Tg.tup [(Tg.name 3), (Tg.name 4)]) w__law_pool_for0)
  (wRet (wNew (wCons (wVar 1) (wCons (wVar 2) (wCons (wC (DL.D.int (0))) wNil))))))))
def w__law_take : WS := (wSeq (wPut (wOp DL.rAddG (wOp DL.rIxG (wVar 0) (wC (DL.D.int (2)))) (wC (DL.D.int (1)))) (wVar 0) (wC (DL.D.int (2))))
  (wSeq (gIf (wTru (wOp DL.rIxG (wVar 0) (wC (DL.D.int (0))))) (wSeq (wAsg (wOp DL.rIxG (wOp DL.rIxG (wVar 0) (wC (DL.D.int (0)))) (wC (DL.D.int (0)))) (Tg.name 3))
  (wSeq (gIf (wTest (wOp DL.rLtD (wVar 3) (wVar 1))) (wDrop (wMeth mPopAt (wOp DL.rIxG (wVar 0) (wC (DL.D.int (0)))) (wCons (wC (DL.D.int (0))) wNil))) (wPut (wOp DL.rDiv (wVar 3) (wVar 1)) (wOp DL.rIxG (wVar 0) (wC (DL.D.int (0)))) (wC (DL.D.int (0)))))
  (wRet (wOp DL.rMod (wCall rInt (wCons (wVar 3) wNil)) (wVar 1))))) wNext)
  (wSeq (wAsg (wOp DL.rMod (wCall rInt (wCons (wOp DL.rAddG (wOp DL.rAddG (wOp DL.rMulG (wOp DL.rIxG (wVar 0) (wC (DL.D.int (1)))) (wC (DL.D.int (40013)))) (wOp DL.rMulG (wOp DL.rIxG (wVar 0) (wC (DL.D.int (2)))) (wC (DL.D.int (6907))))) (wC (DL.D.int (29)))) wNil)) (wC (DL.D.int (2147483629)))) (Tg.name 2))
  (wSeq (wAsg (wOp DL.rMod (wCall rInt (wCons (wOp DL.rAddG (wOp DL.rMulG (wVar 2) (wVar 2)) (wOp DL.rMulG (wOp DL.rIxG (wVar 0) (wC (DL.D.int (2)))) (wC (DL.D.int (211))))) wNil)) (wC (DL.D.int (2147483587)))) (Tg.name 2))
  (wSeq (wAsg (wOp DL.rMod (wCall rInt (wCons (wOp DL.rAddG (wOp DL.rMulG (wVar 2) (wC (DL.D.int (15013)))) (wC (DL.D.int (331)))) wNil)) (wC (DL.D.int (998244353)))) (Tg.name 2))
  (wRet (wOp DL.rMod (wOp DL.rDiv (wVar 2) (wC (DL.D.int (13)))) (wVar 1))))))))
def w__law_pick : WS := (wSeq (gIf (gAnd (wNot (wTru (wOp DL.rIxG (wVar 0) (wC (DL.D.int (0)))))) (wTest (wOp DL.rEq (wOp DL.rMod (wCall rInt (wCons (wOp DL.rIxG (wVar 0) (wC (DL.D.int (1)))) wNil)) (wC (DL.D.int (3)))) (wC (DL.D.int (2)))))) (wSeq (wAsg (wOp DL.rMod (wCall rInt (wCons (wOp DL.rAddG (wOp DL.rMulG (wOp DL.rDiv (wOp DL.rIxG (wVar 0) (wC (DL.D.int (1)))) (wC (DL.D.int (3)))) (wC (DL.D.int (19)))) (wOp DL.rMulG (wVar 1) (wC (DL.D.int (23))))) wNil)) (wC (DL.D.int (9)))) (Tg.name 3))
  (wSeq (gIf (wTest (wOp DL.rEq (wVar 3) (wC (DL.D.int (0))))) (wRet (wC (DL.D.int (0)))) wNext)
  (wSeq (gIf (wTest (wOp DL.rEq (wVar 3) (wC (DL.D.int (1))))) (wRet (wOp DL.rSub (wVar 2) (wC (DL.D.int (1))))) wNext)
  (gIf (wTest (wOp DL.rEq (wVar 3) (wC (DL.D.int (2))))) (wRet (wOp DL.rMod (wCall rInt (wCons (wOp DL.rAddG (wOp DL.rDiv (wOp DL.rIxG (wVar 0) (wC (DL.D.int (1)))) (wC (DL.D.int (7)))) (wVar 1)) wNil)) (wVar 2))) wNext)))) wNext)
  (wRet (gFn c__law_take 2 (wCons (wVar 0) (wCons (wVar 2) wNil)))))
def w__law_near : WS := (wSeq (wAsg (gFn c__law_pick 3 (wCons (wVar 0) (wCons (wVar 1) (wCons (wC (DL.D.int (7))) wNil)))) (Tg.name 3))
  (wSeq (gIf (wTest (wOp DL.rEq (wVar 3) (wC (DL.D.int (0))))) (wRet (wVar 2)) wNext)
  (wSeq (gIf (wTest (wOp DL.rEq (wVar 3) (wC (DL.D.int (1))))) (wRet (wNeg (wVar 2))) wNext)
  (wSeq (gIf (wTest (wOp DL.rEq (wVar 3) (wC (DL.D.int (2))))) (wRet (wC (DL.D.int (0)))) wNext)
  (wRet (wOp DL.rSub (gFn c__law_pick 3 (wCons (wVar 0) (wCons (wOp DL.rAddG (wVar 1) (wC (DL.D.int (1)))) (wCons (wOp DL.rAddG (wOp DL.rMulG (wC (DL.D.int (2))) (wVar 2)) (wC (DL.D.int (1)))) wNil)))) (wVar 2)))))))
def w__law_integer : WS := (wSeq (wAsg (gFn c__law_pick 3 (wCons (wVar 0) (wCons (wVar 1) (wCons (wC (DL.D.int (6))) wNil)))) (Tg.name 3))
  (wSeq (gIf (wTest (wOp DL.rEq (wVar 3) (wC (DL.D.int (0))))) (wRet (gFn c__law_near 3 (wCons (wVar 0) (wCons (wOp DL.rAddG (wVar 1) (wC (DL.D.int (1)))) (wCons (wC (DL.D.int (100000))) wNil))))) wNext)
  (wSeq (gIf (gAnd (wTest (wOp DL.rEq (wVar 3) (wC (DL.D.int (1))))) (wTest (wOp DL.rGtD (wVar 2) (wC (DL.D.int (0)))))) (wRet (wOp DL.rMulG (wVar 2) (wOp DL.rSub (gFn c__law_pick 3 (wCons (wVar 0) (wCons (wOp DL.rAddG (wVar 1) (wC (DL.D.int (3)))) (wCons (wC (DL.D.int (401))) wNil)))) (wC (DL.D.int (200)))))) wNext)
  (wSeq (gIf (gAnd (wTest (wOp DL.rEq (wVar 3) (wC (DL.D.int (2))))) (wTest (wOp DL.rGtD (wVar 2) (wC (DL.D.int (0)))))) (wRet (wOp DL.rMulG (wOp DL.rDiv (wVar 2) (wC (DL.D.int (2)))) (wOp DL.rSub (gFn c__law_pick 3 (wCons (wVar 0) (wCons (wOp DL.rAddG (wVar 1) (wC (DL.D.int (4)))) (wCons (wC (DL.D.int (41))) wNil)))) (wC (DL.D.int (20)))))) wNext)
  (wSeq (gIf (wTest (wOp DL.rEq (wVar 3) (wC (DL.D.int (3))))) (wRet (wOp DL.rSub (gFn c__law_pick 3 (wCons (wVar 0) (wCons (wOp DL.rAddG (wVar 1) (wC (DL.D.int (5)))) (wCons (wC (DL.D.int (3))) wNil)))) (wC (DL.D.int (1))))) wNext)
  (wRet (wOp DL.rSub (gFn c__law_pick 3 (wCons (wVar 0) (wCons (wOp DL.rAddG (wVar 1) (wC (DL.D.int (6)))) (wCons (wC (DL.D.int (61))) wNil)))) (wC (DL.D.int (30))))))))))
def w__law_folded : WS := (wSeq (gIf (wTest (wOp DL.rEq (wVar 0) (wC (DL.D.int (0))))) (wRet (wTup (wCons (wOp DL.rIxG (wVar 1) (wC (DL.D.int (0)))) (wCons (wOp DL.rIxG (wVar 1) (wC (DL.D.int (1)))) wNil)))) wNext)
  (wRet (wTup (wCons (wOp DL.rMod (wCall rInt (wCons (wOp DL.rIxG (wVar 1) (wC (DL.D.int (0)))) wNil)) (wVar 0)) (wCons (wOp DL.rMod (wCall rInt (wCons (wOp DL.rIxG (wVar 1) (wC (DL.D.int (1)))) wNil)) (wVar 0)) wNil)))))
def w__law_is_pair_for0 : WS := (gIf (gOr (wNot (wTru (gIsT (wOp DL.rIxG (wVar 0) (wVar 2)) .int))) (gOr (wTru (gIsT (wOp DL.rIxG (wVar 0) (wVar 2)) .bool)) (wTest (wOp DL.rNe (wOp DL.rIxG (wVar 0) (wVar 2)) (wOp DL.rIxG (wVar 1) (wVar 2)))))) (wRet (wC (DL.D.bl false))) wNext)
def w__law_is_pair : WS := (wSeq (gIf (gOr (wNot (wTru (gIsT (wVar 0) .tuple))) (wTest (wOp DL.rNe (wCall rLen (wCons (wVar 0) wNil)) (wC (DL.D.int (2)))))) (wRet (wC (DL.D.bl false))) wNext)
  (wSeq (gFor (wRange1 (wCons (wC (DL.D.int (2))) wNil)) (Tg.name 2) w__law_is_pair_for0)
  (wRet (wC (DL.D.bl true)))))
def w__law_key_right : WS := (wSeq (wAsg (gFn c__law_folded 2 (wCons (wVar 0) (wCons (wTup (wCons (wNeg (wOp DL.rIxG (wVar 1) (wC (DL.D.int (0))))) (wCons (wNeg (wOp DL.rIxG (wVar 1) (wC (DL.D.int (1))))) wNil))) wNil))) (Tg.name 3))
  (wSeq (wAsg (wVar 1) (Tg.name 4))
  (wSeq (gIf (gOr (wTest (wOp DL.rGtD (wOp DL.rIxG (wVar 3) (wC (DL.D.int (0)))) (wOp DL.rIxG (wVar 1) (wC (DL.D.int (0)))))) (gAnd (wTest (wOp DL.rEq (wOp DL.rIxG (wVar 3) (wC (DL.D.int (0)))) (wOp DL.rIxG (wVar 1) (wC (DL.D.int (0)))))) (wTest (wOp DL.rGtD (wOp DL.rIxG (wVar 3) (wC (DL.D.int (1)))) (wOp DL.rIxG (wVar 1) (wC (DL.D.int (1)))))))) (wSeq (wAsg (wVar 3) (Tg.name 4))
  (wPut (wOp DL.rAddG (wOp DL.rIxG (wVar 2) (wC (DL.D.int (2)))) (wC (DL.D.int (1)))) (wVar 2) (wC (DL.D.int (2))))) wNext)
  (wSeq (wAsg (gAndV (wOp DL.rEq (wOp DL.rIxG (wVar 3) (wC (DL.D.int (0)))) (wOp DL.rIxG (wVar 1) (wC (DL.D.int (0))))) (wOp DL.rEq (wOp DL.rIxG (wVar 3) (wC (DL.D.int (1)))) (wOp DL.rIxG (wVar 1) (wC (DL.D.int (1)))))) (Tg.name 5))
  (wSeq (wPut (wOp DL.rAddG (wOp DL.rIxG (wVar 2) (wCall rInt (wCons (wVar 5) wNil))) (wC (DL.D.int (1)))) (wVar 2) (wCall rInt (wCons (wVar 5) wNil)))
  (wSeq (gIf (gOr (wNot (wTru (gFn c__law_is_pair 2 (wCons (gFn c_folded_key 2 (wCons (wVar 0) (wCons (wVar 1) wNil))) (wCons (wVar 1) wNil))))) (wNot (wTru (gFn c__law_is_pair 2 (wCons (gFn c_other_key 2 (wCons (wVar 0) (wCons (wVar 1) wNil))) (wCons (wVar 3) wNil)))))) (wRet (wC (DL.D.bl false))) wNext)
  (wSeq (gIf (wNot (wTru (gFn c__law_is_pair 2 (wCons (gFn c_lead_key 2 (wCons (wVar 0) (wCons (wVar 1) wNil))) (wCons (wVar 4) wNil))))) (wRet (wC (DL.D.bl false))) wNext)
  (wSeq (wAsg (gFn c_is_self_key 2 (wCons (wVar 0) (wCons (wVar 1) wNil))) (Tg.name 6))
  (wRet (gAndV (gIsT (wVar 6) .bool) (wOp DL.rEq (wVar 6) (wVar 5))))))))))))
def w__law_fold_right_for0 : WS := (wDrop (wMeth mAppend (wVar 4) (wCons (wTup (wCons (gFn c__law_integer 3 (wCons (wVar 0) (wCons (wC (DL.D.int (10))) (wCons (wVar 1) wNil)))) (wCons (gFn c__law_integer 3 (wCons (wVar 0) (wCons (wC (DL.D.int (20))) (wCons (wVar 1) wNil)))) wNil))) wNil)))
def w__law_fold_right_for1 : WS := (gIf (wNot (wTru (gFn c__law_key_right 3 (wCons (wVar 1) (wCons (wVar 8) (wCons (wVar 2) wNil)))))) (wRet (wC (DL.D.bl false))) wNext)
def w__law_fold_right_for2 : WS := (wSeq (wAsg (gFn c__law_folded 2 (wCons (wVar 1) (wCons (wVar 6) wNil))) (Tg.name 7))
  (wSeq (gIf (wNot (wTru (gFn c__law_is_pair 2 (wCons (gFn c_folded_key 2 (wCons (wVar 1) (wCons (wVar 6) wNil))) (wCons (wVar 7) wNil))))) (wRet (wC (DL.D.bl false))) wNext)
  (gFor (wSeqI (wTup (wCons (wVar 7) (wCons (gFn c__law_folded 2 (wCons (wVar 1) (wCons (wTup (wCons (wNeg (wOp DL.rIxG (wVar 7) (wC (DL.D.int (0))))) (wCons (wNeg (wOp DL.rIxG (wVar 7) (wC (DL.D.int (1))))) wNil))) wNil))) wNil)))) (Tg.name 8) w__law_fold_right_for1)))
def w__law_fold_right : WS := (wSeq (wAsg (wOp DL.rDiv (wVar 1) (wC (DL.D.int (2)))) (Tg.name 3))
  (wSeq (wAsg (wNew (wCons (wTup (wCons (wC (DL.D.int (0))) (wCons (wC (DL.D.int (0))) wNil))) (wCons (wTup (wCons (wC (DL.D.int (1))) (wCons (wC (DL.D.int (0))) wNil))) (wCons (wTup (wCons (wC (DL.D.int (0))) (wCons (wNeg (wC (DL.D.int (1)))) wNil))) (wCons (wTup (wCons (wVar 3) (wCons (wVar 3) wNil))) (wCons (wTup (wCons (wVar 3) (wCons (wC (DL.D.int (0))) wNil))) (wCons (wTup (wCons (wNeg (wVar 3)) (wCons (wVar 1) wNil))) (wCons (wTup (wCons (wNeg (wC (DL.D.int (100000)))) (wCons (wC (DL.D.int (100000))) wNil))) wNil)))))))) (Tg.name 4))
  (wSeq (gFor (wRange1 (wCons (wC (DL.D.int (3))) wNil)) (Tg.name 5) w__law_fold_right_for0)
  (wSeq (gFor (wSeqI (wVar 4)) (Tg.name 6) w__law_fold_right_for2)
  (wRet (wC (DL.D.bl true)))))))
def w__law_plan_for0 : WS := (wSeq (wAsg (wOp DL.rAddG (wOp DL.rAddG (wOp DL.rIxG (wVar 4) (gFn c__law_take 2 (wCons (wVar 0) (wCons (wC (DL.D.int (26))) wNil)))) (wOp DL.rMulG (wOp DL.rIxG (wVar 4) (gFn c__law_take 2 (wCons (wVar 0) (wCons (wC (DL.D.int (36))) wNil)))) (gFn c__law_pick 3 (wCons (wVar 0) (wCons (wC (DL.D.int (36))) (wCons (wC (DL.D.int (7))) wNil)))))) (wOp DL.rIxG (wVar 4) (wVar 6))) (Tg.name 13))
  (wDrop (wMeth mAppend (wVar 5) (wCons (wTup (wCons (wVar 13) (wCons (gFn c__law_near 3 (wCons (wVar 0) (wCons (wC (DL.D.int (40))) (wCons (wC (DL.D.int (50))) wNil)))) (wCons (gFn c__law_near 3 (wCons (wVar 0) (wCons (wC (DL.D.int (42))) (wCons (wC (DL.D.int (50))) wNil)))) wNil)))) wNil))))
def w__law_plan_for1 : WS := (wSeq (wAsg (wOp DL.rAddG (wOp DL.rIxG (wVar 4) (gFn c__law_take 2 (wCons (wVar 0) (wCons (wC (DL.D.int (26))) wNil)))) (wOp DL.rIxG (wVar 4) (gFn c__law_take 2 (wCons (wVar 0) (wCons (wC (DL.D.int (36))) wNil))))) (Tg.name 14))
  (wDrop (wMeth mAppend (wVar 7) (wCons (wTup (wCons (wVar 14) (wCons (wCall rTuple (wCons (gComp (wRange1 (wCons (wC (DL.D.int (4))) wNil)) (Tg.name 6) wYes (gFn c__law_near 3 (wCons (wVar 0) (wCons (wOp DL.rAddG (wC (DL.D.int (50))) (wOp DL.rMulG (wC (DL.D.int (2))) (wVar 6))) (wCons (wC (DL.D.int (4))) wNil)))) [6]) wNil)) wNil))) wNil))))
def w__law_plan_s6 : WS := (wSeq (wAsg (wC (DL.D.str "abcdefghijklmnopqrstuvwxyz0123456789")) (Tg.name 4))
  (wSeq (wAsg (wNew wNil) (Tg.name 5))
  (wSeq (gFor (wRange1 (wCons (wVar 1) wNil)) (Tg.name 6) w__law_plan_for0)
  (wSeq (wAsg (wCall rSortedN (wCons (wVar 5) wNil)) (Tg.name 5))
  (wSeq (wAsg (wNew wNil) (Tg.name 7))
  (wSeq (gFor (wRange1 (wCons (wVar 2) wNil)) (Tg.name 8) w__law_plan_for1)
  (wSeq (wAsg (wCall rSSetI (wCons (gComp (wRange1 (wCons (wVar 3) wNil)) (Tg.name 6) wYes (wOp DL.rAddG (wC (DL.D.int (1))) (gFn c__law_pick 3 (wCons (wVar 0) (wCons (wC (DL.D.int (60))) (wCons (wC (DL.D.int (100))) wNil))))) [6]) wNil)) (Tg.name 9))
  (wSeq (wAsg (wOp DL.rIxG (wTup (wCons (wC (DL.D.int (0))) (wCons (wOp DL.rAddG (wC (DL.D.int (2))) (gFn c__law_pick 3 (wCons (wVar 0) (wCons (wC (DL.D.int (61))) (wCons (wC (DL.D.int (23))) wNil))))) wNil))) (gFn c__law_pick 3 (wCons (wVar 0) (wCons (wC (DL.D.int (62))) (wCons (wC (DL.D.int (2))) wNil))))) (Tg.name 10))
  (wSeq (wAsg (wOp DL.rIxG (wTup (wCons (wTup (wCons (wC (DL.D.int (12))) (wCons (wC (DL.D.int (11))) wNil))) (wCons (wTup (wCons (wC (DL.D.int (0))) (wCons (wNeg (wC (DL.D.int (1)))) wNil))) (wCons (wTup (wCons (wC (DL.D.int (0))) (wCons (wC (DL.D.int (1))) wNil))) (wCons (wTup (wCons (wC (DL.D.int (9))) (wCons (wC (DL.D.int (8))) wNil))) (wCons (wTup (wCons (wC (DL.D.int (8))) (wCons (wC (DL.D.int (3))) wNil))) (wCons (wTup (wCons (wC (DL.D.int (10000))) (wCons (wC (DL.D.int (1))) wNil))) wNil))))))) (gFn c__law_pick 3 (wCons (wVar 0) (wCons (wC (DL.D.int (63))) (wCons (wC (DL.D.int (6))) wNil))))) (Tg.name 11))
  (wSeq (wAsg (wCall rSorted (wCons (gComp (wSeqI (wVar 5)) (Tg.name 15) wYes (wTup (wCons (wOp DL.rIxG (wVar 15) (wC (DL.D.int (0)))) (wCons (wOp DL.rIxG (wVar 15) (wC (DL.D.int (0)))) (wCons (wC (DL.D.str "flat")) (wCons (wC (DL.D.int (0))) (wCons (wOp DL.rSub (wVar 2) (wC (DL.D.int (1)))) (wCons (wC (DL.D.int (1))) (wCons (wC (DL.D.int (100))) wNil)))))))) [15]) wNil)) (Tg.name 12))
  (wRet (wTup (wCons (wVar 11) (wCons (wVar 10) (wCons (wCall rTuple (wCons (wVar 5) wNil)) (wCons (wCall rTuple (wCons (wVar 7) wNil)) (wCons (wCall rTuple (wCons (wVar 9) wNil)) (wCons (wCall rTuple (wCons (wVar 12) wNil)) wNil))))))))))))))))))
def w__law_plan : WS := (wSeq (wAsg (wOp DL.rAddG (wC (DL.D.int (2))) (gFn c__law_pick 3 (wCons (wVar 0) (wCons (wC (DL.D.int (30))) (wCons (wC (DL.D.int (3))) wNil))))) (Tg.name 1))
  (wSeq (wAsg (wOp DL.rAddG (wC (DL.D.int (1))) (gFn c__law_pick 3 (wCons (wVar 0) (wCons (wC (DL.D.int (31))) (wCons (wC (DL.D.int (4))) wNil))))) (Tg.name 2))
  (wSeq (wAsg (wOp DL.rAddG (wC (DL.D.int (1))) (gFn c__law_pick 3 (wCons (wVar 0) (wCons (wC (DL.D.int (32))) (wCons (wC (DL.D.int (3))) wNil))))) (Tg.name 3))
  (wSeq (gIf (wTest (wOp DL.rEq (gFn c__law_pick 3 (wCons (wVar 0) (wCons (wC (DL.D.int (33))) (wCons (wC (DL.D.int (5))) wNil)))) (wC (DL.D.int (0))))) (wAsg (wC (DL.D.int (12))) (Tg.name 1)) wNext)
  (wSeq (gIf (wTest (wOp DL.rEq (gFn c__law_pick 3 (wCons (wVar 0) (wCons (wC (DL.D.int (34))) (wCons (wC (DL.D.int (5))) wNil)))) (wC (DL.D.int (0))))) (wAsg (wC (DL.D.int (40))) (Tg.name 2)) wNext)
  (wSeq (gIf (wTest (wOp DL.rEq (gFn c__law_pick 3 (wCons (wVar 0) (wCons (wC (DL.D.int (35))) (wCons (wC (DL.D.int (5))) wNil)))) (wC (DL.D.int (0))))) (wAsg (wC (DL.D.int (12))) (Tg.name 3)) wNext)
  (Tail w__law_plan_s6)))))))
def w__law_place : WS := (wSeq (wAsg (wOp DL.rAddG (wOp DL.rMulG (wOp DL.rIxG (wOp DL.rIxG (wOp DL.rIxG (wOp DL.rIxG (wVar 0) (wC (DL.D.int (3)))) (wVar 1)) (wC (DL.D.int (1)))) (wC (DL.D.int (0)))) (wOp DL.rIxG (wVar 2) (wC (DL.D.int (1))))) (wOp DL.rMulG (wOp DL.rIxG (wOp DL.rIxG (wOp DL.rIxG (wOp DL.rIxG (wVar 0) (wC (DL.D.int (3)))) (wVar 1)) (wC (DL.D.int (1)))) (wC (DL.D.int (1)))) (wOp DL.rIxG (wVar 2) (wC (DL.D.int (2)))))) (Tg.name 3))
  (wSeq (wAsg (wOp DL.rAddG (wOp DL.rMulG (wOp DL.rIxG (wOp DL.rIxG (wOp DL.rIxG (wOp DL.rIxG (wVar 0) (wC (DL.D.int (3)))) (wVar 1)) (wC (DL.D.int (1)))) (wC (DL.D.int (2)))) (wOp DL.rIxG (wVar 2) (wC (DL.D.int (1))))) (wOp DL.rMulG (wOp DL.rIxG (wOp DL.rIxG (wOp DL.rIxG (wOp DL.rIxG (wVar 0) (wC (DL.D.int (3)))) (wVar 1)) (wC (DL.D.int (1)))) (wC (DL.D.int (3)))) (wOp DL.rIxG (wVar 2) (wC (DL.D.int (2)))))) (Tg.name 4))
  (wRet (wTup (wCons (wVar 3) (wCons (wVar 4) wNil))))))
def w__law_seen_right : WS := (wSeq (wAsg (gFn c__law_place 3 (wCons (wVar 0) (wCons (wVar 1) (wCons (wVar 3) wNil)))) (Tg.name 5))
  (wSeq (wAsg (gFn c__law_place 3 (wCons (wVar 0) (wCons (wVar 1) (wCons (wVar 4) wNil)))) (Tg.name 6))
  (wSeq (gIf (gOr (wNot (wTru (gFn c__law_is_pair 2 (wCons (gFn c_place_at 3 (wCons (wVar 0) (wCons (wVar 1) (wCons (wOp DL.rIxG (wVar 3) (wC (DL.D.int (0)))) wNil)))) (wCons (wVar 5) wNil))))) (wNot (wTru (gFn c__law_is_pair 2 (wCons (gFn c_place_at 3 (wCons (wVar 0) (wCons (wVar 1) (wCons (wOp DL.rIxG (wVar 4) (wC (DL.D.int (0)))) wNil)))) (wCons (wVar 6) wNil)))))) (wRet (wC (DL.D.bl false))) wNext)
  (wSeq (wAsg (gFn c__law_folded 2 (wCons (wOp DL.rIxG (wVar 0) (wC (DL.D.int (1)))) (wCons (wTup (wCons (wOp DL.rMulG (wVar 2) (wOp DL.rSub (wOp DL.rIxG (wVar 6) (wC (DL.D.int (0)))) (wOp DL.rIxG (wVar 5) (wC (DL.D.int (0)))))) (wCons (wOp DL.rMulG (wVar 2) (wOp DL.rSub (wOp DL.rIxG (wVar 6) (wC (DL.D.int (1)))) (wOp DL.rIxG (wVar 5) (wC (DL.D.int (1)))))) wNil))) wNil))) (Tg.name 7))
  (wSeq (wAsg (gFn c__law_folded 2 (wCons (wOp DL.rIxG (wVar 0) (wC (DL.D.int (1)))) (wCons (wTup (wCons (wOp DL.rMulG (wVar 2) (wOp DL.rSub (wOp DL.rIxG (wVar 5) (wC (DL.D.int (0)))) (wOp DL.rIxG (wVar 6) (wC (DL.D.int (0)))))) (wCons (wOp DL.rMulG (wVar 2) (wOp DL.rSub (wOp DL.rIxG (wVar 5) (wC (DL.D.int (1)))) (wOp DL.rIxG (wVar 6) (wC (DL.D.int (1)))))) wNil))) wNil))) (Tg.name 8))
  (wSeq (gIf (wNot (wTru (gFn c__law_is_pair 2 (wCons (gFn c_key_seen 5 (wCons (wVar 0) (wCons (wVar 1) (wCons (wVar 2) (wCons (wOp DL.rIxG (wVar 3) (wC (DL.D.int (0)))) (wCons (wOp DL.rIxG (wVar 4) (wC (DL.D.int (0)))) wNil)))))) (wCons (wVar 7) wNil))))) (wRet (wC (DL.D.bl false))) wNext)
  (wRet (gFn c__law_is_pair 2 (wCons (gFn c_key_seen 5 (wCons (wVar 0) (wCons (wVar 1) (wCons (wVar 2) (wCons (wOp DL.rIxG (wVar 4) (wC (DL.D.int (0)))) (wCons (wOp DL.rIxG (wVar 3) (wC (DL.D.int (0)))) wNil)))))) (wCons (wVar 8) wNil))))))))))
def w_law_for0 : WS := (wDrop (wMeth mAppend (wVar 2) (wCons (wOp DL.rAddG (wC (DL.D.int (2))) (gFn c__law_pick 3 (wCons (wVar 1) (wCons (wOp DL.rAddG (wC (DL.D.int (3))) (wVar 3)) (wCons (wC (DL.D.int (23))) wNil))))) wNil)))
def w_law_for1 : WS := (gIf (wNot (wTru (gFn c__law_fold_right 3 (wCons (wVar 1) (wCons (wVar 5) (wCons (wVar 4) wNil)))))) (wRet (wC (DL.D.bl false))) wNext)
def w_law_for2 : WS := (wSeq (wAsg (gFn c__law_pick 3 (wCons (wVar 1) (wCons (wC (DL.D.int (70))) (wCons (wCall rLen (wCons (wOp DL.rIxG (wVar 6) (wC (DL.D.int (3)))) wNil)) wNil)))) (Tg.name 9))
  (wSeq (wAsg (wOp DL.rAddG (wC (DL.D.int (1))) (gFn c__law_pick 3 (wCons (wVar 1) (wCons (wC (DL.D.int (71))) (wCons (wC (DL.D.int (100))) wNil))))) (Tg.name 10))
  (wSeq (gIf (wTest (wOp DL.rGtD (wVar 8) (wC (DL.D.int (3))))) (wAsg (wOp DL.rIxG (wOp DL.rIxG (wVar 6) (wC (DL.D.int (4)))) (gFn c__law_pick 3 (wCons (wVar 1) (wCons (wC (DL.D.int (72))) (wCons (wCall rLen (wCons (wOp DL.rIxG (wVar 6) (wC (DL.D.int (4)))) wNil)) wNil))))) (Tg.name 10)) wNext)
  (wSeq (wAsg (wOp DL.rIxG (wOp DL.rIxG (wVar 6) (wC (DL.D.int (2)))) (gFn c__law_take 2 (wCons (wVar 1) (wCons (wCall rLen (wCons (wOp DL.rIxG (wVar 6) (wC (DL.D.int (2)))) wNil)) wNil)))) (Tg.name 11))
  (wSeq (wAsg (wOp DL.rIxG (wOp DL.rIxG (wVar 6) (wC (DL.D.int (2)))) (gFn c__law_take 2 (wCons (wVar 1) (wCons (wCall rLen (wCons (wOp DL.rIxG (wVar 6) (wC (DL.D.int (2)))) wNil)) wNil)))) (Tg.name 12))
  (gIf (wNot (wTru (gFn c__law_seen_right 5 (wCons (wVar 7) (wCons (wVar 9) (wCons (wVar 10) (wCons (wVar 11) (wCons (wVar 12) wNil)))))))) (wRet (wC (DL.D.bl false))) wNext))))))
def w_law_for3 : WS := (wSeq (wAsg (wOp DL.rAddG (wTup (wCons (wOp DL.rIxG (wVar 6) (wC (DL.D.int (0)))) (wCons (wVar 5) wNil))) (wSl DL.rSl (wVar 6) (wPart (wC (DL.D.int (2)))) wNoPart)) (Tg.name 7))
  (gFor (wRange1 (wCons (wC (DL.D.int (8))) wNil)) (Tg.name 8) w_law_for2))
def w_law_for4 : WS := (wSeq (wAsg (gFn c__law_plan 1 (wCons (wVar 1) wNil)) (Tg.name 6))
  (gFor (wSeqI (wTup (wCons (wOp DL.rIxG (wVar 6) (wC (DL.D.int (1)))) (wCons (wOp DL.rIxG (wVar 2) (wC (DL.D.int (1)))) wNil)))) (Tg.name 5) w_law_for3))
def w_law_s6 : WS := (wSeq (gFor (wRange1 (wCons (wC (DL.D.int (2))) wNil)) (Tg.name 3) w_law_for4)
  (wRet (gAndV (wOp DL.rGtD (wOp DL.rIxG (wVar 4) (wC (DL.D.int (0)))) (wC (DL.D.int (0)))) (gAndV (wOp DL.rGtD (wOp DL.rIxG (wVar 4) (wC (DL.D.int (1)))) (wC (DL.D.int (0)))) (wOp DL.rGtD (wOp DL.rIxG (wVar 4) (wC (DL.D.int (2)))) (wC (DL.D.int (0))))))))
def w_law_s4 : WS := (wSeq (wAsg (wNew (wCons (wC (DL.D.int (0))) (wCons (wC (DL.D.int (0))) (wCons (wC (DL.D.int (0))) wNil)))) (Tg.name 4))
  (wSeq (gFor (wSeqI (wVar 2)) (Tg.name 5) w_law_for1)
  (Tail w_law_s6)))
def w_law : WS := (wSeq (wAsg (gFn c__law_pool 1 (wCons (wVar 0) wNil)) (Tg.name 1))
  (wSeq (wAsg (wNew (wCons (wC (DL.D.int (0))) (wCons (wOp DL.rAddG (wC (DL.D.int (3))) (gFn c__law_pick 3 (wCons (wVar 1) (wCons (wC (DL.D.int (1))) (wCons (wC (DL.D.int (22))) wNil))))) (wCons (wOp DL.rAddG (wC (DL.D.int (2))) (wOp DL.rMulG (wC (DL.D.int (2))) (gFn c__law_pick 3 (wCons (wVar 1) (wCons (wC (DL.D.int (2))) (wCons (wC (DL.D.int (12))) wNil)))))) wNil)))) (Tg.name 2))
  (wSeq (gFor (wRange1 (wCons (wC (DL.D.int (3))) wNil)) (Tg.name 3) w_law_for0)
  (wSeq (gIf (wTest (wOp DL.rEq (gFn c__law_take 2 (wCons (wVar 1) (wCons (wC (DL.D.int (7))) wNil))) (wC (DL.D.int (2))))) (wAsg (wOp DL.rAddG (wNew (wCons (wC (DL.D.int (0))) wNil)) (wRgTo mkNew (wCons (wC (DL.D.int (2))) (wCons (wC (DL.D.int (25))) wNil)))) (Tg.name 2)) wNext)
  (Tail w_law_s4)))))
end K15

set_option maxHeartbeats 1000000
namespace K15
open PySem PySem.Spec PyProof.Rows L2 DL
set_option pp.deepTerms false
set_option pp.deepTerms.threshold 4
set_option pp.maxSteps 400
local macro_rules | `(tactic| walk_at "w") => `(tactic| conv => whnf)
local macro_rules | `(tactic| walk_at "side") => `(tactic| first | exact True.intro | omega | with_reducible assumption | (simp only [sizeLine_eq, List.length_append, List.length_cons, List.length_nil, List.length_map, List.length_set]; omega) | exact (rfl : _ = _) | exact Int.mul_pos (by omega) (by omega) | exact DL.MulOk.l (by omega) (by omega) | exact DL.MulOk.r (by omega) (by omega) | exact DL.MulOk.big (by omega) (by omega) | exact DL.DivOk.of (by omega) (by omega) | (unfold CPow; decide) | (intro hh; cases hh; done))
local macro_rules | `(tactic| walk_at "call") => `(tactic| fail "no contract")
local macro_rules | `(tactic| walk_at "go1") => `(tactic| ((conv => whnf); first | (refine And.intro ?_ ?_; ((walk_at "side"))) | walk_at "call" | (refine cIf_t rfl ?_) | refine cIf_f rfl ?_))
local macro_rules | `(tactic| walk_at "go") => `(tactic| ((repeat (walk_at "go1")); try (conv => whnf)))
local macro_rules | `(tactic| walk_at "yes") => `(tactic| (refine cIf_t (by first | rfl | simp | (simp; omega)) ?_; walk_at "go"))
local macro_rules | `(tactic| walk_at "no") => `(tactic| (refine cIf_f (by first | rfl | simp | (simp; omega)) ?_; walk_at "go"))
local macro_rules | `(tactic| walk_at "goS") => `(tactic| ((repeat' (first | walk_at "go1" | ((conv => whnf); refine cIf_d (fun h => ?_) (fun h => ?_)))); all_goals (try (conv => whnf))))
theorem rst_zero {i m : Int} (h : m = 0) : rst i m = i := if_pos h
theorem rst_pos {i m : Int} (h : m ≠ 0) : rst i m = i % m := if_neg h
theorem v_rest_of (ds : List D) (S : Store) (Q0 : D → Store → Prop) (hl : ds.length = 2) (hc : closedS S) (hd : closedL S.length ds) (h : c_rest_of ds S Q0) : w_rest_of (EX S Q0) (ds.map some ++ List.replicate 0 none) S := by
  obtain ⟨i, m, rfl, hm, q⟩ := h
  walk_at "go"
  refine cIf_d (fun h => ?_) (fun h => ?_)
  · walk_at "go"
    exact Exit.all (by rw [rst_zero h] at q; exact q)
  · walk_at "go"
    exact Exit.all (by rw [rst_pos h] at q; exact q)
theorem rest_k {i m : Int} {S : Store} {Q : D → Store → Prop} (h : 0 ≤ m) (q : Q (.int (rst i m)) S) : askC c_rest_of [.int i, .int m] S Q := ask_in ⟨i, m, rfl, h, q⟩
local macro_rules | `(tactic| walk_at "call") => `(tactic| ((with_reducible show askC c_rest_of _ _ _); refine rest_k ?_ ?_; (walk_at "side")))
theorem v_folded_key (ds : List D) (S : Store) (Q0 : D → Store → Prop) (hl : ds.length = 2) (hc : closedS S) (hd : closedL S.length ds) (h : c_folded_key ds S Q0) : w_folded_key (EX S Q0) (ds.map some ++ List.replicate 0 none) S := by
  obtain ⟨f, a, b, rfl, hm, q⟩ := h
  walk_at "go"
  exact Exit.all q
theorem folded_k {f a b : Int} {S : Store} {Q : D → Store → Prop} (h : 0 ≤ f) (q : Q (pr (rst a f) (rst b f)) S) : askC c_folded_key [.int f, .tup [.int a, .int b]] S Q := ask_in ⟨f, a, b, rfl, h, q⟩
local macro_rules | `(tactic| walk_at "call") => `(tactic| ((with_reducible show askC c_folded_key _ _ _); refine folded_k ?_ ?_; (walk_at "side")))
theorem v_other_key (ds : List D) (S : Store) (Q0 : D → Store → Prop) (hl : ds.length = 2) (hc : closedS S) (hd : closedL S.length ds) (h : c_other_key ds S Q0) : w_other_key (EX S Q0) (ds.map some ++ List.replicate 0 none) S := by
  obtain ⟨f, a, b, rfl, hm, q⟩ := h
  walk_at "go"
  exact Exit.all q
theorem other_k {f a b : Int} {S : Store} {Q : D → Store → Prop} (h : 0 ≤ f) (q : Q (pr (rst (-a) f) (rst (-b) f)) S) : askC c_other_key [.int f, .tup [.int a, .int b]] S Q := ask_in ⟨f, a, b, rfl, h, q⟩
local macro_rules | `(tactic| walk_at "call") => `(tactic| ((with_reducible show askC c_other_key _ _ _); refine other_k ?_ ?_; (walk_at "side")))
theorem v_lead_key (ds : List D) (S : Store) (Q0 : D → Store → Prop) (hl : ds.length = 2) (hc : closedS S) (hd : closedL S.length ds) (h : c_lead_key ds S Q0) : w_lead_key (EX S Q0) (ds.map some ++ List.replicate 1 none) S := by
  obtain ⟨f, a, b, rfl, hm, q⟩ := h
  walk_at "go"
  refine ⟨by simp [pr, D.py], ?_⟩
  have e : ltD (pr a b) (pr (rst (-a) f) (rst (-b) f)) = lexG (rst (-a) f) (rst (-b) f) a b := by
    unfold pr lexG
    rw [ltD_pr]
  unfold leadD at q
  walk_at "go"
  refine cIf_b (fun h => ?_) (fun h => ?_)
  · have h' : ltD (pr a b) (pr (rst (-a) f) (rst (-b) f)) = true := h
    rw [e] at h'
    rw [if_pos h'] at q
    walk_at "go"
    exact Exit.all q
  · have h' : ltD (pr a b) (pr (rst (-a) f) (rst (-b) f)) = false := h
    rw [e] at h'
    rw [if_neg (by rw [h']; decide)] at q
    walk_at "go"
    exact Exit.all q
theorem v_is_self_key (ds : List D) (S : Store) (Q0 : D → Store → Prop) (hl : ds.length = 2) (hc : closedS S) (hd : closedL S.length ds) (h : c_is_self_key ds S Q0) : w_is_self_key (EX S Q0) (ds.map some ++ List.replicate 0 none) S := by
  obtain ⟨f, a, b, rfl, hm, q⟩ := h
  walk_at "go"
  refine Exit.all ?_
  unfold pr
  rw [eqv2]
  exact q
theorem st_inj {r o : Row} (h : r.nm = o.nm) {l : List Row} (nd : (l.map Row.nm).Nodup) (hr : r ∈ l) (ho : o ∈ l) : r = o := by
  induction l with
  | nil => cases hr
  | cons z l ih =>
    rw [List.map_cons, List.nodup_cons] at nd
    rcases List.mem_cons.mp hr with rfl | hr' <;> rcases List.mem_cons.mp ho with rfl | ho'
    · rfl
    · exact absurd (List.mem_map.mpr ⟨o, ho', h.symm⟩) nd.1
    · exact absurd (List.mem_map.mpr ⟨r, hr', h⟩) nd.1
    · exact ih nd.2 hr' ho'
theorem v_place_of (ds : List D) (S : Store) (Q0 : D → Store → Prop) (hl : ds.length = 2) (hc : closedS S) (hd : closedL S.length ds) (h : c_place_of ds S Q0) : w_place_of (EX S Q0) (ds.map some ++ List.replicate 3 none) S := by
  obtain ⟨p, r, rfl, ok, hr, q⟩ := h
  walk_at "go"
  refine forG_list (enc := stD) (fun i ρ S' => S' = S ∧ (∀ j, j < i → (p.rows[j]?).map Row.nm ≠ some r.nm) ∧ ∃ x y z, ρ = [some (planD p), some (.str r.nm), x, y, z]) ⟨rfl, by omega, _, _, _, rfl⟩ ?_ ?_
  · rintro i o ρ S' k ho ⟨rfl, hj, x, y, z, rfl⟩ hk
    refine ⟨trivial, _, rfl, ?_⟩
    walk_at "go"
    refine cIf_d (fun h => ?_) (fun h => ?_)
    · have e := st_inj h ok.nd (List.mem_of_getElem? ho) hr
      subst e
      walk_at "go"
      exact Exit.all q
    · walk_at "go"
      refine hk _ _ ⟨rfl, fun j hj' => ?_, _, _, _, rfl⟩
      by_cases e : j = i
      · subst e
        rw [ho]
        simpa using h
      · exact hj j (by omega)
  · rintro ρ S' ⟨rfl, hj, x, y, z, rfl⟩
    obtain ⟨j, hj1, hj2⟩ := List.getElem_of_mem hr
    refine absurd ?_ (hj j hj1)
    rw [List.getElem?_eq_getElem hj1, hj2]
    rfl
theorem place_k {p : Plan} {r : Row} {S : Store} {Q : D → Store → Prop} (ok : p.Ok) (hr : r ∈ p.rows) (q : Q (pr r.x r.y) S) : askC c_place_of [planD p, .str r.nm] S Q := ask_in ⟨p, r, rfl, ok, hr, q⟩
theorem at_list {α : Type} {f : α → D} {l : List α} {n : Nat} {x : α} (h : l[n]? = some x) : atD (l.map f) (n : Int) = some (f x) := by
  rw [atD_cast, List.getElem?_map, h]
  rfl
theorem v_place_at (ds : List D) (S : Store) (Q0 : D → Store → Prop) (hl : ds.length = 3) (hc : closedS S) (hd : closedL S.length ds) (h : c_place_at ds S Q0) : w_place_at (EX S Q0) (ds.map some ++ List.replicate 6 none) S := by
  obtain ⟨p, r, b, s, rfl, ok, hr, hs, q⟩ := h
  have sx := ok.sx s (List.mem_of_getElem? hs)
  walk_at "go"
  refine place_k ok hr ?_
  walk_at "go"
  rw [at_list hs]
  walk_at "go"
  exact Exit.all q
theorem v_key_seen (ds : List D) (S : Store) (Q0 : D → Store → Prop) (hl : ds.length = 5) (hc : closedS S) (hd : closedL S.length ds) (h : c_key_seen ds S Q0) : w_key_seen (EX S Q0) (ds.map some ++ List.replicate 2 none) S := by
  obtain ⟨p, r, o, b, s, ch, rfl, ok, hr, ho, hs, h1, h2, q⟩ := h
  have f0 := ok.fold0
  walk_at "go"
  refine ask_in ⟨p, r, b, s, rfl, ok, hr, hs, ?_⟩
  walk_at "go"
  refine ask_in ⟨p, o, b, s, rfl, ok, ho, hs, ?_⟩
  walk_at "go"
  exact Exit.all q
end K15

set_option maxHeartbeats 1000000
namespace K15
open PySem PySem.Spec PyProof.Rows L2 DL
local macro_rules | `(tactic| walk_at "w") => `(tactic| conv => whnf)
local macro_rules | `(tactic| walk_at "side") => `(tactic| first | exact True.intro | omega | with_reducible assumption | (simp only [sizeLine_eq, List.length_append, List.length_cons, List.length_nil, List.length_map, List.length_set]; omega) | exact (rfl : _ = _) | exact Int.mul_pos (by omega) (by omega) | exact DL.MulOk.l (by omega) (by omega) | exact DL.MulOk.r (by omega) (by omega) | exact DL.MulOk.big (by omega) (by omega) | exact DL.DivOk.of (by omega) (by omega) | (unfold CPow; decide) | (intro hh; cases hh; done))
local macro_rules | `(tactic| walk_at "call") => `(tactic| fail "no contract")
local macro_rules | `(tactic| walk_at "go1") => `(tactic| ((conv => whnf); first | (refine And.intro ?_ ?_; ((walk_at "side"))) | walk_at "call" | (refine cIf_t rfl ?_) | refine cIf_f rfl ?_))
local macro_rules | `(tactic| walk_at "go") => `(tactic| ((repeat (walk_at "go1")); try (conv => whnf)))
local macro_rules | `(tactic| walk_at "yes") => `(tactic| (refine cIf_t (by first | rfl | simp | (simp; omega)) ?_; walk_at "go"))
local macro_rules | `(tactic| walk_at "no") => `(tactic| (refine cIf_f (by first | rfl | simp | (simp; omega)) ?_; walk_at "go"))
local macro_rules | `(tactic| walk_at "goS") => `(tactic| ((repeat' (first | walk_at "go1" | ((conv => whnf); refine cIf_d (fun h => ?_) (fun h => ?_)))); all_goals (try (conv => whnf))))
local macro_rules | `(tactic| walk_at "call") => `(tactic| ((with_reducible show askC c_rest_of _ _ _); refine rest_k ?_ ?_; (walk_at "side")))
local macro_rules | `(tactic| walk_at "call") => `(tactic| ((with_reducible show askC c_folded_key _ _ _); refine folded_k ?_ ?_; (walk_at "side")))
local macro_rules | `(tactic| walk_at "call") => `(tactic| ((with_reducible show askC c_other_key _ _ _); refine other_k ?_ ?_; (walk_at "side")))
local macro_rules | `(tactic| walk_at "call") => `(tactic| ((with_reducible show askC c__law_take _ _ _); refine take_k ?_ ?_ ?_; (walk_at "side"); (walk_at "side"); intro d p' h0 h1))
local macro_rules | `(tactic| walk_at "call") => `(tactic| ((with_reducible show askC c__law_pick _ _ _); refine pick_k ?_ ?_ ?_; (walk_at "side"); (walk_at "side"); intro d p' h0 h1))
local macro_rules | `(tactic| walk_at "call") => `(tactic| ((with_reducible show askC c__law_near _ _ _); refine near_k ?_ ?_ ?_; (walk_at "side"); (walk_at "side"); intro d p' h0 h1))
local macro_rules | `(tactic| walk_at "call") => `(tactic| ((with_reducible show askC c__law_integer _ _ _); refine int_k ?_ ?_ ?_; (walk_at "side"); (walk_at "side"); intro d p' h0 h1))
local macro_rules | `(tactic| walk_at "call") => `(tactic| ((with_reducible show askC c__law_folded _ _ _); refine lfolded_k ?_ ?_; (walk_at "side")))
local macro_rules | `(tactic| walk_at "call") => `(tactic| ((with_reducible show askC c__law_is_pair _ _ _); refine pair_k ?_))

theorem pool_loop (ns : List Int) (Q0 : D → Store → Prop) (q : ∀ p : PoolSt, Q0 (.ref 1) (mkP p [])) (D0 : EndsD) (hD : ∀ (gr : List Int) (sd : Int) (x y z : Option D), D0.nx [some (.lst (ns.map .int)), some (.ref 0), some (.int sd), x, y, z] [.lst (gr.map .int)]) (ms : List Int) (hm : ms.length ≤ 63) :
    forG (Tg.tup [Tg.name 3, Tg.name 4]) w__law_pool_for0 (fun _ => True) D0 (enumD 0 (ms.map D.int)) [some (.lst (ns.map .int)), some (.ref 0), some (.int 51001), none, none, none] [.lst []] := by
  refine forG_enum (fun i ρ S => ∃ (gr : List Int) (sd : Int) (x y z : Option D), gr.length ≤ i ∧ ρ = [some (.lst (ns.map .int)), some (.ref 0), some (.int sd), x, y, z] ∧ S = [.lst (gr.map .int)]) ⟨[], 51001, none, none, none, Nat.le_refl _, rfl, rfl⟩ ?_ ?_
  · rintro i c ρ S k hi ⟨gr, sd, x, y, z, hg, rfl, rfl⟩ hk
    have hl := (List.getElem?_eq_some_iff.mp hi).1
    refine ⟨trivial, _, rfl, ?_⟩
    walk_at "goS"
    · exact hk _ _ ⟨gr ++ [if c < 0 then -c else c], _, _, _, _, by simp; omega, rfl, by rw [List.map_append]; rfl⟩
    · exact hk _ _ ⟨gr, _, _, _, _, by omega, rfl, rfl⟩
  · rintro ρ S ⟨gr, sd, x, y, z, _, rfl, rfl⟩
    exact ⟨trivial, hD gr sd x y z⟩
theorem v__law_pool (ds : List D) (S : Store) (Q0 : D → Store → Prop) (hl : ds.length = 1) (hc : closedS S) (hd : closedL S.length ds) (h : c__law_pool ds S Q0) : w__law_pool (EX S Q0) (ds.map some ++ List.replicate 5 none) S := by
  obtain ⟨ns, rfl, rfl, hn, q⟩ := h
  walk_at "go"
  rw [cutD_map]
  refine pool_loop ns Q0 q _ (fun gr sd x y z => ?_) _ (Nat.le_trans cutD_len hn)
  walk_at "go"
  exact Exit.all (q ⟨gr, sd, 0⟩)
theorem v__law_take (ds : List D) (S : Store) (Q0 : D → Store → Prop) (hl : ds.length = 2) (hc : closedS S) (hd : closedL S.length ds) (h : c__law_take ds S Q0) : w__law_take (EX S Q0) (ds.map some ++ List.replicate 2 none) S := by
  obtain ⟨many, p, G, rfl, rfl, h0, h1, q⟩ := h
  rcases p with ⟨gr, sd, n⟩
  cases gr with
  | nil =>
    walk_at "go"
    refine Exit.all (q _ ⟨[], sd, n + 1⟩ (Int.emod_nonneg _ (by omega)) (Int.emod_lt_of_pos _ h0))
  | cons c gr =>
    walk_at "go"
    refine cIf_d (fun h => ?_) (fun h => ?_)
    · walk_at "go"
      exact Exit.all (q _ ⟨gr, sd, n + 1⟩ (Int.emod_nonneg _ (by omega)) (Int.emod_lt_of_pos _ h0))
    · walk_at "go"
      exact Exit.all (q _ ⟨c / many :: gr, sd, n + 1⟩ (Int.emod_nonneg _ (by omega)) (Int.emod_lt_of_pos _ h0))
theorem take_k {many : Int} {p : PoolSt} {G : Store} {Q : D → Store → Prop} (h0 : 0 < many) (h1 : many < 2 ^ 60) (q : ∀ (d : Int) (p' : PoolSt), 0 ≤ d → d < many → Q (.int d) (mkP p' G)) : askC c__law_take [.ref 1, .int many] (mkP p G) Q := ask_in ⟨many, p, G, rfl, rfl, h0, h1, q⟩
local macro_rules | `(tactic| walk_at "call") => `(tactic| ((with_reducible show askC c__law_take _ _ _); refine take_k ?_ ?_ ?_; (walk_at "side"); (walk_at "side"); intro d p' h0 h1))
theorem v__law_pick (ds : List D) (S : Store) (Q0 : D → Store → Prop) (hl : ds.length = 3) (hc : closedS S) (hd : closedL S.length ds) (h : c__law_pick ds S Q0) : w__law_pick (EX S Q0) (ds.map some ++ List.replicate 1 none) S := by
  obtain ⟨pl, many, p, G, rfl, rfl, h0, h1, q⟩ := h
  rcases p with ⟨gr, sd, n⟩
  cases gr with
  | nil =>
    walk_at "goS"
    · exact Exit.all (q _ _ (by omega) (by omega))
    · exact Exit.all (q _ _ (by omega) (by omega))
    · exact Exit.all (q _ _ (Int.emod_nonneg _ (by omega)) (Int.emod_lt_of_pos _ h0))
    · exact Exit.all (q _ _ (by assumption) (by assumption))
    · exact Exit.all (q _ _ (by assumption) (by assumption))
  | cons c gr =>
    walk_at "go"
    exact Exit.all (q _ _ (by assumption) (by assumption))
theorem pick_k {pl many : Int} {p : PoolSt} {G : Store} {Q : D → Store → Prop} (h0 : 0 < many) (h1 : many < 2 ^ 60) (q : ∀ (d : Int) (p' : PoolSt), 0 ≤ d → d < many → Q (.int d) (mkP p' G)) : askC c__law_pick [.ref 1, .int pl, .int many] (mkP p G) Q := ask_in ⟨pl, many, p, G, rfl, rfl, h0, h1, q⟩
local macro_rules | `(tactic| walk_at "call") => `(tactic| ((with_reducible show askC c__law_pick _ _ _); refine pick_k ?_ ?_ ?_; (walk_at "side"); (walk_at "side"); intro d p' h0 h1))
theorem v__law_near (ds : List D) (S : Store) (Q0 : D → Store → Prop) (hl : ds.length = 3) (hc : closedS S) (hd : closedL S.length ds) (h : c__law_near ds S Q0) : w__law_near (EX S Q0) (ds.map some ++ List.replicate 1 none) S := by
  obtain ⟨pl, bd, p, G, rfl, rfl, h0, h1, q⟩ := h
  walk_at "go"
  refine cIf_d (fun h => ?_) (fun h => ?_)
  · walk_at "go"
    exact Exit.all (q _ _ (by omega) (by omega))
  · walk_at "go"
    refine cIf_d (fun h => ?_) (fun h => ?_)
    · walk_at "go"
      exact Exit.all (q _ _ (by omega) (by omega))
    · walk_at "go"
      refine cIf_d (fun h => ?_) (fun h => ?_)
      · walk_at "go"
        exact Exit.all (q _ _ (by omega) (by omega))
      · walk_at "go"
        exact Exit.all (q _ _ (by omega) (by omega))
theorem near_k {pl bd : Int} {p : PoolSt} {G : Store} {Q : D → Store → Prop} (h0 : 0 < bd) (h1 : bd < 2 ^ 50) (q : ∀ (d : Int) (p' : PoolSt), -bd ≤ d → d ≤ bd → Q (.int d) (mkP p' G)) : askC c__law_near [.ref 1, .int pl, .int bd] (mkP p G) Q := ask_in ⟨pl, bd, p, G, rfl, rfl, h0, h1, q⟩
local macro_rules | `(tactic| walk_at "call") => `(tactic| ((with_reducible show askC c__law_near _ _ _); refine near_k ?_ ?_ ?_; (walk_at "side"); (walk_at "side"); intro d p' h0 h1))
theorem v__law_integer (ds : List D) (S : Store) (Q0 : D → Store → Prop) (hl : ds.length = 3) (hc : closedS S) (hd : closedL S.length ds) (h : c__law_integer ds S Q0) : w__law_integer (EX S Q0) (ds.map some ++ List.replicate 1 none) S := by
  obtain ⟨pl, f, p, G, rfl, rfl, h0, h1, q⟩ := h
  walk_at "goS"
  all_goals first
    | exact Exit.all (q _ _ (by omega) (by omega))
    | skip
  · rename_i d p' d0 d1
    have := mul_abs (x := f) (y := d - 200) (A := 24) (B := 200) (by omega) (by omega) (by omega) (by omega)
    exact Exit.all (q _ _ (by omega) (by omega))
  · rename_i d p' d0 d1
    have := mul_abs (x := f / 2) (y := d - 20) (A := 12) (B := 20) (by omega) (by omega) (by omega) (by omega)
    exact Exit.all (q _ _ (by omega) (by omega))
theorem int_k {pl f : Int} {p : PoolSt} {G : Store} {Q : D → Store → Prop} (h0 : 0 ≤ f) (h1 : f ≤ 24) (q : ∀ (d : Int) (p' : PoolSt), -100000 ≤ d → d ≤ 100000 → Q (.int d) (mkP p' G)) : askC c__law_integer [.ref 1, .int pl, .int f] (mkP p G) Q := ask_in ⟨pl, f, p, G, rfl, rfl, h0, h1, q⟩
local macro_rules | `(tactic| walk_at "call") => `(tactic| ((with_reducible show askC c__law_integer _ _ _); refine int_k ?_ ?_ ?_; (walk_at "side"); (walk_at "side"); intro d p' h0 h1))
theorem v__law_folded (ds : List D) (S : Store) (Q0 : D → Store → Prop) (hl : ds.length = 2) (hc : closedS S) (hd : closedL S.length ds) (h : c__law_folded ds S Q0) : w__law_folded (EX S Q0) (ds.map some ++ List.replicate 0 none) S := by
  obtain ⟨f, a, b, rfl, hm, q⟩ := h
  walk_at "go"
  refine cIf_d (fun h => ?_) (fun h => ?_)
  · walk_at "go"
    rw [rst_zero h, rst_zero h] at q
    exact Exit.all q
  · walk_at "go"
    rw [rst_pos h, rst_pos h] at q
    exact Exit.all q
theorem lfolded_k {f a b : Int} {S : Store} {Q : D → Store → Prop} (h : 0 ≤ f) (q : Q (pr (rst a f) (rst b f)) S) : askC c__law_folded [.int f, .tup [.int a, .int b]] S Q := ask_in ⟨f, a, b, rfl, h, q⟩
local macro_rules | `(tactic| walk_at "call") => `(tactic| ((with_reducible show askC c__law_folded _ _ _); refine lfolded_k ?_ ?_; (walk_at "side")))
theorem v__law_is_pair (ds : List D) (S : Store) (Q0 : D → Store → Prop) (hl : ds.length = 2) (hc : closedS S) (hd : closedL S.length ds) (h : c__law_is_pair ds S Q0) : w__law_is_pair (EX S Q0) (ds.map some ++ List.replicate 1 none) S := by
  obtain ⟨a, b, rfl, q⟩ := h
  walk_at "go"
  refine forG_range0 (n := 2) (fun i ρ S' => S' = S ∧ ∃ x, ρ = [some (pr a b), some (pr a b), x]) ⟨rfl, _, rfl⟩ ?_ ?_
  · rintro i ρ S' k hi ⟨rfl, x, rfl⟩ hk
    have : i = 0 ∨ i = 1 := by omega
    rcases this with rfl | rfl
    · refine ⟨trivial, _, rfl, ?_⟩
      walk_at "go"
      refine cIf_f (by simp) ?_
      walk_at "go"
      exact hk _ _ ⟨rfl, _, rfl⟩
    · refine ⟨trivial, _, rfl, ?_⟩
      walk_at "go"
      refine cIf_f (by simp) ?_
      walk_at "go"
      exact hk _ _ ⟨rfl, _, rfl⟩
  · rintro ρ S' ⟨rfl, x, rfl⟩
    refine ⟨trivial, ?_⟩
    walk_at "go"
    exact Exit.all q
theorem pair_k {a b : Int} {S : Store} {Q : D → Store → Prop} (q : Q (.bl true) S) : askC c__law_is_pair [.tup [.int a, .int b], .tup [.int a, .int b]] S Q := ask_in ⟨a, b, rfl, q⟩
local macro_rules | `(tactic| walk_at "call") => `(tactic| ((with_reducible show askC c__law_is_pair _ _ _); refine pair_k ?_))
theorem v__law_place (ds : List D) (S : Store) (Q0 : D → Store → Prop) (hl : ds.length = 3) (hc : closedS S) (hd : closedL S.length ds) (h : c__law_place ds S Q0) : w__law_place (EX S Q0) (ds.map some ++ List.replicate 2 none) S := by
  obtain ⟨p, r, b, s, rfl, ok, hr, hs, q⟩ := h
  have sx := ok.sx s (List.mem_of_getElem? hs)
  walk_at "go"
  repeat (rw [at_list hs]; walk_at "go")
  exact Exit.all q
end K15

set_option maxHeartbeats 1000000
namespace K15
open PySem PySem.Spec PyProof.Rows L2 DL
local macro_rules | `(tactic| walk_at "w") => `(tactic| conv => whnf)
local macro_rules | `(tactic| walk_at "side") => `(tactic| first | exact True.intro | omega | with_reducible assumption | (simp only [sizeLine_eq, List.length_append, List.length_cons, List.length_nil, List.length_map, List.length_set]; omega) | exact (rfl : _ = _) | exact Int.mul_pos (by omega) (by omega) | exact DL.MulOk.l (by omega) (by omega) | exact DL.MulOk.r (by omega) (by omega) | exact DL.MulOk.big (by omega) (by omega) | exact DL.DivOk.of (by omega) (by omega) | (unfold CPow; decide) | (intro hh; cases hh; done))
local macro_rules | `(tactic| walk_at "call") => `(tactic| fail "no contract")
local macro_rules | `(tactic| walk_at "go1") => `(tactic| ((conv => whnf); first | (refine And.intro ?_ ?_; ((walk_at "side"))) | walk_at "call" | (refine cIf_t rfl ?_) | refine cIf_f rfl ?_))
local macro_rules | `(tactic| walk_at "go") => `(tactic| ((repeat (walk_at "go1")); try (conv => whnf)))
local macro_rules | `(tactic| walk_at "yes") => `(tactic| (refine cIf_t (by first | rfl | simp | (simp; omega)) ?_; walk_at "go"))
local macro_rules | `(tactic| walk_at "no") => `(tactic| (refine cIf_f (by first | rfl | simp | (simp; omega)) ?_; walk_at "go"))
local macro_rules | `(tactic| walk_at "goS") => `(tactic| ((repeat' (first | walk_at "go1" | ((conv => whnf); refine cIf_d (fun h => ?_) (fun h => ?_)))); all_goals (try (conv => whnf))))
local macro_rules | `(tactic| walk_at "call") => `(tactic| ((with_reducible show askC c_rest_of _ _ _); refine rest_k ?_ ?_; (walk_at "side")))
local macro_rules | `(tactic| walk_at "call") => `(tactic| ((with_reducible show askC c_folded_key _ _ _); refine folded_k ?_ ?_; (walk_at "side")))
local macro_rules | `(tactic| walk_at "call") => `(tactic| ((with_reducible show askC c_other_key _ _ _); refine other_k ?_ ?_; (walk_at "side")))
local macro_rules | `(tactic| walk_at "call") => `(tactic| ((with_reducible show askC c__law_take _ _ _); refine take_k ?_ ?_ ?_; (walk_at "side"); (walk_at "side"); intro d p' h0 h1))
local macro_rules | `(tactic| walk_at "call") => `(tactic| ((with_reducible show askC c__law_pick _ _ _); refine pick_k ?_ ?_ ?_; (walk_at "side"); (walk_at "side"); intro d p' h0 h1))
local macro_rules | `(tactic| walk_at "call") => `(tactic| ((with_reducible show askC c__law_near _ _ _); refine near_k ?_ ?_ ?_; (walk_at "side"); (walk_at "side"); intro d p' h0 h1))
local macro_rules | `(tactic| walk_at "call") => `(tactic| ((with_reducible show askC c__law_integer _ _ _); refine int_k ?_ ?_ ?_; (walk_at "side"); (walk_at "side"); intro d p' h0 h1))
local macro_rules | `(tactic| walk_at "call") => `(tactic| ((with_reducible show askC c__law_folded _ _ _); refine lfolded_k ?_ ?_; (walk_at "side")))
local macro_rules | `(tactic| walk_at "call") => `(tactic| ((with_reducible show askC c__law_is_pair _ _ _); refine pair_k ?_))

theorem lead_k {f a b : Int} {S : Store} {Q : D → Store → Prop} (h : 0 ≤ f) (q : Q (leadD a b (rst (-a) f) (rst (-b) f)) S) : askC c_lead_key [.int f, .tup [.int a, .int b]] S Q := ask_in ⟨f, a, b, rfl, h, q⟩
theorem self_k {f a b : Int} {S : Store} {Q : D → Store → Prop} (h : 0 ≤ f) (q : Q (.bl (aloneB f a b)) S) : askC c_is_self_key [.int f, .tup [.int a, .int b]] S Q := ask_in ⟨f, a, b, rfl, h, q⟩
theorem v__law_key_right (ds : List D) (S : Store) (Q0 : D → Store → Prop) (hl : ds.length = 3) (hc : closedS S) (hd : closedL S.length ds) (h : c__law_key_right ds S Q0) : w__law_key_right (EX S Q0) (ds.map some ++ List.replicate 4 none) S := by
  obtain ⟨f, a, b, n, c0, c1, c2, rfl, hS, f0, ea, eb, q⟩ := h
  have hn : n < S.length := (List.getElem?_eq_some_iff.mp hS).1
  have get : ∀ o, (S.set n o)[n]? = some o := fun o => List.getElem?_set_self hn
  unfold cnt at hS
  unfold stepC aloneB lexG at q
  have ld : leadD a b (rst (-a) f) (rst (-b) f) = if (decide (a < rst (-a) f) || (decide (a = rst (-a) f) && decide (b < rst (-b) f))) = true then pr (rst (-a) f) (rst (-b) f) else pr a b := by
    unfold leadD lexG <;> rfl
  have fk : askC c_folded_key = askC c_folded_key := rfl
  generalize hoa : rst (-a) f = oa at *
  generalize hob : rst (-b) f = ob at *
  by_cases ha : oa = a <;> by_cases hb : ob = b
  all_goals
    repeat' (first | walk_at "go1" | ((conv => whnf); first | rw [hS] | rw [get] | rw [hoa] | rw [hob] | rw [ea] | rw [eb] | rw [decide_eq_true hb] | rw [decide_eq_false hb] | rw [decide_eq_true ha] | rw [decide_eq_false ha] | (refine lead_k f0 ?_; rw [hoa, hob, ld]) | (refine ask_in ⟨f, a, b, rfl, f0, ?_⟩; show _ ; unfold aloneB) | rw [if_pos (by simp; omega)] | rw [if_neg (by simp; omega)] | refine cIf_d (fun h => ?_) (fun h => ?_)))
  all_goals first
    | (exfalso; omega)
    | (refine Exit.all (Eq.mp (congr (congrArg Q0 ?_) ?_) q)
       · simp [ha, hb]
       · rw [List.set_set]
         simp [one01, cnt, ha, hb, Ne.symm, *]
         try omega)
    | (refine Exit.all (Eq.mp (congr (congrArg Q0 ?_) ?_) q)
       · simp [ha, hb]
       · simp [one01, cnt, ha, hb, *]
         try omega)
    | (refine Exit.all (Eq.mp (congr (congrArg Q0 ?_) ?_) q)
       · simp [ha, hb]
       · simp [one01, cnt, ha, hb, show ¬ a = oa from fun e => ha e.symm, *]
         try omega)
theorem v__law_seen_right (ds : List D) (S : Store) (Q0 : D → Store → Prop) (hl : ds.length = 5) (hc : closedS S) (hd : closedL S.length ds) (h : c__law_seen_right ds S Q0) : w__law_seen_right (EX S Q0) (ds.map some ++ List.replicate 4 none) S := by
  obtain ⟨p, r, o, b, s, ch, rfl, ok, hr, ho, hs, h1, h2, q⟩ := h
  walk_at "go"
  refine ask_in ⟨p, r, b, s, rfl, ok, hr, hs, ?_⟩
  walk_at "go"
  refine ask_in ⟨p, o, b, s, rfl, ok, ho, hs, ?_⟩
  walk_at "go"
  refine ask_in ⟨p, r, b, s, rfl, ok, hr, hs, ?_⟩
  walk_at "go"
  refine ask_in ⟨p, o, b, s, rfl, ok, ho, hs, ?_⟩
  have f0 := ok.fold0
  walk_at "go"
  refine ask_in ⟨p, r, o, b, s, ch, rfl, ok, hr, ho, hs, h1, h2, ?_⟩
  walk_at "go"
  refine ask_in ⟨p, o, r, b, s, ch, rfl, ok, ho, hr, hs, h1, h2, ?_⟩
  walk_at "go"
  exact Exit.all q
end K15

set_option maxHeartbeats 1000000
namespace K15
open PySem PySem.Spec PyProof.Rows L2 DL
local macro_rules | `(tactic| walk_at "w") => `(tactic| conv => whnf)
local macro_rules | `(tactic| walk_at "side") => `(tactic| first | exact True.intro | omega | with_reducible assumption | (simp only [sizeLine_eq, List.length_append, List.length_cons, List.length_nil, List.length_map, List.length_set]; omega) | exact (rfl : _ = _) | exact Int.mul_pos (by omega) (by omega) | exact DL.MulOk.l (by omega) (by omega) | exact DL.MulOk.r (by omega) (by omega) | exact DL.MulOk.big (by omega) (by omega) | exact DL.DivOk.of (by omega) (by omega) | (unfold CPow; decide) | (intro hh; cases hh; done))
local macro_rules | `(tactic| walk_at "call") => `(tactic| fail "no contract")
local macro_rules | `(tactic| walk_at "go1") => `(tactic| ((conv => whnf); first | (refine And.intro ?_ ?_; ((walk_at "side"))) | walk_at "call" | (refine cIf_t rfl ?_) | refine cIf_f rfl ?_))
local macro_rules | `(tactic| walk_at "go") => `(tactic| ((repeat (walk_at "go1")); try (conv => whnf)))
local macro_rules | `(tactic| walk_at "yes") => `(tactic| (refine cIf_t (by first | rfl | simp | (simp; omega)) ?_; walk_at "go"))
local macro_rules | `(tactic| walk_at "no") => `(tactic| (refine cIf_f (by first | rfl | simp | (simp; omega)) ?_; walk_at "go"))
local macro_rules | `(tactic| walk_at "goS") => `(tactic| ((repeat' (first | walk_at "go1" | ((conv => whnf); refine cIf_d (fun h => ?_) (fun h => ?_)))); all_goals (try (conv => whnf))))
local macro_rules | `(tactic| walk_at "call") => `(tactic| ((with_reducible show askC c_rest_of _ _ _); refine rest_k ?_ ?_; (walk_at "side")))
local macro_rules | `(tactic| walk_at "call") => `(tactic| ((with_reducible show askC c_folded_key _ _ _); refine folded_k ?_ ?_; (walk_at "side")))
local macro_rules | `(tactic| walk_at "call") => `(tactic| ((with_reducible show askC c_other_key _ _ _); refine other_k ?_ ?_; (walk_at "side")))
local macro_rules | `(tactic| walk_at "call") => `(tactic| ((with_reducible show askC c__law_take _ _ _); refine take_k ?_ ?_ ?_; (walk_at "side"); (walk_at "side"); intro d p' h0 h1))
local macro_rules | `(tactic| walk_at "call") => `(tactic| ((with_reducible show askC c__law_pick _ _ _); refine pick_k ?_ ?_ ?_; (walk_at "side"); (walk_at "side"); intro d p' h0 h1))
local macro_rules | `(tactic| walk_at "call") => `(tactic| ((with_reducible show askC c__law_near _ _ _); refine near_k ?_ ?_ ?_; (walk_at "side"); (walk_at "side"); intro d p' h0 h1))
local macro_rules | `(tactic| walk_at "call") => `(tactic| ((with_reducible show askC c__law_integer _ _ _); refine int_k ?_ ?_ ?_; (walk_at "side"); (walk_at "side"); intro d p' h0 h1))
local macro_rules | `(tactic| walk_at "call") => `(tactic| ((with_reducible show askC c__law_folded _ _ _); refine lfolded_k ?_ ?_; (walk_at "side")))
local macro_rules | `(tactic| walk_at "call") => `(tactic| ((with_reducible show askC c__law_is_pair _ _ _); refine pair_k ?_))

theorem closed_ints {n : Nat} : ∀ l : List Int, closedL n (l.map D.int)
  | [] => by simp [closedL]
  | x :: l => by simp [closedL, closedD, closed_ints l]
theorem mk_closed {p p' : PoolSt} {G G' : Store} (h : closedS (mkP p G)) (hl : G'.length = G.length) (hG : ∀ ds, Ob.lst ds ∈ G' → Ob.lst ds ∈ G ∨ closedL 0 ds) (mono : ∀ ds n, closedL 0 ds → closedL n ds) : closedS (mkP p' G') := fun ds hd => by
  unfold mkP at hd
  have e : (mkP p' G').length = (mkP p G).length := by simp [mkP, hl]
  rw [e]
  rcases List.mem_cons.mp hd with hd | hd
  · cases hd; exact closed_ints _
  · rcases List.mem_cons.mp hd with hd | hd
    · cases hd
      simp [closedL, closedD, mkP]
    · rcases hG ds hd with z | z
      · exact h ds (List.mem_cons_of_mem _ (List.mem_cons_of_mem _ z))
      · exact mono _ _ z
mutual
theorem closedD_mono {n m : Nat} (h : n ≤ m) : ∀ d : D, closedD n d → closedD m d
  | .non, _ => by simp [closedD]
  | .bl _, _ => by simp [closedD]
  | .int _, _ => by simp [closedD]
  | .str _, _ => by simp [closedD]
  | .tup ds, q => by
    simp only [closedD] at q ⊢
    exact closedL_mono h ds q
  | .lst ds, q => by
    simp only [closedD] at q ⊢
    exact closedL_mono h ds q
  | .ref k, q => by
    simp only [closedD] at q ⊢
    omega
theorem closedL_mono {n m : Nat} (h : n ≤ m) : ∀ ds : List D, closedL n ds → closedL m ds
  | [], _ => by simp [closedL]
  | d :: ds, q => by
    simp only [closedL] at q ⊢
    exact ⟨closedD_mono h d q.1, closedL_mono h ds q.2⟩
end
theorem closed_same {p p' : PoolSt} {G : Store} (h : closedS (mkP p G)) : closedS (mkP p' G) := mk_closed h rfl (fun ds hd => .inl hd) fun ds n hd => closedL_mono (Nat.zero_le _) ds hd
theorem closed_cnt {p p' : PoolSt} {G : Store} {n : Nat} {a b c : Int} (h : closedS (mkP p G)) : closedS (mkP p' (G.set n (cnt a b c))) := mk_closed h (by simp) (fun ds hd => by
  rcases List.mem_or_eq_of_mem_set hd with z | z
  · exact .inl z
  · unfold cnt at z
    cases z
    exact .inr (by simp [closedL, closedD])) fun ds n hd => closedL_mono (Nat.zero_le _) ds hd
theorem rst_rst (a f : Int) : rst (rst a f) f = rst a f := by
  unfold rst
  split
  · rfl
  · exact Int.emod_emod_of_dvd _ (Int.dvd_refl _)
def pr2 (k : Int × Int) : D := pr k.1 k.2
theorem key_k {f a b : Int} {n : Nat} {c0 c1 c2 : Int} {S : Store} {Q : D → Store → Prop} (hS : S[n]? = some (cnt c0 c1 c2)) (h0 : 0 ≤ f) (ea : rst a f = a) (eb : rst b f = b) (q : Q (.bl true) (S.set n (stepC f a b c0 c1 c2))) : askC c__law_key_right [.int f, pr a b, .ref n] S Q := ask_in ⟨f, a, b, n, c0, c1, c2, rfl, hS, h0, ea, eb, q⟩
section
variable {p p' : PoolSt} {G : Store} {o o' : Ob}
theorem getE : (mkP p' (G ++ [o]))[(mkP p G).length]? = some o := by simp [mkP]
theorem setE : (mkP p' (G ++ [o])).set (mkP p G).length o' = mkP p' (G ++ [o']) := by simp [mkP]
theorem getC {n : Nat} {c : Ob} (h : n < G.length) : (mkP p' (G.set n c ++ [o]))[n + 2]? = some c := by
  show (G.set n c ++ [o])[n]? = _
  rw [List.getElem?_append_left (by simpa using h), List.getElem?_set_self h]
theorem setC {n : Nat} {c c' : Ob} (h : n < G.length) : (mkP p' (G.set n c ++ [o])).set (n + 2) c' = mkP p' (G.set n c' ++ [o]) := by
  show _ :: _ :: (G.set n c ++ [o]).set n c' = _
  rw [List.set_append_left _ _ (by simpa using h), List.set_set]
  rfl
theorem getL {n : Nat} {c : Ob} : (mkP p' (G.set n c ++ [o]))[(mkP p G).length]? = some o := by simp [mkP]
end
theorem set_id {G : Store} {n : Nat} {c : Ob} (h : G[n]? = some c) : G.set n c = G := by
  apply List.ext_getElem?
  intro j
  by_cases e : n = j
  · subst e
    rw [List.getElem?_set_self (List.getElem?_eq_some_iff.mp h).1, h]
  · rw [List.getElem?_set_ne e]
theorem one0 (b : Bool) : 0 ≤ one01 b := by cases b <;> decide
/-- what a turn does to the counts -/
structure Grow3 (f : Int) (i : Nat) (c0 c1 c2 e0 e1 e2 : Int) : Prop where
  h0 : c0 ≤ e0
  h1 : c1 ≤ e1
  h2 : c2 ≤ e2
  z1 : f = 0 → 1 ≤ i → c1 + 1 ≤ e1
  z0 : f = 0 → 2 ≤ i → c0 + 1 ≤ e0 ∧ c2 + 1 ≤ e2
theorem grow_step {f : Int} {i : Nat} {c0 c1 c2 e0 e1 e2 a b : Int} {ks : List (Int × Int)} (g : Grow3 f i c0 c1 c2 e0 e1 e2) (hi : ((0, 0) :: (1, 0) :: ks)[i]? = some (a, b)) (k l : Int × Int) (hk : k = (rst a f, rst b f)) (hl : l = (rst (-k.1) f, rst (-k.2) f)) :
    Grow3 f (i + 1) c0 c1 c2 (e0 + one01 (!aloneB f k.1 k.2) + one01 (!aloneB f l.1 l.2)) (e1 + one01 (aloneB f k.1 k.2) + one01 (aloneB f l.1 l.2)) (e2 + one01 (lexG (rst (-k.1) f) (rst (-k.2) f) k.1 k.2) + one01 (lexG (rst (-l.1) f) (rst (-l.2) f) l.1 l.2)) := by
  have o1 := one0 (!aloneB f k.1 k.2)
  have o2 := one0 (!aloneB f l.1 l.2)
  have o3 := one0 (aloneB f k.1 k.2)
  have o4 := one0 (aloneB f l.1 l.2)
  have o5 := one0 (lexG (rst (-k.1) f) (rst (-k.2) f) k.1 k.2)
  have o6 := one0 (lexG (rst (-l.1) f) (rst (-l.2) f) l.1 l.2)
  have g0 := g.h0
  have g1 := g.h1
  have g2 := g.h2
  refine ⟨by omega, by omega, by omega, fun e h => ?_, fun e h => ?_⟩
  · by_cases h1 : 1 ≤ i
    · have := g.z1 e h1
      omega
    · have e0' : i = 0 := by omega
      subst e0' e
      cases hi
      have : one01 (aloneB 0 k.1 k.2) = 1 := by rw [hk]; decide
      omega
  · by_cases h1 : 2 ≤ i
    · have := g.z0 e h1
      omega
    · have e0' : i = 1 := by omega
      subst e0' e
      cases hi
      have t1 : one01 (!aloneB 0 k.1 k.2) = 1 := by rw [hk]; decide
      have t2 : one01 (lexG (rst (-l.1) 0) (rst (-l.2) 0) l.1 l.2) = 1 := by rw [hl, hk]; decide
      omega
theorem pairs_loop (f : Int) (f0 : 0 ≤ f) (x3 x5 y1 y2 y3 : Option D) (p0 p : PoolSt) (G : Store) (n : Nat) (c0 c1 c2 : Int) (hG : G[n]? = some (cnt c0 c1 c2)) (ks : List (Int × Int)) (D0 : EndsD)
    (hD : ∀ (y1 y2 y3 : Option D) (p : PoolSt) (e0 e1 e2 : Int), Grow3 f (ks.length + 2) c0 c1 c2 e0 e1 e2 → D0.nx [some (.ref 1), some (.int f), some (.ref (n + 2)), x3, some (.ref (mkP p0 G).length), x5, y1, y2, y3] (mkP p (G.set n (cnt e0 e1 e2) ++ [.lst (((0, 0) :: (1, 0) :: ks).map pr2)]))) :
    forG (Tg.name 6) w__law_fold_right_for2 (fun S => S[(mkP p0 G).length]? = some (.lst (((0, 0) :: (1, 0) :: ks).map pr2))) D0 (((0, 0) :: (1, 0) :: ks).map pr2) [some (.ref 1), some (.int f), some (.ref (n + 2)), x3, some (.ref (mkP p0 G).length), x5, y1, y2, y3] (mkP p (G.set n (cnt c0 c1 c2) ++ [.lst (((0, 0) :: (1, 0) :: ks).map pr2)])) := by
  have hn : n < G.length := (List.getElem?_eq_some_iff.mp hG).1
  refine forG_list (enc := pr2) (fun i ρ S => ∃ (y1 y2 y3 : Option D) (p : PoolSt) (e0 e1 e2 : Int), Grow3 f i c0 c1 c2 e0 e1 e2 ∧ ρ = [some (.ref 1), some (.int f), some (.ref (n + 2)), x3, some (.ref (mkP p0 G).length), x5, y1, y2, y3] ∧ S = mkP p (G.set n (cnt e0 e1 e2) ++ [.lst (((0, 0) :: (1, 0) :: ks).map pr2)])) ⟨_, _, _, p, c0, c1, c2, ⟨by omega, by omega, by omega, by omega, by omega⟩, rfl, rfl⟩ ?_ ?_
  · rintro i ⟨a, b⟩ ρ S k hi ⟨y1, y2, y3, p, e0, e1, e2, g, rfl, rfl⟩ hk
    refine ⟨getL, _, rfl, ?_⟩
    walk_at "go"
    refine forG_cons trivial rfl ?_
    walk_at "go"
    refine key_k (getC hn) f0 (rst_rst _ _) (rst_rst _ _) ?_
    rw [setC hn]
    walk_at "go"
    refine forG_cons trivial rfl ?_
    walk_at "go"
    refine key_k (c0 := e0 + _) (c1 := e1 + _) (c2 := e2 + _) (getC hn) f0 (rst_rst _ _) (rst_rst _ _) ?_
    rw [setC hn]
    walk_at "go"
    refine forG_nil trivial ?_
    exact hk _ _ ⟨_, _, _, p, _, _, _, grow_step g hi _ _ rfl rfl, rfl, rfl⟩
  · rintro ρ S ⟨y1, y2, y3, p, e0, e1, e2, g, rfl, rfl⟩
    exact ⟨getL, hD _ _ _ _ _ _ _ g⟩
theorem v__law_fold_right (ds : List D) (S : Store) (Q0 : D → Store → Prop) (hl : ds.length = 3) (hc : closedS S) (hd : closedL S.length ds) (h : c__law_fold_right ds S Q0) : w__law_fold_right (EX S Q0) (ds.map some ++ List.replicate 6 none) S := by
  obtain ⟨f, p, G, n, c0, c1, c2, rfl, rfl, hG, f0, f1, q⟩ := h
  have hn : n < G.length := (List.getElem?_eq_some_iff.mp hG).1
  walk_at "go"
  refine forG_range0 (n := 3) (fun i ρ S => ∃ (x y : Option D) (p' : PoolSt) (ks : List (Int × Int)), ρ = [some (.ref 1), some (.int f), some (.ref (n + 2)), some (.int (f / 2)), some (.ref (mkP p G).length), x, none, none, none] ∧ S = mkP p' (G ++ [.lst (((0, 0) :: (1, 0) :: ks).map pr2)]) ∧ ks.length ≤ 5 + i) ⟨none, none, p, [(0, -1), (f / 2, f / 2), (f / 2, 0), (-(f / 2), f), (-100000, 100000)], rfl, rfl, by simp⟩ ?_ ?_
  · rintro i ρ S k hi ⟨x, y, p', ks, rfl, rfl, hk5⟩ hk
    refine ⟨trivial, _, rfl, ?_⟩
    walk_at "go"
    refine ⟨isL_of getE, ?_⟩
    walk_at "go"
    rename_i d1 p1 d10 d11 d2 p2 d20 d21
    rw [getE]
    refine ⟨by simp; rw [sizeLine_eq]; omega, ?_⟩
    rw [setE]
    refine hk _ _ ⟨_, none, p2, ks ++ [(d1, d2)], rfl, ?_, by simp; omega⟩
    simp [pr2]
    rfl
  · rintro ρ S ⟨x, y, p', ks, rfl, rfl, hk5⟩
    refine ⟨trivial, ?_⟩
    walk_at "go"
    rw [getE]
    have e : mkP p' (G ++ [.lst (((0, 0) :: (1, 0) :: ks).map pr2)]) = mkP p' (G.set n (cnt c0 c1 c2) ++ [.lst (((0, 0) :: (1, 0) :: ks).map pr2)]) := by rw [set_id hG]
    rw [e]
    refine pairs_loop f f0 _ _ _ _ _ p p' G n c0 c1 c2 hG ks _ (fun y1 y2 y3 p2 e0 e1 e2 g => ?_)
    walk_at "go"
    exact Exit.fin (S := mkP p2 (G.set n (cnt e0 e1 e2))) (G := [.lst (((0, 0) :: (1, 0) :: ks).map pr2)]) (by simp [mkP]) (closed_cnt hc) (.bl true) (q p2 e0 e1 e2 g.h0 g.h1 g.h2 fun e => ⟨(g.z0 e (by omega)).1, g.z1 e (by omega), (g.z0 e (by omega)).2⟩)
end K15

set_option maxHeartbeats 1000000
namespace K15
open PySem PySem.Spec PyProof.Rows L2 DL
local macro_rules | `(tactic| walk_at "w") => `(tactic| conv => whnf)
local macro_rules | `(tactic| walk_at "side") => `(tactic| first | exact True.intro | omega | with_reducible assumption | (simp only [sizeLine_eq, List.length_append, List.length_cons, List.length_nil, List.length_map, List.length_set]; omega) | exact (rfl : _ = _) | exact Int.mul_pos (by omega) (by omega) | exact DL.MulOk.l (by omega) (by omega) | exact DL.MulOk.r (by omega) (by omega) | exact DL.MulOk.big (by omega) (by omega) | exact DL.DivOk.of (by omega) (by omega) | (unfold CPow; decide) | (intro hh; cases hh; done))
local macro_rules | `(tactic| walk_at "call") => `(tactic| fail "no contract")
local macro_rules | `(tactic| walk_at "go1") => `(tactic| ((conv => whnf); first | (refine And.intro ?_ ?_; ((walk_at "side"))) | walk_at "call" | (refine cIf_t rfl ?_) | refine cIf_f rfl ?_))
local macro_rules | `(tactic| walk_at "go") => `(tactic| ((repeat (walk_at "go1")); try (conv => whnf)))
local macro_rules | `(tactic| walk_at "yes") => `(tactic| (refine cIf_t (by first | rfl | simp | (simp; omega)) ?_; walk_at "go"))
local macro_rules | `(tactic| walk_at "no") => `(tactic| (refine cIf_f (by first | rfl | simp | (simp; omega)) ?_; walk_at "go"))
local macro_rules | `(tactic| walk_at "goS") => `(tactic| ((repeat' (first | walk_at "go1" | ((conv => whnf); refine cIf_d (fun h => ?_) (fun h => ?_)))); all_goals (try (conv => whnf))))
local macro_rules | `(tactic| walk_at "call") => `(tactic| ((with_reducible show askC c_rest_of _ _ _); refine rest_k ?_ ?_; (walk_at "side")))
local macro_rules | `(tactic| walk_at "call") => `(tactic| ((with_reducible show askC c_folded_key _ _ _); refine folded_k ?_ ?_; (walk_at "side")))
local macro_rules | `(tactic| walk_at "call") => `(tactic| ((with_reducible show askC c_other_key _ _ _); refine other_k ?_ ?_; (walk_at "side")))
local macro_rules | `(tactic| walk_at "call") => `(tactic| ((with_reducible show askC c__law_take _ _ _); refine take_k ?_ ?_ ?_; (walk_at "side"); (walk_at "side"); intro d p' h0 h1))
local macro_rules | `(tactic| walk_at "call") => `(tactic| ((with_reducible show askC c__law_pick _ _ _); refine pick_k ?_ ?_ ?_; (walk_at "side"); (walk_at "side"); intro d p' h0 h1))
local macro_rules | `(tactic| walk_at "call") => `(tactic| ((with_reducible show askC c__law_near _ _ _); refine near_k ?_ ?_ ?_; (walk_at "side"); (walk_at "side"); intro d p' h0 h1))
local macro_rules | `(tactic| walk_at "call") => `(tactic| ((with_reducible show askC c__law_integer _ _ _); refine int_k ?_ ?_ ?_; (walk_at "side"); (walk_at "side"); intro d p' h0 h1))
local macro_rules | `(tactic| walk_at "call") => `(tactic| ((with_reducible show askC c__law_folded _ _ _); refine lfolded_k ?_ ?_; (walk_at "side")))
local macro_rules | `(tactic| walk_at "call") => `(tactic| ((with_reducible show askC c__law_is_pair _ _ _); refine pair_k ?_))

local macro_rules | `(tactic| walk_at "side") => `(tactic| ((simp only [chS_len, repS_len, app_len, sizeLine_eq]; omega)))
local macro_rules | `(tactic| walk_at "side") => `(tactic| ((refine And.intro ?_ (And.intro ?_ ?_); omega; omega; (simp only [chS_len]; omega))))
abbrev lts : Str := "abcdefghijklmnopqrstuvwxyz0123456789"
theorem lts_len : lts.length = 36 := by decide +kernel
theorem lts_so : PyData.strOk lts = true := by decide +kernel
theorem lts_ok : lts.length ≤ sizeLine := by rw [lts_len, sizeLine_eq]; decide
theorem lts_inj : ∀ j < 12, ∀ k < 12, lts.cps[j]? = lts.cps[k]? → j = k := by decide +kernel
theorem getE2 {p p' : PoolSt} {G : Store} {o o2 : Ob} : (mkP p' (G ++ [o] ++ [o2]))[(mkP p G).length]? = some o := by
  show (Ob.lst _ :: Ob.lst _ :: (G ++ [o] ++ [o2]))[G.length + 1 + 1]? = _
  rw [List.getElem?_cons_succ, List.getElem?_cons_succ, List.append_assoc, List.getElem?_append_right (Nat.le_refl _), Nat.sub_self]
  rfl
def tmD (b : Int) (r : Row) : D := .tup [.str r.nm, .str r.nm, .str "flat", .int 0, .int b, .int 1, .int 100]
theorem flat_so : PyData.strOk "flat" = true := by decide +kernel
structure RowsOk (i : Nat) (rs : List Row) : Prop where
  so : ∀ r ∈ rs, PyData.strOk r.nm = true
  len : rs.length = i
  nm : ∀ (j : Nat) (r : Row), rs[j]? = some r → lastC r.nm = lts.cps[j]?
  rx : ∀ r ∈ rs, -50 ≤ r.x ∧ r.x ≤ 50 ∧ -50 ≤ r.y ∧ r.y ≤ 50
theorem RowsOk.more {i : Nat} {rs : List Row} (h : RowsOk i rs) {r : Row} (hs : PyData.strOk r.nm = true) (hn : lastC r.nm = lts.cps[i]?) (hx : -50 ≤ r.x ∧ r.x ≤ 50 ∧ -50 ≤ r.y ∧ r.y ≤ 50) : RowsOk (i + 1) (rs ++ [r]) := ⟨fun o ho => by
  rcases List.mem_append.mp ho with z | z
  · exact h.so o z
  · rw [List.mem_singleton.mp z]; exact hs, by simp [h.len], fun j o ho => by
  by_cases hj : j < rs.length
  · rw [List.getElem?_append_left hj] at ho
    exact h.nm j o ho
  · rw [List.getElem?_append_right (by omega)] at ho
    have e : j - rs.length = 0 := by
      have := (List.getElem?_eq_some_iff.mp ho).1
      simp at this
      omega
    rw [e] at ho
    cases ho
    rw [hn]
    congr 1
    have := h.len
    omega, fun o ho => by
  rcases List.mem_append.mp ho with z | z
  · exact h.rx o z
  · rw [List.mem_singleton.mp z]; exact hx⟩
theorem RowsOk.nd {i : Nat} {rs : List Row} (h : RowsOk i rs) (hi : i ≤ 12) : (rs.map Row.nm).Nodup := by
  rw [List.Nodup, List.pairwise_iff_getElem]
  intro j k hj hk hlt e
  have hl := h.len
  simp only [List.length_map] at hj hk
  have h1 := h.nm j rs[j] (List.getElem?_eq_getElem hj)
  have h2 := h.nm k rs[k] (List.getElem?_eq_getElem hk)
  simp only [List.getElem_map] at e
  rw [e, h2] at h1
  have := lts_inj k (by omega) j (by omega) h1
  omega
structure StandsOk (i : Nat) (rs : List Stand) : Prop where
  len : rs.length = i
  rx : ∀ r ∈ rs, -4 ≤ r.a ∧ r.a ≤ 4 ∧ -4 ≤ r.b ∧ r.b ≤ 4 ∧ -4 ≤ r.c ∧ r.c ≤ 4 ∧ -4 ≤ r.d ∧ r.d ≤ 4
theorem plan_tail (many beats heard : Int) (h1 : 2 ≤ many) (h2 : many ≤ 12) (h3 : 1 ≤ beats) (h4 : beats ≤ 40) (h5 : 1 ≤ heard) (h6 : heard ≤ 12) (Q0 : D → Store → Prop) (p0 p : PoolSt) (G : Store) (hc : closedS (mkP p0 G)) (q : ∀ (P : Plan) (p' : PoolSt), P.Ok → Q0 (planD P) (mkP p' G)) :
    Tail w__law_plan_s6 (EX (mkP p0 G) Q0) [some (.ref 1), some (.int many), some (.int beats), some (.int heard), none, none, none, none, none, none, none, none, none, none, none, none] (mkP p G) := by
  refine ⟨?_⟩
  obtain ⟨m, rfl⟩ := nat_of (show 0 ≤ many by omega)
  obtain ⟨bs, rfl⟩ := nat_of (show 0 ≤ beats by omega)
  have ll := lts_len
  walk_at "go"
  refine forG_range0 (fun i ρ S => ∃ (x y : Option D) (p' : PoolSt) (rs : List Row), ρ = [some (.ref 1), some (.int m), some (.int bs), some (.int heard), some (.str lts), some (.ref (mkP p G).length), x, none, none, none, none, none, none, y, none, none] ∧ S = mkP p' (G ++ [.lst (rs.map stD)]) ∧ RowsOk i rs) ⟨none, none, p, [], rfl, rfl, ⟨by simp, rfl, by simp, by simp⟩⟩ ?_ ?_
  · rintro i ρ S k hi ⟨x, y, p', rs, rfl, rfl, hrs⟩ hk
    have hi' : i < m := by simpa using hi
    have hl := hrs.len
    refine ⟨trivial, _, rfl, ?_⟩
    walk_at "go"
    rename_i a pa a0 a1
    obtain ⟨ca, hca⟩ := atS_int (z := lts) a0 (by omega)
    rw [hca]
    walk_at "go"
    rename_i b pb b0 b1
    obtain ⟨cb, hcb⟩ := atS_int (z := lts) b0 (by omega)
    rw [hcb]
    walk_at "go"
    obtain ⟨cc, hcc, hcc2⟩ := atS_get (z := lts) (i := i) (by omega)
    rw [hcc]
    walk_at "go"
    refine ⟨isL_of getE, ?_⟩
    walk_at "go"
    rename_i n pn n0 n1 u pu u0 u1 v pv v0 v1
    rw [getE]
    refine ⟨by simp; rw [sizeLine_eq]; omega, ?_⟩
    rw [setE]
    refine hk _ _ ⟨_, _, pv, rs ++ [⟨chS ca ++ repS (chS cb) n.toNat ++ chS cc, u, v⟩], rfl, ?_, hrs.more (strOk_app (strOk_app (strOk_at lts_so hca) (strOk_rep (strOk_at lts_so hcb) _)) (strOk_at lts_so hcc)) ?_ ⟨u0, u1, v0, v1⟩⟩
    · rw [List.map_append]; rfl
    · rw [hcc2]; exact lastC_app _ _
  · rintro ρ S ⟨x, y, p', rs, rfl, rfl, hrs⟩
    refine ⟨trivial, ?_⟩
    walk_at "go"
    have hl := hrs.len
    rw [show itemsD (mkP p' (G ++ [.lst (rs.map stD)])) (.ref (mkP p G).length) = some (rs.map stD) by show (match _ with | some (Ob.lst ds) => some ds | _ => none) = _; rw [getE]]
    obtain ⟨rs2, hp2, es2⟩ := sortD_map (f := stD) rs
    refine ⟨sort_ok (fun r hr => ⟨by simp [stD, D.py, pyAll, PyData.canLay0, PyData.canLayAll0, hrs.so r hr], by simp [stD, D.py, pyAll, PyData.depth, PyData.depthAll]⟩) (fun r => ⟨.str r.nm, [.int r.x, .int r.y], by simp [stD, D.py, pyAll]⟩) (fun r o => by simp [stD, D.py, pyAll, PySem.W.alike, PySem.W.alikeAll]), ?_⟩
    rw [es2]
    walk_at "go"
    refine forG_range0 (fun i ρ S => ∃ (x y z : Option D) (p' : PoolSt) (ss : List Stand), ρ = [some (.ref 1), some (.int m), some (.int bs), some (.int heard), some (.str lts), some (.ref (mkP p (G ++ [.lst (rs.map stD)])).length), z, some (.ref (mkP p (G ++ [.lst (rs.map stD)] ++ [.lst (rs2.map stD)])).length), x, none, none, none, none, _, y, none] ∧ S = mkP p' (G ++ [.lst (rs.map stD)] ++ [.lst (rs2.map stD)] ++ [.lst (ss.map sdD)]) ∧ StandsOk i ss) ⟨none, none, _, p', [], rfl, rfl, ⟨rfl, by simp⟩⟩ ?_ ?_
    · rintro i ρ S k hi ⟨x, y, z, p', ss, rfl, rfl, hss⟩ hk
      have hi' : i < bs := by simpa using hi
      have hl2 := hss.len
      refine ⟨trivial, _, rfl, ?_⟩
      walk_at "go"
      rename_i a pa a0 a1
      obtain ⟨ca, hca⟩ := atS_int (z := lts) a0 (by omega)
      rw [hca]
      walk_at "go"
      rename_i b pb b0 b1
      obtain ⟨cb, hcb⟩ := atS_int (z := lts) b0 (by omega)
      rw [hcb]
      walk_at "go"
      refine ⟨isL_of getE, ?_⟩
      walk_at "go"
      refine compG_rule (fun j acc S => ∃ (p2 : PoolSt) (ns : List Int), S = mkP p2 (G ++ [.lst (rs.map stD)] ++ [.lst (rs2.map stD)] ++ [.lst (ss.map sdD)]) ∧ acc = ns.map D.int ∧ ns.length = j ∧ ∀ c ∈ ns, -4 ≤ c ∧ c ≤ 4) ⟨pb, [], rfl, rfl, rfl, by simp⟩ ?_ ?_
      · rintro j d acc S k2 hj ⟨p2, ns, rfl, rfl, hnl, hnb⟩ hk2
        have hj4 : j < 4 := by
          have := (List.getElem?_eq_some_iff.mp hj).1
          simpa [intsD_length] using this
        have hd : d = .int (0 + (j : Int)) := by
          unfold intsD at hj
          rw [List.getElem?_map, List.getElem?_range (by simpa using hj4)] at hj
          exact (Option.some.inj hj).symm
        subst hd
        refine ⟨trivial, _, rfl, ?_⟩
        walk_at "go"
        rename_i v pv v0 v1
        refine hk2 _ _ ⟨pv, ns ++ [v], rfl, by rw [List.map_append]; rfl, by simp; omega, fun c hc => ?_⟩
        rcases List.mem_append.mp hc with z | z
        · exact hnb c z
        · rw [List.mem_singleton.mp z]; exact ⟨v0, v1⟩
      · rintro acc S ⟨p2, ns, rfl, rfl, hnl, hnb⟩
        refine ⟨trivial, ?_⟩
        rw [intsD_length] at hnl
        obtain ⟨a1, a2, a3, a4, rfl⟩ : ∃ a1 a2 a3 a4, ns = [a1, a2, a3, a4] := by
          match ns, hnl with
          | [a1, a2, a3, a4], _ => exact ⟨a1, a2, a3, a4, rfl⟩
        have b1 := hnb a1 (by simp)
        have b2 := hnb a2 (by simp)
        have b3 := hnb a3 (by simp)
        have b4 := hnb a4 (by simp)
        walk_at "go"
        rw [getE]
        refine ⟨by simp; rw [sizeLine_eq]; omega, ?_⟩
        rw [setE]
        refine hk _ _ ⟨_, _, _, p2, ss ++ [⟨chS ca ++ chS cb, a1, a2, a3, a4⟩], rfl, ?_, ⟨by simp; omega, fun r hr => ?_⟩⟩
        · rw [List.map_append]; rfl
        · rcases List.mem_append.mp hr with z | z
          · exact hss.rx r z
          · rw [List.mem_singleton.mp z]; exact ⟨b1.1, b1.2, b2.1, b2.2, b3.1, b3.2, b4.1, b4.2⟩
    · rintro ρ S ⟨x, y, z, p', ss, rfl, rfl, hss⟩
      refine ⟨trivial, ?_⟩
      walk_at "go"
      refine compG_rule (fun j acc S => ∃ (p2 : PoolSt) (ns : List Int), S = mkP p2 (G ++ [.lst (rs.map stD)] ++ [.lst (rs2.map stD)] ++ [.lst (ss.map sdD)]) ∧ acc = ns.map D.int ∧ ns.length = j ∧ ∀ c ∈ ns, 1 ≤ c ∧ c ≤ 100) ⟨p', [], rfl, rfl, rfl, by simp⟩ ?_ ?_
      · rintro j d acc S k2 hj ⟨p2, ns, rfl, rfl, hnl, hnb⟩ hk2
        have hj4 : j < 12 := by
          have := (List.getElem?_eq_some_iff.mp hj).1
          rw [intsD_length] at this
          omega
        refine ⟨trivial, _, rfl, ?_⟩
        walk_at "go"
        rename_i v pv v0 v1
        refine hk2 _ _ ⟨pv, ns ++ [1 + v], rfl, by rw [List.map_append]; rfl, by simp; omega, fun c hc => ?_⟩
        rcases List.mem_append.mp hc with z | z
        · exact hnb c z
        · rw [List.mem_singleton.mp z]; omega
      · rintro acc S ⟨p2, ns, rfl, rfl, hnl, hnb⟩
        refine ⟨trivial, ?_⟩
        rw [intsD_length] at hnl
        walk_at "go"
        refine ⟨ns, rfl, by omega, fun ms hp hm => ?_⟩
        walk_at "go"
        rename_i w _ w0 w1 b pb b0 b1
        obtain ⟨fd, hfd, hfm⟩ := at_mem (ds := [D.int 0, D.int (2 + w)]) b0 (by simp; omega)
        obtain ⟨fo, rfl, fo0, fo1⟩ : ∃ fo : Int, fd = .int fo ∧ 0 ≤ fo ∧ fo ≤ 24 := by
          simp only [List.mem_cons, List.not_mem_nil, or_false] at hfm
          rcases hfm with rfl | rfl
          · exact ⟨_, rfl, by omega, by omega⟩
          · exact ⟨_, rfl, by omega, by omega⟩
        rw [hfd]
        walk_at "go"
        rename_i e pe e0 e1
        obtain ⟨dl, hdl, hdm⟩ := at_mem (ds := [.tup [.int 12, .int 11], .tup [.int 0, .int (-1)], .tup [.int 0, .int 1], .tup [.int 9, .int 8], .tup [.int 8, .int 3], .tup [.int 10000, .int 1]]) e0 (by simp; omega)
        have hdp : pureD dl := by
          simp only [List.mem_cons, List.not_mem_nil, or_false] at hdm
          rcases hdm with rfl | rfl | rfl | rfl | rfl | rfl <;> simp [pureD, pureL]
        rw [hdl]
        walk_at "go"
        rw [getE2]
        walk_at "go"
        have hl2 : rs2.length = m := by rw [hp2.length_eq, hl]; simp
        refine compG_map (enc := stD) (f := tmD ((bs : Int) - 1)) getE2 (by omega) (fun r hr => ⟨_, rfl, fun Q qq => ?_⟩) ?_
        · walk_at "go"
          exact qq
        walk_at "go"
        obtain ⟨ts, htp, hts⟩ := sortD_map (f := tmD ((bs : Int) - 1)) rs2
        refine ⟨sort_ok (fun r hr => ⟨by simp [tmD, D.py, pyAll, PyData.canLay0, PyData.canLayAll0, hrs.so r (hp2.mem_iff.mp hr), flat_so], by simp [tmD, D.py, pyAll, PyData.depth, PyData.depthAll]⟩) (fun r => ⟨.str r.nm, [.str r.nm, .str "flat", .int 0, .int ((bs : Int) - 1), .int 1, .int 100], by simp [tmD, D.py, pyAll]⟩) (fun r o => by simp [tmD, D.py, pyAll, PySem.W.alike, PySem.W.alikeAll]), ?_⟩
        rw [hts]
        walk_at "go"
        rw [getE2]
        walk_at "go"
        rw [getE]
        walk_at "go"
        have hms : ms.Nodup := hp.imp fun h e => by omega
        have hml : ms.length ≤ ns.length := nodup_len hms fun x hx => (hm x).mp hx
        have hne : ns ≠ [] := by intro e; rw [e] at hnl; simp at hnl; omega
        have mne : ms ≠ [] := by
          intro e
          cases ns with
          | nil => exact hne rfl
          | cons a r =>
            have := (hm a).mpr (by simp)
            rw [e] at this
            cases this
        have eS : mkP pe (G ++ [.lst (rs.map stD)] ++ [.lst (rs2.map stD)] ++ [.lst (ss.map sdD)]) = mkP pe G ++ ([.lst (rs.map stD)] ++ [.lst (rs2.map stD)] ++ [.lst (ss.map sdD)]) := by simp [mkP]
        show Exit (mkP p0 G).length (planD ⟨dl, fo, rs2, ss, ms, .tup (ts.map (tmD ((bs : Int) - 1)))⟩) (mkP pe (G ++ [.lst (rs.map stD)] ++ [.lst (rs2.map stD)] ++ [.lst (ss.map sdD)])) Q0
        rw [eS]
        refine Exit.fin (n0 := (mkP p0 G).length) (S := mkP pe G) (G := [.lst (rs.map stD)] ++ [.lst (rs2.map stD)] ++ [.lst (ss.map sdD)]) (d' := planD ⟨dl, fo, rs2, ss, ms, .tup (ts.map (tmD ((bs : Int) - 1)))⟩) (by simp [mkP]) (closed_same hc) (frz_pure ?_) (q ⟨dl, fo, rs2, ss, ms, .tup (ts.map (tmD ((bs : Int) - 1)))⟩ pe ?_)
        · simp only [planD, pureD, pureL, and_true, true_and]
          exact ⟨hdp, pure_map (fun r => by simp [stD, pureD, pureL]) _, pure_map (fun r => by simp [sdD, pureD, pureL]) _, pure_map (fun r => by simp [pureD]) _, pure_map (fun r => by simp [tmD, pureD, pureL]) _⟩
        · exact {
            fold0 := fo0
            fold1 := fo1
            rows := by intro e; have e' : rs2 = [] := e; rw [e'] at hl2; simp at hl2; omega
            rowl := by show rs2.length ≤ 100; omega
            nd := (hp2.map Row.nm).nodup_iff.mpr (hrs.nd (by omega))
            rx := fun r hr => hrs.rx r (hp2.mem_iff.mp hr)
            stands := by intro e; have e' : ss = [] := e; have := hss.len; rw [e'] at this; simp at this; omega
            standl := by show ss.length ≤ 100; have := hss.len; omega
            sx := hss.rx
            chans := mne
            chanl := by show ms.length ≤ 100; omega
            cx := fun c hc => hnb c ((hm c).mp hc) }
theorem v__law_plan (ds : List D) (S : Store) (Q0 : D → Store → Prop) (hl : ds.length = 1) (hc : closedS S) (hd : closedL S.length ds) (h : c__law_plan ds S Q0) : w__law_plan (EX S Q0) (ds.map some ++ List.replicate 15 none) S := by
  obtain ⟨p, G, rfl, rfl, q⟩ := h
  walk_at "goS"
  all_goals exact plan_tail _ _ _ (by omega) (by omega) (by omega) (by omega) (by omega) (by omega) Q0 p _ G hc q
end K15

set_option maxHeartbeats 1000000
namespace K15
open PySem PySem.Spec PyProof.Rows L2 DL
local macro_rules | `(tactic| walk_at "w") => `(tactic| conv => whnf)
local macro_rules | `(tactic| walk_at "side") => `(tactic| first | exact True.intro | omega | with_reducible assumption | (simp only [sizeLine_eq, List.length_append, List.length_cons, List.length_nil, List.length_map, List.length_set]; omega) | exact (rfl : _ = _) | exact Int.mul_pos (by omega) (by omega) | exact DL.MulOk.l (by omega) (by omega) | exact DL.MulOk.r (by omega) (by omega) | exact DL.MulOk.big (by omega) (by omega) | exact DL.DivOk.of (by omega) (by omega) | (unfold CPow; decide) | (intro hh; cases hh; done))
local macro_rules | `(tactic| walk_at "call") => `(tactic| fail "no contract")
local macro_rules | `(tactic| walk_at "go1") => `(tactic| ((conv => whnf); first | (refine And.intro ?_ ?_; ((walk_at "side"))) | walk_at "call" | (refine cIf_t rfl ?_) | refine cIf_f rfl ?_))
local macro_rules | `(tactic| walk_at "go") => `(tactic| ((repeat (walk_at "go1")); try (conv => whnf)))
local macro_rules | `(tactic| walk_at "yes") => `(tactic| (refine cIf_t (by first | rfl | simp | (simp; omega)) ?_; walk_at "go"))
local macro_rules | `(tactic| walk_at "no") => `(tactic| (refine cIf_f (by first | rfl | simp | (simp; omega)) ?_; walk_at "go"))
local macro_rules | `(tactic| walk_at "goS") => `(tactic| ((repeat' (first | walk_at "go1" | ((conv => whnf); refine cIf_d (fun h => ?_) (fun h => ?_)))); all_goals (try (conv => whnf))))
local macro_rules | `(tactic| walk_at "call") => `(tactic| ((with_reducible show askC c_rest_of _ _ _); refine rest_k ?_ ?_; (walk_at "side")))
local macro_rules | `(tactic| walk_at "call") => `(tactic| ((with_reducible show askC c_folded_key _ _ _); refine folded_k ?_ ?_; (walk_at "side")))
local macro_rules | `(tactic| walk_at "call") => `(tactic| ((with_reducible show askC c_other_key _ _ _); refine other_k ?_ ?_; (walk_at "side")))
local macro_rules | `(tactic| walk_at "call") => `(tactic| ((with_reducible show askC c__law_take _ _ _); refine take_k ?_ ?_ ?_; (walk_at "side"); (walk_at "side"); intro d p' h0 h1))
local macro_rules | `(tactic| walk_at "call") => `(tactic| ((with_reducible show askC c__law_pick _ _ _); refine pick_k ?_ ?_ ?_; (walk_at "side"); (walk_at "side"); intro d p' h0 h1))
local macro_rules | `(tactic| walk_at "call") => `(tactic| ((with_reducible show askC c__law_near _ _ _); refine near_k ?_ ?_ ?_; (walk_at "side"); (walk_at "side"); intro d p' h0 h1))
local macro_rules | `(tactic| walk_at "call") => `(tactic| ((with_reducible show askC c__law_integer _ _ _); refine int_k ?_ ?_ ?_; (walk_at "side"); (walk_at "side"); intro d p' h0 h1))
local macro_rules | `(tactic| walk_at "call") => `(tactic| ((with_reducible show askC c__law_folded _ _ _); refine lfolded_k ?_ ?_; (walk_at "side")))
local macro_rules | `(tactic| walk_at "call") => `(tactic| ((with_reducible show askC c__law_is_pair _ _ _); refine pair_k ?_))

theorem plan_k {p : PoolSt} {G : Store} {Q : D → Store → Prop} (q : ∀ (P : Plan) (p' : PoolSt), P.Ok → Q (planD P) (mkP p' G)) : askC c__law_plan [.ref 1] (mkP p G) Q := ask_in ⟨p, G, rfl, rfl, q⟩
theorem ok_fold {P : Plan} (h : P.Ok) {f : Int} (h0 : 0 ≤ f) (h1 : f ≤ 24) : ({ P with fold := f } : Plan).Ok := { h with fold0 := h0, fold1 := h1 }
theorem turn_loop (P : Plan) (ok : P.Ok) (f : Int) (f0 : 0 ≤ f) (f1 : f ≤ 24) (sc fo la co : Option D) (y1 y2 y3 y4 y5 : Option D) (p : PoolSt) (G : Store) (D0 : EndsD)
    (hD : ∀ (y1 y2 y3 y4 y5 : Option D) (p : PoolSt), D0.nx [sc, some (.ref 1), fo, la, co, some (.int f), some (planD P), some (planD { P with fold := f }), y1, y2, y3, y4, y5] (mkP p G)) :
    forG (Tg.name 8) w_law_for2 (fun _ => True) D0 (intsD 0 8) [sc, some (.ref 1), fo, la, co, some (.int f), some (planD P), some (planD { P with fold := f }), y1, y2, y3, y4, y5] (mkP p G) := by
  refine forG_range0 (n := 8) (fun i ρ S => ∃ (y1 y2 y3 y4 y5 : Option D) (p : PoolSt), ρ = [sc, some (.ref 1), fo, la, co, some (.int f), some (planD P), some (planD { P with fold := f }), y1, y2, y3, y4, y5] ∧ S = mkP p G) ⟨_, _, _, _, _, p, rfl, rfl⟩ ?_ ?_
  · rintro i ρ S k hi ⟨y1, y2, y3, y4, y5, p, rfl, rfl⟩ hk
    refine ⟨trivial, _, rfl, ?_⟩
    have s0 : 0 < P.stands.length := List.length_pos_iff.mpr ok.stands
    have r0 : 0 < P.rows.length := List.length_pos_iff.mpr ok.rows
    have c0 : 0 < P.chans.length := List.length_pos_iff.mpr ok.chans
    have s1 := ok.standl
    have r1 := ok.rowl
    have c1 := ok.chanl
    walk_at "go"
    rename_i b _ b0 b1 c _ c0 c1
    obtain ⟨b, rfl⟩ := nat_of b0
    have hb : b < P.stands.length := by simpa using b1
    have ch : ∃ ch : Int, 1 ≤ ch ∧ ch ≤ 100 ∧ ch = 1 + c := ⟨1 + c, by omega, by omega, rfl⟩
    obtain ⟨ch, h1, h2, ech⟩ := ch
    rw [← ech]
    refine cIf_d (fun h => ?_) (fun h => ?_)
    · walk_at "go"
      rename_i d _ d0 d1
      obtain ⟨d, rfl⟩ := nat_of d0
      have hd : d < P.chans.length := by simpa using d1
      have hcx := ok.cx _ (List.getElem_mem hd)
      rw [at_list (List.getElem?_eq_getElem hd)]
      generalize P.chans[d] = ch2 at *
      walk_at "go"
      rename_i e _ e0 e1
      obtain ⟨e, rfl⟩ := nat_of e0
      have he : e < P.rows.length := by simpa using e1
      rw [at_list (List.getElem?_eq_getElem he)]
      walk_at "go"
      rename_i g pg g0 g1
      obtain ⟨g, rfl⟩ := nat_of g0
      have hg : g < P.rows.length := by simpa using g1
      rw [at_list (List.getElem?_eq_getElem hg)]
      walk_at "go"
      refine ask_in ⟨{ P with fold := f }, P.rows[e], P.rows[g], b, P.stands[b], ch2, rfl, ok_fold ok f0 f1, List.getElem_mem he, List.getElem_mem hg, List.getElem?_eq_getElem hb, hcx.1, hcx.2, ?_⟩
      walk_at "go"
      exact hk _ _ ⟨_, _, _, _, _, pg, rfl, rfl⟩
    · walk_at "go"
      rename_i e _ e0 e1
      obtain ⟨e, rfl⟩ := nat_of e0
      have he : e < P.rows.length := by simpa using e1
      rw [at_list (List.getElem?_eq_getElem he)]
      walk_at "go"
      rename_i g pg g0 g1
      obtain ⟨g, rfl⟩ := nat_of g0
      have hg : g < P.rows.length := by simpa using g1
      rw [at_list (List.getElem?_eq_getElem hg)]
      walk_at "go"
      refine ask_in ⟨{ P with fold := f }, P.rows[e], P.rows[g], b, P.stands[b], ch, rfl, ok_fold ok f0 f1, List.getElem_mem he, List.getElem_mem hg, List.getElem?_eq_getElem hb, h1, h2, ?_⟩
      walk_at "go"
      exact hk _ _ ⟨_, _, _, _, _, pg, rfl, rfl⟩
  · rintro ρ S ⟨y1, y2, y3, y4, y5, p, rfl, rfl⟩
    exact ⟨trivial, hD _ _ _ _ _ _⟩
/-- the folds that are asked, 0 ahead -/
structure FoldsOk (fs : List Int) : Prop where
  len : fs.length ≤ 40
  hd : fs[0]? = some 0
  snd : 1 < fs.length
  bd : ∀ f ∈ fs, 0 ≤ f ∧ f ≤ 24
theorem law_s6 (fs : List Int) (hf : FoldsOk fs) (a : Nat) (sc la : Option D) (n : Nat) (c0 c1 c2 : Int) (h0 : 0 < c0) (h1 : 0 < c1) (h2 : 0 < c2) (y0 y1 y2 y3 y4 y5 y6 y7 : Option D) (Q0 : D → Store → Prop) (q : Q0 (.bl true) []) (p : PoolSt) (G : Store) (hG : G[a]? = some (.lst (fs.map .int))) (hC : G[n]? = some (cnt c0 c1 c2)) :
    Tail w_law_s6 (EX [] Q0) [sc, some (.ref 1), some (.ref (a + 2)), la, some (.ref (n + 2)), y0, y1, y2, y3, y4, y5, y6, y7] (mkP p G) := by
  have gA : ∀ p : PoolSt, (mkP p G)[a + 2]? = some (.lst (fs.map .int)) := fun p => hG
  have gC : ∀ p : PoolSt, (mkP p G)[n + 2]? = some (cnt c0 c1 c2) := fun p => hC
  refine ⟨?_⟩
  walk_at "go"
  refine forG_range0 (n := 2) (fun i ρ S => ∃ (la y0 y1 y2 y3 y4 y5 y6 y7 : Option D) (p : PoolSt), ρ = [sc, some (.ref 1), some (.ref (a + 2)), la, some (.ref (n + 2)), y0, y1, y2, y3, y4, y5, y6, y7] ∧ S = mkP p G) ⟨_, _, _, _, _, _, _, _, _, p, rfl, rfl⟩ ?_ ?_
  · rintro i ρ S k hi ⟨la, y0, y1, y2, y3, y4, y5, y6, y7, p, rfl, rfl⟩ hk
    refine ⟨trivial, _, rfl, ?_⟩
    walk_at "go"
    refine plan_k fun P pP ok => ?_
    walk_at "go"
    rw [gA]
    walk_at "go"
    obtain ⟨f, hf1⟩ : ∃ f, fs[1]? = some f := ⟨_, List.getElem?_eq_getElem hf.snd⟩
    have e1 : atD (fs.map D.int) 1 = some (D.int f) := at_list (n := 1) hf1
    rw [e1]
    walk_at "go"
    have f1 := hf.bd _ (List.mem_of_getElem? hf1)
    have pf0 := ok.fold0
    have pf1 := ok.fold1
    refine forG_list (enc := D.int) (ys := [P.fold, f]) (fun _ ρ S => ∃ (y0 y2 y3 y4 y5 y6 y7 : Option D) (p : PoolSt), ρ = [sc, some (.ref 1), some (.ref (a + 2)), some (.int i), some (.ref (n + 2)), y0, some (planD P), y2, y3, y4, y5, y6, y7] ∧ S = mkP p G) ⟨_, _, _, _, _, _, _, pP, rfl, rfl⟩ ?_ ?_
    · rintro j fv ρ S k3 hj ⟨y0, y2, y3, y4, y5, y6, y7, p, rfl, rfl⟩ hk3
      have hfv : 0 ≤ fv ∧ fv ≤ 24 := by
        have := List.mem_of_getElem? hj
        simp only [List.mem_cons, List.not_mem_nil, or_false] at this
        rcases this with rfl | rfl
        · exact ⟨pf0, pf1⟩
        · exact f1
      refine ⟨trivial, _, rfl, ?_⟩
      walk_at "go"
      refine ⟨by simp, by rw [sizeLine_eq]; exact (by decide : 2 + 4 ≤ 16777216), ?_⟩
      walk_at "go"
      refine turn_loop P ok fv hfv.1 hfv.2 _ _ _ _ _ _ _ _ _ p G _ ?_
      intro z1 z2 z3 z4 z5 p
      exact hk3 _ _ ⟨_, _, _, _, _, _, _, p, rfl, rfl⟩
    · rintro ρ S ⟨y0, y2, y3, y4, y5, y6, y7, p, rfl, rfl⟩
      exact ⟨trivial, hk _ _ ⟨_, _, _, _, _, _, _, _, _, p, rfl, rfl⟩⟩
  · rintro ρ S ⟨la, y0, y1, y2, y3, y4, y5, y6, y7, p, rfl, rfl⟩
    refine ⟨trivial, ?_⟩
    walk_at "go"
    rw [gC]
    walk_at "go"
    refine cIf_pos h0 ?_
    walk_at "go"
    rw [gC]
    walk_at "go"
    refine cIf_pos h1 ?_
    walk_at "go"
    rw [gC]
    walk_at "go"
    have e : D.bl (decide (0 < c2)) = .bl true := by simp [h2]
    exact Exit.val (S := []) (G := mkP p G) (fun ds h => by cases h) True.intro (by first | exact q | (rw [e]; exact q) | (have q' := q; rw [← e] at q'; exact q'))
theorem law_s4 (fs : List Int) (hf : FoldsOk fs) (a : Nat) (sc la y0 y1 y2 y3 y4 y5 y6 y7 : Option D) (Q0 : D → Store → Prop) (q : Q0 (.bl true) []) (p : PoolSt) (G : Store) (hG : G[a]? = some (.lst (fs.map .int))) :
    Tail w_law_s4 (EX [] Q0) [sc, some (.ref 1), some (.ref (a + 2)), la, none, y0, y1, y2, y3, y4, y5, y6, y7] (mkP p G) := by
  have ha : a < G.length := (List.getElem?_eq_some_iff.mp hG).1
  have gA : ∀ (p : PoolSt) (o : Ob), (mkP p (G ++ [o]))[a + 2]? = some (.lst (fs.map .int)) := fun p o => by
    show (G ++ [o])[a]? = _
    rw [List.getElem?_append_left ha]
    exact hG
  refine ⟨?_⟩
  walk_at "go"
  have e1 : (mkP p G ++ [.lst [.int 0, .int 0, .int 0]] : Store) = mkP p (G ++ [cnt 0 0 0]) := rfl
  rw [e1, gA]
  walk_at "go"
  refine forG_list (enc := D.int) (fun i ρ S => ∃ (y0 : Option D) (p : PoolSt) (c0 c1 c2 : Int), ρ = [sc, some (.ref 1), some (.ref (a + 2)), la, some (.ref (G.length + 2)), y0, y1, y2, y3, y4, y5, y6, y7] ∧ S = mkP p (G ++ [cnt c0 c1 c2]) ∧ 0 ≤ c0 ∧ 0 ≤ c1 ∧ 0 ≤ c2 ∧ (1 ≤ i → 0 < c0 ∧ 0 < c1 ∧ 0 < c2)) ⟨_, p, 0, 0, 0, rfl, rfl, by omega, by omega, by omega, by omega⟩ ?_ ?_
  · rintro i f ρ S k hi ⟨y0, p, c0, c1, c2, rfl, rfl, h0, h1, h2, hp⟩ hk
    have hb := hf.bd f (List.mem_of_getElem? hi)
    refine ⟨gA _ _, _, rfl, ?_⟩
    walk_at "go"
    refine ask_in ⟨f, p, G ++ [cnt c0 c1 c2], G.length, c0, c1, c2, rfl, rfl, get_last, hb.1, hb.2, fun p' d0 d1 d2 g0 g1 g2 gz => ?_⟩
    rw [set_last]
    walk_at "go"
    refine hk _ _ ⟨_, p', d0, d1, d2, rfl, rfl, by omega, by omega, by omega, fun _ => ?_⟩
    by_cases hi1 : 1 ≤ i
    · have := hp hi1
      omega
    · have e : i = 0 := by omega
      subst e
      have : f = 0 := by
        have h3 := hf.hd
        rw [hi] at h3
        exact Option.some.inj h3
      have := gz this
      omega
  · rintro ρ S ⟨y0, p, c0, c1, c2, rfl, rfl, h0, h1, h2, hp⟩
    refine ⟨gA _ _, ?_⟩
    have hp' := hp (by have := hf.snd; omega)
    exact law_s6 fs hf a _ _ G.length c0 c1 c2 hp'.1 hp'.2.1 hp'.2.2 _ _ _ _ _ _ _ _ Q0 q p _ (by rw [List.getElem?_append_left ha]; exact hG) get_last
theorem v_law (ds : List D) (S : Store) (Q0 : D → Store → Prop) (hl : ds.length = 1) (hc : closedS S) (hd : closedL S.length ds) (h : c_law ds S Q0) : w_law (EX S Q0) (ds.map some ++ List.replicate 12 none) S := by
  obtain ⟨ns, rfl, rfl, hn, q⟩ := h
  walk_at "go"
  refine ask_in ⟨ns, rfl, rfl, hn, fun p => ?_⟩
  walk_at "go"
  rename_i a pa a0 a1 b pb b0 b1
  refine forG_range0 (n := 3) (fun i ρ S => ∃ (la : Option D) (p : PoolSt) (gs : List Int), ρ = [some (.lst (ns.map .int)), some (.ref 1), some (.ref 2), la, none, none, none, none, none, none, none, none, none] ∧ S = mkP p [.lst ((0 :: (3 + a) :: gs).map .int)] ∧ gs.length = 1 + i ∧ ∀ g ∈ gs, 0 ≤ g ∧ g ≤ 24) ⟨none, pb, [2 + 2 * b], rfl, rfl, rfl, fun g hg => by rw [List.mem_singleton.mp hg]; omega⟩ ?_ ?_
  · rintro i ρ S k hi ⟨la, p, gs, rfl, rfl, hl3, hb3⟩ hk
    refine ⟨trivial, _, rfl, ?_⟩
    walk_at "go"
    rename_i c pc c0 c1
    refine hk _ _ ⟨_, pc, gs ++ [2 + c], rfl, ?_, by simp; omega, fun g hg => ?_⟩
    · simp only [List.map_cons, List.map_append]; rfl
    · rcases List.mem_append.mp hg with z | z
      · exact hb3 g z
      · rw [List.mem_singleton.mp z]; omega
  · rintro ρ S ⟨la, p, gs, rfl, rfl, hl3, hb3⟩
    refine ⟨trivial, ?_⟩
    have hf1 : FoldsOk (0 :: (3 + a) :: gs) := ⟨by simp; omega, rfl, by simp, fun f hf => by
      rcases List.mem_cons.mp hf with rfl | hf
      · omega
      · rcases List.mem_cons.mp hf with rfl | hf
        · omega
        · exact hb3 f hf⟩
    walk_at "go"
    refine cIf_d (fun h => ?_) (fun h => ?_)
    · walk_at "go"
      refine ⟨23, ⟨by decide, by decide, by decide +kernel, by decide +kernel⟩, by decide, ?_⟩
      walk_at "go"
      refine ⟨by rw [sizeLine_eq]; simp [stepD], ?_⟩
      walk_at "go"
      refine law_s4 (0 :: (List.range 23).map fun i : Nat => (2 : Int) + (i : Int)) ⟨by simp, rfl, by simp, fun f hf => ?_⟩ 3 _ _ _ _ _ _ _ _ _ _ Q0 q _ _ ?_
      rotate_left
      · rfl
      rcases List.mem_cons.mp hf with rfl | hf
      · omega
      · obtain ⟨j, hj, rfl⟩ := List.mem_map.mp hf
        have := List.mem_range.mp hj
        omega
    · walk_at "go"
      exact law_s4 _ hf1 0 _ _ _ _ _ _ _ _ _ _ Q0 q _ _ rfl
end K15

set_option maxHeartbeats 4000000
namespace K15
open PySem PySem.Spec PyProof.Rows L2 DL
section
variable {P : Program} {w : World} {K : PySem.W.Frag} {mg : Str → Option Value} {base : Heap}
theorem b_rest_of (T : Txt K mg)  (fa : Addr) (cdv : Value) (A : Around) (outer : List PySem.Env) (s : Shared) (H : Hp) (E : XK) (hr : Room 0 (A.deeper (envOfC "rest_of" (defScope s_rest_of) s.heap.objs.size fa cdv))) :
    SSs (cxOf CX0 P w K mg base ["integer", "modulus"] "rest_of" (defScope s_rest_of) fa cdv A outer s H E).nox (defBody s_rest_of) w_rest_of :=
  (ss_cons (ss_eqv gIf_eq (ss_if (st_eq hr.units (se_var 1) se_int) (ss_one (ss_ret (se_var 0))) ss_nil))
  (ss_one (ss_ret (se_mod (se_var 0) (se_var 1)))))
theorem b_folded_key (T : Txt K mg) (d_rest_of : Def P w K mg base 1 "rest_of" ["integer", "modulus"] c_rest_of) (fa : Addr) (cdv : Value) (A : Around) (outer : List PySem.Env) (s : Shared) (H : Hp) (E : XK) (hr : Room 1 (A.deeper (envOfC "folded_key" (defScope s_folded_key) s.heap.objs.size fa cdv))) :
    SSs (cxOf CX0 P w K mg base ["fold", "pair"] "folded_key" (defScope s_folded_key) fa cdv A outer s H E).nox (defBody s_folded_key) w_folded_key :=
  (ss_one (ss_ret (se_tup (sa_cons (se_eqv gFn_eq (se_fn d_rest_of (hr.mono (by decide)) (by rfl) (sa_cons (se_ixG (se_var 1) se_int) (sa_cons (se_var 0) sa_nil)))) (sa_cons (se_eqv gFn_eq (se_fn d_rest_of (hr.mono (by decide)) (by rfl) (sa_cons (se_ixG (se_var 1) se_int) (sa_cons (se_var 0) sa_nil)))) sa_nil)))))
theorem b_other_key (T : Txt K mg) (d_folded_key : Def P w K mg base 2 "folded_key" ["fold", "pair"] c_folded_key) (fa : Addr) (cdv : Value) (A : Around) (outer : List PySem.Env) (s : Shared) (H : Hp) (E : XK) (hr : Room 2 (A.deeper (envOfC "other_key" (defScope s_other_key) s.heap.objs.size fa cdv))) :
    SSs (cxOf CX0 P w K mg base ["fold", "key"] "other_key" (defScope s_other_key) fa cdv A outer s H E).nox (defBody s_other_key) w_other_key :=
  (ss_one (ss_ret (se_eqv gFn_eq (se_fn d_folded_key (hr.mono (by decide)) (by rfl) (sa_cons (se_var 0) (sa_cons (se_tup (sa_cons (se_neg (se_ixG (se_var 1) se_int)) (sa_cons (se_neg (se_ixG (se_var 1) se_int)) sa_nil))) sa_nil))))))
theorem b_lead_key (T : Txt K mg) (d_other_key : Def P w K mg base 3 "other_key" ["fold", "key"] c_other_key) (fa : Addr) (cdv : Value) (A : Around) (outer : List PySem.Env) (s : Shared) (H : Hp) (E : XK) (hr : Room 3 (A.deeper (envOfC "lead_key" (defScope s_lead_key) s.heap.objs.size fa cdv))) :
    SSs (cxOf CX0 P w K mg base ["fold", "key", "other"] "lead_key" (defScope s_lead_key) fa cdv A outer s H E).nox (defBody s_lead_key) w_lead_key :=
  (ss_cons (ss_set (i := 2) sc_lead_key.nd (se_eqv gFn_eq (se_fn d_other_key (hr.mono (by decide)) (by rfl) (sa_cons (se_var 0) (sa_cons (se_var 1) sa_nil)))))
  (ss_cons (ss_eqv gIf_eq (ss_if (st_gtD hr.units (se_var 2) (se_var 1)) (ss_one (ss_ret (se_var 2))) ss_nil))
  (ss_one (ss_ret (se_var 1)))))
theorem b_is_self_key (T : Txt K mg) (d_other_key : Def P w K mg base 3 "other_key" ["fold", "key"] c_other_key) (fa : Addr) (cdv : Value) (A : Around) (outer : List PySem.Env) (s : Shared) (H : Hp) (E : XK) (hr : Room 3 (A.deeper (envOfC "is_self_key" (defScope s_is_self_key) s.heap.objs.size fa cdv))) :
    SSs (cxOf CX0 P w K mg base ["fold", "key"] "is_self_key" (defScope s_is_self_key) fa cdv A outer s H E).nox (defBody s_is_self_key) w_is_self_key :=
  (ss_one (ss_ret (se_eq hr.units (se_eqv gFn_eq (se_fn d_other_key (hr.mono (by decide)) (by rfl) (sa_cons (se_var 0) (sa_cons (se_var 1) sa_nil)))) (se_var 1))))
theorem b_place_of (T : Txt K mg)  (fa : Addr) (cdv : Value) (A : Around) (outer : List PySem.Env) (s : Shared) (H : Hp) (E : XK) (hr : Room 0 (A.deeper (envOfC "place_of" (defScope s_place_of) s.heap.objs.size fa cdv))) :
    SSs (cxOf CX0 P w K mg base ["plan", "station", "name", "across", "along"] "place_of" (defScope s_place_of) fa cdv A outer s H E).nox (defBody s_place_of) w_place_of :=
  (ss_cons (ss_eqv gFor_eq (ss_for PassesOwn.never rfl (si_seq (se_ixG (se_var 0) se_int)) (sg_tup rfl (sgs_cons (sg_name sc_place_of.nd) (sgs_cons (sg_name sc_place_of.nd) (sgs_cons (sg_name sc_place_of.nd) sgs_nil)))) (ss_one (ss_eqv gIf_eq (ss_if (st_eq hr.units (se_var 2) (se_var 1)) (ss_one (ss_ret (se_tup (sa_cons (se_var 3) (sa_cons (se_var 4) sa_nil))))) ss_nil)))))
  (ss_one (ss_ret se_non)))
theorem b_place_at (T : Txt K mg) (d_place_of : Def P w K mg base 1 "place_of" ["plan", "station"] c_place_of) (fa : Addr) (cdv : Value) (A : Around) (outer : List PySem.Env) (s : Shared) (H : Hp) (E : XK) (hr : Room 1 (A.deeper (envOfC "place_at" (defScope s_place_at) s.heap.objs.size fa cdv))) :
    SSs (cxOf CX0 P w K mg base ["plan", "beat", "station", "across", "along", "first", "second", "third", "fourth"] "place_at" (defScope s_place_at) fa cdv A outer s H E).nox (defBody s_place_at) w_place_at :=
  (ss_cons (ss_asg (se_eqv gFn_eq (se_fn d_place_of (hr.mono (by decide)) (by rfl) (sa_cons (se_var 0) (sa_cons (se_var 2) sa_nil)))) (sg_tup rfl (sgs_cons (sg_name sc_place_at.nd) (sgs_cons (sg_name sc_place_at.nd) sgs_nil))))
  (ss_cons (ss_asg (se_ixG (se_ixG (se_ixG (se_var 0) se_int) (se_var 1)) se_int) (sg_tup rfl (sgs_cons (sg_name sc_place_at.nd) (sgs_cons (sg_name sc_place_at.nd) (sgs_cons (sg_name sc_place_at.nd) (sgs_cons (sg_name sc_place_at.nd) sgs_nil))))))
  (ss_one (ss_ret (se_tup (sa_cons (se_addG (se_mulG (se_var 5) (se_var 3)) (se_mulG (se_var 6) (se_var 4))) (sa_cons (se_addG (se_mulG (se_var 7) (se_var 3)) (se_mulG (se_var 8) (se_var 4))) sa_nil)))))))
theorem b_key_seen (T : Txt K mg) (d_place_at : Def P w K mg base 2 "place_at" ["plan", "beat", "station"] c_place_at) (d_folded_key : Def P w K mg base 2 "folded_key" ["fold", "pair"] c_folded_key) (fa : Addr) (cdv : Value) (A : Around) (outer : List PySem.Env) (s : Shared) (H : Hp) (E : XK) (hr : Room 2 (A.deeper (envOfC "key_seen" (defScope s_key_seen) s.heap.objs.size fa cdv))) :
    SSs (cxOf CX0 P w K mg base ["plan", "beat", "channel", "station", "other", "begin", "end"] "key_seen" (defScope s_key_seen) fa cdv A outer s H E).nox (defBody s_key_seen) w_key_seen :=
  (ss_cons (ss_set (i := 5) sc_key_seen.nd (se_eqv gFn_eq (se_fn d_place_at (hr.mono (by decide)) (by rfl) (sa_cons (se_var 0) (sa_cons (se_var 1) (sa_cons (se_var 3) sa_nil))))))
  (ss_cons (ss_set (i := 6) sc_key_seen.nd (se_eqv gFn_eq (se_fn d_place_at (hr.mono (by decide)) (by rfl) (sa_cons (se_var 0) (sa_cons (se_var 1) (sa_cons (se_var 4) sa_nil))))))
  (ss_one (ss_ret (se_eqv gFn_eq (se_fn d_folded_key (hr.mono (by decide)) (by rfl) (sa_cons (se_ixG (se_var 0) se_int) (sa_cons (se_tup (sa_cons (se_mulG (se_var 2) (se_sub (se_ixG (se_var 6) se_int) (se_ixG (se_var 5) se_int))) (sa_cons (se_mulG (se_var 2) (se_sub (se_ixG (se_var 6) se_int) (se_ixG (se_var 5) se_int))) sa_nil))) sa_nil))))))))
theorem b__law_pool (T : Txt K mg)  (fa : Addr) (cdv : Value) (A : Around) (outer : List PySem.Env) (s : Shared) (H : Hp) (E : XK) (hr : Room 0 (A.deeper (envOfC "_law_pool" (defScope s__law_pool) s.heap.objs.size fa cdv))) :
    SSs (cxOf CX0 P w K mg base ["script", "great", "seed", "place", "cell", "size"] "_law_pool" (defScope s__law_pool) fa cdv A outer s H E).nox (defBody s__law_pool) w__law_pool :=
  (ss_cons (ss_set (i := 1) sc__law_pool.nd (se_new sa_nil))
  (ss_cons (ss_set (i := 2) sc__law_pool.nd se_int)
  (ss_cons (ss_eqv gFor_eq (ss_for PassesOwn.never rfl (si_enumerate (by rfl) T.f_enumerate (sa_cons (se_slice (se_var 0) so_none (so_some se_int)) sa_nil)) (sg_tup rfl (sgs_cons (sg_name sc__law_pool.nd) (sgs_cons (sg_name sc__law_pool.nd) sgs_nil))) (ss_cons (ss_set (i := 5) sc__law_pool.nd (se_abs (by rfl) T.f_abs (sa_cons (se_cint (by rfl) T.f_int (sa_cons (se_var 4) sa_nil)) sa_nil)))
  (ss_cons (ss_set (i := 2) sc__law_pool.nd (se_mod (se_cint (by rfl) T.f_int (sa_cons (se_addG (se_addG (se_addG (se_mulG (se_var 2) se_int) (se_mulG (se_var 5) se_int)) (se_mulG (se_var 3) se_int)) (se_mulG se_int (se_cint (by rfl) T.f_int (sa_cons (se_ltD hr.units (se_var 4) se_int) sa_nil)))) sa_nil)) se_int))
  (ss_one (ss_eqv gIf_eq (ss_if (st_geD hr.units (se_var 5) (se_pow se_int se_int)) (ss_one (ss_expr (se_meth md_append (pe_bm PySem.F.plainAttrs_list PySem.F.slot_list_append PySem.F.type_list_append mt_append (se_var 1) (sa_cons (se_var 5) sa_nil))))) ss_nil)))))))
  (ss_one (ss_ret (se_new (sa_cons (se_var 1) (sa_cons (se_var 2) (sa_cons se_int sa_nil)))))))))
theorem b__law_take (T : Txt K mg)  (fa : Addr) (cdv : Value) (A : Around) (outer : List PySem.Env) (s : Shared) (H : Hp) (E : XK) (hr : Room 0 (A.deeper (envOfC "_law_take" (defScope s__law_take) s.heap.objs.size fa cdv))) :
    SSs (cxOf CX0 P w K mg base ["pool", "many", "mixed", "cell"] "_law_take" (defScope s__law_take) fa cdv A outer s H E).nox (defBody s__law_take) w__law_take :=
  (ss_cons (ss_put (se_addG (se_ixG (se_var 0) se_int) se_int) (se_var 0) se_int)
  (ss_cons (ss_eqv gIf_eq (ss_if (st_tru (se_ixG (se_var 0) se_int)) (ss_cons (ss_set (i := 3) sc__law_take.nd (se_ixG (se_ixG (se_var 0) se_int) se_int))
  (ss_cons (ss_eqv gIf_eq (ss_if (st_ltD hr.units (se_var 3) (se_var 1)) (ss_one (ss_expr (se_meth md_popAt (pe_bm PySem.F.plainAttrs_list PySem.F.slot_list_pop PySem.F.type_list_pop mt_popAt (se_ixG (se_var 0) se_int) (sa_cons se_int sa_nil))))) (ss_one (ss_put (se_div (se_var 3) (se_var 1)) (se_ixG (se_var 0) se_int) se_int))))
  (ss_one (ss_ret (se_mod (se_cint (by rfl) T.f_int (sa_cons (se_var 3) sa_nil)) (se_var 1)))))) ss_nil))
  (ss_cons (ss_set (i := 2) sc__law_take.nd (se_mod (se_cint (by rfl) T.f_int (sa_cons (se_addG (se_addG (se_mulG (se_ixG (se_var 0) se_int) se_int) (se_mulG (se_ixG (se_var 0) se_int) se_int)) se_int) sa_nil)) se_int))
  (ss_cons (ss_set (i := 2) sc__law_take.nd (se_mod (se_cint (by rfl) T.f_int (sa_cons (se_addG (se_mulG (se_var 2) (se_var 2)) (se_mulG (se_ixG (se_var 0) se_int) se_int)) sa_nil)) se_int))
  (ss_cons (ss_set (i := 2) sc__law_take.nd (se_mod (se_cint (by rfl) T.f_int (sa_cons (se_addG (se_mulG (se_var 2) se_int) se_int) sa_nil)) se_int))
  (ss_one (ss_ret (se_mod (se_div (se_var 2) se_int) (se_var 1)))))))))
theorem b__law_pick (T : Txt K mg) (d__law_take : Def P w K mg base 1 "_law_take" ["pool", "many"] c__law_take) (fa : Addr) (cdv : Value) (A : Around) (outer : List PySem.Env) (s : Shared) (H : Hp) (E : XK) (hr : Room 1 (A.deeper (envOfC "_law_pick" (defScope s__law_pick) s.heap.objs.size fa cdv))) :
    SSs (cxOf CX0 P w K mg base ["pool", "place", "many", "habit"] "_law_pick" (defScope s__law_pick) fa cdv A outer s H E).nox (defBody s__law_pick) w__law_pick :=
  (ss_cons (ss_eqv gIf_eq (ss_if (st_bool (sw_eqv gAnd_eq (sw_and (st_not (st_tru (se_ixG (se_var 0) se_int))) (sw_and1 (st_eq hr.units (se_mod (se_cint (by rfl) T.f_int (sa_cons (se_ixG (se_var 0) se_int) sa_nil)) se_int) se_int))))) (ss_cons (ss_set (i := 3) sc__law_pick.nd (se_mod (se_cint (by rfl) T.f_int (sa_cons (se_addG (se_mulG (se_div (se_ixG (se_var 0) se_int) se_int) se_int) (se_mulG (se_var 1) se_int)) sa_nil)) se_int))
  (ss_cons (ss_eqv gIf_eq (ss_if (st_eq hr.units (se_var 3) se_int) (ss_one (ss_ret se_int)) ss_nil))
  (ss_cons (ss_eqv gIf_eq (ss_if (st_eq hr.units (se_var 3) se_int) (ss_one (ss_ret (se_sub (se_var 2) se_int))) ss_nil))
  (ss_one (ss_eqv gIf_eq (ss_if (st_eq hr.units (se_var 3) se_int) (ss_one (ss_ret (se_mod (se_cint (by rfl) T.f_int (sa_cons (se_addG (se_div (se_ixG (se_var 0) se_int) se_int) (se_var 1)) sa_nil)) (se_var 2)))) ss_nil)))))) ss_nil))
  (ss_one (ss_ret (se_eqv gFn_eq (se_fn d__law_take (hr.mono (by decide)) (by rfl) (sa_cons (se_var 0) (sa_cons (se_var 2) sa_nil)))))))
theorem b__law_near (T : Txt K mg) (d__law_pick : Def P w K mg base 2 "_law_pick" ["pool", "place", "many"] c__law_pick) (fa : Addr) (cdv : Value) (A : Around) (outer : List PySem.Env) (s : Shared) (H : Hp) (E : XK) (hr : Room 2 (A.deeper (envOfC "_law_near" (defScope s__law_near) s.heap.objs.size fa cdv))) :
    SSs (cxOf CX0 P w K mg base ["pool", "place", "bound", "kind"] "_law_near" (defScope s__law_near) fa cdv A outer s H E).nox (defBody s__law_near) w__law_near :=
  (ss_cons (ss_set (i := 3) sc__law_near.nd (se_eqv gFn_eq (se_fn d__law_pick (hr.mono (by decide)) (by rfl) (sa_cons (se_var 0) (sa_cons (se_var 1) (sa_cons se_int sa_nil))))))
  (ss_cons (ss_eqv gIf_eq (ss_if (st_eq hr.units (se_var 3) se_int) (ss_one (ss_ret (se_var 2))) ss_nil))
  (ss_cons (ss_eqv gIf_eq (ss_if (st_eq hr.units (se_var 3) se_int) (ss_one (ss_ret (se_neg (se_var 2)))) ss_nil))
  (ss_cons (ss_eqv gIf_eq (ss_if (st_eq hr.units (se_var 3) se_int) (ss_one (ss_ret se_int)) ss_nil))
  (ss_one (ss_ret (se_sub (se_eqv gFn_eq (se_fn d__law_pick (hr.mono (by decide)) (by rfl) (sa_cons (se_var 0) (sa_cons (se_addG (se_var 1) se_int) (sa_cons (se_addG (se_mulG se_int (se_var 2)) se_int) sa_nil))))) (se_var 2))))))))
theorem b__law_integer (T : Txt K mg) (d__law_pick : Def P w K mg base 2 "_law_pick" ["pool", "place", "many"] c__law_pick) (d__law_near : Def P w K mg base 3 "_law_near" ["pool", "place", "bound"] c__law_near) (fa : Addr) (cdv : Value) (A : Around) (outer : List PySem.Env) (s : Shared) (H : Hp) (E : XK) (hr : Room 3 (A.deeper (envOfC "_law_integer" (defScope s__law_integer) s.heap.objs.size fa cdv))) :
    SSs (cxOf CX0 P w K mg base ["pool", "place", "fold", "kind"] "_law_integer" (defScope s__law_integer) fa cdv A outer s H E).nox (defBody s__law_integer) w__law_integer :=
  (ss_cons (ss_set (i := 3) sc__law_integer.nd (se_eqv gFn_eq (se_fn d__law_pick (hr.mono (by decide)) (by rfl) (sa_cons (se_var 0) (sa_cons (se_var 1) (sa_cons se_int sa_nil))))))
  (ss_cons (ss_eqv gIf_eq (ss_if (st_eq hr.units (se_var 3) se_int) (ss_one (ss_ret (se_eqv gFn_eq (se_fn d__law_near (hr.mono (by decide)) (by rfl) (sa_cons (se_var 0) (sa_cons (se_addG (se_var 1) se_int) (sa_cons se_int sa_nil))))))) ss_nil))
  (ss_cons (ss_eqv gIf_eq (ss_if (st_bool (sw_eqv gAnd_eq (sw_and (st_eq hr.units (se_var 3) se_int) (sw_and1 (st_gtD hr.units (se_var 2) se_int))))) (ss_one (ss_ret (se_mulG (se_var 2) (se_sub (se_eqv gFn_eq (se_fn d__law_pick (hr.mono (by decide)) (by rfl) (sa_cons (se_var 0) (sa_cons (se_addG (se_var 1) se_int) (sa_cons se_int sa_nil))))) se_int)))) ss_nil))
  (ss_cons (ss_eqv gIf_eq (ss_if (st_bool (sw_eqv gAnd_eq (sw_and (st_eq hr.units (se_var 3) se_int) (sw_and1 (st_gtD hr.units (se_var 2) se_int))))) (ss_one (ss_ret (se_mulG (se_div (se_var 2) se_int) (se_sub (se_eqv gFn_eq (se_fn d__law_pick (hr.mono (by decide)) (by rfl) (sa_cons (se_var 0) (sa_cons (se_addG (se_var 1) se_int) (sa_cons se_int sa_nil))))) se_int)))) ss_nil))
  (ss_cons (ss_eqv gIf_eq (ss_if (st_eq hr.units (se_var 3) se_int) (ss_one (ss_ret (se_sub (se_eqv gFn_eq (se_fn d__law_pick (hr.mono (by decide)) (by rfl) (sa_cons (se_var 0) (sa_cons (se_addG (se_var 1) se_int) (sa_cons se_int sa_nil))))) se_int))) ss_nil))
  (ss_one (ss_ret (se_sub (se_eqv gFn_eq (se_fn d__law_pick (hr.mono (by decide)) (by rfl) (sa_cons (se_var 0) (sa_cons (se_addG (se_var 1) se_int) (sa_cons se_int sa_nil))))) se_int))))))))
theorem b__law_folded (T : Txt K mg)  (fa : Addr) (cdv : Value) (A : Around) (outer : List PySem.Env) (s : Shared) (H : Hp) (E : XK) (hr : Room 0 (A.deeper (envOfC "_law_folded" (defScope s__law_folded) s.heap.objs.size fa cdv))) :
    SSs (cxOf CX0 P w K mg base ["fold", "pair"] "_law_folded" (defScope s__law_folded) fa cdv A outer s H E).nox (defBody s__law_folded) w__law_folded :=
  (ss_cons (ss_eqv gIf_eq (ss_if (st_eq hr.units (se_var 0) se_int) (ss_one (ss_ret (se_tup (sa_cons (se_ixG (se_var 1) se_int) (sa_cons (se_ixG (se_var 1) se_int) sa_nil))))) ss_nil))
  (ss_one (ss_ret (se_tup (sa_cons (se_mod (se_cint (by rfl) T.f_int (sa_cons (se_ixG (se_var 1) se_int) sa_nil)) (se_var 0)) (sa_cons (se_mod (se_cint (by rfl) T.f_int (sa_cons (se_ixG (se_var 1) se_int) sa_nil)) (se_var 0)) sa_nil))))))
theorem b__law_is_pair (T : Txt K mg)  (fa : Addr) (cdv : Value) (A : Around) (outer : List PySem.Env) (s : Shared) (H : Hp) (E : XK) (hr : Room 0 (A.deeper (envOfC "_law_is_pair" (defScope s__law_is_pair) s.heap.objs.size fa cdv))) :
    SSs (cxOf CX0 P w K mg base ["told", "due", "at"] "_law_is_pair" (defScope s__law_is_pair) fa cdv A outer s H E).nox (defBody s__law_is_pair) w__law_is_pair :=
  (ss_cons (ss_eqv gIf_eq (ss_if (st_bool (sw_eqv gOr_eq (sw_or (st_not (st_tru (se_eqv (gIsT_eq .tuple) (se_isT (Tn := "tuple") (by rfl) T.f_isinstance (by rfl) T.f_tuple (by decide +kernel) (se_var 0))))) (sw_or1 (st_ne hr.units (se_len (by rfl) T.f_len (sa_cons (se_var 0) sa_nil)) se_int))))) (ss_one (ss_ret se_bl)) ss_nil))
  (ss_cons (ss_eqv gFor_eq (ss_for PassesOwn.never rfl (si_range1 (by rfl) T.f_range (sa_cons se_int sa_nil)) (sg_name sc__law_is_pair.nd) (ss_one (ss_eqv gIf_eq (ss_if (st_bool (sw_eqv gOr_eq (sw_or (st_not (st_tru (se_eqv (gIsT_eq .int) (se_isT (Tn := "int") (by rfl) T.f_isinstance (by rfl) T.f_int (by decide +kernel) (se_ixG (se_var 0) (se_var 2)))))) (sw_eqv gOr_eq (sw_or (st_tru (se_eqv (gIsT_eq .bool) (se_isT (Tn := "bool") (by rfl) T.f_isinstance (by rfl) T.f_bool (by decide +kernel) (se_ixG (se_var 0) (se_var 2))))) (sw_or1 (st_ne hr.units (se_ixG (se_var 0) (se_var 2)) (se_ixG (se_var 1) (se_var 2))))))))) (ss_one (ss_ret se_bl)) ss_nil)))))
  (ss_one (ss_ret se_bl))))
theorem b__law_key_right (T : Txt K mg) (d__law_folded : Def P w K mg base 1 "_law_folded" ["fold", "pair"] c__law_folded) (d__law_is_pair : Def P w K mg base 1 "_law_is_pair" ["told", "due"] c__law_is_pair) (d_folded_key : Def P w K mg base 2 "folded_key" ["fold", "pair"] c_folded_key) (d_other_key : Def P w K mg base 3 "other_key" ["fold", "key"] c_other_key) (d_lead_key : Def P w K mg base 4 "lead_key" ["fold", "key"] c_lead_key) (d_is_self_key : Def P w K mg base 4 "is_self_key" ["fold", "key"] c_is_self_key) (fa : Addr) (cdv : Value) (A : Around) (outer : List PySem.Env) (s : Shared) (H : Hp) (E : XK) (hr : Room 4 (A.deeper (envOfC "_law_key_right" (defScope s__law_key_right) s.heap.objs.size fa cdv))) :
    SSs (cxOf CX0 P w K mg base ["fold", "key", "counts", "other", "lead", "alone", "told"] "_law_key_right" (defScope s__law_key_right) fa cdv A outer s H E).nox (defBody s__law_key_right) w__law_key_right :=
  (ss_cons (ss_set (i := 3) sc__law_key_right.nd (se_eqv gFn_eq (se_fn d__law_folded (hr.mono (by decide)) (by rfl) (sa_cons (se_var 0) (sa_cons (se_tup (sa_cons (se_neg (se_ixG (se_var 1) se_int)) (sa_cons (se_neg (se_ixG (se_var 1) se_int)) sa_nil))) sa_nil)))))
  (ss_cons (ss_set (i := 4) sc__law_key_right.nd (se_var 1))
  (ss_cons (ss_eqv gIf_eq (ss_if (st_bool (sw_eqv gOr_eq (sw_or (st_gtD hr.units (se_ixG (se_var 3) se_int) (se_ixG (se_var 1) se_int)) (sw_or1 (st_bool (sw_eqv gAnd_eq (sw_and (st_eq hr.units (se_ixG (se_var 3) se_int) (se_ixG (se_var 1) se_int)) (sw_and1 (st_gtD hr.units (se_ixG (se_var 3) se_int) (se_ixG (se_var 1) se_int)))))))))) (ss_cons (ss_set (i := 4) sc__law_key_right.nd (se_var 3))
  (ss_one (ss_put (se_addG (se_ixG (se_var 2) se_int) se_int) (se_var 2) se_int))) ss_nil))
  (ss_cons (ss_set (i := 5) sc__law_key_right.nd (se_eqv gAndV_eq (se_and (se_eq hr.units (se_ixG (se_var 3) se_int) (se_ixG (se_var 1) se_int)) (se_one (se_eq hr.units (se_ixG (se_var 3) se_int) (se_ixG (se_var 1) se_int))))))
  (ss_cons (ss_put (se_addG (se_ixG (se_var 2) (se_cint (by rfl) T.f_int (sa_cons (se_var 5) sa_nil))) se_int) (se_var 2) (se_cint (by rfl) T.f_int (sa_cons (se_var 5) sa_nil)))
  (ss_cons (ss_eqv gIf_eq (ss_if (st_bool (sw_eqv gOr_eq (sw_or (st_not (st_tru (se_eqv gFn_eq (se_fn d__law_is_pair (hr.mono (by decide)) (by rfl) (sa_cons (se_eqv gFn_eq (se_fn d_folded_key (hr.mono (by decide)) (by rfl) (sa_cons (se_var 0) (sa_cons (se_var 1) sa_nil)))) (sa_cons (se_var 1) sa_nil)))))) (sw_or1 (st_not (st_tru (se_eqv gFn_eq (se_fn d__law_is_pair (hr.mono (by decide)) (by rfl) (sa_cons (se_eqv gFn_eq (se_fn d_other_key (hr.mono (by decide)) (by rfl) (sa_cons (se_var 0) (sa_cons (se_var 1) sa_nil)))) (sa_cons (se_var 3) sa_nil)))))))))) (ss_one (ss_ret se_bl)) ss_nil))
  (ss_cons (ss_eqv gIf_eq (ss_if (st_not (st_tru (se_eqv gFn_eq (se_fn d__law_is_pair (hr.mono (by decide)) (by rfl) (sa_cons (se_eqv gFn_eq (se_fn d_lead_key (hr.mono (by decide)) (by rfl) (sa_cons (se_var 0) (sa_cons (se_var 1) sa_nil)))) (sa_cons (se_var 4) sa_nil)))))) (ss_one (ss_ret se_bl)) ss_nil))
  (ss_cons (ss_set (i := 6) sc__law_key_right.nd (se_eqv gFn_eq (se_fn d_is_self_key (hr.mono (by decide)) (by rfl) (sa_cons (se_var 0) (sa_cons (se_var 1) sa_nil)))))
  (ss_one (ss_ret (se_eqv gAndV_eq (se_and (se_eqv (gIsT_eq .bool) (se_isT (Tn := "bool") (by rfl) T.f_isinstance (by rfl) T.f_bool (by decide +kernel) (se_var 6))) (se_one (se_eq hr.units (se_var 6) (se_var 5)))))))))))))))
theorem b__law_fold_right (T : Txt K mg) (d__law_integer : Def P w K mg base 4 "_law_integer" ["pool", "place", "fold"] c__law_integer) (d__law_folded : Def P w K mg base 1 "_law_folded" ["fold", "pair"] c__law_folded) (d__law_is_pair : Def P w K mg base 1 "_law_is_pair" ["told", "due"] c__law_is_pair) (d_folded_key : Def P w K mg base 2 "folded_key" ["fold", "pair"] c_folded_key) (d__law_key_right : Def P w K mg base 5 "_law_key_right" ["fold", "key", "counts"] c__law_key_right) (fa : Addr) (cdv : Value) (A : Around) (outer : List PySem.Env) (s : Shared) (H : Hp) (E : XK) (hr : Room 5 (A.deeper (envOfC "_law_fold_right" (defScope s__law_fold_right) s.heap.objs.size fa cdv))) :
    SSs (cxOf CX0 P w K mg base ["pool", "fold", "counts", "half", "pairs", "lap", "pair", "key", "one"] "_law_fold_right" (defScope s__law_fold_right) fa cdv A outer s H E).nox (defBody s__law_fold_right) w__law_fold_right :=
  (ss_cons (ss_set (i := 3) sc__law_fold_right.nd (se_div (se_var 1) se_int))
  (ss_cons (ss_set (i := 4) sc__law_fold_right.nd (se_new (sa_cons (se_tup (sa_cons se_int (sa_cons se_int sa_nil))) (sa_cons (se_tup (sa_cons se_int (sa_cons se_int sa_nil))) (sa_cons (se_tup (sa_cons se_int (sa_cons (se_neg se_int) sa_nil))) (sa_cons (se_tup (sa_cons (se_var 3) (sa_cons (se_var 3) sa_nil))) (sa_cons (se_tup (sa_cons (se_var 3) (sa_cons se_int sa_nil))) (sa_cons (se_tup (sa_cons (se_neg (se_var 3)) (sa_cons (se_var 1) sa_nil))) (sa_cons (se_tup (sa_cons (se_neg se_int) (sa_cons se_int sa_nil))) sa_nil)))))))))
  (ss_cons (ss_eqv gFor_eq (ss_for PassesOwn.never rfl (si_range1 (by rfl) T.f_range (sa_cons se_int sa_nil)) (sg_name sc__law_fold_right.nd) (ss_one (ss_expr (se_meth md_append (pe_bm PySem.F.plainAttrs_list PySem.F.slot_list_append PySem.F.type_list_append mt_append (se_var 4) (sa_cons (se_tup (sa_cons (se_eqv gFn_eq (se_fn d__law_integer (hr.mono (by decide)) (by rfl) (sa_cons (se_var 0) (sa_cons se_int (sa_cons (se_var 1) sa_nil))))) (sa_cons (se_eqv gFn_eq (se_fn d__law_integer (hr.mono (by decide)) (by rfl) (sa_cons (se_var 0) (sa_cons se_int (sa_cons (se_var 1) sa_nil))))) sa_nil))) sa_nil)))))))
  (ss_cons (ss_eqv gFor_eq (ss_for PassesOwn.never rfl (si_seq (se_var 4)) (sg_name sc__law_fold_right.nd) (ss_cons (ss_set (i := 7) sc__law_fold_right.nd (se_eqv gFn_eq (se_fn d__law_folded (hr.mono (by decide)) (by rfl) (sa_cons (se_var 1) (sa_cons (se_var 6) sa_nil)))))
  (ss_cons (ss_eqv gIf_eq (ss_if (st_not (st_tru (se_eqv gFn_eq (se_fn d__law_is_pair (hr.mono (by decide)) (by rfl) (sa_cons (se_eqv gFn_eq (se_fn d_folded_key (hr.mono (by decide)) (by rfl) (sa_cons (se_var 1) (sa_cons (se_var 6) sa_nil)))) (sa_cons (se_var 7) sa_nil)))))) (ss_one (ss_ret se_bl)) ss_nil))
  (ss_one (ss_eqv gFor_eq (ss_for PassesOwn.never rfl (si_seq (se_tup (sa_cons (se_var 7) (sa_cons (se_eqv gFn_eq (se_fn d__law_folded (hr.mono (by decide)) (by rfl) (sa_cons (se_var 1) (sa_cons (se_tup (sa_cons (se_neg (se_ixG (se_var 7) se_int)) (sa_cons (se_neg (se_ixG (se_var 7) se_int)) sa_nil))) sa_nil)))) sa_nil)))) (sg_name sc__law_fold_right.nd) (ss_one (ss_eqv gIf_eq (ss_if (st_not (st_tru (se_eqv gFn_eq (se_fn d__law_key_right (hr.mono (by decide)) (by rfl) (sa_cons (se_var 1) (sa_cons (se_var 8) (sa_cons (se_var 2) sa_nil))))))) (ss_one (ss_ret se_bl)) ss_nil))))))))))
  (ss_one (ss_ret se_bl))))))
theorem b__law_plan (T : Txt K mg) (d__law_pick : Def P w K mg base 2 "_law_pick" ["pool", "place", "many"] c__law_pick) (d__law_take : Def P w K mg base 1 "_law_take" ["pool", "many"] c__law_take) (d__law_near : Def P w K mg base 3 "_law_near" ["pool", "place", "bound"] c__law_near) (fa : Addr) (cdv : Value) (A : Around) (outer : List PySem.Env) (s : Shared) (H : Hp) (E : XK) (hr : Room 3 (A.deeper (envOfC "_law_plan" (defScope s__law_plan) s.heap.objs.size fa cdv))) :
    SSs (cxOf CX0 P w K mg base ["pool", "many", "beats", "heard", "letters", "stations", "lap", "stands", "beat", "channels", "fold", "dial", "terms", "name", "patch", "station"] "_law_plan" (defScope s__law_plan) fa cdv A outer s H E).nox (defBody s__law_plan) w__law_plan :=
  (ss_cons (ss_set (i := 1) sc__law_plan.nd (se_addG se_int (se_eqv gFn_eq (se_fn d__law_pick (hr.mono (by decide)) (by rfl) (sa_cons (se_var 0) (sa_cons se_int (sa_cons se_int sa_nil)))))))
  (ss_cons (ss_set (i := 2) sc__law_plan.nd (se_addG se_int (se_eqv gFn_eq (se_fn d__law_pick (hr.mono (by decide)) (by rfl) (sa_cons (se_var 0) (sa_cons se_int (sa_cons se_int sa_nil)))))))
  (ss_cons (ss_set (i := 3) sc__law_plan.nd (se_addG se_int (se_eqv gFn_eq (se_fn d__law_pick (hr.mono (by decide)) (by rfl) (sa_cons (se_var 0) (sa_cons se_int (sa_cons se_int sa_nil)))))))
  (ss_cons (ss_eqv gIf_eq (ss_if (st_eq hr.units (se_eqv gFn_eq (se_fn d__law_pick (hr.mono (by decide)) (by rfl) (sa_cons (se_var 0) (sa_cons se_int (sa_cons se_int sa_nil))))) se_int) (ss_one (ss_set (i := 1) sc__law_plan.nd se_int)) ss_nil))
  (ss_cons (ss_eqv gIf_eq (ss_if (st_eq hr.units (se_eqv gFn_eq (se_fn d__law_pick (hr.mono (by decide)) (by rfl) (sa_cons (se_var 0) (sa_cons se_int (sa_cons se_int sa_nil))))) se_int) (ss_one (ss_set (i := 2) sc__law_plan.nd se_int)) ss_nil))
  (ss_cons (ss_eqv gIf_eq (ss_if (st_eq hr.units (se_eqv gFn_eq (se_fn d__law_pick (hr.mono (by decide)) (by rfl) (sa_cons (se_var 0) (sa_cons se_int (sa_cons se_int sa_nil))))) se_int) (ss_one (ss_set (i := 3) sc__law_plan.nd se_int)) ss_nil))
  (sss_eqv tail_eq (ss_cons (ss_set (i := 4) sc__law_plan.nd se_str)
  (ss_cons (ss_set (i := 5) sc__law_plan.nd (se_new sa_nil))
  (ss_cons (ss_eqv gFor_eq (ss_for PassesOwn.never rfl (si_range1 (by rfl) T.f_range (sa_cons (se_var 1) sa_nil)) (sg_name sc__law_plan.nd) (ss_cons (ss_set (i := 13) sc__law_plan.nd (se_addG (se_addG (se_ixG (se_var 4) (se_eqv gFn_eq (se_fn d__law_take (hr.mono (by decide)) (by rfl) (sa_cons (se_var 0) (sa_cons se_int sa_nil))))) (se_mulG (se_ixG (se_var 4) (se_eqv gFn_eq (se_fn d__law_take (hr.mono (by decide)) (by rfl) (sa_cons (se_var 0) (sa_cons se_int sa_nil))))) (se_eqv gFn_eq (se_fn d__law_pick (hr.mono (by decide)) (by rfl) (sa_cons (se_var 0) (sa_cons se_int (sa_cons se_int sa_nil))))))) (se_ixG (se_var 4) (se_var 6))))
  (ss_one (ss_expr (se_meth md_append (pe_bm PySem.F.plainAttrs_list PySem.F.slot_list_append PySem.F.type_list_append mt_append (se_var 5) (sa_cons (se_tup (sa_cons (se_var 13) (sa_cons (se_eqv gFn_eq (se_fn d__law_near (hr.mono (by decide)) (by rfl) (sa_cons (se_var 0) (sa_cons se_int (sa_cons se_int sa_nil))))) (sa_cons (se_eqv gFn_eq (se_fn d__law_near (hr.mono (by decide)) (by rfl) (sa_cons (se_var 0) (sa_cons se_int (sa_cons se_int sa_nil))))) sa_nil)))) sa_nil))))))))
  (ss_cons (ss_set (i := 5) sc__law_plan.nd (se_sortedN (units66 hr) (by rfl) T.f_sorted (sa_cons (se_var 5) sa_nil)))
  (ss_cons (ss_set (i := 7) sc__law_plan.nd (se_new sa_nil))
  (ss_cons (ss_eqv gFor_eq (ss_for PassesOwn.never rfl (si_range1 (by rfl) T.f_range (sa_cons (se_var 2) sa_nil)) (sg_name sc__law_plan.nd) (ss_cons (ss_set (i := 14) sc__law_plan.nd (se_addG (se_ixG (se_var 4) (se_eqv gFn_eq (se_fn d__law_take (hr.mono (by decide)) (by rfl) (sa_cons (se_var 0) (sa_cons se_int sa_nil))))) (se_ixG (se_var 4) (se_eqv gFn_eq (se_fn d__law_take (hr.mono (by decide)) (by rfl) (sa_cons (se_var 0) (sa_cons se_int sa_nil)))))))
  (ss_one (ss_expr (se_meth md_append (pe_bm PySem.F.plainAttrs_list PySem.F.slot_list_append PySem.F.type_list_append mt_append (se_var 7) (sa_cons (se_tup (sa_cons (se_var 14) (sa_cons (se_tuple (by rfl) T.f_tuple (sa_cons (se_eqv gComp_eq (se_lc rfl sc__law_plan.nd (si_range1 (by rfl) T.f_range (sa_cons se_int sa_nil)) (blkOk_by (N := ["pool", "many", "beats", "heard", "letters", "stations", "lap", "stands", "beat", "channels", "fold", "dial", "terms", "name", "patch", "station"]) (sc := defScope s__law_plan) (own := [("lap", 6)]) (by decide +kernel)) rfl (by decide) (fun _ _ _ _ _ => (sg_name sc__law_plan.nd)) (fun _ _ _ _ _ => sts_nil) (fun _ _ _ _ _ => (se_eqv gFn_eq (se_fn d__law_near (hr.mono (by decide)) (by rfl) (sa_cons (se_var 0) (sa_cons (se_addG se_int (se_mulG se_int (se_var 6))) (sa_cons se_int sa_nil)))))))) sa_nil)) sa_nil))) sa_nil))))))))
  (ss_cons (ss_set (i := 9) sc__law_plan.nd (se_sortedSetI rfl (by rfl) T.f_sorted (by rfl) T.f_set (sa_cons (se_eqv gComp_eq (se_lc rfl sc__law_plan.nd (si_range1 (by rfl) T.f_range (sa_cons (se_var 3) sa_nil)) (blkOk_by (N := ["pool", "many", "beats", "heard", "letters", "stations", "lap", "stands", "beat", "channels", "fold", "dial", "terms", "name", "patch", "station"]) (sc := defScope s__law_plan) (own := [("lap", 6)]) (by decide +kernel)) rfl (by decide) (fun _ _ _ _ _ => (sg_name sc__law_plan.nd)) (fun _ _ _ _ _ => sts_nil) (fun _ _ _ _ _ => (se_addG se_int (se_eqv gFn_eq (se_fn d__law_pick (hr.mono (by decide)) (by rfl) (sa_cons (se_var 0) (sa_cons se_int (sa_cons se_int sa_nil))))))))) sa_nil)))
  (ss_cons (ss_set (i := 10) sc__law_plan.nd (se_ixG (se_tup (sa_cons se_int (sa_cons (se_addG se_int (se_eqv gFn_eq (se_fn d__law_pick (hr.mono (by decide)) (by rfl) (sa_cons (se_var 0) (sa_cons se_int (sa_cons se_int sa_nil)))))) sa_nil))) (se_eqv gFn_eq (se_fn d__law_pick (hr.mono (by decide)) (by rfl) (sa_cons (se_var 0) (sa_cons se_int (sa_cons se_int sa_nil)))))))
  (ss_cons (ss_set (i := 11) sc__law_plan.nd (se_ixG (se_tup (sa_cons (se_tup (sa_cons se_int (sa_cons se_int sa_nil))) (sa_cons (se_tup (sa_cons se_int (sa_cons (se_neg se_int) sa_nil))) (sa_cons (se_tup (sa_cons se_int (sa_cons se_int sa_nil))) (sa_cons (se_tup (sa_cons se_int (sa_cons se_int sa_nil))) (sa_cons (se_tup (sa_cons se_int (sa_cons se_int sa_nil))) (sa_cons (se_tup (sa_cons se_int (sa_cons se_int sa_nil))) sa_nil))))))) (se_eqv gFn_eq (se_fn d__law_pick (hr.mono (by decide)) (by rfl) (sa_cons (se_var 0) (sa_cons se_int (sa_cons se_int sa_nil)))))))
  (ss_cons (ss_set (i := 12) sc__law_plan.nd (se_sorted (units66 hr) (by rfl) T.f_sorted (sa_cons (se_eqv gComp_eq (se_lc rfl sc__law_plan.nd (si_seq (se_var 5)) (blkOk_by (N := ["pool", "many", "beats", "heard", "letters", "stations", "lap", "stands", "beat", "channels", "fold", "dial", "terms", "name", "patch", "station"]) (sc := defScope s__law_plan) (own := [("station", 15)]) (by decide +kernel)) rfl (by decide) (fun _ _ _ _ _ => (sg_name sc__law_plan.nd)) (fun _ _ _ _ _ => sts_nil) (fun _ _ _ _ _ => (se_tup (sa_cons (se_ixG (se_var 15) se_int) (sa_cons (se_ixG (se_var 15) se_int) (sa_cons se_str (sa_cons se_int (sa_cons (se_sub (se_var 2) se_int) (sa_cons se_int (sa_cons se_int sa_nil))))))))))) sa_nil)))
  (ss_one (ss_ret (se_tup (sa_cons (se_var 11) (sa_cons (se_var 10) (sa_cons (se_tuple (by rfl) T.f_tuple (sa_cons (se_var 5) sa_nil)) (sa_cons (se_tuple (by rfl) T.f_tuple (sa_cons (se_var 7) sa_nil)) (sa_cons (se_tuple (by rfl) T.f_tuple (sa_cons (se_var 9) sa_nil)) (sa_cons (se_tuple (by rfl) T.f_tuple (sa_cons (se_var 12) sa_nil)) sa_nil))))))))))))))))))))))))))
theorem b__law_place (T : Txt K mg)  (fa : Addr) (cdv : Value) (A : Around) (outer : List PySem.Env) (s : Shared) (H : Hp) (E : XK) (hr : Room 0 (A.deeper (envOfC "_law_place" (defScope s__law_place) s.heap.objs.size fa cdv))) :
    SSs (cxOf CX0 P w K mg base ["plan", "beat", "station", "ahead", "aside"] "_law_place" (defScope s__law_place) fa cdv A outer s H E).nox (defBody s__law_place) w__law_place :=
  (ss_cons (ss_set (i := 3) sc__law_place.nd (se_addG (se_mulG (se_ixG (se_ixG (se_ixG (se_ixG (se_var 0) se_int) (se_var 1)) se_int) se_int) (se_ixG (se_var 2) se_int)) (se_mulG (se_ixG (se_ixG (se_ixG (se_ixG (se_var 0) se_int) (se_var 1)) se_int) se_int) (se_ixG (se_var 2) se_int))))
  (ss_cons (ss_set (i := 4) sc__law_place.nd (se_addG (se_mulG (se_ixG (se_ixG (se_ixG (se_ixG (se_var 0) se_int) (se_var 1)) se_int) se_int) (se_ixG (se_var 2) se_int)) (se_mulG (se_ixG (se_ixG (se_ixG (se_ixG (se_var 0) se_int) (se_var 1)) se_int) se_int) (se_ixG (se_var 2) se_int))))
  (ss_one (ss_ret (se_tup (sa_cons (se_var 3) (sa_cons (se_var 4) sa_nil)))))))
theorem b__law_seen_right (T : Txt K mg) (d__law_place : Def P w K mg base 1 "_law_place" ["plan", "beat", "station"] c__law_place) (d__law_is_pair : Def P w K mg base 1 "_law_is_pair" ["told", "due"] c__law_is_pair) (d_place_at : Def P w K mg base 2 "place_at" ["plan", "beat", "station"] c_place_at) (d__law_folded : Def P w K mg base 1 "_law_folded" ["fold", "pair"] c__law_folded) (d_key_seen : Def P w K mg base 3 "key_seen" ["plan", "beat", "channel", "station", "other"] c_key_seen) (fa : Addr) (cdv : Value) (A : Around) (outer : List PySem.Env) (s : Shared) (H : Hp) (E : XK) (hr : Room 3 (A.deeper (envOfC "_law_seen_right" (defScope s__law_seen_right) s.heap.objs.size fa cdv))) :
    SSs (cxOf CX0 P w K mg base ["plan", "beat", "channel", "one", "other", "begin", "end", "there", "back"] "_law_seen_right" (defScope s__law_seen_right) fa cdv A outer s H E).nox (defBody s__law_seen_right) w__law_seen_right :=
  (ss_cons (ss_set (i := 5) sc__law_seen_right.nd (se_eqv gFn_eq (se_fn d__law_place (hr.mono (by decide)) (by rfl) (sa_cons (se_var 0) (sa_cons (se_var 1) (sa_cons (se_var 3) sa_nil))))))
  (ss_cons (ss_set (i := 6) sc__law_seen_right.nd (se_eqv gFn_eq (se_fn d__law_place (hr.mono (by decide)) (by rfl) (sa_cons (se_var 0) (sa_cons (se_var 1) (sa_cons (se_var 4) sa_nil))))))
  (ss_cons (ss_eqv gIf_eq (ss_if (st_bool (sw_eqv gOr_eq (sw_or (st_not (st_tru (se_eqv gFn_eq (se_fn d__law_is_pair (hr.mono (by decide)) (by rfl) (sa_cons (se_eqv gFn_eq (se_fn d_place_at (hr.mono (by decide)) (by rfl) (sa_cons (se_var 0) (sa_cons (se_var 1) (sa_cons (se_ixG (se_var 3) se_int) sa_nil))))) (sa_cons (se_var 5) sa_nil)))))) (sw_or1 (st_not (st_tru (se_eqv gFn_eq (se_fn d__law_is_pair (hr.mono (by decide)) (by rfl) (sa_cons (se_eqv gFn_eq (se_fn d_place_at (hr.mono (by decide)) (by rfl) (sa_cons (se_var 0) (sa_cons (se_var 1) (sa_cons (se_ixG (se_var 4) se_int) sa_nil))))) (sa_cons (se_var 6) sa_nil)))))))))) (ss_one (ss_ret se_bl)) ss_nil))
  (ss_cons (ss_set (i := 7) sc__law_seen_right.nd (se_eqv gFn_eq (se_fn d__law_folded (hr.mono (by decide)) (by rfl) (sa_cons (se_ixG (se_var 0) se_int) (sa_cons (se_tup (sa_cons (se_mulG (se_var 2) (se_sub (se_ixG (se_var 6) se_int) (se_ixG (se_var 5) se_int))) (sa_cons (se_mulG (se_var 2) (se_sub (se_ixG (se_var 6) se_int) (se_ixG (se_var 5) se_int))) sa_nil))) sa_nil)))))
  (ss_cons (ss_set (i := 8) sc__law_seen_right.nd (se_eqv gFn_eq (se_fn d__law_folded (hr.mono (by decide)) (by rfl) (sa_cons (se_ixG (se_var 0) se_int) (sa_cons (se_tup (sa_cons (se_mulG (se_var 2) (se_sub (se_ixG (se_var 5) se_int) (se_ixG (se_var 6) se_int))) (sa_cons (se_mulG (se_var 2) (se_sub (se_ixG (se_var 5) se_int) (se_ixG (se_var 6) se_int))) sa_nil))) sa_nil)))))
  (ss_cons (ss_eqv gIf_eq (ss_if (st_not (st_tru (se_eqv gFn_eq (se_fn d__law_is_pair (hr.mono (by decide)) (by rfl) (sa_cons (se_eqv gFn_eq (se_fn d_key_seen (hr.mono (by decide)) (by rfl) (sa_cons (se_var 0) (sa_cons (se_var 1) (sa_cons (se_var 2) (sa_cons (se_ixG (se_var 3) se_int) (sa_cons (se_ixG (se_var 4) se_int) sa_nil))))))) (sa_cons (se_var 7) sa_nil)))))) (ss_one (ss_ret se_bl)) ss_nil))
  (ss_one (ss_ret (se_eqv gFn_eq (se_fn d__law_is_pair (hr.mono (by decide)) (by rfl) (sa_cons (se_eqv gFn_eq (se_fn d_key_seen (hr.mono (by decide)) (by rfl) (sa_cons (se_var 0) (sa_cons (se_var 1) (sa_cons (se_var 2) (sa_cons (se_ixG (se_var 4) se_int) (sa_cons (se_ixG (se_var 3) se_int) sa_nil))))))) (sa_cons (se_var 8) sa_nil))))))))))))
theorem b_law (T : Txt K mg) (d__law_pool : Def P w K mg base 1 "_law_pool" ["script"] c__law_pool) (d__law_pick : Def P w K mg base 2 "_law_pick" ["pool", "place", "many"] c__law_pick) (d__law_take : Def P w K mg base 1 "_law_take" ["pool", "many"] c__law_take) (d__law_fold_right : Def P w K mg base 6 "_law_fold_right" ["pool", "fold", "counts"] c__law_fold_right) (d__law_plan : Def P w K mg base 4 "_law_plan" ["pool"] c__law_plan) (d__law_seen_right : Def P w K mg base 4 "_law_seen_right" ["plan", "beat", "channel", "one", "other"] c__law_seen_right) (fa : Addr) (cdv : Value) (A : Around) (outer : List PySem.Env) (s : Shared) (H : Hp) (E : XK) (hr : Room 6 (A.deeper (envOfC "law" (defScope s_law) s.heap.objs.size fa cdv))) :
    SSs (cxOf CX0 P w K mg base ["script", "pool", "folds", "lap", "counts", "fold", "plan", "bent", "turn", "beat", "channel", "one", "other"] "law" (defScope s_law) fa cdv A outer s H E).nox (defBody s_law) w_law :=
  (ss_cons (ss_set (i := 1) sc_law.nd (se_eqv gFn_eq (se_fn d__law_pool (hr.mono (by decide)) (by rfl) (sa_cons (se_var 0) sa_nil))))
  (ss_cons (ss_set (i := 2) sc_law.nd (se_new (sa_cons se_int (sa_cons (se_addG se_int (se_eqv gFn_eq (se_fn d__law_pick (hr.mono (by decide)) (by rfl) (sa_cons (se_var 1) (sa_cons se_int (sa_cons se_int sa_nil)))))) (sa_cons (se_addG se_int (se_mulG se_int (se_eqv gFn_eq (se_fn d__law_pick (hr.mono (by decide)) (by rfl) (sa_cons (se_var 1) (sa_cons se_int (sa_cons se_int sa_nil))))))) sa_nil)))))
  (ss_cons (ss_eqv gFor_eq (ss_for PassesOwn.never rfl (si_range1 (by rfl) T.f_range (sa_cons se_int sa_nil)) (sg_name sc_law.nd) (ss_one (ss_expr (se_meth md_append (pe_bm PySem.F.plainAttrs_list PySem.F.slot_list_append PySem.F.type_list_append mt_append (se_var 2) (sa_cons (se_addG se_int (se_eqv gFn_eq (se_fn d__law_pick (hr.mono (by decide)) (by rfl) (sa_cons (se_var 1) (sa_cons (se_addG se_int (se_var 3)) (sa_cons se_int sa_nil)))))) sa_nil)))))))
  (ss_cons (ss_eqv gIf_eq (ss_if (st_eq hr.units (se_eqv gFn_eq (se_fn d__law_take (hr.mono (by decide)) (by rfl) (sa_cons (se_var 1) (sa_cons se_int sa_nil)))) se_int) (ss_one (ss_set (i := 2) sc_law.nd (se_addG (se_new (sa_cons se_int sa_nil)) (se_lstRgN rfl (by rfl) T.f_list (by rfl) T.f_range (sa_cons se_int (sa_cons se_int sa_nil)))))) ss_nil))
  (sss_eqv tail_eq (ss_cons (ss_set (i := 4) sc_law.nd (se_new (sa_cons se_int (sa_cons se_int (sa_cons se_int sa_nil)))))
  (ss_cons (ss_eqv gFor_eq (ss_for PassesOwn.never rfl (si_seq (se_var 2)) (sg_name sc_law.nd) (ss_one (ss_eqv gIf_eq (ss_if (st_not (st_tru (se_eqv gFn_eq (se_fn d__law_fold_right (hr.mono (by decide)) (by rfl) (sa_cons (se_var 1) (sa_cons (se_var 5) (sa_cons (se_var 4) sa_nil))))))) (ss_one (ss_ret se_bl)) ss_nil)))))
  (sss_eqv tail_eq (ss_cons (ss_eqv gFor_eq (ss_for PassesOwn.never rfl (si_range1 (by rfl) T.f_range (sa_cons se_int sa_nil)) (sg_name sc_law.nd) (ss_cons (ss_set (i := 6) sc_law.nd (se_eqv gFn_eq (se_fn d__law_plan (hr.mono (by decide)) (by rfl) (sa_cons (se_var 1) sa_nil))))
  (ss_one (ss_eqv gFor_eq (ss_for PassesOwn.never rfl (si_seq (se_tup (sa_cons (se_ixG (se_var 6) se_int) (sa_cons (se_ixG (se_var 2) se_int) sa_nil)))) (sg_name sc_law.nd) (ss_cons (ss_set (i := 7) sc_law.nd (se_addG (se_tup (sa_cons (se_ixG (se_var 6) se_int) (sa_cons (se_var 5) sa_nil))) (se_slice (se_var 6) (so_some se_int) so_none)))
  (ss_one (ss_eqv gFor_eq (ss_for PassesOwn.never rfl (si_range1 (by rfl) T.f_range (sa_cons se_int sa_nil)) (sg_name sc_law.nd) (ss_cons (ss_set (i := 9) sc_law.nd (se_eqv gFn_eq (se_fn d__law_pick (hr.mono (by decide)) (by rfl) (sa_cons (se_var 1) (sa_cons se_int (sa_cons (se_len (by rfl) T.f_len (sa_cons (se_ixG (se_var 6) se_int) sa_nil)) sa_nil))))))
  (ss_cons (ss_set (i := 10) sc_law.nd (se_addG se_int (se_eqv gFn_eq (se_fn d__law_pick (hr.mono (by decide)) (by rfl) (sa_cons (se_var 1) (sa_cons se_int (sa_cons se_int sa_nil)))))))
  (ss_cons (ss_eqv gIf_eq (ss_if (st_gtD hr.units (se_var 8) se_int) (ss_one (ss_set (i := 10) sc_law.nd (se_ixG (se_ixG (se_var 6) se_int) (se_eqv gFn_eq (se_fn d__law_pick (hr.mono (by decide)) (by rfl) (sa_cons (se_var 1) (sa_cons se_int (sa_cons (se_len (by rfl) T.f_len (sa_cons (se_ixG (se_var 6) se_int) sa_nil)) sa_nil)))))))) ss_nil))
  (ss_cons (ss_set (i := 11) sc_law.nd (se_ixG (se_ixG (se_var 6) se_int) (se_eqv gFn_eq (se_fn d__law_take (hr.mono (by decide)) (by rfl) (sa_cons (se_var 1) (sa_cons (se_len (by rfl) T.f_len (sa_cons (se_ixG (se_var 6) se_int) sa_nil)) sa_nil))))))
  (ss_cons (ss_set (i := 12) sc_law.nd (se_ixG (se_ixG (se_var 6) se_int) (se_eqv gFn_eq (se_fn d__law_take (hr.mono (by decide)) (by rfl) (sa_cons (se_var 1) (sa_cons (se_len (by rfl) T.f_len (sa_cons (se_ixG (se_var 6) se_int) sa_nil)) sa_nil))))))
  (ss_one (ss_eqv gIf_eq (ss_if (st_not (st_tru (se_eqv gFn_eq (se_fn d__law_seen_right (hr.mono (by decide)) (by rfl) (sa_cons (se_var 7) (sa_cons (se_var 9) (sa_cons (se_var 10) (sa_cons (se_var 11) (sa_cons (se_var 12) sa_nil))))))))) (ss_one (ss_ret se_bl)) ss_nil))))))))))))))))))
  (ss_one (ss_ret (se_eqv gAndV_eq (se_and (se_gtD hr.units (se_ixG (se_var 4) se_int) se_int) (se_eqv gAndV_eq (se_and (se_gtD hr.units (se_ixG (se_var 4) se_int) se_int) (se_one (se_gtD hr.units (se_ixG (se_var 4) se_int) se_int)))))))))))))))))
end
end K15


set_option maxHeartbeats 0
/-! the head, the end -/
namespace K15
open PySem PySem.Spec PyProof.Rows L2 DL He
def dd_rest_of : He.DefD := ⟨("rest_of", none), "rest_of", "rest_of", defArgs s_rest_of, defBody s_rest_of, defScope s_rest_of, [], []⟩
def dd_folded_key : He.DefD := ⟨("folded_key", none), "folded_key", "folded_key", defArgs s_folded_key, defBody s_folded_key, defScope s_folded_key, [], []⟩
def dd_other_key : He.DefD := ⟨("other_key", none), "other_key", "other_key", defArgs s_other_key, defBody s_other_key, defScope s_other_key, [], []⟩
def dd_lead_key : He.DefD := ⟨("lead_key", none), "lead_key", "lead_key", defArgs s_lead_key, defBody s_lead_key, defScope s_lead_key, [], []⟩
def dd_is_self_key : He.DefD := ⟨("is_self_key", none), "is_self_key", "is_self_key", defArgs s_is_self_key, defBody s_is_self_key, defScope s_is_self_key, [], []⟩
def dd_place_of : He.DefD := ⟨("place_of", none), "place_of", "place_of", defArgs s_place_of, defBody s_place_of, defScope s_place_of, [], []⟩
def dd_place_at : He.DefD := ⟨("place_at", none), "place_at", "place_at", defArgs s_place_at, defBody s_place_at, defScope s_place_at, [], []⟩
def dd_key_seen : He.DefD := ⟨("key_seen", none), "key_seen", "key_seen", defArgs s_key_seen, defBody s_key_seen, defScope s_key_seen, [], []⟩
def dd__law_pool : He.DefD := ⟨("_law_pool", none), "_law_pool", "_law_pool", defArgs s__law_pool, defBody s__law_pool, defScope s__law_pool, [], []⟩
def dd__law_take : He.DefD := ⟨("_law_take", none), "_law_take", "_law_take", defArgs s__law_take, defBody s__law_take, defScope s__law_take, [], []⟩
def dd__law_pick : He.DefD := ⟨("_law_pick", none), "_law_pick", "_law_pick", defArgs s__law_pick, defBody s__law_pick, defScope s__law_pick, [], []⟩
def dd__law_near : He.DefD := ⟨("_law_near", none), "_law_near", "_law_near", defArgs s__law_near, defBody s__law_near, defScope s__law_near, [], []⟩
def dd__law_integer : He.DefD := ⟨("_law_integer", none), "_law_integer", "_law_integer", defArgs s__law_integer, defBody s__law_integer, defScope s__law_integer, [], []⟩
def dd__law_folded : He.DefD := ⟨("_law_folded", none), "_law_folded", "_law_folded", defArgs s__law_folded, defBody s__law_folded, defScope s__law_folded, [], []⟩
def dd__law_is_pair : He.DefD := ⟨("_law_is_pair", none), "_law_is_pair", "_law_is_pair", defArgs s__law_is_pair, defBody s__law_is_pair, defScope s__law_is_pair, [], []⟩
def dd__law_key_right : He.DefD := ⟨("_law_key_right", none), "_law_key_right", "_law_key_right", defArgs s__law_key_right, defBody s__law_key_right, defScope s__law_key_right, [], []⟩
def dd__law_fold_right : He.DefD := ⟨("_law_fold_right", none), "_law_fold_right", "_law_fold_right", defArgs s__law_fold_right, defBody s__law_fold_right, defScope s__law_fold_right, [], []⟩
def dd__law_plan : He.DefD := ⟨("_law_plan", none), "_law_plan", "_law_plan", defArgs s__law_plan, defBody s__law_plan, defScope s__law_plan, [], []⟩
def dd__law_place : He.DefD := ⟨("_law_place", none), "_law_place", "_law_place", defArgs s__law_place, defBody s__law_place, defScope s__law_place, [], []⟩
def dd__law_seen_right : He.DefD := ⟨("_law_seen_right", none), "_law_seen_right", "_law_seen_right", defArgs s__law_seen_right, defBody s__law_seen_right, defScope s__law_seen_right, [], []⟩
def dd_law : He.DefD := ⟨("law", none), "law", "law", defArgs s_law, defBody s_law, defScope s_law, [], []⟩
def fn : List He.DefD := [dd_rest_of, dd_folded_key, dd_other_key, dd_lead_key, dd_is_self_key, dd_place_of, dd_place_at, dd_key_seen, dd__law_pool, dd__law_take, dd__law_pick, dd__law_near, dd__law_integer, dd__law_folded, dd__law_is_pair, dd__law_key_right, dd__law_fold_right, dd__law_plan, dd__law_place, dd__law_seen_right, dd_law]
def fa : Facts := [gloB "rest_of", gloB "folded_key", gloB "other_key", gloB "lead_key", gloB "is_self_key", gloB "place_of", gloB "place_at", gloB "key_seen", gloB "_law_pool", gloB "_law_take", gloB "_law_pick", gloB "_law_near", gloB "_law_integer", gloB "_law_folded", gloB "_law_is_pair", gloB "_law_key_right", gloB "_law_fold_right", gloB "_law_plan", gloB "_law_place", gloB "_law_seen_right", gloB "law", freB "abs", freB "bool", freB "enumerate", freB "int", freB "isinstance", freB "len", freB "list", freB "range", freB "set", freB "sorted", freB "tuple"]
abbrev R : PySem.W.OpenRow := PySem.W.OpenLaw.row PySem.Challenge.rw_everygain_k15_keys_and_places
abbrev hk : PySem.W.Hook := hookX 4 fa fn
def ob (s : PySem.W.SharedT) : He.AlD := obsXG 4 fa fn (HandSHeadRun.getT s)
theorem ob_eq (s : PySem.W.SharedT) : ob s = hk.obs s.abs := obsXG_eq (HandSHeadRun.getT_eq s)
def loose : List Str := ["rest_of", "folded_key", "other_key", "lead_key", "is_self_key", "place_at", "place_of", "key_seen", "_law_pool", "_law_take", "_law_pick", "_law_near", "_law_integer", "_law_folded", "_law_is_pair", "_law_key_right", "_law_fold_right", "_law_plan", "_law_place", "_law_seen_right"]
theorem run (w : World) : HandSHeadRun.RunEq R (PySem.W.view R.prog [23]) hk ob 4000 loose w := by
  intro os
  kernel_rfl
theorem facts {P : Program} {w : World} {K : PySem.W.Frag} {h : Heap} {mg : Str → Option Value} {f : Addr} (X : K.In h) (G : h.Ns mainGlobals mg) (hfa : mg ("law" : Str) = some (.ref f)) (c : SaysX fa fn K) :
    ∃ fd : FuncData, (∀ (s : Shared) (v : Value), BindsTo s fd ⟨[v], []⟩ [("script", v)]) ∧ ∀ base : Heap, K.In base → base.Ns mainGlobals mg → FnD P w K mg base 7 f fd ["script"] c_law := by
  obtain ⟨fd_rest_of, F_rest_of⟩ := c.def_ 0 (d := dd_rest_of) rfl
  obtain ⟨fd_folded_key, F_folded_key⟩ := c.def_ 1 (d := dd_folded_key) rfl
  obtain ⟨fd_other_key, F_other_key⟩ := c.def_ 2 (d := dd_other_key) rfl
  obtain ⟨fd_lead_key, F_lead_key⟩ := c.def_ 3 (d := dd_lead_key) rfl
  obtain ⟨fd_is_self_key, F_is_self_key⟩ := c.def_ 4 (d := dd_is_self_key) rfl
  obtain ⟨fd_place_of, F_place_of⟩ := c.def_ 5 (d := dd_place_of) rfl
  obtain ⟨fd_place_at, F_place_at⟩ := c.def_ 6 (d := dd_place_at) rfl
  obtain ⟨fd_key_seen, F_key_seen⟩ := c.def_ 7 (d := dd_key_seen) rfl
  obtain ⟨fd__law_pool, F__law_pool⟩ := c.def_ 8 (d := dd__law_pool) rfl
  obtain ⟨fd__law_take, F__law_take⟩ := c.def_ 9 (d := dd__law_take) rfl
  obtain ⟨fd__law_pick, F__law_pick⟩ := c.def_ 10 (d := dd__law_pick) rfl
  obtain ⟨fd__law_near, F__law_near⟩ := c.def_ 11 (d := dd__law_near) rfl
  obtain ⟨fd__law_integer, F__law_integer⟩ := c.def_ 12 (d := dd__law_integer) rfl
  obtain ⟨fd__law_folded, F__law_folded⟩ := c.def_ 13 (d := dd__law_folded) rfl
  obtain ⟨fd__law_is_pair, F__law_is_pair⟩ := c.def_ 14 (d := dd__law_is_pair) rfl
  obtain ⟨fd__law_key_right, F__law_key_right⟩ := c.def_ 15 (d := dd__law_key_right) rfl
  obtain ⟨fd__law_fold_right, F__law_fold_right⟩ := c.def_ 16 (d := dd__law_fold_right) rfl
  obtain ⟨fd__law_plan, F__law_plan⟩ := c.def_ 17 (d := dd__law_plan) rfl
  obtain ⟨fd__law_place, F__law_place⟩ := c.def_ 18 (d := dd__law_place) rfl
  obtain ⟨fd__law_seen_right, F__law_seen_right⟩ := c.def_ 19 (d := dd__law_seen_right) rfl
  obtain ⟨fd_law, F_law⟩ := c.def_ 20 (d := dd_law) rfl
  have T : Txt K mg := ⟨freB_ok X G (c.fact 21 (f := freB "abs") rfl), freB_ok X G (c.fact 22 (f := freB "bool") rfl), freB_ok X G (c.fact 23 (f := freB "enumerate") rfl), freB_ok X G (c.fact 24 (f := freB "int") rfl), freB_ok X G (c.fact 25 (f := freB "isinstance") rfl), freB_ok X G (c.fact 26 (f := freB "len") rfl), freB_ok X G (c.fact 27 (f := freB "list") rfl), freB_ok X G (c.fact 28 (f := freB "range") rfl), freB_ok X G (c.fact 29 (f := freB "set") rfl), freB_ok X G (c.fact 30 (f := freB "sorted") rfl), freB_ok X G (c.fact 31 (f := freB "tuple") rfl)⟩
  have g_rest_of := gloB_ok X G (c.fact 0 (f := gloB "rest_of") rfl)
  have g_folded_key := gloB_ok X G (c.fact 1 (f := gloB "folded_key") rfl)
  have g_other_key := gloB_ok X G (c.fact 2 (f := gloB "other_key") rfl)
  have g_lead_key := gloB_ok X G (c.fact 3 (f := gloB "lead_key") rfl)
  have g_is_self_key := gloB_ok X G (c.fact 4 (f := gloB "is_self_key") rfl)
  have g_place_of := gloB_ok X G (c.fact 5 (f := gloB "place_of") rfl)
  have g_place_at := gloB_ok X G (c.fact 6 (f := gloB "place_at") rfl)
  have g_key_seen := gloB_ok X G (c.fact 7 (f := gloB "key_seen") rfl)
  have g__law_pool := gloB_ok X G (c.fact 8 (f := gloB "_law_pool") rfl)
  have g__law_take := gloB_ok X G (c.fact 9 (f := gloB "_law_take") rfl)
  have g__law_pick := gloB_ok X G (c.fact 10 (f := gloB "_law_pick") rfl)
  have g__law_near := gloB_ok X G (c.fact 11 (f := gloB "_law_near") rfl)
  have g__law_integer := gloB_ok X G (c.fact 12 (f := gloB "_law_integer") rfl)
  have g__law_folded := gloB_ok X G (c.fact 13 (f := gloB "_law_folded") rfl)
  have g__law_is_pair := gloB_ok X G (c.fact 14 (f := gloB "_law_is_pair") rfl)
  have g__law_key_right := gloB_ok X G (c.fact 15 (f := gloB "_law_key_right") rfl)
  have g__law_fold_right := gloB_ok X G (c.fact 16 (f := gloB "_law_fold_right") rfl)
  have g__law_plan := gloB_ok X G (c.fact 17 (f := gloB "_law_plan") rfl)
  have g__law_place := gloB_ok X G (c.fact 18 (f := gloB "_law_place") rfl)
  have g__law_seen_right := gloB_ok X G (c.fact 19 (f := gloB "_law_seen_right") rfl)
  have g_law := gloB_ok X G (c.fact 20 (f := gloB "law") rfl)
  have e := hfa.symm.trans g_law
  cases e
  have n_rest_of : Binds K fd_rest_of ["integer", "modulus"] [] := FunD.bindsN F_rest_of fun _ _ _ _ _ _ us hl => match us, hl with | [_, _], _ => rfl
  have n_folded_key : Binds K fd_folded_key ["fold", "pair"] [] := FunD.bindsN F_folded_key fun _ _ _ _ _ _ us hl => match us, hl with | [_, _], _ => rfl
  have n_other_key : Binds K fd_other_key ["fold", "key"] [] := FunD.bindsN F_other_key fun _ _ _ _ _ _ us hl => match us, hl with | [_, _], _ => rfl
  have n_lead_key : Binds K fd_lead_key ["fold", "key"] [] := FunD.bindsN F_lead_key fun _ _ _ _ _ _ us hl => match us, hl with | [_, _], _ => rfl
  have n_is_self_key : Binds K fd_is_self_key ["fold", "key"] [] := FunD.bindsN F_is_self_key fun _ _ _ _ _ _ us hl => match us, hl with | [_, _], _ => rfl
  have n_place_of : Binds K fd_place_of ["plan", "station"] [] := FunD.bindsN F_place_of fun _ _ _ _ _ _ us hl => match us, hl with | [_, _], _ => rfl
  have n_place_at : Binds K fd_place_at ["plan", "beat", "station"] [] := FunD.bindsN F_place_at fun _ _ _ _ _ _ us hl => match us, hl with | [_, _, _], _ => rfl
  have n_key_seen : Binds K fd_key_seen ["plan", "beat", "channel", "station", "other"] [] := FunD.bindsN F_key_seen fun _ _ _ _ _ _ us hl => match us, hl with | [_, _, _, _, _], _ => rfl
  have n__law_pool : Binds K fd__law_pool ["script"] [] := FunD.bindsN F__law_pool fun _ _ _ _ _ _ us hl => match us, hl with | [_], _ => rfl
  have n__law_take : Binds K fd__law_take ["pool", "many"] [] := FunD.bindsN F__law_take fun _ _ _ _ _ _ us hl => match us, hl with | [_, _], _ => rfl
  have n__law_pick : Binds K fd__law_pick ["pool", "place", "many"] [] := FunD.bindsN F__law_pick fun _ _ _ _ _ _ us hl => match us, hl with | [_, _, _], _ => rfl
  have n__law_near : Binds K fd__law_near ["pool", "place", "bound"] [] := FunD.bindsN F__law_near fun _ _ _ _ _ _ us hl => match us, hl with | [_, _, _], _ => rfl
  have n__law_integer : Binds K fd__law_integer ["pool", "place", "fold"] [] := FunD.bindsN F__law_integer fun _ _ _ _ _ _ us hl => match us, hl with | [_, _, _], _ => rfl
  have n__law_folded : Binds K fd__law_folded ["fold", "pair"] [] := FunD.bindsN F__law_folded fun _ _ _ _ _ _ us hl => match us, hl with | [_, _], _ => rfl
  have n__law_is_pair : Binds K fd__law_is_pair ["told", "due"] [] := FunD.bindsN F__law_is_pair fun _ _ _ _ _ _ us hl => match us, hl with | [_, _], _ => rfl
  have n__law_key_right : Binds K fd__law_key_right ["fold", "key", "counts"] [] := FunD.bindsN F__law_key_right fun _ _ _ _ _ _ us hl => match us, hl with | [_, _, _], _ => rfl
  have n__law_fold_right : Binds K fd__law_fold_right ["pool", "fold", "counts"] [] := FunD.bindsN F__law_fold_right fun _ _ _ _ _ _ us hl => match us, hl with | [_, _, _], _ => rfl
  have n__law_plan : Binds K fd__law_plan ["pool"] [] := FunD.bindsN F__law_plan fun _ _ _ _ _ _ us hl => match us, hl with | [_], _ => rfl
  have n__law_place : Binds K fd__law_place ["plan", "beat", "station"] [] := FunD.bindsN F__law_place fun _ _ _ _ _ _ us hl => match us, hl with | [_, _, _], _ => rfl
  have n__law_seen_right : Binds K fd__law_seen_right ["plan", "beat", "channel", "one", "other"] [] := FunD.bindsN F__law_seen_right fun _ _ _ _ _ _ us hl => match us, hl with | [_, _, _, _, _], _ => rfl
  have n_law : Binds K fd_law ["script"] [] := FunD.bindsN F_law fun _ _ _ _ _ _ us hl => match us, hl with | [_], _ => rfl
  have bL := FunD.bindsA (ps := ["script"]) F_law fun _ _ _ _ _ _ us hl => match us, hl with | [_], _ => rfl
  refine ⟨fd_law, fun s v => bL s [v] rfl, fun base _ _ => ?_⟩
  have d_rest_of : Def P w K mg base 1 "rest_of" ["integer", "modulus"] c_rest_of := ⟨_, _, fn_okF F_rest_of sc_rest_of (fun cdv A outer s H E hr => b_rest_of T  _ cdv A outer s H E hr) v_rest_of, g_rest_of, F_rest_of.kp, n_rest_of⟩
  have d_folded_key : Def P w K mg base 2 "folded_key" ["fold", "pair"] c_folded_key := ⟨_, _, fn_okF F_folded_key sc_folded_key (fun cdv A outer s H E hr => b_folded_key T d_rest_of _ cdv A outer s H E hr) v_folded_key, g_folded_key, F_folded_key.kp, n_folded_key⟩
  have d_other_key : Def P w K mg base 3 "other_key" ["fold", "key"] c_other_key := ⟨_, _, fn_okF F_other_key sc_other_key (fun cdv A outer s H E hr => b_other_key T d_folded_key _ cdv A outer s H E hr) v_other_key, g_other_key, F_other_key.kp, n_other_key⟩
  have d_lead_key : Def P w K mg base 4 "lead_key" ["fold", "key"] c_lead_key := ⟨_, _, fn_okF F_lead_key sc_lead_key (fun cdv A outer s H E hr => b_lead_key T d_other_key _ cdv A outer s H E hr) v_lead_key, g_lead_key, F_lead_key.kp, n_lead_key⟩
  have d_is_self_key : Def P w K mg base 4 "is_self_key" ["fold", "key"] c_is_self_key := ⟨_, _, fn_okF F_is_self_key sc_is_self_key (fun cdv A outer s H E hr => b_is_self_key T d_other_key _ cdv A outer s H E hr) v_is_self_key, g_is_self_key, F_is_self_key.kp, n_is_self_key⟩
  have d_place_of : Def P w K mg base 1 "place_of" ["plan", "station"] c_place_of := ⟨_, _, fn_okF F_place_of sc_place_of (fun cdv A outer s H E hr => b_place_of T  _ cdv A outer s H E hr) v_place_of, g_place_of, F_place_of.kp, n_place_of⟩
  have d_place_at : Def P w K mg base 2 "place_at" ["plan", "beat", "station"] c_place_at := ⟨_, _, fn_okF F_place_at sc_place_at (fun cdv A outer s H E hr => b_place_at T d_place_of _ cdv A outer s H E hr) v_place_at, g_place_at, F_place_at.kp, n_place_at⟩
  have d_key_seen : Def P w K mg base 3 "key_seen" ["plan", "beat", "channel", "station", "other"] c_key_seen := ⟨_, _, fn_okF F_key_seen sc_key_seen (fun cdv A outer s H E hr => b_key_seen T d_place_at d_folded_key _ cdv A outer s H E hr) v_key_seen, g_key_seen, F_key_seen.kp, n_key_seen⟩
  have d__law_pool : Def P w K mg base 1 "_law_pool" ["script"] c__law_pool := ⟨_, _, fn_okF F__law_pool sc__law_pool (fun cdv A outer s H E hr => b__law_pool T  _ cdv A outer s H E hr) v__law_pool, g__law_pool, F__law_pool.kp, n__law_pool⟩
  have d__law_take : Def P w K mg base 1 "_law_take" ["pool", "many"] c__law_take := ⟨_, _, fn_okF F__law_take sc__law_take (fun cdv A outer s H E hr => b__law_take T  _ cdv A outer s H E hr) v__law_take, g__law_take, F__law_take.kp, n__law_take⟩
  have d__law_pick : Def P w K mg base 2 "_law_pick" ["pool", "place", "many"] c__law_pick := ⟨_, _, fn_okF F__law_pick sc__law_pick (fun cdv A outer s H E hr => b__law_pick T d__law_take _ cdv A outer s H E hr) v__law_pick, g__law_pick, F__law_pick.kp, n__law_pick⟩
  have d__law_near : Def P w K mg base 3 "_law_near" ["pool", "place", "bound"] c__law_near := ⟨_, _, fn_okF F__law_near sc__law_near (fun cdv A outer s H E hr => b__law_near T d__law_pick _ cdv A outer s H E hr) v__law_near, g__law_near, F__law_near.kp, n__law_near⟩
  have d__law_integer : Def P w K mg base 4 "_law_integer" ["pool", "place", "fold"] c__law_integer := ⟨_, _, fn_okF F__law_integer sc__law_integer (fun cdv A outer s H E hr => b__law_integer T d__law_pick d__law_near _ cdv A outer s H E hr) v__law_integer, g__law_integer, F__law_integer.kp, n__law_integer⟩
  have d__law_folded : Def P w K mg base 1 "_law_folded" ["fold", "pair"] c__law_folded := ⟨_, _, fn_okF F__law_folded sc__law_folded (fun cdv A outer s H E hr => b__law_folded T  _ cdv A outer s H E hr) v__law_folded, g__law_folded, F__law_folded.kp, n__law_folded⟩
  have d__law_is_pair : Def P w K mg base 1 "_law_is_pair" ["told", "due"] c__law_is_pair := ⟨_, _, fn_okF F__law_is_pair sc__law_is_pair (fun cdv A outer s H E hr => b__law_is_pair T  _ cdv A outer s H E hr) v__law_is_pair, g__law_is_pair, F__law_is_pair.kp, n__law_is_pair⟩
  have d__law_key_right : Def P w K mg base 5 "_law_key_right" ["fold", "key", "counts"] c__law_key_right := ⟨_, _, fn_okF F__law_key_right sc__law_key_right (fun cdv A outer s H E hr => b__law_key_right T d__law_folded d__law_is_pair d_folded_key d_other_key d_lead_key d_is_self_key _ cdv A outer s H E hr) v__law_key_right, g__law_key_right, F__law_key_right.kp, n__law_key_right⟩
  have d__law_fold_right : Def P w K mg base 6 "_law_fold_right" ["pool", "fold", "counts"] c__law_fold_right := ⟨_, _, fn_okF F__law_fold_right sc__law_fold_right (fun cdv A outer s H E hr => b__law_fold_right T d__law_integer d__law_folded d__law_is_pair d_folded_key d__law_key_right _ cdv A outer s H E hr) v__law_fold_right, g__law_fold_right, F__law_fold_right.kp, n__law_fold_right⟩
  have d__law_plan : Def P w K mg base 4 "_law_plan" ["pool"] c__law_plan := ⟨_, _, fn_okF F__law_plan sc__law_plan (fun cdv A outer s H E hr => b__law_plan T d__law_pick d__law_take d__law_near _ cdv A outer s H E hr) v__law_plan, g__law_plan, F__law_plan.kp, n__law_plan⟩
  have d__law_place : Def P w K mg base 1 "_law_place" ["plan", "beat", "station"] c__law_place := ⟨_, _, fn_okF F__law_place sc__law_place (fun cdv A outer s H E hr => b__law_place T  _ cdv A outer s H E hr) v__law_place, g__law_place, F__law_place.kp, n__law_place⟩
  have d__law_seen_right : Def P w K mg base 4 "_law_seen_right" ["plan", "beat", "channel", "one", "other"] c__law_seen_right := ⟨_, _, fn_okF F__law_seen_right sc__law_seen_right (fun cdv A outer s H E hr => b__law_seen_right T d__law_place d__law_is_pair d_place_at d__law_folded d_key_seen _ cdv A outer s H E hr) v__law_seen_right, g__law_seen_right, F__law_seen_right.kp, n__law_seen_right⟩
  exact fn_okF F_law sc_law (fun cdv A outer s H E hr => b_law T d__law_pool d__law_pick d__law_take d__law_fold_right d__law_plan d__law_seen_right _ cdv A outer s H E hr) v_law
end K15
open PySem PySem.W PySem.Calls PyProof.Rows
theorem PySem.Challenge.cw_everygain_k15_keys_and_places_holds : PySem.Challenge.rw_everygain_k15_keys_and_places.Holds := by
  w_on; o_law
  refine HandSHeadRun.head_any (r := OpenLaw.row PySem.Challenge.rw_everygain_k15_keys_and_places) (q := view (OpenLaw.row PySem.Challenge.rw_everygain_k15_keys_and_places).prog [23]) (H := K15.hk) (ob := K15.ob) (M := 4000) (loose := K15.loose) (d := HandSHeadRun.topDef (OpenLaw.row PySem.Challenge.rw_everygain_k15_keys_and_places).prog 23) (kwd := []) K15.ob_eq
    (by kernel_rfl) (fun s => by kernel_rfl) K15.run (by kernel_rfl) (by kernel_rfl) (by kernel_rfl) (by rfl) (by first | assumption | decide +kernel) (by decide +kernel) ⟨rfl, rfl, rfl, rfl, rfl, by decide +kernel⟩ ?hw ?hc
  case hw => w_witness2
  case hc =>
    refine L2.walk_ofE (l := PySem.Challenge.rw_everygain_k15_keys_and_places) (n := 63) (k := 7) (x := "script") (CX := L2.CX0) rfl (by decide) (by kernel_rfl) ⟨rfl, by decide, by decide⟩ ?F (fun _ _ _ _ z => z)
    intro w mg fa h Y G hmg0
    obtain ⟨K, KX, c⟩ := Y
    have hmg : mg ("law" : PySem.Str) = some (.ref fa) := by
      have e : (HandSHeadRun.topDef (OpenLaw.row PySem.Challenge.rw_everygain_k15_keys_and_places).prog 23).name = ("law" : PySem.Str) := by kernel_rfl
      rw [← e]
      exact hmg0
    obtain ⟨fd, hb, hF⟩ := K15.facts (P := (PySem.Challenge.rw_everygain_k15_keys_and_places).prog) (w := w) KX G hmg c
    exact ⟨K, fd, DL.SpD K 1 K15.c_law, KX, hb, fun H a ns hl _ hS => DL.law_sp (np := 1) (E := fun _ _ _ => False) (K15.law_in hl) hS, hF⟩

